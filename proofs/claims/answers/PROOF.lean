import PyProof.Rows.All
import Wide.All
import OpenK.AllK
import Wide.FinOn
import PyProof.EqAt
import PyProof.EqKinds
import PyProof.TupleCall
import Open.SpecLaws
import KE.OsGo
import HandS.ForSpec
import HandS.ForMost
import HandS.Style
import HandS.Conv
import HandS.SortInts
import HandS.Strs
import HandS.Zip
import HandS.Small
import HandS.Deep
import HandS.NoneIn
import KE.GoesRaise
import KE.GoesEnum
import KE.OsRun
import HandS.HotCalls
import HandS.ExcSuper
import KE.GoesNew
import PySem.Challenge.RW_groupmem_s01_answers
set_option Elab.async false
set_option linter.all false
section
set_option maxRecDepth 100000
set_option maxHeartbeats 8000000
/-! # The text: each def by its place, its names by slot (printed by gen_text.py) -/
namespace Gm
open PySem PySem.Spec PyProof.Rows L2
def top (i : Nat) : Stmt := PySem.Challenge.pw_groupmem_s01_answers.main.body.getD i (.Pass ⟨0, 0, 0, 0⟩)
abbrev s_Refused_init : Stmt := inClass (top 3) 0
abbrev N_Refused_init : List Str := ["self", "code", "message"]
theorem sc_Refused_init : FnScope N_Refused_init ["self", "code", "message"] (defScope s_Refused_init) := ⟨rfl, rfl, rfl, by decide +kernel, rfl, by decide +kernel, by decide +kernel⟩
abbrev s_need_kind : Stmt := top 5
abbrev N_need_kind : List Str := ["truth", "message"]
theorem sc_need_kind : FnScope N_need_kind ["truth", "message"] (defScope s_need_kind) := ⟨rfl, rfl, rfl, by decide +kernel, rfl, by decide +kernel, by decide +kernel⟩
abbrev s_need_range : Stmt := top 6
abbrev N_need_range : List Str := ["truth", "message"]
theorem sc_need_range : FnScope N_need_range ["truth", "message"] (defScope s_need_range) := ⟨rfl, rfl, rfl, by decide +kernel, rfl, by decide +kernel, by decide +kernel⟩
abbrev s_need_readable : Stmt := top 7
abbrev N_need_readable : List Str := ["truth"]
theorem sc_need_readable : FnScope N_need_readable ["truth"] (defScope s_need_readable) := ⟨rfl, rfl, rfl, by decide +kernel, rfl, by decide +kernel, by decide +kernel⟩
abbrev s_Limits_init : Stmt := inClass (top 16) 0
abbrev N_Limits_init : List Str := ["self", "most", "least", "low"]
theorem sc_Limits_init : FnScope N_Limits_init ["self", "most", "least", "low"] (defScope s_Limits_init) := ⟨rfl, rfl, rfl, by decide +kernel, rfl, by decide +kernel, by decide +kernel⟩
abbrev s_Group_init : Stmt := inClass (top 17) 0
abbrev N_Group_init : List Str := ["self", "parent", "limits"]
theorem sc_Group_init : FnScope N_Group_init ["self", "parent", "limits"] (defScope s_Group_init) := ⟨rfl, rfl, rfl, by decide +kernel, rfl, by decide +kernel, by decide +kernel⟩
abbrev s_Page_init : Stmt := inClass (top 18) 0
abbrev N_Page_init : List Str := ["self", "number", "group", "state"]
theorem sc_Page_init : FnScope N_Page_init ["self", "number", "group", "state"] (defScope s_Page_init) := ⟨rfl, rfl, rfl, by decide +kernel, rfl, by decide +kernel, by decide +kernel⟩
abbrev s_share_out : Stmt := top 19
abbrev N_share_out : List Str := ["pages", "claims", "total", "claim", "found", "left", "at"]
theorem sc_share_out : FnScope N_share_out ["pages", "claims"] (defScope s_share_out) := ⟨rfl, rfl, rfl, by decide +kernel, rfl, by decide +kernel, by decide +kernel⟩
abbrev s_Memory_init : Stmt := inClass (top 20) 0
abbrev N_Memory_init : List Str := ["self", "limits"]
theorem sc_Memory_init : FnScope N_Memory_init ["self", "limits"] (defScope s_Memory_init) := ⟨rfl, rfl, rfl, by decide +kernel, rfl, by decide +kernel, by decide +kernel⟩
abbrev s_Memory_need_group : Stmt := inClass (top 20) 1
abbrev N_Memory_need_group : List Str := ["self", "number"]
theorem sc_Memory_need_group : FnScope N_Memory_need_group ["self", "number"] (defScope s_Memory_need_group) := ⟨rfl, rfl, rfl, by decide +kernel, rfl, by decide +kernel, by decide +kernel⟩
abbrev s_Memory_kids : Stmt := inClass (top 20) 2
abbrev N_Memory_kids : List Str := ["self", "number", "one"]
theorem sc_Memory_kids : FnScope N_Memory_kids ["self", "number"] (defScope s_Memory_kids) := ⟨rfl, rfl, rfl, by decide +kernel, rfl, by decide +kernel, by decide +kernel⟩
abbrev s_Memory_above : Stmt := inClass (top 20) 3
abbrev N_Memory_above : List Str := ["self", "number", "found"]
theorem sc_Memory_above : FnScope N_Memory_above ["self", "number"] (defScope s_Memory_above) := ⟨rfl, rfl, rfl, by decide +kernel, rfl, by decide +kernel, by decide +kernel⟩
abbrev s_Memory_usages : Stmt := inClass (top 20) 4
abbrev N_Memory_usages : List Str := ["self", "number", "found", "ways", "page"]
theorem sc_Memory_usages : FnScope N_Memory_usages ["self"] (defScope s_Memory_usages) := ⟨rfl, rfl, rfl, by decide +kernel, rfl, by decide +kernel, by decide +kernel⟩
abbrev s_Memory_has_pages : Stmt := inClass (top 20) 5
abbrev N_Memory_has_pages : List Str := ["self", "number", "page"]
theorem sc_Memory_has_pages : FnScope N_Memory_has_pages ["self", "number"] (defScope s_Memory_has_pages) := ⟨rfl, rfl, rfl, by decide +kernel, rfl, by decide +kernel, by decide +kernel⟩
abbrev s_Memory_asked : Stmt := inClass (top 20) 6
abbrev N_Memory_asked : List Str := ["self", "number", "is_second", "limits"]
theorem sc_Memory_asked : FnScope N_Memory_asked ["self", "number", "is_second"] (defScope s_Memory_asked) := ⟨rfl, rfl, rfl, by decide +kernel, rfl, by decide +kernel, by decide +kernel⟩
abbrev s_Memory_handed_down : Stmt := inClass (top 20) 7
abbrev N_Memory_handed_down : List Str := ["self", "is_second", "usages", "found", "stack", "number", "kids", "kid", "claims", "first", "rest", "second", "one", "other", "claim"]
theorem sc_Memory_handed_down : FnScope N_Memory_handed_down ["self", "is_second"] (defScope s_Memory_handed_down) := ⟨rfl, rfl, rfl, by decide +kernel, rfl, by decide +kernel, by decide +kernel⟩
abbrev s_Memory_hard : Stmt := inClass (top 20) 8
abbrev N_Memory_hard : List Str := ["self"]
theorem sc_Memory_hard : FnScope N_Memory_hard ["self"] (defScope s_Memory_hard) := ⟨rfl, rfl, rfl, by decide +kernel, rfl, by decide +kernel, by decide +kernel⟩
abbrev s_Memory_soft : Stmt := inClass (top 20) 9
abbrev N_Memory_soft : List Str := ["self", "hard", "second", "number"]
theorem sc_Memory_soft : FnScope N_Memory_soft ["self"] (defScope s_Memory_soft) := ⟨rfl, rfl, rfl, by decide +kernel, rfl, by decide +kernel, by decide +kernel⟩
abbrev s_Memory_may_be_taken : Stmt := inClass (top 20) 10
abbrev N_Memory_may_be_taken : List Str := ["self", "protections", "usages", "left", "number", "found", "page"]
theorem sc_Memory_may_be_taken : FnScope N_Memory_may_be_taken ["self", "protections"] (defScope s_Memory_may_be_taken) := ⟨rfl, rfl, rfl, by decide +kernel, rfl, by decide +kernel, by decide +kernel⟩
abbrev s_Memory_choice : Stmt := inClass (top 20) 11
abbrev N_Memory_choice : List Str := ["self", "needs", "found"]
theorem sc_Memory_choice : FnScope N_Memory_choice ["self", "needs"] (defScope s_Memory_choice) := ⟨rfl, rfl, rfl, by decide +kernel, rfl, by decide +kernel, by decide +kernel⟩
abbrev s_Memory_chosen : Stmt := inClass (top 20) 12
abbrev N_Memory_chosen : List Str := ["self", "pages", "needs", "number", "counts", "ways", "page", "found"]
theorem sc_Memory_chosen : FnScope N_Memory_chosen ["self", "pages", "needs"] (defScope s_Memory_chosen) := ⟨rfl, rfl, rfl, by decide +kernel, rfl, by decide +kernel, by decide +kernel⟩
abbrev s_Memory_take : Stmt := inClass (top 20) 13
abbrev N_Memory_take : List Str := ["self", "pages", "gone", "page"]
theorem sc_Memory_take : FnScope N_Memory_take ["self", "pages"] (defScope s_Memory_take) := ⟨rfl, rfl, rfl, by decide +kernel, rfl, by decide +kernel, by decide +kernel⟩
abbrev s_Memory_needs_of : Stmt := inClass (top 20) 14
abbrev N_Memory_needs_of : List Str := ["self", "number", "count", "usages", "found", "one"]
theorem sc_Memory_needs_of : FnScope N_Memory_needs_of ["self", "number", "count"] (defScope s_Memory_needs_of) := ⟨rfl, rfl, rfl, by decide +kernel, rfl, by decide +kernel, by decide +kernel⟩
abbrev s_Memory_add_group : Stmt := inClass (top 20) 15
abbrev N_Memory_add_group : List Str := ["self", "parent", "limits"]
theorem sc_Memory_add_group : FnScope N_Memory_add_group ["self", "parent", "limits"] (defScope s_Memory_add_group) := ⟨rfl, rfl, rfl, by decide +kernel, rfl, by decide +kernel, by decide +kernel⟩
abbrev s_Memory_new_limits : Stmt := inClass (top 20) 16
abbrev N_Memory_new_limits : List Str := ["self", "number", "limits", "usage"]
theorem sc_Memory_new_limits : FnScope N_Memory_new_limits ["self", "number", "limits"] (defScope s_Memory_new_limits) := ⟨rfl, rfl, rfl, by decide +kernel, rfl, by decide +kernel, by decide +kernel⟩
abbrev s_Memory_remove : Stmt := inClass (top 20) 17
abbrev N_Memory_remove : List Str := ["self", "number"]
theorem sc_Memory_remove : FnScope N_Memory_remove ["self", "number"] (defScope s_Memory_remove) := ⟨rfl, rfl, rfl, by decide +kernel, rfl, by decide +kernel, by decide +kernel⟩
abbrev s_Memory_move : Stmt := inClass (top 20) 18
abbrev N_Memory_move : List Str := ["self", "number", "parent", "before", "usages", "is_within", "one"]
theorem sc_Memory_move : FnScope N_Memory_move ["self", "number", "parent"] (defScope s_Memory_move) := ⟨rfl, rfl, rfl, by decide +kernel, rfl, by decide +kernel, by decide +kernel⟩
abbrev s_Memory_alloc : Stmt := inClass (top 20) 19
abbrev N_Memory_alloc : List Str := ["self", "number", "count", "first", "at"]
theorem sc_Memory_alloc : FnScope N_Memory_alloc ["self", "number", "count"] (defScope s_Memory_alloc) := ⟨rfl, rfl, rfl, by decide +kernel, rfl, by decide +kernel, by decide +kernel⟩
abbrev s_Memory_get_page : Stmt := inClass (top 20) 20
abbrev N_Memory_get_page : List Str := ["self", "number", "rows", "page"]
theorem sc_Memory_get_page : FnScope N_Memory_get_page ["self", "number"] (defScope s_Memory_get_page) := ⟨rfl, rfl, rfl, by decide +kernel, rfl, by decide +kernel, by decide +kernel⟩
abbrev s_Memory_free : Stmt := inClass (top 20) 21
abbrev N_Memory_free : List Str := ["self", "number", "page", "one"]
theorem sc_Memory_free : FnScope N_Memory_free ["self", "number"] (defScope s_Memory_free) := ⟨rfl, rfl, rfl, by decide +kernel, rfl, by decide +kernel, by decide +kernel⟩
abbrev s_Memory_touch : Stmt := inClass (top 20) 22
abbrev N_Memory_touch : List Str := ["self", "number", "page"]
theorem sc_Memory_touch : FnScope N_Memory_touch ["self", "number"] (defScope s_Memory_touch) := ⟨rfl, rfl, rfl, by decide +kernel, rfl, by decide +kernel, by decide +kernel⟩
abbrev s_Memory_get_below : Stmt := inClass (top 20) 23
abbrev N_Memory_get_below : List Str := ["self", "number", "page"]
theorem sc_Memory_get_below : FnScope N_Memory_get_below ["self", "number"] (defScope s_Memory_get_below) := ⟨rfl, rfl, rfl, by decide +kernel, rfl, by decide +kernel, by decide +kernel⟩
abbrev s_Reader_init : Stmt := inClass (top 28) 0
abbrev N_Reader_init : List Str := ["self", "octets"]
theorem sc_Reader_init : FnScope N_Reader_init ["self", "octets"] (defScope s_Reader_init) := ⟨rfl, rfl, rfl, by decide +kernel, rfl, by decide +kernel, by decide +kernel⟩
abbrev s_Reader_take : Stmt := inClass (top 28) 1
abbrev N_Reader_take : List Str := ["self", "many"]
theorem sc_Reader_take : FnScope N_Reader_take ["self", "many"] (defScope s_Reader_take) := ⟨rfl, rfl, rfl, by decide +kernel, rfl, by decide +kernel, by decide +kernel⟩
abbrev s_Reader_get_number : Stmt := inClass (top 28) 2
abbrev N_Reader_get_number : List Str := ["self", "many", "found", "octet"]
theorem sc_Reader_get_number : FnScope N_Reader_get_number ["self", "many"] (defScope s_Reader_get_number) := ⟨rfl, rfl, rfl, by decide +kernel, rfl, by decide +kernel, by decide +kernel⟩
abbrev s_Reader_text : Stmt := inClass (top 28) 3
abbrev N_Reader_text : List Str := ["self"]
theorem sc_Reader_text : FnScope N_Reader_text ["self"] (defScope s_Reader_text) := ⟨rfl, rfl, rfl, by decide +kernel, rfl, by decide +kernel, by decide +kernel⟩
abbrev s_Reader_get_value : Stmt := inClass (top 28) 4
abbrev N_Reader_get_value : List Str := ["self", "deep", "kind", "found", "many", "turn", "name"]
theorem sc_Reader_get_value : FnScope N_Reader_get_value ["self", "deep"] (defScope s_Reader_get_value) := ⟨rfl, rfl, rfl, by decide +kernel, rfl, by decide +kernel, by decide +kernel⟩
abbrev s_octets_of : Stmt := top 29
abbrev N_octets_of : List Str := ["word", "sign"]
theorem sc_octets_of : FnScope N_octets_of ["word"] (defScope s_octets_of) := ⟨rfl, rfl, rfl, by decide +kernel, rfl, by decide +kernel, by decide +kernel⟩
abbrev s_v_int : Stmt := top 30
abbrev N_v_int : List Str := ["number"]
theorem sc_v_int : FnScope N_v_int ["number"] (defScope s_v_int) := ⟨rfl, rfl, rfl, by decide +kernel, rfl, by decide +kernel, by decide +kernel⟩
abbrev s_v_text : Stmt := top 31
abbrev N_v_text : List Str := ["word"]
theorem sc_v_text : FnScope N_v_text ["word"] (defScope s_v_text) := ⟨rfl, rfl, rfl, by decide +kernel, rfl, by decide +kernel, by decide +kernel⟩
abbrev s_v_list : Stmt := top 32
abbrev N_v_list : List Str := ["members"]
theorem sc_v_list : FnScope N_v_list ["members"] (defScope s_v_list) := ⟨rfl, rfl, rfl, by decide +kernel, rfl, by decide +kernel, by decide +kernel⟩
abbrev s_v_ints : Stmt := top 33
abbrev N_v_ints : List Str := ["numbers", "number"]
theorem sc_v_ints : FnScope N_v_ints ["numbers"] (defScope s_v_ints) := ⟨rfl, rfl, rfl, by decide +kernel, rfl, by decide +kernel, by decide +kernel⟩
abbrev s_v_record : Stmt := top 34
abbrev N_v_record : List Str := ["pairs", "word", "value"]
theorem sc_v_record : FnScope N_v_record ["pairs"] (defScope s_v_record) := ⟨rfl, rfl, rfl, by decide +kernel, rfl, by decide +kernel, by decide +kernel⟩
abbrev s_member : Stmt := top 35
abbrev N_member : List Str := ["value", "word", "name", "told", "found"]
theorem sc_member : FnScope N_member ["value", "word"] (defScope s_member) := ⟨rfl, rfl, rfl, by decide +kernel, rfl, by decide +kernel, by decide +kernel⟩
abbrev s_is_int : Stmt := top 36
abbrev N_is_int : List Str := ["value", "low", "high"]
theorem sc_is_int : FnScope N_is_int ["value", "low", "high"] (defScope s_is_int) := ⟨rfl, rfl, rfl, by decide +kernel, rfl, by decide +kernel, by decide +kernel⟩
abbrev s_number_octets : Stmt := top 37
abbrev N_number_octets : List Str := ["number", "many", "found", "turn"]
theorem sc_number_octets : FnScope N_number_octets ["number", "many"] (defScope s_number_octets) := ⟨rfl, rfl, rfl, by decide +kernel, rfl, by decide +kernel, by decide +kernel⟩
abbrev s_text_octets : Stmt := top 38
abbrev N_text_octets : List Str := ["octets"]
theorem sc_text_octets : FnScope N_text_octets ["octets"] (defScope s_text_octets) := ⟨rfl, rfl, rfl, by decide +kernel, rfl, by decide +kernel, by decide +kernel⟩
abbrev s_written : Stmt := top 39
abbrev N_written : List Str := ["value", "kind", "what", "found", "one"]
theorem sc_written : FnScope N_written ["value"] (defScope s_written) := ⟨rfl, rfl, rfl, by decide +kernel, rfl, by decide +kernel, by decide +kernel⟩
abbrev s_number_in : Stmt := top 46
abbrev N_number_in : List Str := ["value", "word", "low", "high", "message"]
theorem sc_number_in : FnScope N_number_in ["value", "word", "low", "high"] (defScope s_number_in) := ⟨rfl, rfl, rfl, by decide +kernel, rfl, by decide +kernel, by decide +kernel⟩
abbrev s_group_in : Stmt := top 47
abbrev N_group_in : List Str := ["value"]
theorem sc_group_in : FnScope N_group_in ["value"] (defScope s_group_in) := ⟨rfl, rfl, rfl, by decide +kernel, rfl, by decide +kernel, by decide +kernel⟩
abbrev s_page_in : Stmt := top 48
abbrev N_page_in : List Str := ["value"]
theorem sc_page_in : FnScope N_page_in ["value"] (defScope s_page_in) := ⟨rfl, rfl, rfl, by decide +kernel, rfl, by decide +kernel, by decide +kernel⟩
abbrev s_limits_in : Stmt := top 49
abbrev N_limits_in : List Str := ["value", "rows", "word"]
theorem sc_limits_in : FnScope N_limits_in ["value"] (defScope s_limits_in) := ⟨rfl, rfl, rfl, by decide +kernel, rfl, by decide +kernel, by decide +kernel⟩
abbrev s_page_value : Stmt := top 50
abbrev N_page_value : List Str := ["page"]
theorem sc_page_value : FnScope N_page_value ["page"] (defScope s_page_value) := ⟨rfl, rfl, rfl, by decide +kernel, rfl, by decide +kernel, by decide +kernel⟩
abbrev s_numbers_value : Stmt := top 51
abbrev N_numbers_value : List Str := ["pages", "page"]
theorem sc_numbers_value : FnScope N_numbers_value ["pages"] (defScope s_numbers_value) := ⟨rfl, rfl, rfl, by decide +kernel, rfl, by decide +kernel, by decide +kernel⟩
abbrev s_group_value : Stmt := top 52
abbrev N_group_value : List Str := ["memory", "number", "group", "parent", "limits", "rows", "told", "word", "one"]
theorem sc_group_value : FnScope N_group_value ["memory", "number"] (defScope s_group_value) := ⟨rfl, rfl, rfl, by decide +kernel, rfl, by decide +kernel, by decide +kernel⟩
abbrev s_change_groups : Stmt := top 53
abbrev N_change_groups : List Str := ["memory", "number", "arguments", "parent", "group"]
theorem sc_change_groups : FnScope N_change_groups ["memory", "number", "arguments"] (defScope s_change_groups) := ⟨rfl, rfl, rfl, by decide +kernel, rfl, by decide +kernel, by decide +kernel⟩
abbrev s_change_pages : Stmt := top 54
abbrev N_change_pages : List Str := ["memory", "number", "arguments", "group", "count", "pages", "page", "rows", "found", "word"]
theorem sc_change_pages : FnScope N_change_pages ["memory", "number", "arguments"] (defScope s_change_pages) := ⟨rfl, rfl, rfl, by decide +kernel, rfl, by decide +kernel, by decide +kernel⟩
abbrev s_ask : Stmt := top 55
abbrev N_ask : List Str := ["memory", "number", "arguments", "group", "rows", "count", "pages", "page"]
theorem sc_ask : FnScope N_ask ["memory", "number", "arguments"] (defScope s_ask) := ⟨rfl, rfl, rfl, by decide +kernel, rfl, by decide +kernel, by decide +kernel⟩
abbrev s_Desk_init : Stmt := inClass (top 56) 0
abbrev N_Desk_init : List Str := ["self"]
theorem sc_Desk_init : FnScope N_Desk_init ["self"] (defScope s_Desk_init) := ⟨rfl, rfl, rfl, by decide +kernel, rfl, by decide +kernel, by decide +kernel⟩
abbrev s_Desk_memory : Stmt := inClass (top 56) 1
abbrev N_Desk_memory : List Str := ["self", "value"]
theorem sc_Desk_memory : FnScope N_Desk_memory ["self", "value"] (defScope s_Desk_memory) := ⟨rfl, rfl, rfl, by decide +kernel, rfl, by decide +kernel, by decide +kernel⟩
abbrev s_Desk_walk : Stmt := inClass (top 56) 2
abbrev N_Desk_walk : List Str := ["self", "number", "arguments", "slot", "memory", "rows", "page"]
theorem sc_Desk_walk : FnScope N_Desk_walk ["self", "number", "arguments"] (defScope s_Desk_walk) := ⟨rfl, rfl, rfl, by decide +kernel, rfl, by decide +kernel, by decide +kernel⟩
abbrev s_Desk_answer : Stmt := inClass (top 56) 3
abbrev N_Desk_answer : List Str := ["self", "number", "arguments", "memory"]
theorem sc_Desk_answer : FnScope N_Desk_answer ["self", "number", "arguments"] (defScope s_Desk_answer) := ⟨rfl, rfl, rfl, by decide +kernel, rfl, by decide +kernel, by decide +kernel⟩
abbrev s_Desk_get_octets : Stmt := inClass (top 56) 4
abbrev N_Desk_get_octets : List Str := ["self", "request", "reader", "number", "many", "arguments", "e", "turn", "sign"]
theorem sc_Desk_get_octets : FnScope N_Desk_get_octets ["self", "request"] (defScope s_Desk_get_octets) := ⟨rfl, rfl, rfl, by decide +kernel, rfl, by decide +kernel, by decide +kernel⟩
abbrev s_answers : Stmt := top 57
abbrev N_answers : List Str := ["calls", "desk", "found", "at", "end", "told"]
theorem sc_answers : FnScope N_answers ["calls"] (defScope s_answers) := ⟨rfl, rfl, rfl, by decide +kernel, rfl, by decide +kernel, by decide +kernel⟩
end Gm
end

section
set_option maxRecDepth 100000
set_option maxHeartbeats 8000000
/-! # The head, in a lemma of its own: what the top has written, as facts (printed by gen_end.py) -/
namespace Gm
open PySem PySem.Spec PyProof.Rows L2
def SqTK (K : PySem.W.Frag) (a : Addr) (xs : List V) : Prop := ∃ (o : Obj) (its : Array Value) (n : Nat), K.lookup a = some o ∧ o.cls = .type "tuple" ∧ o.data = .seq its n ∧ its.size ≤ sizeLine ∧ Vals xs its.toList ∧ o.dict = none
def FnF (K : PySem.W.Frag) (x q : Str) (st : Stmt) (f : Addr) : Prop := ∃ fd, Fun K x q st f fd
theorem fnF_mk {K : PySem.W.Frag} {x qual : Str} {st : Stmt} {f : Addr} {oc : Value} {od an : Option Addr} {osl : Array (Option Value)} {kV doc pm cdv ct : Value} (l : K.lookup f = some ⟨oc, od, .func (PySem.W.fnOf x qual (defArgs st) (defBody st) (defScope st) .none kV doc pm an cdv ct), osl⟩)
    (c : PySem.W.codeIn K cdv qual = true) (k : PySem.W.keepIn K (.ref f) = true) : FnF K x qual st f := ⟨_, fun_mk l c k⟩
theorem sqtk_mk {K : PySem.W.Frag} {a : Addr} {xs : List V} {its : Array Value} {n : Nat} {sl : Array (Option Value)} (l : K.lookup a = some ⟨.type "tuple", none, .seq its n, sl⟩) (s : its.size ≤ sizeLine) (r : Vals xs its.toList) : SqTK K a xs :=
  ⟨_, its, n, l, rfl, rfl, s, r, rfl⟩
theorem tup_line {n : Nat} (h : n ≤ 1000) : n ≤ sizeLine := Nat.le_trans h (by decide)
inductive Facts (K : PySem.W.Frag) : Prop where
  | mk {C_lim C_grp C_pag C_mem C_rdr C_dsk C_ref f_ref f_need_kind f_need_range f_need_readable f_Limits_init f_Group_init f_Page_init f_share_out f_Memory_init f_Memory_need_group f_Memory_kids f_Memory_above f_Memory_usages f_Memory_has_pages f_Memory_asked f_Memory_handed_down f_Memory_hard f_Memory_soft f_Memory_may_be_taken f_Memory_choice f_Memory_chosen f_Memory_take f_Memory_needs_of f_Memory_add_group f_Memory_new_limits f_Memory_remove f_Memory_move f_Memory_alloc f_Memory_get_page f_Memory_free f_Memory_touch f_Memory_get_below f_Reader_init f_Reader_take f_Reader_get_number f_Reader_text f_Reader_get_value f_octets_of f_v_int f_v_text f_v_list f_v_ints f_v_record f_member f_is_int f_number_octets f_text_octets f_written f_number_in f_group_in f_page_in f_limits_in f_page_value f_numbers_value f_group_value f_change_groups f_change_pages f_ask f_Desk_init f_Desk_memory f_Desk_walk f_Desk_answer f_Desk_get_octets f_answers t_NOTHING t_NULL t_NO t_YES t_PLAIN_values t_ARGUMENTS t_STATES : Addr} {oc_ref doc_ref pm_ref cd_ref ct_ref : Value} {od_ref an_ref : Option Addr} {sl_ref : Array (Option Value)} {t_MOST_GROUPS t_MOST_PAGES t_MOST_TAKEN t_MOST_NESTED t_MANY_MEMORIES t_MANY_VICTIMS t_GREAT t_WRONG_KIND t_OUT_OF_RANGE t_PLAIN_memories t_DIRTY t_NO_GROUP t_NO_MEMORY : Tok}
    (a_lim : PySem.W.nsIn K mainGlobals "Limits" = some (some (.ref C_lim)))
    (p1_lim : PySem.W.plainGet K C_lim Str.empty = true)
    (p2_lim : PySem.W.hasDictIn K C_lim = true)
    (p3_lim : PySem.W.plainOver K C_lim = true)
    (p4_lim : PySem.W.findIn K (.ref C_lim) "__setattr__" = some (some (.builtin "object.__setattr__")))
    (p5_lim : PySem.W.makesIn K C_lim = true)
    (p6_lim : PySem.W.keepIn K (.ref C_lim) = true)
    (n_lim_most : PySem.W.findIn K (.ref C_lim) "most" = some none)
    (n_lim_least : PySem.W.findIn K (.ref C_lim) "least" = some none)
    (n_lim_low : PySem.W.findIn K (.ref C_lim) "low" = some none)
    (a_grp : PySem.W.nsIn K mainGlobals "Group" = some (some (.ref C_grp)))
    (p1_grp : PySem.W.plainGet K C_grp Str.empty = true)
    (p2_grp : PySem.W.hasDictIn K C_grp = true)
    (p3_grp : PySem.W.plainOver K C_grp = true)
    (p4_grp : PySem.W.findIn K (.ref C_grp) "__setattr__" = some (some (.builtin "object.__setattr__")))
    (p5_grp : PySem.W.makesIn K C_grp = true)
    (p6_grp : PySem.W.keepIn K (.ref C_grp) = true)
    (n_grp_parent : PySem.W.findIn K (.ref C_grp) "parent" = some none)
    (n_grp_limits : PySem.W.findIn K (.ref C_grp) "limits" = some none)
    (a_pag : PySem.W.nsIn K mainGlobals "Page" = some (some (.ref C_pag)))
    (p1_pag : PySem.W.plainGet K C_pag Str.empty = true)
    (p2_pag : PySem.W.hasDictIn K C_pag = true)
    (p3_pag : PySem.W.plainOver K C_pag = true)
    (p4_pag : PySem.W.findIn K (.ref C_pag) "__setattr__" = some (some (.builtin "object.__setattr__")))
    (p5_pag : PySem.W.makesIn K C_pag = true)
    (p6_pag : PySem.W.keepIn K (.ref C_pag) = true)
    (n_pag_number : PySem.W.findIn K (.ref C_pag) "number" = some none)
    (n_pag_group : PySem.W.findIn K (.ref C_pag) "group" = some none)
    (n_pag_state : PySem.W.findIn K (.ref C_pag) "state" = some none)
    (a_mem : PySem.W.nsIn K mainGlobals "Memory" = some (some (.ref C_mem)))
    (p1_mem : PySem.W.plainGet K C_mem Str.empty = true)
    (p2_mem : PySem.W.hasDictIn K C_mem = true)
    (p3_mem : PySem.W.plainOver K C_mem = true)
    (p4_mem : PySem.W.findIn K (.ref C_mem) "__setattr__" = some (some (.builtin "object.__setattr__")))
    (p5_mem : PySem.W.makesIn K C_mem = true)
    (p6_mem : PySem.W.keepIn K (.ref C_mem) = true)
    (n_mem_groups : PySem.W.findIn K (.ref C_mem) "groups" = some none)
    (n_mem_made : PySem.W.findIn K (.ref C_mem) "made" = some none)
    (n_mem_rows : PySem.W.findIn K (.ref C_mem) "rows" = some none)
    (n_mem_next_page : PySem.W.findIn K (.ref C_mem) "next_page" = some none)
    (n_mem_taken : PySem.W.findIn K (.ref C_mem) "taken" = some none)
    (a_rdr : PySem.W.nsIn K mainGlobals "Reader" = some (some (.ref C_rdr)))
    (p1_rdr : PySem.W.plainGet K C_rdr Str.empty = true)
    (p2_rdr : PySem.W.hasDictIn K C_rdr = true)
    (p3_rdr : PySem.W.plainOver K C_rdr = true)
    (p4_rdr : PySem.W.findIn K (.ref C_rdr) "__setattr__" = some (some (.builtin "object.__setattr__")))
    (p5_rdr : PySem.W.makesIn K C_rdr = true)
    (p6_rdr : PySem.W.keepIn K (.ref C_rdr) = true)
    (n_rdr_octets : PySem.W.findIn K (.ref C_rdr) "octets" = some none)
    (n_rdr_at : PySem.W.findIn K (.ref C_rdr) "at" = some none)
    (a_dsk : PySem.W.nsIn K mainGlobals "Desk" = some (some (.ref C_dsk)))
    (p1_dsk : PySem.W.plainGet K C_dsk Str.empty = true)
    (p2_dsk : PySem.W.hasDictIn K C_dsk = true)
    (p3_dsk : PySem.W.plainOver K C_dsk = true)
    (p4_dsk : PySem.W.findIn K (.ref C_dsk) "__setattr__" = some (some (.builtin "object.__setattr__")))
    (p5_dsk : PySem.W.makesIn K C_dsk = true)
    (p6_dsk : PySem.W.keepIn K (.ref C_dsk) = true)
    (n_dsk_memories : PySem.W.findIn K (.ref C_dsk) "memories" = some none)
    (n_dsk_victims : PySem.W.findIn K (.ref C_dsk) "victims" = some none)
    (a_ref : PySem.W.nsIn K mainGlobals "Refused" = some (some (.ref C_ref)))
    (r_cls : ∃ nm q N bs sn sub ab col dd k0 k1 k2 k3 k5, K.lookup C_ref = some (excClassObj nm q C_ref N bs ESX.exTail true sn sub ab col dd k0 k1 k2 k3 k5 "Exception.__new__"))
    (r_sa : PySem.W.findIn K (.ref C_ref) "__setattr__" = some (some (.builtin "object.__setattr__")))
    (r_ga : PySem.W.findIn K (.ref C_ref) "__getattribute__" = some (some (.builtin "BaseException.__getattribute__")))
    (r_gg : PySem.W.findIn K (.ref C_ref) "__getattr__" = some none)
    (r_noC : PySem.W.findIn K (.ref C_ref) "code" = some none)
    (r_noM : PySem.W.findIn K (.ref C_ref) "message" = some none)
    (r_iC : PySem.W.findIn K (.ref C_ref) "__init__" = some (some (.ref f_ref)))
    (r_tC : PySem.W.typeIn K (.ref f_ref) = some (.type "function"))
    (r_kC : PySem.W.keepIn K (.ref C_ref) = true)
    (r_exC : PySem.W.subIn K (.ref C_ref) (.type "BaseException") = some true)
    (r_tyC : PySem.W.typeIn K (.ref C_ref) = some (.type "type"))
    (r_hdC : PySem.W.hasDictIn K C_ref = true)
    (r_is : PySem.W.isClsIn K C_ref = true)
    (r_sub : PySem.W.subIn K (.ref C_ref) (.ref C_ref) = some true)
    (r_fn : K.lookup f_ref = some ⟨oc_ref, od_ref, .func (PySem.W.fnOf "__init__" "Refused.__init__" (defArgs s_Refused_init) (defBody s_Refused_init) (defScope s_Refused_init) .none .none doc_ref pm_ref an_ref cd_ref ct_ref), sl_ref⟩)
    (r_cd : PySem.W.codeIn K cd_ref "Refused.__init__" = true)
    (a_need_kind : PySem.W.nsIn K mainGlobals "need_kind" = some (some (.ref f_need_kind)))
    (F_need_kind : FnF K "need_kind" "need_kind" s_need_kind f_need_kind)
    (a_need_range : PySem.W.nsIn K mainGlobals "need_range" = some (some (.ref f_need_range)))
    (F_need_range : FnF K "need_range" "need_range" s_need_range f_need_range)
    (a_need_readable : PySem.W.nsIn K mainGlobals "need_readable" = some (some (.ref f_need_readable)))
    (F_need_readable : FnF K "need_readable" "need_readable" s_need_readable f_need_readable)
    (a_Limits_init : PySem.W.findIn K (.ref C_lim) "__init__" = some (some (.ref f_Limits_init)))
    (i_Limits_init : PySem.W.isFn K (.ref f_Limits_init) = true)
    (F_Limits_init : FnF K "__init__" "Limits.__init__" s_Limits_init f_Limits_init)
    (a_Group_init : PySem.W.findIn K (.ref C_grp) "__init__" = some (some (.ref f_Group_init)))
    (i_Group_init : PySem.W.isFn K (.ref f_Group_init) = true)
    (F_Group_init : FnF K "__init__" "Group.__init__" s_Group_init f_Group_init)
    (a_Page_init : PySem.W.findIn K (.ref C_pag) "__init__" = some (some (.ref f_Page_init)))
    (i_Page_init : PySem.W.isFn K (.ref f_Page_init) = true)
    (F_Page_init : FnF K "__init__" "Page.__init__" s_Page_init f_Page_init)
    (a_share_out : PySem.W.nsIn K mainGlobals "share_out" = some (some (.ref f_share_out)))
    (F_share_out : FnF K "share_out" "share_out" s_share_out f_share_out)
    (a_Memory_init : PySem.W.findIn K (.ref C_mem) "__init__" = some (some (.ref f_Memory_init)))
    (i_Memory_init : PySem.W.isFn K (.ref f_Memory_init) = true)
    (F_Memory_init : FnF K "__init__" "Memory.__init__" s_Memory_init f_Memory_init)
    (a_Memory_need_group : PySem.W.findIn K (.ref C_mem) "need_group" = some (some (.ref f_Memory_need_group)))
    (i_Memory_need_group : PySem.W.isFn K (.ref f_Memory_need_group) = true)
    (F_Memory_need_group : FnF K "need_group" "Memory.need_group" s_Memory_need_group f_Memory_need_group)
    (a_Memory_kids : PySem.W.findIn K (.ref C_mem) "kids" = some (some (.ref f_Memory_kids)))
    (i_Memory_kids : PySem.W.isFn K (.ref f_Memory_kids) = true)
    (F_Memory_kids : FnF K "kids" "Memory.kids" s_Memory_kids f_Memory_kids)
    (a_Memory_above : PySem.W.findIn K (.ref C_mem) "above" = some (some (.ref f_Memory_above)))
    (i_Memory_above : PySem.W.isFn K (.ref f_Memory_above) = true)
    (F_Memory_above : FnF K "above" "Memory.above" s_Memory_above f_Memory_above)
    (a_Memory_usages : PySem.W.findIn K (.ref C_mem) "usages" = some (some (.ref f_Memory_usages)))
    (i_Memory_usages : PySem.W.isFn K (.ref f_Memory_usages) = true)
    (F_Memory_usages : FnF K "usages" "Memory.usages" s_Memory_usages f_Memory_usages)
    (a_Memory_has_pages : PySem.W.findIn K (.ref C_mem) "has_pages" = some (some (.ref f_Memory_has_pages)))
    (i_Memory_has_pages : PySem.W.isFn K (.ref f_Memory_has_pages) = true)
    (F_Memory_has_pages : FnF K "has_pages" "Memory.has_pages" s_Memory_has_pages f_Memory_has_pages)
    (a_Memory_asked : PySem.W.findIn K (.ref C_mem) "asked" = some (some (.ref f_Memory_asked)))
    (i_Memory_asked : PySem.W.isFn K (.ref f_Memory_asked) = true)
    (F_Memory_asked : FnF K "asked" "Memory.asked" s_Memory_asked f_Memory_asked)
    (a_Memory_handed_down : PySem.W.findIn K (.ref C_mem) "handed_down" = some (some (.ref f_Memory_handed_down)))
    (i_Memory_handed_down : PySem.W.isFn K (.ref f_Memory_handed_down) = true)
    (F_Memory_handed_down : FnF K "handed_down" "Memory.handed_down" s_Memory_handed_down f_Memory_handed_down)
    (a_Memory_hard : PySem.W.findIn K (.ref C_mem) "hard" = some (some (.ref f_Memory_hard)))
    (i_Memory_hard : PySem.W.isFn K (.ref f_Memory_hard) = true)
    (F_Memory_hard : FnF K "hard" "Memory.hard" s_Memory_hard f_Memory_hard)
    (a_Memory_soft : PySem.W.findIn K (.ref C_mem) "soft" = some (some (.ref f_Memory_soft)))
    (i_Memory_soft : PySem.W.isFn K (.ref f_Memory_soft) = true)
    (F_Memory_soft : FnF K "soft" "Memory.soft" s_Memory_soft f_Memory_soft)
    (a_Memory_may_be_taken : PySem.W.findIn K (.ref C_mem) "may_be_taken" = some (some (.ref f_Memory_may_be_taken)))
    (i_Memory_may_be_taken : PySem.W.isFn K (.ref f_Memory_may_be_taken) = true)
    (F_Memory_may_be_taken : FnF K "may_be_taken" "Memory.may_be_taken" s_Memory_may_be_taken f_Memory_may_be_taken)
    (a_Memory_choice : PySem.W.findIn K (.ref C_mem) "choice" = some (some (.ref f_Memory_choice)))
    (i_Memory_choice : PySem.W.isFn K (.ref f_Memory_choice) = true)
    (F_Memory_choice : FnF K "choice" "Memory.choice" s_Memory_choice f_Memory_choice)
    (a_Memory_chosen : PySem.W.findIn K (.ref C_mem) "chosen" = some (some (.ref f_Memory_chosen)))
    (i_Memory_chosen : PySem.W.isFn K (.ref f_Memory_chosen) = true)
    (F_Memory_chosen : FnF K "chosen" "Memory.chosen" s_Memory_chosen f_Memory_chosen)
    (a_Memory_take : PySem.W.findIn K (.ref C_mem) "take" = some (some (.ref f_Memory_take)))
    (i_Memory_take : PySem.W.isFn K (.ref f_Memory_take) = true)
    (F_Memory_take : FnF K "take" "Memory.take" s_Memory_take f_Memory_take)
    (a_Memory_needs_of : PySem.W.findIn K (.ref C_mem) "needs_of" = some (some (.ref f_Memory_needs_of)))
    (i_Memory_needs_of : PySem.W.isFn K (.ref f_Memory_needs_of) = true)
    (F_Memory_needs_of : FnF K "needs_of" "Memory.needs_of" s_Memory_needs_of f_Memory_needs_of)
    (a_Memory_add_group : PySem.W.findIn K (.ref C_mem) "add_group" = some (some (.ref f_Memory_add_group)))
    (i_Memory_add_group : PySem.W.isFn K (.ref f_Memory_add_group) = true)
    (F_Memory_add_group : FnF K "add_group" "Memory.add_group" s_Memory_add_group f_Memory_add_group)
    (a_Memory_new_limits : PySem.W.findIn K (.ref C_mem) "new_limits" = some (some (.ref f_Memory_new_limits)))
    (i_Memory_new_limits : PySem.W.isFn K (.ref f_Memory_new_limits) = true)
    (F_Memory_new_limits : FnF K "new_limits" "Memory.new_limits" s_Memory_new_limits f_Memory_new_limits)
    (a_Memory_remove : PySem.W.findIn K (.ref C_mem) "remove" = some (some (.ref f_Memory_remove)))
    (i_Memory_remove : PySem.W.isFn K (.ref f_Memory_remove) = true)
    (F_Memory_remove : FnF K "remove" "Memory.remove" s_Memory_remove f_Memory_remove)
    (a_Memory_move : PySem.W.findIn K (.ref C_mem) "move" = some (some (.ref f_Memory_move)))
    (i_Memory_move : PySem.W.isFn K (.ref f_Memory_move) = true)
    (F_Memory_move : FnF K "move" "Memory.move" s_Memory_move f_Memory_move)
    (a_Memory_alloc : PySem.W.findIn K (.ref C_mem) "alloc" = some (some (.ref f_Memory_alloc)))
    (i_Memory_alloc : PySem.W.isFn K (.ref f_Memory_alloc) = true)
    (F_Memory_alloc : FnF K "alloc" "Memory.alloc" s_Memory_alloc f_Memory_alloc)
    (a_Memory_get_page : PySem.W.findIn K (.ref C_mem) "get_page" = some (some (.ref f_Memory_get_page)))
    (i_Memory_get_page : PySem.W.isFn K (.ref f_Memory_get_page) = true)
    (F_Memory_get_page : FnF K "get_page" "Memory.get_page" s_Memory_get_page f_Memory_get_page)
    (a_Memory_free : PySem.W.findIn K (.ref C_mem) "free" = some (some (.ref f_Memory_free)))
    (i_Memory_free : PySem.W.isFn K (.ref f_Memory_free) = true)
    (F_Memory_free : FnF K "free" "Memory.free" s_Memory_free f_Memory_free)
    (a_Memory_touch : PySem.W.findIn K (.ref C_mem) "touch" = some (some (.ref f_Memory_touch)))
    (i_Memory_touch : PySem.W.isFn K (.ref f_Memory_touch) = true)
    (F_Memory_touch : FnF K "touch" "Memory.touch" s_Memory_touch f_Memory_touch)
    (a_Memory_get_below : PySem.W.findIn K (.ref C_mem) "get_below" = some (some (.ref f_Memory_get_below)))
    (i_Memory_get_below : PySem.W.isFn K (.ref f_Memory_get_below) = true)
    (F_Memory_get_below : FnF K "get_below" "Memory.get_below" s_Memory_get_below f_Memory_get_below)
    (a_Reader_init : PySem.W.findIn K (.ref C_rdr) "__init__" = some (some (.ref f_Reader_init)))
    (i_Reader_init : PySem.W.isFn K (.ref f_Reader_init) = true)
    (F_Reader_init : FnF K "__init__" "Reader.__init__" s_Reader_init f_Reader_init)
    (a_Reader_take : PySem.W.findIn K (.ref C_rdr) "take" = some (some (.ref f_Reader_take)))
    (i_Reader_take : PySem.W.isFn K (.ref f_Reader_take) = true)
    (F_Reader_take : FnF K "take" "Reader.take" s_Reader_take f_Reader_take)
    (a_Reader_get_number : PySem.W.findIn K (.ref C_rdr) "get_number" = some (some (.ref f_Reader_get_number)))
    (i_Reader_get_number : PySem.W.isFn K (.ref f_Reader_get_number) = true)
    (F_Reader_get_number : FnF K "get_number" "Reader.get_number" s_Reader_get_number f_Reader_get_number)
    (a_Reader_text : PySem.W.findIn K (.ref C_rdr) "text" = some (some (.ref f_Reader_text)))
    (i_Reader_text : PySem.W.isFn K (.ref f_Reader_text) = true)
    (F_Reader_text : FnF K "text" "Reader.text" s_Reader_text f_Reader_text)
    (a_Reader_get_value : PySem.W.findIn K (.ref C_rdr) "get_value" = some (some (.ref f_Reader_get_value)))
    (i_Reader_get_value : PySem.W.isFn K (.ref f_Reader_get_value) = true)
    (F_Reader_get_value : FnF K "get_value" "Reader.get_value" s_Reader_get_value f_Reader_get_value)
    (a_octets_of : PySem.W.nsIn K mainGlobals "octets_of" = some (some (.ref f_octets_of)))
    (F_octets_of : FnF K "octets_of" "octets_of" s_octets_of f_octets_of)
    (a_v_int : PySem.W.nsIn K mainGlobals "v_int" = some (some (.ref f_v_int)))
    (F_v_int : FnF K "v_int" "v_int" s_v_int f_v_int)
    (a_v_text : PySem.W.nsIn K mainGlobals "v_text" = some (some (.ref f_v_text)))
    (F_v_text : FnF K "v_text" "v_text" s_v_text f_v_text)
    (a_v_list : PySem.W.nsIn K mainGlobals "v_list" = some (some (.ref f_v_list)))
    (F_v_list : FnF K "v_list" "v_list" s_v_list f_v_list)
    (a_v_ints : PySem.W.nsIn K mainGlobals "v_ints" = some (some (.ref f_v_ints)))
    (F_v_ints : FnF K "v_ints" "v_ints" s_v_ints f_v_ints)
    (a_v_record : PySem.W.nsIn K mainGlobals "v_record" = some (some (.ref f_v_record)))
    (F_v_record : FnF K "v_record" "v_record" s_v_record f_v_record)
    (a_member : PySem.W.nsIn K mainGlobals "member" = some (some (.ref f_member)))
    (F_member : FnF K "member" "member" s_member f_member)
    (a_is_int : PySem.W.nsIn K mainGlobals "is_int" = some (some (.ref f_is_int)))
    (F_is_int : FnF K "is_int" "is_int" s_is_int f_is_int)
    (a_number_octets : PySem.W.nsIn K mainGlobals "number_octets" = some (some (.ref f_number_octets)))
    (F_number_octets : FnF K "number_octets" "number_octets" s_number_octets f_number_octets)
    (a_text_octets : PySem.W.nsIn K mainGlobals "text_octets" = some (some (.ref f_text_octets)))
    (F_text_octets : FnF K "text_octets" "text_octets" s_text_octets f_text_octets)
    (a_written : PySem.W.nsIn K mainGlobals "written" = some (some (.ref f_written)))
    (F_written : FnF K "written" "written" s_written f_written)
    (a_number_in : PySem.W.nsIn K mainGlobals "number_in" = some (some (.ref f_number_in)))
    (F_number_in : FnF K "number_in" "number_in" s_number_in f_number_in)
    (a_group_in : PySem.W.nsIn K mainGlobals "group_in" = some (some (.ref f_group_in)))
    (F_group_in : FnF K "group_in" "group_in" s_group_in f_group_in)
    (a_page_in : PySem.W.nsIn K mainGlobals "page_in" = some (some (.ref f_page_in)))
    (F_page_in : FnF K "page_in" "page_in" s_page_in f_page_in)
    (a_limits_in : PySem.W.nsIn K mainGlobals "limits_in" = some (some (.ref f_limits_in)))
    (F_limits_in : FnF K "limits_in" "limits_in" s_limits_in f_limits_in)
    (a_page_value : PySem.W.nsIn K mainGlobals "page_value" = some (some (.ref f_page_value)))
    (F_page_value : FnF K "page_value" "page_value" s_page_value f_page_value)
    (a_numbers_value : PySem.W.nsIn K mainGlobals "numbers_value" = some (some (.ref f_numbers_value)))
    (F_numbers_value : FnF K "numbers_value" "numbers_value" s_numbers_value f_numbers_value)
    (a_group_value : PySem.W.nsIn K mainGlobals "group_value" = some (some (.ref f_group_value)))
    (F_group_value : FnF K "group_value" "group_value" s_group_value f_group_value)
    (a_change_groups : PySem.W.nsIn K mainGlobals "change_groups" = some (some (.ref f_change_groups)))
    (F_change_groups : FnF K "change_groups" "change_groups" s_change_groups f_change_groups)
    (a_change_pages : PySem.W.nsIn K mainGlobals "change_pages" = some (some (.ref f_change_pages)))
    (F_change_pages : FnF K "change_pages" "change_pages" s_change_pages f_change_pages)
    (a_ask : PySem.W.nsIn K mainGlobals "ask" = some (some (.ref f_ask)))
    (F_ask : FnF K "ask" "ask" s_ask f_ask)
    (a_Desk_init : PySem.W.findIn K (.ref C_dsk) "__init__" = some (some (.ref f_Desk_init)))
    (i_Desk_init : PySem.W.isFn K (.ref f_Desk_init) = true)
    (F_Desk_init : FnF K "__init__" "Desk.__init__" s_Desk_init f_Desk_init)
    (a_Desk_memory : PySem.W.findIn K (.ref C_dsk) "memory" = some (some (.ref f_Desk_memory)))
    (i_Desk_memory : PySem.W.isFn K (.ref f_Desk_memory) = true)
    (F_Desk_memory : FnF K "memory" "Desk.memory" s_Desk_memory f_Desk_memory)
    (a_Desk_walk : PySem.W.findIn K (.ref C_dsk) "walk" = some (some (.ref f_Desk_walk)))
    (i_Desk_walk : PySem.W.isFn K (.ref f_Desk_walk) = true)
    (F_Desk_walk : FnF K "walk" "Desk.walk" s_Desk_walk f_Desk_walk)
    (a_Desk_answer : PySem.W.findIn K (.ref C_dsk) "answer" = some (some (.ref f_Desk_answer)))
    (i_Desk_answer : PySem.W.isFn K (.ref f_Desk_answer) = true)
    (F_Desk_answer : FnF K "answer" "Desk.answer" s_Desk_answer f_Desk_answer)
    (a_Desk_get_octets : PySem.W.findIn K (.ref C_dsk) "get_octets" = some (some (.ref f_Desk_get_octets)))
    (i_Desk_get_octets : PySem.W.isFn K (.ref f_Desk_get_octets) = true)
    (F_Desk_get_octets : FnF K "get_octets" "Desk.get_octets" s_Desk_get_octets f_Desk_get_octets)
    (a_answers : PySem.W.nsIn K mainGlobals "answers" = some (some (.ref f_answers)))
    (F_answers : FnF K "answers" "answers" s_answers f_answers)
    (b_len : PySem.W.nsIn K mainGlobals "len" = some none)
    (b_sum : PySem.W.nsIn K mainGlobals "sum" = some none)
    (b_list : PySem.W.nsIn K mainGlobals "list" = some none)
    (b_dict : PySem.W.nsIn K mainGlobals "dict" = some none)
    (b_sorted : PySem.W.nsIn K mainGlobals "sorted" = some none)
    (b_enumerate : PySem.W.nsIn K mainGlobals "enumerate" = some none)
    (b_any : PySem.W.nsIn K mainGlobals "any" = some none)
    (b_all : PySem.W.nsIn K mainGlobals "all" = some none)
    (b_max : PySem.W.nsIn K mainGlobals "max" = some none)
    (b_min : PySem.W.nsIn K mainGlobals "min" = some none)
    (b_zip : PySem.W.nsIn K mainGlobals "zip" = some none)
    (b_range : PySem.W.nsIn K mainGlobals "range" = some none)
    (b_tuple : PySem.W.nsIn K mainGlobals "tuple" = some none)
    (b_ord : PySem.W.nsIn K mainGlobals "ord" = some none)
    (b_str : PySem.W.nsIn K mainGlobals "str" = some none)
    (e_MOST_GROUPS : PySem.W.nsIn K mainGlobals "MOST_GROUPS" = some (some (.int 40 t_MOST_GROUPS)))
    (e_MOST_PAGES : PySem.W.nsIn K mainGlobals "MOST_PAGES" = some (some (.int 2000 t_MOST_PAGES)))
    (e_MOST_TAKEN : PySem.W.nsIn K mainGlobals "MOST_TAKEN" = some (some (.int 20 t_MOST_TAKEN)))
    (e_MOST_NESTED : PySem.W.nsIn K mainGlobals "MOST_NESTED" = some (some (.int 32 t_MOST_NESTED)))
    (e_MANY_MEMORIES : PySem.W.nsIn K mainGlobals "MANY_MEMORIES" = some (some (.int 3 t_MANY_MEMORIES)))
    (e_MANY_VICTIMS : PySem.W.nsIn K mainGlobals "MANY_VICTIMS" = some (some (.int 2 t_MANY_VICTIMS)))
    (e_GREAT : PySem.W.nsIn K mainGlobals "GREAT" = some (some (.int 1000000000 t_GREAT)))
    (e_WRONG_KIND : PySem.W.nsIn K mainGlobals "WRONG_KIND" = some (some (.int 1 t_WRONG_KIND)))
    (e_OUT_OF_RANGE : PySem.W.nsIn K mainGlobals "OUT_OF_RANGE" = some (some (.int 2 t_OUT_OF_RANGE)))
    (e_PLAIN_memories : PySem.W.nsIn K mainGlobals "PLAIN_memories" = some (some (.str "plain" t_PLAIN_memories)))
    (e_DIRTY : PySem.W.nsIn K mainGlobals "DIRTY" = some (some (.str "dirty" t_DIRTY)))
    (e_NO_GROUP : PySem.W.nsIn K mainGlobals "NO_GROUP" = some (some (.str "there is no such group" t_NO_GROUP)))
    (e_NO_MEMORY : PySem.W.nsIn K mainGlobals "NO_MEMORY" = some (some (.str "out of memory" t_NO_MEMORY)))
    (e_NOTHING : PySem.W.nsIn K mainGlobals "NOTHING" = some (some (.ref t_NOTHING)))
    (q_NOTHING : SqTK K t_NOTHING [.str "nothing", .non])
    (e_NULL : PySem.W.nsIn K mainGlobals "NULL" = some (some (.ref t_NULL)))
    (q_NULL : SqTK K t_NULL [.str "null", .non])
    (e_NO : PySem.W.nsIn K mainGlobals "NO" = some (some (.ref t_NO)))
    (q_NO : SqTK K t_NO [.str "false", .non])
    (e_YES : PySem.W.nsIn K mainGlobals "YES" = some (some (.ref t_YES)))
    (q_YES : SqTK K t_YES [.str "true", .non])
    (e_PLAIN_values : PySem.W.nsIn K mainGlobals "PLAIN_values" = some (some (.ref t_PLAIN_values)))
    (q_PLAIN_values : SqTK K t_PLAIN_values [.str "nothing", .str "null", .str "false", .str "true"])
    (e_ARGUMENTS : PySem.W.nsIn K mainGlobals "ARGUMENTS" = some (some (.ref t_ARGUMENTS)))
    (q_ARGUMENTS : SqTK K t_ARGUMENTS [.int 2, .int 3, .int 3, .int 2, .int 3, .int 3, .int 3, .int 2, .int 2, .int 3, .int 2, .int 3, .int 2, .int 2, .int 1, .int 1, .int 2, .int 1, .int 2])
    (e_STATES : PySem.W.nsIn K mainGlobals "STATES" = some (some (.ref t_STATES)))
    (q_STATES : SqTK K t_STATES [.str "plain", .str "dirty", .str "locked"])
    : Facts K
end Gm
section
open PySem PySem.W PyProof.Rows
theorem Gm.said : PySem.Challenge.rw_groupmem_s01_answers.wellSaid = true := by
  unfold OpenSpec.wellSaid
  simp only [Bool.and_eq_true]
  (repeat' (refine And.intro ?_ ?_)) <;> decide +kernel
end
end

section
set_option maxRecDepth 100000
set_option maxHeartbeats 8000000
/-! # Own rules, part 1: raise Refused(code, message): an own error over Exception with two fields, context None -/
namespace PySem
namespace GmX
open PySem.W PySem.Calls PyProof.Rows PySem.HandSPX
/-- what the written part says of Refused, at C, and of its __init__, at fI; bd: the body's two stores -/
structure RefTxt (K : Frag) (mg : Str → Option Value) (C fI : Addr) : Prop where
  gC : mg "Refused" = some (.ref C)
  cls : ∃ nm q N bs sn sub ab col dd k0 k1 k2 k3 k5, K.lookup C = some (excClassObj nm q C N bs ESX.exTail true sn sub ab col dd k0 k1 k2 k3 k5 "Exception.__new__")
  sa : findIn K (.ref C) "__setattr__" = some (some (.builtin "object.__setattr__"))
  ga : findIn K (.ref C) "__getattribute__" = some (some (.builtin "BaseException.__getattribute__"))
  gg : findIn K (.ref C) "__getattr__" = some none
  noC : findIn K (.ref C) "code" = some none
  noM : findIn K (.ref C) "message" = some none
  iC : findIn K (.ref C) "__init__" = some (some (.ref fI))
  tC : typeIn K (.ref fI) = some (.type "function")
  kC : keepIn K (.ref C) = true
  exC : subIn K (.ref C) (.type "BaseException") = some true
  tyC : typeIn K (.ref C) = some (.type "type")
  hdC : hasDictIn K C = true
  te : exmOne K (.ref C) (.ref C) = some true
  fn : ∃ (oc : Value) (od : Option Addr) (doc pm : Value) (an : Option Addr) (cdv ct : Value) (osl : Array (Option Value)) (ar : Arguments) (bd : List Stmt) (sc : Scope) (q1 q2 q3 q4 q5 q6 q7 q8 : Pos),
    K.lookup fI = some ⟨oc, od, .func (fnOf "__init__" "Refused.__init__" ar bd sc .none .none doc pm an cdv ct), osl⟩ ∧ codeIn K cdv "Refused.__init__" = true ∧
    (∃ p1 p2 p3 : Pos, ar = { posonlyargs := [], args := [{ arg := "self", annotation := none, pos := p1 }, { arg := "code", annotation := none, pos := p2 }, { arg := "message", annotation := none, pos := p3 }], vararg := none, kwonlyargs := [], kw_defaults := [], kwarg := none, defaults := [] }) ∧
    bd = [.Assign [.Attribute (.Name "self" q1) "code" q2] (.Name "code" q3) q4, .Assign [.Attribute (.Name "self" q5) "message" q6] (.Name "message" q7) q8] ∧
    sc = { kind := .function, names := [(PySem.Str.ofString "self", .local), (PySem.Str.ofString "code", .local), (PySem.Str.ofString "message", .local)], isGenerator := false, isCoroutine := false, more := [] }
theorem two_size (v w : Value) : [v, w].length ≤ sizeLine := by
  rw [sizeLine_eq]
  exact (by decide : 2 ≤ 16777216)
theorem ldG {M : Model} {s : Shared} {name : Str} {scope : Scope} {L a : Addr} {cd : Value} {m : Str → Option Value} {x : Str} {pos : Pos} {v : Value} {Q : Value → Shared → Prop} {A : Around} {E : Value → Shared → Prop} (hn : s.heap.Ns L m) (hv : m x = some v) (h : Q v s)
    (hk : scope.kind = .function := by rfl) (hl : (envOfC name scope L a cd).kindOf x = some .local := by rfl) (hd : (x == ("__debug__" : Str)) = false := by decide) :
    wpAny M A (eval (.Name x pos) (envOfC name scope L a cd)) Q E s := wpAny_Name (wpAny_loadName_local hk hl hn hv h) hd
/-- the dict's map behind both stores -/
def two (v1 v2 : Value) : Str → Option Value := fun y => if y = "message" then some v2 else if y = "code" then some v1 else none
structure InitEnd2 (h h' : Heap) (x C dx t1 : Addr) (v1 v2 : Value) : Prop where
  keep : ∀ b o, b ≠ x → h.get? b = some o → h'.get? b = some o
  obj : h'.get? x = some { cls := .ref C, dict := some dx, data := .fields #[.ref t1, .none, .none, .none, .bool false, .none] }
  dbig : h.objs.size ≤ dx
  dne : dx ≠ x
  ns : h'.Ns1 dx (two v1 v2)
structure Made2 (h h' : Heap) (e C d : Addr) (v1 v2 : Value) : Prop where
  keep : ∀ b o, h.get? b = some o → h'.get? b = some o
  new : h.objs.size ≤ e
  obj : ∃ t0 : Addr, h'.get? e = some { cls := .ref C, dict := some d, data := .fields #[.ref t0, .none, .none, .none, .bool false, .none] }
  dbig : h.objs.size ≤ d
  dne : d ≠ e
  ns : h'.Ns1 d (two v1 v2)
section
variable {prog : Program} {w : World} {A : Around} {E : Value → Shared → Prop} {R : Result → Shared → Prop} {s : Shared} {K : Frag} {mg : Str → Option Value} {C fI : Addr}
theorem kept_bar {K : Frag} {h h' : Heap} {x : Addr} (X : K.In h) (hx : K.lookup x = none) (k : ∀ b o, b ≠ x → h.get? b = some o → h'.get? b = some o) : K.In h' := fun a o e =>
  k a o (fun z => by rw [z, hx] at e; cases e) (X a o e)
theorem ref_init (T : RefTxt K mg C fI) {x t0 : Addr} {v1 v2 : Value} (X : K.In s.heap) (hlim : s.heap.NoLimit) (hx : s.heap.get? x = some (excO C t0)) (hnx : K.lookup x = none) (hroom : A.depth < recursionLimit)
    (hq : ∀ h' tk dx, InitEnd2 s.heap h' x C dx t0 v1 v2 → R (.ok (.ret .none)) { s with heap := h', toks := tk }) :
    codeAny (model prog w) A (.call (.ref fI) ⟨[.ref x, v1, v2], []⟩) R s := by
  obtain ⟨oc, od, doc, pm, an, cdv, ct, osl, ar, bd, sc, q1, q2, q3, q4, q5, q6, q7, q8, ho, hcd, ⟨p1, p2, p3, rfl⟩, rfl, rfl⟩ := T.fn
  obtain ⟨nm, q, N, bs, sn, sub, ab, col, dd, k0, k1, k2, k3, k5, hC⟩ := T.cls
  have hcl : clsIn K C = some { name := nm, bases := bs, mro := .ref C :: ESX.exTail, ns := N, qualname := q, hasDict := true, slotNames := sn, subclasses := sub, abstract := ab, collection := col, hasDel := false } := by unfold clsIn; rw [hC] <;> rfl
  refine Att.call_fn (binds := [("self", .ref x), ("code", v1), ("message", v2)]) X hlim ho hcd hroom (BindsTo.of_eq (by first | rfl | with_unfolding_all rfl)) (by first | rfl | decide | with_unfolding_all rfl) (fun s₁ IC => ?_) rfl rfl rfl
  obtain ⟨h₁, tk₁, rfl⟩ := IC.toInCall.same
  have k : ∀ b o, s.heap.get? b = some o → h₁.get? b = some o := IC.toInCall.keep
  have hn := IC.toInCall.ns
  have hxL : s.heap.objs.size ≠ x := Nat.ne_of_gt (Heap.lt_size hx)
  have X₁ : K.In h₁ := X.keeps k
  have hx₁ := k _ _ hx
  -- self.code = code
  show wpAny _ _ (execs _ _) _ _ _
  refine wpAny_execs_cons (plainObj_wpAny_Assign_Attribute ?_)
  refine ldG (v := v1) hn (by first | rfl | with_unfolding_all rfl | kernel_rfl) (ldG (v := .ref x) hn (by first | rfl | with_unfolding_all rfl | kernel_rfl) ?_)
  refine set_plain X₁ (ox := excO C t0) (od := none) ⟨hx₁, rfl, rfl, trivial⟩ T.sa ?_
  refine ESX.osa_new X₁ hx₁ hcl rfl rfl T.noC (fun h₃ tk₃ dx k₃ dn dne hx₃ hn₃ => ?_)
  have z : s.heap.objs.size < h₁.objs.size := hn.lt
  have hn₂ := hn.at (h' := h₃) (fun o e => k₃ _ o hxL e)
  have X₃ : K.In h₃ := kept_bar X₁ hnx k₃
  -- self.message = message
  show wpAny _ _ (execs _ _) _ _ _
  refine wpAny_execs_cons (plainObj_wpAny_Assign_Attribute ?_)
  refine ldG (v := v2) hn₂ (by first | rfl | with_unfolding_all rfl | kernel_rfl) (ldG (v := .ref x) hn₂ (by first | rfl | with_unfolding_all rfl | kernel_rfl) ?_)
  have hw : Within (fun y : Str => if y = "code" then some v1 else none) ["code"] := Within.cons "code" v1 (fun y hy => absurd rfl hy)
  obtain ⟨oD, _, _, hoD, _, _⟩ := hn₃.count hw
  refine set_plain X₃ (ox := { cls := .ref C, dict := some dx, data := .fields #[.ref t0, .none, .none, .none, .bool false, .none] }) (od := some oD) ⟨hx₃, rfl, rfl, hoD⟩ T.sa ?_
  refine ESX.osa_old X₃ hx₃ hn₃ hw (by decide) hcl rfl rfl T.noM (fun h₄ tk₄ k₄ hn₄ => ?_)
  show wpAny _ _ (execs _ _) _ _ _
  have xd : x ≠ dx := fun e => dne e.symm
  refine wpAny_execs_nil (hq h₄ tk₄ dx ⟨fun b o hb e => ?_, k₄ _ _ xd hx₃, Nat.le_of_lt (Nat.lt_of_lt_of_le z dn), dne, hn₄⟩)
  have e1 := k₃ b o hb (k b o e)
  refine k₄ b o (fun q => ?_) e1
  have q2 := Heap.lt_size (k b o e)
  rw [q] at q2
  exact absurd (Nat.lt_of_lt_of_le q2 dn) (Nat.lt_irrefl _)
theorem ref_made (T : RefTxt K mg C fI) {v1 v2 : Value} (X : K.In s.heap) (hlim : s.heap.NoLimit) (hroom : A.depth + 1 < recursionLimit)
    (hq : ∀ h' tk e d, Made2 s.heap h' e C d v1 v2 → R (.ok (.ret (.ref e))) { s with heap := h', toks := tk }) :
    codeAny (model prog w) A (.call (.ref C) ⟨[v1, v2], []⟩) R s := by
  obtain ⟨nm, q, N, bs, sn, sub, ab, col, dd, k0, k1, k2, k3, k5, hC⟩ := T.cls
  obtain ⟨hp, g, dr, tk, os⟩ := s
  have k : ∀ b o, hp.get? b = some o → ((hp.push (kdv_tup [v1, v2])).push (excO C hp.objs.size)).get? b = some o := fun b o e => Heap.get?_push_of_some _ (Heap.get?_push_of_some _ e)
  have hget : ((hp.push (kdv_tup [v1, v2])).push (excO C hp.objs.size)).get? (hp.objs.size + 1) = some (excO C hp.objs.size) := by heap_get
  have hnx : K.lookup (hp.objs.size + 1) = none := by
    cases e : K.lookup (hp.objs.size + 1) with
    | none => rfl
    | some o =>
      have z : hp.get? (hp.objs.size + 1) = some o := X _ _ e
      exact absurd (Nat.lt_of_succ_lt (Heap.lt_size z)) (Nat.lt_irrefl _)
  refine call_own F.excBase_Exception (fun X => rfl) (X _ _ hC) (looks_findIn X T.iC) (fun self => bind_fn X self T.tC) (two_size v1 v2) ?_
  refine ref_init (s := ⟨(hp.push (kdv_tup [v1, v2])).push (excO C hp.objs.size), g, dr, tk, os⟩) T (X.keeps k) (hlim.keeps k) hget hnx ?_ fun h' tk' dx ⟨k', hx, dn, dne, hns⟩ => ?_
  · show A.depth + 1 < recursionLimit
    exact hroom
  · have old : ∀ b o, hp.get? b = some o → h'.get? b = some o := fun b o e => k' b o (Nat.ne_of_lt (Nat.lt_succ_of_lt (Heap.lt_size e))) (k b o e)
    have z : hp.objs.size + 1 + 1 ≤ dx := by
      first
        | (simpa only [Heap.size_push] using dn)
        | exact dn
        | (have q := dn; rw [Heap.size_push, Heap.size_push] at q; exact q)
    exact ⟨rfl, hq h' tk' (hp.objs.size + 1) dx ⟨old, Nat.le_succ _, ⟨_, hx⟩, Nat.le_trans (Nat.le_trans (Nat.le_succ _) (Nat.le_succ _)) z, dne, hns⟩⟩
end
end GmX
end PySem
end

section
set_option maxRecDepth 100000
set_option maxHeartbeats 8000000
/-! # Own rules, part 2: Refused(a, b) as an expression that makes an exception; its fields read in the suite -/
namespace L2G
open PySem PySem.Spec PyProof.Rows L2
abbrev St := L2.St
/-- the own dict of a Refused -/
def refF (v1 v2 : V) : List (Str × V) := [("code", v1), ("message", v2)]
theorem relO_ref {v1 v2 : V} {u1 u2 : Value} (r1 : RelV v1 u1) (r2 : RelV v2 u2) (f : Str) : RelO (List.lookup f (refF v1 v2)) (PySem.GmX.two u1 u2 f) := by
  unfold refF PySem.GmX.two
  by_cases hm : f = "message"
  · subst hm
    have q : List.lookup ("message" : Str) [(("code" : Str), v1), (("message" : Str), v2)] = some v2 := by
      have n : (("message" : Str) == ("code" : Str)) = false := by decide
      simp [List.lookup, n]
    rw [q, if_pos rfl]
    exact r2
  · rw [if_neg hm]
    by_cases hc : f = "code"
    · subst hc
      rw [if_pos rfl]
      have q : List.lookup ("code" : Str) [(("code" : Str), v1), (("message" : Str), v2)] = some v1 := by simp [List.lookup]
      rw [q]
      exact r1
    · rw [if_neg hc]
      have n1 : (f == ("code" : Str)) = false := by simpa using hc
      have n2 : (f == ("message" : Str)) = false := by simpa using hm
      have q : List.lookup f [(("code" : Str), v1), (("message" : Str), v2)] = none := by simp [List.lookup, n1, n2]
      rw [q]
      trivial
section
variable {X : Cx} {C fI : Addr}
/-- Refused(a, b) -/
def tRefd (C : Addr) (ta : TA) : St → Hp → XK → Prop := fun σ H Q => ta σ H fun vs H1 => ∃ v1 v2, vs = [v1, v2] ∧ ∀ d, H1 d = none → Q (.ref C) (some d) (upd H1 d (.xd (refF v1 v2)))
theorem pmk_ref {a b : Expr} {ta : TA} {p pos : Pos} {k : Nat} (T : PySem.GmX.RefTxt X.K X.mg C fI) (hr : Room k X.A) (ha : PA X [a, b] ta) (hg : Gl X "Refused" := by rfl)
    (he : starEach (a :: [b]) X.env = (false, eval a X.env) :: starEach [b] X.env := by rfl) (hpl : (backTo pos (starEach [b] X.env)).any (·.1) = false := by rfl) :
    L2N.PMk X (.Call (.Name "Refused" p) [a, b] [] pos) (tRefd C ta) := by
  intro pins s σ H Q I h
  refine wpAny_Call_Name_kw (ld_glob I hg T.gC ?_)
  refine PySem.W.callWith_K (h₀ := X.base) I.ok.mod.kin T.kC (thn (ha.run pos pins s σ H _ I h) fun us s1 hh => ?_) he hpl
  obtain ⟨vs, H1, I1, r1, v1, v2, ev, q1⟩ := hh
  subst ev
  refine ⟨I1.kIn, ?_⟩
  obtain ⟨u1, u2, eu, ra, rb⟩ := Vals.two r1
  subst eu
  show wpAny _ _ (call (.ref C) [u1, u2]) _ _ _
  have hlim := I1.nolimit
  obtain ⟨hp, g, dr, tk, os⟩ := s1
  refine wpAny_call (PySem.GmX.ref_made T I1.kIn hlim (by have := hr.dp; omega) fun h' tk' e d M => ?_)
  show L2N.MkP X pins σ Q (.ref e) ⟨h', g, dr, tk', os⟩
  obtain ⟨t0, hoe⟩ := M.obj
  have hns := M.ns
  obtain ⟨G', g1, g2⟩ := restrict h' fun b => decide (b ≠ e)
  have gk : ∀ b, b ≠ e → G'.get? b = h'.get? b := fun b hb => g1 b (decide_eq_true hb)
  have ge : G'.get? e = none := g2 e (by simp)
  have old : ∀ b o, hp.get? b = some o → G'.get? b = some o := fun b o q => (gk b (Nat.ne_of_lt (Nat.lt_of_lt_of_le (Heap.lt_size q) M.new))).trans (M.keep b o q)
  have ob : ObjOk X.prog X.w (upd H1 d (.xd (refF v1 v2))) G' d (.xd (refF v1 v2)) :=
    ⟨_, hns.at (fun o q => (gk d M.dne).trans q), fun f => relO_ref ra rb f⟩
  have J : Inv X pins σ (upd H1 d (.xd (refF v1 v2))) ⟨G', g, dr, tk', os⟩ := I1.laid (t' := tk') old M.dbig ob
  refine ⟨e, _, _, ⟨G', g, dr, tk', os⟩, _, .ref C, some d, rfl, J, fun b o q => ?_, ge, hoe, ⟨rfl, rfl, fun vs e => by cases e; rfl⟩, rfl, rfl, ?_, rfl, I1.bare, raises_own T.exC T.tyC, q1 d (I1.hok.fresh M.dbig)⟩
  · by_cases hb : b = e
    · have q' : G'.get? b = some o := q
      rw [hb, ge] at q'; cases q'
    · exact (gk b hb).symm.trans q
  · rw [upd_ne (Ne.symm M.dne)]
    exact I1.hok.fresh M.new
/-- raise Refused(a, b) -/
theorem ps_raiseRef {a b : Expr} {ta : TA} {W : WX} {p pos pos2 : Pos} {k : Nat} (hc : X.calm = true) (T : PySem.GmX.RefTxt X.K X.mg C fI) (hr : Room k X.A) (tk : L2N.Takes X W) (ha : PA X [a, b] ta) (hg : Gl X "Refused" := by rfl)
    (he : starEach (a :: [b]) X.env = (false, eval a X.env) :: starEach [b] X.env := by rfl) (hpl : (backTo pos (starEach [b] X.env)).any (·.1) = false := by rfl) :
    PS X (.Raise (some (.Call (.Name "Refused" p) [a, b] [] pos)) none pos2) (fun _ σ H => tRefd C ta σ H fun cls d H' => W cls d σ H') := L2N.ps_raise hc tk (pmk_ref T hr ha hg he hpl)
/-- e.f, e the exception that the suite holds (at a; its class cls, its dict d) -/
def tByRef (C : Addr) (f : Str) (a : Addr) (cls : Value) (d : Option Addr) (te : TE) : TE := fun σ H Q => te σ H fun x H1 => x = .ref a ∧ cls = .ref C ∧ ∃ (dd : Addr) (v1 v2 v : V), d = some dd ∧ H1 dd = some (.xd (refF v1 v2)) ∧ (refF v1 v2).lookup f = some v ∧ Q v H1
theorem pe_byRef {f : Str} {a : Addr} {oe : Obj} {cls : Value} {d : Option Addr} {pn : List (Addr × Obj)} {e : Expr} {te : TE} {pos : Pos} (T : PySem.GmX.RefTxt X.K X.mg C fI) (hno : PySem.W.findIn X.K (.ref C) f = some none) (hz : L2N.Zn cls d oe) (hf : ∃ vs, oe.data = .fields vs) (he : PE (X.suite a ((a, oe) :: pn)) e te)
    (hb : attributeBase e f X.env (eval e X.env) = eval e X.env := by rfl) :
    PE (X.suite a ((a, oe) :: pn)) (.Attribute e f pos) (tByRef C f a cls d te) := by
  refine ⟨fun pins s σ H Q I h => ?_⟩
  refine attr_of hb (thn (he.run pins s σ H _ I h) fun u s1 hh => ?_)
  obtain ⟨x, H1, I1, rx, ex, ec, dd, v1, v2, v, ed, ea, l, q⟩ := hh
  subst ex
  obtain rfl : u = Value.ref a := rx
  subst ec
  subst ed
  obtain ⟨ha, _⟩ := I1.pin (a, oe) (List.mem_append_left _ List.mem_cons_self)
  obtain ⟨vs, hd⟩ := hf
  have hx : ObjOk X.prog X.w H1 s1.heap dd (.xd (refF v1 v2)) := I1.hok dd _ ea
  obtain ⟨mA, hns, hr⟩ := hx
  obtain ⟨od, ho, hl⟩ := lookIn_ns hns
  obtain ⟨u, hu, ru⟩ := RelO.some_of (v := v) (o := mA f) (by rw [← l]; exact hr f)
  have J : PySem.W.InstAt s1.heap a oe C (some od) := ⟨ha, hz.1, by unfold PySem.W.notCls; rw [hd] <;> rfl, by rw [hz.2.1]; exact ho⟩
  exact HandSPX.exc_get I1.kIn J T.ga T.gg T.exC (PySem.W.findObj_own T.hdC hno rfl (by rw [hl, hu])) (handed_of ru) ⟨v, H1, I1.tok _, ru, q⟩
end
end L2G
end

section
set_option maxRecDepth 100000
set_option maxHeartbeats 8000000
/-! # Own rules, part 3: try with a first clause that takes all that is raised, and others behind it -/
namespace L2G
open PySem PySem.Spec PyProof.Rows L2
/-- what the clause 'except x as n', the first of several, wishes: it takes the exception; slot i is n's -/
def wFirst (K : PySem.W.Frag) (c : Value) (i : Nat) (ts : Addr → Value → Option Addr → TS) (D : Ends) : WX := fun cls d σ H =>
  PySem.W.exmOne K cls c = some true ∧ ∀ a, H a = none → ts a cls d ⟨fun σ' H' => D.nx (σ'.set i none) H', D.rt, fun σ' H' => D.bk (σ'.set i none) H', fun σ' H' => D.ct (σ'.set i none) H'⟩ (σ.set i (some (.ref a))) H
section
variable {X : Cx} {x n : Str} {c : Value} {i : Nat} {body suite : List Stmt} {b₀ : Stmt} {np pos pos' : Pos} {tb : WX → TS} {ts : Addr → Value → Option Addr → TS} {more : List ExceptHandler}
theorem ps_try_first (hs : X.stack = X.env :: X.outer) (hf : X.env.frame = some X.env.locals) (hN : X.N.Nodup) (hi : X.N[i]? = some n) (hln : X.env.kindOf n = some .local) (hc : Names X x c)
    (hb : ∀ (W : WX) (pn : List (Addr × Obj)) (xe : Value → Shared → Prop), L2N.Takes (X.tr pn xe) W → PassesOwn (model X.prog X.w) X.A X.env xe → PSs (X.tr pn xe) body (tb W))
    (hsu : ∀ (a : Addr) (oe : Obj) (cls : Value) (d : Option Addr) (pn : List (Addr × Obj)), L2N.Zn cls d oe → (∃ vs, oe.data = .fields vs) → PSs (X.suite a ((a, oe) :: pn)) (b₀ :: suite) (ts a cls d)) :
    PS X (.Try body (.ExceptHandler (some (.Name x np)) (some n) (b₀ :: suite) pos' :: more) [] [] pos) (fun D σ H => tb (wFirst X.K c i ts D) D σ H) := by
  refine ⟨fun pins s σ H D I h => ?_⟩
  have ok := I.ok
  have hfr : X.A.frames = some (X.env :: X.outer) := by rw [ok.frames, hs]
  have hloc : Loc X.env.scope n := .inl hln
  refine wpAny_Try_except ?_
  refine wpAny_mono ((hb (wFirst X.K c i ts D) (X.pn ++ pins) (fun e s₁ => wpAny (model X.prog X.w) X.A (noteFrame e X.env) (fun _ s₂ => wpAny (model X.prog X.w) X.A (setFlight e none) (fun _ s₃ =>
    wpAny (model X.prog X.w) X.A (handleBy e X.env (.ExceptHandler (some (.Name x np)) (some n) (b₀ :: suite) pos' :: more)) (SP X pins D) X.xe s₃) X.xe s₂) X.xe s₁) (fun u s' xx => ?_) PassesOwn.looking).run [] s σ H D (I.toTry _) h) (fun f s1 hsp => ?_) (fun e s1 he => he)
  · obtain ⟨a, B, sI, pins', σ', H', cls, d, rfl, J', nb, up, sky, na, os, ag, hb1, hyes⟩ := xx
    have J : Inv X pins σ' H' sI := J'.ofTry ok
    have sky' : Sky B (X.env :: X.outer) a (L2N.Zn cls d) X.env.locals s'.heap := by rw [← hs]; exact sky
    show wpAny (model X.prog X.w) X.A (noteFrame (.ref a) X.env) _ _ _
    refine L2N.Sky.land L2N.Zn.steady hfr hf sky' fun h3 fl3 up3 => ?_
    have J3 : Inv X pins σ' H' { s' with heap := h3 } := J.landed nb fl3.1 (up.trans up3) os ag
    obtain ⟨oe3, vs3, he3, hz3, hd3⟩ := fl3.there
    have nfr : a ∉ frs (X.env :: X.outer) := fun hm => by
      obtain ⟨_, o', e', hnf⟩ := fl3.2.2.1.mem hm
      rw [he3] at e'; cases e'
      exact hnf _ hd3
    have nL : a ≠ X.env.locals := fun z => nfr (List.mem_filterMap.mpr ⟨X.env, List.mem_cons_self, by rw [hf, z]⟩)
    have nF : a ∉ X.fs := fun hm => by
      obtain ⟨e, he, q⟩ := List.mem_filterMap.mp hm
      exact nfr (List.mem_filterMap.mpr ⟨e, List.mem_cons_of_mem _ he, q⟩)
    have S3 := J3.suite he3 hd3 na nL nF
    refine wpAny_handleBy_cons (codeAny_handlers_test ?_) (by intro q; cases q)
    have LT : PySem.W.Looks (model X.prog X.w) h3 (typeOf (.ref a)) cls := fun A Q E s k q => wpAny_typeOf_ref (k _ _ he3) (by rw [hz3.1]; exact q)
    have LM := PySem.W.exm_one (M := model X.prog X.w) (J3.kIn) LT hb1
    have test : ∀ {Q : Value → Shared → Prop} {E : Value → Shared → Prop}, Q c { s' with heap := h3 } → wpAny (model X.prog X.w) (X.A.mark (some (.ref a))) (eval (.Name x np) X.env) Q E { s' with heap := h3 } := fun {Q E} q => by
      obtain ⟨hg, hdbg, hm | ⟨hm, hv, hnn⟩⟩ := hc
      · exact ld_glob (X := X.suite a ((a, oe3) :: (X.pn ++ pins))) S3 hg hm q hdbg
      · exact ld_blt (X := X.suite a ((a, oe3) :: (X.pn ++ pins))) S3 hg hm hv q hnn hdbg
    refine test (LM.here ?_)
    refine codeAny_handlers_suite_as ?_
    refine HandSPX.lands_againZ fl3 fun h4 fl4 up4 => ?_
    have J4 : Inv X pins σ' H' { s' with heap := h4 } := J.landed nb fl4.1 ((up.trans up3).trans up4) os ag
    obtain ⟨oe4, vs4, he4, hz4, hd4⟩ := fl4.there
    have S4 := J4.suite he4 hd4 na nL nF
    refine store_ok (X := X.suite a ((a, oe4) :: (X.pn ++ pins))) (v := .ref a) S4 hN hi hloc rfl (fun s5 S5 => ?_) (.inr hln)
    refine wpAny_mono ((hsu a oe4 cls d (X.pn ++ pins) hz4 ⟨_, hd4⟩).run [] s5 _ H' _ S5 (hyes a na)) (fun f s6 hsp => ?_) (fun _ _ z => False.elim z)
    have end_ : ∀ {σ6 : St} {H6 : Hp} {Q : Shared → Prop}, Inv (X.suite a ((a, oe4) :: (X.pn ++ pins))) [] σ6 H6 s6 → (∀ s7, Inv X pins (σ6.set i none) H6 s7 → Q s7) →
        wpAny (model X.prog X.w) X.A (do bindName X.env n .none; unbindBehindTheSuite X.env n pos') (fun _ s7 => Q s7) X.xe s6 := fun {σ6 H6 Q} S6 hq => gone_ok (S6.unsuite ok) hN hi hln hq
    cases f with
    | next =>
      obtain ⟨σ6, H6, S6, q6⟩ := hsp
      exact end_ S6 fun s7 J7 => ⟨_, _, J7, q6⟩
    | brk =>
      obtain ⟨σ6, H6, S6, q6⟩ := hsp
      exact end_ S6 fun s7 J7 => ⟨_, _, J7, q6⟩
    | cont =>
      obtain ⟨σ6, H6, S6, q6⟩ := hsp
      exact end_ S6 fun s7 J7 => ⟨_, _, J7, q6⟩
    | ret u =>
      obtain ⟨v6, σ6, H6, S6, r6, q6⟩ := hsp
      exact end_ S6 fun s7 J7 => ⟨_, _, _, J7, r6, q6⟩
  · cases f with
    | next =>
      obtain ⟨σ', H', J', q⟩ := hsp
      exact wpAny_execs_nil ⟨σ', H', J'.ofTry ok, q⟩
    | brk =>
      obtain ⟨σ', H', J', q⟩ := hsp
      exact ⟨σ', H', J'.ofTry ok, q⟩
    | cont =>
      obtain ⟨σ', H', J', q⟩ := hsp
      exact ⟨σ', H', J'.ofTry ok, q⟩
    | ret u =>
      obtain ⟨v, σ', H', J', r, q⟩ := hsp
      exact ⟨v, σ', H', J'.ofTry ok, r, q⟩
end
end L2G
end

section
set_option maxRecDepth 100000
set_option maxHeartbeats 8000000
/-! # Own rules, part 4: a list comprehension whose element may raise (out of a call) -/
namespace L2G
open PySem PySem.Spec PyProof.Rows L2
section
variable {Y : Cx} {pins : List (Addr × Obj)} {σ : St} {H : Hp} {s s' : Shared} {E : XK}
/-- a call's exception in the air, its flight over the frames, the state beneath it -/
theorem fly_of_call (I : Inv Y pins σ H s) {u : Value} (c : L2N.CX Y.prog Y.w Y.stack H s E u s') :
    ∃ (a : Addr) (B : Heap) (sI : Shared) (H' : Hp) (cls : Value) (d : Option Addr), u = .ref a ∧ Inv Y pins σ H' sI ∧ (∀ b o, sI.heap.get? b = some o → b ∉ frs Y.stack → B.get? b = some o) ∧ sI.heap.UpToSlots s'.heap ∧
      HandSPX.FlyingZ B Y.stack a (L2N.Zn cls d) s'.heap ∧ H' a = none ∧ s'.os = sI.os ∧ AllBare s'.gens ∧ E cls d H' := by
  obtain ⟨a, B, H', cls, d, rfl, fl, hok, ub, na, os, ag, hE⟩ := c
  obtain ⟨G, g1, g2⟩ := restrict s'.heap fun b => (B.get? b).isSome || decide (b ∈ frs Y.stack)
  have st : B.StaysIn s'.heap := fl.1
  have gB : ∀ b o, B.get? b = some o → G.get? b = some o := fun b o e => by
    rw [g1 b (by simp [e])]
    exact st b o e
  have gF : ∀ b, b ∈ frs Y.stack → G.get? b = s'.heap.get? b := fun b hb => g1 b (by simp [hb])
  have og : ∀ b o, G.get? b = some o → s'.heap.get? b = some o ∧ ((B.get? b).isSome = true ∨ b ∈ frs Y.stack) := fun b o e => by
    cases q : ((B.get? b).isSome || decide (b ∈ frs Y.stack)) with
    | false => rw [g2 b q] at e; cases e
    | true =>
      rw [g1 b q] at e
      exact ⟨e, by simpa [Bool.or_eq_true] using q⟩
  refine ⟨a, B, { s with heap := G, gens := s'.gens, drawn := s'.drawn, toks := s'.toks }, H', cls, d, rfl, ?_, fun b o e hb => ?_, Heap.UpToSlots.of_keeps fun b o e => (og b o e).1, fl, na, os, ag, hE⟩
  · refine I.call (ch := []) ⟨fun b o e n hb _ => gB b o (ub.keep b o e n hb), fun b o e n hb _ => ?_, fun b o e n _ => ub.free b o e n, fun b o e _ => ?_, ub.tups, ub.frzs, ub.tbls⟩ (hok.kept gB) ag (fun _ z => nomatch z)
    · obtain ⟨sl, q⟩ := ub.slot b o e hb
      exact ⟨sl, by rw [gF b hb]; exact q⟩
    · by_cases hb : b ∈ frs Y.stack
      · obtain ⟨sl, q⟩ := ub.slot b o e hb
        exact ⟨_, by rw [gF b hb]; exact q⟩
      · obtain ⟨o', q⟩ := ub.there b o e hb
        exact ⟨o', gB b o' q⟩
  · obtain ⟨e', h⟩ := og b o e
    rcases h with h | h
    · obtain ⟨o', q⟩ := Option.isSome_iff_exists.mp h
      have z := st b o' q
      rw [e'] at z; cases z
      exact q
    · exact absurd h hb
end
theorem TracedZ_sameBut {h h' base base' : Heap} {e C : Addr} {Z : Obj → Prop} {fl : Value} {m : Str → Option Value} (hn : h.Ns C m) (hs : Heap.SameBut C h h') (hb : ∀ b, base.get? b = none → base'.get? b = none) (t : HandSPX.TracedZ h base e Z fl) : HandSPX.TracedZ h' base' e Z fl := by
  obtain ⟨oe, vs, T, oT, ts, he, hz, hd, h1, hT0, hTe, hT, hdT, h3⟩ := t
  obtain ⟨o, es, ep, ho, hdo, _⟩ := hn
  have ne : ∀ {b : Addr} {ob : Obj} {ws : Array Value}, h.get? b = some ob → ob.data = .fields ws → b ≠ C := fun {b ob ws} e1 e2 z => by
    rw [z, ho] at e1; cases e1; rw [hdo] at e2; cases e2
  exact ⟨oe, vs, T, oT, ts, (hs.2 e (ne he hd)).trans he, hz, hd, h1, hb T hT0, hTe, (hs.2 T (ne hT hdT)).trans hT, hdT, h3⟩
section
variable {X : Cx}
/-- what flies out of the element is taken by the def around -/
theorem fails_of {E : XK} (hs : X.stack = X.env :: X.outer) (hf : X.env.frame = some X.env.locals) (tk : L2N.Takes X (fun cls d _ H => E cls d H)) {pins pins' : List (Addr × Obj)} {σ σ' : St} {H H1 : Hp} {s s1 s' : Shared} {scope : Scope} {cl : List (Str × Addr)} {C : Addr} {fp : List Addr} {ce : Env} {xe : Value → Shared → Prop}
    (I3 : Inv X pins σ H s) (hce : ce = compEnvC scope cl C X.env) (hC : s.heap.objs.size ≤ C) (hfp : ∀ b ∈ fp, FpOk X pins H b) (I : Inv ((X.blk s H scope ce fp).wish xe) pins' σ' H1 s1) {u : Value} (c : L2N.CX X.prog X.w X.stack H1 s1 E u s') :
    notedBy (model X.prog X.w) X.A ce (CompFails (model X.prog X.w) X.A X.xe ce) u s' := by
  obtain ⟨a, B, sI, H', cls, d, rfl, J, nb, up, fl, na, os, ag, hE⟩ := fly_of_call (Y := (X.blk s H scope ce fp).wish xe) I c
  have fl : HandSPX.FlyingZ B (X.env :: X.outer) a (L2N.Zn cls d) s'.heap := by rw [← hs]; exact fl
  have hfr : X.A.frames = some (X.env :: X.outer) := by rw [I3.ok.frames, hs]
  have hcf : ce.frame = X.env.frame := by rw [hce]; rfl
  have hcL : ce.locals = C := by rw [hce]; rfl
  show wpAny _ X.A (noteFrame (.ref a) ce) _ _ s'
  rw [noteFrame_env _ hcf]
  refine PXN.looks_onZ L2N.Zn.steady hfr hf fl fun h2 hh up2 => ?_
  obtain ⟨mC, hnC, _⟩ := J.loc
  have hnC : sI.heap.Ns C mC := by rw [← hcL]; exact hnC
  have hnC2 : h2.Ns C mC := (hnC.upToSlots up).upToSlots up2
  refine ⟨mC, by rw [hcL]; exact hnC2, fun h3 m3 hn3 sb => ?_⟩
  rw [hcL] at hn3 sb
  have t2 : HandSPX.TracedZ h2 B a (L2N.Zn cls d) (rawInt X.env.locals) := hh.2.2.2
  obtain ⟨B', b1, b2⟩ := restrict B fun b => decide (b ≠ C)
  obtain ⟨G, g1, g2⟩ := restrict sI.heap fun b => decide (b ≠ C)
  have bC : B'.get? C = none := b2 C (by simp)
  have bk : ∀ b, b ≠ C → B'.get? b = B.get? b := fun b h => b1 b (decide_eq_true h)
  have gk : ∀ b, b ≠ C → G.get? b = sI.heap.get? b := fun b h => g1 b (decide_eq_true h)
  have gC : G.get? C = none := g2 C (by simp)
  have bn : ∀ b, B.get? b = none → B'.get? b = none := fun b h => by
    by_cases e : b = C
    · rw [e]; exact bC
    · rw [bk b e]; exact h
  have st3 : B'.StaysIn h3 := fun b o e => by
    have hb : b ≠ C := fun z => by rw [z, bC] at e; cases e
    rw [bk b hb] at e
    exact (sb.2 b hb).trans (hh.1 b o e)
  have ff3 : h3.FunFrames B' (X.env :: X.outer) := by
    have f2 : h2.FunFrames B (X.env :: X.outer) := hh.2.2.1
    have f3 : h3.FunFrames B (X.env :: X.outer) := Heap.FunFrames.sameBut sb hn3 f2
    exact funFrames_none f3 fun L hL => bn L (f3.mem hL).1
  have t3 : HandSPX.TracedZ h3 B' a (L2N.Zn cls d) (rawInt X.env.locals) := TracedZ_sameBut hnC2 sb bn t2
  have held : HandSPX.HeldZ B' (X.env :: X.outer) a (L2N.Zn cls d) X.env.locals h3 := ⟨st3, bn a hh.2.1, ff3, t3⟩
  -- the def's state beneath
  have I7 : Inv X pins σ H' sI := I3.call' (ch := fp) J.os J.base J.hok J.bare fun b hb => ⟨(hfp b hb).2.2.2.1, (hfp b hb).2.1, (hfp b hb).2.2.2.2.1, (hfp b hb).2.2.2.2.2⟩
  have nC : H' C = none := by
    have z : H' ce.locals = none := J.free
    rwa [hcL] at z
  obtain ⟨f0, f1, f2, f3, f4, f5⟩ := I3.fpOk (H' := H') hC nC
  have I8 : Inv X pins σ H' { sI with heap := G, toks := sI.toks } := I7.turned (it := C) (fun b o hb e => (gk b hb).trans e) f0 f1 f3 f4 f5
  obtain ⟨oe, vs, T, oT, ts, he, hz, hd, h1, hT0, hTe, hT, hdT, h3'⟩ := id t3
  unfold PySem.passOn
  refine wpAny_bind (wpAny_field he hd h1 ?_)
  rw [if_neg (show ¬ ((Value.ref T == Value.none) = true) from by simp)]
  rw [hcf, hf]
  refine wpAny_bind (HandSPX.setFlight_onZ held fun h4 hh4 up4 => wpAny_throw (tk _ _ ?_))
  refine ⟨a, B', { sI with heap := G, toks := sI.toks }, pins, σ, H', cls, d, rfl, I8, fun b o e hb => ?_, fun b o e hnf => ?_, .inr (.inr (by rw [hs]; exact hh4)), na, os, ag, hE⟩
  · have hbC : b ≠ C := fun z => by
      have e' : G.get? b = some o := e
      rw [z, gC] at e'; cases e'
    have e' : G.get? b = some o := e
    rw [gk b hbC] at e'
    rw [bk b hbC]
    exact nb b o e' hb
  · have hbC : b ≠ C := fun z => by
      have e' : G.get? b = some o := e
      rw [z, gC] at e'; cases e'
    have e' : G.get? b = some o := e
    rw [gk b hbC] at e'
    obtain ⟨sl1, e1⟩ := up b o e' hnf
    obtain ⟨sl2, e2⟩ := up2 b _ e1 hnf
    have e3 : h3.get? b = _ := (sb.2 b hbC).trans e2
    have e3' : h3.get? b = some { o with slots := sl2 } := e3
    obtain ⟨sl3, e4⟩ := up4 b { o with slots := sl2 } e3' hnf
    exact ⟨sl3, e4⟩
end
end L2G
end

section
set_option maxRecDepth 100000
set_option maxHeartbeats 8000000
/-! # Own rules, part 5: the comprehension with a raising element, as a value that a name takes -/
namespace L2G
open PySem PySem.Spec PyProof.Rows L2
section
variable {X : Cx}
abbrev blkW (X : Cx) (s : Shared) (H : Hp) (scope : Scope) (cenv : Env) (fp : List Addr) (xe : Value → Shared → Prop) : Cx := (X.blk s H scope cenv fp).wish xe
theorem lc_coreX {E : XK} {pins : List (Addr × Obj)} {s : Shared} {σ : St} {H : Hp} {Q : VK} {elt tg iter : Expr} {ifs : List Expr} {scope : Scope} {own : List (Str × Nat)} {pos pos' : Pos} {wi : TI} {g : TG} {tt : TT} {te : TE} {use : Option (Value → Sem Unit)} {Qf : Value → Shared → Prop}
    (hst : X.stack = X.env :: X.outer) (hfr : X.env.frame = some X.env.locals) (tk : L2N.Takes X (fun cls d _ H => E cls d H))
    (hc : X.calm = true) (hN : X.N.Nodup) (I : Inv X pins σ H s) (hi : PI X tg iter wi) (ok : BlkOk X.N X.env.scope scope own)
    (hg : ∀ (s : Shared) (H : Hp) (C : Addr) (cl : List (Str × Addr)) (fp : List Addr) (xe : Value → Shared → Prop), PG (blkW X s H scope (compEnvC scope cl C X.env) fp xe) tg g)
    (ht : ∀ (s : Shared) (H : Hp) (C : Addr) (cl : List (Str × Addr)) (fp : List Addr) (xe : Value → Shared → Prop), PTs (blkW X s H scope (compEnvC scope cl C X.env) fp xe) ifs tt)
    (he : ∀ (s : Shared) (H : Hp) (C : Addr) (cl : List (Str × Addr)) (fp : List Addr) (xe : Value → Shared → Prop), Passes (L2N.CX X.prog X.w) (blkW X s H scope (compEnvC scope cl C X.env) fp xe) E → PE (blkW X s H scope (compEnvC scope cl C X.env) fp xe) elt te)
    (hs : ∀ x, foldedSetIterable iter X.env x = pure x)
    (h : tLc wi g tt te (own.map (·.2)) σ H Q)
    (hRR : ∀ D C s' m H', Inv X pins σ H' s' → Q (.ref D) H' → s'.heap.Ns C m → FpOk X pins H' C → compPost (model X.prog X.w) X.A X.xe use Qf (.ref D) C (.ok .next) s') :
    wpAny (model X.prog X.w) X.A (comprehension (.ListComp elt [⟨tg, iter, ifs, 0⟩] scope pos) scope X.env pos' (newList []) false (eval iter X.env) use) Qf X.xe s := by
  have hfree : ∀ y ∈ scope.names, y.2 = .free → ∃ c, X.env.cells.lookup y.1 = some c := fun y hy e => by
    rcases ok.free y hy e with k | k
    · exact I.ok.has _ (.inl k)
    · exact I.ok.has _ (.inr k)
  refine comprehension_at (use := use) rfl hs (closure_ok hfree) ok.kind (fun y hy e => by rw [ok.uniq y hy, e])
    (thn (hi.run pins s σ H _ I h) fun xv s1 hx => thn hx fun itv s2 h2 => ?_)
  obtain ⟨it, fp, tn, J, H2, e, I2, T, st2, f2, q⟩ := h2
  subst e
  refine wpAny_newObj_type (newEnv_comp ?_) (by show 0 ≤ sizeLine; decide)
  generalize hD : s2.heap.objs.size = D
  have hDn : H2 D = none := I2.hok.fresh (Nat.le_of_eq hD)
  obtain ⟨W, ⟨m0, w0⟩, turn⟩ := q D hDn
  generalize hs3 : ({ s2 with heap := s2.heap.push { cls := .type "list", data := .seq ([] : List Value).toArray } } : Shared) = s3
  have I3 : Inv X pins σ (upd H2 D (.lst [])) s3 := by
    rw [← hs3]
    refine I2.laid (t' := s2.toks) (fun b o e => Heap.get?_push_of_some _ e) (Nat.le_of_eq hD) ⟨Nat.zero_le _, [], 0, .nil, ?_⟩
    rw [← hD]
    exact Heap.get?_push_size _ rfl
  have h3 : s3.heap = s2.heap.push { cls := .type "list", data := .seq ([] : List Value).toArray } := by rw [← hs3]
  have sz : ∀ b ∈ fp, b < s2.heap.objs.size := fun b hb => by
    obtain ⟨o, e, _⟩ := T.obj _ _ st2 b hb
    exact Heap.lt_size e
  have f3 : ∀ b ∈ fp, FpOk X pins (upd H2 D (.lst [])) b ∧ b < s3.heap.objs.size := fun b hb => by
    have hlt := sz b hb
    refine ⟨⟨?_, (f2 b hb).2⟩, by rw [h3, Heap.size_push]; exact Nat.lt_succ_of_lt hlt⟩
    rw [upd_ne (by rw [← hD]; exact Nat.ne_of_lt hlt)]
    exact (f2 b hb).1
  have st3 : tn 0 s3.heap := T.keep _ _ _ st2 fun b _ o e => by rw [h3]; exact Heap.get?_push_of_some _ e
  have I4 := block_start I3 ok hN f3
  generalize hcl : cellsFrom (s3.heap.objs.size + 1) scope.names (cloFrom X.env.cells scope.names []) = cl at I4
  show codeAny _ _ (.compStart (.ListComp elt [⟨tg, iter, ifs, 0⟩] scope pos) 0 (.ref it) (.ref D) (compEnvC scope cl s3.heap.objs.size X.env)) (compEnds (model X.prog X.w) X.A X.xe use Qf (.ref D) (compEnvC scope cl s3.heap.objs.size X.env)) { s3 with heap := pushCells (s3.heap.push { cls := .type "dict", data := .dict #[] }) scope.names }
  have nfp : ∀ b ∈ fp, (upd H2 D (.lst [])) b = none := fun b hb => (f3 b hb).1.1
  generalize hH3 : upd H2 D (.lst []) = H3 at I3 I4 w0 nfp f3
  have pg := fun xe => hg s3 H3 s3.heap.objs.size cl fp xe
  have pt := fun xe => ht s3 H3 s3.heap.objs.size cl fp xe
  have pe := fun xe => he s3 H3 s3.heap.objs.size cl fp xe
  generalize hce : compEnvC scope cl s3.heap.objs.size X.env = ce at I4 pg pt pe ⊢
  have cL : ce.locals = s3.heap.objs.size := by subst hce; rfl
  generalize hs4 : ({ s3 with heap := pushCells (s3.heap.push { cls := .type "dict", data := .dict #[] }) scope.names } : Shared) = s4 at I4 ⊢
  have st4 : tn 0 s4.heap := T.keep _ _ _ st3 fun b _ o e => by rw [← hs4]; exact pushCells_keeps _ _ _ _ (Heap.get?_push_of_some _ e)
  -- the wish of the block
  obtain ⟨xe, hxe⟩ : ∃ xe : Value → Shared → Prop, xe = notedBy (model X.prog X.w) X.A ce (CompFails (model X.prog X.w) X.A X.xe ce) := ⟨_, rfl⟩
  have I4 : Inv (blkW X s3 H3 scope ce fp xe) [] (wipe σ (own.map (·.2))) H3 s4 := I4.toTry xe
  have pass : Passes (L2N.CX X.prog X.w) (blkW X s3 H3 scope ce fp xe) E := fun pins1 σ1 H1 s1 u s' I1 c => by
    show xe u s'
    rw [hxe]
    exact fails_of hst hfr tk I3 hce.symm (Nat.le_refl _) (fun b hb => (f3 b hb).1) I1 c
  have stat : ∀ {σ' : St} {H' : Hp} {s' : Shared}, Inv (blkW X s3 H3 scope ce fp xe) [] σ' H' s' → (∀ b ∈ fp, H' b = none) → ∀ b ∈ fp, FpOk (blkW X s3 H3 scope ce fp xe) [] H' b := fun {σ' H' s'} I' hn b hb =>
    ⟨hn b hb, (I'.ok.exf b hb).1, I'.ok.exfs b hb, .inl hb, fun x c e => (I'.ok.exf b hb).2 x c e, fun p hp => absurd (show p ∈ ([] : List (Addr × Obj)) ++ [] from hp) (by simp)⟩
  have loop : codeAny (model X.prog X.w) X.A (.compLoop (.ListComp elt [⟨tg, iter, ifs, 0⟩] scope pos) 0 (.ref it) (.ref D) ce) (compEnds (model X.prog X.w) X.A X.xe use Qf (.ref D) ce) s4 := by
    have ex : (notedBy (model X.prog X.w) X.A ce fun e s' => compEnds (model X.prog X.w) X.A X.xe use Qf (.ref D) ce (.error e) s') = xe := by
      rw [hxe]
      cases use <;> rfl
    refine compLoop_any (fun n s' => ∃ i H', Inv (blkW X s3 H3 scope ce fp xe) [] (wipe σ (own.map (·.2))) H' s' ∧ tn i s'.heap ∧ (∀ b ∈ fp, H' b = none) ∧ W i n H') ?_ m0 ⟨0, H3, I4, st4, nfp, w0⟩
    rintro n s5 ⟨i, H5, I5, st5, n5, w5⟩
    rw [ex]
    rcases turn i n H5 w5 with ⟨stop, qq⟩ | ⟨go, Nx, hNx, step⟩
    · have td := T.done (blkW X s3 H3 scope ce fp xe) rfl rfl rfl hc i [] s5 _ H5 xe I5 (stat I5 n5) st5 stop
      refine thn td fun r s6 ⟨hr, I6⟩ => ?_
      subst hr
      have I7 : Inv X pins σ H5 s6 := I3.call' (ch := fp) I6.os I6.base I6.hok I6.bare fun b hb => ⟨(f3 b hb).1.2.2.2.1, (f3 b hb).1.2.1, (f3 b hb).1.2.2.2.2.1, (f3 b hb).1.2.2.2.2.2⟩
      have nC : H5 s3.heap.objs.size = none := by
        have z : H5 ce.locals = none := I6.free
        rw [cL] at z
        exact z
      obtain ⟨m, hn, _⟩ := I6.loc
      have hn : s6.heap.Ns ce.locals m := hn
      rw [cL] at hn
      have fin := hRR D s3.heap.objs.size s6 m H5 I7 qq hn (I3.fpOk (Nat.le_refl _) nC)
      cases use with
      | none =>
        obtain ⟨m1, n1, k1⟩ := fin
        exact ⟨m1, by rw [cL]; exact n1, fun h' sb => k1 h' (by rw [← cL]; exact sb)⟩
      | some u =>
        show wpAny _ _ _ _ _ _
        refine wpAny_mono (show wpAny _ _ _ _ _ _ from fin) (fun _ s7 q7 => ?_) fun _ _ z => z
        obtain ⟨m1, n1, k1⟩ := q7
        exact ⟨m1, by rw [cL]; exact n1, fun h' sb => k1 h' (by rw [← cL]; exact sb)⟩
    · have ti := T.item (blkW X s3 H3 scope ce fp xe) rfl rfl rfl hc i [] s5 _ H5 xe I5 (stat I5 n5) st5 go
      refine thn ti fun r s6 ⟨u, hr, h6⟩ => ?_
      subst hr
      refine thn h6 fun _ s7 ⟨x, H7, I7, r7, y7, st7, n7⟩ => ?_
      have I7' := I7.pinned (stat I7 n7) (T.obj _ _ st7)
      refine thn ((pg xe).run _ s7 _ H7 x u _ I7' r7 (step x H7 y7)) fun _ s8 ⟨σ8, H8, I8, hw8, q8⟩ => ?_
      refine thn ((pt xe).run _ s8 σ8 H8 _ I8 q8) fun b s9 ⟨H9, I9, q9⟩ => ?_
      have fin : ∀ {s' : Shared} {H' : Hp}, Inv (blkW X s3 H3 scope ce fp xe) ([] ++ pinsAt fp s7.heap) σ8 H' s' → Nx H' → ∃ m, m < n ∧ ∃ i H', Inv (blkW X s3 H3 scope ce fp xe) [] (wipe σ (own.map (·.2))) H' s' ∧ tn i s'.heap ∧ (∀ b ∈ fp, H' b = none) ∧ W i m H' := fun {s' H'} I' nx => by
        obtain ⟨m', hm, w'⟩ := hNx H' nx
        have pin' : ∀ b ∈ fp, ∀ o, s7.heap.get? b = some o → s'.heap.get? b = some o ∧ H' b = none := fun b hb o e =>
          let z := I'.pin (b, o) (List.mem_append_right _ (List.mem_append_right _ (mem_pinsAt hb e)))
          ⟨z.1, z.2.1⟩
        have hl : (wipe σ (own.map (·.2))).length = σ8.length := by rw [← hw8, wipe_length]
        refine ⟨m', hm, i + 1, H', (I'.unpinned (pins := [])).weak hl (fun j v e => ?_), T.keep _ _ _ st7 fun b hb o e => (pin' b hb o e).1, fun b hb => ?_, w'⟩
        · rw [← hw8] at e
          exact (wipe_some e).1
        · obtain ⟨o, e, _⟩ := T.obj _ _ st7 b hb
          exact (pin' b hb o e).2
      cases b with
      | false =>
        simp only [Bool.false_eq_true, if_false] at q9 ⊢
        exact fin I9 q9
      | true =>
        simp only [if_true] at q9 ⊢
        refine thn ((pe xe pass).run _ s9 σ8 H9 _ I9 q9) fun z s10 ⟨yv, H10, I10, r10, acc, hD10, hz10, nx⟩ => ?_
        exact app_ok (X := blkW X s3 H3 scope ce fp xe) I10 hD10 hz10 r10 fun s11 I11 => fin I11 nx
  exact codeAny_compStart_list loop (T.self X.A 0 _ _ _ st4 loop)
/-- name = [..] on one line, the name a local -/
theorem ps_setLcX {E : XK} {i : Nat} {y : Str} {py : Pos} {elt tg iter : Expr} {ifs : List Expr} {scope : Scope} {own : List (Str × Nat)} {pos spos : Pos} {wi : TI} {g : TG} {tt : TT} {te : TE} (hst : X.stack = X.env :: X.outer) (hfr : X.env.frame = some X.env.locals) (tk : L2N.Takes X (fun cls d _ H => E cls d H))
    (hc : X.calm = true) (hN : X.N.Nodup) (hy : X.N[i]? = some y) (hyl : X.env.scope.names.lookup y = some .local)
    (hsw : swapsWith (.ListComp elt [⟨tg, iter, ifs, 0⟩] scope pos) (some (.Name y py)) spos.line X.env = pure true) (hi : PI X tg iter wi) (ok : BlkOk X.N X.env.scope scope own)
    (hg : ∀ (s : Shared) (H : Hp) (C : Addr) (cl : List (Str × Addr)) (fp : List Addr) (xe : Value → Shared → Prop), PG (blkW X s H scope (compEnvC scope cl C X.env) fp xe) tg g)
    (ht : ∀ (s : Shared) (H : Hp) (C : Addr) (cl : List (Str × Addr)) (fp : List Addr) (xe : Value → Shared → Prop), PTs (blkW X s H scope (compEnvC scope cl C X.env) fp xe) ifs tt)
    (he : ∀ (s : Shared) (H : Hp) (C : Addr) (cl : List (Str × Addr)) (fp : List Addr) (xe : Value → Shared → Prop), Passes (L2N.CX X.prog X.w) (blkW X s H scope (compEnvC scope cl C X.env) fp xe) E → PE (blkW X s H scope (compEnvC scope cl C X.env) fp xe) elt te)
    (hs : ∀ x, foldedSetIterable iter X.env x = pure x := by intro _; rfl) :
    PS X (.Assign [.Name y py] (.ListComp elt [⟨tg, iter, ifs, 0⟩] scope pos) spos) (tAsg (tLc wi g tt te (own.map (·.2))) (gName i)) := by
  refine ⟨fun pins s σ H D I h => ?_⟩
  rw [exec_Assign_Name_used _ _ _ _ hsw]
  refine wpAny_bind (wpAny_standAt (wpAny_bind ?_))
  show wpAny _ X.A (do let _ ← comprehension (.ListComp elt [⟨tg, iter, ifs, 0⟩] scope pos) scope X.env (firstIterPos [⟨tg, iter, ifs, 0⟩] pos) (newList []) false (eval iter X.env) (some (assign (.Name y py) X.env))) _ _ s
  have h : tLc wi g tt te (own.map (·.2)) σ H (fun x H1 => gName i x σ H1 D.nx) := h
  refine wpAny_bind (thn (lc_coreX (Qf := fun _ s' => SP X pins D .next s') hst hfr tk hc hN I hi ok hg ht he hs h fun L C s' m H' I' q hn f => ?_) fun _ s' hq => wpAny_pure (wpAny_pure hq))
  show wpAny _ _ (assign (.Name y py) X.env (.ref L)) _ _ _
  refine wpAny_assign_Name (store_ok2 (v := V.ref L) I' hN hy (.inl hyl) rfl (fun s2 I2 ⟨a, sb, ha⟩ => ?_) (.inr hyl))
  obtain ⟨f0, f1, f2, f3, f4, f5⟩ := f
  have haC : C ≠ a := by
    rcases ha with z | z
    · rw [z]; exact f1
    · exact fun e => f4 y a z e.symm
  refine ⟨m, hn.sameBut sb haC, fun h3 sb3 => ?_⟩
  exact ⟨_, H', I2.turned (t' := s2.toks) (fun b o hb e => (sb3.2 b hb).trans e) f0 f1 f3 f4 f5, q⟩
end
end L2G
end

section
set_option maxRecDepth 100000
set_option maxHeartbeats 8000000
/-! # Own rules, part 6: within an except suite (hot): a comprehension over a plain ASCII text -/
namespace L2G
open PySem PySem.Spec PyProof.Rows L2 L2H HotX
section
variable {prog : Program} {w : World} {A : Around} {E : Value → Shared → Prop} {s : Shared}
theorem next_ascii_end_hot {it x1 : Addr} {x : Str} {t : Tok} {i : Nat} {Q : Option Value → Shared → Prop} (hot : HotAt A x1 s.heap)
    (hit : s.heap.IsStrIter it "str_ascii_iterator" x t i) (hx : x.cps[i]? = none) (hne : x1 ≠ it)
    (hQ : ∀ h', (∀ b o, b ≠ it → s.heap.get? b = some o → h'.get? b = some o) → Q none { s with heap := h' }) : wpAny (model prog w) A (pyNext (.ref it)) Q E s := by
  obtain ⟨o, ho, hc, hd⟩ := id hit
  obtain ⟨hh, o1, vs1, h1, d1, c1⟩ := hot
  unfold pyNext
  refine wpAny_bind (wpAny_attempt (wpAny_callSpecial?_slot (name := Str.ofString "__next__") hit.typeIs F.slot_str_ascii_iterator_next
    (wpAny_call_entry F.slot_str_ascii_iterator_next hit.typeIs F.entry_str_ascii_iterator_next ?_ (F.args_str_ascii_iterator_next_1 _))))
  show wpAny _ _ (field (.ref it) 0 >>= _) _ _ s
  refine wpAny_bind (wpAny_field ho hd (x := .str x t) rfl ?_)
  show wpAny _ _ (field (.ref it) 1 >>= _) _ _ s
  refine wpAny_bind (wpAny_field ho hd (x := .int i 0) rfl ?_)
  simp only [Int.toNat_natCast, hx]
  refine wpAny_bind (wpAny_rule (wpAny_bind (wpAny_setField ho hd (by simp) (wpAny_bind (wpAny_letGo ?_)))))
  show wpAny _ _ (newExc (.type "StopIteration") [] >>= _) _ _ _
  refine wpAny_bind ?_
  simp only [newExc, newTuple]
  refine wpAny_bind (wpAny_newObj_type ?_ (by size_fits))
  refine wpAny_bind (m := firstArgMember _ _) (wpAny_of_eq (a := Value.none) (by first | rfl | (simp only [firstArgMember]; rfl)) ?_)
  refine wpAny_newObj_type ?_ (by size_fits)
  have h1' := (Heap.get?_update_other s.heap (Obj.mapFields fun x => x.setIfInBounds 0 Value.none) (Ne.symm hne)).trans h1
  refine raiseNew_hot ⟨hh, o1, vs1, Heap.get?_push_of_some _ (Heap.get?_push_of_some _ h1'), d1, c1⟩ (Nat.ne_of_lt (Heap.lt_size (Heap.get?_push_of_some _ h1'))) (Heap.get?_push_size _ rfl) rfl (by first | (simp; done) | (simp; omega) | (simp only [Array.size_append]; simp; omega)) ?_
  refine wpAny_bind (wpAny_isInstance (T := "StopIteration") (b := true) ⟨_, Heap.get?_update_self _ (Heap.get?_push_size _ rfl) rfl, rfl⟩ isSubtype_stop ?_)
  refine wpAny_pure (hQ _ fun b o hb e => ?_)
  have e' := (Heap.get?_update_other s.heap (Obj.mapFields fun x => x.setIfInBounds 0 Value.none) (Ne.symm hb)).trans e
  rw [Heap.get?_update_other _ _ (Nat.ne_of_gt (Heap.lt_size (Heap.get?_push_of_some _ e')))]
  exact Heap.get?_push_of_some _ (Heap.get?_push_of_some _ e')
end
/-- a plain ASCII text, sign by sign -/
theorem turn_asciiH {P : Program} {w : World} {K : PySem.W.Frag} {tg : Expr} (it : Addr) (x : Str) (t : Tok) :
    TurnH P w K tg (Its x) [it] it (fun i h => h.IsStrIter it "str_ascii_iterator" x t i) where
  mem := by simp
  obj := fun i h st b hb => by
    have e : b = it := by simpa using hb
    subst e
    obtain ⟨o, e, c, d⟩ := st
    exact ⟨o, e, fun v z => by rw [d] at z; cases z⟩
  keep := fun i h h' st k => let ⟨o, ho, r⟩ := st; ⟨o, k it (by simp) o ho, r⟩
  item := by
    intro X hP hw hK hc i pins s σ H E I hf st hg
    subst hP hw hK
    obtain ⟨f0, f1, f2, f3, f4, f5⟩ := hf it (by simp)
    have hlt : i < x.cps.size := hg
    refine wpAny_pyNext_ascii_item st (c := x.cps[i]) (by simp [hlt]) fun h' st' sb => ?_
    have I1 : Inv X pins σ H { s with heap := h', toks := s.toks + 1 } := I.turned (fun b o hb e => (sb.2 b hb).trans e) f0 f1 f3 f4 f5
    obtain ⟨oi, e, cc, dd⟩ := id st'
    exact ⟨_, rfl, go_of (s := { s with heap := h', toks := s.toks + 1 }) e cc dd (by decide) ⟨.str ⟨#[x.cps[i]]⟩, H, I1, ⟨_, rfl⟩, ⟨rfl, x.cps[i], by simp [hlt], rfl⟩, st', fun b hb => (hf b hb).1⟩⟩
  done := by
    intro X hP hw hK hc i pins s σ H E I hf st hg
    subst hP hw hK
    obtain ⟨f0, f1, f2, f3, f4, f5⟩ := hf it (by simp)
    have hx : x.cps[i]? = none := Array.getElem?_eq_none hg
    obtain ⟨p, ⟨hh, v1, e1, c1⟩, hp⟩ := hc
    have hp' := (I.pin p (List.mem_append_left _ hp)).1
    exact next_ascii_end_hot (x1 := p.1) ⟨hh, p.2, v1, hp', e1, c1⟩ st hx (f5 p (List.mem_append_left _ hp)) fun h' eb => ⟨rfl, I.turned (t' := s.toks) (fun b o hb e => eb b o hb e) f0 f1 f3 f4 f5⟩
  self := fun A i s Q E st h => wpAny_pyIter_striter_ascii st h
def iAsc (te : TE) : TI := fun σ H R => te σ H fun v H1 => ∃ x, v = .str x ∧ x.cps.all (· < 128) = true ∧ R (Its x) H1
theorem pi_asciiH {X : Cx} {tg e : Expr} {te : TE} (he : PE X e te) : PIH X tg e (iAsc te) := by
  refine ⟨fun pins s σ H R I h => ?_⟩
  refine thn (he.run pins s σ H _ I h) fun v s1 ⟨y, H1, I1, r1, x, ex, ha, q⟩ => ?_
  subst ex
  obtain ⟨t, rfl⟩ := r1
  refine wpAny_pyIter_ascii ha ?_
  refine ⟨s1.heap.objs.size, [s1.heap.objs.size], _, _, H1, rfl, I1.kept (t' := s1.toks) fun b o e => Heap.get?_push_of_some _ e, turn_asciiH _ x t, ⟨_, Heap.get?_push_size _ rfl, rfl, rfl⟩, fun b hb => ?_, q⟩
  have e : b = s1.heap.objs.size := by simpa using hb
  subst e
  exact I1.fpOk (Nat.le_refl _) (I1.hok.fresh (Nat.le_refl _))
section
variable {X : Cx}
/-- the block's context, hot: the handled exception p pinned -/
abbrev blkH (X : Cx) (s : Shared) (H : Hp) (scope : Scope) (cenv : Env) (fp : List Addr) (p : Addr × Obj) : Cx := (X.blk s H scope cenv fp).tr [p] fun _ _ => False
theorem lc_coreH {p : Addr × Obj} {pins : List (Addr × Obj)} {s : Shared} {σ : St} {H : Hp} {Q : VK} {elt tg iter : Expr} {ifs : List Expr} {scope : Scope} {own : List (Str × Nat)} {pos pos' : Pos} {wi : TI} {g : TG} {tt : TT} {te : TE} {Qf : Value → Shared → Prop}
    (hp1 : Hot1 X.A p) (hp2 : p ∈ X.pn) (hN : X.N.Nodup) (I : Inv X pins σ H s) (hi : PIH X tg iter wi) (ok : BlkOk X.N X.env.scope scope own)
    (hg : ∀ (s : Shared) (H : Hp) (C : Addr) (cl : List (Str × Addr)) (fp : List Addr), PG (blkH X s H scope (compEnvC scope cl C X.env) fp p) tg g) (ht : ∀ (s : Shared) (H : Hp) (C : Addr) (cl : List (Str × Addr)) (fp : List Addr), PTs (blkH X s H scope (compEnvC scope cl C X.env) fp p) ifs tt)
    (he : ∀ (s : Shared) (H : Hp) (C : Addr) (cl : List (Str × Addr)) (fp : List Addr), PE (blkH X s H scope (compEnvC scope cl C X.env) fp p) elt te) (hs : ∀ x, foldedSetIterable iter X.env x = pure x)
    (h : tLc wi g tt te (own.map (·.2)) σ H Q)
    (hRR : ∀ D C s' m H', Inv X pins σ H' s' → Q (.ref D) H' → s'.heap.Ns C m → FpOk X pins H' C → compPost (model X.prog X.w) X.A X.xe none Qf (.ref D) C (.ok .next) s') :
    wpAny (model X.prog X.w) X.A (comprehension (.ListComp elt [⟨tg, iter, ifs, 0⟩] scope pos) scope X.env pos' (newList []) false (eval iter X.env) none) Qf X.xe s := by
  have hfree : ∀ y ∈ scope.names, y.2 = .free → ∃ c, X.env.cells.lookup y.1 = some c := fun y hy e => by
    rcases ok.free y hy e with k | k
    · exact I.ok.has _ (.inl k)
    · exact I.ok.has _ (.inr k)
  refine wpAny_comprehension_free (use := none) rfl hs (closure_ok hfree) ok.kind (fun y hy e => by rw [ok.uniq y hy, e])
    (thn (hi.run pins s σ H _ I h) fun xv s1 hx => thn hx fun itv s2 h2 => ?_)
  obtain ⟨it, fp, tn, J, H2, e, I2, T, st2, f2, q⟩ := h2
  subst e
  refine wpAny_newObj_type (newEnv_comp ?_) (by show 0 ≤ sizeLine; decide)
  generalize hD : s2.heap.objs.size = D
  have hDn : H2 D = none := I2.hok.fresh (Nat.le_of_eq hD)
  obtain ⟨W, ⟨m0, w0⟩, turn⟩ := q D hDn
  generalize hs3 : ({ s2 with heap := s2.heap.push { cls := .type "list", data := .seq ([] : List Value).toArray } } : Shared) = s3
  have I3 : Inv X pins σ (upd H2 D (.lst [])) s3 := by
    rw [← hs3]
    refine I2.laid (t' := s2.toks) (fun b o e => Heap.get?_push_of_some _ e) (Nat.le_of_eq hD) ⟨Nat.zero_le _, [], 0, .nil, ?_⟩
    rw [← hD]
    exact Heap.get?_push_size _ rfl
  have h3 : s3.heap = s2.heap.push { cls := .type "list", data := .seq ([] : List Value).toArray } := by rw [← hs3]
  have sz : ∀ b ∈ fp, b < s2.heap.objs.size := fun b hb => by
    obtain ⟨o, e, _⟩ := T.obj _ _ st2 b hb
    exact Heap.lt_size e
  have f3 : ∀ b ∈ fp, FpOk X pins (upd H2 D (.lst [])) b ∧ b < s3.heap.objs.size := fun b hb => by
    have hlt := sz b hb
    refine ⟨⟨?_, (f2 b hb).2⟩, by rw [h3, Heap.size_push]; exact Nat.lt_succ_of_lt hlt⟩
    rw [upd_ne (by rw [← hD]; exact Nat.ne_of_lt hlt)]
    exact (f2 b hb).1
  have st3 : tn 0 s3.heap := T.keep _ _ _ st2 fun b _ o e => by rw [h3]; exact Heap.get?_push_of_some _ e
  have I4 := block_start I3 ok hN f3
  generalize hcl : cellsFrom (s3.heap.objs.size + 1) scope.names (cloFrom X.env.cells scope.names []) = cl at I4
  show codeAny _ _ (.compStart (.ListComp elt [⟨tg, iter, ifs, 0⟩] scope pos) 0 (.ref it) (.ref D) (compEnvC scope cl s3.heap.objs.size X.env)) (compPost (model X.prog X.w) X.A X.xe none Qf (.ref D) s3.heap.objs.size) { s3 with heap := pushCells (s3.heap.push { cls := .type "dict", data := .dict #[] }) scope.names }
  have nfp : ∀ b ∈ fp, (upd H2 D (.lst [])) b = none := fun b hb => (f3 b hb).1.1
  generalize hH3 : upd H2 D (.lst []) = H3 at I3 I4 w0 nfp f3
  have pg := hg s3 H3 s3.heap.objs.size cl fp
  have pt := ht s3 H3 s3.heap.objs.size cl fp
  have pe := he s3 H3 s3.heap.objs.size cl fp
  generalize hce : compEnvC scope cl s3.heap.objs.size X.env = ce at I4 pg pt pe ⊢
  have cL : ce.locals = s3.heap.objs.size := by subst hce; rfl
  have kp4 : ∀ b o, s3.heap.get? b = some o → (pushCells (s3.heap.push { cls := .type "dict", data := .dict #[] }) scope.names).get? b = some o := fun b o e => pushCells_keeps _ _ _ _ (Heap.get?_push_of_some _ e)
  generalize hs4 : ({ s3 with heap := pushCells (s3.heap.push { cls := .type "dict", data := .dict #[] }) scope.names } : Shared) = s4 at I4 ⊢
  have kp4' : ∀ b o, s3.heap.get? b = some o → s4.heap.get? b = some o := fun b o e => by rw [← hs4]; exact kp4 b o e
  have st4 : tn 0 s4.heap := T.keep _ _ _ st3 fun b _ o e => kp4' b o e
  -- the handled exception is pinned in the block, too
  have hpin := I3.pin p (List.mem_append_left _ hp2)
  have pinB : s4.heap.get? p.1 = some p.2 ∧ H3 p.1 = none ∧ p.1 ≠ ce.locals ∧ p.1 ∉ frs X.stack ∧ ∀ v, p.2.data ≠ .cell v := by
    refine ⟨kp4' _ _ hpin.1, hpin.2.1, ?_, fun hm => ?_, hpin.2.2.2.2⟩
    · rw [cL]
      exact Nat.ne_of_lt (Heap.lt_size hpin.1)
    · rcases List.mem_cons.mp (I3.stkSub _ hm) with z | z
      · exact hpin.2.2.1 z
      · exact hpin.2.2.2.1 z
  have I4 : Inv (blkH X s3 H3 scope ce fp p) [] (wipe σ (own.map (·.2))) H3 s4 := by
    have J := I4
    refine ⟨J.ok.toTry _ _, J.os, J.bare, J.base, J.loc, J.cell, J.free, J.freeC, fun q hq => ?_, J.hok, J.len⟩
    have e : q = p := by simpa using hq
    subst e
    exact pinB
  have hot : HotC (blkH X s3 H3 scope ce fp p) := ⟨p, hp1, List.mem_cons_self ..⟩
  have stat : ∀ {σ' : St} {H' : Hp} {s' : Shared}, Inv (blkH X s3 H3 scope ce fp p) [] σ' H' s' → (∀ b ∈ fp, H' b = none) → ∀ b ∈ fp, FpOk (blkH X s3 H3 scope ce fp p) [] H' b := fun {σ' H' s'} I' hn b hb =>
    ⟨hn b hb, (I'.ok.exf b hb).1, I'.ok.exfs b hb, .inl hb, fun x c e => (I'.ok.exf b hb).2 x c e, fun q hq => by
      have e : q = p := by simpa using hq
      subst e
      exact (f2 b hb).2.2.2.2.2 q (List.mem_append_left _ hp2)⟩
  have loop : codeAny (model X.prog X.w) X.A (.compLoop (.ListComp elt [⟨tg, iter, ifs, 0⟩] scope pos) 0 (.ref it) (.ref D) ce) (compPost (model X.prog X.w) X.A X.xe none Qf (.ref D) s3.heap.objs.size) s4 := by
    refine compLoop_any (fun n s' => ∃ i H', Inv (blkH X s3 H3 scope ce fp p) [] (wipe σ (own.map (·.2))) H' s' ∧ tn i s'.heap ∧ (∀ b ∈ fp, H' b = none) ∧ W i n H') ?_ m0 ⟨0, H3, I4, st4, nfp, w0⟩
    rintro n s5 ⟨i, H5, I5, st5, n5, w5⟩
    rcases turn i n H5 w5 with ⟨stop, qq⟩ | ⟨go, Nx, hNx, step⟩
    · have td := T.done (blkH X s3 H3 scope ce fp p) rfl rfl rfl hot i [] s5 _ H5 (fun _ _ => False) I5 (stat I5 n5) st5 stop
      refine thnF td fun r s6 ⟨hr, I6⟩ => ?_
      subst hr
      have I7 : Inv X pins σ H5 s6 := I3.call' (ch := fp) I6.os I6.base I6.hok I6.bare fun b hb => ⟨(f3 b hb).1.2.2.2.1, (f3 b hb).1.2.1, (f3 b hb).1.2.2.2.2.1, (f3 b hb).1.2.2.2.2.2⟩
      have nC : H5 s3.heap.objs.size = none := by
        have z : H5 ce.locals = none := I6.free
        rw [cL] at z
        exact z
      obtain ⟨m, hn, _⟩ := I6.loc
      have hn : s6.heap.Ns ce.locals m := hn
      rw [cL] at hn
      exact hRR D s3.heap.objs.size s6 m H5 I7 qq hn (I3.fpOk (Nat.le_refl _) nC)
    · have ti := T.item (blkH X s3 H3 scope ce fp p) rfl rfl rfl hot i [] s5 _ H5 (fun _ _ => False) I5 (stat I5 n5) st5 go
      refine thnF ti fun r s6 ⟨u, hr, h6⟩ => ?_
      subst hr
      refine thnF h6 fun _ s7 ⟨x, H7, I7, r7, y7, st7, n7⟩ => ?_
      have I7' := I7.pinned (stat I7 n7) (T.obj _ _ st7)
      refine thnF (pg.run _ s7 _ H7 x u _ I7' r7 (step x H7 y7)) fun _ s8 ⟨σ8, H8, I8, hw8, q8⟩ => ?_
      refine thnF (pt.run _ s8 σ8 H8 _ I8 q8) fun b s9 ⟨H9, I9, q9⟩ => ?_
      have fin : ∀ {s' : Shared} {H' : Hp}, Inv (blkH X s3 H3 scope ce fp p) ([] ++ pinsAt fp s7.heap) σ8 H' s' → Nx H' → ∃ m, m < n ∧ ∃ i H', Inv (blkH X s3 H3 scope ce fp p) [] (wipe σ (own.map (·.2))) H' s' ∧ tn i s'.heap ∧ (∀ b ∈ fp, H' b = none) ∧ W i m H' := fun {s' H'} I' nx => by
        obtain ⟨m', hm, w'⟩ := hNx H' nx
        have pin' : ∀ b ∈ fp, ∀ o, s7.heap.get? b = some o → s'.heap.get? b = some o ∧ H' b = none := fun b hb o e =>
          let z := I'.pin (b, o) (List.mem_append_right _ (List.mem_append_right _ (mem_pinsAt hb e)))
          ⟨z.1, z.2.1⟩
        have hl : (wipe σ (own.map (·.2))).length = σ8.length := by rw [← hw8, wipe_length]
        refine ⟨m', hm, i + 1, H', (I'.unpinned (pins := [])).weak hl (fun j v e => ?_), T.keep _ _ _ st7 fun b hb o e => (pin' b hb o e).1, fun b hb => ?_, w'⟩
        · rw [← hw8] at e
          exact (wipe_some e).1
        · obtain ⟨o, e, _⟩ := T.obj _ _ st7 b hb
          exact (pin' b hb o e).2
      cases b with
      | false =>
        simp only [Bool.false_eq_true, if_false] at q9 ⊢
        exact fin I9 q9
      | true =>
        simp only [if_true] at q9 ⊢
        refine thnF (pe.run _ s9 σ8 H9 _ I9 q9) fun z s10 ⟨yv, H10, I10, r10, acc, hD10, hz10, nx⟩ => ?_
        exact app_ok (X := blkH X s3 H3 scope ce fp p) I10 hD10 hz10 r10 fun s11 I11 => fin I11 nx
  exact codeAny_compStart_list loop (T.self X.A 0 _ _ _ st4 loop)
/-- as a value, within an except suite -/
theorem pe_lcH {p : Addr × Obj} {elt tg iter : Expr} {ifs : List Expr} {scope : Scope} {own : List (Str × Nat)} {pos : Pos} {wi : TI} {g : TG} {tt : TT} {te : TE} (hp1 : Hot1 X.A p) (hp2 : p ∈ X.pn) (hN : X.N.Nodup) (hi : PIH X tg iter wi) (ok : BlkOk X.N X.env.scope scope own)
    (hg : ∀ (s : Shared) (H : Hp) (C : Addr) (cl : List (Str × Addr)) (fp : List Addr), PG (blkH X s H scope (compEnvC scope cl C X.env) fp p) tg g) (ht : ∀ (s : Shared) (H : Hp) (C : Addr) (cl : List (Str × Addr)) (fp : List Addr), PTs (blkH X s H scope (compEnvC scope cl C X.env) fp p) ifs tt)
    (he : ∀ (s : Shared) (H : Hp) (C : Addr) (cl : List (Str × Addr)) (fp : List Addr), PE (blkH X s H scope (compEnvC scope cl C X.env) fp p) elt te) (hs : ∀ x, foldedSetIterable iter X.env x = pure x := by intro _; rfl) :
    PE X (.ListComp elt [⟨tg, iter, ifs, 0⟩] scope pos) (tLc wi g tt te (own.map (·.2))) := by
  refine ⟨fun pins s σ H Q I h => ?_⟩
  rw [eval_ListComp]
  refine lc_coreH hp1 hp2 hN I hi ok hg ht he hs h fun D C s' m H' I' q hn f => ⟨m, hn, fun h'' sb => ?_⟩
  obtain ⟨f0, f1, f2, f3, f4, f5⟩ := f
  exact ⟨.ref D, H', I'.turned (t' := s'.toks) (fun b o hb e => (sb.2 b hb).trans e) f0 f1 f3 f4 f5, rfl, q⟩
end
end L2G
end

section
set_option maxRecDepth 100000
set_option maxHeartbeats 8000000
/-! # Own rules, part 7: zip of three lists of one length; xs[i] += e; list(d) of a dict that is read; a, b = x, y with cells -/
namespace L2G
open PySem PySem.Spec PyProof.Rows L2
/-- the lists at a, b and c, the items in new triples -/
def Itz3 (K : PySem.W.Frag) (a b c : Addr) : It :=
  ⟨fun i H => ∃ (xs ys zs : List V) (x y z : V), SqL K H a xs ∧ SqL K H b ys ∧ SqL K H c zs ∧ xs[i]? = some x ∧ ys[i]? = some y ∧ zs[i]? = some z,
    fun i H v H' => ∃ T x y z, v = .ref T ∧ H T = none ∧ H' = upd H T (.tup [x, y, z]) ∧ (∀ xs, SqL K H a xs → xs[i]? = some x) ∧ (∀ ys, SqL K H b ys → ys[i]? = some y) ∧ ∀ zs, SqL K H c zs → zs[i]? = some z,
    fun i H => ∃ xs ys zs : List V, SqL K H a xs ∧ SqL K H b ys ∧ SqL K H c zs ∧ xs.length = i ∧ ys.length = i ∧ zs.length = i⟩
theorem turn_zip3 {P : Program} {w : World} {K : PySem.W.Frag} {elts : List Expr} {kk : Nat} {tpos : Pos} {a b c z TI TO i1 i2 i3 : Addr} (D : ZipSep3 z TI TO i1 i2 i3 [i1, a] [i2, b] [i3, c]) (q1 : a ≠ i1) (q2 : b ≠ i2) (q3 : c ≠ i3) :
    Turn P w K (.Tuple elts kk tpos) (Itz3 K a b c) [z, TI, TO, i1, i2, i3] z (fun i h => IsZip h z TI TO .none ∧ IsTupOf3 h TI (.ref i1) (.ref i2) (.ref i3) ∧ (∃ x y u, IsTupOf3 h TO x y u) ∧ h.IsListIter i1 a i ∧ h.IsListIter i2 b i ∧ h.IsListIter i3 c i) where
  mem := by simp
  obj := fun i h st d hd => by
    obtain ⟨hz, hTI, ⟨x, y, u, hTO⟩, ⟨o1, e1, _, d1⟩, ⟨o2, e2, _, d2⟩, ⟨o3, e3, _, d3⟩⟩ := st
    have e' : d = z ∨ d = TI ∨ d = TO ∨ d = i1 ∨ d = i2 ∨ d = i3 := by simpa using hd
    rcases e' with q | q | q | q | q | q
    · rw [q]; exact ⟨_, hz, fun v q => nomatch q⟩
    · rw [q]; exact ⟨_, hTI, fun v q => nomatch q⟩
    · rw [q]; exact ⟨_, hTO, fun v q => nomatch q⟩
    · rw [q]; exact ⟨o1, e1, fun v q => by rw [d1] at q; cases q⟩
    · rw [q]; exact ⟨o2, e2, fun v q => by rw [d2] at q; cases q⟩
    · rw [q]; exact ⟨o3, e3, fun v q => by rw [d3] at q; cases q⟩
  keep := fun i h h' st k => by
    obtain ⟨hz, hTI, ⟨x, y, u, hTO⟩, h1, h2, h3⟩ := st
    exact ⟨k z (by simp) _ hz, k TI (by simp) _ hTI, ⟨x, y, u, k TO (by simp) _ hTO⟩, h1.at fun o q => k i1 (by simp) o q, h2.at fun o q => k i2 (by simp) o q, h3.at fun o q => k i3 (by simp) o q⟩
  item := by
    intro X hP hw hK hc i pins s σ H E I hf st hg
    subst hP hw hK
    obtain ⟨hz, hTI, hTO, h1, h2, h3⟩ := st
    obtain ⟨xs, ys, zs, x, y, u, hqx, hqy, hqz, hx, hy, hu⟩ := hg
    obtain ⟨its1, rv1, p1, _⟩ := I.list hqx
    obtain ⟨its2, rv2, p2, _⟩ := I.list hqy
    obtain ⟨its3, rv3, p3, _⟩ := I.list hqz
    obtain ⟨v1, hv1, ru1⟩ := rv1.get hx
    obtain ⟨v2, hv2, ru2⟩ := rv2.get hy
    obtain ⟨v3, hv3, ru3⟩ := rv3.get hu
    have n1 : i < its1.toArray.size := by simpa using (List.getElem?_eq_some_iff.mp hv1).1
    have n2 : i < its2.toArray.size := by simpa using (List.getElem?_eq_some_iff.mp hv2).1
    have n3 : i < its3.toArray.size := by simpa using (List.getElem?_eq_some_iff.mp hv3).1
    have hh : X.A.in1.handled = none := I.ok.hd hc
    have W := WalksT.zipD3 D (Draws.list (prog := X.prog) (w := X.w) hh i1 a q1 its1.toArray) (Draws.list (prog := X.prog) (w := X.w) hh i2 b q2 its2.toArray) (Draws.list (prog := X.prog) (w := X.w) hh i3 c q3 its3.toArray)
    refine W.item i s _ E (by omega) ⟨hz, hTI, hTO, ⟨h1, p1.isList⟩, ⟨h2, p2.isList⟩, ⟨h3, p3.isList⟩⟩ fun T vals h' tk hP hnew hT hm hk => ⟨_, rfl, W.go elts kk tpos i T { s with heap := h', toks := tk } _ E hm fun h'' st2 hk2 => ?_⟩
    obtain ⟨x1, x2, x3, e1, e2, e3, rfl⟩ := hP
    have e1' : x1 = v1 := by
      have q : its1.toArray[i]? = some v1 := by simpa using hv1
      rw [e1] at q
      exact Option.some.inj q
    have e2' : x2 = v2 := by
      have q : its2.toArray[i]? = some v2 := by simpa using hv2
      rw [e2] at q
      exact Option.some.inj q
    have e3' : x3 = v3 := by
      have q : its3.toArray[i]? = some v3 := by simpa using hv3
      rw [e3] at q
      exact Option.some.inj q
    subst e1' e2' e3'
    have hT2 : h''.IsTuple T #[x1, x2, x3] := hT.at fun o e => hk2 T o (W.apart i T h' hm) e
    have new : ObjOk X.prog X.w (upd H T (.tup [x, y, u])) h'' T (.tup [x, y, u]) :=
      ⟨by show 3 ≤ sizeLine; decide, [x1, x2, x3], .cons ru1 (.cons ru2 (.cons ru3 .nil)), hT2⟩
    have wr : ∀ d, d ∉ [z, TI, TO, i1, i2, i3] → d ∉ [z, TO, i1, i2, i3] := fun d h m => h (by
      have e' : d = z ∨ d = TO ∨ d = i1 ∨ d = i2 ∨ d = i3 := by simpa using m
      rcases e' with q | q | q | q | q <;> simp [q])
    have I1 : Inv X pins σ (upd H T (.tup [x, y, u])) { s with heap := h'', toks := tk } :=
      I.turnedNew (t' := tk) (ch := [z, TI, TO, i1, i2, i3]) (fun d o hb q => hk2 d o (wr d hb) (hk d o (wr d hb) q)) hf hnew new
    obtain ⟨a1, a2, a3, a4, a5, a6⟩ := st2
    have live : ∀ d ∈ [z, TI, TO, i1, i2, i3], d < s.heap.objs.size := fun d hd => by
      obtain ⟨o1, w1, _⟩ := h1
      obtain ⟨o2, w2, _⟩ := h2
      obtain ⟨o3, w3, _⟩ := h3
      obtain ⟨_, _, _, hTO⟩ := hTO
      have e' : d = z ∨ d = TI ∨ d = TO ∨ d = i1 ∨ d = i2 ∨ d = i3 := by simpa using hd
      rcases e' with q | q | q | q | q | q
      · rw [q]; exact Heap.lt_size hz
      · rw [q]; exact Heap.lt_size hTI
      · rw [q]; exact Heap.lt_size hTO
      · rw [q]; exact Heap.lt_size w1
      · rw [q]; exact Heap.lt_size w2
      · rw [q]; exact Heap.lt_size w3
    refine ⟨.ref T, _, I1, rfl, ⟨T, x, y, u, rfl, I.hok.fresh hnew, rfl, fun l hl => by rw [I.list_inj hl hqx]; exact hx, fun l hl => by rw [I.list_inj hl hqy]; exact hy, fun l hl => by rw [I.list_inj hl hqz]; exact hu⟩, ⟨a1, a2, a3, a4.1, a5.1, a6.1⟩, fun d hd => ?_⟩
    rw [upd_ne (Nat.ne_of_lt (Nat.lt_of_lt_of_le (live d hd) hnew))]
    exact (hf d hd).1
  done := by
    intro X hP hw hK hc i pins s σ H E I hf st hg
    subst hP hw hK
    obtain ⟨hz, hTI, ⟨_, _, _, hTO⟩, h1, h2, h3⟩ := st
    obtain ⟨xs, ys, zs, hqx, hqy, hqz, l1, l2, l3⟩ := hg
    obtain ⟨its1, rv1, p1, _⟩ := I.list hqx
    obtain ⟨its2, rv2, p2, _⟩ := I.list hqy
    obtain ⟨its3, rv3, p3, _⟩ := I.list hqz
    have m1 := rv1.length
    have m2 := rv2.length
    have m3 := rv3.length
    have hh : X.A.in1.handled = none := I.ok.hd hc
    have s1 : its1.toArray.size = i := by simp; omega
    have s2 : its2.toArray.size = i := by simp; omega
    have s3 : its3.toArray.size = i := by simp; omega
    refine wpAny_pyNext_zipD3_end (i := i) D (Draws.list (prog := X.prog) (w := X.w) hh i1 a q1 its1.toArray) (Draws.list (prog := X.prog) (w := X.w) hh i2 b q2 its2.toArray) (Draws.list (prog := X.prog) (w := X.w) hh i3 c q3 its3.toArray)
      hz hTI hTO ⟨h1, p1.isList⟩ ⟨h2, p2.isList⟩ ⟨h3, p3.isList⟩ (by omega) (by omega) (by omega) (.inl s1.symm) fun h' tk hk => ⟨rfl, I.turnedL (t' := tk) (ch := [z, TI, TO, i1, i2, i3]) (fun d o hb q => ?_) hf⟩
    refine hk d o (fun e => hb (by simp [e])) (fun e => hb (by simp [e])) (fun e => hb (by simp [e])) (fun e => hb (by simp [e])) (fun e => hb (by simp [e])) q
  self := fun A i s Q E st h => wpAny_pyIter_zip st.1 h
def iZip3 (K : PySem.W.Frag) (ta : TA) : TI := fun σ H R => ta σ H fun vs H1 => ∃ a b c xs ys zs, vs = [.ref a, .ref b, .ref c] ∧ SqL K H1 a xs ∧ SqL K H1 b ys ∧ SqL K H1 c zs ∧ R (Itz3 K a b c) H1
theorem pi_zip3 {X : Cx} {e e2 e3 : Expr} {ta : TA} {p pos tpos : Pos} {elts : List Expr} {kk : Nat} (hg : Gl X "zip") (hm : X.mg "zip" = none) (ha : PA X [e, e2, e3] ta)
    (hs : starEach [e, e2, e3] X.env = (false, eval e X.env) :: starEach [e2, e3] X.env := by rfl) (hpl : (backTo pos (starEach [e2, e3] X.env)).any (·.1) = false := by rfl) :
    PI X (.Tuple elts kk tpos) (.Call (.Name "zip" p) [e, e2, e3] [] pos) (iZip3 X.K ta) := by
  refine ⟨fun pins s σ H R I h => ?_⟩
  refine Call_ (ld_blt I hg hm PyProof.Rows.boot_zip (PyProof.Rows.callWith_type1 (thn (ha.run pos pins s σ H _ I h) fun us s1 ⟨vs, H1, I1, r1, q1⟩ => ?_) hs hpl))
  obtain ⟨a, b, c, xs, ys, zs, ex, hqx, hqy, hqz, q⟩ := q1
  subst ex
  cases r1 with
  | cons ra rr =>
  cases rr with
  | cons rb rr =>
  cases rr with
  | cons rc rr =>
  cases rr
  cases ra
  cases rb
  cases rc
  obtain ⟨its1, rv1, p1, _⟩ := I1.list hqx
  obtain ⟨its2, rv2, p2, _⟩ := I1.list hqy
  obtain ⟨its3, rv3, p3, _⟩ := I1.list hqz
  have la : a < s1.heap.objs.size := p1.lt
  have lb : b < s1.heap.objs.size := p2.lt
  have lc : c < s1.heap.objs.size := p3.lt
  refine zip_begins3 (begins_list a its1.toArray) (begins_list b its2.toArray) (begins_list c its3.toArray) p1.isList p2.isList p3.isList fun h' hz hTI hTO g1 g2 g3 hsz hk => wpAny_pyIter_zip hz ?_
  have I2 : Inv X pins σ H1 { s1 with heap := h' } := I1.kept (t' := s1.toks) hk
  have one : ∀ {N l : Nat}, l < N → ∀ d ∈ [l], d < N := fun {N l} h d hd => by
    have e : d = l := by simpa using hd
    rw [e]; exact h
  have sep := zip_sep3 (N := s1.heap.objs.size) (fp1 := [a]) (fp2 := [b]) (fp3 := [c]) (one la) (one lb) (one lc)
  refine ⟨s1.heap.objs.size + 5, [s1.heap.objs.size + 5, s1.heap.objs.size + 3, s1.heap.objs.size + 4, s1.heap.objs.size, s1.heap.objs.size + 1, s1.heap.objs.size + 2], _, _, H1, rfl, I2,
    turn_zip3 sep (Nat.ne_of_lt la) (Nat.ne_of_lt (Nat.lt_succ_of_lt lb)) (Nat.ne_of_lt (Nat.lt_succ_of_lt (Nat.lt_succ_of_lt lc))), ⟨hz, hTI, ⟨_, _, _, hTO⟩, ⟨_, g1, rfl, rfl⟩, ⟨_, g2, rfl, rfl⟩, ⟨_, g3, rfl, rfl⟩⟩, fun d hd => ?_, q⟩
  have hle : s1.heap.objs.size ≤ d := by
    have e' : d = s1.heap.objs.size + 5 ∨ d = s1.heap.objs.size + 3 ∨ d = s1.heap.objs.size + 4 ∨ d = s1.heap.objs.size ∨ d = s1.heap.objs.size + 1 ∨ d = s1.heap.objs.size + 2 := by simpa using hd
    rcases e' with q | q | q | q | q | q
    · rw [q]; exact Nat.le_add_right _ _
    · rw [q]; exact Nat.le_add_right _ _
    · rw [q]; exact Nat.le_add_right _ _
    · rw [q]; exact Nat.le_refl _
    · rw [q]; exact Nat.le_add_right _ _
    · rw [q]; exact Nat.le_add_right _ _
  exact I1.fpOk hle (I1.hok.fresh hle)
/-! ### xs[i] += e, i from 0 on -/
def rGetL (K : PySem.W.Frag) : V → V → Hp → VK → Prop := fun x y H Q => ∃ p xs i v, x = .ref p ∧ y = .int i ∧ 0 ≤ i ∧ SqL K H p xs ∧ atI xs i = some v ∧ Q v H
theorem get_list {X : Cx} : PGet X (rGetL X.K) := by
  intro pins s σ H x y v u Q I rx ry h
  obtain ⟨p, xs, i, z, rfl, rfl, h0, hq, he, q⟩ := h
  cases rx
  obtain ⟨t, rfl⟩ := ry
  obtain ⟨its, r, pl, hz⟩ := I.list hq
  obtain ⟨j, h1, h2, h3, h4, h5⟩ := atI_get he
  obtain ⟨w, ew, rw'⟩ := r.get h2
  have hl := r.length
  have hn := line63
  have fin : EP X pins σ Q w s := ⟨z, H, I, rw', q⟩
  have hj : i.toNat = j := by
    rw [seqIndex_of h0 h5] at h1
    exact Option.some.inj h1
  exact wpAny_getItem_list pl.isList h0 (by omega) (by rw [hj]; simpa using ew) fin
/-! ### list(d), d a dict that is read (locked or not) -/
def rListDR : List V → Hp → VK → Prop := fun xs H Q => ∃ p kvs, xs = [.ref p] ∧ Rd H p (.dK kvs) ∧ ∀ q, H q = none → Q (.ref q) (upd H q (.lst (kvs.map fun kv => kV kv.1)))
theorem call_list_dR {X : Cx} (hc : X.calm = true) : CallR X (.type "list") rListDR := by
  intro pins s σ H xs us Q I r h
  obtain ⟨p, kvs, e, hk, q⟩ := h
  subst e
  obtain ⟨u, eu, rx⟩ := vals1 r
  subst eu
  obtain rfl : u = Value.ref p := rx
  obtain ⟨z, lo, vs, rk, hd⟩ := dk_rd I.hok hk
  obtain ⟨ep, hat⟩ := hd.dictAt
  have hl : kvs.length = vs.length := Paired.length rk
  refine PySem.W.kdl_call (PySem.W.kdl_dict (knd := mixKind X.prog X.w) (kvs := vs) (ep := ep) lo) (I.ok.hd hc) hat (by rw [← hl]; exact z) fun h' tk acc' c' hkeep hS hacc => ?_
  refine ⟨.ref s.heap.objs.size, upd H s.heap.objs.size (.lst (kvs.map fun kv => kV kv.1)), I.laid hkeep (Nat.le_refl _) (show ObjOk X.prog X.w _ _ _ (.lst (kvs.map fun kv => kV kv.1)) from ⟨?_, acc'.toList, c', ?_, ?_⟩), rfl, q _ (I.hok.fresh (Nat.le_refl _))⟩
  · rw [List.length_map]; exact z
  · have el : acc'.toList.length = acc'.size := by simp
    refine vals_of_at (by rw [List.length_map, el, hacc.1, hl]) fun j x w h1 h2 => ?_
    obtain ⟨k, y, hky, hi⟩ := hacc.2 j w (by rw [← Array.getElem?_toList]; exact h2)
    have e1 : (kvs.map (·.1))[j]? = some k := by
      rw [KV.keys rk, List.getElem?_map, hky] <;> rfl
    have e2 : (kvs.map fun kv => kV kv.1)[j]? = some (kV k) := by
      have e3 : (kvs.map fun kv => kV kv.1) = (kvs.map (·.1)).map kV := by rw [List.map_map] <;> rfl
      rw [e3, List.getElem?_map, e1] <;> rfl
    rw [e2] at h1
    cases h1
    exact keyIs_rel hi
  · rw [Array.toArray_toList]; exact hS
end L2G
end

section
set_option maxRecDepth 100000
set_option maxHeartbeats 8000000
/-! # The mathematics, part 1: trees of groups. Plain Lean over the specification alone -/
namespace GmM
open R7278g.Spec

/-! ### lists -/
theorem nodup_le : ∀ (n : Nat) (l : List Nat), l.Nodup → (∀ x ∈ l, x < n) → l.length ≤ n
  | 0, l, _, h => by
    cases l with
    | nil => exact Nat.le_refl _
    | cons a r => exact absurd (h a (List.mem_cons_self ..)) (Nat.not_lt_zero _)
  | n + 1, l, nd, h => by
    by_cases hm : n ∈ l
    · have h1 := nodup_le n (l.erase n) (nd.erase n) fun x hx => by
        have hx' := (nd.mem_erase_iff).mp hx
        have := h x hx'.2
        omega
      rw [List.length_erase_of_mem hm] at h1
      omega
    · have h1 := nodup_le n l nd fun x hx => by
        have := h x hx
        have : x ≠ n := fun e => hm (e ▸ hx)
        omega
      omega

abbrev par (gs : Groups) (g : Nat) : Nat := (gs.at_ g).parent
theorem live_lt {gs : Groups} {g : Nat} (h : live gs g = true) : g < gs.length := by
  unfold live at h
  simp only [Bool.and_eq_true, decide_eq_true_eq] at h
  exact h.1
theorem live_iff {gs : Groups} {g : Nat} : live gs g = true ↔ g < gs.length ∧ (gs.at_ g).dead = false := by
  unfold live
  simp

/-- n steps up to the root, all of it live -/
inductive Up (gs : Groups) : Nat → Nat → Prop
  | root : live gs 0 = true → Up gs 0 0
  | step {n g : Nat} : g ≠ 0 → live gs g = true → Up gs n (par gs g) → Up gs (n + 1) g
theorem Up.live {gs : Groups} {n g : Nat} (u : Up gs n g) : live gs g = true := by
  cases u with
  | root h => exact h
  | step _ h _ => exact h
theorem Up.uniq {gs : Groups} : ∀ {n m g : Nat}, Up gs n g → Up gs m g → n = m := by
  intro n m g a
  induction a generalizing m with
  | root _ =>
    intro b
    cases b with
    | root _ => rfl
    | step h _ _ => exact absurd rfl h
  | step h _ _ ih =>
    intro b
    cases b with
    | root _ => exact absurd rfl h
    | step _ _ b => rw [ih b]
/-- enough fuel, and more -/
theorem Up.fuel {gs : Groups} {n g : Nat} (u : Up gs n g) : ∀ {k : Nat}, n < k → chainOf gs k g = chainOf gs (n + 1) g := by
  induction u with
  | root _ =>
    intro k hk
    cases k with
    | zero => omega
    | succ k => rfl
  | @step n g h _ _ ih =>
    intro k hk
    cases k with
    | zero => omega
    | succ k =>
      show (if g = 0 then [0] else g :: chainOf gs k (par gs g)) = (if g = 0 then [0] else g :: chainOf gs (n + 1) (par gs g))
      rw [if_neg h, if_neg h, ih (by omega)]
theorem Up.path_len {gs : Groups} {n g : Nat} (u : Up gs n g) : (chainOf gs (n + 1) g).length = n + 1 := by
  induction u with
  | root _ => rfl
  | @step n g h _ _ ih =>
    show (if g = 0 then [0] else g :: chainOf gs (n + 1) (par gs g)).length = _
    rw [if_neg h, List.length_cons, ih]
theorem Up.path_mem {gs : Groups} {n g : Nat} (u : Up gs n g) : ∀ {a : Nat}, a ∈ chainOf gs (n + 1) g → ∃ m, m ≤ n ∧ Up gs m a := by
  induction u with
  | root h =>
    intro a ha
    have e : a = 0 := by simpa [chainOf] using ha
    rw [e]
    exact ⟨0, Nat.le_refl _, .root h⟩
  | @step n g h hl hu ih =>
    intro a ha
    have ha : a ∈ (if g = 0 then [0] else g :: chainOf gs (n + 1) (par gs g)) := ha
    rw [if_neg h] at ha
    rcases List.mem_cons.mp ha with e | ha
    · rw [e]
      exact ⟨n + 1, Nat.le_refl _, .step h hl hu⟩
    · obtain ⟨m, hm, um⟩ := ih ha
      exact ⟨m, Nat.le_succ_of_le hm, um⟩
theorem Up.path_nodup {gs : Groups} {n g : Nat} (u : Up gs n g) : (chainOf gs (n + 1) g).Nodup := by
  induction u with
  | root _ => simp [chainOf]
  | @step n g h hl hu ih =>
    show (if g = 0 then [0] else g :: chainOf gs (n + 1) (par gs g)).Nodup
    rw [if_neg h]
    refine List.nodup_cons.mpr ⟨fun hm => ?_, ih⟩
    obtain ⟨m, hm, um⟩ := hu.path_mem hm
    have := um.uniq (.step h hl hu)
    omega
theorem Up.lt {gs : Groups} {n g : Nat} (u : Up gs n g) : n < gs.length := by
  have h := nodup_le gs.length _ u.path_nodup fun x hx => by
    obtain ⟨m, _, um⟩ := u.path_mem hx
    exact live_lt um.live
  rw [u.path_len] at h
  omega

/-- a well-formed tree -/
structure GWF (gs : Groups) : Prop where
  root : live gs 0 = true
  up : ∀ g, live gs g = true → ∃ n, Up gs n g
  len : gs.length ≤ 40
section
variable {gs : Groups} (W : GWF gs)
include W
theorem GWF.pos : 0 < gs.length := live_lt W.root
theorem GWF.par_live {g : Nat} (h : live gs g = true) (h0 : g ≠ 0) : live gs (par gs g) = true := by
  obtain ⟨n, u⟩ := W.up g h
  cases u with
  | root _ => exact absurd rfl h0
  | step _ _ u => exact u.live
theorem GWF.chain_root : chain gs 0 = [0] := by
  unfold chain
  cases e : gs.length with
  | zero => have := W.pos; omega
  | succ k => rfl
theorem GWF.chain_cons {g : Nat} (h : live gs g = true) (h0 : g ≠ 0) : chain gs g = g :: chain gs (par gs g) := by
  obtain ⟨n, u⟩ := W.up g h
  have hn := u.lt
  cases u with
  | root _ => exact absurd rfl h0
  | @step n _ _ _ u =>
    unfold chain
    rw [(Up.step h0 h u).fuel hn, u.fuel (by omega)]
    show (if g = 0 then [0] else g :: chainOf gs (n + 1) (par gs g)) = _
    rw [if_neg h0]
theorem GWF.chain_path {g : Nat} (h : live gs g = true) : ∃ n, Up gs n g ∧ chain gs g = chainOf gs (n + 1) g := by
  obtain ⟨n, u⟩ := W.up g h
  exact ⟨n, u, u.fuel u.lt⟩
theorem GWF.chain_nodup {g : Nat} (h : live gs g = true) : (chain gs g).Nodup := by
  obtain ⟨n, u, e⟩ := W.chain_path h
  rw [e]
  exact u.path_nodup
theorem GWF.chain_live {g a : Nat} (h : live gs g = true) (ha : a ∈ chain gs g) : live gs a = true := by
  obtain ⟨n, u, e⟩ := W.chain_path h
  rw [e] at ha
  obtain ⟨m, _, um⟩ := u.path_mem ha
  exact um.live
theorem GWF.chain_len {g : Nat} (h : live gs g = true) : (chain gs g).length ≤ 40 := by
  obtain ⟨n, u, e⟩ := W.chain_path h
  rw [e, u.path_len]
  have := u.lt
  have := W.len
  omega
omit W in
theorem self_mem {g : Nat} (hp : 0 < gs.length) : g ∈ chain gs g := by
  unfold chain
  cases e : gs.length with
  | zero => omega
  | succ k =>
    show g ∈ (if g = 0 then [0] else g :: chainOf gs k (par gs g))
    by_cases h : g = 0
    · rw [if_pos h, h]
      exact List.mem_cons_self ..
    · rw [if_neg h]
      exact List.mem_cons_self ..
end

/-! ### the live groups, in order -/
def liveL (gs : Groups) : List Nat := (List.range gs.length).filter (live gs)
theorem mem_liveL {gs : Groups} {g : Nat} : g ∈ liveL gs ↔ live gs g = true := by
  unfold liveL
  rw [List.mem_filter, List.mem_range]
  exact ⟨fun h => h.2, fun h => ⟨live_lt h, h⟩⟩
theorem liveL_nodup (gs : Groups) : (liveL gs).Nodup := List.Pairwise.filter _ List.nodup_range
theorem liveL_sorted (gs : Groups) : (liveL gs).Pairwise (· < ·) := List.Pairwise.filter _ List.pairwise_lt_range
theorem liveL_len (gs : Groups) : (liveL gs).length ≤ gs.length := by
  have h := List.length_filter_le (live gs) (List.range gs.length)
  rwa [List.length_range] at h
theorem liveL_count (gs : Groups) : (List.range gs.length).countP (fun g => live gs g) = (liveL gs).length := List.countP_eq_length_filter ..
theorem kids_liveL (gs : Groups) (p : Nat) : kids gs p = (liveL gs).filter fun g => g != 0 && par gs g == p := by
  unfold kids liveL
  rw [List.filter_filter]
  congr 1
  funext g
  cases (g != 0) <;> cases live gs g <;> simp
theorem mem_kids {gs : Groups} {p g : Nat} : g ∈ kids gs p ↔ g ≠ 0 ∧ live gs g = true ∧ par gs g = p := by
  rw [kids_liveL, List.mem_filter, mem_liveL]
  simp only [Bool.and_eq_true, bne_iff_ne, ne_eq, beq_iff_eq]
  constructor
  · rintro ⟨h1, h2, h3⟩
    exact ⟨h2, h1, h3⟩
  · rintro ⟨h1, h2, h3⟩
    exact ⟨h2, h1, h3⟩
theorem kids_nodup (gs : Groups) (p : Nat) : (kids gs p).Nodup := by
  rw [kids_liveL]
  exact List.Pairwise.filter _ (liveL_nodup gs)
theorem kids_len (gs : Groups) (p : Nat) : (kids gs p).length ≤ gs.length := by
  rw [kids_liveL]
  exact Nat.le_trans (List.length_filter_le _ _) (liveL_len gs)
theorem kids_nil {gs : Groups} {p : Nat} : kids gs p = [] ↔ ∀ g, g ≠ 0 → live gs g = true → par gs g ≠ p := by
  rw [List.eq_nil_iff_forall_not_mem]
  constructor
  · intro h g h0 hl e
    exact h g (mem_kids.mpr ⟨h0, hl, e⟩)
  · intro h g hg
    obtain ⟨h0, hl, e⟩ := mem_kids.mp hg
    exact h g h0 hl e

theorem under_iff {gs : Groups} {a g : Nat} : under gs a g = true ↔ a ∈ chain gs g := by
  unfold under
  exact List.contains_iff_mem
end GmM
end

section
set_option maxRecDepth 100000
set_option maxHeartbeats 8000000
/-! # The mathematics, part 2: well-formed memories, and that every call keeps them so -/
namespace GmM
open R7278g.Spec

structure MWF (m : Mem) : Prop where
  g : GWF m.groups
  leaf : ∀ p ∈ m.pages, live m.groups p.group = true ∧ kids m.groups p.group = []
  ids : (m.pages.map (·.id)).Nodup
  nx : ∀ p ∈ m.pages, p.id < m.next
  np : m.pages.length ≤ 2000
  tk : m.taken.length ≤ 20

/-! ### the same tree -/
structure SameT (gs gs' : Groups) : Prop where
  len : gs'.length = gs.length
  par : ∀ g, par gs' g = par gs g
  dead : ∀ g, (gs'.at_ g).dead = (gs.at_ g).dead
theorem SameT.live {gs gs' : Groups} (s : SameT gs gs') (g : Nat) : live gs' g = live gs g := by
  unfold R7278g.Spec.live
  rw [s.len, s.dead]
theorem SameT.up {gs gs' : Groups} (s : SameT gs gs') {n g : Nat} (u : Up gs n g) : Up gs' n g := by
  induction u with
  | root h => exact .root (by rw [s.live]; exact h)
  | @step n g h0 h _ ih => exact .step h0 (by rw [s.live]; exact h) (by rw [s.par]; exact ih)
theorem SameT.chainOf {gs gs' : Groups} (s : SameT gs gs') : ∀ (n g : Nat), chainOf gs' n g = chainOf gs n g
  | 0, _ => rfl
  | n + 1, g => by
    show (if g = 0 then [0] else g :: R7278g.Spec.chainOf gs' n (GmM.par gs' g)) = (if g = 0 then [0] else g :: R7278g.Spec.chainOf gs n (GmM.par gs g))
    rw [s.par, s.chainOf n]
theorem SameT.chain {gs gs' : Groups} (s : SameT gs gs') (g : Nat) : chain gs' g = chain gs g := by
  unfold R7278g.Spec.chain
  rw [s.len, s.chainOf]
theorem SameT.under {gs gs' : Groups} (s : SameT gs gs') (a g : Nat) : under gs' a g = under gs a g := by
  unfold R7278g.Spec.under
  rw [s.chain]
theorem SameT.kids {gs gs' : Groups} (s : SameT gs gs') (p : Nat) : kids gs' p = kids gs p := by
  unfold R7278g.Spec.kids
  rw [s.len]
  congr 1
  funext g
  rw [s.live]
  show (g != 0 && R7278g.Spec.live gs g && GmM.par gs' g == p) = (g != 0 && R7278g.Spec.live gs g && GmM.par gs g == p)
  rw [s.par]
theorem SameT.liveL {gs gs' : Groups} (s : SameT gs gs') : liveL gs' = liveL gs := by
  unfold GmM.liveL
  rw [s.len]
  congr 1
  funext g
  exact s.live g
theorem SameT.wf {gs gs' : Groups} (s : SameT gs gs') (W : GWF gs) : GWF gs' :=
  ⟨by rw [s.live]; exact W.root, fun g h => by
    rw [s.live] at h
    obtain ⟨n, u⟩ := W.up g h
    exact ⟨n, s.up u⟩, by rw [s.len]; exact W.len⟩

/-! ### one group is set -/
theorem at_set (gs : Groups) (g h : Nat) (f : Group → Group) (hg : g < gs.length) : (setGroup gs g f).at_ h = if h = g then f (gs.at_ g) else gs.at_ h := by
  unfold setGroup Groups.at_
  by_cases e : h = g
  · subst e
    rw [if_pos rfl, List.getElem?_set_self hg]
    rfl
  · rw [if_neg e, List.getElem?_set_ne (Ne.symm e)]
theorem len_set (gs : Groups) (g : Nat) (f : Group → Group) : (setGroup gs g f).length = gs.length := by
  unfold setGroup
  rw [List.length_set]
theorem same_limits {gs : Groups} {g a b c : Nat} (h : g < gs.length) : SameT gs (setGroup gs g fun x => { x with max := a, min := b, low := c }) := by
  refine ⟨len_set .., fun x => ?_, fun x => ?_⟩
  · unfold par
    rw [at_set _ _ _ _ h]
    by_cases e : x = g
    · rw [if_pos e, e]
    · rw [if_neg e]
  · rw [at_set _ _ _ _ h]
    by_cases e : x = g
    · rw [if_pos e, e]
    · rw [if_neg e]

/-! ### a new memory -/
theorem new_wf (a b c : Nat) : MWF (newMem a b c) := by
  refine ⟨⟨rfl, fun g h => ?_, by show 1 ≤ 40; decide⟩, by simp [newMem], by simp [newMem], by simp [newMem], by simp [newMem], by simp [newMem]⟩
  have e : g = 0 := by
    have h1 := live_lt h
    have h2 : g < 1 := h1
    omega
  rw [e]
  exact ⟨0, .root rfl⟩

/-! ### a group is added -/
theorem at_add (gs : Groups) (x : Group) {h : Nat} (hh : h < gs.length) : Groups.at_ (gs ++ [x]) h = gs.at_ h := by
  unfold Groups.at_
  rw [List.getElem?_append_left hh]
theorem at_new (gs : Groups) (x : Group) : Groups.at_ (gs ++ [x]) gs.length = x := by
  unfold Groups.at_
  rw [List.getElem?_append_right (Nat.le_refl _), Nat.sub_self]
  rfl
theorem live_add {gs : Groups} {x : Group} {h : Nat} (hh : h < gs.length) : live (gs ++ [x]) h = live gs h := by
  unfold live
  rw [at_add _ _ hh, List.length_append]
  have h1 : h < gs.length + [x].length := Nat.lt_add_right _ hh
  rw [decide_eq_true h1, decide_eq_true hh]
theorem live_new {gs : Groups} {x : Group} (hx : x.dead = false) : live (gs ++ [x]) gs.length = true := by
  rw [live_iff, at_new, List.length_append]
  exact ⟨Nat.lt_succ_self _, hx⟩
theorem up_add {gs : Groups} {x : Group} {n g : Nat} (u : Up gs n g) : Up (gs ++ [x]) n g := by
  induction u with
  | root h => exact .root (by rw [live_add (live_lt h)]; exact h)
  | @step n g h0 h _ ih =>
    refine .step h0 (by rw [live_add (live_lt h)]; exact h) ?_
    unfold par
    rw [at_add _ _ (live_lt h)]
    exact ih
theorem lt_add {gs : Groups} {x : Group} {h : Nat} (hl : live (gs ++ [x]) h = true) : h < gs.length ∨ h = gs.length := by
  have := live_lt hl
  rw [List.length_append] at this
  simp at this
  omega
theorem add_gwf {gs : Groups} (W : GWF gs) {p a b c : Nat} (hp : live gs p = true) (hl : gs.length < 40) : GWF (gs ++ [⟨p, a, b, c, false⟩]) := by
  refine ⟨by rw [live_add W.pos]; exact W.root, fun g h => ?_, by rw [List.length_append]; simp; omega⟩
  rcases lt_add h with hg | hg
  · rw [live_add hg] at h
    obtain ⟨n, u⟩ := W.up g h
    exact ⟨n, up_add u⟩
  · obtain ⟨n, u⟩ := W.up p hp
    refine ⟨n + 1, ?_⟩
    rw [hg]
    refine .step (by have := W.pos; omega) (live_new rfl) ?_
    unfold par
    rw [at_new]
    exact up_add u
theorem liveL_add {gs : Groups} {x : Group} (hx : x.dead = false) : liveL (gs ++ [x]) = liveL gs ++ [gs.length] := by
  unfold liveL
  rw [List.length_append, List.length_singleton, List.range_succ, List.filter_append, List.filter_cons, if_pos (live_new hx), List.filter_nil]
  congr 1
  refine List.filter_congr fun g hg => ?_
  exact live_add (List.mem_range.mp hg)
theorem kids_add {gs : Groups} {p a b c q : Nat} (hq : q ≠ p) (h : kids gs q = []) : kids (gs ++ [⟨p, a, b, c, false⟩]) q = [] := by
  rw [kids_nil] at h ⊢
  intro g h0 hl
  rcases lt_add hl with hg | hg
  · rw [live_add hg] at hl
    unfold par
    rw [at_add _ _ hg]
    exact h g h0 hl
  · unfold par
    rw [hg, at_new]
    exact Ne.symm hq
theorem add_wf {m : Mem} (W : MWF m) {p a b c : Nat} (hp : live m.groups p = true) (hl : m.groups.length < 40) (hn : m.pages.any (fun q => q.group == p) = false) : MWF { m with groups := m.groups ++ [⟨p, a, b, c, false⟩] } := by
  refine ⟨add_gwf W.g hp hl, fun q hq => ?_, W.ids, W.nx, W.np, W.tk⟩
  obtain ⟨h1, h2⟩ := W.leaf q hq
  refine ⟨by show live (m.groups ++ _) q.group = true; rw [live_add (live_lt h1)]; exact h1, kids_add ?_ h2⟩
  intro e
  rw [List.any_eq_false] at hn
  exact hn q hq (by simpa using e)

/-! ### a group is removed -/
section
variable {gs : Groups} {g : Nat} (hg : live gs g = true)
abbrev killed (gs : Groups) (g : Nat) : Groups := setGroup gs g fun x => { x with dead := true }
include hg
theorem par_kill (h : Nat) : par (killed gs g) h = par gs h := by
  unfold par
  rw [at_set _ _ _ _ (live_lt hg)]
  by_cases e : h = g
  · rw [if_pos e, e]
  · rw [if_neg e]
theorem live_kill (h : Nat) : live (killed gs g) h = (live gs h && h != g) := by
  unfold live
  rw [len_set, at_set _ _ _ _ (live_lt hg)]
  by_cases e : h = g
  · rw [if_pos e, e]
    simp
  · rw [if_neg e]
    have : (h != g) = true := by simpa using e
    rw [this, Bool.and_true]
theorem up_kill (hk : kids gs g = []) {n h : Nat} (u : Up gs n h) (hh : h ≠ g) : Up (killed gs g) n h := by
  induction u with
  | root hl =>
    refine .root ?_
    rw [live_kill hg, hl]
    simpa using hh
  | @step n h h0 hl _ ih =>
    refine .step h0 ?_ ?_
    · rw [live_kill hg, hl]
      simpa using hh
    · rw [par_kill hg]
      exact ih fun e => (kids_nil.mp hk) h h0 hl e
theorem kill_gwf (W : GWF gs) (h0 : g ≠ 0) (hk : kids gs g = []) : GWF (killed gs g) := by
  refine ⟨?_, fun h hl => ?_, by rw [len_set]; exact W.len⟩
  · rw [live_kill hg, W.root]
    simpa using Ne.symm h0
  · rw [live_kill hg, Bool.and_eq_true] at hl
    obtain ⟨n, u⟩ := W.up h hl.1
    exact ⟨n, up_kill hg hk u (by simpa using hl.2)⟩
theorem liveL_kill : liveL (killed gs g) = (liveL gs).filter (· != g) := by
  unfold liveL
  rw [len_set, List.filter_filter]
  congr 1
  funext h
  rw [live_kill hg, Bool.and_comm]
theorem kids_kill {q : Nat} (h : kids gs q = []) : kids (killed gs g) q = [] := by
  rw [kids_nil] at h ⊢
  intro x h0 hl
  rw [par_kill hg]
  rw [live_kill hg, Bool.and_eq_true] at hl
  exact h x h0 hl.1
end
theorem kill_wf {m : Mem} (W : MWF m) {g : Nat} (hg : live m.groups g = true) (h0 : g ≠ 0) (hk : kids m.groups g = []) (hn : m.pages.any (fun q => q.group == g) = false) : MWF { m with groups := killed m.groups g } := by
  refine ⟨kill_gwf hg W.g h0 hk, fun q hq => ?_, W.ids, W.nx, W.np, W.tk⟩
  obtain ⟨h1, h2⟩ := W.leaf q hq
  refine ⟨?_, kids_kill hg h2⟩
  show live (killed m.groups g) q.group = true
  rw [live_kill hg, h1, Bool.true_and]
  rw [List.any_eq_false] at hn
  have := hn q hq
  simpa using this

/-! ### a group is moved -/
section
variable {gs : Groups} {g p : Nat} (hg : live gs g = true)
include hg
theorem live_mov (h : Nat) : live (movedGroups gs g p) h = live gs h := by
  unfold live movedGroups
  rw [len_set, at_set _ _ _ _ (live_lt hg)]
  by_cases e : h = g
  · rw [if_pos e, e]
  · rw [if_neg e]
theorem par_mov (h : Nat) : par (movedGroups gs g p) h = if h = g then p else par gs h := by
  unfold par movedGroups
  rw [at_set _ _ _ _ (live_lt hg)]
  by_cases e : h = g
  · rw [if_pos e, if_pos e]
  · rw [if_neg e, if_neg e]
theorem up_mov {n h : Nat} (u : Up gs n h) : (g ∉ chainOf gs (n + 1) h) → Up (movedGroups gs g p) n h := by
  induction u with
  | root hl =>
    intro _
    exact .root (by rw [live_mov hg]; exact hl)
  | @step n h h0 hl hu ih =>
    intro hm
    have hm : g ∉ (if h = 0 then [0] else h :: chainOf gs (n + 1) (par gs h)) := hm
    rw [if_neg h0, List.mem_cons, not_or] at hm
    refine .step h0 (by rw [live_mov hg]; exact hl) ?_
    rw [par_mov hg, if_neg (Ne.symm hm.1)]
    exact ih hm.2
theorem mov_gwf (W : GWF gs) (h0 : g ≠ 0) (hp : live gs p = true) (hu : under gs g p = false) : GWF (movedGroups gs g p) := by
  refine ⟨by rw [live_mov hg]; exact W.root, fun h hl => ?_, by unfold movedGroups; rw [len_set]; exact W.len⟩
  rw [live_mov hg] at hl
  obtain ⟨np, up, ep⟩ := W.chain_path hp
  have hnp : g ∉ chainOf gs (np + 1) p := by
    rw [← ep]
    intro e
    rw [under_iff.mpr e] at hu
    cases hu
  have upp : Up (movedGroups gs g p) np p := up_mov hg up hnp
  obtain ⟨n, u⟩ := W.up h hl
  induction u with
  | root hr => exact ⟨0, .root (by rw [live_mov hg]; exact hr)⟩
  | @step n h h0' hl' hu' ih =>
    by_cases e : h = g
    · refine ⟨np + 1, .step h0' (by rw [live_mov hg]; exact hl') ?_⟩
      rw [par_mov hg, if_pos e]
      exact upp
    · obtain ⟨n', u'⟩ := ih (hu'.live)
      refine ⟨n' + 1, .step h0' (by rw [live_mov hg]; exact hl') ?_⟩
      rw [par_mov hg, if_neg e]
      exact u'
theorem kids_mov {q : Nat} (hq : q ≠ p) (h : kids gs q = []) : kids (movedGroups gs g p) q = [] := by
  rw [kids_nil] at h ⊢
  intro x h0 hl
  rw [live_mov hg] at hl
  rw [par_mov hg]
  by_cases e : x = g
  · rw [if_pos e]
    exact Ne.symm hq
  · rw [if_neg e]
    exact h x h0 hl
theorem liveL_mov : liveL (movedGroups gs g p) = liveL gs := by
  unfold liveL
  have e : (movedGroups gs g p).length = gs.length := by unfold movedGroups; rw [len_set]
  rw [e]
  congr 1
  funext h
  exact live_mov hg h
end
theorem mov_wf {m : Mem} (W : MWF m) {g p : Nat} (hg : live m.groups g = true) (hp : live m.groups p = true) (h0 : g ≠ 0) (hu : under m.groups g p = false) (hn : m.pages.any (fun q => q.group == p) = false) : MWF { m with groups := movedGroups m.groups g p } := by
  refine ⟨mov_gwf hg W.g h0 hp hu, fun q hq => ?_, W.ids, W.nx, W.np, W.tk⟩
  obtain ⟨h1, h2⟩ := W.leaf q hq
  refine ⟨by show live (movedGroups m.groups g p) q.group = true; rw [live_mov hg]; exact h1, kids_mov hg ?_ h2⟩
  intro e
  rw [List.any_eq_false] at hn
  exact hn q hq (by simpa using e)

/-! ### pages -/
theorem limits_wf {m : Mem} (W : MWF m) {g a b c : Nat} (hg : live m.groups g = true) : MWF { m with groups := setGroup m.groups g fun x => { x with max := a, min := b, low := c } } := by
  have s := same_limits (a := a) (b := b) (c := c) (live_lt hg)
  refine ⟨s.wf W.g, fun q hq => ?_, W.ids, W.nx, W.np, W.tk⟩
  obtain ⟨h1, h2⟩ := W.leaf q hq
  exact ⟨(s.live _).trans h1, (s.kids _).trans h2⟩
theorem lastOf_len (n : Nat) (l : List (Nat × Nat)) : (lastOf n l).length ≤ n := by
  unfold lastOf
  rw [List.length_drop]
  omega
theorem filter_wf {m : Mem} (W : MWF m) (f : Page → Bool) : MWF { m with pages := m.pages.filter f } :=
  ⟨W.g, fun q hq => W.leaf q (List.mem_filter.mp hq).1, List.Pairwise.sublist ((List.filter_sublist).map _) W.ids, fun q hq => W.nx q (List.mem_filter.mp hq).1, Nat.le_trans (List.length_filter_le _ _) W.np, W.tk⟩
theorem take_wf {m : Mem} (W : MWF m) (l : List Page) : MWF (m.take l) := by
  have h := filter_wf W fun p => !(l.any fun q => q.id == p.id)
  exact ⟨h.g, h.leaf, h.ids, h.nx, h.np, lastOf_len _ _⟩
theorem newPages_mem : ∀ {n i g : Nat} {p : Page}, p ∈ newPages n i g → p.group = g ∧ i ≤ p.id ∧ p.id < i + n
  | 0, _, _, _, h => by cases h
  | n + 1, i, g, p, h => by
    rcases List.mem_cons.mp h with e | h
    · rw [e]
      exact ⟨rfl, Nat.le_refl _, by show i < _; omega⟩
    · obtain ⟨h1, h2, h3⟩ := newPages_mem h
      exact ⟨h1, by omega, by omega⟩
theorem newPages_len : ∀ (n i g : Nat), (newPages n i g).length = n
  | 0, _, _ => rfl
  | n + 1, i, g => by
    show (newPages n (i + 1) g).length + 1 = _
    rw [newPages_len]
theorem newPages_nodup : ∀ (n i g : Nat), ((newPages n i g).map (·.id)).Nodup
  | 0, _, _ => List.nodup_nil
  | n + 1, i, g => by
    show (i :: (newPages n (i + 1) g).map (·.id)).Nodup
    refine List.nodup_cons.mpr ⟨fun h => ?_, newPages_nodup n (i + 1) g⟩
    obtain ⟨p, hp, e⟩ := List.mem_map.mp h
    have := (newPages_mem hp).2.1
    omega
theorem alloc_wf {m : Mem} (W : MWF m) {g n : Nat} (l : List Page) (hg : live m.groups g = true) (hk : kids m.groups g = []) (hn : m.pages.length + n ≤ 2000) :
    MWF { m.take l with pages := (m.take l).pages ++ newPages n m.next g, next := m.next + n } := by
  have h := take_wf W l
  refine ⟨h.g, fun q hq => ?_, ?_, fun q hq => ?_, ?_, h.tk⟩
  · rcases List.mem_append.mp hq with hq | hq
    · exact h.leaf q hq
    · rw [(newPages_mem hq).1]
      exact ⟨hg, hk⟩
  · show (((m.take l).pages ++ newPages n m.next g).map (·.id)).Nodup
    rw [List.map_append]
    refine List.nodup_append.mpr ⟨h.ids, newPages_nodup .., fun a ha b hb => ?_⟩
    obtain ⟨p, hp, e⟩ := List.mem_map.mp ha
    obtain ⟨q, hq, e'⟩ := List.mem_map.mp hb
    have h1 := h.nx p hp
    have h2 := (newPages_mem hq).2.1
    have h3 : (m.take l).next = m.next := rfl
    omega
  · rcases List.mem_append.mp hq with hq | hq
    · have := h.nx q hq
      have h3 : (m.take l).next = m.next := rfl
      show q.id < m.next + n
      omega
    · exact (newPages_mem hq).2.2
  · show ((m.take l).pages ++ newPages n m.next g).length ≤ 2000
    rw [List.length_append, newPages_len]
    have : (m.take l).pages.length ≤ m.pages.length := List.length_filter_le _ _
    omega
theorem map_wf {m : Mem} (W : MWF m) (f : Page → Page) (h1 : ∀ p, (f p).id = p.id) (h2 : ∀ p, (f p).group = p.group) : MWF { m with pages := m.pages.map f } := by
  refine ⟨W.g, fun q hq => ?_, ?_, fun q hq => ?_, ?_, W.tk⟩
  · obtain ⟨p, hp, e⟩ := List.mem_map.mp hq
    rw [← e, h2]
    exact W.leaf p hp
  · show ((m.pages.map f).map (·.id)).Nodup
    rw [List.map_map]
    have : ((fun p : Page => p.id) ∘ f) = fun p => p.id := by
      funext p
      exact h1 p
    rw [this]
    exact W.ids
  · obtain ⟨p, hp, e⟩ := List.mem_map.mp hq
    rw [← e, h1]
    exact W.nx p hp
  · show (m.pages.map f).length ≤ 2000
    rw [List.length_map]
    exact W.np
theorem touch_wf {m : Mem} (W : MWF m) {q : Page} (hq : q ∈ m.pages) : MWF { m with pages := m.pages.filter (fun p => p.id != q.id) ++ [q] } := by
  have h := filter_wf W fun p => p.id != q.id
  refine ⟨W.g, fun p hp => ?_, ?_, fun p hp => ?_, ?_, W.tk⟩
  · rcases List.mem_append.mp hp with hp | hp
    · exact h.leaf p hp
    · rw [List.mem_singleton.mp hp]
      exact W.leaf q hq
  · show ((m.pages.filter (fun p => p.id != q.id) ++ [q]).map (·.id)).Nodup
    rw [List.map_append]
    refine List.nodup_append.mpr ⟨h.ids, by simp, fun a ha b hb => ?_⟩
    obtain ⟨p, hp, e⟩ := List.mem_map.mp ha
    have h1 := (List.mem_filter.mp hp).2
    have e' : b = q.id := by simpa using hb
    rw [← e, e']
    simpa using h1
  · rcases List.mem_append.mp hp with hp | hp
    · exact h.nx p hp
    · rw [List.mem_singleton.mp hp]
      exact W.nx q hq
  · show (m.pages.filter (fun p => p.id != q.id) ++ [q]).length ≤ 2000
    have hlt : (m.pages.filter fun p => p.id != q.id).length < m.pages.length := by
      refine List.length_filter_lt_length_iff_exists.mpr ⟨q, hq, by simp⟩
    have := W.np
    rw [List.length_append, List.length_singleton]
    omega
end GmM
end

section
set_option maxRecDepth 100000
set_option maxHeartbeats 8000000
/-! # The mathematics, part 3: shares, and protections handed down -/
namespace GmM
open R7278g.Spec

/-! ### shares -/
theorem giveRest_len : ∀ (n : Nat) (l : List (Nat × Nat)), (giveRest n l).length = l.length
  | _, [] => by simp [giveRest]
  | 0, (w, f) :: r => by simp [giveRest, giveRest_len 0 r]
  | n + 1, (w, f) :: r => by
    unfold giveRest
    by_cases h : w = 0
    · rw [if_pos h, List.length_cons, List.length_cons, giveRest_len (n + 1) r]
    · rw [if_neg h, List.length_cons, List.length_cons, giveRest_len n r]
theorem floors_len (p : Nat) (l : List Nat) : (floors p l).length = l.length := by
  unfold floors
  rw [List.length_map]
theorem share_len (p : Nat) (l : List Nat) : (share p l).length = l.length := by
  unfold share
  by_cases h : total l ≤ p
  · rw [if_pos h]
  · rw [if_neg h, giveRest_len, List.length_zip, floors_len, Nat.min_self]
/-- what is left for the next claim -/
def leftA : Nat → List Nat → Nat
  | n, [] => n
  | n, w :: r => if 0 < w ∧ 0 < n then leftA (n - 1) r else leftA n r
theorem leftA_snoc : ∀ (n : Nat) (l : List Nat) (w : Nat), leftA n (l ++ [w]) = if 0 < w ∧ 0 < leftA n l then leftA n l - 1 else leftA n l
  | n, [], w => rfl
  | n, a :: r, w => by
    show (if 0 < a ∧ 0 < n then leftA (n - 1) (r ++ [w]) else leftA n (r ++ [w])) = _
    rw [leftA_snoc, leftA_snoc]
    show _ = if 0 < w ∧ 0 < (if 0 < a ∧ 0 < n then leftA (n - 1) r else leftA n r) then _ else _
    by_cases h : 0 < a ∧ 0 < n
    · simp only [if_pos h, leftA]
    · simp only [if_neg h, leftA]
theorem giveRest_zero : ∀ (l : List (Nat × Nat)), giveRest 0 l = l.map (·.2)
  | [] => by simp [giveRest]
  | (w, f) :: r => by simp [giveRest, giveRest_zero r]
theorem giveRest_snoc : ∀ (n : Nat) (l : List (Nat × Nat)) (w f : Nat), giveRest n (l ++ [(w, f)]) = giveRest n l ++ [if 0 < w ∧ 0 < leftA n (l.map (·.1)) then f + 1 else f]
  | n, [], w, f => by
    cases n with
    | zero => simp [giveRest, leftA]
    | succ n =>
      show (if w = 0 then f :: giveRest (n + 1) [] else (f + 1) :: giveRest n []) = _
      by_cases h : w = 0
      · simp [h, giveRest]
      · have : 0 < w := Nat.pos_of_ne_zero h
        simp [h, giveRest, leftA, this]
  | 0, (a, b) :: r, w, f => by
    show b :: giveRest 0 (r ++ [(w, f)]) = (b :: giveRest 0 r) ++ _
    rw [giveRest_snoc 0 r]
    have e : leftA 0 (((a, b) :: r).map (·.1)) = leftA 0 (r.map (·.1)) := by
      show (if 0 < a ∧ 0 < 0 then _ else _) = _
      rw [if_neg (by omega)]
    rw [e]
    rfl
  | n + 1, (a, b) :: r, w, f => by
    show (if a = 0 then b :: giveRest (n + 1) (r ++ [(w, f)]) else (b + 1) :: giveRest n (r ++ [(w, f)])) = (if a = 0 then b :: giveRest (n + 1) r else (b + 1) :: giveRest n r) ++ [if 0 < w ∧ 0 < (if 0 < a ∧ 0 < n + 1 then leftA (n + 1 - 1) (r.map (·.1)) else leftA (n + 1) (r.map (·.1))) then f + 1 else f]
    by_cases h : a = 0
    · rw [if_pos h, if_pos h, giveRest_snoc (n + 1) r, if_neg (show ¬ (0 < a ∧ 0 < n + 1) by omega)]
      rfl
    · rw [if_neg h, if_neg h, giveRest_snoc n r, if_pos (show 0 < a ∧ 0 < n + 1 by omega), Nat.add_sub_cancel]
      rfl
theorem total_cons (a : Nat) (r : List Nat) : total (a :: r) = a + total r := by
  unfold total
  rw [List.sum_cons]
theorem floors_le {p : Nat} {l : List Nat} (h : 0 < total l) : total (floors p l) ≤ p := by
  have key : ∀ (T : Nat) (r : List Nat), total (r.map fun w => w * p / T) * T ≤ total r * p := by
    intro T r
    induction r with
    | nil => simp [total]
    | cons a r ih =>
      rw [List.map_cons, total_cons, total_cons, Nat.add_mul, Nat.add_mul]
      have := Nat.div_mul_le_self (a * p) T
      omega
  have h2 := key (total l) l
  have h3 : total (floors p l) * total l ≤ p * total l := by
    unfold floors
    rw [Nat.mul_comm p]
    exact h2
  exact Nat.le_of_mul_le_mul_right h3 h
theorem total_le {l : List Nat} {b : Nat} (h : ∀ x ∈ l, x ≤ b) : total l ≤ l.length * b := by
  induction l with
  | nil => simp [total]
  | cons a r ih =>
    rw [total_cons, List.length_cons, Nat.succ_mul]
    have h1 := h a (List.mem_cons_self ..)
    have h2 := ih fun x hx => h x (List.mem_cons_of_mem _ hx)
    omega
theorem total_eq (l : List Nat) : total l = l.sum := rfl

theorem usage_le (gs : Groups) (l : List Page) (g : Nat) : usage gs l g ≤ l.length := List.countP_le_length ..

/-! ### what a group has of a protection -/
section
variable {gs : Groups} {l : List Page} {claim : Nat → Nat}
theorem Up.eff_fuel {n g : Nat} (u : Up gs n g) : ∀ {k : Nat}, n < k → effAt gs l claim k g = effAt gs l claim (n + 1) g := by
  induction u with
  | root _ =>
    intro k hk
    cases k with
    | zero => omega
    | succ k => rfl
  | @step n g h _ _ ih =>
    intro k hk
    cases k with
    | zero => omega
    | succ k =>
      unfold effAt
      rw [if_neg h, if_neg h]
      show (handDown (effAt gs l claim k (par gs g)) _ _).getD _ _ = (handDown (effAt gs l claim (n + 1) (par gs g)) _ _).getD _ _
      rw [ih (by omega)]
theorem GWF.eff_root (W : GWF gs) : eff gs l claim 0 = Nat.min (claim 0) (usage gs l 0) := by
  unfold eff
  cases e : gs.length with
  | zero => have := W.pos; omega
  | succ k =>
    unfold effAt
    rw [if_pos rfl]
theorem GWF.eff_step (W : GWF gs) {g : Nat} (h : live gs g = true) (h0 : g ≠ 0) :
    eff gs l claim g = (handDown (eff gs l claim (par gs g)) ((kids gs (par gs g)).map claim) ((kids gs (par gs g)).map (usage gs l))).getD (placeOf (kids gs (par gs g)) g) 0 := by
  obtain ⟨n, u⟩ := W.up g h
  have hn := u.lt
  cases u with
  | root _ => exact absurd rfl h0
  | @step n _ _ _ u =>
    unfold eff
    rw [(Up.step h0 h u).eff_fuel hn, u.eff_fuel (show n < gs.length by omega)]
    conv => lhs; unfold effAt
    rw [if_neg h0]
theorem placeOf_get : ∀ {ks : List Nat} {i k : Nat}, ks.Nodup → ks[i]? = some k → placeOf ks k = i
  | [], i, k, _, h => by simp at h
  | a :: r, 0, k, _, h => by
    have e : a = k := by simpa using h
    show (if a = k then 0 else placeOf r k + 1) = 0
    rw [if_pos e]
  | a :: r, i + 1, k, nd, h => by
    have h' : r[i]? = some k := by simpa using h
    have hm := List.mem_of_getElem? h'
    have e : a ≠ k := fun e => (List.nodup_cons.mp nd).1 (e ▸ hm)
    show (if a = k then 0 else placeOf r k + 1) = i + 1
    rw [if_neg e, placeOf_get (List.nodup_cons.mp nd).2 h']
theorem handDown_len (p : Nat) (a b : List Nat) (h : a.length = b.length) : (handDown p a b).length = b.length := by
  unfold handDown
  rw [List.length_zipWith, share_len, share_len, List.length_map, List.length_map, List.length_zip, h, Nat.min_self, Nat.min_self]
/-- siblings get together what is handed down -/
theorem GWF.handed (W : GWF gs) (p : Nat) : handDown (eff gs l claim p) ((kids gs p).map claim) ((kids gs p).map (usage gs l)) = (kids gs p).map (eff gs l claim) := by
  have hlen : (handDown (eff gs l claim p) ((kids gs p).map claim) ((kids gs p).map (usage gs l))).length = (kids gs p).length := by
    rw [handDown_len _ _ _ (by rw [List.length_map, List.length_map]), List.length_map]
  refine List.ext_getElem (by rw [hlen, List.length_map]) fun i h1 h2 => ?_
  have hi : i < (kids gs p).length := by rwa [hlen] at h1
  have hk : (kids gs p)[i]? = some (kids gs p)[i] := List.getElem?_eq_getElem hi
  have hm : (kids gs p)[i] ∈ kids gs p := List.getElem_mem hi
  obtain ⟨h0, hl, hp⟩ := mem_kids.mp hm
  rw [List.getElem_map, W.eff_step hl h0, hp, placeOf_get (kids_nodup gs p) hk, List.getD_eq_getElem?_getD, List.getElem?_eq_getElem h1]
  rfl
/-- the same, as the program does it -/
theorem GWF.handed2 (W : GWF gs) (p : Nat) :
    (share (eff gs l claim p) ((kids gs p).map fun k => Nat.min (claim k) (usage gs l k))).zipWith (· + ·)
      (share (eff gs l claim p - total ((kids gs p).map fun k => Nat.min (claim k) (usage gs l k))) ((kids gs p).map fun k => usage gs l k - Nat.min (claim k) (usage gs l k))) = (kids gs p).map (eff gs l claim) := by
  rw [← W.handed p]
  unfold handDown
  have e : ((kids gs p).map claim).zip ((kids gs p).map (usage gs l)) = (kids gs p).map fun k => (claim k, usage gs l k) := by
    rw [List.zip_map_left, List.zip_map_right]
    generalize kids gs p = ks
    induction ks with
    | nil => rfl
    | cons a r ih => simp only [List.zip_cons_cons, List.map_cons, ih, Prod.map]; rfl
  rw [e, List.map_map, List.map_map]
  rfl
end
end GmM
end

section
set_option maxRecDepth 100000
set_option maxHeartbeats 8000000
/-! # The mathematics, part 4: what may be taken, and the choice -/
namespace GmM
open R7278g.Spec

/-! ### what may be taken, page by page -/
def tkQ : (Nat → Nat) → List Page → Nat → Nat
  | q, [] => q
  | q, p :: l => if (p.state.isPlain && decide (0 < q p.group)) = true then tkQ (lower q p.group) l else tkQ q l
theorem tkQ_snoc : ∀ (q : Nat → Nat) (l : List Page) (p : Page), tkQ q (l ++ [p]) = if (p.state.isPlain && decide (0 < tkQ q l p.group)) = true then lower (tkQ q l) p.group else tkQ q l
  | q, [], p => rfl
  | q, a :: l, p => by
    show (if (a.state.isPlain && decide (0 < q a.group)) = true then tkQ (lower q a.group) (l ++ [p]) else tkQ q (l ++ [p])) = _
    have e : tkQ q (a :: l) = if (a.state.isPlain && decide (0 < q a.group)) = true then tkQ (lower q a.group) l else tkQ q l := rfl
    by_cases h : (a.state.isPlain && decide (0 < q a.group)) = true
    · rw [if_pos h] at e ⊢
      rw [tkQ_snoc, e]
    · rw [if_neg h] at e ⊢
      rw [tkQ_snoc, e]
theorem takeable_snoc : ∀ (q : Nat → Nat) (l : List Page) (p : Page), takeable q (l ++ [p]) = takeable q l ++ if (p.state.isPlain && decide (0 < tkQ q l p.group)) = true then [p] else []
  | q, [], p => by
    show (if _ then _ else _) = [] ++ _
    rw [List.nil_append]
    rfl
  | q, a :: l, p => by
    show (if (a.state.isPlain && decide (0 < q a.group)) = true then a :: takeable (lower q a.group) (l ++ [p]) else takeable q (l ++ [p])) = (if (a.state.isPlain && decide (0 < q a.group)) = true then a :: takeable (lower q a.group) l else takeable q l) ++ (if (p.state.isPlain && decide (0 < tkQ q (a :: l) p.group)) = true then [p] else [])
    have e : tkQ q (a :: l) = if (a.state.isPlain && decide (0 < q a.group)) = true then tkQ (lower q a.group) l else tkQ q l := rfl
    by_cases h : (a.state.isPlain && decide (0 < q a.group)) = true
    · rw [if_pos h] at e
      rw [if_pos h, if_pos h, takeable_snoc, e]
      rfl
    · rw [if_neg h] at e
      rw [if_neg h, if_neg h, takeable_snoc, e]
theorem takeable_sub : ∀ (q : Nat → Nat) (l : List Page), (takeable q l).Sublist l
  | _, [] => List.Sublist.refl _
  | q, a :: l => by
    unfold takeable
    by_cases h : (a.state.isPlain && decide (0 < q a.group)) = true
    · rw [if_pos h]
      exact (takeable_sub _ l).cons_cons a
    · rw [if_neg h]
      exact (takeable_sub _ l).cons a
/-- pages of the same groups ask the same places -/
theorem takeable_congr : ∀ (q r : Nat → Nat) (l : List Page), (∀ p ∈ l, q p.group = r p.group) → takeable q l = takeable r l
  | _, _, [], _ => rfl
  | q, r, a :: l, h => by
    unfold takeable
    rw [h a (List.mem_cons_self ..)]
    by_cases hc : (a.state.isPlain && decide (0 < r a.group)) = true
    · rw [if_pos hc, if_pos hc]
      congr 1
      refine takeable_congr _ _ l fun p hp => ?_
      unfold lower
      by_cases e : p.group = a.group
      · rw [if_pos e, if_pos e, h p (List.mem_cons_of_mem _ hp)]
      · rw [if_neg e, if_neg e, h p (List.mem_cons_of_mem _ hp)]
    · rw [if_neg hc, if_neg hc]
      exact takeable_congr _ _ l fun p hp => h p (List.mem_cons_of_mem _ hp)

/-! ### the choice -/
section
variable {gs : Groups}
theorem freed_app (a : Nat) (l r : List Page) : freed gs a (l ++ r) = freed gs a l + freed gs a r := by
  unfold freed
  rw [List.countP_append]
theorem freed_cons (a : Nat) (c : Page) (r : List Page) : freed gs a (c :: r) = freed gs a r + if under gs a c.group = true then 1 else 0 := by
  unfold freed
  rw [List.countP_cons]
theorem freed_snoc (a : Nat) (c : Page) (r : List Page) : freed gs a (r ++ [c]) = freed gs a r + if under gs a c.group = true then 1 else 0 := by
  rw [freed_app, freed_cons]
  show _ + (0 + _) = _
  rw [Nat.zero_add]
theorem freed_reverse (a : Nat) (l : List Page) : freed gs a l.reverse = freed gs a l := by
  unfold freed
  rw [List.countP_reverse]
theorem enough_iff {n : Needs} {l : List Page} : enough gs n l = true ↔ ∀ e ∈ n, e.2 ≤ freed gs e.1 l := by
  unfold enough
  rw [List.all_eq_true]
  exact ⟨fun h e he => of_decide_eq_true (h e he), fun h e he => decide_eq_true (h e he)⟩
theorem enough_reverse {n : Needs} {l : List Page} : enough gs n l.reverse = enough gs n l := by
  unfold enough
  congr 1
  funext e
  rw [freed_reverse]
/-- is a page spared? only the needs above it are asked -/
theorem spare_test {n : Needs} {chosen r : List Page} {c : Page} (h : enough gs n (chosen ++ c :: r) = true) :
    enough gs n (chosen ++ r) = true ↔ ∀ e ∈ n, under gs e.1 c.group = true → e.2 < freed gs e.1 (chosen ++ c :: r) := by
  rw [enough_iff] at h ⊢
  constructor
  · intro k e he hu
    have h1 := k e he
    rw [freed_app] at h1 ⊢
    rw [freed_cons, if_pos hu]
    omega
  · intro k e he
    have h1 := h e he
    rw [freed_app, freed_cons] at h1
    rw [freed_app]
    by_cases hu : under gs e.1 c.group = true
    · have h2 := k e he hu
      rw [freed_app, freed_cons, if_pos hu] at h2
      omega
    · rw [if_neg hu] at h1
      omega
/-- a page that is chosen or waits counts the same -/
theorem freed_move (a : Nat) (chosen r : List Page) (c : Page) : freed gs a ((c :: chosen) ++ r) = freed gs a (chosen ++ c :: r) := by
  rw [freed_app, freed_app, freed_cons, freed_cons]
  omega
theorem enough_move {n : Needs} {chosen r : List Page} {c : Page} : enough gs n ((c :: chosen) ++ r) = enough gs n (chosen ++ c :: r) := by
  unfold enough
  congr 1
  funext e
  rw [freed_move]
theorem spare_yes {n : Needs} {chosen r : List Page} {c : Page} (h : enough gs n (chosen ++ r) = true) : spare gs n chosen (c :: r) = spare gs n chosen r := by
  show (if enough gs n (chosen ++ r) then _ else _) = _
  rw [if_pos h]
theorem spare_no {n : Needs} {chosen r : List Page} {c : Page} (h : ¬ enough gs n (chosen ++ r) = true) : spare gs n chosen (c :: r) = spare gs n (c :: chosen) r := by
  show (if enough gs n (chosen ++ r) then _ else _) = _
  rw [if_neg h]
theorem spare_sub {n : Needs} : ∀ (r chosen : List Page), ∀ p ∈ spare gs n chosen r, p ∈ chosen ∨ p ∈ r
  | [], chosen => fun p hp => .inl hp
  | c :: r, chosen => fun p hp => by
    by_cases h : enough gs n (chosen ++ r) = true
    · rw [spare_yes h] at hp
      rcases spare_sub r chosen p hp with q | q
      · exact .inl q
      · exact .inr (List.mem_cons_of_mem _ q)
    · rw [spare_no h] at hp
      rcases spare_sub r (c :: chosen) p hp with q | q
      · rcases List.mem_cons.mp q with e | q
        · exact .inr (e ▸ List.mem_cons_self ..)
        · exact .inl q
      · exact .inr (List.mem_cons_of_mem _ q)
theorem choose_sub {n : Needs} {l r : List Page} (h : choose gs n l = some r) : ∀ p ∈ r, p ∈ l := by
  unfold choose at h
  by_cases e : enough gs n l = true
  · rw [if_pos e] at h
    cases h
    intro p hp
    rcases spare_sub _ _ p hp with q | q
    · cases q
    · exact List.mem_reverse.mp q
  · rw [if_neg e] at h
    cases h
/-- no need: nothing is chosen -/
theorem spare_zero {g : Nat} : ∀ (r chosen : List Page), spare gs [(g, 0)] chosen r = chosen
  | [], _ => rfl
  | c :: r, chosen => by
    have h : enough gs [(g, 0)] (chosen ++ r) = true := enough_iff.mpr fun e he => by
      have : e = (g, 0) := by simpa using he
      rw [this]
      exact Nat.zero_le _
    rw [spare_yes h, spare_zero r]
theorem choose_zero {g : Nat} {l : List Page} : choose gs [(g, 0)] l = some [] := by
  unfold choose
  have h : enough gs [(g, 0)] l = true := enough_iff.mpr fun e he => by
    have : e = (g, 0) := by simpa using he
    rw [this]
    exact Nat.zero_le _
  rw [if_pos h, spare_zero]
end
theorem pick_zero (m : Mem) (g : Nat) : m.pick [(g, 0)] = some [] := by
  unfold Mem.pick
  rw [choose_zero]
theorem take_nil {m : Mem} (h : m.taken.length ≤ 20) : m.take [] = m := by
  unfold Mem.take lastOf
  have e : m.pages.filter (fun p => !(([] : List Page).any fun q => q.id == p.id)) = m.pages := List.filter_eq_self.mpr fun p _ => rfl
  have e2 : (m.taken ++ ([] : List Page).map fun p => (p.id, p.group)).drop ((m.taken ++ ([] : List Page).map fun p => (p.id, p.group)).length - 20) = m.taken := by
    rw [List.map_nil, List.append_nil]
    have : m.taken.length - 20 = 0 := by omega
    rw [this]
    rfl
  rw [e, e2]
theorem pick_sub {m : Mem} {n : Needs} {l : List Page} (h : m.pick n = some l) : ∀ p ∈ l, p ∈ m.pages := by
  unfold Mem.pick at h
  have sub : ∀ f, ∀ p ∈ m.mayTake f, p ∈ m.pages := fun f p hp => (takeable_sub _ _).subset hp
  split at h
  · rename_i r hr
    cases h
    exact fun p hp => sub _ p (choose_sub hr p hp)
  · exact fun p hp => sub _ p (choose_sub h p hp)
theorem spare_len {gs : Groups} {n : Needs} : ∀ (r chosen : List Page), (spare gs n chosen r).length ≤ chosen.length + r.length
  | [], _ => Nat.le_refl _
  | c :: r, chosen => by
    by_cases h : enough gs n (chosen ++ r) = true
    · rw [spare_yes h]
      have := spare_len (gs := gs) (n := n) r chosen
      rw [List.length_cons]
      omega
    · rw [spare_no h]
      have := spare_len (gs := gs) (n := n) r (c :: chosen)
      rw [List.length_cons] at this ⊢
      omega
/-- the least recently used one first: a choice stands in the order of use -/
theorem spare_order {gs : Groups} {n : Needs} : ∀ (r chosen : List Page), (spare gs n chosen r).Sublist (r.reverse ++ chosen)
  | [], _ => by
    show List.Sublist _ ([] ++ _)
    rw [List.nil_append]
    exact List.Sublist.refl _
  | c :: r, chosen => by
    rw [List.reverse_cons, List.append_assoc]
    by_cases h : enough gs n (chosen ++ r) = true
    · rw [spare_yes h]
      exact (spare_order r chosen).trans (List.Sublist.append_left (List.sublist_cons_self c chosen) _)
    · rw [spare_no h]
      exact spare_order r (c :: chosen)
theorem pick_order {m : Mem} {n : Needs} {l : List Page} (h : m.pick n = some l) : l.Sublist m.pages := by
  have key : ∀ {ps r : List Page}, choose m.groups n ps = some r → r.Sublist ps := fun {ps r} h => by
    unfold choose at h
    by_cases e : enough m.groups n ps = true
    · rw [if_pos e] at h
      cases h
      have := spare_order (gs := m.groups) (n := n) ps.reverse []
      rwa [List.reverse_reverse, List.append_nil] at this
    · rw [if_neg e] at h
      cases h
  unfold Mem.pick at h
  split at h
  · rename_i r hr
    cases h
    exact (key hr).trans (takeable_sub _ _)
  · exact (key h).trans (takeable_sub _ _)
end GmM
end

section
set_option maxRecDepth 100000
set_option maxHeartbeats 8000000
/-! # The heap, part 1: what the text has written; calls of its defs; dicts of groups -/
namespace Gm
open PySem PySem.Spec PyProof.Rows L2 L2G GmM
abbrev SMem := R7278g.Spec.Mem
abbrev SGroups := R7278g.Spec.Groups
abbrev SPage := R7278g.Spec.Page
abbrev nV (n : Nat) : V := .int (n : Int)

/-! ### names of the module -/
def GlobV (mg : Str → Option Value) (x : Str) (v : V) : Prop := ∃ u, mg x = some u ∧ RelV v u
theorem SqTK.at {K : PySem.W.Frag} {a : Addr} {xs : List V} (h : SqTK K a xs) (H : Hp) : SqT K H a xs := let ⟨o, its, n, h1, h2, h3, h4, h5, _⟩ := h; .inr ⟨o, its, n, h1, h2, h3, h4, h5⟩
theorem SqTK.ty {K : PySem.W.Frag} {a : Addr} {xs : List V} (h : SqTK K a xs) (H : Hp) : tyV K "tuple" (.ref a) H := let ⟨o, _, _, h1, h2, _, _, _, h6⟩ := h; .inr (.inl ⟨rfl, o, h1, h2, h6⟩)
theorem pe_gl {X : Cx} {x : Str} {v : V} {pos : Pos} (h : GlobV X.mg x v) (hg : Gl X x := by rfl) (hd : (x == ("__debug__" : Str)) = false := by decide) : PE X (.Name x pos) (tC v) := by
  obtain ⟨u, hm, r⟩ := h
  exact pe_glob hg hm r hd
structure Ad where
  lim : Addr
  grp : Addr
  pag : Addr
  mem : Addr
  rdr : Addr
  dsk : Addr
  ref : Addr
  unr : Addr
  tNOTHING : Addr
  tNULL : Addr
  tNO : Addr
  tYES : Addr
  tPLAIN_values : Addr
  tARGUMENTS : Addr
  tSTATES : Addr
/-- what the written part says -/
structure Txt (K : PySem.W.Frag) (mg : Str → Option Value) (A : Ad) : Prop where
  c_lim : Cls K A.lim
  n_lim_most : NoAttr K A.lim "most"
  n_lim_least : NoAttr K A.lim "least"
  n_lim_low : NoAttr K A.lim "low"
  c_grp : Cls K A.grp
  n_grp_parent : NoAttr K A.grp "parent"
  n_grp_limits : NoAttr K A.grp "limits"
  c_pag : Cls K A.pag
  n_pag_number : NoAttr K A.pag "number"
  n_pag_group : NoAttr K A.pag "group"
  n_pag_state : NoAttr K A.pag "state"
  c_mem : Cls K A.mem
  n_mem_groups : NoAttr K A.mem "groups"
  n_mem_made : NoAttr K A.mem "made"
  n_mem_rows : NoAttr K A.mem "rows"
  n_mem_next_page : NoAttr K A.mem "next_page"
  n_mem_taken : NoAttr K A.mem "taken"
  c_rdr : Cls K A.rdr
  n_rdr_octets : NoAttr K A.rdr "octets"
  n_rdr_at : NoAttr K A.rdr "at"
  c_dsk : Cls K A.dsk
  n_dsk_memories : NoAttr K A.dsk "memories"
  n_dsk_victims : NoAttr K A.dsk "victims"
  b_len : mg "len" = none
  b_sum : mg "sum" = none
  b_list : mg "list" = none
  b_dict : mg "dict" = none
  b_sorted : mg "sorted" = none
  b_enumerate : mg "enumerate" = none
  b_any : mg "any" = none
  b_all : mg "all" = none
  b_max : mg "max" = none
  b_min : mg "min" = none
  b_zip : mg "zip" = none
  b_range : mg "range" = none
  b_tuple : mg "tuple" = none
  b_ord : mg "ord" = none
  b_str : mg "str" = none
  g_MOST_GROUPS : GlobV mg "MOST_GROUPS" (.int 40)
  g_MOST_PAGES : GlobV mg "MOST_PAGES" (.int 2000)
  g_MOST_TAKEN : GlobV mg "MOST_TAKEN" (.int 20)
  g_MOST_NESTED : GlobV mg "MOST_NESTED" (.int 32)
  g_MANY_MEMORIES : GlobV mg "MANY_MEMORIES" (.int 3)
  g_MANY_VICTIMS : GlobV mg "MANY_VICTIMS" (.int 2)
  g_GREAT : GlobV mg "GREAT" (.int 1000000000)
  g_WRONG_KIND : GlobV mg "WRONG_KIND" (.int 1)
  g_OUT_OF_RANGE : GlobV mg "OUT_OF_RANGE" (.int 2)
  g_PLAIN_memories : GlobV mg "PLAIN_memories" (.str "plain")
  g_DIRTY : GlobV mg "DIRTY" (.str "dirty")
  g_NO_GROUP : GlobV mg "NO_GROUP" (.str "there is no such group")
  g_NO_MEMORY : GlobV mg "NO_MEMORY" (.str "out of memory")
  g_NOTHING : GlobV mg "NOTHING" (.ref A.tNOTHING)
  q_NOTHING : SqTK K A.tNOTHING [.str "nothing", .non]
  g_NULL : GlobV mg "NULL" (.ref A.tNULL)
  q_NULL : SqTK K A.tNULL [.str "null", .non]
  g_NO : GlobV mg "NO" (.ref A.tNO)
  q_NO : SqTK K A.tNO [.str "false", .non]
  g_YES : GlobV mg "YES" (.ref A.tYES)
  q_YES : SqTK K A.tYES [.str "true", .non]
  g_PLAIN_values : GlobV mg "PLAIN_values" (.ref A.tPLAIN_values)
  q_PLAIN_values : SqTK K A.tPLAIN_values [.str "nothing", .str "null", .str "false", .str "true"]
  g_ARGUMENTS : GlobV mg "ARGUMENTS" (.ref A.tARGUMENTS)
  q_ARGUMENTS : SqTK K A.tARGUMENTS [.int 2, .int 3, .int 3, .int 2, .int 3, .int 3, .int 3, .int 2, .int 2, .int 3, .int 2, .int 3, .int 2, .int 2, .int 1, .int 1, .int 2, .int 1, .int 2]
  g_STATES : GlobV mg "STATES" (.ref A.tSTATES)
  q_STATES : SqTK K A.tSTATES [.str "plain", .str "dirty", .str "locked"]

/-! ### the defs, as they are called -/
section
variable (P : Program) (w : World) (K : PySem.W.Frag) (mg : Str → Option Value) (base : Heap) (CX : CXT)
/-- the module's def x -/
def GF (k : Nat) (x : Str) (ps : List Str) (sp : Sp) : Prop := ∃ (f : Addr) (fd : FuncData), mg x = some (.ref f) ∧ PySem.W.keepIn K (.ref f) = true ∧ Binds K fd ps [] ∧ FnOk P w K mg base CX k f fd ps sp
/-- the method m of the class at C -/
def GM (k : Nat) (C : Addr) (m : Str) (ps : List Str) (sp : Sp) : Prop := ∃ (f : Addr) (fd : FuncData), Meth K C m f ∧ Binds K fd ps [] ∧ FnOk P w K mg base CX k f fd ps sp
/-- the class x, at C, by its __init__ -/
def GC (k : Nat) (x : Str) (C : Addr) (ps : List Str) (sp : Sp) : Prop := ∃ (f : Addr) (fd : FuncData), mg x = some (.ref C) ∧ Mk K C f ∧ Binds K fd ps [] ∧ FnOk P w K mg base CX k f fd ps sp
end
section
variable {X : Cx} {CX : CXT} {k : Nat} {C : Addr} {ps : List Str} {sp : Sp} {E : XK} {x m : Str} {p pos apos : Pos} {e o : Expr} {es : List Expr} {ta : TE} {t : TA}
theorem pe_gf (G : GF X.prog X.w X.K X.mg X.base CX k x ps sp) (hr : Room k X.A) (hx : Passes CX X E) (ha : PA X (e :: es) t) (hg : Gl X x := by rfl) (hdb : (x == ("__debug__" : Str)) = false := by decide)
    (he : starEach (e :: es) X.env = (false, eval e X.env) :: starEach es X.env := by rfl) (hpl : (backTo pos (starEach es X.env)).any (·.1) = false := by rfl) : PE X (.Call (.Name x p) (e :: es) [] pos) (tCall sp [] E t) := by
  obtain ⟨f, fd, hm, hk, hb, F⟩ := G
  exact pe_call F hr hg hm hk hb .nil hx ha hdb he hpl
theorem pe_gm {pl : Sem Bool} (G : GM X.prog X.w X.K X.mg X.base CX k C m ps sp) (c : Cls X.K C) (hr : Room k X.A) (hx : Passes CX X E) (he : PE X o ta) (ha : PA X (e :: es) t)
    (hst : starEach (e :: es) X.env = (false, eval e X.env) :: starEach es X.env := by rfl) (hpl : (backTo pos (starEach es X.env)).any (·.1) = false := by rfl)
    (ht : eval (.Call (.Attribute o m apos) (e :: es) [] pos) X.env = (do
      let ov ← eval o X.env
      standAt apos.atName
      let (f, first) ← holding [ov] (getMethod ov m pl)
      callWith pos f first (backTo pos (starEach (e :: es) X.env)) (backToKw pos (keywordEach [] X.env))) := by rfl) :
    PE X (.Call (.Attribute o m apos) (e :: es) [] pos) (tMeth C m sp [] E ta t) := by
  obtain ⟨f, fd, hm, hb, F⟩ := G
  exact pe_meth he c hm F hr hb .nil hx ha hst hpl ht
theorem pe_gm0 {pl : Sem Bool} (G : GM X.prog X.w X.K X.mg X.base CX k C m ps sp) (c : Cls X.K C) (hr : Room k X.A) (hx : Passes CX X E) (he : PE X o ta)
    (ht : eval (.Call (.Attribute o m apos) [] [] pos) X.env = (do
      let ov ← eval o X.env
      standAt apos.atName
      let (f, first) ← holding [ov] (getMethod ov m pl)
      callWith pos f first (backTo pos (starEach [] X.env)) (backToKw pos (keywordEach [] X.env))) := by rfl) :
    PE X (.Call (.Attribute o m apos) [] [] pos) (tMeth C m sp [] E ta tNil) := by
  obtain ⟨f, fd, hm, hb, F⟩ := G
  exact pe_meth0 he c hm F hr hb .nil hx ht
theorem pe_gc (G : GC X.prog X.w X.K X.mg X.base CX k x C ps sp) (hr : Room (k + 1) X.A) (hx : Passes CX X E) (ha : PA X (e :: es) t) (hg : Gl X x := by rfl) (hdb : (x == ("__debug__" : Str)) = false := by decide)
    (he : starEach (e :: es) X.env = (false, eval e X.env) :: starEach es X.env := by rfl) (hpl : (backTo pos (starEach es X.env)).any (·.1) = false := by rfl) : PE X (.Call (.Name x p) (e :: es) [] pos) (tMake C sp [] E t) := by
  obtain ⟨f, fd, hm, M, hb, F⟩ := G
  exact pe_make M F hr hg hm hb .nil hx ha hdb he hpl
theorem pe_gc0 (G : GC X.prog X.w X.K X.mg X.base CX k x C ps sp) (hr : Room (k + 1) X.A) (hx : Passes CX X E) (hg : Gl X x := by rfl) (hdb : (x == ("__debug__" : Str)) = false := by decide) : PE X (.Call (.Name x p) [] [] pos) (tMake C sp [] E tNil) := by
  obtain ⟨f, fd, hm, M, hb, F⟩ := G
  exact pe_make0 M F hr hg hm hb .nil hx hdb
end
section
variable {P : Program} {w : World} {K : PySem.W.Frag} {mg : Str → Option Value} {base : Heap}
/-- as Fun.ok, for a def that may raise, the error's context None -/
theorem okN {x qual : Str} {st : Stmt} {f : Addr} {fd : FuncData} {N ps : List Str} {k : Nat} {sp : Sp} (F : Fun K x qual st f fd) (S : FnScope N ps (defScope st)) (len : ∀ vs H Q E, sp vs H Q E → vs.length = ps.length)
    (hbody : ∀ (cdv : Value) (A : Around) (outer : List Env) (s : Shared) (H : Hp) (vs : List V) (Q : VK) (E : XK), Room k (A.deeper (envOfC qual (defScope st) s.heap.objs.size f cdv)) → sp vs H Q E →
      ∃ t, PSs (cxOf (L2N.CX P w) P w K mg base N qual (defScope st) f cdv A outer s H E) (defBody st) t ∧ t { nx := fun _ H' => Q .non H', rt := Q } (start N vs) H) : FnOk P w K mg base (L2N.CX P w) (k + 1) f fd ps sp := by
  obtain ⟨oc, od, kV, doc, pm, an, cdv, ct, osl, rfl, lk, hcd⟩ := F.ex
  exact fn_of lk hcd S len fun A outer s H vs Q E hr hsp => hbody cdv A outer s H vs Q E hr hsp
end
/-- what a callee may raise, this def may raise -/
theorem passN {X : Cx} {E : XK} (tk : L2N.Takes X (fun cls d _ H => E cls d H)) : Passes (L2N.CX X.prog X.w) X E := L2N.passes_call tk fun _ _ _ _ h => h

/-! ### heaps -/
theorem _root_.L2.Same.new {H : Hp} {p : Addr} {o : HO} (h : H p = none) : Same H (upd H p o) := fun a u e => by
  rw [upd_ne (ne_of_none e h)]
  exact e
theorem _root_.L2.Same.mut {H H' : Hp} {p : Addr} {o : HO} (s : Same H H') (h : H p = none) : Same H (upd H' p o) := fun a u e => by
  rw [upd_ne (ne_of_none e h)]
  exact s a u e
theorem _root_.L2.Same.rd {H H' : Hp} {a : Addr} {u : HO} (s : Same H H') (h : Rd H a u) : Rd H' a u := by
  rcases h with h | ⟨o, h⟩
  · exact .inl (s a _ h)
  · exact .inr ⟨o, s a _ h⟩
theorem _root_.L2.Same.tup {K : PySem.W.Frag} {H H' : Hp} {a : Addr} {xs : List V} (s : Same H H') (h : SqT K H a xs) : SqT K H' a xs := by
  rcases h with h | h
  · exact .inl (s.rd h)
  · exact .inr h
theorem small_line {n : Nat} (h : n ≤ 1000000) : n ≤ sizeLine := Nat.le_trans h (by decide)
theorem small_lt {n : Nat} (h : n < 1000000) : n < sizeLine := Nat.lt_of_lt_of_le h (by decide)

/-! ### dicts whose keys are numbers -/
abbrev iK (g : Nat) : Key := Sum.inl (g : Int)
def kvF (l : List Nat) (f : Nat → V) : List (Key × V) := l.map fun g => (iK g, f g)
theorem kvF_len (l : List Nat) (f : Nat → V) : (kvF l f).length = l.length := by
  unfold kvF
  rw [List.length_map]
theorem iK_inj {a b : Nat} (h : iK a = iK b) : a = b := by
  have := Sum.inl.inj h
  omega
theorem iK_dec (a b : Nat) : decide (iK a = iK b) = decide (a = b) := by
  by_cases h : a = b
  · rw [h, decide_eq_true rfl, decide_eq_true rfl]
  · rw [decide_eq_false h, decide_eq_false fun e => h (iK_inj e)]
theorem kvF_in {l : List Nat} {f : Nat → V} {g : Nat} (h : g ∈ l) : valV (kvF l f) (iK g) = some (f g) := by
  induction l with
  | nil => cases h
  | cons a r ih =>
    by_cases e : a = g
    · subst e
      exact valV_pos (p := (iK a, f a)) rfl
    · have hr : g ∈ r := by
        rcases List.mem_cons.mp h with q | q
        · exact absurd q.symm e
        · exact q
      show valV ((iK a, f a) :: kvF r f) (iK g) = _
      rw [valV_neg (fun q => e (iK_inj q))]
      exact ih hr
theorem kvF_out {l : List Nat} {f : Nat → V} {g : Nat} (h : g ∉ l) : valV (kvF l f) (iK g) = none := by
  induction l with
  | nil => rfl
  | cons a r ih =>
    rw [List.mem_cons, not_or] at h
    show valV ((iK a, f a) :: kvF r f) (iK g) = _
    rw [valV_neg (fun q => h.1 (iK_inj q).symm)]
    exact ih h.2
theorem kvF_isSome (l : List Nat) (f : Nat → V) (g : Nat) : (valV (kvF l f) (iK g)).isSome = decide (g ∈ l) := by
  by_cases h : g ∈ l
  · rw [kvF_in h, decide_eq_true h]
    rfl
  · rw [kvF_out h, decide_eq_false h]
    rfl
theorem kvF_congr {l : List Nat} {f f' : Nat → V} (h : ∀ g ∈ l, f g = f' g) : kvF l f = kvF l f' := by
  unfold kvF
  exact List.map_congr_left fun g hg => by rw [h g hg]
theorem kvF_put {l : List Nat} {f : Nat → V} {g : Nat} {v : V} (h : g ∈ l) : putK (kvF l f) (iK g) v = kvF l (fun x => if x = g then v else f x) := by
  have hs : ((kvF l f).any fun kv => decide (kv.1 = iK g)) = true := by
    rw [valV_any, kvF_in h]
    rfl
  unfold putK
  rw [if_pos hs]
  unfold kvF
  rw [List.map_map]
  refine List.map_congr_left fun x _ => ?_
  show (if iK x = iK g then (iK x, v) else (iK x, f x)) = (iK x, if x = g then v else f x)
  by_cases e : x = g
  · rw [if_pos e, if_pos (congrArg iK e)]
  · rw [if_neg e, if_neg fun q => e (iK_inj q)]
theorem kvF_new {l : List Nat} {f : Nat → V} {g : Nat} {v : V} (h : g ∉ l) : putK (kvF l f) (iK g) v = kvF (l ++ [g]) (fun x => if x = g then v else f x) := by
  rw [putK_new v (kvF_out h)]
  unfold kvF
  rw [List.map_append]
  congr 1
  · refine List.map_congr_left fun x hx => ?_
    have e : x ≠ g := fun e => h (e ▸ hx)
    show (iK x, f x) = (iK x, if x = g then v else f x)
    rw [if_neg e]
  · show [(iK g, v)] = [(iK g, if g = g then v else f g)]
    rw [if_pos rfl]
theorem kvF_drop (l : List Nat) (f : Nat → V) (g : Nat) : dropK (kvF l f) (iK g) = kvF (l.filter (· != g)) f := by
  unfold dropK kvF
  rw [List.filter_map]
  congr 1
  refine List.filter_congr fun x _ => ?_
  show decide (iK x ≠ iK g) = (x != g)
  by_cases e : x = g
  · rw [e]
    simp
  · have h1 : iK x ≠ iK g := fun q => e (iK_inj q)
    rw [decide_eq_true h1]
    simpa using e
theorem kvF_keys (l : List Nat) (f : Nat → V) : ((kvF l f).map fun kv => kV kv.1) = l.map nV := by
  unfold kvF
  rw [List.map_map]
  rfl
theorem kvF_get {l : List Nat} {f : Nat → V} {i : Nat} {kv : Key × V} (h : (kvF l f)[i]? = some kv) : ∃ g, l[i]? = some g ∧ kv = (iK g, f g) := by
  unfold kvF at h
  rw [List.getElem?_map] at h
  cases e : l[i]? with
  | none =>
    rw [e] at h
    cases h
  | some g =>
    rw [e] at h
    exact ⟨g, rfl, (Option.some.inj h).symm⟩
theorem kvF_merge {l : List Nat} {f : Nat → V} (nd : l.Nodup) : mergeK [] (kvF l f) = kvF l f := by
  have key : ∀ (r s : List Nat), (s ++ r).Nodup → mergeK (kvF s f) (kvF r f) = kvF (s ++ r) f := by
    intro r
    induction r with
    | nil =>
      intro s _
      rw [List.append_nil]
      rfl
    | cons a r ih =>
      intro s h
      have ha : a ∉ s := fun hm => (List.nodup_append.mp h).2.2 a hm a (List.mem_cons_self ..) rfl
      show mergeK (putK (kvF s f) (iK a) (f a)) (kvF r f) = _
      rw [kvF_new ha]
      have e : kvF (s ++ [a]) (fun x => if x = a then f a else f x) = kvF (s ++ [a]) f := kvF_congr fun x _ => by
        by_cases q : x = a
        · rw [if_pos q, q]
        · rw [if_neg q]
      rw [e, ih (s ++ [a]) (by rw [List.append_assoc]; exact h), List.append_assoc]
      rfl
  exact key l [] (by simpa using nd)
/-- reading a dict, locked or not -/
theorem dget_rd {H : Hp} {a : Addr} {l : List Nat} {f : Nat → V} {g : Nat} (e : Rd H a (.dK (kvF l f))) : DGet H a (nV g) (valV (kvF l f) (iK g)) := .inl ⟨_, iK g, e, rfl, rfl⟩
theorem dget_in {H : Hp} {a : Addr} {l : List Nat} {f : Nat → V} {g : Nat} (e : Rd H a (.dK (kvF l f))) (h : g ∈ l) : DGet H a (nV g) (some (f g)) := by
  have := dget_rd (g := g) e
  rwa [kvF_in h] at this
theorem dput_in {H : Hp} {a : Addr} {l : List Nat} {f : Nat → V} {g : Nat} {v : V} (e : H a = some (.dK (kvF l f))) (h : g ∈ l) (hl : l.length ≤ 1000) : DPut H a (nV g) v (upd H a (.dK (kvF l fun x => if x = g then v else f x))) := by
  have := DPut.k (k := iK g) (v := v) e (by rw [kvF_len]; exact small_lt (by omega))
  rwa [kvF_put h] at this
theorem dput_new {H : Hp} {a : Addr} {l : List Nat} {f : Nat → V} {g : Nat} {v : V} (e : H a = some (.dK (kvF l f))) (h : g ∉ l) (hl : l.length ≤ 1000) : DPut H a (nV g) v (upd H a (.dK (kvF (l ++ [g]) fun x => if x = g then v else f x))) := by
  have := DPut.k (k := iK g) (v := v) e (by rw [kvF_len]; exact small_lt (by omega))
  rwa [kvF_new h] at this
end Gm
end

section
set_option maxRecDepth 100000
set_option maxHeartbeats 8000000
/-! # The heap, part 2: how a memory lies in it -/
namespace Gm
open PySem PySem.Spec PyProof.Rows L2 L2G GmM
open R7278g.Spec (live kids chain under usage)
/-! ### fields (printed by gen_fields.py) -/
theorem lk_here {k : Str} {v : V} {r : List (Str × V)} : List.lookup k ((k, v) :: r) = some v := by
  have e : (k == k) = true := beq_self_eq_true k
  simp only [List.lookup, e]
theorem lk_past {k g : Str} {v : V} {r : List (Str × V)} (h : (k == g) = false) : List.lookup k ((g, v) :: r) = List.lookup k r := by
  simp only [List.lookup, h]
theorem put_here {f : Str} {v x : V} {r : List (Str × V)} : putF f v ((f, x) :: r) = (f, v) :: r := if_pos rfl
theorem put_past {f g : Str} {v x : V} {r : List (Str × V)} (h : ¬ g = f) : putF f v ((g, x) :: r) = (g, x) :: putF f v r := if_neg h
def memF (ag : Addr) (mk : Nat) (ar : Addr) (nx : Nat) (tk : Addr) : List (Str × V) := [("groups", .ref ag), ("made", nV mk), ("rows", .ref ar), ("next_page", nV nx), ("taken", .ref tk)]
theorem memF_groups (ag : Addr) (mk : Nat) (ar : Addr) (nx : Nat) (tk : Addr) : (memF ag mk ar nx tk).lookup ("groups" : Str) = some (.ref ag) := lk_here
theorem memF_made (ag : Addr) (mk : Nat) (ar : Addr) (nx : Nat) (tk : Addr) : (memF ag mk ar nx tk).lookup ("made" : Str) = some (nV mk) := (lk_past (by decide +kernel)).trans (lk_here)
theorem memF_rows (ag : Addr) (mk : Nat) (ar : Addr) (nx : Nat) (tk : Addr) : (memF ag mk ar nx tk).lookup ("rows" : Str) = some (.ref ar) := (lk_past (by decide +kernel)).trans ((lk_past (by decide +kernel)).trans (lk_here))
theorem memF_next_page (ag : Addr) (mk : Nat) (ar : Addr) (nx : Nat) (tk : Addr) : (memF ag mk ar nx tk).lookup ("next_page" : Str) = some (nV nx) := (lk_past (by decide +kernel)).trans ((lk_past (by decide +kernel)).trans ((lk_past (by decide +kernel)).trans (lk_here)))
theorem memF_taken (ag : Addr) (mk : Nat) (ar : Addr) (nx : Nat) (tk : Addr) : (memF ag mk ar nx tk).lookup ("taken" : Str) = some (.ref tk) := (lk_past (by decide +kernel)).trans ((lk_past (by decide +kernel)).trans ((lk_past (by decide +kernel)).trans ((lk_past (by decide +kernel)).trans (lk_here))))
theorem memF_put_groups (ag : Addr) (mk : Nat) (ar : Addr) (nx : Nat) (tk : Addr) (y : Addr) : putF "groups" (.ref y) (memF ag mk ar nx tk) = memF y mk ar nx tk := put_here
theorem memF_put_made (ag : Addr) (mk : Nat) (ar : Addr) (nx : Nat) (tk : Addr) (y : Nat) : putF "made" (nV y) (memF ag mk ar nx tk) = memF ag y ar nx tk := (put_past (by decide +kernel)).trans (congrArg _ (put_here))
theorem memF_put_rows (ag : Addr) (mk : Nat) (ar : Addr) (nx : Nat) (tk : Addr) (y : Addr) : putF "rows" (.ref y) (memF ag mk ar nx tk) = memF ag mk y nx tk := (put_past (by decide +kernel)).trans (congrArg _ ((put_past (by decide +kernel)).trans (congrArg _ (put_here))))
theorem memF_put_next_page (ag : Addr) (mk : Nat) (ar : Addr) (nx : Nat) (tk : Addr) (y : Nat) : putF "next_page" (nV y) (memF ag mk ar nx tk) = memF ag mk ar y tk := (put_past (by decide +kernel)).trans (congrArg _ ((put_past (by decide +kernel)).trans (congrArg _ ((put_past (by decide +kernel)).trans (congrArg _ (put_here))))))
theorem memF_put_taken (ag : Addr) (mk : Nat) (ar : Addr) (nx : Nat) (tk : Addr) (y : Addr) : putF "taken" (.ref y) (memF ag mk ar nx tk) = memF ag mk ar nx y := (put_past (by decide +kernel)).trans (congrArg _ ((put_past (by decide +kernel)).trans (congrArg _ ((put_past (by decide +kernel)).trans (congrArg _ ((put_past (by decide +kernel)).trans (congrArg _ (put_here))))))))
theorem memF_new (ag : Addr) (mk : Nat) (ar : Addr) (nx : Nat) (tk : Addr) : (putF "taken" (.ref tk) (putF "next_page" (nV nx) (putF "rows" (.ref ar) (putF "made" (nV mk) (putF "groups" (.ref ag) []))))) = memF ag mk ar nx tk := by
  simp only [putF]
  rfl
def grpF (pv : V) (la : Addr) : List (Str × V) := [("parent", pv), ("limits", .ref la)]
theorem grpF_parent (pv : V) (la : Addr) : (grpF pv la).lookup ("parent" : Str) = some (pv) := lk_here
theorem grpF_limits (pv : V) (la : Addr) : (grpF pv la).lookup ("limits" : Str) = some (.ref la) := (lk_past (by decide +kernel)).trans (lk_here)
theorem grpF_put_parent (pv : V) (la : Addr) (y : V) : putF "parent" (y) (grpF pv la) = grpF y la := put_here
theorem grpF_put_limits (pv : V) (la : Addr) (y : Addr) : putF "limits" (.ref y) (grpF pv la) = grpF pv y := (put_past (by decide +kernel)).trans (congrArg _ (put_here))
theorem grpF_new (pv : V) (la : Addr) : (putF "limits" (.ref la) (putF "parent" (pv) [])) = grpF pv la := by
  simp only [putF]
  rfl
def limF (a : Nat) (b : Nat) (c : Nat) : List (Str × V) := [("most", nV a), ("least", nV b), ("low", nV c)]
theorem limF_most (a : Nat) (b : Nat) (c : Nat) : (limF a b c).lookup ("most" : Str) = some (nV a) := lk_here
theorem limF_least (a : Nat) (b : Nat) (c : Nat) : (limF a b c).lookup ("least" : Str) = some (nV b) := (lk_past (by decide +kernel)).trans (lk_here)
theorem limF_low (a : Nat) (b : Nat) (c : Nat) : (limF a b c).lookup ("low" : Str) = some (nV c) := (lk_past (by decide +kernel)).trans ((lk_past (by decide +kernel)).trans (lk_here))
theorem limF_put_most (a : Nat) (b : Nat) (c : Nat) (y : Nat) : putF "most" (nV y) (limF a b c) = limF y b c := put_here
theorem limF_put_least (a : Nat) (b : Nat) (c : Nat) (y : Nat) : putF "least" (nV y) (limF a b c) = limF a y c := (put_past (by decide +kernel)).trans (congrArg _ (put_here))
theorem limF_put_low (a : Nat) (b : Nat) (c : Nat) (y : Nat) : putF "low" (nV y) (limF a b c) = limF a b y := (put_past (by decide +kernel)).trans (congrArg _ ((put_past (by decide +kernel)).trans (congrArg _ (put_here))))
theorem limF_new (a : Nat) (b : Nat) (c : Nat) : (putF "low" (nV c) (putF "least" (nV b) (putF "most" (nV a) []))) = limF a b c := by
  simp only [putF]
  rfl
def pagF (i : Nat) (g : Nat) (s : Str) : List (Str × V) := [("number", nV i), ("group", nV g), ("state", .str s)]
theorem pagF_number (i : Nat) (g : Nat) (s : Str) : (pagF i g s).lookup ("number" : Str) = some (nV i) := lk_here
theorem pagF_group (i : Nat) (g : Nat) (s : Str) : (pagF i g s).lookup ("group" : Str) = some (nV g) := (lk_past (by decide +kernel)).trans (lk_here)
theorem pagF_state (i : Nat) (g : Nat) (s : Str) : (pagF i g s).lookup ("state" : Str) = some (.str s) := (lk_past (by decide +kernel)).trans ((lk_past (by decide +kernel)).trans (lk_here))
theorem pagF_put_number (i : Nat) (g : Nat) (s : Str) (y : Nat) : putF "number" (nV y) (pagF i g s) = pagF y g s := put_here
theorem pagF_put_group (i : Nat) (g : Nat) (s : Str) (y : Nat) : putF "group" (nV y) (pagF i g s) = pagF i y s := (put_past (by decide +kernel)).trans (congrArg _ (put_here))
theorem pagF_put_state (i : Nat) (g : Nat) (s : Str) (y : Str) : putF "state" (.str y) (pagF i g s) = pagF i g y := (put_past (by decide +kernel)).trans (congrArg _ ((put_past (by decide +kernel)).trans (congrArg _ (put_here))))
theorem pagF_new (i : Nat) (g : Nat) (s : Str) : (putF "state" (.str s) (putF "group" (nV g) (putF "number" (nV i) []))) = pagF i g s := by
  simp only [putF]
  rfl
def rdrF (oa : Addr) (at_ : Nat) : List (Str × V) := [("octets", .ref oa), ("at", nV at_)]
theorem rdrF_octets (oa : Addr) (at_ : Nat) : (rdrF oa at_).lookup ("octets" : Str) = some (.ref oa) := lk_here
theorem rdrF_at (oa : Addr) (at_ : Nat) : (rdrF oa at_).lookup ("at" : Str) = some (nV at_) := (lk_past (by decide +kernel)).trans (lk_here)
theorem rdrF_put_octets (oa : Addr) (at_ : Nat) (y : Addr) : putF "octets" (.ref y) (rdrF oa at_) = rdrF y at_ := put_here
theorem rdrF_put_at (oa : Addr) (at_ : Nat) (y : Nat) : putF "at" (nV y) (rdrF oa at_) = rdrF oa y := (put_past (by decide +kernel)).trans (congrArg _ (put_here))
theorem rdrF_new (oa : Addr) (at_ : Nat) : (putF "at" (nV at_) (putF "octets" (.ref oa) [])) = rdrF oa at_ := by
  simp only [putF]
  rfl
def dskF (ma : Addr) (va : Addr) : List (Str × V) := [("memories", .ref ma), ("victims", .ref va)]
theorem dskF_memories (ma : Addr) (va : Addr) : (dskF ma va).lookup ("memories" : Str) = some (.ref ma) := lk_here
theorem dskF_victims (ma : Addr) (va : Addr) : (dskF ma va).lookup ("victims" : Str) = some (.ref va) := (lk_past (by decide +kernel)).trans (lk_here)
theorem dskF_put_memories (ma : Addr) (va : Addr) (y : Addr) : putF "memories" (.ref y) (dskF ma va) = dskF y va := put_here
theorem dskF_put_victims (ma : Addr) (va : Addr) (y : Addr) : putF "victims" (.ref y) (dskF ma va) = dskF ma y := (put_past (by decide +kernel)).trans (congrArg _ (put_here))
theorem dskF_new (ma : Addr) (va : Addr) : (putF "victims" (.ref va) (putF "memories" (.ref ma) [])) = dskF ma va := by
  simp only [putF]
  rfl
def stS : R7278g.Spec.State → Str
  | .plain => "plain"
  | .dirty => "dirty"
  | .locked => "locked"

/-! ### a field is read -/
section
variable {K : PySem.W.Frag} {H : Hp} {a C dx : Addr} {fs : List (Str × V)} {f : Str} {v : V} {Q : V → Prop}
abbrev FldE (K : PySem.W.Frag) (H : Hp) (x : V) (f : Str) (Q : V → Prop) : Prop := ∃ (a' C' dx' : Addr) (fs' : List (Str × V)) (v' : V), x = .ref a' ∧ H a' = some (.ins C' dx' fs') ∧ Cls K C' ∧ NoAttr K C' f ∧ fs'.lookup f = some v' ∧ Q v'
theorem at_fld (ho : H a = some (.ins C dx fs)) (c : Cls K C) (n : NoAttr K C f) (l : fs.lookup f = some v) (q : Q v) :
    FldE K H (.ref a) f Q := ⟨a, C, dx, fs, v, rfl, ho, c, n, l, q⟩
theorem at_sfld {D : Ends} {σ : L2.St} {y : V} (ho : H a = some (.ins C dx fs)) (c : Cls K C) (n : NoAttr K C f) (hl : fs.length < 1000) (q : D.nx σ (upd H a (.ins C dx (putF f y fs)))) :
    ∃ a' C' dx' fs', (V.ref a : V) = .ref a' ∧ H a' = some (.ins C' dx' fs') ∧ Cls K C' ∧ NoAttr K C' f ∧ fs'.length < 1000 ∧ D.nx σ (upd H a' (.ins C' dx' (putF f y fs'))) := ⟨a, C, dx, fs, rfl, ho, c, n, hl, q⟩
theorem at_dget {l : List Nat} {g : Nat} {fv : Nat → V} (e : Rd H a (.dK (kvF l fv))) (h : g ∈ l) (q : Q (fv g)) : ∃ a' v', (V.ref a : V) = .ref a' ∧ DGet H a' (nV g) (some v') ∧ Q v' := ⟨a, fv g, rfl, dget_in e h, q⟩
theorem at_din {l : List Nat} {g : Nat} {fv : Nat → V} (e : Rd H a (.dK (kvF l fv))) (q : Q (.bl (decide (g ∈ l)))) : ∃ a' o, (V.ref a : V) = .ref a' ∧ DGet H a' (nV g) o ∧ Q (.bl o.isSome) :=
  ⟨a, _, rfl, dget_rd e, by rw [kvF_isSome]; exact q⟩
theorem at_dnin {l : List Nat} {g : Nat} {fv : Nat → V} (e : Rd H a (.dK (kvF l fv))) (q : Q (.bl (!decide (g ∈ l)))) : ∃ a' o, (V.ref a : V) = .ref a' ∧ DGet H a' (nV g) o ∧ Q (.bl (!o.isSome)) :=
  ⟨a, _, rfl, dget_rd e, by rw [kvF_isSome]; exact q⟩
end

/-! ### a memory -/
structure Lay where
  a : Addr
  ag : Addr
  ar : Addr
  tk : Addr
  ga : Nat → Addr
  la : Nat → Addr
  ra : Nat → Addr
def parV (gs : SGroups) (g : Nat) : V := if g = 0 then .non else nV (par gs g)
abbrev grps (L : Lay) (m : SMem) : HO := .dK (kvF (liveL m.groups) fun g => .ref (L.ga g))
abbrev pgRefs (L : Lay) (l : List SPage) : List V := l.map fun p => V.ref (L.ra p.id)
/-- the records of pages taken -/
def TkAt (K : PySem.W.Frag) (H : Hp) : List Addr → List (Nat × Nat) → Prop := Paired fun t e => SqT K H t [nV e.1, nV e.2]
structure MemR (K : PySem.W.Frag) (A : Ad) (H : Hp) (L : Lay) (m : SMem) : Prop where
  wf : MWF m
  self : ∃ dx, H L.a = some (.ins A.mem dx (memF L.ag m.groups.length L.ar m.next L.tk))
  grps : Rd H L.ag (grps L m)
  grp : ∀ g, live m.groups g = true → ∃ dx, H (L.ga g) = some (.ins A.grp dx (grpF (parV m.groups g) (L.la g)))
  lim : ∀ g, live m.groups g = true → ∃ dx, H (L.la g) = some (.ins A.lim dx (limF (m.groups.at_ g).max (m.groups.at_ g).min (m.groups.at_ g).low))
  rows : H L.ar = some (.lst (pgRefs L m.pages))
  page : ∀ p ∈ m.pages, ∃ dx, H (L.ra p.id) = some (.ins A.pag dx (pagF p.id p.group (stS p.state)))
  tk : ∃ ts : List Addr, H L.tk = some (.lst (ts.map V.ref)) ∧ TkAt K H ts m.taken
  inj : ∀ g h, live m.groups g = true → live m.groups h = true → L.ga g = L.ga h → g = h
structure MemAt (K : PySem.W.Frag) (A : Ad) (H : Hp) (L : Lay) (m : SMem) : Prop extends MemR K A H L m where
  own : H L.ag = some (Gm.grps L m)
/-- what a memory is made of and may change -/
def Fp (L : Lay) (m : SMem) (b : Addr) : Prop :=
  b = L.a ∨ b = L.ag ∨ b = L.ar ∨ b = L.tk ∨ (∃ g, live m.groups g = true ∧ (b = L.ga g ∨ b = L.la g)) ∨ ∃ p ∈ m.pages, b = L.ra p.id
theorem TkAt.same {K : PySem.W.Frag} {H H' : Hp} {ts : List Addr} {l : List (Nat × Nat)} (r : TkAt K H ts l) (h : ∀ t xs, SqT K H t xs → SqT K H' t xs) : TkAt K H' ts l := L2.Paired.mapP r fun _ _ q => h _ _ q
section
variable {K : PySem.W.Frag} {mg : Str → Option Value} {A : Ad} {H H' : Hp} {L : Lay} {m : SMem}
theorem MemR.mono (M : MemR K A H L m) (s : Same H H') : MemR K A H' L m where
  wf := M.wf
  self := let ⟨dx, e⟩ := M.self; ⟨dx, s _ _ e⟩
  grps := s.rd M.grps
  grp := fun g h => let ⟨dx, e⟩ := M.grp g h; ⟨dx, s _ _ e⟩
  lim := fun g h => let ⟨dx, e⟩ := M.lim g h; ⟨dx, s _ _ e⟩
  rows := s _ _ M.rows
  page := fun p h => let ⟨dx, e⟩ := M.page p h; ⟨dx, s _ _ e⟩
  tk := let ⟨ts, e, t⟩ := M.tk; ⟨ts, s _ _ e, TkAt.same t fun _ _ q => s.tup q⟩
  inj := M.inj
theorem MemAt.mono (M : MemAt K A H L m) (s : Same H H') : MemAt K A H' L m := ⟨M.toMemR.mono s, s _ _ M.own⟩
/-- what stands at a memory's own addresses is no tuple -/
theorem MemR.kind (M : MemR K A H L m) {b : Addr} (h : Fp L m b) : ∃ o, H b = some o ∧ ∀ xs, o ≠ .tup xs := by
  rcases h with e | e | e | e | ⟨g, hg, e | e⟩ | ⟨p, hp, e⟩
  · obtain ⟨dx, q⟩ := M.self
    exact ⟨_, by rw [e]; exact q, fun xs z => by cases z⟩
  · rcases M.grps with q | ⟨o, q⟩
    · exact ⟨_, by rw [e]; exact q, fun xs z => by cases z⟩
    · exact ⟨_, by rw [e]; exact q, fun xs z => by cases z⟩
  · exact ⟨_, by rw [e]; exact M.rows, fun xs z => by cases z⟩
  · obtain ⟨ts, q, _⟩ := M.tk
    exact ⟨_, by rw [e]; exact q, fun xs z => by cases z⟩
  · obtain ⟨dx, q⟩ := M.grp g hg
    exact ⟨_, by rw [e]; exact q, fun xs z => by cases z⟩
  · obtain ⟨dx, q⟩ := M.lim g hg
    exact ⟨_, by rw [e]; exact q, fun xs z => by cases z⟩
  · obtain ⟨dx, q⟩ := M.page p hp
    exact ⟨_, by rw [e]; exact q, fun xs z => by cases z⟩
/-- pages' records are told apart by their numbers -/
theorem MemR.ra_inj (M : MemR K A H L m) {p q : SPage} (hp : p ∈ m.pages) (hq : q ∈ m.pages) (e : L.ra p.id = L.ra q.id) : p.id = q.id := by
  obtain ⟨dx, h1⟩ := M.page p hp
  obtain ⟨dy, h2⟩ := M.page q hq
  rw [e, h2] at h1
  have h3 : pagF q.id q.group (stS q.state) = pagF p.id p.group (stS p.state) := by
    have := Option.some.inj h1
    injection this
  have h4 := congrArg (fun l => l.lookup ("number" : Str)) h3
  rw [pagF_number, pagF_number] at h4
  have h5 : (q.id : Int) = (p.id : Int) := by
    have := Option.some.inj h4
    injection this
  omega
theorem ins_ne {a b C C' dx dx' : Addr} {fs fs' : List (Str × V)} (h : H a = some (.ins C dx fs)) (h' : H b = some (.ins C' dx' fs')) (n : fs ≠ fs') : a ≠ b := fun e => by
  rw [e, h'] at h
  have := Option.some.inj h
  injection this with _ _ q
  exact n q.symm
theorem pag_ne_grp {i g : Nat} {s : Str} {pv : V} {la : Addr} : pagF i g s ≠ grpF pv la := fun e => by
  have := congrArg List.length e
  simp [pagF, grpF] at this
theorem mem_ne_grp {ag ar tk : Addr} {mk nx : Nat} {pv : V} {la : Addr} : memF ag mk ar nx tk ≠ grpF pv la := fun e => by
  have := congrArg List.length e
  simp [memF, grpF] at this
theorem mem_ne_pag {ag ar tk : Addr} {mk nx : Nat} {i g : Nat} {s : Str} : memF ag mk ar nx tk ≠ pagF i g s := fun e => by
  have := congrArg List.length e
  simp [memF, pagF] at this
theorem lim_ne_grp {a b c : Nat} {pv : V} {la : Addr} : limF a b c ≠ grpF pv la := fun e => by
  have := congrArg List.length e
  simp [limF, grpF] at this
theorem mem_ne_lim {ag ar tk : Addr} {mk nx : Nat} {a b c : Nat} : memF ag mk ar nx tk ≠ limF a b c := fun e => by
  have := congrArg List.length e
  simp [memF, limF] at this
theorem lim_ne_pag {a b c i g : Nat} {s : Str} : limF a b c ≠ pagF i g s := fun e => by
  have h := congrArg (fun l => l.map (·.1)) e
  simp [limF, pagF] at h
  exact absurd h.1 (by decide)

/-! ### the fields of a memory's objects, read -/
variable {Q : V → Prop}
section
variable (M : MemR K A H L m) (T : Txt K mg A)
include M T
theorem MemR.f_groups (q : Q (.ref L.ag)) : FldE K H (V.ref L.a) "groups" Q :=
  let ⟨_, e⟩ := M.self; at_fld e T.c_mem T.n_mem_groups (memF_groups ..) q
theorem MemR.f_made (q : Q (nV m.groups.length)) : FldE K H (V.ref L.a) "made" Q :=
  let ⟨_, e⟩ := M.self; at_fld e T.c_mem T.n_mem_made (memF_made ..) q
theorem MemR.f_rows (q : Q (.ref L.ar)) : FldE K H (V.ref L.a) "rows" Q :=
  let ⟨_, e⟩ := M.self; at_fld e T.c_mem T.n_mem_rows (memF_rows ..) q
theorem MemR.f_next (q : Q (nV m.next)) : FldE K H (V.ref L.a) "next_page" Q :=
  let ⟨_, e⟩ := M.self; at_fld e T.c_mem T.n_mem_next_page (memF_next_page ..) q
theorem MemR.f_taken (q : Q (.ref L.tk)) : FldE K H (V.ref L.a) "taken" Q :=
  let ⟨_, e⟩ := M.self; at_fld e T.c_mem T.n_mem_taken (memF_taken ..) q
theorem MemR.g_parent {g : Nat} (h : live m.groups g = true) (q : Q (parV m.groups g)) : FldE K H (V.ref (L.ga g)) "parent" Q :=
  let ⟨_, e⟩ := M.grp g h; at_fld e T.c_grp T.n_grp_parent (grpF_parent ..) q
theorem MemR.g_limits {g : Nat} (h : live m.groups g = true) (q : Q (.ref (L.la g))) : FldE K H (V.ref (L.ga g)) "limits" Q :=
  let ⟨_, e⟩ := M.grp g h; at_fld e T.c_grp T.n_grp_limits (grpF_limits ..) q
theorem MemR.l_most {g : Nat} (h : live m.groups g = true) (q : Q (nV (m.groups.at_ g).max)) : FldE K H (V.ref (L.la g)) "most" Q :=
  let ⟨_, e⟩ := M.lim g h; at_fld e T.c_lim T.n_lim_most (limF_most ..) q
theorem MemR.l_least {g : Nat} (h : live m.groups g = true) (q : Q (nV (m.groups.at_ g).min)) : FldE K H (V.ref (L.la g)) "least" Q :=
  let ⟨_, e⟩ := M.lim g h; at_fld e T.c_lim T.n_lim_least (limF_least ..) q
theorem MemR.l_low {g : Nat} (h : live m.groups g = true) (q : Q (nV (m.groups.at_ g).low)) : FldE K H (V.ref (L.la g)) "low" Q :=
  let ⟨_, e⟩ := M.lim g h; at_fld e T.c_lim T.n_lim_low (limF_low ..) q
theorem MemR.p_number {p : SPage} (h : p ∈ m.pages) (q : Q (nV p.id)) : FldE K H (V.ref (L.ra p.id)) "number" Q :=
  let ⟨_, e⟩ := M.page p h; at_fld e T.c_pag T.n_pag_number (pagF_number ..) q
theorem MemR.p_group {p : SPage} (h : p ∈ m.pages) (q : Q (nV p.group)) : FldE K H (V.ref (L.ra p.id)) "group" Q :=
  let ⟨_, e⟩ := M.page p h; at_fld e T.c_pag T.n_pag_group (pagF_group ..) q
theorem MemR.p_state {p : SPage} (h : p ∈ m.pages) (q : Q (.str (stS p.state))) : FldE K H (V.ref (L.ra p.id)) "state" Q :=
  let ⟨_, e⟩ := M.page p h; at_fld e T.c_pag T.n_pag_state (pagF_state ..) q
end
theorem MemR.lv (M : MemR K A H L m) {g : Nat} (h : g ∈ liveL m.groups) : live m.groups g = true := mem_liveL.mp h
theorem MemR.pgl (M : MemR K A H L m) {p : SPage} (h : p ∈ m.pages) : live m.groups p.group = true := (M.wf.leaf p h).1
end

/-! ### steps: F may change, F' is what it has become; all else stands -/
structure Stp (F : Addr → Prop) (H : Hp) (F' : Addr → Prop) (H' : Hp) : Prop where
  keep : ∀ b o, H b = some o → ¬ F b → H' b = some o
  sub : ∀ b, F' b → F b ∨ H b = none
theorem Stp.out {F F' : Addr → Prop} {H H' : Hp} (s : Stp F H F' H') {b : Addr} {o : HO} (h : H b = some o) (n : ¬ F b) : H' b = some o ∧ ¬ F' b :=
  ⟨s.keep b o h n, fun f => (s.sub b f).elim n fun e => by rw [e] at h; cases h⟩
theorem Stp.refl (F : Addr → Prop) (H : Hp) : Stp F H F H := ⟨fun _ _ h _ => h, fun _ h => .inl h⟩
theorem Stp.trans {F F' F'' : Addr → Prop} {H H' H'' : Hp} (a : Stp F H F' H') (b : Stp F' H' F'' H'') : Stp F H F'' H'' := by
  refine ⟨fun c o h n => ?_, fun c h => ?_⟩
  · obtain ⟨h1, n1⟩ := a.out h n
    exact b.keep c o h1 n1
  · rcases b.sub c h with h1 | h1
    · exact a.sub c h1
    · by_cases hF : F c
      · exact .inl hF
      · right
        cases q : H c with
        | none => rfl
        | some o =>
          have := a.keep c o q hF
          rw [h1] at this
          cases this
theorem Stp.same {F : Addr → Prop} {H H' : Hp} (s : Same H H') : Stp F H F H' := ⟨fun b o h _ => s b o h, fun _ h => .inl h⟩
theorem Stp.after {F F' : Addr → Prop} {H H' H'' : Hp} (a : Stp F H F' H') (s : Same H' H'') : Stp F H F' H'' := ⟨fun b o h n => s b o (a.keep b o h n), a.sub⟩
theorem Stp.before {F F' : Addr → Prop} {H H' H'' : Hp} (s : Same H H') (a : Stp F H' F' H'') : Stp F H F' H'' := (Stp.same s).trans a

/-! ### refusals -/
/-- a text of the specification -/
def strU (u : R7278g.Spec.Units) : Str := ⟨(u.map (·.toNat)).toArray⟩
def clsN : R7278g.Spec.Cls → Nat
  | .typeError => 1
  | .rangeError => 2
  | .syntaxError => 3
/-- refused, with this class and message; nothing has changed -/
def Rais (A : Ad) (H : Hp) (E : XK) (code : Nat) (msg : Str) : Prop := ∀ d H', Same H H' → H' d = some (.xd (refF (nV code) (.str msg))) → E (.ref A.ref) (some d) H'
theorem Rais.mono {A : Ad} {H H' : Hp} {E : XK} {c : Nat} {s : Str} (r : Rais A H E c s) (e : Same H H') : Rais A H' E c s := fun d H2 e2 h => r d H2 (e.trans e2) h
abbrev RaisE (A : Ad) (H : Hp) (E : XK) (e : R7278g.Spec.Err) : Prop := Rais A H E (clsN e.cls) (strU e.msg)
/-- a new list is handed back, all else as it was -/
def RetL (H : Hp) (Q : VK) (xs : List V) : Prop := ∀ p H', Same H H' → H p = none → H' p = some (.lst xs) → Q (.ref p) H'
theorem RetL.mono {H H' : Hp} {Q : VK} {xs : List V} (r : RetL H Q xs) (e : Same H H') : RetL H' Q xs := fun p H2 e2 hp h => r p H2 (e.trans e2) (e.free hp) h
/-- a new dict is handed back -/
def RetD (H : Hp) (Q : VK) (kvs : List (Key × V)) : Prop := ∀ p H', Same H H' → H p = none → H' p = some (.dK kvs) → Q (.ref p) H'
end Gm
end

section
set_option maxRecDepth 100000
set_option maxHeartbeats 8000000
/-! # The walks, part 1: refusals, the small classes -/
namespace Gm
open PySem PySem.Spec PyProof.Rows L2 L2G GmM
open R7278g.Spec (live kids chain under usage)
variable {P : Program} {w : World} {K : PySem.W.Frag} {mg : Str → Option Value} {base : Heap} {A : Ad} {f fI : Addr} {fd : FuncData}

/-! ### need_kind, need_range, need_readable -/
def spNeed (A : Ad) (code : Nat) : Sp := fun vs H Q E => ∃ b s, vs = [.bl b, .str s] ∧ (b = true → Q .non H) ∧ (b = false → Rais A H E code s)
theorem ok_need_kind (F : Fun K "need_kind" "need_kind" s_need_kind f fd) (T : Txt K mg A) (R : PySem.GmX.RefTxt K mg A.ref fI) : FnOk P w K mg base (L2N.CX P w) 1 f fd ["truth", "message"] (spNeed A 1) := by
  refine okN F sc_need_kind (fun vs H Q E h => ?_) (fun cdv A' outer s H vs Q E hr h => ⟨_, pss_one (ps_if (pt_not (pt_val (pv 0))) (pss_one (ps_raiseRef rfl R hr (L2N.takes_of rfl rfl rfl rfl) (pa_cons (pe_gl T.g_WRONG_KIND) (pa_cons (pv 1) pa_nil)))) pss_nil), ?_⟩)
  · obtain ⟨b, s, rfl, _⟩ := h
    rfl
  · obtain ⟨b, s, rfl, h1, h2⟩ := h
    refine ⟨_, rfl, b, rfl, ?_⟩
    cases b with
    | true => exact iteF (h1 rfl)
    | false => exact iteT ⟨_, rfl, _, _, rfl, fun d hd => h2 rfl d _ (Same.new hd) upd_same⟩
theorem ok_need_range (F : Fun K "need_range" "need_range" s_need_range f fd) (T : Txt K mg A) (R : PySem.GmX.RefTxt K mg A.ref fI) : FnOk P w K mg base (L2N.CX P w) 1 f fd ["truth", "message"] (spNeed A 2) := by
  refine okN F sc_need_range (fun vs H Q E h => ?_) (fun cdv A' outer s H vs Q E hr h => ⟨_, pss_one (ps_if (pt_not (pt_val (pv 0))) (pss_one (ps_raiseRef rfl R hr (L2N.takes_of rfl rfl rfl rfl) (pa_cons (pe_gl T.g_OUT_OF_RANGE) (pa_cons (pv 1) pa_nil)))) pss_nil), ?_⟩)
  · obtain ⟨b, s, rfl, _⟩ := h
    rfl
  · obtain ⟨b, s, rfl, h1, h2⟩ := h
    refine ⟨_, rfl, b, rfl, ?_⟩
    cases b with
    | true => exact iteF (h1 rfl)
    | false => exact iteT ⟨_, rfl, _, _, rfl, fun d hd => h2 rfl d _ (Same.new hd) upd_same⟩
/-- what is handed in is never malformed -/
def spNeedR : Sp := fun vs H Q _ => vs = [.bl true] ∧ Q .non H
theorem ok_need_readable (F : Fun K "need_readable" "need_readable" s_need_readable f fd) : FnOk P w K mg base CX0 1 f fd ["truth"] spNeedR := by
  refine F.ok sc_need_readable (fun vs H Q E h => ?_) (fun cdv A' outer s H vs Q E hr h => ⟨_, pss_one (ps_if (pt_not (pt_val (pv 0))) (pss_one ps_never) pss_nil), ?_⟩)
  · obtain ⟨rfl, _⟩ := h
    rfl
  · obtain ⟨rfl, h1⟩ := h
    exact ⟨_, rfl, true, rfl, iteF h1⟩

/-! ### Limits, Group, Page -/
def spLimI (A : Ad) : Sp := fun vs H Q _ => ∃ (p dx : Addr) (a b c : Nat), vs = [.ref p, nV a, nV b, nV c] ∧ H p = some (.ins A.lim dx []) ∧ Q .non (upd H p (.ins A.lim dx (limF a b c)))
theorem ok_Limits_init (F : Fun K "__init__" "Limits.__init__" s_Limits_init f fd) (T : Txt K mg A) : FnOk P w K mg base CX0 1 f fd ["self", "most", "least", "low"] (spLimI A) := by
  refine F.ok sc_Limits_init (fun vs H Q E h => ?_) (fun cdv A' outer s H vs Q E hr h => ⟨_, pss_cons (ps_fld (pv 0) (pv 1) rfl) (pss_cons (ps_fld (pv 0) (pv 2) rfl) (pss_one (ps_fld (pv 0) (pv 3) rfl))), ?_⟩)
  · obtain ⟨p, dx, a, b, c, rfl, _⟩ := h
    rfl
  · obtain ⟨p, dx, a, b, c, rfl, h1, h2⟩ := h
    refine ⟨_, rfl, _, rfl, at_sfld h1 T.c_lim T.n_lim_most (by show 0 < 1000; decide) ?_⟩
    refine ⟨_, rfl, _, rfl, at_sfld upd_same T.c_lim T.n_lim_least (by show 1 < 1000; decide) ?_⟩
    refine ⟨_, rfl, _, rfl, at_sfld upd_same T.c_lim T.n_lim_low (by show 2 < 1000; decide) ?_⟩
    rw [upd_upd, upd_upd]
    rw [limF_new]
    exact h2
def spGrpI (A : Ad) : Sp := fun vs H Q _ => ∃ (p dx : Addr) (pv : V) (la : Addr), vs = [.ref p, pv, .ref la] ∧ H p = some (.ins A.grp dx []) ∧ Q .non (upd H p (.ins A.grp dx (grpF pv la)))
theorem ok_Group_init (F : Fun K "__init__" "Group.__init__" s_Group_init f fd) (T : Txt K mg A) : FnOk P w K mg base CX0 1 f fd ["self", "parent", "limits"] (spGrpI A) := by
  refine F.ok sc_Group_init (fun vs H Q E h => ?_) (fun cdv A' outer s H vs Q E hr h => ⟨_, pss_cons (ps_fld (L2.pv 0) (L2.pv 1) rfl) (pss_one (ps_fld (L2.pv 0) (L2.pv 2) rfl)), ?_⟩)
  · obtain ⟨p, dx, a, b, rfl, _⟩ := h
    rfl
  · obtain ⟨p, dx, a, b, rfl, h1, h2⟩ := h
    refine ⟨_, rfl, _, rfl, at_sfld h1 T.c_grp T.n_grp_parent (by show 0 < 1000; decide) ?_⟩
    refine ⟨_, rfl, _, rfl, at_sfld upd_same T.c_grp T.n_grp_limits (by show 1 < 1000; decide) ?_⟩
    rw [upd_upd]
    rw [grpF_new]
    exact h2
def spPagI (A : Ad) : Sp := fun vs H Q _ => ∃ (p dx : Addr) (i g : Nat) (s : Str), vs = [.ref p, nV i, nV g, .str s] ∧ H p = some (.ins A.pag dx []) ∧ Q .non (upd H p (.ins A.pag dx (pagF i g s)))
theorem ok_Page_init (F : Fun K "__init__" "Page.__init__" s_Page_init f fd) (T : Txt K mg A) : FnOk P w K mg base CX0 1 f fd ["self", "number", "group", "state"] (spPagI A) := by
  refine F.ok sc_Page_init (fun vs H Q E h => ?_) (fun cdv A' outer s H vs Q E hr h => ⟨_, pss_cons (ps_fld (pv 0) (pv 1) rfl) (pss_cons (ps_fld (pv 0) (pv 2) rfl) (pss_one (ps_fld (pv 0) (pv 3) rfl))), ?_⟩)
  · obtain ⟨p, dx, a, b, c, rfl, _⟩ := h
    rfl
  · obtain ⟨p, dx, a, b, c, rfl, h1, h2⟩ := h
    refine ⟨_, rfl, _, rfl, at_sfld h1 T.c_pag T.n_pag_number (by show 0 < 1000; decide) ?_⟩
    refine ⟨_, rfl, _, rfl, at_sfld upd_same T.c_pag T.n_pag_group (by show 1 < 1000; decide) ?_⟩
    refine ⟨_, rfl, _, rfl, at_sfld upd_same T.c_pag T.n_pag_state (by show 2 < 1000; decide) ?_⟩
    rw [upd_upd, upd_upd]
    rw [pagF_new]
    exact h2
end Gm
end

section
set_option maxRecDepth 100000
set_option maxHeartbeats 8000000
/-! # Loops and comprehensions over anything that stands still -/
namespace Gm
open PySem PySem.Spec PyProof.Rows L2 L2G GmM

/-- the walk J goes over the items l while S stands; I: what an item gives -/
structure Goes {α : Type} (J : It) (S : Hp → Prop) (l : List α) (I : Nat → α → V → Hp → Prop) : Prop where
  go : ∀ i H, S H → i < l.length → J.go i H
  yld : ∀ i H x H', S H → i < l.length → J.yld i H x H' → ∃ a, l[i]? = some a ∧ Same H H' ∧ I i a x H'
  stop : ∀ H, S H → J.stop l.length H
theorem Goes.weak {α : Type} {J : It} {S S' : Hp → Prop} {l : List α} {I : Nat → α → V → Hp → Prop} (W : Goes J S l I) (h : ∀ H, S' H → S H) : Goes J S' l I :=
  ⟨fun i H s => W.go i H (h H s), fun i H x H' s => W.yld i H x H' (h H s), fun H s => W.stop H (h H s)⟩
theorem goes_list {α : Type} {K : PySem.W.Frag} {a : Addr} {l : List α} {h : α → V} : Goes (Itl K a) (fun H => SqL K H a (l.map h)) l (fun _ z x _ => x = h z) where
  go := fun i H s hi => ⟨l.map h, h l[i], s, by simp [hi]⟩
  yld := fun i H x H' s hi y => by
    obtain ⟨e1, y⟩ := y
    subst e1
    have := y _ s
    rw [List.getElem?_map] at this
    cases q : l[i]? with
    | none =>
      rw [q] at this
      cases this
    | some z =>
      rw [q] at this
      exact ⟨z, rfl, Same.refl _, (Option.some.inj this).symm⟩
  stop := fun H s => ⟨l.map h, s, by rw [List.length_map]; exact Nat.le_refl _⟩
theorem goes_tup {α : Type} {K : PySem.W.Frag} {a : Addr} {l : List α} {h : α → V} : Goes (Itt K a) (fun H => SqT K H a (l.map h)) l (fun _ z x _ => x = h z) where
  go := fun i H s hi => ⟨l.map h, h l[i], s, by simp [hi]⟩
  yld := fun i H x H' s hi y => by
    obtain ⟨e1, y⟩ := y
    subst e1
    have := y _ s
    rw [List.getElem?_map] at this
    cases q : l[i]? with
    | none =>
      rw [q] at this
      cases this
    | some z =>
      rw [q] at this
      exact ⟨z, rfl, Same.refl _, (Option.some.inj this).symm⟩
  stop := fun H s => ⟨l.map h, s, by rw [List.length_map]; exact Nat.le_refl _⟩
/-- a locked dict's keys -/
theorem goes_keys {d : Addr} {o : Obj} {l : List Nat} {f : Nat → V} : Goes (Itk d o (kvF l f)) (fun H => H d = some (.frz o (.dK (kvF l f)))) l (fun _ z x _ => x = nV z) where
  go := fun i H s hi => ⟨s, by rw [kvF_len]; exact hi⟩
  yld := fun i H x H' s hi y => by
    obtain ⟨e1, k, v, y, ex⟩ := y
    subst e1
    obtain ⟨g, hg, q⟩ := kvF_get y
    have q1 : k = iK g := congrArg Prod.fst q
    refine ⟨g, hg, Same.refl _, ?_⟩
    rw [ex, q1]
    rfl
  stop := fun H s => ⟨s, by rw [kvF_len]; exact Nat.le_refl _⟩
theorem goes_range {lo : Int} {n : Nat} : Goes (Itr lo n) (fun _ => True) (List.range n) (fun i z x _ => z = i ∧ x = .int (lo + (z : Int))) where
  go := fun i H _ hi => by
    rw [List.length_range] at hi
    exact hi
  yld := fun i H x H' _ hi y => by
    obtain ⟨e1, y⟩ := y
    subst e1
    rw [List.length_range] at hi
    exact ⟨i, by rw [List.getElem?_range hi], Same.refl _, rfl, y⟩
  stop := fun H _ => by
    rw [List.length_range]
    exact Nat.le_refl _
theorem goes_enum {α : Type} {K : PySem.W.Frag} {a : Addr} {l : List α} {h : α → V} : Goes (Ite K a) (fun H => SqL K H a (l.map h)) l (fun i z x H => ∃ T, x = .ref T ∧ H T = some (.tup [nV i, h z])) where
  go := fun i H s hi => ⟨l.map h, h l[i], s, by simp [hi]⟩
  yld := fun i H x H' s hi y => by
    obtain ⟨T, x0, e1, hT, e2, y⟩ := y
    subst e2
    have := y _ s
    rw [List.getElem?_map] at this
    cases q : l[i]? with
    | none =>
      rw [q] at this
      cases this
    | some z =>
      rw [q] at this
      have e3 := Option.some.inj this
      refine ⟨z, rfl, Same.new hT, T, e1, ?_⟩
      rw [upd_same, ← e3]
  stop := fun H s => ⟨l.map h, s, by rw [List.length_map]; exact Nat.le_refl _⟩
theorem goes_zip {α : Type} {K : PySem.W.Frag} {a b : Addr} {l : List α} {h k : α → V} :
    Goes (Itz K a b) (fun H => SqL K H a (l.map h) ∧ SqL K H b (l.map k)) l (fun _ z x H => ∃ T, x = .ref T ∧ H T = some (.tup [h z, k z])) where
  go := fun i H s hi => ⟨l.map h, l.map k, h l[i], k l[i], s.1, s.2, by simp [hi], by simp [hi]⟩
  yld := fun i H x H' s hi y => by
    obtain ⟨T, u, v, e1, hT, e2, y1, y2⟩ := y
    subst e2
    have q1 := y1 _ s.1
    have q2 := y2 _ s.2
    rw [List.getElem?_map] at q1 q2
    cases q : l[i]? with
    | none =>
      rw [q] at q1
      cases q1
    | some z =>
      rw [q] at q1 q2
      have e3 := Option.some.inj q1
      have e4 := Option.some.inj q2
      refine ⟨z, rfl, Same.new hT, T, e1, ?_⟩
      rw [upd_same, ← e3, ← e4]
  stop := fun H s => ⟨l.map h, l.map k, s.1, s.2, by rw [List.length_map]; exact .inl (Nat.le_refl _)⟩
theorem goes_zip3 {α : Type} {K : PySem.W.Frag} {a b c : Addr} {l : List α} {h k m : α → V} :
    Goes (Itz3 K a b c) (fun H => SqL K H a (l.map h) ∧ SqL K H b (l.map k) ∧ SqL K H c (l.map m)) l (fun _ z x H => ∃ T, x = .ref T ∧ H T = some (.tup [h z, k z, m z])) where
  go := fun i H s hi => ⟨l.map h, l.map k, l.map m, h l[i], k l[i], m l[i], s.1, s.2.1, s.2.2, by simp [hi], by simp [hi], by simp [hi]⟩
  yld := fun i H x H' s hi y => by
    obtain ⟨T, u, v, w, e1, hT, e2, y1, y2, y3⟩ := y
    subst e2
    have q1 := y1 _ s.1
    have q2 := y2 _ s.2.1
    have q3 := y3 _ s.2.2
    rw [List.getElem?_map] at q1 q2 q3
    cases q : l[i]? with
    | none =>
      rw [q] at q1
      cases q1
    | some z =>
      rw [q] at q1 q2 q3
      have e3 := Option.some.inj q1
      have e4 := Option.some.inj q2
      have e5 := Option.some.inj q3
      refine ⟨z, rfl, Same.new hT, T, e1, ?_⟩
      rw [upd_same, ← e3, ← e4, ← e5]
  stop := fun H s => ⟨l.map h, l.map k, l.map m, s.1, s.2.1, s.2.2, by simp, by simp, by simp⟩
theorem goes_text {x : Str} : Goes (Its x) (fun _ => True) x.cps.toList (fun _ c v _ => v = .str ⟨#[c]⟩) where
  go := fun i H _ hi => by
    rw [Array.length_toList] at hi
    exact hi
  yld := fun i H v H' _ hi y => by
    obtain ⟨e1, c, hc, ev⟩ := y
    subst e1
    exact ⟨c, by rw [Array.getElem?_toList]; exact hc, Same.refl _, ev⟩
  stop := fun H _ => by
    rw [Array.length_toList]
    exact Nat.le_refl _

theorem Paired.snoc {α β : Type} {F : α → β → Prop} : ∀ {l : List α} {r : List β} {a : α} {b : β}, Paired F l r → F a b → Paired F (l ++ [a]) (r ++ [b])
  | _, _, _, _, .nil, h => .cons h .nil
  | _, _, _, _, .cons h t, q => .cons h (Paired.snoc t q)
theorem Paired.fix {α : Type} {f : α → V} : ∀ {l : List α} {r : List V}, Paired (fun a y => y = f a) l r → r = l.map f
  | _, _, .nil => rfl
  | _, _, .cons h t => by
    rw [List.map_cons, h, Paired.fix t]
theorem take_snoc {α : Type} {l : List α} {i : Nat} {a : α} (h : l[i]? = some a) : l.take (i + 1) = l.take i ++ [a] := by
  rw [List.take_add_one, h]
  rfl

/-- THE COMPREHENSION: over anything that goes; R tells each item's value -/
theorem lc_goesP {α : Type} {J : It} {S : Hp → Prop} {H1 : Hp} {l : List α} {I : Nat → α → V → Hp → Prop} {g : TG} {tt : TT} {te : TE} {vs : List Nat} {σ : L2.St} {D : Addr} {Qd : Hp → Prop} (W : Goes J S l I) (hD : H1 D = none)
    (hS : ∀ H, Same H1 H → S H) (p : α → Bool) (R : α → V → Hp → Prop)
    (mono : ∀ a y H H', (∀ b o, b ≠ D → H b = some o → H' b = some o) → (∃ xs, H D = some (.lst xs)) → R a y H → R a y H') (hz : l.length < 1000000)
    (hs : ∀ i a x H, l[i]? = some a → Same H1 H → (∃ ys, H D = some (.lst ys) ∧ Paired (fun a y => R a y H) ((l.take i).filter p) ys) → I i a x H → ∀ (N : Hp → Prop) (Y : VK), (p a = false → ∀ H', Same H H' → N H') → (p a = true → ∀ y H', Same H H' → R a y H' → Y y H') →
      g x (wipe σ vs) H fun σ2 H2 => wipe σ2 vs = wipe σ vs ∧ tt σ2 H2 fun b H3 => if b = true then te σ2 H3 Y else N H3)
    (hd : ∀ H' ys, Same H1 H' → H' D = some (.lst ys) → Paired (fun a y => R a y H') (l.filter p) ys → Qd H') :
    ∃ W : Nat → Nat → Hp → Prop, (∃ m, W 0 m (upd H1 D (.lst []))) ∧ ∀ i m H, W i m H →
      (J.stop i H ∧ Qd H) ∨ (J.go i H ∧ ∃ Nx : Hp → Prop, (∀ H', Nx H' → ∃ m', m' < m ∧ W (i + 1) m' H') ∧ ∀ x H', J.yld i H x H' → g x (wipe σ vs) H' fun σ2 H2 => wipe σ2 vs = wipe σ vs ∧ tt σ2 H2 fun b H3 =>
        if b = true then te σ2 H3 fun y H4 => ∃ acc, H4 D = some (.lst acc) ∧ acc.length < sizeLine ∧ Nx (upd H4 D (.lst (acc ++ [y]))) else Nx H3) := by
  let Pv : Nat → Hp → Prop := fun i H => Same H1 H ∧ ∃ ys, H D = some (.lst ys) ∧ Paired (fun a y => R a y H) ((l.take i).filter p) ys
  refine ⟨fun i m H => m = l.length - i ∧ i ≤ l.length ∧ Pv i H, ⟨l.length, by simp, Nat.zero_le _, Same.new hD, [], upd_same, .nil⟩, ?_⟩
  rintro i m H ⟨rfl, hi, s, ys, hys, hp⟩
  by_cases hlt : i < l.length
  · refine .inr ⟨W.go i H (hS H s) hlt, Pv (i + 1), fun H' p' => ⟨l.length - (i + 1), by omega, rfl, hlt, p'⟩, fun x H' y => ?_⟩
    obtain ⟨a, ha, s1, hI⟩ := W.yld i H x H' (hS H s) hlt y
    refine hs i a x H' ha (s.trans s1) ⟨ys, s1 _ _ hys, L2.Paired.mapP hp fun _ _ q => mono _ _ _ _ (fun b o _ => s1 b o) ⟨ys, hys⟩ q⟩ hI (Pv (i + 1)) _ (fun pa H2 s2 => ?_) (fun pa y H2 s2 hR => ?_)
    · refine ⟨(s.trans s1).trans s2, ys, (s1.trans s2) _ _ hys, ?_⟩
      rw [take_snoc ha, List.filter_append, List.filter_cons, if_neg (by rw [pa]; decide), List.filter_nil, List.append_nil]
      exact L2.Paired.mapP hp fun _ _ q => mono _ _ _ _ (fun b o _ => (s1.trans s2) b o) ⟨ys, hys⟩ q
    · have hl : ys.length ≤ l.length := by
        rw [← Paired.length hp]
        exact Nat.le_trans (List.length_filter_le _ _) (by rw [List.length_take]; exact Nat.min_le_right _ _)
      have h2 : H2 D = some (.lst ys) := (s1.trans s2) _ _ hys
      refine ⟨ys, h2, small_lt (by omega), ?_⟩
      have s3 : Same H1 (upd H2 D (.lst (ys ++ [y]))) := ((s.trans s1).trans s2).mut hD
      refine ⟨s3, ys ++ [y], upd_same, ?_⟩
      have k3 : ∀ b o, b ≠ D → H2 b = some o → (upd H2 D (.lst (ys ++ [y]))) b = some o := fun b o hb q => by
        rw [upd_ne hb]
        exact q
      rw [take_snoc ha, List.filter_append, List.filter_cons, if_pos pa, List.filter_nil]
      refine Paired.snoc (L2.Paired.mapP hp fun _ _ q => mono _ _ _ _ k3 ⟨ys, h2⟩ (mono _ _ _ _ (fun b o _ => (s1.trans s2) b o) ⟨ys, hys⟩ q)) (mono _ _ _ _ k3 ⟨ys, h2⟩ hR)
  · have e : i = l.length := by omega
    subst e
    refine .inl ⟨W.stop H (hS H s), hd H ys s hys ?_⟩
    rw [List.take_length] at hp
    exact hp
theorem lc_goesD {α : Type} {J : It} {S : Hp → Prop} {H1 : Hp} {l : List α} {I : Nat → α → V → Hp → Prop} {g : TG} {tt : TT} {te : TE} {vs : List Nat} {σ : L2.St} {D : Addr} {Qd : Hp → Prop} (W : Goes J S l I) (hD : H1 D = none)
    (hS : ∀ H, Same H1 H → S H) (p : α → Bool) (R : α → V → Hp → Prop)
    (mono : ∀ a y H H', (∀ b o, b ≠ D → H b = some o → H' b = some o) → (∃ xs, H D = some (.lst xs)) → R a y H → R a y H') (hz : l.length < 1000000)
    (hs : ∀ i a x H, l[i]? = some a → Same H1 H → (∃ xs, H D = some (.lst xs)) → I i a x H → ∀ (N : Hp → Prop) (Y : VK), (p a = false → ∀ H', Same H H' → N H') → (p a = true → ∀ y H', Same H H' → R a y H' → Y y H') →
      g x (wipe σ vs) H fun σ2 H2 => wipe σ2 vs = wipe σ vs ∧ tt σ2 H2 fun b H3 => if b = true then te σ2 H3 Y else N H3)
    (hd : ∀ H' ys, Same H1 H' → H' D = some (.lst ys) → Paired (fun a y => R a y H') (l.filter p) ys → Qd H') :
    ∃ W : Nat → Nat → Hp → Prop, (∃ m, W 0 m (upd H1 D (.lst []))) ∧ ∀ i m H, W i m H →
      (J.stop i H ∧ Qd H) ∨ (J.go i H ∧ ∃ Nx : Hp → Prop, (∀ H', Nx H' → ∃ m', m' < m ∧ W (i + 1) m' H') ∧ ∀ x H', J.yld i H x H' → g x (wipe σ vs) H' fun σ2 H2 => wipe σ2 vs = wipe σ vs ∧ tt σ2 H2 fun b H3 =>
        if b = true then te σ2 H3 fun y H4 => ∃ acc, H4 D = some (.lst acc) ∧ acc.length < sizeLine ∧ Nx (upd H4 D (.lst (acc ++ [y]))) else Nx H3) :=
  lc_goesP W hD hS p R mono hz (fun i a x H ha s hp hI N Y h1 h2 => hs i a x H ha s (let ⟨ys, e, _⟩ := hp; ⟨ys, e⟩) hI N Y h1 h2) hd
theorem lc_goes {α : Type} {J : It} {S : Hp → Prop} {H1 : Hp} {l : List α} {I : Nat → α → V → Hp → Prop} {g : TG} {tt : TT} {te : TE} {vs : List Nat} {σ : L2.St} {D : Addr} {Qd : Hp → Prop} (W : Goes J S l I) (hD : H1 D = none)
    (hS : ∀ H, Same H1 H → S H) (p : α → Bool) (R : α → V → Hp → Prop)
    (mono : ∀ a y H H', (∀ b o, b ≠ D → H b = some o → H' b = some o) → (∃ xs, H D = some (.lst xs)) → R a y H → R a y H') (hz : l.length < 1000000)
    (hs : ∀ i a x H, l[i]? = some a → Same H1 H → I i a x H → ∀ (N : Hp → Prop) (Y : VK), (p a = false → ∀ H', Same H H' → N H') → (p a = true → ∀ y H', Same H H' → R a y H' → Y y H') →
      g x (wipe σ vs) H fun σ2 H2 => wipe σ2 vs = wipe σ vs ∧ tt σ2 H2 fun b H3 => if b = true then te σ2 H3 Y else N H3)
    (hd : ∀ H' ys, Same H1 H' → H' D = some (.lst ys) → Paired (fun a y => R a y H') (l.filter p) ys → Qd H') :
    ∃ W : Nat → Nat → Hp → Prop, (∃ m, W 0 m (upd H1 D (.lst []))) ∧ ∀ i m H, W i m H →
      (J.stop i H ∧ Qd H) ∨ (J.go i H ∧ ∃ Nx : Hp → Prop, (∀ H', Nx H' → ∃ m', m' < m ∧ W (i + 1) m' H') ∧ ∀ x H', J.yld i H x H' → g x (wipe σ vs) H' fun σ2 H2 => wipe σ2 vs = wipe σ vs ∧ tt σ2 H2 fun b H3 =>
        if b = true then te σ2 H3 fun y H4 => ∃ acc, H4 D = some (.lst acc) ∧ acc.length < sizeLine ∧ Nx (upd H4 D (.lst (acc ++ [y]))) else Nx H3) :=
  lc_goesD W hD hS p R mono hz (fun i a x H ha s _ hI N Y h1 h2 => hs i a x H ha s hI N Y h1 h2) hd
/-- .. of plain values -/
theorem lc_flat {α : Type} {J : It} {S : Hp → Prop} {H1 : Hp} {l : List α} {I : Nat → α → V → Hp → Prop} {g : TG} {tt : TT} {te : TE} {vs : List Nat} {σ : L2.St} {D : Addr} {Qd : Hp → Prop} (W : Goes J S l I) (hD : H1 D = none)
    (hS : ∀ H, Same H1 H → S H) (p : α → Bool) (f : α → V) (hz : l.length < 1000000)
    (hs : ∀ i a x H, l[i]? = some a → Same H1 H → I i a x H → ∀ (N : Hp → Prop) (Y : VK), (p a = false → ∀ H', Same H H' → N H') → (p a = true → ∀ H', Same H H' → Y (f a) H') →
      g x (wipe σ vs) H fun σ2 H2 => wipe σ2 vs = wipe σ vs ∧ tt σ2 H2 fun b H3 => if b = true then te σ2 H3 Y else N H3)
    (hd : ∀ H', Same H1 H' → H' D = some (.lst ((l.filter p).map f)) → Qd H') :
    ∃ W : Nat → Nat → Hp → Prop, (∃ m, W 0 m (upd H1 D (.lst []))) ∧ ∀ i m H, W i m H →
      (J.stop i H ∧ Qd H) ∨ (J.go i H ∧ ∃ Nx : Hp → Prop, (∀ H', Nx H' → ∃ m', m' < m ∧ W (i + 1) m' H') ∧ ∀ x H', J.yld i H x H' → g x (wipe σ vs) H' fun σ2 H2 => wipe σ2 vs = wipe σ vs ∧ tt σ2 H2 fun b H3 =>
        if b = true then te σ2 H3 fun y H4 => ∃ acc, H4 D = some (.lst acc) ∧ acc.length < sizeLine ∧ Nx (upd H4 D (.lst (acc ++ [y]))) else Nx H3) :=
  lc_goes W hD hS p (fun a y _ => y = f a) (fun _ _ _ _ _ _ h => h) hz (fun i a x H ha s hI N Y h1 h2 => hs i a x H ha s hI N Y h1 fun pa H' s' => h2 pa _ H' s' rfl)
    (fun H' ys s' e q => hd H' s' (by rw [← Paired.fix q]; exact e))
/-- all of them -/
theorem filter_all {α : Type} (l : List α) : l.filter (fun _ => true) = l := List.filter_eq_self.mpr fun _ _ => rfl
theorem lc_all {α : Type} {J : It} {S : Hp → Prop} {H1 : Hp} {l : List α} {I : Nat → α → V → Hp → Prop} {g : TG} {te : TE} {vs : List Nat} {σ : L2.St} {D : Addr} {Qd : Hp → Prop} (W : Goes J S l I) (hD : H1 D = none)
    (hS : ∀ H, Same H1 H → S H) (f : α → V) (hz : l.length < 1000000)
    (hs : ∀ i a x H, l[i]? = some a → Same H1 H → I i a x H → ∀ (Y : VK), (∀ H', Same H H' → Y (f a) H') → g x (wipe σ vs) H fun σ2 H2 => wipe σ2 vs = wipe σ vs ∧ te σ2 H2 Y)
    (hmono : ∀ x σ0 H (Q Q' : L2.St → Hp → Prop), (∀ σ2 H2, Q σ2 H2 → Q' σ2 H2) → g x σ0 H Q → g x σ0 H Q')
    (hd : ∀ H', Same H1 H' → H' D = some (.lst (l.map f)) → Qd H') :
    ∃ W : Nat → Nat → Hp → Prop, (∃ m, W 0 m (upd H1 D (.lst []))) ∧ ∀ i m H, W i m H →
      (J.stop i H ∧ Qd H) ∨ (J.go i H ∧ ∃ Nx : Hp → Prop, (∀ H', Nx H' → ∃ m', m' < m ∧ W (i + 1) m' H') ∧ ∀ x H', J.yld i H x H' → g x (wipe σ vs) H' fun σ2 H2 => wipe σ2 vs = wipe σ vs ∧ tYes σ2 H2 fun b H3 =>
        if b = true then te σ2 H3 fun y H4 => ∃ acc, H4 D = some (.lst acc) ∧ acc.length < sizeLine ∧ Nx (upd H4 D (.lst (acc ++ [y]))) else Nx H3) :=
  lc_flat W hD hS (fun _ => true) f hz (fun i a x H ha s hI N Y h1 h2 => hmono x _ H _ _ (fun σ2 H2 q => ⟨q.1, by
    show (if true = true then te σ2 H2 Y else N H2)
    rw [if_pos rfl]
    exact q.2⟩) (hs i a x H ha s hI Y fun H' s' => h2 rfl H' s'))
    (fun H' s' e => hd H' s' (by rwa [filter_all] at e))

/-- THE LOOP -/
theorem for_goes {α : Type} {J : It} {S : Hp → Prop} {l : List α} {I : Nat → α → V → Hp → Prop} {g : TG} {tb : TS} {D : Ends} {σ : L2.St} {H : Hp} (W : Goes J S l I) (Pv : Nat → L2.St → Hp → Prop) (h0 : Pv 0 σ H) (hl : ∀ i σ H, Pv i σ H → S H)
    (hs : ∀ i a x σ H H', l[i]? = some a → Pv i σ H → Same H H' → I i a x H' → g x σ H' fun σ2 H2 => tb { D with nx := Pv (i + 1), ct := Pv (i + 1), bk := D.nx } σ2 H2) (hd : ∀ σ H, Pv l.length σ H → D.nx σ H) :
    ∃ W : Nat → Nat → L2.St → Hp → Prop, (∃ m, W 0 m σ H) ∧ ∀ i m σ H, W i m σ H →
      (J.stop i H ∧ D.nx σ H) ∨ (J.go i H ∧ ∃ N : L2.St → Hp → Prop, (∀ σ' H', N σ' H' → ∃ m', m' < m ∧ W (i + 1) m' σ' H') ∧ ∀ x H', J.yld i H x H' → g x σ H' fun σ2 H2 => tb { D with nx := N, ct := N, bk := D.nx } σ2 H2) := by
  refine ⟨fun i m σ H => m = l.length - i ∧ i ≤ l.length ∧ Pv i σ H, ⟨l.length, by simp, Nat.zero_le _, h0⟩, ?_⟩
  rintro i m σ H ⟨rfl, hi, p⟩
  have q := hl i σ H p
  by_cases hlt : i < l.length
  · refine .inr ⟨W.go i H q hlt, Pv (i + 1), fun σ' H' p' => ⟨l.length - (i + 1), by omega, rfl, hlt, p'⟩, fun x H' y => ?_⟩
    obtain ⟨a, ha, s1, hI⟩ := W.yld i H x H' q hlt y
    exact hs i a x σ H H' ha p s1 hI
  · have e : i = l.length := by omega
    subst e
    exact .inl ⟨W.stop H q, hd σ H p⟩
/-- numbers, sorted again -/
theorem sorted_nV {l : List Nat} {ns : List Int} (hl : l.Pairwise (· < ·)) (hp : ns.Perm (l.map fun n : Nat => (n : Int))) (hs : ns.Pairwise (· ≤ ·)) : ns = l.map fun n : Nat => (n : Int) := by
  refine List.Perm.eq_of_pairwise (le := (· ≤ ·)) (fun a b _ _ h1 h2 => by omega) hs ?_ hp
  rw [List.pairwise_map]
  exact hl.imp fun h => by omega
end Gm
end

section
set_option maxRecDepth 100000
set_option maxHeartbeats 8000000
/-! # The walks, part 2: what a memory tells -/
namespace Gm
open PySem PySem.Spec PyProof.Rows L2 L2G GmM
open R7278g.Spec (live kids chain under usage)
variable {P : Program} {w : World} {K : PySem.W.Frag} {mg : Str → Option Value} {base : Heap} {A : Ad} {f fI : Addr} {fd : FuncData}
theorem sq {K : PySem.W.Frag} {H : Hp} {a : Addr} {xs : List V} (h : H a = some (.lst xs)) : SqL K H a xs := .inl (.inl h)
theorem iteB {b : Bool} {A B : Prop} (h1 : b = true → A) (h2 : b = false → B) : if b = true then A else B := by
  cases b with
  | true => exact iteT (h1 rfl)
  | false => exact iteF (h2 rfl)
theorem yes {te : TE} {σ : L2.St} {H : Hp} {Y : VK} {N : Hp → Prop} (h : te σ H Y) : tYes σ H fun b H3 => if b = true then te σ H3 Y else N H3 := by
  show (if true = true then te σ H Y else N H)
  rw [if_pos rfl]
  exact h
theorem dec_nV {a b : Nat} : decide (nV a = nV b) = decide (a = b) := by
  by_cases h : a = b
  · rw [h]; simp
  · rw [decide_eq_false h, decide_eq_false]
    intro e
    injection e with e
    exact h (by omega)
theorem parV_dec {gs : R7278g.Spec.Groups} {g p : Nat} : decide (parV gs g = nV p) = (g != 0 && par gs g == p) := by
  unfold parV
  by_cases h : g = 0
  · rw [if_pos h, h]
    rfl
  · rw [if_neg h, dec_nV]
    by_cases e : par gs g = p
    · simp [h, e]
    · simp [h, e]
theorem scal_parV {gs : R7278g.Spec.Groups} {g p : Nat} : scal (parV gs g) (nV p) = true := by
  unfold parV
  split <;> rfl

/-! ### kids -/
def spKids (K : PySem.W.Frag) (A : Ad) : Sp := fun vs H Q _ => ∃ L m p, vs = [.ref (Lay.a L), nV p] ∧ MemR K A H L m ∧ RetL H Q ((kids m.groups p).map nV)
theorem ok_kids (F : Fun K "kids" "Memory.kids" s_Memory_kids f fd) (T : Txt K mg A) : FnOk P w K mg base CX0 1 f fd ["self", "number"] (spKids K A) := by
  refine F.ok sc_Memory_kids (fun vs H Q E h => ?_) (fun cdv A' outer s H vs Q E hr h => ⟨_, (pss_one (ps_ret (pe_lc (own := [("one", 2)]) (g := (gName 2)) (tt := (tTest (tOp _ (tFld K (tDGet (tFld K (tVar 0) "groups") (tVar 2)) "parent") (tVar 1)))) (te := (tVar 2)) rfl sc_Memory_kids.nd (pi_list (pe_callB cr_sortedI (by rfl) T.b_sorted PyProof.Rows.boot_sorted (pa_cons (pe_callTy (call_list_dR rfl) (by rfl) T.b_list PyProof.Rows.boot_list (pa_cons (pe_fld (L2.pv 0) rfl) pa_nil)) pa_nil))) (blkOk_by (N := N_Memory_kids) (sc := defScope s_Memory_kids) (by decide +kernel)) (fun _ _ _ _ _ => (pg_name (i := 2) sc_Memory_kids.nd rfl (Or.inl rfl))) (fun _ _ _ _ _ => (pts_one (pt_cmpR op_eq (pe_fld (pe_dget (hu_of hr) (pe_fld (L2.pv 0) rfl) (L2.pv 2) (fun _ _ => rfl)) rfl) (L2.pv 1) (nomark _)))) (fun _ _ _ _ _ => (L2.pv 2))))), ?_⟩)
  · obtain ⟨L, m, p, rfl, _⟩ := h
    rfl
  · obtain ⟨L, m, p, rfl, M, q⟩ := h
    refine ⟨_, rfl, M.f_groups T ?_⟩
    refine ⟨_, _, rfl, M.grps, fun c hc => ?_⟩
    rw [kvF_keys]
    refine ⟨c, (liveL m.groups).map (fun n : Nat => (n : Int)), rfl, sq (by rw [upd_same, List.map_map]; rfl), fun ns d hp hs hd => ?_⟩
    rw [sorted_nV (liveL_sorted _) hp hs]
    have s1 : Same H (upd (upd H c (.lst ((liveL m.groups).map nV))) d (.lst (((liveL m.groups).map fun n : Nat => (n : Int)).map V.int))) := (Same.new hc).trans (Same.new hd)
    refine ⟨d, rfl, ⟨_, sq upd_same⟩, fun D hD => ?_⟩
    refine lc_flat (l := liveL m.groups) (goes_list (h := nV)) hD (fun H' e => (e.seq (sq (by rw [upd_same, List.map_map]; rfl)))) (fun g => g != 0 && par m.groups g == p) nV (by have := liveL_len m.groups; have := M.wf.g.len; omega)
      (fun i g x H2 hg s2 hx N Y h1 h2 => ?_) (fun H' s' e => ?_)
    · subst hx
      have M2 := M.mono (s1.trans s2)
      have lg := M.lv (List.mem_of_getElem? hg)
      refine ⟨rfl, _, rfl, ?_⟩
      refine M2.f_groups T ?_
      refine ⟨_, rfl, _, _, rfl, dget_in M2.grps (mem_liveL.mpr lg), M2.g_parent T lg ?_⟩
      refine ⟨_, rfl, scal_parV, _, rfl, ?_⟩
      rw [parV_dec]
      exact iteB (fun e => ⟨_, rfl, h2 e _ (Same.refl _)⟩) (fun e => h1 e _ (Same.refl _))
    · refine q D H' (s1.trans s') ((s1.free) hD) ?_
      rw [kids_liveL]
      exact e

/-! ### above -/
def spAbove (K : PySem.W.Frag) (A : Ad) : Sp := fun vs H Q _ => ∃ L m g, vs = [.ref (Lay.a L), nV g] ∧ MemR K A H L m ∧ live m.groups g = true ∧ RetL H Q ((chain m.groups g).map nV)
theorem ok_above (F : Fun K "above" "Memory.above" s_Memory_above f fd) (T : Txt K mg A) : FnOk P w K mg base CX0 1 f fd ["self", "number"] (spAbove K A) := by
  refine F.ok sc_Memory_above (fun vs H Q E h => ?_) (fun cdv A' outer s H vs Q E hr h => ⟨_, (pss_cons (ps_set (i := 2) sc_Memory_above.nd rfl (Or.inl rfl) (pe_lst pa_nil))
      (pss_cons (ps_while PassesOwn.never (pt_cmpR op_notN (L2.pv 1) pe_non (nomark _)) (pss_cons (ps_expr (pe_bm PySem.F.plainAttrs_list PySem.F.slot_list_append PySem.F.type_list_append mt_append (L2.pv 2) (pa_cons (L2.pv 1) pa_nil)))
      (pss_one (ps_set (i := 1) sc_Memory_above.nd rfl (Or.inl rfl) (pe_fld (pe_dget (hu_of hr) (pe_fld (L2.pv 0) rfl) (L2.pv 1) (fun _ _ => rfl)) rfl)))))
      (pss_one (ps_ret (L2.pv 2))))), ?_⟩)
  · obtain ⟨L, m, p, rfl, _⟩ := h
    rfl
  · obtain ⟨L, m, g0, rfl, M, lg, q⟩ := h
    refine ⟨Nat.zero_le _, fun l hl => ?_⟩
    refine ⟨fun n σ H' => ∃ x done rest, σ = [some (.ref L.a), some x, some (.ref l)] ∧ n = rest.length ∧ Same H H' ∧ H' l = some (.lst (done.map nV)) ∧ chain m.groups g0 = done ++ rest ∧
      ((x = .non ∧ rest = []) ∨ ∃ g, x = nV g ∧ live m.groups g = true ∧ rest = chain m.groups g), ⟨_, nV g0, [], _, rfl, rfl, Same.new hl, upd_same, rfl, .inr ⟨g0, rfl, lg, rfl⟩⟩, ?_⟩
    rintro n σ H' ⟨x, done, rest, rfl, rfl, s1, hd, hc, hx⟩
    refine ⟨_, rfl, rfl, _, rfl, ?_⟩
    rcases hx with ⟨rfl, rfl⟩ | ⟨g, rfl, lg', rfl⟩
    · rw [List.append_nil] at hc
      exact iteF ⟨_, rfl, q l H' s1 hl (by rw [hc]; exact hd)⟩
    · refine iteT ⟨fun σ' H2 => ∃ n', n' < (chain m.groups g).length ∧ ∃ x done rest, σ' = [some (.ref L.a), some x, some (.ref l)] ∧ n' = rest.length ∧ Same H H2 ∧ H2 l = some (.lst (done.map nV)) ∧ chain m.groups g0 = done ++ rest ∧
        ((x = .non ∧ rest = []) ∨ ∃ g, x = nV g ∧ live m.groups g = true ∧ rest = chain m.groups g), fun σ' H2 h => h, ?_⟩
      have hlen := M.wf.g.chain_len lg
      have hdl : done.length < sizeLine := small_lt (by rw [hc, List.length_append] at hlen; omega)
      refine ⟨_, rfl, .inl ⟨rfl, _, sq hd⟩, _, rfl, l, _, _, rfl, rfl, hd, by rw [List.length_map]; exact hdl, ?_⟩
      have s2 : Same H (upd H' l (.lst (done.map nV ++ [nV g]))) := s1.mut hl
      have M2 := M.mono s2
      refine ⟨_, rfl, M2.f_groups T ?_⟩
      refine ⟨_, rfl, at_dget M2.grps (mem_liveL.mpr lg') (M2.g_parent T lg' ?_)⟩
      have hd2 : (upd H' l (.lst (done.map nV ++ [nV g]))) l = some (.lst ((done ++ [g]).map nV)) := by rw [upd_same, List.map_append]; rfl
      by_cases h0 : g = 0
      · subst h0
        have e := M.wf.g.chain_root
        refine ⟨0, by rw [e]; decide, _, done ++ [0], [], rfl, rfl, s2, hd2, by rw [hc, e, List.append_nil], .inl ⟨by unfold parV; rw [if_pos rfl], rfl⟩⟩
      · have e := M.wf.g.chain_cons lg' h0
        refine ⟨(chain m.groups (par m.groups g)).length, by rw [e]; exact Nat.lt_succ_self _, _, done ++ [g], _, rfl, rfl, s2, hd2, by rw [hc, e, List.append_assoc]; rfl, .inr ⟨_, by unfold parV; rw [if_neg h0], M.wf.g.par_live lg' h0, rfl⟩⟩

/-! ### has_pages, asked -/
def spHasPages (K : PySem.W.Frag) (A : Ad) : Sp := fun vs H Q _ => ∃ L m g, vs = [.ref (Lay.a L), nV g] ∧ MemR K A H L m ∧ ∀ H', Same H H' → Q (.bl (m.pages.any fun p => p.group == g)) H'
theorem ok_has_pages (F : Fun K "has_pages" "Memory.has_pages" s_Memory_has_pages f fd) (T : Txt K mg A) : FnOk P w K mg base CX0 1 f fd ["self", "number"] (spHasPages K A) := by
  refine F.ok sc_Memory_has_pages (fun vs H Q E h => ?_) (fun cdv A' outer s H vs Q E hr h => ⟨_, (pss_one (ps_ret (pe_callB (cr_any rfl) (by rfl) T.b_any PyProof.Rows.boot_any (pa_cons (pe_lc (own := [("page", 2)]) (g := (gName 2)) (tt := tYes) (te := (tOp _ (tFld K (tVar 2) "group") (tVar 1))) rfl sc_Memory_has_pages.nd (pi_list (pe_fld (L2.pv 0) rfl)) (blkOk_by (N := N_Memory_has_pages) (sc := defScope s_Memory_has_pages) (by decide +kernel)) (fun _ _ _ _ _ => (pg_name (i := 2) sc_Memory_has_pages.nd rfl (Or.inl rfl))) (fun _ _ _ _ _ => pts_nil) (fun _ _ _ _ _ => (pe_cmpR op_eq (pe_fld (L2.pv 2) rfl) (L2.pv 1) (nomark _)))) pa_nil)))), ?_⟩)
  · obtain ⟨L, m, p, rfl, _⟩ := h
    rfl
  · obtain ⟨L, m, g, rfl, M, q⟩ := h
    refine ⟨_, rfl, M.f_rows T ?_⟩
    refine ⟨_, rfl, ⟨_, sq M.rows⟩, fun D hD => ?_⟩
    refine lc_flat (l := m.pages) (goes_list (h := fun p => V.ref (L.ra p.id))) hD (fun H' e => e.seq (sq M.rows)) (fun _ => true) (fun p => .bl (p.group == g)) (by have := M.wf.np; omega)
      (fun i p x H2 hp s2 hx N Y h1 h2 => ?_) (fun H' s' e => ?_)
    · subst hx
      have M2 := M.mono s2
      refine ⟨rfl, yes ⟨_, rfl, M2.p_group T (List.mem_of_getElem? hp) ?_⟩⟩
      refine ⟨_, rfl, rfl, ?_⟩
      rw [dec_nV]
      exact h2 rfl _ (Same.refl _)
    · rw [filter_all] at e
      refine ⟨D, m.pages.map fun p => p.group == g, rfl, sq (by rw [e, List.map_map]; rfl), ?_⟩
      have e2 : (m.pages.map fun p => p.group == g).any id = m.pages.any fun p => p.group == g := by rw [List.any_map]; rfl
      rw [e2]
      exact q H' s'
def claimOf (b : Bool) (gs : SGroups) : Nat → Nat := if b then R7278g.Spec.softClaim gs else R7278g.Spec.hardClaim gs
def spAsked (K : PySem.W.Frag) (A : Ad) : Sp := fun vs H Q _ => ∃ L m g b, vs = [.ref (Lay.a L), nV g, .bl b] ∧ MemR K A H L m ∧ live m.groups g = true ∧ ∀ H', Same H H' → Q (nV (claimOf b m.groups g)) H'
theorem max_nV {a b : Nat} : V.int (if (b : Int) > (a : Int) then (b : Int) else (a : Int)) = nV (Nat.max a b) := by
  have e : Nat.max a b = max a b := rfl
  rw [e]
  by_cases h : (b : Int) > (a : Int)
  · rw [if_pos h, Nat.max_eq_right (by omega)]
  · rw [if_neg h, Nat.max_eq_left (by omega)]
theorem min_nV {a b : Nat} : V.int (if (b : Int) < (a : Int) then (b : Int) else (a : Int)) = nV (Nat.min a b) := by
  have e : Nat.min a b = min a b := rfl
  rw [e]
  by_cases h : (b : Int) < (a : Int)
  · rw [if_pos h, Nat.min_eq_right (by omega)]
  · rw [if_neg h, Nat.min_eq_left (by omega)]
theorem ok_asked (F : Fun K "asked" "Memory.asked" s_Memory_asked f fd) (T : Txt K mg A) : FnOk P w K mg base CX0 1 f fd ["self", "number", "is_second"] (spAsked K A) := by
  refine F.ok sc_Memory_asked (fun vs H Q E h => ?_) (fun cdv A' outer s H vs Q E hr h => ⟨_, (pss_cons (ps_set (i := 3) sc_Memory_asked.nd rfl (Or.inl rfl) (pe_fld (pe_dget (hu_of hr) (pe_fld (L2.pv 0) rfl) (L2.pv 1) (fun _ _ => rfl)) rfl))
      (pss_one (ps_ret (pe_ifExp (pt_val (L2.pv 2)) (pe_callB (call_max2 rfl) (by rfl) T.b_max PyProof.Rows.boot_max (pa_cons (pe_fld (L2.pv 3) rfl) (pa_cons (pe_fld (L2.pv 3) rfl) pa_nil))) (pe_fld (L2.pv 3) rfl))))), ?_⟩)
  · obtain ⟨L, m, g, b, rfl, _⟩ := h
    rfl
  · obtain ⟨L, m, g, b, rfl, M, lg, q⟩ := h
    refine ⟨_, rfl, M.f_groups T ?_⟩
    refine ⟨_, rfl, at_dget M.grps (mem_liveL.mpr lg) (M.g_limits T lg ?_)⟩
    refine ⟨_, rfl, b, rfl, ?_⟩
    cases b with
    | true =>
      refine iteT ⟨_, rfl, M.l_least T lg ⟨_, rfl, M.l_low T lg ⟨_, _, rfl, ?_⟩⟩⟩
      rw [max_nV]
      exact q H (Same.refl _)
    | false => exact iteF ⟨_, rfl, M.l_least T lg (q H (Same.refl _))⟩
end Gm
end

section
set_option maxRecDepth 100000
set_option maxHeartbeats 8000000
/-! # The walks, part 3: usages, needs -/
namespace Gm
open PySem PySem.Spec PyProof.Rows L2 L2G GmM
open R7278g.Spec (live kids chain under usage)
variable {P : Program} {w : World} {K : PySem.W.Frag} {mg : Str → Option Value} {base : Heap} {A : Ad} {f fI : Addr} {fd : FuncData}
theorem lk_none : ∀ {fs : List (Str × V)} {k : Str}, (fs.map (·.1)).contains k = false → fs.lookup k = none
  | [], _, _ => rfl
  | (g, v) :: r, k, h => by
    have h' : (k == g || (r.map (·.1)).contains k) = false := h
    rw [Bool.or_eq_false_iff] at h'
    rw [lk_past h'.1]
    exact lk_none h'.2
abbrev memN : List Str := ["groups", "made", "rows", "next_page", "taken"]
theorem MemR.meth {H : Hp} {L : Lay} {m : SMem} {G : Prop} {k : Str} (M : MemR K A H L m) (hk : memN.contains k = false) (q : G) : ∃ a dx fs, (V.ref L.a : V) = .ref a ∧ H a = some (.ins A.mem dx fs) ∧ fs.lookup k = none ∧ G :=
  let ⟨dx, e⟩ := M.self; ⟨L.a, dx, _, rfl, e, lk_none hk, q⟩
theorem paired_refs {R : Nat → V → Prop} {q : Addr → Key × V → Prop} {fv : Nat → V} (hR : ∀ g y, R g y → ∃ t, y = V.ref t ∧ q t (iK g, fv g)) : ∀ {l : List Nat} {ys : List V}, Paired R l ys → ∃ ts : List Addr, ys = ts.map V.ref ∧ Paired q ts (kvF l fv)
  | _, _, .nil => ⟨[], rfl, .nil⟩
  | _, _, .cons h t => by
    obtain ⟨t1, e, q1⟩ := hR _ _ h
    obtain ⟨ts, e2, q2⟩ := paired_refs hR t
    exact ⟨t1 :: ts, by rw [e, e2]; rfl, .cons q1 q2⟩
/-- R for pairs of a number and a value -/
abbrev PrR (fv : Nat → V) : Nat → V → Hp → Prop := fun g y H => ∃ t, y = .ref t ∧ H t = some (.tup [nV g, fv g])
theorem prR_mono {fv : Nat → V} {D : Addr} : ∀ g y H H', (∀ b o, b ≠ D → H b = some o → H' b = some o) → (∃ xs, H D = some (.lst xs)) → PrR fv g y H → PrR fv g y H' := fun g y H H' k ⟨xs, e⟩ ⟨t, e1, h⟩ =>
  ⟨t, e1, k t _ (fun z => by rw [z, e] at h; cases h) h⟩
/-- the ways that a dict keeps -/
structure WaysAt (gs : SGroups) (F : Nat → List Nat) (H : Hp) (w : Addr) (ks : List Nat) (wa : Nat → Addr) : Prop where
  dict : H w = some (.dK (kvF ks fun g => .ref (wa g)))
  nd : ks.Nodup
  lv : ∀ g ∈ ks, live gs g = true
  way : ∀ g ∈ ks, H (wa g) = some (.lst ((F g).map nV))
section
variable {gs : SGroups} {F : Nat → List Nat} {H H' : Hp} {w b : Addr} {ks : List Nat} {wa : Nat → Addr}
theorem WaysAt.len (W : WaysAt gs F H w ks wa) (hg : gs.length ≤ 40) : ks.length ≤ 40 := by
  have := nodup_le gs.length ks W.nd fun x hx => live_lt (W.lv x hx)
  omega
theorem WaysAt.keep (W : WaysAt gs F H w ks wa) (h1 : H' w = H w) (h2 : ∀ g ∈ ks, H' (wa g) = H (wa g)) : WaysAt gs F H' w ks wa := ⟨by rw [h1]; exact W.dict, W.nd, W.lv, fun g hg => by rw [h2 g hg]; exact W.way g hg⟩
theorem WaysAt.mono (W : WaysAt gs F H w ks wa) (s : Same H H') : WaysAt gs F H' w ks wa := ⟨s _ _ W.dict, W.nd, W.lv, fun g hg => s _ _ (W.way g hg)⟩
theorem WaysAt.updD (W : WaysAt gs F H w ks wa) {d : Addr} {kvs kvs' : List (Key × V)} (hd : H d = some (.dK kvs)) (hdw : d ≠ w) : WaysAt gs F (upd H d (.dK kvs')) w ks wa :=
  W.keep (upd_ne (Ne.symm hdw)) fun g hg => upd_ne fun e => by
    have := W.way g hg
    rw [e, hd] at this
    cases this
theorem WaysAt.put (W : WaysAt gs F H w ks wa) {g : Nat} (hn : g ∉ ks) (hl : live gs g = true) (hb : H b = some (.lst ((F g).map nV))) (hg : gs.length ≤ 40) :
    ∃ H4, DPut H w (nV g) (.ref b) H4 ∧ WaysAt gs F H4 w (ks ++ [g]) (fun x => if x = g then b else wa x) ∧ ∀ c, c ≠ w → H4 c = H c := by
  refine ⟨_, dput_new W.dict hn (by have := W.len hg; omega), ⟨?_, ?_, ?_, ?_⟩, fun c hc => upd_ne hc⟩
  · rw [upd_same]
    congr 2
    refine kvF_congr fun x _ => ?_
    by_cases e : x = g
    · rw [if_pos e, if_pos e]
    · rw [if_neg e, if_neg e]
  · rw [List.nodup_append]
    exact ⟨W.nd, by simp, fun a ha c hc e => by
      rw [List.mem_singleton] at hc
      exact hn (hc ▸ e ▸ ha)⟩
  · intro x hx
    rcases List.mem_append.mp hx with h | h
    · exact W.lv x h
    · rw [List.mem_singleton.mp h]
      exact hl
  · intro x hx
    have nw : ∀ c xs, H c = some (.lst xs) → c ≠ w := fun c xs e z => by
      rw [z, W.dict] at e
      cases e
    by_cases e : x = g
    · rw [if_pos e, upd_ne (nw b _ hb), e]
      exact hb
    · rw [if_neg e]
      have hx' : x ∈ ks := by
        rcases List.mem_append.mp hx with h | h
        · exact h
        · exact absurd (List.mem_singleton.mp h) e
      rw [upd_ne (nw _ _ (W.way x hx'))]
      exact W.way x hx'
end
theorem cnt_step {l : List Nat} {j g : Nat} (nd : l.Nodup) (h : l[j]? = some g) (c : Nat → Nat) (x : Nat) :
    (if x = g then (c g + if g ∈ l.take j then 1 else 0) + 1 else c x + if x ∈ l.take j then 1 else 0) = c x + if x ∈ l.take (j + 1) then 1 else 0 := by
  have hn : g ∉ l.take j := fun hm => by
    rw [List.mem_take_iff_getElem] at hm
    obtain ⟨i, hi, e⟩ := hm
    have hj : j < l.length := by
      rw [List.getElem?_eq_some_iff] at h
      exact h.1
    have h2 : l[j] = g := by
      rw [List.getElem?_eq_getElem hj] at h
      exact Option.some.inj h
    exact List.pairwise_iff_getElem.mp nd i j (by omega) hj (by omega) (by rw [e, h2])
  rw [take_snoc h]
  by_cases e : x = g
  · subst e
    rw [if_pos rfl, if_neg hn, if_pos (List.mem_append_right _ (List.mem_singleton.mpr rfl))]
  · rw [if_neg e]
    simp [e]
theorem usage_snoc (gs : SGroups) (l : List SPage) (p : SPage) (g : Nat) : usage gs (l ++ [p]) g = usage gs l g + if g ∈ chain gs p.group then 1 else 0 := by
  unfold R7278g.Spec.usage
  rw [List.countP_append]
  congr 1
  rw [List.countP_singleton]
  by_cases h : g ∈ chain gs p.group
  · rw [if_pos h, if_pos (under_iff.mpr h)]
  · rw [if_neg h, if_neg fun e => h (under_iff.mp e)]

/-! ### while the groups are locked -/
abbrev lockd (H : Hp) (L : Lay) (m : SMem) (od : Obj) : Hp := upd H L.ag (.frz od (grps L m))
theorem MemAt.lock {H : Hp} {L : Lay} {m : SMem} (M : MemAt K A H L m) (od : Obj) : MemR K A (lockd H L m od) L m := by
  have ne : ∀ {b : Addr} {o : HO}, H b = some o → (∀ kvs, o ≠ .dK kvs) → (lockd H L m od) b = some o := fun {b o} e n => by
    show (upd H L.ag (.frz od (grps L m))) b = some o
    rw [upd_ne fun z => by
      rw [z, M.own] at e
      exact n _ (Option.some.inj e).symm]
    exact e
  refine ⟨M.wf, ?_, .inr ⟨od, upd_same⟩, fun g hg => ?_, fun g hg => ?_, ?_, fun p hp => ?_, ?_, M.inj⟩
  · obtain ⟨dx, e⟩ := M.self
    exact ⟨dx, ne e fun _ z => by cases z⟩
  · obtain ⟨dx, e⟩ := M.grp g hg
    exact ⟨dx, ne e fun _ z => by cases z⟩
  · obtain ⟨dx, e⟩ := M.lim g hg
    exact ⟨dx, ne e fun _ z => by cases z⟩
  · exact ne M.rows fun _ z => by cases z
  · obtain ⟨dx, e⟩ := M.page p hp
    exact ⟨dx, ne e fun _ z => by cases z⟩
  · obtain ⟨ts, e, t⟩ := M.tk
    refine ⟨ts, ne e (fun _ z => by cases z), TkAt.same t fun b xs h => ?_⟩
    rcases h with h | h
    · left
      rcases h with h | ⟨o, h⟩
      · exact .inl (ne h fun _ z => by cases z)
      · exact .inr ⟨o, ne h fun _ z => by cases z⟩
    · exact .inr h
theorem unlock_same {H H' : Hp} {a : Addr} {u v : HO} (h : H a = some u) (s : Same (upd H a v) H') : Same H (upd H' a u) := fun b o e => by
  by_cases q : b = a
  · rw [q, upd_same, ← h, ← q]
    exact e
  · rw [upd_ne q]
    exact s b o (by rw [upd_ne q]; exact e)
theorem lock_free {H : Hp} {a b : Addr} {v : HO} {u : HO} (h : H a = some u) : (upd H a v) b = none ↔ H b = none := by
  by_cases q : b = a
  · rw [q, upd_same, h]
    exact ⟨(fun e => by cases e), (fun e => by cases e)⟩
  · rw [upd_ne q]

/-! ### usages -/
abbrev usF (m : SMem) : List (Key × V) := kvF (liveL m.groups) fun g => nV (usage m.groups m.pages g)
def spUsages (K : PySem.W.Frag) (A : Ad) : Sp := fun vs H Q _ => ∃ L m, vs = [.ref (Lay.a L)] ∧ MemAt K A H L m ∧ RetD H Q (usF m)
theorem ok_usages (F : Fun K "usages" "Memory.usages" s_Memory_usages f fd) (T : Txt K mg A) (h_Memory_above : GM P w K mg base CX0 1 A.mem "above" ["self", "number"] (spAbove K A)) : FnOk P w K mg base CX0 2 f fd ["self"] (spUsages K A) := by
  refine F.ok sc_Memory_usages (fun vs H Q E h => ?_) (fun cdv A' outer s H vs Q E hr h => ⟨_, (pss_cons (ps_par (i := 2) (j := 3) rfl sc_Memory_usages.nd rfl rfl (by decide) rfl rfl (pa_cons (pe_callTy (call_dictP rfl) (by rfl) T.b_dict PyProof.Rows.boot_dict (pa_cons (pe_lock (pe_lc (own := [("number", 1)]) (g := (gName 1)) (tt := tYes) (te := (tTup (tCons (tVar 1) (tCons _ tNil)))) rfl sc_Memory_usages.nd (pi_keys (pe_fld (L2.pv 0) rfl)) (blkOk_by (N := N_Memory_usages) (sc := defScope s_Memory_usages) (by decide +kernel)) (fun _ _ _ _ _ => (pg_name (i := 1) sc_Memory_usages.nd rfl (Or.inl rfl))) (fun _ _ _ _ _ => pts_nil) (fun _ _ _ _ _ => (pe_tup (pa_cons (L2.pv 1) (pa_cons pe_int pa_nil)))))) pa_nil)) (pa_cons pe_dnewK pa_nil)) (by rfl))
      (pss_cons (ps_for PassesOwn.never rfl (pi_list (pe_fld (L2.pv 0) rfl)) (pg_name (i := 4) sc_Memory_usages.nd rfl (Or.inl rfl)) (pss_cons (ps_if (pt_cmp (pc_dnotin (hu_of hr) (pe_fld (L2.pv 4) rfl) (L2.pv 3))) (pss_one (ps_dput (hu_of hr) (L2.pv 3) (pe_fld (L2.pv 4) rfl) (pe_gm h_Memory_above T.c_mem (hr.mono (by decide)) pass0 (L2.pv 0) (pa_cons (pe_fld (L2.pv 4) rfl) pa_nil)) rfl)) pss_nil)
      (pss_one (ps_for PassesOwn.never rfl (pi_list (pe_dget (hu_of hr) (L2.pv 3) (pe_fld (L2.pv 4) rfl) (fun _ _ => rfl))) (pg_name (i := 1) sc_Memory_usages.nd rfl (Or.inl rfl)) (pss_one (ps_daug (hu_of hr) (L2.pv 2) (L2.pv 1) pe_int in_add (fun _ _ _ => rfl)))))))
      (pss_one (ps_ret (L2.pv 2))))), ?_⟩)
  · obtain ⟨L, m, rfl, _⟩ := h
    rfl
  · obtain ⟨L, m, rfl, M, q⟩ := h
    have hlen := M.wf.g.len
    have hll := liveL_len m.groups
    refine ⟨_, _, M.own, trivial, fun od => ?_⟩
    have Ml := M.lock od
    refine ⟨_, rfl, Ml.f_groups T ?_⟩
    refine ⟨_, od, rfl, .inl ⟨_, upd_same, fun D hD => ?_⟩⟩
    have hD0 : H D = none := (lock_free M.own).mp hD
    refine lc_goes (goes_keys (l := liveL m.groups)) hD (fun H' e => e _ _ upd_same) (fun _ => true) (PrR fun _ => nV 0) prR_mono (by omega) (fun i g x H2 hg s2 hx N Y h1 h2 => ?_) (fun H' ys s' e hp => ?_)
    · subst hx
      refine ⟨rfl, yes ⟨_, rfl, by show 2 ≤ sizeLine; decide, fun t ht => h2 rfl _ _ (Same.new ht) ⟨t, rfl, upd_same⟩⟩⟩
    · refine ⟨s' _ _ upd_same, ?_⟩
      rw [filter_all] at hp
      have s1 := unlock_same M.own s'
      have hDag : D ≠ L.ag := fun z => by rw [z, M.own] at hD0; cases hD0
      obtain ⟨ts, e1, e2⟩ := paired_refs (q := fun t kv => SqT K (upd H' L.ag (grps L m)) t [kV kv.1, kv.2]) (fv := fun _ => nV 0) (fun g y ⟨t, e1, e2⟩ => ⟨t, e1, .inl (.inl (by
        rw [upd_ne fun z => by
          rw [z, s' _ _ upd_same] at e2
          cases e2]
        exact e2))⟩) hp
      refine ⟨D, ts, _, rfl, sq (by rw [upd_ne hDag, e, e1]), e2, fun d hd => ?_⟩
      rw [kvF_merge (liveL_nodup _)]
      intro wy hwy
      generalize hH2 : (upd (upd (upd H' L.ag (grps L m)) d (HO.dK (kvF (liveL m.groups) fun x => nV 0))) wy (HO.dK [])) = H2
      have hd0 : H d = none := s1.free hd
      have hwy0 : H wy = none := s1.free ((Same.new hd).free hwy)
      have hdw : d ≠ wy := fun z => by rw [← z, upd_same] at hwy; cases hwy
      have s2 : Same H H2 := by rw [← hH2]; exact (s1.trans (Same.new hd)).trans (Same.new hwy)
      have hd2 : H2 d = some (.dK (kvF (liveL m.groups) fun x => nV 0)) := by rw [← hH2, upd_ne hdw, upd_same]
      have hw2 : H2 wy = some (.dK []) := by rw [← hH2, upd_same]
      refine ⟨_, _, rfl, ?_⟩
      have M2 := M.mono s2
      refine ⟨_, rfl, M2.f_rows T ?_⟩
      refine ⟨_, rfl, ⟨_, sq M2.rows⟩, for_goes (l := m.pages) (goes_list (h := fun p => V.ref (L.ra p.id))) (fun i σ H' => ∃ x y ks wa, σ = [some (.ref L.a), x, some (.ref d), some (.ref wy), y] ∧ Same H H' ∧
        H' d = some (.dK (kvF (liveL m.groups) fun g => nV (usage m.groups (m.pages.take i) g))) ∧ WaysAt m.groups (chain m.groups) H' wy ks wa) ?_ ?_ ?_ ?_⟩
      · exact ⟨none, none, [], fun _ => 0, rfl, s2, hd2, hw2, List.nodup_nil, (fun _ h => by cases h), (fun _ h => by cases h)⟩
      · rintro i σ H' ⟨x, y, ks, wa, rfl, s3, _, _⟩
        exact s3.seq (sq M.rows)
      · rintro i p v σ H3 H3' hp ⟨x, y, ks, wa, rfl, s3, hd3, W3⟩ se hv
        subst hv
        have hpm := List.mem_of_getElem? hp
        have s4 := s3.trans se
        have M4 := M.mono s4
        have lp := M.pgl hpm
        have hd4 := se _ _ hd3
        have W4 := W3.mono se
        clear s3 hd3 W3
        -- the ways
        have key : ∀ (D : Ends) {H5 ks wa}, (∀ σ' H'', (∃ x y ks wa, σ' = [some (.ref L.a), x, some (.ref d), some (.ref wy), y] ∧ Same H H'' ∧
                  H'' d = some (.dK (kvF (liveL m.groups) fun g => nV (usage m.groups (m.pages.take (i + 1)) g))) ∧ WaysAt m.groups (chain m.groups) H'' wy ks wa) → D.nx σ' H'') → Same H H5 → H5 d = some (.dK (kvF (liveL m.groups) fun g => nV (usage m.groups (m.pages.take i) g))) → WaysAt m.groups (chain m.groups) H5 wy ks wa → p.group ∈ ks →
            tFor (iList K (tDGet (tVar 3) (tFld K (tVar 4) "group"))) (gName 1) (sDAug (tVar 2) (tVar 1) (tC (V.int 1)) rAdd) D [some (.ref L.a), x, some (.ref d), some (.ref wy), some (.ref (L.ra p.id))] H5 := by
          intro D H5 ks wa hD s5 hd5 W5 hg
          have M5 := M.mono s5
          refine ⟨_, rfl, _, rfl, M5.p_group T hpm ?_⟩
          refine ⟨_, _, rfl, dget_in (.inl W5.dict) hg, ?_⟩
          refine ⟨_, rfl, ⟨_, sq (W5.way _ hg)⟩, for_goes (l := chain m.groups p.group) (goes_list (h := nV)) (fun j σ H' => ∃ x, σ = [some (.ref L.a), x, some (.ref d), some (.ref wy), some (.ref (L.ra p.id))] ∧ Same H H' ∧
            H' d = some (.dK (kvF (liveL m.groups) fun g => nV (usage m.groups (m.pages.take i) g + if g ∈ (chain m.groups p.group).take j then 1 else 0))) ∧ WaysAt m.groups (chain m.groups) H' wy ks wa) ?_ ?_ ?_ ?_⟩
          · exact ⟨_, rfl, s5, hd5, W5⟩
          · rintro j σ H' ⟨x, rfl, _, _, W6⟩
            exact sq (W6.way _ hg)
          · rintro j g v σ H6 H6' hj ⟨x, rfl, s6, hd6, W6⟩ se6 hv
            subst hv
            have hgm := List.mem_of_getElem? hj
            have lg := M.wf.g.chain_live lp hgm
            have hd7 := se6 _ _ hd6
            refine ⟨_, rfl, _, rfl, _, _, rfl, dget_in (.inl hd7) (mem_liveL.mpr lg), ?_⟩
            refine ⟨_, _, rfl, rfl, _, dput_in hd7 (mem_liveL.mpr lg) (by omega), _, rfl, (s6.trans se6).mut hd0, ?_, (W6.mono se6).updD hd7 hdw⟩
            rw [upd_same]
            congr 2
            refine kvF_congr fun z _ => ?_
            rw [← cnt_step (M.wf.g.chain_nodup lp) hj (usage m.groups (m.pages.take i)) z]
            by_cases e : z = g
            · rw [if_pos e, if_pos e]
              rfl
            · rw [if_neg e, if_neg e]
          · rintro σ H' ⟨x, rfl, s6, hd6, W6⟩
            refine hD _ _ ⟨_, _, _, _, rfl, s6, ?_, W6⟩
            rw [hd6]
            congr 2
            refine kvF_congr fun z _ => ?_
            rw [take_snoc hp, usage_snoc, List.take_length]
        refine ⟨_, rfl, M4.p_group T hpm ?_⟩
        refine ⟨_, rfl, _, _, rfl, dget_rd (.inl W4.dict), _, rfl, ?_⟩
        rw [kvF_isSome]
        by_cases hin : p.group ∈ ks
        · rw [decide_eq_true hin]
          exact iteF (key _ (fun _ _ h => h) s4 hd4 W4 hin)
        · rw [decide_eq_false hin]
          refine iteT ⟨_, rfl, M4.meth (by decide +kernel) ⟨_, rfl, M4.p_group T hpm ⟨L, m, _, rfl, M4.toMemR, lp, fun b H5 s5 hb0 hb => ?_⟩⟩⟩
          have M5 := M4.mono s5
          refine ⟨_, rfl, _, rfl, M5.p_group T hpm ?_⟩
          obtain ⟨H6, hput, W6, hk⟩ := (W4.mono s5).put hin lp hb hlen
          refine ⟨_, _, rfl, hput, ?_⟩
          have s6 : Same H H6 := fun c o e => by
            rw [hk c fun z => by rw [z, hwy0] at e; cases e]
            exact (s4.trans s5) c o e
          exact key _ (fun _ _ h => h) s6 (by rw [hk d hdw]; exact s5 _ _ hd4) W6 (List.mem_append_right _ (List.mem_singleton.mpr rfl))
      · rintro σ H' ⟨x, y, ks, wa, rfl, s3, hd3, _⟩
        refine ⟨_, rfl, q _ _ s3 hd0 ?_⟩
        rw [hd3, List.take_length]
end Gm
end

section
set_option maxRecDepth 100000
set_option maxHeartbeats 8000000
/-! # The walks, part 4: shares, protections -/
namespace Gm
open PySem PySem.Spec PyProof.Rows L2 L2G GmM
open R7278g.Spec (live kids chain under usage share total floors giveRest eff)
variable {P : Program} {w : World} {K : PySem.W.Frag} {mg : Str → Option Value} {base : Heap} {A : Ad} {f fI : Addr} {fd : FuncData}
theorem sum_nV : ∀ (l : List Nat), (l.map fun n : Nat => (n : Int)).sum = ((total l : Nat) : Int)
  | [] => rfl
  | a :: r => by
    rw [List.map_cons, List.sum_cons, sum_nV r, total_cons]
    rfl
theorem map_nV (l : List Nat) : (l.map fun n : Nat => (n : Int)).map V.int = l.map nV := by rw [List.map_map]; rfl
theorem sub_nV {a b : Nat} (h : b ≤ a) : V.int ((a : Int) - (b : Int)) = nV (a - b) := by
  have e : ((a - b : Nat) : Int) = (a : Int) - (b : Int) := by omega
  rw [← e]
theorem max0_nV {a b : Nat} : V.int (if (a : Int) - (b : Int) > 0 then (a : Int) - (b : Int) else 0) = nV (a - b) := by
  by_cases h : (a : Int) - (b : Int) > 0
  · rw [if_pos h, sub_nV (by omega)]
  · have e : a - b = 0 := by omega
    rw [if_neg h, e]
    rfl
theorem ixN_at {n j : Nat} (hj : j < n) : ixN n (j : Int) = some j := by
  unfold ixN
  rw [if_pos (by omega), if_pos (by omega)]
  simp
/-! ### share_out -/
def spShare (K : PySem.W.Frag) : Sp := fun vs H Q _ => ∃ (p : Nat) (a : Addr) (l : List Nat), vs = [nV p, .ref a] ∧ H a = some (.lst (l.map nV)) ∧ l.length ≤ 100 ∧ (∀ x ∈ l, x ≤ 2000) ∧ RetL H Q ((share p l).map nV)
theorem ok_share_out (F : Fun K "share_out" "share_out" s_share_out f fd) (T : Txt K mg A) : FnOk P w K mg base CX0 1 f fd ["pages", "claims"] (spShare K) := by
  refine F.ok sc_share_out (fun vs H Q E h => ?_) (fun cdv A' outer s H vs Q E hr h => ⟨_, (pss_cons (ps_set (i := 2) sc_share_out.nd rfl (Or.inr rfl) (pe_callB (cr_sum rfl) (by rfl) T.b_sum PyProof.Rows.boot_sum (pa_cons (L2.pv 1) pa_nil)))
      (pss_cons (ps_if (pt_cmpR op_le (L2.pv 2) (L2.pv 0) (nomark _)) (pss_one (ps_ret (pe_callTy call_list_of (by rfl) T.b_list PyProof.Rows.boot_list (pa_cons (L2.pv 1) pa_nil)))) pss_nil)
      (pss_cons (ps_setLc (i := 4) (own := [("claim", 3)]) (g := (gName 3)) (tt := tYes) (te := (tOp _ (tOp _ (tVar 3) (tVar 0)) (tVar 2))) rfl sc_share_out.nd rfl rfl (sw_true rfl rfl rfl (by decide +kernel)) (pi_list (L2.pv 1)) (blkOk_by (N := N_share_out) (sc := defScope s_share_out) (by decide +kernel)) (fun _ _ _ _ _ => (pg_name (i := 3) sc_share_out.nd rfl (Or.inl rfl))) (fun _ _ _ _ _ => pts_nil) (fun _ _ _ _ _ => (pe_op op_fdiv (pe_op op_mul (L2.pv 3) (L2.pv 0)) (L2.pv 2))))
      (pss_cons (ps_set (i := 5) sc_share_out.nd rfl (Or.inl rfl) (pe_op op_sub (L2.pv 0) (pe_callB (cr_sum rfl) (by rfl) T.b_sum PyProof.Rows.boot_sum (pa_cons (L2.pv 4) pa_nil))))
      (pss_cons (ps_for PassesOwn.never rfl (pi_enum (by rfl) T.b_enumerate (pa_cons (L2.pv 1) pa_nil)) (pg_tup rfl (pgs_cons (pg_name (i := 6) sc_share_out.nd rfl (Or.inl rfl)) (pgs_cons (pg_name (i := 3) sc_share_out.nd rfl (Or.inl rfl)) pgs_nil))) (pss_one (ps_if (pw_and (pt_cmpR op_gt (L2.pv 3) pe_int (nomark _)) (pw_and1 (pt_cmpR op_gt (L2.pv 5) pe_int (nomark _)))).pt (pss_cons (ps_augS (L2.pv 4) (L2.pv 6) get_list pe_int ip_add set_list)
      (pss_one (ps_aug (i := 5) sc_share_out.nd rfl (Or.inl rfl) pe_int ip_sub))) pss_nil)))
      (pss_one (ps_ret (L2.pv 4)))))))), ?_⟩)
  · obtain ⟨p, a, l, rfl, _⟩ := h
    rfl
  · obtain ⟨p, a, l, rfl, ha, hl, hb, q⟩ := h
    have htot : total l < 1000000 := by
      have h1 := total_le hb
      have h2 : l.length * 2000 ≤ 100 * 2000 := Nat.mul_le_mul_right _ hl
      omega
    refine ⟨_, rfl, a, _, rfl, sq (by rw [map_nV]; exact ha), ?_⟩
    rw [sum_nV]
    refine ⟨_, rfl, _, rfl, _, _, rfl, rfl, _, rfl, ?_⟩
    by_cases ht : total l ≤ p
    · rw [decide_eq_true (by omega)]
      refine iteT ⟨_, rfl, a, _, rfl, .inl (sq ha), fun b hb0 => q b _ (Same.new hb0) hb0 ?_⟩
      rw [upd_same]
      unfold share
      rw [if_pos ht]
    · rw [decide_eq_false (by omega)]
      refine iteF ?_
      have hpos : 0 < total l := by omega
      refine ⟨_, rfl, a, rfl, ⟨_, sq ha⟩, fun D hD => ?_⟩
      refine lc_flat (l := l) (goes_list (h := nV)) hD (fun H' e => e.seq (sq ha)) (fun _ => true) (fun c => nV (c * p / total l)) (by omega) (fun i c x H2 hc s2 hx N Y h1 h2 => ?_) (fun H' s' e => ?_)
      · subst hx
        have hc2 := hb c (List.mem_of_getElem? hc)
        refine ⟨rfl, yes ⟨_, rfl, _, rfl, _, _, rfl, rfl, .inl ⟨by omega, by omega⟩, _, rfl, _, _, rfl, rfl, ⟨by omega, by omega⟩, ?_⟩⟩
        exact h2 rfl _ (Same.refl _)
      · rw [filter_all] at e
        have e' : H' D = some (.lst ((floors p l).map nV)) := by
          rw [e]
          unfold floors
          rw [List.map_map]
          rfl
        have hfl := floors_le (p := p) hpos
        refine ⟨_, rfl, _, rfl, _, _, rfl, sq (by rw [map_nV]; exact e'), ?_⟩
        rw [sum_nV]
        refine ⟨_, _, rfl, rfl, ?_⟩
        generalize hn0 : p - total (floors p l) = n0
        have hn : ((p : Int) - ((total (floors p l) : Nat) : Int)) = ((n0 : Nat) : Int) := by omega
        generalize hfs : floors p l = fs at *
        have hfslen : fs.length = l.length := by rw [← hfs, floors_len]
        refine ⟨_, rfl, a, _, rfl, s'.seq (sq ha), for_goes (l := l) (goes_enum (h := nV)) (fun i σ H2 => ∃ x y, σ = [some (nV p), some (.ref a), some (nV (total l)), x, some (.ref D), some (nV (leftA n0 (l.take i))), y] ∧ Same H H2 ∧
          H2 D = some (.lst (((giveRest n0 ((l.zip fs).take i)) ++ fs.drop i).map nV))) ?_ ?_ ?_ ?_⟩
        · refine ⟨none, none, ?_, s', by simpa [giveRest] using e'⟩
          show [some (nV p), some (V.ref a), some (nV (total l)), none, some (V.ref D), some (V.int ((p : Int) - ((total fs : Nat) : Int))), none] = _
          rw [hn]
          rfl
        · rintro i σ H2 ⟨x, y, rfl, s2, _⟩
          exact s2.seq (sq ha)
        · rintro i c v σ H2 H2' hi ⟨x, y, rfl, s2, hd2⟩ se ⟨t, ev, htt⟩
          subst ev
          have hil : i < l.length := (List.getElem?_eq_some_iff.mp hi).1
          have hif : i < fs.length := by omega
          have hz : (l.zip fs)[i]? = some (c, fs[i]) := by
            rw [List.getElem?_zip_eq_some]
            exact ⟨hi, List.getElem?_eq_getElem hif⟩
          have hzl : ((l.zip fs).take i).map (·.1) = l.take i := by
            rw [List.map_take, List.map_fst_zip (by omega)]
          have hgl : (giveRest n0 ((l.zip fs).take i)).length = i := by
            rw [giveRest_len, List.length_take, List.length_zip]
            omega
          have hdrop : fs.drop i = fs[i] :: fs.drop (i + 1) := List.drop_eq_getElem_cons hif
          have hd3 := se _ _ hd2
          have hnext : giveRest n0 ((l.zip fs).take (i + 1)) = giveRest n0 ((l.zip fs).take i) ++ [if 0 < c ∧ 0 < leftA n0 (l.take i) then fs[i] + 1 else fs[i]] := by
            rw [take_snoc hz, giveRest_snoc, hzl]
          have hleft : leftA n0 (l.take (i + 1)) = if 0 < c ∧ 0 < leftA n0 (l.take i) then leftA n0 (l.take i) - 1 else leftA n0 (l.take i) := by
            rw [take_snoc hi, leftA_snoc]
          generalize hG : giveRest n0 ((l.zip fs).take i) = G at *
          generalize hR : leftA n0 (l.take i) = R at *
          refine ⟨t, _, rfl, .inl (.inl htt), rfl, _, _, rfl, _, _, rfl, rfl, ?_⟩
          refine ⟨_, rfl, _, _, rfl, rfl, _, rfl, ?_⟩
          by_cases h1 : 0 < c
          · rw [decide_eq_true (by omega)]
            refine iteT ⟨_, rfl, _, _, rfl, rfl, _, rfl, ?_⟩
            by_cases h2 : 0 < R
            · rw [decide_eq_true (by omega)]
              rw [if_pos ⟨h1, h2⟩] at hnext hleft
              refine iteT ?_
              have hlen : ((G ++ fs.drop i).map nV).length = l.length := by
                rw [List.length_map, List.length_append, hgl, List.length_drop]
                omega
              have hget : ((G ++ fs.drop i).map nV)[i]? = some (nV fs[i]) := by
                rw [List.getElem?_map, List.getElem?_append_right (by omega), hgl, Nat.sub_self, hdrop]
                rfl
              refine ⟨_, rfl, _, rfl, D, _, _, _, rfl, rfl, by omega, sq hd3, atI_nat hget, _, _, rfl, rfl, D, _, _, _, rfl, rfl, hd3, ixN_at (by rw [hlen]; exact hil), ?_⟩
              refine ⟨_, rfl, _, _, rfl, rfl, ?_⟩
              refine ⟨some (nV c), some (nV i), ?_, (s2.trans se).mut hD, ?_⟩
              · show [some (nV p), some (V.ref a), some (nV (total l)), some (nV c), some (V.ref D), some (V.int ((R : Int) - 1)), some (nV i)] = _
                have e1 : ((R : Int) - 1) = ((R - 1 : Nat) : Int) := by omega
                rw [e1, hleft]
              · rw [upd_same, hnext, hdrop, List.append_assoc, List.map_append, List.map_append, List.set_append_right _ _ (by rw [List.length_map]; omega), List.length_map, hgl, Nat.sub_self]
                rfl
            · rw [decide_eq_false (by omega)]
              rw [if_neg (fun z => h2 z.2)] at hnext hleft
              refine iteF ⟨_, _, by rw [hleft]; rfl, s2.trans se, ?_⟩
              rw [hd3, hnext, hdrop, List.append_assoc]
              rfl
          · rw [decide_eq_false (by omega)]
            rw [if_neg (fun z => h1 z.1)] at hnext hleft
            refine iteF (iteF ⟨_, _, by rw [hleft]; rfl, s2.trans se, ?_⟩)
            rw [hd3, hnext, hdrop, List.append_assoc]
            rfl
        · rintro σ H2 ⟨x, y, rfl, s2, hd2⟩
          refine ⟨_, rfl, q _ _ s2 hD ?_⟩
          rw [hd2]
          unfold share
          rw [if_neg ht, hfs, hn0, List.take_of_length_le (by rw [List.length_zip]; omega), List.drop_of_length_le (by omega), List.append_nil]

/-! ### needs_of -/
def spNeedsOf (K : PySem.W.Frag) (A : Ad) : Sp := fun vs H Q _ => ∃ L m g n, vs = [.ref (Lay.a L), nV g, nV n] ∧ MemAt K A H L m ∧ live m.groups g = true ∧ RetD H Q (kvF (chain m.groups g) fun a => nV (m.usage a + n - (m.groups.at_ a).max))
theorem ok_needs_of (F : Fun K "needs_of" "Memory.needs_of" s_Memory_needs_of f fd) (T : Txt K mg A) (h_Memory_above : GM P w K mg base CX0 1 A.mem "above" ["self", "number"] (spAbove K A)) (h_Memory_usages : GM P w K mg base CX0 2 A.mem "usages" ["self"] (spUsages K A)) :
    FnOk P w K mg base CX0 3 f fd ["self", "number", "count"] (spNeedsOf K A) := by
  refine F.ok sc_Memory_needs_of (fun vs H Q E h => ?_) (fun cdv A' outer s H vs Q E hr h => ⟨_, (pss_cons (ps_par (i := 3) (j := 4) rfl sc_Memory_needs_of.nd rfl rfl (by decide) rfl rfl (pa_cons (pe_gm0 h_Memory_usages T.c_mem (hr.mono (by decide)) pass0 (L2.pv 0)) (pa_cons pe_dnewK pa_nil)) (by rfl))
      (pss_cons (ps_for PassesOwn.never rfl (pi_list (pe_gm h_Memory_above T.c_mem (hr.mono (by decide)) pass0 (L2.pv 0) (pa_cons (L2.pv 1) pa_nil))) (pg_name (i := 5) sc_Memory_needs_of.nd rfl (Or.inl rfl)) (pss_one (ps_dput (hu_of hr) (L2.pv 4) (L2.pv 5) (pe_callB (call_max2 rfl) (by rfl) T.b_max PyProof.Rows.boot_max (pa_cons pe_int (pa_cons (pe_op op_sub (pe_op op_add (pe_dget (hu_of hr) (L2.pv 3) (L2.pv 5) (fun _ _ => rfl)) (L2.pv 2)) (pe_fld (pe_fld (pe_dget (hu_of hr) (pe_fld (L2.pv 0) rfl) (L2.pv 5) (fun _ _ => rfl)) rfl) rfl)) pa_nil))) rfl)))
      (pss_one (ps_ret (L2.pv 4))))), ?_⟩)
  · obtain ⟨L, m, g, n, rfl, _⟩ := h
    rfl
  · obtain ⟨L, m, g, n, rfl, M, lg, q⟩ := h
    have hlen := M.wf.g.len
    refine ⟨_, rfl, M.meth (by decide +kernel) ⟨L, m, rfl, M, fun u H1 s1 hu0 hu => ?_⟩⟩
    intro d hd
    refine ⟨_, _, rfl, ?_⟩
    have hd0 := s1.free hd
    have hud : u ≠ d := fun z => by rw [z, hd] at hu; cases hu
    have s2 : Same H (upd H1 d (.dK [])) := s1.trans (Same.new hd)
    have M2 := M.mono s2
    refine ⟨_, rfl, M2.meth (by decide +kernel) ⟨_, rfl, L, m, g, rfl, M2.toMemR, lg, fun b H3 s3 hb0 hb => ?_⟩⟩
    refine ⟨b, rfl, ⟨_, sq hb⟩, for_goes (l := chain m.groups g) (goes_list (h := nV)) (fun i σ H' => ∃ x, σ = [some (.ref L.a), some (nV g), some (nV n), some (.ref u), some (.ref d), x] ∧ Same H H' ∧ H' u = some (.dK (usF m)) ∧
      H' b = some (.lst ((chain m.groups g).map nV)) ∧ H' d = some (.dK (kvF ((chain m.groups g).take i) fun a => nV (m.usage a + n - (m.groups.at_ a).max)))) ?_ ?_ ?_ ?_⟩
    · exact ⟨_, rfl, s2.trans s3, s3 _ _ (by rw [upd_ne hud]; exact hu), hb, s3 _ _ upd_same⟩
    · rintro i σ H' ⟨x, rfl, _, _, hb, _⟩
      exact sq hb
    · rintro i a v σ H4 H4' hi ⟨x, rfl, s4, hu4, hb4, hd4⟩ se hv
      subst hv
      have hla : live m.groups a = true := M.wf.g.chain_live lg (List.mem_of_getElem? hi)
      have M4 := M.mono (s4.trans se)
      refine ⟨_, rfl, _, rfl, _, _, rfl, dget_in (.inl (se _ _ hu4)) (mem_liveL.mpr hla), _, rfl, _, _, rfl, rfl, ?_⟩
      refine ⟨_, rfl, M4.f_groups T ?_⟩
      refine ⟨_, rfl, at_dget M4.grps (mem_liveL.mpr hla) (M4.g_limits T hla (M4.l_most T hla ?_))⟩
      refine ⟨_, _, rfl, rfl, _, _, rfl, ?_⟩
      have e1 : V.int (if (↑(usage m.groups m.pages a) + ↑n - ↑(m.groups.at_ a).max : Int) > 0 then (↑(usage m.groups m.pages a) + ↑n - ↑(m.groups.at_ a).max : Int) else 0) = nV (m.usage a + n - (m.groups.at_ a).max) := by
        have := @max0_nV (m.usage a + n) (m.groups.at_ a).max
        exact this
      rw [e1]
      have hn : a ∉ (chain m.groups g).take i := fun hm => by
        rw [List.mem_take_iff_getElem] at hm
        obtain ⟨j, hj, e⟩ := hm
        obtain ⟨hi', e'⟩ := List.getElem?_eq_some_iff.mp hi
        exact List.pairwise_iff_getElem.mp (M.wf.g.chain_nodup lg) j i (by omega) hi' (by omega) (by rw [e, e'])
      have hcl := M.wf.g.chain_len lg
      refine ⟨_, rfl, _, rfl, _, _, rfl, dput_new (se _ _ hd4) hn (by rw [List.length_take]; omega), _, rfl, (s4.trans se).mut hd0, ?_, ?_, ?_⟩
      · rw [upd_ne hud]
        exact se _ _ hu4
      · rw [upd_ne fun z => by rw [z, hd4] at hb4; cases hb4]
        exact se _ _ hb4
      · rw [upd_same, take_snoc hi]
        congr 2
        refine kvF_congr fun z _ => ?_
        by_cases e : z = a
        · rw [if_pos e, e]
        · rw [if_neg e]
    · rintro σ H' ⟨x, rfl, s4, _, _, hd4⟩
      refine ⟨_, rfl, q _ _ s4 hd0 ?_⟩
      rw [hd4, List.take_length]
theorem min_nV' {a b : Nat} : V.int (if (b : Int) < (a : Int) then (b : Int) else (a : Int)) = nV (Nat.min a b) := min_nV
theorem conv_map {α : Type} {l : List α} {f : α → Nat} {xs : List Nat} (z : l.map f = xs) : xs.map nV = l.map (fun e => nV (f e)) := by
  rw [← z, List.map_map]
  rfl
/-! ### handed_down -/
structure HD (gs : SGroups) (ks st : List Nat) : Prop where
  nd : ks.Nodup
  lv : ∀ g ∈ ks, live gs g = true
  stn : st.Nodup
  sub : ∀ g ∈ st, g ∈ ks
  root : 0 ∈ ks
  up : ∀ g ∈ ks, g ≠ 0 → par gs g ∈ ks ∧ par gs g ∉ st
  dn : ∀ g ∈ ks, g ∉ st → ∀ k ∈ kids gs g, k ∈ ks
theorem HD.start {gs : SGroups} (W : GWF gs) : HD gs [0] [0] := ⟨by simp, by simpa using W.root, by simp, by simp, by simp, by simp, by simp⟩
theorem HD.fresh {gs : SGroups} {ks st : List Nat} {g : Nat} (h : HD gs ks (st ++ [g])) {k : Nat} (hk : k ∈ kids gs g) : k ∉ ks := fun hm => by
  obtain ⟨h0, _, hp⟩ := mem_kids.mp hk
  have := (h.up k hm h0).2
  rw [hp] at this
  exact this (List.mem_append_right _ (List.mem_singleton.mpr rfl))
theorem HD.step {gs : SGroups} {ks st : List Nat} {g : Nat} (h : HD gs ks (st ++ [g])) : HD gs (ks ++ kids gs g) (st ++ kids gs g) := by
  have gm : g ∈ ks := h.sub g (List.mem_append_right _ (List.mem_singleton.mpr rfl))
  have gn : g ∉ st := fun hm => (List.nodup_append.mp h.stn).2.2 g hm g (List.mem_singleton.mpr rfl) rfl
  have sub : ∀ x ∈ st, x ∈ ks := fun x hx => h.sub x (List.mem_append_left _ hx)
  refine ⟨?_, ?_, ?_, ?_, List.mem_append_left _ h.root, ?_, ?_⟩
  · rw [List.nodup_append]
    exact ⟨h.nd, kids_nodup _ _, fun a ha b hb e => h.fresh hb (e ▸ ha)⟩
  · intro x hx
    rcases List.mem_append.mp hx with q | q
    · exact h.lv x q
    · exact (mem_kids.mp q).2.1
  · rw [List.nodup_append]
    exact ⟨(List.nodup_append.mp h.stn).1, kids_nodup _ _, fun a ha b hb e => h.fresh hb (e ▸ sub a ha)⟩
  · intro x hx
    rcases List.mem_append.mp hx with q | q
    · exact List.mem_append_left _ (sub x q)
    · exact List.mem_append_right _ q
  · intro x hx h0
    rcases List.mem_append.mp hx with q | q
    · obtain ⟨h1, h2⟩ := h.up x q h0
      refine ⟨List.mem_append_left _ h1, fun hm => ?_⟩
      rcases List.mem_append.mp hm with z | z
      · exact h2 (List.mem_append_left _ z)
      · exact h.fresh z h1
    · obtain ⟨_, _, hp⟩ := mem_kids.mp q
      rw [hp]
      refine ⟨List.mem_append_left _ gm, fun hm => ?_⟩
      rcases List.mem_append.mp hm with z | z
      · exact gn z
      · exact h.fresh z gm
  · intro x hx hn k hk
    rcases List.mem_append.mp hx with q | q
    · by_cases e : x = g
      · subst e
        exact List.mem_append_right _ hk
      · refine List.mem_append_left _ (h.dn x q (fun hm => ?_) k hk)
        rcases List.mem_append.mp hm with z | z
        · exact hn (List.mem_append_left _ z)
        · exact e (List.mem_singleton.mp z)
    · exact absurd (List.mem_append_right _ q) hn
theorem HD.all {gs : SGroups} {ks : List Nat} (W : GWF gs) (h : HD gs ks []) : ∀ g, live gs g = true → g ∈ ks := by
  have key : ∀ n g, Up gs n g → g ∈ ks := by
    intro n g u
    induction u with
    | root _ => exact h.root
    | @step n g h0 hl _ ih => exact h.dn _ ih (by simp) g (mem_kids.mpr ⟨h0, hl, rfl⟩)
  intro g hg
  obtain ⟨n, u⟩ := W.up g hg
  exact key n g u
theorem HD.len {gs : SGroups} {ks st : List Nat} (h : HD gs ks st) (hg : gs.length ≤ 40) : ks.length ≤ 40 := by
  have := nodup_le gs.length ks h.nd fun x hx => live_lt (h.lv x hx)
  omega
theorem HD.slen {gs : SGroups} {ks st : List Nat} (h : HD gs ks st) (hg : gs.length ≤ 40) : st.length ≤ 40 := by
  have := nodup_le gs.length st h.stn fun x hx => live_lt (h.lv x (h.sub x hx))
  omega
/-- a dict over the live groups is handed back -/
def RetG (gs : SGroups) (H : Hp) (Q : VK) (pf : Nat → Nat) : Prop := ∀ (ks : List Nat) p H', ks.Nodup → (∀ g, live gs g = true ↔ g ∈ ks) → Same H H' → H p = none → H' p = some (.dK (kvF ks fun g => nV (pf g))) → Q (.ref p) H'
abbrev efF (m : SMem) (b : Bool) : Nat → Nat := eff m.groups m.pages (claimOf b m.groups)
def spHanded (K : PySem.W.Frag) (A : Ad) : Sp := fun vs H Q _ => ∃ L m b, vs = [.ref (Lay.a L), .bl b] ∧ MemAt K A H L m ∧ RetG m.groups H Q (efF m b)
theorem ok_handed_down (F : Fun K "handed_down" "Memory.handed_down" s_Memory_handed_down f fd) (T : Txt K mg A) (h_Memory_kids : GM P w K mg base CX0 1 A.mem "kids" ["self", "number"] (spKids K A)) (h_Memory_asked : GM P w K mg base CX0 1 A.mem "asked" ["self", "number", "is_second"] (spAsked K A))
    (h_Memory_usages : GM P w K mg base CX0 2 A.mem "usages" ["self"] (spUsages K A)) (h_share_out : GF P w K mg base CX0 1 "share_out" ["pages", "claims"] (spShare K)) :
    FnOk P w K mg base CX0 3 f fd ["self", "is_second"] (spHanded K A) := by
  refine F.ok sc_Memory_handed_down (fun vs H Q E h => ?_) (fun cdv A' outer s H vs Q E hr h => ⟨_, (pss_cons (ps_set (i := 2) sc_Memory_handed_down.nd rfl (Or.inr rfl) (pe_gm0 h_Memory_usages T.c_mem (hr.mono (by decide)) pass0 (L2.pv 0)))
      (pss_cons (ps_par (i := 3) (j := 4) rfl sc_Memory_handed_down.nd rfl rfl (by decide) rfl rfl (pa_cons (pe_disp (pps_cons pe_int (pe_callB (call_min2 rfl) (by rfl) T.b_min PyProof.Rows.boot_min (pa_cons (pe_gm h_Memory_asked T.c_mem (hr.mono (by decide)) pass0 (L2.pv 0) (pa_cons pe_int (pa_cons (L2.pv 1) pa_nil))) (pa_cons (pe_dget (hu_of hr) (L2.pv 2) pe_int (fun _ _ => rfl)) pa_nil))) pps_nil) (by rfl) (by rfl) (fun z => by cases z) (by decide)) (pa_cons (pe_lst (pa_cons pe_int pa_nil)) pa_nil)) (by rfl))
      (pss_cons (ps_while PassesOwn.never (pt_cmpR op_gt (pe_callB call_len_seq (by rfl) T.b_len PySem.boot_len (pa_cons (L2.pv 4) pa_nil)) pe_int (nomark _)) (pss_cons (ps_set (i := 5) sc_Memory_handed_down.nd rfl (Or.inl rfl) (pe_bm0 PySem.F.plainAttrs_list PySem.F.slot_list_pop PySem.F.type_list_pop mt_pop (L2.pv 4)))
      (pss_cons (ps_set (i := 6) sc_Memory_handed_down.nd rfl (Or.inl rfl) (pe_gm h_Memory_kids T.c_mem (hr.mono (by decide)) pass0 (L2.pv 0) (pa_cons (L2.pv 5) pa_nil)))
      (pss_cons (ps_setLc (i := 8) (own := [("kid", 7)]) (g := (gName 7)) (tt := tYes) (te := (tCB _ (tCons (tMeth _ _ _ [] _ (tVar 0) (tCons (tVar 7) (tCons (tVar 1) tNil))) (tCons (tDGet (tVar 2) (tVar 7)) tNil)))) rfl sc_Memory_handed_down.nd rfl rfl (sw_true rfl rfl rfl (by decide +kernel)) (pi_list (L2.pv 6)) (blkOk_by (N := N_Memory_handed_down) (sc := defScope s_Memory_handed_down) (by decide +kernel)) (fun _ _ _ _ _ => (pg_name (i := 7) sc_Memory_handed_down.nd rfl (Or.inl rfl))) (fun _ _ _ _ _ => pts_nil) (fun _ _ _ _ _ => (pe_callB (call_min2 rfl) (by rfl) T.b_min PyProof.Rows.boot_min (pa_cons (pe_gm h_Memory_asked T.c_mem (hr.mono (by decide)) pass0 (L2.pv 0) (pa_cons (L2.pv 7) (pa_cons (L2.pv 1) pa_nil))) (pa_cons (pe_dget (hu_of hr) (L2.pv 2) (L2.pv 7) (fun _ _ => rfl)) pa_nil)))))
      (pss_cons (ps_set (i := 9) sc_Memory_handed_down.nd rfl (Or.inl rfl) (pe_gf h_share_out (hr.mono (by decide)) pass0 (pa_cons (pe_dget (hu_of hr) (L2.pv 3) (L2.pv 5) (fun _ _ => rfl)) (pa_cons (L2.pv 8) pa_nil))))
      (pss_cons (ps_setLc (i := 10) (own := [("kid", 7), ("claim", 14)]) (g := (gTup K 2 (gCons (gName 7) (gCons (gName 14) gNil)))) (tt := tYes) (te := (tOp _ (tDGet (tVar 2) (tVar 7)) (tVar 14))) rfl sc_Memory_handed_down.nd rfl rfl (sw_true rfl rfl rfl (by decide +kernel)) (pi_zip (by rfl) T.b_zip (pa_cons (L2.pv 6) (pa_cons (L2.pv 8) pa_nil))) (blkOk_by (N := N_Memory_handed_down) (sc := defScope s_Memory_handed_down) (by decide +kernel)) (fun _ _ _ _ _ => (pg_tup rfl (pgs_cons (pg_name (i := 7) sc_Memory_handed_down.nd rfl (Or.inl rfl)) (pgs_cons (pg_name (i := 14) sc_Memory_handed_down.nd rfl (Or.inl rfl)) pgs_nil)))) (fun _ _ _ _ _ => pts_nil) (fun _ _ _ _ _ => (pe_op op_sub (pe_dget (hu_of hr) (L2.pv 2) (L2.pv 7) (fun _ _ => rfl)) (L2.pv 14))))
      (pss_cons (ps_set (i := 11) sc_Memory_handed_down.nd rfl (Or.inl rfl) (pe_gf h_share_out (hr.mono (by decide)) pass0 (pa_cons (pe_callB (call_max2 rfl) (by rfl) T.b_max PyProof.Rows.boot_max (pa_cons pe_int (pa_cons (pe_op op_sub (pe_dget (hu_of hr) (L2.pv 3) (L2.pv 5) (fun _ _ => rfl)) (pe_callB (cr_sum rfl) (by rfl) T.b_sum PyProof.Rows.boot_sum (pa_cons (L2.pv 8) pa_nil))) pa_nil))) (pa_cons (L2.pv 10) pa_nil))))
      (pss_cons (ps_for PassesOwn.never rfl (pi_zip3 (by rfl) T.b_zip (pa_cons (L2.pv 6) (pa_cons (L2.pv 9) (pa_cons (L2.pv 11) pa_nil)))) (pg_tup rfl (pgs_cons (pg_name (i := 7) sc_Memory_handed_down.nd rfl (Or.inl rfl)) (pgs_cons (pg_name (i := 12) sc_Memory_handed_down.nd rfl (Or.inl rfl)) (pgs_cons (pg_name (i := 13) sc_Memory_handed_down.nd rfl (Or.inl rfl)) pgs_nil)))) (pss_one (ps_dput (hu_of hr) (L2.pv 3) (L2.pv 7) (pe_op op_add (L2.pv 12) (L2.pv 13)) rfl)))
      (pss_one (ps_expr (pe_bm PySem.F.plainAttrs_list PySem.F.slot_list_extend PySem.F.type_list_extend mt_extend (L2.pv 4) (pa_cons (L2.pv 6) pa_nil))))))))))))
      (pss_one (ps_ret (L2.pv 3)))))), ?_⟩)
  · obtain ⟨L, m, b, rfl, _⟩ := h
    rfl
  · obtain ⟨L, m, b, rfl, M, q⟩ := h
    have hlen := M.wf.g.len
    have hlr := M.wf.g.root
    refine ⟨_, rfl, M.meth (by decide +kernel) ⟨L, m, rfl, M, fun u H1 s1 hu0 hu => ?_⟩⟩
    intro d hd
    have M1 : MemAt K A (upd H1 d (.dK [])) L m := M.mono (s1.trans (Same.new hd))
    have hud : u ≠ d := fun z => by rw [z, hd] at hu; cases hu
    have hd0 := s1.free hd
    refine ⟨_, rfl, M1.meth (by decide +kernel) ⟨_, rfl, L, m, 0, b, rfl, M1.toMemR, hlr, fun H2 s2 => ?_⟩⟩
    have hu2 : H2 u = some (.dK (usF m)) := s2 _ _ (by rw [upd_ne hud]; exact hu)
    have hd2 : H2 d = some (.dK []) := s2 _ _ upd_same
    have e0 : efF m b 0 = Nat.min (claimOf b m.groups 0) (usage m.groups m.pages 0) := M.wf.g.eff_root
    refine ⟨_, rfl, _, _, rfl, dget_in (.inl hu2) (mem_liveL.mpr hlr), _, _, rfl, ?_⟩
    rw [min_nV', ← e0]
    refine ⟨hd2, kvF [0] (fun g => nV (efF m b g)), rfl, by show 1 ≤ 15; decide, ?_⟩
    rw [kvF_merge (by simp)]
    refine ⟨by show 1 ≤ sizeLine; decide, fun l hl => ?_⟩
    refine ⟨_, _, rfl, ?_⟩
    have s3 : Same H (upd (upd H2 d (.dK (kvF [0] fun g => nV (efF m b g)))) l (.lst [nV 0])) := (((s1.trans (Same.new hd)).trans s2).mut hd0).trans (Same.new hl)
    have hdl : d ≠ l := fun z => by rw [← z, upd_same] at hl; cases hl
    have hul : u ≠ l := fun z => by rw [← z, upd_ne hud, hu2] at hl; cases hl
    have hl0 : H l = none := by
      have h1 : H2 l = none := by rw [← hl, upd_ne (Ne.symm hdl)]
      exact ((s1.trans (Same.new hd)).trans s2).free h1
    have hu3 : (upd (upd H2 d (.dK (kvF [0] fun g => nV (efF m b g)))) l (.lst [nV 0])) u = some (.dK (usF m)) := by rw [upd_ne hul, upd_ne hud]; exact hu2
    have hd3 : (upd (upd H2 d (.dK (kvF [0] fun g => nV (efF m b g)))) l (.lst [nV 0])) d = some (.dK (kvF [0] fun g => nV (efF m b g))) := by rw [upd_ne hdl, upd_same]
    have hl3 : (upd (upd H2 d (.dK (kvF [0] fun g => nV (efF m b g)))) l (.lst [nV 0])) l = some (.lst ([0].map nV)) := upd_same
    generalize (upd (upd H2 d (.dK (kvF [0] fun g => nV (efF m b g)))) l (.lst [nV 0])) = H3 at *
    clear hu2 hd2 s2 M1 hl hu s1 hu0
    refine ⟨fun n σ H' => ∃ ks st x5 x6 x7 x8 x9 x10 x11 x12 x13 x14, σ = [some (.ref L.a), some (.bl b), some (.ref u), some (.ref d), some (.ref l), x5, x6, x7, x8, x9, x10, x11, x12, x13, x14] ∧
      n = 2 * (40 - ks.length) + st.length ∧ Same H H' ∧ H' u = some (.dK (usF m)) ∧ H' d = some (.dK (kvF ks fun g => nV (efF m b g))) ∧ H' l = some (.lst (st.map nV)) ∧ HD m.groups ks st,
      ⟨_, [0], [0], _, _, _, _, _, _, _, _, _, _, rfl, rfl, s3, hu3, hd3, hl3, HD.start M.wf.g⟩, ?_⟩
    rintro n σ H4 ⟨ks, st, x5, x6, x7, x8, x9, x10, x11, x12, x13, x14, rfl, rfl, s4, hu4, hd4, hl4, I⟩
    refine ⟨_, rfl, l, _, rfl, .inl (sq hl4), _, _, rfl, rfl, _, rfl, ?_⟩
    rw [List.length_map]
    rcases List.eq_nil_or_concat st with rfl | ⟨st, g, rfl⟩
    · refine iteF ⟨_, rfl, q ks _ _ I.nd (fun g => ⟨I.all M.wf.g g, I.lv g⟩) s4 hd0 hd4⟩
    · rw [List.concat_eq_append] at *
      rw [decide_eq_true (by rw [List.length_append, List.length_singleton]; omega)]
      have gks : g ∈ ks := I.sub g (List.mem_append_right _ (List.mem_singleton.mpr rfl))
      have lg : live m.groups g = true := I.lv g gks
      have hsl := I.slen hlen
      have hkl := I.step.len hlen
      have hstl := I.step.slen hlen
      rw [List.length_append] at hkl hstl
      refine iteT ⟨fun σ' H5 => ∃ n', n' < 2 * (40 - ks.length) + (st ++ [g]).length ∧ ∃ ks st x5 x6 x7 x8 x9 x10 x11 x12 x13 x14, σ' = [some (.ref L.a), some (.bl b), some (.ref u), some (.ref d), some (.ref l), x5, x6, x7, x8, x9, x10, x11, x12, x13, x14] ∧
        n' = 2 * (40 - ks.length) + st.length ∧ Same H H5 ∧ H5 u = some (.dK (usF m)) ∧ H5 d = some (.dK (kvF ks fun g => nV (efF m b g))) ∧ H5 l = some (.lst (st.map nV)) ∧ HD m.groups ks st, fun _ _ h => h, ?_⟩
      have hlast : ((st ++ [g]).map nV)[((st ++ [g]).map nV).length - 1]? = some (nV g) := by simp
      have hdrop : ((st ++ [g]).map nV).dropLast = st.map nV := by rw [List.map_append]; simp
      refine ⟨_, rfl, .inl ⟨rfl, _, sq hl4⟩, l, _, _, rfl, rfl, hl4, hlast, ?_⟩
      rw [hdrop]
      have hlu : l ≠ u := Ne.symm hul
      have hu5 : (upd H4 l (.lst (st.map nV))) u = some (.dK (usF m)) := by rw [upd_ne hul]; exact hu4
      have hd5 : (upd H4 l (.lst (st.map nV))) d = some (.dK (kvF ks fun g => nV (efF m b g))) := by rw [upd_ne hdl]; exact hd4
      have hl5 : (upd H4 l (.lst (st.map nV))) l = some (.lst (st.map nV)) := upd_same
      have s5 : Same H (upd H4 l (.lst (st.map nV))) := s4.mut hl0
      generalize (upd H4 l (.lst (st.map nV))) = H5 at *
      clear hu4 hd4 hl4 s4
      have M5 := M.mono s5
      refine ⟨_, rfl, M5.meth (by decide +kernel) ⟨_, rfl, L, m, g, rfl, M5.toMemR, fun ak H6 s6 hak0 hak => ?_⟩⟩
      have hkl := kids_len m.groups g
      have lk : ∀ k ∈ kids m.groups g, live m.groups k = true := fun k hk => (mem_kids.mp hk).2.1
      have hus : ∀ k, usage m.groups m.pages k ≤ 2000 := fun k => Nat.le_trans (usage_le _ _ _) M.wf.np
      have hmin : ∀ k, Nat.min (claimOf b m.groups k) (usage m.groups m.pages k) ≤ usage m.groups m.pages k := fun k => Nat.min_le_right _ _
      generalize hks : kids m.groups g = kd at *
      refine ⟨_, rfl, ak, rfl, ⟨_, sq hak⟩, fun ac hac0 => ?_⟩
      refine lc_flat (l := kd) (goes_list (h := nV)) hac0 (fun H' e => e.seq (sq hak)) (fun _ => true) (fun k => nV (Nat.min (claimOf b m.groups k) (usage m.groups m.pages k))) (by omega) (fun i k x H7 hk s7 hx N Y h1 h2 => ?_) (fun H7 s7 e7 => ?_)
      · subst hx
        have hlk := lk k (List.mem_of_getElem? hk)
        have M7 := M5.mono (s6.trans s7)
        refine ⟨rfl, yes ⟨_, rfl, M7.meth (by decide +kernel) ⟨_, rfl, _, rfl, L, m, k, b, rfl, M7.toMemR, hlk, fun H8 s8 => ?_⟩⟩⟩
        refine ⟨_, rfl, _, rfl, _, _, rfl, dget_in (.inl (s8 _ _ (s7 _ _ (s6 _ _ hu5)))) (mem_liveL.mpr hlk), _, _, rfl, ?_⟩
        rw [min_nV']
        exact h2 rfl _ s8
      · rw [filter_all] at e7
        have hac : H7 ac = some (.lst ((kd.map fun k => Nat.min (claimOf b m.groups k) (usage m.groups m.pages k)).map nV)) := by rw [e7, List.map_map]; rfl
        clear e7
        have hak7 := s7 _ _ hak
        have hd7 := s7 _ _ (s6 _ _ hd5)
        have hu7 := s7 _ _ (s6 _ _ hu5)
        have hl7 := s7 _ _ (s6 _ _ hl5)
        have st7 := (s5.trans s6).trans s7
        clear hak s6 hd5 hu5 hl5 s7 hak0 hac0
        generalize hcl : (kd.map fun k => Nat.min (claimOf b m.groups k) (usage m.groups m.pages k)) = cls at *
        have hclen : cls.length = kd.length := by rw [← hcl, List.length_map]
        refine ⟨_, rfl, _, rfl, _, _, rfl, dget_in (.inl hd7) gks, _, rfl, efF m b g, ac, cls, rfl, hac, by omega, ?_, fun af H8 s8 haf0 haf => ?_⟩
        · intro x hx
          rw [← hcl] at hx
          obtain ⟨k, _, e⟩ := List.mem_map.mp hx
          rw [← e]
          exact Nat.le_trans (hmin k) (hus k)
        have hac8 := s8 _ _ hac
        have hak8 := s8 _ _ hak7
        refine ⟨_, rfl, _, rfl, ak, ac, _, _, rfl, sq hak8, sq hac8, fun ar har0 => ?_⟩
        refine lc_flat (l := kd) (goes_zip (h := nV) (k := fun k => nV (Nat.min (claimOf b m.groups k) (usage m.groups m.pages k)))) har0 (fun H' e => ⟨e.seq (sq hak8), e.seq (sq (by rw [hac8, ← hcl, List.map_map]; rfl))⟩) (fun _ => true)
          (fun k => nV (usage m.groups m.pages k - Nat.min (claimOf b m.groups k) (usage m.groups m.pages k))) (by omega) (fun i k x H9 hk s9 hx N Y h1 h2 => ?_) (fun H9 s9 e9 => ?_)
        · obtain ⟨t, rfl, ht⟩ := hx
          have hlk := lk k (List.mem_of_getElem? hk)
          refine ⟨t, _, rfl, .inl (.inl ht), rfl, _, _, rfl, _, _, rfl, rfl, rfl, yes ⟨_, rfl, _, rfl, _, _, rfl, dget_in (.inl (s9 _ _ (s8 _ _ hu7))) (mem_liveL.mpr hlk), _, rfl, _, _, rfl, rfl, ?_⟩⟩
          have e := h2 rfl H9 (Same.refl _)
          rw [← sub_nV (hmin k)] at e
          exact e
        · rw [filter_all] at e9
          have har : H9 ar = some (.lst ((kd.map fun k => usage m.groups m.pages k - Nat.min (claimOf b m.groups k) (usage m.groups m.pages k)).map nV)) := by rw [e9, List.map_map]; rfl
          clear e9
          have hac9 := s9 _ _ hac8
          have hd9 := s9 _ _ (s8 _ _ hd7)
          refine ⟨_, rfl, _, rfl, _, _, rfl, dget_in (.inl hd9) gks, _, rfl, ac, _, rfl, sq (by rw [map_nV]; exact hac9), ?_⟩
          rw [sum_nV]
          refine ⟨_, _, rfl, rfl, _, _, rfl, ?_⟩
          refine ⟨_, rfl, _, ar, _, by rw [max0_nV]; rfl, har, by rw [List.length_map]; omega, ?_, fun as H10 s10 has0 has => ?_⟩
          · intro x hx
            obtain ⟨k, _, e⟩ := List.mem_map.mp hx
            rw [← e]
            exact Nat.le_trans (Nat.sub_le _ _) (hus k)
          have hsum : (share (efF m b g) cls).zipWith (· + ·) (share (efF m b g - total cls) (kd.map fun k => usage m.groups m.pages k - Nat.min (claimOf b m.groups k) (usage m.groups m.pages k))) = kd.map (efF m b) := by
            rw [← hcl, ← hks]
            exact M.wf.g.handed2 g
          have hak10 := s10 _ _ (s9 _ _ hak8)
          have haf10 := s10 _ _ (s9 _ _ haf)
          have hd10 := s10 _ _ hd9
          have hl10 := s10 _ _ (s9 _ _ (s8 _ _ hl7))
          have hu10 := s10 _ _ (s9 _ _ (s8 _ _ hu7))
          have st10 := ((st7.trans s8).trans s9).trans s10
          have h1len : (share (efF m b g) cls).length = kd.length := by rw [share_len, hclen]
          have h2len : (share (efF m b g - total cls) (kd.map fun k => usage m.groups m.pages k - Nat.min (claimOf b m.groups k) (usage m.groups m.pages k))).length = kd.length := by rw [share_len, List.length_map]
          generalize share (efF m b g) cls = fs1 at *
          generalize share (efF m b g - total cls) (kd.map fun k => usage m.groups m.pages k - Nat.min (claimOf b m.groups k) (usage m.groups m.pages k)) = fs2 at *
          have z1 : (kd.zip (fs1.zip fs2)).map (fun e => e.1) = kd := List.map_fst_zip (by rw [List.length_zip]; omega)
          have z23 : (kd.zip (fs1.zip fs2)).map (fun e => e.2) = fs1.zip fs2 := List.map_snd_zip (by rw [List.length_zip]; omega)
          have z2 : (kd.zip (fs1.zip fs2)).map (fun e => e.2.1) = fs1 := by
            have : (kd.zip (fs1.zip fs2)).map (fun e => e.2.1) = ((kd.zip (fs1.zip fs2)).map (fun e => e.2)).map (·.1) := by rw [List.map_map]; rfl
            rw [this, z23, List.map_fst_zip (by omega)]
          have z3 : (kd.zip (fs1.zip fs2)).map (fun e => e.2.2) = fs2 := by
            have : (kd.zip (fs1.zip fs2)).map (fun e => e.2.2) = ((kd.zip (fs1.zip fs2)).map (fun e => e.2)).map (·.2) := by rw [List.map_map]; rfl
            rw [this, z23, List.map_snd_zip (by omega)]
          have zlen : (kd.zip (fs1.zip fs2)).length = kd.length := by rw [List.length_zip, List.length_zip]; omega
          have c1 : ∀ H', H' ak = some (.lst (kd.map nV)) → SqL K H' ak ((kd.zip (fs1.zip fs2)).map fun e => nV e.1) := fun H' e => sq (by rw [e, conv_map z1])
          have c2 : ∀ H', H' af = some (.lst (fs1.map nV)) → SqL K H' af ((kd.zip (fs1.zip fs2)).map fun e => nV e.2.1) := fun H' e => sq (by rw [e, conv_map z2])
          have c3 : ∀ H', H' as = some (.lst (fs2.map nV)) → SqL K H' as ((kd.zip (fs1.zip fs2)).map fun e => nV e.2.2) := fun H' e => sq (by rw [e, conv_map z3])
          refine ⟨_, rfl, _, rfl, _, rfl, ak, af, as, _, _, _, rfl, sq hak10, sq haf10, sq has, ?_⟩
          refine for_goes (l := kd.zip (fs1.zip fs2)) (goes_zip3 (h := fun e => nV e.1) (k := fun e => nV e.2.1) (m := fun e => nV e.2.2)) (fun i σ H' => ∃ x7 x12 x13, σ = [some (.ref L.a), some (.bl b), some (.ref u), some (.ref d), some (.ref l), some (nV g), some (.ref ak), x7, some (.ref ac), some (.ref af), some (.ref ar), some (.ref as), x12, x13, x14] ∧
            Same H H' ∧ H' ak = some (.lst (kd.map nV)) ∧ H' af = some (.lst (fs1.map nV)) ∧ H' as = some (.lst (fs2.map nV)) ∧ H' u = some (.dK (usF m)) ∧ H' l = some (.lst (st.map nV)) ∧ H' d = some (.dK (kvF (ks ++ kd.take i) fun g => nV (efF m b g)))) ?_ ?_ ?_ ?_
          · exact ⟨_, _, _, rfl, st10, hak10, haf10, has, hu10, hl10, by rw [List.take_zero, List.append_nil]; exact hd10⟩
          · rintro i σ H' ⟨x7, x12, x13, rfl, _, h1, h2, h3, _⟩
            exact ⟨c1 _ h1, c2 _ h2, c3 _ h3⟩
          · rintro i e v σ H11 H11' hi ⟨x7, x12, x13, rfl, s11, h1, h2, h3, h4, h5, h6⟩ se ⟨t, rfl, ht⟩
            have hik : kd[i]? = some e.1 := by rw [← z1, List.getElem?_map, hi]; rfl
            have hi1 : fs1[i]? = some e.2.1 := by rw [← z2, List.getElem?_map, hi]; rfl
            have hi2 : fs2[i]? = some e.2.2 := by rw [← z3, List.getElem?_map, hi]; rfl
            have hef : e.2.1 + e.2.2 = efF m b e.1 := by
              have : (kd.map (efF m b))[i]? = some (e.2.1 + e.2.2) := by rw [← hsum, List.getElem?_zipWith, hi1, hi2]
              rw [List.getElem?_map, hik] at this
              exact (Option.some.inj this).symm
            have hkn : e.1 ∉ ks ++ kd.take i := fun hm => by
              rcases List.mem_append.mp hm with z | z
              · exact I.fresh (by rw [hks]; exact List.mem_of_getElem? hik) z
              · rw [List.mem_take_iff_getElem] at z
                obtain ⟨j, hj, ej⟩ := z
                obtain ⟨hi', e'⟩ := List.getElem?_eq_some_iff.mp hik
                have ndk : kd.Nodup := by rw [← hks]; exact kids_nodup m.groups g
                exact List.pairwise_iff_getElem.mp ndk j i (by omega) hi' (by omega) (by rw [ej, e'])
            have ndd : ∀ {c xs}, H11 c = some (.lst xs) → c ≠ d := fun h z => by rw [z, h6] at h; cases h
            refine ⟨t, _, rfl, .inl (.inl ht), rfl, _, _, rfl, _, _, rfl, _, _, rfl, rfl, ?_⟩
            refine ⟨_, rfl, _, rfl, _, _, rfl, rfl, _, rfl, _, rfl, _, _, rfl, dput_new (se _ _ h6) hkn (by rw [List.length_append, List.length_take]; omega), ?_⟩
            refine ⟨_, _, _, rfl, (s11.trans se).mut hd0, ?_, ?_, ?_, ?_, ?_, ?_⟩
            · rw [upd_ne (ndd h1)]; exact se _ _ h1
            · rw [upd_ne (ndd h2)]; exact se _ _ h2
            · rw [upd_ne (ndd h3)]; exact se _ _ h3
            · rw [upd_ne hud]; exact se _ _ h4
            · rw [upd_ne (ndd h5)]; exact se _ _ h5
            · rw [upd_same, take_snoc hik, ← List.append_assoc]
              congr 2
              refine kvF_congr fun z _ => ?_
              by_cases q : z = e.1
              · rw [if_pos q, q, ← hef]
                rfl
              · rw [if_neg q]
          · rintro σ H' ⟨x7, x12, x13, rfl, s11, h1, h2, h3, h4, h5, h6⟩
            rw [zlen, List.take_length] at h6
            refine ⟨_, rfl, .inl ⟨rfl, _, sq h5⟩, _, rfl, l, ak, _, _, rfl, rfl, h5, h1, by rw [List.length_map, List.length_map]; exact small_line (by omega), ?_⟩
            have I2 := I.step
            rw [hks] at I2
            have hks2 := I2.len hlen
            rw [List.length_append] at hks2
            refine ⟨2 * (40 - (ks ++ kd).length) + (st ++ kd).length, ?_, ks ++ kd, st ++ kd, _, _, _, _, _, _, _, _, _, _, rfl, rfl, s11.mut hl0, ?_, ?_, ?_, I2⟩
            · rw [List.length_append, List.length_append, List.length_append, List.length_singleton]
              omega
            · rw [upd_ne hul]; exact h4
            · rw [upd_ne hdl]; exact h6
            · rw [upd_same, List.map_append]
end Gm
end

section
set_option maxRecDepth 100000
set_option maxHeartbeats 8000000
/-! # The walks, part 5: hard, soft, what may be taken -/
namespace Gm
open PySem PySem.Spec PyProof.Rows L2 L2G GmM
open R7278g.Spec (live kids chain under usage share total floors giveRest eff takeable spareOf lower)
variable {P : Program} {w : World} {K : PySem.W.Frag} {mg : Str → Option Value} {base : Heap} {A : Ad} {f fI : Addr} {fd : FuncData}
def spProt (K : PySem.W.Frag) (A : Ad) (pf : SMem → Nat → Nat) : Sp := fun vs H Q _ => ∃ L m, vs = [.ref (Lay.a L)] ∧ MemAt K A H L m ∧ RetG m.groups H Q (pf m)
theorem ok_hard (F : Fun K "hard" "Memory.hard" s_Memory_hard f fd) (T : Txt K mg A) (h_Memory_handed_down : GM P w K mg base CX0 3 A.mem "handed_down" ["self", "is_second"] (spHanded K A)) : FnOk P w K mg base CX0 4 f fd ["self"] (spProt K A R7278g.Spec.Mem.hard) := by
  refine F.ok sc_Memory_hard (fun vs H Q E h => ?_) (fun cdv A' outer s H vs Q E hr h => ⟨_, (pss_one (ps_ret (pe_gm h_Memory_handed_down T.c_mem (hr.mono (by decide)) pass0 (L2.pv 0) (pa_cons pe_bl pa_nil)))), ?_⟩)
  · obtain ⟨L, m, rfl, _⟩ := h
    rfl
  · obtain ⟨L, m, rfl, M, q⟩ := h
    exact ⟨_, rfl, M.meth (by decide +kernel) ⟨L, m, false, rfl, M, q⟩⟩
theorem ok_soft (F : Fun K "soft" "Memory.soft" s_Memory_soft f fd) (T : Txt K mg A) (h_Memory_handed_down : GM P w K mg base CX0 3 A.mem "handed_down" ["self", "is_second"] (spHanded K A))
    (h_Memory_hard : GM P w K mg base CX0 4 A.mem "hard" ["self"] (spProt K A R7278g.Spec.Mem.hard)) : FnOk P w K mg base CX0 5 f fd ["self"] (spProt K A R7278g.Spec.Mem.soft) := by
  refine F.ok sc_Memory_soft (fun vs H Q E h => ?_) (fun cdv A' outer s H vs Q E hr h => ⟨_, (pss_cons (ps_asg (pe_tup (pa_cons (pe_gm0 h_Memory_hard T.c_mem (hr.mono (by decide)) pass0 (L2.pv 0)) (pa_cons (pe_gm h_Memory_handed_down T.c_mem (hr.mono (by decide)) pass0 (L2.pv 0) (pa_cons pe_bl pa_nil)) pa_nil))) (pg_tup rfl (pgs_cons (pg_name (i := 1) sc_Memory_soft.nd rfl (Or.inr rfl)) (pgs_cons (pg_name (i := 2) sc_Memory_soft.nd rfl (Or.inr rfl)) pgs_nil))))
      (pss_one (ps_ret (pe_callTy (call_dictP rfl) (by rfl) T.b_dict PyProof.Rows.boot_dict (pa_cons (pe_lock (pe_lc (own := [("number", 3)]) (g := (gName 3)) (tt := tYes) (te := (tTup (tCons (tVar 3) (tCons (tCB _ (tCons (tDGet (tVar 1) (tVar 3)) (tCons (tDGet (tVar 2) (tVar 3)) tNil))) tNil)))) rfl sc_Memory_soft.nd (pi_keys (L2.pv 1)) (blkOk_by (N := N_Memory_soft) (sc := defScope s_Memory_soft) (by decide +kernel)) (fun _ _ _ _ _ => (pg_name (i := 3) sc_Memory_soft.nd rfl (Or.inl rfl))) (fun _ _ _ _ _ => pts_nil) (fun _ _ _ _ _ => (pe_tup (pa_cons (L2.pv 3) (pa_cons (pe_callB (call_max2 rfl) (by rfl) T.b_max PyProof.Rows.boot_max (pa_cons (pe_dget (hu_of hr) (L2.pv 1) (L2.pv 3) (fun _ _ => rfl)) (pa_cons (pe_dget (hu_of hr) (L2.pv 2) (L2.pv 3) (fun _ _ => rfl)) pa_nil))) pa_nil)))))) pa_nil))))), ?_⟩)
  · obtain ⟨L, m, rfl, _⟩ := h
    rfl
  · obtain ⟨L, m, rfl, M, q⟩ := h
    have hlen := M.wf.g.len
    refine ⟨_, rfl, M.meth (by decide +kernel) ⟨L, m, rfl, M, fun ks a H1 nd1 k1 s1 ha0 ha => ?_⟩⟩
    have M1 := M.mono s1
    refine ⟨_, rfl, M1.meth (by decide +kernel) ⟨L, m, true, rfl, M1, fun ks2 b H2 nd2 k2 s2 hb0 hb => ?_⟩⟩
    refine ⟨by show 2 ≤ sizeLine; decide, fun t ht => ?_⟩
    refine ⟨t, _, rfl, .inl (.inl upd_same), rfl, _, _, rfl, _, _, rfl, rfl, ?_⟩
    have hkl : ks.length ≤ 40 := by
      have := nodup_le m.groups.length ks nd1 fun x hx => live_lt ((k1 x).mpr hx)
      omega
    have ha2 : (upd H2 t (.tup [.ref a, .ref b])) a = some (.dK (kvF ks fun g => nV (m.hard g))) := (Same.new ht) _ _ (s2 _ _ ha)
    have hb2 : (upd H2 t (.tup [.ref a, .ref b])) b = some (.dK (kvF ks2 fun g => nV (efF m true g))) := (Same.new ht) _ _ hb
    have s3 : Same H (upd H2 t (.tup [.ref a, .ref b])) := (s1.trans s2).trans (Same.new ht)
    generalize (upd H2 t (.tup [.ref a, .ref b])) = H3 at *
    have hba : b ≠ a := fun z => by
      have := s1.trans s2
      rw [z] at hb0
      rw [hb0] at ha
      cases ha
    refine ⟨a, _, ha2, trivial, fun od => ?_⟩
    refine ⟨_, rfl, a, od, rfl, .inl ⟨_, upd_same, fun D hD => ?_⟩⟩
    have hD0 : H3 D = none := (lock_free ha2).mp hD
    refine lc_goes (goes_keys (l := ks)) hD (fun H' e => e _ _ upd_same) (fun _ => true) (PrR fun g => nV (m.soft g)) prR_mono (by omega) (fun i g x H4 hg s4 hx N Y h1 h2 => ?_) (fun H' ys s' e hp => ?_)
    · subst hx
      have hgk := List.mem_of_getElem? hg
      have hg2 : g ∈ ks2 := (k2 g).mp ((k1 g).mpr hgk)
      refine ⟨rfl, yes ⟨_, rfl, _, rfl, _, rfl, _, _, rfl, dget_in (.inr ⟨od, s4 _ _ upd_same⟩) hgk, _, rfl, _, rfl, _, _, rfl, dget_in (.inl (s4 _ _ (by rw [upd_ne hba]; exact hb2))) hg2, _, _, rfl, ?_⟩⟩
      rw [max_nV]
      exact ⟨by show 2 ≤ sizeLine; decide, fun t ht => h2 rfl _ _ (Same.new ht) ⟨t, rfl, upd_same⟩⟩
    · refine ⟨s' _ _ upd_same, ?_⟩
      rw [filter_all] at hp
      have s5 := unlock_same ha2 s'
      have hDa : D ≠ a := fun z => by rw [z, ha2] at hD0; cases hD0
      obtain ⟨ts, e1, e2⟩ := paired_refs (q := fun t kv => SqT K (upd H' a (.dK (kvF ks fun g => nV (m.hard g)))) t [kV kv.1, kv.2]) (fv := fun g => nV (m.soft g)) (fun g y ⟨t, e1, e2⟩ => ⟨t, e1, .inl (.inl (by
        rw [upd_ne fun z => by
          rw [z, s' _ _ upd_same] at e2
          cases e2]
        exact e2))⟩) hp
      refine ⟨D, ts, _, rfl, sq (by rw [upd_ne hDa, e, e1]), e2, fun d hd => ?_⟩
      rw [kvF_merge nd1]
      exact q ks d _ nd1 k1 ((s3.trans s5).trans (Same.new hd)) (s3.free (s5.free hd)) upd_same

theorem lock_mono {H H2 : Hp} {L : Lay} {m : SMem} {od : Obj} (s : Same H H2) : Same (lockd H L m od) (lockd H2 L m od) := fun b o e => by
  by_cases q : b = L.ag
  · subst q
    rw [show (lockd H L m od) L.ag = _ from upd_same] at e
    rw [← e]
    exact upd_same
  · have e1 : (lockd H L m od) b = H b := upd_ne q
    have e2 : (lockd H2 L m od) b = H2 b := upd_ne q
    rw [e2]
    rw [e1] at e
    exact s b o e
theorem lockd_ne {H : Hp} {L : Lay} {m : SMem} {od : Obj} {b : Addr} (q : b ≠ L.ag) : (lockd H L m od) b = H b := upd_ne q
theorem lockd_same {H : Hp} {L : Lay} {m : SMem} {od : Obj} : (lockd H L m od) L.ag = some (.frz od (grps L m)) := upd_same
/-- a dict of numbers is not the groups' dict -/
theorem MemAt.num_ne {H : Hp} {L : Lay} {m : SMem} (M : MemAt K A H L m) {a : Addr} {ks : List Nat} {fv : Nat → Int} (ha : H a = some (.dK (kvF ks fun g => .int (fv g)))) : a ≠ L.ag := fun z => by
  rw [z, M.own] at ha
  have h1 : kvF (liveL m.groups) (fun g => V.ref (L.ga g)) = kvF ks fun g => .int (fv g) := by
    have := Option.some.inj ha
    injection this
  have h2 := congrArg (fun l => valV l (iK 0)) h1
  have h3 : valV (kvF (liveL m.groups) fun g => V.ref (L.ga g)) (iK 0) = some (.ref (L.ga 0)) := kvF_in (mem_liveL.mpr M.wf.g.root)
  have h2 : valV (kvF (liveL m.groups) fun g => V.ref (L.ga g)) (iK 0) = valV (kvF ks fun g => .int (fv g)) (iK 0) := h2
  rw [h3] at h2
  by_cases hk : 0 ∈ ks
  · rw [kvF_in hk] at h2
    cases h2
  · rw [kvF_out hk] at h2
    cases h2
/-! ### may_be_taken -/
def spMay (K : PySem.W.Frag) (A : Ad) : Sp := fun vs H Q _ => ∃ (L : Lay) (m : SMem) (a : Addr) (ks : List Nat) (pf : Nat → Nat), vs = [.ref (Lay.a L), .ref a] ∧ MemAt K A H L m ∧ H a = some (.dK (kvF ks fun g => nV (pf g))) ∧ (∀ g, live m.groups g = true → g ∈ ks) ∧ RetL H Q (pgRefs L (m.mayTake pf))
def leftI (m : SMem) (pf : Nat → Nat) (g : Nat) : Int := if kids m.groups g = [] then (usage m.groups m.pages g : Int) - (pf g : Int) else 0
theorem stS_plain {s : R7278g.Spec.State} : decide (V.str (stS s) = V.str "plain") = s.isPlain := by
  cases s <;> decide +kernel
theorem ok_may_be_taken (F : Fun K "may_be_taken" "Memory.may_be_taken" s_Memory_may_be_taken f fd) (T : Txt K mg A) (h_Memory_usages : GM P w K mg base CX0 2 A.mem "usages" ["self"] (spUsages K A)) (h_Memory_kids : GM P w K mg base CX0 1 A.mem "kids" ["self", "number"] (spKids K A)) :
    FnOk P w K mg base CX0 3 f fd ["self", "protections"] (spMay K A) := by
  refine F.ok sc_Memory_may_be_taken (fun vs H Q E h => ?_) (fun cdv A' outer s H vs Q E hr h => ⟨_, (pss_cons (ps_par (i := 2) (j := 3) rfl sc_Memory_may_be_taken.nd rfl rfl (by decide) rfl rfl (pa_cons (pe_gm0 h_Memory_usages T.c_mem (hr.mono (by decide)) pass0 (L2.pv 0)) (pa_cons pe_dnewK pa_nil)) (by rfl))
      (pss_cons (ps_lock (ps_for PassesOwn.never rfl (pi_keys (pe_fld (L2.pv 0) rfl)) (pg_name (i := 4) sc_Memory_may_be_taken.nd rfl (Or.inl rfl)) (pss_one (ps_dput (hu_of hr) (L2.pv 3) (L2.pv 4) (pe_ifExp (pt_cmpR op_eq (pe_callB call_len_seq (by rfl) T.b_len PySem.boot_len (pa_cons (pe_gm h_Memory_kids T.c_mem (hr.mono (by decide)) pass0 (L2.pv 0) (pa_cons (L2.pv 4) pa_nil)) pa_nil)) pe_int (nomark _)) (pe_op op_sub (pe_dget (hu_of hr) (L2.pv 2) (L2.pv 4) (fun _ _ => rfl)) (pe_dget (hu_of hr) (L2.pv 1) (L2.pv 4) (fun _ _ => rfl))) pe_int) rfl))))
      (pss_cons (ps_set (i := 5) sc_Memory_may_be_taken.nd rfl (Or.inl rfl) (pe_lst pa_nil))
      (pss_cons (ps_for PassesOwn.never rfl (pi_list (pe_fld (L2.pv 0) rfl)) (pg_name (i := 6) sc_Memory_may_be_taken.nd rfl (Or.inl rfl)) (pss_one (ps_if (pw_and (pt_cmpR op_eq (pe_fld (L2.pv 6) rfl) (pe_gl T.g_PLAIN_memories) (nomark _)) (pw_and1 (pt_cmpR op_gt (pe_dget (hu_of hr) (L2.pv 3) (pe_fld (L2.pv 6) rfl) (fun _ _ => rfl)) pe_int (nomark _)))).pt (pss_cons (ps_daug (hu_of hr) (L2.pv 3) (pe_fld (L2.pv 6) rfl) pe_int in_sub (fun _ _ _ => rfl))
      (pss_one (ps_expr (pe_bm PySem.F.plainAttrs_list PySem.F.slot_list_append PySem.F.type_list_append mt_append (L2.pv 5) (pa_cons (L2.pv 6) pa_nil))))) pss_nil)))
      (pss_one (ps_ret (L2.pv 5))))))), ?_⟩)
  · obtain ⟨L, m, a, ks, pf, rfl, _⟩ := h
    rfl
  · obtain ⟨L, m, a, ks, pf, rfl, M, ha, hks, q⟩ := h
    have hlen := M.wf.g.len
    have hll := liveL_len m.groups
    refine ⟨_, rfl, M.meth (by decide +kernel) ⟨L, m, rfl, M, fun u H1 s1 hu0 hu => ?_⟩⟩
    intro d hd
    refine ⟨_, _, rfl, ?_⟩
    have hd0 := s1.free hd
    have hud : u ≠ d := fun z => by rw [z, hd] at hu; cases hu
    have s2 : Same H (upd H1 d (.dK [])) := s1.trans (Same.new hd)
    have hu2 : (upd H1 d (.dK [])) u = some (.dK (usF m)) := by rw [upd_ne hud]; exact hu
    have hd2 : (upd H1 d (.dK [])) d = some (.dK []) := upd_same
    generalize (upd H1 d (.dK [])) = H2 at *
    have M2 := M.mono s2
    have hag : d ≠ L.ag := fun z => by rw [z, M.own] at hd0; cases hd0
    have hug : u ≠ L.ag := fun z => by rw [z, M.own] at hu0; cases hu0
    have haa : a ≠ L.ag := M.num_ne ha
    refine ⟨_, _, M2.own, trivial, fun od => ?_⟩
    have Ml := M.lock od
    have s3 : Same (lockd H L m od) (lockd H2 L m od) := lock_mono s2
    have hld : (lockd H L m od) d = none := by rw [lockd_ne hag]; exact hd0
    refine ⟨_, rfl, (Ml.mono s3).f_groups T ?_⟩
    refine ⟨_, od, rfl, .inl ⟨_, upd_same, ?_⟩⟩
    refine for_goes (goes_keys (l := liveL m.groups)) (fun i σ H' => ∃ x4 x5 x6, σ = [some (.ref L.a), some (.ref a), some (.ref u), some (.ref d), x4, x5, x6] ∧ Same (lockd H L m od) H' ∧ H' u = some (.dK (usF m)) ∧
      H' d = some (.dK (kvF ((liveL m.groups).take i) fun g => .int (leftI m pf g)))) ?_ ?_ ?_ ?_
    · exact ⟨_, _, _, rfl, s3, (lockd_ne hug).trans hu2, (lockd_ne hag).trans hd2⟩
    · rintro i σ H' ⟨x4, x5, x6, rfl, k, _⟩
      exact k _ _ lockd_same
    · rintro i g v σ H3 H3' hi ⟨x4, x5, x6, rfl, k, hu3, hd3⟩ se hv
      subst hv
      have hgl := List.mem_of_getElem? hi
      have lg := M.lv hgl
      have k3 := k.trans se
      have M3 := Ml.mono k3
      have ha3 : H3' a = some (.dK (kvF ks fun g => nV (pf g))) := k3 _ _ (by rw [lockd_ne haa]; exact ha)
      have hn : g ∉ (liveL m.groups).take i := fun hm => by
        rw [List.mem_take_iff_getElem] at hm
        obtain ⟨j, hj, e⟩ := hm
        obtain ⟨hi', e'⟩ := List.getElem?_eq_some_iff.mp hi
        exact List.pairwise_iff_getElem.mp (liveL_nodup m.groups) j i (by omega) hi' (by omega) (by rw [e, e'])
      refine ⟨_, rfl, M3.meth (by decide +kernel) ⟨_, rfl, L, m, g, rfl, M3, fun b H4 s4 hb0 hb => ?_⟩⟩
      refine ⟨b, _, rfl, .inl (sq hb), rfl, _, rfl, ?_⟩
      have hd4 := s4 _ _ (se _ _ hd3)
      have hu4 := s4 _ _ (se _ _ hu3)
      -- what is stored
      have fin : ∀ z : V, z = V.int (leftI m pf g) → (fun v H1 => tVar 3 [some (.ref L.a), some (.ref a), some (.ref u), some (.ref d), some (nV g), x5, x6] H1 fun x H2 => tVar 4 [some (.ref L.a), some (.ref a), some (.ref u), some (.ref d), some (nV g), x5, x6] H2 fun y H3 =>
          ∃ a' H5, x = V.ref a' ∧ DPut H3 a' y v H5 ∧ ∃ x4 x5' x6', [some (.ref L.a), some (.ref a), some (.ref u), some (.ref d), some (nV g), x5, x6] = [some (.ref L.a), some (.ref a), some (.ref u), some (.ref d), x4, x5', x6'] ∧ Same (lockd H L m od) H5 ∧ H5 u = some (.dK (usF m)) ∧
            H5 d = some (.dK (kvF ((liveL m.groups).take (i + 1)) fun g => .int (leftI m pf g)))) z H4 := by
        rintro z rfl
        refine ⟨_, rfl, _, rfl, _, _, rfl, dput_new hd4 hn (by rw [List.length_take]; omega), _, _, _, rfl, (k3.trans s4).mut hld, ?_, ?_⟩
        · rw [upd_ne hud]
          exact hu4
        · rw [upd_same, take_snoc hi]
          congr 2
          refine kvF_congr fun z _ => ?_
          by_cases e : z = g
          · rw [if_pos e, e]
          · rw [if_neg e]
      by_cases hkd : kids m.groups g = []
      · rw [hkd]
        refine iteT ⟨_, rfl, _, rfl, _, _, rfl, dget_in (.inl hu4) hgl, _, rfl, _, rfl, _, _, rfl, dget_in (.inl (s4 _ _ ha3)) (hks g lg), _, _, rfl, rfl, ?_⟩
        refine fin _ ?_
        unfold leftI
        rw [if_pos hkd]
      · have e : decide (V.int ((((kids m.groups g).map nV).length : Nat) : Int) = V.int 0) = false := by
          rw [List.length_map]
          refine Eq.trans (@dec_nV (kids m.groups g).length 0) (decide_eq_false fun z => ?_)
          exact hkd (List.eq_nil_of_length_eq_zero z)
        rw [e]
        refine iteF (fin _ ?_)
        unfold leftI
        rw [if_neg hkd]
    · rintro σ H' ⟨x4, x5, x6, rfl, k, hu3, hd3⟩
      rw [List.take_length] at hd3
      refine ⟨k _ _ lockd_same, ?_⟩
      have s5 := unlock_same M.own k
      have hd5 : (upd H' L.ag (grps L m)) d = some (.dK (kvF (liveL m.groups) fun g => .int (leftI m pf g))) := by rw [upd_ne hag]; exact hd3
      generalize (upd H' L.ag (grps L m)) = H5 at *
      have M5 := M.mono s5
      refine ⟨Nat.zero_le _, fun l hl => ?_⟩
      have hl0 := s5.free hl
      have hdl : d ≠ l := fun z => by rw [z, hl] at hd5; cases hd5
      have s6 : Same H (upd H5 l (.lst [])) := s5.trans (Same.new hl)
      refine ⟨_, rfl, (M.mono s6).f_rows T ?_⟩
      refine ⟨_, rfl, ⟨_, sq (s6 _ _ M.rows)⟩, ?_⟩
      refine for_goes (l := m.pages) (goes_list (h := fun p => V.ref (L.ra p.id))) (fun i σ H' => ∃ (x4 x6 : Option V) (qf : Nat → Int), σ = [some (.ref L.a), some (.ref a), some (.ref u), some (.ref d), x4, some (.ref l), x6] ∧ Same H H' ∧
        H' d = some (.dK (kvF (liveL m.groups) fun g => .int (qf g))) ∧ (∀ g, kids m.groups g = [] → (qf g).toNat = tkQ (spareOf m.groups m.pages pf) (m.pages.take i) g) ∧
        H' l = some (.lst (pgRefs L (takeable (spareOf m.groups m.pages pf) (m.pages.take i))))) ?_ ?_ ?_ ?_
      · refine ⟨_, _, leftI m pf, rfl, s6, by rw [upd_ne hdl]; exact hd5, fun g hg => ?_, upd_same⟩
        unfold leftI
        rw [if_pos hg]
        show _ = usage m.groups m.pages g - pf g
        omega
      · rintro i σ H' ⟨x4, x6, qf, rfl, s7, _⟩
        exact sq (s7 _ _ M.rows)
      · rintro i p v σ H6 H6' hi ⟨x4, x6, qf, rfl, s7, hd6, hq, hl6⟩ se hv
        subst hv
        have hpm := List.mem_of_getElem? hi
        have lp := M.pgl hpm
        have hleaf := (M.wf.leaf p hpm).2
        have s8 := s7.trans se
        have M8 := M.mono s8
        have hq1 := hq _ hleaf
        have hd7 := se _ _ hd6
        have hl7 := se _ _ hl6
        have htl := (takeable_sub (spareOf m.groups m.pages pf) (m.pages.take i)).length_le
        rw [List.length_take] at htl
        have hnp := M.wf.np
        have hK := take_snoc hi
        refine ⟨_, rfl, M8.p_state T hpm ?_⟩
        refine ⟨rfl, _, rfl, ?_⟩
        rw [stS_plain]
        have no : (p.state.isPlain && decide (0 < tkQ (spareOf m.groups m.pages pf) (m.pages.take i) p.group)) = false → ∃ (x4' x6' : Option V) (qf' : Nat → Int), [some (.ref L.a), some (.ref a), some (.ref u), some (.ref d), x4, some (.ref l), some (.ref (L.ra p.id))] = [some (.ref L.a), some (.ref a), some (.ref u), some (.ref d), x4', some (.ref l), x6'] ∧ Same H H6' ∧
            H6' d = some (.dK (kvF (liveL m.groups) fun g => .int (qf' g))) ∧ (∀ g, kids m.groups g = [] → (qf' g).toNat = tkQ (spareOf m.groups m.pages pf) (m.pages.take (i + 1)) g) ∧
            H6' l = some (.lst (pgRefs L (takeable (spareOf m.groups m.pages pf) (m.pages.take (i + 1))))) := fun hb => by
          refine ⟨_, _, qf, rfl, s8, hd7, fun g hg => ?_, ?_⟩
          · rw [hK, tkQ_snoc, if_neg (by rw [hb]; decide)]
            exact hq g hg
          · rw [hK, takeable_snoc, if_neg (by rw [hb]; decide), List.append_nil]
            exact hl7
        cases hpl : p.state.isPlain with
        | false => exact iteF (iteF (no (by rw [hpl]; rfl)))
        | true =>
          refine iteT ⟨_, rfl, _, rfl, M8.p_group T hpm ?_⟩
          refine ⟨_, _, rfl, dget_in (.inl hd7) (mem_liveL.mpr lp), _, _, rfl, rfl, _, rfl, ?_⟩
          by_cases hpos : 0 < qf p.group
          · rw [decide_eq_true hpos]
            have hb : (p.state.isPlain && decide (0 < tkQ (spareOf m.groups m.pages pf) (m.pages.take i) p.group)) = true := by
              rw [hpl, decide_eq_true (by omega)]
              rfl
            refine iteT ⟨_, rfl, _, rfl, M8.p_group T hpm ?_⟩
            refine ⟨_, _, rfl, dget_in (.inl hd7) (mem_liveL.mpr lp), _, _, rfl, rfl, _, dput_in hd7 (mem_liveL.mpr lp) (by omega), ?_⟩
            have hl8 : (upd H6' d (.dK (kvF (liveL m.groups) fun x => if x = p.group then V.int (qf p.group - 1) else V.int (qf x)))) l = some (.lst (pgRefs L (takeable (spareOf m.groups m.pages pf) (m.pages.take i)))) := by
              rw [upd_ne (Ne.symm hdl)]
              exact hl7
            refine ⟨_, rfl, .inl ⟨rfl, _, sq hl8⟩, _, rfl, l, _, _, rfl, rfl, hl8, by rw [List.length_map]; exact small_lt (by omega), ?_⟩
            refine ⟨_, _, fun x => if x = p.group then qf p.group - 1 else qf x, rfl, (s8.mut hd0).mut hl0, ?_, fun g hg => ?_, ?_⟩
            · rw [upd_ne hdl, upd_same]
              congr 2
              refine kvF_congr fun z _ => ?_
              dsimp only
              by_cases e : z = p.group
              · rw [if_pos e, if_pos e]
              · rw [if_neg e, if_neg e]
            · rw [hK, tkQ_snoc, if_pos hb]
              unfold lower
              dsimp only
              by_cases e : g = p.group
              · rw [if_pos e, if_pos e, e]
                omega
              · rw [if_neg e, if_neg e]
                exact hq g hg
            · rw [upd_same, hK, takeable_snoc, if_pos hb]
              unfold pgRefs
              rw [List.map_append]
              rfl
          · rw [decide_eq_false hpos]
            refine iteF (no ?_)
            rw [hpl, decide_eq_false (by omega)]
            rfl
      · rintro σ H' ⟨x4, x6, qf, rfl, s7, _, _, hl7⟩
        rw [List.take_length] at hl7
        exact ⟨_, rfl, q _ _ s7 hl0 hl7⟩
end Gm
end

section
set_option maxRecDepth 100000
set_option maxHeartbeats 8000000
/-! # The walks, part 6: what is chosen -/
namespace Gm
open PySem PySem.Spec PyProof.Rows L2 L2G GmM
open R7278g.Spec (live kids chain under usage share total floors giveRest eff takeable spareOf lower freed enough spare choose)
variable {P : Program} {w : World} {K : PySem.W.Frag} {mg : Str → Option Value} {base : Heap} {A : Ad} {f fI : Addr} {fd : FuncData}
def RetO (H : Hp) (Q : VK) (L : Lay) : Option (List SPage) → Prop
  | none => ∀ H', Same H H' → Q .non H'
  | some r => RetL H Q (pgRefs L r)
theorem RetO.mono {H H' : Hp} {Q : VK} {L : Lay} {o : Option (List SPage)} (r : RetO H Q L o) (e : Same H H') : RetO H' Q L o := by
  cases o with
  | none => exact fun H2 e2 => r H2 (e.trans e2)
  | some l => exact RetL.mono r e
abbrev needL (nl : List Nat) (nf : Nat → Nat) : R7278g.Spec.Needs := nl.map fun a => (a, nf a)
def spChosen (K : PySem.W.Frag) (A : Ad) : Sp := fun vs H Q _ => ∃ (L : Lay) (m : SMem) (lp dn : Addr) (ps : List SPage) (nl : List Nat) (nf : Nat → Nat), vs = [.ref L.a, .ref lp, .ref dn] ∧ MemAt K A H L m ∧ H lp = some (.lst (pgRefs L ps)) ∧ (∀ p ∈ ps, p ∈ m.pages) ∧ ps.length ≤ 2000 ∧
  H dn = some (.dK (kvF nl fun a => nV (nf a))) ∧ nl.Nodup ∧ nl.length ≤ 40 ∧ RetO H Q L (choose m.groups (needL nl nf) ps)
theorem cnt_down {l : List Nat} {j g : Nat} (nd : l.Nodup) (h : l[j]? = some g) (c : Nat → Int) (x : Nat) :
    (if x = g then (c g - if g ∈ l.take j then 1 else 0) - 1 else c x - if x ∈ l.take j then 1 else 0) = c x - if x ∈ l.take (j + 1) then 1 else 0 := by
  have hn : g ∉ l.take j := fun hm => by
    rw [List.mem_take_iff_getElem] at hm
    obtain ⟨i, hi, e⟩ := hm
    obtain ⟨hj, h2⟩ := List.getElem?_eq_some_iff.mp h
    exact List.pairwise_iff_getElem.mp nd i j (by omega) hj (by omega) (by rw [e, h2])
  rw [take_snoc h]
  by_cases e : x = g
  · subst e
    rw [if_pos rfl, if_neg hn, if_pos (List.mem_append_right _ (List.mem_singleton.mpr rfl))]
    omega
  · rw [if_neg e]
    simp [e]
theorem ok_chosen (F0 : Fun K "chosen" "Memory.chosen" s_Memory_chosen f fd) (T : Txt K mg A) (h_Memory_above : GM P w K mg base CX0 1 A.mem "above" ["self", "number"] (spAbove K A)) :
    FnOk P w K mg base CX0 2 f fd ["self", "pages", "needs"] (spChosen K A) := by
  refine F0.ok sc_Memory_chosen (fun vs H Q E h => ?_) (fun cdv A' outer s H vs Q E hr h => ⟨_, (pss_cons (ps_asg (pe_tup (pa_cons (pe_callTy (call_dictP rfl) (by rfl) T.b_dict PyProof.Rows.boot_dict (pa_cons (pe_lock (pe_lc (own := [("number", 3)]) (g := (gName 3)) (tt := tYes) (te := (tTup (tCons (tVar 3) (tCons _ tNil)))) rfl sc_Memory_chosen.nd (pi_keys (L2.pv 2)) (blkOk_by (N := N_Memory_chosen) (sc := defScope s_Memory_chosen) (by decide +kernel)) (fun _ _ _ _ _ => (pg_name (i := 3) sc_Memory_chosen.nd rfl (Or.inl rfl))) (fun _ _ _ _ _ => pts_nil) (fun _ _ _ _ _ => (pe_tup (pa_cons (L2.pv 3) (pa_cons pe_int pa_nil)))))) pa_nil)) (pa_cons pe_dnewK pa_nil))) (pg_tup rfl (pgs_cons (pg_name (i := 4) sc_Memory_chosen.nd rfl (Or.inr rfl)) (pgs_cons (pg_name (i := 5) sc_Memory_chosen.nd rfl (Or.inl rfl)) pgs_nil))))
      (pss_cons (ps_for PassesOwn.never rfl (pi_list (L2.pv 1)) (pg_name (i := 6) sc_Memory_chosen.nd rfl (Or.inl rfl)) (pss_cons (ps_if (pt_cmp (pc_dnotin (hu_of hr) (pe_fld (L2.pv 6) rfl) (L2.pv 5))) (pss_one (ps_dput (hu_of hr) (L2.pv 5) (pe_fld (L2.pv 6) rfl) (pe_lc (own := [("number", 3)]) (g := (gName 3)) (tt := (tB (tDIn (tVar 3) (tVar 2)))) (te := (tVar 3)) rfl sc_Memory_chosen.nd (pi_list (pe_gm h_Memory_above T.c_mem (hr.mono (by decide)) pass0 (L2.pv 0) (pa_cons (pe_fld (L2.pv 6) rfl) pa_nil))) (blkOk_by (N := N_Memory_chosen) (sc := defScope s_Memory_chosen) (by decide +kernel)) (fun _ _ _ _ _ => (pg_name (i := 3) sc_Memory_chosen.nd rfl (Or.inl rfl))) (fun _ _ _ _ _ => (pts_one (pt_cmp (pc_din (hu_of hr) (L2.pv 3) (L2.pv 2))))) (fun _ _ _ _ _ => (L2.pv 3))) rfl)) pss_nil)
      (pss_one (ps_for PassesOwn.never rfl (pi_list (pe_dget (hu_of hr) (L2.pv 5) (pe_fld (L2.pv 6) rfl) (fun _ _ => rfl))) (pg_name (i := 3) sc_Memory_chosen.nd rfl (Or.inl rfl)) (pss_one (ps_daug (hu_of hr) (L2.pv 4) (L2.pv 3) pe_int in_add (fun _ _ _ => rfl)))))))
      (pss_cons (ps_if (pt_val (pe_callB (cr_any rfl) (by rfl) T.b_any PyProof.Rows.boot_any (pa_cons (pe_lock (pe_lc (own := [("number", 3)]) (g := (gName 3)) (tt := tYes) (te := (tOp _ (tDGet (tVar 4) (tVar 3)) (tDGet (tVar 2) (tVar 3)))) rfl sc_Memory_chosen.nd (pi_keys (L2.pv 2)) (blkOk_by (N := N_Memory_chosen) (sc := defScope s_Memory_chosen) (by decide +kernel)) (fun _ _ _ _ _ => (pg_name (i := 3) sc_Memory_chosen.nd rfl (Or.inl rfl))) (fun _ _ _ _ _ => pts_nil) (fun _ _ _ _ _ => (pe_cmpR op_lt (pe_dget (hu_of hr) (L2.pv 4) (L2.pv 3) (fun _ _ => rfl)) (pe_dget (hu_of hr) (L2.pv 2) (L2.pv 3) (fun _ _ => rfl)) (nomark _))))) pa_nil))) (pss_one (ps_ret pe_non)) pss_nil)
      (pss_cons (ps_set (i := 7) sc_Memory_chosen.nd rfl (Or.inl rfl) (pe_lst pa_nil))
      (pss_cons (ps_for PassesOwn.never rfl (pi_list (pe_revL (L2.pv 1))) (pg_name (i := 6) sc_Memory_chosen.nd rfl (Or.inl rfl)) (pss_one (ps_if (pt_val (pe_callB (cr_all rfl) (by rfl) T.b_all PyProof.Rows.boot_all (pa_cons (pe_lc (own := [("number", 3)]) (g := (gName 3)) (tt := tYes) (te := (tOp _ (tDGet (tVar 4) (tVar 3)) (tDGet (tVar 2) (tVar 3)))) rfl sc_Memory_chosen.nd (pi_list (pe_dget (hu_of hr) (L2.pv 5) (pe_fld (L2.pv 6) rfl) (fun _ _ => rfl))) (blkOk_by (N := N_Memory_chosen) (sc := defScope s_Memory_chosen) (by decide +kernel)) (fun _ _ _ _ _ => (pg_name (i := 3) sc_Memory_chosen.nd rfl (Or.inl rfl))) (fun _ _ _ _ _ => pts_nil) (fun _ _ _ _ _ => (pe_cmpR op_gt (pe_dget (hu_of hr) (L2.pv 4) (L2.pv 3) (fun _ _ => rfl)) (pe_dget (hu_of hr) (L2.pv 2) (L2.pv 3) (fun _ _ => rfl)) (nomark _)))) pa_nil))) (pss_one (ps_for PassesOwn.never rfl (pi_list (pe_dget (hu_of hr) (L2.pv 5) (pe_fld (L2.pv 6) rfl) (fun _ _ => rfl))) (pg_name (i := 3) sc_Memory_chosen.nd rfl (Or.inl rfl)) (pss_one (ps_daug (hu_of hr) (L2.pv 4) (L2.pv 3) pe_int in_sub (fun _ _ _ => rfl))))) (pss_one (ps_expr (pe_bm PySem.F.plainAttrs_list PySem.F.slot_list_append PySem.F.type_list_append mt_append (L2.pv 7) (pa_cons (L2.pv 6) pa_nil)))))))
      (pss_one (ps_ret (pe_revL (L2.pv 7))))))))), ?_⟩)
  · obtain ⟨L, m, lp, dn, ps, nl, nf, rfl, _⟩ := h
    rfl
  · obtain ⟨L, m, lp, dn, ps, nl, nf, rfl, M, hlp, hps, hpl, hdn, hnd, hnl, q⟩ := h
    have hlen := M.wf.g.len
    let F : Nat → List Nat := fun g => (chain m.groups g).filter fun a => decide (a ∈ nl)
    have hFn : ∀ g a, a ∈ F g → a ∈ nl := fun g a h => of_decide_eq_true (List.mem_filter.mp h).2
    have hFc : ∀ g a, a ∈ nl → (a ∈ F g ↔ under m.groups a g = true) := fun g a ha => by
      rw [under_iff, List.mem_filter]
      exact ⟨fun h => h.1, fun h => ⟨h, decide_eq_true ha⟩⟩
    have hFd : ∀ g, live m.groups g = true → (F g).Nodup := fun g h => List.Pairwise.filter _ (M.wf.g.chain_nodup h)
    have hFl : ∀ g, live m.groups g = true → (F g).length ≤ 40 := fun g h => Nat.le_trans (List.length_filter_le _ _) (M.wf.g.chain_len h)
    refine ⟨dn, _, hdn, trivial, fun od => ?_⟩
    refine ⟨_, rfl, dn, od, rfl, .inl ⟨_, upd_same, fun D hD => ?_⟩⟩
    have hD0 : H D = none := (lock_free hdn).mp hD
    refine lc_goes (goes_keys (l := nl)) hD (fun H' e => e _ _ upd_same) (fun _ => true) (PrR fun _ => nV 0) prR_mono (by omega) (fun i g x H4 hg s4 hx N Y h1 h2 => ?_) (fun H' ys s' e hp => ?_)
    · subst hx
      exact ⟨rfl, yes ⟨_, rfl, by show 2 ≤ sizeLine; decide, fun t ht => h2 rfl _ _ (Same.new ht) ⟨t, rfl, upd_same⟩⟩⟩
    refine ⟨s' _ _ upd_same, ?_⟩
    rw [filter_all] at hp
    have s1 := unlock_same hdn s'
    have hDa : D ≠ dn := fun z => by rw [z, hdn] at hD0; cases hD0
    obtain ⟨ts, e1, e2⟩ := paired_refs (q := fun t kv => SqT K (upd H' dn (.dK (kvF nl fun a => nV (nf a)))) t [kV kv.1, kv.2]) (fv := fun g => nV 0) (fun g y ⟨t, e1, e2⟩ => ⟨t, e1, .inl (.inl (by
      rw [upd_ne fun z => by
        rw [z, s' _ _ upd_same] at e2
        cases e2]
      exact e2))⟩) hp
    refine ⟨D, ts, _, rfl, sq (by rw [upd_ne hDa, e, e1]), e2, fun c hc => ?_⟩
    rw [kvF_merge hnd]
    generalize (upd H' dn (.dK (kvF nl fun a => nV (nf a)))) = H1 at *
    have hc0 := s1.free hc
    intro wy hwy
    have hwy0 : H wy = none := s1.free ((Same.new hc).free hwy)
    have hcw : c ≠ wy := fun z => by rw [← z, upd_same] at hwy; cases hwy
    refine ⟨by show 2 ≤ sizeLine; decide, fun tt htt => ?_⟩
    refine ⟨tt, _, rfl, .inl (.inl upd_same), rfl, _, _, rfl, _, _, rfl, rfl, ?_⟩
    have s2 : Same H (upd (upd (upd H1 c (.dK (kvF nl fun _ => nV 0))) wy (.dK [])) tt (.tup [.ref c, .ref wy])) := ((s1.trans (Same.new hc)).trans (Same.new hwy)).trans (Same.new htt)
    have hc2 : (upd (upd (upd H1 c (.dK (kvF nl fun _ => nV 0))) wy (.dK [])) tt (.tup [.ref c, .ref wy])) c = some (.dK (kvF nl fun _ => nV 0)) := (Same.new htt) _ _ (by rw [upd_ne hcw, upd_same])
    have hw2 : (upd (upd (upd H1 c (.dK (kvF nl fun _ => nV 0))) wy (.dK [])) tt (.tup [.ref c, .ref wy])) wy = some (.dK []) := (Same.new htt) _ _ upd_same
    generalize (upd (upd (upd H1 c (.dK (kvF nl fun _ => nV 0))) wy (.dK [])) tt (.tup [.ref c, .ref wy])) = H2 at *
    clear s' e hp e2 hc hwy htt s1
    refine ⟨_, rfl, lp, rfl, ⟨_, sq (s2 _ _ hlp)⟩, for_goes (l := ps) (goes_list (h := fun p => V.ref (L.ra p.id))) (fun i σ H' => ∃ (x3 x6 x7 : Option V) (ks : List Nat) (wa : Nat → Addr), σ = [some (.ref L.a), some (.ref lp), some (.ref dn), x3, some (.ref c), some (.ref wy), x6, x7] ∧ Same H H' ∧
        H' c = some (.dK (kvF nl fun a => nV (freed m.groups a (ps.take i)))) ∧ WaysAt m.groups F H' wy ks wa ∧ ∀ p ∈ ps.take i, p.group ∈ ks) ?_ ?_ ?_ ?_⟩
    · exact ⟨none, none, none, [], fun _ => 0, rfl, s2, hc2, ⟨hw2, List.nodup_nil, (fun _ h => by cases h), (fun _ h => by cases h)⟩, (fun p hp => by cases hp)⟩
    · rintro i σ H' ⟨x3, x6, x7, ks, wa, rfl, s3, _⟩
      exact sq (s3 _ _ hlp)
    · rintro i p v σ H3 H3' hp ⟨x3, x6, x7, ks, wa, rfl, s3, hc3, W3, hks⟩ se hv
      subst hv
      have hpm := hps p (List.mem_of_getElem? hp)
      have s4 := s3.trans se
      have M4 := M.mono s4
      have lp' := M.pgl hpm
      have hc4 := se _ _ hc3
      have W4 := W3.mono se
      clear s3 hc3 W3
      have key : ∀ (D : Ends) {H5 ks wa}, (∀ σ' H'', (∃ (x3 x6 x7 : Option V) (ks : List Nat) (wa : Nat → Addr), σ' = [some (.ref L.a), some (.ref lp), some (.ref dn), x3, some (.ref c), some (.ref wy), x6, x7] ∧ Same H H'' ∧
          H'' c = some (.dK (kvF nl fun a => nV (freed m.groups a (ps.take (i + 1))))) ∧ WaysAt m.groups F H'' wy ks wa ∧ ∀ p ∈ ps.take (i + 1), p.group ∈ ks) → D.nx σ' H'') → Same H H5 → H5 c = some (.dK (kvF nl fun a => nV (freed m.groups a (ps.take i)))) → WaysAt m.groups F H5 wy ks wa →
          (∀ p ∈ ps.take i, p.group ∈ ks) → p.group ∈ ks →
          tFor (iList K (tDGet (tVar 5) (tFld K (tVar 6) "group"))) (gName 3) (sDAug (tVar 4) (tVar 3) (tC (V.int 1)) rAdd) D [some (.ref L.a), some (.ref lp), some (.ref dn), x3, some (.ref c), some (.ref wy), some (.ref (L.ra p.id)), x7] H5 := by
        intro D H5 ks wa hD s5 hc5 W5 hks5 hg
        have M5 := M.mono s5
        refine ⟨_, rfl, _, rfl, M5.p_group T hpm ?_⟩
        refine ⟨_, _, rfl, dget_in (.inl W5.dict) hg, ?_⟩
        refine ⟨_, rfl, ⟨_, sq (W5.way _ hg)⟩, for_goes (l := F p.group) (goes_list (h := nV)) (fun j σ H' => ∃ x3, σ = [some (.ref L.a), some (.ref lp), some (.ref dn), x3, some (.ref c), some (.ref wy), some (.ref (L.ra p.id)), x7] ∧ Same H H' ∧
          H' c = some (.dK (kvF nl fun g => nV (freed m.groups g (ps.take i) + if g ∈ (F p.group).take j then 1 else 0))) ∧ WaysAt m.groups F H' wy ks wa) ?_ ?_ ?_ ?_⟩
        · exact ⟨_, rfl, s5, hc5, W5⟩
        · rintro j σ H' ⟨x, rfl, _, _, W6⟩
          exact sq (W6.way _ hg)
        · rintro j g v σ H6 H6' hj ⟨x, rfl, s6, hc6, W6⟩ se6 hv
          subst hv
          have hgn := hFn _ _ (List.mem_of_getElem? hj)
          have hc7 := se6 _ _ hc6
          refine ⟨_, rfl, _, rfl, _, _, rfl, dget_in (.inl hc7) hgn, ?_⟩
          refine ⟨_, _, rfl, rfl, _, dput_in hc7 hgn (by omega), _, rfl, (s6.trans se6).mut hc0, ?_, (W6.mono se6).updD hc7 hcw⟩
          rw [upd_same]
          congr 2
          refine kvF_congr fun z _ => ?_
          rw [← cnt_step (hFd _ lp') hj (fun g => freed m.groups g (ps.take i)) z]
          by_cases e : z = g
          · rw [if_pos e, if_pos e]
            rfl
          · rw [if_neg e, if_neg e]
        · rintro σ H' ⟨x, rfl, s6, hc6, W6⟩
          refine hD _ _ ⟨_, _, _, _, _, rfl, s6, ?_, W6, fun p' hp' => ?_⟩
          · rw [hc6]
            congr 2
            refine kvF_congr fun z hz => ?_
            rw [take_snoc hp, freed_snoc, List.take_length]
            congr 2
            by_cases hu : under m.groups z p.group = true
            · rw [if_pos hu, if_pos ((hFc _ _ hz).mpr hu)]
            · rw [if_neg hu, if_neg fun h => hu ((hFc _ _ hz).mp h)]
          · rw [take_snoc hp] at hp'
            rcases List.mem_append.mp hp' with z | z
            · exact hks5 p' z
            · rw [List.mem_singleton.mp z]
              exact hg
      refine ⟨_, rfl, M4.p_group T hpm ?_⟩
      refine ⟨_, rfl, _, _, rfl, dget_rd (.inl W4.dict), _, rfl, ?_⟩
      rw [kvF_isSome]
      by_cases hin : p.group ∈ ks
      · rw [decide_eq_true hin]
        exact iteF (key _ (fun _ _ h => h) s4 hc4 W4 hks hin)
      · rw [decide_eq_false hin]
        refine iteT ⟨_, rfl, M4.meth (by decide +kernel) ⟨_, rfl, M4.p_group T hpm ⟨L, m, _, rfl, M4.toMemR, lp', fun b H5 s5 hb0 hb => ?_⟩⟩⟩
        refine ⟨b, rfl, ⟨_, sq hb⟩, fun D2 hD2 => ?_⟩
        refine lc_flat (l := chain m.groups p.group) (goes_list (h := nV)) hD2 (fun H' e => e.seq (sq hb)) (fun a => decide (a ∈ nl)) nV (by have := M.wf.g.chain_len lp'; omega) (fun i a x H6 ha s6 hx N Y h1 h2 => ?_) (fun H6 s6 e6 => ?_)
        · subst hx
          refine ⟨rfl, _, rfl, _, rfl, dn, _, rfl, dget_rd (.inl (((s4.trans s5).trans s6) _ _ hdn)), _, rfl, ?_⟩
          rw [kvF_isSome]
          exact iteB (fun e => ⟨_, rfl, h2 e _ (Same.refl _)⟩) (fun e => h1 e _ (Same.refl _))
        · have s7 := (s4.trans s5).trans s6
          have M5 := M.mono s7
          refine ⟨_, rfl, _, rfl, M5.p_group T hpm ?_⟩
          obtain ⟨H7, hput, W7, hk⟩ := (W4.mono (s5.trans s6)).put hin lp' e6 hlen
          refine ⟨_, _, rfl, hput, ?_⟩
          have s8 : Same H H7 := fun c o e => by
            rw [hk c fun z => by rw [z, hwy0] at e; cases e]
            exact s7 c o e
          exact key _ (fun _ _ h => h) s8 (by rw [hk c hcw]; exact (s5.trans s6) _ _ hc4) W7 (fun p' hp' => List.mem_append_left _ (hks p' hp')) (List.mem_append_right _ (List.mem_singleton.mpr rfl))
    · rintro σ H3 ⟨x3, x6, x7, ks, wa, rfl, s3, hc3, W3, hks⟩
      rw [List.take_length] at hc3 hks
      have hdn3 := s3 _ _ hdn
      have hcdn : c ≠ dn := fun z => by rw [z, hdn] at hc0; cases hc0
      have hneed : ∀ e ∈ needL nl nf, e.1 ∈ nl ∧ e.2 = nf e.1 := fun e he => by
        obtain ⟨a, ha, e'⟩ := List.mem_map.mp he
        rw [← e']
        exact ⟨ha, rfl⟩
      refine ⟨dn, _, hdn3, trivial, fun od2 => ?_⟩
      refine ⟨_, rfl, dn, od2, rfl, .inl ⟨_, upd_same, fun D2 hD2 => ?_⟩⟩
      have hD20 : H3 D2 = none := (lock_free hdn3).mp hD2
      refine lc_flat (goes_keys (l := nl)) hD2 (fun H' e => e _ _ upd_same) (fun _ => true) (fun a => .bl (decide ((freed m.groups a ps : Int) < (nf a : Int)))) (by omega) (fun i a x H4 ha s4 hx N Y h1 h2 => ?_) (fun H' s' e => ?_)
      · subst hx
        have han := List.mem_of_getElem? ha
        have hc4 : H4 c = some (.dK (kvF nl fun a => nV (freed m.groups a ps))) := s4 _ _ (by rw [upd_ne hcdn]; exact hc3)
        exact ⟨rfl, yes ⟨_, rfl, _, rfl, _, _, rfl, dget_in (.inl hc4) han, _, rfl, _, rfl, _, _, rfl, dget_in (.inr ⟨od2, s4 _ _ upd_same⟩) han, _, _, rfl, rfl, h2 rfl _ (Same.refl _)⟩⟩
      refine ⟨s' _ _ upd_same, ?_⟩
      rw [filter_all] at e
      have s4 := unlock_same hdn3 s'
      have hD2a : D2 ≠ dn := fun z => by rw [z, hdn3] at hD20; cases hD20
      refine ⟨D2, nl.map fun a => decide ((freed m.groups a ps : Int) < (nf a : Int)), rfl, sq (by rw [upd_ne hD2a, e, List.map_map]; rfl), ?_⟩
      generalize (upd H' dn (.dK (kvF nl fun a => nV (nf a)))) = H4 at *
      have hany : (nl.map fun a => decide ((freed m.groups a ps : Int) < (nf a : Int))).any id = !enough m.groups (needL nl nf) ps := by
        rw [List.any_map]
        cases he : enough m.groups (needL nl nf) ps with
        | true =>
          rw [enough_iff] at he
          show _ = false
          rw [List.any_eq_false]
          intro a ha hd
          have h1 : freed m.groups a ps < nf a := by
            have := of_decide_eq_true (show decide ((freed m.groups a ps : Int) < (nf a : Int)) = true from hd)
            omega
          have h2 := he (a, nf a) (List.mem_map.mpr ⟨a, ha, rfl⟩)
          exact absurd h1 (Nat.not_lt.mpr h2)
        | false =>
          show _ = true
          rw [List.any_eq_true]
          have : ¬ ∀ e ∈ needL nl nf, e.2 ≤ freed m.groups e.1 ps := fun h => by
            rw [enough_iff.mpr h] at he
            cases he
          have ⟨e, h⟩ := Classical.not_forall.mp this
          obtain ⟨he', hlt⟩ := Classical.not_imp.mp h
          obtain ⟨h1, h2⟩ := hneed e he'
          refine ⟨e.1, h1, ?_⟩
          rw [h2] at hlt
          exact decide_eq_true (by omega)
      refine ⟨_, rfl, ?_⟩
      rw [hany]
      have s5 := s3.trans s4
      cases he : enough m.groups (needL nl nf) ps with
      | false =>
        refine iteT ?_
        have hch : choose m.groups (needL nl nf) ps = none := by
          unfold R7278g.Spec.choose
          rw [he]
          rfl
        rw [hch] at q
        exact q _ s5
      | true =>
        refine iteF ?_
        have hch : choose m.groups (needL nl nf) ps = some (spare m.groups (needL nl nf) [] ps.reverse) := by
          unfold R7278g.Spec.choose
          rw [he]
          rfl
        rw [hch] at q
        have hc4 := s4 _ _ hc3
        have W4 := W3.mono s4
        refine ⟨Nat.zero_le _, fun fl hfl => ?_⟩
        have hfl0 : H fl = none := s5.free hfl
        refine ⟨_, rfl, lp, _, rfl, sq ((Same.new hfl) _ _ (s5 _ _ hlp)), fun r hr => ?_⟩
        have s6 := (s5.trans (Same.new (o := .lst []) hfl)).trans (Same.new (o := .lst (pgRefs L ps).reverse) hr)
        have hr0 : H r = none := (s5.trans (Same.new (o := .lst []) hfl)).free hr
        have hrr : (upd (upd H4 fl (.lst [])) r (.lst (pgRefs L ps).reverse)) r = some (.lst (pgRefs L ps.reverse)) := by rw [upd_same]; unfold pgRefs; rw [List.map_reverse]
        have hfr : fl ≠ r := fun z => by rw [← z, upd_same] at hr; cases hr
        have hff : (upd (upd H4 fl (.lst [])) r (.lst (pgRefs L ps).reverse)) fl = some (.lst []) := by rw [upd_ne hfr, upd_same]
        have hcc := (Same.new (o := .lst (pgRefs L ps).reverse) hr) _ _ ((Same.new (o := .lst []) hfl) _ _ hc4)
        have WW := (W4.mono (Same.new (o := .lst []) hfl)).mono (Same.new (o := .lst (pgRefs L ps).reverse) hr)
        have nw : ∀ g ∈ ks, wa g ≠ fl := fun g hg z => by
          have := W4.way g hg
          rw [z, hfl] at this
          cases this
        generalize (upd (upd H4 fl (.lst [])) r (.lst (pgRefs L ps).reverse)) = H5 at *
        have hwfl : wy ≠ fl := fun z => by
          have := W4.dict
          rw [z, hfl] at this
          cases this
        have hcfl : c ≠ fl := fun z => by rw [z, hfl] at hc4; cases hc4
        refine ⟨r, rfl, ⟨_, sq hrr⟩, for_goes (l := ps.reverse) (goes_list (h := fun p => V.ref (L.ra p.id))) (fun i σ H' => ∃ (x3 x6 : Option V) (ch : List SPage), σ = [some (.ref L.a), some (.ref lp), some (.ref dn), x3, some (.ref c), some (.ref wy), x6, some (.ref fl)] ∧ Same H H' ∧ H' r = some (.lst (pgRefs L ps.reverse)) ∧
          H' c = some (.dK (kvF nl fun a => nV (freed m.groups a (ch ++ ps.reverse.drop i)))) ∧ WaysAt m.groups F H' wy ks wa ∧ H' fl = some (.lst (pgRefs L ch.reverse)) ∧ spare m.groups (needL nl nf) [] ps.reverse = spare m.groups (needL nl nf) ch (ps.reverse.drop i) ∧
          enough m.groups (needL nl nf) (ch ++ ps.reverse.drop i) = true ∧ ch.length ≤ i) ?_ ?_ ?_ ?_⟩
        · refine ⟨x3, x6, [], rfl, s6, hrr, ?_, WW, hff, rfl, ?_, Nat.le_refl _⟩
          · rw [hcc]
            congr 2
            refine kvF_congr fun z _ => ?_
            rw [List.drop_zero, List.nil_append, freed_reverse]
          · rw [List.drop_zero, List.nil_append, enough_reverse]
            exact he
        · rintro i σ H' ⟨x3, x6, ch, rfl, _, hr', _⟩
          exact sq hr'
        · rintro i p v σ H6 H6' hi ⟨x3, x6, ch, rfl, s7, hr7, hc7, W7, hf7, hsp, hen, hchl⟩ se hv
          subst hv
          have hpm' := List.mem_reverse.mp (List.mem_of_getElem? hi)
          have hpm := hps p hpm'
          have hpk := hks p hpm'
          have lp' := M.pgl hpm
          have s8 := s7.trans se
          have M8 := M.mono s8
          have hr8 := se _ _ hr7
          have hc8 := se _ _ hc7
          have hf8 := se _ _ hf7
          have W8 := W7.mono se
          have hil : i < ps.length := by
            have := (List.getElem?_eq_some_iff.mp hi).1
            rwa [List.length_reverse] at this
          have hdr : ps.reverse.drop i = p :: ps.reverse.drop (i + 1) := by
            obtain ⟨h1, h2⟩ := List.getElem?_eq_some_iff.mp hi
            rw [List.drop_eq_getElem_cons h1, h2]
          rw [hdr] at hc8 hsp hen
          generalize hrest : ps.reverse.drop (i + 1) = rest at *
          clear hr7 hc7 hf7 W7 s7
          refine ⟨_, rfl, _, rfl, M8.p_group T hpm ?_⟩
          refine ⟨_, _, rfl, dget_in (.inl W8.dict) hpk, ?_⟩
          refine ⟨_, rfl, ⟨_, sq (W8.way _ hpk)⟩, fun D3 hD3 => ?_⟩
          refine lc_flat (l := F p.group) (goes_list (h := nV)) hD3 (fun H' e => e.seq (sq (W8.way _ hpk))) (fun _ => true) (fun a => .bl (decide ((nf a : Int) < (freed m.groups a (ch ++ p :: rest) : Int)))) (by have := hFl _ lp'; omega) (fun j a x H9 ha s9 hx N Y h1 h2 => ?_) (fun H9 s9 e9 => ?_)
          · subst hx
            have han := hFn _ _ (List.mem_of_getElem? ha)
            exact ⟨rfl, yes ⟨_, rfl, _, rfl, _, _, rfl, dget_in (.inl (s9 _ _ hc8)) han, _, rfl, _, rfl, _, _, rfl, dget_in (.inl (s9 _ _ (s8 _ _ hdn))) han, _, _, rfl, rfl, h2 rfl _ (Same.refl _)⟩⟩
          rw [filter_all] at e9
          refine ⟨D3, (F p.group).map fun a => decide ((nf a : Int) < (freed m.groups a (ch ++ p :: rest) : Int)), rfl, sq (by rw [e9, List.map_map]; rfl), ?_⟩
          have hall : ((F p.group).map fun a => decide ((nf a : Int) < (freed m.groups a (ch ++ p :: rest) : Int))).all id = enough m.groups (needL nl nf) (ch ++ rest) := by
            rw [List.all_map, Bool.eq_iff_iff, List.all_eq_true, spare_test hen]
            constructor
            · intro h e he' hu
              obtain ⟨h1, h2⟩ := hneed e he'
              have := of_decide_eq_true (h e.1 ((hFc _ _ h1).mpr hu))
              rw [h2]
              omega
            · intro h a ha
              have han := hFn _ _ ha
              have := h (a, nf a) (List.mem_map.mpr ⟨a, han, rfl⟩) ((hFc _ _ han).mp ha)
              exact decide_eq_true (by dsimp only at this; omega)
          refine ⟨_, rfl, ?_⟩
          rw [hall]
          have s10 := s8.trans s9
          have M10 := M.mono s10
          have hr10 := s9 _ _ hr8
          have hc10 := s9 _ _ hc8
          have hf10 := s9 _ _ hf8
          have W10 := W8.mono s9
          cases hy : enough m.groups (needL nl nf) (ch ++ rest) with
          | true =>
            refine iteT ⟨_, rfl, _, rfl, M10.p_group T hpm ?_⟩
            refine ⟨_, _, rfl, dget_in (.inl W10.dict) hpk, ?_⟩
            refine ⟨_, rfl, ⟨_, sq (W10.way _ hpk)⟩, for_goes (l := F p.group) (goes_list (h := nV)) (fun j σ H' => ∃ x3, σ = [some (.ref L.a), some (.ref lp), some (.ref dn), x3, some (.ref c), some (.ref wy), some (.ref (L.ra p.id)), some (.ref fl)] ∧ Same H H' ∧ H' r = some (.lst (pgRefs L ps.reverse)) ∧
              H' c = some (.dK (kvF nl fun g => .int ((freed m.groups g (ch ++ p :: rest) : Int) - if g ∈ (F p.group).take j then 1 else 0))) ∧ WaysAt m.groups F H' wy ks wa ∧ H' fl = some (.lst (pgRefs L ch.reverse))) ?_ ?_ ?_ ?_⟩
            · refine ⟨_, rfl, s10, hr10, ?_, W10, hf10⟩
              rw [hc10]
              congr 2
            · rintro j σ H' ⟨x, rfl, _, _, _, W6, _⟩
              exact sq (W6.way _ hpk)
            · rintro j g v σ H11 H11' hj ⟨x, rfl, s11, hr11, hc11, W11, hf11⟩ se11 hv
              subst hv
              have hgn := hFn _ _ (List.mem_of_getElem? hj)
              have hc12 := se11 _ _ hc11
              have hrc : r ≠ c := fun z => by rw [z, hc11] at hr11; cases hr11
              refine ⟨_, rfl, _, rfl, _, _, rfl, dget_in (.inl hc12) hgn, ?_⟩
              refine ⟨_, _, rfl, rfl, _, dput_in hc12 hgn (by omega), _, rfl, (s11.trans se11).mut hc0, ?_, ?_, (W11.mono se11).updD hc12 hcw, ?_⟩
              · rw [upd_ne hrc]
                exact se11 _ _ hr11
              · rw [upd_same]
                congr 2
                refine kvF_congr fun z _ => ?_
                rw [← cnt_down (hFd _ lp') hj (fun g => (freed m.groups g (ch ++ p :: rest) : Int)) z]
                by_cases e : z = g
                · rw [if_pos e, if_pos e]
                · rw [if_neg e, if_neg e]
              · rw [upd_ne (Ne.symm hcfl)]
                exact se11 _ _ hf11
            · rintro σ H' ⟨x, rfl, s11, hr11, hc11, W11, hf11⟩
              refine ⟨_, _, ch, rfl, s11, hr11, ?_, W11, hf11, by rw [hsp, spare_yes hy], hy, by omega⟩
              rw [hc11]
              congr 2
              refine kvF_congr fun z hz => ?_
              rw [List.take_length]
              have e1 : freed m.groups z (ch ++ p :: rest) = freed m.groups z (ch ++ rest) + if under m.groups z p.group = true then 1 else 0 := by
                rw [freed_app, freed_app, freed_cons]
                omega
              rw [e1]
              by_cases hu : under m.groups z p.group = true
              · rw [if_pos hu, if_pos ((hFc _ _ hz).mpr hu)]
                congr 1
                omega
              · rw [if_neg hu, if_neg fun h => hu ((hFc _ _ hz).mp h)]
                congr 1
          | false =>
            have hrl : (pgRefs L ch.reverse).length < sizeLine := by
              rw [List.length_map, List.length_reverse]
              exact small_lt (by omega)
            refine iteF ⟨_, rfl, .inl ⟨rfl, _, sq hf10⟩, _, rfl, fl, _, _, rfl, rfl, hf10, hrl, ?_⟩
            have hrf : r ≠ fl := fun z => hfr z.symm
            refine ⟨_, _, p :: ch, rfl, s10.mut hfl0, ?_, ?_, ?_, ?_, ?_, ?_, by rw [List.length_cons]; omega⟩
            · rw [upd_ne hrf]
              exact hr10
            · rw [upd_ne hcfl, hc10]
              congr 2
              refine kvF_congr fun z _ => ?_
              rw [← freed_move]
            · exact W10.keep (upd_ne hwfl) fun g hg => upd_ne (nw g hg)
            · rw [upd_same, List.reverse_cons]
              unfold pgRefs
              rw [List.map_append]
              rfl
            · rw [hsp, spare_no (by rw [hy]; decide)]
            · rw [enough_move]
              exact hen
        · rintro σ H' ⟨x3, x6, ch, rfl, s7, _, _, _, hf7, hsp, _, _⟩
          refine ⟨_, rfl, fl, _, rfl, sq hf7, fun z hz => ?_⟩
          refine q z _ (s7.trans (Same.new hz)) (s7.free hz) ?_
          rw [upd_same, hsp, List.drop_of_length_le (by omega)]
          unfold pgRefs
          rw [List.map_reverse, List.reverse_reverse]
          rfl
/-! ### choice -/
def spChoice (K : PySem.W.Frag) (A : Ad) : Sp := fun vs H Q _ => ∃ (L : Lay) (m : SMem) (dn : Addr) (nl : List Nat) (nf : Nat → Nat), vs = [.ref L.a, .ref dn] ∧ MemAt K A H L m ∧ H dn = some (.dK (kvF nl fun a => nV (nf a))) ∧ nl.Nodup ∧ nl.length ≤ 40 ∧ RetO H Q L (m.pick (needL nl nf))
theorem mayTake_sub {m : SMem} (pf : Nat → Nat) : (∀ p ∈ m.mayTake pf, p ∈ m.pages) ∧ (m.mayTake pf).length ≤ m.pages.length := ⟨fun p hp => (takeable_sub _ _).subset hp, (takeable_sub _ _).length_le⟩
theorem ok_choice (F : Fun K "choice" "Memory.choice" s_Memory_choice f fd) (T : Txt K mg A) (h_Memory_chosen : GM P w K mg base CX0 2 A.mem "chosen" ["self", "pages", "needs"] (spChosen K A)) (h_Memory_may_be_taken : GM P w K mg base CX0 3 A.mem "may_be_taken" ["self", "protections"] (spMay K A))
    (h_Memory_soft : GM P w K mg base CX0 5 A.mem "soft" ["self"] (spProt K A R7278g.Spec.Mem.soft)) (h_Memory_hard : GM P w K mg base CX0 4 A.mem "hard" ["self"] (spProt K A R7278g.Spec.Mem.hard)) :
    FnOk P w K mg base CX0 6 f fd ["self", "needs"] (spChoice K A) := by
  refine F.ok sc_Memory_choice (fun vs H Q E h => ?_) (fun cdv A' outer s H vs Q E hr h => ⟨_, (pss_cons (ps_set (i := 2) sc_Memory_choice.nd rfl (Or.inl rfl) (pe_gm h_Memory_chosen T.c_mem (hr.mono (by decide)) pass0 (L2.pv 0) (pa_cons (pe_gm h_Memory_may_be_taken T.c_mem (hr.mono (by decide)) pass0 (L2.pv 0) (pa_cons (pe_gm0 h_Memory_soft T.c_mem (hr.mono (by decide)) pass0 (L2.pv 0)) pa_nil)) (pa_cons (L2.pv 1) pa_nil))))
      (pss_one (ps_ret (pe_ifExp (pt_cmpR op_isN (L2.pv 2) pe_non (nomark _)) (pe_gm h_Memory_chosen T.c_mem (hr.mono (by decide)) pass0 (L2.pv 0) (pa_cons (pe_gm h_Memory_may_be_taken T.c_mem (hr.mono (by decide)) pass0 (L2.pv 0) (pa_cons (pe_gm0 h_Memory_hard T.c_mem (hr.mono (by decide)) pass0 (L2.pv 0)) pa_nil)) (pa_cons (L2.pv 1) pa_nil))) (L2.pv 2))))), ?_⟩)
  · obtain ⟨L, m, dn, nl, nf, rfl, _⟩ := h
    rfl
  · obtain ⟨L, m, dn, nl, nf, rfl, M, hdn, hnd, hnl, q⟩ := h
    have hnp := M.wf.np
    have two := @mayTake_sub m
    refine ⟨_, rfl, M.meth (by decide +kernel) ⟨_, rfl, M.meth (by decide +kernel) ⟨_, rfl, M.meth (by decide +kernel) ⟨L, m, rfl, M, fun ks a H1 nd1 k1 s1 ha0 ha => ?_⟩⟩⟩⟩
    have M1 := M.mono s1
    refine ⟨L, m, a, ks, m.soft, rfl, M1, ha, fun g h => (k1 g).mp h, fun b H2 s2 hb0 hb => ?_⟩
    have s3 := s1.trans s2
    have M2 := M.mono s3
    refine ⟨_, rfl, L, m, b, dn, _, nl, nf, rfl, M2, hb, (two _).1, Nat.le_trans (two _).2 hnp, s3 _ _ hdn, hnd, hnl, ?_⟩
    unfold R7278g.Spec.Mem.pick at q
    cases hc : R7278g.Spec.choose m.groups (needL nl nf) (m.mayTake m.soft) with
    | some r =>
      rw [hc] at q
      intro p H3 s4 hp0 hp
      refine ⟨_, rfl, rfl, _, rfl, ?_⟩
      exact iteF ⟨_, rfl, q p H3 (s3.trans s4) (s3.free hp0) hp⟩
    | none =>
      rw [hc] at q
      intro H3 s4
      refine ⟨_, rfl, rfl, _, rfl, ?_⟩
      have s5 := s3.trans s4
      have M3 := M.mono s5
      refine iteT ⟨_, rfl, M3.meth (by decide +kernel) ⟨_, rfl, M3.meth (by decide +kernel) ⟨_, rfl, M3.meth (by decide +kernel) ⟨L, m, rfl, M3, fun ks a H1 nd1 k1 s1 ha0 ha => ?_⟩⟩⟩⟩
      have M4 := M3.mono s1
      refine ⟨L, m, a, ks, m.hard, rfl, M4, ha, fun g h => (k1 g).mp h, fun b H2 s2 hb0 hb => ?_⟩
      have s6 := (s5.trans s1).trans s2
      refine ⟨_, rfl, L, m, b, dn, _, nl, nf, rfl, M.mono s6, hb, (two _).1, Nat.le_trans (two _).2 hnp, s6 _ _ hdn, hnd, hnl, ?_⟩
      have q : RetO H Q L (R7278g.Spec.choose m.groups (needL nl nf) (m.mayTake m.hard)) := q
      exact q.mono s6
end Gm
end

section
set_option maxRecDepth 100000
set_option maxHeartbeats 8000000
/-! # The walks, part 7: what changes a memory's pages -/
namespace Gm
open PySem PySem.Spec PyProof.Rows L2 L2G GmM
open R7278g.Spec (live kids chain under usage lastOf)
variable {P : Program} {w : World} {K : PySem.W.Frag} {mg : Str → Option Value} {base : Heap} {A : Ad} {f fI : Addr} {fd : FuncData}
/-! ### a memory whose pages are others -/
section
variable {H H' : Hp} {L L' : Lay} {m m' : SMem}
theorem MemAt.rows' (M : MemAt K A H L m) (ha : L'.a = L.a) (hg : L'.ag = L.ag) (h1 : L'.ga = L.ga) (h2 : L'.la = L.la) (hm : m'.groups = m.groups) (k : ∀ b o, b ≠ L.a → b ≠ L.ar → H b = some o → H' b = some o) (wf : MWF m')
    (self : ∃ dx, H' L.a = some (.ins A.mem dx (memF L.ag m.groups.length L'.ar m'.next L'.tk))) (rows : H' L'.ar = some (.lst (pgRefs L' m'.pages))) (page : ∀ p ∈ m'.pages, ∃ dx, H' (L'.ra p.id) = some (.ins A.pag dx (pagF p.id p.group (stS p.state))))
    (tk : ∃ ts : List Addr, H' L'.tk = some (.lst (ts.map V.ref)) ∧ TkAt K H' ts m'.taken) : MemAt K A H' L' m' := by
  obtain ⟨sx, es⟩ := M.self
  have na : ∀ {b o}, H b = some o → (∀ dx, o ≠ .ins A.mem dx (memF L.ag m.groups.length L.ar m.next L.tk)) → (∀ xs, o ≠ .lst xs) → H' b = some o := fun {b o} e n1 n2 => by
    refine k b o (fun z => ?_) (fun z => ?_) e
    · rw [z, es] at e
      exact n1 _ (Option.some.inj e).symm
    · rw [z, M.rows] at e
      exact n2 _ (Option.some.inj e).symm
  have own : H' L.ag = some (Gm.grps L m) := na M.own (fun _ z => by cases z) (fun _ z => by cases z)
  have own' : H' L'.ag = some (Gm.grps L' m') := by rw [hg, own]; unfold Gm.grps; rw [hm, h1]
  refine ⟨⟨wf, ?_, .inl own', fun g hl => ?_, fun g hl => ?_, rows, page, tk, ?_⟩, own'⟩
  · rw [ha, hg, hm]
    exact self
  · rw [hm] at hl ⊢
    obtain ⟨dx, e⟩ := M.grp g hl
    rw [h1, h2]
    refine ⟨dx, na e (fun _ z => ?_) (fun _ z => by cases z)⟩
    injection z with _ _ z
    exact mem_ne_grp z.symm
  · rw [hm] at hl ⊢
    obtain ⟨dx, e⟩ := M.lim g hl
    rw [h2]
    refine ⟨dx, na e (fun _ z => ?_) (fun _ z => by cases z)⟩
    injection z with _ _ z
    exact mem_ne_lim z.symm
  · intro g h hg' hh e
    rw [hm] at hg' hh
    rw [h1] at e
    exact M.inj g h hg' hh e
/-- a page stands -/
theorem MemAt.pageS (M : MemAt K A H L m) (k : ∀ b o, b ≠ L.a → b ≠ L.ar → H b = some o → H' b = some o) {p : SPage} (hp : p ∈ m.pages) : ∃ dx, H' (L.ra p.id) = some (.ins A.pag dx (pagF p.id p.group (stS p.state))) := by
  obtain ⟨sx, es⟩ := M.self
  obtain ⟨dx, e⟩ := M.page p hp
  refine ⟨dx, k _ _ (fun z => ?_) (fun z => ?_) e⟩
  · rw [z, es] at e
    have := Option.some.inj e
    injection this with _ _ z
    exact mem_ne_pag z
  · rw [z, M.rows] at e
    cases e
theorem MemAt.a_ne_ar (M : MemAt K A H L m) : L.a ≠ L.ar := fun z => by
  obtain ⟨sx, es⟩ := M.self
  rw [z, M.rows] at es
  cases es
theorem MemAt.tkS (M : MemAt K A H L m) (k : ∀ b o, b ≠ L.a → b ≠ L.ar → H b = some o → H' b = some o) {ts : List Addr} (e : TkAt K H ts m.taken) : TkAt K H' ts m.taken := TkAt.same e fun t xs h => by
  obtain ⟨sx, es⟩ := M.self
  rcases h with (h | ⟨o, h⟩) | h
  · refine .inl (.inl (k _ _ (fun z => ?_) (fun z => ?_) h))
    · rw [z, es] at h
      cases h
    · rw [z, M.rows] at h
      cases h
  · refine .inl (.inr ⟨o, k _ _ (fun z => ?_) (fun z => ?_) h⟩)
    · rw [z, es] at h
      cases h
    · rw [z, M.rows] at h
      cases h
  · exact .inr h
/-- what it is made of: old or new -/
theorem Fp.rows' (ha : L'.a = L.a) (hg : L'.ag = L.ag) (h1 : L'.ga = L.ga) (h2 : L'.la = L.la) (hm : m'.groups = m.groups) (har : L'.ar = L.ar ∨ H L'.ar = none) (htk : L'.tk = L.tk ∨ H L'.tk = none)
    (hp : ∀ p ∈ m'.pages, (∃ q ∈ m.pages, L'.ra p.id = L.ra q.id) ∨ H (L'.ra p.id) = none) {b : Addr} (h : Fp L' m' b) : Fp L m b ∨ H b = none := by
  rcases h with e | e | e | e | ⟨g, hl, e | e⟩ | ⟨p, hpm, e⟩
  · exact .inl (.inl (e.trans ha))
  · exact .inl (.inr (.inl (e.trans hg)))
  · rcases har with q | q
    · exact .inl (.inr (.inr (.inl (e.trans q))))
    · exact .inr (e ▸ q)
  · rcases htk with q | q
    · exact .inl (.inr (.inr (.inr (.inl (e.trans q)))))
    · exact .inr (e ▸ q)
  · exact .inl (.inr (.inr (.inr (.inr (.inl ⟨g, hm ▸ hl, .inl (by rw [e, h1])⟩)))))
  · exact .inl (.inr (.inr (.inr (.inr (.inl ⟨g, hm ▸ hl, .inr (by rw [e, h2])⟩)))))
  · rcases hp p hpm with ⟨q, hq, z⟩ | q
    · exact .inl (.inr (.inr (.inr (.inr (.inr ⟨q, hq, e.trans z⟩)))))
    · exact .inr (e ▸ q)
theorem Fp.self {L : Lay} {m : SMem} : Fp L m L.a := .inl rfl
theorem Fp.grps {L : Lay} {m : SMem} : Fp L m L.ag := .inr (.inl rfl)
theorem Fp.ar {L : Lay} {m : SMem} : Fp L m L.ar := .inr (.inr (.inl rfl))
theorem Fp.tk {L : Lay} {m : SMem} : Fp L m L.tk := .inr (.inr (.inr (.inl rfl)))
theorem Fp.ga {L : Lay} {m : SMem} {g : Nat} (h : live m.groups g = true) : Fp L m (L.ga g) := .inr (.inr (.inr (.inr (.inl ⟨g, h, .inl rfl⟩))))
theorem Fp.la {L : Lay} {m : SMem} {g : Nat} (h : live m.groups g = true) : Fp L m (L.la g) := .inr (.inr (.inr (.inr (.inl ⟨g, h, .inr rfl⟩))))
theorem Fp.ra {L : Lay} {m : SMem} {p : SPage} (h : p ∈ m.pages) : Fp L m (L.ra p.id) := .inr (.inr (.inr (.inr (.inr ⟨p, h, rfl⟩))))
end
/-! ### need_group -/
theorem str_no_group : strU (R7278g.Spec.units "there is no such group") = ("there is no such group" : Str) := by decide +kernel
theorem str_memory : strU (R7278g.Spec.units "out of memory") = ("out of memory" : Str) := by decide +kernel
theorem str_no_page : strU (R7278g.Spec.units "there is no such page") = ("there is no such page" : Str) := by decide +kernel
theorem str_has_pages : strU (R7278g.Spec.units "the group has pages") = ("the group has pages" : Str) := by decide +kernel
theorem str_has_groups : strU (R7278g.Spec.units "the group has groups") = ("the group has groups" : Str) := by decide +kernel
theorem str_root : strU (R7278g.Spec.units "the root stays") = ("the root stays" : Str) := by decide +kernel
theorem str_below : strU (R7278g.Spec.units "the group lies below") = ("the group lies below" : Str) := by decide +kernel
theorem str_40 : strU (R7278g.Spec.units "there are more than 40 groups") = ("there are more than 40 groups" : Str) := by decide +kernel
theorem str_2000 : strU (R7278g.Spec.units "there are more than 2000 pages") = ("there are more than 2000 pages" : Str) := by decide +kernel
def spNeedG (K : PySem.W.Frag) (A : Ad) : Sp := fun vs H Q E => ∃ (L : Lay) (m : SMem) (g : Nat), vs = [.ref L.a, nV g] ∧ MemAt K A H L m ∧ (live m.groups g = true → Q .non H) ∧ (live m.groups g = false → Rais A H E 2 "there is no such group")
theorem ok_need_group (F : Fun K "need_group" "Memory.need_group" s_Memory_need_group f fd) (T : Txt K mg A) (h_need_range : GF P w K mg base (L2N.CX P w) 1 "need_range" ["truth", "message"] (spNeed A 2)) :
    FnOk P w K mg base (L2N.CX P w) 2 f fd ["self", "number"] (spNeedG K A) := by
  refine okN F sc_Memory_need_group (fun vs H Q E h => ?_) (fun cdv A' outer s H vs Q E hr h => ⟨_, (pss_one (ps_expr (pe_gf h_need_range (hr.mono (by decide)) (passN (L2N.takes_of rfl rfl rfl rfl)) (pa_cons (pe_cmp (pc_din (hu_of hr) (L2.pv 1) (pe_fld (L2.pv 0) rfl))) (pa_cons (pe_gl T.g_NO_GROUP) pa_nil))))), ?_⟩)
  · obtain ⟨L, m, g, rfl, _⟩ := h
    rfl
  · obtain ⟨L, m, g, rfl, M, h1, h2⟩ := h
    refine ⟨_, rfl, _, rfl, M.f_groups T ?_⟩
    refine ⟨_, _, rfl, dget_rd (.inl M.own), ?_⟩
    rw [kvF_isSome]
    refine ⟨_, _, rfl, fun e => h1 (mem_liveL.mp (of_decide_eq_true e)), fun e => h2 ?_⟩
    cases hl : live m.groups g with
    | true => exact absurd (mem_liveL.mpr hl) (of_decide_eq_false e)
    | false => rfl
/-! ### get_page, get_below -/
def spGetPage (K : PySem.W.Frag) (A : Ad) : Sp := fun vs H Q E => ∃ (L : Lay) (m : SMem) (i : Nat), vs = [.ref L.a, nV i] ∧ MemAt K A H L m ∧ match m.page i with
  | some q => ∀ H', Same H H' → Q (.ref (L.ra q.id)) H'
  | none => Rais A H E 2 "there is no such page"
theorem find_filter {α : Type} (p : α → Bool) : ∀ (l : List α), l.find? p = (l.filter p)[0]?
  | [] => rfl
  | a :: r => by
    rw [List.find?_cons, List.filter_cons]
    cases h : p a with
    | true => rfl
    | false => exact find_filter p r
theorem ok_get_page (F : Fun K "get_page" "Memory.get_page" s_Memory_get_page f fd) (T : Txt K mg A) (h_need_range : GF P w K mg base (L2N.CX P w) 1 "need_range" ["truth", "message"] (spNeed A 2)) :
    FnOk P w K mg base (L2N.CX P w) 2 f fd ["self", "number"] (spGetPage K A) := by
  refine okN F sc_Memory_get_page (fun vs H Q E h => ?_) (fun cdv A' outer s H vs Q E hr h => ⟨_, (pss_cons (ps_setLc (i := 2) (own := [("page", 3)]) (g := (gName 3)) (tt := (tTest (tOp _ (tFld K (tVar 3) "number") (tVar 1)))) (te := (tVar 3)) rfl sc_Memory_get_page.nd rfl rfl (sw_true rfl rfl rfl (by decide +kernel)) (pi_list (pe_fld (L2.pv 0) rfl)) (blkOk_by (N := N_Memory_get_page) (sc := defScope s_Memory_get_page) (by decide +kernel)) (fun _ _ _ _ _ => (pg_name (i := 3) sc_Memory_get_page.nd rfl (Or.inl rfl))) (fun _ _ _ _ _ => (pts_one (pt_cmpR op_eq (pe_fld (L2.pv 3) rfl) (L2.pv 1) (nomark _)))) (fun _ _ _ _ _ => (L2.pv 3)))
      (pss_cons (ps_expr (pe_gf h_need_range (hr.mono (by decide)) (passN (L2N.takes_of rfl rfl rfl rfl)) (pa_cons (pe_cmpR op_gt (pe_callB call_len_seq (by rfl) T.b_len PySem.boot_len (pa_cons (L2.pv 2) pa_nil)) pe_int (nomark _)) (pa_cons pe_str pa_nil))))
      (pss_one (ps_ret (pe_ix ix_list (L2.pv 2) pe_int (fun _ _ => rfl)))))), ?_⟩)
  · obtain ⟨L, m, g, rfl, _⟩ := h
    rfl
  · obtain ⟨L, m, i, rfl, M, q⟩ := h
    have hnp := M.wf.np
    refine ⟨_, rfl, M.f_rows T ?_⟩
    refine ⟨_, rfl, ⟨_, sq M.rows⟩, fun D hD => ?_⟩
    refine lc_flat (l := m.pages) (goes_list (h := fun p => V.ref (L.ra p.id))) hD (fun H' e => e.seq (sq M.rows)) (fun p => p.id == i) (fun p => V.ref (L.ra p.id)) (by omega) (fun j p x H2 hp s2 hx N Y h1 h2 => ?_) (fun H2 s2 e => ?_)
    · subst hx
      have M2 := M.mono s2
      refine ⟨rfl, _, rfl, M2.p_number T (List.mem_of_getElem? hp) ?_⟩
      refine ⟨_, rfl, rfl, _, rfl, ?_⟩
      rw [dec_nV]
      exact iteB (fun e => ⟨_, rfl, h2 (by simpa using e) _ (Same.refl _)⟩) (fun e => h1 (by simpa using e) _ (Same.refl _))
    · refine ⟨_, rfl, D, _, rfl, .inl (sq e), _, _, rfl, rfl, ?_⟩
      rw [List.length_map]
      unfold R7278g.Spec.Mem.page at q
      rw [find_filter] at q
      cases hl : m.pages.filter (fun p => p.id == i) with
      | nil =>
        rw [hl] at q
        refine ⟨_, _, rfl, fun e => ?_, fun _ => Rais.mono q s2⟩
        exact absurd (of_decide_eq_true e) (by simp)
      | cons p r =>
        rw [hl] at q
        rw [hl] at e
        refine ⟨_, _, rfl, fun _ => ?_, fun e => absurd (of_decide_eq_false e) (by simp)⟩
        exact ⟨_, rfl, D, _, 0, _, rfl, rfl, sq e, atI_nat (j := 0) rfl, q H2 s2⟩
def spGetBelow (K : PySem.W.Frag) (A : Ad) : Sp := fun vs H Q _ => ∃ (L : Lay) (m : SMem) (g : Nat), vs = [.ref L.a, nV g] ∧ MemAt K A H L m ∧ RetL H Q (pgRefs L (m.pages.filter fun p => under m.groups g p.group))
theorem inV_nV (g : Nat) : ∀ (l : List Nat), inV (nV g) (l.map nV) = decide (g ∈ l)
  | [] => rfl
  | a :: r => by
    show (eqV (nV a) (nV g) || inV (nV g) (r.map nV)) = _
    rw [inV_nV g r]
    have : eqV (nV a) (nV g) = decide (g = a) := by
      show ((a : Int) == (g : Int)) = _
      by_cases h : g = a
      · rw [h]
        simp
      · rw [decide_eq_false h]
        simpa using fun e => h (by omega)
    rw [this, Bool.eq_iff_iff]
    simp
theorem flat_nV : ∀ (l : List Nat), (l.map nV).all flatV = true
  | [] => rfl
  | a :: r => flat_nV r
theorem ok_get_below (F : Fun K "get_below" "Memory.get_below" s_Memory_get_below f fd) (T : Txt K mg A) (h_Memory_above : GM P w K mg base CX0 1 A.mem "above" ["self", "number"] (spAbove K A)) :
    FnOk P w K mg base CX0 2 f fd ["self", "number"] (spGetBelow K A) := by
  refine F.ok sc_Memory_get_below (fun vs H Q E h => ?_) (fun cdv A' outer s H vs Q E hr h => ⟨_, (pss_one (ps_ret (pe_lc (own := [("page", 2)]) (g := (gName 2)) (tt := (tTest (tOp (rIn K false) (tVar 1) (tMeth _ _ _ [] _ (tVar 0) (tCons (tFld K (tVar 2) "group") tNil))))) (te := (tVar 2)) rfl sc_Memory_get_below.nd (pi_list (pe_fld (L2.pv 0) rfl)) (blkOk_by (N := N_Memory_get_below) (sc := defScope s_Memory_get_below) (by decide +kernel)) (fun _ _ _ _ _ => (pg_name (i := 2) sc_Memory_get_below.nd rfl (Or.inl rfl))) (fun _ _ _ _ _ => (pts_one (pt_cmpR op_in_seq (L2.pv 1) (pe_gm h_Memory_above T.c_mem (hr.mono (by decide)) pass0 (L2.pv 0) (pa_cons (pe_fld (L2.pv 2) rfl) pa_nil)) (by with_unfolding_all rfl)))) (fun _ _ _ _ _ => (L2.pv 2))))), ?_⟩)
  · obtain ⟨L, m, g, rfl, _⟩ := h
    rfl
  · obtain ⟨L, m, g, rfl, M, q⟩ := h
    have hnp := M.wf.np
    refine ⟨_, rfl, M.f_rows T ?_⟩
    refine ⟨_, rfl, ⟨_, sq M.rows⟩, fun D hD => ?_⟩
    refine lc_flat (l := m.pages) (goes_list (h := fun p => V.ref (L.ra p.id))) hD (fun H' e => e.seq (sq M.rows)) (fun p => under m.groups g p.group) (fun p => V.ref (L.ra p.id)) (by omega) (fun j p x H2 hp s2 hx N Y h1 h2 => ?_) (fun H2 s2 e => q D H2 s2 hD e)
    subst hx
    have hpm := List.mem_of_getElem? hp
    have M2 := M.mono s2
    refine ⟨rfl, _, rfl, _, rfl, M2.meth (by decide +kernel) ⟨_, rfl, M2.p_group T hpm ⟨L, m, _, rfl, M2.toMemR, M.pgl hpm, fun b H3 s3 hb0 hb => ?_⟩⟩⟩
    refine ⟨b, _, rfl, .inl (sq hb), rfl, flat_nV _, _, rfl, ?_⟩
    rw [inV_nV]
    have e : decide (g ∈ chain m.groups p.group) = under m.groups g p.group := by
      rw [Bool.eq_iff_iff, decide_eq_true_iff, under_iff]
    simp only [Bool.false_eq_true, if_false, e]
    exact iteB (fun e => ⟨_, rfl, h2 e _ s3⟩) (fun e => h1 e _ s3)
end Gm
end

section
set_option maxRecDepth 100000
set_option maxHeartbeats 8000000
/-! # The walks, part 8: a new memory, take, free, touch -/
namespace Gm
open PySem PySem.Spec PyProof.Rows L2 L2G GmM
open R7278g.Spec (live kids chain under usage lastOf newMem)
variable {P : Program} {w : World} {K : PySem.W.Frag} {mg : Str → Option Value} {base : Heap} {A : Ad} {f fI : Addr} {fd : FuncData}
/-! ### a new memory -/
def spMemI (K : PySem.W.Frag) (A : Ad) : Sp := fun vs H Q _ => ∃ (p dx la ldx : Addr) (a b c : Nat), vs = [.ref p, .ref la] ∧ H p = some (.ins A.mem dx []) ∧ H la = some (.ins A.lim ldx (limF a b c)) ∧
  ∀ L' H', MemAt K A H' L' (newMem a b c) → L'.a = p → L'.la 0 = la → (∀ b o, b ≠ p → H b = some o → H' b = some o) → (∀ x, Fp L' (newMem a b c) x → x = p ∨ x = la ∨ H x = none) → Q .non H'
theorem liveL_new (a b c : Nat) : liveL (newMem a b c).groups = [0] := rfl
theorem live_new' {a b c g : Nat} (h : live (newMem a b c).groups g = true) : g = 0 := by
  have := live_lt h
  have e : (newMem a b c).groups.length = 1 := rfl
  omega
theorem ok_Memory_init (F : Fun K "__init__" "Memory.__init__" s_Memory_init f fd) (T : Txt K mg A) (h_Group : GC P w K mg base CX0 1 "Group" A.grp ["self", "parent", "limits"] (spGrpI A)) :
    FnOk P w K mg base CX0 3 f fd ["self", "limits"] (spMemI K A) := by
  refine F.ok sc_Memory_init (fun vs H Q E h => ?_) (fun cdv A' outer s H vs Q E hr h => ⟨_, (pss_cons (ps_fld (L2.pv 0) (pe_disp (pps_cons pe_int (pe_gc h_Group (hr.mono (by decide)) pass0 (pa_cons pe_non (pa_cons (L2.pv 1) pa_nil))) pps_nil) (by rfl) (by rfl) (fun z => by cases z) (by decide)) rfl)
      (pss_cons (ps_fld (L2.pv 0) pe_int rfl)
      (pss_cons (ps_fld (L2.pv 0) (pe_lst pa_nil) rfl)
      (pss_cons (ps_fld (L2.pv 0) pe_int rfl)
      (pss_one (ps_fld (L2.pv 0) (pe_lst pa_nil) rfl)))))), ?_⟩)
  · obtain ⟨p, dx, la, ldx, a, b, c, rfl, _⟩ := h
    rfl
  · obtain ⟨p, dx, la, ldx, a, b, c, rfl, hp, hla, q⟩ := h
    intro d hd
    refine ⟨_, rfl, ?_⟩
    intro x gx hx hgx nex
    refine ⟨x, gx, .non, la, rfl, upd_same, rfl, ?_⟩
    rw [upd_upd]
    have hdx : d ≠ x := fun z => by rw [← z, upd_same] at hx; cases hx
    have hdg : d ≠ gx := fun z => by rw [← z, upd_same] at hgx; cases hgx
    have hx0 : H x = none := by rw [← hx, upd_ne (Ne.symm hdx)]
    have hg0 : H gx = none := by rw [← hgx, upd_ne (Ne.symm hdg)]
    refine ⟨by rw [upd_ne hdx, upd_ne hdg, upd_same], [(iK 0, .ref x)], rfl, by show 1 ≤ 15; decide, ?_⟩
    have npd : p ≠ d := fun z => by rw [z, hd] at hp; cases hp
    have npx : p ≠ x := fun z => by rw [z, hx0] at hp; cases hp
    have npg : p ≠ gx := fun z => by rw [z, hg0] at hp; cases hp
    have e1 : mergeK [] [(iK 0, V.ref x)] = kvF [0] fun _ => V.ref x := rfl
    rw [e1]
    have hp1 : (upd (upd (upd (upd H d (.dK [])) gx (.own x)) x (.ins A.grp gx (grpF .non la))) d (.dK (kvF [0] fun _ => V.ref x))) p = some (.ins A.mem dx []) := by
      rw [upd_ne npd, upd_ne npx, upd_ne npg, upd_ne npd]
      exact hp
    have hd1 : (upd (upd (upd (upd H d (.dK [])) gx (.own x)) x (.ins A.grp gx (grpF .non la))) d (.dK (kvF [0] fun _ => V.ref x))) d = some (.dK (kvF [0] fun _ => V.ref x)) := upd_same
    have hx1 : (upd (upd (upd (upd H d (.dK [])) gx (.own x)) x (.ins A.grp gx (grpF .non la))) d (.dK (kvF [0] fun _ => V.ref x))) x = some (.ins A.grp gx (grpF .non la)) := by rw [upd_ne (Ne.symm hdx), upd_same]
    have s1 : Same H (upd (upd (upd (upd H d (.dK [])) gx (.own x)) x (.ins A.grp gx (grpF .non la))) d (.dK (kvF [0] fun _ => V.ref x))) := (((Same.new hd).mut hg0).mut hx0).mut hd
    generalize (upd (upd (upd (upd H d (.dK [])) gx (.own x)) x (.ins A.grp gx (grpF .non la))) d (.dK (kvF [0] fun _ => V.ref x))) = H1 at *
    refine ⟨_, rfl, at_sfld hp1 T.c_mem T.n_mem_groups (by show 0 < 1000; decide) ?_⟩
    refine ⟨_, rfl, at_sfld upd_same T.c_mem T.n_mem_made (by show 1 < 1000; decide) ?_⟩
    rw [upd_upd]
    refine ⟨Nat.zero_le _, fun r hr => ?_⟩
    have npr : p ≠ r := fun z => by rw [← z, upd_same] at hr; cases hr
    have hr1 : H1 r = none := by rw [← hr, upd_ne (Ne.symm npr)]
    refine ⟨_, rfl, at_sfld (by rw [upd_ne npr, upd_same]) T.c_mem T.n_mem_rows (by show 2 < 1000; decide) ?_⟩
    refine ⟨_, rfl, at_sfld upd_same T.c_mem T.n_mem_next_page (by show 3 < 1000; decide) ?_⟩
    rw [upd_upd]
    refine ⟨Nat.zero_le _, fun t ht => ?_⟩
    have npt : p ≠ t := fun z => by rw [← z, upd_same] at ht; cases ht
    have nrt : r ≠ t := fun z => by rw [← z, upd_ne (Ne.symm npr), upd_same] at ht; cases ht
    have ht1 : H1 t = none := by rw [← ht, upd_ne (Ne.symm npt), upd_ne (Ne.symm nrt), upd_ne (Ne.symm npt)]
    refine ⟨_, rfl, at_sfld (by rw [upd_ne npt, upd_same]) T.c_mem T.n_mem_taken (by show 4 < 1000; decide) ?_⟩
    have e2 : putF "taken" (.ref t) (putF "next_page" (.int 1) (putF "rows" (.ref r) (putF "made" (.int 1) (putF "groups" (.ref d) [])))) = memF d 1 r 1 t := memF_new ..
    rw [e2]
    generalize hHf : upd (upd (upd (upd (upd H1 p _) r _) p _) t _) p _ = Hf
    have hpf : Hf p = some (.ins A.mem dx (memF d 1 r 1 t)) := by rw [← hHf, upd_same]
    have hrf : Hf r = some (.lst []) := by rw [← hHf, upd_ne (Ne.symm npr), upd_ne nrt, upd_ne (Ne.symm npr), upd_same]
    have htf : Hf t = some (.lst []) := by rw [← hHf, upd_ne (Ne.symm npt), upd_same]
    have kf : ∀ b o, b ≠ p → H1 b = some o → Hf b = some o := fun b o hb e => by
      have n1 : b ≠ r := fun z => by rw [z, hr1] at e; cases e
      have n2 : b ≠ t := fun z => by rw [z, ht1] at e; cases e
      rw [← hHf, upd_ne hb, upd_ne n2, upd_ne hb, upd_ne n1, upd_ne hb]
      exact e
    have hdf := kf d _ (Ne.symm npd) hd1
    have hxf := kf x _ (Ne.symm npx) hx1
    have nlp : la ≠ p := fun z => by
      rw [z, hp] at hla
      have := Option.some.inj hla
      injection this with _ _ h3
      cases h3
    have hlf := kf la _ nlp (s1 _ _ hla)
    have own : Hf d = some (Gm.grps ⟨p, d, r, t, fun _ => x, fun _ => la, fun _ => 0⟩ (newMem a b c)) := hdf
    refine q ⟨p, d, r, t, fun _ => x, fun _ => la, fun _ => 0⟩ Hf ⟨⟨new_wf a b c, ⟨dx, hpf⟩, .inl own, fun g hg => ?_, fun g hg => ?_, hrf, (fun p hp => by cases hp), ⟨[], htf, .nil⟩, fun g h hg hh _ => ?_⟩, own⟩ rfl rfl (fun b o hb e => kf b o hb (s1 _ _ e)) (fun y hy => ?_)
    · have := live_new' hg
      subst this
      exact ⟨gx, hxf⟩
    · have := live_new' hg
      subst this
      exact ⟨ldx, hlf⟩
    · rw [live_new' hg, live_new' hh]
    · rcases hy with e | e | e | e | ⟨g, hg, e | e⟩ | ⟨p, hp, e⟩
      · exact .inl e
      · exact .inr (.inr (by rw [e]; exact hd))
      · exact .inr (.inr (by rw [e]; exact s1.free hr1))
      · exact .inr (.inr (by rw [e]; exact s1.free ht1))
      · exact .inr (.inr (by rw [e]; exact hx0))
      · exact .inr (.inl e)
      · cases hp
/-! ### take -/
theorem paired_ids {fv : Nat → V} {q : Addr → Key × V → Prop} {R : SPage → V → Prop} (hR : ∀ p y, R p y → ∃ t, y = V.ref t ∧ q t (iK p.id, fv p.id)) : ∀ {l : List SPage} {ys : List V}, Paired R l ys → ∃ ts : List Addr, ys = ts.map V.ref ∧ Paired q ts (kvF (l.map (·.id)) fv)
  | _, _, .nil => ⟨[], rfl, .nil⟩
  | _, _, .cons h t => by
    obtain ⟨t1, e, q1⟩ := hR _ _ h
    obtain ⟨ts, e2, q2⟩ := paired_ids hR t
    exact ⟨t1 :: ts, by rw [e, e2]; rfl, .cons q1 q2⟩
theorem paired_tk {H : Hp} {R : SPage → V → Prop} (hR : ∀ p y, R p y → ∃ t, y = V.ref t ∧ SqT K H t [nV p.id, nV p.group]) : ∀ {l : List SPage} {ys : List V}, Paired R l ys → ∃ ts : List Addr, ys = ts.map V.ref ∧ TkAt K H ts (l.map fun p => (p.id, p.group))
  | _, _, .nil => ⟨[], rfl, .nil⟩
  | _, _, .cons h t => by
    obtain ⟨t1, e, q1⟩ := hR _ _ h
    obtain ⟨ts, e2, q2⟩ := paired_tk hR t
    exact ⟨t1 :: ts, by rw [e, e2]; rfl, .cons q1 q2⟩
theorem Paired.app {α β : Type} {F : α → β → Prop} : ∀ {l l' : List α} {r r' : List β}, Paired F l r → Paired F l' r' → Paired F (l ++ l') (r ++ r')
  | _, _, _, _, .nil, q => q
  | _, _, _, _, .cons h t, q => .cons h (Paired.app t q)
theorem Paired.drop {α β : Type} {F : α → β → Prop} : ∀ {l : List α} {r : List β} (n : Nat), Paired F l r → Paired F (l.drop n) (r.drop n)
  | _, _, 0, h => h
  | _, _, _ + 1, .nil => .nil
  | _, _, n + 1, .cons _ t => Paired.drop n t
theorem cut_last (xs : List V) : cutV xs (some (-20)) none = xs.drop (xs.length - 20) := by
  unfold cutV
  have e : HT.sIx xs.length 0 (some (-20)) = xs.length - 20 := by
    show (if (-20 : Int) < 0 then ((-20 : Int) + (xs.length : Int)).toNat else min (-20 : Int).toNat xs.length) = _
    rw [if_pos (by decide)]
    omega
  rw [e, HT.sIx_none, List.take_of_length_le (by rw [List.length_drop]; exact Nat.le_refl _)]
def spTake (K : PySem.W.Frag) (A : Ad) : Sp := fun vs H Q E => ∃ (L : Lay) (m : SMem) (x : V), vs = [.ref L.a, x] ∧ MemAt K A H L m ∧ ((x = .non ∧ Rais A H E 2 "out of memory") ∨ ∃ (lp : Addr) (l : List SPage), x = .ref lp ∧ H lp = some (.lst (pgRefs L l)) ∧ l.Sublist m.pages ∧
  ∀ ar' tk' H', MemAt K A H' { L with ar := ar', tk := tk' } (m.take l) → (∀ b o, b ≠ L.a → H b = some o → H' b = some o) → H ar' = none → H tk' = none → tk' ≠ ar' → Q .non H')
theorem ok_take (F : Fun K "take" "Memory.take" s_Memory_take f fd) (T : Txt K mg A) (h_need_range : GF P w K mg base (L2N.CX P w) 1 "need_range" ["truth", "message"] (spNeed A 2)) :
    FnOk P w K mg base (L2N.CX P w) 2 f fd ["self", "pages"] (spTake K A) := by
  refine okN F sc_Memory_take (fun vs H Q E h => ?_) (fun cdv A' outer s H vs Q E hr h => ⟨_, (pss_cons (ps_expr (pe_gf h_need_range (hr.mono (by decide)) (passN (L2N.takes_of rfl rfl rfl rfl)) (pa_cons (pe_cmpR op_notN (L2.pv 1) pe_non (nomark _)) (pa_cons (pe_gl T.g_NO_MEMORY) pa_nil))))
      (pss_cons (ps_set (i := 2) sc_Memory_take.nd rfl (Or.inr rfl) (pe_callTy (call_dictP rfl) (by rfl) T.b_dict PyProof.Rows.boot_dict (pa_cons (pe_lc (own := [("page", 3)]) (g := (gName 3)) (tt := tYes) (te := (tTup (tCons (tFld K (tVar 3) "number") (tCons _ tNil)))) rfl sc_Memory_take.nd (pi_list (L2.pv 1)) (blkOk_by (N := N_Memory_take) (sc := defScope s_Memory_take) (by decide +kernel)) (fun _ _ _ _ _ => (pg_name (i := 3) sc_Memory_take.nd rfl (Or.inl rfl))) (fun _ _ _ _ _ => pts_nil) (fun _ _ _ _ _ => (pe_tup (pa_cons (pe_fld (L2.pv 3) rfl) (pa_cons pe_bl pa_nil))))) pa_nil)))
      (pss_cons (ps_fld (L2.pv 0) (pe_lc (own := [("page", 3)]) (g := (gName 3)) (tt := (tB (tDNotIn (tFld K (tVar 3) "number") (tVar 2)))) (te := (tVar 3)) rfl sc_Memory_take.nd (pi_list (pe_fld (L2.pv 0) rfl)) (blkOk_by (N := N_Memory_take) (sc := defScope s_Memory_take) (by decide +kernel)) (fun _ _ _ _ _ => (pg_name (i := 3) sc_Memory_take.nd rfl (Or.inl rfl))) (fun _ _ _ _ _ => (pts_one (pt_cmp (pc_dnotin (hu_of hr) (pe_fld (L2.pv 3) rfl) (L2.pv 2))))) (fun _ _ _ _ _ => (L2.pv 3))) rfl)
      (pss_one (ps_fld (L2.pv 0) (pe_slice sl_list (pe_op op_cat (pe_fld (L2.pv 0) rfl) (pe_lc (own := [("page", 3)]) (g := (gName 3)) (tt := tYes) (te := (tTup (tCons (tFld K (tVar 3) "number") (tCons (tFld K (tVar 3) "group") tNil)))) rfl sc_Memory_take.nd (pi_list (L2.pv 1)) (blkOk_by (N := N_Memory_take) (sc := defScope s_Memory_take) (by decide +kernel)) (fun _ _ _ _ _ => (pg_name (i := 3) sc_Memory_take.nd rfl (Or.inl rfl))) (fun _ _ _ _ _ => pts_nil) (fun _ _ _ _ _ => (pe_tup (pa_cons (pe_fld (L2.pv 3) rfl) (pa_cons (pe_fld (L2.pv 3) rfl) pa_nil)))))) (po_some (pe_un un_neg (pe_gl T.g_MOST_TAKEN))) po_none) rfl))))), ?_⟩)
  · obtain ⟨L, m, x, rfl, _⟩ := h
    rfl
  · obtain ⟨L, m, x, rfl, M, h⟩ := h
    refine ⟨_, rfl, rfl, ?_⟩
    rcases h with ⟨rfl, r⟩ | ⟨lp, l, rfl, hlp, hsub, q⟩
    · refine ⟨_, _, rfl, fun e => ?_, fun _ => r⟩
      exact absurd e (by decide)
    · refine ⟨_, _, rfl, fun _ => ?_, fun e => by rw [decide_eq_false (fun z => by cases z)] at e; cases e⟩
      have hnp := M.wf.np
      have hll := hsub.length_le
      have hids : (l.map (·.id)).Nodup := List.Pairwise.sublist (hsub.map _) M.wf.ids
      have hlm : ∀ p ∈ l, p ∈ m.pages := fun p hp => hsub.subset hp
      refine ⟨_, rfl, lp, rfl, ⟨_, sq hlp⟩, fun D hD => ?_⟩
      refine lc_goes (l := l) (goes_list (h := fun p => V.ref (L.ra p.id))) hD (fun H' e => e.seq (sq hlp)) (fun _ => true) (fun p y H => ∃ t, y = V.ref t ∧ H t = some (.tup [nV p.id, .bl true]))
        (fun p y H H' k ⟨xs, e⟩ ⟨t, e1, h⟩ => ⟨t, e1, k t _ (fun z => by rw [z, e] at h; cases h) h⟩) (by omega) (fun i p x H2 hp s2 hx N Y h1 h2 => ?_) (fun H2 ys s2 e hp => ?_)
      · subst hx
        have M2 := M.mono s2
        refine ⟨rfl, yes ⟨_, rfl, M2.p_number T (hlm p (List.mem_of_getElem? hp)) ?_⟩⟩
        exact ⟨by show 2 ≤ sizeLine; decide, fun t ht => h2 rfl _ _ (Same.new ht) ⟨t, rfl, upd_same⟩⟩
      rw [filter_all] at hp
      obtain ⟨ts, e1, e2⟩ := paired_ids (q := fun t kv => SqT K H2 t [kV kv.1, kv.2]) (fv := fun _ => .bl true) (fun p y ⟨t, e1, e2⟩ => ⟨t, e1, .inl (.inl e2)⟩) hp
      refine ⟨D, ts, _, rfl, sq (by rw [e, e1]), e2, fun gd hgd => ?_⟩
      rw [kvF_merge hids]
      have s3 : Same H (upd H2 gd (.dK (kvF (l.map (·.id)) fun _ => .bl true))) := s2.trans (Same.new hgd)
      have hg3 : (upd H2 gd (.dK (kvF (l.map (·.id)) fun _ => .bl true))) gd = some (.dK (kvF (l.map (·.id)) fun _ => .bl true)) := upd_same
      generalize (upd H2 gd (.dK (kvF (l.map (·.id)) fun _ => .bl true))) = H3 at *
      clear s2 e hp e2 hgd
      have M3 := M.mono s3
      refine ⟨_, rfl, M3.f_rows T ?_⟩
      refine ⟨_, rfl, ⟨_, sq M3.rows⟩, fun D2 hD2 => ?_⟩
      refine lc_flat (l := m.pages) (goes_list (h := fun p => V.ref (L.ra p.id))) hD2 (fun H' e => e.seq (sq M3.rows)) (fun p => !(l.any fun q => q.id == p.id)) (fun p => V.ref (L.ra p.id)) (by omega) (fun j p x H4 hp s4 hx N Y h1 h2 => ?_) (fun H4 s4 e4 => ?_)
      · subst hx
        have M4 := M3.mono s4
        refine ⟨rfl, _, rfl, M4.p_number T (List.mem_of_getElem? hp) ?_⟩
        refine ⟨_, rfl, _, _, rfl, dget_rd (.inl (s4 _ _ hg3)), _, rfl, ?_⟩
        rw [kvF_isSome]
        have e : decide (p.id ∈ l.map (·.id)) = l.any fun q => q.id == p.id := by
          rw [Bool.eq_iff_iff, decide_eq_true_iff, List.any_eq_true, List.mem_map]
          constructor
          · rintro ⟨q, hq, e⟩
            exact ⟨q, hq, by rw [e]; exact beq_self_eq_true _⟩
          · rintro ⟨q, hq, e⟩
            exact ⟨q, hq, by simpa using e⟩
        rw [e]
        exact iteB (fun e => ⟨_, rfl, h2 e _ (Same.refl _)⟩) (fun e => h1 e _ (Same.refl _))
      have s5 := s3.trans s4
      have M4 := M.mono s5
      obtain ⟨dx, es⟩ := M4.self
      have hD20 := s3.free hD2
      refine ⟨_, rfl, at_sfld es T.c_mem T.n_mem_rows (by show 5 < 1000; decide) ?_⟩
      rw [memF_put_rows]
      have nD2 : D2 ≠ L.a := fun z => by
        obtain ⟨dx, es⟩ := M.self
        rw [z, es] at hD20
        cases hD20
      have k6 : ∀ b o, b ≠ L.a → H b = some o → (upd H4 L.a (.ins A.mem dx (memF L.ag m.groups.length D2 m.next L.tk))) b = some o := fun b o hb e => by
        rw [upd_ne hb]
        exact s5 b o e
      have es6 : (upd H4 L.a (.ins A.mem dx (memF L.ag m.groups.length D2 m.next L.tk))) L.a = some (.ins A.mem dx (memF L.ag m.groups.length D2 m.next L.tk)) := upd_same
      have e6 : (upd H4 L.a (.ins A.mem dx (memF L.ag m.groups.length D2 m.next L.tk))) D2 = some (.lst (pgRefs L (m.take l).pages)) := by
        rw [upd_ne nD2]
        exact e4
      generalize (upd H4 L.a (.ins A.mem dx (memF L.ag m.groups.length D2 m.next L.tk))) = H6 at *
      clear hD2 s4 e4 es
      refine ⟨_, rfl, at_fld es6 T.c_mem T.n_mem_taken (memF_taken ..) ?_⟩
      have nlp : lp ≠ L.a := fun z => by
        obtain ⟨dx, es⟩ := M.self
        rw [z, es] at hlp
        cases hlp
      have hlp6 := k6 _ _ nlp hlp
      refine ⟨_, rfl, lp, rfl, ⟨_, sq hlp6⟩, fun D3 hD3 => ?_⟩
      have pg6 : ∀ p ∈ l, ∃ dx, H6 (L.ra p.id) = some (.ins A.pag dx (pagF p.id p.group (stS p.state))) := fun p hp => M.pageS (fun b o h1 _ e => k6 b o h1 e) (hlm p hp)
      refine lc_goes (l := l) (goes_list (h := fun p => V.ref (L.ra p.id))) hD3 (fun H' e => e.seq (sq hlp6)) (fun _ => true) (fun p y H => ∃ t, y = V.ref t ∧ H t = some (.tup [nV p.id, nV p.group]))
        (fun p y H H' k ⟨xs, e⟩ ⟨t, e1, h⟩ => ⟨t, e1, k t _ (fun z => by rw [z, e] at h; cases h) h⟩) (by omega) (fun i p x H2 hp s2 hx N Y h1 h2 => ?_) (fun H7 ys s7 e7 hp => ?_)
      · subst hx
        obtain ⟨px, ep⟩ := pg6 p (List.mem_of_getElem? hp)
        have ep := s2 _ _ ep
        refine ⟨rfl, yes ⟨_, rfl, at_fld ep T.c_pag T.n_pag_number (pagF_number ..) ?_⟩⟩
        refine ⟨_, rfl, at_fld ep T.c_pag T.n_pag_group (pagF_group ..) ?_⟩
        exact ⟨by show 2 ≤ sizeLine; decide, fun t ht => h2 rfl _ _ (Same.new ht) ⟨t, rfl, upd_same⟩⟩
      rw [filter_all] at hp
      obtain ⟨us, e1', e2'⟩ := paired_tk (K := K) (H := H7) (fun p y ⟨t, e1, e2⟩ => ⟨t, e1, .inl (.inl e2)⟩) hp
      obtain ⟨ts', et, tt⟩ := M.tk
      have ntk : L.tk ≠ L.a := fun z => by
        obtain ⟨dx, es⟩ := M.self
        rw [z, es] at et
        cases et
      have et7 := s7 _ _ (k6 _ _ ntk et)
      have htl := M.wf.tk
      have htsl := Paired.length tt
      have husl := Paired.length e2'
      rw [List.length_map] at husl
      refine ⟨_, _, _, _, rfl, rfl, et7, e7, by rw [e1', List.length_map, List.length_map]; exact small_line (by omega), fun c hc => ?_⟩
      refine ⟨20, rfl, _, rfl, c, _, rfl, sq upd_same, fun d hd => ?_⟩
      have s8 := (s7.trans (Same.new (o := .lst (ts'.map V.ref ++ ys)) hc)).trans (Same.new (o := .lst (cutV (ts'.map V.ref ++ ys) (some (-20)) none)) hd)
      have es8 := s8 _ _ es6
      have e8 := s8 _ _ e6
      have ed8 : (upd (upd H7 c (.lst (ts'.map V.ref ++ ys))) d (.lst (cutV (ts'.map V.ref ++ ys) (some (-20)) none))) d = some (.lst ((((ts' ++ us).drop ((ts' ++ us).length - 20))).map V.ref)) := by
        rw [upd_same, cut_last, e1', ← List.map_append, List.length_map, List.map_drop]
      have hc7 : H6 c = none := s7.free hc
      have hd7 : H6 d = none := (s7.trans (Same.new (o := .lst (ts'.map V.ref ++ ys)) hc)).free hd
      have tk8 : TkAt K (upd (upd H7 c (.lst (ts'.map V.ref ++ ys))) d (.lst (cutV (ts'.map V.ref ++ ys) (some (-20)) none))) us (l.map fun p => (p.id, p.group)) := TkAt.same e2' fun t xs h => ((Same.new hc).trans (Same.new hd)).tup h
      generalize (upd (upd H7 c (.lst (ts'.map V.ref ++ ys))) d (.lst (cutV (ts'.map V.ref ++ ys) (some (-20)) none))) = H8 at *
      refine ⟨_, rfl, at_sfld es8 T.c_mem T.n_mem_taken (by show 5 < 1000; decide) ?_⟩
      rw [memF_put_taken]
      have k9 : ∀ b o, b ≠ L.a → H6 b = some o → (upd H8 L.a (.ins A.mem dx (memF L.ag m.groups.length D2 m.next d))) b = some o := fun b o hb e => by
        rw [upd_ne hb]
        exact s8 b o e
      have kk : ∀ b o, b ≠ L.a → H b = some o → (upd H8 L.a (.ins A.mem dx (memF L.ag m.groups.length D2 m.next d))) b = some o := fun b o hb e => k9 b o hb (k6 b o hb e)
      have hd0 : H d = none := by
        cases z : H d with
        | none => rfl
        | some o =>
          have nd : d ≠ L.a := fun z => by rw [z, es6] at hd7; cases hd7
          rw [k6 d o nd z] at hd7
          cases hd7
      have nda : d ≠ L.a := fun z => by rw [z, es6] at hd7; cases hd7
      refine q D2 d _ (M.rows' (L' := { L with ar := D2, tk := d }) rfl rfl rfl rfl rfl (fun b o h1 _ e => kk b o h1 e) (take_wf M.wf l) ⟨dx, upd_same⟩ ?_ ?_ ⟨(ts' ++ us).drop ((ts' ++ us).length - 20), ?_, ?_⟩) kk hD20 hd0 (fun z => by rw [z, e6] at hd7; cases hd7)
      · show (upd H8 L.a _) D2 = _
        rw [upd_ne nD2]
        exact e8
      · intro p hp
        exact M.pageS (fun b o h1 _ e => kk b o h1 e) (List.mem_filter.mp hp).1
      · show (upd H8 L.a _) d = _
        rw [upd_ne nda]
        exact ed8
      · show TkAt K _ _ (lastOf 20 (m.taken ++ l.map fun p => (p.id, p.group)))
        unfold lastOf
        have hl2 : (ts' ++ us).length = (m.taken ++ l.map fun p => (p.id, p.group)).length := by
          rw [List.length_append, List.length_append, htsl, husl, List.length_map]
        rw [hl2]
        refine Paired.drop _ (Paired.app (M.tkS (fun b o h1 _ e => kk b o h1 e) tt) (TkAt.same tk8 fun t xs h => ?_))
        rcases h with (h | ⟨o, h⟩) | h
        · exact .inl (.inl (by rw [upd_ne fun z => by rw [z, es8] at h; cases h]; exact h))
        · exact .inl (.inr ⟨o, by rw [upd_ne fun z => by rw [z, es8] at h; cases h]; exact h⟩)
        · exact .inr h
end Gm
end

section
set_option maxRecDepth 100000
set_option maxHeartbeats 8000000
/-! # The walks, part 9: free, touch, alloc -/
namespace Gm
open PySem PySem.Spec PyProof.Rows L2 L2G GmM
open R7278g.Spec (live kids chain under usage newPages)
variable {P : Program} {w : World} {K : PySem.W.Frag} {mg : Str → Option Value} {base : Heap} {A : Ad} {f fI : Addr} {fd : FuncData}
/-! ### free -/
def spFree (K : PySem.W.Frag) (A : Ad) : Sp := fun vs H Q E => ∃ (L : Lay) (m : SMem) (i : Nat), vs = [.ref L.a, nV i] ∧ MemAt K A H L m ∧ match m.page i with
  | some q => ∀ ar' H', MemAt K A H' { L with ar := ar' } { m with pages := m.pages.filter fun p => p.id != i } → (∀ b o, b ≠ L.a → H b = some o → H' b = some o) → H ar' = none → Q .non H'
  | none => Rais A H E 2 "there is no such page"
theorem page_mem {m : SMem} {i : Nat} {q : SPage} (h : m.page i = some q) : q ∈ m.pages ∧ q.id = i := by
  unfold R7278g.Spec.Mem.page at h
  exact ⟨List.mem_of_find?_eq_some h, by simpa using List.find?_some h⟩
theorem ok_free (F : Fun K "free" "Memory.free" s_Memory_free f fd) (T : Txt K mg A) (h_Memory_get_page : GM P w K mg base (L2N.CX P w) 2 A.mem "get_page" ["self", "number"] (spGetPage K A)) :
    FnOk P w K mg base (L2N.CX P w) 3 f fd ["self", "number"] (spFree K A) := by
  refine okN F sc_Memory_free (fun vs H Q E h => ?_) (fun cdv A' outer s H vs Q E hr h => ⟨_, (pss_cons (ps_set (i := 2) sc_Memory_free.nd rfl (Or.inr rfl) (pe_gm h_Memory_get_page T.c_mem (hr.mono (by decide)) (passN (L2N.takes_of rfl rfl rfl rfl)) (L2.pv 0) (pa_cons (L2.pv 1) pa_nil)))
      (pss_one (ps_fld (L2.pv 0) (pe_lc (own := [("one", 3)]) (g := (gName 3)) (tt := (tTest (tOp _ (tFld K (tVar 3) "number") (tFld K (tVar 2) "number")))) (te := (tVar 3)) rfl sc_Memory_free.nd (pi_list (pe_fld (L2.pv 0) rfl)) (blkOk_by (N := N_Memory_free) (sc := defScope s_Memory_free) (by decide +kernel)) (fun _ _ _ _ _ => (pg_name (i := 3) sc_Memory_free.nd rfl (Or.inl rfl))) (fun _ _ _ _ _ => (pts_one (pt_cmpR op_ne (pe_fld (L2.pv 3) rfl) (pe_fld (L2.pv 2) rfl) (nomark _)))) (fun _ _ _ _ _ => (L2.pv 3))) rfl))), ?_⟩)
  · obtain ⟨L, m, g, rfl, _⟩ := h
    rfl
  · obtain ⟨L, m, i, rfl, M, q⟩ := h
    have hnp := M.wf.np
    refine ⟨_, rfl, M.meth (by decide +kernel) ⟨_, rfl, L, m, i, rfl, M, ?_⟩⟩
    cases hp : m.page i with
    | none =>
      rw [hp] at q
      exact q
    | some p =>
      rw [hp] at q
      obtain ⟨hpm, hpi⟩ := page_mem hp
      intro H1 s1
      have M1 := M.mono s1
      refine ⟨_, rfl, M1.f_rows T ?_⟩
      refine ⟨_, rfl, ⟨_, sq M1.rows⟩, fun D hD => ?_⟩
      have hD0 := s1.free hD
      refine lc_flat (l := m.pages) (goes_list (h := fun p => V.ref (L.ra p.id))) hD (fun H' e => e.seq (sq M1.rows)) (fun p => p.id != i) (fun p => V.ref (L.ra p.id)) (by omega) (fun j p' x H2 hp' s2 hx N Y h1 h2 => ?_) (fun H2 s2 e => ?_)
      · subst hx
        have M2 := M1.mono s2
        refine ⟨rfl, _, rfl, M2.p_number T (List.mem_of_getElem? hp') ?_⟩
        refine ⟨_, rfl, M2.p_number T hpm ?_⟩
        refine ⟨rfl, _, rfl, ?_⟩
        rw [dec_nV, hpi]
        exact iteB (fun e => ⟨_, rfl, h2 (by simpa using e) _ (Same.refl _)⟩) (fun e => h1 (by simpa using e) _ (Same.refl _))
      · have s3 := s1.trans s2
        obtain ⟨dx, es⟩ := (M.mono s3).self
        refine ⟨_, rfl, at_sfld es T.c_mem T.n_mem_rows (by show 5 < 1000; decide) ?_⟩
        rw [memF_put_rows]
        have kk : ∀ b o, b ≠ L.a → H b = some o → (upd H2 L.a (.ins A.mem dx (memF L.ag m.groups.length D m.next L.tk))) b = some o := fun b o hb e => by
          rw [upd_ne hb]
          exact s3 b o e
        have nD : D ≠ L.a := fun z => by
          obtain ⟨dx, es⟩ := M.self
          rw [z, es] at hD0
          cases hD0
        refine q D _ (M.rows' (L' := { L with ar := D }) rfl rfl rfl rfl rfl (fun b o h1 _ e => kk b o h1 e) (filter_wf M.wf _) ⟨dx, upd_same⟩ ?_ ?_ ?_) kk hD0
        · show (upd H2 L.a _) D = _
          rw [upd_ne nD]
          exact e
        · intro p hp
          exact M.pageS (fun b o h1 _ e => kk b o h1 e) (List.mem_filter.mp hp).1
        · obtain ⟨ts, et, tt⟩ := M.tk
          have ntk : L.tk ≠ L.a := fun z => by
            obtain ⟨dx, es⟩ := M.self
            rw [z, es] at et
            cases et
          exact ⟨ts, kk _ _ ntk et, M.tkS (fun b o h1 _ e => kk b o h1 e) tt⟩
/-! ### touch -/
def spTouch (K : PySem.W.Frag) (A : Ad) : Sp := fun vs H Q E => ∃ (L : Lay) (m : SMem) (i : Nat), vs = [.ref L.a, nV i] ∧ MemAt K A H L m ∧ match m.page i with
  | some q => ∀ ar' H', MemAt K A H' { L with ar := ar' } { m with pages := m.pages.filter (fun p => p.id != i) ++ [q] } → (∀ b o, b ≠ L.a → H b = some o → H' b = some o) → H ar' = none → Q .non H'
  | none => Rais A H E 2 "there is no such page"
theorem ok_touch (F : Fun K "touch" "Memory.touch" s_Memory_touch f fd) (T : Txt K mg A) (h_Memory_get_page : GM P w K mg base (L2N.CX P w) 2 A.mem "get_page" ["self", "number"] (spGetPage K A)) (h_Memory_free : GM P w K mg base (L2N.CX P w) 3 A.mem "free" ["self", "number"] (spFree K A)) :
    FnOk P w K mg base (L2N.CX P w) 4 f fd ["self", "number"] (spTouch K A) := by
  refine okN F sc_Memory_touch (fun vs H Q E h => ?_) (fun cdv A' outer s H vs Q E hr h => ⟨_, (pss_cons (ps_set (i := 2) sc_Memory_touch.nd rfl (Or.inl rfl) (pe_gm h_Memory_get_page T.c_mem (hr.mono (by decide)) (passN (L2N.takes_of rfl rfl rfl rfl)) (L2.pv 0) (pa_cons (L2.pv 1) pa_nil)))
      (pss_cons (ps_expr (pe_gm h_Memory_free T.c_mem (hr.mono (by decide)) (passN (L2N.takes_of rfl rfl rfl rfl)) (L2.pv 0) (pa_cons (L2.pv 1) pa_nil)))
      (pss_one (ps_expr (pe_bm PySem.F.plainAttrs_list PySem.F.slot_list_append PySem.F.type_list_append mt_append (pe_fld (L2.pv 0) rfl) (pa_cons (L2.pv 2) pa_nil)))))), ?_⟩)
  · obtain ⟨L, m, g, rfl, _⟩ := h
    rfl
  · obtain ⟨L, m, i, rfl, M, q⟩ := h
    have hnp := M.wf.np
    refine ⟨_, rfl, M.meth (by decide +kernel) ⟨_, rfl, L, m, i, rfl, M, ?_⟩⟩
    cases hp : m.page i with
    | none =>
      rw [hp] at q
      exact q
    | some p =>
      rw [hp] at q
      obtain ⟨hpm, hpi⟩ := page_mem hp
      intro H1 s1
      have M1 := M.mono s1
      refine ⟨_, rfl, M1.meth (by decide +kernel) ⟨_, rfl, L, m, i, rfl, M1, ?_⟩⟩
      rw [hp]
      intro ar' H2 M2 k2 har
      have har0 := s1.free har
      have kk2 : ∀ b o, b ≠ L.a → H b = some o → H2 b = some o := fun b o hb e => k2 b o hb (s1 b o e)
      refine ⟨_, rfl, M2.f_rows T ?_⟩
      have hl2 := M2.rows
      refine ⟨.inl ⟨rfl, _, sq hl2⟩, _, rfl, ar', _, _, rfl, rfl, hl2, by rw [List.length_map]; exact small_lt (Nat.lt_of_le_of_lt (List.length_filter_le _ _) (by omega)), ?_⟩
      have wf : MWF { m with pages := m.pages.filter (fun p => p.id != i) ++ [p] } := by
        have := touch_wf M.wf hpm
        rw [hpi] at this
        exact this
      have nar : ar' ≠ L.a := fun z => M2.a_ne_ar z.symm
      have kk : ∀ b o, b ≠ L.a → H b = some o → (upd H2 ar' (.lst (pgRefs { L with ar := ar' } (m.pages.filter fun p => p.id != i) ++ [V.ref (L.ra p.id)]))) b = some o := fun b o hb e => by
        rw [upd_ne fun z => by rw [z, har0] at e; cases e]
        exact kk2 b o hb e
      obtain ⟨dx, es2⟩ := M2.self
      refine q ar' _ (M.rows' (L' := { L with ar := ar' }) rfl rfl rfl rfl rfl (fun b o h1 _ e => kk b o h1 e) wf ⟨dx, ?_⟩ ?_ ?_ ?_) kk har0
      · rw [upd_ne (Ne.symm nar)]
        exact es2
      · show (upd H2 ar' _) ar' = _
        rw [upd_same]
        unfold pgRefs
        rw [List.map_append]
        rfl
      · intro p' hp'
        have : p' ∈ m.pages := by
          rcases List.mem_append.mp hp' with z | z
          · exact (List.mem_filter.mp z).1
          · rw [List.mem_singleton.mp z]
            exact hpm
        exact M.pageS (fun b o h1 _ e => kk b o h1 e) this
      · obtain ⟨ts, et, tt⟩ := M.tk
        have ntk : L.tk ≠ L.a := fun z => by
          obtain ⟨dx, es⟩ := M.self
          rw [z, es] at et
          cases et
        exact ⟨ts, kk _ _ ntk et, M.tkS (fun b o h1 _ e => kk b o h1 e) tt⟩
/-! ### alloc -/
def OpM (K : PySem.W.Frag) (A : Ad) (H : Hp) (L : Lay) (m : SMem) (E : XK) (Q : VK) (X : Addr → Prop) {α : Type} (x : R7278g.Spec.Res α) (mem : α → SMem) (val : α → V) : Prop :=
  match x with
  | .error e => RaisE A H E e
  | .ok r => ∀ L' H', MemAt K A H' L' (mem r) → L'.a = L.a → Stp (fun b => Fp L m b ∨ X b) H (Fp L' (mem r)) H' → Q (val r) H'
theorem newPages_eq (g : Nat) : ∀ (n i : Nat), newPages n i g = (List.range n).map fun k => ⟨i + k, g, .plain⟩
  | 0, _ => rfl
  | n + 1, i => by
    show (⟨i, g, .plain⟩ :: newPages n (i + 1) g : List SPage) = _
    rw [newPages_eq g n (i + 1), List.range_succ_eq_map, List.map_cons, List.map_map]
    congr 1
    refine List.map_congr_left fun k _ => ?_
    show (⟨i + 1 + k, g, .plain⟩ : SPage) = ⟨i + (k + 1), g, .plain⟩
    rw [Nat.add_assoc, Nat.add_comm 1 k]
theorem paired_new {R : Nat → V → Prop} {q : Nat → Addr → Prop} (hR : ∀ p y, R p y → ∃ t, y = V.ref t ∧ q p t) : ∀ {l : List Nat} {ys : List V}, Paired R l ys → ∃ ts : List Addr, ys = ts.map V.ref ∧ ts.length = l.length ∧ ∀ i k, l[i]? = some k → q k (ts.getD i 0)
  | _, _, .nil => ⟨[], rfl, rfl, fun i k h => by simp at h⟩
  | _, _, .cons h t => by
    obtain ⟨t1, e, q1⟩ := hR _ _ h
    obtain ⟨ts, e2, e3, q2⟩ := paired_new hR t
    refine ⟨t1 :: ts, by rw [e, e2]; rfl, by rw [List.length_cons, List.length_cons, e3], fun i k h => ?_⟩
    cases i with
    | zero =>
      have : k = _ := (Option.some.inj h).symm
      subst this
      exact q1
    | succ j => exact q2 j k h
def spAlloc (K : PySem.W.Frag) (A : Ad) : Sp := fun vs H Q E => ∃ (L : Lay) (m : SMem) (g n : Nat), vs = [.ref L.a, nV g, nV n] ∧ MemAt K A H L m ∧ n ≤ 2000 ∧ OpM K A H L m E Q (fun _ => False) (m.alloc g n) (fun r => r.2) (fun r => nV r.1)
theorem ok_alloc (F : Fun K "alloc" "Memory.alloc" s_Memory_alloc f fd) (T : Txt K mg A) (h_need_range : GF P w K mg base (L2N.CX P w) 1 "need_range" ["truth", "message"] (spNeed A 2))
    (h_Memory_need_group : GM P w K mg base (L2N.CX P w) 2 A.mem "need_group" ["self", "number"] (spNeedG K A)) (h_Memory_kids : GM P w K mg base CX0 1 A.mem "kids" ["self", "number"] (spKids K A))
    (h_Memory_take : GM P w K mg base (L2N.CX P w) 2 A.mem "take" ["self", "pages"] (spTake K A)) (h_Memory_choice : GM P w K mg base CX0 6 A.mem "choice" ["self", "needs"] (spChoice K A))
    (h_Memory_needs_of : GM P w K mg base CX0 3 A.mem "needs_of" ["self", "number", "count"] (spNeedsOf K A)) (h_Page : GC P w K mg base CX0 1 "Page" A.pag ["self", "number", "group", "state"] (spPagI A)) :
    FnOk P w K mg base (L2N.CX P w) 7 f fd ["self", "number", "count"] (spAlloc K A) := by
  refine okN F sc_Memory_alloc (fun vs H Q E h => ?_) (fun cdv A' outer s H vs Q E hr h => ⟨_, (pss_cons (ps_expr (pe_gm h_Memory_need_group T.c_mem (hr.mono (by decide)) (passN (L2N.takes_of rfl rfl rfl rfl)) (L2.pv 0) (pa_cons (L2.pv 1) pa_nil)))
      (pss_cons (ps_expr (pe_gf h_need_range (hr.mono (by decide)) (passN (L2N.takes_of rfl rfl rfl rfl)) (pa_cons (pe_cmpR op_eq (pe_callB call_len_seq (by rfl) T.b_len PySem.boot_len (pa_cons (pe_gm h_Memory_kids T.c_mem (hr.mono (by decide)) pass0 (L2.pv 0) (pa_cons (L2.pv 1) pa_nil)) pa_nil)) pe_int (nomark _)) (pa_cons pe_str pa_nil))))
      (pss_cons (ps_expr (pe_gf h_need_range (hr.mono (by decide)) (passN (L2N.takes_of rfl rfl rfl rfl)) (pa_cons (pe_cmpR op_le (pe_op op_add (pe_callB call_len_seq (by rfl) T.b_len PySem.boot_len (pa_cons (pe_fld (L2.pv 0) rfl) pa_nil)) (L2.pv 2)) (pe_gl T.g_MOST_PAGES) (nomark _)) (pa_cons pe_str pa_nil))))
      (pss_cons (ps_expr (pe_gm h_Memory_take T.c_mem (hr.mono (by decide)) (passN (L2N.takes_of rfl rfl rfl rfl)) (L2.pv 0) (pa_cons (pe_gm h_Memory_choice T.c_mem (hr.mono (by decide)) pass0 (L2.pv 0) (pa_cons (pe_gm h_Memory_needs_of T.c_mem (hr.mono (by decide)) pass0 (L2.pv 0) (pa_cons (L2.pv 1) (pa_cons (L2.pv 2) pa_nil))) pa_nil)) pa_nil)))
      (pss_cons (ps_set (i := 3) sc_Memory_alloc.nd rfl (Or.inr rfl) (pe_fld (L2.pv 0) rfl))
      (pss_cons (ps_expr (pe_bm PySem.F.plainAttrs_list PySem.F.slot_list_extend PySem.F.type_list_extend mt_extend (pe_fld (L2.pv 0) rfl) (pa_cons (pe_lc (own := [("at", 4)]) (g := (gName 4)) (tt := tYes) (te := (tMake _ _ [] _ (tCons (tOp _ (tVar 3) (tVar 4)) (tCons (tVar 1) (tCons _ tNil))))) rfl sc_Memory_alloc.nd (pi_range1 (by rfl) T.b_range (pa_cons (L2.pv 2) pa_nil)) (blkOk_by (N := N_Memory_alloc) (sc := defScope s_Memory_alloc) (by decide +kernel)) (fun _ _ _ _ _ => (pg_name (i := 4) sc_Memory_alloc.nd rfl (Or.inl rfl))) (fun _ _ _ _ _ => pts_nil) (fun _ _ _ _ _ => (pe_gc h_Page (hr.mono (by decide)) pass0 (pa_cons (pe_op op_add (L2.pv 3) (L2.pv 4)) (pa_cons (L2.pv 1) (pa_cons (pe_gl T.g_PLAIN_memories) pa_nil)))))) pa_nil)))
      (pss_cons (ps_fldaug (L2.pv 0) (L2.pv 2) in_add)
      (pss_one (ps_ret (L2.pv 3)))))))))), ?_⟩)
  · obtain ⟨L, m, g, n, rfl, _⟩ := h
    rfl
  · obtain ⟨L, m, g, n, rfl, M, hn, q⟩ := h
    have hnp := M.wf.np
    refine ⟨_, rfl, M.meth (by decide +kernel) ⟨_, rfl, L, m, g, rfl, M, fun lg => ?_, fun lg => ?_⟩⟩
    rotate_left
    · have e : m.alloc g n = .error (R7278g.Spec.rangeErr "there is no such group") := by
        unfold R7278g.Spec.Mem.alloc R7278g.Spec.Mem.group R7278g.Spec.Mem.isLive
        rw [lg]
        rfl
      rw [e] at q
      have q : Rais A H E 2 (strU (R7278g.Spec.units "there is no such group")) := q
      rw [str_no_group] at q
      exact q
    · have hgr : m.group g = .ok () := by
        unfold R7278g.Spec.Mem.group R7278g.Spec.Mem.isLive
        rw [lg]
        rfl
      refine ⟨_, rfl, M.meth (by decide +kernel) ⟨_, rfl, L, m, g, rfl, M.toMemR, fun kd H1 s1 hk0 hk => ?_⟩⟩
      refine ⟨kd, _, rfl, .inl (sq hk), rfl, _, _, rfl, ?_⟩
      have hlen0 : decide (V.int ((((kids m.groups g).map nV).length : Nat) : Int) = V.int 0) = (kids m.groups g).isEmpty := by
        rw [List.length_map]
        refine Eq.trans (@dec_nV (kids m.groups g).length 0) ?_
        cases kids m.groups g <;> simp
      rw [hlen0]
      refine ⟨fun he => ?_, fun he => ?_⟩
      rotate_left
      · have e : m.alloc g n = .error (R7278g.Spec.rangeErr "the group has groups") := by
          unfold R7278g.Spec.Mem.alloc
          rw [hgr, he]
          rfl
        rw [e] at q
        have q : Rais A H E 2 (strU (R7278g.Spec.units "the group has groups")) := q
        rw [str_has_groups] at q
        exact Rais.mono q s1
      · have M1 := M.mono s1
        refine ⟨_, rfl, M1.f_rows T ?_⟩
        refine ⟨L.ar, _, rfl, .inl (sq M1.rows), _, rfl, _, _, rfl, rfl, _, _, rfl, rfl, _, _, rfl, ?_⟩
        rw [List.length_map]
        refine ⟨fun h2 => ?_, fun h2 => ?_⟩
        rotate_left
        · have h2' : ¬ ((m.pages.length : Int) + (n : Int) ≤ 2000) := of_decide_eq_false h2
          have e : m.alloc g n = .error (R7278g.Spec.rangeErr "there are more than 2000 pages") := by
            unfold R7278g.Spec.Mem.alloc
            rw [hgr, he]
            exact if_pos (show 2000 < m.pages.length + n by omega)
          rw [e] at q
          have q : Rais A H E 2 (strU (R7278g.Spec.units "there are more than 2000 pages")) := q
          rw [str_2000] at q
          exact Rais.mono q s1
        · have h2' : ((m.pages.length : Int) + (n : Int) ≤ 2000) := of_decide_eq_true h2
          have e0 : m.alloc g n = match m.plan g n with
              | none => .error (R7278g.Spec.rangeErr "out of memory")
              | some l => .ok (m.next, { m.take l with pages := (m.take l).pages ++ newPages n m.next g, next := m.next + n }) := by
            unfold R7278g.Spec.Mem.alloc
            rw [hgr, he]
            exact (if_neg (show ¬ 2000 < m.pages.length + n by omega)).trans rfl
          rw [e0] at q
          refine ⟨_, rfl, M1.meth (by decide +kernel) ⟨_, rfl, M1.meth (by decide +kernel) ⟨_, rfl, M1.meth (by decide +kernel) ⟨_, rfl, _, rfl, L, m, g, n, rfl, M1, lg, fun nd H2 s2 hnd0 hnd => ?_⟩⟩⟩⟩
          have s3 := s1.trans s2
          have M2 := M.mono s3
          refine ⟨L, m, nd, _, _, rfl, M2, hnd, M.wf.g.chain_nodup lg, M.wf.g.chain_len lg, ?_⟩
          have epl : m.pick (needL (chain m.groups g) fun a => m.usage a + n - (m.groups.at_ a).max) = m.plan g n := rfl
          rw [epl]
          cases hpl : m.plan g n with
          | none =>
            rw [hpl] at q
            have q : Rais A H E 2 (strU (R7278g.Spec.units "out of memory")) := q
            rw [str_memory] at q
            intro H3 s4
            exact ⟨L, m, .non, rfl, M2.mono s4, .inl ⟨rfl, Rais.mono q (s3.trans s4)⟩⟩
          | some l =>
            rw [hpl] at q
            have hsub : l.Sublist m.pages := pick_order hpl
            intro lp H3 s4 hlp0 hlp
            have s5 := s3.trans s4
            refine ⟨L, m, .ref lp, rfl, M.mono s5, .inr ⟨lp, l, rfl, hlp, hsub, fun ar' tk' H4 M4 k4 har htk ntr => ?_⟩⟩
            have har0 := s5.free har
            have htk0 := s5.free htk
            have k0 : ∀ b o, b ≠ L.a → H b = some o → H4 b = some o := fun b o hb e => k4 b o hb (s5 b o e)
            clear s1 s2 s3 s4 s5 hk0 hk hnd0 hnd hlp0 hlp M1 M2 k4 har htk
            refine ⟨_, rfl, M4.f_next T ?_⟩
            refine ⟨_, rfl, M4.f_rows T ?_⟩
            refine ⟨.inl ⟨rfl, _, sq M4.rows⟩, ?_⟩
            refine ⟨_, rfl, n, rfl, by omega, by omega, fun D hD => ?_⟩
            refine lc_goes (goes_range (lo := 0) (n := n)) hD (fun _ _ => trivial) (fun _ => true) (fun k y H => ∃ x dx, y = V.ref x ∧ H4 x = none ∧ H x = some (.ins A.pag dx (pagF (m.next + k) g "plain")))
              (fun k y H H' kk ⟨xs, e⟩ ⟨x, dx, e1, h0, h⟩ => ⟨x, dx, e1, h0, kk x _ (fun z => by rw [z, e] at h; cases h) h⟩) (by rw [List.length_range]; omega) (fun i k v H5 hk s5 hx N Y h1 h2 => ?_) (fun H5 ys s5 e5 hp => ?_)
            · obtain ⟨_, rfl⟩ := hx
              refine ⟨rfl, yes ⟨_, rfl, _, rfl, _, _, rfl, rfl, _, rfl, ?_⟩⟩
              intro x dx hx hdx nex
              have e : ((m.next : Int) + (0 + (k : Int))) = ((m.next + k : Nat) : Int) := by omega
              refine ⟨x, dx, m.next + k, g, "plain", ?_, upd_same, rfl, ?_⟩
              · show [V.ref x, V.int ((m.next : Int) + (0 + (k : Int))), nV g, V.str "plain"] = _
                rw [e]
              · rw [upd_upd]
                exact h2 rfl _ _ ((Same.new hdx).mut hx) ⟨x, dx, rfl, s5.free hx, upd_same⟩
            rw [filter_all] at hp
            obtain ⟨as, e1, e2, e3⟩ := paired_new (q := fun k x => H4 x = none ∧ ∃ dx, H5 x = some (.ins A.pag dx (pagF (m.next + k) g "plain"))) (fun p y ⟨x, dx, h1, h2, h3⟩ => ⟨x, h1, h2, dx, h3⟩) hp
            rw [List.length_range] at e2
            have eas : ∀ k, k < n → H4 (as.getD k 0) = none ∧ ∃ dx, H5 (as.getD k 0) = some (.ins A.pag dx (pagF (m.next + k) g "plain")) := fun k hk => e3 k k (by rw [List.getElem?_range hk])
            have hl5 := s5 _ _ M4.rows
            have hlen4 : (m.take l).pages.length ≤ m.pages.length := List.length_filter_le _ _
            refine ⟨ar', D, _, _, rfl, rfl, hl5, e5, by rw [e1, List.length_map, List.length_map, e2]; exact small_line (by omega), ?_⟩
            obtain ⟨dx, es⟩ := M4.self
            have nar : ar' ≠ L.a := fun z => M4.a_ne_ar z.symm
            have es5 : (upd H5 ar' (.lst (pgRefs { L with ar := ar', tk := tk' } (m.take l).pages ++ ys))) L.a = some (.ins A.mem dx (memF L.ag m.groups.length ar' m.next tk')) := by
              rw [upd_ne (Ne.symm nar)]
              exact s5 _ _ es
            refine ⟨_, rfl, L.a, A.mem, dx, _, _, rfl, es5, T.c_mem, T.n_mem_next_page, memF_next_page .., _, rfl, _, _, rfl, rfl, dx, _, es5, by show 5 < 1000; decide, ?_⟩
            have ep : putF "next_page" (.int ((m.next : Int) + (n : Int))) (memF L.ag m.groups.length ar' m.next tk') = memF L.ag m.groups.length ar' (m.next + n) tk' := memF_put_next_page .. 
            rw [ep]
            refine ⟨_, rfl, ?_⟩
            have wf := alloc_wf M.wf l lg (List.isEmpty_iff.mp he) (n := n) (by omega)
            have k5 : ∀ b o, b ≠ L.a → b ≠ ar' → H4 b = some o → (upd (upd H5 ar' (.lst (pgRefs { L with ar := ar', tk := tk' } (m.take l).pages ++ ys))) L.a (.ins A.mem dx (memF L.ag m.groups.length ar' (m.next + n) tk'))) b = some o := fun b o h1 h2 e => by
              rw [upd_ne h1, upd_ne h2]
              exact s5 b o e
            have hr1 : ∀ p ∈ (m.take l).pages, p.id < m.next := (take_wf M.wf l).nx
            have hnew : ∀ p ∈ newPages n m.next g, ∃ k, k < n ∧ p = ⟨m.next + k, g, .plain⟩ := fun p hp => by
              rw [newPages_eq] at hp
              obtain ⟨k, hk, e⟩ := List.mem_map.mp hp
              exact ⟨k, List.mem_range.mp hk, e.symm⟩
            have hx4 : ∀ k, k < n → H (as.getD k 0) = none := fun k hk => by
              cases z : H (as.getD k 0) with
              | none => rfl
              | some o =>
                have h4 := (eas k hk).1
                have na : as.getD k 0 ≠ L.a := fun z => by rw [z, es] at h4; cases h4
                rw [k0 _ _ na z] at h4
                cases h4
            refine q ⟨L.a, L.ag, ar', tk', L.ga, L.la, fun id => if id < m.next then L.ra id else as.getD (id - m.next) 0⟩ _
              (M4.rows' (L' := ⟨L.a, L.ag, ar', tk', L.ga, L.la, fun id => if id < m.next then L.ra id else as.getD (id - m.next) 0⟩) rfl rfl rfl rfl rfl k5 wf ⟨dx, upd_same⟩ ?_ ?_ ?_) rfl ⟨fun b o e hb => ?_, fun b hb => ?_⟩
            · show (upd (upd H5 ar' _) L.a _) ar' = some (.lst (pgRefs _ ((m.take l).pages ++ newPages n m.next g)))
              rw [upd_ne nar, upd_same]
              unfold pgRefs
              rw [List.map_append, e1]
              congr 3
              · refine List.map_congr_left fun p hp => ?_
                show V.ref (L.ra p.id) = V.ref (if p.id < m.next then L.ra p.id else _)
                rw [if_pos (hr1 p hp)]
              · rw [newPages_eq, List.map_map]
                refine List.ext_getElem (by rw [List.length_map, List.length_map, List.length_range, e2]) fun i h1 h2 => ?_
                rw [List.getElem_map, List.getElem_map, List.getElem_range]
                have hia : i < as.length := by rw [List.length_map] at h1; exact h1
                show V.ref as[i] = V.ref (if m.next + i < m.next then _ else as.getD (m.next + i - m.next) 0)
                rw [if_neg (by omega), Nat.add_sub_cancel_left, List.getD_eq_getElem?_getD, List.getElem?_eq_getElem hia]
                rfl
            · intro p hp
              rcases List.mem_append.mp hp with hp | hp
              · show ∃ dx, _ = _
                have := M4.pageS k5 hp
                show ∃ dx', (upd (upd H5 ar' _) L.a _) (if p.id < m.next then L.ra p.id else _) = _
                rw [if_pos (hr1 p hp)]
                exact this
              · obtain ⟨k, hk, rfl⟩ := hnew p hp
                obtain ⟨h4, dx', h5⟩ := eas k hk
                show ∃ dx', (upd (upd H5 ar' _) L.a _) (if m.next + k < m.next then _ else as.getD (m.next + k - m.next) 0) = _
                rw [if_neg (by omega), Nat.add_sub_cancel_left]
                refine ⟨dx', ?_⟩
                have n1 : as.getD k 0 ≠ L.a := fun z => by rw [z, es] at h4; cases h4
                have n2 : as.getD k 0 ≠ ar' := fun z => by rw [z, M4.rows] at h4; cases h4
                rw [upd_ne n1, upd_ne n2]
                exact h5
            · obtain ⟨ts, et, tt⟩ := M4.tk
              refine ⟨ts, k5 _ _ (fun z => ?_) (fun z => ?_) et, M4.tkS k5 tt⟩
              · have et : H4 tk' = _ := et
                have z : tk' = L.a := z
                rw [z, es] at et
                cases et
              · exact ntr z
            · have hb' : ¬ Fp L m b := fun h => hb (.inl h)
              exact k5 b o (fun z => hb' (z ▸ Fp.self)) (fun z => by rw [z, har0] at e; cases e) (k0 b o (fun z => hb' (z ▸ Fp.self)) e)
            · have hpg : ∀ p ∈ (m.take l).pages ++ newPages n m.next g, (∃ q ∈ m.pages, (if p.id < m.next then L.ra p.id else as.getD (p.id - m.next) 0) = L.ra q.id) ∨ H (if p.id < m.next then L.ra p.id else as.getD (p.id - m.next) 0) = none := by
                intro p hp
                rcases List.mem_append.mp hp with hp | hp
                · exact .inl ⟨p, (List.mem_filter.mp hp).1, if_pos (hr1 p hp)⟩
                · obtain ⟨k, hk, rfl⟩ := hnew p hp
                  right
                  show H (if m.next + k < m.next then _ else as.getD (m.next + k - m.next) 0) = none
                  rw [if_neg (by omega), Nat.add_sub_cancel_left]
                  exact hx4 k hk
              rcases Fp.rows' (L := L) (L' := ⟨L.a, L.ag, ar', tk', L.ga, L.la, fun id => if id < m.next then L.ra id else as.getD (id - m.next) 0⟩) (m := m) (m' := { m.take l with pages := (m.take l).pages ++ newPages n m.next g, next := m.next + n }) (H := H) rfl rfl rfl rfl rfl (.inr har0) (.inr htk0) hpg hb with h | h
              · exact .inl (.inl h)
              · exact .inr h
end Gm
end

section
set_option maxRecDepth 100000
set_option maxHeartbeats 8000000
/-! # The walks, part 10: what changes a memory's groups -/
namespace Gm
open PySem PySem.Spec PyProof.Rows L2 L2G GmM
open R7278g.Spec (live kids chain under usage setGroup movedGroups fitsAll)
variable {P : Program} {w : World} {K : PySem.W.Frag} {mg : Str → Option Value} {base : Heap} {A : Ad} {f fI : Addr} {fd : FuncData}
theorem MemAt.groups' {H H' : Hp} {L L' : Lay} {m m' : SMem} (M : MemAt K A H L m) {g0 : Nat} (h0 : live m.groups g0 = true) (k : ∀ b o, b ≠ L.a → b ≠ L.ag → b ≠ L.ga g0 → H b = some o → H' b = some o)
    (ha : L'.a = L.a) (hr : L'.ar = L.ar) (ht : L'.tk = L.tk) (hra : L'.ra = L.ra) (hp : m'.pages = m.pages) (hx : m'.next = m.next) (htk : m'.taken = m.taken) (wf : MWF m')
    (self : ∃ dx, H' L.a = some (.ins A.mem dx (memF L'.ag m'.groups.length L.ar m.next L.tk))) (own : H' L'.ag = some (Gm.grps L' m'))
    (grp : ∀ g, live m'.groups g = true → ∃ dx, H' (L'.ga g) = some (.ins A.grp dx (grpF (parV m'.groups g) (L'.la g))))
    (lim : ∀ g, live m'.groups g = true → ∃ dx, H' (L'.la g) = some (.ins A.lim dx (limF (m'.groups.at_ g).max (m'.groups.at_ g).min (m'.groups.at_ g).low)))
    (inj : ∀ g h, live m'.groups g = true → live m'.groups h = true → L'.ga g = L'.ga h → g = h) : MemAt K A H' L' m' := by
  obtain ⟨sx, es⟩ := M.self
  obtain ⟨gx, eg⟩ := M.grp g0 h0
  have na : ∀ {b o}, H b = some o → (∀ C dx fs, o ≠ .ins C dx fs) → (∀ kvs, o ≠ .dK kvs) → H' b = some o := fun {b o} e n1 n2 => by
    refine k b o (fun z => ?_) (fun z => ?_) (fun z => ?_) e
    · rw [z, es] at e
      exact n1 _ _ _ (Option.some.inj e).symm
    · rw [z, M.own] at e
      exact n2 _ (Option.some.inj e).symm
    · rw [z, eg] at e
      exact n1 _ _ _ (Option.some.inj e).symm
  refine ⟨⟨wf, ?_, .inl own, grp, lim, ?_, fun p hpm => ?_, ?_, inj⟩, own⟩
  · rw [ha, hr, ht, hx]
    exact self
  · rw [hr, hp]
    have := na M.rows (fun _ _ _ z => by cases z) (fun _ z => by cases z)
    rw [this]
    unfold pgRefs
    rw [hra]
  · rw [hp] at hpm
    rw [hra]
    obtain ⟨dx, e⟩ := M.page p hpm
    refine ⟨dx, k _ _ (fun z => ?_) (fun z => ?_) (fun z => ?_) e⟩
    · rw [z, es] at e
      have := Option.some.inj e
      injection this with _ _ z
      exact mem_ne_pag z
    · rw [z, M.own] at e
      cases e
    · rw [z, eg] at e
      have := Option.some.inj e
      injection this with _ _ z
      exact pag_ne_grp z.symm
  · obtain ⟨ts, e, t⟩ := M.tk
    rw [ht, htk]
    refine ⟨ts, na e (fun _ _ _ z => by cases z) (fun _ z => by cases z), TkAt.same t fun b xs h => ?_⟩
    rcases h with (h | ⟨o, h⟩) | h
    · exact .inl (.inl (na h (fun _ _ _ z => by cases z) (fun _ z => by cases z)))
    · exact .inl (.inr ⟨o, na h (fun _ _ _ z => by cases z) (fun _ z => by cases z)⟩)
    · exact .inr h
section
variable {H : Hp} {L : Lay} {m : SMem}
theorem MemAt.a_ne_ag (M : MemAt K A H L m) : L.a ≠ L.ag := fun z => by
  obtain ⟨sx, es⟩ := M.self
  rw [z, M.own] at es
  cases es
theorem MemAt.ga_ne (M : MemAt K A H L m) {g : Nat} (h : live m.groups g = true) : L.ga g ≠ L.a ∧ L.ga g ≠ L.ag ∧ L.ga g ≠ L.ar ∧ L.ga g ≠ L.tk := by
  obtain ⟨sx, es⟩ := M.self
  obtain ⟨gx, eg⟩ := M.grp g h
  obtain ⟨ts, et, _⟩ := M.tk
  refine ⟨fun z => ?_, fun z => ?_, fun z => ?_, fun z => ?_⟩
  · rw [z, es] at eg
    have := Option.some.inj eg
    injection this with _ _ z
    exact mem_ne_grp z
  · rw [z, M.own] at eg
    cases eg
  · rw [z, M.rows] at eg
    cases eg
  · rw [z, et] at eg
    cases eg
theorem MemAt.la_ne (M : MemAt K A H L m) {g h : Nat} (hg : live m.groups g = true) (hh : live m.groups h = true) : L.la g ≠ L.a ∧ L.la g ≠ L.ag ∧ L.la g ≠ L.ga h := by
  obtain ⟨sx, es⟩ := M.self
  obtain ⟨gx, eg⟩ := M.grp h hh
  obtain ⟨lx, el⟩ := M.lim g hg
  refine ⟨fun z => ?_, fun z => ?_, fun z => ?_⟩
  · rw [z, es] at el
    have := Option.some.inj el
    injection this with _ _ z
    exact mem_ne_lim z
  · rw [z, M.own] at el
    cases el
  · rw [z, eg] at el
    have := Option.some.inj el
    injection this with _ _ z
    exact lim_ne_grp z.symm
end
/-! ### add_group -/
theorem group_ok {m : SMem} {g : Nat} (h : live m.groups g = true) : m.group g = .ok () := by
  unfold R7278g.Spec.Mem.group R7278g.Spec.Mem.isLive
  rw [h]
  rfl
theorem group_no {m : SMem} {g : Nat} (h : live m.groups g = false) : m.group g = .error (R7278g.Spec.rangeErr "there is no such group") := by
  unfold R7278g.Spec.Mem.group R7278g.Spec.Mem.isLive
  rw [h]
  rfl
def spAddGroup (K : PySem.W.Frag) (A : Ad) : Sp := fun vs H Q E => ∃ (L : Lay) (m : SMem) (p : Nat) (la ldx : Addr) (a b c : Nat), vs = [.ref L.a, nV p, .ref la] ∧ MemAt K A H L m ∧ H la = some (.ins A.lim ldx (limF a b c)) ∧ ¬ Fp L m la ∧
  OpM K A H L m E Q (fun x => x = la) (m.add p a b c) (fun r => r.2) (fun r => nV r.1)
theorem ok_add_group (F : Fun K "add_group" "Memory.add_group" s_Memory_add_group f fd) (T : Txt K mg A) (h_need_range : GF P w K mg base (L2N.CX P w) 1 "need_range" ["truth", "message"] (spNeed A 2))
    (h_Memory_need_group : GM P w K mg base (L2N.CX P w) 2 A.mem "need_group" ["self", "number"] (spNeedG K A)) (h_Memory_has_pages : GM P w K mg base CX0 1 A.mem "has_pages" ["self", "number"] (spHasPages K A))
    (h_Group : GC P w K mg base CX0 1 "Group" A.grp ["self", "parent", "limits"] (spGrpI A)) :
    FnOk P w K mg base (L2N.CX P w) 3 f fd ["self", "parent", "limits"] (spAddGroup K A) := by
  refine okN F sc_Memory_add_group (fun vs H Q E h => ?_) (fun cdv A' outer s H vs Q E hr h => ⟨_, (pss_cons (ps_expr (pe_gm h_Memory_need_group T.c_mem (hr.mono (by decide)) (passN (L2N.takes_of rfl rfl rfl rfl)) (L2.pv 0) (pa_cons (L2.pv 1) pa_nil)))
      (pss_cons (ps_expr (pe_gf h_need_range (hr.mono (by decide)) (passN (L2N.takes_of rfl rfl rfl rfl)) (pa_cons (pe_not (pe_gm h_Memory_has_pages T.c_mem (hr.mono (by decide)) pass0 (L2.pv 0) (pa_cons (L2.pv 1) pa_nil))) (pa_cons pe_str pa_nil))))
      (pss_cons (ps_expr (pe_gf h_need_range (hr.mono (by decide)) (passN (L2N.takes_of rfl rfl rfl rfl)) (pa_cons (pe_cmpR op_lt (pe_fld (L2.pv 0) rfl) (pe_gl T.g_MOST_GROUPS) (nomark _)) (pa_cons pe_str pa_nil))))
      (pss_cons (ps_dput (hu_of hr) (pe_fld (L2.pv 0) rfl) (pe_fld (L2.pv 0) rfl) (pe_gc h_Group (hr.mono (by decide)) pass0 (pa_cons (L2.pv 1) (pa_cons (L2.pv 2) pa_nil))) rfl)
      (pss_cons (ps_fldaug (L2.pv 0) pe_int in_add)
      (pss_one (ps_ret (pe_op op_sub (pe_fld (L2.pv 0) rfl) pe_int)))))))), ?_⟩)
  · obtain ⟨L, m, p, la, ldx, a, b, c, rfl, _⟩ := h
    rfl
  · obtain ⟨L, m, p, la, ldx, a, b, c, rfl, M, hla, nfp, q⟩ := h
    refine ⟨_, rfl, M.meth (by decide +kernel) ⟨_, rfl, L, m, p, rfl, M, fun lg => ?_, fun lg => ?_⟩⟩
    rotate_left
    · have e : m.add p a b c = .error (R7278g.Spec.rangeErr "there is no such group") := by
        unfold R7278g.Spec.Mem.add
        rw [group_no lg]
        rfl
      rw [e] at q
      have q : Rais A H E 2 (strU (R7278g.Spec.units "there is no such group")) := q
      rw [str_no_group] at q
      exact q
    refine ⟨_, rfl, M.meth (by decide +kernel) ⟨_, rfl, L, m, p, rfl, M.toMemR, fun H1 s1 => ?_⟩⟩
    refine ⟨_, rfl, _, _, rfl, fun he => ?_, fun he => ?_⟩
    rotate_left
    · have he : (m.pages.any fun q => q.group == p) = true := by simpa using he
      have e : m.add p a b c = .error (R7278g.Spec.rangeErr "the group has pages") := by
        unfold R7278g.Spec.Mem.add
        rw [group_ok lg]
        exact if_pos he
      rw [e] at q
      have q : Rais A H E 2 (strU (R7278g.Spec.units "the group has pages")) := q
      rw [str_has_pages] at q
      exact Rais.mono q s1
    have he : (m.pages.any fun q => q.group == p) = false := by simpa using he
    have M1 := M.mono s1
    refine ⟨_, rfl, M1.f_made T ?_⟩
    refine ⟨_, _, rfl, rfl, _, _, rfl, fun h2 => ?_, fun h2 => ?_⟩
    rotate_left
    · have h2 : ¬ ((m.groups.length : Int) < 40) := of_decide_eq_false h2
      have e : m.add p a b c = .error (R7278g.Spec.rangeErr "there are more than 40 groups") := by
        unfold R7278g.Spec.Mem.add
        rw [group_ok lg]
        exact (if_neg (by rw [he]; decide)).trans (if_pos (show 40 ≤ m.groups.length by omega))
      rw [e] at q
      have q : Rais A H E 2 (strU (R7278g.Spec.units "there are more than 40 groups")) := q
      rw [str_40] at q
      exact Rais.mono q s1
    have h2 : ((m.groups.length : Int) < 40) := of_decide_eq_true h2
    have e0 : m.add p a b c = .ok (m.groups.length, { m with groups := m.groups ++ [⟨p, a, b, c, false⟩] }) := by
      unfold R7278g.Spec.Mem.add
      rw [group_ok lg]
      exact (if_neg (by rw [he]; decide)).trans (if_neg (show ¬ 40 ≤ m.groups.length by omega))
    rw [e0] at q
    have wf := add_wf M.wf (a := a) (b := b) (c := c) lg (by omega) he
    refine ⟨_, rfl, _, rfl, ?_⟩
    intro x gx hx hgx nex
    refine ⟨x, gx, nV p, la, rfl, upd_same, rfl, ?_⟩
    rw [upd_upd]
    have hx0 := s1.free hx
    have s2 : Same H (upd (upd H1 gx (.own x)) x (.ins A.grp gx (grpF (nV p) la))) := (s1.trans (Same.new hgx)).trans (Same.new (by rw [upd_ne (Ne.symm nex)]; exact hx))
    have ex2 : (upd (upd H1 gx (.own x)) x (.ins A.grp gx (grpF (nV p) la))) x = some (.ins A.grp gx (grpF (nV p) la)) := upd_same
    generalize (upd (upd H1 gx (.own x)) x (.ins A.grp gx (grpF (nV p) la))) = H2 at *
    have M2 := M.mono s2
    have hlen := M.wf.g.len
    have hll := liveL_len m.groups
    have hnl : m.groups.length ∉ liveL m.groups := fun h => by
      have := live_lt (mem_liveL.mp h)
      omega
    refine ⟨_, rfl, M2.f_groups T ?_⟩
    refine ⟨_, rfl, M2.f_made T ?_⟩
    refine ⟨_, _, rfl, dput_new M2.own hnl (by omega), ?_⟩
    obtain ⟨dx, es⟩ := M2.self
    have nag := M.a_ne_ag
    have es3 : (upd H2 L.ag (.dK (kvF (liveL m.groups ++ [m.groups.length]) fun y => if y = m.groups.length then V.ref x else V.ref (L.ga y)))) L.a = some (.ins A.mem dx (memF L.ag m.groups.length L.ar m.next L.tk)) := by
      rw [upd_ne nag]
      exact es
    refine ⟨_, rfl, L.a, A.mem, dx, _, _, rfl, es3, T.c_mem, T.n_mem_made, memF_made .., _, _, rfl, rfl, dx, _, es3, by show 5 < 1000; decide, ?_⟩
    have ep : putF "made" (.int ((m.groups.length : Int) + 1)) (memF L.ag m.groups.length L.ar m.next L.tk) = memF L.ag (m.groups.length + 1) L.ar m.next L.tk := memF_put_made ..
    rw [ep]
    have nxa : x ≠ L.a := fun z => by
      obtain ⟨dx, es⟩ := M.self
      rw [z, es] at hx0
      cases hx0
    have nxg : x ≠ L.ag := fun z => by rw [z, M.own] at hx0; cases hx0
    have nla : la ≠ L.a := fun z => nfp (z ▸ Fp.self)
    have nlg : la ≠ L.ag := fun z => nfp (z ▸ Fp.grps)
    have es4 : (upd (upd H2 L.ag (.dK (kvF (liveL m.groups ++ [m.groups.length]) fun y => if y = m.groups.length then V.ref x else V.ref (L.ga y)))) L.a (.ins A.mem dx (memF L.ag (m.groups.length + 1) L.ar m.next L.tk))) L.a = some (.ins A.mem dx (memF L.ag (m.groups.length + 1) L.ar m.next L.tk)) := upd_same
    have eg4 : (upd (upd H2 L.ag (.dK (kvF (liveL m.groups ++ [m.groups.length]) fun y => if y = m.groups.length then V.ref x else V.ref (L.ga y)))) L.a (.ins A.mem dx (memF L.ag (m.groups.length + 1) L.ar m.next L.tk))) L.ag = some (.dK (kvF (liveL m.groups ++ [m.groups.length]) fun y => if y = m.groups.length then V.ref x else V.ref (L.ga y))) := by
      rw [upd_ne (Ne.symm nag), upd_same]
    have k4 : ∀ b o, b ≠ L.a → b ≠ L.ag → H2 b = some o → (upd (upd H2 L.ag (.dK (kvF (liveL m.groups ++ [m.groups.length]) fun y => if y = m.groups.length then V.ref x else V.ref (L.ga y)))) L.a (.ins A.mem dx (memF L.ag (m.groups.length + 1) L.ar m.next L.tk))) b = some o := fun b o h1 h2 e => by
      rw [upd_ne h1, upd_ne h2]
      exact e
    generalize (upd (upd H2 L.ag (.dK (kvF (liveL m.groups ++ [m.groups.length]) fun y => if y = m.groups.length then V.ref x else V.ref (L.ga y)))) L.a (.ins A.mem dx (memF L.ag (m.groups.length + 1) L.ar m.next L.tk))) = H4 at *
    refine ⟨_, rfl, at_fld es4 T.c_mem T.n_mem_made (memF_made ..) ?_⟩
    refine ⟨_, _, rfl, rfl, ?_⟩
    have er : V.int (((m.groups.length + 1 : Nat) : Int) - 1) = nV m.groups.length := by
      have : (((m.groups.length + 1 : Nat) : Int) - 1) = (m.groups.length : Int) := by omega
      rw [this]
    show Q (V.int (((m.groups.length + 1 : Nat) : Int) - 1)) H4
    rw [er]
    have k0 : ∀ b o, b ≠ L.a → b ≠ L.ag → H b = some o → H4 b = some o := fun b o h1 h2 e => k4 b o h1 h2 (s2 b o e)
    have newG : ∀ g, live (m.groups ++ [⟨p, a, b, c, false⟩]) g = true → (g < m.groups.length ∧ live m.groups g = true) ∨ g = m.groups.length := fun g hl => by
      rcases lt_add hl with h | h
      · rw [live_add h] at hl
        exact .inl ⟨h, hl⟩
      · exact .inr h
    refine q { L with ga := fun g => if g = m.groups.length then x else L.ga g, la := fun g => if g = m.groups.length then la else L.la g } H4
      (M.groups' (L' := { L with ga := fun g => if g = m.groups.length then x else L.ga g, la := fun g => if g = m.groups.length then la else L.la g }) M.wf.g.root (fun b o h1 h2 _ e => k0 b o h1 h2 e) rfl rfl rfl rfl rfl rfl rfl wf ⟨dx, ?_⟩ ?_ (fun g hl => ?_) (fun g hl => ?_) (fun g h hg hh e => ?_)) rfl ⟨fun y o e hy => ?_, fun y hy => ?_⟩
    · rw [List.length_append]
      exact es4
    · show H4 L.ag = some (.dK (kvF (liveL (m.groups ++ [⟨p, a, b, c, false⟩])) fun g => V.ref (if g = m.groups.length then x else L.ga g)))
      rw [liveL_add rfl, eg4]
      congr 2
      refine kvF_congr fun z _ => ?_
      by_cases e : z = m.groups.length
      · rw [if_pos e, if_pos e]
      · rw [if_neg e, if_neg e]
    · show ∃ dx, H4 (if g = m.groups.length then x else L.ga g) = some (.ins A.grp dx (grpF (parV (m.groups ++ [⟨p, a, b, c, false⟩]) g) (if g = m.groups.length then la else L.la g)))
      rcases newG g hl with ⟨h1, h2⟩ | h1
      · rw [if_neg (by omega), if_neg (by omega)]
        obtain ⟨dx, e⟩ := M.grp g h2
        obtain ⟨n1, n2, _⟩ := M.ga_ne h2
        refine ⟨dx, ?_⟩
        rw [k0 _ _ n1 n2 e]
        unfold parV par
        rw [at_add _ _ h1]
      · rw [if_pos h1, if_pos h1, h1]
        refine ⟨gx, ?_⟩
        rw [k4 x _ nxa nxg ex2]
        unfold parV par
        rw [at_new, if_neg (by have := M.wf.g.pos; omega)]
    · show ∃ dx, H4 (if g = m.groups.length then la else L.la g) = _
      rcases newG g hl with ⟨h1, h2⟩ | h1
      · rw [if_neg (by omega)]
        obtain ⟨dx, e⟩ := M.lim g h2
        obtain ⟨n1, n2, _⟩ := M.la_ne h2 h2
        refine ⟨dx, ?_⟩
        rw [k0 _ _ n1 n2 e]
        show _ = some (HO.ins A.lim dx (limF (R7278g.Spec.Groups.at_ (m.groups ++ [⟨p, a, b, c, false⟩]) g).max (R7278g.Spec.Groups.at_ (m.groups ++ [⟨p, a, b, c, false⟩]) g).min (R7278g.Spec.Groups.at_ (m.groups ++ [⟨p, a, b, c, false⟩]) g).low))
        rw [at_add _ _ h1]
      · rw [if_pos h1, h1]
        refine ⟨ldx, ?_⟩
        rw [k0 _ _ nla nlg hla]
        show _ = some (HO.ins A.lim ldx (limF (R7278g.Spec.Groups.at_ (m.groups ++ [⟨p, a, b, c, false⟩]) m.groups.length).max (R7278g.Spec.Groups.at_ (m.groups ++ [⟨p, a, b, c, false⟩]) m.groups.length).min (R7278g.Spec.Groups.at_ (m.groups ++ [⟨p, a, b, c, false⟩]) m.groups.length).low))
        rw [at_new]
    · have e : (if g = m.groups.length then x else L.ga g) = (if h = m.groups.length then x else L.ga h) := e
      have nx : ∀ g, live m.groups g = true → x ≠ L.ga g := fun g hl z => by
        obtain ⟨dx, e⟩ := M.grp g hl
        rw [← z, hx0] at e
        cases e
      rcases newG g hg with ⟨h1, h2⟩ | h1
      · rcases newG h hh with ⟨h3, h4⟩ | h3
        · rw [if_neg (by omega), if_neg (by omega)] at e
          exact M.inj g h h2 h4 e
        · rw [if_neg (by omega), if_pos h3] at e
          exact absurd e.symm (nx g h2)
      · rcases newG h hh with ⟨h3, h4⟩ | h3
        · rw [if_pos h1, if_neg (by omega)] at e
          exact absurd e (nx h h4)
        · rw [h1, h3]
    · have hy' : ¬ Fp L m y := fun h => hy (.inl h)
      exact k0 y o (fun z => hy' (z ▸ Fp.self)) (fun z => hy' (z ▸ Fp.grps)) e
    · rcases hy with e | e | e | e | ⟨g, hg, e⟩ | ⟨p', hp', e⟩
      · exact .inl (.inl (.inl e))
      · exact .inl (.inl (.inr (.inl e)))
      · exact .inl (.inl (.inr (.inr (.inl e))))
      · exact .inl (.inl (.inr (.inr (.inr (.inl e)))))
      · have e : y = (if g = m.groups.length then x else L.ga g) ∨ y = (if g = m.groups.length then la else L.la g) := e
        rcases newG g hg with ⟨h1, h2⟩ | h1
        · rw [if_neg (by omega), if_neg (by omega)] at e
          rcases e with e | e
          · exact .inl (.inl (e ▸ Fp.ga h2))
          · exact .inl (.inl (e ▸ Fp.la h2))
        · rw [if_pos h1, if_pos h1] at e
          rcases e with e | e
          · exact .inr (e ▸ hx0)
          · exact .inl (.inr e)
      · exact .inl (.inl (e ▸ Fp.ra hp'))
/-! ### new_limits -/
def spNewLimits (K : PySem.W.Frag) (A : Ad) : Sp := fun vs H Q E => ∃ (L : Lay) (m : SMem) (g : Nat) (la ldx : Addr) (a b c : Nat), vs = [.ref L.a, nV g, .ref la] ∧ MemAt K A H L m ∧ H la = some (.ins A.lim ldx (limF a b c)) ∧ ¬ Fp L m la ∧
  OpM K A H L m E Q (fun x => x = la) (m.limit g a b c) (fun r => r) (fun _ => .non)
theorem ok_new_limits (F : Fun K "new_limits" "Memory.new_limits" s_Memory_new_limits f fd) (T : Txt K mg A)
    (h_Memory_need_group : GM P w K mg base (L2N.CX P w) 2 A.mem "need_group" ["self", "number"] (spNeedG K A)) (h_Memory_usages : GM P w K mg base CX0 2 A.mem "usages" ["self"] (spUsages K A))
    (h_Memory_take : GM P w K mg base (L2N.CX P w) 2 A.mem "take" ["self", "pages"] (spTake K A)) (h_Memory_choice : GM P w K mg base CX0 6 A.mem "choice" ["self", "needs"] (spChoice K A)) :
    FnOk P w K mg base (L2N.CX P w) 7 f fd ["self", "number", "limits"] (spNewLimits K A) := by
  refine okN F sc_Memory_new_limits (fun vs H Q E h => ?_) (fun cdv A' outer s H vs Q E hr h => ⟨_, (pss_cons (ps_expr (pe_gm h_Memory_need_group T.c_mem (hr.mono (by decide)) (passN (L2N.takes_of rfl rfl rfl rfl)) (L2.pv 0) (pa_cons (L2.pv 1) pa_nil)))
      (pss_cons (ps_set (i := 3) sc_Memory_new_limits.nd rfl (Or.inl rfl) (pe_dget (hu_of hr) (pe_gm0 h_Memory_usages T.c_mem (hr.mono (by decide)) pass0 (L2.pv 0)) (L2.pv 1) (fun _ _ => rfl)))
      (pss_cons (ps_if (pt_cmpR op_gt (L2.pv 3) (pe_fld (L2.pv 2) rfl) (nomark _)) (pss_one (ps_expr (pe_gm h_Memory_take T.c_mem (hr.mono (by decide)) (passN (L2N.takes_of rfl rfl rfl rfl)) (L2.pv 0) (pa_cons (pe_gm h_Memory_choice T.c_mem (hr.mono (by decide)) pass0 (L2.pv 0) (pa_cons (pe_disp (pps_cons (L2.pv 1) (pe_op op_sub (L2.pv 3) (pe_fld (L2.pv 2) rfl)) pps_nil) (by rfl) (by rfl) (fun z => by cases z) (by decide)) pa_nil)) pa_nil)))) pss_nil)
      (pss_one (ps_fld (pe_dget (hu_of hr) (pe_fld (L2.pv 0) rfl) (L2.pv 1) (fun _ _ => rfl)) (L2.pv 2) rfl))))), ?_⟩)
  · obtain ⟨L, m, p, la, ldx, a, b, c, rfl, _⟩ := h
    rfl
  · obtain ⟨L, m, g, la, ldx, a, b, c, rfl, M, hla, nfp, q⟩ := h
    refine ⟨_, rfl, M.meth (by decide +kernel) ⟨_, rfl, L, m, g, rfl, M, fun lg => ?_, fun lg => ?_⟩⟩
    rotate_left
    · have e : m.limit g a b c = .error (R7278g.Spec.rangeErr "there is no such group") := by
        unfold R7278g.Spec.Mem.limit
        rw [group_no lg]
        rfl
      rw [e] at q
      have q : Rais A H E 2 (strU (R7278g.Spec.units "there is no such group")) := q
      rw [str_no_group] at q
      exact q
    have e0 : m.limit g a b c = match m.pick [(g, m.usage g - a)] with
        | some l => .ok { m.take l with groups := setGroup m.groups g fun x => { x with max := a, min := b, low := c } }
        | none => .error (R7278g.Spec.rangeErr "out of memory") := by
      unfold R7278g.Spec.Mem.limit
      rw [group_ok lg]
      rfl
    rw [e0] at q
    refine ⟨_, rfl, M.meth (by decide +kernel) ⟨L, m, rfl, M, fun u H1 s1 hu0 hu => ?_⟩⟩
    refine ⟨_, rfl, _, _, rfl, dget_in (.inl hu) (mem_liveL.mpr lg), ?_⟩
    have hla1 := s1 _ _ hla
    refine ⟨_, rfl, _, rfl, at_fld hla1 T.c_lim T.n_lim_most (limF_most ..) ?_⟩
    refine ⟨_, _, rfl, rfl, _, rfl, ?_⟩
    -- what follows
    have fin : ∀ (L2 : Lay) (l : List SPage) (H2 : Hp), MemAt K A H2 L2 (m.take l) → L2.a = L.a → L2.ag = L.ag → L2.ga = L.ga → L2.la = L.la → L2.ra = L.ra → (∀ b o, b ≠ L.a → H b = some o → H2 b = some o) → (L2.ar = L.ar ∨ H L2.ar = none) → (L2.tk = L.tk ∨ H L2.tk = none) → m.pick [(g, m.usage g - a)] = some l →
        sFld K (tDGet (tFld K (tVar 0) "groups") (tVar 1)) (tVar 2) "limits" { nx := fun x H' => Q .non H', rt := Q } [some (.ref L.a), some (nV g), some (.ref la), some (nV (usage m.groups m.pages g))] H2 := by
      intro L2 l H2 M2 e1 e2 e3 e4 e5 k2 har htk hpk
      rw [hpk] at q
      have lg2 : live (m.take l).groups g = true := lg
      have nla : la ≠ L.a := fun z => nfp (z ▸ Fp.self)
      have hla2 := k2 _ _ nla hla
      refine ⟨_, rfl, _, rfl, ?_⟩
      rw [← e1]
      refine M2.f_groups T ?_
      obtain ⟨gx, eg⟩ := M2.grp g lg2
      refine ⟨_, rfl, at_dget (.inl M2.own) (mem_liveL.mpr lg2) ?_⟩
      refine at_sfld eg T.c_grp T.n_grp_limits (by show 2 < 1000; decide) ?_
      rw [grpF_put_limits]
      have st := same_limits (gs := m.groups) (a := a) (b := b) (c := c) (live_lt lg)
      have gn := M2.ga_ne lg2
      obtain ⟨dx, es⟩ := M2.self
      have lgal : ∀ h, live m.groups h = true → L2.la h ≠ L2.ga g := fun h hh => (M2.la_ne (g := h) (h := g) hh lg2).2.2
      have nlg : la ≠ L2.ga g := fun z => nfp (by rw [z, e3]; exact Fp.ga lg)
      have kk : ∀ b o, b ≠ L2.a → b ≠ L2.ag → b ≠ L2.ga g → H2 b = some o → (upd H2 (L2.ga g) (.ins A.grp gx (grpF (parV (m.take l).groups g) la))) b = some o := fun b o _ _ h3 e => by
        rw [upd_ne h3]
        exact e
      have hpar : ∀ h, parV (setGroup m.groups g fun x => { x with max := a, min := b, low := c }) h = parV m.groups h := fun h => by
        unfold parV
        rw [st.par]
      refine q { L2 with la := fun h => if h = g then la else L2.la h } _ (M2.groups' (L' := { L2 with la := fun h => if h = g then la else L2.la h }) (g0 := g) lg2 kk rfl rfl rfl rfl rfl rfl rfl (limits_wf (m := m.take l) M2.wf lg) ⟨dx, ?_⟩ ?_ (fun h hl => ?_) (fun h hl => ?_) (fun h h' hh hh' e => ?_)) e1 ⟨fun y o e hy => ?_, fun y hy => ?_⟩
      · show (upd H2 (L2.ga g) _) L2.a = some (.ins A.mem dx (memF L2.ag (setGroup m.groups g fun x => { x with max := a, min := b, low := c }).length L2.ar (m.take l).next L2.tk))
        rw [st.len, upd_ne (Ne.symm gn.1)]
        exact es
      · show (upd H2 (L2.ga g) _) L2.ag = some (.dK (kvF (liveL (setGroup m.groups g fun x => { x with max := a, min := b, low := c })) fun h => V.ref (L2.ga h)))
        rw [st.liveL, upd_ne (Ne.symm gn.2.1)]
        exact M2.own
      · have hl : live (setGroup m.groups g fun x => { x with max := a, min := b, low := c }) h = true := hl
        rw [st.live] at hl
        show ∃ dx, (upd H2 (L2.ga g) _) (L2.ga h) = some (.ins A.grp dx (grpF (parV (setGroup m.groups g fun x => { x with max := a, min := b, low := c }) h) (if h = g then la else L2.la h)))
        rw [hpar]
        by_cases e : h = g
        · rw [e, if_pos rfl]
          exact ⟨gx, upd_same⟩
        · rw [if_neg e]
          obtain ⟨hx, eh⟩ := M2.grp h hl
          refine ⟨hx, ?_⟩
          rw [upd_ne fun z => e (M2.inj h g hl lg2 z)]
          exact eh
      · have hl : live (setGroup m.groups g fun x => { x with max := a, min := b, low := c }) h = true := hl
        rw [st.live] at hl
        show ∃ dx, (upd H2 (L2.ga g) _) (if h = g then la else L2.la h) = some (HO.ins A.lim dx (limF (R7278g.Spec.Groups.at_ (setGroup m.groups g fun x => { x with max := a, min := b, low := c }) h).max (R7278g.Spec.Groups.at_ (setGroup m.groups g fun x => { x with max := a, min := b, low := c }) h).min (R7278g.Spec.Groups.at_ (setGroup m.groups g fun x => { x with max := a, min := b, low := c }) h).low))
        rw [at_set _ _ _ _ (live_lt lg)]
        by_cases e : h = g
        · rw [if_pos e, if_pos e]
          refine ⟨ldx, ?_⟩
          rw [upd_ne nlg]
          exact hla2
        · rw [if_neg e, if_neg e]
          obtain ⟨hx, eh⟩ := M2.lim h hl
          refine ⟨hx, ?_⟩
          rw [upd_ne (lgal h hl)]
          exact eh
      · have hh : live (setGroup m.groups g fun x => { x with max := a, min := b, low := c }) h = true := hh
        have hh' : live (setGroup m.groups g fun x => { x with max := a, min := b, low := c }) h' = true := hh'
        rw [st.live] at hh hh'
        exact M2.inj h h' hh hh' e
      · have hy' : ¬ Fp L m y := fun h => hy (.inl h)
        have n3 : y ≠ L2.ga g := fun z => hy' (by rw [z, e3]; exact Fp.ga lg)
        rw [upd_ne n3]
        exact k2 y o (fun z => hy' (z ▸ Fp.self)) e
      · rcases hy with e | e | e | e | ⟨h, hg, e⟩ | ⟨p', hp', e⟩
        · exact .inl (.inl (.inl (e.trans e1)))
        · exact .inl (.inl (.inr (.inl (e.trans e2))))
        · rcases har with z | z
          · exact .inl (.inl (.inr (.inr (.inl (e.trans z)))))
          · exact .inr (e ▸ z)
        · rcases htk with z | z
          · exact .inl (.inl (.inr (.inr (.inr (.inl (e.trans z))))))
          · exact .inr (e ▸ z)
        · have hg : live (setGroup m.groups g fun x => { x with max := a, min := b, low := c }) h = true := hg
          rw [st.live] at hg
          have e : y = L2.ga h ∨ y = (if h = g then la else L2.la h) := e
          rcases e with e | e
          · exact .inl (.inl (by rw [e, e3]; exact Fp.ga hg))
          · by_cases z : h = g
            · rw [if_pos z] at e
              exact .inl (.inr e)
            · rw [if_neg z] at e
              exact .inl (.inl (by rw [e, e4]; exact Fp.la hg))
        · have hp' : p' ∈ (m.take l).pages := hp'
          have e : y = L2.ra p'.id := e
          exact .inl (.inl (by rw [e, e5]; exact Fp.ra (List.mem_filter.mp hp').1))
    by_cases hgt : ((a : Nat) : Int) < (usage m.groups m.pages g : Int)
    · rw [decide_eq_true hgt]
      have M1 := M.mono s1
      refine iteT ⟨_, rfl, M1.meth (by decide +kernel) ⟨_, rfl, M1.meth (by decide +kernel) (fun d hd => ?_)⟩⟩
      have s2 := s1.trans (Same.new (o := .dK []) hd)
      refine ⟨_, rfl, _, rfl, _, rfl, at_fld (s2 _ _ hla) T.c_lim T.n_lim_most (limF_most ..) ?_⟩
      refine ⟨_, _, rfl, rfl, upd_same, kvF [g] (fun _ => nV (usage m.groups m.pages g - a)), ?_, by show 1 ≤ 15; decide, ?_⟩
      · show [(nV g, V.int ((usage m.groups m.pages g : Int) - (a : Int)))] = _
        rw [sub_nV (by omega)]
        rfl
      rw [kvF_merge (by simp), upd_upd]
      have s3 : Same H (upd H1 d (.dK (kvF [g] fun _ => nV (usage m.groups m.pages g - a)))) := s1.trans (Same.new hd)
      refine ⟨L, m, d, [g], (fun _ => usage m.groups m.pages g - a), rfl, M.mono s3, upd_same, by simp, by show 1 ≤ 40; decide, ?_⟩
      have epk : m.pick (needL [g] fun _ => usage m.groups m.pages g - a) = m.pick [(g, m.usage g - a)] := rfl
      rw [epk]
      cases hpk : m.pick [(g, m.usage g - a)] with
      | none =>
        rw [hpk] at q
        have q : Rais A H E 2 (strU (R7278g.Spec.units "out of memory")) := q
        rw [str_memory] at q
        intro H3 s4
        exact ⟨L, m, .non, rfl, (M.mono s3).mono s4, .inl ⟨rfl, Rais.mono q (s3.trans s4)⟩⟩
      | some l =>
        intro lp H3 s4 hlp0 hlp
        have s5 := s3.trans s4
        refine ⟨L, m, .ref lp, rfl, M.mono s5, .inr ⟨lp, l, rfl, hlp, pick_order hpk, fun ar' tk' H4 M4 k4 har htk _ => ?_⟩⟩
        exact fin { L with ar := ar', tk := tk' } l H4 M4 rfl rfl rfl rfl rfl (fun b o hb e => k4 b o hb (s5 b o e)) (.inr (s5.free har)) (.inr (s5.free htk)) hpk
    · rw [decide_eq_false hgt]
      have hz : m.usage g - a = 0 := by
        show usage m.groups m.pages g - a = 0
        omega
      refine iteF (fin L [] H1 (by rw [take_nil M.wf.tk]; exact M.mono s1) rfl rfl rfl rfl rfl (fun b o _ e => s1 b o e) (.inl rfl) (.inl rfl) (by rw [hz]; exact pick_zero m g))
end Gm
end

section
set_option maxRecDepth 100000
set_option maxHeartbeats 8000000
/-! # The walks, part 11: remove, move -/
namespace Gm
open PySem PySem.Spec PyProof.Rows L2 L2G GmM
open R7278g.Spec (live kids chain under usage setGroup movedGroups fitsAll)
variable {P : Program} {w : World} {K : PySem.W.Frag} {mg : Str → Option Value} {base : Heap} {A : Ad} {f fI : Addr} {fd : FuncData}
theorem len0 (l : List Nat) : decide (V.int (((l.map nV).length : Nat) : Int) = V.int 0) = l.isEmpty := by
  rw [List.length_map]
  refine Eq.trans (@dec_nV l.length 0) ?_
  cases l <;> simp
/-! ### remove -/
def spRemove (K : PySem.W.Frag) (A : Ad) : Sp := fun vs H Q E => ∃ (L : Lay) (m : SMem) (g : Nat), vs = [.ref L.a, nV g] ∧ MemAt K A H L m ∧ OpM K A H L m E Q (fun _ => False) (m.remove g) (fun r => r) (fun _ => .non)
theorem ok_remove (F : Fun K "remove" "Memory.remove" s_Memory_remove f fd) (T : Txt K mg A) (h_need_range : GF P w K mg base (L2N.CX P w) 1 "need_range" ["truth", "message"] (spNeed A 2))
    (h_Memory_need_group : GM P w K mg base (L2N.CX P w) 2 A.mem "need_group" ["self", "number"] (spNeedG K A)) (h_Memory_has_pages : GM P w K mg base CX0 1 A.mem "has_pages" ["self", "number"] (spHasPages K A))
    (h_Memory_kids : GM P w K mg base CX0 1 A.mem "kids" ["self", "number"] (spKids K A)) :
    FnOk P w K mg base (L2N.CX P w) 3 f fd ["self", "number"] (spRemove K A) := by
  refine okN F sc_Memory_remove (fun vs H Q E h => ?_) (fun cdv A' outer s H vs Q E hr h => ⟨_, (pss_cons (ps_expr (pe_gm h_Memory_need_group T.c_mem (hr.mono (by decide)) (passN (L2N.takes_of rfl rfl rfl rfl)) (L2.pv 0) (pa_cons (L2.pv 1) pa_nil)))
      (pss_cons (ps_expr (pe_gf h_need_range (hr.mono (by decide)) (passN (L2N.takes_of rfl rfl rfl rfl)) (pa_cons (pe_cmpR op_ne (L2.pv 1) pe_int (nomark _)) (pa_cons pe_str pa_nil))))
      (pss_cons (ps_expr (pe_gf h_need_range (hr.mono (by decide)) (passN (L2N.takes_of rfl rfl rfl rfl)) (pa_cons (pe_cmpR op_eq (pe_callB call_len_seq (by rfl) T.b_len PySem.boot_len (pa_cons (pe_gm h_Memory_kids T.c_mem (hr.mono (by decide)) pass0 (L2.pv 0) (pa_cons (L2.pv 1) pa_nil)) pa_nil)) pe_int (nomark _)) (pa_cons pe_str pa_nil))))
      (pss_cons (ps_expr (pe_gf h_need_range (hr.mono (by decide)) (passN (L2N.takes_of rfl rfl rfl rfl)) (pa_cons (pe_not (pe_gm h_Memory_has_pages T.c_mem (hr.mono (by decide)) pass0 (L2.pv 0) (pa_cons (L2.pv 1) pa_nil))) (pa_cons pe_str pa_nil))))
      (pss_one (ps_expr (pe_dpop1 (pe_fld (L2.pv 0) rfl) (L2.pv 1) ⟨by rfl, by rfl, by rfl, by rfl⟩))))))), ?_⟩)
  · obtain ⟨L, m, g, rfl, _⟩ := h
    rfl
  · obtain ⟨L, m, g, rfl, M, q⟩ := h
    refine ⟨_, rfl, M.meth (by decide +kernel) ⟨_, rfl, L, m, g, rfl, M, fun lg => ?_, fun lg => ?_⟩⟩
    rotate_left
    · have e : m.remove g = .error (R7278g.Spec.rangeErr "there is no such group") := by
        unfold R7278g.Spec.Mem.remove
        rw [group_no lg]
        rfl
      rw [e] at q
      have q : Rais A H E 2 (strU (R7278g.Spec.units "there is no such group")) := q
      rw [str_no_group] at q
      exact q
    refine ⟨_, rfl, rfl, _, _, rfl, ?_⟩
    have e1 : decide (nV g = V.int 0) = decide (g = 0) := @dec_nV g 0
    rw [e1]
    refine ⟨fun h0 => ?_, fun h0 => ?_⟩
    rotate_left
    · have h0 : g = 0 := by simpa using h0
      have e : m.remove g = .error (R7278g.Spec.rangeErr "the root stays") := by
        unfold R7278g.Spec.Mem.remove
        rw [group_ok lg]
        exact if_pos h0
      rw [e] at q
      have q : Rais A H E 2 (strU (R7278g.Spec.units "the root stays")) := q
      rw [str_root] at q
      exact q
    have h0 : g ≠ 0 := by simpa using h0
    refine ⟨_, rfl, M.meth (by decide +kernel) ⟨_, rfl, L, m, g, rfl, M.toMemR, fun kd H1 s1 hk0 hk => ?_⟩⟩
    refine ⟨kd, _, rfl, .inl (sq hk), rfl, _, _, rfl, ?_⟩
    rw [len0]
    refine ⟨fun he => ?_, fun he => ?_⟩
    rotate_left
    · have e : m.remove g = .error (R7278g.Spec.rangeErr "the group has groups") := by
        unfold R7278g.Spec.Mem.remove
        rw [group_ok lg]
        exact (if_neg h0).trans (if_pos (by rw [he]; rfl))
      rw [e] at q
      have q : Rais A H E 2 (strU (R7278g.Spec.units "the group has groups")) := q
      rw [str_has_groups] at q
      exact Rais.mono q s1
    have M1 := M.mono s1
    refine ⟨_, rfl, M1.meth (by decide +kernel) ⟨_, rfl, L, m, g, rfl, M1.toMemR, fun H2 s2 => ?_⟩⟩
    have s3 := s1.trans s2
    refine ⟨_, rfl, _, _, rfl, fun hp => ?_, fun hp => ?_⟩
    rotate_left
    · have hp : (m.pages.any fun q => q.group == g) = true := by simpa using hp
      have e : m.remove g = .error (R7278g.Spec.rangeErr "the group has pages") := by
        unfold R7278g.Spec.Mem.remove
        rw [group_ok lg]
        exact (if_neg h0).trans ((if_neg (by rw [he]; decide)).trans (if_pos hp))
      rw [e] at q
      have q : Rais A H E 2 (strU (R7278g.Spec.units "the group has pages")) := q
      rw [str_has_pages] at q
      exact Rais.mono q s3
    have hp : (m.pages.any fun q => q.group == g) = false := by simpa using hp
    have e0 : m.remove g = .ok { m with groups := killed m.groups g } := by
      unfold R7278g.Spec.Mem.remove
      rw [group_ok lg]
      exact (if_neg h0).trans ((if_neg (by rw [he]; decide)).trans (if_neg (by rw [hp]; decide)))
    rw [e0] at q
    have M2 := M.mono s3
    have wf := kill_wf M.wf lg h0 (List.isEmpty_iff.mp he) hp
    refine ⟨_, rfl, M2.f_groups T ?_⟩
    refine ⟨L.ag, rfl, .inl ⟨_, .inl M2.own⟩, _, rfl, _, iK g, _, M2.own, rfl, kvF_in (mem_liveL.mpr lg), ?_⟩
    rw [kvF_drop]
    obtain ⟨dx, es⟩ := M2.self
    have nag := M.a_ne_ag
    have kk : ∀ b o, b ≠ L.a → b ≠ L.ag → b ≠ L.ga 0 → H2 b = some o → (upd H2 L.ag (.dK (kvF ((liveL m.groups).filter (· != g)) fun g => V.ref (L.ga g)))) b = some o := fun b o _ h2 _ e => by
      rw [upd_ne h2]
      exact e
    have hl : ∀ h, live (killed m.groups g) h = true → live m.groups h = true ∧ h ≠ g := fun h hh => by
      rw [live_kill lg] at hh
      simpa using hh
    refine q L _ (M2.groups' (L' := L) (g0 := 0) M.wf.g.root kk rfl rfl rfl rfl rfl rfl rfl wf ⟨dx, ?_⟩ ?_ (fun h hh => ?_) (fun h hh => ?_) (fun h h' hh hh' e => M.inj h h' (hl h hh).1 (hl h' hh').1 e)) rfl ⟨fun y o e hy => ?_, fun y hy => ?_⟩
    · show (upd H2 L.ag _) L.a = some (.ins A.mem dx (memF L.ag (killed m.groups g).length L.ar m.next L.tk))
      rw [upd_ne nag, len_set]
      exact es
    · show (upd H2 L.ag _) L.ag = some (.dK (kvF (liveL (killed m.groups g)) fun h => V.ref (L.ga h)))
      rw [upd_same, liveL_kill lg]
    · obtain ⟨h1, h2⟩ := hl h hh
      obtain ⟨hx, eh⟩ := M2.grp h h1
      refine ⟨hx, ?_⟩
      rw [upd_ne (M.ga_ne h1).2.1, eh]
      have : parV (killed m.groups g) h = parV m.groups h := by
        unfold parV
        rw [par_kill lg]
      rw [this]
    · obtain ⟨h1, h2⟩ := hl h hh
      obtain ⟨hx, eh⟩ := M2.lim h h1
      refine ⟨hx, ?_⟩
      rw [upd_ne (M.la_ne h1 h1).2.1, eh]
      show _ = some (HO.ins A.lim hx (limF (R7278g.Spec.Groups.at_ (killed m.groups g) h).max (R7278g.Spec.Groups.at_ (killed m.groups g) h).min (R7278g.Spec.Groups.at_ (killed m.groups g) h).low))
      rw [at_set _ _ _ _ (live_lt lg), if_neg h2]
    · have hy' : ¬ Fp L m y := fun h => hy (.inl h)
      have n1 : y ≠ L.ag := fun z => hy' (by rw [z]; exact Fp.grps)
      rw [upd_ne n1]
      exact s3 y o e
    · rcases hy with e | e | e | e | ⟨h, hh, e⟩ | ⟨p', hp', e⟩
      · exact .inl (.inl (.inl e))
      · exact .inl (.inl (.inr (.inl e)))
      · exact .inl (.inl (.inr (.inr (.inl e))))
      · exact .inl (.inl (.inr (.inr (.inr (.inl e)))))
      · exact .inl (.inl (.inr (.inr (.inr (.inr (.inl ⟨h, (hl h hh).1, e⟩))))))
      · exact .inl (.inl (e ▸ Fp.ra hp'))
/-! ### move -/
theorem fits_live {m : SMem} (W : MWF m) : fitsAll m.groups m.pages = (liveL m.groups).all fun g => decide (usage m.groups m.pages g ≤ (m.groups.at_ g).max) := by
  unfold R7278g.Spec.fitsAll
  rw [Bool.eq_iff_iff, List.all_eq_true, List.all_eq_true]
  constructor
  · intro h g hg
    exact h g (List.mem_range.mpr (live_lt (mem_liveL.mp hg)))
  · intro h g hg
    by_cases hl : live m.groups g = true
    · exact h g (mem_liveL.mpr hl)
    · have : usage m.groups m.pages g = 0 := by
        unfold R7278g.Spec.usage
        rw [List.countP_eq_zero]
        intro p hp hu
        exact hl (W.g.chain_live (W.leaf p hp).1 (under_iff.mp hu))
      rw [this]
      exact decide_eq_true (Nat.zero_le _)
def spMove (K : PySem.W.Frag) (A : Ad) : Sp := fun vs H Q E => ∃ (L : Lay) (m : SMem) (g p : Nat), vs = [.ref L.a, nV g, nV p] ∧ MemAt K A H L m ∧ OpM K A H L m E Q (fun _ => False) (m.move g p) (fun r => r) (fun _ => .non)
theorem ok_move (F : Fun K "move" "Memory.move" s_Memory_move f fd) (T : Txt K mg A) (h_need_range : GF P w K mg base (L2N.CX P w) 1 "need_range" ["truth", "message"] (spNeed A 2))
    (h_Memory_need_group : GM P w K mg base (L2N.CX P w) 2 A.mem "need_group" ["self", "number"] (spNeedG K A)) (h_Memory_has_pages : GM P w K mg base CX0 1 A.mem "has_pages" ["self", "number"] (spHasPages K A))
    (h_Memory_above : GM P w K mg base CX0 1 A.mem "above" ["self", "number"] (spAbove K A)) (h_Memory_usages : GM P w K mg base CX0 2 A.mem "usages" ["self"] (spUsages K A)) :
    FnOk P w K mg base (L2N.CX P w) 3 f fd ["self", "number", "parent"] (spMove K A) := by
  refine okN F sc_Memory_move (fun vs H Q E h => ?_) (fun cdv A' outer s H vs Q E hr h => ⟨_, (pss_cons (ps_expr (pe_gm h_Memory_need_group T.c_mem (hr.mono (by decide)) (passN (L2N.takes_of rfl rfl rfl rfl)) (L2.pv 0) (pa_cons (L2.pv 1) pa_nil)))
      (pss_cons (ps_expr (pe_gm h_Memory_need_group T.c_mem (hr.mono (by decide)) (passN (L2N.takes_of rfl rfl rfl rfl)) (L2.pv 0) (pa_cons (L2.pv 2) pa_nil)))
      (pss_cons (ps_expr (pe_gf h_need_range (hr.mono (by decide)) (passN (L2N.takes_of rfl rfl rfl rfl)) (pa_cons (pe_cmpR op_ne (L2.pv 1) pe_int (nomark _)) (pa_cons pe_str pa_nil))))
      (pss_cons (ps_expr (pe_gf h_need_range (hr.mono (by decide)) (passN (L2N.takes_of rfl rfl rfl rfl)) (pa_cons (pe_cmpR op_notIn_seq (L2.pv 1) (pe_gm h_Memory_above T.c_mem (hr.mono (by decide)) pass0 (L2.pv 0) (pa_cons (L2.pv 2) pa_nil)) (by with_unfolding_all rfl)) (pa_cons pe_str pa_nil))))
      (pss_cons (ps_expr (pe_gf h_need_range (hr.mono (by decide)) (passN (L2N.takes_of rfl rfl rfl rfl)) (pa_cons (pe_not (pe_gm h_Memory_has_pages T.c_mem (hr.mono (by decide)) pass0 (L2.pv 0) (pa_cons (L2.pv 2) pa_nil))) (pa_cons pe_str pa_nil))))
      (pss_cons (ps_set (i := 3) sc_Memory_move.nd rfl (Or.inl rfl) (pe_fld (pe_dget (hu_of hr) (pe_fld (L2.pv 0) rfl) (L2.pv 1) (fun _ _ => rfl)) rfl))
      (pss_cons (ps_fld (pe_dget (hu_of hr) (pe_fld (L2.pv 0) rfl) (L2.pv 1) (fun _ _ => rfl)) (L2.pv 2) rfl)
      (pss_cons (ps_set (i := 4) sc_Memory_move.nd rfl (Or.inr rfl) (pe_gm0 h_Memory_usages T.c_mem (hr.mono (by decide)) pass0 (L2.pv 0)))
      (pss_cons (ps_set (i := 5) sc_Memory_move.nd rfl (Or.inl rfl) (pe_callB (cr_all rfl) (by rfl) T.b_all PyProof.Rows.boot_all (pa_cons (pe_lock (pe_lc (own := [("one", 6)]) (g := (gName 6)) (tt := tYes) (te := (tOp _ (tDGet (tVar 4) (tVar 6)) (tFld K (tFld K (tDGet (tFld K (tVar 0) "groups") (tVar 6)) "limits") "most"))) rfl sc_Memory_move.nd (pi_keys (pe_fld (L2.pv 0) rfl)) (blkOk_by (N := N_Memory_move) (sc := defScope s_Memory_move) (by decide +kernel)) (fun _ _ _ _ _ => (pg_name (i := 6) sc_Memory_move.nd rfl (Or.inl rfl))) (fun _ _ _ _ _ => pts_nil) (fun _ _ _ _ _ => (pe_cmpR op_le (pe_dget (hu_of hr) (L2.pv 4) (L2.pv 6) (fun _ _ => rfl)) (pe_fld (pe_fld (pe_dget (hu_of hr) (pe_fld (L2.pv 0) rfl) (L2.pv 6) (fun _ _ => rfl)) rfl) rfl) (nomark _))))) pa_nil)))
      (pss_cons (ps_if (pt_not (pt_val (L2.pv 5))) (pss_one (ps_fld (pe_dget (hu_of hr) (pe_fld (L2.pv 0) rfl) (L2.pv 1) (fun _ _ => rfl)) (L2.pv 3) rfl)) pss_nil)
      (pss_one (ps_expr (pe_gf h_need_range (hr.mono (by decide)) (passN (L2N.takes_of rfl rfl rfl rfl)) (pa_cons (L2.pv 5) (pa_cons (pe_gl T.g_NO_MEMORY) pa_nil))))))))))))))), ?_⟩)
  · obtain ⟨L, m, g, p, rfl, _⟩ := h
    rfl
  · obtain ⟨L, m, g, p, rfl, M, q⟩ := h
    refine ⟨_, rfl, M.meth (by decide +kernel) ⟨_, rfl, L, m, g, rfl, M, fun lg => ?_, fun lg => ?_⟩⟩
    rotate_left
    · have e : m.move g p = .error (R7278g.Spec.rangeErr "there is no such group") := by
        unfold R7278g.Spec.Mem.move
        rw [group_no lg]
        rfl
      rw [e] at q
      have q : Rais A H E 2 (strU (R7278g.Spec.units "there is no such group")) := q
      rw [str_no_group] at q
      exact q
    refine ⟨_, rfl, M.meth (by decide +kernel) ⟨_, rfl, L, m, p, rfl, M, fun lp => ?_, fun lp => ?_⟩⟩
    rotate_left
    · have e : m.move g p = .error (R7278g.Spec.rangeErr "there is no such group") := by
        unfold R7278g.Spec.Mem.move
        rw [group_ok lg, group_no lp]
        rfl
      rw [e] at q
      have q : Rais A H E 2 (strU (R7278g.Spec.units "there is no such group")) := q
      rw [str_no_group] at q
      exact q
    refine ⟨_, rfl, rfl, _, _, rfl, ?_⟩
    have e1 : decide (nV g = V.int 0) = decide (g = 0) := @dec_nV g 0
    rw [e1]
    refine ⟨fun h0 => ?_, fun h0 => ?_⟩
    rotate_left
    · have h0 : g = 0 := by simpa using h0
      have e : m.move g p = .error (R7278g.Spec.rangeErr "the root stays") := by
        unfold R7278g.Spec.Mem.move
        rw [group_ok lg, group_ok lp]
        exact if_pos h0
      rw [e] at q
      have q : Rais A H E 2 (strU (R7278g.Spec.units "the root stays")) := q
      rw [str_root] at q
      exact q
    have h0 : g ≠ 0 := by simpa using h0
    refine ⟨_, rfl, _, rfl, M.meth (by decide +kernel) ⟨_, rfl, L, m, p, rfl, M.toMemR, lp, fun b H1 s1 hb0 hb => ?_⟩⟩
    refine ⟨b, _, rfl, .inl (sq hb), rfl, flat_nV _, ?_⟩
    rw [inV_nV]
    have e2 : decide (g ∈ chain m.groups p) = under m.groups g p := by
      rw [Bool.eq_iff_iff, decide_eq_true_iff, under_iff]
    rw [e2]
    refine ⟨_, _, rfl, fun hu => ?_, fun hu => ?_⟩
    rotate_left
    · have hu : under m.groups g p = true := by simpa using hu
      have e : m.move g p = .error (R7278g.Spec.rangeErr "the group lies below") := by
        unfold R7278g.Spec.Mem.move
        rw [group_ok lg, group_ok lp]
        exact (if_neg h0).trans (if_pos hu)
      rw [e] at q
      have q : Rais A H E 2 (strU (R7278g.Spec.units "the group lies below")) := q
      rw [str_below] at q
      exact Rais.mono q s1
    have hu : under m.groups g p = false := by simpa using hu
    have M1 := M.mono s1
    refine ⟨_, rfl, M1.meth (by decide +kernel) ⟨_, rfl, L, m, p, rfl, M1.toMemR, fun H2 s2 => ?_⟩⟩
    have s3 := s1.trans s2
    refine ⟨_, rfl, _, _, rfl, fun hp => ?_, fun hp => ?_⟩
    rotate_left
    · have hp : (m.pages.any fun q => q.group == p) = true := by simpa using hp
      have e : m.move g p = .error (R7278g.Spec.rangeErr "the group has pages") := by
        unfold R7278g.Spec.Mem.move
        rw [group_ok lg, group_ok lp]
        exact (if_neg h0).trans ((if_neg (by rw [hu]; decide)).trans (if_pos hp))
      rw [e] at q
      have q : Rais A H E 2 (strU (R7278g.Spec.units "the group has pages")) := q
      rw [str_has_pages] at q
      exact Rais.mono q s3
    have hp : (m.pages.any fun q => q.group == p) = false := by simpa using hp
    have e0 : m.move g p = if fitsAll (movedGroups m.groups g p) m.pages then .ok { m with groups := movedGroups m.groups g p } else .error (R7278g.Spec.rangeErr "out of memory") := by
      unfold R7278g.Spec.Mem.move
      rw [group_ok lg, group_ok lp]
      exact (if_neg h0).trans ((if_neg (by rw [hu]; decide)).trans ((if_neg (by rw [hp]; decide)).trans rfl))
    rw [e0] at q
    have M2 := M.mono s3
    have wf := mov_wf M.wf lg lp h0 hu hp
    obtain ⟨gx, eg⟩ := M2.grp g lg
    have epv : parV m.groups g = nV (par m.groups g) := by
      unfold parV
      rw [if_neg h0]
    refine ⟨_, rfl, M2.f_groups T ?_⟩
    refine ⟨_, rfl, at_dget (.inl M2.own) (mem_liveL.mpr lg) (M2.g_parent T lg ?_)⟩
    refine ⟨_, rfl, _, rfl, M2.f_groups T ?_⟩
    refine ⟨_, rfl, at_dget (.inl M2.own) (mem_liveL.mpr lg) (at_sfld eg T.c_grp T.n_grp_parent (by show 2 < 1000; decide) ?_)⟩
    rw [grpF_put_parent]
    have gn := M2.ga_ne lg
    obtain ⟨dx, es⟩ := M2.self
    have hl : ∀ h, live (movedGroups m.groups g p) h = live m.groups h := live_mov lg
    have kk : ∀ b o, b ≠ L.a → b ≠ L.ag → b ≠ L.ga g → H2 b = some o → (upd H2 (L.ga g) (.ins A.grp gx (grpF (nV p) (L.la g)))) b = some o := fun b o _ _ h3 e => by
      rw [upd_ne h3]
      exact e
    have M3 : MemAt K A (upd H2 (L.ga g) (.ins A.grp gx (grpF (nV p) (L.la g)))) L { m with groups := movedGroups m.groups g p } := by
      refine M2.groups' (L' := L) (g0 := g) lg kk rfl rfl rfl rfl rfl rfl rfl wf ⟨dx, ?_⟩ ?_ (fun h hh => ?_) (fun h hh => ?_) (fun h h' hh hh' e => ?_)
      · show (upd H2 (L.ga g) _) L.a = some (.ins A.mem dx (memF L.ag (movedGroups m.groups g p).length L.ar m.next L.tk))
        rw [upd_ne (Ne.symm gn.1)]
        unfold R7278g.Spec.movedGroups
        rw [len_set]
        exact es
      · show (upd H2 (L.ga g) _) L.ag = some (.dK (kvF (liveL (movedGroups m.groups g p)) fun h => V.ref (L.ga h)))
        rw [upd_ne (Ne.symm gn.2.1), liveL_mov lg]
        exact M2.own
      · have hh : live (movedGroups m.groups g p) h = true := hh
        rw [hl] at hh
        show ∃ dx, (upd H2 (L.ga g) _) (L.ga h) = some (.ins A.grp dx (grpF (parV (movedGroups m.groups g p) h) (L.la h)))
        by_cases e : h = g
        · rw [e]
          refine ⟨gx, ?_⟩
          rw [upd_same]
          unfold parV
          rw [if_neg h0, par_mov lg, if_pos rfl]
        · obtain ⟨hx, eh⟩ := M2.grp h hh
          refine ⟨hx, ?_⟩
          rw [upd_ne fun z => e (M2.inj h g hh lg z), eh]
          unfold parV
          rw [par_mov lg, if_neg e]
      · have hh : live (movedGroups m.groups g p) h = true := hh
        rw [hl] at hh
        obtain ⟨hx, eh⟩ := M2.lim h hh
        refine ⟨hx, ?_⟩
        rw [upd_ne (M2.la_ne hh lg).2.2, eh]
        show _ = some (HO.ins A.lim hx (limF (R7278g.Spec.Groups.at_ (movedGroups m.groups g p) h).max (R7278g.Spec.Groups.at_ (movedGroups m.groups g p) h).min (R7278g.Spec.Groups.at_ (movedGroups m.groups g p) h).low))
        unfold R7278g.Spec.movedGroups
        rw [at_set _ _ _ _ (live_lt lg)]
        by_cases e : h = g
        · rw [if_pos e, e]
        · rw [if_neg e]
      · have hh : live (movedGroups m.groups g p) h = true := hh
        have hh' : live (movedGroups m.groups g p) h' = true := hh'
        rw [hl] at hh hh'
        exact M2.inj h h' hh hh' e
    have s4 : ∀ b o, b ≠ L.ga g → H b = some o → (upd H2 (L.ga g) (.ins A.grp gx (grpF (nV p) (L.la g)))) b = some o := fun b o hb e => by
      rw [upd_ne hb]
      exact s3 b o e
    have eg3 : (upd H2 (L.ga g) (.ins A.grp gx (grpF (nV p) (L.la g)))) (L.ga g) = some (.ins A.grp gx (grpF (nV p) (L.la g))) := upd_same
    have egH : ∀ o, H (L.ga g) = some o → o = .ins A.grp gx (grpF (parV m.groups g) (L.la g)) := fun o e => by
      have := s3 _ _ e
      rw [eg] at this
      exact (Option.some.inj this).symm
    generalize (upd H2 (L.ga g) (.ins A.grp gx (grpF (nV p) (L.la g)))) = H3 at *
    refine ⟨_, rfl, M3.meth (by decide +kernel) ⟨L, _, rfl, M3, fun u H4 s5 hu0 hu4 => ?_⟩⟩
    have M4 := M3.mono s5
    generalize hm' : ({ m with groups := movedGroups m.groups g p } : SMem) = m' at *
    have hlen := M3.wf.g.len
    have hll := liveL_len m'.groups
    refine ⟨L.ag, _, M4.own, trivial, fun od => ?_⟩
    have Ml := M4.lock od
    refine ⟨_, rfl, Ml.f_groups T ?_⟩
    refine ⟨L.ag, od, rfl, .inl ⟨_, lockd_same, fun D hD => ?_⟩⟩
    have hD4 : H4 D = none := (lock_free M4.own).mp hD
    have nug : u ≠ L.ag := fun z => by rw [z, M3.own] at hu0; cases hu0
    refine lc_flat (goes_keys (l := liveL m'.groups)) hD (fun H' e => e _ _ lockd_same) (fun _ => true) (fun x => .bl (decide ((usage m'.groups m'.pages x : Int) ≤ ((m'.groups.at_ x).max : Int)))) (by omega) (fun i x v H5 hx s6 hv N Y h1 h2 => ?_) (fun H5 s6 e5 => ?_)
    · subst hv
      have hxl := List.mem_of_getElem? hx
      have lx := mem_liveL.mp hxl
      have M5 := Ml.mono s6
      refine ⟨rfl, yes ⟨_, rfl, _, rfl, _, _, rfl, dget_in (.inl (s6 _ _ ((lockd_ne nug).trans hu4))) hxl, ?_⟩⟩
      refine ⟨_, rfl, M5.f_groups T ?_⟩
      refine ⟨_, rfl, at_dget M5.grps hxl (M5.g_limits T lx (M5.l_most T lx ?_))⟩
      exact ⟨_, _, rfl, rfl, h2 rfl _ (Same.refl _)⟩
    rw [filter_all] at e5
    refine ⟨s6 _ _ lockd_same, ?_⟩
    have s7 := unlock_same M4.own s6
    have nDg : D ≠ L.ag := fun z => by rw [z, M4.own] at hD4; cases hD4
    have e6 : (upd H5 L.ag (grps L m')) D = some (.lst ((liveL m'.groups).map fun x => .bl (decide ((usage m'.groups m'.pages x : Int) ≤ ((m'.groups.at_ x).max : Int))))) := by
      rw [upd_ne nDg]
      exact e5
    generalize (upd H5 L.ag (grps L m')) = H6 at *
    have M6 := M4.mono s7
    refine ⟨D, (liveL m'.groups).map fun x => decide ((usage m'.groups m'.pages x : Int) ≤ ((m'.groups.at_ x).max : Int)), rfl, sq (by rw [e6, List.map_map]; rfl), ?_⟩
    have eall : ((liveL m'.groups).map fun x => decide ((usage m'.groups m'.pages x : Int) ≤ ((m'.groups.at_ x).max : Int))).all id = fitsAll m'.groups m'.pages := by
      rw [fits_live M3.wf, List.all_map]
      congr 1
      funext x
      show decide _ = decide _
      congr 1
      exact propext ⟨fun h => by omega, fun h => by omega⟩
    rw [eall]
    have ef : fitsAll m'.groups m'.pages = fitsAll (movedGroups m.groups g p) m.pages := by rw [← hm']
    rw [ef]
    have sA := s5.trans s7
    refine ⟨_, rfl, _, rfl, ?_⟩
    cases hf : fitsAll (movedGroups m.groups g p) m.pages with
    | true =>
      rw [hf] at q
      refine iteF ⟨_, rfl, _, _, rfl, (fun _ => ?_), (fun e => by cases e)⟩
      have q : ∀ L' H', MemAt K A H' L' m' → L'.a = L.a → Stp (fun b => Fp L m b ∨ False) H (Fp L' m') H' → Q .non H' := q
      refine q L H6 M6 rfl ⟨fun y o e hy => ?_, fun y hy => ?_⟩
      · have hy' : ¬ Fp L m y := fun h => hy (.inl h)
        exact sA y o (s4 y o (fun z => hy' (z ▸ Fp.ga lg)) e)
      · rcases hy with e | e | e | e | ⟨h, hh, e⟩ | ⟨p', hp', e⟩
        · exact .inl (.inl (.inl e))
        · exact .inl (.inl (.inr (.inl e)))
        · exact .inl (.inl (.inr (.inr (.inl e))))
        · exact .inl (.inl (.inr (.inr (.inr (.inl e)))))
        · have hh : live (movedGroups m.groups g p) h = true := by rw [← hm'] at hh; exact hh
          rw [hl] at hh
          exact .inl (.inl (.inr (.inr (.inr (.inr (.inl ⟨h, hh, e⟩))))))
        · have hp' : p' ∈ m.pages := by rw [← hm'] at hp'; exact hp'
          exact .inl (.inl (e ▸ Fp.ra hp'))
    | false =>
      rw [hf] at q
      have q : Rais A H E 2 (strU (R7278g.Spec.units "out of memory")) := q
      rw [str_memory] at q
      have lg' : live m'.groups g = true := by
        rw [← hm']
        show live (movedGroups m.groups g p) g = true
        rw [hl]
        exact lg
      refine iteT ⟨_, rfl, _, rfl, M6.f_groups T ?_⟩
      refine ⟨_, rfl, at_dget (.inl M6.own) (mem_liveL.mpr lg') (at_sfld (sA _ _ eg3) T.c_grp T.n_grp_parent (by show 2 < 1000; decide) ?_)⟩
      rw [grpF_put_parent]
      refine ⟨_, rfl, _, _, rfl, (fun e => by cases e), fun _ => Rais.mono q fun y o e => ?_⟩
      by_cases z : y = L.ga g
      · subst z
        rw [upd_same, egH o e]
      · rw [upd_ne z]
        exact sA y o (s4 y o z e)
end Gm
end

section
set_option maxRecDepth 100000
set_option maxHeartbeats 8000000
/-! # Values in the heap -/
namespace Gm
open PySem PySem.Spec PyProof.Rows L2 L2G GmM
abbrev octV (o : UInt8) : V := nV o.toNat
abbrev WVal := RWire.Value
mutual
inductive VAt (K : PySem.W.Frag) (H : Hp) : WVal → V → Prop
  | nothing {t : Addr} : SqT K H t [.str "nothing", .non] → VAt K H .nothing (.ref t)
  | null {t : Addr} : SqT K H t [.str "null", .non] → VAt K H .null (.ref t)
  | no {t : Addr} : SqT K H t [.str "false", .non] → VAt K H (.bool false) (.ref t)
  | yes {t : Addr} : SqT K H t [.str "true", .non] → VAt K H (.bool true) (.ref t)
  | int {t : Addr} {i : Int} : SqT K H t [.str "int", .int i] → VAt K H (.int i) (.ref t)
  | text {t q : Addr} {u : RWire.Text} : SqT K H t [.str "text", .ref q] → SqT K H q (u.map octV) → VAt K H (.text u) (.ref t)
  | list {t q : Addr} {xs : List V} {l : List WVal} : SqT K H t [.str "list", .ref q] → H q = some (.lst xs) → VAll K H l xs → VAt K H (.list l) (.ref t)
  | record {t q : Addr} {xs : List V} {l : List (RWire.Text × WVal)} : SqT K H t [.str "record", .ref q] → H q = some (.lst xs) → EAll K H l xs → VAt K H (.record l) (.ref t)
inductive VAll (K : PySem.W.Frag) (H : Hp) : List WVal → List V → Prop
  | nil : VAll K H [] []
  | cons {v : WVal} {l : List WVal} {x : V} {xs : List V} : VAt K H v x → VAll K H l xs → VAll K H (v :: l) (x :: xs)
inductive EAll (K : PySem.W.Frag) (H : Hp) : List (RWire.Text × WVal) → List V → Prop
  | nil : EAll K H [] []
  | cons {n : RWire.Text} {v : WVal} {l : List (RWire.Text × WVal)} {t q : Addr} {x : V} {xs : List V} : SqT K H t [.ref q, x] → SqT K H q (n.map octV) → VAt K H v x → EAll K H l xs → EAll K H ((n, v) :: l) (.ref t :: xs)
end
section
variable {K : PySem.W.Frag} {H H' : Hp}
mutual
theorem VAt.mono (s : Same H H') : ∀ {v : WVal} {x : V}, VAt K H v x → VAt K H' v x
  | _, _, .nothing h => .nothing (s.tup h)
  | _, _, .null h => .null (s.tup h)
  | _, _, .no h => .no (s.tup h)
  | _, _, .yes h => .yes (s.tup h)
  | _, _, .int h => .int (s.tup h)
  | _, _, .text h g => .text (s.tup h) (s.tup g)
  | _, _, .list h g r => .list (s.tup h) (s _ _ g) (VAll.mono s r)
  | _, _, .record h g r => .record (s.tup h) (s _ _ g) (EAll.mono s r)
theorem VAll.mono (s : Same H H') : ∀ {l : List WVal} {xs : List V}, VAll K H l xs → VAll K H' l xs
  | _, _, .nil => .nil
  | _, _, .cons h r => .cons (VAt.mono s h) (VAll.mono s r)
theorem EAll.mono (s : Same H H') : ∀ {l : List (RWire.Text × WVal)} {xs : List V}, EAll K H l xs → EAll K H' l xs
  | _, _, .nil => .nil
  | _, _, .cons h g q r => .cons (s.tup h) (s.tup g) (VAt.mono s q) (EAll.mono s r)
end
theorem VAll.snoc {v : WVal} {x : V} : ∀ {l : List WVal} {xs : List V}, VAll K H l xs → VAt K H v x → VAll K H (l ++ [v]) (xs ++ [x])
  | _, _, .nil, h => .cons h .nil
  | _, _, .cons a r, h => .cons a (VAll.snoc r h)
theorem EAll.snoc {n : RWire.Text} {v : WVal} {t q : Addr} {x : V} (h1 : SqT K H t [.ref q, x]) (h2 : SqT K H q (n.map octV)) (h3 : VAt K H v x) : ∀ {l : List (RWire.Text × WVal)} {xs : List V}, EAll K H l xs → EAll K H (l ++ [(n, v)]) (xs ++ [.ref t])
  | _, _, .nil => .cons h1 h2 h3 .nil
  | _, _, .cons a b c r => .cons a b c (EAll.snoc h1 h2 h3 r)
theorem VAll.len : ∀ {l : List WVal} {xs : List V}, VAll K H l xs → l.length = xs.length
  | _, _, .nil => rfl
  | _, _, .cons _ r => congrArg (· + 1) (VAll.len r)
theorem EAll.len : ∀ {l : List (RWire.Text × WVal)} {xs : List V}, EAll K H l xs → l.length = xs.length
  | _, _, .nil => rfl
  | _, _, .cons _ _ _ r => congrArg (· + 1) (EAll.len r)
theorem VAll.get : ∀ {l : List WVal} {xs : List V}, VAll K H l xs → ∀ {i : Nat} {v : WVal}, l[i]? = some v → ∃ x, xs[i]? = some x ∧ VAt K H v x
  | _, _, .nil, i, v, h => by simp at h
  | _, _, .cons a r, 0, v, h => ⟨_, rfl, by
    have : v = _ := (Option.some.inj h).symm
    rw [this]
    exact a⟩
  | _, _, .cons a r, i + 1, v, h => VAll.get r (i := i) h
theorem VAll.of {f : V → WVal} : ∀ {xs : List V}, (∀ x ∈ xs, VAt K H (f x) x) → VAll K H (xs.map f) xs
  | [], _ => .nil
  | x :: r, h => .cons (h x (List.mem_cons_self ..)) (VAll.of fun y hy => h y (List.mem_cons_of_mem _ hy))
theorem VAll.paired {α : Type} {f : α → WVal} : ∀ {l : List α} {xs : List V}, Paired (fun a x => VAt K H (f a) x) l xs → VAll K H (l.map f) xs
  | _, _, .nil => .nil
  | _, _, .cons h t => .cons h (VAll.paired t)
end
/-! ### what is hidden -/
noncomputable def hid (F : Addr → Prop) (H : Hp) : Hp := fun b => open Classical in if F b then none else H b
theorem hid_some {F : Addr → Prop} {H : Hp} {b : Addr} {o : HO} : hid F H b = some o ↔ ¬ F b ∧ H b = some o := by
  unfold hid
  by_cases h : F b
  · rw [if_pos h]
    exact ⟨(fun e => by cases e), (fun e => absurd h e.1)⟩
  · rw [if_neg h]
    exact ⟨fun e => ⟨h, e⟩, fun e => e.2⟩
theorem hid_un (F : Addr → Prop) (H : Hp) : Same (hid F H) H := fun b o e => (hid_some.mp e).2
theorem hid_same {F : Addr → Prop} {H H' : Hp} (s : Same H H') : Same (hid F H) (hid F H') := fun b o e => hid_some.mpr ⟨(hid_some.mp e).1, s b o (hid_some.mp e).2⟩
theorem hid_keep {F : Addr → Prop} {H H' : Hp} (s : ∀ b o, ¬ F b → H b = some o → H' b = some o) : Same (hid F H) (hid F H') := fun b o e => hid_some.mpr ⟨(hid_some.mp e).1, s b o (hid_some.mp e).1 (hid_some.mp e).2⟩
theorem hid_stp {F F' : Addr → Prop} {H H' : Hp} (s : Stp F H F' H') : Same (hid F H) (hid F' H') := fun b o e => by
  obtain ⟨h1, h2⟩ := hid_some.mp e
  obtain ⟨h3, h4⟩ := s.out h2 h1
  exact hid_some.mpr ⟨h4, h3⟩
def Trk (F : Addr → Prop) (H : Hp) : Prop := ∀ b, F b → H b ≠ none
theorem Trk.mono {F : Addr → Prop} {H H' : Hp} (t : Trk F H) (s : Same H H') : Trk F H' := fun b hb e => t b hb (s.free e)
theorem hid_new {F : Addr → Prop} {H H' : Hp} (t : Trk F H) {b : Addr} {o : HO} (h0 : H b = none) (h : H' b = some o) : hid F H' b = some o := hid_some.mpr ⟨fun hb => t b hb h0, h⟩
theorem hid_newT {K : PySem.W.Frag} {F : Addr → Prop} {H H' : Hp} (t : Trk F H) {b : Addr} {xs : List V} (h0 : H b = none) (h : H' b = some (.tup xs)) : SqT K (hid F H') b xs := .inl (.inl (hid_new t h0 h))
end Gm
end

section
set_option maxRecDepth 100000
set_option maxHeartbeats 8000000
/-! # Reading -/
namespace Gm
open PySem PySem.Spec PyProof.Rows L2 L2G GmM
variable {P : Program} {w : World} {K : PySem.W.Frag} {mg : Str → Option Value} {base : Heap} {A : Ad} {f fI : Addr} {fd : FuncData}
abbrev Octs := List UInt8
/-! ### the wire's words -/
theorem front_eq : ∀ (k : Nat) (l : Octs), RWire.front k l = if k ≤ l.length then some (l.take k, l.drop k) else none
  | 0, l => by simp [RWire.front]
  | k + 1, [] => by simp [RWire.front]
  | k + 1, a :: r => by
    show (match RWire.front k r with | none => none | some p => some (a :: p.1, p.2)) = _
    rw [front_eq k r]
    by_cases h : k ≤ r.length
    · rw [if_pos h, if_pos (by simpa using h)]
      rfl
    · rw [if_neg h, if_neg (by simpa using h)]
theorem readNum_eq (k : Nat) (l : Octs) : RWire.readNum k l = if k ≤ l.length then some (RWire.numOf (l.take k), l.drop k) else none := by
  unfold RWire.readNum
  rw [front_eq]
  by_cases h : k ≤ l.length
  · rw [if_pos h, if_pos h]
  · rw [if_neg h, if_neg h]
theorem readNum_some {k : Nat} {l r : Octs} {n : Nat} (h : RWire.readNum k l = some (n, r)) : k ≤ l.length ∧ n = RWire.numOf (l.take k) ∧ r = l.drop k := by
  rw [readNum_eq] at h
  by_cases hk : k ≤ l.length
  · rw [if_pos hk] at h
    have := Option.some.inj h
    exact ⟨hk, (congrArg Prod.fst this).symm, (congrArg Prod.snd this).symm⟩
  · rw [if_neg hk] at h
    cases h
theorem numOf_lt : ∀ (l : Octs), RWire.numOf l < 256 ^ l.length
  | [] => by simp [RWire.numOf]
  | a :: r => by
    have h1 := numOf_lt r
    have h2 := a.toNat_lt
    show a.toNat + 256 * RWire.numOf r < 256 ^ (r.length + 1)
    rw [Nat.pow_succ]
    omega
/-! ### the reader -/
structure RAt (A : Ad) (H : Hp) (r oa : Addr) (bs : Octs) (at_ : Nat) : Prop where
  self : ∃ dx, H r = some (.ins A.rdr dx (rdrF oa at_))
  oct : H oa = some (.lst (bs.map octV))
  le : at_ ≤ bs.length
  lim : bs.length ≤ 100000
def KeepR (r : Addr) (H H' : Hp) : Prop := ∀ b o, b ≠ r → H b = some o → H' b = some o
theorem KeepR.trans {r : Addr} {H H' H'' : Hp} (a : KeepR r H H') (b : KeepR r H' H'') : KeepR r H H'' := fun c o h e => b c o h (a c o h e)
theorem KeepR.of {r : Addr} {H H' : Hp} (s : Same H H') : KeepR r H H' := fun c o _ e => s c o e
theorem RAt.mono {H H' : Hp} {r oa : Addr} {bs : Octs} {i : Nat} (R : RAt A H r oa bs i) (s : Same H H') : RAt A H' r oa bs i := ⟨let ⟨dx, e⟩ := R.self; ⟨dx, s _ _ e⟩, s _ _ R.oct, R.le, R.lim⟩
theorem RAt.ne {H : Hp} {r oa : Addr} {bs : Octs} {i : Nat} (R : RAt A H r oa bs i) : oa ≠ r := fun z => by
  obtain ⟨dx, e⟩ := R.self
  rw [← z, R.oct] at e
  cases e
abbrev rdrN : List Str := ["octets", "at"]
theorem RAt.meth {H : Hp} {r oa : Addr} {bs : Octs} {i : Nat} {G : Prop} {k : Str} (R : RAt A H r oa bs i) (hk : rdrN.contains k = false) (q : G) : ∃ a dx fs, (V.ref r : V) = .ref a ∧ H a = some (.ins A.rdr dx fs) ∧ fs.lookup k = none ∧ G :=
  let ⟨dx, e⟩ := R.self; ⟨r, dx, _, rfl, e, lk_none hk, q⟩
theorem RAt.f_at {H : Hp} {r oa : Addr} {bs : Octs} {i : Nat} {Q : V → Prop} (R : RAt A H r oa bs i) (T : Txt K mg A) (q : Q (nV i)) : FldE K H (V.ref r) "at" Q :=
  let ⟨_, e⟩ := R.self; at_fld e T.c_rdr T.n_rdr_at (rdrF_at ..) q
theorem RAt.f_octets {H : Hp} {r oa : Addr} {bs : Octs} {i : Nat} {Q : V → Prop} (R : RAt A H r oa bs i) (T : Txt K mg A) (q : Q (.ref oa)) : FldE K H (V.ref r) "octets" Q :=
  let ⟨_, e⟩ := R.self; at_fld e T.c_rdr T.n_rdr_octets (rdrF_octets ..) q
theorem keepR_free {r : Addr} {H H' : Hp} (k : KeepR r H H') {b : Addr} (hr : H' r ≠ none) (h : H' b = none) : H b = none := by
  cases z : H b with
  | none => rfl
  | some o =>
    rw [k b o (fun e => hr (e ▸ h)) z] at h
    cases h
def spRdrI (K : PySem.W.Frag) (A : Ad) : Sp := fun vs H Q _ => ∃ (p dx oa : Addr), vs = [.ref p, .ref oa] ∧ H p = some (.ins A.rdr dx []) ∧ Q .non (upd H p (.ins A.rdr dx (rdrF oa 0)))
theorem ok_Reader_init (F : Fun K "__init__" "Reader.__init__" s_Reader_init f fd) (T : Txt K mg A) : FnOk P w K mg base CX0 1 f fd ["self", "octets"] (spRdrI K A) := by
  refine F.ok sc_Reader_init (fun vs H Q E h => ?_) (fun cdv A' outer s H vs Q E hr h => ⟨_, (pss_cons (ps_fld (L2.pv 0) (L2.pv 1) rfl)
      (pss_one (ps_fld (L2.pv 0) pe_int rfl))), ?_⟩)
  · obtain ⟨p, dx, oa, rfl, _⟩ := h
    rfl
  · obtain ⟨p, dx, oa, rfl, h1, h2⟩ := h
    refine ⟨_, rfl, _, rfl, at_sfld h1 T.c_rdr T.n_rdr_octets (by show 0 < 1000; decide) ?_⟩
    refine ⟨_, rfl, at_sfld upd_same T.c_rdr T.n_rdr_at (by show 1 < 1000; decide) ?_⟩
    rw [upd_upd]
    have e : putF "at" (.int 0) (putF "octets" (.ref oa) []) = rdrF oa 0 := rdrF_new ..
    rw [e]
    exact h2
theorem cut_at (xs : List V) {a k : Nat} (h : a + k ≤ xs.length) : cutV xs (some (a : Int)) (some ((a + k : Nat) : Int)) = (xs.drop a).take k := by
  unfold cutV
  rw [HT.sIx_nat, HT.sIx_nat, Nat.min_eq_left (show a ≤ xs.length by omega), Nat.min_eq_left h, Nat.add_sub_cancel_left]
def spRTake (K : PySem.W.Frag) (A : Ad) : Sp := fun vs H Q _ => ∃ (r oa : Addr) (bs : Octs) (i k : Nat), vs = [.ref r, nV k] ∧ RAt A H r oa bs i ∧ i + k ≤ bs.length ∧
  ∀ p H', KeepR r H H' → RAt A H' r oa bs (i + k) → H p = none → H' p = some (.lst (((bs.drop i).take k).map octV)) → Q (.ref p) H'
theorem ok_Reader_take (F : Fun K "take" "Reader.take" s_Reader_take f fd) (T : Txt K mg A) : FnOk P w K mg base CX0 1 f fd ["self", "many"] (spRTake K A) := by
  refine F.ok sc_Reader_take (fun vs H Q E h => ?_) (fun cdv A' outer s H vs Q E hr h => ⟨_, (pss_cons (ps_if (pt_cmpR op_gt (pe_op op_add (pe_fld (L2.pv 0) rfl) (L2.pv 1)) (pe_callB call_len_seq (by rfl) T.b_len PySem.boot_len (pa_cons (pe_fld (L2.pv 0) rfl) pa_nil)) (nomark _)) (pss_one ps_never) pss_nil)
      (pss_cons (ps_fldaug (L2.pv 0) (L2.pv 1) in_add)
      (pss_one (ps_ret (pe_slice sl_list (pe_fld (L2.pv 0) rfl) (po_some (pe_op op_sub (pe_fld (L2.pv 0) rfl) (L2.pv 1))) (po_some (pe_fld (L2.pv 0) rfl))))))), ?_⟩)
  · obtain ⟨r, oa, bs, i, k, rfl, _⟩ := h
    rfl
  · obtain ⟨r, oa, bs, i, k, rfl, R, hk, q⟩ := h
    refine ⟨_, rfl, R.f_at T ?_⟩
    refine ⟨_, rfl, _, _, rfl, rfl, ?_⟩
    refine ⟨_, rfl, R.f_octets T ?_⟩
    refine ⟨oa, _, rfl, .inl (sq R.oct), _, _, rfl, rfl, _, rfl, ?_⟩
    rw [List.length_map, decide_eq_false (by omega)]
    refine iteF ?_
    obtain ⟨dx, es⟩ := R.self
    refine ⟨_, rfl, r, A.rdr, dx, _, _, rfl, es, T.c_rdr, T.n_rdr_at, rdrF_at .., _, rfl, _, _, rfl, rfl, dx, _, es, by show 2 < 1000; decide, ?_⟩
    have ep : putF "at" (.int ((i : Int) + (k : Int))) (rdrF oa i) = rdrF oa (i + k) := rdrF_put_at ..
    rw [ep]
    have R2 : RAt A (upd H r (.ins A.rdr dx (rdrF oa (i + k)))) r oa bs (i + k) := ⟨⟨dx, upd_same⟩, by rw [upd_ne R.ne]; exact R.oct, hk, R.lim⟩
    have kk : KeepR r H (upd H r (.ins A.rdr dx (rdrF oa (i + k)))) := fun b o hb e => by rw [upd_ne hb]; exact e
    refine ⟨_, rfl, R2.f_octets T ?_⟩
    refine ⟨_, rfl, R2.f_at T ?_⟩
    refine ⟨_, rfl, _, _, rfl, rfl, _, rfl, _, rfl, R2.f_at T ?_⟩
    refine ⟨_, rfl, oa, _, rfl, sq R2.oct, fun p hp => ?_⟩
    have e1 : ((i + k : Nat) : Int) - (k : Int) = (i : Int) := by omega
    have e2 : cutV (bs.map octV) (some (((i + k : Nat) : Int) - (k : Int))) (some ((i + k : Nat) : Int)) = ((bs.drop i).take k).map octV := by
      rw [e1, cut_at _ (by rw [List.length_map]; exact hk), List.map_take, List.map_drop]
    rw [e2]
    have hp0 : H p = none := keepR_free kk (by rw [upd_same]; exact fun z => by cases z) hp
    exact q p _ (kk.trans (KeepR.of (Same.new hp))) (R2.mono (Same.new hp)) hp0 upd_same
/-! ### a number -/
theorem numOf_fold : ∀ (l : Octs), (l.reverse.foldl (fun (n : Nat) (o : UInt8) => n * 256 + o.toNat) 0) = RWire.numOf l
  | [] => rfl
  | a :: r => by
    rw [List.reverse_cons, List.foldl_append, numOf_fold r]
    show RWire.numOf r * 256 + a.toNat = a.toNat + 256 * RWire.numOf r
    omega
def spRNum (K : PySem.W.Frag) (A : Ad) : Sp := fun vs H Q _ => ∃ (r oa : Addr) (bs : Octs) (i k : Nat), vs = [.ref r, nV k] ∧ RAt A H r oa bs i ∧ i + k ≤ bs.length ∧
  ∀ H', KeepR r H H' → RAt A H' r oa bs (i + k) → Q (nV (RWire.numOf ((bs.drop i).take k))) H'
theorem ok_get_number (F : Fun K "get_number" "Reader.get_number" s_Reader_get_number f fd) (T : Txt K mg A) (h_Reader_take : GM P w K mg base CX0 1 A.rdr "take" ["self", "many"] (spRTake K A)) :
    FnOk P w K mg base CX0 2 f fd ["self", "many"] (spRNum K A) := by
  refine F.ok sc_Reader_get_number (fun vs H Q E h => ?_) (fun cdv A' outer s H vs Q E hr h => ⟨_, (pss_cons (ps_set (i := 2) sc_Reader_get_number.nd rfl (Or.inl rfl) pe_int)
      (pss_cons (ps_for PassesOwn.never rfl (pi_list (pe_revL (pe_gm h_Reader_take T.c_rdr (hr.mono (by decide)) pass0 (L2.pv 0) (pa_cons (L2.pv 1) pa_nil)))) (pg_name (i := 3) sc_Reader_get_number.nd rfl (Or.inl rfl)) (pss_one (ps_set (i := 2) sc_Reader_get_number.nd rfl (Or.inl rfl) (pe_op op_add (pe_op op_mul (L2.pv 2) pe_int) (L2.pv 3)))))
      (pss_one (ps_ret (L2.pv 2))))), ?_⟩)
  · obtain ⟨r, oa, bs, i, k, rfl, _⟩ := h
    rfl
  · obtain ⟨r, oa, bs, i, k, rfl, R, hk, q⟩ := h
    refine ⟨_, rfl, R.meth (by decide +kernel) ⟨_, rfl, r, oa, bs, i, k, rfl, R, hk, fun p H1 k1 R1 hp0 hp => ?_⟩⟩
    refine ⟨p, _, rfl, sq hp, fun d hd => ?_⟩
    have k2 := k1.trans (KeepR.of (Same.new (o := .lst (((bs.drop i).take k).map octV).reverse) hd))
    have R2 := R1.mono (Same.new (o := .lst (((bs.drop i).take k).map octV).reverse) hd)
    generalize hl : (bs.drop i).take k = l at *
    refine ⟨d, rfl, ⟨_, sq upd_same⟩, for_goes (l := l.reverse) (goes_list (h := octV)) (fun j σ H' => ∃ x, σ = [some (.ref r), some (nV k), some (nV ((l.reverse.take j).foldl (fun (n : Nat) (o : UInt8) => n * 256 + o.toNat) 0)), x] ∧ KeepR r H H' ∧ RAt A H' r oa bs (i + k) ∧ H' d = some (.lst (l.reverse.map octV))) ?_ ?_ ?_ ?_⟩
    · exact ⟨_, rfl, k2, R2, by rw [upd_same, List.map_reverse]⟩
    · rintro j σ H' ⟨x, rfl, _, _, e⟩
      exact sq e
    · rintro j o v σ H3 H3' hj ⟨x, rfl, k3, R3, e3⟩ se hv
      subst hv
      refine ⟨_, rfl, _, _, rfl, rfl, .inr ⟨by decide, by decide⟩, _, rfl, _, _, rfl, rfl, some (octV o), ?_, k3.trans (KeepR.of se), R3.mono se, se _ _ e3⟩
      rw [take_snoc hj, List.foldl_append]
      rfl
    · rintro σ H' ⟨x, rfl, k3, R3, e3⟩
      refine ⟨_, rfl, ?_⟩
      rw [List.take_length, numOf_fold]
      exact q H' k3 R3
/-! ### a text -/
def spRText (K : PySem.W.Frag) (A : Ad) : Sp := fun vs H Q _ => ∃ (r oa : Addr) (bs : Octs) (i : Nat) (u rest : Octs), vs = [.ref r] ∧ RAt A H r oa bs i ∧ RWire.readText (bs.drop i) = some (u, rest) ∧
  ∀ p j H', KeepR r H H' → RAt A H' r oa bs j → rest = bs.drop j → i ≤ j → H p = none → H' p = some (.tup (u.map octV)) → Q (.ref p) H'
theorem readText_some {l u rest : Octs} (h : RWire.readText l = some (u, rest)) : 4 ≤ l.length ∧ RWire.numOf (l.take 4) ≤ (l.drop 4).length ∧ u = (l.drop 4).take (RWire.numOf (l.take 4)) ∧ rest = (l.drop 4).drop (RWire.numOf (l.take 4)) := by
  unfold RWire.readText at h
  rw [readNum_eq] at h
  by_cases h4 : 4 ≤ l.length
  · rw [if_pos h4] at h
    have h : RWire.front (RWire.numOf (l.take 4)) (l.drop 4) = some (u, rest) := h
    rw [front_eq] at h
    by_cases hn : RWire.numOf (l.take 4) ≤ (l.drop 4).length
    · rw [if_pos hn] at h
      have := Option.some.inj h
      exact ⟨h4, hn, (congrArg Prod.fst this).symm, (congrArg Prod.snd this).symm⟩
    · rw [if_neg hn] at h
      cases h
  · rw [if_neg h4] at h
    cases h
theorem ok_Reader_text (F : Fun K "text" "Reader.text" s_Reader_text f fd) (T : Txt K mg A) (h_Reader_take : GM P w K mg base CX0 1 A.rdr "take" ["self", "many"] (spRTake K A)) (h_Reader_get_number : GM P w K mg base CX0 2 A.rdr "get_number" ["self", "many"] (spRNum K A)) :
    FnOk P w K mg base CX0 3 f fd ["self"] (spRText K A) := by
  refine F.ok sc_Reader_text (fun vs H Q E h => ?_) (fun cdv A' outer s H vs Q E hr h => ⟨_, (pss_one (ps_ret (pe_callTy call_tuple_of (by rfl) T.b_tuple PyProof.Rows.boot_tuple (pa_cons (pe_gm h_Reader_take T.c_rdr (hr.mono (by decide)) pass0 (L2.pv 0) (pa_cons (pe_gm h_Reader_get_number T.c_rdr (hr.mono (by decide)) pass0 (L2.pv 0) (pa_cons pe_int pa_nil)) pa_nil)) pa_nil)))), ?_⟩)
  · obtain ⟨r, oa, bs, i, u, rest, rfl, _⟩ := h
    rfl
  · obtain ⟨r, oa, bs, i, u, rest, rfl, R, hrd, q⟩ := h
    obtain ⟨h4, hn, hu, hrest⟩ := readText_some hrd
    rw [List.length_drop] at h4 hn
    rw [List.length_drop] at hn
    rw [List.drop_drop] at hu hrest
    rw [List.drop_drop] at hrest
    refine ⟨_, rfl, R.meth (by decide +kernel) ⟨_, rfl, R.meth (by decide +kernel) ⟨r, oa, bs, i, 4, rfl, R, by omega, fun H1 k1 R1 => ?_⟩⟩⟩
    refine ⟨r, oa, bs, i + 4, _, rfl, R1, by omega, fun p H2 k2 R2 hp0 hp => ?_⟩
    rw [← hu] at hp
    refine ⟨p, _, rfl, .inl ⟨sq hp, fun t ht => ?_⟩⟩
    have k3 := k1.trans k2
    obtain ⟨dx2, es2⟩ := R2.self
    refine q t _ _ (k3.trans (KeepR.of (Same.new ht))) (R2.mono (Same.new ht)) (by rw [hrest, Nat.add_assoc]) (by omega) (keepR_free k3 (by rw [es2]; exact fun z => by cases z) ht) upd_same
end Gm
end

section
set_option maxRecDepth 100000
set_option maxHeartbeats 8000000
/-! # Reading a value -/
namespace Gm
open PySem PySem.Spec PyProof.Rows L2 L2G GmM
variable {P : Program} {w : World} {K : PySem.W.Frag} {mg : Str → Option Value} {base : Heap} {A : Ad} {f fI : Addr} {fd : FuncData}
/-! ### what the document has -/
def okV (v : WVal) : Bool := RWire.noBig v && RWire.noOctets v && RWire.noWide v
def okM (l : List WVal) : Bool := RWire.noBigMany l && RWire.noOctetsMany l && RWire.noWideMany l
def okE (l : List (RWire.Text × WVal)) : Bool := RWire.noBigEntries l && RWire.noOctetsEntries l && RWire.noWideEntries l
theorem okV_list (l : List WVal) : okV (.list l) = okM l := by simp only [okV, okM, RWire.noBig, RWire.noOctets, RWire.noWide]
theorem okV_record (l : List (RWire.Text × WVal)) : okV (.record l) = okE l := by simp only [okV, okE, RWire.noBig, RWire.noOctets, RWire.noWide]
theorem okM_cons {v : WVal} {l : List WVal} (h : okM (v :: l) = true) : okV v = true ∧ okM l = true := by
  simp only [okM, okV, RWire.noBigMany, RWire.noOctetsMany, RWire.noWideMany, Bool.and_eq_true] at h ⊢
  exact ⟨⟨⟨h.1.1.1, h.1.2.1⟩, h.2.1⟩, ⟨h.1.1.2, h.1.2.2⟩, h.2.2⟩
theorem okE_cons {n : RWire.Text} {v : WVal} {l : List (RWire.Text × WVal)} (h : okE ((n, v) :: l) = true) : okV v = true ∧ okE l = true := by
  simp only [okE, okV, RWire.noBigEntries, RWire.noOctetsEntries, RWire.noWideEntries, Bool.and_eq_true] at h ⊢
  exact ⟨⟨⟨h.1.1.1, h.1.2.1⟩, h.2.1⟩, ⟨h.1.1.2, h.1.2.2⟩, h.2.2⟩
theorem readKind_cases {g : Octs → Option (WVal × Octs)} {k : Nat} {r rest : Octs} {v : WVal} (h : RWire.readKind g k r = some (v, rest)) (ok : okV v = true) :
    (k = 0 ∧ v = .nothing ∧ rest = r) ∨ (k = 1 ∧ v = .null ∧ rest = r) ∨ (k = 2 ∧ v = .bool false ∧ rest = r) ∨ (k = 3 ∧ v = .bool true ∧ rest = r) ∨
    (k = 4 ∧ 8 ≤ r.length ∧ v = .int (RWire.intOf (RWire.numOf (r.take 8))) ∧ rest = r.drop 8) ∨ (k = 6 ∧ ∃ u, v = .text u ∧ RWire.readText r = some (u, rest)) ∨
    (k = 7 ∧ ∃ l, v = .list l ∧ 4 ≤ r.length ∧ RWire.readMany g (RWire.numOf (r.take 4)) (r.drop 4) = some (l, rest)) ∨
    (k = 8 ∧ ∃ l, v = .record l ∧ 4 ≤ r.length ∧ RWire.readMany (RWire.readEntry g) (RWire.numOf (r.take 4)) (r.drop 4) = some (l, rest)) := by
  unfold RWire.readKind at h
  split at h
  · have := Option.some.inj h
    exact .inl ⟨rfl, (congrArg Prod.fst this).symm, (congrArg Prod.snd this).symm⟩
  · have := Option.some.inj h
    exact .inr (.inl ⟨rfl, (congrArg Prod.fst this).symm, (congrArg Prod.snd this).symm⟩)
  · have := Option.some.inj h
    exact .inr (.inr (.inl ⟨rfl, (congrArg Prod.fst this).symm, (congrArg Prod.snd this).symm⟩))
  · have := Option.some.inj h
    exact .inr (.inr (.inr (.inl ⟨rfl, (congrArg Prod.fst this).symm, (congrArg Prod.snd this).symm⟩)))
  · unfold RWire.readInt at h
    split at h
    · cases h
    · rename_i p hp
      obtain ⟨h8, e1, e2⟩ := readNum_some (n := p.1) (r := p.2) hp
      split at h
      · have := Option.some.inj h
        exact .inr (.inr (.inr (.inr (.inl ⟨rfl, h8, by rw [← e1]; exact (congrArg Prod.fst this).symm, by rw [← e2]; exact (congrArg Prod.snd this).symm⟩))))
      · cases h
  · exfalso
    unfold RWire.readBig at h
    split at h
    · cases h
    · split at h
      · cases h
      · split at h
        · cases h
        · split at h
          · cases h
          · have := (congrArg Prod.fst (Option.some.inj h)).symm
            subst this
            simp [okV, RWire.noBig] at ok
  · unfold RWire.readWords at h
    split at h
    · cases h
    · rename_i p hp
      have := Option.some.inj h
      refine .inr (.inr (.inr (.inr (.inr (.inl ⟨rfl, p.1, (congrArg Prod.fst this).symm, ?_⟩)))))
      have e3 : p.2 = rest := congrArg Prod.snd this
      rw [hp, ← e3]
  · unfold RWire.readList at h
    split at h
    · cases h
    · rename_i p hp
      obtain ⟨h4, e1, e2⟩ := readNum_some (n := p.1) (r := p.2) hp
      split at h
      · cases h
      · rename_i q hq
        have := Option.some.inj h
        refine .inr (.inr (.inr (.inr (.inr (.inr (.inl ⟨rfl, q.1, (congrArg Prod.fst this).symm, h4, ?_⟩))))))
        have e3 : q.2 = rest := congrArg Prod.snd this
        rw [← e1, ← e2, hq, ← e3]
  · unfold RWire.readRecord at h
    split at h
    · cases h
    · rename_i p hp
      obtain ⟨h4, e1, e2⟩ := readNum_some (n := p.1) (r := p.2) hp
      split at h
      · cases h
      · rename_i q hq
        split at h
        · have := Option.some.inj h
          refine .inr (.inr (.inr (.inr (.inr (.inr (.inr ⟨rfl, q.1, (congrArg Prod.fst this).symm, h4, ?_⟩))))))
          have e3 : q.2 = rest := congrArg Prod.snd this
          rw [← e1, ← e2, hq, ← e3]
        · cases h
  · exfalso
    unfold RWire.readOctets at h
    split at h
    · cases h
    · have := (congrArg Prod.fst (Option.some.inj h)).symm
      subst this
      simp [okV, RWire.noOctets] at ok
  · exfalso
    unfold RWire.readWide at h
    split at h
    · cases h
    · split at h
      · cases h
      · split at h
        · have := (congrArg Prod.fst (Option.some.inj h)).symm
          subst this
          simp [okV, RWire.noWide] at ok
        · cases h
  · cases h
/-! ### get_value -/
def spRVal (K : PySem.W.Frag) (A : Ad) (n : Nat) : Sp := fun vs H Q _ => ∃ (r oa : Addr) (bs : Octs) (i : Nat) (v : WVal) (rest : Octs) (F : Addr → Prop), vs = [.ref r, nV n] ∧ RAt A H r oa bs i ∧ RWire.readF n (bs.drop i) = some (v, rest) ∧ okV v = true ∧ F r ∧ Trk F H ∧
  ∀ x j H', KeepR r H H' → RAt A H' r oa bs j → rest = bs.drop j → i < j → VAt K (hid F H') v x → Q x H'
theorem Trk.keepR {F : Addr → Prop} {H H' : Hp} {r : Addr} (t : Trk F H) (k : KeepR r H H') (hr : H' r ≠ none) : Trk F H' := fun b hb e => t b hb (keepR_free k hr e)
theorem hid_keepR {F : Addr → Prop} {H H' : Hp} {r : Addr} (hF : F r) (k : KeepR r H H') : Same (hid F H) (hid F H') := hid_keep fun b o n e => k b o (fun z => n (z ▸ hF)) e
theorem RAt.some {H : Hp} {r oa : Addr} {bs : Octs} {i : Nat} (R : RAt A H r oa bs i) : H r ≠ none := fun z => by
  obtain ⟨dx, e⟩ := R.self
  rw [z] at e
  cases e
theorem readMany_step {α : Type} {g : Octs → Option (α × Octs)} {k : Nat} {r rest : Octs} {l : List α} (h : RWire.readMany g (k + 1) r = some (l, rest)) : ∃ v r1 l1, g r = some (v, r1) ∧ RWire.readMany g k r1 = some (l1, rest) ∧ l = v :: l1 := by
  unfold RWire.readMany at h
  split at h
  · cases h
  · rename_i p hp
    split at h
    · cases h
    · rename_i q hq
      have := Option.some.inj h
      have e3 : q.2 = rest := congrArg Prod.snd this
      exact ⟨p.1, p.2, q.1, hp, by rw [hq, ← e3], (congrArg Prod.fst this).symm⟩
theorem readEntry_some {g : Octs → Option (WVal × Octs)} {r rest : Octs} {e : RWire.Text × WVal} (h : RWire.readEntry g r = some (e, rest)) : ∃ u r1 v, RWire.readText r = some (u, r1) ∧ g r1 = some (v, rest) ∧ e = (u, v) := by
  unfold RWire.readEntry at h
  split at h
  · cases h
  · rename_i p hp
    split at h
    · cases h
    · rename_i q hq
      have := Option.some.inj h
      have e3 : q.2 = rest := congrArg Prod.snd this
      exact ⟨p.1, p.2, q.1, hp, by rw [hq, ← e3], (congrArg Prod.fst this).symm⟩
theorem hid_less {F F' : Addr → Prop} {H : Hp} (h : ∀ b, F b → F' b) : Same (hid F' H) (hid F H) := fun b o e => hid_some.mpr ⟨fun z => (hid_some.mp e).1 (h b z), (hid_some.mp e).2⟩
theorem get_value_step (n : Nat) (F0 : Fun K "get_value" "Reader.get_value" s_Reader_get_value f fd) (T : Txt K mg A) (h_Reader_get_number : GM P w K mg base CX0 2 A.rdr "get_number" ["self", "many"] (spRNum K A)) (h_Reader_text : GM P w K mg base CX0 3 A.rdr "text" ["self"] (spRText K A))
    (h_Reader_get_value : GM P w K mg base CX0 (3 + n) A.rdr "get_value" ["self", "deep"] (spRVal K A n)) : FnOk P w K mg base CX0 (3 + n + 1) f fd ["self", "deep"] (spRVal K A (n + 1)) := by
  refine F0.ok sc_Reader_get_value (fun vs H Q E h => ?_) (fun cdv A' outer s H vs Q E hr h => ⟨_, (pss_cons (ps_set (i := 2) sc_Reader_get_value.nd rfl (Or.inl rfl) (pe_gm h_Reader_get_number T.c_rdr (hr.mono (by omega)) pass0 (L2.pv 0) (pa_cons pe_int pa_nil)))
      (pss_cons (ps_if (pt_cmpR op_lt (L2.pv 2) pe_int (nomark _)) (pss_one (ps_ret (pe_tup (pa_cons (pe_ix ix_tup (pe_gl T.g_PLAIN_values) (L2.pv 2) (fun _ _ => rfl)) (pa_cons pe_non pa_nil))))) pss_nil)
      (pss_cons (ps_if (pt_cmpR op_eq (L2.pv 2) pe_int (nomark _)) (pss_cons (ps_set (i := 3) sc_Reader_get_value.nd rfl (Or.inl rfl) (pe_gm h_Reader_get_number T.c_rdr (hr.mono (by omega)) pass0 (L2.pv 0) (pa_cons pe_int pa_nil)))
      (pss_one (ps_ret (pe_tup (pa_cons pe_str (pa_cons (pe_ifExp (pt_cmpR op_ge (L2.pv 3) pe_int (nomark _)) (pe_op op_sub (L2.pv 3) pe_int) (L2.pv 3)) pa_nil)))))) pss_nil)
      (pss_cons (ps_if (pt_cmpR op_eq (L2.pv 2) pe_int (nomark _)) (pss_one (ps_ret (pe_tup (pa_cons pe_str (pa_cons (pe_gm0 h_Reader_text T.c_rdr (hr.mono (by omega)) pass0 (L2.pv 0)) pa_nil))))) pss_nil)
      (pss_cons (ps_if (pw_or (pt_cmpR op_notIn_seq (L2.pv 2) (pe_tup (pa_cons pe_int (pa_cons pe_int pa_nil))) (by with_unfolding_all rfl)) (pw_or1 (pt_cmpR op_eq (L2.pv 1) pe_int (nomark _)))).pt (pss_one ps_never) pss_nil)
      (pss_cons (ps_par (i := 4) (j := 3) rfl sc_Reader_get_value.nd rfl rfl (by decide) rfl rfl (pa_cons (pe_gm h_Reader_get_number T.c_rdr (hr.mono (by omega)) pass0 (L2.pv 0) (pa_cons pe_int pa_nil)) (pa_cons (pe_lst pa_nil) pa_nil)) (by rfl))
      (pss_cons (ps_for PassesOwn.never rfl (pi_range1 (by rfl) T.b_range (pa_cons (L2.pv 4) pa_nil)) (pg_name (i := 5) sc_Reader_get_value.nd rfl (Or.inl rfl)) (pss_one (ps_if (pt_cmpR op_eq (L2.pv 2) pe_int (nomark _)) (pss_one (ps_expr (pe_bm PySem.F.plainAttrs_list PySem.F.slot_list_append PySem.F.type_list_append mt_append (L2.pv 3) (pa_cons (pe_gm h_Reader_get_value T.c_rdr (hr.mono (by omega)) pass0 (L2.pv 0) (pa_cons (pe_op op_sub (L2.pv 1) pe_int) pa_nil)) pa_nil)))) (pss_cons (ps_set (i := 6) sc_Reader_get_value.nd rfl (Or.inl rfl) (pe_gm0 h_Reader_text T.c_rdr (hr.mono (by omega)) pass0 (L2.pv 0)))
      (pss_one (ps_expr (pe_bm PySem.F.plainAttrs_list PySem.F.slot_list_append PySem.F.type_list_append mt_append (L2.pv 3) (pa_cons (pe_tup (pa_cons (L2.pv 6) (pa_cons (pe_gm h_Reader_get_value T.c_rdr (hr.mono (by omega)) pass0 (L2.pv 0) (pa_cons (pe_op op_sub (L2.pv 1) pe_int) pa_nil)) pa_nil))) pa_nil))))))))
      (pss_one (ps_ret (pe_tup (pa_cons (pe_ifExp (pt_cmpR op_eq (L2.pv 2) pe_int (nomark _)) pe_str pe_str) (pa_cons (L2.pv 3) pa_nil)))))))))))), ?_⟩)
  · obtain ⟨r, oa, bs, i, v, rest, F, rfl, _⟩ := h
    rfl
  · obtain ⟨r, oa, bs, i, v, rest, F, rfl, R, hrd, hok, hF, ht, q⟩ := h
    cases hd : bs.drop i with
    | nil =>
      rw [hd] at hrd
      cases hrd
    | cons k0 r0 =>
      have hil : i < bs.length := by
        have := congrArg List.length hd
        rw [List.length_drop, List.length_cons] at this
        omega
      have hr0 : r0 = bs.drop (i + 1) := by
        have := congrArg List.tail hd
        rw [List.tail_drop, List.tail_cons] at this
        exact this.symm
      rw [hd] at hrd
      have hrd : RWire.readKind (RWire.readF n) k0.toNat r0 = some (v, rest) := hrd
      refine ⟨_, rfl, R.meth (by decide +kernel) ⟨r, oa, bs, i, 1, rfl, R, by omega, fun H1 k1 R1 => ?_⟩⟩
      have e1 : RWire.numOf ((bs.drop i).take 1) = k0.toNat := by
        rw [hd]
        rfl
      rw [e1]
      have hlr : r0.length = bs.length - (i + 1) := by rw [hr0, List.length_drop]
      refine ⟨_, rfl, _, _, rfl, rfl, _, rfl, ?_⟩
      -- the plain kinds
      have plain : ∀ (c : Nat) (z : Str), k0.toNat = c → c < 4 → [V.str "nothing", V.str "null", V.str "false", V.str "true"][c]? = some (.str z) → (∀ H' t, SqT K (hid F H') t [.str z, .non] → VAt K (hid F H') v (.ref t)) → rest = r0 →
          (if decide ((k0.toNat : Int) < 4) = true then tRet (tTup (tCons (tOp (rIxT K) (tC (.ref A.tPLAIN_values)) (tVar 2)) (tCons (tC .non) tNil))) { nx := fun x H' => Q .non H', rt := Q } [some (.ref r), some (nV (n + 1)), some (nV k0.toNat), none, none, none, none] H1 else False) := by
        intro c z hc hc4 hz hv hrest
        rw [decide_eq_true (by omega)]
        refine iteT ⟨_, rfl, A.tPLAIN_values, _, _, _, rfl, rfl, T.q_PLAIN_values.at H1, atI_nat (by rw [hc]; exact hz), by show 2 ≤ sizeLine; decide, fun t ht0 => ?_⟩
        have ht1 : H t = none := keepR_free k1 R1.some ht0
        exact q _ (i + 1) _ (k1.trans (KeepR.of (Same.new ht0))) (R1.mono (Same.new ht0)) (by rw [hrest, hr0]) (by omega) (hv _ _ (hid_newT ht ht1 upd_same))
      have use : ∀ {B C : Prop}, (if decide ((k0.toNat : Int) < 4) = true then B else False) → (if decide ((k0.toNat : Int) < 4) = true then B else C) := fun {B C} h => by
        by_cases hc : decide ((k0.toNat : Int) < 4) = true
        · rw [if_pos hc] at h ⊢
          exact h
        · rw [if_neg hc] at h
          exact absurd h id
      rcases readKind_cases hrd hok with ⟨hk, hv, hrest⟩ | ⟨hk, hv, hrest⟩ | ⟨hk, hv, hrest⟩ | ⟨hk, hv, hrest⟩ | ⟨hk, h8, hv, hrest⟩ | ⟨hk, u, hv, hrest⟩ | ⟨hk, l, hv, h4, hrest⟩ | ⟨hk, l, hv, h4, hrest⟩
      · exact use (plain 0 "nothing" hk (by decide) rfl (fun H' t h => hv ▸ .nothing h) hrest)
      · exact use (plain 1 "null" hk (by decide) rfl (fun H' t h => hv ▸ .null h) hrest)
      · exact use (plain 2 "false" hk (by decide) rfl (fun H' t h => hv ▸ .no h) hrest)
      · exact use (plain 3 "true" hk (by decide) rfl (fun H' t h => hv ▸ .yes h) hrest)
      · rw [decide_eq_false (by omega)]
        refine iteF ⟨_, rfl, rfl, _, rfl, ?_⟩
        have e4 : decide (nV k0.toNat = V.int 4) = true := (@dec_nV k0.toNat 4).trans (decide_eq_true hk)
        rw [e4]
        refine iteT ?_
        refine ⟨_, rfl, R1.meth (by decide +kernel) ⟨r, oa, bs, i + 1, 8, rfl, R1, by omega, fun H2 k2 R2 => ?_⟩⟩
        have k3 := k1.trans k2
        have e8 : (bs.drop (i + 1)).take 8 = r0.take 8 := by rw [hr0]
        rw [e8]
        generalize hm : RWire.numOf (r0.take 8) = m at *
        refine ⟨_, rfl, _, _, rfl, rfl, _, rfl, ?_⟩
        have fin : ∀ j : Int, j = RWire.intOf m → (2 ≤ sizeLine ∧ ∀ p, H2 p = none → Q (.ref p) (upd H2 p (.tup [.str "int", .int j]))) := by
          rintro j rfl
          refine ⟨by decide, fun t ht0 => ?_⟩
          have ht1 : H t = none := keepR_free k3 R2.some ht0
          exact q _ (i + 1 + 8) _ (k3.trans (KeepR.of (Same.new ht0))) (R2.mono (Same.new ht0)) (by rw [hrest, hr0, List.drop_drop]) (by omega) (by rw [hv]; exact .int (hid_newT ht ht1 upd_same))
        by_cases hge : (9223372036854775808 : Int) ≤ (m : Int)
        · rw [decide_eq_true hge]
          refine iteT ⟨_, rfl, _, _, rfl, rfl, fin _ ?_⟩
          unfold RWire.intOf
          have hd : decide (m < 9223372036854775808) = false := decide_eq_false (by omega)
          rw [hd]
          rfl
        · rw [decide_eq_false hge]
          refine iteF ⟨_, rfl, fin _ ?_⟩
          unfold RWire.intOf
          have hd : decide (m < 9223372036854775808) = true := decide_eq_true (by omega)
          rw [hd]
          rfl
      · rw [decide_eq_false (by omega)]
        refine iteF ⟨_, rfl, rfl, _, rfl, ?_⟩
        have e4 : decide (nV k0.toNat = V.int 4) = false := (@dec_nV k0.toNat 4).trans (decide_eq_false (by omega))
        have e6 : decide (nV k0.toNat = V.int 6) = true := (@dec_nV k0.toNat 6).trans (decide_eq_true hk)
        rw [e4]
        refine iteF ⟨_, rfl, rfl, _, rfl, ?_⟩
        rw [e6]
        refine iteT ?_
        refine ⟨_, rfl, R1.meth (by decide +kernel) ⟨r, oa, bs, i + 1, u, rest, rfl, R1, by rw [← hr0]; exact hrest, fun p j H2 k2 R2 hj hij hp0 hp => ?_⟩⟩
        refine ⟨by show 2 ≤ sizeLine; decide, fun t ht0 => ?_⟩
        have k3 := k1.trans k2
        have ht1 : H t = none := keepR_free k3 R2.some ht0
        have hp1 : H p = none := keepR_free k1 R1.some hp0
        refine q _ j _ (k3.trans (KeepR.of (Same.new ht0))) (R2.mono (Same.new ht0)) hj (by omega) ?_
        rw [hv]
        exact .text (hid_newT ht ht1 upd_same) (hid_newT ht hp1 ((Same.new ht0) _ _ hp))
      · rw [decide_eq_false (by omega)]
        refine iteF ⟨_, rfl, rfl, _, rfl, ?_⟩
        have e4 : decide (nV k0.toNat = V.int 4) = false := (@dec_nV k0.toNat 4).trans (decide_eq_false (by omega))
        have e6 : decide (nV k0.toNat = V.int 6) = false := (@dec_nV k0.toNat 6).trans (decide_eq_false (by omega))
        have e7 : decide (nV k0.toNat = V.int 7) = true := (@dec_nV k0.toNat 7).trans (decide_eq_true hk)
        rw [e4]
        refine iteF ⟨_, rfl, rfl, _, rfl, ?_⟩
        rw [e6]
        refine iteF ⟨_, rfl, by show 2 ≤ sizeLine; decide, fun t7 ht7 => ?_⟩
        refine ⟨t7, _, rfl, .inr (.inl (.inl upd_same)), rfl, rfl, _, rfl, ?_⟩
        have ein : inV (nV k0.toNat) [V.int 7, V.int 8] = true := by
          rw [hk]
          decide
        rw [ein]
        refine iteF ⟨_, rfl, rfl, _, rfl, ?_⟩
        have e0 : decide (nV (n + 1) = V.int 0) = false := (@dec_nV (n + 1) 0).trans (decide_eq_false (by omega))
        rw [e0]
        refine iteF ?_
        have k1 := k1.trans (KeepR.of (Same.new (o := .tup [V.int 7, V.int 8]) ht7))
        have R1 := R1.mono (Same.new (o := .tup [V.int 7, V.int 8]) ht7)
        generalize (upd H1 t7 (.tup [V.int 7, V.int 8])) = H1 at *
        refine ⟨_, rfl, R1.meth (by decide +kernel) ⟨r, oa, bs, i + 1, 4, rfl, R1, by omega, fun H2 k2 R2 => ?_⟩⟩
        have k3 := k1.trans k2
        have e8 : (bs.drop (i + 1)).take 4 = r0.take 4 := by rw [hr0]
        rw [e8]
        have hclt : RWire.numOf (r0.take 4) < 4294967296 := by
          have := numOf_lt (r0.take 4)
          rw [List.length_take, Nat.min_eq_left h4] at this
          exact this
        generalize hc : RWire.numOf (r0.take 4) = c at *
        rw [hr0, List.drop_drop] at hrest
        refine ⟨Nat.zero_le _, fun D hD => ?_⟩
        refine ⟨_, _, rfl, ?_⟩
        have hD0 : H D = none := keepR_free k3 R2.some hD
        have k4 := k3.trans (KeepR.of (Same.new (o := .lst []) hD))
        have R4 := R2.mono (Same.new (o := .lst []) hD)
        have hD4 : (upd H2 D (.lst [])) D = some (.lst []) := upd_same
        generalize (upd H2 D (.lst [])) = H4 at *
        have nDr : D ≠ r := fun z => by rw [z] at hD0; exact ht r hF hD0
        let F' : Addr → Prop := fun b => F b ∨ b = D
        have hF' : F' r := .inl hF
        have tF' : ∀ {H'}, KeepR r H H' → H' r ≠ none → H' D ≠ none → Trk F' H' := fun {H'} k hr' hD' b hb => by
          rcases hb with hb | hb
          · exact (ht.keepR k hr') b hb
          · rw [hb]
            exact hD'
        refine ⟨_, rfl, c, rfl, by omega, by omega, for_goes (goes_range (lo := 0) (n := c)) (fun tn σ H' => ∃ (x5 x6 : Option V) (j : Nat) (done l' : List WVal) (ys : List V), σ = [some (.ref r), some (nV (n + 1)), some (nV k0.toNat), some (.ref D), some (nV c), x5, x6] ∧ KeepR r H H' ∧ RAt A H' r oa bs j ∧
          RWire.readMany (RWire.readF n) (c - tn) (bs.drop j) = some (l', rest) ∧ l = done ++ l' ∧ H' D = some (.lst ys) ∧ VAll K (hid F' H') done ys ∧ done.length < j ∧ i < j) ?_ (fun _ _ _ _ => trivial) ?_ ?_⟩
        · exact ⟨_, _, i + 1 + 4, [], l, [], rfl, k4, R4, by rw [Nat.sub_zero]; exact hrest, rfl, hD4, .nil, by show 0 < i + 1 + 4; omega, by omega⟩
        · rintro tn z v σ H5 H5' hz ⟨x5, x6, j, done, l', ys, rfl, k5, R5, hrm, hl, hD5, hV, hdj, hij⟩ se ⟨_, rfl⟩
          have htc : tn < c := by
            have := (List.getElem?_eq_some_iff.mp hz).1
            rwa [List.length_range] at this
          have ec : c - tn = (c - (tn + 1)) + 1 := by omega
          rw [ec] at hrm
          obtain ⟨v1, r1, l1, hg, hrm', hl'⟩ := readMany_step hrm
          have k6 := k5.trans (KeepR.of se)
          have R6 := R5.mono se
          have hD6 := se _ _ hD5
          have hV6 := VAll.mono (hid_same se) hV
          have hys : ys.length < sizeLine := small_lt (by
            have h1 := VAll.len hV
            have h2 := R5.le
            have h3 := R5.lim
            omega)
          refine ⟨_, rfl, rfl, _, rfl, ?_⟩
          rw [e7]
          refine iteT ?_
          refine ⟨_, rfl, .inl ⟨rfl, _, sq hD6⟩, _, rfl, R6.meth (by decide +kernel) ⟨_, rfl, _, _, rfl, rfl, r, oa, bs, j, v1, r1, F', ?_, R6, hg, ?_, hF', tF' k6 R6.some (by rw [hD6]; exact fun z => by cases z), fun x j2 H7 k7 R7 hj2 hlt hVx => ?_⟩⟩
          · show [V.ref r, V.int (((n + 1 : Nat) : Int) - 1)] = _
            have : (((n + 1 : Nat) : Int) - 1) = (n : Int) := by omega
            rw [this]
          · rw [hv, okV_list, hl] at hok
            clear q
            have : ∀ (d : List WVal), okM (d ++ l') = true → okM l' = true := fun d => by
              induction d with
              | nil => exact fun h => h
              | cons a d ih => exact fun h => ih (okM_cons h).2
            have := this _ hok
            rw [hl'] at this
            exact (okM_cons this).1
          · have hD7 := k7 _ _ nDr hD6
            refine ⟨D, ys, x, rfl, rfl, hD7, hys, ?_⟩
            have sD : Same (hid F' H7) (hid F' (upd H7 D (.lst (ys ++ [x])))) := hid_keep fun b o hb e => by
              rw [upd_ne fun z => hb (.inr z)]
              exact e
            refine ⟨_, _, j2, done ++ [v1], l1, ys ++ [x], rfl, ?_, ⟨?_, ?_, R7.le, R7.lim⟩, by rw [← hj2]; exact hrm', by rw [hl, hl', List.append_assoc]; rfl, upd_same, VAll.snoc ((hV6.mono (hid_keepR hF' k7)).mono sD) (hVx.mono sD), by rw [List.length_append, List.length_singleton]; omega, by omega⟩
            · intro b o hb e
              rw [upd_ne fun z => by rw [z, hD0] at e; cases e]
              exact (k6.trans k7) b o hb e
            · obtain ⟨dx, es⟩ := R7.self
              exact ⟨dx, by rw [upd_ne (Ne.symm nDr)]; exact es⟩
            · rw [upd_ne fun z => by rw [← z] at hD0; have := R.oct; rw [hD0] at this; cases this]
              exact R7.oct
        · rintro σ H5 ⟨x5, x6, j, done, l', ys, rfl, k5, R5, hrm, hl, hD5, hV, hdj, hij⟩
          rw [List.length_range, Nat.sub_self] at hrm
          have := Option.some.inj hrm
          have e1 : l' = [] := (congrArg Prod.fst this).symm
          have e2 : rest = bs.drop j := (congrArg Prod.snd this).symm
          rw [e1, List.append_nil] at hl
          refine ⟨_, rfl, rfl, _, rfl, ?_⟩
          rw [e7]
          refine iteT ⟨_, rfl, by show 2 ≤ sizeLine; decide, fun t ht0 => ?_⟩
          have ht1 : H t = none := keepR_free k5 R5.some ht0
          refine q _ j _ (k5.trans (KeepR.of (Same.new ht0))) (R5.mono (Same.new ht0)) e2 hij ?_
          rw [hv, hl]
          exact .list (hid_newT ht ht1 upd_same) (hid_new ht hD0 ((Same.new ht0) _ _ hD5)) ((VAll.mono (hid_less fun b hb => .inl hb) hV).mono (hid_same (Same.new ht0)))
      · rw [decide_eq_false (by omega)]
        refine iteF ⟨_, rfl, rfl, _, rfl, ?_⟩
        have e4 : decide (nV k0.toNat = V.int 4) = false := (@dec_nV k0.toNat 4).trans (decide_eq_false (by omega))
        have e6 : decide (nV k0.toNat = V.int 6) = false := (@dec_nV k0.toNat 6).trans (decide_eq_false (by omega))
        have e7 : decide (nV k0.toNat = V.int 7) = false := (@dec_nV k0.toNat 7).trans (decide_eq_false (by omega))
        rw [e4]
        refine iteF ⟨_, rfl, rfl, _, rfl, ?_⟩
        rw [e6]
        refine iteF ⟨_, rfl, by show 2 ≤ sizeLine; decide, fun t7 ht7 => ?_⟩
        refine ⟨t7, _, rfl, .inr (.inl (.inl upd_same)), rfl, rfl, _, rfl, ?_⟩
        have ein : inV (nV k0.toNat) [V.int 7, V.int 8] = true := by
          rw [hk]
          decide
        rw [ein]
        refine iteF ⟨_, rfl, rfl, _, rfl, ?_⟩
        have e0 : decide (nV (n + 1) = V.int 0) = false := (@dec_nV (n + 1) 0).trans (decide_eq_false (by omega))
        rw [e0]
        refine iteF ?_
        have k1 := k1.trans (KeepR.of (Same.new (o := .tup [V.int 7, V.int 8]) ht7))
        have R1 := R1.mono (Same.new (o := .tup [V.int 7, V.int 8]) ht7)
        generalize (upd H1 t7 (.tup [V.int 7, V.int 8])) = H1 at *
        refine ⟨_, rfl, R1.meth (by decide +kernel) ⟨r, oa, bs, i + 1, 4, rfl, R1, by omega, fun H2 k2 R2 => ?_⟩⟩
        have k3 := k1.trans k2
        have e8 : (bs.drop (i + 1)).take 4 = r0.take 4 := by rw [hr0]
        rw [e8]
        have hclt : RWire.numOf (r0.take 4) < 4294967296 := by
          have := numOf_lt (r0.take 4)
          rw [List.length_take, Nat.min_eq_left h4] at this
          exact this
        generalize hc : RWire.numOf (r0.take 4) = c at *
        rw [hr0, List.drop_drop] at hrest
        refine ⟨Nat.zero_le _, fun D hD => ?_⟩
        refine ⟨_, _, rfl, ?_⟩
        have hD0 : H D = none := keepR_free k3 R2.some hD
        have k4 := k3.trans (KeepR.of (Same.new (o := .lst []) hD))
        have R4 := R2.mono (Same.new (o := .lst []) hD)
        have hD4 : (upd H2 D (.lst [])) D = some (.lst []) := upd_same
        generalize (upd H2 D (.lst [])) = H4 at *
        have nDr : D ≠ r := fun z => by rw [z] at hD0; exact ht r hF hD0
        let F' : Addr → Prop := fun b => F b ∨ b = D
        have hF' : F' r := .inl hF
        have tF' : ∀ {H'}, KeepR r H H' → H' r ≠ none → H' D ≠ none → Trk F' H' := fun {H'} k hr' hD' b hb => by
          rcases hb with hb | hb
          · exact (ht.keepR k hr') b hb
          · rw [hb]
            exact hD'
        refine ⟨_, rfl, c, rfl, by omega, by omega, for_goes (goes_range (lo := 0) (n := c)) (fun tn σ H' => ∃ (x5 x6 : Option V) (j : Nat) (done l' : List (RWire.Text × WVal)) (ys : List V), σ = [some (.ref r), some (nV (n + 1)), some (nV k0.toNat), some (.ref D), some (nV c), x5, x6] ∧ KeepR r H H' ∧ RAt A H' r oa bs j ∧
          RWire.readMany (RWire.readEntry (RWire.readF n)) (c - tn) (bs.drop j) = some (l', rest) ∧ l = done ++ l' ∧ H' D = some (.lst ys) ∧ EAll K (hid F' H') done ys ∧ done.length < j ∧ i < j) ?_ (fun _ _ _ _ => trivial) ?_ ?_⟩
        · exact ⟨_, _, i + 1 + 4, [], l, [], rfl, k4, R4, by rw [Nat.sub_zero]; exact hrest, rfl, hD4, .nil, by show 0 < i + 1 + 4; omega, by omega⟩
        · rintro tn z v σ H5 H5' hz ⟨x5, x6, j, done, l', ys, rfl, k5, R5, hrm, hl, hD5, hV, hdj, hij⟩ se ⟨_, rfl⟩
          have htc : tn < c := by
            have := (List.getElem?_eq_some_iff.mp hz).1
            rwa [List.length_range] at this
          have ec : c - tn = (c - (tn + 1)) + 1 := by omega
          rw [ec] at hrm
          obtain ⟨v1, r1, l1, hg, hrm', hl'⟩ := readMany_step hrm
          have k6 := k5.trans (KeepR.of se)
          have R6 := R5.mono se
          have hD6 := se _ _ hD5
          have hV6 := EAll.mono (hid_same se) hV
          have hys : ys.length < sizeLine := small_lt (by
            have h1 := EAll.len hV
            have h2 := R5.le
            have h3 := R5.lim
            omega)
          refine ⟨_, rfl, rfl, _, rfl, ?_⟩
          rw [e7]
          refine iteF ?_
          obtain ⟨u, r2, vv, hg1, hg2, hvv⟩ := readEntry_some hg
          refine ⟨_, rfl, R6.meth (by decide +kernel) ⟨r, oa, bs, j, u, r2, rfl, R6, hg1, fun p j1 H6 k6' R6' hj1 hle hp0 hp => ?_⟩⟩
          have hD6' := k6' _ _ nDr hD6
          have k6'' := k6.trans k6'
          have hV6' := hV6.mono (hid_keepR hF' k6')
          have hp1 : H p = none := keepR_free k6 R6.some hp0
          have npD : p ≠ D := fun z => by rw [z, hD6] at hp0; cases hp0
          have npr : p ≠ r := fun z => by rw [z] at hp1; exact ht r hF hp1
          rw [hj1] at hg2
          refine ⟨_, rfl, .inl ⟨rfl, _, sq hD6'⟩, _, rfl, _, rfl, R6'.meth (by decide +kernel) ⟨_, rfl, _, _, rfl, rfl, r, oa, bs, j1, vv, r1, F', ?_, R6', hg2, ?_, hF', tF' k6'' R6'.some (by rw [hD6']; exact fun z => by cases z), fun x j2 H7 k7 R7 hj2 hlt hVx => ?_⟩⟩
          · show [V.ref r, V.int (((n + 1 : Nat) : Int) - 1)] = _
            have : (((n + 1 : Nat) : Int) - 1) = (n : Int) := by omega
            rw [this]
          · rw [hv, okV_record, hl] at hok
            clear q
            have : ∀ (d : List (RWire.Text × WVal)), okE (d ++ l') = true → okE l' = true := fun d => by
              induction d with
              | nil => exact fun h => h
              | cons a d ih => exact fun h => ih (okE_cons (n := a.1) (v := a.2) h).2
            have := this _ hok
            rw [hl', hvv] at this
            exact (okE_cons this).1
          · refine ⟨by show 2 ≤ sizeLine; decide, fun tp htp => ?_⟩
            have hD7 := k7 _ _ nDr hD6'
            have hp7 := k7 _ _ npr hp
            have htp1 : H tp = none := keepR_free (k6''.trans k7) R7.some htp
            have nF' : ∀ {b}, H b = none → b ≠ D → ¬ F' b := fun h1 h2 z => z.elim (fun z => ht _ z h1) h2
            have ntD : tp ≠ D := fun z => by rw [z, hD7] at htp; cases htp
            have s8 : Same H7 (upd H7 tp (.tup [.ref p, x])) := Same.new htp
            have hD8 := s8 _ _ hD7
            refine ⟨D, ys, .ref tp, rfl, rfl, hD8, hys, ?_⟩
            have sD : Same (hid F' (upd H7 tp (.tup [.ref p, x]))) (hid F' (upd (upd H7 tp (.tup [.ref p, x])) D (.lst (ys ++ [.ref tp])))) := hid_keep fun b o hb e => by
              rw [upd_ne fun z => hb (.inr z)]
              exact e
            refine ⟨_, _, j2, done ++ [(u, vv)], l1, ys ++ [.ref tp], rfl, ?_, ⟨?_, ?_, R7.le, R7.lim⟩, by rw [← hj2]; exact hrm', by rw [hl, hl', hvv, List.append_assoc]; rfl, upd_same, EAll.snoc (q := p) ?_ ?_ ((hVx.mono (hid_same s8)).mono sD) ((((hV6'.mono (hid_keepR hF' k7))).mono (hid_same s8)).mono sD), by rw [List.length_append, List.length_singleton]; omega, by omega⟩
            · intro b o hb e
              rw [upd_ne fun z => by rw [z, hD0] at e; cases e]
              exact s8 b o ((k6''.trans k7) b o hb e)
            · obtain ⟨dx, es⟩ := R7.self
              exact ⟨dx, by rw [upd_ne (Ne.symm nDr)]; exact s8 _ _ es⟩
            · rw [upd_ne fun z => by rw [← z] at hD0; have := R.oct; rw [hD0] at this; cases this]
              exact s8 _ _ R7.oct
            · exact .inl (.inl (hid_some.mpr ⟨nF' htp1 ntD, by rw [upd_ne ntD, upd_same]⟩))
            · exact .inl (.inl (hid_some.mpr ⟨nF' hp1 npD, by rw [upd_ne npD]; exact s8 _ _ hp7⟩))
        · rintro σ H5 ⟨x5, x6, j, done, l', ys, rfl, k5, R5, hrm, hl, hD5, hV, hdj, hij⟩
          rw [List.length_range, Nat.sub_self] at hrm
          have := Option.some.inj hrm
          have e1 : l' = [] := (congrArg Prod.fst this).symm
          have e2 : rest = bs.drop j := (congrArg Prod.snd this).symm
          rw [e1, List.append_nil] at hl
          refine ⟨_, rfl, rfl, _, rfl, ?_⟩
          rw [e7]
          refine iteF ⟨_, rfl, by show 2 ≤ sizeLine; decide, fun t ht0 => ?_⟩
          have ht1 : H t = none := keepR_free k5 R5.some ht0
          refine q _ j _ (k5.trans (KeepR.of (Same.new ht0))) (R5.mono (Same.new ht0)) e2 hij ?_
          rw [hv, hl]
          exact .record (hid_newT ht ht1 upd_same) (hid_new ht hD0 ((Same.new ht0) _ _ hD5)) ((EAll.mono (hid_less fun b hb => .inl hb) hV).mono (hid_same (Same.new ht0)))
theorem get_value_zero (F0 : Fun K "get_value" "Reader.get_value" s_Reader_get_value f fd) : FnOk P w K mg base CX0 3 f fd ["self", "deep"] (spRVal K A 0) :=
  ⟨fun vs H Q E h => by obtain ⟨r, oa, bs, i, v, rest, F, rfl, _⟩ := h; rfl, fun A' outer s H args us vs Q E hr he hb hv h => by
    obtain ⟨r, oa, bs, i, v, rest, F, rfl, _, hrd, _⟩ := h
    cases hrd⟩
theorem ok_get_value (F0 : Fun K "get_value" "Reader.get_value" s_Reader_get_value f fd) (hb : Binds K fd ["self", "deep"] []) (hm : Meth K A.rdr "get_value" f) (T : Txt K mg A) (h_Reader_get_number : GM P w K mg base CX0 2 A.rdr "get_number" ["self", "many"] (spRNum K A)) (h_Reader_text : GM P w K mg base CX0 3 A.rdr "text" ["self"] (spRText K A)) :
    ∀ n, FnOk P w K mg base CX0 (3 + n) f fd ["self", "deep"] (spRVal K A n)
  | 0 => get_value_zero F0
  | n + 1 => get_value_step n F0 T h_Reader_get_number h_Reader_text ⟨f, fd, hm, hb, ok_get_value F0 hb hm T h_Reader_get_number h_Reader_text n⟩
end Gm
end

section
set_option maxRecDepth 100000
set_option maxHeartbeats 8000000
/-! # Values are made -/
namespace Gm
open PySem PySem.Spec PyProof.Rows L2 L2G GmM
variable {P : Program} {w : World} {K : PySem.W.Frag} {mg : Str → Option Value} {base : Heap} {A : Ad} {f fI : Addr} {fd : FuncData}
/-! ### words -/
def asc (s : Str) : Octs := s.cps.toList.map UInt8.ofNat
def okA (s : Str) : Bool := s.cps.toList.all fun c => decide (c < 256)
theorem asc_octV {s : Str} (h : okA s = true) : (asc s).map octV = s.cps.toList.map nV := by
  unfold asc
  rw [List.map_map]
  refine List.map_congr_left fun c hc => ?_
  have := of_decide_eq_true (List.all_eq_true.mp h c hc)
  show nV (UInt8.ofNat c).toNat = nV c
  rw [UInt8.toNat_ofNat_of_lt' this]
def spOctOf (K : PySem.W.Frag) : Sp := fun vs H Q _ => ∃ s : Str, vs = [.str s] ∧ okA s = true ∧ s.cps.toList.length ≤ 1000 ∧ ∀ t H', Same H H' → H t = none → H' t = some (.tup ((asc s).map octV)) → Q (.ref t) H'
theorem ok_octets_of (F : Fun K "octets_of" "octets_of" s_octets_of f fd) (T : Txt K mg A) : FnOk P w K mg base CX0 1 f fd ["word"] (spOctOf K) := by
  refine F.ok sc_octets_of (fun vs H Q E h => ?_) (fun cdv A' outer s H vs Q E hr h => ⟨_, (pss_one (ps_ret (pe_callTy call_tuple_of (by rfl) T.b_tuple PyProof.Rows.boot_tuple (pa_cons (pe_lc (own := [("sign", 1)]) (g := (gName 1)) (tt := tYes) (te := (tCB _ (tCons (tVar 1) tNil))) rfl sc_octets_of.nd (pi_str (L2.pv 0)) (blkOk_by (N := N_octets_of) (sc := defScope s_octets_of) (by decide +kernel)) (fun _ _ _ _ _ => (pg_name (i := 1) sc_octets_of.nd rfl (Or.inl rfl))) (fun _ _ _ _ _ => pts_nil) (fun _ _ _ _ _ => (pe_callB call_ord (by rfl) T.b_ord PyProof.Rows.boot_ord (pa_cons (L2.pv 1) pa_nil)))) pa_nil)))), ?_⟩)
  · obtain ⟨s, rfl, _⟩ := h
    rfl
  · obtain ⟨s, rfl, hA, hl, q⟩ := h
    refine ⟨_, rfl, _, rfl, fun D hD => ?_⟩
    refine lc_flat (l := s.cps.toList) (goes_text (x := s)) hD (fun _ _ => trivial) (fun _ => true) nV (by omega) (fun i c x H2 hc s2 hx N Y h1 h2 => ?_) (fun H2 s2 e => ?_)
    · subst hx
      exact ⟨rfl, yes ⟨_, rfl, _, rfl, rfl, h2 rfl _ (Same.refl _)⟩⟩
    · rw [filter_all] at e
      refine ⟨D, _, rfl, .inl ⟨sq e, fun t ht => ?_⟩⟩
      exact q t _ (s2.trans (Same.new ht)) (s2.free ht) (by rw [upd_same, asc_octV hA])
/-! ### v_int, v_text, v_list, v_ints -/
def VRet (K : PySem.W.Frag) (F : Addr → Prop) (H : Hp) (Q : VK) (v : WVal) : Prop := ∀ x H', Same H H' → VAt K (hid F H') v x → Q x H'
theorem VRet.mono {F : Addr → Prop} {H H' : Hp} {Q : VK} {v : WVal} (r : VRet K F H Q v) (s : Same H H') : VRet K F H' Q v := fun x H2 s2 h => r x H2 (s.trans s2) h
def spVInt (K : PySem.W.Frag) : Sp := fun vs H Q _ => ∃ (i : Int) (F : Addr → Prop), vs = [.int i] ∧ Trk F H ∧ VRet K F H Q (.int i)
theorem ok_v_int (F : Fun K "v_int" "v_int" s_v_int f fd) : FnOk P w K mg base CX0 1 f fd ["number"] (spVInt K) := by
  refine F.ok sc_v_int (fun vs H Q E h => ?_) (fun cdv A' outer s H vs Q E hr h => ⟨_, (pss_one (ps_ret (pe_tup (pa_cons pe_str (pa_cons (L2.pv 0) pa_nil))))), ?_⟩)
  · obtain ⟨i, F, rfl, _⟩ := h
    rfl
  · obtain ⟨i, F, rfl, ht, q⟩ := h
    exact ⟨_, rfl, by show 2 ≤ sizeLine; decide, fun t ht0 => q _ _ (Same.new ht0) (.int (hid_newT ht ht0 upd_same))⟩
def spVText (K : PySem.W.Frag) : Sp := fun vs H Q _ => ∃ (s : Str) (F : Addr → Prop), vs = [.str s] ∧ okA s = true ∧ s.cps.toList.length ≤ 1000 ∧ Trk F H ∧ VRet K F H Q (.text (asc s))
theorem ok_v_text (F : Fun K "v_text" "v_text" s_v_text f fd) (h_octets_of : GF P w K mg base CX0 1 "octets_of" ["word"] (spOctOf K)) : FnOk P w K mg base CX0 2 f fd ["word"] (spVText K) := by
  refine F.ok sc_v_text (fun vs H Q E h => ?_) (fun cdv A' outer s H vs Q E hr h => ⟨_, (pss_one (ps_ret (pe_tup (pa_cons pe_str (pa_cons (pe_gf h_octets_of (hr.mono (by omega)) pass0 (pa_cons (L2.pv 0) pa_nil)) pa_nil))))), ?_⟩)
  · obtain ⟨s, F, rfl, _⟩ := h
    rfl
  · obtain ⟨s, F, rfl, hA, hl, ht, q⟩ := h
    refine ⟨_, rfl, s, rfl, hA, hl, fun p H1 s1 hp0 hp => ?_⟩
    exact ⟨by show 2 ≤ sizeLine; decide, fun t ht0 => q _ _ (s1.trans (Same.new ht0)) (.text (hid_newT ht (s1.free ht0) upd_same) (hid_newT ht hp0 ((Same.new ht0) _ _ hp)))⟩
def spVList (K : PySem.W.Frag) : Sp := fun vs H Q _ => ∃ (a : Addr) (xs : List V) (l : List WVal) (F : Addr → Prop), vs = [.ref a] ∧ H a = some (.lst xs) ∧ VAll K (hid F H) l xs ∧ Trk F H ∧ VRet K F H Q (.list l)
theorem ok_v_list (F : Fun K "v_list" "v_list" s_v_list f fd) (T : Txt K mg A) : FnOk P w K mg base CX0 1 f fd ["members"] (spVList K) := by
  refine F.ok sc_v_list (fun vs H Q E h => ?_) (fun cdv A' outer s H vs Q E hr h => ⟨_, (pss_one (ps_ret (pe_tup (pa_cons pe_str (pa_cons (pe_callTy call_list_of (by rfl) T.b_list PyProof.Rows.boot_list (pa_cons (L2.pv 0) pa_nil)) pa_nil))))), ?_⟩)
  · obtain ⟨a, xs, l, F, rfl, _⟩ := h
    rfl
  · obtain ⟨a, xs, l, F, rfl, ha, hV, ht, q⟩ := h
    refine ⟨_, rfl, a, xs, rfl, .inl (sq ha), fun b hb => ?_⟩
    refine ⟨by show 2 ≤ sizeLine; decide, fun t ht0 => ?_⟩
    have s1 : Same H (upd (upd H b (.lst xs)) t (.tup [.str "list", .ref b])) := (Same.new hb).trans (Same.new ht0)
    exact q _ _ s1 (.list (hid_newT ht ((Same.new hb).free ht0) upd_same) (hid_new ht hb ((Same.new ht0) _ _ upd_same)) (hV.mono (hid_same s1)))
def spVInts (K : PySem.W.Frag) : Sp := fun vs H Q _ => ∃ (a : Addr) (ns : List Int) (F : Addr → Prop), vs = [.ref a] ∧ H a = some (.lst (ns.map V.int)) ∧ ns.length ≤ 100000 ∧ Trk F H ∧ VRet K F H Q (.list (ns.map RWire.Value.int))
theorem ok_v_ints (F : Fun K "v_ints" "v_ints" s_v_ints f fd) : FnOk P w K mg base CX0 1 f fd ["numbers"] (spVInts K) := by
  refine F.ok sc_v_ints (fun vs H Q E h => ?_) (fun cdv A' outer s H vs Q E hr h => ⟨_, (pss_one (ps_ret (pe_tup (pa_cons pe_str (pa_cons (pe_lc (own := [("number", 1)]) (g := (gName 1)) (tt := tYes) (te := (tTup (tCons _ (tCons (tVar 1) tNil)))) rfl sc_v_ints.nd (pi_list (L2.pv 0)) (blkOk_by (N := N_v_ints) (sc := defScope s_v_ints) (by decide +kernel)) (fun _ _ _ _ _ => (pg_name (i := 1) sc_v_ints.nd rfl (Or.inl rfl))) (fun _ _ _ _ _ => pts_nil) (fun _ _ _ _ _ => (pe_tup (pa_cons pe_str (pa_cons (L2.pv 1) pa_nil))))) pa_nil))))), ?_⟩)
  · obtain ⟨a, ns, F, rfl, _⟩ := h
    rfl
  · obtain ⟨a, ns, F, rfl, ha, hl, ht, q⟩ := h
    refine ⟨_, rfl, a, rfl, ⟨_, sq ha⟩, fun D hD => ?_⟩
    refine lc_goesD (l := ns) (goes_list (h := V.int)) hD (fun H' e => e.seq (sq ha)) (fun _ => true) (fun i y H' => VAt K (hid (fun b => F b ∨ b = D) H') (.int i) y)
      (fun i y H1 H2 k _ h => h.mono (hid_keep fun b o hb e => k b o (fun z => hb (.inr z)) e)) (by omega) (fun j i x H2 hi s2 ⟨zs, hDs⟩ hx N Y h1 h2 => ?_) (fun H2 ys s2 e hp => ?_)
    · subst hx
      refine ⟨rfl, yes ⟨_, rfl, by show 2 ≤ sizeLine; decide, fun t ht0 => ?_⟩⟩
      have tt : Trk F H2 := ht.mono s2
      have htD : t ≠ D := fun z => by rw [z, hDs] at ht0; cases ht0
      exact h2 rfl _ _ (Same.new ht0) (.int (.inl (.inl (hid_some.mpr ⟨fun z => z.elim (fun z => tt t z ht0) htD, upd_same⟩))))
    · rw [filter_all] at hp
      refine ⟨by show 2 ≤ sizeLine; decide, fun t ht0 => ?_⟩
      have hV := VAll.paired hp
      exact q _ _ (s2.trans (Same.new ht0)) (.list (hid_newT ht (s2.free ht0) upd_same) (hid_new ht hD ((Same.new ht0) _ _ e)) ((VAll.mono (hid_less fun b hb => .inl hb) hV).mono (hid_same (Same.new ht0))))
/-! ### records -/
inductive PrAll (K : PySem.W.Frag) (H : Hp) : List (Str × WVal) → List V → Prop
  | nil : PrAll K H [] []
  | cons {w : Str} {v : WVal} {l : List (Str × WVal)} {t : Addr} {x : V} {xs : List V} : SqT K H t [.str w, x] → VAt K H v x → PrAll K H l xs → PrAll K H ((w, v) :: l) (.ref t :: xs)
theorem PrAll.mono {H H' : Hp} (s : Same H H') : ∀ {l : List (Str × WVal)} {xs : List V}, PrAll K H l xs → PrAll K H' l xs
  | _, _, .nil => .nil
  | _, _, .cons a b r => .cons (s.tup a) (b.mono s) (PrAll.mono s r)
theorem PrAll.app {H : Hp} : ∀ {l l' : List (Str × WVal)} {xs xs' : List V}, PrAll K H l xs → PrAll K H l' xs' → PrAll K H (l ++ l') (xs ++ xs')
  | _, _, _, _, .nil, q => q
  | _, _, _, _, .cons a b r, q => .cons a b (PrAll.app r q)
theorem PrAll.refs {H : Hp} : ∀ {l : List (Str × WVal)} {xs : List V}, PrAll K H l xs → ∃ ts : List Addr, xs = ts.map V.ref ∧ ts.length = l.length ∧ ∀ (i : Nat) (e : Str × WVal), l[i]? = some e → ∃ t x, ts[i]? = some t ∧ SqT K H t [.str e.1, x] ∧ VAt K H e.2 x
  | _, _, .nil => ⟨[], rfl, rfl, fun i e h => by simp at h⟩
  | _, _, .cons (w := w) (v := v) (t := t) (x := x) a b r => by
    obtain ⟨ts, e1, e2, e3⟩ := PrAll.refs r
    refine ⟨t :: ts, by rw [e1]; rfl, by rw [List.length_cons, List.length_cons, e2], fun i e h => ?_⟩
    cases i with
    | zero =>
      have : e = (w, v) := (Option.some.inj h).symm
      subst this
      exact ⟨t, x, rfl, a, b⟩
    | succ j => exact e3 j e h
/-- the record of these -/
abbrev recV (l : List (Str × WVal)) : WVal := .record (l.map fun e => (asc e.1, e.2))
def spVRec (K : PySem.W.Frag) : Sp := fun vs H Q _ => ∃ (a : Addr) (xs : List V) (l : List (Str × WVal)) (F : Addr → Prop), vs = [.ref a] ∧ H a = some (.lst xs) ∧ PrAll K (hid F H) l xs ∧ l.length ≤ 100 ∧ (∀ e ∈ l, okA e.1 = true ∧ e.1.cps.toList.length ≤ 1000) ∧ Trk F H ∧ VRet K F H Q (recV l)
theorem EAll.paired {H : Hp} {R : (Str × WVal) → V → Prop} (hR : ∀ e y, R e y → ∃ t q x, y = V.ref t ∧ SqT K H t [.ref q, x] ∧ SqT K H q ((asc e.1).map octV) ∧ VAt K H e.2 x) : ∀ {l : List (Str × WVal)} {ys : List V}, Paired R l ys → EAll K H (l.map fun e => (asc e.1, e.2)) ys
  | _, _, .nil => .nil
  | _, _, .cons h r => by
    obtain ⟨t, q, x, e, h1, h2, h3⟩ := hR _ _ h
    rw [e]
    exact .cons h1 h2 h3 (EAll.paired hR r)
theorem ok_v_record (F : Fun K "v_record" "v_record" s_v_record f fd) (h_octets_of : GF P w K mg base CX0 1 "octets_of" ["word"] (spOctOf K)) : FnOk P w K mg base CX0 2 f fd ["pairs"] (spVRec K) := by
  refine F.ok sc_v_record (fun vs H Q E h => ?_) (fun cdv A' outer s H vs Q E hr h => ⟨_, (pss_one (ps_ret (pe_tup (pa_cons pe_str (pa_cons (pe_lc (own := [("word", 1), ("value", 2)]) (g := (gTup K 2 (gCons (gName 1) (gCons (gName 2) gNil)))) (tt := tYes) (te := (tTup (tCons (tCall _ [] _ (tCons (tVar 1) tNil)) (tCons (tVar 2) tNil)))) rfl sc_v_record.nd (pi_list (L2.pv 0)) (blkOk_by (N := N_v_record) (sc := defScope s_v_record) (by decide +kernel)) (fun _ _ _ _ _ => (pg_tup rfl (pgs_cons (pg_name (i := 1) sc_v_record.nd rfl (Or.inl rfl)) (pgs_cons (pg_name (i := 2) sc_v_record.nd rfl (Or.inl rfl)) pgs_nil)))) (fun _ _ _ _ _ => pts_nil) (fun _ _ _ _ _ => (pe_tup (pa_cons (pe_gf h_octets_of (hr.mono (by omega)) pass0 (pa_cons (L2.pv 1) pa_nil)) (pa_cons (L2.pv 2) pa_nil))))) pa_nil))))), ?_⟩)
  · obtain ⟨a, xs, l, F, rfl, _⟩ := h
    rfl
  · obtain ⟨a, xs, l, F, rfl, ha, hP, hl, hw, ht, q⟩ := h
    obtain ⟨ts, e1, e2, e3⟩ := hP.refs
    have ha0 : SqL K H a ((List.range l.length).map fun i => V.ref (ts.getD i 0)) := sq (by
      rw [ha, e1]
      congr 2
      refine List.ext_getElem (by rw [List.length_map, List.length_map, List.length_range, e2]) fun i h1 h2 => ?_
      rw [List.length_map] at h1
      rw [List.getElem_map, List.getElem_map, List.getElem_range, List.getD_eq_getElem?_getD, List.getElem?_eq_getElem h1]
      rfl)
    refine ⟨_, rfl, a, rfl, ⟨_, sq ha⟩, fun D hD => ?_⟩
    let R : (Str × WVal) → V → Hp → Prop := fun e y H' => ∃ t q x, y = V.ref t ∧ SqT K (hid (fun b => F b ∨ b = D) H') t [.ref q, x] ∧ SqT K (hid (fun b => F b ∨ b = D) H') q ((asc e.1).map octV) ∧ VAt K (hid (fun b => F b ∨ b = D) H') e.2 x
    refine lc_goesD (l := List.range l.length) (goes_list (h := fun i => V.ref (ts.getD i 0))) hD (fun H' e => e.seq ha0) (fun _ => true) (fun i y H' => ∀ e, l[i]? = some e → R e y H')
      (fun i y H1 H2 k _ h e he => ?_) (by rw [List.length_range]; omega) (fun j i v H2 hi s2 ⟨zs, hDs⟩ hv N Y h1 h2 => ?_) (fun H2 ys s2 e hp => ?_)
    · obtain ⟨t, q, x, e1, h1, h2, h3⟩ := h e he
      have sk : Same (hid (fun b => F b ∨ b = D) H1) (hid (fun b => F b ∨ b = D) H2) := hid_keep fun b o hb e => k b o (fun z => hb (.inr z)) e
      exact ⟨t, q, x, e1, sk.tup h1, sk.tup h2, h3.mono sk⟩
    · subst hv
      have hil : i < l.length := List.mem_range.mp (List.mem_of_getElem? hi)
      obtain ⟨t, x, et, hT, hV⟩ := e3 i l[i] (List.getElem?_eq_getElem hil)
      obtain ⟨hA, hlw⟩ := hw l[i] (List.getElem_mem hil)
      have eg : ts.getD i 0 = t := by rw [List.getD_eq_getElem?_getD, et]; rfl
      rw [eg]
      have hT2 : SqT K H2 t [.str l[i].1, x] := (s2.tup ((hid_un F H).tup hT))
      refine ⟨t, _, rfl, hT2, rfl, _, _, rfl, _, _, rfl, rfl, rfl, yes ⟨_, rfl, _, rfl, hA, hlw, fun p H3 s3 hp0 hp => ?_⟩⟩
      refine ⟨_, rfl, by show 2 ≤ sizeLine; decide, fun tp htp => ?_⟩
      have s4 : Same H2 (upd H3 tp (.tup [.ref p, x])) := s3.trans (Same.new htp)
      refine h2 rfl _ _ s4 fun e he => ?_
      have : e = l[i] := by
        rw [List.getElem?_eq_getElem hil] at he
        exact (Option.some.inj he).symm
      subst this
      have tt := ht.mono s2
      have np : p ≠ D := fun z => by rw [z, hDs] at hp0; cases hp0
      have nt : tp ≠ D := fun z => by rw [z, s3 _ _ hDs] at htp; cases htp
      refine ⟨tp, p, x, rfl, .inl (.inl (hid_some.mpr ⟨fun z => z.elim (fun z => (tt.mono s3) tp z htp) nt, upd_same⟩)), .inl (.inl (hid_some.mpr ⟨fun z => z.elim (fun z => tt p z hp0) np, (Same.new htp) _ _ hp⟩)), hV.mono fun b o e => ?_⟩
      obtain ⟨n1, n2⟩ := hid_some.mp e
      exact hid_some.mpr ⟨fun z => z.elim n1 (fun z => by rw [z, hD] at n2; cases n2), s4 _ _ (s2 _ _ n2)⟩
    · rw [filter_all] at hp
      refine ⟨by show 2 ≤ sizeLine; decide, fun t ht0 => ?_⟩
      have hE : EAll K (hid (fun b => F b ∨ b = D) H2) (l.map fun e => (asc e.1, e.2)) ys := by
        have hp2 : Paired (fun e y => R e y H2) l ys := by
          have key : ∀ (l' : List (Str × WVal)) (k : Nat) (ys : List V), (∀ i, l[k + i]? = l'[i]?) → Paired (fun i y => ∀ e, l[i]? = some e → R e y H2) (List.range' k l'.length) ys → Paired (fun e y => R e y H2) l' ys := by
            intro l'
            induction l' with
            | nil =>
              intro k ys _ h
              cases h
              exact .nil
            | cons e l' ih =>
              intro k ys hk h
              rw [List.length_cons, List.range'_succ] at h
              cases h with
              | cons h1 h2 =>
                refine .cons (h1 e (by have := hk 0; simpa using this)) (ih (k + 1) _ (fun i => ?_) h2)
                have := hk (i + 1)
                rw [List.getElem?_cons_succ] at this
                rw [← this]
                congr 1
                omega
          exact key l 0 ys (fun i => by rw [Nat.zero_add]) (by rw [← List.range_eq_range']; exact hp)
        exact EAll.paired (fun e y h => h) hp2
      exact q _ _ (s2.trans (Same.new ht0)) (.record (hid_newT ht (s2.free ht0) upd_same) (hid_new ht hD ((Same.new ht0) _ _ e)) ((EAll.mono (hid_less fun b hb => .inl hb) hE).mono (hid_same (Same.new ht0))))
end Gm
end

section
set_option maxRecDepth 100000
set_option maxHeartbeats 8000000
/-! # Values are looked at, and written -/
namespace Gm
open PySem PySem.Spec PyProof.Rows L2 L2G GmM
variable {P : Program} {w : World} {K : PySem.W.Frag} {mg : Str → Option Value} {base : Heap} {A : Ad} {f fI : Addr} {fd : FuncData}
/-! ### octets as data -/
def octD (u : Octs) : PyData := .tuple (u.map fun o => PyData.int ((o.toNat : Nat) : Int))
theorem dp_octs {H : Hp} {q : Addr} {u : Octs} (h : SqT K H q (u.map octV)) : Dp K H (.ref q) (octD u) := by
  refine .tup h ?_
  induction u with
  | nil => exact .nil
  | cons a r ih =>
    have : ∀ (u : Octs), DpAll K H (u.map octV) (u.map fun o => PyData.int ((o.toNat : Nat) : Int)) := fun u => by
      induction u with
      | nil => exact .nil
      | cons a r ih => exact .cons (.int _) ih
    exact this _
theorem octD_eqvAll : ∀ (u v : Octs), PyData.eqvAll (u.map fun o => PyData.int ((o.toNat : Nat) : Int)) (v.map fun o => PyData.int ((o.toNat : Nat) : Int)) = (u == v)
  | [], [] => rfl
  | [], _ :: _ => rfl
  | _ :: _, [] => rfl
  | a :: u, b :: v => by
    rw [List.map_cons, List.map_cons, PyData.eqvAll, octD_eqvAll u v, PyData.eqv]
    show (((a.toNat : Nat) : Int) == ((b.toNat : Nat) : Int) && (u == v)) = ((a == b) && (u == v))
    congr 1
    rw [Bool.eq_iff_iff, beq_iff_eq, beq_iff_eq]
    constructor
    · intro h
      exact UInt8.toNat_inj.mp (by omega)
    · intro h
      rw [h]
theorem octD_eqv (u v : Octs) : PyData.eqv (octD u) (octD v) = (u == v) := by
  unfold octD
  rw [PyData.eqv]
  exact octD_eqvAll u v
theorem octD_lay (u : Octs) : (octD u).canLay0 = true := by
  unfold octD
  rw [PyData.canLay0]
  induction u with
  | nil => rfl
  | cons a r ih =>
    rw [List.map_cons, PyData.canLayAll0, PyData.canLay0, Bool.true_and]
    exact ih
theorem octD_depth (u : Octs) : (octD u).depth ≤ 1 := by
  unfold octD
  rw [PyData.depth]
  have : PyData.depthAll (u.map fun o => PyData.int ((o.toNat : Nat) : Int)) = 0 := by
    induction u with
    | nil => rfl
    | cons a r ih =>
      rw [List.map_cons, PyData.depthAll, PyData.depth, ih]
      rfl
  rw [this]
  exact Nat.le_refl _
theorem octD_shaped (u : Octs) : SeqAt.shaped (octD u) = true := by
  unfold SeqAt.shaped
  rw [octD_lay, decide_eq_true (Nat.le_trans (octD_depth u) (by decide))]
  rfl
/-! ### member -/
def memV (l : List (RWire.Text × WVal)) (n : Octs) : WVal := match l.find? fun e => e.1 == n with
  | some e => e.2
  | none => .nothing
theorem EAll.get {H : Hp} : ∀ {l : List (RWire.Text × WVal)} {xs : List V}, EAll K H l xs → ∀ (i : Nat) (y : V), xs[i]? = some y → ∃ e t q x, l[i]? = some e ∧ y = V.ref t ∧ SqT K H t [.ref q, x] ∧ SqT K H q (e.1.map octV) ∧ VAt K H e.2 x
  | _, _, .nil, i, y, h => by simp at h
  | _, _, .cons (n := n) (v := v) (t := t) (q := q) (x := x) a b c r, 0, y, h => ⟨(n, v), t, q, x, rfl, (Option.some.inj h).symm, a, b, c⟩
  | _, _, .cons a b c r, i + 1, y, h => EAll.get r i y h
def spMember (K : PySem.W.Frag) : Sp := fun vs H Q _ => ∃ (x : V) (s : Str) (l : List (RWire.Text × WVal)) (F : Addr → Prop), vs = [x, .str s] ∧ VAt K (hid F H) (.record l) x ∧ okA s = true ∧ s.cps.toList.length ≤ 1000 ∧ Trk F H ∧ VRet K F H Q (memV l (asc s))
theorem ok_member (F : Fun K "member" "member" s_member f fd) (T : Txt K mg A) (h_octets_of : GF P w K mg base CX0 1 "octets_of" ["word"] (spOctOf K)) : FnOk P w K mg base CX0 2 f fd ["value", "word"] (spMember K) := by
  refine F.ok sc_member (fun vs H Q E h => ?_) (fun cdv A' outer s H vs Q E hr h => ⟨_, (pss_cons (ps_set (i := 2) sc_member.nd rfl (Or.inl rfl) (pe_gf h_octets_of (hr.mono (by omega)) pass0 (pa_cons (L2.pv 1) pa_nil)))
      (pss_cons (ps_for PassesOwn.never rfl (pi_list (pe_ix ix_tup (L2.pv 0) pe_int (fun _ _ => rfl))) (pg_tup rfl (pgs_cons (pg_name (i := 3) sc_member.nd rfl (Or.inl rfl)) (pgs_cons (pg_name (i := 4) sc_member.nd rfl (Or.inl rfl)) pgs_nil))) (pss_one (ps_if (pt_cmpR (op_eqD hr.units) (L2.pv 3) (L2.pv 2) (nomark _)) (pss_one (ps_ret (L2.pv 4))) pss_nil)))
      (pss_one (ps_ret (pe_gl T.g_NOTHING))))), ?_⟩)
  · obtain ⟨x, s, l, F, rfl, _⟩ := h
    rfl
  · obtain ⟨x, s, l, F, rfl, hv, hA, hl, ht, q⟩ := h
    cases hv with
    | record h1 h2 h3 =>
      rename_i t a xs
      refine ⟨_, rfl, s, rfl, hA, hl, fun p H1 s1 hp0 hp => ?_⟩
      have h1' := s1.tup ((hid_un F H).tup h1)
      have h2' := s1 _ _ ((hid_un F H) _ _ h2)
      have h3' := h3.mono (hid_same s1)
      refine ⟨_, rfl, t, _, 1, .ref a, rfl, rfl, h1', atI_nat (j := 1) rfl, a, rfl, ⟨_, sq h2'⟩, for_goes (l := xs) (goes_list (h := fun y => y)) (fun i σ H' => ∃ x3 x4, σ = [some (.ref t), some (.str s), some (.ref p), x3, x4] ∧ Same H1 H' ∧ (l.take i).find? (fun e => e.1 == asc s) = none) ?_ ?_ ?_ ?_⟩
      · exact ⟨_, _, rfl, Same.refl _, rfl⟩
      · rintro i σ H' ⟨x3, x4, rfl, s2, _⟩
        rw [List.map_id']
        exact sq (s2 _ _ h2')
      · rintro i y v σ H2 H2' hi ⟨x3, x4, rfl, s2, hn⟩ se hy
        subst hy
        obtain ⟨e, tt, qq, z, he, rfl, e1, e2, e3⟩ := h3'.get i v hi
        have s3 := s2.trans se
        have e1' := s3.tup ((hid_un F H1).tup e1)
        have e2' := s3.tup ((hid_un F H1).tup e2)
        refine ⟨tt, _, rfl, e1', rfl, _, _, rfl, _, _, rfl, rfl, ?_⟩
        refine ⟨_, rfl, _, rfl, octD e.1, octD (asc s), dp_octs e2', dp_octs (.inl (.inl (s3 _ _ hp))), octD_shaped _, octD_shaped _, _, rfl, ?_⟩
        rw [octD_eqv]
        refine iteB (fun hb => ?_) (fun hb => ?_)
        · refine ⟨_, rfl, q z _ (s1.trans s3) ?_⟩
          have : memV l (asc s) = e.2 := by
            unfold memV
            have hf : l.find? (fun e => e.1 == asc s) = some e := by
              have h1 : l = l.take i ++ e :: l.drop (i + 1) := by
                obtain ⟨hil, he'⟩ := List.getElem?_eq_some_iff.mp he
                rw [← he', ← List.drop_eq_getElem_cons hil, List.take_append_drop]
              rw [h1, List.find?_append, hn, List.find?_cons, hb]
              rfl
            rw [hf]
          rw [this]
          exact e3.mono (hid_same s3)
        · refine ⟨_, _, rfl, s3, ?_⟩
          rw [take_snoc he, List.find?_append, hn, List.find?_cons, hb]
          rfl
      · rintro σ H2 ⟨x3, x4, rfl, s2, hn⟩
        rw [← h3'.len, List.take_length] at hn
        refine q _ H2 (s1.trans s2) ?_
        have : memV l (asc s) = .nothing := by
          unfold memV
          rw [hn]
        rw [this]
        exact .nothing (T.q_NOTHING.at _)
/-! ### is_int -/
def isIntV (v : WVal) (lo hi : Int) : Bool := match v with
  | .int i => decide (lo ≤ i) && decide (i ≤ hi)
  | _ => false
def kindS : WVal → Str
  | .nothing => "nothing"
  | .null => "null"
  | .bool b => if b then "true" else "false"
  | .int _ => "int"
  | .text _ => "text"
  | .list _ => "list"
  | .record _ => "record"
  | _ => ""
theorem VAt.kind {H : Hp} {v : WVal} {x : V} (h : VAt K H v x) : ∃ t y, x = .ref t ∧ SqT K H t [.str (kindS v), y] := by
  cases h with
  | nothing a => exact ⟨_, _, rfl, a⟩
  | null a => exact ⟨_, _, rfl, a⟩
  | no a => exact ⟨_, _, rfl, a⟩
  | yes a => exact ⟨_, _, rfl, a⟩
  | int a => exact ⟨_, _, rfl, a⟩
  | text a _ => exact ⟨_, _, rfl, a⟩
  | list a _ _ => exact ⟨_, _, rfl, a⟩
  | record a _ _ => exact ⟨_, _, rfl, a⟩
theorem VAt.int_or {H : Hp} {v : WVal} {x : V} (h : VAt K H v x) : (∃ i t, v = .int i ∧ x = .ref t ∧ SqT K H t [.str "int", .int i]) ∨ (decide (V.str (kindS v) = V.str "int") = false ∧ ∀ i, v ≠ .int i) := by
  cases h with
  | int a => exact .inl ⟨_, _, rfl, rfl, a⟩
  | nothing a => exact .inr ⟨by decide +kernel, fun i e => by cases e⟩
  | null a => exact .inr ⟨by decide +kernel, fun i e => by cases e⟩
  | no a => exact .inr ⟨by decide +kernel, fun i e => by cases e⟩
  | yes a => exact .inr ⟨by decide +kernel, fun i e => by cases e⟩
  | text a _ => exact .inr ⟨by show decide (V.str "text" = V.str "int") = false; decide +kernel, fun i e => by cases e⟩
  | list a _ _ => exact .inr ⟨by show decide (V.str "list" = V.str "int") = false; decide +kernel, fun i e => by cases e⟩
  | record a _ _ => exact .inr ⟨by show decide (V.str "record" = V.str "int") = false; decide +kernel, fun i e => by cases e⟩
theorem isIntV_no {v : WVal} {lo hi : Int} (h : ∀ i, v ≠ .int i) : isIntV v lo hi = false := by
  cases v with
  | int i => exact absurd rfl (h i)
  | _ => rfl
def spIsInt (K : PySem.W.Frag) : Sp := fun vs H Q _ => ∃ (x : V) (v : WVal) (lo hi : Int), vs = [x, .int lo, .int hi] ∧ VAt K H v x ∧ Q (.bl (isIntV v lo hi)) H
theorem ok_is_int (F : Fun K "is_int" "is_int" s_is_int f fd) : FnOk P w K mg base CX0 1 f fd ["value", "low", "high"] (spIsInt K) := by
  refine F.ok sc_is_int (fun vs H Q E h => ?_) (fun cdv A' outer s H vs Q E hr h => ⟨_, (pss_one (ps_ret (pe_and (pe_cmpR op_eq (pe_ix ix_tup (L2.pv 0) pe_int (fun _ _ => rfl)) pe_str (nomark _)) (pe_one (pe_chain op_le op_le (L2.pv 1) (pe_ix ix_tup (L2.pv 0) pe_int (fun _ _ => rfl)) (L2.pv 2)))))), ?_⟩)
  · obtain ⟨x, v, lo, hi, rfl, _⟩ := h
    rfl
  · obtain ⟨x, v, lo, hi, rfl, hv, q⟩ := h
    rcases hv.int_or with ⟨i, t, rfl, rfl, ht⟩ | ⟨hk, hn⟩
    · refine ⟨_, rfl, t, _, 0, _, rfl, rfl, ht, atI_nat (j := 0) rfl, rfl, true, rfl, ?_⟩
      refine iteT ?_
      refine ⟨_, rfl, _, rfl, t, _, 1, _, rfl, rfl, ht, atI_nat (j := 1) rfl, _, _, rfl, rfl, _, rfl, ?_⟩
      have q : Q (.bl (decide (lo ≤ i) && decide (i ≤ hi))) H := q
      by_cases h1 : lo ≤ i
      · rw [decide_eq_true h1] at q ⊢
        refine iteT ⟨_, rfl, _, _, rfl, rfl, ?_⟩
        rw [Bool.true_and] at q
        exact q
      · rw [decide_eq_false h1] at q ⊢
        rw [Bool.false_and] at q
        exact iteF q
    · obtain ⟨t, y, rfl, ht⟩ := hv.kind
      refine ⟨_, rfl, t, _, 0, _, rfl, rfl, ht, atI_nat (j := 0) rfl, rfl, _, rfl, ?_⟩
      rw [hk]
      refine iteF ?_
      rw [isIntV_no hn] at q
      exact q
end Gm
end

section
set_option maxRecDepth 100000
set_option maxHeartbeats 8000000
/-! # Octets of numbers and texts, in and out of a suite -/
namespace Gm
open PySem PySem.Spec PyProof.Rows L2 L2G GmM
open L2H
variable {P : Program} {w : World} {K : PySem.W.Frag} {mg : Str → Option Value} {base : Heap} {A : Ad} {f fI : Addr} {fd : FuncData}
/-- as Fun.ok, within an except suite -/
theorem okH {x qual : Str} {st : Stmt} {N ps : List Str} {k : Nat} {sp : Sp} (F : Fun K x qual st f fd) (S : FnScope N ps (defScope st)) (len : ∀ vs H Q E, sp vs H Q E → vs.length = ps.length)
    (hbody : ∀ (cdv : Value) (A : Around) (outer : List Env) (s : Shared) (H : Hp) (vs : List V) (Q : VK) (E : XK) (p : Addr × Obj), Hot1 A p → RoomH k (A.deeper (envOfC qual (defScope st) s.heap.objs.size f cdv)) → sp vs H Q E →
      ∃ t, PSs (cxH CX0 P w K mg base N qual (defScope st) f cdv A outer s H E p).nox (defBody st) t ∧ t { nx := fun _ H' => Q .non H', rt := Q } (start N vs) H) : FnH P w K mg base CX0 (k + 1) f fd ps sp := by
  obtain ⟨oc, od, kV, doc, pm, an, cdv, ct, osl, rfl, lk, hcd⟩ := F.ex
  refine fn_ofH lk hcd S len fun A outer s H vs Q E p hp hr hsp => ?_
  obtain ⟨t, h, q⟩ := hbody cdv A outer s H vs Q E p hp hr hsp
  exact ⟨t, h.nox, q⟩
def GFH (P : Program) (w : World) (K : PySem.W.Frag) (mg : Str → Option Value) (base : Heap) (k : Nat) (x : Str) (ps : List Str) (sp : Sp) : Prop := ∃ (f : Addr) (fd : FuncData), mg x = some (.ref f) ∧ PySem.W.keepIn K (.ref f) = true ∧ Binds K fd ps [] ∧ FnH P w K mg base CX0 k f fd ps sp
theorem pe_gfH {X : Cx} {k : Nat} {x : Str} {ps : List Str} {sp : Sp} {p pos : Pos} {e : Expr} {es : List Expr} {t : TA} (G : GFH X.prog X.w X.K X.mg X.base k x ps sp) (hr : RoomH k X.A) (hc : HotC X) (ha : PA X (e :: es) t) (hg : Gl X x := by rfl) (hdb : (x == ("__debug__" : Str)) = false := by decide)
    (he : starEach (e :: es) X.env = (false, eval e X.env) :: starEach es X.env := by rfl) (hpl : (backTo pos (starEach es X.env)).any (·.1) = false := by rfl) : PE X (.Call (.Name x p) (e :: es) [] pos) (tCallS sp (fun _ => E0) t) := by
  obtain ⟨f, fd, hm, hk, hb, F⟩ := G
  exact pe_callH F hr hc hg hm hk hb (fun σ => fun pins H s e s' I h => h.elim) ha hdb he hpl
/-! ### number_octets -/
theorem and255 (n : Nat) : Builtin.bitAnd (n : Int) 255 = ((n % 256 : Nat) : Int) := by
  have h := Bits.bitAnd_mask (x := (n : Int)) 8 (by omega)
  have e : (2 ^ 8 - 1 : Int) = 255 := by decide
  rw [e] at h
  rw [h]
  rfl
def spNumOct (K : PySem.W.Frag) : Sp := fun vs H Q _ => ∃ n k : Nat, vs = [nV n, nV k] ∧ k ≤ 100 ∧ RetL H Q ((RWire.low k n).map octV)
theorem low_snoc : ∀ (k n : Nat), RWire.low (k + 1) n = RWire.low k n ++ [UInt8.ofNat (n / 256 ^ k)]
  | 0, n => by
    show [UInt8.ofNat n] = [UInt8.ofNat (n / 1)]
    rw [Nat.div_one]
  | k + 1, n => by
    show UInt8.ofNat n :: RWire.low (k + 1) (n / 256) = UInt8.ofNat n :: (RWire.low k (n / 256) ++ _)
    rw [low_snoc k (n / 256), Nat.div_div_eq_div_mul, Nat.pow_succ, Nat.mul_comm]
theorem low_len : ∀ (k n : Nat), (RWire.low k n).length = k
  | 0, _ => rfl
  | k + 1, n => congrArg (· + 1) (low_len k (n / 256))
theorem rd_number_octets {H : Hp} {Q : VK} {n k : Nat} (hk : k ≤ 100) (q : RetL H Q ((RWire.low k n).map octV)) {T1 : TS}
    (hT : T1 = tSeq (tAsg (tLst tNil) (gName 2)) (tSeq (tFor (iRng1 (tCons (tVar 1) tNil)) (gName 3) (tSeq (tDrop (tBM K "list" rAppend (tVar 2) (tCons (tOp (rI0 fun i j => V.int (Builtin.bitAnd i j)) (tVar 0) (tC (.int 255))) tNil))) (tAsg (tOp (rI (fun _ j => 0 ≤ j) fun i j => V.int (i / 2 ^ j.toNat)) (tVar 0) (tC (.int 8))) (gName 0)))) (tRet (tVar 2)))) :
    T1 { nx := fun _ H' => Q .non H', rt := Q } (start N_number_octets [nV n, nV k]) H := by
  subst hT
  refine ⟨Nat.zero_le _, fun D hD => ?_⟩
  refine ⟨_, rfl, k, rfl, by omega, by omega, for_goes (goes_range (lo := 0) (n := k)) (fun i σ H' => ∃ x, σ = [some (nV (n / 256 ^ i)), some (nV k), some (.ref D), x] ∧ Same H H' ∧ H' D = some (.lst ((RWire.low i n).map octV))) ?_ (fun _ _ _ _ => trivial) ?_ ?_⟩
  · exact ⟨_, by rw [Nat.pow_zero, Nat.div_one]; rfl, Same.new hD, upd_same⟩
  · rintro i z v σ H1 H1' hi ⟨x, rfl, s1, h1⟩ se ⟨_, rfl⟩
    have hik : i < k := by
      have := (List.getElem?_eq_some_iff.mp hi).1
      rwa [List.length_range] at this
    have h2 := se _ _ h1
    refine ⟨_, rfl, .inl ⟨rfl, _, sq h2⟩, _, rfl, _, _, rfl, rfl, D, _, _, rfl, rfl, h2, by rw [List.length_map, low_len]; exact small_lt (by omega), ?_⟩
    refine ⟨_, rfl, _, _, rfl, rfl, by show (0 : Int) ≤ 8; decide, some (V.int (0 + (z : Int))), ?_, (s1.trans se).mut hD, ?_⟩
    · have e : ((n / 256 ^ i : Nat) : Int) / 2 ^ (8 : Int).toNat = ((n / 256 ^ (i + 1) : Nat) : Int) := by
        rw [Nat.pow_succ, ← Nat.div_div_eq_div_mul]
        rfl
      show [some (V.int (((n / 256 ^ i : Nat) : Int) / 2 ^ (8 : Int).toNat)), some (nV k), some (V.ref D), some (V.int (0 + (z : Int)))] = _
      rw [e]
    · rw [upd_same, low_snoc, List.map_append]
      congr 3
      show [V.int (Builtin.bitAnd ((n / 256 ^ i : Nat) : Int) 255)] = [nV (UInt8.ofNat (n / 256 ^ i)).toNat]
      rw [and255, UInt8.toNat_ofNat']
  · rintro σ H1 ⟨x, rfl, s1, h1⟩
    rw [List.length_range] at h1
    exact ⟨_, rfl, q D H1 s1 hD h1⟩
theorem ok_number_octets (F : Fun K "number_octets" "number_octets" s_number_octets f fd) (T : Txt K mg A) : FnOk P w K mg base CX0 1 f fd ["number", "many"] (spNumOct K) := by
  refine F.ok sc_number_octets (fun vs H Q E h => ?_) (fun cdv A' outer s H vs Q E hr h => ⟨_, (pss_cons (ps_set (i := 2) sc_number_octets.nd rfl (Or.inl rfl) (pe_lst pa_nil))
      (pss_cons (ps_for PassesOwn.never rfl (pi_range1 (by rfl) T.b_range (pa_cons (L2.pv 1) pa_nil)) (pg_name (i := 3) sc_number_octets.nd rfl (Or.inl rfl)) (pss_cons (ps_expr (pe_bm PySem.F.plainAttrs_list PySem.F.slot_list_append PySem.F.type_list_append mt_append (L2.pv 2) (pa_cons (pe_op op_and (L2.pv 0) pe_int) pa_nil)))
      (pss_one (ps_set (i := 0) sc_number_octets.nd rfl (Or.inl rfl) (pe_op op_shr (L2.pv 0) pe_int)))))
      (pss_one (ps_ret (L2.pv 2))))), ?_⟩)
  · obtain ⟨n, k, rfl, _⟩ := h
    rfl
  · obtain ⟨n, k, rfl, hk, q⟩ := h
    exact rd_number_octets hk q rfl
theorem ok_number_octetsH (F : Fun K "number_octets" "number_octets" s_number_octets f fd) (T : Txt K mg A) : FnH P w K mg base CX0 1 f fd ["number", "many"] (spNumOct K) := by
  refine okH F sc_number_octets (fun vs H Q E h => ?_) (fun cdv A' outer s H vs Q E p hp hr h => ⟨_, (pss_cons (ps_set (i := 2) sc_number_octets.nd rfl (Or.inl rfl) (pe_lst pa_nil))
      (pss_cons (ps_forH PassesOwn.never ⟨p, hp, List.Mem.head _⟩ (pi_range1H (by rfl) T.b_range (pa_cons (L2.pv 1) pa_nil)) (pg_name (i := 3) sc_number_octets.nd rfl (Or.inl rfl)) (pss_cons (ps_expr (pe_bm PySem.F.plainAttrs_list PySem.F.slot_list_append PySem.F.type_list_append mt_append (L2.pv 2) (pa_cons (pe_op op_and (L2.pv 0) pe_int) pa_nil)))
      (pss_one (ps_set (i := 0) sc_number_octets.nd rfl (Or.inl rfl) (pe_op op_shr (L2.pv 0) pe_int)))))
      (pss_one (ps_ret (L2.pv 2))))), ?_⟩)
  · obtain ⟨n, k, rfl, _⟩ := h
    rfl
  · obtain ⟨n, k, rfl, hk, q⟩ := h
    exact rd_number_octets hk q rfl
/-! ### text_octets -/
def spTextOct (K : PySem.W.Frag) : Sp := fun vs H Q _ => ∃ (a : Addr) (u : Octs), vs = [.ref a] ∧ (SqL K H a (u.map octV) ∨ SqT K H a (u.map octV)) ∧ u.length ≤ 100000 ∧ RetL H Q ((RWire.writeText u).map octV)
theorem ok_text_octets (F : Fun K "text_octets" "text_octets" s_text_octets f fd) (T : Txt K mg A) (h_number_octets : GF P w K mg base CX0 1 "number_octets" ["number", "many"] (spNumOct K)) : FnOk P w K mg base CX0 2 f fd ["octets"] (spTextOct K) := by
  refine F.ok sc_text_octets (fun vs H Q E h => ?_) (fun cdv A' outer s H vs Q E hr h => ⟨_, (pss_one (ps_ret (pe_op op_cat (pe_gf h_number_octets (hr.mono (by omega)) pass0 (pa_cons (pe_callB call_len_seq (by rfl) T.b_len PySem.boot_len (pa_cons (L2.pv 0) pa_nil)) (pa_cons pe_int pa_nil))) (pe_callTy call_list_of (by rfl) T.b_list PyProof.Rows.boot_list (pa_cons (L2.pv 0) pa_nil))))), ?_⟩)
  · obtain ⟨a, u, rfl, _⟩ := h
    rfl
  · obtain ⟨a, u, rfl, ha, hl, q⟩ := h
    refine ⟨_, rfl, a, _, rfl, ha, u.length, 4, ?_, by decide, fun b H1 s1 hb0 hb => ?_⟩
    · rw [List.length_map]
      rfl
    · refine ⟨_, rfl, a, _, rfl, ha.elim (fun h => .inl (s1.seq h)) (fun h => .inr (s1.tup h)), fun c hc => ?_⟩
      have hbc : b ≠ c := fun z => by rw [z, hc] at hb; cases hb
      refine ⟨b, c, _, _, rfl, rfl, by rw [upd_ne hbc]; exact hb, upd_same, by rw [List.length_map, low_len, List.length_map]; exact small_line (by omega), fun d hd => ?_⟩
      refine q d _ ((s1.trans (Same.new hc)).trans (Same.new hd)) (s1.free ((Same.new hc).free hd)) ?_
      rw [upd_same]
      unfold RWire.writeText RWire.writeCount
      rw [List.map_append]
theorem ok_text_octetsH (F : Fun K "text_octets" "text_octets" s_text_octets f fd) (T : Txt K mg A) (h_number_octets : GFH P w K mg base 1 "number_octets" ["number", "many"] (spNumOct K)) : FnH P w K mg base CX0 2 f fd ["octets"] (spTextOct K) := by
  refine okH F sc_text_octets (fun vs H Q E h => ?_) (fun cdv A' outer s H vs Q E p hp hr h => ⟨_, (pss_one (ps_ret (pe_op op_cat (pe_gfH h_number_octets (hr.mono (by omega)) ⟨p, hp, List.Mem.head _⟩ (pa_cons (pe_callB call_len_seq (by rfl) T.b_len PySem.boot_len (pa_cons (L2.pv 0) pa_nil)) (pa_cons pe_int pa_nil))) (pe_callTy call_list_of (by rfl) T.b_list PyProof.Rows.boot_list (pa_cons (L2.pv 0) pa_nil))))), ?_⟩)
  · obtain ⟨a, u, rfl, _⟩ := h
    rfl
  · obtain ⟨a, u, rfl, ha, hl, q⟩ := h
    refine ⟨_, rfl, a, _, rfl, ha, u.length, 4, ?_, by decide, fun b H1 s1 hb0 hb => ?_⟩
    · rw [List.length_map]
      rfl
    · refine ⟨_, rfl, a, _, rfl, ha.elim (fun h => .inl (s1.seq h)) (fun h => .inr (s1.tup h)), fun c hc => ?_⟩
      have hbc : b ≠ c := fun z => by rw [z, hc] at hb; cases hb
      refine ⟨b, c, _, _, rfl, rfl, by rw [upd_ne hbc]; exact hb, upd_same, by rw [List.length_map, low_len, List.length_map]; exact small_line (by omega), fun d hd => ?_⟩
      refine q d _ ((s1.trans (Same.new hc)).trans (Same.new hd)) (s1.free ((Same.new hc).free hd)) ?_
      rw [upd_same]
      unfold RWire.writeText RWire.writeCount
      rw [List.map_append]
end Gm
end

section
set_option maxRecDepth 100000
set_option maxHeartbeats 8000000
/-! # Writing a value -/
namespace Gm
open PySem PySem.Spec PyProof.Rows L2 L2G GmM
variable {P : Program} {w : World} {K : PySem.W.Frag} {mg : Str → Option Value} {base : Heap} {A : Ad} {f fI : Addr} {fd : FuncData}
theorem writeMany_app : ∀ (a b : List WVal), RWire.writeMany (a ++ b) = RWire.writeMany a ++ RWire.writeMany b
  | [], b => by simp [RWire.writeMany]
  | v :: a, b => by
    rw [List.cons_append, RWire.writeMany, RWire.writeMany, writeMany_app a b, List.append_assoc]
theorem writeEntries_app : ∀ (a b : List (RWire.Text × WVal)), RWire.writeEntries (a ++ b) = RWire.writeEntries a ++ RWire.writeEntries b
  | [], b => by simp [RWire.writeEntries]
  | v :: a, b => by
    rw [List.cons_append, RWire.writeEntries, RWire.writeEntries, writeEntries_app a b, List.append_assoc, List.append_assoc]
theorem many_get : ∀ {l : List WVal} {i : Nat} {v : WVal}, l[i]? = some v → RWire.depth v ≤ RWire.depthMany l ∧ (RWire.fineMany l = true → RWire.fine v = true) ∧ (RWire.write v).length ≤ (RWire.writeMany l).length
  | [], i, v, h => by simp at h
  | a :: l, 0, v, h => by
    have : v = a := (Option.some.inj h).symm
    subst this
    rw [RWire.depthMany, RWire.fineMany, RWire.writeMany, List.length_append]
    exact ⟨Nat.le_max_left _ _, fun h => (Bool.and_eq_true_iff.mp h).1, Nat.le_add_right _ _⟩
  | a :: l, i + 1, v, h => by
    obtain ⟨h1, h2, h3⟩ := many_get (l := l) (i := i) h
    rw [RWire.depthMany, RWire.fineMany, RWire.writeMany, List.length_append]
    exact ⟨Nat.le_trans h1 (Nat.le_max_right _ _), fun h => h2 (Bool.and_eq_true_iff.mp h).2, by omega⟩
theorem entries_get : ∀ {l : List (RWire.Text × WVal)} {i : Nat} {e : RWire.Text × WVal}, l[i]? = some e → RWire.depth e.2 ≤ RWire.depthEntries l ∧ (RWire.fineEntries l = true → RWire.fine e.2 = true) ∧ (RWire.writeText e.1).length + (RWire.write e.2).length ≤ (RWire.writeEntries l).length
  | [], i, v, h => by simp at h
  | a :: l, 0, v, h => by
    have : v = a := (Option.some.inj h).symm
    subst this
    rw [RWire.depthEntries, RWire.fineEntries, RWire.writeEntries, List.length_append, List.length_append]
    exact ⟨Nat.le_max_left _ _, fun h => (Bool.and_eq_true_iff.mp (Bool.and_eq_true_iff.mp h).2).1, by omega⟩
  | a :: l, i + 1, v, h => by
    obtain ⟨h1, h2, h3⟩ := entries_get (l := l) (i := i) h
    rw [RWire.depthEntries, RWire.fineEntries, RWire.writeEntries, List.length_append, List.length_append]
    exact ⟨Nat.le_trans h1 (Nat.le_max_right _ _), fun h => h2 (Bool.and_eq_true_iff.mp (Bool.and_eq_true_iff.mp h).2).2, by omega⟩
theorem many_len : ∀ (l : List WVal), l.length ≤ (RWire.writeMany l).length
  | [] => Nat.zero_le _
  | v :: l => by
    have := many_len l
    have h1 : 0 < (RWire.write v).length := by cases v <;> simp [RWire.write]
    rw [RWire.writeMany, List.length_append, List.length_cons]
    omega
theorem writeText_len (u : Octs) : (RWire.writeText u).length = 4 + u.length := by
  unfold RWire.writeText RWire.writeCount
  rw [List.length_append, low_len]
theorem entries_len : ∀ (l : List (RWire.Text × WVal)), l.length ≤ (RWire.writeEntries l).length
  | [] => Nat.zero_le _
  | v :: l => by
    have := entries_len l
    rw [RWire.writeEntries, List.length_append, List.length_append, List.length_cons, writeText_len]
    omega
theorem depth_pos (v : WVal) : 0 < RWire.depth v := by cases v <;> simp [RWire.depth]
def spWr (K : PySem.W.Frag) (d : Nat) : Sp := fun vs H Q _ => ∃ (x : V) (v : WVal), vs = [x] ∧ VAt K H v x ∧ RWire.depth v ≤ d ∧ RWire.fine v = true ∧ (RWire.write v).length ≤ 100000 ∧ RetL H Q ((RWire.write v).map octV)
theorem written_step (d : Nat) (F : Fun K "written" "written" s_written f fd) (T : Txt K mg A) (h_number_octets : GF P w K mg base CX0 1 "number_octets" ["number", "many"] (spNumOct K)) (h_text_octets : GF P w K mg base CX0 2 "text_octets" ["octets"] (spTextOct K))
    (h_written : GF P w K mg base CX0 (2 + d) "written" ["value"] (spWr K d)) : FnOk P w K mg base CX0 (2 + d + 1) f fd ["value"] (spWr K (d + 1)) := by
  refine F.ok sc_written (fun vs H Q E h => ?_) (fun cdv A' outer s H vs Q E hr h => ⟨_, (pss_cons (ps_asg (L2.pv 0) (pg_tup rfl (pgs_cons (pg_name (i := 1) sc_written.nd rfl (Or.inl rfl)) (pgs_cons (pg_name (i := 2) sc_written.nd rfl (Or.inl rfl)) pgs_nil))))
      (pss_cons (ps_if (pt_cmpR op_in_seq (L2.pv 1) (pe_gl T.g_PLAIN_values) (by with_unfolding_all rfl)) (pss_one (ps_ret (pe_lst (pa_cons (pe_bm PySem.F.plainAttrs_tuple PySem.F.slot_tuple_index PySem.F.type_tuple_index mt_tup_index (pe_gl T.g_PLAIN_values) (pa_cons (L2.pv 1) pa_nil)) pa_nil)))) pss_nil)
      (pss_cons (ps_if (pt_cmpR op_eq (L2.pv 1) pe_str (nomark _)) (pss_one (ps_ret (pe_op op_cat (pe_lst (pa_cons pe_int pa_nil)) (pe_gf h_number_octets (hr.mono (by omega)) pass0 (pa_cons (pe_ifExp (pt_cmpR op_ge (L2.pv 2) pe_int (nomark _)) (L2.pv 2) (pe_op op_add (L2.pv 2) pe_int)) (pa_cons pe_int pa_nil)))))) pss_nil)
      (pss_cons (ps_if (pt_cmpR op_eq (L2.pv 1) pe_str (nomark _)) (pss_one (ps_ret (pe_op op_cat (pe_lst (pa_cons pe_int pa_nil)) (pe_gf h_text_octets (hr.mono (by omega)) pass0 (pa_cons (L2.pv 2) pa_nil))))) pss_nil)
      (pss_cons (ps_set (i := 3) sc_written.nd rfl (Or.inl rfl) (pe_op op_cat (pe_lst (pa_cons (pe_ifExp (pt_cmpR op_eq (L2.pv 1) pe_str (nomark _)) pe_int pe_int) pa_nil)) (pe_gf h_number_octets (hr.mono (by omega)) pass0 (pa_cons (pe_callB call_len_seq (by rfl) T.b_len PySem.boot_len (pa_cons (L2.pv 2) pa_nil)) (pa_cons pe_int pa_nil)))))
      (pss_cons (ps_for PassesOwn.never rfl (pi_list (L2.pv 2)) (pg_name (i := 4) sc_written.nd rfl (Or.inl rfl)) (pss_one (ps_if (pt_cmpR op_eq (L2.pv 1) pe_str (nomark _)) (pss_one (ps_expr (pe_bm PySem.F.plainAttrs_list PySem.F.slot_list_extend PySem.F.type_list_extend mt_extend (L2.pv 3) (pa_cons (pe_gf h_written (hr.mono (by omega)) pass0 (pa_cons (L2.pv 4) pa_nil)) pa_nil)))) (pss_one (ps_expr (pe_bm PySem.F.plainAttrs_list PySem.F.slot_list_extend PySem.F.type_list_extend mt_extend (L2.pv 3) (pa_cons (pe_op op_cat (pe_gf h_text_octets (hr.mono (by omega)) pass0 (pa_cons (pe_ix ix_tup (L2.pv 4) pe_int (fun _ _ => rfl)) pa_nil)) (pe_gf h_written (hr.mono (by omega)) pass0 (pa_cons (pe_ix ix_tup (L2.pv 4) pe_int (fun _ _ => rfl)) pa_nil))) pa_nil)))))))
      (pss_one (ps_ret (L2.pv 3))))))))), ?_⟩)
  · obtain ⟨x, v, rfl, _⟩ := h
    rfl
  · obtain ⟨x, v, rfl, hv, hdp, hfn, hln, q⟩ := h
    have plain : ∀ (t : Addr) (z : Str) (c : Nat), SqT K H t [.str z, .non] → inV (.str z) [V.str "nothing", V.str "null", V.str "false", V.str "true"] = true → ([("nothing" : Str), "null", "false", "true"])[c]? = some z → (∀ m, m < c → ([("nothing" : Str), "null", "false", "true"])[m]? ≠ some z) → (RWire.write v).map octV = [nV c] →
        (if inV (.str z) [V.str "nothing", V.str "null", V.str "false", V.str "true"] = true then tRet (tLst (tCons (tBM K "tuple" (fun x xs H Q => ∃ p, ∃ ys : List Str, ∃ z j, x = .ref p ∧ xs = [.str z] ∧ SqT K H p (ys.map V.str) ∧ ys[j]? = some z ∧ (∀ m, m < j → ys[m]? ≠ some z) ∧ Q (.int (j : Nat)) H) (tC (.ref A.tPLAIN_values)) (tCons (tVar 1) tNil)) tNil)) { nx := fun _ H' => Q .non H', rt := Q } [some (.ref t), some (.str z), some .non, none, none] H else False) := by
      intro t z c ht hin hc hno hw
      rw [hin]
      refine iteT ⟨T.q_PLAIN_values.ty H, _, rfl, A.tPLAIN_values, ["nothing", "null", "false", "true"], z, c, rfl, rfl, T.q_PLAIN_values.at H, hc, hno, ?_⟩
      refine ⟨by show 1 ≤ sizeLine; decide, fun p hp => q p _ (Same.new hp) hp ?_⟩
      rw [upd_same, hw]
    have use : ∀ {b : Bool} {B C : Prop}, (if b = true then B else False) → (if b = true then B else C) := fun {b B C} h => by
      cases b with
      | true => exact iteT (by simpa using h)
      | false => simp at h
    have head : ∀ (t : Addr) (z : Str) (y : V) (B : Prop), SqT K H t [.str z, y] → inV (.str z) [V.str "nothing", V.str "null", V.str "false", V.str "true"] = false → inV (.str z) [V.str "nothing", V.str "null", V.str "false", V.str "true"] = false := fun _ _ _ _ _ h => h
    cases hv with
    | nothing h => exact ⟨_, rfl, _, _, rfl, h, rfl, _, _, rfl, _, _, rfl, rfl, _, rfl, A.tPLAIN_values, _, rfl, .inr (T.q_PLAIN_values.at H), rfl, rfl, _, rfl, use (plain _ _ 0 h (by decide +kernel) rfl (fun m hm => by omega) rfl)⟩
    | null h => exact ⟨_, rfl, _, _, rfl, h, rfl, _, _, rfl, _, _, rfl, rfl, _, rfl, A.tPLAIN_values, _, rfl, .inr (T.q_PLAIN_values.at H), rfl, rfl, _, rfl, use (plain _ _ 1 h (by decide +kernel) rfl (fun m hm => by
        have : m = 0 := by omega
        subst this
        decide +kernel) rfl)⟩
    | no h => exact ⟨_, rfl, _, _, rfl, h, rfl, _, _, rfl, _, _, rfl, rfl, _, rfl, A.tPLAIN_values, _, rfl, .inr (T.q_PLAIN_values.at H), rfl, rfl, _, rfl, use (plain _ _ 2 h (by decide +kernel) rfl (fun m hm => by
        rcases (by omega : m = 0 ∨ m = 1) with rfl | rfl <;> decide +kernel) rfl)⟩
    | yes h => exact ⟨_, rfl, _, _, rfl, h, rfl, _, _, rfl, _, _, rfl, rfl, _, rfl, A.tPLAIN_values, _, rfl, .inr (T.q_PLAIN_values.at H), rfl, rfl, _, rfl, use (plain _ _ 3 h (by decide +kernel) rfl (fun m hm => by
        rcases (by omega : m = 0 ∨ m = 1 ∨ m = 2) with rfl | rfl | rfl <;> decide +kernel) rfl)⟩
    | int h =>
      rename_i t i
      refine ⟨_, rfl, _, _, rfl, h, rfl, _, _, rfl, _, _, rfl, rfl, _, rfl, A.tPLAIN_values, _, rfl, .inr (T.q_PLAIN_values.at H), rfl, rfl, _, rfl, ?_⟩
      have e1 : inV (.str "int") [V.str "nothing", V.str "null", V.str "false", V.str "true"] = false := by decide +kernel
      have e2 : decide (V.str "int" = V.str "int") = true := decide_eq_true rfl
      show if inV (.str "int") [V.str "nothing", V.str "null", V.str "false", V.str "true"] = true then _ else _
      rw [e1]
      refine iteF ⟨_, rfl, rfl, _, rfl, ?_⟩
      rw [e2]
      refine iteT ⟨by show 1 ≤ sizeLine; decide, fun p hp => ?_⟩
      have hi : i.natAbs ≤ 9007199254740991 := by
        rw [RWire.fine] at hfn
        exact Nat.le_of_ble_eq_true hfn
      have hn : ∀ j : Int, (j = if 0 ≤ i then i else i + 18446744073709551616) → [V.int j, V.int 8] = [nV (i % RWire.wordMost).toNat, nV 8] := by
        rintro j rfl
        have : (if 0 ≤ i then i else i + 18446744073709551616) = ((i % RWire.wordMost).toNat : Int) := by
          unfold RWire.wordMost
          by_cases h0 : 0 ≤ i
          · rw [if_pos h0, Int.emod_eq_of_lt h0 (by omega)]
            omega
          · rw [if_neg h0]
            have : i % 18446744073709551616 = i + 18446744073709551616 := by
              rw [← Int.add_emod_right, Int.emod_eq_of_lt (by omega) (by omega)]
            rw [this]
            omega
        rw [this]
        rfl
      have fin : RetL (upd H p (.lst [.int 4])) (fun y H2 => rCat (.ref p) y H2 fun v H' => Q v H') ((RWire.low 8 (i % RWire.wordMost).toNat).map octV) := by
        intro b H1 s1 hb0 hb
        refine ⟨p, b, _, _, rfl, rfl, s1 _ _ upd_same, hb, by rw [List.length_map, low_len]; exact small_line (by decide), fun c hc => ?_⟩
        have s2 : Same H (upd H1 c (.lst ([V.int 4] ++ (RWire.low 8 (i % RWire.wordMost).toNat).map octV))) := ((Same.new hp).trans s1).trans (Same.new hc)
        refine q c _ s2 ((Same.new hp).free (s1.free hc)) ?_
        rw [upd_same]
        rfl
      refine ⟨_, rfl, _, _, rfl, rfl, _, rfl, ?_⟩
      by_cases h0 : 0 ≤ i
      · rw [decide_eq_true h0]
        exact iteT ⟨_, rfl, _, 8, hn _ (by rw [if_pos h0]), by decide, fin⟩
      · rw [decide_eq_false h0]
        exact iteF ⟨_, rfl, _, _, rfl, rfl, _, 8, hn _ (by rw [if_neg h0]), by decide, fin⟩
    | text h g =>
      rename_i t qa u
      refine ⟨_, rfl, _, _, rfl, h, rfl, _, _, rfl, _, _, rfl, rfl, _, rfl, A.tPLAIN_values, _, rfl, .inr (T.q_PLAIN_values.at H), rfl, rfl, _, rfl, ?_⟩
      have e1 : inV (.str "text") [V.str "nothing", V.str "null", V.str "false", V.str "true"] = false := by decide +kernel
      have e2 : decide (V.str "text" = V.str "int") = false := by decide +kernel
      have e3 : decide (V.str "text" = V.str "text") = true := decide_eq_true rfl
      show if inV (.str "text") [V.str "nothing", V.str "null", V.str "false", V.str "true"] = true then _ else _
      rw [e1]
      refine iteF ⟨_, rfl, rfl, _, rfl, ?_⟩
      rw [e2]
      refine iteF ⟨_, rfl, rfl, _, rfl, ?_⟩
      rw [e3]
      have hlu : u.length ≤ 100000 := by
        rw [RWire.write, List.length_cons, writeText_len] at hln
        omega
      refine iteT ⟨by show 1 ≤ sizeLine; decide, fun p hp => ⟨_, rfl, qa, u, rfl, .inr ((Same.new hp).tup g), hlu, fun b H1 s1 hb0 hb => ?_⟩⟩
      refine ⟨p, b, _, _, rfl, rfl, s1 _ _ upd_same, hb, by rw [List.length_map, writeText_len]; exact small_line (by rw [List.length_singleton]; omega), fun c hc => ?_⟩
      refine q c _ (((Same.new hp).trans s1).trans (Same.new hc)) ((Same.new hp).free (s1.free hc)) ?_
      rw [upd_same, RWire.write]
      rfl
    | list h g r =>
      rename_i t qa xs l
      refine ⟨_, rfl, _, _, rfl, h, rfl, _, _, rfl, _, _, rfl, rfl, _, rfl, A.tPLAIN_values, _, rfl, .inr (T.q_PLAIN_values.at H), rfl, rfl, _, rfl, ?_⟩
      have e1 : inV (.str "list") [V.str "nothing", V.str "null", V.str "false", V.str "true"] = false := by decide +kernel
      have e2 : decide (V.str "list" = V.str "int") = false := by decide +kernel
      have e3 : decide (V.str "list" = V.str "text") = false := by decide +kernel
      have e4 : decide (V.str "list" = V.str "list") = true := decide_eq_true rfl
      show if inV (.str "list") [V.str "nothing", V.str "null", V.str "false", V.str "true"] = true then _ else _
      rw [e1]
      refine iteF ⟨_, rfl, rfl, _, rfl, ?_⟩
      rw [e2]
      refine iteF ⟨_, rfl, rfl, _, rfl, ?_⟩
      rw [e3]
      refine iteF ⟨_, rfl, rfl, _, rfl, ?_⟩
      rw [e4]
      refine iteT ⟨by show 1 ≤ sizeLine; decide, fun p hp => ?_⟩
      have sp := Same.new (o := .lst [V.int 7]) hp
      rw [RWire.write, List.length_cons, List.length_append] at hln
      have hwc : (RWire.writeCount l.length).length = 4 := low_len _ _
      have hml := many_len l
      have hll := r.len
      have hdp' : RWire.depthMany l ≤ d := by
        rw [RWire.depth] at hdp
        omega
      have hfn' : RWire.fineMany l = true := by
        rw [RWire.fine] at hfn
        exact (Bool.and_eq_true_iff.mp hfn).2
      refine ⟨_, rfl, qa, _, rfl, .inl (sq (sp _ _ g)), l.length, 4, by rw [hll]; rfl, by decide, fun b H1 s1 hb0 hb => ?_⟩
      refine ⟨p, b, _, _, rfl, rfl, s1 _ _ upd_same, hb, by rw [List.length_map, low_len]; exact small_line (by decide), fun c hc => ?_⟩
      have s2 : Same H (upd H1 c (.lst ([V.int 7] ++ (RWire.low 4 l.length).map octV))) := (sp.trans s1).trans (Same.new hc)
      have hc0 : H c = none := sp.free (s1.free hc)
      have hc2 : (upd H1 c (.lst ([V.int 7] ++ (RWire.low 4 l.length).map octV))) c = some (.lst ((7 :: (RWire.writeCount l.length ++ RWire.writeMany (l.take 0))).map octV)) := by
        rw [upd_same, List.take_zero, RWire.writeMany, List.append_nil]
        rfl
      generalize (upd H1 c (.lst ([V.int 7] ++ (RWire.low 4 l.length).map octV))) = H2 at *
      refine ⟨_, rfl, qa, rfl, ⟨_, sq (s2 _ _ g)⟩, for_goes (l := xs) (goes_list (h := fun y => y)) (fun i σ H' => ∃ x4, σ = [some (.ref t), some (.str "list"), some (.ref qa), some (.ref c), x4] ∧ Same H H' ∧ H' c = some (.lst ((7 :: (RWire.writeCount l.length ++ RWire.writeMany (l.take i))).map octV))) ?_ ?_ ?_ ?_⟩
      · exact ⟨_, rfl, s2, hc2⟩
      · rintro i σ H' ⟨x4, rfl, s3, _⟩
        rw [List.map_id']
        exact sq (s3 _ _ g)
      · rintro i y v' σ H3 H3' hi ⟨x4, rfl, s3, hc3⟩ se hy
        subst hy
        have s4 := s3.trans se
        have hc4 := se _ _ hc3
        have hil : i < l.length := by
          have := (List.getElem?_eq_some_iff.mp hi).1
          omega
        obtain ⟨x', ex', hx'⟩ := r.get (i := i) (List.getElem?_eq_getElem hil)
        rw [hi] at ex'
        have ex' := Option.some.inj ex'
        subst ex'
        obtain ⟨m1, m2, m3⟩ := many_get (List.getElem?_eq_getElem hil)
        have htk : l.take (i + 1) = l.take i ++ [l[i]] := take_snoc (List.getElem?_eq_getElem hil)
        have hsum : (RWire.writeMany (l.take (i + 1))).length ≤ (RWire.writeMany l).length := by
          have := writeMany_app (l.take (i + 1)) (l.drop (i + 1))
          rw [List.take_append_drop] at this
          rw [this, List.length_append]
          exact Nat.le_add_right _ _
        have hnew : RWire.writeMany (l.take (i + 1)) = RWire.writeMany (l.take i) ++ RWire.write l[i] := by
          rw [htk, writeMany_app, RWire.writeMany, RWire.writeMany, List.append_nil]
        rw [hnew, List.length_append] at hsum
        refine ⟨_, rfl, rfl, _, rfl, ?_⟩
        rw [e4]
        refine iteT ⟨_, rfl, .inl ⟨rfl, _, sq hc4⟩, _, rfl, _, l[i], rfl, hx'.mono s4, Nat.le_trans m1 hdp', m2 hfn', by omega, fun z H5 s5 hz0 hz => ?_⟩
        refine ⟨c, z, _, _, rfl, rfl, s5 _ _ hc4, hz, ?_, ?_⟩
        · rw [List.length_map, List.length_map, List.length_cons, List.length_append, hwc]
          exact small_line (by omega)
        · refine ⟨_, rfl, (s4.trans s5).mut hc0, ?_⟩
          rw [upd_same, hnew, ← List.map_append, List.cons_append, List.append_assoc]
      · rintro σ H3 ⟨x4, rfl, s3, hc3⟩
        refine ⟨_, rfl, q c H3 s3 hc0 ?_⟩
        rw [hc3, ← hll, List.take_length, RWire.write]
    | record h g r =>
      rename_i t qa xs l
      refine ⟨_, rfl, _, _, rfl, h, rfl, _, _, rfl, _, _, rfl, rfl, _, rfl, A.tPLAIN_values, _, rfl, .inr (T.q_PLAIN_values.at H), rfl, rfl, _, rfl, ?_⟩
      have e1 : inV (.str "record") [V.str "nothing", V.str "null", V.str "false", V.str "true"] = false := by decide +kernel
      have e2 : decide (V.str "record" = V.str "int") = false := by decide +kernel
      have e3 : decide (V.str "record" = V.str "text") = false := by decide +kernel
      have e4 : decide (V.str "record" = V.str "list") = false := by decide +kernel
      show if inV (.str "record") [V.str "nothing", V.str "null", V.str "false", V.str "true"] = true then _ else _
      rw [e1]
      refine iteF ⟨_, rfl, rfl, _, rfl, ?_⟩
      rw [e2]
      refine iteF ⟨_, rfl, rfl, _, rfl, ?_⟩
      rw [e3]
      refine iteF ⟨_, rfl, rfl, _, rfl, ?_⟩
      rw [e4]
      refine iteF ⟨by show 1 ≤ sizeLine; decide, fun p hp => ?_⟩
      have sp := Same.new (o := .lst [V.int 8]) hp
      rw [RWire.write, List.length_cons, List.length_append] at hln
      have hwc : (RWire.writeCount l.length).length = 4 := low_len _ _
      have hml := entries_len l
      have hll := r.len
      have hdp' : RWire.depthEntries l ≤ d := by
        rw [RWire.depth] at hdp
        omega
      have hfn' : RWire.fineEntries l = true := by
        rw [RWire.fine] at hfn
        exact (Bool.and_eq_true_iff.mp (Bool.and_eq_true_iff.mp hfn).2).1
      refine ⟨_, rfl, qa, _, rfl, .inl (sq (sp _ _ g)), l.length, 4, by rw [hll]; rfl, by decide, fun b H1 s1 hb0 hb => ?_⟩
      refine ⟨p, b, _, _, rfl, rfl, s1 _ _ upd_same, hb, by rw [List.length_map, low_len]; exact small_line (by decide), fun c hc => ?_⟩
      have s2 : Same H (upd H1 c (.lst ([V.int 8] ++ (RWire.low 4 l.length).map octV))) := (sp.trans s1).trans (Same.new hc)
      have hc0 : H c = none := sp.free (s1.free hc)
      have hc2 : (upd H1 c (.lst ([V.int 8] ++ (RWire.low 4 l.length).map octV))) c = some (.lst ((8 :: (RWire.writeCount l.length ++ RWire.writeEntries (l.take 0))).map octV)) := by
        rw [upd_same, List.take_zero, RWire.writeEntries, List.append_nil]
        rfl
      generalize (upd H1 c (.lst ([V.int 8] ++ (RWire.low 4 l.length).map octV))) = H2 at *
      refine ⟨_, rfl, qa, rfl, ⟨_, sq (s2 _ _ g)⟩, for_goes (l := xs) (goes_list (h := fun y => y)) (fun i σ H' => ∃ x4, σ = [some (.ref t), some (.str "record"), some (.ref qa), some (.ref c), x4] ∧ Same H H' ∧ H' c = some (.lst ((8 :: (RWire.writeCount l.length ++ RWire.writeEntries (l.take i))).map octV))) ?_ ?_ ?_ ?_⟩
      · exact ⟨_, rfl, s2, hc2⟩
      · rintro i σ H' ⟨x4, rfl, s3, _⟩
        rw [List.map_id']
        exact sq (s3 _ _ g)
      · rintro i y v' σ H3 H3' hi ⟨x4, rfl, s3, hc3⟩ se hy
        subst hy
        have s4 := s3.trans se
        have hc4 := se _ _ hc3
        obtain ⟨e, te, qe, x', he, rfl, f1, f2, f3⟩ := r.get i v' hi
        obtain ⟨m1, m2, m3⟩ := entries_get he
        have htk : l.take (i + 1) = l.take i ++ [e] := take_snoc he
        have hsum : (RWire.writeEntries (l.take (i + 1))).length ≤ (RWire.writeEntries l).length := by
          have := writeEntries_app (l.take (i + 1)) (l.drop (i + 1))
          rw [List.take_append_drop] at this
          rw [this, List.length_append]
          exact Nat.le_add_right _ _
        have hnew : RWire.writeEntries (l.take (i + 1)) = RWire.writeEntries (l.take i) ++ (RWire.writeText e.1 ++ RWire.write e.2) := by
          rw [htk, writeEntries_app, RWire.writeEntries, RWire.writeEntries, List.append_nil]
        rw [hnew, List.length_append, List.length_append] at hsum
        rw [writeText_len] at hsum m3
        refine ⟨_, rfl, rfl, _, rfl, ?_⟩
        rw [e4]
        refine iteF ⟨_, rfl, .inl ⟨rfl, _, sq hc4⟩, _, rfl, te, _, 0, _, rfl, rfl, s4.tup f1, atI_nat (j := 0) rfl, qe, e.1, rfl, .inr (s4.tup f2), by omega, fun z1 H5 s5 hz10 hz1 => ?_⟩
        have s6 := s4.trans s5
        refine ⟨_, rfl, te, _, 1, _, rfl, rfl, s6.tup f1, atI_nat (j := 1) rfl, _, e.2, rfl, f3.mono s6, Nat.le_trans m1 hdp', m2 hfn', by omega, fun z2 H7 s7 hz20 hz2 => ?_⟩
        refine ⟨z1, z2, _, _, rfl, rfl, s7 _ _ hz1, hz2, by rw [List.length_map, List.length_map, writeText_len]; exact small_line (by omega), fun z hz => ?_⟩
        have s8 := (s5.trans s7).trans (Same.new (o := .lst ((RWire.writeText e.1).map octV ++ (RWire.write e.2).map octV)) hz)
        refine ⟨c, z, _, _, rfl, rfl, s8 _ _ hc4, upd_same, ?_, ?_⟩
        · rw [List.length_map, List.length_append, List.length_map, List.length_map, List.length_cons, List.length_append, hwc, writeText_len]
          exact small_line (by omega)
        · refine ⟨_, rfl, (s4.trans s8).mut hc0, ?_⟩
          rw [upd_same, hnew, ← List.map_append, ← List.map_append, List.cons_append, List.append_assoc]
      · rintro σ H3 ⟨x4, rfl, s3, hc3⟩
        refine ⟨_, rfl, q c H3 s3 hc0 ?_⟩
        rw [hc3, ← hll, List.take_length, RWire.write]
theorem written_zero : FnOk P w K mg base CX0 2 f fd ["value"] (spWr K 0) :=
  ⟨fun vs H Q E h => by obtain ⟨x, v, rfl, _⟩ := h; rfl, fun A' outer s H args us vs Q E hr he hb hv h => by
    obtain ⟨x, v, rfl, _, hd, _⟩ := h
    exact absurd (depth_pos v) (by omega)⟩
theorem ok_written (F0 : Fun K "written" "written" s_written f fd) (hb : Binds K fd ["value"] []) (hm : mg "written" = some (.ref f)) (hk : PySem.W.keepIn K (.ref f) = true) (T : Txt K mg A) (h_number_octets : GF P w K mg base CX0 1 "number_octets" ["number", "many"] (spNumOct K)) (h_text_octets : GF P w K mg base CX0 2 "text_octets" ["octets"] (spTextOct K)) :
    ∀ d, FnOk P w K mg base CX0 (2 + d) f fd ["value"] (spWr K d)
  | 0 => written_zero
  | d + 1 => written_step d F0 T h_number_octets h_text_octets ⟨f, fd, hm, hk, hb, ok_written F0 hb hm hk T h_number_octets h_text_octets d⟩
end Gm
end

section
set_option maxRecDepth 100000
set_option maxHeartbeats 8000000
/-! # Arguments -/
namespace Gm
open PySem PySem.Spec PyProof.Rows L2 L2G GmM
variable {P : Program} {w : World} {K : PySem.W.Frag} {mg : Str → Option Value} {base : Heap} {A : Ad} {f fI : Addr} {fd : FuncData}
def intIn (a b : Nat) (v : WVal) : Option Nat := match v with
  | .int i => if Int.ofNat a ≤ i ∧ i ≤ Int.ofNat b then some i.toNat else none
  | _ => none
theorem intIn_is (a b : Nat) (v : WVal) : isIntV v (a : Int) (b : Int) = (intIn a b v).isSome := by
  cases v with
  | int i =>
    show (decide ((a : Int) ≤ i) && decide (i ≤ (b : Int))) = (if Int.ofNat a ≤ i ∧ i ≤ Int.ofNat b then some i.toNat else none).isSome
    by_cases h : Int.ofNat a ≤ i ∧ i ≤ Int.ofNat b
    · rw [if_pos h, decide_eq_true (show (a : Int) ≤ i from h.1), decide_eq_true (show i ≤ (b : Int) from h.2)]
      rfl
    · rw [if_neg h]
      by_cases h1 : (a : Int) ≤ i
      · have h2 : ¬ i ≤ (b : Int) := fun h2 => h ⟨h1, h2⟩
        rw [decide_eq_true h1, decide_eq_false h2]
        rfl
      · rw [decide_eq_false h1]
        rfl
  | _ => rfl
def natS (n : Nat) : Str := ((toString (n : Int) : String) : Str)
def numMsg (w : Str) (a b : Nat) : Str := w ++ " must be an integer from " ++ natS a ++ " to " ++ natS b
def lenOk (w : Str) (a b : Nat) : Bool := decide (w.length ≤ 100) && decide ((natS a).length ≤ 100) && decide ((natS b).length ≤ 100) && decide (a < 10000000000) && decide (b < 10000000000)
theorem log_small {n : Nat} (h : n < 10000000000) : ((n : Nat) : Int).natAbs.log2 < 1920 := by
  rw [Int.natAbs_natCast]
  by_cases h0 : n = 0
  · rw [h0]
    decide
  · have : n.log2 < 40 := (Nat.log2_lt h0).mpr (Nat.lt_of_lt_of_le h (by decide))
    omega
def spNumIn (K : PySem.W.Frag) (A : Ad) : Sp := fun vs H Q E => ∃ (x : V) (v : WVal) (w : Str) (a b : Nat), vs = [x, .str w, nV a, nV b] ∧ VAt K H v x ∧ lenOk w a b = true ∧ match intIn a b v with
  | some n => ∀ H', Same H H' → Q (nV n) H'
  | none => Rais A H E 1 (numMsg w a b)
theorem ok_number_in (F : Fun K "number_in" "number_in" s_number_in f fd) (T : Txt K mg A) (h_need_kind : GF P w K mg base (L2N.CX P w) 1 "need_kind" ["truth", "message"] (spNeed A 1)) (h_is_int : GF P w K mg base CX0 1 "is_int" ["value", "low", "high"] (spIsInt K)) :
    FnOk P w K mg base (L2N.CX P w) 2 f fd ["value", "word", "low", "high"] (spNumIn K A) := by
  refine okN F sc_number_in (fun vs H Q E h => ?_) (fun cdv A' outer s H vs Q E hr h => ⟨_, (pss_cons (ps_set (i := 4) sc_number_in.nd rfl (Or.inl rfl) (pe_op op_add_str (pe_op op_add_str (pe_op op_add_str (pe_op op_add_str (L2.pv 1) pe_str) (pe_callTy call_str_int (by rfl) T.b_str PyProof.Rows.boot_str (pa_cons (L2.pv 2) pa_nil))) pe_str) (pe_callTy call_str_int (by rfl) T.b_str PyProof.Rows.boot_str (pa_cons (L2.pv 3) pa_nil))))
      (pss_cons (ps_expr (pe_gf h_need_kind (hr.mono (by omega)) (passN (L2N.takes_of rfl rfl rfl rfl)) (pa_cons (pe_gf h_is_int (hr.mono (by omega)) pass0 (pa_cons (L2.pv 0) (pa_cons (L2.pv 2) (pa_cons (L2.pv 3) pa_nil)))) (pa_cons (L2.pv 4) pa_nil))))
      (pss_one (ps_ret (pe_ix ix_tup (L2.pv 0) pe_int (fun _ _ => rfl)))))), ?_⟩)
  · obtain ⟨x, v, w', a, b, rfl, _⟩ := h
    rfl
  · obtain ⟨x, v, w', a, b, rfl, hv, hl, q⟩ := h
    unfold lenOk at hl
    simp only [Bool.and_eq_true, decide_eq_true_eq] at hl
    obtain ⟨⟨⟨⟨l1, l2⟩, l3⟩, l4⟩, l5⟩ := hl
    have c1 : (" must be an integer from " : Str).length = 25 := by decide +kernel
    have c2 : (" to " : Str).length = 4 := by decide +kernel
    refine ⟨_, rfl, _, _, rfl, rfl, by rw [c1]; exact small_line (by omega), _, rfl, _, rfl, log_small l4, ?_⟩
    refine ⟨_, _, rfl, rfl, by rw [Str.length_append, c1]; exact small_line (by show _ + (natS a).length ≤ _; omega), ?_⟩
    refine ⟨_, _, rfl, rfl, by rw [Str.length_append, Str.length_append, c1, c2]; exact small_line (by show _ + (natS a).length + _ ≤ _; omega), _, rfl, _, rfl, log_small l5, ?_⟩
    refine ⟨_, _, rfl, rfl, by rw [Str.length_append, Str.length_append, Str.length_append, c1, c2]; exact small_line (by show _ + (natS a).length + _ + (natS b).length ≤ _; omega), ?_⟩
    refine ⟨_, rfl, _, rfl, _, rfl, x, v, _, _, rfl, hv, ?_⟩
    refine ⟨_, rfl, _, _, rfl, fun h => ?_, fun h => ?_⟩
    · rw [intIn_is] at h
      cases hn : intIn a b v with
      | none =>
        rw [hn] at h
        cases h
      | some n =>
        rw [hn] at q
        rcases hv.int_or with ⟨i, t, rfl, rfl, ht⟩ | ⟨_, hno⟩
        · refine ⟨_, rfl, t, _, 1, .int i, rfl, rfl, ht, atI_nat (j := 1) rfl, ?_⟩
          have : i = (n : Int) := by
            unfold intIn at hn
            by_cases hc : Int.ofNat a ≤ i ∧ i ≤ Int.ofNat b
            · have hn : (if Int.ofNat a ≤ i ∧ i ≤ Int.ofNat b then some i.toNat else none) = some n := hn
              rw [if_pos hc] at hn
              have := Option.some.inj hn
              have h0 : (a : Int) ≤ i := hc.1
              omega
            · have hn : (if Int.ofNat a ≤ i ∧ i ≤ Int.ofNat b then some i.toNat else none) = some n := hn
              rw [if_neg hc] at hn
              cases hn
          rw [this]
          exact q H (Same.refl _)
        · exfalso
          unfold intIn at hn
          split at hn
          · exact hno _ rfl
          · cases hn
    · rw [intIn_is] at h
      cases hn : intIn a b v with
      | none =>
        rw [hn] at q
        exact q
      | some n =>
        rw [hn] at h
        cases h
/-! ### group_in, page_in -/
def spGroupIn (K : PySem.W.Frag) (A : Ad) (w : Str) (a b : Nat) : Sp := fun vs H Q E => ∃ (x : V) (v : WVal), vs = [x] ∧ VAt K H v x ∧ match intIn a b v with
  | some n => ∀ H', Same H H' → Q (nV n) H'
  | none => Rais A H E 1 (numMsg w a b)
theorem ok_group_in (F : Fun K "group_in" "group_in" s_group_in f fd) (h_number_in : GF P w K mg base (L2N.CX P w) 2 "number_in" ["value", "word", "low", "high"] (spNumIn K A)) : FnOk P w K mg base (L2N.CX P w) 3 f fd ["value"] (spGroupIn K A "group" 0 100) := by
  refine okN F sc_group_in (fun vs H Q E h => ?_) (fun cdv A' outer s H vs Q E hr h => ⟨_, (pss_one (ps_ret (pe_gf h_number_in (hr.mono (by omega)) (passN (L2N.takes_of rfl rfl rfl rfl)) (pa_cons (L2.pv 0) (pa_cons pe_str (pa_cons pe_int (pa_cons pe_int pa_nil))))))), ?_⟩)
  · obtain ⟨x, v, rfl, _⟩ := h
    rfl
  · obtain ⟨x, v, rfl, hv, q⟩ := h
    exact ⟨_, rfl, x, v, "group", 0, 100, rfl, hv, by decide +kernel, q⟩
theorem ok_page_in (F : Fun K "page_in" "page_in" s_page_in f fd) (T : Txt K mg A) (h_number_in : GF P w K mg base (L2N.CX P w) 2 "number_in" ["value", "word", "low", "high"] (spNumIn K A)) : FnOk P w K mg base (L2N.CX P w) 3 f fd ["value"] (spGroupIn K A "page" 1 1000000000) := by
  refine okN F sc_page_in (fun vs H Q E h => ?_) (fun cdv A' outer s H vs Q E hr h => ⟨_, (pss_one (ps_ret (pe_gf h_number_in (hr.mono (by omega)) (passN (L2N.takes_of rfl rfl rfl rfl)) (pa_cons (L2.pv 0) (pa_cons pe_str (pa_cons pe_int (pa_cons (pe_gl T.g_GREAT) pa_nil))))))), ?_⟩)
  · obtain ⟨x, v, rfl, _⟩ := h
    rfl
  · obtain ⟨x, v, rfl, hv, q⟩ := h
    exact ⟨_, rfl, x, v, "page", 1, 1000000000, rfl, hv, by decide +kernel, q⟩
end Gm
end

section
set_option maxRecDepth 100000
set_option maxHeartbeats 8000000
/-! # Limits, and pages as values -/
namespace Gm
open PySem PySem.Spec PyProof.Rows L2 L2G GmM
variable {P : Program} {w : World} {K : PySem.W.Frag} {mg : Str → Option Value} {base : Heap} {A : Ad} {f fI : Addr} {fd : FuncData}
abbrev noF : Addr → Prop := fun _ => False
theorem hid_no (H : Hp) : Same H (hid noF H) := fun b o e => hid_some.mpr ⟨id, e⟩
theorem trk_no (H : Hp) : Trk noF H := fun _ h => h.elim
def limM (l : List (RWire.Text × WVal)) (w : Str) : Option Nat := intIn 0 1000000000 (memV l (asc w))
def limW (v : WVal) : Except Str (Nat × Nat × Nat) := match v with
  | .record l => match limM l "max" with
    | none => .error (numMsg "max" 0 1000000000)
    | some a => match limM l "min" with
      | none => .error (numMsg "min" 0 1000000000)
      | some b => match limM l "low" with
        | none => .error (numMsg "low" 0 1000000000)
        | some c => .ok (a, b, c)
  | _ => .error "limits must be a record"
theorem VAt.rec_or {H : Hp} {v : WVal} {x : V} (h : VAt K H v x) : (∃ l, v = .record l) ∨ (decide (V.str (kindS v) = V.str "record") = false ∧ limW v = .error "limits must be a record") := by
  cases h with
  | record a _ _ => exact .inl ⟨_, rfl⟩
  | nothing a => exact .inr ⟨by decide +kernel, rfl⟩
  | null a => exact .inr ⟨by decide +kernel, rfl⟩
  | no a => exact .inr ⟨by decide +kernel, rfl⟩
  | yes a => exact .inr ⟨by decide +kernel, rfl⟩
  | text a _ => exact .inr ⟨by show decide (V.str "text" = V.str "record") = false; decide +kernel, rfl⟩
  | list a _ _ => exact .inr ⟨by show decide (V.str "list" = V.str "record") = false; decide +kernel, rfl⟩
  | int a => exact .inr ⟨by show decide (V.str "int" = V.str "record") = false; decide +kernel, rfl⟩
def spLimIn (K : PySem.W.Frag) (A : Ad) : Sp := fun vs H Q E => ∃ (x : V) (v : WVal), vs = [x] ∧ VAt K H v x ∧ match limW v with
  | .error s => Rais A H E 1 s
  | .ok r => ∀ la ldx H', Same H H' → H la = none → H' la = some (.ins A.lim ldx (limF r.1 r.2.1 r.2.2)) → Q (.ref la) H'
abbrev wordsL : List Str := ["max", "min", "low"]
theorem ok_limits_in (F : Fun K "limits_in" "limits_in" s_limits_in f fd) (T : Txt K mg A) (h_need_kind : GF P w K mg base (L2N.CX P w) 1 "need_kind" ["truth", "message"] (spNeed A 1)) (h_number_in : GF P w K mg base (L2N.CX P w) 2 "number_in" ["value", "word", "low", "high"] (spNumIn K A))
    (h_member : GF P w K mg base CX0 2 "member" ["value", "word"] (spMember K)) (h_Limits : GC P w K mg base CX0 1 "Limits" A.lim ["self", "most", "least", "low"] (spLimI A)) :
    FnOk P w K mg base (L2N.CX P w) 3 f fd ["value"] (spLimIn K A) := by
  refine okN F sc_limits_in (fun vs H Q E h => ?_) (fun cdv A' outer s H vs Q E hr h => ⟨_, (pss_cons (ps_expr (pe_gf h_need_kind (hr.mono (by omega)) (passN (L2N.takes_of rfl rfl rfl rfl)) (pa_cons (pe_cmpR op_eq (pe_ix ix_tup (L2.pv 0) pe_int (fun _ _ => rfl)) pe_str (nomark _)) (pa_cons pe_str pa_nil))))
      (pss_cons (ps_setLcX (i := 1) (E := E) rfl rfl (L2N.takes_of rfl rfl rfl rfl) (own := [("word", 2)]) (g := (gName 2)) (tt := tYes) (te := (tCall _ [] _ (tCons (tCall _ [] _ (tCons (tVar 0) (tCons (tVar 2) tNil))) (tCons (tVar 2) (tCons _ (tCons _ tNil)))))) rfl sc_limits_in.nd rfl rfl (sw_true rfl rfl rfl (by decide +kernel)) (pi_tup (pe_tup (pa_cons pe_str (pa_cons pe_str (pa_cons pe_str pa_nil))))) (blkOk_by (N := N_limits_in) (sc := defScope s_limits_in) (by decide +kernel)) (fun _ _ _ _ _ _ => (pg_name (i := 2) sc_limits_in.nd rfl (Or.inl rfl))) (fun _ _ _ _ _ _ => pts_nil) (fun _ _ _ _ _ _ px => (pe_gf h_number_in (hr.mono (by omega)) px (pa_cons (pe_gf h_member (hr.mono (by omega)) pass0 (pa_cons (L2.pv 0) (pa_cons (L2.pv 2) pa_nil))) (pa_cons (L2.pv 2) (pa_cons pe_int (pa_cons (pe_gl T.g_GREAT) pa_nil)))))))
      (pss_one (ps_ret (pe_gc h_Limits (hr.mono (by omega)) pass0 (pa_cons (pe_ix ix_list (L2.pv 1) pe_int (fun _ _ => rfl)) (pa_cons (pe_ix ix_list (L2.pv 1) pe_int (fun _ _ => rfl)) (pa_cons (pe_ix ix_list (L2.pv 1) pe_int (fun _ _ => rfl)) pa_nil)))))))), ?_⟩)
  · obtain ⟨x, v, rfl, _⟩ := h
    rfl
  · obtain ⟨x, v, rfl, hv, q⟩ := h
    obtain ⟨t, y, rfl, ht⟩ := hv.kind
    refine ⟨_, rfl, t, _, 0, _, rfl, rfl, ht, atI_nat (j := 0) rfl, rfl, ?_⟩
    rcases hv.rec_or with ⟨l, rfl⟩ | ⟨hk, hl⟩
    · have ek : decide (V.str (kindS (.record l)) = V.str "record") = true := decide_eq_true rfl
      rw [ek]
      refine ⟨_, _, rfl, fun _ => ?_, fun h => by cases h⟩
      refine ⟨by show 3 ≤ sizeLine; decide, fun tw htw => ?_⟩
      refine ⟨tw, rfl, ⟨_, .inl (.inl upd_same)⟩, fun D hD => ?_⟩
      have s1 := Same.new (o := .tup [V.str "max", V.str "min", V.str "low"]) htw
      have hD0 := s1.free hD
      have msgs : ∀ (i : Nat) (w : Str) (ys : List V), wordsL[i]? = some w → Paired (fun w y => ∃ n, limM l w = some n ∧ y = nV n) (wordsL.take i) ys → limM l w = none → limW (.record l) = .error (numMsg w 0 1000000000) := by
        intro i w ys hi hp hn
        rcases (by have := (List.getElem?_eq_some_iff.mp hi).1; have e : wordsL.length = 3 := rfl; omega : i = 0 ∨ i = 1 ∨ i = 2) with rfl | rfl | rfl
        · have : w = "max" := (Option.some.inj hi).symm
          subst this
          simp only [limW, hn]
        · have : w = "min" := (Option.some.inj hi).symm
          subst this
          cases hp with
          | cons h1 _ =>
            obtain ⟨a, ha, _⟩ := h1
            simp only [limW, ha, hn]
        · have : w = "low" := (Option.some.inj hi).symm
          subst this
          cases hp with
          | cons h1 h2 =>
            cases h2 with
            | cons h2 _ =>
              obtain ⟨a, ha, _⟩ := h1
              obtain ⟨b, hb, _⟩ := h2
              simp only [limW, ha, hb, hn]
      refine lc_goesP (l := wordsL) (goes_tup (h := V.str)) hD (fun H' e => .inl (.inl (e _ _ upd_same))) (fun _ => true) (fun w y _ => ∃ n, limM l w = some n ∧ y = nV n) (fun _ _ _ _ _ _ h => h) (by decide) (fun i w v H2 hw s2 ⟨ys, _, hp⟩ hv' N Y h1 h2 => ?_) (fun H2 ys s2 e hp => ?_)
      · subst hv'
        rw [filter_all] at hp
        have s3 := s1.trans s2
        have wok : okA w = true ∧ w.cps.toList.length ≤ 1000 ∧ lenOk w 0 1000000000 = true := by
          have hm : w ∈ wordsL := List.mem_of_getElem? hw
          have : wordsL.all (fun w => okA w && decide (w.cps.toList.length ≤ 1000) && lenOk w 0 1000000000) = true := by decide +kernel
          have := List.all_eq_true.mp this w hm
          simp only [Bool.and_eq_true, decide_eq_true_eq] at this
          exact ⟨this.1.1, this.1.2, this.2⟩
        refine ⟨rfl, yes ⟨_, rfl, _, rfl, .ref t, w, l, noF, rfl, (hv.mono s3).mono (hid_no _), wok.1, wok.2.1, trk_no _, fun z H3 s4 hz => ?_⟩⟩
        refine ⟨_, rfl, z, _, w, 0, 1000000000, rfl, hz.mono (hid_un _ _), wok.2.2, ?_⟩
        cases hn : intIn 0 1000000000 (memV l (asc w)) with
        | some n => exact fun H4 s5 => h2 rfl _ _ (s4.trans s5) ⟨n, hn, rfl⟩
        | none =>
          rw [msgs i w ys hw hp hn] at q
          exact Rais.mono q (s3.trans s4)
      · rw [filter_all] at hp
        have s3 := s1.trans s2
        cases hp with
        | cons g1 hp =>
          cases hp with
          | cons g2 hp =>
            cases hp with
            | cons g3 hp =>
              cases hp
              obtain ⟨a, ha, rfl⟩ := g1
              obtain ⟨b, hb, rfl⟩ := g2
              obtain ⟨c, hc, rfl⟩ := g3
              have hlw : limW (.record l) = .ok (a, b, c) := by simp only [limW, ha, hb, hc]
              rw [hlw] at q
              refine ⟨_, rfl, D, _, 0, _, rfl, rfl, sq e, atI_nat (j := 0) rfl, _, rfl, D, _, 1, _, rfl, rfl, sq e, atI_nat (j := 1) rfl, _, rfl, D, _, 2, _, rfl, rfl, sq e, atI_nat (j := 2) rfl, ?_⟩
              intro x dx hx hdx nex
              refine ⟨x, dx, a, b, c, rfl, upd_same, rfl, ?_⟩
              rw [upd_upd]
              exact q x dx _ ((s3.trans (Same.new (o := .own x) hdx)).trans (Same.new (by rw [upd_ne (Ne.symm nex)]; exact hx))) (s3.free hx) upd_same
    · rw [hk]
      refine ⟨_, _, rfl, (fun h => by cases h), fun _ => ?_⟩
      rw [hl] at q
      exact q
/-! ### page_value, numbers_value -/
def pgV (i g : Nat) (s : Str) : WVal := recV [("page", .int (i : Int)), ("group", .int (g : Int)), ("state", .text (asc s))]
def spPageVal (K : PySem.W.Frag) (A : Ad) : Sp := fun vs H Q _ => ∃ (pa dx : Addr) (i g : Nat) (s : R7278g.Spec.State) (F : Addr → Prop), vs = [.ref pa] ∧ H pa = some (.ins A.pag dx (pagF i g (stS s))) ∧ Trk F H ∧ VRet K F H Q (pgV i g (stS s))
theorem stS_ok (s : R7278g.Spec.State) : okA (stS s) = true ∧ (stS s).cps.toList.length ≤ 1000 := by cases s <;> decide +kernel
theorem ok_page_value (F : Fun K "page_value" "page_value" s_page_value f fd) (T : Txt K mg A) (h_v_record : GF P w K mg base CX0 2 "v_record" ["pairs"] (spVRec K)) (h_v_int : GF P w K mg base CX0 1 "v_int" ["number"] (spVInt K)) (h_v_text : GF P w K mg base CX0 2 "v_text" ["word"] (spVText K)) :
    FnOk P w K mg base CX0 3 f fd ["page"] (spPageVal K A) := by
  refine F.ok sc_page_value (fun vs H Q E h => ?_) (fun cdv A' outer s H vs Q E hr h => ⟨_, (pss_one (ps_ret (pe_gf h_v_record (hr.mono (by omega)) pass0 (pa_cons (pe_lst (pa_cons (pe_tup (pa_cons pe_str (pa_cons (pe_gf h_v_int (hr.mono (by omega)) pass0 (pa_cons (pe_fld (L2.pv 0) rfl) pa_nil)) pa_nil))) (pa_cons (pe_tup (pa_cons pe_str (pa_cons (pe_gf h_v_int (hr.mono (by omega)) pass0 (pa_cons (pe_fld (L2.pv 0) rfl) pa_nil)) pa_nil))) (pa_cons (pe_tup (pa_cons pe_str (pa_cons (pe_gf h_v_text (hr.mono (by omega)) pass0 (pa_cons (pe_fld (L2.pv 0) rfl) pa_nil)) pa_nil))) pa_nil)))) pa_nil)))), ?_⟩)
  · obtain ⟨pa, dx, i, g, s, F, rfl, _⟩ := h
    rfl
  · obtain ⟨pa, dx, i, g, st, F, rfl, hp, ht, q⟩ := h
    refine ⟨_, rfl, at_fld hp T.c_pag T.n_pag_number (pagF_number ..) ?_⟩
    refine ⟨(i : Int), F, rfl, ht, fun x1 H1 s1 v1 => ?_⟩
    refine ⟨by show 2 ≤ sizeLine; decide, fun t1 ht1 => ?_⟩
    have s2 : Same H (upd H1 t1 (.tup [.str "page", x1])) := s1.trans (Same.new ht1)
    have e1 := hid_newT (K := K) (ht.mono s1) ht1 (upd_same (H := H1) (a := t1) (o := .tup [.str "page", x1]))
    have v1 := v1.mono (hid_same (Same.new (o := .tup [.str "page", x1]) ht1))
    generalize (upd H1 t1 (.tup [.str "page", x1])) = H2 at *
    refine ⟨_, rfl, at_fld (s2 _ _ hp) T.c_pag T.n_pag_group (pagF_group ..) ?_⟩
    refine ⟨(g : Int), F, rfl, ht.mono s2, fun x2 H3 s3 v2 => ?_⟩
    refine ⟨by show 2 ≤ sizeLine; decide, fun t2 ht2 => ?_⟩
    have s4 : Same H (upd H3 t2 (.tup [.str "group", x2])) := (s2.trans s3).trans (Same.new ht2)
    have s4' : Same H2 (upd H3 t2 (.tup [.str "group", x2])) := s3.trans (Same.new ht2)
    have e2 := hid_newT (K := K) (ht.mono (s2.trans s3)) ht2 (upd_same (H := H3) (a := t2) (o := .tup [.str "group", x2]))
    have v2 := v2.mono (hid_same (Same.new (o := .tup [.str "group", x2]) ht2))
    have e1 := (hid_same s4').tup e1
    have v1 := v1.mono (hid_same s4')
    generalize (upd H3 t2 (.tup [.str "group", x2])) = H4 at *
    obtain ⟨o1, o2⟩ := stS_ok st
    refine ⟨_, rfl, at_fld (s4 _ _ hp) T.c_pag T.n_pag_state (pagF_state ..) ?_⟩
    refine ⟨stS st, F, rfl, o1, o2, ht.mono s4, fun x3 H5 s5 v3 => ?_⟩
    refine ⟨by show 2 ≤ sizeLine; decide, fun t3 ht3 => ?_⟩
    have s6 : Same H (upd H5 t3 (.tup [.str "state", x3])) := (s4.trans s5).trans (Same.new ht3)
    have s6' : Same H4 (upd H5 t3 (.tup [.str "state", x3])) := s5.trans (Same.new ht3)
    have e3 := hid_newT (K := K) (ht.mono (s4.trans s5)) ht3 (upd_same (H := H5) (a := t3) (o := .tup [.str "state", x3]))
    have v3 := v3.mono (hid_same (Same.new (o := .tup [.str "state", x3]) ht3))
    have e1 := (hid_same s6').tup e1
    have v1 := v1.mono (hid_same s6')
    have e2 := (hid_same s6').tup e2
    have v2 := v2.mono (hid_same s6')
    generalize (upd H5 t3 (.tup [.str "state", x3])) = H6 at *
    refine ⟨by show 3 ≤ sizeLine; decide, fun d hd => ?_⟩
    have s7 := Same.new (o := .lst [.ref t1, .ref t2, .ref t3]) hd
    have s7h := hid_same (F := F) s7
    refine ⟨d, _, [("page", .int (i : Int)), ("group", .int (g : Int)), ("state", .text (asc (stS st)))], F, rfl, upd_same, .cons (s7h.tup e1) (v1.mono s7h) (.cons (s7h.tup e2) (v2.mono s7h) (.cons (s7h.tup e3) (v3.mono s7h) .nil)), by show 3 ≤ 100; decide, ?_, ht.mono (s6.trans s7), fun x H' s8 hv => q x H' ((s6.trans s7).trans s8) hv⟩
    intro e he
    have hw : e.1 = "page" ∨ e.1 = "group" ∨ e.1 = "state" := by
      rcases List.mem_cons.mp he with rfl | he
      · exact .inl rfl
      · rcases List.mem_cons.mp he with rfl | he
        · exact .inr (.inl rfl)
        · rcases List.mem_cons.mp he with rfl | he
          · exact .inr (.inr rfl)
          · cases he
    rcases hw with h | h | h <;> rw [h] <;> decide +kernel
def PgAt (A : Ad) (H : Hp) (L : Lay) (ps : List SPage) : Prop := ∀ p ∈ ps, ∃ dx, H (L.ra p.id) = some (.ins A.pag dx (pagF p.id p.group (stS p.state)))
theorem PgAt.mono {H H' : Hp} {L : Lay} {ps : List SPage} (h : PgAt A H L ps) (s : Same H H') : PgAt A H' L ps := fun p hp => let ⟨dx, e⟩ := h p hp; ⟨dx, s _ _ e⟩
def spNumsVal (K : PySem.W.Frag) (A : Ad) : Sp := fun vs H Q _ => ∃ (a : Addr) (L : Lay) (ps : List SPage) (F : Addr → Prop), vs = [.ref a] ∧ H a = some (.lst (pgRefs L ps)) ∧ PgAt A H L ps ∧ ps.length ≤ 2000 ∧ Trk F H ∧ VRet K F H Q (.list ((ps.map fun p => (p.id : Int)).map RWire.Value.int))
theorem ok_numbers_value (F : Fun K "numbers_value" "numbers_value" s_numbers_value f fd) (T : Txt K mg A) (h_v_ints : GF P w K mg base CX0 1 "v_ints" ["numbers"] (spVInts K)) : FnOk P w K mg base CX0 2 f fd ["pages"] (spNumsVal K A) := by
  refine F.ok sc_numbers_value (fun vs H Q E h => ?_) (fun cdv A' outer s H vs Q E hr h => ⟨_, (pss_one (ps_ret (pe_gf h_v_ints (hr.mono (by omega)) pass0 (pa_cons (pe_lc (own := [("page", 1)]) (g := (gName 1)) (tt := tYes) (te := (tFld K (tVar 1) "number")) rfl sc_numbers_value.nd (pi_list (L2.pv 0)) (blkOk_by (N := N_numbers_value) (sc := defScope s_numbers_value) (by decide +kernel)) (fun _ _ _ _ _ => (pg_name (i := 1) sc_numbers_value.nd rfl (Or.inl rfl))) (fun _ _ _ _ _ => pts_nil) (fun _ _ _ _ _ => (pe_fld (L2.pv 1) rfl))) pa_nil)))), ?_⟩)
  · obtain ⟨a, L, ps, F, rfl, _⟩ := h
    rfl
  · obtain ⟨a, L, ps, F, rfl, ha, hp, hl, ht, q⟩ := h
    refine ⟨_, rfl, a, rfl, ⟨_, sq ha⟩, fun D hD => ?_⟩
    refine lc_flat (l := ps) (goes_list (h := fun p => V.ref (L.ra p.id))) hD (fun H' e => e.seq (sq ha)) (fun _ => true) (fun p => nV p.id) (by omega) (fun i p x H2 hi s2 hx N Y h1 h2 => ?_) (fun H2 s2 e => ?_)
    · subst hx
      obtain ⟨dx, ep⟩ := hp p (List.mem_of_getElem? hi)
      exact ⟨rfl, yes ⟨_, rfl, at_fld (s2 _ _ ep) T.c_pag T.n_pag_number (pagF_number ..) (h2 rfl _ (Same.refl _))⟩⟩
    · rw [filter_all] at e
      exact ⟨D, ps.map fun p => (p.id : Int), F, rfl, by rw [e, List.map_map]; rfl, by rw [List.length_map]; omega, ht.mono s2, fun x H' s3 hv => q x H' (s2.trans s3) hv⟩
end Gm
end

section
set_option maxRecDepth 100000
set_option maxHeartbeats 8000000
/-! # A group as a value; outcomes -/
namespace Gm
open PySem PySem.Spec PyProof.Rows L2 L2G GmM
open R7278g.Spec (live kids chain under usage)
variable {P : Program} {w : World} {K : PySem.W.Frag} {mg : Str → Option Value} {base : Heap} {A : Ad} {f fI : Addr} {fd : FuncData}
def VRet0 (K : PySem.W.Frag) (H : Hp) (Q : VK) (v : WVal) : Prop := ∀ x H', Same H H' → VAt K H' v x → Q x H'
theorem tIf2 {b : Bool} {ta tb : TE} {σ : L2.St} {H : Hp} {Q : VK} (Rr : V → Hp → Prop) (h1 : b = true → ∀ Q0 : VK, (∀ x H', Rr x H' → Q0 x H') → ta σ H Q0) (h2 : b = false → ∀ Q0 : VK, (∀ x H', Rr x H' → Q0 x H') → tb σ H Q0) (h3 : ∀ x H', Rr x H' → Q x H') :
    if b = true then ta σ H Q else tb σ H Q := by
  cases b with
  | true => exact iteT (h1 rfl Q h3)
  | false => exact iteF (h2 rfl Q h3)
/-! ### group_value -/
abbrev Tup2 (H : Hp) : List (Str × Nat) → List V → Prop := Paired fun e y => ∃ t, y = .ref t ∧ H t = some (.tup [.str e.1, nV e.2])
theorem Tup2.mono {H H' : Hp} (s : Same H H') {l : List (Str × Nat)} {xs : List V} (h : Tup2 H l xs) : Tup2 H' l xs := L2.Paired.mapP h fun _ _ ⟨t, e, q⟩ => ⟨t, e, s _ _ q⟩
theorem Paired.get {α : Type} {R : α → V → Prop} : ∀ {l : List α} {xs : List V}, Paired R l xs → ∀ (i : Nat) (y : V), xs[i]? = some y → ∃ a, l[i]? = some a ∧ R a y
  | _, _, .nil, i, y, h => by simp at h
  | _, _, .cons a r, 0, y, h => ⟨_, rfl, by
    have : y = _ := (Option.some.inj h).symm
    rw [this]
    exact a⟩
  | _, _, .cons a r, i + 1, y, h => Paired.get r i y h
theorem Paired.idx {α : Type} {R : α → V → Prop} {l0 : List α} : ∀ (l : List α) (k : Nat) (xs ys : List V), xs.length = l.length → (∀ i, l0[k + i]? = l[i]?) → Paired (fun i y => ∀ e, l0[i]? = some e → R e y) (List.range' k l.length) ys → Paired R l ys
  | [], k, xs, ys, _, _, h => by
    cases h
    exact .nil
  | e :: l, k, xs, ys, hl, hk, h => by
    rw [List.length_cons, List.range'_succ] at h
    cases h with
    | cons h1 h2 =>
      refine .cons (h1 e (by have := hk 0; simpa using this)) (Paired.idx l (k + 1) xs.tail _ (by rw [List.length_tail, hl]; rfl) (fun i => ?_) h2)
      have := hk (i + 1)
      rw [List.getElem?_cons_succ] at this
      rw [← this]
      congr 1
      omega
def grpPairs (m : SMem) (g : Nat) : List (Str × Nat) := [("max", (m.groups.at_ g).max), ("min", (m.groups.at_ g).min), ("low", (m.groups.at_ g).low), ("usage", m.usage g), ("hard", m.hard g), ("soft", m.soft g)]
def grpV (m : SMem) (g : Nat) : WVal := recV (([("parent", if g = 0 then .null else .int ((par m.groups g : Nat) : Int)), ("groups", .list (((kids m.groups g).map fun n : Nat => (n : Int)).map RWire.Value.int))] : List (Str × WVal)) ++ (grpPairs m g).map fun e => (e.1, RWire.Value.int ((e.2 : Nat) : Int)))
def spGroupVal (K : PySem.W.Frag) (A : Ad) : Sp := fun vs H Q _ => ∃ (L : Lay) (m : SMem) (g : Nat), vs = [.ref L.a, nV g] ∧ MemAt K A H L m ∧ live m.groups g = true ∧ VRet0 K H Q (grpV m g)
theorem prAll_int {H : Hp} {R : (Str × Nat) → V → Prop} (hR : ∀ e y, R e y → ∃ t x, y = V.ref t ∧ SqT K H t [.str e.1, x] ∧ VAt K H (.int ((e.2 : Nat) : Int)) x) : ∀ {l : List (Str × Nat)} {ys : List V}, Paired R l ys → PrAll K H (l.map fun e => (e.1, RWire.Value.int ((e.2 : Nat) : Int))) ys
  | _, _, .nil => .nil
  | _, _, .cons h r => by
    obtain ⟨t, x, e, h1, h2⟩ := hR _ _ h
    rw [e]
    exact .cons h1 h2 (prAll_int hR r)
theorem ok_group_value (F : Fun K "group_value" "group_value" s_group_value f fd) (T : Txt K mg A) (h_v_int : GF P w K mg base CX0 1 "v_int" ["number"] (spVInt K)) (h_v_ints : GF P w K mg base CX0 1 "v_ints" ["numbers"] (spVInts K)) (h_v_record : GF P w K mg base CX0 2 "v_record" ["pairs"] (spVRec K))
    (h_Memory_usages : GM P w K mg base CX0 2 A.mem "usages" ["self"] (spUsages K A)) (h_Memory_hard : GM P w K mg base CX0 4 A.mem "hard" ["self"] (spProt K A R7278g.Spec.Mem.hard)) (h_Memory_soft : GM P w K mg base CX0 5 A.mem "soft" ["self"] (spProt K A R7278g.Spec.Mem.soft))
    (h_Memory_kids : GM P w K mg base CX0 1 A.mem "kids" ["self", "number"] (spKids K A)) : FnOk P w K mg base CX0 6 f fd ["memory", "number"] (spGroupVal K A) := by
  refine F.ok sc_group_value (fun vs H Q E h => ?_) (fun cdv A' outer s H vs Q E hr h => ⟨_, (pss_cons (ps_set (i := 2) sc_group_value.nd rfl (Or.inl rfl) (pe_dget (hu_of hr) (pe_fld (L2.pv 0) rfl) (L2.pv 1) (fun _ _ => rfl)))
      (pss_cons (ps_set (i := 3) sc_group_value.nd rfl (Or.inl rfl) (pe_ifExp (pt_cmpR op_isN (pe_fld (L2.pv 2) rfl) pe_non (nomark _)) (pe_gl T.g_NULL) (pe_gf h_v_int (hr.mono (by omega)) pass0 (pa_cons (pe_fld (L2.pv 2) rfl) pa_nil))))
      (pss_cons (ps_set (i := 4) sc_group_value.nd rfl (Or.inl rfl) (pe_fld (L2.pv 2) rfl))
      (pss_cons (ps_set (i := 5) sc_group_value.nd rfl (Or.inl rfl) (pe_lst (pa_cons (pe_tup (pa_cons pe_str (pa_cons (pe_fld (L2.pv 4) rfl) pa_nil))) (pa_cons (pe_tup (pa_cons pe_str (pa_cons (pe_fld (L2.pv 4) rfl) pa_nil))) (pa_cons (pe_tup (pa_cons pe_str (pa_cons (pe_fld (L2.pv 4) rfl) pa_nil))) (pa_cons (pe_tup (pa_cons pe_str (pa_cons (pe_dget (hu_of hr) (pe_gm0 h_Memory_usages T.c_mem (hr.mono (by omega)) pass0 (L2.pv 0)) (L2.pv 1) (fun _ _ => rfl)) pa_nil))) pa_nil))))))
      (pss_cons (ps_set (i := 5) sc_group_value.nd rfl (Or.inl rfl) (pe_op op_cat (L2.pv 5) (pe_lst (pa_cons (pe_tup (pa_cons pe_str (pa_cons (pe_dget (hu_of hr) (pe_gm0 h_Memory_hard T.c_mem (hr.mono (by omega)) pass0 (L2.pv 0)) (L2.pv 1) (fun _ _ => rfl)) pa_nil))) (pa_cons (pe_tup (pa_cons pe_str (pa_cons (pe_dget (hu_of hr) (pe_gm0 h_Memory_soft T.c_mem (hr.mono (by omega)) pass0 (L2.pv 0)) (L2.pv 1) (fun _ _ => rfl)) pa_nil))) pa_nil)))))
      (pss_cons (ps_setLc (i := 6) (own := [("word", 7), ("one", 8)]) (g := (gTup K 2 (gCons (gName 7) (gCons (gName 8) gNil)))) (tt := tYes) (te := (tTup (tCons (tVar 7) (tCons (tCall _ [] _ (tCons (tVar 8) tNil)) tNil)))) rfl sc_group_value.nd rfl rfl (sw_true rfl rfl rfl (by decide +kernel)) (pi_list (L2.pv 5)) (blkOk_by (N := N_group_value) (sc := defScope s_group_value) (by decide +kernel)) (fun _ _ _ _ _ => (pg_tup rfl (pgs_cons (pg_name (i := 7) sc_group_value.nd rfl (Or.inl rfl)) (pgs_cons (pg_name (i := 8) sc_group_value.nd rfl (Or.inl rfl)) pgs_nil)))) (fun _ _ _ _ _ => pts_nil) (fun _ _ _ _ _ => (pe_tup (pa_cons (L2.pv 7) (pa_cons (pe_gf h_v_int (hr.mono (by omega)) pass0 (pa_cons (L2.pv 8) pa_nil)) pa_nil)))))
      (pss_one (ps_ret (pe_gf h_v_record (hr.mono (by omega)) pass0 (pa_cons (pe_op op_cat (pe_lst (pa_cons (pe_tup (pa_cons pe_str (pa_cons (L2.pv 3) pa_nil))) (pa_cons (pe_tup (pa_cons pe_str (pa_cons (pe_gf h_v_ints (hr.mono (by omega)) pass0 (pa_cons (pe_gm h_Memory_kids T.c_mem (hr.mono (by omega)) pass0 (L2.pv 0) (pa_cons (L2.pv 1) pa_nil)) pa_nil)) pa_nil))) pa_nil))) (L2.pv 6)) pa_nil)))))))))), ?_⟩)
  · obtain ⟨L, m, g, rfl, _⟩ := h
    rfl
  · obtain ⟨L, m, g, rfl, M, lg, q⟩ := h
    have hlen := M.wf.g.len
    refine ⟨_, rfl, M.f_groups T ?_⟩
    refine ⟨_, rfl, at_dget (.inl M.own) (mem_liveL.mpr lg) ?_⟩
    refine ⟨_, rfl, M.g_parent T lg ?_⟩
    refine ⟨rfl, _, rfl, ?_⟩
    have epv : decide (parV m.groups g = V.non) = decide (g = 0) := by
      unfold parV
      by_cases h : g = 0
      · rw [if_pos h, decide_eq_true rfl, decide_eq_true h]
      · rw [if_neg h, decide_eq_false h]
        exact decide_eq_false fun e => by cases e
    rw [epv]
    refine tIf2 (fun pv H1 => Same H H1 ∧ VAt K H1 (if g = 0 then RWire.Value.null else .int ((par m.groups g : Nat) : Int)) pv) (fun e Q0 h => h _ _ ⟨Same.refl _, ?_⟩) (fun e Q0 h => ?_) ?_
    · rw [if_pos (of_decide_eq_true e)]
      exact .null (T.q_NULL.at H)
    · have h0 : g ≠ 0 := of_decide_eq_false e
      refine ⟨_, rfl, M.g_parent T lg ?_⟩
      refine ⟨((par m.groups g : Nat) : Int), noF, by unfold parV; rw [if_neg h0]; rfl, trk_no _, fun x H1 s1 hx => h x H1 ⟨s1, ?_⟩⟩
      rw [if_neg h0]
      exact hx.mono (hid_un _ _)
    rintro pv H1 ⟨s1, hpv⟩
    have M1 := M.mono s1
    refine ⟨_, rfl, M1.g_limits T lg ?_⟩
    -- six pairs
    refine ⟨_, rfl, M1.l_most T lg ⟨by show 2 ≤ sizeLine; decide, fun t1 ht1 => ?_⟩⟩
    have s2 := s1.trans (Same.new (o := .tup [.str "max", nV (m.groups.at_ g).max]) ht1)
    refine ⟨_, rfl, (M.mono s2).l_least T lg ⟨by show 2 ≤ sizeLine; decide, fun t2 ht2 => ?_⟩⟩
    have s3 := s2.trans (Same.new (o := .tup [.str "min", nV (m.groups.at_ g).min]) ht2)
    refine ⟨_, rfl, (M.mono s3).l_low T lg ⟨by show 2 ≤ sizeLine; decide, fun t3 ht3 => ?_⟩⟩
    have s4 := s3.trans (Same.new (o := .tup [.str "low", nV (m.groups.at_ g).low]) ht3)
    have T3 : Tup2 (upd (upd (upd H1 t1 (.tup [.str "max", nV (m.groups.at_ g).max])) t2 (.tup [.str "min", nV (m.groups.at_ g).min])) t3 (.tup [.str "low", nV (m.groups.at_ g).low])) [("max", (m.groups.at_ g).max), ("min", (m.groups.at_ g).min), ("low", (m.groups.at_ g).low)] [.ref t1, .ref t2, .ref t3] :=
      .cons ⟨t1, rfl, (Same.new ht3) _ _ ((Same.new ht2) _ _ upd_same)⟩ (.cons ⟨t2, rfl, (Same.new ht3) _ _ upd_same⟩ (.cons ⟨t3, rfl, upd_same⟩ .nil))
    have p4 : VAt K (upd (upd (upd H1 t1 (.tup [.str "max", nV (m.groups.at_ g).max])) t2 (.tup [.str "min", nV (m.groups.at_ g).min])) t3 (.tup [.str "low", nV (m.groups.at_ g).low])) _ pv := hpv.mono (((Same.new ht1).trans (Same.new ht2)).trans (Same.new ht3))
    generalize (upd (upd (upd H1 t1 (.tup [.str "max", nV (m.groups.at_ g).max])) t2 (.tup [.str "min", nV (m.groups.at_ g).min])) t3 (.tup [.str "low", nV (m.groups.at_ g).low])) = H4 at *
    have M4 := M.mono s4
    refine ⟨_, rfl, M4.meth (by decide +kernel) ⟨L, m, rfl, M4, fun u H5 s5 hu0 hu => ?_⟩⟩
    refine ⟨_, rfl, _, _, rfl, dget_in (.inl hu) (mem_liveL.mpr lg), by show 2 ≤ sizeLine; decide, fun t4 ht4 => ?_⟩
    have s6' : Same H4 (upd H5 t4 (.tup [.str "usage", nV (usage m.groups m.pages g)])) := s5.trans (Same.new ht4)
    have s6 := s4.trans s6'
    refine ⟨by show 4 ≤ sizeLine; decide, fun r1 hr1 => ?_⟩
    have s7' : Same H4 (upd (upd H5 t4 (.tup [.str "usage", nV (usage m.groups m.pages g)])) r1 (.lst [.ref t1, .ref t2, .ref t3, .ref t4])) := s6'.trans (Same.new hr1)
    have s7 := s4.trans s7'
    have e4 : (upd (upd H5 t4 (.tup [.str "usage", nV (usage m.groups m.pages g)])) r1 (.lst [.ref t1, .ref t2, .ref t3, .ref t4])) t4 = some (.tup [.str "usage", nV (usage m.groups m.pages g)]) := (Same.new hr1) _ _ upd_same
    have er1 : (upd (upd H5 t4 (.tup [.str "usage", nV (usage m.groups m.pages g)])) r1 (.lst [.ref t1, .ref t2, .ref t3, .ref t4])) r1 = some (.lst [.ref t1, .ref t2, .ref t3, .ref t4]) := upd_same
    generalize (upd (upd H5 t4 (.tup [.str "usage", nV (usage m.groups m.pages g)])) r1 (.lst [.ref t1, .ref t2, .ref t3, .ref t4])) = H7 at *
    have T3 := Tup2.mono s7' T3
    have p7 := p4.mono s7'
    have M7 := M.mono s7
    refine ⟨_, rfl, _, rfl, M7.meth (by decide +kernel) ⟨L, m, rfl, M7, fun ks1 a1 H8 nd1 k1 s8 ha0 ha => ?_⟩⟩
    refine ⟨_, rfl, _, _, rfl, dget_in (.inl ha) ((k1 g).mp lg), by show 2 ≤ sizeLine; decide, fun t5 ht5 => ?_⟩
    have s9' : Same H7 (upd H8 t5 (.tup [.str "hard", nV (m.hard g)])) := s8.trans (Same.new ht5)
    have e5 : (upd H8 t5 (.tup [.str "hard", nV (m.hard g)])) t5 = some (.tup [.str "hard", nV (m.hard g)]) := upd_same
    generalize (upd H8 t5 (.tup [.str "hard", nV (m.hard g)])) = H9 at *
    have M9 := M.mono (s7.trans s9')
    refine ⟨_, rfl, M9.meth (by decide +kernel) ⟨L, m, rfl, M9, fun ks2 a2 H10 nd2 k2 s10 hb0 hb => ?_⟩⟩
    refine ⟨_, rfl, _, _, rfl, dget_in (.inl hb) ((k2 g).mp lg), by show 2 ≤ sizeLine; decide, fun t6 ht6 => ?_⟩
    refine ⟨by show 2 ≤ sizeLine; decide, fun r2 hr2 => ?_⟩
    have s11' : Same H9 (upd (upd H10 t6 (.tup [.str "soft", nV (m.soft g)])) r2 (.lst [.ref t5, .ref t6])) := (s10.trans (Same.new ht6)).trans (Same.new hr2)
    have e6 : (upd (upd H10 t6 (.tup [.str "soft", nV (m.soft g)])) r2 (.lst [.ref t5, .ref t6])) t6 = some (.tup [.str "soft", nV (m.soft g)]) := (Same.new hr2) _ _ upd_same
    have er2 : (upd (upd H10 t6 (.tup [.str "soft", nV (m.soft g)])) r2 (.lst [.ref t5, .ref t6])) r2 = some (.lst [.ref t5, .ref t6]) := upd_same
    generalize (upd (upd H10 t6 (.tup [.str "soft", nV (m.soft g)])) r2 (.lst [.ref t5, .ref t6])) = H11 at *
    have er1 := s11' _ _ (s9' _ _ er1)
    refine ⟨r1, r2, _, _, rfl, rfl, er1, er2, by show 4 + 2 ≤ sizeLine; decide, fun r3 hr3 => ?_⟩
    have s12' : Same H7 (upd H11 r3 (.lst ([.ref t1, .ref t2, .ref t3, .ref t4] ++ [.ref t5, .ref t6]))) := (s9'.trans s11').trans (Same.new hr3)
    have T6 : Tup2 (upd H11 r3 (.lst ([.ref t1, .ref t2, .ref t3, .ref t4] ++ [.ref t5, .ref t6]))) (grpPairs m g) [.ref t1, .ref t2, .ref t3, .ref t4, .ref t5, .ref t6] := by
      have T3 := Tup2.mono s12' T3
      cases T3 with
      | cons q1 T3 =>
        cases T3 with
        | cons q2 T3 =>
          cases T3 with
          | cons q3 T3 =>
            exact .cons q1 (.cons q2 (.cons q3 (.cons ⟨t4, rfl, s12' _ _ e4⟩ (.cons ⟨t5, rfl, (Same.new hr3) _ _ (s11' _ _ e5)⟩ (.cons ⟨t6, rfl, (Same.new hr3) _ _ e6⟩ .nil)))))
    have er3 : (upd H11 r3 (.lst ([.ref t1, .ref t2, .ref t3, .ref t4] ++ [.ref t5, .ref t6]))) r3 = some (.lst [.ref t1, .ref t2, .ref t3, .ref t4, .ref t5, .ref t6]) := upd_same
    generalize (upd H11 r3 (.lst ([.ref t1, .ref t2, .ref t3, .ref t4] ++ [.ref t5, .ref t6]))) = H12 at *
    have s12 := s7.trans s12'
    have p12 := p7.mono s12'
    -- told
    have lg6 : (grpPairs m g).length = 6 := rfl
    have er3' : SqL K H12 r3 ((List.range 6).map fun i => ([.ref t1, .ref t2, .ref t3, .ref t4, .ref t5, .ref t6] : List V).getD i .non) := sq (by rw [er3]; rfl)
    refine ⟨_, rfl, r3, rfl, ⟨_, sq er3⟩, fun D hD => ?_⟩
    refine lc_goesD (l := List.range 6) (goes_list (h := fun i => ([.ref t1, .ref t2, .ref t3, .ref t4, .ref t5, .ref t6] : List V).getD i .non)) hD (fun H' e => e.seq er3') (fun _ => true)
      (fun i y H' => ∀ e, (grpPairs m g)[i]? = some e → ∃ t x, y = V.ref t ∧ SqT K (hid (fun b => b = D) H') t [.str e.1, x] ∧ VAt K (hid (fun b => b = D) H') (.int ((e.2 : Nat) : Int)) x)
      (fun i y H1 H2 k _ h e he => ?_) (by decide) (fun j i v H13 hi s13 ⟨zs, hDs⟩ hv N Y h1 h2 => ?_) (fun H13 ys s13 e13 hp => ?_)
    · obtain ⟨t, x, e1, h1, h2⟩ := h e he
      have sk : Same (hid (fun b => b = D) H1) (hid (fun b => b = D) H2) := hid_keep fun b o hb e => k b o hb e
      exact ⟨t, x, e1, sk.tup h1, h2.mono sk⟩
    · subst hv
      have hi6 : i < 6 := List.mem_range.mp (List.mem_of_getElem? hi)
      have hxi : ([.ref t1, .ref t2, .ref t3, .ref t4, .ref t5, .ref t6] : List V)[i]? = some (([.ref t1, .ref t2, .ref t3, .ref t4, .ref t5, .ref t6] : List V).getD i .non) := by
        rw [List.getD_eq_getElem?_getD, List.getElem?_eq_getElem (show i < ([.ref t1, .ref t2, .ref t3, .ref t4, .ref t5, .ref t6] : List V).length from hi6)]
        rfl
      obtain ⟨e, he, t, et, hT⟩ := Gm.Paired.get T6 i _ hxi
      rw [et]
      refine ⟨t, _, rfl, .inl (.inl (s13 _ _ hT)), rfl, _, _, rfl, _, _, rfl, rfl, rfl, yes ⟨_, rfl, _, rfl, ((e.2 : Nat) : Int), (fun b => b = D), rfl, ?_, fun x H14 s14 hx => ?_⟩⟩
      · intro b hb
        rw [hb, hDs]
        exact fun z => by cases z
      · refine ⟨by show 2 ≤ sizeLine; decide, fun tp htp => ?_⟩
        refine h2 rfl _ _ (s14.trans (Same.new htp)) fun e' he' => ?_
        have : e' = e := by
          rw [he] at he'
          exact (Option.some.inj he').symm
        subst this
        have ntD : tp ≠ D := fun z => by rw [z, s14 _ _ hDs] at htp; cases htp
        exact ⟨tp, x, rfl, .inl (.inl (hid_some.mpr ⟨ntD, upd_same⟩)), hx.mono (hid_same (Same.new htp))⟩
    · rw [filter_all] at hp
      have hP : PrAll K (hid (fun b => b = D) H13) ((grpPairs m g).map fun e => (e.1, RWire.Value.int ((e.2 : Nat) : Int))) ys := by
        refine prAll_int (fun e y h => h) (Paired.idx (grpPairs m g) 0 (List.replicate 6 V.non) ys rfl (fun i => by rw [Nat.zero_add]) ?_)
        rw [lg6]
        have : List.range 6 = List.range' 0 6 := List.range_eq_range'
        rw [← this]
        exact hp
      have hP := PrAll.mono (hid_un _ _) hP
      have s14 := s12.trans s13
      have p13 := p12.mono s13
      refine ⟨_, rfl, by show 2 ≤ sizeLine; decide, fun t7 ht7 => ?_⟩
      have s15 : Same H13 (upd H13 t7 (.tup [.str "parent", pv])) := Same.new ht7
      have e7 : (upd H13 t7 (.tup [.str "parent", pv])) t7 = some (.tup [.str "parent", pv]) := upd_same
      generalize (upd H13 t7 (.tup [.str "parent", pv])) = H15 at *
      have M15 := M.mono (s14.trans s15)
      refine ⟨_, rfl, M15.meth (by decide +kernel) ⟨_, rfl, L, m, g, rfl, M15.toMemR, fun kd H16 s16 hk0 hk => ?_⟩⟩
      refine ⟨kd, (kids m.groups g).map fun n : Nat => (n : Int), noF, rfl, by rw [hk, map_nV], by rw [List.length_map]; have := kids_len m.groups g; omega, trk_no _, fun x H17 s17 hx => ?_⟩
      refine ⟨by show 2 ≤ sizeLine; decide, fun t8 ht8 => ?_⟩
      refine ⟨by show 2 ≤ sizeLine; decide, fun r4 hr4 => ?_⟩
      have s18' : Same H15 (upd (upd H17 t8 (.tup [.str "groups", x])) r4 (.lst [.ref t7, .ref t8])) := ((s16.trans s17).trans (Same.new ht8)).trans (Same.new hr4)
      have s18 := s15.trans s18'
      have e8 : (upd (upd H17 t8 (.tup [.str "groups", x])) r4 (.lst [.ref t7, .ref t8])) t8 = some (.tup [.str "groups", x]) := (Same.new hr4) _ _ upd_same
      have hx18 : VAt K (upd (upd H17 t8 (.tup [.str "groups", x])) r4 (.lst [.ref t7, .ref t8])) _ x := (hx.mono (hid_un _ _)).mono ((Same.new ht8).trans (Same.new hr4))
      have er4 : (upd (upd H17 t8 (.tup [.str "groups", x])) r4 (.lst [.ref t7, .ref t8])) r4 = some (.lst [.ref t7, .ref t8]) := upd_same
      generalize (upd (upd H17 t8 (.tup [.str "groups", x])) r4 (.lst [.ref t7, .ref t8])) = H18 at *
      have eD := s18 _ _ e13
      have lys : ys.length = 6 := by
        have := Paired.length hp
        rw [List.length_range] at this
        exact this.symm
      refine ⟨_, rfl, r4, D, _, _, rfl, rfl, er4, eD, by rw [lys]; show 2 + 6 ≤ sizeLine; decide, fun r5 hr5 => ?_⟩
      have s19 := s18.trans (Same.new (o := .lst ([.ref t7, .ref t8] ++ ys)) hr5)
      have s19' := Same.new (o := .lst ([.ref t7, .ref t8] ++ ys)) hr5
      refine ⟨r5, _, _, noF, rfl, upd_same, PrAll.mono (hid_no _) (.cons (.inl (.inl (s19' _ _ (s18' _ _ e7)))) (p13.mono s19) (.cons (.inl (.inl (s19' _ _ e8))) (hx18.mono s19') (PrAll.mono s19 hP))), by show 8 ≤ 100; decide, ?_, trk_no _, fun y H' s20 hy => q y H' ((s14.trans s19).trans s20) (hy.mono (hid_un _ _))⟩
      intro e he
      have hw : e.1 ∈ ([("parent" : Str), "groups", "max", "min", "low", "usage", "hard", "soft"] : List Str) := by
        have := List.mem_map_of_mem (f := Prod.fst) he
        exact this
      have hall : ([("parent" : Str), "groups", "max", "min", "low", "usage", "hard", "soft"] : List Str).all (fun w => okA w && decide (w.cps.toList.length ≤ 1000)) = true := by decide +kernel
      have := List.all_eq_true.mp hall _ hw
      simp only [Bool.and_eq_true, decide_eq_true_eq] at this
      exact this
end Gm
end

section
set_option maxRecDepth 100000
set_option maxHeartbeats 8000000
/-! # Doors 1 to 4 -/
namespace Gm
open PySem PySem.Spec PyProof.Rows L2 L2G GmM
open R7278g.Spec (live kids chain under usage)
variable {P : Program} {w : World} {K : PySem.W.Frag} {mg : Str → Option Value} {base : Heap} {A : Ad} {f fI : Addr} {fd : FuncData}
/-! ### outcomes -/
abbrev Out (α : Type) := Except (Nat × Str) α
def bindE {α β : Type} (x : Out α) (g : α → Out β) : Out β := match x with
  | .error e => .error e
  | .ok a => g a
def lift {α : Type} (x : R7278g.Spec.Res α) : Out α := match x with
  | .error e => .error (clsN e.cls, strU e.msg)
  | .ok a => .ok a
def numE (w : Str) (a b : Nat) (v : WVal) : Out Nat := match intIn a b v with
  | some n => .ok n
  | none => .error (1, numMsg w a b)
def limE (v : WVal) : Out (Nat × Nat × Nat) := match limW v with
  | .error s => .error (1, s)
  | .ok r => .ok r
abbrev argW (args : List WVal) (i : Nat) : WVal := args.getD i .nothing
def OutAt (K : PySem.W.Frag) (A : Ad) (H : Hp) (L : Lay) (m : SMem) (E : XK) (Q : VK) (o : Out (WVal × SMem)) : Prop := match o with
  | .error e => Rais A H E e.1 e.2
  | .ok r => ∀ x L' H', MemAt K A H' L' r.2 → L'.a = L.a → Stp (Fp L m) H (Fp L' r.2) H' → VAt K H' r.1 x → Q x H'
def ArgsAt (K : PySem.W.Frag) (H : Hp) (aa : Addr) (args : List WVal) : Prop := ∃ xs, H aa = some (.lst xs) ∧ VAll K H args xs
theorem ArgsAt.mono {H H' : Hp} {aa : Addr} {args : List WVal} (h : ArgsAt K H aa args) (s : Same H H') : ArgsAt K H' aa args := let ⟨xs, e, v⟩ := h; ⟨xs, s _ _ e, v.mono s⟩
theorem ArgsAt.get {H : Hp} {aa : Addr} {args : List WVal} (h : ArgsAt K H aa args) {i : Nat} (hi : i < args.length) : ∃ x xs, H aa = some (.lst xs) ∧ xs[i]? = some x ∧ VAt K H (argW args i) x := by
  obtain ⟨xs, e, v⟩ := h
  obtain ⟨x, ex, hx⟩ := v.get (i := i) (v := args[i]) (List.getElem?_eq_getElem hi)
  refine ⟨x, xs, e, ex, ?_⟩
  unfold argW
  rw [List.getD_eq_getElem?_getD, List.getElem?_eq_getElem hi]
  exact hx
/-- what fits a callee's promise of numbers -/
theorem num_of {H : Hp} {E : XK} {G : Nat → Hp → Prop} {w : Str} {a b : Nat} {v : WVal} (h1 : ∀ n, intIn a b v = some n → ∀ H', Same H H' → G n H') (h2 : intIn a b v = none → Rais A H E 1 (numMsg w a b)) :
    match intIn a b v with
    | some n => ∀ H', Same H H' → G n H'
    | none => Rais A H E 1 (numMsg w a b) := by
  cases h : intIn a b v with
  | some n => exact h1 n h
  | none => exact h2 h
theorem lim_of {H : Hp} {E : XK} {G : Addr → Hp → Prop} {v : WVal} (h1 : ∀ r, limW v = .ok r → ∀ la ldx H', Same H H' → H la = none → H' la = some (.ins A.lim ldx (limF r.1 r.2.1 r.2.2)) → G la H') (h2 : ∀ s, limW v = .error s → Rais A H E 1 s) :
    match limW v with
    | .error s => Rais A H E 1 s
    | .ok r => ∀ la ldx H', Same H H' → H la = none → H' la = some (.ins A.lim ldx (limF r.1 r.2.1 r.2.2)) → G la H' := by
  cases h : limW v with
  | error s => exact h2 s h
  | ok r => exact h1 r h
theorem numE_ok {w : Str} {a b n : Nat} {v : WVal} (h : intIn a b v = some n) : numE w a b v = .ok n := by unfold numE; rw [h]
theorem numE_no {w : Str} {a b : Nat} {v : WVal} (h : intIn a b v = none) : numE w a b v = .error (1, numMsg w a b) := by unfold numE; rw [h]
theorem limE_ok {v : WVal} {r : Nat × Nat × Nat} (h : limW v = .ok r) : limE v = .ok r := by unfold limE; rw [h]
theorem limE_no {v : WVal} {s : Str} (h : limW v = .error s) : limE v = .error (1, s) := by unfold limE; rw [h]
theorem MemAt.trk {H : Hp} {L : Lay} {m : SMem} (M : MemAt K A H L m) : Trk (Fp L m) H := fun b hb e => by
  obtain ⟨o, h, _⟩ := M.kind hb
  rw [e] at h
  cases h
/-- an operation's promise from the outcome's -/
theorem opM_of {H H1 : Hp} {L : Lay} {m : SMem} {E : XK} {Q : VK} {X : Addr → Prop} {α : Type} {x : R7278g.Spec.Res α} {mem : α → SMem} {Q2 : VK} {val : α → V} {vw : α → WVal} (s : Same H H1) (hX : ∀ b, X b → H b = none)
    (h : OutAt K A H L m E Q (bindE (lift x) fun r => .ok (vw r, mem r)))
    (hv : ∀ r H', (∀ y H2, Same H' H2 → VAt K H2 (vw r) y → ∀ L', MemAt K A H' L' (mem r) → L'.a = L.a → Stp (Fp L m) H (Fp L' (mem r)) H' → Q y H2) → (∃ L', MemAt K A H' L' (mem r) ∧ L'.a = L.a ∧ Stp (Fp L m) H (Fp L' (mem r)) H') → Q2 (val r) H') :
    OpM K A H1 L m E Q2 X x mem val := by
  cases x with
  | error e =>
    have h : Rais A H E (clsN e.cls) (strU e.msg) := h
    exact Rais.mono h s
  | ok r =>
    have h : ∀ x L' H', MemAt K A H' L' (mem r) → L'.a = L.a → Stp (Fp L m) H (Fp L' (mem r)) H' → VAt K H' (vw r) x → Q x H' := h
    intro L' H' M hL st
    have st' : Stp (Fp L m) H (Fp L' (mem r)) H' := by
      refine ⟨fun b o e n => st.keep b o (s b o e) fun z => ?_, fun b hb => ?_⟩
      · rcases z with z | z
        · exact n z
        · rw [hX b z] at e
          cases e
      · rcases st.sub b hb with (z | z) | z
        · exact .inl z
        · exact .inr (hX b z)
        · exact .inr (s.free z)
    refine hv r H' (fun y H2 s2 hy L2 M2 e2 st2 => ?_) ⟨L', M, hL, st'⟩
    exact h y L2 H2 (M2.mono s2) e2 (st2.after s2) hy
def groupsW (d : Nat) (m : SMem) (args : List WVal) : Out (WVal × SMem) :=
  if d = 1 then bindE (numE "parent" 0 100 (argW args 1)) fun p => bindE (limE (argW args 2)) fun l => bindE (lift (m.add p l.1 l.2.1 l.2.2)) fun r => .ok (.int ((r.1 : Nat) : Int), r.2)
  else if d = 2 then bindE (numE "group" 0 100 (argW args 1)) fun g => bindE (limE (argW args 2)) fun l => bindE (lift (m.limit g l.1 l.2.1 l.2.2)) fun r => .ok (.nothing, r)
  else if d = 3 then bindE (numE "group" 0 100 (argW args 1)) fun g => bindE (lift (m.remove g)) fun r => .ok (.nothing, r)
  else bindE (numE "group" 0 100 (argW args 1)) fun g => bindE (numE "parent" 0 100 (argW args 2)) fun p => bindE (lift (m.move g p)) fun r => .ok (.nothing, r)
def spDoorM (K : PySem.W.Frag) (A : Ad) (ds : Nat → Bool) (need : Nat → Nat) (W : Nat → SMem → List WVal → Out (WVal × SMem)) : Sp := fun vs H Q E => ∃ (L : Lay) (m : SMem) (d : Nat) (aa : Addr) (args : List WVal), vs = [.ref L.a, nV d, .ref aa] ∧ MemAt K A H L m ∧ ds d = true ∧ ArgsAt K H aa args ∧ need d ≤ args.length ∧ OutAt K A H L m E Q (W d m args)
theorem ok_change_groups (F : Fun K "change_groups" "change_groups" s_change_groups f fd) (T : Txt K mg A) (h_number_in : GF P w K mg base (L2N.CX P w) 2 "number_in" ["value", "word", "low", "high"] (spNumIn K A)) (h_group_in : GF P w K mg base (L2N.CX P w) 3 "group_in" ["value"] (spGroupIn K A "group" 0 100))
    (h_limits_in : GF P w K mg base (L2N.CX P w) 3 "limits_in" ["value"] (spLimIn K A)) (h_v_int : GF P w K mg base CX0 1 "v_int" ["number"] (spVInt K)) (h_Memory_add_group : GM P w K mg base (L2N.CX P w) 3 A.mem "add_group" ["self", "parent", "limits"] (spAddGroup K A))
    (h_Memory_new_limits : GM P w K mg base (L2N.CX P w) 7 A.mem "new_limits" ["self", "number", "limits"] (spNewLimits K A)) (h_Memory_remove : GM P w K mg base (L2N.CX P w) 3 A.mem "remove" ["self", "number"] (spRemove K A)) (h_Memory_move : GM P w K mg base (L2N.CX P w) 3 A.mem "move" ["self", "number", "parent"] (spMove K A)) :
    FnOk P w K mg base (L2N.CX P w) 8 f fd ["memory", "number", "arguments"] (spDoorM K A (fun d => decide (1 ≤ d) && decide (d ≤ 4)) (fun d => if d = 3 then 2 else 3) groupsW) := by
  refine okN F sc_change_groups (fun vs H Q E h => ?_) (fun cdv A' outer s H vs Q E hr h => ⟨_, (pss_cons (ps_if (pt_cmpR op_eq (L2.pv 1) pe_int (nomark _)) (pss_cons (ps_set (i := 3) sc_change_groups.nd rfl (Or.inl rfl) (pe_gf h_number_in (hr.mono (by omega)) (passN (L2N.takes_of rfl rfl rfl rfl)) (pa_cons (pe_ix ix_list (L2.pv 2) pe_int (fun _ _ => rfl)) (pa_cons pe_str (pa_cons pe_int (pa_cons pe_int pa_nil))))))
      (pss_one (ps_ret (pe_gf h_v_int (hr.mono (by omega)) pass0 (pa_cons (pe_gm h_Memory_add_group T.c_mem (hr.mono (by omega)) (passN (L2N.takes_of rfl rfl rfl rfl)) (L2.pv 0) (pa_cons (L2.pv 3) (pa_cons (pe_gf h_limits_in (hr.mono (by omega)) (passN (L2N.takes_of rfl rfl rfl rfl)) (pa_cons (pe_ix ix_list (L2.pv 2) pe_int (fun _ _ => rfl)) pa_nil)) pa_nil))) pa_nil))))) pss_nil)
      (pss_cons (ps_set (i := 4) sc_change_groups.nd rfl (Or.inl rfl) (pe_gf h_group_in (hr.mono (by omega)) (passN (L2N.takes_of rfl rfl rfl rfl)) (pa_cons (pe_ix ix_list (L2.pv 2) pe_int (fun _ _ => rfl)) pa_nil)))
      (pss_cons (ps_if (pt_cmpR op_eq (L2.pv 1) pe_int (nomark _)) (pss_one (ps_expr (pe_gm h_Memory_new_limits T.c_mem (hr.mono (by omega)) (passN (L2N.takes_of rfl rfl rfl rfl)) (L2.pv 0) (pa_cons (L2.pv 4) (pa_cons (pe_gf h_limits_in (hr.mono (by omega)) (passN (L2N.takes_of rfl rfl rfl rfl)) (pa_cons (pe_ix ix_list (L2.pv 2) pe_int (fun _ _ => rfl)) pa_nil)) pa_nil))))) (pss_one (ps_if (pt_cmpR op_eq (L2.pv 1) pe_int (nomark _)) (pss_one (ps_expr (pe_gm h_Memory_remove T.c_mem (hr.mono (by omega)) (passN (L2N.takes_of rfl rfl rfl rfl)) (L2.pv 0) (pa_cons (L2.pv 4) pa_nil)))) (pss_one (ps_expr (pe_gm h_Memory_move T.c_mem (hr.mono (by omega)) (passN (L2N.takes_of rfl rfl rfl rfl)) (L2.pv 0) (pa_cons (L2.pv 4) (pa_cons (pe_gf h_number_in (hr.mono (by omega)) (passN (L2N.takes_of rfl rfl rfl rfl)) (pa_cons (pe_ix ix_list (L2.pv 2) pe_int (fun _ _ => rfl)) (pa_cons pe_str (pa_cons pe_int (pa_cons pe_int pa_nil))))) pa_nil))))))))
      (pss_one (ps_ret (pe_gl T.g_NOTHING)))))), ?_⟩)
  · obtain ⟨L, m, d, aa, args, rfl, _⟩ := h
    rfl
  · obtain ⟨L, m, d, aa, args, rfl, M, hd, hA, hn, q⟩ := h
    simp only [Bool.and_eq_true, decide_eq_true_eq] at hd
    have two : 2 ≤ args.length := by
      by_cases h3 : d = 3
      · have hn : (if d = 3 then 2 else 3) ≤ args.length := hn
        rw [if_pos h3] at hn
        exact hn
      · have hn : (if d = 3 then 2 else 3) ≤ args.length := hn
        rw [if_neg h3] at hn
        omega
    obtain ⟨x1, xs, ea, e1, v1⟩ := hA.get (i := 1) (by omega)
    refine ⟨_, rfl, rfl, _, rfl, ?_⟩
    have c1 : decide (nV d = V.int 1) = decide (d = 1) := @dec_nV d 1
    rw [c1]
    by_cases h1 : d = 1
    · rw [decide_eq_true h1]
      subst h1
      have hn : 3 ≤ args.length := hn
      have q : OutAt K A H L m E Q (bindE (numE "parent" 0 100 (argW args 1)) fun p => bindE (limE (argW args 2)) fun l => bindE (lift (m.add p l.1 l.2.1 l.2.2)) fun r => .ok (.int ((r.1 : Nat) : Int), r.2)) := q
      refine iteT ⟨_, rfl, aa, _, 1, _, rfl, rfl, sq ea, atI_nat (j := 1) e1, x1, argW args 1, "parent", 0, 100, rfl, v1, by decide +kernel, num_of (fun p hp H1 s1 => ?_) (fun hp => ?_)⟩
      · rw [numE_ok hp] at q
        obtain ⟨x2, xs2, ea2, e2, v2⟩ := hA.get (i := 2) (by omega)
        refine ⟨_, rfl, M.mono s1 |>.meth (by decide +kernel) ⟨_, rfl, _, rfl, aa, _, 2, _, rfl, rfl, sq (s1 _ _ ea2), atI_nat (j := 2) e2, x2, argW args 2, rfl, v2.mono s1, lim_of (fun l hl la ldx H2 s2 hla0 hla => ?_) (fun msg hl => ?_)⟩⟩
        · have q : OutAt K A H L m E Q (bindE (limE (argW args 2)) fun l => bindE (lift (m.add p l.1 l.2.1 l.2.2)) fun r => .ok (.int ((r.1 : Nat) : Int), r.2)) := q
          rw [limE_ok hl] at q
          have q : OutAt K A H L m E Q (bindE (lift (m.add p l.1 l.2.1 l.2.2)) fun r => .ok (.int ((r.1 : Nat) : Int), r.2)) := q
          have s3 := s1.trans s2
          have hla00 := s1.free hla0
          refine ⟨L, m, p, la, ldx, l.1, l.2.1, l.2.2, rfl, M.mono s3, hla, fun h => M.trk la h hla00, ?_⟩
          refine opM_of s3 (X := fun b => b = la) (fun b hb => by rw [hb]; exact hla00) q fun r H4 h4 ⟨L', hM, hL, st⟩ => ?_
          exact ⟨((r.1 : Nat) : Int), noF, rfl, trk_no _, fun x H5 s5 hx => h4 x H5 s5 (hx.mono (hid_un _ _)) L' hM hL st⟩
        · have q : OutAt K A H L m E Q (bindE (limE (argW args 2)) fun l => bindE (lift (m.add p l.1 l.2.1 l.2.2)) fun r => .ok (.int ((r.1 : Nat) : Int), r.2)) := q
          rw [limE_no hl] at q
          exact Rais.mono q s1
      · rw [numE_no hp] at q
        exact q
    · rw [decide_eq_false h1]
      refine iteF ⟨_, rfl, aa, _, 1, _, rfl, rfl, sq ea, atI_nat (j := 1) e1, x1, argW args 1, rfl, v1, ?_⟩
      have qd : ∀ (W2 : Nat → Out (WVal × SMem)), groupsW d m args = bindE (numE "group" 0 100 (argW args 1)) W2 → intIn 0 100 (argW args 1) = none → Rais A H E 1 (numMsg "group" 0 100) := fun W2 e hp => by
        rw [e, numE_no hp] at q
        exact q
      have en : ∃ W2, groupsW d m args = bindE (numE "group" 0 100 (argW args 1)) W2 := by
        unfold groupsW
        rw [if_neg h1]
        by_cases h2 : d = 2
        · rw [if_pos h2]
          exact ⟨_, rfl⟩
        · rw [if_neg h2]
          by_cases h3 : d = 3
          · rw [if_pos h3]
            exact ⟨_, rfl⟩
          · rw [if_neg h3]
            exact ⟨_, rfl⟩
      refine num_of (fun g hg H1 s1 => ?_) (fun hp => let ⟨W2, e⟩ := en; qd W2 e hp)
      have M1 := M.mono s1
      refine ⟨_, rfl, rfl, _, rfl, ?_⟩
      have c2 : decide (nV d = V.int 2) = decide (d = 2) := @dec_nV d 2
      rw [c2]
      have ret : ∀ (r : SMem) H', (∀ y H2, Same H' H2 → VAt K H2 RWire.Value.nothing y → ∀ L', MemAt K A H' L' r → L'.a = L.a → Stp (Fp L m) H (Fp L' r) H' → Q y H2) → (∃ L', MemAt K A H' L' r ∧ L'.a = L.a ∧ Stp (Fp L m) H (Fp L' r) H') → Q (.ref A.tNOTHING) H' := fun r H' h ⟨L', a, b, c⟩ =>
        h _ H' (Same.refl _) (.nothing (T.q_NOTHING.at H')) L' a b c
      by_cases h2 : d = 2
      · rw [decide_eq_true h2]
        subst h2
        have hn : 3 ≤ args.length := hn
        have q : OutAt K A H L m E Q (bindE (numE "group" 0 100 (argW args 1)) fun g => bindE (limE (argW args 2)) fun l => bindE (lift (m.limit g l.1 l.2.1 l.2.2)) fun r => .ok (.nothing, r)) := q
        rw [numE_ok hg] at q
        have q : OutAt K A H L m E Q (bindE (limE (argW args 2)) fun l => bindE (lift (m.limit g l.1 l.2.1 l.2.2)) fun r => .ok (.nothing, r)) := q
        obtain ⟨x2, xs2, ea2, e2, v2⟩ := hA.get (i := 2) (by omega)
        refine iteT ⟨_, rfl, M1.meth (by decide +kernel) ⟨_, rfl, _, rfl, aa, _, 2, _, rfl, rfl, sq (s1 _ _ ea2), atI_nat (j := 2) e2, x2, argW args 2, rfl, v2.mono s1, lim_of (fun l hl la ldx H2 s2 hla0 hla => ?_) (fun msg hl => ?_)⟩⟩
        · rw [limE_ok hl] at q
          have q : OutAt K A H L m E Q (bindE (lift (m.limit g l.1 l.2.1 l.2.2)) fun r => .ok (.nothing, r)) := q
          have s3 := s1.trans s2
          have hla00 := s1.free hla0
          refine ⟨L, m, g, la, ldx, l.1, l.2.1, l.2.2, rfl, M.mono s3, hla, fun h => M.trk la h hla00, ?_⟩
          exact opM_of s3 (X := fun b => b = la) (fun b hb => by rw [hb]; exact hla00) q fun r H4 h4 h5 => ret r H4 h4 h5
        · rw [limE_no hl] at q
          exact Rais.mono q s1
      · rw [decide_eq_false h2]
        refine iteF ⟨_, rfl, rfl, _, rfl, ?_⟩
        have c3 : decide (nV d = V.int 3) = decide (d = 3) := @dec_nV d 3
        rw [c3]
        by_cases h3 : d = 3
        · rw [decide_eq_true h3]
          subst h3
          have q : OutAt K A H L m E Q (bindE (numE "group" 0 100 (argW args 1)) fun g => bindE (lift (m.remove g)) fun r => .ok (.nothing, r)) := q
          rw [numE_ok hg] at q
          have q : OutAt K A H L m E Q (bindE (lift (m.remove g)) fun r => .ok (.nothing, r)) := q
          refine iteT ⟨_, rfl, M1.meth (by decide +kernel) ⟨_, rfl, L, m, g, rfl, M1, ?_⟩⟩
          exact opM_of s1 (X := fun _ => False) (fun b hb => hb.elim) q fun r H4 h4 h5 => ret r H4 h4 h5
        · rw [decide_eq_false h3]
          have h4 : d = 4 := by omega
          subst h4
          have hn : 3 ≤ args.length := hn
          have q : OutAt K A H L m E Q (bindE (numE "group" 0 100 (argW args 1)) fun g => bindE (numE "parent" 0 100 (argW args 2)) fun p => bindE (lift (m.move g p)) fun r => .ok (.nothing, r)) := q
          rw [numE_ok hg] at q
          have q : OutAt K A H L m E Q (bindE (numE "parent" 0 100 (argW args 2)) fun p => bindE (lift (m.move g p)) fun r => .ok (.nothing, r)) := q
          obtain ⟨x2, xs2, ea2, e2, v2⟩ := hA.get (i := 2) (by omega)
          refine iteF ⟨_, rfl, M1.meth (by decide +kernel) ⟨_, rfl, _, rfl, aa, _, 2, _, rfl, rfl, sq (s1 _ _ ea2), atI_nat (j := 2) e2, x2, argW args 2, "parent", 0, 100, rfl, v2.mono s1, by decide +kernel, num_of (fun p hp H2 s2 => ?_) (fun hp => ?_)⟩⟩
          · rw [numE_ok hp] at q
            have q : OutAt K A H L m E Q (bindE (lift (m.move g p)) fun r => .ok (.nothing, r)) := q
            have s3 := s1.trans s2
            refine ⟨L, m, g, p, rfl, M.mono s3, ?_⟩
            exact opM_of s3 (X := fun _ => False) (fun b hb => hb.elim) q fun r H4 h4 h5 => ret r H4 h4 h5
          · rw [numE_no hp] at q
            exact Rais.mono q s1
end Gm
end

section
set_option maxRecDepth 100000
set_option maxHeartbeats 8000000
/-! # Values as data; a page is marked -/
namespace Gm
open PySem PySem.Spec PyProof.Rows L2 L2G GmM
open R7278g.Spec (live kids chain under usage cleaned)
variable {P : Program} {w : World} {K : PySem.W.Frag} {mg : Str → Option Value} {base : Heap} {A : Ad} {f fI : Addr} {fd : FuncData}
mutual
def datW : WVal → PyData
  | .nothing => .tuple [.str "nothing", .none]
  | .null => .tuple [.str "null", .none]
  | .bool b => .tuple [.str (if b then "true" else "false"), .none]
  | .int i => .tuple [.str "int", .int i]
  | .text u => .tuple [.str "text", octD u]
  | .list l => .tuple [.str "list", .list (datM l)]
  | .record l => .tuple [.str "record", .list (datE l)]
  | .big _ => .none
  | .octets _ => .none
  | .wide _ => .none
def datM : List WVal → List PyData
  | [] => []
  | v :: r => datW v :: datM r
def datE : List (RWire.Text × WVal) → List PyData
  | [] => []
  | e :: r => .tuple [octD e.1, datW e.2] :: datE r
end
mutual
theorem VAt.dp {H : Hp} : ∀ {v : WVal} {x : V}, VAt K H v x → Dp K H x (datW v)
  | _, _, .nothing h => by rw [datW]; exact .tup h (.cons (.str _) (.cons .non .nil))
  | _, _, .null h => by rw [datW]; exact .tup h (.cons (.str _) (.cons .non .nil))
  | _, _, .no h => by rw [datW]; exact .tup h (.cons (.str _) (.cons .non .nil))
  | _, _, .yes h => by rw [datW]; exact .tup h (.cons (.str _) (.cons .non .nil))
  | _, _, .int h => by rw [datW]; exact .tup h (.cons (.str _) (.cons (.int _) .nil))
  | _, _, .text h g => by rw [datW]; exact .tup h (.cons (.str _) (.cons (dp_octs g) .nil))
  | _, _, .list h g r => by rw [datW]; exact .tup h (.cons (.str _) (.cons (.lst (sq g) (VAll.dp r)) .nil))
  | _, _, .record h g r => by rw [datW]; exact .tup h (.cons (.str _) (.cons (.lst (sq g) (EAll.dp r)) .nil))
theorem VAll.dp {H : Hp} : ∀ {l : List WVal} {xs : List V}, VAll K H l xs → DpAll K H xs (datM l)
  | _, _, .nil => by rw [datM]; exact .nil
  | _, _, .cons h r => by rw [datM]; exact .cons (VAt.dp h) (VAll.dp r)
theorem EAll.dp {H : Hp} : ∀ {l : List (RWire.Text × WVal)} {xs : List V}, EAll K H l xs → DpAll K H xs (datE l)
  | _, _, .nil => by rw [datE]; exact .nil
  | _, _, .cons h g q r => by rw [datE]; exact .cons (.tup h (.cons (dp_octs g) (.cons (VAt.dp q) .nil))) (EAll.dp r)
end
theorem lay_str (s : Str) (h : PyData.strOk s = true) (d : PyData) (hd : d.canLay0 = true) : (PyData.tuple [.str s, d]).canLay0 = true := by
  rw [PyData.canLay0, PyData.canLayAll0, PyData.canLayAll0, PyData.canLayAll0, PyData.canLay0, h, hd]
  rfl
mutual
theorem datW_lay : ∀ (v : WVal), (datW v).canLay0 = true
  | .nothing => by rw [datW]; exact lay_str _ (by decide +kernel) _ rfl
  | .null => by rw [datW]; exact lay_str _ (by decide +kernel) _ rfl
  | .bool true => by rw [datW]; exact lay_str "true" (by decide +kernel) _ rfl
  | .bool false => by rw [datW]; exact lay_str "false" (by decide +kernel) _ rfl
  | .int i => by rw [datW]; exact lay_str _ (by decide +kernel) _ rfl
  | .text u => by rw [datW]; exact lay_str _ (by decide +kernel) _ (octD_lay u)
  | .list l => by rw [datW]; exact lay_str _ (by decide +kernel) _ (by rw [PyData.canLay0]; exact datM_lay l)
  | .record l => by rw [datW]; exact lay_str _ (by decide +kernel) _ (by rw [PyData.canLay0]; exact datE_lay l)
  | .big _ => rfl
  | .octets _ => rfl
  | .wide _ => rfl
theorem datM_lay : ∀ (l : List WVal), PyData.canLayAll0 (datM l) = true
  | [] => rfl
  | v :: r => by rw [datM, PyData.canLayAll0, datW_lay v, datM_lay r]; rfl
theorem datE_lay : ∀ (l : List (RWire.Text × WVal)), PyData.canLayAll0 (datE l) = true
  | [] => rfl
  | (n, v) :: r => by
    rw [datE, PyData.canLayAll0, PyData.canLay0, PyData.canLayAll0, PyData.canLayAll0, PyData.canLayAll0, octD_lay n, datW_lay v, datE_lay r]
    rfl
end
theorem datW_shaped {v : WVal} (h : (datW v).depth ≤ 64) : SeqAt.shaped (datW v) = true := by
  unfold SeqAt.shaped
  rw [datW_lay, decide_eq_true h]
  rfl
def textD (u : Octs) : PyData := .tuple [.str "text", octD u]
theorem textD_shaped (u : Octs) : SeqAt.shaped (textD u) = true := by
  unfold SeqAt.shaped textD
  rw [lay_str _ (by decide +kernel) _ (octD_lay u), PyData.depth, PyData.depthAll, PyData.depthAll, PyData.depthAll, PyData.depth]
  have := octD_depth u
  rw [decide_eq_true (by omega)]
  rfl
theorem eqv_pair (s s' : Str) (d e : PyData) : PyData.eqv (.tuple [.str s, d]) (.tuple [.str s', e]) = ((s == s') && PyData.eqv d e) := by
  rw [PyData.eqv, PyData.eqvAll, PyData.eqvAll, PyData.eqvAll, PyData.eqv, Bool.and_true]
def isTextW (v : WVal) (u : Octs) : Bool := match v with
  | .text t => t == u
  | _ => false
theorem datW_text {H : Hp} {v : WVal} {x : V} (h : VAt K H v x) (u : Octs) : PyData.eqv (datW v) (textD u) = isTextW v u := by
  unfold textD
  cases h with
  | nothing _ => rw [datW, eqv_pair, show (("nothing" : Str) == "text") = false by decide +kernel]; rfl
  | null _ => rw [datW, eqv_pair, show (("null" : Str) == "text") = false by decide +kernel]; rfl
  | no _ => rw [datW, eqv_pair]; show ((("false" : Str) == "text") && _) = _; rw [show (("false" : Str) == "text") = false by decide +kernel]; rfl
  | yes _ => rw [datW, eqv_pair]; show ((("true" : Str) == "text") && _) = _; rw [show (("true" : Str) == "text") = false by decide +kernel]; rfl
  | int _ => rw [datW, eqv_pair, show (("int" : Str) == "text") = false by decide +kernel]; rfl
  | text _ _ => rw [datW, eqv_pair, show (("text" : Str) == "text") = true by decide +kernel, octD_eqv]; rfl
  | list _ _ _ => rw [datW, eqv_pair, show (("list" : Str) == "text") = false by decide +kernel]; rfl
  | record _ _ _ => rw [datW, eqv_pair, show (("record" : Str) == "text") = false by decide +kernel]; rfl
/-! ### a page is marked -/
abbrev markP (ps : List SPage) (i : Nat) (st : R7278g.Spec.State) : List SPage := ps.map fun q => if q.id == i then { q with state := st } else q
theorem markP_map (m : SMem) (i : Nat) (st : R7278g.Spec.State) (W : MWF m) : MWF { m with pages := markP m.pages i st } := map_wf W _ (fun p => by
  by_cases h : (p.id == i) = true
  · rw [if_pos h]
  · rw [if_neg h]) (fun p => by
  by_cases h : (p.id == i) = true
  · rw [if_pos h]
  · rw [if_neg h])
theorem markP_refs (L : Lay) (ps : List SPage) (i : Nat) (st : R7278g.Spec.State) : pgRefs L (markP ps i st) = pgRefs L ps := by
  unfold pgRefs markP
  rw [List.map_map]
  refine List.map_congr_left fun p _ => ?_
  show V.ref (L.ra (if (p.id == i) = true then _ else p).id) = V.ref (L.ra p.id)
  by_cases h : (p.id == i) = true
  · rw [if_pos h]
  · rw [if_neg h]
theorem MemAt.mark {H : Hp} {L : Lay} {m : SMem} (M : MemAt K A H L m) {p : SPage} (hp : p ∈ m.pages) {dx : Addr} (e : H (L.ra p.id) = some (.ins A.pag dx (pagF p.id p.group (stS p.state)))) (st : R7278g.Spec.State) :
    MemAt K A (upd H (L.ra p.id) (.ins A.pag dx (pagF p.id p.group (stS st)))) L { m with pages := markP m.pages p.id st } := by
  have na : ∀ {b o}, H b = some o → (∀ dx' i g s, o ≠ .ins A.pag dx' (pagF i g s)) → (upd H (L.ra p.id) (.ins A.pag dx (pagF p.id p.group (stS st)))) b = some o := fun {b o} h n => by
    rw [upd_ne fun z => by
      rw [z, e] at h
      exact n _ _ _ _ (Option.some.inj h).symm]
    exact h
  have own := na M.own (fun _ _ _ _ z => by cases z)
  refine ⟨⟨markP_map m p.id st M.wf, ?_, .inl own, fun g hg => ?_, fun g hg => ?_, ?_, fun q hq => ?_, ?_, M.inj⟩, own⟩
  · obtain ⟨sx, es⟩ := M.self
    exact ⟨sx, na es fun _ _ _ _ z => by injection z with _ _ z; exact mem_ne_pag z⟩
  · obtain ⟨gx, eg⟩ := M.grp g hg
    exact ⟨gx, na eg fun _ _ _ _ z => by injection z with _ _ z; exact pag_ne_grp z.symm⟩
  · obtain ⟨lx, el⟩ := M.lim g hg
    exact ⟨lx, na el fun _ _ _ _ z => by injection z with _ _ z; exact lim_ne_pag z⟩
  · show _ = some (HO.lst (pgRefs L (markP m.pages p.id st)))
    rw [markP_refs]
    exact na M.rows (fun _ _ _ _ z => by cases z)
  · obtain ⟨q0, hq0, eq⟩ := List.mem_map.mp hq
    by_cases h : (q0.id == p.id) = true
    · have hid : q0.id = p.id := by simpa using h
      rw [if_pos h] at eq
      rw [← eq]
      have : q0 = p := by
        obtain ⟨i, hi, ei⟩ := List.getElem_of_mem hq0
        obtain ⟨j, hj, ej⟩ := List.getElem_of_mem hp
        have hids := M.wf.ids
        by_cases hij : i = j
        · subst hij
          rw [← ei, ← ej]
        · exfalso
          have h1 : (m.pages.map (·.id))[i]'(by rw [List.length_map]; exact hi) = (m.pages.map (·.id))[j]'(by rw [List.length_map]; exact hj) := by
            rw [List.getElem_map, List.getElem_map, ei, ej, hid]
          rcases Nat.lt_or_gt_of_ne hij with hlt | hlt
          · exact List.pairwise_iff_getElem.mp hids i j (by rw [List.length_map]; exact hi) (by rw [List.length_map]; exact hj) hlt h1
          · exact List.pairwise_iff_getElem.mp hids j i (by rw [List.length_map]; exact hj) (by rw [List.length_map]; exact hi) hlt h1.symm
      rw [this]
      exact ⟨dx, upd_same⟩
    · rw [if_neg h] at eq
      rw [← eq]
      obtain ⟨qx, e2⟩ := M.page q0 hq0
      refine ⟨qx, ?_⟩
      rw [upd_ne fun z => h (by rw [M.ra_inj hq0 hp z]; exact beq_self_eq_true _)]
      exact e2
  · obtain ⟨ts, et, tt⟩ := M.tk
    refine ⟨ts, na et (fun _ _ _ _ z => by cases z), TkAt.same tt fun b xs h => ?_⟩
    rcases h with (h | ⟨o, h⟩) | h
    · exact .inl (.inl (na h (fun _ _ _ _ z => by cases z)))
    · exact .inl (.inr ⟨o, na h (fun _ _ _ _ z => by cases z)⟩)
    · exact .inr h
theorem Fp.pages {L : Lay} {m : SMem} {ps : List SPage} (h : ∀ p ∈ ps, ∃ q ∈ m.pages, p.id = q.id) {b : Addr} (hb : Fp L { m with pages := ps } b) : Fp L m b := by
  rcases hb with e | e | e | e | ⟨g, hg, e⟩ | ⟨p, hp, e⟩
  · exact .inl e
  · exact .inr (.inl e)
  · exact .inr (.inr (.inl e))
  · exact .inr (.inr (.inr (.inl e)))
  · exact .inr (.inr (.inr (.inr (.inl ⟨g, hg, e⟩))))
  · obtain ⟨q, hq, z⟩ := h p hp
    exact .inr (.inr (.inr (.inr (.inr ⟨q, hq, by rw [e, z]⟩))))
theorem markP_ids {ps : List SPage} {i : Nat} {st : R7278g.Spec.State} : ∀ p ∈ markP ps i st, ∃ q ∈ ps, p.id = q.id := fun p hp => by
  obtain ⟨q, hq, e⟩ := List.mem_map.mp hp
  refine ⟨q, hq, ?_⟩
  rw [← e]
  by_cases h : (q.id == i) = true
  · rw [if_pos h]
  · rw [if_neg h]
end Gm
end

section
set_option maxRecDepth 100000
set_option maxHeartbeats 8000000
/-! # Doors 5 to 10 -/
namespace Gm
open PySem PySem.Spec PyProof.Rows L2 L2G GmM
open R7278g.Spec (live kids chain under usage cleaned)
variable {P : Program} {w : World} {K : PySem.W.Frag} {mg : Str → Option Value} {base : Heap} {A : Ad} {f fI : Addr} {fd : FuncData}
def stateE (v : WVal) : Out R7278g.Spec.State :=
  if isTextW v (asc "plain") then .ok .plain else if isTextW v (asc "dirty") then .ok .dirty else if isTextW v (asc "locked") then .ok .locked else .error (1, "state must be plain, dirty, or locked")
def pagesW (d : Nat) (m : SMem) (args : List WVal) : Out (WVal × SMem) :=
  if d = 5 then bindE (numE "group" 0 100 (argW args 1)) fun g => bindE (numE "count" 1 1000 (argW args 2)) fun n => bindE (lift (m.alloc g n)) fun r => .ok (.int ((r.1 : Nat) : Int), r.2)
  else if d = 6 then bindE (numE "group" 0 100 (argW args 1)) fun g => bindE (numE "count" 0 2000 (argW args 2)) fun n => bindE (lift (m.reclaim g n)) fun r => .ok (.list ((r.1.map fun p => (p.id : Int)).map RWire.Value.int), r.2)
  else if d = 10 then bindE (numE "group" 0 100 (argW args 1)) fun g => bindE (lift (m.sync g)) fun r => .ok (.nothing, r)
  else bindE (numE "page" 1 1000000000 (argW args 1)) fun i =>
    if d = 7 then bindE (lift (m.free i)) fun r => .ok (.nothing, r)
    else if d = 8 then bindE (lift (m.touch i)) fun r => .ok (.nothing, r)
    else bindE (stateE (argW args 2)) fun st => bindE (lift (m.mark i st)) fun r => .ok (.nothing, r)
theorem intIn_le {a b n : Nat} {v : WVal} (h : intIn a b v = some n) : a ≤ n ∧ n ≤ b := by
  unfold intIn at h
  split at h
  · rename_i i
    by_cases hc : Int.ofNat a ≤ i ∧ i ≤ Int.ofNat b
    · rw [if_pos hc] at h
      have := Option.some.inj h
      have h1 : (a : Int) ≤ i := hc.1
      have h2 : i ≤ (b : Int) := hc.2
      omega
    · rw [if_neg hc] at h
      cases h
  · cases h
theorem cleaned_st (p : SPage) : (if decide (V.str (stS p.state) = V.str "dirty") = true then V.str "plain" else V.str (stS p.state)) = V.str (stS (cleaned p).state) := by
  obtain ⟨i, g, s⟩ := p
  cases s with
  | plain =>
    show (if decide (V.str "plain" = V.str "dirty") = true then _ else _) = _
    rw [show decide (V.str "plain" = V.str "dirty") = false by decide +kernel]
    rfl
  | dirty =>
    show (if decide (V.str "dirty" = V.str "dirty") = true then _ else _) = _
    rw [decide_eq_true rfl]
    rfl
  | locked =>
    show (if decide (V.str "locked" = V.str "dirty") = true then _ else _) = _
    rw [show decide (V.str "locked" = V.str "dirty") = false by decide +kernel]
    rfl
theorem cleaned_eq (p : SPage) : cleaned p = { p with state := (cleaned p).state } := by
  obtain ⟨i, g, s⟩ := p
  cases s <;> rfl
theorem ids_inj {m : SMem} (W : MWF m) {p q : SPage} (hp : p ∈ m.pages) (hq : q ∈ m.pages) (h : p.id = q.id) : p = q := by
  obtain ⟨i, hi, ei⟩ := List.getElem_of_mem hp
  obtain ⟨j, hj, ej⟩ := List.getElem_of_mem hq
  have hids := W.ids
  by_cases hij : i = j
  · subst hij
    rw [← ei, ← ej]
  · exfalso
    have h1 : (m.pages.map (·.id))[i]'(by rw [List.length_map]; exact hi) = (m.pages.map (·.id))[j]'(by rw [List.length_map]; exact hj) := by
      rw [List.getElem_map, List.getElem_map, ei, ej, h]
    rcases Nat.lt_or_gt_of_ne hij with hlt | hlt
    · exact List.pairwise_iff_getElem.mp hids i j (by rw [List.length_map]; exact hi) (by rw [List.length_map]; exact hj) hlt h1
    · exact List.pairwise_iff_getElem.mp hids j i (by rw [List.length_map]; exact hj) (by rw [List.length_map]; exact hi) hlt h1.symm
/-- the pages, those of these numbers cleaned -/
abbrev cleanP (ps : List SPage) (ids : List Nat) : List SPage := ps.map fun q => if q.id ∈ ids then cleaned q else q
theorem cleaned_id (p : SPage) : (cleaned p).id = p.id := by rw [cleaned_eq]
theorem cleaned_group (p : SPage) : (cleaned p).group = p.group := by rw [cleaned_eq]
theorem cleanP_step {m : SMem} (W : MWF m) {ids : List Nat} {p : SPage} (hp : p ∈ m.pages) (hn : p.id ∉ ids) : markP (cleanP m.pages ids) p.id (cleaned p).state = cleanP m.pages (ids ++ [p.id]) := by
  unfold markP cleanP
  rw [List.map_map]
  refine List.map_congr_left fun q hq => ?_
  show (if ((if q.id ∈ ids then cleaned q else q).id == p.id) = true then { (if q.id ∈ ids then cleaned q else q) with state := (cleaned p).state } else (if q.id ∈ ids then cleaned q else q)) = if q.id ∈ ids ++ [p.id] then cleaned q else q
  have hid : (if q.id ∈ ids then cleaned q else q).id = q.id := by
    by_cases h : q.id ∈ ids
    · rw [if_pos h, cleaned_id]
    · rw [if_neg h]
  rw [hid]
  by_cases e : q.id = p.id
  · have : q = p := ids_inj W hq hp e
    subst this
    rw [if_pos (by simp), if_neg hn, if_pos (by simp)]
    exact (cleaned_eq q).symm
  · rw [if_neg (by simpa using e)]
    by_cases h : q.id ∈ ids
    · rw [if_pos h, if_pos (List.mem_append_left _ h)]
    · rw [if_neg h, if_neg fun hm => (List.mem_append.mp hm).elim h fun z => e (List.mem_singleton.mp z)]
theorem ok_change_pages (F : Fun K "change_pages" "change_pages" s_change_pages f fd) (T : Txt K mg A) (h_number_in : GF P w K mg base (L2N.CX P w) 2 "number_in" ["value", "word", "low", "high"] (spNumIn K A)) (h_group_in : GF P w K mg base (L2N.CX P w) 3 "group_in" ["value"] (spGroupIn K A "group" 0 100))
    (h_page_in : GF P w K mg base (L2N.CX P w) 3 "page_in" ["value"] (spGroupIn K A "page" 1 1000000000)) (h_need_kind : GF P w K mg base (L2N.CX P w) 1 "need_kind" ["truth", "message"] (spNeed A 1)) (h_octets_of : GF P w K mg base CX0 1 "octets_of" ["word"] (spOctOf K))
    (h_v_int : GF P w K mg base CX0 1 "v_int" ["number"] (spVInt K)) (h_numbers_value : GF P w K mg base CX0 2 "numbers_value" ["pages"] (spNumsVal K A)) (h_Memory_alloc : GM P w K mg base (L2N.CX P w) 7 A.mem "alloc" ["self", "number", "count"] (spAlloc K A))
    (h_Memory_need_group : GM P w K mg base (L2N.CX P w) 2 A.mem "need_group" ["self", "number"] (spNeedG K A)) (h_Memory_choice : GM P w K mg base CX0 6 A.mem "choice" ["self", "needs"] (spChoice K A)) (h_Memory_take : GM P w K mg base (L2N.CX P w) 2 A.mem "take" ["self", "pages"] (spTake K A))
    (h_Memory_get_below : GM P w K mg base CX0 2 A.mem "get_below" ["self", "number"] (spGetBelow K A)) (h_Memory_free : GM P w K mg base (L2N.CX P w) 3 A.mem "free" ["self", "number"] (spFree K A)) (h_Memory_touch : GM P w K mg base (L2N.CX P w) 4 A.mem "touch" ["self", "number"] (spTouch K A))
    (h_Memory_get_page : GM P w K mg base (L2N.CX P w) 2 A.mem "get_page" ["self", "number"] (spGetPage K A)) :
    FnOk P w K mg base (L2N.CX P w) 8 f fd ["memory", "number", "arguments"] (fun vs H Q E => ∃ (L : Lay) (m : SMem) (d : Nat) (aa : Addr) (args : List WVal), vs = [.ref L.a, nV d, .ref aa] ∧ MemAt K A H L m ∧ 5 ≤ d ∧ d ≤ 10 ∧ ArgsAt K H aa args ∧ (if d = 5 ∨ d = 6 ∨ d = 9 then 3 else 2) ≤ args.length ∧ (datW (argW args 2)).depth ≤ 64 ∧ OutAt K A H L m E Q (pagesW d m args)) := by
  refine okN F sc_change_pages (fun vs H Q E h => ?_) (fun cdv A' outer s H vs Q E hr h => ⟨_, (pss_cons (ps_if (pt_cmpR op_eq (L2.pv 1) pe_int (nomark _)) (pss_cons (ps_set (i := 3) sc_change_pages.nd rfl (Or.inl rfl) (pe_gf h_group_in (hr.mono (by omega)) (passN (L2N.takes_of rfl rfl rfl rfl)) (pa_cons (pe_ix ix_list (L2.pv 2) pe_int (fun _ _ => rfl)) pa_nil)))
      (pss_one (ps_ret (pe_gf h_v_int (hr.mono (by omega)) pass0 (pa_cons (pe_gm h_Memory_alloc T.c_mem (hr.mono (by omega)) (passN (L2N.takes_of rfl rfl rfl rfl)) (L2.pv 0) (pa_cons (L2.pv 3) (pa_cons (pe_gf h_number_in (hr.mono (by omega)) (passN (L2N.takes_of rfl rfl rfl rfl)) (pa_cons (pe_ix ix_list (L2.pv 2) pe_int (fun _ _ => rfl)) (pa_cons pe_str (pa_cons pe_int (pa_cons pe_int pa_nil))))) pa_nil))) pa_nil))))) pss_nil)
      (pss_cons (ps_if (pt_cmpR op_eq (L2.pv 1) pe_int (nomark _)) (pss_cons (ps_set (i := 3) sc_change_pages.nd rfl (Or.inl rfl) (pe_gf h_group_in (hr.mono (by omega)) (passN (L2N.takes_of rfl rfl rfl rfl)) (pa_cons (pe_ix ix_list (L2.pv 2) pe_int (fun _ _ => rfl)) pa_nil)))
      (pss_cons (ps_set (i := 4) sc_change_pages.nd rfl (Or.inl rfl) (pe_gf h_number_in (hr.mono (by omega)) (passN (L2N.takes_of rfl rfl rfl rfl)) (pa_cons (pe_ix ix_list (L2.pv 2) pe_int (fun _ _ => rfl)) (pa_cons pe_str (pa_cons pe_int (pa_cons pe_int pa_nil))))))
      (pss_cons (ps_expr (pe_gm h_Memory_need_group T.c_mem (hr.mono (by omega)) (passN (L2N.takes_of rfl rfl rfl rfl)) (L2.pv 0) (pa_cons (L2.pv 3) pa_nil)))
      (pss_cons (ps_set (i := 5) sc_change_pages.nd rfl (Or.inl rfl) (pe_gm h_Memory_choice T.c_mem (hr.mono (by omega)) pass0 (L2.pv 0) (pa_cons (pe_disp (pps_cons (L2.pv 3) (L2.pv 4) pps_nil) (by rfl) (by rfl) (fun z => by cases z) (by decide)) pa_nil)))
      (pss_cons (ps_expr (pe_gm h_Memory_take T.c_mem (hr.mono (by omega)) (passN (L2N.takes_of rfl rfl rfl rfl)) (L2.pv 0) (pa_cons (L2.pv 5) pa_nil)))
      (pss_one (ps_ret (pe_gf h_numbers_value (hr.mono (by omega)) pass0 (pa_cons (L2.pv 5) pa_nil))))))))) pss_nil)
      (pss_cons (ps_if (pt_cmpR op_eq (L2.pv 1) pe_int (nomark _)) (pss_cons (ps_set (i := 3) sc_change_pages.nd rfl (Or.inl rfl) (pe_gf h_group_in (hr.mono (by omega)) (passN (L2N.takes_of rfl rfl rfl rfl)) (pa_cons (pe_ix ix_list (L2.pv 2) pe_int (fun _ _ => rfl)) pa_nil)))
      (pss_cons (ps_expr (pe_gm h_Memory_need_group T.c_mem (hr.mono (by omega)) (passN (L2N.takes_of rfl rfl rfl rfl)) (L2.pv 0) (pa_cons (L2.pv 3) pa_nil)))
      (pss_cons (ps_for (passes_of rfl) rfl (pi_list (pe_gm h_Memory_get_below T.c_mem (hr.mono (by omega)) pass0 (L2.pv 0) (pa_cons (L2.pv 3) pa_nil))) (pg_name (i := 6) sc_change_pages.nd rfl (Or.inl rfl)) (pss_one (ps_fld (L2.pv 6) (pe_ifExp (pt_cmpR op_eq (pe_fld (L2.pv 6) rfl) (pe_gl T.g_DIRTY) (nomark _)) (pe_gl T.g_PLAIN_memories) (pe_fld (L2.pv 6) rfl)) rfl)))
      (pss_one (ps_ret (pe_gl T.g_NOTHING)))))) pss_nil)
      (pss_cons (ps_set (i := 6) sc_change_pages.nd rfl (Or.inl rfl) (pe_gf h_page_in (hr.mono (by omega)) (passN (L2N.takes_of rfl rfl rfl rfl)) (pa_cons (pe_ix ix_list (L2.pv 2) pe_int (fun _ _ => rfl)) pa_nil)))
      (pss_cons (ps_if (pt_cmpR op_eq (L2.pv 1) pe_int (nomark _)) (pss_one (ps_expr (pe_gm h_Memory_free T.c_mem (hr.mono (by omega)) (passN (L2N.takes_of rfl rfl rfl rfl)) (L2.pv 0) (pa_cons (L2.pv 6) pa_nil)))) (pss_one (ps_if (pt_cmpR op_eq (L2.pv 1) pe_int (nomark _)) (pss_one (ps_expr (pe_gm h_Memory_touch T.c_mem (hr.mono (by omega)) (passN (L2N.takes_of rfl rfl rfl rfl)) (L2.pv 0) (pa_cons (L2.pv 6) pa_nil)))) (pss_cons (ps_setLc (i := 7) (own := [("word", 9)]) (g := (gName 9)) (tt := (tTest (tOp (rEqD K) (tOp (rIxL K) (tVar 2) _) (tTup (tCons _ (tCons (tCall _ [] _ (tCons (tVar 9) tNil)) tNil)))))) (te := (tVar 9)) rfl sc_change_pages.nd rfl rfl (sw_true rfl rfl rfl (by decide +kernel)) (pi_tup (pe_gl T.g_STATES)) (blkOk_by (N := N_change_pages) (sc := defScope s_change_pages) (by decide +kernel)) (fun _ _ _ _ _ => (pg_name (i := 9) sc_change_pages.nd rfl (Or.inl rfl))) (fun _ _ _ _ _ => (pts_one (pt_cmpR (op_eqD hr.units) (pe_ix ix_list (L2.pv 2) pe_int (fun _ _ => rfl)) (pe_tup (pa_cons pe_str (pa_cons (pe_gf h_octets_of (hr.mono (by omega)) pass0 (pa_cons (L2.pv 9) pa_nil)) pa_nil))) (nomark _)))) (fun _ _ _ _ _ => (L2.pv 9)))
      (pss_cons (ps_expr (pe_gf h_need_kind (hr.mono (by omega)) (passN (L2N.takes_of rfl rfl rfl rfl)) (pa_cons (pe_cmpR op_gt (pe_callB call_len_seq (by rfl) T.b_len PySem.boot_len (pa_cons (L2.pv 7) pa_nil)) pe_int (nomark _)) (pa_cons pe_str pa_nil))))
      (pss_cons (ps_set (i := 8) sc_change_pages.nd rfl (Or.inl rfl) (pe_gm h_Memory_get_page T.c_mem (hr.mono (by omega)) (passN (L2N.takes_of rfl rfl rfl rfl)) (L2.pv 0) (pa_cons (L2.pv 6) pa_nil)))
      (pss_one (ps_fld (L2.pv 8) (pe_ix ix_list (L2.pv 7) pe_int (fun _ _ => rfl)) rfl))))))))
      (pss_one (ps_ret (pe_gl T.g_NOTHING)))))))), ?_⟩)
  · obtain ⟨L, m, d, aa, args, rfl, _⟩ := h
    rfl
  · obtain ⟨L, m, d, aa, args, rfl, M, hd5, hd10, hA, hn, hdep, q⟩ := h
    have two : 2 ≤ args.length := by
      by_cases h3 : d = 5 ∨ d = 6 ∨ d = 9
      · rw [if_pos h3] at hn
        omega
      · rw [if_neg h3] at hn
        exact hn
    obtain ⟨x1, xs, ea, e1, v1⟩ := hA.get (i := 1) (by omega)
    have c5 : decide (nV d = V.int 5) = decide (d = 5) := @dec_nV d 5
    have c6 : decide (nV d = V.int 6) = decide (d = 6) := @dec_nV d 6
    have c7 : decide (nV d = V.int 7) = decide (d = 7) := @dec_nV d 7
    have c8 : decide (nV d = V.int 8) = decide (d = 8) := @dec_nV d 8
    have c10 : decide (nV d = V.int 10) = decide (d = 10) := @dec_nV d 10
    have ret : ∀ (r : SMem) H', (∀ y H2, Same H' H2 → VAt K H2 RWire.Value.nothing y → ∀ L', MemAt K A H' L' r → L'.a = L.a → Stp (Fp L m) H (Fp L' r) H' → Q y H2) → (∃ L', MemAt K A H' L' r ∧ L'.a = L.a ∧ Stp (Fp L m) H (Fp L' r) H') → Q (.ref A.tNOTHING) H' := fun r H' h ⟨L', a, b, c⟩ =>
      h _ H' (Same.refl _) (.nothing (T.q_NOTHING.at H')) L' a b c
    refine ⟨_, rfl, rfl, _, rfl, ?_⟩
    rw [c5]
    by_cases h5 : d = 5
    · subst h5
      have hn : 3 ≤ args.length := hn
      rw [decide_eq_true rfl]
      have q : OutAt K A H L m E Q (bindE (numE "group" 0 100 (argW args 1)) fun g => bindE (numE "count" 1 1000 (argW args 2)) fun n => bindE (lift (m.alloc g n)) fun r => .ok (.int ((r.1 : Nat) : Int), r.2)) := q
      refine iteT ⟨_, rfl, aa, _, 1, _, rfl, rfl, sq ea, atI_nat (j := 1) e1, x1, argW args 1, rfl, v1, num_of (fun g hg H1 s1 => ?_) (fun hg => ?_)⟩
      · rw [numE_ok hg] at q
        have q : OutAt K A H L m E Q (bindE (numE "count" 1 1000 (argW args 2)) fun n => bindE (lift (m.alloc g n)) fun r => .ok (.int ((r.1 : Nat) : Int), r.2)) := q
        obtain ⟨x2, xs2, ea2, e2, v2⟩ := hA.get (i := 2) (by omega)
        have M1 := M.mono s1
        refine ⟨_, rfl, M1.meth (by decide +kernel) ⟨_, rfl, _, rfl, aa, _, 2, _, rfl, rfl, sq (s1 _ _ ea2), atI_nat (j := 2) e2, x2, argW args 2, "count", 1, 1000, rfl, v2.mono s1, by decide +kernel, num_of (fun n hn' H2 s2 => ?_) (fun hn' => ?_)⟩⟩
        · rw [numE_ok hn'] at q
          have q : OutAt K A H L m E Q (bindE (lift (m.alloc g n)) fun r => .ok (.int ((r.1 : Nat) : Int), r.2)) := q
          have s3 := s1.trans s2
          refine ⟨L, m, g, n, rfl, M.mono s3, by have := intIn_le hn'; omega, ?_⟩
          refine opM_of s3 (X := fun _ => False) (fun b hb => hb.elim) q fun r H4 h4 ⟨L', hM, hL, st⟩ => ?_
          exact ⟨((r.1 : Nat) : Int), noF, rfl, trk_no _, fun x H5 s5 hx => h4 x H5 s5 (hx.mono (hid_un _ _)) L' hM hL st⟩
        · rw [numE_no hn'] at q
          exact Rais.mono q s1
      · rw [numE_no hg] at q
        exact q
    rw [decide_eq_false h5]
    refine iteF ⟨_, rfl, rfl, _, rfl, ?_⟩
    rw [c6]
    by_cases h6 : d = 6
    · subst h6
      have hn : 3 ≤ args.length := hn
      rw [decide_eq_true rfl]
      have q : OutAt K A H L m E Q (bindE (numE "group" 0 100 (argW args 1)) fun g => bindE (numE "count" 0 2000 (argW args 2)) fun n => bindE (lift (m.reclaim g n)) fun r => .ok (.list ((r.1.map fun p => (p.id : Int)).map RWire.Value.int), r.2)) := q
      refine iteT ⟨_, rfl, aa, _, 1, _, rfl, rfl, sq ea, atI_nat (j := 1) e1, x1, argW args 1, rfl, v1, num_of (fun g hg H1 s1 => ?_) (fun hg => ?_)⟩
      rotate_left
      · rw [numE_no hg] at q
        exact q
      rw [numE_ok hg] at q
      have q : OutAt K A H L m E Q (bindE (numE "count" 0 2000 (argW args 2)) fun n => bindE (lift (m.reclaim g n)) fun r => .ok (.list ((r.1.map fun p => (p.id : Int)).map RWire.Value.int), r.2)) := q
      obtain ⟨x2, xs2, ea2, e2, v2⟩ := hA.get (i := 2) (by omega)
      refine ⟨_, rfl, aa, _, 2, _, rfl, rfl, sq (s1 _ _ ea2), atI_nat (j := 2) e2, x2, argW args 2, "count", 0, 2000, rfl, v2.mono s1, by decide +kernel, num_of (fun n hn' H2 s2 => ?_) (fun hn' => ?_)⟩
      rotate_left
      · rw [numE_no hn'] at q
        exact Rais.mono q s1
      rw [numE_ok hn'] at q
      have q : OutAt K A H L m E Q (bindE (lift (m.reclaim g n)) fun r => .ok (.list ((r.1.map fun p => (p.id : Int)).map RWire.Value.int), r.2)) := q
      have s3 := s1.trans s2
      have M3 := M.mono s3
      refine ⟨_, rfl, M3.meth (by decide +kernel) ⟨_, rfl, L, m, g, rfl, M3, fun lg => ?_, fun lg => ?_⟩⟩
      rotate_left
      · have e : m.reclaim g n = .error (R7278g.Spec.rangeErr "there is no such group") := by
          unfold R7278g.Spec.Mem.reclaim
          rw [group_no lg]
          rfl
        rw [e] at q
        have q : Rais A H E 2 (strU (R7278g.Spec.units "there is no such group")) := q
        rw [str_no_group] at q
        exact Rais.mono q s3
      have e0 : m.reclaim g n = match m.pick [(g, n)] with
          | some l => .ok (l, m.take l)
          | none => .error (R7278g.Spec.rangeErr "out of memory") := by
        unfold R7278g.Spec.Mem.reclaim
        rw [group_ok lg]
        rfl
      rw [e0] at q
      refine ⟨_, rfl, M3.meth (by decide +kernel) (fun dd hdd => ?_)⟩
      refine ⟨_, rfl, _, rfl, upd_same, kvF [g] (fun _ => nV n), rfl, by show 1 ≤ 15; decide, ?_⟩
      rw [kvF_merge (by simp), upd_upd]
      have s4 : Same H (upd H2 dd (.dK (kvF [g] fun _ => nV n))) := s3.trans (Same.new hdd)
      refine ⟨L, m, dd, [g], (fun _ => n), rfl, M.mono s4, upd_same, by simp, by show 1 ≤ 40; decide, ?_⟩
      have epk : m.pick (needL [g] fun _ => n) = m.pick [(g, n)] := rfl
      rw [epk]
      cases hpk : m.pick [(g, n)] with
      | none =>
        rw [hpk] at q
        have q : Rais A H E 2 (strU (R7278g.Spec.units "out of memory")) := q
        rw [str_memory] at q
        intro H5 s5
        have M5 := M.mono (s4.trans s5)
        exact ⟨_, rfl, M5.meth (by decide +kernel) ⟨_, rfl, L, m, .non, rfl, M5, .inl ⟨rfl, Rais.mono q (s4.trans s5)⟩⟩⟩
      | some l =>
        rw [hpk] at q
        have q : ∀ x L' H', MemAt K A H' L' (m.take l) → L'.a = L.a → Stp (Fp L m) H (Fp L' (m.take l)) H' → VAt K H' (.list ((l.map fun p => (p.id : Int)).map RWire.Value.int)) x → Q x H' := q
        intro lp H5 s5 hlp0 hlp
        have s6 := s4.trans s5
        have M5 := M.mono s6
        have hsub := pick_order hpk
        refine ⟨_, rfl, M5.meth (by decide +kernel) ⟨_, rfl, L, m, .ref lp, rfl, M5, .inr ⟨lp, l, rfl, hlp, hsub, fun ar' tk' H6 M6 k6 har htk _ => ?_⟩⟩⟩
        have har0 := s6.free har
        have htk0 := s6.free htk
        have k0 : ∀ b o, b ≠ L.a → H b = some o → H6 b = some o := fun b o hb e => k6 b o hb (s6 b o e)
        have nlp : lp ≠ L.a := fun z => by
          obtain ⟨sx, es⟩ := M5.self
          rw [z, es] at hlp
          cases hlp
        refine ⟨_, rfl, lp, L, l, noF, rfl, k6 _ _ nlp hlp, fun p hp => M.pageS (fun b o h1 _ e => k0 b o h1 e) (hsub.subset hp), Nat.le_trans hsub.length_le M.wf.np, trk_no _, fun x H7 s7 hx => ?_⟩
        refine q x { L with ar := ar', tk := tk' } H7 (M6.mono s7) rfl ⟨fun b o e nb => s7 _ _ (k0 b o (fun z => nb (z ▸ Fp.self)) e), fun b hb => ?_⟩ (hx.mono (hid_un _ _))
        exact Fp.rows' (L := L) (L' := { L with ar := ar', tk := tk' }) (m := m) (m' := m.take l) (H := H) rfl rfl rfl rfl rfl (.inr har0) (.inr htk0) (fun p hp => .inl ⟨p, (List.mem_filter.mp hp).1, rfl⟩) hb
    rw [decide_eq_false h6]
    refine iteF ⟨_, rfl, rfl, _, rfl, ?_⟩
    rw [c10]
    by_cases h10 : d = 10
    · subst h10
      rw [decide_eq_true rfl]
      have q : OutAt K A H L m E Q (bindE (numE "group" 0 100 (argW args 1)) fun g => bindE (lift (m.sync g)) fun r => .ok (.nothing, r)) := q
      refine iteT ⟨_, rfl, aa, _, 1, _, rfl, rfl, sq ea, atI_nat (j := 1) e1, x1, argW args 1, rfl, v1, num_of (fun g hg H1 s1 => ?_) (fun hg => ?_)⟩
      rotate_left
      · rw [numE_no hg] at q
        exact q
      rw [numE_ok hg] at q
      have q : OutAt K A H L m E Q (bindE (lift (m.sync g)) fun r => .ok (.nothing, r)) := q
      have M1 := M.mono s1
      refine ⟨_, rfl, M1.meth (by decide +kernel) ⟨_, rfl, L, m, g, rfl, M1, fun lg => ?_, fun lg => ?_⟩⟩
      rotate_left
      · have e : m.sync g = .error (R7278g.Spec.rangeErr "there is no such group") := by
          unfold R7278g.Spec.Mem.sync
          rw [group_no lg]
          rfl
        rw [e] at q
        have q : Rais A H E 2 (strU (R7278g.Spec.units "there is no such group")) := q
        rw [str_no_group] at q
        exact Rais.mono q s1
      have e0 : m.sync g = .ok { m with pages := m.pages.map fun p => if under m.groups g p.group then cleaned p else p } := by
        unfold R7278g.Spec.Mem.sync
        rw [group_ok lg]
        rfl
      rw [e0] at q
      have q : ∀ x L' H', MemAt K A H' L' { m with pages := m.pages.map fun p => if under m.groups g p.group then cleaned p else p } → L'.a = L.a → Stp (Fp L m) H (Fp L' { m with pages := m.pages.map fun p => if under m.groups g p.group then cleaned p else p }) H' → VAt K H' .nothing x → Q x H' := q
      refine ⟨_, rfl, M1.meth (by decide +kernel) ⟨_, rfl, L, m, g, rfl, M1, fun c H2 s2 hc0 hc => ?_⟩⟩
      have s3 := s1.trans s2
      have M2 := M.mono s3
      generalize hfl : m.pages.filter (fun p => under m.groups g p.group) = fl at *
      have hsub : fl.Sublist m.pages := by rw [← hfl]; exact List.filter_sublist
      have hids : (fl.map (·.id)).Nodup := List.Pairwise.sublist (hsub.map _) M.wf.ids
      refine ⟨c, rfl, ⟨_, sq hc⟩, for_goes (l := fl) (goes_list (h := fun p => V.ref (L.ra p.id))) (fun i σ H' => ∃ x6, σ = [some (.ref L.a), some (nV 10), some (.ref aa), some (nV g), none, none, x6, none, none, none] ∧ MemAt K A H' L { m with pages := cleanP m.pages ((fl.take i).map (·.id)) } ∧
        (∀ b o, ¬ Fp L m b → H b = some o → H' b = some o) ∧ H' c = some (.lst (pgRefs L fl))) ?_ ?_ ?_ ?_⟩
      · refine ⟨_, rfl, ?_, fun b o _ e => s3 b o e, hc⟩
        have : cleanP m.pages ((fl.take 0).map (·.id)) = m.pages := by
          unfold cleanP
          rw [List.take_zero, List.map_nil]
          have : (fun q : SPage => if q.id ∈ ([] : List Nat) then cleaned q else q) = id := by
            funext q
            rw [if_neg (by simp)]
            rfl
          rw [this, List.map_id]
        rw [this]
        exact M2
      · rintro i σ H' ⟨x6, rfl, _, _, hc'⟩
        exact sq hc'
      · rintro i p v σ H4 H4' hi ⟨x6, rfl, M4, k4, hc4⟩ se hv
        subst hv
        have hpm := hsub.subset (List.mem_of_getElem? hi)
        have M5 := M4.mono se
        have hn : p.id ∉ (fl.take i).map (·.id) := fun hm => by
          rw [List.map_take, List.mem_take_iff_getElem] at hm
          obtain ⟨j, hj, ej⟩ := hm
          obtain ⟨hi', ei⟩ := List.getElem?_eq_some_iff.mp hi
          rw [List.length_map] at hj
          have e2 : (fl.map (·.id))[i]'(by rw [List.length_map]; exact hi') = p.id := by rw [List.getElem_map, ei]
          exact List.pairwise_iff_getElem.mp hids j i (by rw [List.length_map]; omega) (by rw [List.length_map]; exact hi') (by omega) (by rw [ej, e2])
        have hpm' : p ∈ cleanP m.pages ((fl.take i).map (·.id)) := List.mem_map.mpr ⟨p, hpm, by rw [if_neg hn]⟩
        obtain ⟨dx, ep⟩ := M5.page p hpm'
        have fin : ∀ (D : Ends), (∀ σ' H', (∃ x6, σ' = [some (.ref L.a), some (nV 10), some (.ref aa), some (nV g), none, none, x6, none, none, none] ∧ MemAt K A H' L { m with pages := cleanP m.pages ((fl.take (i + 1)).map (·.id)) } ∧
            (∀ b o, ¬ Fp L m b → H b = some o → H' b = some o) ∧ H' c = some (.lst (pgRefs L fl))) → D.nx σ' H') →
            sFld K (tVar 6) (fun _ H Q => Q (V.str (stS (cleaned p).state)) H) "state" D [some (.ref L.a), some (nV 10), some (.ref aa), some (nV g), none, none, some (.ref (L.ra p.id)), none, none, none] H4' := by
          intro D hD
          refine ⟨_, rfl, at_sfld ep T.c_pag T.n_pag_state (by show 3 < 1000; decide) ?_⟩
          rw [pagF_put_state]
          have M6 := M5.mark hpm' ep (cleaned p).state
          rw [show ({ m with pages := cleanP m.pages ((fl.take i).map (·.id)) } : SMem).pages = cleanP m.pages ((fl.take i).map (·.id)) from rfl, cleanP_step M.wf hpm hn] at M6
          refine hD _ _ ⟨_, rfl, ?_, fun b o nb e => ?_, ?_⟩
          · rw [take_snoc hi, List.map_append]
            exact M6
          · rw [upd_ne fun z => nb (by rw [z]; exact Fp.ra hpm)]
            exact se _ _ (k4 b o nb e)
          · have hc5 := se _ _ hc4
            rw [upd_ne fun z => by rw [z, ep] at hc5; cases hc5]
            exact hc5
        refine ⟨_, rfl, at_fld ep T.c_pag T.n_pag_state (pagF_state ..) ⟨rfl, _, rfl, ?_⟩⟩
        have cst := cleaned_st p
        by_cases hdt : decide (V.str (stS p.state) = V.str "dirty") = true
        · rw [if_pos hdt] at cst
          rw [hdt]
          refine iteT ?_
          rw [cst]
          exact fin _ fun _ _ h => h
        · have hdt' : decide (V.str (stS p.state) = V.str "dirty") = false := by simpa using hdt
          rw [if_neg hdt] at cst
          rw [hdt']
          refine iteF ⟨_, rfl, at_fld ep T.c_pag T.n_pag_state (pagF_state ..) ?_⟩
          rw [cst]
          exact fin _ fun _ _ h => h
      · rintro σ H4 ⟨x6, rfl, M4, k4, _⟩
        rw [List.take_length] at M4
        have epg : cleanP m.pages (fl.map (·.id)) = m.pages.map fun p => if under m.groups g p.group then cleaned p else p := by
          unfold cleanP
          refine List.map_congr_left fun p hp => ?_
          have : (p.id ∈ fl.map (·.id)) ↔ under m.groups g p.group = true := by
            rw [List.mem_map]
            constructor
            · rintro ⟨r, hr, e⟩
              have hr' := hr
              rw [← hfl] at hr'
              obtain ⟨h1, h2⟩ := List.mem_filter.mp hr'
              rw [ids_inj M.wf hp h1 e.symm]
              exact h2
            · intro h
              exact ⟨p, by rw [← hfl]; exact List.mem_filter.mpr ⟨hp, h⟩, rfl⟩
          by_cases h : under m.groups g p.group = true
          · rw [if_pos (this.mpr h), if_pos h]
          · rw [if_neg fun z => h (this.mp z), if_neg h]
        rw [epg] at M4
        refine q _ L H4 M4 rfl ⟨fun b o e nb => k4 b o nb e, fun b hb => .inl (Fp.pages (fun p hp => ?_) hb)⟩ (.nothing (T.q_NOTHING.at H4))
        obtain ⟨r, hr, e⟩ := List.mem_map.mp hp
        refine ⟨r, hr, ?_⟩
        rw [← e]
        by_cases h : under m.groups g r.group = true
        · rw [if_pos h, cleaned_id]
        · rw [if_neg h]
    rw [decide_eq_false h10]
    have q : OutAt K A H L m E Q (bindE (numE "page" 1 1000000000 (argW args 1)) fun i =>
        if d = 7 then bindE (lift (m.free i)) fun r => .ok (.nothing, r)
        else if d = 8 then bindE (lift (m.touch i)) fun r => .ok (.nothing, r)
        else bindE (stateE (argW args 2)) fun st => bindE (lift (m.mark i st)) fun r => .ok (.nothing, r)) := by
      unfold pagesW at q
      rw [if_neg h5, if_neg h6, if_neg h10] at q
      exact q
    refine iteF ⟨_, rfl, aa, _, 1, _, rfl, rfl, sq ea, atI_nat (j := 1) e1, x1, argW args 1, rfl, v1, num_of (fun i hi H1 s1 => ?_) (fun hi => ?_)⟩
    rotate_left
    · rw [numE_no hi] at q
      exact q
    rw [numE_ok hi] at q
    have M1 := M.mono s1
    refine ⟨_, rfl, rfl, _, rfl, ?_⟩
    rw [c7]
    have noPage : m.page i = none → m.pageOf i = .error (R7278g.Spec.rangeErr "there is no such page") := fun h => by
      unfold R7278g.Spec.Mem.pageOf
      rw [h]
      rfl
    have isPage : ∀ p, m.page i = some p → m.pageOf i = .ok p := fun p h => by
      unfold R7278g.Spec.Mem.pageOf
      rw [h]
    by_cases h7 : d = 7
    · subst h7
      rw [decide_eq_true rfl]
      have q : OutAt K A H L m E Q (bindE (lift (m.free i)) fun r => .ok (.nothing, r)) := q
      refine iteT ⟨_, rfl, M1.meth (by decide +kernel) ⟨_, rfl, L, m, i, rfl, M1, ?_⟩⟩
      cases hp : m.page i with
      | none =>
        have e : m.free i = .error (R7278g.Spec.rangeErr "there is no such page") := by
          unfold R7278g.Spec.Mem.free
          rw [noPage hp]
          rfl
        rw [e] at q
        have q : Rais A H E 2 (strU (R7278g.Spec.units "there is no such page")) := q
        rw [str_no_page] at q
        exact Rais.mono q s1
      | some p =>
        have e : m.free i = .ok { m with pages := m.pages.filter fun p => p.id != i } := by
          unfold R7278g.Spec.Mem.free
          rw [isPage p hp]
          rfl
        rw [e] at q
        have q : ∀ x L' H', MemAt K A H' L' { m with pages := m.pages.filter fun p => p.id != i } → L'.a = L.a → Stp (Fp L m) H (Fp L' { m with pages := m.pages.filter fun p => p.id != i }) H' → VAt K H' .nothing x → Q x H' := q
        intro ar' H2 M2 k2 har
        refine q _ { L with ar := ar' } H2 M2 rfl ⟨fun b o e nb => k2 b o (fun z => nb (z ▸ Fp.self)) (s1 b o e), fun b hb => ?_⟩ (.nothing (T.q_NOTHING.at H2))
        exact Fp.rows' (L := L) (L' := { L with ar := ar' }) (m := m) (m' := { m with pages := m.pages.filter fun p => p.id != i }) (H := H) rfl rfl rfl rfl rfl (.inr (s1.free har)) (.inl rfl) (fun p hp => .inl ⟨p, (List.mem_filter.mp hp).1, rfl⟩) hb
    rw [decide_eq_false h7]
    refine iteF ⟨_, rfl, rfl, _, rfl, ?_⟩
    rw [c8]
    by_cases h8 : d = 8
    · subst h8
      rw [decide_eq_true rfl]
      have q : OutAt K A H L m E Q (bindE (lift (m.touch i)) fun r => .ok (.nothing, r)) := q
      refine iteT ⟨_, rfl, M1.meth (by decide +kernel) ⟨_, rfl, L, m, i, rfl, M1, ?_⟩⟩
      cases hp : m.page i with
      | none =>
        have e : m.touch i = .error (R7278g.Spec.rangeErr "there is no such page") := by
          unfold R7278g.Spec.Mem.touch
          rw [noPage hp]
          rfl
        rw [e] at q
        have q : Rais A H E 2 (strU (R7278g.Spec.units "there is no such page")) := q
        rw [str_no_page] at q
        exact Rais.mono q s1
      | some p =>
        obtain ⟨hpm, _⟩ := page_mem hp
        have e : m.touch i = .ok { m with pages := m.pages.filter (fun p => p.id != i) ++ [p] } := by
          unfold R7278g.Spec.Mem.touch
          rw [isPage p hp]
          rfl
        rw [e] at q
        have q : ∀ x L' H', MemAt K A H' L' { m with pages := m.pages.filter (fun p => p.id != i) ++ [p] } → L'.a = L.a → Stp (Fp L m) H (Fp L' { m with pages := m.pages.filter (fun p => p.id != i) ++ [p] }) H' → VAt K H' .nothing x → Q x H' := q
        intro ar' H2 M2 k2 har
        refine q _ { L with ar := ar' } H2 M2 rfl ⟨fun b o e nb => k2 b o (fun z => nb (z ▸ Fp.self)) (s1 b o e), fun b hb => ?_⟩ (.nothing (T.q_NOTHING.at H2))
        refine Fp.rows' (L := L) (L' := { L with ar := ar' }) (m := m) (m' := { m with pages := m.pages.filter (fun p => p.id != i) ++ [p] }) (H := H) rfl rfl rfl rfl rfl (.inr (s1.free har)) (.inl rfl) (fun r hr => .inl ?_) hb
        rcases List.mem_append.mp hr with z | z
        · exact ⟨r, (List.mem_filter.mp z).1, rfl⟩
        · rw [List.mem_singleton.mp z]
          exact ⟨p, hpm, rfl⟩
    rw [decide_eq_false h8]
    have h9 : d = 9 := by omega
    subst h9
    have hn : 3 ≤ args.length := hn
    have q : OutAt K A H L m E Q (bindE (stateE (argW args 2)) fun st => bindE (lift (m.mark i st)) fun r => .ok (.nothing, r)) := q
    obtain ⟨x2, xs2, ea2, e2, v2⟩ := hA.get (i := 2) (by omega)
    refine iteF ?_
    refine ⟨A.tSTATES, rfl, ⟨_, T.q_STATES.at H1⟩, fun D hD => ?_⟩
    refine lc_flat (l := [("plain" : Str), "dirty", "locked"]) (goes_tup (h := V.str)) hD (fun H' e => T.q_STATES.at H') (fun w => isTextW (argW args 2) (asc w)) V.str (by decide) (fun j w v H2 hw s2 hv N Y h1 h2 => ?_) (fun H2 s2 e => ?_)
    · subst hv
      have wok : okA w = true ∧ w.cps.toList.length ≤ 1000 := by
        have hm : w ∈ [("plain" : Str), "dirty", "locked"] := List.mem_of_getElem? hw
        have : [("plain" : Str), "dirty", "locked"].all (fun w => okA w && decide (w.cps.toList.length ≤ 1000)) = true := by decide +kernel
        have := List.all_eq_true.mp this w hm
        simp only [Bool.and_eq_true, decide_eq_true_eq] at this
        exact this
      have s3 := s1.trans s2
      refine ⟨rfl, _, rfl, aa, _, 2, _, rfl, rfl, sq (s3 _ _ ea2), atI_nat (j := 2) e2, ?_⟩
      refine ⟨_, rfl, w, rfl, wok.1, wok.2, fun p H3 s4 hp0 hp => ?_⟩
      refine ⟨by show 2 ≤ sizeLine; decide, fun t ht => ?_⟩
      have s5 := s4.trans (Same.new (o := .tup [.str "text", .ref p]) ht)
      refine ⟨datW (argW args 2), textD (asc w), (v2.mono (s3.trans s5)).dp, .tup (.inl (.inl upd_same)) (.cons (.str _) (.cons (dp_octs (.inl (.inl ((Same.new ht) _ _ hp)))) .nil)), datW_shaped hdep, textD_shaped _, _, rfl, ?_⟩
      rw [datW_text (v2.mono (s3.trans s5))]
      exact iteB (fun e => ⟨_, rfl, h2 e _ s5⟩) (fun e => h1 e _ s5)
    · have s3 := s1.trans s2
      have M2 := M.mono s3
      have len0 : ∀ l : List Str, decide ((0 : Int) < (((l.map V.str).length : Nat) : Int)) = !l.isEmpty := fun l => by
        rw [List.length_map]
        cases l <;> simp
      refine ⟨_, rfl, D, _, rfl, .inl (sq e), _, _, rfl, rfl, ?_⟩
      have st : (([("plain" : Str), "dirty", "locked"].filter fun w => isTextW (argW args 2) (asc w)) = [] ∧ stateE (argW args 2) = .error (1, "state must be plain, dirty, or locked")) ∨
          ∃ s, (∃ r, ([("plain" : Str), "dirty", "locked"].filter fun w => isTextW (argW args 2) (asc w)) = stS s :: r) ∧ stateE (argW args 2) = .ok s := by
        unfold stateE
        cases h1 : isTextW (argW args 2) (asc "plain") with
        | true => exact .inr ⟨.plain, ⟨_, by rw [List.filter_cons, if_pos h1]; rfl⟩, rfl⟩
        | false =>
          cases h2 : isTextW (argW args 2) (asc "dirty") with
          | true => exact .inr ⟨.dirty, ⟨_, by rw [List.filter_cons, if_neg (by rw [h1]; decide), List.filter_cons, if_pos h2]; rfl⟩, rfl⟩
          | false =>
            cases h3 : isTextW (argW args 2) (asc "locked") with
            | true => exact .inr ⟨.locked, ⟨_, by rw [List.filter_cons, if_neg (by rw [h1]; decide), List.filter_cons, if_neg (by rw [h2]; decide), List.filter_cons, if_pos h3]; rfl⟩, rfl⟩
            | false => exact .inl ⟨by rw [List.filter_cons, if_neg (by rw [h1]; decide), List.filter_cons, if_neg (by rw [h2]; decide), List.filter_cons, if_neg (by rw [h3]; decide)]; rfl, rfl⟩
      rcases st with ⟨hl, hs⟩ | ⟨st, ⟨r, hl⟩, hs⟩
      · rw [hs] at q
        rw [hl]
        exact ⟨_, _, rfl, (fun h => by cases h), fun _ => Rais.mono q s3⟩
      · rw [hs] at q
        have q : OutAt K A H L m E Q (bindE (lift (m.mark i st)) fun r => .ok (.nothing, r)) := q
        rw [hl] at e ⊢
        refine ⟨_, _, rfl, fun _ => ?_, fun h => ?_⟩
        rotate_left
        · have := of_decide_eq_false h
          rw [List.map_cons, List.length_cons] at this
          exact absurd (show (0 : Int) < (((r.map V.str).length + 1 : Nat) : Int) by omega) this
        refine ⟨_, rfl, M2.meth (by decide +kernel) ⟨_, rfl, L, m, i, rfl, M2, ?_⟩⟩
        cases hp : m.page i with
        | none =>
          have e : m.mark i st = .error (R7278g.Spec.rangeErr "there is no such page") := by
            unfold R7278g.Spec.Mem.mark
            rw [noPage hp]
            rfl
          rw [e] at q
          have q : Rais A H E 2 (strU (R7278g.Spec.units "there is no such page")) := q
          rw [str_no_page] at q
          exact Rais.mono q s3
        | some p =>
          obtain ⟨hpm, hpi⟩ := page_mem hp
          have em : m.mark i st = .ok { m with pages := markP m.pages i st } := by
            unfold R7278g.Spec.Mem.mark
            rw [isPage p hp]
            rfl
          rw [em] at q
          have q : ∀ x L' H', MemAt K A H' L' { m with pages := markP m.pages i st } → L'.a = L.a → Stp (Fp L m) H (Fp L' { m with pages := markP m.pages i st }) H' → VAt K H' .nothing x → Q x H' := q
          intro H3 s4
          have s5 := s3.trans s4
          have M3 := M.mono s5
          obtain ⟨dx, ep⟩ := M3.page p hpm
          refine ⟨_, rfl, D, _, 0, _, rfl, rfl, sq (s4 _ _ e), atI_nat (j := 0) rfl, _, rfl, at_sfld ep T.c_pag T.n_pag_state (by show 3 < 1000; decide) ?_⟩
          rw [pagF_put_state]
          have M4 := M3.mark hpm ep st
          rw [hpi] at M4
          refine q _ L _ (by rw [hpi]; exact M4) rfl ⟨fun b o e nb => ?_, fun b hb => .inl (Fp.pages markP_ids hb)⟩ (.nothing (T.q_NOTHING.at _))
          rw [upd_ne fun z => nb (by rw [z]; exact Fp.ra hpm)]
          exact s5 b o e
end Gm
end

section
set_option maxRecDepth 100000
set_option maxHeartbeats 8000000
/-! # Doors 11 to 15 -/
namespace Gm
open PySem PySem.Spec PyProof.Rows L2 L2G GmM
open R7278g.Spec (live kids chain under usage cleaned)
variable {P : Program} {w : World} {K : PySem.W.Frag} {mg : Str → Option Value} {base : Heap} {A : Ad} {f fI : Addr} {fd : FuncData}
/-- a record of two -/
theorem rec2 {F : Addr → Prop} {t1 t2 : TE} {σ : L2.St} {H : Hp} {Q : VK} {w1 w2 : Str} {v1 v2 : WVal} (ht : Trk F H) (hw : okA w1 = true ∧ w1.cps.toList.length ≤ 1000 ∧ okA w2 = true ∧ w2.cps.toList.length ≤ 1000)
    (h1 : ∀ Q1 : VK, (∀ x H', Same H H' → VAt K (hid F H') v1 x → Q1 x H') → t1 σ H Q1) (h2 : ∀ H', Same H H' → ∀ Q1 : VK, (∀ x H2, Same H' H2 → VAt K (hid F H2) v2 x → Q1 x H2) → t2 σ H' Q1) (q : VRet K F H Q (recV [(w1, v1), (w2, v2)])) :
    tCall (spVRec K) [] E0 (tCons (tLst (tCons (tTup (tCons (tC (.str w1)) (tCons t1 tNil))) (tCons (tTup (tCons (tC (.str w2)) (tCons t2 tNil))) tNil))) tNil) σ H Q := by
  refine h1 _ fun x1 H1 s1 hx1 => ⟨by show 2 ≤ sizeLine; decide, fun a1 ha1 => ?_⟩
  have s2 : Same H (upd H1 a1 (.tup [.str w1, x1])) := s1.trans (Same.new ha1)
  have e1 := hid_newT (K := K) (ht.mono s1) ha1 (upd_same (H := H1) (a := a1) (o := .tup [.str w1, x1]))
  have hx1 := hx1.mono (hid_same (Same.new (o := .tup [.str w1, x1]) ha1))
  generalize (upd H1 a1 (.tup [.str w1, x1])) = H2 at *
  refine h2 H2 s2 _ fun x2 H3 s3 hx2 => ⟨by show 2 ≤ sizeLine; decide, fun a2 ha2 => ?_⟩
  have s4' : Same H2 (upd H3 a2 (.tup [.str w2, x2])) := s3.trans (Same.new ha2)
  have s4 := s2.trans s4'
  have e2 := hid_newT (K := K) (ht.mono (s2.trans s3)) ha2 (upd_same (H := H3) (a := a2) (o := .tup [.str w2, x2]))
  have hx2 := hx2.mono (hid_same (Same.new (o := .tup [.str w2, x2]) ha2))
  have e1 := (hid_same s4').tup e1
  have hx1 := hx1.mono (hid_same s4')
  generalize (upd H3 a2 (.tup [.str w2, x2])) = H4 at *
  refine ⟨by show 2 ≤ sizeLine; decide, fun d hd => ?_⟩
  have s5 := Same.new (o := .lst [.ref a1, .ref a2]) hd
  have s5h := hid_same (F := F) s5
  refine ⟨d, _, [(w1, v1), (w2, v2)], F, rfl, upd_same, .cons (s5h.tup e1) (hx1.mono s5h) (.cons (s5h.tup e2) (hx2.mono s5h) .nil), by show 2 ≤ 100; decide, ?_, ht.mono (s4.trans s5), fun x H' s6 hv => q x H' ((s4.trans s5).trans s6) hv⟩
  intro e he
  rcases List.mem_cons.mp he with rfl | he
  · exact ⟨hw.1, hw.2.1⟩
  · rcases List.mem_cons.mp he with rfl | he
    · exact ⟨hw.2.2.1, hw.2.2.2⟩
    · cases he
def pagesV (ps : List SPage) : WVal := .list (ps.map fun p => pgV p.id p.group (stS p.state))
def askW (d : Nat) (m : SMem) (args : List WVal) : Out WVal :=
  if d = 14 then .ok (.list (m.taken.map fun e => recV [("page", .int ((e.1 : Nat) : Int)), ("group", .int ((e.2 : Nat) : Int))]))
  else if d = 15 then .ok (recV [("groups", .int (((liveL m.groups).length : Nat) : Int)), ("pages", .int ((m.pages.length : Nat) : Int))])
  else bindE (numE "group" 0 100 (argW args 1)) fun g =>
    if d = 11 then bindE (numE "count" 1 1000 (argW args 2)) fun n => bindE (lift (m.group g)) fun _ => .ok (match m.plan g n with
      | some l => .list ((l.map fun p => (p.id : Int)).map RWire.Value.int)
      | none => .null)
    else if d = 12 then bindE (lift (m.group g)) fun _ => .ok (grpV m g)
    else bindE (lift (m.group g)) fun _ => .ok (pagesV (m.pages.filter fun p => under m.groups g p.group))
def OutV (K : PySem.W.Frag) (A : Ad) (H : Hp) (E : XK) (Q : VK) (o : Out WVal) : Prop := match o with
  | .error e => Rais A H E e.1 e.2
  | .ok v => VRet0 K H Q v
theorem pagesV_rows {H1 : Hp} {L : Lay} {ps : List SPage} {D c : Addr} {Qd : Hp → Prop} {te : TE} {g : TG} {vs : List Nat} {σ : L2.St} {F : Addr → Prop} (hD : H1 D = none) (hc : H1 c = some (.lst (pgRefs L ps))) (hz : ps.length ≤ 2000) (hF : Trk F H1)
    (hs : ∀ p H, p ∈ ps → Same H1 H → (∃ xs, H D = some (.lst xs)) → ∀ Y : VK, VRet K (fun b => F b ∨ b = D) H Y (pgV p.id p.group (stS p.state)) → g (.ref (L.ra p.id)) (wipe σ vs) H fun σ2 H2 => wipe σ2 vs = wipe σ vs ∧ tYes σ2 H2 fun b H3 => if b = true then te σ2 H3 Y else False)
    (mono : ∀ x σ0 H (Q Q' : L2.St → Hp → Prop), (∀ σ2 H2, Q σ2 H2 → Q' σ2 H2) → g x σ0 H Q → g x σ0 H Q')
    (hd : ∀ H' ys, Same H1 H' → H' D = some (.lst ys) → VAll K (hid F H') (ps.map fun p => pgV p.id p.group (stS p.state)) ys → Qd H') :
    ∃ W : Nat → Nat → Hp → Prop, (∃ m, W 0 m (upd H1 D (.lst []))) ∧ ∀ i m H, W i m H →
      ((Itl K c).stop i H ∧ Qd H) ∨ ((Itl K c).go i H ∧ ∃ Nx : Hp → Prop, (∀ H', Nx H' → ∃ m', m' < m ∧ W (i + 1) m' H') ∧ ∀ x H', (Itl K c).yld i H x H' → g x (wipe σ vs) H' fun σ2 H2 => wipe σ2 vs = wipe σ vs ∧ tYes σ2 H2 fun b H3 =>
        if b = true then te σ2 H3 fun y H4 => ∃ acc, H4 D = some (.lst acc) ∧ acc.length < sizeLine ∧ Nx (upd H4 D (.lst (acc ++ [y]))) else Nx H3) := by
  refine lc_goesD (l := ps) (goes_list (h := fun p => V.ref (L.ra p.id))) hD (fun H' e => e.seq (sq hc)) (fun _ => true) (fun p y H' => VAt K (hid (fun b => F b ∨ b = D) H') (pgV p.id p.group (stS p.state)) y)
    (fun i y H1 H2 k _ h => h.mono (hid_keep fun b o hb e => k b o (fun z => hb (.inr z)) e)) (by omega) (fun i p x H2 hp s2 hDs hx N Y h1 h2 => ?_) (fun H2 ys s2 e hp => ?_)
  · subst hx
    refine mono _ _ _ _ _ (fun σ2 H3 q => ⟨q.1, ?_⟩) (hs p H2 (List.mem_of_getElem? hp) s2 hDs Y fun y H' s' hy => h2 rfl y H' s' hy)
    have q2 : (if true = true then _ else False) := q.2
    rw [if_pos rfl] at q2
    exact yes q2
  · rw [filter_all] at hp
    exact hd H2 ys s2 e ((VAll.paired hp).mono (hid_less fun b hb => .inl hb))
theorem ok_ask (F : Fun K "ask" "ask" s_ask f fd) (T : Txt K mg A) (h_number_in : GF P w K mg base (L2N.CX P w) 2 "number_in" ["value", "word", "low", "high"] (spNumIn K A)) (h_group_in : GF P w K mg base (L2N.CX P w) 3 "group_in" ["value"] (spGroupIn K A "group" 0 100))
    (h_v_int : GF P w K mg base CX0 1 "v_int" ["number"] (spVInt K)) (h_v_list : GF P w K mg base CX0 1 "v_list" ["members"] (spVList K)) (h_v_record : GF P w K mg base CX0 2 "v_record" ["pairs"] (spVRec K)) (h_numbers_value : GF P w K mg base CX0 2 "numbers_value" ["pages"] (spNumsVal K A))
    (h_page_value : GF P w K mg base CX0 3 "page_value" ["page"] (spPageVal K A)) (h_group_value : GF P w K mg base CX0 6 "group_value" ["memory", "number"] (spGroupVal K A)) (h_Memory_need_group : GM P w K mg base (L2N.CX P w) 2 A.mem "need_group" ["self", "number"] (spNeedG K A))
    (h_Memory_choice : GM P w K mg base CX0 6 A.mem "choice" ["self", "needs"] (spChoice K A)) (h_Memory_needs_of : GM P w K mg base CX0 3 A.mem "needs_of" ["self", "number", "count"] (spNeedsOf K A)) (h_Memory_get_below : GM P w K mg base CX0 2 A.mem "get_below" ["self", "number"] (spGetBelow K A)) :
    FnOk P w K mg base (L2N.CX P w) 8 f fd ["memory", "number", "arguments"] (fun vs H Q E => ∃ (L : Lay) (m : SMem) (d : Nat) (aa : Addr) (args : List WVal), vs = [.ref L.a, nV d, .ref aa] ∧ MemAt K A H L m ∧ 11 ≤ d ∧ d ≤ 15 ∧ ArgsAt K H aa args ∧ (if d = 11 then 3 else if d ≤ 13 then 2 else 1) ≤ args.length ∧ OutV K A H E Q (askW d m args)) := by
  refine okN F sc_ask (fun vs H Q E h => ?_) (fun cdv A' outer s H vs Q E hr h => ⟨_, (pss_cons (ps_if (pt_cmpR op_eq (L2.pv 1) pe_int (nomark _)) (pss_cons (ps_setLc (i := 4) (own := [("page", 7), ("group", 3)]) (g := (gTup K 2 (gCons (gName 7) (gCons (gName 3) gNil)))) (tt := tYes) (te := (tCall _ [] _ (tCons (tLst (tCons (tTup (tCons _ (tCons (tCall _ [] _ (tCons (tVar 7) tNil)) tNil))) (tCons (tTup (tCons _ (tCons (tCall _ [] _ (tCons (tVar 3) tNil)) tNil))) tNil))) tNil))) rfl sc_ask.nd rfl rfl (sw_true rfl rfl rfl (by decide +kernel)) (pi_list (pe_fld (L2.pv 0) rfl)) (blkOk_by (N := N_ask) (sc := defScope s_ask) (by decide +kernel)) (fun _ _ _ _ _ => (pg_tup rfl (pgs_cons (pg_name (i := 7) sc_ask.nd rfl (Or.inl rfl)) (pgs_cons (pg_name (i := 3) sc_ask.nd rfl (Or.inl rfl)) pgs_nil)))) (fun _ _ _ _ _ => pts_nil) (fun _ _ _ _ _ => (pe_gf h_v_record (hr.mono (by omega)) pass0 (pa_cons (pe_lst (pa_cons (pe_tup (pa_cons pe_str (pa_cons (pe_gf h_v_int (hr.mono (by omega)) pass0 (pa_cons (L2.pv 7) pa_nil)) pa_nil))) (pa_cons (pe_tup (pa_cons pe_str (pa_cons (pe_gf h_v_int (hr.mono (by omega)) pass0 (pa_cons (L2.pv 3) pa_nil)) pa_nil))) pa_nil))) pa_nil))))
      (pss_one (ps_ret (pe_gf h_v_list (hr.mono (by omega)) pass0 (pa_cons (L2.pv 4) pa_nil))))) pss_nil)
      (pss_cons (ps_if (pt_cmpR op_eq (L2.pv 1) pe_int (nomark _)) (pss_one (ps_ret (pe_gf h_v_record (hr.mono (by omega)) pass0 (pa_cons (pe_lst (pa_cons (pe_tup (pa_cons pe_str (pa_cons (pe_gf h_v_int (hr.mono (by omega)) pass0 (pa_cons (pe_callB call_lenD (by rfl) T.b_len PySem.boot_len (pa_cons (pe_fld (L2.pv 0) rfl) pa_nil)) pa_nil)) pa_nil))) (pa_cons (pe_tup (pa_cons pe_str (pa_cons (pe_gf h_v_int (hr.mono (by omega)) pass0 (pa_cons (pe_callB call_len_seq (by rfl) T.b_len PySem.boot_len (pa_cons (pe_fld (L2.pv 0) rfl) pa_nil)) pa_nil)) pa_nil))) pa_nil))) pa_nil)))) pss_nil)
      (pss_cons (ps_set (i := 3) sc_ask.nd rfl (Or.inl rfl) (pe_gf h_group_in (hr.mono (by omega)) (passN (L2N.takes_of rfl rfl rfl rfl)) (pa_cons (pe_ix ix_list (L2.pv 2) pe_int (fun _ _ => rfl)) pa_nil)))
      (pss_cons (ps_if (pt_cmpR op_eq (L2.pv 1) pe_int (nomark _)) (pss_cons (ps_set (i := 5) sc_ask.nd rfl (Or.inl rfl) (pe_gf h_number_in (hr.mono (by omega)) (passN (L2N.takes_of rfl rfl rfl rfl)) (pa_cons (pe_ix ix_list (L2.pv 2) pe_int (fun _ _ => rfl)) (pa_cons pe_str (pa_cons pe_int (pa_cons pe_int pa_nil))))))
      (pss_cons (ps_expr (pe_gm h_Memory_need_group T.c_mem (hr.mono (by omega)) (passN (L2N.takes_of rfl rfl rfl rfl)) (L2.pv 0) (pa_cons (L2.pv 3) pa_nil)))
      (pss_cons (ps_set (i := 6) sc_ask.nd rfl (Or.inl rfl) (pe_gm h_Memory_choice T.c_mem (hr.mono (by omega)) pass0 (L2.pv 0) (pa_cons (pe_gm h_Memory_needs_of T.c_mem (hr.mono (by omega)) pass0 (L2.pv 0) (pa_cons (L2.pv 3) (pa_cons (L2.pv 5) pa_nil))) pa_nil)))
      (pss_one (ps_ret (pe_ifExp (pt_cmpR op_isN (L2.pv 6) pe_non (nomark _)) (pe_gl T.g_NULL) (pe_gf h_numbers_value (hr.mono (by omega)) pass0 (pa_cons (L2.pv 6) pa_nil)))))))) pss_nil)
      (pss_cons (ps_expr (pe_gm h_Memory_need_group T.c_mem (hr.mono (by omega)) (passN (L2N.takes_of rfl rfl rfl rfl)) (L2.pv 0) (pa_cons (L2.pv 3) pa_nil)))
      (pss_cons (ps_if (pt_cmpR op_eq (L2.pv 1) pe_int (nomark _)) (pss_one (ps_ret (pe_gf h_group_value (hr.mono (by omega)) pass0 (pa_cons (L2.pv 0) (pa_cons (L2.pv 3) pa_nil))))) pss_nil)
      (pss_one (ps_ret (pe_gf h_v_list (hr.mono (by omega)) pass0 (pa_cons (pe_lc (own := [("page", 7)]) (g := (gName 7)) (tt := tYes) (te := (tCall _ [] _ (tCons (tVar 7) tNil))) rfl sc_ask.nd (pi_list (pe_gm h_Memory_get_below T.c_mem (hr.mono (by omega)) pass0 (L2.pv 0) (pa_cons (L2.pv 3) pa_nil))) (blkOk_by (N := N_ask) (sc := defScope s_ask) (by decide +kernel)) (fun _ _ _ _ _ => (pg_name (i := 7) sc_ask.nd rfl (Or.inl rfl))) (fun _ _ _ _ _ => pts_nil) (fun _ _ _ _ _ => (pe_gf h_page_value (hr.mono (by omega)) pass0 (pa_cons (L2.pv 7) pa_nil)))) pa_nil)))))))))), ?_⟩)
  · obtain ⟨L, m, d, aa, args, rfl, _⟩ := h
    rfl
  · obtain ⟨L, m, d, aa, args, rfl, M, hd11, hd15, hA, hn, q⟩ := h
    have c11 : decide (nV d = V.int 11) = decide (d = 11) := @dec_nV d 11
    have c12 : decide (nV d = V.int 12) = decide (d = 12) := @dec_nV d 12
    have c14 : decide (nV d = V.int 14) = decide (d = 14) := @dec_nV d 14
    have c15 : decide (nV d = V.int 15) = decide (d = 15) := @dec_nV d 15
    refine ⟨_, rfl, rfl, _, rfl, ?_⟩
    rw [c14]
    by_cases h14 : d = 14
    · subst h14
      rw [decide_eq_true rfl]
      have q : VRet0 K H Q (.list (m.taken.map fun e => recV [("page", .int ((e.1 : Nat) : Int)), ("group", .int ((e.2 : Nat) : Int))])) := q
      obtain ⟨ts, et, tt⟩ := M.tk
      have hlen := Paired.length tt
      have htk := M.wf.tk
      have et' : SqL K H L.tk ((List.range m.taken.length).map fun i => V.ref (ts.getD i 0)) := sq (by
        rw [et]
        congr 2
        refine List.ext_getElem (by rw [List.length_map, List.length_map, List.length_range, hlen]) fun i h1 h2 => ?_
        rw [List.length_map] at h1
        rw [List.getElem_map, List.getElem_map, List.getElem_range, List.getD_eq_getElem?_getD, List.getElem?_eq_getElem h1]
        rfl)
      refine iteT ⟨_, rfl, M.f_taken T ?_⟩
      refine ⟨_, rfl, ⟨_, sq et⟩, fun D hD => ?_⟩
      refine lc_goesD (l := List.range m.taken.length) (goes_list (h := fun i => V.ref (ts.getD i 0))) hD (fun H' e => e.seq et') (fun _ => true)
        (fun i y H' => ∀ e, m.taken[i]? = some e → VAt K (hid (fun b => b = D) H') (recV [("page", .int ((e.1 : Nat) : Int)), ("group", .int ((e.2 : Nat) : Int))]) y)
        (fun i y H1 H2 k _ h e he => (h e he).mono (hid_keep fun b o hb e => k b o hb e)) (by rw [List.length_range]; omega) (fun j i v H2 hi s2 ⟨zs, hDs⟩ hv N Y h1 h2 => ?_) (fun H2 ys s2 e hp => ?_)
      · subst hv
        have hil : i < m.taken.length := List.mem_range.mp (List.mem_of_getElem? hi)
        have key : ∀ (ts : List Addr) (l : List (Nat × Nat)), TkAt K H ts l → ∀ i (h : i < l.length), SqT K H (ts.getD i 0) [nV l[i].1, nV l[i].2] := by
          intro ts l h
          induction h with
          | nil => exact fun i h => absurd h (by simp)
          | cons a r ih =>
            intro i h
            cases i with
            | zero => exact a
            | succ j => exact ih j (by simpa using h)
        have hT := key ts m.taken tt i hil
        refine ⟨ts.getD i 0, _, rfl, s2.tup hT, rfl, _, _, rfl, _, _, rfl, rfl, rfl, yes ?_⟩
        have htr : Trk (fun b => b = D) H2 := fun b hb => by rw [hb, hDs]; exact fun z => by cases z
        refine rec2 (F := fun b => b = D) (v1 := .int ((m.taken[i].1 : Nat) : Int)) (v2 := .int ((m.taken[i].2 : Nat) : Int)) htr (by decide +kernel) (fun Q1 h => ⟨_, rfl, ((m.taken[i].1 : Nat) : Int), _, rfl, htr, h⟩) (fun H' s' Q1 h => ⟨_, rfl, ((m.taken[i].2 : Nat) : Int), _, rfl, htr.mono s', h⟩) fun x H' s' hx => h2 rfl x H' s' fun e he => ?_
        have : e = m.taken[i] := by
          rw [List.getElem?_eq_getElem hil] at he
          exact (Option.some.inj he).symm
        subst this
        exact hx
      · rw [filter_all] at hp
        have hP : VAll K (hid (fun b => b = D) H2) (m.taken.map fun e => recV [("page", .int ((e.1 : Nat) : Int)), ("group", .int ((e.2 : Nat) : Int))]) ys := by
          refine VAll.paired (Paired.idx m.taken 0 (List.replicate m.taken.length V.non) ys (by rw [List.length_replicate]) (fun i => by rw [Nat.zero_add]) ?_)
          rw [← List.range_eq_range']
          exact hp
        exact ⟨_, rfl, D, ys, _, noF, rfl, e, (hP.mono (hid_un _ _)).mono (hid_no _), trk_no _, fun x H3 s3 hx => q x H3 (s2.trans s3) (hx.mono (hid_un _ _))⟩
    rw [decide_eq_false h14]
    refine iteF ⟨_, rfl, rfl, _, rfl, ?_⟩
    rw [c15]
    by_cases h15 : d = 15
    · subst h15
      rw [decide_eq_true rfl]
      have q : VRet0 K H Q (recV [("groups", .int (((liveL m.groups).length : Nat) : Int)), ("pages", .int ((m.pages.length : Nat) : Int))]) := q
      refine iteT (rec2 (F := noF) (trk_no _) (by decide +kernel) (fun Q1 h => ⟨_, rfl, M.f_groups T ?_⟩) (fun H' s' Q1 h => ⟨_, rfl, (M.mono s').f_rows T ?_⟩) fun x H' s' hx => q x H' s' (hx.mono (hid_un _ _)))
      · refine ⟨L.ag, _, rfl, M.own, _, noF, rfl, trk_no _, ?_⟩
        rw [kvF_len]
        exact h
      · refine ⟨L.ar, _, rfl, .inl (sq (M.mono s').rows), _, noF, rfl, trk_no _, ?_⟩
        rw [List.length_map]
        exact h
    rw [decide_eq_false h15]
    have two : 2 ≤ args.length := by
      by_cases h3 : d = 11
      · rw [if_pos h3] at hn
        omega
      · rw [if_neg h3, if_pos (by omega)] at hn
        exact hn
    have q : OutV K A H E Q (bindE (numE "group" 0 100 (argW args 1)) fun g =>
      if d = 11 then bindE (numE "count" 1 1000 (argW args 2)) fun n => bindE (lift (m.group g)) fun _ => .ok (match m.plan g n with
        | some l => .list ((l.map fun p => (p.id : Int)).map RWire.Value.int)
        | none => .null)
      else if d = 12 then bindE (lift (m.group g)) fun _ => .ok (grpV m g)
      else bindE (lift (m.group g)) fun _ => .ok (pagesV (m.pages.filter fun p => under m.groups g p.group))) := by
      unfold askW at q
      rw [if_neg h14, if_neg h15] at q
      exact q
    obtain ⟨x1, xs, ea, e1, v1⟩ := hA.get (i := 1) (by omega)
    refine iteF ⟨_, rfl, aa, _, 1, _, rfl, rfl, sq ea, atI_nat (j := 1) e1, x1, argW args 1, rfl, v1, num_of (fun g hg H1 s1 => ?_) (fun hg => ?_)⟩
    rotate_left
    · rw [numE_no hg] at q
      exact q
    rw [numE_ok hg] at q
    have M1 := M.mono s1
    change OutV K A H E Q (if d = 11 then _ else _) at q
    refine ⟨_, rfl, rfl, _, rfl, ?_⟩
    rw [c11]
    by_cases h11 : d = 11
    · subst h11
      rw [decide_eq_true rfl]
      have hn : 3 ≤ args.length := hn
      have q : OutV K A H E Q (bindE (numE "count" 1 1000 (argW args 2)) fun n => bindE (lift (m.group g)) fun _ => .ok (match m.plan g n with
        | some l => .list ((l.map fun p => (p.id : Int)).map RWire.Value.int)
        | none => .null)) := q
      obtain ⟨x2, xs2, ea2, e2, v2⟩ := hA.get (i := 2) (by omega)
      refine iteT ⟨_, rfl, aa, _, 2, _, rfl, rfl, sq (s1 _ _ ea2), atI_nat (j := 2) e2, x2, argW args 2, "count", 1, 1000, rfl, v2.mono s1, by decide +kernel, num_of (fun n hn' H2 s2 => ?_) (fun hn' => ?_)⟩
      rotate_left
      · rw [numE_no hn'] at q
        exact Rais.mono q s1
      rw [numE_ok hn'] at q
      have q : OutV K A H E Q (bindE (lift (m.group g)) fun _ => .ok (match m.plan g n with
        | some l => .list ((l.map fun p => (p.id : Int)).map RWire.Value.int)
        | none => .null)) := q
      have s3 := s1.trans s2
      have M3 := M.mono s3
      refine ⟨_, rfl, M3.meth (by decide +kernel) ⟨_, rfl, L, m, g, rfl, M3, fun lg => ?_, fun lg => ?_⟩⟩
      rotate_left
      · rw [group_no lg] at q
        have q : Rais A H E 2 (strU (R7278g.Spec.units "there is no such group")) := q
        rw [str_no_group] at q
        exact Rais.mono q s3
      rw [group_ok lg] at q
      have q : VRet0 K H Q (match m.plan g n with
        | some l => .list ((l.map fun p => (p.id : Int)).map RWire.Value.int)
        | none => .null) := q
      refine ⟨_, rfl, M3.meth (by decide +kernel) ⟨_, rfl, M3.meth (by decide +kernel) ⟨_, rfl, _, rfl, L, m, g, n, rfl, M3, lg, fun nd H4 s4 hnd0 hnd => ?_⟩⟩⟩
      have M4 := M3.mono s4
      refine ⟨L, m, nd, _, _, rfl, M4, hnd, M.wf.g.chain_nodup lg, M.wf.g.chain_len lg, ?_⟩
      have epl : m.pick (needL (chain m.groups g) fun a => m.usage a + n - (m.groups.at_ a).max) = m.plan g n := rfl
      rw [epl]
      cases hpl : m.plan g n with
      | none =>
        rw [hpl] at q
        intro H5 s5
        refine ⟨_, rfl, rfl, _, rfl, ?_⟩
        exact iteT (q _ H5 ((s3.trans s4).trans s5) (.null (T.q_NULL.at H5)))
      | some l =>
        rw [hpl] at q
        intro lp H5 s5 hlp0 hlp
        have s6 := (s3.trans s4).trans s5
        have hsub := pick_order hpl
        refine ⟨_, rfl, rfl, _, rfl, ?_⟩
        exact iteF ⟨_, rfl, lp, L, l, noF, rfl, hlp, fun p hp => (M.mono s6).page p (hsub.subset hp), Nat.le_trans hsub.length_le M.wf.np, trk_no _, fun x H7 s7 hx => q x H7 (s6.trans s7) (hx.mono (hid_un _ _))⟩
    rw [decide_eq_false h11]
    rw [if_neg h11] at q
    refine iteF ⟨_, rfl, M1.meth (by decide +kernel) ⟨_, rfl, L, m, g, rfl, M1, fun lg => ?_, fun lg => ?_⟩⟩
    rotate_left
    · have q : Rais A H E 2 (strU (R7278g.Spec.units "there is no such group")) := by
        by_cases h12 : d = 12
        · rw [if_pos h12, group_no lg] at q
          exact q
        · rw [if_neg h12, group_no lg] at q
          exact q
      rw [str_no_group] at q
      exact Rais.mono q s1
    rw [group_ok lg] at q
    refine ⟨_, rfl, rfl, _, rfl, ?_⟩
    rw [c12]
    by_cases h12 : d = 12
    · rw [if_pos h12] at q
      have q : VRet0 K H Q (grpV m g) := q
      rw [decide_eq_true h12]
      exact iteT ⟨_, rfl, _, rfl, L, m, g, rfl, M1, lg, fun x H2 s2 hx => q x H2 (s1.trans s2) hx⟩
    · rw [if_neg h12] at q
      have q : VRet0 K H Q (pagesV (m.pages.filter fun p => under m.groups g p.group)) := q
      rw [decide_eq_false h12]
      refine iteF ⟨_, rfl, M1.meth (by decide +kernel) ⟨_, rfl, L, m, g, rfl, M1, fun c H2 s2 hc0 hc => ?_⟩⟩
      have s3 := s1.trans s2
      have M2 := M.mono s3
      generalize hfl : m.pages.filter (fun p => under m.groups g p.group) = fl at *
      have hsub : fl.Sublist m.pages := by rw [← hfl]; exact List.filter_sublist
      refine ⟨c, rfl, ⟨_, sq hc⟩, fun D hD => ?_⟩
      refine pagesV_rows (F := noF) hD hc (Nat.le_trans hsub.length_le M.wf.np) (trk_no _) (fun p H3 hp s4 ⟨xs, hDs⟩ Y hY => ?_) (fun x σ0 H Q Q' h q => h _ _ q) (fun H3 ys s4 e hV => ?_)
      · obtain ⟨dx, ep⟩ := (M2.mono s4).page p (hsub.subset hp)
        refine ⟨rfl, yes (N := fun _ => False) ?_⟩
        refine ⟨_, rfl, _, dx, p.id, p.group, p.state, (fun b => noF b ∨ b = D), rfl, ep, ?_, hY⟩
        rintro b (hb | hb)
        · exact hb.elim
        · rw [hb, hDs]
          exact fun z => by cases z
      · exact ⟨D, ys, _, noF, rfl, e, hV, trk_no _, fun x H5 s5 hx => q x H5 ((s3.trans s4).trans s5) (hx.mono (hid_un _ _))⟩
end Gm
end

section
set_option maxRecDepth 100000
set_option maxHeartbeats 8000000
/-! # The desk -/
namespace Gm
open PySem PySem.Spec PyProof.Rows L2 L2G GmM
open R7278g.Spec (live kids chain under usage memIndex memAt streamAt newMem)
variable {P : Program} {w : World} {K : PySem.W.Frag} {mg : Str → Option Value} {base : Heap} {A : Ad} {f fI : Addr} {fd : FuncData}
abbrev SWorld := R7278g.Spec.World
structure DLay where
  ma : Addr
  va : Addr
  LL : Nat → Lay
  vl : Nat → Addr
  ms : List Nat
  vs : List Nat
/-- what the memories are made of -/
def FpW (D : DLay) (w : SWorld) (b : Addr) : Prop := ∃ p m, memAt w p = some m ∧ Fp (D.LL p) m b
def rowsOf (s : R7278g.Spec.Stream) : List SPage := if s.ended then [] else s.rest
abbrev pgW (p : SPage) : WVal := pgV p.id p.group (stS p.state)
structure DeskAt (K : PySem.W.Frag) (A : Ad) (H : Hp) (d : Addr) (D : DLay) (w : SWorld) : Prop where
  self : ∃ dx, H d = some (.ins A.dsk dx (dskF D.ma D.va))
  mems : H D.ma = some (.dK (kvF D.ms fun p => .ref (D.LL p).a))
  vics : H D.va = some (.dK (kvF D.vs fun e => .ref (D.vl e)))
  msk : ∀ p, p ∈ D.ms ↔ ∃ m, memAt w p = some m
  msl : D.ms.Nodup ∧ ∀ p ∈ D.ms, p < 3
  mem : ∀ p m, memAt w p = some m → MemAt K A H (D.LL p) m
  dis : ∀ p q mp mq, memAt w p = some mp → memAt w q = some mq → p ≠ q → ∀ b, Fp (D.LL p) mp b → ¬ Fp (D.LL q) mq b
  idx : ∀ p q i, memIndex w p = some i → memIndex w q = some i → p = q
  val : ∀ p i, memIndex w p = some i → ∃ m, w.heap[i]? = some m
  nd : ¬ FpW D w d
  nma : ¬ FpW D w D.ma
  nva : ¬ FpW D w D.va
  mv : D.ma ≠ D.va
  vsk : ∀ e, e ∈ D.vs ↔ ∃ s, streamAt w e = some s
  vsl : D.vs.Nodup ∧ ∀ e ∈ D.vs, e < 2
  vic : ∀ e s, streamAt w e = some s → ∃ xs, H (D.vl e) = some (.lst xs) ∧ ¬ FpW D w (D.vl e) ∧ VAll K (hid (FpW D w) H) ((rowsOf s).map pgW) xs
  ln : w.mems.length = 3 ∧ w.streams.length = 2
mutual
theorem VAt.monoT {H H' : Hp} (kt : ∀ t xs, SqT K H t xs → SqT K H' t xs) (kl : ∀ q xs, H q = some (.lst xs) → H' q = some (.lst xs)) : ∀ {v : WVal} {x : V}, VAt K H v x → VAt K H' v x
  | _, _, .nothing h => .nothing (kt _ _ h)
  | _, _, .null h => .null (kt _ _ h)
  | _, _, .no h => .no (kt _ _ h)
  | _, _, .yes h => .yes (kt _ _ h)
  | _, _, .int h => .int (kt _ _ h)
  | _, _, .text h g => .text (kt _ _ h) (kt _ _ g)
  | _, _, .list h g r => .list (kt _ _ h) (kl _ _ g) (VAll.monoT kt kl r)
  | _, _, .record h g r => .record (kt _ _ h) (kl _ _ g) (EAll.monoT kt kl r)
theorem VAll.monoT {H H' : Hp} (kt : ∀ t xs, SqT K H t xs → SqT K H' t xs) (kl : ∀ q xs, H q = some (.lst xs) → H' q = some (.lst xs)) : ∀ {l : List WVal} {xs : List V}, VAll K H l xs → VAll K H' l xs
  | _, _, .nil => .nil
  | _, _, .cons h r => .cons (VAt.monoT kt kl h) (VAll.monoT kt kl r)
theorem EAll.monoT {H H' : Hp} (kt : ∀ t xs, SqT K H t xs → SqT K H' t xs) (kl : ∀ q xs, H q = some (.lst xs) → H' q = some (.lst xs)) : ∀ {l : List (RWire.Text × WVal)} {xs : List V}, EAll K H l xs → EAll K H' l xs
  | _, _, .nil => .nil
  | _, _, .cons h g q r => .cons (kt _ _ h) (kt _ _ g) (VAt.monoT kt kl q) (EAll.monoT kt kl r)
end
/-- all stands but a dict -/
theorem VAll.but {H H' : Hp} {a : Addr} (ha : ∀ o, H a = some o → ∃ kvs, o = .dK kvs) (k : ∀ b o, b ≠ a → H b = some o → H' b = some o) {l : List WVal} {xs : List V} (h : VAll K H l xs) : VAll K H' l xs := by
  refine h.monoT (fun t ys ht => ?_) (fun q ys hq => ?_)
  · rcases ht with (ht | ⟨od, ht⟩) | ht
    · refine .inl (.inl (k _ _ (fun z => ?_) ht))
      obtain ⟨kvs, e⟩ := ha _ (z ▸ ht)
      cases e
    · refine .inl (.inr ⟨od, k _ _ (fun z => ?_) ht⟩)
      obtain ⟨kvs, e⟩ := ha _ (z ▸ ht)
      cases e
    · exact .inr ht
  · refine k _ _ (fun z => ?_) hq
    obtain ⟨kvs, e⟩ := ha _ (z ▸ hq)
    cases e
theorem MemAt.keep {H H' : Hp} {L : Lay} {m : SMem} (M : MemAt K A H L m) (k : ∀ b o, H b = some o → Fp L m b → H' b = some o) (kt : ∀ t xs, SqT K H t xs → SqT K H' t xs) : MemAt K A H' L m := by
  have own := k _ _ M.own Fp.grps
  refine ⟨⟨M.wf, ?_, .inl own, fun g hg => ?_, fun g hg => ?_, k _ _ M.rows Fp.ar, fun p hp => ?_, ?_, M.inj⟩, own⟩
  · obtain ⟨dx, e⟩ := M.self
    exact ⟨dx, k _ _ e Fp.self⟩
  · obtain ⟨dx, e⟩ := M.grp g hg
    exact ⟨dx, k _ _ e (Fp.ga hg)⟩
  · obtain ⟨dx, e⟩ := M.lim g hg
    exact ⟨dx, k _ _ e (Fp.la hg)⟩
  · obtain ⟨dx, e⟩ := M.page p hp
    exact ⟨dx, k _ _ e (Fp.ra hp)⟩
  · obtain ⟨ts, e, t⟩ := M.tk
    exact ⟨ts, k _ _ e Fp.tk, TkAt.same t kt⟩
/-- what a memory is made of is nothing else: own objects, a list or a dict, never a tuple -/
theorem MemAt.tup_out {H H' : Hp} {L : Lay} {m : SMem} (M : MemAt K A H L m) {X : Addr → Prop} (hX : ∀ b, X b → Fp L m b) (k : ∀ b o, H b = some o → ¬ X b → H' b = some o) (t : Addr) (xs : List V) (h : SqT K H t xs) : SqT K H' t xs := by
  have no : ∀ o, H t = some o → (o = .tup xs ∨ ∃ od, o = .frz od (.tup xs)) → ¬ X t := fun o e ho hx => by
    have hf := hX t hx
    rcases hf with z | z | z | z | ⟨g, hg, z | z⟩ | ⟨p, hp, z⟩
    · obtain ⟨dx, q⟩ := M.self
      rw [z, q] at e
      rcases ho with rfl | ⟨od, rfl⟩ <;> cases e
    · rw [z, M.own] at e
      rcases ho with rfl | ⟨od, rfl⟩ <;> cases e
    · rw [z, M.rows] at e
      rcases ho with rfl | ⟨od, rfl⟩ <;> cases e
    · obtain ⟨ts, q, _⟩ := M.tk
      rw [z, q] at e
      rcases ho with rfl | ⟨od, rfl⟩ <;> cases e
    · obtain ⟨dx, q⟩ := M.grp g hg
      rw [z, q] at e
      rcases ho with rfl | ⟨od, rfl⟩ <;> cases e
    · obtain ⟨dx, q⟩ := M.lim g hg
      rw [z, q] at e
      rcases ho with rfl | ⟨od, rfl⟩ <;> cases e
    · obtain ⟨dx, q⟩ := M.page p hp
      rw [z, q] at e
      rcases ho with rfl | ⟨od, rfl⟩ <;> cases e
  rcases h with (h | ⟨od, h⟩) | h
  · exact .inl (.inl (k _ _ h (no _ h (.inl rfl))))
  · exact .inl (.inr ⟨od, k _ _ h (no _ h (.inr ⟨od, rfl⟩))⟩)
  · exact .inr h
section
variable {H H' : Hp} {d : Addr} {D : DLay} {w : SWorld}
theorem DeskAt.trk (Dk : DeskAt K A H d D w) : Trk (FpW D w) H := fun b ⟨p, m, hm, hb⟩ => (Dk.mem p m hm).trk b hb
theorem DeskAt.mono (Dk : DeskAt K A H d D w) (s : Same H H') : DeskAt K A H' d D w where
  self := let ⟨dx, e⟩ := Dk.self; ⟨dx, s _ _ e⟩
  mems := s _ _ Dk.mems
  vics := s _ _ Dk.vics
  msk := Dk.msk
  msl := Dk.msl
  mem := fun p m h => (Dk.mem p m h).mono s
  dis := Dk.dis
  idx := Dk.idx
  val := Dk.val
  nd := Dk.nd
  nma := Dk.nma
  nva := Dk.nva
  mv := Dk.mv
  vsk := Dk.vsk
  vsl := Dk.vsl
  vic := fun e s' h => let ⟨xs, a, b, c⟩ := Dk.vic e s' h; ⟨xs, s _ _ a, b, c.mono (hid_same s)⟩
  ln := Dk.ln
theorem memAt_of {w : SWorld} {p i : Nat} {m : SMem} (h1 : memIndex w p = some i) (h2 : w.heap[i]? = some m) : memAt w p = some m := by
  unfold R7278g.Spec.memAt
  rw [h1]
  exact h2
theorem memAt_some {w : SWorld} {p : Nat} {m : SMem} (h : memAt w p = some m) : ∃ i, memIndex w p = some i ∧ w.heap[i]? = some m := by
  unfold R7278g.Spec.memAt at h
  cases e : memIndex w p with
  | none =>
    rw [e] at h
    cases h
  | some i =>
    rw [e] at h
    exact ⟨i, rfl, h⟩
abbrev heapSet (w : SWorld) (i : Nat) (m : SMem) : SWorld := { w with heap := w.heap.set i m }
theorem memAt_set {w : SWorld} {p i q : Nat} {m m' : SMem} (hi : memIndex w p = some i) (hm : w.heap[i]? = some m) (inj : ∀ p q i, memIndex w p = some i → memIndex w q = some i → p = q) : memAt (heapSet w i m') q = if q = p then some m' else memAt w q := by
  have hl : i < w.heap.length := (List.getElem?_eq_some_iff.mp hm).1
  have e1 : memIndex (heapSet w i m') q = memIndex w q := rfl
  unfold R7278g.Spec.memAt
  rw [e1]
  by_cases h : q = p
  · rw [if_pos h, h, hi]
    show (w.heap.set i m')[i]? = some m'
    rw [List.getElem?_set_self hl]
  · rw [if_neg h]
    cases e : memIndex w q with
    | none => rfl
    | some j =>
      show (w.heap.set i m')[j]? = w.heap[j]?
      have : i ≠ j := fun z => h (inj q p i (z ▸ e) hi)
      rw [List.getElem?_set_ne this]
/-- a memory has changed -/
theorem DeskAt.change (Dk : DeskAt K A H d D w) {p i : Nat} {m m' : SMem} {L' : Lay} (hi : memIndex w p = some i) (hm : w.heap[i]? = some m) (M' : MemAt K A H' L' m') (ha : L'.a = (D.LL p).a) (st : Stp (Fp (D.LL p) m) H (Fp L' m') H') :
    DeskAt K A H' d { D with LL := fun q => if q = p then L' else D.LL q } (heapSet w i m') := by
  have mp := memAt_of hi hm
  have hS : ∀ q, memAt (heapSet w i m') q = if q = p then some m' else memAt w q := fun q => memAt_set hi hm Dk.idx
  let D' : DLay := { D with LL := fun q => if q = p then L' else D.LL q }
  have hF : ∀ b, FpW D' (heapSet w i m') b → FpW D w b ∨ H b = none := by
    rintro b ⟨q, mq, hq, hb⟩
    rw [hS] at hq
    by_cases e : q = p
    · rw [if_pos e] at hq
      have : m' = mq := Option.some.inj hq
      subst this
      have hb : Fp (if q = p then L' else D.LL q) m' b := hb
      rw [if_pos e] at hb
      rcases st.sub b hb with h | h
      · exact .inl ⟨p, m, mp, h⟩
      · exact .inr h
    · rw [if_neg e] at hq
      have hb : Fp (if q = p then L' else D.LL q) mq b := hb
      rw [if_neg e] at hb
      exact .inl ⟨q, mq, hq, hb⟩
  have keep : ∀ b o, H b = some o → ¬ FpW D w b → H' b = some o := fun b o e n => st.keep b o e fun h => n ⟨p, m, mp, h⟩
  have nF : ∀ b o, H b = some o → ¬ FpW D w b → ¬ FpW D' (heapSet w i m') b := fun b o e n h => (hF b h).elim n fun z => by rw [e] at z; cases z
  have stW : Stp (FpW D w) H (FpW D' (heapSet w i m')) H' := ⟨fun b o e n => keep b o e n, hF⟩
  obtain ⟨dx, es⟩ := Dk.self
  refine ⟨⟨dx, keep _ _ es Dk.nd⟩, ?_, keep _ _ Dk.vics Dk.nva, fun q => ?_, Dk.msl, fun q mq hq => ?_, fun a b ma mb h1 h2 hab c hc hc' => ?_, Dk.idx, fun q j hj => ?_, nF _ _ es Dk.nd, nF _ _ Dk.mems Dk.nma, nF _ _ Dk.vics Dk.nva, Dk.mv, Dk.vsk, Dk.vsl, fun e s h => ?_, Dk.ln⟩
  · rw [keep _ _ Dk.mems Dk.nma]
    congr 2
    refine kvF_congr fun q _ => ?_
    show V.ref (D.LL q).a = V.ref (if q = p then L' else D.LL q).a
    by_cases e : q = p
    · rw [if_pos e, ha, e]
    · rw [if_neg e]
  · rw [hS]
    by_cases e : q = p
    · rw [if_pos e, e]
      exact ⟨fun _ => ⟨m', rfl⟩, fun _ => (Dk.msk p).mpr ⟨m, mp⟩⟩
    · rw [if_neg e]
      exact Dk.msk q
  · rw [hS] at hq
    show MemAt K A H' (if q = p then L' else D.LL q) mq
    by_cases e : q = p
    · rw [if_pos e] at hq ⊢
      have : m' = mq := Option.some.inj hq
      subst this
      exact M'
    · rw [if_neg e] at hq ⊢
      refine (Dk.mem q mq hq).keep (fun b o hb hf => st.keep b o hb fun h => Dk.dis p q m mq mp hq (Ne.symm e) b h hf) fun t xs h => ?_
      exact (Dk.mem p m mp).tup_out (X := Fp (D.LL p) m) (fun _ h => h) (fun b o e n => st.keep b o e n) t xs h
  · rw [hS] at h1 h2
    have hc : Fp (if a = p then L' else D.LL a) ma c := hc
    have hc' : Fp (if b = p then L' else D.LL b) mb c := hc'
    by_cases e1 : a = p
    · have e2 : b ≠ p := fun z => hab (by rw [e1, z])
      rw [if_pos e1] at h1 hc
      rw [if_neg e2] at h2 hc'
      have : m' = ma := Option.some.inj h1
      subst this
      rcases st.sub c hc with h | h
      · exact Dk.dis p b m mb mp h2 (Ne.symm e2) c h hc'
      · exact (Dk.mem b mb h2).trk c hc' h
    · rw [if_neg e1] at h1 hc
      by_cases e2 : b = p
      · rw [if_pos e2] at h2 hc'
        have : m' = mb := Option.some.inj h2
        subst this
        rcases st.sub c hc' with h | h
        · exact Dk.dis a p ma m h1 mp e1 c hc h
        · exact (Dk.mem a ma h1).trk c hc h
      · rw [if_neg e2] at h2 hc'
        exact Dk.dis a b ma mb h1 h2 hab c hc hc'
  · obtain ⟨mq, hmq⟩ := Dk.val q j hj
    show ∃ m, (w.heap.set i m')[j]? = some m
    have hl : j < w.heap.length := (List.getElem?_eq_some_iff.mp hmq).1
    exact ⟨_, List.getElem?_eq_getElem (by rw [List.length_set]; exact hl)⟩
  · obtain ⟨xs, h1, h2, h3⟩ := Dk.vic e s h
    exact ⟨xs, keep _ _ h1 h2, nF _ _ h1 h2, h3.mono (hid_stp stW)⟩
abbrev memsSet (w : SWorld) (p : Nat) (m : SMem) : SWorld := { w with heap := w.heap ++ [m], mems := w.mems.set p (some w.heap.length) }
theorem memIndex_set {w : SWorld} {p q : Nat} {m : SMem} (hp : p < w.mems.length) : memIndex (memsSet w p m) q = if q = p then some w.heap.length else memIndex w q := by
  unfold R7278g.Spec.memIndex
  show (w.mems.set p (some w.heap.length)).getD q none = _
  rw [List.getD_eq_getElem?_getD]
  by_cases h : q = p
  · rw [if_pos h, h, List.getElem?_set_self hp]
    rfl
  · rw [if_neg h, List.getElem?_set_ne (Ne.symm h), ← List.getD_eq_getElem?_getD]
theorem memAt_new {w : SWorld} {p q : Nat} {m : SMem} (hp : p < w.mems.length) (val : ∀ p i, memIndex w p = some i → ∃ m, w.heap[i]? = some m) : memAt (memsSet w p m) q = if q = p then some m else memAt w q := by
  unfold R7278g.Spec.memAt
  rw [memIndex_set hp]
  by_cases h : q = p
  · rw [if_pos h, if_pos h]
    show (w.heap ++ [m])[w.heap.length]? = some m
    rw [List.getElem?_append_right (Nat.le_refl _), Nat.sub_self]
    rfl
  · rw [if_neg h, if_neg h]
    cases e : memIndex w q with
    | none => rfl
    | some j =>
      obtain ⟨mq, hmq⟩ := val q j e
      show (w.heap ++ [m])[j]? = w.heap[j]?
      rw [List.getElem?_append_left (List.getElem?_eq_some_iff.mp hmq).1]
/-- a new memory in a slot: H1 is H with it made, then the slot is stored -/
theorem DeskAt.newMem (Dk : DeskAt K A H d D w) {p : Nat} {m : SMem} {L : Lay} {H1 H2 : Hp} (hp : p < 3) (s1 : Same H H1) (M : MemAt K A H1 L m) (hn : ∀ b, Fp L m b → H b = none)
    (hput : H2 D.ma = some (.dK (kvF (if p ∈ D.ms then D.ms else D.ms ++ [p]) fun q => .ref (if q = p then L else D.LL q).a))) (hk : ∀ b, b ≠ D.ma → H2 b = H1 b) :
    DeskAt K A H2 d { D with LL := fun q => if q = p then L else D.LL q, ms := if p ∈ D.ms then D.ms else D.ms ++ [p] } (memsSet w p m) := by
  have hp3 : p < w.mems.length := by rw [Dk.ln.1]; exact hp
  have hS : ∀ q, memAt (memsSet w p m) q = if q = p then some m else memAt w q := fun q => memAt_new hp3 Dk.val
  let D' : DLay := { D with LL := fun q => if q = p then L else D.LL q, ms := if p ∈ D.ms then D.ms else D.ms ++ [p] }
  have hF : ∀ b, FpW D' (memsSet w p m) b → FpW D w b ∨ H b = none := by
    rintro b ⟨q, mq, hq, hb⟩
    rw [hS] at hq
    have hb : Fp (if q = p then L else D.LL q) mq b := hb
    by_cases e : q = p
    · rw [if_pos e] at hq hb
      have : m = mq := Option.some.inj hq
      subst this
      exact .inr (hn b hb)
    · rw [if_neg e] at hq hb
      exact .inl ⟨q, mq, hq, hb⟩
  have nF : ∀ b o, H b = some o → ¬ FpW D w b → ¬ FpW D' (memsSet w p m) b := fun b o e n h => (hF b h).elim n fun z => by rw [e] at z; cases z
  have k2 : ∀ b o, b ≠ D.ma → H b = some o → H2 b = some o := fun b o hb e => by rw [hk b hb]; exact s1 b o e
  obtain ⟨dx, es⟩ := Dk.self
  have ndm : d ≠ D.ma := fun z => by rw [z, Dk.mems] at es; cases es
  have hms : ∀ q, q ∈ (if p ∈ D.ms then D.ms else D.ms ++ [p]) ↔ q = p ∨ q ∈ D.ms := fun q => by
    by_cases h : p ∈ D.ms
    · rw [if_pos h]
      exact ⟨.inr, fun z => z.elim (fun z => z ▸ h) id⟩
    · rw [if_neg h, List.mem_append, List.mem_singleton]
      exact ⟨fun z => z.elim .inr .inl, fun z => z.elim .inr .inl⟩
  have hkeepM : ∀ {L0 : Lay} {m0 : SMem}, MemAt K A H1 L0 m0 → ¬ Fp L0 m0 D.ma → MemAt K A H2 L0 m0 := fun {L0 m0} M0 h0 => M0.keep (fun b o e hf => by rw [hk b fun z => h0 (z ▸ hf)]; exact e) fun t xs h => by
    have e1 := s1 _ _ Dk.mems
    rcases h with (h | ⟨od, h⟩) | h
    · exact .inl (.inl (by rw [hk t fun z => by rw [z, e1] at h; cases h]; exact h))
    · exact .inl (.inr ⟨od, by rw [hk t fun z => by rw [z, e1] at h; cases h]; exact h⟩)
    · exact .inr h
  refine ⟨⟨dx, k2 _ _ ndm es⟩, hput, k2 _ _ (Ne.symm Dk.mv) Dk.vics, fun q => ?_, ⟨?_, fun q hq => ?_⟩, fun q mq hq => ?_, fun a b ma mb h1 h2 hab c hc hc' => ?_, fun a b j h1 h2 => ?_, fun q j hj => ?_, nF _ _ es Dk.nd, nF _ _ Dk.mems Dk.nma, nF _ _ Dk.vics Dk.nva, Dk.mv, Dk.vsk, Dk.vsl, fun e s h => ?_, ⟨?_, Dk.ln.2⟩⟩
  · rw [hms, hS]
    by_cases e : q = p
    · rw [if_pos e]
      exact ⟨fun _ => ⟨m, rfl⟩, fun _ => .inl e⟩
    · rw [if_neg e]
      exact ⟨fun h => (Dk.msk q).mp (h.elim (fun z => absurd z e) id), fun h => .inr ((Dk.msk q).mpr h)⟩
  · by_cases h : p ∈ D.ms
    · show (if p ∈ D.ms then D.ms else D.ms ++ [p]).Nodup
      rw [if_pos h]
      exact Dk.msl.1
    · show (if p ∈ D.ms then D.ms else D.ms ++ [p]).Nodup
      rw [if_neg h, List.nodup_append]
      exact ⟨Dk.msl.1, by simp, fun a ha b hb e => h (by rw [← List.mem_singleton.mp hb, ← e]; exact ha)⟩
  · rcases (hms q).mp hq with e | e
    · rw [e]
      exact hp
    · exact Dk.msl.2 q e
  · rw [hS] at hq
    show MemAt K A H2 (if q = p then L else D.LL q) mq
    by_cases e : q = p
    · rw [if_pos e] at hq ⊢
      have : m = mq := Option.some.inj hq
      subst this
      exact hkeepM M fun h => by have := hn _ h; rw [Dk.mems] at this; cases this
    · rw [if_neg e] at hq ⊢
      exact hkeepM ((Dk.mem q mq hq).mono s1) fun h => Dk.nma ⟨q, mq, hq, h⟩
  · rw [hS] at h1 h2
    have hc : Fp (if a = p then L else D.LL a) ma c := hc
    have hc' : Fp (if b = p then L else D.LL b) mb c := hc'
    by_cases e1 : a = p
    · have e2 : b ≠ p := fun z => hab (by rw [e1, z])
      rw [if_pos e1] at h1 hc
      rw [if_neg e2] at h2 hc'
      have : m = ma := Option.some.inj h1
      subst this
      exact (Dk.mem b mb h2).trk c hc' (hn c hc)
    · rw [if_neg e1] at h1 hc
      by_cases e2 : b = p
      · rw [if_pos e2] at h2 hc'
        have : m = mb := Option.some.inj h2
        subst this
        exact (Dk.mem a ma h1).trk c hc (hn c hc')
      · rw [if_neg e2] at h2 hc'
        exact Dk.dis a b ma mb h1 h2 hab c hc hc'
  · have h1 : memIndex (memsSet w p m) a = some j := h1
    have h2 : memIndex (memsSet w p m) b = some j := h2
    rw [memIndex_set hp3] at h1 h2
    have out : ∀ q, memIndex w q = some w.heap.length → False := fun q hq => by
      obtain ⟨mq, hmq⟩ := Dk.val q _ hq
      exact absurd (List.getElem?_eq_some_iff.mp hmq).1 (Nat.lt_irrefl _)
    by_cases e1 : a = p
    · rw [if_pos e1] at h1
      by_cases e2 : b = p
      · rw [e1, e2]
      · rw [if_neg e2] at h2
        have : w.heap.length = j := Option.some.inj h1
        exact (out b (by rw [h2, this])).elim
    · rw [if_neg e1] at h1
      by_cases e2 : b = p
      · rw [if_pos e2] at h2
        have : w.heap.length = j := Option.some.inj h2
        exact (out a (by rw [h1, this])).elim
      · rw [if_neg e2] at h2
        exact Dk.idx a b j h1 h2
  · have hj : memIndex (memsSet w p m) q = some j := hj
    rw [memIndex_set hp3] at hj
    show ∃ m0, (w.heap ++ [m])[j]? = some m0
    by_cases e : q = p
    · rw [if_pos e] at hj
      have : w.heap.length = j := Option.some.inj hj
      rw [← this, List.getElem?_append_right (Nat.le_refl _), Nat.sub_self]
      exact ⟨m, rfl⟩
    · rw [if_neg e] at hj
      obtain ⟨mq, hmq⟩ := Dk.val q j hj
      rw [List.getElem?_append_left (List.getElem?_eq_some_iff.mp hmq).1]
      exact ⟨mq, hmq⟩
  · obtain ⟨xs, h1, h2, h3⟩ := Dk.vic e s h
    have n1 : D.vl e ≠ D.ma := fun z => by rw [z, Dk.mems] at h1; cases h1
    refine ⟨xs, k2 _ _ n1 h1, nF _ _ h1 h2, h3.but (a := D.ma) (fun o e => ?_) fun b o hb e => ?_⟩
    · have := (hid_some.mp e).2
      rw [Dk.mems] at this
      exact ⟨_, (Option.some.inj this).symm⟩
    · obtain ⟨z1, z2⟩ := hid_some.mp e
      exact hid_some.mpr ⟨nF _ _ z2 z1, k2 _ _ hb z2⟩
  · show (w.mems.set p (some w.heap.length)).length = 3
    rw [List.length_set]
    exact Dk.ln.1
abbrev strSet (w : SWorld) (e : Nat) (s : R7278g.Spec.Stream) : SWorld := { w with streams := w.streams.set e (some s) }
theorem streamAt_set {w : SWorld} {e q : Nat} {s : R7278g.Spec.Stream} (hp : e < w.streams.length) : streamAt (strSet w e s) q = if q = e then some s else streamAt w q := by
  unfold R7278g.Spec.streamAt
  show (w.streams.set e (some s)).getD q none = _
  rw [List.getD_eq_getElem?_getD]
  by_cases h : q = e
  · rw [if_pos h, h, List.getElem?_set_self hp]
    rfl
  · rw [if_neg h, List.getElem?_set_ne (Ne.symm h), ← List.getD_eq_getElem?_getD]
/-- a row of victims is put in a slot: w' is w with it, or w -/
theorem DeskAt.put (Dk : DeskAt K A H d D w) {e : Nat} {s : R7278g.Spec.Stream} {w' : SWorld} {c : Addr} {xs : List V} {H1 H2 : Hp} (he : e < 2) (s1 : Same H H1) (hc : H1 c = some (.lst xs)) (hcF : ¬ FpW D w c) (hV : VAll K (hid (FpW D w) H1) ((rowsOf s).map pgW) xs)
    (hm : ∀ p, memIndex w' p = memIndex w p) (hh : w'.heap = w.heap) (hst : ∀ q, streamAt w' q = if q = e then some s else streamAt w q) (hln : w'.mems.length = 3 ∧ w'.streams.length = 2)
    (hput : H2 D.va = some (.dK (kvF (if e ∈ D.vs then D.vs else D.vs ++ [e]) fun q => .ref (if q = e then c else D.vl q)))) (hk : ∀ b, b ≠ D.va → H2 b = H1 b) :
    DeskAt K A H2 d { D with vl := fun q => if q = e then c else D.vl q, vs := if e ∈ D.vs then D.vs else D.vs ++ [e] } w' := by
  have hA : ∀ p, memAt w' p = memAt w p := fun p => by
    unfold R7278g.Spec.memAt
    rw [hm, hh]
  have hF : ∀ b, FpW { D with vl := fun q => if q = e then c else D.vl q, vs := if e ∈ D.vs then D.vs else D.vs ++ [e] } w' b ↔ FpW D w b := fun b => by
    unfold FpW
    simp only [hA]
  have hFe : FpW { D with vl := fun q => if q = e then c else D.vl q, vs := if e ∈ D.vs then D.vs else D.vs ++ [e] } w' = FpW D w := funext fun b => propext (hF b)
  have k2 : ∀ b o, b ≠ D.va → H b = some o → H2 b = some o := fun b o hb e => by rw [hk b hb]; exact s1 b o e
  obtain ⟨dx, es⟩ := Dk.self
  have ndm : d ≠ D.va := fun z => by rw [z, Dk.vics] at es; cases es
  have e1 := s1 _ _ Dk.vics
  have hva : ∀ o, hid (FpW D w) H1 D.va = some o → ∃ kvs, o = .dK kvs := fun o e => by
    have := (hid_some.mp e).2
    rw [e1] at this
    exact ⟨_, (Option.some.inj this).symm⟩
  have hvs : ∀ q, q ∈ (if e ∈ D.vs then D.vs else D.vs ++ [e]) ↔ q = e ∨ q ∈ D.vs := fun q => by
    by_cases h : e ∈ D.vs
    · rw [if_pos h]
      exact ⟨.inr, fun z => z.elim (fun z => z ▸ h) id⟩
    · rw [if_neg h, List.mem_append, List.mem_singleton]
      exact ⟨fun z => z.elim .inr .inl, fun z => z.elim .inr .inl⟩
  refine ⟨⟨dx, k2 _ _ ndm es⟩, k2 _ _ Dk.mv Dk.mems, hput, fun q => by rw [hA]; exact Dk.msk q, Dk.msl, fun q mq hq => ?_, fun a b ma mb h1 h2 => Dk.dis a b ma mb (by rw [← hA]; exact h1) (by rw [← hA]; exact h2), fun a b j h1 h2 => Dk.idx a b j (by rw [← hm]; exact h1) (by rw [← hm]; exact h2), fun q j hj => by rw [hh]; exact Dk.val q j (by rw [← hm]; exact hj), by rw [hFe]; exact Dk.nd, by rw [hFe]; exact Dk.nma, by rw [hFe]; exact Dk.nva, Dk.mv, fun q => ?_, ⟨?_, fun q hq => ?_⟩, fun q s' h => ?_, hln⟩
  · rw [hA] at hq
    refine ((Dk.mem q mq hq).mono s1).keep (fun b o e hf => ?_) fun t xs h => ?_
    · rw [hk b fun z => Dk.nva ⟨q, mq, hq, z ▸ hf⟩]
      exact e
    · rcases h with (h | ⟨od, h⟩) | h
      · exact .inl (.inl (by rw [hk t fun z => by rw [z, e1] at h; cases h]; exact h))
      · exact .inl (.inr ⟨od, by rw [hk t fun z => by rw [z, e1] at h; cases h]; exact h⟩)
      · exact .inr h
  · rw [hvs, hst]
    by_cases h : q = e
    · rw [if_pos h]
      exact ⟨fun _ => ⟨s, rfl⟩, fun _ => .inl h⟩
    · rw [if_neg h]
      exact ⟨fun z => (Dk.vsk q).mp (z.elim (fun z => absurd z h) id), fun z => .inr ((Dk.vsk q).mpr z)⟩
  · show (if e ∈ D.vs then D.vs else D.vs ++ [e]).Nodup
    by_cases h : e ∈ D.vs
    · rw [if_pos h]
      exact Dk.vsl.1
    · rw [if_neg h, List.nodup_append]
      exact ⟨Dk.vsl.1, by simp, fun a ha b hb z => h (by rw [← List.mem_singleton.mp hb, ← z]; exact ha)⟩
  · rcases (hvs q).mp hq with z | z
    · rw [z]
      exact he
    · exact Dk.vsl.2 q z
  · rw [hst] at h
    rw [hFe]
    show ∃ ys, H2 (if q = e then c else D.vl q) = some (.lst ys) ∧ ¬ FpW D w (if q = e then c else D.vl q) ∧ _
    by_cases hq : q = e
    · rw [if_pos hq] at h
      have : s = s' := Option.some.inj h
      subst this
      rw [if_pos hq]
      refine ⟨xs, by rw [hk c fun z => by rw [z, e1] at hc; cases hc]; exact hc, hcF, hV.but hva fun b o hb z => ?_⟩
      obtain ⟨z1, z2⟩ := hid_some.mp z
      exact hid_some.mpr ⟨z1, by rw [hk b hb]; exact z2⟩
    · rw [if_neg hq] at h
      rw [if_neg hq]
      obtain ⟨ys, h1, h2, h3⟩ := Dk.vic q s' h
      refine ⟨ys, k2 _ _ (fun z => by rw [z, Dk.vics] at h1; cases h1) h1, h2, (h3.mono (hid_same s1)).but hva fun b o hb z => ?_⟩
      obtain ⟨z1, z2⟩ := hid_some.mp z
      exact hid_some.mpr ⟨z1, by rw [hk b hb]; exact z2⟩
/-- what the desk is made of -/
def FpE (D : DLay) (w : SWorld) (b : Addr) : Prop := FpW D w b ∨ b = D.ma ∨ b = D.va ∨ ∃ e s, streamAt w e = some s ∧ b = D.vl e
theorem put_stp {e : Nat} {c : Addr} {st : R7278g.Spec.Stream} {vs' : List Nat} {w' : SWorld} {H1 H2 : Hp} (s1 : Same H H1) (hk : ∀ b, b ≠ D.va → H2 b = H1 b) (hc : H c = none) (hA : ∀ p, memAt w' p = memAt w p) (hst : ∀ q, streamAt w' q = if q = e then some st else streamAt w q) :
    Stp (FpE D w) H (FpE { D with vl := fun q => if q = e then c else D.vl q, vs := vs' } w') H2 := by
  refine ⟨fun b o h n => ?_, fun b h => ?_⟩
  · rw [hk b fun z => n (.inr (.inr (.inl z)))]
    exact s1 b o h
  · rcases h with ⟨p, m, h1, h2⟩ | h | h | ⟨q, s, h1, h2⟩
    · rw [hA] at h1
      exact .inl (.inl ⟨p, m, h1, h2⟩)
    · exact .inl (.inr (.inl h))
    · exact .inl (.inr (.inr (.inl h)))
    · have h2 : b = if q = e then c else D.vl q := h2
      by_cases z : q = e
      · rw [if_pos z] at h2
        rw [h2]
        exact .inr hc
      · rw [if_neg z] at h2
        rw [hst, if_neg z] at h1
        exact .inl (.inr (.inr (.inr ⟨q, s, h1, h2⟩)))
theorem DeskAt.change_stp (Dk : DeskAt K A H d D w) {p i : Nat} {m m' : SMem} {L' : Lay} (hi : memIndex w p = some i) (hm : w.heap[i]? = some m) (st : Stp (Fp (D.LL p) m) H (Fp L' m') H') :
    Stp (FpE D w) H (FpE { D with LL := fun q => if q = p then L' else D.LL q } (heapSet w i m')) H' := by
  refine ⟨fun b o e n => st.keep b o e fun z => n (.inl ⟨p, m, memAt_of hi hm, z⟩), fun b h => ?_⟩
  rcases h with ⟨q, mq, hq, hb⟩ | h | h | h
  · rw [memAt_set hi hm Dk.idx] at hq
    have hb : Fp (if q = p then L' else D.LL q) mq b := hb
    by_cases e : q = p
    · rw [if_pos e] at hq hb
      have : m' = mq := Option.some.inj hq
      subst this
      rcases st.sub b hb with h | h
      · exact .inl (.inl ⟨p, m, memAt_of hi hm, h⟩)
      · exact .inr h
    · rw [if_neg e] at hq hb
      exact .inl (.inl ⟨q, mq, hq, hb⟩)
  · exact .inl (.inr (.inl h))
  · exact .inl (.inr (.inr (.inl h)))
  · exact .inl (.inr (.inr (.inr h)))
theorem DeskAt.new_stp (Dk : DeskAt K A H d D w) {p : Nat} {m : SMem} {L : Lay} {H1 H2 : Hp} {ms' : List Nat} (hp : p < 3) (s1 : Same H H1) (hn : ∀ b, Fp L m b → H b = none) (hk : ∀ b, b ≠ D.ma → H2 b = H1 b) :
    Stp (FpE D w) H (FpE { D with LL := fun q => if q = p then L else D.LL q, ms := ms' } (memsSet w p m)) H2 := by
  have hp3 : p < w.mems.length := by rw [Dk.ln.1]; exact hp
  refine ⟨fun b o e n => by rw [hk b fun z => n (.inr (.inl z))]; exact s1 b o e, fun b h => ?_⟩
  rcases h with ⟨q, mq, hq, hb⟩ | h | h | h
  · rw [memAt_new hp3 Dk.val] at hq
    have hb : Fp (if q = p then L else D.LL q) mq b := hb
    by_cases e : q = p
    · rw [if_pos e] at hq hb
      have : m = mq := Option.some.inj hq
      subst this
      exact .inr (hn b hb)
    · rw [if_neg e] at hq hb
      exact .inl (.inl ⟨q, mq, hq, hb⟩)
  · exact .inl (.inr (.inl h))
  · exact .inl (.inr (.inr (.inl h)))
  · exact .inl (.inr (.inr (.inr h)))
end
end Gm
end

section
set_option maxRecDepth 100000
set_option maxHeartbeats 8000000
/-! # The desk's doors -/
namespace Gm
open PySem PySem.Spec PyProof.Rows L2 L2G GmM
open R7278g.Spec (live kids chain under usage memIndex memAt streamAt newMem)
variable {P : Program} {w : World} {K : PySem.W.Frag} {mg : Str → Option Value} {base : Heap} {A : Ad} {f fI : Addr} {fd : FuncData}
abbrev dskN : List Str := ["memories", "victims"]
section
variable {H : Hp} {d : Addr} {D : DLay} {W : SWorld}
theorem DeskAt.meth {G : Prop} {k : Str} (Dk : DeskAt K A H d D W) (hk : dskN.contains k = false) (q : G) : ∃ a dx fs, (V.ref d : V) = .ref a ∧ H a = some (.ins A.dsk dx fs) ∧ fs.lookup k = none ∧ G :=
  let ⟨dx, e⟩ := Dk.self; ⟨d, dx, _, rfl, e, lk_none hk, q⟩
theorem DeskAt.f_mems {Q : V → Prop} (Dk : DeskAt K A H d D W) (T : Txt K mg A) (q : Q (.ref D.ma)) : FldE K H (V.ref d) "memories" Q :=
  let ⟨_, e⟩ := Dk.self; at_fld e T.c_dsk T.n_dsk_memories (dskF_memories ..) q
theorem DeskAt.f_vics {Q : V → Prop} (Dk : DeskAt K A H d D W) (T : Txt K mg A) (q : Q (.ref D.va)) : FldE K H (V.ref d) "victims" Q :=
  let ⟨_, e⟩ := Dk.self; at_fld e T.c_dsk T.n_dsk_victims (dskF_victims ..) q
end
/-! ### a new desk -/
def spDskI (K : PySem.W.Frag) (A : Ad) : Sp := fun vs H Q _ => ∃ (p dx : Addr), vs = [.ref p] ∧ H p = some (.ins A.dsk dx []) ∧ ∀ D H', DeskAt K A H' p D R7278g.Spec.World.start → (∀ b o, b ≠ p → H b = some o → H' b = some o) → Q .non H'
theorem start_mem (p : Nat) : memIndex R7278g.Spec.World.start p = none := by
  unfold R7278g.Spec.memIndex R7278g.Spec.World.start
  show ([none, none, none] : List (Option Nat)).getD p none = none
  match p with
  | 0 => rfl
  | 1 => rfl
  | 2 => rfl
  | n + 3 => rfl
theorem start_str (p : Nat) : streamAt R7278g.Spec.World.start p = none := by
  unfold R7278g.Spec.streamAt R7278g.Spec.World.start
  show ([none, none] : List (Option R7278g.Spec.Stream)).getD p none = none
  match p with
  | 0 => rfl
  | 1 => rfl
  | n + 2 => rfl
theorem start_at (p : Nat) : memAt R7278g.Spec.World.start p = none := by
  unfold R7278g.Spec.memAt
  rw [start_mem]
  rfl
theorem ok_Desk_init (F : Fun K "__init__" "Desk.__init__" s_Desk_init f fd) (T : Txt K mg A) : FnOk P w K mg base CX0 1 f fd ["self"] (spDskI K A) := by
  refine F.ok sc_Desk_init (fun vs H Q E h => ?_) (fun cdv A' outer s H vs Q E hr h => ⟨_, (pss_cons (ps_fld (L2.pv 0) pe_dnewK rfl)
      (pss_one (ps_fld (L2.pv 0) pe_dnewK rfl))), ?_⟩)
  · obtain ⟨p, dx, rfl, _⟩ := h
    rfl
  · obtain ⟨p, dx, rfl, hp, q⟩ := h
    intro ma hma
    have npa : p ≠ ma := fun z => by rw [z, hma] at hp; cases hp
    refine ⟨_, rfl, at_sfld (by rw [upd_ne npa]; exact hp) T.c_dsk T.n_dsk_memories (by show 0 < 1000; decide) ?_⟩
    intro va hva
    have npv : p ≠ va := fun z => by rw [← z, upd_same] at hva; cases hva
    have nmv : ma ≠ va := fun z => by rw [← z, upd_ne (Ne.symm npa), upd_same] at hva; cases hva
    refine ⟨_, rfl, at_sfld (by rw [upd_ne npv, upd_same]) T.c_dsk T.n_dsk_victims (by show 1 < 1000; decide) ?_⟩
    have e : putF "victims" (.ref va) (putF "memories" (.ref ma) []) = dskF ma va := dskF_new ..
    rw [e]
    have hva0 : H va = none := by rw [← hva, upd_ne (Ne.symm npv), upd_ne (Ne.symm nmv)]
    have noF : ∀ (D : DLay) b, ¬ FpW D R7278g.Spec.World.start b := by
      rintro D b ⟨q, m, hm, _⟩
      rw [start_at] at hm
      cases hm
    refine q ⟨ma, va, fun _ => ⟨0, 0, 0, 0, fun _ => 0, fun _ => 0, fun _ => 0⟩, fun _ => 0, [], []⟩ _ ⟨⟨dx, upd_same⟩, ?_, ?_, fun q => ⟨(fun h => by cases h), (fun ⟨m, h⟩ => ?_)⟩, ⟨List.nodup_nil, (fun q h => by cases h)⟩, fun q m h => ?_, fun a b ma mb h => ?_, fun a b i h => ?_, fun a i h => ?_, noF _ _, noF _ _, noF _ _, nmv, fun q => ⟨(fun h => by cases h), (fun ⟨m, h⟩ => ?_)⟩, ⟨List.nodup_nil, (fun q h => by cases h)⟩, fun e s h => ?_, rfl, rfl⟩ fun b o hb e => ?_
    · show (upd (upd (upd (upd H ma _) p _) va _) p _) ma = _
      rw [upd_ne (Ne.symm npa), upd_ne nmv, upd_ne (Ne.symm npa), upd_same]
      rfl
    · show (upd (upd (upd (upd H ma _) p _) va _) p _) va = _
      rw [upd_ne (Ne.symm npv), upd_same]
      rfl
    · rw [start_at] at h
      cases h
    · rw [start_at] at h
      cases h
    · rw [start_at] at h
      cases h
    · rw [start_mem] at h
      cases h
    · rw [start_mem] at h
      cases h
    · rw [start_str] at h
      cases h
    · rw [start_str] at h
      cases h
    · have n1 : b ≠ ma := fun z => by rw [z, hma] at e; cases e
      have n2 : b ≠ va := fun z => by rw [z, hva0] at e; cases e
      rw [upd_ne hb, upd_ne n2, upd_ne hb, upd_ne n1]
      exact e
/-! ### memory -/
def spDMem (K : PySem.W.Frag) (A : Ad) : Sp := fun vs H Q _ => ∃ (d : Addr) (D : DLay) (W : SWorld) (x : V) (p : Nat) (m : SMem), vs = [.ref d, x] ∧ DeskAt K A H d D W ∧ VAt K H (.int ((p : Nat) : Int)) x ∧ memAt W p = some m ∧ Q (.ref (D.LL p).a) H
theorem ok_Desk_memory (F : Fun K "memory" "Desk.memory" s_Desk_memory f fd) (T : Txt K mg A) (h_need_readable : GF P w K mg base CX0 1 "need_readable" ["truth"] spNeedR) : FnOk P w K mg base CX0 2 f fd ["self", "value"] (spDMem K A) := by
  refine F.ok sc_Desk_memory (fun vs H Q E h => ?_) (fun cdv A' outer s H vs Q E hr h => ⟨_, (pss_cons (ps_expr (pe_gf h_need_readable (hr.mono (by omega)) pass0 (pa_cons (pe_and (pe_cmpR op_eq (pe_ix ix_tup (L2.pv 1) pe_int (fun _ _ => rfl)) pe_str (nomark _)) (pe_one (pe_cmp (pc_din (hu_of hr) (pe_ix ix_tup (L2.pv 1) pe_int (fun _ _ => rfl)) (pe_fld (L2.pv 0) rfl))))) pa_nil)))
      (pss_one (ps_ret (pe_dget (hu_of hr) (pe_fld (L2.pv 0) rfl) (pe_ix ix_tup (L2.pv 1) pe_int (fun _ _ => rfl)) (fun _ _ => rfl))))), ?_⟩)
  · obtain ⟨d, D, W, x, p, m, rfl, _⟩ := h
    rfl
  · obtain ⟨d, D, W, x, p, m, rfl, Dk, hx, hm, q⟩ := h
    cases hx with
    | int ht =>
      rename_i t
      have hp := (Dk.msk p).mpr ⟨m, hm⟩
      refine ⟨_, rfl, t, _, 0, _, rfl, rfl, ht, atI_nat (j := 0) rfl, rfl, _, rfl, ?_⟩
      rw [show decide (V.str "int" = V.str "int") = true from decide_eq_true rfl]
      refine iteT ⟨_, rfl, t, _, 1, _, rfl, rfl, ht, atI_nat (j := 1) rfl, ?_⟩
      refine ⟨_, rfl, Dk.f_mems T ?_⟩
      refine ⟨_, _, rfl, dget_rd (g := p) (.inl Dk.mems), ?_⟩
      rw [kvF_isSome, decide_eq_true hp]
      refine ⟨rfl, ?_⟩
      refine ⟨_, rfl, Dk.f_mems T ?_⟩
      exact ⟨_, rfl, t, _, 1, _, rfl, rfl, ht, atI_nat (j := 1) rfl, _, _, rfl, dget_in (g := p) (.inl Dk.mems) hp, q⟩
/-! ### victims -/
def slotW (v : WVal) : Nat := match v with
  | .int i => i.toNat
  | _ => 0
def iterV (v : WVal) (b : Bool) : WVal := recV [("value", v), ("done", .bool b)]
def nextW (W : SWorld) (e : Nat) (args : List WVal) (rs : List SPage) (en : Bool) : SWorld × WVal := match rs, en with
  | c :: r, false => (strSet W e ⟨r, false⟩, iterV (pgW c) false)
  | [], false => (strSet W e ⟨[], true⟩, iterV .nothing true)
  | _, true => (W, iterV .nothing true)
theorem VAll.tail {H : Hp} : ∀ {l : List WVal} {xs : List V}, VAll K H l xs → VAll K H (l.drop 1) (xs.drop 1)
  | _, _, .nil => .nil
  | _, _, .cons _ r => r
def walkW (W : SWorld) (d : Nat) (args : List WVal) : SWorld × WVal :=
  if d = 16 then match memAt W (slotW (argW args 1)) with
    | some m => (strSet W (slotW (argW args 0)) ⟨m.mayTake m.hard, false⟩, .nothing)
    | none => (W, .nothing)
  else match streamAt W (slotW (argW args 0)) with
    | none => (W, .nothing)
    | some s => if d = 18 then (strSet W (slotW (argW args 0)) ⟨s.rest, true⟩, iterV (argW args 1) true)
      else nextW W (slotW (argW args 0)) args s.rest s.ended
structure WalkOk (W : SWorld) (d : Nat) (args : List WVal) (e : Nat) : Prop where
  door : d = 16 ∨ d = 17 ∨ d = 18
  slot : argW args 0 = .int ((e : Nat) : Int)
  lt : e < 2
  len : (if d = 17 then 1 else 2) ≤ args.length
  mem : d = 16 → ∃ p m, argW args 1 = .int ((p : Nat) : Int) ∧ memAt W p = some m
  str : d ≠ 16 → ∃ s, streamAt W e = some s
def spWalk (K : PySem.W.Frag) (A : Ad) : Sp := fun vs H Q _ => ∃ (d : Addr) (D : DLay) (W : SWorld) (dn e : Nat) (aa : Addr) (args : List WVal), vs = [.ref d, nV dn, .ref aa] ∧ DeskAt K A H d D W ∧ ArgsAt K H aa args ∧ WalkOk W dn args e ∧
  ∀ x D' H', DeskAt K A H' d D' (walkW W dn args).1 → Stp (FpE D W) H (FpE D' (walkW W dn args).1) H' → VAt K H' (walkW W dn args).2 x → Q x H'
theorem dput_any {H : Hp} {a : Addr} {l : List Nat} {f : Nat → V} {g : Nat} {v : V} (e : H a = some (.dK (kvF l f))) (hl : l.length ≤ 1000) : DPut H a (nV g) v (upd H a (.dK (kvF (if g ∈ l then l else l ++ [g]) fun x => if x = g then v else f x))) := by
  by_cases h : g ∈ l
  · rw [if_pos h]
    exact dput_in e h hl
  · rw [if_neg h]
    exact dput_new e h hl
theorem kvF_ref {l : List Nat} {f : Nat → Addr} {g : Nat} {a : Addr} : kvF l (fun x => if x = g then V.ref a else V.ref (f x)) = kvF l fun x => V.ref (if x = g then a else f x) := kvF_congr fun x _ => by
  by_cases h : x = g
  · rw [if_pos h, if_pos h]
  · rw [if_neg h, if_neg h]
theorem nodup_lt {l : List Nat} {n : Nat} (h : l.Nodup ∧ ∀ x ∈ l, x < n) : l.length ≤ n := nodup_le n l h.1 h.2
theorem stream_len {W : SWorld} {e : Nat} {s : R7278g.Spec.Stream} : (strSet W e s).streams.length = W.streams.length := by
  show (W.streams.set e (some s)).length = _
  rw [List.length_set]
theorem ret_of {te : TE} {D : Ends} {σ : L2.St} {H : Hp} (h : te σ H D.rt) : tRet te D σ H := h
theorem next_of {D : Ends} {σ : L2.St} {H : Hp} (h : D.nx σ H) : tNext D σ H := h
theorem ok_Desk_walk (F : Fun K "walk" "Desk.walk" s_Desk_walk f fd) (T : Txt K mg A) (h_need_readable : GF P w K mg base CX0 1 "need_readable" ["truth"] spNeedR) (h_is_int : GF P w K mg base CX0 1 "is_int" ["value", "low", "high"] (spIsInt K))
    (h_Desk_memory : GM P w K mg base CX0 2 A.dsk "memory" ["self", "value"] (spDMem K A)) (h_page_value : GF P w K mg base CX0 3 "page_value" ["page"] (spPageVal K A)) (h_v_record : GF P w K mg base CX0 2 "v_record" ["pairs"] (spVRec K))
    (h_Memory_may_be_taken : GM P w K mg base CX0 3 A.mem "may_be_taken" ["self", "protections"] (spMay K A)) (h_Memory_hard : GM P w K mg base CX0 4 A.mem "hard" ["self"] (spProt K A R7278g.Spec.Mem.hard)) :
    FnOk P w K mg base CX0 6 f fd ["self", "number", "arguments"] (spWalk K A) := by
  refine F.ok sc_Desk_walk (fun vs H Q E h => ?_) (fun cdv A' outer s H vs Q E hr h => ⟨_, (pss_cons (ps_expr (pe_gf h_need_readable (hr.mono (by omega)) pass0 (pa_cons (pe_gf h_is_int (hr.mono (by omega)) pass0 (pa_cons (pe_ix ix_list (L2.pv 2) pe_int (fun _ _ => rfl)) (pa_cons pe_int (pa_cons (pe_op op_sub (pe_gl T.g_MANY_VICTIMS) pe_int) pa_nil)))) pa_nil)))
      (pss_cons (ps_set (i := 3) sc_Desk_walk.nd rfl (Or.inl rfl) (pe_ix ix_tup (pe_ix ix_list (L2.pv 2) pe_int (fun _ _ => rfl)) pe_int (fun _ _ => rfl)))
      (pss_cons (ps_if (pt_cmpR op_eq (L2.pv 1) pe_int (nomark _)) (pss_cons (ps_set (i := 4) sc_Desk_walk.nd rfl (Or.inl rfl) (pe_gm h_Desk_memory T.c_dsk (hr.mono (by omega)) pass0 (L2.pv 0) (pa_cons (pe_ix ix_list (L2.pv 2) pe_int (fun _ _ => rfl)) pa_nil)))
      (pss_cons (ps_dput (hu_of hr) (pe_fld (L2.pv 0) rfl) (L2.pv 3) (pe_lc (own := [("page", 6)]) (g := (gName 6)) (tt := tYes) (te := (tCall _ [] _ (tCons (tVar 6) tNil))) rfl sc_Desk_walk.nd (pi_list (pe_gm h_Memory_may_be_taken T.c_mem (hr.mono (by omega)) pass0 (L2.pv 4) (pa_cons (pe_gm0 h_Memory_hard T.c_mem (hr.mono (by omega)) pass0 (L2.pv 4)) pa_nil))) (blkOk_by (N := N_Desk_walk) (sc := defScope s_Desk_walk) (by decide +kernel)) (fun _ _ _ _ _ => (pg_name (i := 6) sc_Desk_walk.nd rfl (Or.inl rfl))) (fun _ _ _ _ _ => pts_nil) (fun _ _ _ _ _ => (pe_gf h_page_value (hr.mono (by omega)) pass0 (pa_cons (L2.pv 6) pa_nil)))) rfl)
      (pss_one (ps_ret (pe_gl T.g_NOTHING))))) pss_nil)
      (pss_cons (ps_expr (pe_gf h_need_readable (hr.mono (by omega)) pass0 (pa_cons (pe_cmp (pc_din (hu_of hr) (L2.pv 3) (pe_fld (L2.pv 0) rfl))) pa_nil)))
      (pss_cons (ps_set (i := 5) sc_Desk_walk.nd rfl (Or.inl rfl) (pe_dget (hu_of hr) (pe_fld (L2.pv 0) rfl) (L2.pv 3) (fun _ _ => rfl)))
      (pss_cons (ps_if (pt_cmpR op_eq (L2.pv 1) pe_int (nomark _)) (pss_cons (ps_dput (hu_of hr) (pe_fld (L2.pv 0) rfl) (L2.pv 3) (pe_lst pa_nil) rfl)
      (pss_one (ps_ret (pe_gf h_v_record (hr.mono (by omega)) pass0 (pa_cons (pe_lst (pa_cons (pe_tup (pa_cons pe_str (pa_cons (pe_ix ix_list (L2.pv 2) pe_int (fun _ _ => rfl)) pa_nil))) (pa_cons (pe_tup (pa_cons pe_str (pa_cons (pe_gl T.g_YES) pa_nil))) pa_nil))) pa_nil))))) pss_nil)
      (pss_cons (ps_dput (hu_of hr) (pe_fld (L2.pv 0) rfl) (L2.pv 3) (pe_slice sl_list (L2.pv 5) (po_some pe_int) po_none) rfl)
      (pss_cons (ps_if (pt_cmpR op_eq (pe_callB call_len_seq (by rfl) T.b_len PySem.boot_len (pa_cons (L2.pv 5) pa_nil)) pe_int (nomark _)) (pss_one (ps_ret (pe_gf h_v_record (hr.mono (by omega)) pass0 (pa_cons (pe_lst (pa_cons (pe_tup (pa_cons pe_str (pa_cons (pe_gl T.g_NOTHING) pa_nil))) (pa_cons (pe_tup (pa_cons pe_str (pa_cons (pe_gl T.g_YES) pa_nil))) pa_nil))) pa_nil)))) pss_nil)
      (pss_one (ps_ret (pe_gf h_v_record (hr.mono (by omega)) pass0 (pa_cons (pe_lst (pa_cons (pe_tup (pa_cons pe_str (pa_cons (pe_ix ix_list (L2.pv 5) pe_int (fun _ _ => rfl)) pa_nil))) (pa_cons (pe_tup (pa_cons pe_str (pa_cons (pe_gl T.g_NO) pa_nil))) pa_nil))) pa_nil)))))))))))), ?_⟩)
  · obtain ⟨d, D, W, dn, e, aa, args, rfl, _⟩ := h
    rfl
  · obtain ⟨d, D, W, dn, e, aa, args, rfl, Dk, hA, ok, q⟩ := h
    obtain ⟨hdoor, hslot, hlt, hlen, hmem, hstr⟩ := ok
    have c16 : decide (nV dn = V.int 16) = decide (dn = 16) := @dec_nV dn 16
    have c18 : decide (nV dn = V.int 18) = decide (dn = 18) := @dec_nV dn 18
    have one : 1 ≤ args.length := by
      by_cases h : dn = 17
      · rw [if_pos h] at hlen
        exact hlen
      · rw [if_neg h] at hlen
        omega
    obtain ⟨x0, xs, ea, e0, v0⟩ := hA.get (i := 0) (by omega)
    have hs0 : slotW (argW args 0) = e := by
      rw [hslot]
      show ((e : Nat) : Int).toNat = e
      omega
    rw [hslot] at v0
    have hle : W.streams.length = 2 := Dk.ln.2
    have hvl := nodup_lt Dk.vsl
    refine ⟨_, rfl, aa, _, 0, _, rfl, rfl, sq ea, atI_nat (j := 0) e0, _, _, rfl, rfl, x0, _, 0, 1, rfl, v0, ?_⟩
    have eis : isIntV (.int ((e : Nat) : Int)) 0 1 = true := by
      show (decide ((0 : Int) ≤ (e : Int)) && decide ((e : Int) ≤ 1)) = true
      rw [decide_eq_true (by omega), decide_eq_true (by omega)]
      rfl
    rw [eis]
    refine ⟨rfl, ?_⟩
    cases v0 with
    | int ht0 =>
      rename_i t0
      refine ⟨_, rfl, aa, _, 0, _, rfl, rfl, sq ea, atI_nat (j := 0) e0, t0, _, 1, _, rfl, rfl, ht0, atI_nat (j := 1) rfl, ?_⟩
      refine ⟨_, rfl, rfl, _, rfl, ?_⟩
      rw [c16]
      by_cases h16 : dn = 16
      · subst h16
        rw [decide_eq_true rfl]
        obtain ⟨p, m, hp, hm⟩ := hmem rfl
        have hw : walkW W 16 args = (strSet W e ⟨m.mayTake m.hard, false⟩, .nothing) := by
          unfold walkW
          rw [if_pos rfl, hp, hs0]
          show (match memAt W ((p : Nat) : Int).toNat with | some m => _ | none => _) = _
          rw [Int.toNat_natCast, hm]
        rw [hw] at q
        obtain ⟨x1, xs1, ea1, e1, v1⟩ := hA.get (i := 1) (by have : 2 ≤ args.length := hlen; omega)
        rw [hp] at v1
        refine iteT ⟨_, rfl, Dk.meth (by decide +kernel) ⟨_, rfl, aa, _, 1, _, rfl, rfl, sq ea1, atI_nat (j := 1) e1, d, D, W, x1, p, m, rfl, Dk, v1, hm, ?_⟩⟩
        have M := Dk.mem p m hm
        refine ⟨_, rfl, M.meth (by decide +kernel) ⟨_, rfl, M.meth (by decide +kernel) ⟨D.LL p, m, rfl, M, fun ks a H1 nd1 k1 s1 ha0 ha => ?_⟩⟩⟩
        have M1 := M.mono s1
        refine ⟨D.LL p, m, a, ks, m.hard, rfl, M1, ha, fun g h => (k1 g).mp h, fun b H2 s2 hb0 hb => ?_⟩
        have s3 := s1.trans s2
        have M2 := M.mono s3
        have two := @mayTake_sub m m.hard
        refine ⟨b, rfl, ⟨_, sq hb⟩, fun Dl hDl => ?_⟩
        have trk2 := Dk.trk.mono s3
        refine pagesV_rows (F := FpW D W) hDl hb (Nat.le_trans two.2 M.wf.np) trk2 (fun p' H3 hp' s4 ⟨ys, hDs⟩ Y hY => ?_) (fun x σ0 H Q Q' h q => h _ _ q) (fun H3 ys s4 e3 hV => ?_)
        · obtain ⟨dx, ep⟩ := (M2.mono s4).page p' (two.1 p' hp')
          refine ⟨rfl, yes (N := fun _ => False) ?_⟩
          refine ⟨_, rfl, _, dx, p'.id, p'.group, p'.state, (fun b => FpW D W b ∨ b = Dl), rfl, ep, ?_, hY⟩
          rintro b (hb | hb)
          · exact (trk2.mono s4) b hb
          · rw [hb, hDs]
            exact fun z => by cases z
        · have s5 := s3.trans s4
          have Dk3 := Dk.mono s5
          have hDl0 : ¬ FpW D W Dl := fun h => trk2 Dl h hDl
          refine ⟨_, rfl, Dk3.f_vics T ?_⟩
          refine ⟨_, rfl, D.va, _, rfl, dput_any Dk3.vics (by omega), ?_⟩
          refine q _ _ _ (Dk.put hlt s5 e3 hDl0 (s := ⟨m.mayTake m.hard, false⟩) hV (fun p => rfl) rfl (fun q => streamAt_set (by rw [hle]; exact hlt)) ⟨Dk.ln.1, by rw [stream_len]; exact hle⟩ ?_ (fun b hb => upd_ne hb)) (put_stp s5 (fun b hb => upd_ne hb) (s3.free hDl) (fun _ => rfl) (fun q => streamAt_set (by rw [hle]; exact hlt))) (.nothing (T.q_NOTHING.at _))
          rw [upd_same, kvF_ref]
      · rw [decide_eq_false h16]
        obtain ⟨st, hst⟩ := hstr h16
        have hev := (Dk.vsk e).mpr ⟨st, hst⟩
        obtain ⟨ys, hy1, hy2, hy3⟩ := Dk.vic e st hst
        refine iteF ⟨_, rfl, _, rfl, Dk.f_vics T ?_⟩
        refine ⟨_, _, rfl, dget_rd (g := e) (.inl Dk.vics), ?_⟩
        rw [kvF_isSome, decide_eq_true hev]
        refine ⟨rfl, ?_⟩
        refine ⟨_, rfl, Dk.f_vics T ?_⟩
        refine ⟨_, rfl, _, _, rfl, dget_in (g := e) (.inl Dk.vics) hev, ?_⟩
        refine ⟨_, rfl, rfl, _, rfl, ?_⟩
        rw [c18]
        by_cases h18 : dn = 18
        · subst h18
          rw [decide_eq_true rfl]
          have hw : walkW W 18 args = (strSet W e ⟨st.rest, true⟩, iterV (argW args 1) true) := by
            unfold walkW
            rw [if_neg (by decide), hs0, hst]
            rfl
          rw [hw] at q
          obtain ⟨x1, xs1, ea1, e1, v1⟩ := hA.get (i := 1) (by have : 2 ≤ args.length := hlen; omega)
          refine iteT ⟨Nat.zero_le _, fun c hc => ?_⟩
          have s1 := Same.new (o := .lst []) hc
          have Dk1 := Dk.mono s1
          refine ⟨_, rfl, Dk1.f_vics T ?_⟩
          refine ⟨_, rfl, D.va, _, rfl, dput_any Dk1.vics (by omega), ?_⟩
          have hcF : ¬ FpW D W c := fun h => Dk.trk c h hc
          have Dk2 := Dk.put (w' := strSet W e ⟨st.rest, true⟩) (H2 := upd (upd H c (.lst [])) D.va (.dK (kvF (if e ∈ D.vs then D.vs else D.vs ++ [e]) fun x => if x = e then V.ref c else V.ref (D.vl x)))) hlt s1 upd_same hcF (s := ⟨st.rest, true⟩) .nil (fun p => rfl) rfl (fun q => streamAt_set (by rw [hle]; exact hlt)) ⟨Dk.ln.1, by rw [stream_len]; exact hle⟩ (by rw [upd_same, kvF_ref]) (fun b hb => upd_ne hb)
          have va1 := Dk1.vics
          have st2 : Stp (FpE D W) H (FpE { D with vl := fun q => if q = e then c else D.vl q, vs := if e ∈ D.vs then D.vs else D.vs ++ [e] } (strSet W e ⟨st.rest, true⟩)) (upd (upd H c (.lst [])) D.va (.dK (kvF (if e ∈ D.vs then D.vs else D.vs ++ [e]) fun x => if x = e then V.ref c else V.ref (D.vl x)))) := put_stp s1 (fun b hb => upd_ne hb) hc (fun _ => rfl) (fun q => streamAt_set (by rw [hle]; exact hlt))
          have hva : ∀ b o, b ≠ D.va → H b = some o → (upd (upd H c (.lst [])) D.va (.dK (kvF (if e ∈ D.vs then D.vs else D.vs ++ [e]) fun x => if x = e then V.ref c else V.ref (D.vl x)))) b = some o := fun b o hb e => by
            rw [upd_ne hb]
            exact s1 b o e
          have ea1' := hva _ _ (fun z => by have := Dk.vics; rw [← z, ea1] at this; cases this) ea1
          have v1' : VAt K (upd (upd H c (.lst [])) D.va (.dK (kvF (if e ∈ D.vs then D.vs else D.vs ++ [e]) fun x => if x = e then V.ref c else V.ref (D.vl x)))) (argW args 1) x1 := by
            have := VAll.but (K := K) (a := D.va) (fun o e => by have := Dk.vics; rw [e] at this; exact ⟨_, Option.some.inj this⟩) hva (.cons v1 .nil)
            cases this with
            | cons h _ => exact h
          generalize (upd (upd H c (.lst [])) D.va (.dK (kvF (if e ∈ D.vs then D.vs else D.vs ++ [e]) fun x => if x = e then V.ref c else V.ref (D.vl x)))) = H2 at *
          dsimp only
          refine ret_of ?_
          refine (rec2 (F := noF) (v1 := argW args 1) (v2 := .bool true) (trk_no _) (by decide +kernel) (fun Q1 h => ⟨_, rfl, aa, _, 1, _, rfl, rfl, sq ea1', atI_nat (j := 1) e1, h x1 _ (Same.refl _) (v1'.mono (hid_no _))⟩) (fun H' s' Q1 h => h _ _ (Same.refl _) (.yes (T.q_YES.at _))) fun x H' s' hx => ?_)
          exact q x _ H' (Dk2.mono s') (st2.after s') (hx.mono (hid_un _ _))
        · rw [decide_eq_false h18]
          have h17 : dn = 17 := by omega
          subst h17
          have hlen_ys : (rowsOf st).length = ys.length := by
            have := hy3.len
            rwa [List.length_map] at this
          have hVun := hy3.mono (hid_un _ _)
          refine iteF ⟨_, rfl, 1, rfl, _, _, rfl, sq hy1, fun c hc => ?_⟩
          have ecut : cutV ys (some 1) none = ys.drop 1 := by
            unfold cutV
            have : HT.sIx ys.length 0 (some 1) = min 1 ys.length := HT.sIx_nat _ _ 1
            rw [this, HT.sIx_none]
            cases ys with
            | nil => rfl
            | cons a r =>
              have : min 1 (a :: r).length = 1 := Nat.min_eq_left (by rw [List.length_cons]; omega)
              rw [this, List.length_cons, Nat.add_sub_cancel, List.drop_succ_cons, List.drop_zero, List.take_length]
          rw [ecut]
          have s1 := Same.new (o := .lst (ys.drop 1)) hc
          have Dk1 := Dk.mono s1
          have hcF : ¬ FpW D W c := fun h => Dk.trk c h hc
          refine ⟨_, rfl, Dk1.f_vics T ?_⟩
          refine ⟨_, rfl, D.va, _, rfl, dput_any Dk1.vics (by omega), ?_⟩
          have hva : ∀ b o, b ≠ D.va → H b = some o → (upd (upd H c (.lst (ys.drop 1))) D.va (.dK (kvF (if e ∈ D.vs then D.vs else D.vs ++ [e]) fun x => if x = e then V.ref c else V.ref (D.vl x)))) b = some o := fun b o hb e => by
            rw [upd_ne hb]
            exact s1 b o e
          have hy1' := hva _ _ (fun z => by have := Dk.vics; rw [← z, hy1] at this; cases this) hy1
          have hV' : VAll K (upd (upd H c (.lst (ys.drop 1))) D.va (.dK (kvF (if e ∈ D.vs then D.vs else D.vs ++ [e]) fun x => if x = e then V.ref c else V.ref (D.vl x)))) ((rowsOf st).map pgW) ys :=
            VAll.but (a := D.va) (fun o e => by have := Dk.vics; rw [e] at this; exact ⟨_, Option.some.inj this⟩) hva hVun
          have put : ∀ (s' : R7278g.Spec.Stream) (W' : SWorld), rowsOf s' = (rowsOf st).drop 1 → (∀ p, memIndex W' p = memIndex W p) → W'.heap = W.heap → (∀ q, streamAt W' q = if q = e then some s' else streamAt W q) → (W'.mems.length = 3 ∧ W'.streams.length = 2) →
              DeskAt K A (upd (upd H c (.lst (ys.drop 1))) D.va (.dK (kvF (if e ∈ D.vs then D.vs else D.vs ++ [e]) fun x => if x = e then V.ref c else V.ref (D.vl x)))) d { D with vl := fun q => if q = e then c else D.vl q, vs := if e ∈ D.vs then D.vs else D.vs ++ [e] } W' ∧ Stp (FpE D W) H (FpE { D with vl := fun q => if q = e then c else D.vl q, vs := if e ∈ D.vs then D.vs else D.vs ++ [e] } W') (upd (upd H c (.lst (ys.drop 1))) D.va (.dK (kvF (if e ∈ D.vs then D.vs else D.vs ++ [e]) fun x => if x = e then V.ref c else V.ref (D.vl x)))) := by
            intro s' W' hr h1 h2 h3 h4
            refine ⟨?_, put_stp s1 (fun b hb => upd_ne hb) hc (fun p => by unfold R7278g.Spec.memAt; rw [h1, h2]) h3⟩
            refine Dk.put hlt s1 upd_same hcF (s := s') ?_ h1 h2 h3 h4 (by rw [upd_same, kvF_ref]) (fun b hb => upd_ne hb)
            rw [hr, List.map_drop]
            exact (hy3.mono (hid_same (F := FpW D W) s1)).tail
          generalize (upd (upd H c (.lst (ys.drop 1))) D.va (.dK (kvF (if e ∈ D.vs then D.vs else D.vs ++ [e]) fun x => if x = e then V.ref c else V.ref (D.vl x)))) = H2 at *
          refine ⟨_, rfl, _, _, rfl, .inl (sq hy1'), rfl, _, rfl, ?_⟩
          rw [← hlen_ys]
          have cz : decide (V.int (((rowsOf st).length : Nat) : Int) = V.int 0) = decide ((rowsOf st).length = 0) := @dec_nV (rowsOf st).length 0
          rw [cz]
          obtain ⟨rs, en⟩ := st
          have hw0 : walkW W 17 args = nextW W e args rs en := by
            unfold walkW
            rw [if_neg (by decide), hs0, hst]
            rfl
          rw [hw0] at q
          have sst : ∀ s' q, streamAt (strSet W e s') q = if q = e then some s' else streamAt W q := fun s' q => streamAt_set (by rw [hle]; exact hlt)
          have sln : ∀ s', (strSet W e s').mems.length = 3 ∧ (strSet W e s').streams.length = 2 := fun s' => ⟨Dk.ln.1, by rw [stream_len]; exact hle⟩
          have empty : ∀ (W' : SWorld), (∀ x D' H', DeskAt K A H' d D' W' → Stp (FpE D W) H (FpE D' W') H' → VAt K H' (iterV .nothing true) x → Q x H') → (rowsOf ⟨rs, en⟩).length = 0 → DeskAt K A H2 d { D with vl := fun q => if q = e then c else D.vl q, vs := if e ∈ D.vs then D.vs else D.vs ++ [e] } W' ∧ Stp (FpE D W) H (FpE { D with vl := fun q => if q = e then c else D.vl q, vs := if e ∈ D.vs then D.vs else D.vs ++ [e] } W') H2 →
              tCall (spVRec K) [] E0 (tCons (tLst (tCons (tTup (tCons (tC (.str "value")) (tCons (tC (.ref A.tNOTHING)) tNil))) (tCons (tTup (tCons (tC (.str "done")) (tCons (tC (.ref A.tYES)) tNil))) tNil))) tNil) [some (.ref d), some (nV 17), some (.ref aa), some (nV e), none, some (.ref (D.vl e)), none] H2 Q := by
            intro W' q' _ Dk'
            refine rec2 (F := noF) (v1 := .nothing) (v2 := .bool true) (trk_no _) (by decide +kernel) (fun Q1 h => h _ _ (Same.refl _) (.nothing (T.q_NOTHING.at _))) (fun H' s' Q1 h => h _ _ (Same.refl _) (.yes (T.q_YES.at _))) fun x H' s' hx => ?_
            exact q' x _ H' (Dk'.1.mono s') (Dk'.2.after s') (hx.mono (hid_un _ _))
          cases en with
          | true =>
            have hr0 : (rowsOf ⟨rs, true⟩).length = 0 := rfl
            have q : ∀ x D' H', DeskAt K A H' d D' W → Stp (FpE D W) H (FpE D' W) H' → VAt K H' (iterV .nothing true) x → Q x H' := by
              cases rs <;> exact q
            rw [decide_eq_true hr0]
            exact iteT (empty W q hr0 (put ⟨rs, true⟩ W rfl (fun p => rfl) rfl (fun q => by
              by_cases h : q = e
              · rw [if_pos h, h, hst]
              · rw [if_neg h]) Dk.ln))
          | false =>
            cases rs with
            | nil =>
              have hr0 : (rowsOf ⟨[], false⟩).length = 0 := rfl
              rw [decide_eq_true hr0]
              exact iteT (empty _ q hr0 (put ⟨[], true⟩ _ rfl (fun p => rfl) rfl (sst _) (sln _)))
            | cons c0 r =>
              have hr0 : ¬ (rowsOf ⟨c0 :: r, false⟩).length = 0 := by
                show ¬ (c0 :: r).length = 0
                rw [List.length_cons]
                omega
              rw [decide_eq_false hr0]
              have Dk2 := put ⟨r, false⟩ (strSet W e ⟨r, false⟩) rfl (fun p => rfl) rfl (sst _) (sln _)
              have hV' : VAll K H2 ((c0 :: r).map pgW) ys := hV'
              cases hV' with
              | cons hx0 hxr =>
                rename_i y0 yr
                refine iteF ?_
                refine next_of ?_
                dsimp only
                refine ret_of ?_
                refine (rec2 (F := noF) (v1 := pgW c0) (v2 := .bool false) (trk_no _) (by decide +kernel) (fun Q1 h => ⟨_, rfl, D.vl e, _, 0, _, rfl, rfl, sq hy1', atI_nat (j := 0) rfl, h y0 _ (Same.refl _) (hx0.mono (hid_no _))⟩) (fun H' s' Q1 h => h _ _ (Same.refl _) (.no (T.q_NO.at _))) fun x H' s' hx => ?_)
                exact q x _ H' (Dk2.1.mono s') (Dk2.2.after s') (hx.mono (hid_un _ _))
end Gm
end

section
set_option maxRecDepth 100000
set_option maxHeartbeats 8000000
/-! # One call is answered -/
namespace Gm
open PySem PySem.Spec PyProof.Rows L2 L2G GmM
open R7278g.Spec (live kids chain under usage memIndex memAt streamAt)
variable {P : Program} {w : World} {K : PySem.W.Frag} {mg : Str → Option Value} {base : Heap} {A : Ad} {f fI : Addr} {fd : FuncData}
def stepW (W : SWorld) (dn : Nat) (args : List WVal) : SWorld × Out WVal :=
  if dn = 0 then match limE (argW args 1) with
    | .error e => (W, .error e)
    | .ok l => (memsSet W (slotW (argW args 0)) (R7278g.Spec.newMem l.1 l.2.1 l.2.2), .ok .nothing)
  else if 15 < dn then ((walkW W dn args).1, .ok (walkW W dn args).2)
  else match memIndex W (slotW (argW args 0)) with
    | none => (W, .ok .nothing)
    | some i => match W.heap[i]? with
      | none => (W, .ok .nothing)
      | some m => if dn < 11 then match (if dn < 5 then groupsW dn m args else pagesW dn m args) with
          | .error e => (W, .error e)
          | .ok r => (heapSet W i r.2, .ok r.1)
        else (W, askW dn m args)
def argN (dn : Nat) : Nat := [2, 3, 3, 2, 3, 3, 3, 2, 2, 3, 2, 3, 2, 2, 1, 1, 2, 1, 2].getD dn 0
structure StepOk (W : SWorld) (dn : Nat) (args : List WVal) (p : Nat) : Prop where
  le : dn ≤ 18
  slot : argW args 0 = .int ((p : Nat) : Int)
  new : dn = 0 → p < 3
  mem : 1 ≤ dn → dn ≤ 15 → ∃ m, memAt W p = some m
  walk : 15 < dn → WalkOk W dn args p
  len : args.length = argN dn
  dep : 5 ≤ dn → dn ≤ 10 → (datW (argW args 2)).depth ≤ 64
def StepAt (K : PySem.W.Frag) (A : Ad) (H : Hp) (d : Addr) (F : Addr → Prop) (E : XK) (Q : VK) (r : SWorld × Out WVal) : Prop := match r.2 with
  | .error e => Rais A H E e.1 e.2
  | .ok v => ∀ x D' H', DeskAt K A H' d D' r.1 → Stp F H (FpE D' r.1) H' → VAt K H' v x → Q x H'
def spAnswer (K : PySem.W.Frag) (A : Ad) : Sp := fun vs H Q E => ∃ (d : Addr) (D : DLay) (W : SWorld) (dn p : Nat) (aa : Addr) (args : List WVal), vs = [.ref d, nV dn, .ref aa] ∧ DeskAt K A H d D W ∧ ArgsAt K H aa args ∧ StepOk W dn args p ∧ StepAt K A H d (FpE D W) E Q (stepW W dn args)
theorem argN_pos {dn : Nat} (h : dn ≤ 18) : 1 ≤ argN dn := by
  have : ∀ n : Fin 19, 1 ≤ argN n.val := by decide
  exact this ⟨dn, by omega⟩
theorem argN_groups {dn : Nat} (h1 : 1 ≤ dn) (h : dn ≤ 4) : (if dn = 3 then 2 else 3) ≤ argN dn := by
  rcases (by omega : dn = 1 ∨ dn = 2 ∨ dn = 3 ∨ dn = 4) with rfl | rfl | rfl | rfl <;> decide
theorem argN_pages {dn : Nat} (h1 : 5 ≤ dn) (h : dn ≤ 10) : (if dn = 5 ∨ dn = 6 ∨ dn = 9 then 3 else 2) ≤ argN dn := by
  rcases (by omega : dn = 5 ∨ dn = 6 ∨ dn = 7 ∨ dn = 8 ∨ dn = 9 ∨ dn = 10) with rfl | rfl | rfl | rfl | rfl | rfl <;> decide
theorem argN_ask {dn : Nat} (h1 : 11 ≤ dn) (h : dn ≤ 15) : (if dn = 11 then 3 else if dn ≤ 13 then 2 else 1) ≤ argN dn := by
  rcases (by omega : dn = 11 ∨ dn = 12 ∨ dn = 13 ∨ dn = 14 ∨ dn = 15) with rfl | rfl | rfl | rfl | rfl <;> decide
theorem ok_Desk_answer (F : Fun K "answer" "Desk.answer" s_Desk_answer f fd) (T : Txt K mg A) (h_need_readable : GF P w K mg base CX0 1 "need_readable" ["truth"] spNeedR) (h_is_int : GF P w K mg base CX0 1 "is_int" ["value", "low", "high"] (spIsInt K))
    (h_limits_in : GF P w K mg base (L2N.CX P w) 3 "limits_in" ["value"] (spLimIn K A)) (h_Memory : GC P w K mg base CX0 3 "Memory" A.mem ["self", "limits"] (spMemI K A)) (h_Desk_walk : GM P w K mg base CX0 6 A.dsk "walk" ["self", "number", "arguments"] (spWalk K A))
    (h_Desk_memory : GM P w K mg base CX0 2 A.dsk "memory" ["self", "value"] (spDMem K A))
    (h_change_groups : GF P w K mg base (L2N.CX P w) 8 "change_groups" ["memory", "number", "arguments"] (spDoorM K A (fun d => decide (1 ≤ d) && decide (d ≤ 4)) (fun d => if d = 3 then 2 else 3) groupsW))
    (h_change_pages : GF P w K mg base (L2N.CX P w) 8 "change_pages" ["memory", "number", "arguments"] (fun vs H Q E => ∃ (L : Lay) (m : SMem) (d : Nat) (aa : Addr) (args : List WVal), vs = [.ref L.a, nV d, .ref aa] ∧ MemAt K A H L m ∧ 5 ≤ d ∧ d ≤ 10 ∧ ArgsAt K H aa args ∧ (if d = 5 ∨ d = 6 ∨ d = 9 then 3 else 2) ≤ args.length ∧ (datW (argW args 2)).depth ≤ 64 ∧ OutAt K A H L m E Q (pagesW d m args)))
    (h_ask : GF P w K mg base (L2N.CX P w) 8 "ask" ["memory", "number", "arguments"] (fun vs H Q E => ∃ (L : Lay) (m : SMem) (d : Nat) (aa : Addr) (args : List WVal), vs = [.ref L.a, nV d, .ref aa] ∧ MemAt K A H L m ∧ 11 ≤ d ∧ d ≤ 15 ∧ ArgsAt K H aa args ∧ (if d = 11 then 3 else if d ≤ 13 then 2 else 1) ≤ args.length ∧ OutV K A H E Q (askW d m args))) :
    FnOk P w K mg base (L2N.CX P w) 9 f fd ["self", "number", "arguments"] (spAnswer K A) := by
  refine okN F sc_Desk_answer (fun vs H Q E h => ?_) (fun cdv A' outer s H vs Q E hr h => ⟨_, (pss_cons (ps_if (pt_cmpR op_eq (L2.pv 1) pe_int (nomark _)) (pss_cons (ps_expr (pe_gf h_need_readable (hr.mono (by omega)) pass0 (pa_cons (pe_gf h_is_int (hr.mono (by omega)) pass0 (pa_cons (pe_ix ix_list (L2.pv 2) pe_int (fun _ _ => rfl)) (pa_cons pe_int (pa_cons (pe_op op_sub (pe_gl T.g_MANY_MEMORIES) pe_int) pa_nil)))) pa_nil)))
      (pss_cons (ps_dput (hu_of hr) (pe_fld (L2.pv 0) rfl) (pe_ix ix_tup (pe_ix ix_list (L2.pv 2) pe_int (fun _ _ => rfl)) pe_int (fun _ _ => rfl)) (pe_gc h_Memory (hr.mono (by omega)) pass0 (pa_cons (pe_gf h_limits_in (hr.mono (by omega)) (passN (L2N.takes_of rfl rfl rfl rfl)) (pa_cons (pe_ix ix_list (L2.pv 2) pe_int (fun _ _ => rfl)) pa_nil)) pa_nil)) rfl)
      (pss_one (ps_ret (pe_gl T.g_NOTHING))))) pss_nil)
      (pss_cons (ps_if (pt_cmpR op_gt (L2.pv 1) pe_int (nomark _)) (pss_one (ps_ret (pe_gm h_Desk_walk T.c_dsk (hr.mono (by omega)) pass0 (L2.pv 0) (pa_cons (L2.pv 1) (pa_cons (L2.pv 2) pa_nil))))) pss_nil)
      (pss_cons (ps_set (i := 3) sc_Desk_answer.nd rfl (Or.inl rfl) (pe_gm h_Desk_memory T.c_dsk (hr.mono (by omega)) pass0 (L2.pv 0) (pa_cons (pe_ix ix_list (L2.pv 2) pe_int (fun _ _ => rfl)) pa_nil)))
      (pss_cons (ps_if (pt_cmpR op_lt (L2.pv 1) pe_int (nomark _)) (pss_one (ps_ret (pe_gf h_change_groups (hr.mono (by omega)) (passN (L2N.takes_of rfl rfl rfl rfl)) (pa_cons (L2.pv 3) (pa_cons (L2.pv 1) (pa_cons (L2.pv 2) pa_nil)))))) pss_nil)
      (pss_one (ps_ret (pe_ifExp (pt_cmpR op_lt (L2.pv 1) pe_int (nomark _)) (pe_gf h_change_pages (hr.mono (by omega)) (passN (L2N.takes_of rfl rfl rfl rfl)) (pa_cons (L2.pv 3) (pa_cons (L2.pv 1) (pa_cons (L2.pv 2) pa_nil)))) (pe_gf h_ask (hr.mono (by omega)) (passN (L2N.takes_of rfl rfl rfl rfl)) (pa_cons (L2.pv 3) (pa_cons (L2.pv 1) (pa_cons (L2.pv 2) pa_nil))))))))))), ?_⟩)
  · obtain ⟨d, D, W, dn, p, aa, args, rfl, _⟩ := h
    rfl
  · obtain ⟨d, D, W, dn, p, aa, args, rfl, Dk, hA, ok, q⟩ := h
    obtain ⟨hle, hslot, hnew, hmem, hwalk, hlen, hdep⟩ := ok
    have c0 : decide (nV dn = V.int 0) = decide (dn = 0) := @dec_nV dn 0
    have hs0 : slotW (argW args 0) = p := by
      rw [hslot]
      show ((p : Nat) : Int).toNat = p
      omega
    have h1 := argN_pos hle
    obtain ⟨x0, xs, ea, e0, v0⟩ := hA.get (i := 0) (by omega)
    rw [hslot] at v0
    refine ⟨_, rfl, rfl, _, rfl, ?_⟩
    rw [c0]
    by_cases hd0 : dn = 0
    · subst hd0
      rw [decide_eq_true rfl]
      have hp := hnew rfl
      have hlen : args.length = 2 := hlen
      obtain ⟨x1, xs1, ea1, e1, v1⟩ := hA.get (i := 1) (by omega)
      refine iteT ⟨_, rfl, aa, _, 0, _, rfl, rfl, sq ea, atI_nat (j := 0) e0, _, _, rfl, rfl, x0, _, 0, 2, rfl, v0, ?_⟩
      have eis : isIntV (.int ((p : Nat) : Int)) 0 2 = true := by
        show (decide ((0 : Int) ≤ (p : Int)) && decide ((p : Int) ≤ 2)) = true
        rw [decide_eq_true (by omega), decide_eq_true (by omega)]
        rfl
      rw [eis]
      refine ⟨rfl, ?_⟩
      have hw : stepW W 0 args = match limE (argW args 1) with
          | .error e => (W, .error e)
          | .ok l => (memsSet W p (R7278g.Spec.newMem l.1 l.2.1 l.2.2), .ok .nothing) := by
        unfold stepW
        rw [if_pos rfl, hs0]
      rw [hw] at q
      refine ⟨_, rfl, aa, _, 1, _, rfl, rfl, sq ea1, atI_nat (j := 1) e1, x1, argW args 1, rfl, v1, lim_of (fun l hl la ldx H1 s1 hla0 hla => ?_) (fun msg hl => ?_)⟩
      rotate_left
      · rw [limE_no hl] at q
        exact q
      rw [limE_ok hl] at q
      have q : ∀ x D' H', DeskAt K A H' d D' (memsSet W p (R7278g.Spec.newMem l.1 l.2.1 l.2.2)) → Stp (FpE D W) H (FpE D' (memsSet W p (R7278g.Spec.newMem l.1 l.2.1 l.2.2))) H' → VAt K H' .nothing x → Q x H' := q
      intro x dx hx hdx nex
      have hx0 := s1.free hx
      have s2 : Same H (upd (upd H1 dx (.own x)) x (.ins A.mem dx [])) := (s1.trans (Same.new hdx)).trans (Same.new (by rw [upd_ne (Ne.symm nex)]; exact hx))
      refine ⟨x, dx, la, ldx, l.1, l.2.1, l.2.2, rfl, upd_same, ?_, fun L' H2 M' ea' el' k2 fp => ?_⟩
      · have n1 : la ≠ dx := fun z => by rw [z, hdx] at hla; cases hla
        have n2 : la ≠ x := fun z => by rw [z, hx] at hla; cases hla
        rw [upd_ne n2, upd_ne n1]
        exact hla
      · have s3 : Same H H2 := fun b o e => k2 b o (fun z => by rw [z, hx0] at e; cases e) (s2 b o e)
        have Dk2 := Dk.mono s3
        refine ⟨rfl, ?_⟩
        cases v0 with
        | int ht0 =>
          rename_i t0
          refine ⟨_, rfl, Dk2.f_mems T ?_⟩
          refine ⟨_, rfl, aa, _, 0, _, rfl, rfl, sq (s3 _ _ ea), atI_nat (j := 0) e0, t0, _, 1, _, rfl, rfl, s3.tup ht0, atI_nat (j := 1) rfl, ?_⟩
          refine ⟨D.ma, _, rfl, dput_any (g := p) Dk2.mems (by have := nodup_lt Dk.msl; omega), ?_⟩
          have hfr : ∀ b, Fp L' (R7278g.Spec.newMem l.1 l.2.1 l.2.2) b → H b = none := fun b hb => by
            rcases fp b hb with z | z | z
            · rw [z]
              exact hx0
            · rw [z]
              exact hla0
            · exact s2.free z
          refine q _ _ _ (Dk.newMem (L := L') hp s3 M' hfr ?_ (fun b hb => upd_ne hb)) (Dk.new_stp hp s3 hfr (fun b hb => upd_ne hb)) (.nothing (T.q_NOTHING.at _))
          · rw [upd_same, ← ea']
            congr 2
            refine kvF_congr fun z _ => ?_
            by_cases h : z = p
            · rw [if_pos h, if_pos h]
            · rw [if_neg h, if_neg h]
    rw [decide_eq_false hd0]
    refine iteF ⟨_, rfl, _, _, rfl, rfl, _, rfl, ?_⟩
    by_cases h15 : 15 < dn
    · rw [decide_eq_true (by omega)]
      have hw : stepW W dn args = ((walkW W dn args).1, .ok (walkW W dn args).2) := by
        unfold stepW
        rw [if_neg hd0, if_pos h15]
      rw [hw] at q
      exact iteT ⟨_, rfl, Dk.meth (by decide +kernel) ⟨_, rfl, _, rfl, d, D, W, dn, p, aa, args, rfl, Dk, hA, hwalk h15, q⟩⟩
    rw [decide_eq_false (by omega)]
    obtain ⟨m, hm⟩ := hmem (by omega) (by omega)
    obtain ⟨i, hi, hh⟩ := memAt_some hm
    have M := Dk.mem p m hm
    have hw : stepW W dn args = if dn < 11 then match (if dn < 5 then groupsW dn m args else pagesW dn m args) with
        | .error e => (W, .error e)
        | .ok r => (heapSet W i r.2, .ok r.1)
      else (W, askW dn m args) := by
      unfold stepW
      rw [if_neg hd0, if_neg h15, hs0, hi]
      show (match W.heap[i]? with | none => _ | some m => _) = _
      rw [hh]
    rw [hw] at q
    refine iteF ⟨_, rfl, Dk.meth (by decide +kernel) ⟨_, rfl, aa, _, 0, _, rfl, rfl, sq ea, atI_nat (j := 0) e0, d, D, W, x0, p, m, rfl, Dk, v0, hm, ?_⟩⟩
    have change : ∀ (o : Out (WVal × SMem)), StepAt K A H d (FpE D W) E Q (match o with
        | .error e => (W, .error e)
        | .ok r => (heapSet W i r.2, .ok r.1)) → OutAt K A H (D.LL p) m E Q o := by
      intro o h
      cases o with
      | error e => exact h
      | ok r =>
        have h : ∀ x D' H', DeskAt K A H' d D' (heapSet W i r.2) → Stp (FpE D W) H (FpE D' (heapSet W i r.2)) H' → VAt K H' r.1 x → Q x H' := h
        exact fun x L' H' M' ea st hx => h x _ H' (Dk.change hi hh M' ea st) (Dk.change_stp hi hh st) hx
    refine ⟨_, rfl, _, _, rfl, rfl, _, rfl, ?_⟩
    by_cases h5 : dn < 5
    · rw [decide_eq_true (by omega)]
      rw [if_pos (by omega), if_pos h5] at q
      exact iteT ⟨_, rfl, _, rfl, _, rfl, D.LL p, m, dn, aa, args, rfl, M, by show (decide (1 ≤ dn) && decide (dn ≤ 4)) = true; rw [decide_eq_true (show 1 ≤ dn by omega), decide_eq_true (show dn ≤ 4 by omega)]; rfl, hA, by rw [hlen]; exact argN_groups (by omega) (by omega), change _ q⟩
    rw [decide_eq_false (by omega)]
    refine iteF ⟨_, rfl, _, _, rfl, rfl, _, rfl, ?_⟩
    by_cases h11 : dn < 11
    · rw [decide_eq_true (by omega)]
      rw [if_pos h11, if_neg h5] at q
      exact iteT ⟨_, rfl, _, rfl, _, rfl, D.LL p, m, dn, aa, args, rfl, M, by omega, by omega, hA, by rw [hlen]; exact argN_pages (by omega) (by omega), hdep (by omega) (by omega), change _ q⟩
    · rw [decide_eq_false (by omega)]
      rw [if_neg h11] at q
      refine iteF ⟨_, rfl, _, rfl, _, rfl, D.LL p, m, dn, aa, args, rfl, M, by omega, by omega, hA, by rw [hlen]; exact argN_ask (by omega) (by omega), ?_⟩
      cases ho : askW dn m args with
      | error e =>
        rw [ho] at q
        exact q
      | ok v =>
        rw [ho] at q
        have q : ∀ x D' H', DeskAt K A H' d D' W → Stp (FpE D W) H (FpE D' W) H' → VAt K H' v x → Q x H' := q
        exact fun x H' s' hx => q x D H' (Dk.mono s') (Stp.same s') hx
end Gm
end

section
set_option maxRecDepth 100000
set_option maxHeartbeats 8000000
namespace Gm
open PySem PySem.Spec PyProof.Rows L2 L2G L2H GmM
variable {P : Program} {w : World} {K : PySem.W.Frag} {mg : Str → Option Value} {base : Heap} {A : Ad} {f fI : Addr} {fd : FuncData}
/-- o.m(e, ..) within a try -/
def tMethS (C : Addr) (m : Str) (sp : Sp) (E : L2.St → XK) (ta : TE) (t : TA) : TE := fun σ H Q => ta σ H fun x H1 => ∃ a dx fs, x = .ref a ∧ H1 a = some (.ins C dx fs) ∧ fs.lookup m = none ∧ t σ H1 fun vs H2 => sp (x :: vs) H2 Q (E σ)
theorem pe_gmS {X : Cx} {CX : CXT} {k : Nat} {C : Addr} {ps : List Str} {sp : Sp} {E : L2.St → XK} {m : Str} {pos apos : Pos} {e o : Expr} {es : List Expr} {ta : TE} {t : TA} {pl : Sem Bool} (G : GM X.prog X.w X.K X.mg X.base CX k C m ps sp) (c : Cls X.K C)
    (hr : Room k X.A) (hx : ∀ σ, PassesAt CX X σ (E σ)) (he : PE X o ta) (ha : PA X (e :: es) t)
    (hst : starEach (e :: es) X.env = (false, eval e X.env) :: starEach es X.env := by rfl) (hpl : (backTo pos (starEach es X.env)).any (·.1) = false := by rfl)
    (ht : eval (.Call (.Attribute o m apos) (e :: es) [] pos) X.env = (do
      let ov ← eval o X.env
      standAt apos.atName
      let (f, first) ← holding [ov] (getMethod ov m pl)
      callWith pos f first (backTo pos (starEach (e :: es) X.env)) (backToKw pos (keywordEach [] X.env))) := by rfl) :
    PE X (.Call (.Attribute o m apos) (e :: es) [] pos) (tMethS C m sp E ta t) := by
  obtain ⟨f, fd, hm, hb, F⟩ := G
  refine ⟨fun pins s σ H Q I h => ?_⟩
  refine PySem.W.methodCall_KW (pl := pl) (thn (he.run pins s σ H _ I h) fun u s1 ⟨x, H1, I1, rx, a, dx, fs, ex, ea, l, q⟩ => ?_) ht
  subst ex
  obtain rfl : u = Value.ref a := rx
  refine getmeth_ok I1 ea c hm l ?_
  refine PySem.W.callWith_K (first := [.ref a]) (h₀ := X.base) I.ok.mod.kin hm.kp (thn (ha.run pos pins s1 σ H1 _ I1 q) fun us s2 ⟨vs, H2, I2, r, q2⟩ => ⟨I2.kIn, ?_⟩) hst hpl
  exact run_fnS (us := .ref a :: us) (vs := .ref a :: vs) F hr hb (hx σ) I2 (.cons rfl r) q2
theorem hot_of {X : Cx} {a : Addr} {oe : Obj} {cls : Value} {d : Option Addr} (hz : L2N.Zn cls d oe) (hf : ∃ vs, oe.data = .fields vs) : Hot1 (X.A.mark (some (.ref a))) (a, oe) := by
  obtain ⟨vs, hd⟩ := hf
  exact ⟨rfl, vs, hd, hz.2.2 vs hd⟩
abbrev rLenS (K : PySem.W.Frag) : List V → Hp → VK → Prop := fun xs H Q => ∃ p ys, xs = [.ref p] ∧ (SqL K H p ys ∨ SqT K H p ys) ∧ Q (.int ys.length) H
theorem roomH_mark {k : Nat} {A : Around} {v : Option Value} (r : Room k A) : RoomH k (A.mark v) := ⟨r.dp, r.un⟩
def outO (o : Out WVal) : Octs := match o with
  | .error e => RWire.writeAnswer (.refused e.1 (asc e.2))
  | .ok v => RWire.writeAnswer (.returned v)
def OutOk (o : Out WVal) : Prop := match o with
  | .error e => e.1 ≤ 255 ∧ e.2.cps.all (· < 128) = true ∧ e.2.cps.size ≤ 60000
  | .ok v => RWire.depth v ≤ 32 ∧ RWire.fine v = true ∧ (RWire.write v).length ≤ 100000
abbrev padW (dn : Nat) (l : List WVal) : List WVal := l ++ List.replicate (argN dn - l.length) .nothing
def spGetO (K : PySem.W.Frag) (A : Ad) : Sp := fun vs H Q _ => ∃ (d oa : Addr) (D : DLay) (W : SWorld) (bs : Octs) (dn p : Nat) (l : List WVal), vs = [.ref d, .ref oa] ∧ DeskAt K A H d D W ∧ H oa = some (.lst (bs.map octV)) ∧ bs.length ≤ 100000 ∧
  RWire.readRequest bs = some (dn, l) ∧ okM l = true ∧ l.length ≤ argN dn ∧ StepOk W dn (padW dn l) p ∧ OutOk (stepW W dn (padW dn l)).2 ∧
  ∀ x D' H', DeskAt K A H' d D' (stepW W dn (padW dn l)).1 → Stp (FpE D W) H (FpE D' (stepW W dn (padW dn l)).1) H' → H' x = some (.lst ((outO (stepW W dn (padW dn l)).2).map octV)) → (∀ b o, H b = some o → ¬ FpE D W b → b ≠ x) → Q (.ref x) H'
theorem readRequest_some {bs : Octs} {dn : Nat} {l : List WVal} (h : RWire.readRequest bs = some (dn, l)) : 3 ≤ bs.length ∧ dn = RWire.numOf (bs.take 2) ∧ RWire.readMany (RWire.readF 32) (RWire.numOf ((bs.drop 2).take 1)) (bs.drop 3) = some (l, []) := by
  match bs, h with
  | a :: b :: n :: r, h =>
    unfold RWire.readRequest at h
    dsimp only at h
    cases e : RWire.readArgs n.toNat r with
    | none =>
      rw [e] at h
      cases h
    | some l' =>
      rw [e] at h
      have h := Option.some.inj h
      unfold RWire.readArgs at e
      refine ⟨by simp, ?_, ?_⟩
      · have : dn = a.toNat + 256 * b.toNat := (congrArg Prod.fst h).symm
        rw [this]
        show _ = a.toNat + 256 * (b.toNat + 256 * 0)
        omega
      · have e2 : RWire.numOf (List.take 1 (List.drop 2 (a :: b :: n :: r))) = n.toNat := by
          show n.toNat + 256 * 0 = _
          omega
        rw [e2]
        show RWire.readMany (RWire.readF RWire.nestMost) n.toNat r = _
        split at e
        · rename_i q hq
          rw [hq]
          have : l' = l := congrArg Prod.snd h
          rw [← this, ← Option.some.inj e]
        · cases e
abbrev argsV : List V := [.int 2, .int 3, .int 3, .int 2, .int 3, .int 3, .int 3, .int 2, .int 2, .int 3, .int 2, .int 3, .int 2, .int 2, .int 1, .int 1, .int 2, .int 1, .int 2]
theorem argsV_get : ∀ dn, dn ≤ 18 → argsV[dn]? = some (nV (argN dn))
  | 0, _ => rfl
  | 1, _ => rfl
  | 2, _ => rfl
  | 3, _ => rfl
  | 4, _ => rfl
  | 5, _ => rfl
  | 6, _ => rfl
  | 7, _ => rfl
  | 8, _ => rfl
  | 9, _ => rfl
  | 10, _ => rfl
  | 11, _ => rfl
  | 12, _ => rfl
  | 13, _ => rfl
  | 14, _ => rfl
  | 15, _ => rfl
  | 16, _ => rfl
  | 17, _ => rfl
  | 18, _ => rfl
  | n + 19, h => absurd h (by omega)
theorem readMany_len {α : Type} {g : Octs → Option (α × Octs)} : ∀ {k : Nat} {r rest : Octs} {l : List α}, RWire.readMany g k r = some (l, rest) → k = l.length
  | 0, r, rest, l, h => by
    have h := Option.some.inj h
    have e : [] = l := congrArg Prod.fst h
    rw [← e]
    rfl
  | k + 1, r, rest, l, h => by
    obtain ⟨v, r1, l1, _, h2, h3⟩ := readMany_step h
    rw [h3, List.length_cons, readMany_len h2]
theorem rep_flat {x : V} : ∀ n : Nat, (List.replicate n [x]).flatten = List.replicate n x
  | 0 => rfl
  | n + 1 => by rw [List.replicate_succ, List.flatten_cons, rep_flat n, List.replicate_succ]; rfl
theorem VAll.rep {H : Hp} {v : WVal} {x : V} (h : VAt K H v x) : ∀ n : Nat, VAll K H (List.replicate n v) (List.replicate n x)
  | 0 => .nil
  | n + 1 => .cons h (VAll.rep h n)
theorem VAll.append {H : Hp} {l' : List WVal} {ys : List V} (h' : VAll K H l' ys) : ∀ {l : List WVal} {xs : List V}, VAll K H l xs → VAll K H (l ++ l') (xs ++ ys)
  | _, _, .nil => h'
  | _, _, .cons a r => .cons a (VAll.append h' r)
theorem DeskAt.trkE {H : Hp} {d : Addr} {D : DLay} {W : SWorld} (Dk : DeskAt K A H d D W) : Trk (FpE D W) H := by
  rintro b (h | h | h | ⟨e, s, h1, h2⟩)
  · exact Dk.trk b h
  · rw [h, Dk.mems]
    exact fun z => by cases z
  · rw [h, Dk.vics]
    exact fun z => by cases z
  · obtain ⟨xs, q, _⟩ := Dk.vic e s h1
    rw [h2, q]
    exact fun z => by cases z
theorem stepW_err {W : SWorld} {dn : Nat} {args : List WVal} {e : Nat × Str} (h : (stepW W dn args).2 = .error e) : (stepW W dn args).1 = W := by
  unfold stepW at h ⊢
  by_cases h0 : dn = 0
  · rw [if_pos h0] at h ⊢
    cases hl : limE (argW args 1) with
    | error e => rfl
    | ok l =>
      rw [hl] at h
      cases h
  rw [if_neg h0] at h ⊢
  by_cases h15 : 15 < dn
  · rw [if_pos h15] at h
    cases h
  rw [if_neg h15] at h ⊢
  cases hi : R7278g.Spec.memIndex W (slotW (argW args 0)) with
  | none => rfl
  | some i =>
    rw [hi] at h
    dsimp only at h ⊢
    cases hm : W.heap[i]? with
    | none => rfl
    | some m =>
      rw [hm] at h
      dsimp only at h ⊢
      by_cases h11 : dn < 11
      · rw [if_pos h11] at h ⊢
        cases hg : (if dn < 5 then groupsW dn m args else pagesW dn m args) with
        | error e => rfl
        | ok r =>
          rw [hg] at h
          cases h
      · rw [if_neg h11]
theorem ok_get_octets (F : Fun K "get_octets" "Desk.get_octets" s_Desk_get_octets f fd) (T : Txt K mg A) (R : PySem.GmX.RefTxt K mg A.ref fI) (h_Reader : GC P w K mg base CX0 1 "Reader" A.rdr ["self", "octets"] (spRdrI K A))
    (h_Reader_get_number : GM P w K mg base CX0 2 A.rdr "get_number" ["self", "many"] (spRNum K A)) (h_need_readable : GF P w K mg base CX0 1 "need_readable" ["truth"] spNeedR) (h_Reader_get_value : GM P w K mg base CX0 35 A.rdr "get_value" ["self", "deep"] (spRVal K A 32))
    (h_written : GF P w K mg base CX0 34 "written" ["value"] (spWr K 32)) (h_Desk_answer : GM P w K mg base (L2N.CX P w) 9 A.dsk "answer" ["self", "number", "arguments"] (spAnswer K A)) (h_text_octetsH : GFH P w K mg base 2 "text_octets" ["octets"] (spTextOct K)) :
    FnOk P w K mg base CX0 36 f fd ["self", "request"] (spGetO K A) := by
  refine F.ok sc_Desk_get_octets (fun vs H Q E h => ?_) (fun cdv A' outer s H vs Q E hr h => ⟨_, (pss_one (ps_try_first (tb := fun W => (tSeq _ (tSeq _ (tSeq (tDrop (tCall _ [] _ (tCons (tAndV (tOp _ (tVar 3) (tCB (rLenS K) (tCons _ tNil))) (tOp _ (tVar 4) (tOp (rIxT K) _ (tVar 3)))) tNil))) (tSeq _ (tSeq (tDrop (tCall _ [] _ (tCons (tOp _ (tFld K (tVar 2) "at") (tCB (rLenS K) (tCons (tVar 1) tNil))) tNil))) (tSeq (tDrop (tBM K "list" _ (tVar 5) (tCons (tOp _ (tLst (tCons _ tNil)) (tOp _ (tOp (rIxT K) _ (tVar 3)) (tVar 4))) tNil))) _))))))) (i := 6) (c := .ref A.ref) rfl rfl sc_Desk_get_octets.nd rfl rfl ⟨rfl, by decide, Or.inl R.gC⟩ (fun W pn xe tk _ => (pss_cons (ps_set (i := 2) sc_Desk_get_octets.nd rfl (Or.inr rfl) (pe_gc h_Reader (hr.mono (by omega)) pass0 (pa_cons (L2.pv 1) pa_nil)))
      (pss_cons (ps_par (i := 3) (j := 4) rfl sc_Desk_get_octets.nd rfl rfl (by decide) rfl rfl (pa_cons (pe_gm h_Reader_get_number T.c_rdr (hr.mono (by omega)) pass0 (L2.pv 2) (pa_cons pe_int pa_nil)) (pa_cons (pe_gm h_Reader_get_number T.c_rdr (hr.mono (by omega)) pass0 (L2.pv 2) (pa_cons pe_int pa_nil)) pa_nil)) (by rfl))
      (pss_cons (ps_expr (pe_gf h_need_readable (hr.mono (by omega)) pass0 (pa_cons (pe_and (pe_cmpR op_lt (L2.pv 3) (pe_callB call_len_seq (by rfl) T.b_len PySem.boot_len (pa_cons (pe_gl T.g_ARGUMENTS) pa_nil)) (nomark _)) (pe_one (pe_cmpR op_le (L2.pv 4) (pe_ix ix_tup (pe_gl T.g_ARGUMENTS) (L2.pv 3) (fun _ _ => rfl)) (nomark _)))) pa_nil)))
      (pss_cons (ps_setLc (i := 5) (own := [("turn", 7)]) (g := (gName 7)) (tt := tYes) (te := (tMeth _ _ _ [] _ (tVar 2) (tCons _ tNil))) rfl sc_Desk_get_octets.nd rfl rfl (sw_true rfl rfl rfl (by decide +kernel)) (pi_range1 (by rfl) T.b_range (pa_cons (L2.pv 4) pa_nil)) (blkOk_by (N := N_Desk_get_octets) (sc := defScope s_Desk_get_octets) (by decide +kernel)) (fun _ _ _ _ _ => (pg_name (i := 7) sc_Desk_get_octets.nd rfl (Or.inl rfl))) (fun _ _ _ _ _ => pts_nil) (fun _ _ _ _ _ => (pe_gm h_Reader_get_value T.c_rdr (hr.mono (by omega)) pass0 (L2.pv 2) (pa_cons (pe_gl T.g_MOST_NESTED) pa_nil))))
      (pss_cons (ps_expr (pe_gf h_need_readable (hr.mono (by omega)) pass0 (pa_cons (pe_cmpR op_eq (pe_fld (L2.pv 2) rfl) (pe_callB call_len_seq (by rfl) T.b_len PySem.boot_len (pa_cons (L2.pv 1) pa_nil)) (nomark _)) pa_nil)))
      (pss_cons (ps_expr (pe_bm PySem.F.plainAttrs_list PySem.F.slot_list_extend PySem.F.type_list_extend mt_extend (L2.pv 5) (pa_cons (pe_op op_rep (pe_lst (pa_cons (pe_gl T.g_NOTHING) pa_nil)) (pe_op op_sub (pe_ix ix_tup (pe_gl T.g_ARGUMENTS) (L2.pv 3) (fun _ _ => rfl)) (L2.pv 4))) pa_nil)))
      (pss_one (ps_ret (pe_op op_cat (pe_lst (pa_cons pe_int pa_nil)) (pe_gf h_written (hr.mono (by omega)) pass0 (pa_cons (pe_gmS h_Desk_answer T.c_dsk (hr.mono (by omega)) (fun σ => L2N.passAt tk σ) (L2.pv 0) (pa_cons (L2.pv 3) (pa_cons (L2.pv 5) pa_nil))) pa_nil)))))))))))) (fun a oe cls d pn hz hf => (pss_one (ps_ret (pe_op op_cat (pe_lst (pa_cons pe_int (pa_cons (pe_byRef R R.noC hz hf (L2.pv 6)) pa_nil))) (pe_gfH h_text_octetsH (roomH_mark (hr.mono (by omega))) ⟨_, hot_of hz hf, List.mem_cons_self⟩ (pa_cons (pe_lcH (own := [("sign", 8)]) (g := (gName 8)) (tt := tYes) (te := (tCB _ (tCons (tVar 8) tNil))) (hot_of hz hf) List.mem_cons_self sc_Desk_get_octets.nd (pi_asciiH (pe_byRef R R.noM hz hf (L2.pv 6))) (blkOk_by (N := N_Desk_get_octets) (sc := defScope s_Desk_get_octets) (by decide +kernel)) (fun _ _ _ _ _ => (pg_name (i := 8) sc_Desk_get_octets.nd rfl (Or.inl rfl))) (fun _ _ _ _ _ => pts_nil) (fun _ _ _ _ _ => (pe_callB call_ord (by rfl) T.b_ord PyProof.Rows.boot_ord (pa_cons (L2.pv 8) pa_nil)))) pa_nil)))))))), ?_⟩)
  · obtain ⟨d, oa, D, W, bs, dn, p, l, rfl, _⟩ := h
    rfl
  · obtain ⟨d, oa, D, W, bs, dn, p, l, rfl, Dk, hoa, hbl, hrd, hok, hla, hst, hout, q⟩ := h
    obtain ⟨h3, hdn, hrm⟩ := readRequest_some hrd
    refine ⟨_, rfl, fun r dx hr0 hdx ner => ?_⟩
    refine ⟨r, dx, oa, rfl, upd_same, ?_⟩
    refine ⟨rfl, ?_⟩
    have k0 : KeepR r H (upd (upd (upd H dx (.own r)) r (.ins A.rdr dx [])) r (.ins A.rdr dx (rdrF oa 0))) := fun b o hb e => by
      have nb : b ≠ dx := fun z => by rw [z, hdx] at e; cases e
      rw [upd_ne hb, upd_ne hb, upd_ne nb]
      exact e
    have nor : oa ≠ r := fun z => by rw [z, hr0] at hoa; cases hoa
    have R0 : RAt A (upd (upd (upd H dx (.own r)) r (.ins A.rdr dx [])) r (.ins A.rdr dx (rdrF oa 0))) r oa bs 0 := ⟨⟨dx, upd_same⟩, k0 _ _ nor hoa, Nat.zero_le _, hbl⟩
    generalize (upd (upd (upd H dx (.own r)) r (.ins A.rdr dx [])) r (.ins A.rdr dx (rdrF oa 0))) = H0 at *
    refine ⟨_, rfl, R0.meth (by decide +kernel) ⟨r, oa, bs, 0, 2, rfl, R0, by omega, fun H1 k1 R1 => ?_⟩⟩
    refine ⟨_, rfl, R1.meth (by decide +kernel) ⟨r, oa, bs, 2, 1, rfl, R1, by omega, fun H2 k2 R2 => ?_⟩⟩
    have k2 := (k0.trans k1).trans k2
    rw [show List.drop 0 bs = bs from rfl, ← hdn]
    generalize hm : RWire.numOf ((bs.drop 2).take 1) = many at *
    refine ⟨_, _, rfl, ?_⟩
    have hml : many = l.length := readMany_len hrm
    subst hml
    have s2 : Same H H2 := fun b o e => k2 b o (fun z => by rw [z, hr0] at e; cases e) e
    refine ⟨_, rfl, A.tARGUMENTS, argsV, rfl, .inr (T.q_ARGUMENTS.at H2), _, _, rfl, rfl, _, rfl, ?_⟩
    have hle := hst.le
    rw [decide_eq_true (show (dn : Int) < ((argsV.length : Nat) : Int) by show (dn : Int) < 19; omega)]
    refine iteT ⟨_, rfl, _, rfl, A.tARGUMENTS, argsV, dn, _, rfl, rfl, T.q_ARGUMENTS.at H2, atI_nat (j := dn) (argsV_get dn hle), _, _, rfl, rfl, ?_⟩
    refine ⟨congrArg (fun b => [V.bl b]) (decide_eq_true (show (l.length : Int) ≤ (argN dn : Int) by omega)), ?_⟩
    have hA3 : argN dn ≤ 3 := by
      have : ∀ n : Fin 19, argN n.val ≤ 3 := by decide
      exact this ⟨dn, by omega⟩
    have h255 : l.length < 1000 := by omega
    refine ⟨_, rfl, l.length, rfl, by omega, by omega, fun D1 hD1 => ?_⟩
    have hD0 : H D1 = none := s2.free hD1
    have nDr : D1 ≠ r := fun z => R2.some (z ▸ hD1)
    have nDo : oa ≠ D1 := fun z => by rw [← z, R2.oct] at hD1; cases hD1
    let F' : Addr → Prop := fun b => b = r ∨ b = D1
    refine ⟨fun i m H' => i ≤ l.length ∧ m = l.length - i ∧ ∃ (j : Nat) (done l' : List WVal) (ys : List V), KeepR r H2 H' ∧ RAt A H' r oa bs j ∧ RWire.readMany (RWire.readF 32) (l.length - i) (bs.drop j) = some (l', []) ∧ l = done ++ l' ∧ H' D1 = some (.lst ys) ∧ VAll K (hid F' H') done ys, ⟨_, Nat.zero_le _, rfl, 3, [], l, [], KeepR.of (Same.new hD1), R2.mono (Same.new hD1), hrm, rfl, upd_same, .nil⟩, ?_⟩
    rintro i m H3 ⟨hi, rfl, j, done, l', ys, k3, R3, hr3, hl3, hD3, hV3⟩
    by_cases hil : i < l.length
    · refine .inr ⟨hil, fun H' => ∃ (j : Nat) (done l' : List WVal) (ys : List V), KeepR r H2 H' ∧ RAt A H' r oa bs j ∧ RWire.readMany (RWire.readF 32) (l.length - (i + 1)) (bs.drop j) = some (l', []) ∧ l = done ++ l' ∧ H' D1 = some (.lst ys) ∧ VAll K (hid F' H') done ys, fun H' h => ⟨_, by omega, by omega, rfl, h⟩, ?_⟩
      rintro x H4 ⟨rfl, rfl⟩
      have e1 : l.length - i = (l.length - (i + 1)) + 1 := by omega
      rw [e1] at hr3
      obtain ⟨v1, r1, l1, hg, hr4, hl4⟩ := readMany_step hr3
      refine ⟨rfl, yes (N := fun _ => False) ?_⟩
      refine ⟨_, rfl, R3.meth (by decide +kernel) ⟨r, oa, bs, j, v1, r1, F', rfl, R3, hg, ?_, .inl rfl, ?_, fun x j2 H7 k7 R7 hj2 hlt hVx => ?_⟩⟩
      · rw [hl3, hl4] at hok
        clear q
        have : ∀ (d : List WVal), okM (d ++ v1 :: l1) = true → okM (v1 :: l1) = true := fun d => by
          induction d with
          | nil => exact fun h => h
          | cons a d ih => exact fun h => ih (okM_cons h).2
        exact (okM_cons (this _ hok)).1
      · rintro b (hb | hb)
        · rw [hb]
          exact R3.some
        · rw [hb, hD3]
          exact fun z => by cases z
      · have hD7 := k7 _ _ nDr hD3
        have hys : ys.length < sizeLine := small_lt (by
          have := VAll.len hV3
          have := congrArg List.length hl3
          rw [List.length_append] at this
          omega)
        have sD : Same (hid F' H7) (hid F' (upd H7 D1 (.lst (ys ++ [x])))) := hid_keep fun b o hb e => by
          rw [upd_ne fun z => hb (.inr z)]
          exact e
        refine ⟨ys, hD7, hys, j2, done ++ [v1], l1, ys ++ [x], ?_, ⟨?_, ?_, R7.le, R7.lim⟩, by rw [← hj2]; exact hr4, by rw [hl3, hl4, List.append_assoc]; rfl, upd_same, VAll.snoc ((hV3.mono (hid_keepR (.inl rfl) k7)).mono sD) (hVx.mono sD)⟩
        · intro b o hb e
          rw [upd_ne fun z => by rw [z, hD1] at e; cases e]
          exact (k3.trans k7) b o hb e
        · obtain ⟨dx, es⟩ := R7.self
          exact ⟨dx, by rw [upd_ne (Ne.symm nDr)]; exact es⟩
        · rw [upd_ne nDo]
          exact R7.oct
    · have hi2 : i = l.length := by omega
      subst hi2
      refine .inl ⟨Nat.le_refl _, ?_⟩
      rw [Nat.sub_self] at hr3
      have hr3 := Option.some.inj hr3
      have e1 : l' = [] := (congrArg Prod.fst hr3).symm
      have e2 : bs.drop j = [] := congrArg Prod.snd hr3
      subst e1
      rw [List.append_nil] at hl3
      subst hl3
      have hj : j = bs.length := by
        have := congrArg List.length e2
        rw [List.length_drop] at this
        have := R3.le
        simp only [List.length_nil] at *
        omega
      subst hj
      have k4 : KeepR r H H3 := k2.trans k3
      have s3 : Same H H3 := fun b o e => k4 b o (fun z => by rw [z, hr0] at e; cases e) e
      refine ⟨_, rfl, R3.f_at T ?_⟩
      refine ⟨_, rfl, oa, _, rfl, .inl (sq R3.oct), ?_⟩
      refine ⟨rfl, ?_⟩
      refine ⟨congrArg (fun b => [V.bl b]) (decide_eq_true (by rw [List.length_map])), ?_⟩
      refine ⟨_, rfl, .inl ⟨rfl, _, sq hD3⟩, by show 1 ≤ sizeLine; decide, fun p1 hp1 => ?_⟩
      refine ⟨_, rfl, A.tARGUMENTS, argsV, dn, _, rfl, rfl, T.q_ARGUMENTS.at _, atI_nat (j := dn) (argsV_get dn hle), _, rfl, _, _, rfl, rfl, ?_⟩
      have ek : ((argN dn : Int) - (l.length : Int)).toNat = argN dn - l.length := by omega
      refine ⟨p1, _, _, rfl, rfl, upd_same, by omega, by omega, ?_, fun p2 hp2 => ?_⟩
      · show 1 * _ ≤ sizeLine
        rw [ek, sizeLine_eq]
        omega
      rw [ek, rep_flat]
      have hyl := hV3.len
      have n1D : D1 ≠ p1 := fun z => by rw [z, hp1] at hD3; cases hD3
      have n2D : D1 ≠ p2 := fun z => by rw [← z, upd_ne n1D, hD3] at hp2; cases hp2
      have hp20 : H3 p2 = none := (Same.new hp1).free hp2
      refine ⟨D1, p2, ys, _, rfl, rfl, ?_, upd_same, ?_, ?_⟩
      · rw [upd_ne n2D, upd_ne n1D]
        exact hD3
      · rw [List.length_replicate, sizeLine_eq]
        omega
      have s4 : Same H (upd (upd (upd H3 p1 (.lst [V.ref A.tNOTHING])) p2 (.lst (List.replicate (argN dn - l.length) (V.ref A.tNOTHING)))) D1 (.lst (ys ++ List.replicate (argN dn - l.length) (V.ref A.tNOTHING)))) := fun b o e => by
        have nb : b ≠ D1 := fun z => by rw [z, hD0] at e; cases e
        have e3 := s3 _ _ e
        have nb2 : b ≠ p2 := fun z => by rw [z, hp20] at e3; cases e3
        have nb1 : b ≠ p1 := fun z => by rw [z, hp1] at e3; cases e3
        rw [upd_ne nb, upd_ne nb2, upd_ne nb1]
        exact e3
      have hA4 : ArgsAt K (upd (upd (upd H3 p1 (.lst [V.ref A.tNOTHING])) p2 (.lst (List.replicate (argN dn - l.length) (V.ref A.tNOTHING)))) D1 (.lst (ys ++ List.replicate (argN dn - l.length) (V.ref A.tNOTHING)))) D1 (padW dn l) := by
        refine ⟨_, upd_same, VAll.append (VAll.rep (.nothing (T.q_NOTHING.at _)) _) ((hV3.mono (hid_keep (H' := upd (upd (upd H3 p1 (.lst [V.ref A.tNOTHING])) p2 (.lst (List.replicate (argN dn - l.length) (V.ref A.tNOTHING)))) D1 (.lst (ys ++ List.replicate (argN dn - l.length) (V.ref A.tNOTHING)))) fun b o hb e => ?_)).mono (hid_un _ _))⟩
        have nb : b ≠ D1 := fun z => hb (.inr z)
        have nb2 : b ≠ p2 := fun z => by rw [z, hp20] at e; cases e
        have nb1 : b ≠ p1 := fun z => by rw [z, hp1] at e; cases e
        rw [upd_ne nb, upd_ne nb2, upd_ne nb1]
        exact e
      generalize (upd (upd (upd H3 p1 (.lst [V.ref A.tNOTHING])) p2 (.lst (List.replicate (argN dn - l.length) (V.ref A.tNOTHING)))) D1 (.lst (ys ++ List.replicate (argN dn - l.length) (V.ref A.tNOTHING)))) = H5 at *
      refine ⟨by show 1 ≤ sizeLine; decide, fun p3 hp3 => ?_⟩
      have s5 : Same H5 (upd H5 p3 (.lst [V.int 0])) := Same.new hp3
      have s6 := s4.trans s5
      have Dk6 := Dk.mono s6
      have hA6 := hA4.mono s5
      have e6 : (upd H5 p3 (.lst [V.int 0])) p3 = some (.lst [V.int 0]) := upd_same
      have hp30 : H p3 = none := s4.free hp3
      have nF3 : ¬ FpE D W p3 := fun h => Dk.trkE p3 h hp30
      generalize (upd H5 p3 (.lst [V.int 0])) = H6 at *
      refine ⟨_, rfl, Dk6.meth (by decide +kernel) ⟨_, rfl, _, rfl, d, D, W, dn, p, D1, padW dn l, rfl, Dk6, hA6, hst, ?_⟩⟩
      unfold StepAt
      unfold OutOk at hout
      cases ho : (stepW W dn (padW dn l)).2 with
      | ok v =>
        rw [ho] at hout q
        dsimp only at hout ⊢
        intro x D' H7 Dk7 st7 hx
        refine ⟨x, v, rfl, hx, hout.1, hout.2.1, hout.2.2, fun p4 H8 s8 hp4 e4 => ?_⟩
        have e38 := s8 _ _ (st7.keep _ _ e6 nF3)
        refine ⟨p3, p4, _, _, rfl, rfl, e38, e4, ?_, fun p5 hp5 => ?_⟩
        · rw [List.length_map, sizeLine_eq]
          show 1 + _ ≤ _
          omega
        refine q p5 D' _ ((Dk7.mono s8).mono (Same.new hp5)) (((Stp.before s6 st7).after s8).after (Same.new hp5)) upd_same ?_
        exact fun b o e n z => by
          have := ((Stp.before s6 st7).after s8).keep b o e n
          rw [z, hp5] at this
          cases this
      | error e =>
        rw [ho] at hout q
        dsimp only at hout ⊢
        intro de H7 s7 hde
        refine ⟨R.te, fun ea hea => ?_⟩
        refine ⟨_, rfl, rfl, rfl, de, nV e.1, .str e.2, _, rfl, hde, rfl, ?_⟩
        refine ⟨by show 2 ≤ sizeLine; decide, fun p4 hp4 => ?_⟩
        have s8 : Same H7 (upd H7 p4 (.lst [V.int 1, nV e.1])) := Same.new hp4
        have e8 : (upd H7 p4 (.lst [V.int 1, nV e.1])) p4 = some (.lst [V.int 1, nV e.1]) := upd_same
        have hde8 := s8 _ _ hde
        have s8 := (s6.trans s7).trans s8
        generalize (upd H7 p4 (.lst [V.int 1, nV e.1])) = H8 at *
        have hsz : e.2.cps.toList.length ≤ 60000 := by rw [Array.length_toList]; exact hout.2.2
        refine ⟨_, rfl, rfl, rfl, de, nV e.1, .str e.2, _, rfl, hde8, rfl, e.2, rfl, hout.2.1, fun D2 hD2 => ?_⟩
        refine lc_flat (l := e.2.cps.toList) (goes_text (x := e.2)) hD2 (fun _ _ => trivial) (fun _ => true) nV (by omega) (fun i c x H2 hc s2 hx N Y h1 h2 => ?_) (fun H9 s9 e9 => ?_)
        · subst hx
          exact ⟨rfl, yes ⟨_, rfl, _, rfl, rfl, h2 rfl _ (Same.refl _)⟩⟩
        · rw [filter_all] at e9
          have hA : okA e.2 = true := by
            have h := hout.2.1
            unfold okA
            rw [List.all_eq_true]
            intro c hc
            have := Array.all_eq_true'.mp h c (by rw [← Array.mem_toList_iff]; exact hc)
            exact decide_eq_true (Nat.lt_trans (of_decide_eq_true this) (by decide))
          refine ⟨D2, asc e.2, rfl, .inl (sq (by rw [asc_octV hA]; exact e9)), ?_, fun p6 H10 s10 hp6 e10 => ?_⟩
          · unfold asc
            rw [List.length_map]
            omega
          · refine ⟨p4, p6, _, _, rfl, rfl, s10 _ _ (s9 _ _ e8), e10, ?_, fun p7 hp7 => ?_⟩
            · rw [List.length_map, sizeLine_eq]
              have e1 : (RWire.writeText (asc e.2)).length = 4 + e.2.cps.toList.length := by
                show (RWire.low 4 (asc e.2).length ++ asc e.2).length = _
                rw [List.length_append, low_len]
                unfold asc
                rw [List.length_map]
              rw [e1]
              show 2 + _ ≤ _
              omega
            · have s11 := (s8.trans (s9.trans s10)).trans (Same.new (o := .lst ([V.int 1, nV e.1] ++ (RWire.writeText (asc e.2)).map octV)) hp7)
              have hW := stepW_err ho
              rw [hW] at q
              refine q p7 D _ (Dk.mono s11) (Stp.same s11) ?_ fun b o e n z => ?_
              · rw [upd_same]
                have e1 : octV (UInt8.ofNat e.1) = nV e.1 := congrArg nV (UInt8.toNat_ofNat_of_lt' (by have := hout.1; show e.1 < 256; omega))
                show _ = some (HO.lst (V.int 1 :: octV (UInt8.ofNat e.1) :: List.map octV (RWire.writeText (asc e.2))))
                rw [e1]
                rfl
              · have := (s8.trans (s9.trans s10)) _ _ e
                rw [z, hp7] at this
                cases this
end Gm
end

section
set_option maxRecDepth 100000
set_option maxHeartbeats 8000000
/-! # answers -/
namespace Gm
open PySem PySem.Spec PyProof.Rows L2 L2G L2H GmM
variable {P : Program} {w : World} {K : PySem.W.Frag} {mg : Str → Option Value} {base : Heap} {A : Ad} {f fI : Addr} {fd : FuncData}
inductive Run : SWorld → List Octs → List Octs → Prop
  | nil {W : SWorld} : Run W [] []
  | cons {W : SWorld} {bs : Octs} {dn p : Nat} {l : List WVal} {r : List Octs} {outs : List Octs} : RWire.readRequest bs = some (dn, l) → okM l = true → l.length ≤ argN dn → StepOk W dn (padW dn l) p → OutOk (stepW W dn (padW dn l)).2 → Run (stepW W dn (padW dn l)).1 r outs → Run W (bs :: r) (outO (stepW W dn (padW dn l)).2 :: outs)
/-- a list of rows of octets, each with its length ahead -/
def toldV (l : List Octs) : List V := l.flatMap fun o => nV o.length :: o.map octV
def askV (l : List Octs) : List V := l.flatMap fun o => .int 0 :: nV o.length :: o.map octV
theorem toldV_int (l : List Octs) : ∀ x ∈ toldV l, ∃ i, x = .int i := by
  intro x hx
  unfold toldV at hx
  obtain ⟨o, _, h⟩ := List.mem_flatMap.mp hx
  rcases List.mem_cons.mp h with h | h
  · exact ⟨_, h⟩
  · obtain ⟨c, _, h⟩ := List.mem_map.mp h
    exact ⟨_, h.symm⟩
theorem pg_other {H H' : Hp} (kt : ∀ t xs, SqT K H t xs → SqT K H' t xs) (kl : ∀ q t r, H q = some (.lst (.ref t :: r)) → H' q = some (.lst (.ref t :: r))) {i g : Nat} {s : Str} {x : V} (h : VAt K H (pgV i g s) x) : VAt K H' (pgV i g s) x := by
  unfold pgV recV at h ⊢
  cases h with
  | record h1 h2 h3 =>
    cases h3 with
    | cons a1 b1 c1 r1 =>
      cases c1 with
      | int d1 =>
        cases r1 with
        | cons a2 b2 c2 r2 =>
          cases c2 with
          | int d2 =>
            cases r2 with
            | cons a3 b3 c3 r3 =>
              cases c3 with
              | text d3 e3 =>
                cases r3 with
                | nil => exact .record (kt _ _ h1) (kl _ _ _ h2) (.cons (kt _ _ a1) (kt _ _ b1) (.int (kt _ _ d1)) (.cons (kt _ _ a2) (kt _ _ b2) (.int (kt _ _ d2)) (.cons (kt _ _ a3) (kt _ _ b3) (.text (kt _ _ d3) (kt _ _ e3)) .nil)))
theorem VAll.pgs {H H' : Hp} (kt : ∀ t xs, SqT K H t xs → SqT K H' t xs) (kl : ∀ q t r, H q = some (.lst (.ref t :: r)) → H' q = some (.lst (.ref t :: r))) : ∀ {l : List SPage} {xs : List V}, VAll K H (l.map pgW) xs → VAll K H' (l.map pgW) xs
  | [], _, .nil => .nil
  | _ :: _, _, .cons h r => .cons (pg_other kt kl h) (VAll.pgs kt kl r)
theorem sqT_upd {H : Hp} {fa : Addr} {xs ys : List V} (hf : H fa = some (.lst xs)) (t : Addr) (zs : List V) (h : SqT K H t zs) : SqT K (upd H fa (.lst ys)) t zs := by
  have n : ∀ o, H t = some o → (o = .tup zs ∨ ∃ od, o = .frz od (.tup zs)) → t ≠ fa := fun o e ho z => by
    rw [z, hf] at e
    rcases ho with rfl | ⟨od, rfl⟩ <;> cases e
  rcases h with (h | ⟨od, h⟩) | h
  · exact .inl (.inl (by rw [upd_ne (n _ h (.inl rfl))]; exact h))
  · exact .inl (.inr ⟨od, by rw [upd_ne (n _ h (.inr ⟨od, rfl⟩))]; exact h⟩)
  · exact .inr h
theorem hid_upd_eq {F : Addr → Prop} {H : Hp} {fa : Addr} {o : HO} (hF : ¬ F fa) : hid F (upd H fa o) = upd (hid F H) fa o := by
  funext b
  by_cases hb : b = fa
  · rw [hb, upd_same]
    exact hid_some.mpr ⟨hF, upd_same⟩
  · rw [upd_ne hb]
    unfold hid
    by_cases h : F b
    · rw [if_pos h, if_pos h]
    · rw [if_neg h, if_neg h, upd_ne hb]
theorem DeskAt.other {H : Hp} {d fa : Addr} {D : DLay} {W : SWorld} {xs ys : List V} (Dk : DeskAt K A H d D W) (hf : H fa = some (.lst xs)) (hx : ∀ x ∈ xs, ∃ i, x = .int i) (hn : ¬ FpE D W fa) : DeskAt K A (upd H fa (.lst ys)) d D W := by
  have nF : ∀ b, FpW D W b → b ≠ fa := fun b h z => hn (.inl (z ▸ h))
  obtain ⟨dx, es⟩ := Dk.self
  refine ⟨⟨dx, ?_⟩, ?_, ?_, Dk.msk, Dk.msl, fun p m h => ?_, Dk.dis, Dk.idx, Dk.val, Dk.nd, Dk.nma, Dk.nva, Dk.mv, Dk.vsk, Dk.vsl, fun e s h => ?_, Dk.ln⟩
  · rw [upd_ne fun z => by rw [z, hf] at es; cases es]
    exact es
  · rw [upd_ne fun z => hn (.inr (.inl z.symm))]
    exact Dk.mems
  · rw [upd_ne fun z => hn (.inr (.inr (.inl z.symm)))]
    exact Dk.vics
  · refine (Dk.mem p m h).keep (fun b o e hb => ?_) (sqT_upd hf)
    rw [upd_ne (nF b ⟨p, m, h, hb⟩)]
    exact e
  · obtain ⟨ys', h1, h2, h3⟩ := Dk.vic e s h
    have n1 : D.vl e ≠ fa := fun z => hn (.inr (.inr (.inr ⟨e, s, h, z.symm⟩)))
    refine ⟨ys', by rw [upd_ne n1]; exact h1, h2, h3.pgs (fun t zs ht => ?_) fun q t r hq => ?_⟩
    · by_cases hF : FpW D W fa
      · exact absurd (.inl hF) hn
      · rw [hid_upd_eq hF]
        exact sqT_upd (hid_some.mpr ⟨hF, hf⟩) t zs ht
    · obtain ⟨z1, z2⟩ := hid_some.mp hq
      refine hid_some.mpr ⟨z1, ?_⟩
      rw [upd_ne fun z => ?_]
      · exact z2
      · rw [z, hf] at z2
        have e2 : xs = .ref t :: r := by injection z2 with z2; injection z2
        obtain ⟨i, hi⟩ := hx (.ref t) (by rw [e2]; exact List.mem_cons_self)
        cases hi
def SqA (K : PySem.W.Frag) (H : Hp) (F : Addr → Prop) (fa a : Addr) (xs : List V) : Prop := (Rd H a (.lst xs) ∧ ¬ F a ∧ a ≠ fa) ∨ ∃ (o : Obj) (its : Array Value) (n : Nat), K.lookup a = some o ∧ o.cls = .type "list" ∧ o.dict = none ∧ o.data = .seq its n ∧ its.size ≤ sizeLine ∧ Vals xs its.toList
theorem SqA.sq {H : Hp} {F : Addr → Prop} {fa a : Addr} {xs : List V} (h : SqA K H F fa a xs) : SqL K H a xs := h.elim (fun h => .inl h.1) .inr
def totalV (l : List Octs) : Nat := (toldV l).length
def spAns (K : PySem.W.Frag) (A : Ad) : Sp := fun vs H Q _ => ∃ (a : Addr) (reqs outs : List Octs), vs = [.ref a] ∧ SqL K H a (askV reqs) ∧ Run R7278g.Spec.World.start reqs outs ∧ (∀ b ∈ reqs, b.length ≤ 100000) ∧ (askV reqs).length ≤ 10000000 ∧ (toldV outs).length ≤ 10000000 ∧
  ∀ p H', H' p = some (.lst (toldV outs)) → Q (.ref p) H'
theorem ok_answers (F : Fun K "answers" "answers" s_answers f fd) (T : Txt K mg A) (h_Desk : GC P w K mg base CX0 1 "Desk" A.dsk ["self"] (spDskI K A)) (h_Desk_get_octets : GM P w K mg base CX0 36 A.dsk "get_octets" ["self", "request"] (spGetO K A)) : FnOk P w K mg base CX0 37 f fd ["calls"] (spAns K A) := by
  refine F.ok sc_answers (fun vs H Q E h => ?_) (fun cdv A' outer s H vs Q E hr h => ⟨_, (pss_cons (ps_par3 (i := 1) (j := 2) (l := 3) rfl sc_answers.nd rfl rfl rfl (by decide) (by decide) (by decide) rfl rfl rfl (pa_cons (pe_gc0 h_Desk (hr.mono (by omega)) pass0) (pa_cons (pe_lst pa_nil) (pa_cons pe_int pa_nil))) (by rfl))
      (pss_cons (ps_while PassesOwn.never (pt_cmpR op_lt (L2.pv 3) (pe_callB call_len_seq (by rfl) T.b_len PySem.boot_len (pa_cons (L2.pv 0) pa_nil)) (nomark _)) (pss_cons (ps_set (i := 4) sc_answers.nd rfl (Or.inl rfl) (pe_op op_add (pe_op op_add (L2.pv 3) pe_int) (pe_ix ix_list (L2.pv 0) (pe_op op_add (L2.pv 3) pe_int) (fun _ _ => rfl))))
      (pss_cons (ps_set (i := 5) sc_answers.nd rfl (Or.inl rfl) (pe_gm h_Desk_get_octets T.c_dsk (hr.mono (by omega)) pass0 (L2.pv 1) (pa_cons (pe_slice sl_list (L2.pv 0) (po_some (pe_op op_add (L2.pv 3) pe_int)) (po_some (L2.pv 4))) pa_nil)))
      (pss_cons (ps_expr (pe_bm PySem.F.plainAttrs_list PySem.F.slot_list_append PySem.F.type_list_append mt_append (L2.pv 2) (pa_cons (pe_callB call_len_seq (by rfl) T.b_len PySem.boot_len (pa_cons (L2.pv 5) pa_nil)) pa_nil)))
      (pss_cons (ps_expr (pe_bm PySem.F.plainAttrs_list PySem.F.slot_list_extend PySem.F.type_list_extend mt_extend (L2.pv 2) (pa_cons (L2.pv 5) pa_nil)))
      (pss_one (ps_set (i := 3) sc_answers.nd rfl (Or.inl rfl) (L2.pv 4))))))))
      (pss_one (ps_ret (L2.pv 2))))), ?_⟩)
  · obtain ⟨a, reqs, outs, rfl, _⟩ := h
    rfl
  · obtain ⟨a, reqs, outs, rfl, ha, hrun, hal, hlen, htl, q⟩ := h
    intro d dx hd hdx nd
    refine ⟨d, dx, rfl, upd_same, fun D0 H1 Dk1 k1 => ?_⟩
    refine ⟨rfl, Nat.zero_le _, fun fa hfa => ?_⟩
    have n1 : ¬ FpE D0 R7278g.Spec.World.start fa := fun h => Dk1.trkE fa h hfa
    have e2 : (upd H1 fa (.lst [])) fa = some (.lst []) := upd_same
    have s2 : Same H1 (upd H1 fa (.lst [])) := Same.new hfa
    have k2 : ∀ b o, H b = some o → b ≠ d ∧ (upd H1 fa (.lst [])) b = some o := fun b o e => by
      have nb : b ≠ d := fun z => by rw [z, hd] at e; cases e
      have nx : b ≠ dx := fun z => by rw [z, hdx] at e; cases e
      refine ⟨nb, s2 _ _ (k1 b o nb ?_)⟩
      rw [upd_ne nb, upd_ne nx]
      exact e
    have ha2 : SqA K (upd H1 fa (.lst [])) (FpE D0 R7278g.Spec.World.start) fa a (askV reqs) := by
      rcases ha with h | h
      · refine .inl ⟨?_, fun hF => ?_, fun z => ?_⟩
        · rcases h with h | ⟨od, h⟩
          · exact .inl (k2 _ _ h).2
          · exact .inr ⟨od, (k2 _ _ h).2⟩
        · have no : ∀ o, H a = some o → (∃ xs, o = .lst xs ∨ ∃ od, o = .frz od (.lst xs)) → False := fun o e ho => by
            have e1 := (k2 _ _ e).2
            have Dk2 := Dk1.mono s2
            rcases hF with ⟨q, m, hm, _⟩ | hF | hF | ⟨q, s, hm, _⟩
            · rw [start_at] at hm
              cases hm
            · rw [hF, Dk2.mems] at e1
              obtain ⟨xs, rfl | ⟨od, rfl⟩⟩ := ho <;> cases e1
            · rw [hF, Dk2.vics] at e1
              obtain ⟨xs, rfl | ⟨od, rfl⟩⟩ := ho <;> cases e1
            · rw [start_str] at hm
              cases hm
          rcases h with h | ⟨od, h⟩
          · exact no _ h ⟨_, .inl rfl⟩
          · exact no _ h ⟨_, .inr ⟨od, rfl⟩⟩
        · have no : ∀ o, H a = some o → False := fun o e => by
            have nb := (k2 _ _ e).1
            have nx : a ≠ dx := fun z => by rw [z, hdx] at e; cases e
            have := k1 a o nb (by rw [upd_ne nb, upd_ne nx]; exact e)
            rw [z, hfa] at this
            cases this
          rcases h with h | ⟨od, h⟩
          · exact no _ h
          · exact no _ h
      · exact .inr h
    have Dk2 := Dk1.mono s2
    generalize (upd H1 fa (.lst [])) = H2 at *
    refine ⟨_, _, _, rfl, ?_⟩
    refine while_by (fun σ H => ∃ (D : DLay) (W : SWorld) (done rest oD oR : List Octs) (x4 x5 : Option V), σ = [some (.ref a), some (.ref d), some (.ref fa), some (nV (askV done).length), x4, x5] ∧ reqs = done ++ rest ∧ outs = oD ++ oR ∧ DeskAt K A H d D W ∧ Run W rest oR ∧
      H fa = some (.lst (toldV oD)) ∧ ¬ FpE D W fa ∧ SqA K H (FpE D W) fa a (askV reqs)) (fun σ H => match σ with
        | [_, _, _, some (.int i), _, _] => (askV reqs).length - i.toNat
        | _ => 0) ⟨D0, _, [], reqs, [], outs, none, none, rfl, rfl, rfl, Dk2, hrun, e2, n1, ha2⟩ ?_ ?_
    · rintro σ H3 ⟨D, W, done, rest, oD, oR, x4, x5, rfl, hreq, hout, Dk, hR, hf, nf, hA⟩
      refine ⟨_, rfl, _, rfl, a, _, rfl, .inl hA.sq, _, _, rfl, rfl, _, rfl, ?_⟩
      cases hR with
      | nil =>
        have hreq : reqs = done := by rw [hreq, List.append_nil]
        have hout : outs = oD := by rw [hout, List.append_nil]
        subst hreq hout
        rw [decide_eq_false (by omega)]
        refine iteF ⟨_, rfl, q fa _ hf⟩
      | @cons W bs dn p l r outs' hrd hok hla hst hoo hR' =>
        have hfull : askV reqs = askV done ++ (.int 0 :: nV bs.length :: bs.map octV) ++ askV r := by
          rw [hreq]
          unfold askV
          rw [List.flatMap_append, List.flatMap_cons, List.append_assoc]
        have hL := congrArg List.length hfull
        rw [List.length_append, List.length_append, List.length_cons, List.length_cons, List.length_map] at hL
        have hbs : bs.length ≤ 100000 := hal bs (by rw [hreq]; exact List.mem_append_right _ List.mem_cons_self)
        generalize hat : (askV done).length = at_ at *
        have hg1 : (askV reqs)[at_ + 1]? = some (nV bs.length) := by
          rw [hfull, List.append_assoc, List.getElem?_append_right (by omega), hat, Nat.add_sub_cancel_left]
          rfl
        rw [decide_eq_true (by omega)]
        refine iteT ?_
        refine ⟨_, rfl, _, _, rfl, rfl, _, rfl, _, rfl, _, _, rfl, rfl, a, askV reqs, ((at_ + 1 : Nat) : Int), _, rfl, rfl, hA.sq, atI_nat (j := at_ + 1) hg1, _, _, rfl, rfl, ?_⟩
        refine ⟨_, rfl, Dk.meth (by decide +kernel) ⟨_, rfl, _, rfl, _, _, rfl, rfl, _, rfl, _, rfl, _, rfl, a, askV reqs, rfl, hA.sq, fun p1 hp1 => ?_⟩⟩
        have hcut : cutV (askV reqs) (some ((at_ : Int) + 2)) (some ((at_ : Int) + 2 + (bs.length : Int))) = bs.map octV := by
          have := cut_at (askV reqs) (a := at_ + 2) (k := bs.length) (by omega)
          have e1 : (((at_ + 2 : Nat) : Int)) = (at_ : Int) + 2 := by omega
          have e2 : (((at_ + 2 + bs.length : Nat) : Int)) = (at_ : Int) + 2 + (bs.length : Int) := by omega
          rw [e1, e2] at this
          rw [this, hfull, List.append_assoc, ← List.drop_drop, show List.drop at_ (askV done ++ (V.int 0 :: nV bs.length :: bs.map octV ++ askV r)) = V.int 0 :: nV bs.length :: bs.map octV ++ askV r from by rw [← hat]; exact List.drop_left]
          show ((bs.map octV) ++ askV r).take bs.length = _
          have : bs.length = (bs.map octV).length := by rw [List.length_map]
          rw [this]
          exact List.take_left
        have s4 : Same H3 (upd H3 p1 (.lst (bs.map octV))) := Same.new hp1
        rw [hcut]
        refine ⟨d, p1, D, W, bs, dn, p, l, rfl, Dk.mono s4, upd_same, hbs, hrd, hok, hla, hst, hoo, fun x D' H5 Dk5 st5 hx hnx => ?_⟩
        have hf4 := s4 _ _ hf
        obtain ⟨hf5, nf5⟩ := st5.out hf4 nf
        have nxf := hnx fa _ hf4 nf
        have hS5 : SqA K H5 (FpE D' (stepW W dn (padW dn l)).1) fa a (askV reqs) := by
          rcases hA with ⟨h, h2, h3⟩ | h
          · refine .inl ⟨?_, fun hF => ?_, h3⟩
            · rcases h with h | ⟨od, h⟩
              · exact .inl (st5.keep _ _ (s4 _ _ h) h2)
              · exact .inr ⟨od, st5.keep _ _ (s4 _ _ h) h2⟩
            · rcases h with h | ⟨od, h⟩
              · exact (st5.out (s4 _ _ h) h2).2 hF
              · exact (st5.out (s4 _ _ h) h2).2 hF
          · exact .inr h
        have hto : (toldV outs).length = (toldV oD).length + ((outO (stepW W dn (padW dn l)).2).length + 1) + (toldV outs').length := by
          rw [hout]
          unfold toldV
          rw [List.flatMap_append, List.length_append, List.flatMap_cons, List.length_append, List.length_cons, List.length_map]
          omega
        generalize ho : outO (stepW W dn (padW dn l)).2 = o at *
        refine ⟨_, rfl, .inl ⟨rfl, _, sq hf5⟩, _, rfl, x, _, rfl, .inl (sq hx), ?_⟩
        refine ⟨fa, toldV oD, _, rfl, rfl, hf5, by rw [sizeLine_eq]; omega, ?_⟩
        have Dk6 := Dk5.other (ys := toldV oD ++ [V.int ((o.map octV).length : Nat)]) hf5 (toldV_int oD) nf5
        have hx6 : (upd H5 fa (.lst (toldV oD ++ [V.int ((o.map octV).length : Nat)]))) x = some (.lst (o.map octV)) := by
          rw [upd_ne (Ne.symm nxf)]
          exact hx
        have hf6 : (upd H5 fa (.lst (toldV oD ++ [V.int ((o.map octV).length : Nat)]))) fa = _ := upd_same
        have hS6 : ∀ ys, SqA K (upd (upd H5 fa (.lst (toldV oD ++ [V.int ((o.map octV).length : Nat)]))) fa (.lst ys)) (FpE D' (stepW W dn (padW dn l)).1) fa a (askV reqs) := fun ys => by
          rcases hS5 with ⟨h, h2, h3⟩ | h
          · refine .inl ⟨?_, h2, h3⟩
            rcases h with h | ⟨od, h⟩
            · exact .inl (by rw [upd_ne h3, upd_ne h3]; exact h)
            · exact .inr ⟨od, by rw [upd_ne h3, upd_ne h3]; exact h⟩
          · exact .inr h
        have hin : ∀ y ∈ toldV oD ++ [V.int ((o.map octV).length : Nat)], ∃ i, y = .int i := fun y hy => by
          rcases List.mem_append.mp hy with h | h
          · exact toldV_int oD y h
          · exact ⟨_, List.mem_singleton.mp h⟩
        have Dk7 := Dk6.other (ys := (toldV oD ++ [V.int ((o.map octV).length : Nat)]) ++ o.map octV) hf6 hin nf5
        have hS7 := hS6 ((toldV oD ++ [V.int ((o.map octV).length : Nat)]) ++ o.map octV)
        generalize (upd H5 fa (.lst (toldV oD ++ [V.int ((o.map octV).length : Nat)]))) = H6 at *
        refine ⟨_, rfl, .inl ⟨rfl, _, sq hf6⟩, _, rfl, fa, x, _, _, rfl, rfl, hf6, hx6, ?_, ?_⟩
        · rw [List.length_append, List.length_singleton, List.length_map, sizeLine_eq]
          omega
        · refine ⟨_, rfl, ?_⟩
          have eN : (askV (done ++ [bs])).length = at_ + 2 + bs.length := by
            unfold askV at hat ⊢
            rw [List.flatMap_append, List.flatMap_singleton, List.length_append, hat, List.length_cons, List.length_cons, List.length_map]
            omega
          have eZ : ((at_ : Int) + 2) + (bs.length : Int) = (((askV (done ++ [bs])).length : Nat) : Int) := by
            rw [eN]
            omega
          dsimp only
          rw [eZ]
          refine ⟨⟨D', _, done ++ [bs], r, oD ++ [o], outs', some (nV (askV (done ++ [bs])).length), some (.ref x), rfl, by rw [hreq, List.append_assoc]; rfl, by rw [hout, List.append_assoc]; rfl, Dk7, hR', ?_, nf5, hS7⟩, ?_⟩
          · rw [upd_same]
            unfold toldV
            rw [List.flatMap_append, List.flatMap_singleton, List.append_assoc, List.length_map]
            rfl
          · show (askV reqs).length - (((askV (done ++ [bs])).length : Nat) : Int).toNat < (askV reqs).length - ((at_ : Nat) : Int).toNat
            rw [eN, Int.toNat_natCast, Int.toNat_natCast]
            omega
    · rintro σ H Q Q' hm ⟨x, hx, y, hy, p, ys, e1, hs, i, j, ei, ej, b, eb, q⟩
      exact ⟨x, hx, y, hy, p, ys, e1, hs, i, j, ei, ej, b, eb, hm _ _ q⟩
end Gm
end

section
set_option maxRecDepth 100000
set_option maxHeartbeats 8000000
/-! # The plain law, part 1: arguments and refusals -/
namespace Gm
open PySem PySem.Spec PyProof.Rows L2 L2G GmM
open R7278g.Spec (Plain Res andThen argErr ofOption rangeErrS typeErr rangeErr units integerIn integerOf limitArg limitsArg groupArg pageArg countArg stateArg field Err)
open Rust (taken takenAll takenFields unitOf octetOf given argAt classOf)
/-! ### refusals -/
structure ErrIs (e : Nat × Str) (x : Err) : Prop where
  cls : e.1 = classOf x.cls
  msg : asc e.2 = x.msg.map octetOf
  asc : e.2.cps.all (· < 128) = true
  len : e.2.cps.size ≤ 60000
def OutIs {α β : Type} (R : α → β → Prop) : Out α → Res β → Prop
  | .error e, .error x => ErrIs e x
  | .ok a, .ok b => R a b
  | _, _ => False
theorem OutIs.bind {α β γ δ : Type} {R : α → β → Prop} {S : γ → δ → Prop} {x : Out α} {y : Res β} {f : α → Out γ} {g : β → Res δ} (h : OutIs R x y) (k : ∀ a b, R a b → OutIs S (f a) (g b)) : OutIs S (bindE x f) (andThen y g) := by
  cases x with
  | error e => cases y with
    | error e' => exact h
    | ok b => exact h.elim
  | ok a => cases y with
    | error e' => exact h.elim
    | ok b => exact k a b h
/-- plain messages -/
def msgOk (u : R7278g.Spec.Units) : Bool := u.all (fun c => decide (c.toNat < 128)) && decide (u.length ≤ 60000)
def Good {α : Type} (y : Res α) : Prop := ∀ e, y = .error e → msgOk e.msg = true
theorem good_ok {α : Type} {a : α} : Good (.ok a : Res α) := fun e h => by cases h
theorem good_err {α : Type} {m : String} (h : msgOk (units m) = true) : Good (rangeErrS m : Res α) := fun e he => by
  have : rangeErr m = e := by injection he
  rw [← this]
  exact h
theorem good_then {α β : Type} {x : Res α} {f : α → Res β} (h : Good x) (k : ∀ a, Good (f a)) : Good (andThen x f) := by
  cases x with
  | error e => exact fun e' he => h e' (by injection he with he; rw [he])
  | ok a => exact k a
theorem good_if {α : Type} {c : Prop} [Decidable c] {x y : Res α} (h : Good x) (k : Good y) : Good (if c then x else y) := by
  by_cases hc : c
  · rw [if_pos hc]
    exact h
  · rw [if_neg hc]
    exact k
theorem clsN_is (c : R7278g.Spec.Cls) : clsN c = classOf c := by cases c <;> rfl
theorem errIs_of {e : Err} (h : msgOk e.msg = true) : ErrIs (clsN e.cls, strU e.msg) e := by
  unfold msgOk at h
  rw [Bool.and_eq_true] at h
  obtain ⟨h1, h2⟩ := h
  refine ⟨clsN_is _, ?_, ?_, ?_⟩
  · show (((e.msg.map (·.toNat)).toArray).toList).map UInt8.ofNat = e.msg.map octetOf
    rw [List.map_map]
    rfl
  · show ((e.msg.map (·.toNat)).toArray).all (· < 128) = true
    rw [List.all_toArray, List.all_map]
    exact h1
  · show ((e.msg.map (·.toNat)).toArray).size ≤ 60000
    rw [List.size_toArray, List.length_map]
    exact of_decide_eq_true h2
theorem lift_is {α : Type} {y : Res α} (h : Good y) : OutIs (fun a b => a = b) (lift y) y := by
  cases y with
  | error e => exact errIs_of (h e rfl)
  | ok a => exact rfl
/-- a message of the program's own -/
theorem msg_is {s : Str} {m : String} (h1 : asc s = (units m).map octetOf) (h2 : s.cps.all (· < 128) = true) (h3 : s.cps.size ≤ 60000) : ErrIs (1, s) (typeErr m) := ⟨rfl, h1, h2, h3⟩
/-! ### numbers -/
theorem integerIn_is (a b : Nat) (v : WVal) : integerIn a b (taken v) = intIn a b v := by
  cases v <;> rfl
theorem numE_is {w : Str} {a b : Nat} {v : WVal} {m : String} (h : ErrIs (1, numMsg w a b) (typeErr m)) : OutIs (fun x y => x = y) (numE w a b v) (ofOption m (integerIn a b (taken v))) := by
  rw [integerIn_is]
  unfold numE
  cases intIn a b v with
  | none => exact h
  | some n => exact rfl
theorem group_is (v : WVal) : OutIs (fun x y => x = y) (numE "group" 0 100 v) (groupArg "group" (taken v)) := numE_is (msg_is (by decide +kernel) (by decide +kernel) (by decide +kernel))
theorem parent_is (v : WVal) : OutIs (fun x y => x = y) (numE "parent" 0 100 v) (groupArg "parent" (taken v)) := numE_is (msg_is (by decide +kernel) (by decide +kernel) (by decide +kernel))
theorem page_is (v : WVal) : OutIs (fun x y => x = y) (numE "page" 1 1000000000 v) (pageArg (taken v)) := numE_is (msg_is (by decide +kernel) (by decide +kernel) (by decide +kernel))
theorem count1_is (v : WVal) : OutIs (fun x y => x = y) (numE "count" 1 1000 v) (countArg 1 1000 (taken v)) := numE_is (msg_is (by decide +kernel) (by decide +kernel) (by decide +kernel))
theorem count0_is (v : WVal) : OutIs (fun x y => x = y) (numE "count" 0 2000 v) (countArg 0 2000 (taken v)) := numE_is (msg_is (by decide +kernel) (by decide +kernel) (by decide +kernel))
/-! ### limits -/
theorem unitOf_inj {a b : UInt8} (h : unitOf a = unitOf b) : a = b := by
  have := congrArg UInt16.toNat h
  unfold unitOf at this
  have ha := a.toNat_lt
  have hb := b.toNat_lt
  rw [UInt16.toNat_ofNat_of_lt' (by show a.toNat < 65536; omega), UInt16.toNat_ofNat_of_lt' (by show b.toNat < 65536; omega)] at this
  exact UInt8.toNat.inj this
theorem map_unitOf_inj : ∀ {a b : List UInt8}, a.map unitOf = b.map unitOf → a = b
  | [], [], _ => rfl
  | [], b :: r, h => by cases h
  | a :: r, [], h => by cases h
  | a :: r, b :: s, h => by
    rw [List.map_cons, List.map_cons] at h
    injection h with h1 h2
    rw [unitOf_inj h1, map_unitOf_inj h2]
theorem beq_units (a b : List UInt8) : (a.map unitOf == b.map unitOf) = (a == b) := by
  by_cases h : a = b
  · rw [h, beq_self_eq_true, beq_self_eq_true]
  · rw [beq_eq_false_iff_ne.mpr h, beq_eq_false_iff_ne.mpr fun z => h (map_unitOf_inj z)]
theorem field_is {s : Str} {n : String} (h : (asc s).map unitOf = units n) : ∀ l : List (RWire.Text × WVal), field (takenFields l) n = taken (memV l (asc s))
  | [] => rfl
  | (u, v) :: r => by
    have ih := field_is h r
    unfold R7278g.Spec.field memV at ih ⊢
    rw [takenFields, List.find?_cons, List.find?_cons]
    have : (u.map unitOf == units n) = (u == asc s) := by rw [← h, beq_units]
    show (match (match (u.map unitOf == units n) with | true => some (u.map unitOf, taken v) | false => (takenFields r).find? fun f => f.1 == units n) with | some f => f.2 | none => Plain.undef) = taken (match (match (u == asc s) with | true => some (u, v) | false => r.find? fun e => e.1 == asc s) with | some e => e.2 | none => .nothing)
    rw [this]
    cases (u == asc s) with
    | true => rfl
    | false => exact ih
theorem limit_is (l : List (RWire.Text × WVal)) {s : Str} {n : String} (h : (asc s).map unitOf = units n) : integerIn 0 1000000000 (field (takenFields l) n) = limM l s := by
  rw [field_is h, integerIn_is]
  rfl
theorem limE_is (v : WVal) : OutIs (fun x y => x = y) (limE v) (limitsArg (taken v)) := by
  have no : ∀ v, limW v = .error "limits must be a record" → limitsArg (taken v) = argErr "limits must be a record" → OutIs (fun x y => x = y) (limE v) (limitsArg (taken v)) := fun v h1 h2 => by
    unfold limE
    rw [h1, h2]
    exact msg_is (s := "limits must be a record") (m := "limits must be a record") (by decide +kernel) (by decide +kernel) (by decide +kernel)
  cases v with
  | record l =>
    have e1 := limit_is l (s := "max") (n := "max") (by decide +kernel)
    have e2 := limit_is l (s := "min") (n := "min") (by decide +kernel)
    have e3 := limit_is l (s := "low") (n := "low") (by decide +kernel)
    show OutIs (fun x y => x = y) (limE (.record l)) (andThen (ofOption _ (integerIn 0 1000000000 (field (takenFields l) "max"))) fun a => andThen (ofOption _ (integerIn 0 1000000000 (field (takenFields l) "min"))) fun b => andThen (ofOption _ (integerIn 0 1000000000 (field (takenFields l) "low"))) fun c => .ok (a, b, c))
    rw [e1, e2, e3]
    unfold limE limW
    dsimp only
    cases limM l "max" with
    | none => exact msg_is (s := numMsg "max" 0 1000000000) (m := "max" ++ " must be an integer from 0 to 1000000000") (by decide +kernel) (by decide +kernel) (by decide +kernel)
    | some a => cases limM l "min" with
      | none => exact msg_is (s := numMsg "min" 0 1000000000) (m := "min" ++ " must be an integer from 0 to 1000000000") (by decide +kernel) (by decide +kernel) (by decide +kernel)
      | some b => cases limM l "low" with
        | none => exact msg_is (s := numMsg "low" 0 1000000000) (m := "low" ++ " must be an integer from 0 to 1000000000") (by decide +kernel) (by decide +kernel) (by decide +kernel)
        | some c => exact rfl
  | nothing => exact no _ rfl rfl
  | null => exact no _ rfl rfl
  | bool b => exact no _ rfl rfl
  | int i => exact no _ rfl rfl
  | big i => exact no _ rfl rfl
  | text u => exact no _ rfl rfl
  | wide u => exact no _ rfl rfl
  | octets u => exact no _ rfl rfl
  | list u => exact no _ rfl rfl
/-! ### states -/
theorem text_is {s : Str} {n : String} (h : (asc s).map unitOf = units n) (u : RWire.Text) : (u.map unitOf = units n) ↔ (u == asc s) = true := by
  rw [← h]
  exact ⟨fun z => beq_iff_eq.mpr (map_unitOf_inj z), fun z => congrArg _ (beq_iff_eq.mp z)⟩
theorem stateE_is (v : WVal) (hw : RWire.noWide v = true) : OutIs (fun x y => x = y) (stateE v) (stateArg (taken v)) := by
  have no : ∀ v, (∀ u, isTextW v u = false) → stateArg (taken v) = argErr "state must be plain, dirty, or locked" → OutIs (fun x y => x = y) (stateE v) (stateArg (taken v)) := fun v h1 h2 => by
    unfold stateE
    rw [h1, h1, h1, h2]
    exact msg_is (s := "state must be plain, dirty, or locked") (m := "state must be plain, dirty, or locked") (by decide +kernel) (by decide +kernel) (by decide +kernel)
  cases v with
  | text u =>
    have t1 := text_is (s := "plain") (n := "plain") (by decide +kernel) u
    have t2 := text_is (s := "dirty") (n := "dirty") (by decide +kernel) u
    have t3 := text_is (s := "locked") (n := "locked") (by decide +kernel) u
    show OutIs (fun x y => x = y) (if (u == asc "plain") = true then _ else if (u == asc "dirty") = true then _ else if (u == asc "locked") = true then _ else _) (if u.map unitOf = units "plain" then _ else if u.map unitOf = units "dirty" then _ else if u.map unitOf = units "locked" then _ else _)
    by_cases h1 : u.map unitOf = units "plain"
    · rw [if_pos h1, if_pos (t1.mp h1)]
      exact rfl
    rw [if_neg h1, if_neg fun z => h1 (t1.mpr z)]
    by_cases h2 : u.map unitOf = units "dirty"
    · rw [if_pos h2, if_pos (t2.mp h2)]
      exact rfl
    rw [if_neg h2, if_neg fun z => h2 (t2.mpr z)]
    by_cases h3 : u.map unitOf = units "locked"
    · rw [if_pos h3, if_pos (t3.mp h3)]
      exact rfl
    rw [if_neg h3, if_neg fun z => h3 (t3.mpr z)]
    exact msg_is (s := "state must be plain, dirty, or locked") (m := "state must be plain, dirty, or locked") (by decide +kernel) (by decide +kernel) (by decide +kernel)
  | wide u => cases hw
  | nothing => exact no _ (fun _ => rfl) rfl
  | null => exact no _ (fun _ => rfl) rfl
  | bool b => exact no _ (fun _ => rfl) rfl
  | int i => exact no _ (fun _ => rfl) rfl
  | big i => exact no _ (fun _ => rfl) rfl
  | record u => exact no _ (fun _ => rfl) rfl
  | octets u => exact no _ (fun _ => rfl) rfl
  | list u => exact no _ (fun _ => rfl) rfl
end Gm
end

section
set_option maxRecDepth 100000
set_option maxHeartbeats 8000000
/-! # The plain law, part 2: what the doors do -/
namespace Gm
open PySem PySem.Spec PyProof.Rows L2 L2G GmM
open R7278g.Spec (Plain Res andThen argErr ofOption rangeErrS typeErr rangeErr units integerIn integerOf limitArg limitsArg groupArg pageArg countArg stateArg Err live kids under nat text record idsPlain pagePlain takenPlain groupPlain statePlain statesPlain iteration optNat silently)
open Rust (taken takenAll takenFields unitOf octetOf given givenAll givenFields argAt classOf)
/-! ### refusals of a memory -/
theorem good_group (m : SMem) (g : Nat) : Good (m.group g) := good_if good_ok (good_err (by decide +kernel))
theorem good_add (m : SMem) (p a b c : Nat) : Good (m.add p a b c) := good_then (good_group m p) fun _ => good_if (good_err (by decide +kernel)) (good_if (good_err (by decide +kernel)) good_ok)
theorem good_limit (m : SMem) (g a b c : Nat) : Good (m.limit g a b c) := good_then (good_group m g) fun _ => by
  cases m.pick [(g, m.usage g - a)] with
  | none => exact good_err (by decide +kernel)
  | some l => exact good_ok
theorem good_remove (m : SMem) (g : Nat) : Good (m.remove g) := good_then (good_group m g) fun _ => good_if (good_err (by decide +kernel)) (good_if (good_err (by decide +kernel)) (good_if (good_err (by decide +kernel)) good_ok))
theorem good_move (m : SMem) (g p : Nat) : Good (m.move g p) := good_then (good_group m g) fun _ => good_then (good_group m p) fun _ => good_if (good_err (by decide +kernel)) (good_if (good_err (by decide +kernel)) (good_if (good_err (by decide +kernel)) (good_if good_ok (good_err (by decide +kernel)))))
theorem good_alloc (m : SMem) (g n : Nat) : Good (m.alloc g n) := good_then (good_group m g) fun _ => good_if (good_err (by decide +kernel)) (good_if (good_err (by decide +kernel)) (by
  cases m.plan g n with
  | none => exact good_err (by decide +kernel)
  | some l => exact good_ok))
theorem good_reclaim (m : SMem) (g n : Nat) : Good (m.reclaim g n) := good_then (good_group m g) fun _ => by
  cases m.pick [(g, n)] with
  | none => exact good_err (by decide +kernel)
  | some l => exact good_ok
theorem good_pageOf (m : SMem) (i : Nat) : Good (m.pageOf i) := by
  unfold R7278g.Spec.Mem.pageOf
  cases m.page i with
  | none => exact good_err (by decide +kernel)
  | some p => exact good_ok
theorem good_free (m : SMem) (i : Nat) : Good (m.free i) := good_then (good_pageOf m i) fun _ => good_ok
theorem good_touch (m : SMem) (i : Nat) : Good (m.touch i) := good_then (good_pageOf m i) fun _ => good_ok
theorem good_mark (m : SMem) (i : Nat) (x : R7278g.Spec.State) : Good (m.mark i x) := good_then (good_pageOf m i) fun _ => good_ok
theorem good_sync (m : SMem) (g : Nat) : Good (m.sync g) := good_then (good_group m g) fun _ => good_ok
/-! ### what is handed out -/
def PairIs (a : WVal × SMem) (b : Plain × SMem) : Prop := given b.1 = a.1 ∧ a.2 = b.2
def ValIs (a : WVal) (b : Plain) : Prop := given b = a
theorem given_nat (n : Nat) : given (nat n) = .int ((n : Nat) : Int) := rfl
theorem given_all : ∀ l : List Plain, givenAll l = l.map given
  | [] => rfl
  | v :: r => by rw [givenAll, given_all r]; rfl
theorem given_ids (l : List SPage) : given (idsPlain l) = .list ((l.map fun p => (p.id : Int)).map RWire.Value.int) := by
  show RWire.Value.list (givenAll (l.map fun p => nat p.id)) = _
  rw [given_all, List.map_map, List.map_map]
  rfl
theorem silently_is {y : Res SMem} (h : Good y) : OutIs PairIs (bindE (lift y) fun r => .ok (.nothing, r)) (silently y) := (lift_is h).bind fun a b e => ⟨rfl, e⟩
theorem groupsW_is (m : SMem) (args : List WVal) :
    OutIs PairIs (groupsW 1 m args) (R7278g.Spec.addFn m (taken (argW args 1)) (taken (argW args 2))) ∧ OutIs PairIs (groupsW 2 m args) (R7278g.Spec.limitFn m (taken (argW args 1)) (taken (argW args 2))) ∧
    OutIs PairIs (groupsW 3 m args) (R7278g.Spec.removeFn m (taken (argW args 1))) ∧ OutIs PairIs (groupsW 4 m args) (R7278g.Spec.moveFn m (taken (argW args 1)) (taken (argW args 2))) := by
  refine ⟨?_, ?_, ?_, ?_⟩
  · refine (parent_is _).bind fun p p' e => (limE_is _).bind fun l l' e2 => ?_
    subst e
    subst e2
    exact (lift_is (good_add _ _ _ _ _)).bind fun a b e => by
      subst e
      exact ⟨rfl, rfl⟩
  · refine (group_is _).bind fun p p' e => (limE_is _).bind fun l l' e2 => ?_
    subst e
    subst e2
    exact silently_is (good_limit _ _ _ _ _)
  · refine (group_is _).bind fun p p' e => ?_
    subst e
    exact silently_is (good_remove _ _)
  · refine (group_is _).bind fun p p' e => (parent_is _).bind fun l l' e2 => ?_
    subst e
    subst e2
    exact silently_is (good_move _ _ _)
theorem pagesW_is (m : SMem) (args : List WVal) (hw : RWire.noWide (argW args 2) = true) :
    OutIs PairIs (pagesW 5 m args) (R7278g.Spec.allocFn m (taken (argW args 1)) (taken (argW args 2))) ∧ OutIs PairIs (pagesW 6 m args) (R7278g.Spec.reclaimFn m (taken (argW args 1)) (taken (argW args 2))) ∧
    OutIs PairIs (pagesW 7 m args) (R7278g.Spec.freeFn m (taken (argW args 1))) ∧ OutIs PairIs (pagesW 8 m args) (R7278g.Spec.touchFn m (taken (argW args 1))) ∧
    OutIs PairIs (pagesW 9 m args) (R7278g.Spec.markFn m (taken (argW args 1)) (taken (argW args 2))) ∧ OutIs PairIs (pagesW 10 m args) (R7278g.Spec.syncFn m (taken (argW args 1))) := by
  refine ⟨?_, ?_, ?_, ?_, ?_, ?_⟩
  · refine (group_is _).bind fun p p' e => (count1_is _).bind fun l l' e2 => ?_
    subst e
    subst e2
    exact (lift_is (good_alloc _ _ _)).bind fun a b e => by
      subst e
      exact ⟨rfl, rfl⟩
  · refine (group_is _).bind fun p p' e => (count0_is _).bind fun l l' e2 => ?_
    subst e
    subst e2
    exact (lift_is (good_reclaim _ _ _)).bind fun a b e => by
      subst e
      exact ⟨given_ids _, rfl⟩
  · refine (page_is _).bind fun p p' e => ?_
    subst e
    exact silently_is (good_free _ _)
  · refine (page_is _).bind fun p p' e => ?_
    subst e
    exact silently_is (good_touch _ _)
  · refine (page_is _).bind fun p p' e => (stateE_is _ hw).bind fun l l' e2 => ?_
    subst e
    subst e2
    exact silently_is (good_mark _ _ _)
  · refine (group_is _).bind fun p p' e => ?_
    subst e
    exact silently_is (good_sync _ _)
theorem o_page : (units "page").map octetOf = asc "page" := by decide +kernel
theorem o_group : (units "group").map octetOf = asc "group" := by decide +kernel
theorem o_state : (units "state").map octetOf = asc "state" := by decide +kernel
theorem o_groups : (units "groups").map octetOf = asc "groups" := by decide +kernel
theorem o_pages : (units "pages").map octetOf = asc "pages" := by decide +kernel
theorem o_value : (units "value").map octetOf = asc "value" := by decide +kernel
theorem o_done : (units "done").map octetOf = asc "done" := by decide +kernel
theorem o_parent : (units "parent").map octetOf = asc "parent" := by decide +kernel
theorem o_max : (units "max").map octetOf = asc "max" := by decide +kernel
theorem o_min : (units "min").map octetOf = asc "min" := by decide +kernel
theorem o_low : (units "low").map octetOf = asc "low" := by decide +kernel
theorem o_usage : (units "usage").map octetOf = asc "usage" := by decide +kernel
theorem o_hard : (units "hard").map octetOf = asc "hard" := by decide +kernel
theorem o_soft : (units "soft").map octetOf = asc "soft" := by decide +kernel
theorem given_state (s : R7278g.Spec.State) : given (statePlain s) = .text (asc (stS s)) := by
  cases s with
  | plain => exact congrArg RWire.Value.text (by decide +kernel)
  | dirty => exact congrArg RWire.Value.text (by decide +kernel)
  | locked => exact congrArg RWire.Value.text (by decide +kernel)
theorem given_page (p : SPage) : given (pagePlain p) = pgW p := by
  show RWire.Value.record [((units "page").map octetOf, .int (p.id : Int)), ((units "group").map octetOf, .int (p.group : Int)), ((units "state").map octetOf, given (statePlain p.state))] = _
  rw [o_page, o_group, o_state, given_state]
  rfl
theorem given_pages (l : List SPage) : given (.arr (l.map pagePlain)) = pagesV l := by
  show RWire.Value.list (givenAll (l.map pagePlain)) = _
  rw [given_all, List.map_map]
  exact congrArg RWire.Value.list (List.map_congr_left fun p _ => given_page p)
theorem given_iter (v : Plain) (b : Bool) : given (iteration v b) = iterV (given v) b := by
  show RWire.Value.record [((units "value").map octetOf, given v), ((units "done").map octetOf, .bool b)] = _
  rw [o_value, o_done]
  rfl
theorem given_taken (l : List (Nat × Nat)) : given (.arr (l.map takenPlain)) = .list (l.map fun e => recV [("page", .int ((e.1 : Nat) : Int)), ("group", .int ((e.2 : Nat) : Int))]) := by
  show RWire.Value.list (givenAll (l.map takenPlain)) = _
  rw [given_all, List.map_map]
  refine congrArg RWire.Value.list (List.map_congr_left fun e _ => ?_)
  show RWire.Value.record [((units "page").map octetOf, .int (e.1 : Int)), ((units "group").map octetOf, .int (e.2 : Int))] = _
  rw [o_page, o_group]
  rfl
theorem given_states (m : SMem) : given (statesPlain m) = recV [("groups", .int (((liveL m.groups).length : Nat) : Int)), ("pages", .int ((m.pages.length : Nat) : Int))] := by
  show RWire.Value.record [((units "groups").map octetOf, .int (((List.range m.groups.length).countP fun g => live m.groups g : Nat) : Int)), ((units "pages").map octetOf, .int (m.pages.length : Int))] = _
  rw [o_groups, o_pages, List.countP_eq_length_filter]
  rfl
theorem given_group (m : SMem) (g : Nat) : given (groupPlain m g) = grpV m g := by
  show RWire.Value.record [((units "parent").map octetOf, given (optNat (if g = 0 then none else some (m.groups.at_ g).parent))), ((units "groups").map octetOf, .list (givenAll ((kids m.groups g).map nat))), ((units "max").map octetOf, .int ((m.groups.at_ g).max : Int)), ((units "min").map octetOf, .int ((m.groups.at_ g).min : Int)), ((units "low").map octetOf, .int ((m.groups.at_ g).low : Int)), ((units "usage").map octetOf, .int (m.usage g : Int)), ((units "hard").map octetOf, .int (m.hard g : Int)), ((units "soft").map octetOf, .int (m.soft g : Int))] = _
  rw [o_parent, o_groups, o_max, o_min, o_low, o_usage, o_hard, o_soft, given_all, List.map_map]
  have e1 : given (optNat (if g = 0 then none else some (m.groups.at_ g).parent)) = if g = 0 then .null else .int ((par m.groups g : Nat) : Int) := by
    by_cases h : g = 0
    · rw [if_pos h, if_pos h]
      rfl
    · rw [if_neg h, if_neg h]
      rfl
  have e2 : (kids m.groups g).map (given ∘ nat) = ((kids m.groups g).map fun n : Nat => (n : Int)).map RWire.Value.int := by
    rw [List.map_map]
    rfl
  rw [e1, e2]
  rfl
theorem askW_is (m : SMem) (args : List WVal) :
    OutIs ValIs (askW 11 m args) (R7278g.Spec.planFn m (taken (argW args 1)) (taken (argW args 2))) ∧ OutIs ValIs (askW 12 m args) (R7278g.Spec.groupFn m (taken (argW args 1))) ∧ OutIs ValIs (askW 13 m args) (R7278g.Spec.pagesFn m (taken (argW args 1))) ∧
    OutIs ValIs (askW 14 m args) (.ok (.arr (m.taken.map takenPlain))) ∧ OutIs ValIs (askW 15 m args) (.ok (statesPlain m)) := by
  refine ⟨?_, ?_, ?_, given_taken _, given_states _⟩
  · refine (group_is _).bind fun p p' e => (count1_is _).bind fun l l' e2 => ?_
    subst e
    subst e2
    refine (lift_is (good_group _ _)).bind fun a b e => ?_
    cases m.plan p l with
    | none => exact rfl
    | some l => exact given_ids _
  · refine (group_is _).bind fun p p' e => ?_
    subst e
    exact (lift_is (good_group _ _)).bind fun a b e => given_group _ _
  · refine (group_is _).bind fun p p' e => ?_
    subst e
    exact (lift_is (good_group _ _)).bind fun a b e => given_pages _
end Gm
end

section
set_option maxRecDepth 100000
set_option maxHeartbeats 8000000
/-! # The plain law, part 3: one request -/
namespace Gm
open PySem PySem.Spec PyProof.Rows L2 L2G GmM
open R7278g.Spec (Plain Res Ans Call andThen memIndex memAt streamAt hasMem hasStream within atMem changing looking outcome)
open Rust (taken takenAll takenFields unitOf octetOf given givenAll givenFields argAt classOf slotOf slotAt callOf taking)
def AnsIs : Out WVal → Ans → Prop
  | .error e, .fail x => ErrIs e x
  | .ok v, .ret p => given p = v
  | _, _ => False
theorem takenAll_getD : ∀ (l : List WVal) (i : Nat), argAt (takenAll l) i = taken (argW l i)
  | [], i => by
    unfold argAt argW
    rw [takenAll, List.getD_nil, List.getD_nil]
    rfl
  | v :: r, 0 => rfl
  | v :: r, i + 1 => takenAll_getD r i
theorem takenAll_len : ∀ l : List WVal, (takenAll l).length = l.length
  | [] => rfl
  | v :: r => congrArg (· + 1) (takenAll_len r)
theorem pad_arg (d : Nat) (l : List WVal) (i : Nat) : argW (padW d l) i = argW l i := by
  unfold argW padW
  rw [List.getD_eq_getElem?_getD, List.getD_eq_getElem?_getD]
  by_cases h : i < l.length
  · rw [List.getElem?_append_left h]
  · rw [List.getElem?_append_right (by omega), List.getElem?_eq_none (by omega : l.length ≤ i)]
    by_cases h2 : i - l.length < argN d - l.length
    · rw [List.getElem?_replicate, if_pos h2]
      rfl
    · rw [List.getElem?_replicate, if_neg h2]
theorem pad_len {d : Nat} {l : List WVal} (h : l.length ≤ argN d) : (padW d l).length = argN d := by
  unfold padW
  rw [List.length_append, List.length_replicate]
  omega
theorem slot_is {last p : Nat} {v : WVal} (h : slotOf last (taken v) = some p) : v = .int ((p : Nat) : Int) ∧ p ≤ last := by
  cases v with
  | int i =>
    have h : (some i).bind (fun k : Int => if decide (0 ≤ k) && Nat.ble k.toNat last then some k.toNat else none) = some p := h
    rw [Option.bind_some] at h
    by_cases hc : (decide (0 ≤ i) && Nat.ble i.toNat last) = true
    · rw [if_pos hc] at h
      rw [Bool.and_eq_true] at hc
      have h0 := of_decide_eq_true hc.1
      have h1 := Nat.le_of_ble_eq_true hc.2
      have h := Option.some.inj h
      subst h
      refine ⟨?_, h1⟩
      congr 1
      omega
    · rw [if_neg hc] at h
      cases h
  | nothing => cases h
  | null => cases h
  | bool b => cases h
  | big i => cases h
  | text u => cases h
  | wide u => cases h
  | octets u => cases h
  | list u => cases h
  | record u => cases h
/-- a call of a door that has one slot, a memory's -/
theorem taking_some {n : Nat} {L : List Plain} {x : Option Call} {c : Call} (h : taking n L x = some c) : L.length ≤ n ∧ x = some c := by
  unfold taking at h
  by_cases hc : Nat.ble L.length n = true
  · rw [if_pos hc] at h
    exact ⟨Nat.le_of_ble_eq_true hc, h⟩
  · rw [if_neg hc] at h
    cases h
theorem slotAt_is {l : List WVal} {i last p : Nat} (h : slotAt (takenAll l) i last = some p) : argW l i = .int ((p : Nat) : Int) ∧ p ≤ last := by
  unfold Rust.slotAt at h
  rw [takenAll_getD] at h
  exact slot_is h
theorem hasMem_some {W : SWorld} {p : Nat} (h : hasMem W p = true) : p < 3 ∧ ∃ m, memAt W p = some m := by
  unfold R7278g.Spec.hasMem at h
  rw [Bool.and_eq_true] at h
  refine ⟨of_decide_eq_true h.1, ?_⟩
  cases e : memAt W p with
  | none =>
    rw [e] at h
    cases h.2
  | some m => exact ⟨m, rfl⟩
theorem hasStream_some {W : SWorld} {p : Nat} (h : hasStream W p = true) : p < 2 ∧ ∃ m, streamAt W p = some m := by
  unfold R7278g.Spec.hasStream at h
  rw [Bool.and_eq_true] at h
  refine ⟨of_decide_eq_true h.1, ?_⟩
  cases e : streamAt W p with
  | none =>
    rw [e] at h
    cases h.2
  | some m => exact ⟨m, rfl⟩
mutual
theorem dat_depth : ∀ (v : WVal) (n : Nat), R7278g.Spec.Plain.withinDepth n (taken v) = true → (datW v).depth ≤ 3 * n + 2
  | .nothing, n, _ => by rw [datW]; exact Nat.le_trans (by decide : _ ≤ 2) (by omega)
  | .null, n, _ => by rw [datW]; exact Nat.le_trans (by decide : _ ≤ 2) (by omega)
  | .bool b, n, _ => by rw [datW]; exact Nat.le_trans (by rw [PyData.depth, PyData.depthAll, PyData.depthAll, PyData.depthAll, PyData.depth, PyData.depth]; decide : _ ≤ 2) (by omega)
  | .int i, n, _ => by rw [datW]; exact Nat.le_trans (by rw [PyData.depth, PyData.depthAll, PyData.depthAll, PyData.depthAll, PyData.depth, PyData.depth]; decide : _ ≤ 2) (by omega)
  | .text u, n, _ => by
    rw [datW, PyData.depth, PyData.depthAll, PyData.depthAll, PyData.depthAll, PyData.depth]
    have := octD_depth u
    omega
  | .big _, n, _ => by rw [datW, PyData.depth]; omega
  | .octets _, n, _ => by rw [datW, PyData.depth]; omega
  | .wide _, n, _ => by rw [datW, PyData.depth]; omega
  | .list l, 0, h => by cases h
  | .list l, n + 1, h => by
    have := datM_depth l n h
    rw [datW, PyData.depth, PyData.depthAll, PyData.depthAll, PyData.depthAll, PyData.depth, PyData.depth]
    omega
  | .record l, 0, h => by cases h
  | .record l, n + 1, h => by
    have h : (decide ((takenFields l).length ≤ 100) && R7278g.Spec.distinct ((takenFields l).map (·.1)) && (takenFields l).all (fun f => !R7278g.Spec.isIndexName f.1) && (takenFields l).all fun f => R7278g.Spec.Plain.withinDepth n f.2) = true := h
    rw [Bool.and_eq_true] at h
    have := datE_depth l n h.2
    rw [datW, PyData.depth, PyData.depthAll, PyData.depthAll, PyData.depthAll, PyData.depth, PyData.depth]
    omega
theorem datM_depth : ∀ (l : List WVal) (n : Nat), ((takenAll l).all fun x => R7278g.Spec.Plain.withinDepth n x) = true → PyData.depthAll (datM l) ≤ 3 * n + 2
  | [], n, _ => by rw [datM, PyData.depthAll]; omega
  | v :: r, n, h => by
    rw [takenAll, List.all_cons, Bool.and_eq_true] at h
    have h1 := dat_depth v n h.1
    have h2 := datM_depth r n h.2
    rw [datM, PyData.depthAll]
    omega
theorem datE_depth : ∀ (l : List (RWire.Text × WVal)) (n : Nat), ((takenFields l).all fun f => R7278g.Spec.Plain.withinDepth n f.2) = true → PyData.depthAll (datE l) ≤ 3 * n + 3
  | [], n, _ => by rw [datE, PyData.depthAll]; omega
  | (u, v) :: r, n, h => by
    rw [takenFields, List.all_cons, Bool.and_eq_true] at h
    have h1 := dat_depth v n h.1
    have h2 := datE_depth r n h.2
    have h3 := octD_depth u
    rw [datE, PyData.depthAll, PyData.depth, PyData.depthAll, PyData.depthAll, PyData.depthAll]
    dsimp only
    omega
end
end Gm
end

section
set_option maxRecDepth 100000
set_option maxHeartbeats 8000000
/-! # The plain law, part 4: one call -/
namespace Gm
open PySem PySem.Spec PyProof.Rows L2 L2G GmM
open R7278g.Spec (Plain Res Ans Call andThen memIndex memAt streamAt hasMem hasStream within atMem changing looking outcome)
open Rust (taken takenAll takenFields unitOf octetOf given givenAll givenFields argAt classOf slotOf callOf taking)
def chg (W : SWorld) (i : Nat) (F : Out (WVal × SMem)) : SWorld × Out WVal := match F with
  | .error e => (W, .error e)
  | .ok r => (heapSet W i r.2, .ok r.1)
theorem stepW_chg {W : SWorld} {d p i : Nat} {m : SMem} {args : List WVal} (h1 : 1 ≤ d) (h10 : d ≤ 10) (hs : argW args 0 = .int ((p : Nat) : Int)) (hi : memIndex W p = some i) (hm : W.heap[i]? = some m) :
    stepW W d args = chg W i (if d < 5 then groupsW d m args else pagesW d m args) := by
  unfold stepW
  rw [if_neg (by omega), if_neg (by omega), hs, show slotW (.int ((p : Nat) : Int)) = p from Int.toNat_natCast p, hi]
  dsimp only
  rw [hm]
  dsimp only
  rw [if_pos (by omega)]
  rfl
theorem stepW_ask {W : SWorld} {d p i : Nat} {m : SMem} {args : List WVal} (h1 : 11 ≤ d) (h10 : d ≤ 15) (hs : argW args 0 = .int ((p : Nat) : Int)) (hi : memIndex W p = some i) (hm : W.heap[i]? = some m) : stepW W d args = (W, askW d m args) := by
  unfold stepW
  rw [if_neg (by omega), if_neg (by omega), hs, show slotW (.int ((p : Nat) : Int)) = p from Int.toNat_natCast p, hi]
  dsimp only
  rw [hm]
  dsimp only
  rw [if_neg (by omega)]
theorem chg_is {W : SWorld} {p i : Nat} {m : SMem} {F : Out (WVal × SMem)} {G : SMem → Res (Plain × SMem)} (hi : memIndex W p = some i) (hm : W.heap[i]? = some m) (h : OutIs PairIs F (G m)) :
    (atMem W p fun i => changing W i G).1 = (chg W i F).1 ∧ AnsIs (chg W i F).2 (atMem W p fun i => changing W i G).2 := by
  unfold R7278g.Spec.atMem
  rw [hi]
  dsimp only
  unfold R7278g.Spec.changing
  rw [hm]
  dsimp only
  cases F with
  | error e => cases hg : G m with
    | error x =>
      rw [hg] at h
      exact ⟨rfl, h⟩
    | ok b =>
      rw [hg] at h
      exact h.elim
  | ok r => cases hg : G m with
    | error x =>
      rw [hg] at h
      exact h.elim
    | ok b =>
      rw [hg] at h
      obtain ⟨h1, h2⟩ := h
      refine ⟨?_, h1⟩
      show { W with heap := W.heap.set i b.2 } = heapSet W i r.2
      rw [h2]
theorem ask_is {W : SWorld} {p i : Nat} {m : SMem} {F : Out WVal} {G : SMem → Res Plain} (hi : memIndex W p = some i) (hm : W.heap[i]? = some m) (h : OutIs ValIs F (G m)) :
    (atMem W p fun i => looking W i G).1 = W ∧ AnsIs F (atMem W p fun i => looking W i G).2 := by
  unfold R7278g.Spec.atMem
  rw [hi]
  dsimp only
  unfold R7278g.Spec.looking
  rw [hm]
  dsimp only
  cases F with
  | error e => cases hg : G m with
    | error x =>
      rw [hg] at h
      exact ⟨rfl, h⟩
    | ok b =>
      rw [hg] at h
      exact h.elim
  | ok r => cases hg : G m with
    | error x =>
      rw [hg] at h
      exact h.elim
    | ok b =>
      rw [hg] at h
      exact ⟨rfl, h⟩
def CallIs (W : SWorld) (d : Nat) (l : List WVal) (c : Call) : Prop := ∃ p, l.length ≤ argN d ∧ StepOk W d (padW d l) p ∧ (R7278g.Spec.step W c).1 = (stepW W d (padW d l)).1 ∧ AnsIs (stepW W d (padW d l)).2 (R7278g.Spec.step W c).2
theorem depth_arg {W : SWorld} {l : List WVal} {i : Nat} (h : R7278g.Spec.Plain.withinDepth 8 (taken (argW l i)) = true) : (datW (argW l i)).depth ≤ 64 := Nat.le_trans (dat_depth _ 8 h) (by decide)
theorem depth_none {l : List WVal} {i : Nat} (h : l.length ≤ i) : (datW (argW l i)).depth ≤ 64 := by
  have : argW l i = .nothing := by
    unfold argW
    rw [List.getD_eq_getElem?_getD, List.getElem?_eq_none h]
    rfl
  rw [this, datW]
  decide
theorem chg_call {W : SWorld} {d p : Nat} {l : List WVal} {c : Call} {G : SMem → Res (Plain × SMem)} (h1 : 1 ≤ d) (h10 : d ≤ 10) (hs : argW l 0 = .int ((p : Nat) : Int)) (hm : hasMem W p = true) (hl : l.length ≤ argN d) (hdep : 5 ≤ d → (datW (argW l 2)).depth ≤ 64)
    (hF : ∀ m, OutIs PairIs (if d < 5 then groupsW d m (padW d l) else pagesW d m (padW d l)) (G m)) (hc : R7278g.Spec.step W c = atMem W p fun i => changing W i G) : CallIs W d l c := by
  obtain ⟨h3, m, hm⟩ := hasMem_some hm
  obtain ⟨i, hi, hh⟩ := memAt_some hm
  have hs' : argW (padW d l) 0 = .int ((p : Nat) : Int) := by rw [pad_arg]; exact hs
  refine ⟨p, hl, ⟨by omega, hs', fun h => by omega, fun _ _ => ⟨m, hm⟩, fun h => by omega, pad_len hl, fun h5 _ => ?_⟩, ?_⟩
  · rw [pad_arg]
    exact hdep h5
  · rw [stepW_chg h1 h10 hs' hi hh, hc]
    exact chg_is hi hh (hF m)
theorem ask_call {W : SWorld} {d p : Nat} {l : List WVal} {c : Call} {G : SMem → Res Plain} (h1 : 11 ≤ d) (h10 : d ≤ 15) (hs : argW l 0 = .int ((p : Nat) : Int)) (hm : hasMem W p = true) (hl : l.length ≤ argN d)
    (hF : ∀ m, OutIs ValIs (askW d m (padW d l)) (G m)) (hc : R7278g.Spec.step W c = atMem W p fun i => looking W i G) : CallIs W d l c := by
  obtain ⟨h3, m, hm⟩ := hasMem_some hm
  obtain ⟨i, hi, hh⟩ := memAt_some hm
  have hs' : argW (padW d l) 0 = .int ((p : Nat) : Int) := by rw [pad_arg]; exact hs
  refine ⟨p, hl, ⟨by omega, hs', fun h => by omega, fun _ _ => ⟨m, hm⟩, fun h => by omega, pad_len hl, fun h5 _ => by omega⟩, ?_⟩
  rw [stepW_ask h1 h10 hs' hi hh, hc]
  exact ask_is hi hh (hF m)
theorem okM_arg {l : List WVal} (h : okM l = true) (i : Nat) : RWire.noWide (argW l i) = true := by
  induction l generalizing i with
  | nil =>
    unfold argW
    rw [List.getD_nil]
    rfl
  | cons v r ih =>
    obtain ⟨h1, h2⟩ := okM_cons h
    cases i with
    | zero =>
      unfold okV at h1
      rw [Bool.and_eq_true] at h1
      exact h1.2
    | succ i => exact ih h2 i
theorem fits2 {x y : Plain} (h : R7278g.Spec.fits [x, y] = true) : R7278g.Spec.Plain.withinDepth 8 x = true ∧ R7278g.Spec.Plain.withinDepth 8 y = true := by
  unfold R7278g.Spec.fits at h
  rw [Bool.and_eq_true, List.all_cons, List.all_cons, Bool.and_eq_true, Bool.and_eq_true] at h
  exact ⟨h.1.1, h.1.2.1⟩
theorem bind_some {f : Nat → Option Call} {x : Option Nat} {c : Call} (h : x.bind f = some c) : ∃ p, x = some p ∧ f p = some c := by
  cases x with
  | none => cases h
  | some p => exact ⟨p, rfl, h⟩
theorem door_none {d : Nat} (h : 19 ≤ d) (L : List Plain) : callOf d L = none := by
  unfold Rust.callOf
  by_cases h2 : d / 16 = 1
  · rw [h2]
    show Rust.calls1 d L = none
    unfold Rust.calls1
    split
    · omega
    · omega
    · omega
    · rfl
  · split
    · omega
    · omega
    · rfl
theorem door_1 {W : SWorld} {l : List WVal} {c : Call} (hc : callOf 1 (takenAll l) = some c) (hw : within W c = true) (ok : okM l = true) : CallIs W 1 l c := by
  obtain ⟨hl, hb⟩ := taking_some (n := 3) hc
  obtain ⟨p, hs, hc⟩ := bind_some hb
  have hc := Option.some.inj hc
  subst hc
  rw [takenAll_len] at hl
  obtain ⟨hs, hp⟩ := slotAt_is hs
  have hw : (hasMem W p && _) = true := hw
  rw [Bool.and_eq_true] at hw
  have hw2 : RWire.noWide (argW (padW 1 l) 2) = true := by
    rw [pad_arg]
    exact okM_arg ok 2
  refine chg_call (by decide) (by decide) hs hw.1 hl (fun h5 => ?_) (fun m => ?_) rfl
  · omega
  · have := (groupsW_is m (padW 1 l)).1
    simp only [pad_arg, ← takenAll_getD] at this
    exact this
theorem door_2 {W : SWorld} {l : List WVal} {c : Call} (hc : callOf 2 (takenAll l) = some c) (hw : within W c = true) (ok : okM l = true) : CallIs W 2 l c := by
  obtain ⟨hl, hb⟩ := taking_some (n := 3) hc
  obtain ⟨p, hs, hc⟩ := bind_some hb
  have hc := Option.some.inj hc
  subst hc
  rw [takenAll_len] at hl
  obtain ⟨hs, hp⟩ := slotAt_is hs
  have hw : (hasMem W p && _) = true := hw
  rw [Bool.and_eq_true] at hw
  have hw2 : RWire.noWide (argW (padW 2 l) 2) = true := by
    rw [pad_arg]
    exact okM_arg ok 2
  refine chg_call (by decide) (by decide) hs hw.1 hl (fun h5 => ?_) (fun m => ?_) rfl
  · omega
  · have := (groupsW_is m (padW 2 l)).2.1
    simp only [pad_arg, ← takenAll_getD] at this
    exact this
theorem door_3 {W : SWorld} {l : List WVal} {c : Call} (hc : callOf 3 (takenAll l) = some c) (hw : within W c = true) (ok : okM l = true) : CallIs W 3 l c := by
  obtain ⟨hl, hb⟩ := taking_some (n := 2) hc
  obtain ⟨p, hs, hc⟩ := bind_some hb
  have hc := Option.some.inj hc
  subst hc
  rw [takenAll_len] at hl
  obtain ⟨hs, hp⟩ := slotAt_is hs
  have hw : (hasMem W p && _) = true := hw
  rw [Bool.and_eq_true] at hw
  have hw2 : RWire.noWide (argW (padW 3 l) 2) = true := by
    rw [pad_arg]
    exact okM_arg ok 2
  refine chg_call (by decide) (by decide) hs hw.1 hl (fun h5 => ?_) (fun m => ?_) rfl
  · omega
  · have := (groupsW_is m (padW 3 l)).2.2.1
    simp only [pad_arg, ← takenAll_getD] at this
    exact this
theorem door_4 {W : SWorld} {l : List WVal} {c : Call} (hc : callOf 4 (takenAll l) = some c) (hw : within W c = true) (ok : okM l = true) : CallIs W 4 l c := by
  obtain ⟨hl, hb⟩ := taking_some (n := 3) hc
  obtain ⟨p, hs, hc⟩ := bind_some hb
  have hc := Option.some.inj hc
  subst hc
  rw [takenAll_len] at hl
  obtain ⟨hs, hp⟩ := slotAt_is hs
  have hw : (hasMem W p && _) = true := hw
  rw [Bool.and_eq_true] at hw
  have hw2 : RWire.noWide (argW (padW 4 l) 2) = true := by
    rw [pad_arg]
    exact okM_arg ok 2
  refine chg_call (by decide) (by decide) hs hw.1 hl (fun h5 => ?_) (fun m => ?_) rfl
  · omega
  · have := (groupsW_is m (padW 4 l)).2.2.2
    simp only [pad_arg, ← takenAll_getD] at this
    exact this
theorem door_5 {W : SWorld} {l : List WVal} {c : Call} (hc : callOf 5 (takenAll l) = some c) (hw : within W c = true) (ok : okM l = true) : CallIs W 5 l c := by
  obtain ⟨hl, hb⟩ := taking_some (n := 3) hc
  obtain ⟨p, hs, hc⟩ := bind_some hb
  have hc := Option.some.inj hc
  subst hc
  rw [takenAll_len] at hl
  obtain ⟨hs, hp⟩ := slotAt_is hs
  have hw : (hasMem W p && _) = true := hw
  rw [Bool.and_eq_true] at hw
  have hw2 : RWire.noWide (argW (padW 5 l) 2) = true := by
    rw [pad_arg]
    exact okM_arg ok 2
  refine chg_call (by decide) (by decide) hs hw.1 hl (fun h5 => ?_) (fun m => ?_) rfl
  · have := (fits2 hw.2).2
    rw [takenAll_getD] at this
    exact depth_arg (W := W) this
  · have := (pagesW_is m (padW 5 l) hw2).1
    simp only [pad_arg, ← takenAll_getD] at this
    exact this
theorem door_6 {W : SWorld} {l : List WVal} {c : Call} (hc : callOf 6 (takenAll l) = some c) (hw : within W c = true) (ok : okM l = true) : CallIs W 6 l c := by
  obtain ⟨hl, hb⟩ := taking_some (n := 3) hc
  obtain ⟨p, hs, hc⟩ := bind_some hb
  have hc := Option.some.inj hc
  subst hc
  rw [takenAll_len] at hl
  obtain ⟨hs, hp⟩ := slotAt_is hs
  have hw : (hasMem W p && _) = true := hw
  rw [Bool.and_eq_true] at hw
  have hw2 : RWire.noWide (argW (padW 6 l) 2) = true := by
    rw [pad_arg]
    exact okM_arg ok 2
  refine chg_call (by decide) (by decide) hs hw.1 hl (fun h5 => ?_) (fun m => ?_) rfl
  · have := (fits2 hw.2).2
    rw [takenAll_getD] at this
    exact depth_arg (W := W) this
  · have := (pagesW_is m (padW 6 l) hw2).2.1
    simp only [pad_arg, ← takenAll_getD] at this
    exact this
theorem door_7 {W : SWorld} {l : List WVal} {c : Call} (hc : callOf 7 (takenAll l) = some c) (hw : within W c = true) (ok : okM l = true) : CallIs W 7 l c := by
  obtain ⟨hl, hb⟩ := taking_some (n := 2) hc
  obtain ⟨p, hs, hc⟩ := bind_some hb
  have hc := Option.some.inj hc
  subst hc
  rw [takenAll_len] at hl
  obtain ⟨hs, hp⟩ := slotAt_is hs
  have hw : (hasMem W p && _) = true := hw
  rw [Bool.and_eq_true] at hw
  have hw2 : RWire.noWide (argW (padW 7 l) 2) = true := by
    rw [pad_arg]
    exact okM_arg ok 2
  refine chg_call (by decide) (by decide) hs hw.1 hl (fun h5 => ?_) (fun m => ?_) rfl
  · exact depth_none hl
  · have := (pagesW_is m (padW 7 l) hw2).2.2.1
    simp only [pad_arg, ← takenAll_getD] at this
    exact this
theorem door_8 {W : SWorld} {l : List WVal} {c : Call} (hc : callOf 8 (takenAll l) = some c) (hw : within W c = true) (ok : okM l = true) : CallIs W 8 l c := by
  obtain ⟨hl, hb⟩ := taking_some (n := 2) hc
  obtain ⟨p, hs, hc⟩ := bind_some hb
  have hc := Option.some.inj hc
  subst hc
  rw [takenAll_len] at hl
  obtain ⟨hs, hp⟩ := slotAt_is hs
  have hw : (hasMem W p && _) = true := hw
  rw [Bool.and_eq_true] at hw
  have hw2 : RWire.noWide (argW (padW 8 l) 2) = true := by
    rw [pad_arg]
    exact okM_arg ok 2
  refine chg_call (by decide) (by decide) hs hw.1 hl (fun h5 => ?_) (fun m => ?_) rfl
  · exact depth_none hl
  · have := (pagesW_is m (padW 8 l) hw2).2.2.2.1
    simp only [pad_arg, ← takenAll_getD] at this
    exact this
theorem door_9 {W : SWorld} {l : List WVal} {c : Call} (hc : callOf 9 (takenAll l) = some c) (hw : within W c = true) (ok : okM l = true) : CallIs W 9 l c := by
  obtain ⟨hl, hb⟩ := taking_some (n := 3) hc
  obtain ⟨p, hs, hc⟩ := bind_some hb
  have hc := Option.some.inj hc
  subst hc
  rw [takenAll_len] at hl
  obtain ⟨hs, hp⟩ := slotAt_is hs
  have hw : (hasMem W p && _) = true := hw
  rw [Bool.and_eq_true] at hw
  have hw2 : RWire.noWide (argW (padW 9 l) 2) = true := by
    rw [pad_arg]
    exact okM_arg ok 2
  refine chg_call (by decide) (by decide) hs hw.1 hl (fun h5 => ?_) (fun m => ?_) rfl
  · have := (fits2 hw.2).2
    rw [takenAll_getD] at this
    exact depth_arg (W := W) this
  · have := (pagesW_is m (padW 9 l) hw2).2.2.2.2.1
    simp only [pad_arg, ← takenAll_getD] at this
    exact this
theorem door_10 {W : SWorld} {l : List WVal} {c : Call} (hc : callOf 10 (takenAll l) = some c) (hw : within W c = true) (ok : okM l = true) : CallIs W 10 l c := by
  obtain ⟨hl, hb⟩ := taking_some (n := 2) hc
  obtain ⟨p, hs, hc⟩ := bind_some hb
  have hc := Option.some.inj hc
  subst hc
  rw [takenAll_len] at hl
  obtain ⟨hs, hp⟩ := slotAt_is hs
  have hw : (hasMem W p && _) = true := hw
  rw [Bool.and_eq_true] at hw
  have hw2 : RWire.noWide (argW (padW 10 l) 2) = true := by
    rw [pad_arg]
    exact okM_arg ok 2
  refine chg_call (by decide) (by decide) hs hw.1 hl (fun h5 => ?_) (fun m => ?_) rfl
  · exact depth_none hl
  · have := (pagesW_is m (padW 10 l) hw2).2.2.2.2.2
    simp only [pad_arg, ← takenAll_getD] at this
    exact this
theorem door_11 {W : SWorld} {l : List WVal} {c : Call} (hc : callOf 11 (takenAll l) = some c) (hw : within W c = true) (ok : okM l = true) : CallIs W 11 l c := by
  obtain ⟨hl, hb⟩ := taking_some (n := 3) hc
  obtain ⟨p, hs, hc⟩ := bind_some hb
  have hc := Option.some.inj hc
  subst hc
  rw [takenAll_len] at hl
  obtain ⟨hs, hp⟩ := slotAt_is hs
  have hw : (hasMem W p && _) = true := hw
  rw [Bool.and_eq_true] at hw
  refine ask_call (by decide) (by decide) hs hw.1 hl (fun m => ?_) rfl
  have := (askW_is m (padW 11 l)).1
  simp only [pad_arg, ← takenAll_getD] at this
  exact this
theorem door_12 {W : SWorld} {l : List WVal} {c : Call} (hc : callOf 12 (takenAll l) = some c) (hw : within W c = true) (ok : okM l = true) : CallIs W 12 l c := by
  obtain ⟨hl, hb⟩ := taking_some (n := 2) hc
  obtain ⟨p, hs, hc⟩ := bind_some hb
  have hc := Option.some.inj hc
  subst hc
  rw [takenAll_len] at hl
  obtain ⟨hs, hp⟩ := slotAt_is hs
  have hw : (hasMem W p && _) = true := hw
  rw [Bool.and_eq_true] at hw
  refine ask_call (by decide) (by decide) hs hw.1 hl (fun m => ?_) rfl
  have := (askW_is m (padW 12 l)).2.1
  simp only [pad_arg, ← takenAll_getD] at this
  exact this
theorem door_13 {W : SWorld} {l : List WVal} {c : Call} (hc : callOf 13 (takenAll l) = some c) (hw : within W c = true) (ok : okM l = true) : CallIs W 13 l c := by
  obtain ⟨hl, hb⟩ := taking_some (n := 2) hc
  obtain ⟨p, hs, hc⟩ := bind_some hb
  have hc := Option.some.inj hc
  subst hc
  rw [takenAll_len] at hl
  obtain ⟨hs, hp⟩ := slotAt_is hs
  have hw : (hasMem W p && _) = true := hw
  rw [Bool.and_eq_true] at hw
  refine ask_call (by decide) (by decide) hs hw.1 hl (fun m => ?_) rfl
  have := (askW_is m (padW 13 l)).2.2.1
  simp only [pad_arg, ← takenAll_getD] at this
  exact this
theorem door_14 {W : SWorld} {l : List WVal} {c : Call} (hc : callOf 14 (takenAll l) = some c) (hw : within W c = true) (ok : okM l = true) : CallIs W 14 l c := by
  obtain ⟨hl, hb⟩ := taking_some (n := 1) hc
  obtain ⟨p, hs, hc⟩ := bind_some hb
  have hc := Option.some.inj hc
  subst hc
  rw [takenAll_len] at hl
  obtain ⟨hs, hp⟩ := slotAt_is hs
  refine ask_call (by decide) (by decide) hs hw hl (fun m => ?_) rfl
  have := (askW_is m (padW 14 l)).2.2.2.1
  exact this
theorem door_15 {W : SWorld} {l : List WVal} {c : Call} (hc : callOf 15 (takenAll l) = some c) (hw : within W c = true) (ok : okM l = true) : CallIs W 15 l c := by
  obtain ⟨hl, hb⟩ := taking_some (n := 1) hc
  obtain ⟨p, hs, hc⟩ := bind_some hb
  have hc := Option.some.inj hc
  subst hc
  rw [takenAll_len] at hl
  obtain ⟨hs, hp⟩ := slotAt_is hs
  refine ask_call (by decide) (by decide) hs hw hl (fun m => ?_) rfl
  have := (askW_is m (padW 15 l)).2.2.2.2
  exact this
theorem okV_arg {l : List WVal} (h : okM l = true) (i : Nat) : okV (argW l i) = true := by
  induction l generalizing i with
  | nil =>
    unfold argW
    rw [List.getD_nil]
    rfl
  | cons v r ih =>
    obtain ⟨h1, h2⟩ := okM_cons h
    cases i with
    | zero => exact h1
    | succ i => exact ih h2 i
theorem door_0 {W : SWorld} {l : List WVal} {c : Call} (hc : callOf 0 (takenAll l) = some c) (hw : within W c = true) (ok : okM l = true) : CallIs W 0 l c := by
  obtain ⟨hl, hb⟩ := taking_some (n := 2) hc
  obtain ⟨p, hs, hc⟩ := bind_some hb
  have hc := Option.some.inj hc
  subst hc
  rw [takenAll_len] at hl
  obtain ⟨hs, hp⟩ := slotAt_is hs
  have hs' : argW (padW 0 l) 0 = .int ((p : Nat) : Int) := by rw [pad_arg]; exact hs
  refine ⟨p, hl, ⟨by decide, hs', fun _ => by omega, fun h => by omega, fun h => by omega, pad_len hl, fun h => by omega⟩, ?_⟩
  have h := limE_is (argW l 1)
  have e1 : stepW W 0 (padW 0 l) = match limE (argW l 1) with
      | .error e => (W, .error e)
      | .ok l => (memsSet W p (R7278g.Spec.newMem l.1 l.2.1 l.2.2), .ok .nothing) := by
    unfold stepW
    rw [if_pos rfl, hs', pad_arg, show slotW (.int ((p : Nat) : Int)) = p from Int.toNat_natCast p]
    all_goals (cases limE (argW l 1) <;> rfl)
  have e2 : R7278g.Spec.step W (.memNew p (argAt (takenAll l) 1)) = match R7278g.Spec.limitsArg (taken (argW l 1)) with
      | .ok l => (memsSet W p (R7278g.Spec.newMem l.1 l.2.1 l.2.2), .ret .undef)
      | .error e => (W, .fail e) := by
    rw [takenAll_getD]
    rfl
  rw [e1, e2]
  cases hx : limE (argW l 1) with
  | error e => cases hy : R7278g.Spec.limitsArg (taken (argW l 1)) with
    | error x =>
      rw [hx, hy] at h
      exact ⟨rfl, h⟩
    | ok b =>
      rw [hx, hy] at h
      exact h.elim
  | ok a => cases hy : R7278g.Spec.limitsArg (taken (argW l 1)) with
    | error x =>
      rw [hx, hy] at h
      exact h.elim
    | ok b =>
      rw [hx, hy] at h
      have h : a = b := h
      subst h
      exact ⟨rfl, rfl⟩
theorem stepW_walk {W : SWorld} {d : Nat} {args : List WVal} (h : 15 < d) : stepW W d args = ((walkW W d args).1, .ok (walkW W d args).2) := by
  unfold stepW
  rw [if_neg (by omega), if_pos h]
theorem door_16 {W : SWorld} {l : List WVal} {c : Call} (hc : callOf 16 (takenAll l) = some c) (hw : within W c = true) (ok : okM l = true) : CallIs W 16 l c := by
  obtain ⟨hl, hb⟩ := taking_some (n := 2) hc
  obtain ⟨e, hs, hb⟩ := bind_some hb
  obtain ⟨p, hs1, hc⟩ := bind_some hb
  have hc := Option.some.inj hc
  subst hc
  rw [takenAll_len] at hl
  obtain ⟨hs, he⟩ := slotAt_is hs
  obtain ⟨hs1, hp⟩ := slotAt_is hs1
  have hw : (decide (e < 2) && hasMem W p) = true := hw
  rw [Bool.and_eq_true] at hw
  obtain ⟨hp3, m, hm⟩ := hasMem_some hw.2
  have hs' : argW (padW 16 l) 0 = .int ((e : Nat) : Int) := by rw [pad_arg]; exact hs
  have hs1' : argW (padW 16 l) 1 = .int ((p : Nat) : Int) := by rw [pad_arg]; exact hs1
  refine ⟨e, hl, ⟨by decide, hs', fun h => by omega, fun h => by omega, fun _ => ⟨.inl rfl, hs', by omega, ?_, fun _ => ⟨p, m, hs1', hm⟩, fun h => absurd rfl h⟩, pad_len hl, fun h => by omega⟩, ?_⟩
  · rw [pad_len hl]
    decide
  rw [stepW_walk (by decide)]
  have e1 : walkW W 16 (padW 16 l) = (strSet W e ⟨m.mayTake m.hard, false⟩, .nothing) := by
    unfold walkW
    rw [if_pos rfl, hs1', hs', show slotW (.int ((p : Nat) : Int)) = p from Int.toNat_natCast p, show slotW (.int ((e : Nat) : Int)) = e from Int.toNat_natCast e, hm]
  have e2 : R7278g.Spec.step W (.streamNew e p) = (strSet W e ⟨m.mayTake m.hard, false⟩, .ret .undef) := by
    unfold R7278g.Spec.step
    dsimp only
    rw [hm]
  rw [e1, e2]
  exact ⟨rfl, rfl⟩
theorem door_17 {W : SWorld} {l : List WVal} {c : Call} (hc : callOf 17 (takenAll l) = some c) (hw : within W c = true) (ok : okM l = true) : CallIs W 17 l c := by
  obtain ⟨hl, hb⟩ := taking_some (n := 1) hc
  obtain ⟨e, hs, hc⟩ := bind_some hb
  have hc := Option.some.inj hc
  subst hc
  rw [takenAll_len] at hl
  obtain ⟨hs, he⟩ := slotAt_is hs
  have hw : hasStream W e = true := hw
  obtain ⟨he2, ⟨rs, en⟩, hm⟩ := hasStream_some hw
  have hs' : argW (padW 17 l) 0 = .int ((e : Nat) : Int) := by rw [pad_arg]; exact hs
  refine ⟨e, hl, ⟨by decide, hs', fun h => by omega, fun h => by omega, fun _ => ⟨.inr (.inl rfl), hs', he2, ?_, fun h => by omega, fun _ => ⟨_, hm⟩⟩, pad_len hl, fun h => by omega⟩, ?_⟩
  · rw [pad_len hl]
    decide
  rw [stepW_walk (by decide)]
  have e1 : walkW W 17 (padW 17 l) = nextW W e (padW 17 l) rs en := by
    unfold walkW
    rw [if_neg (by decide), hs', show slotW (.int ((e : Nat) : Int)) = e from Int.toNat_natCast e, hm]
    rfl
  rw [e1]
  unfold R7278g.Spec.step
  dsimp only
  rw [hm]
  cases en with
  | true => cases rs <;> exact ⟨rfl, given_iter _ _⟩
  | false => cases rs with
    | nil => exact ⟨rfl, given_iter _ _⟩
    | cons c r => exact ⟨rfl, by rw [show AnsIs _ _ = (given _ = _) from rfl]; rw [given_iter, given_page]; rfl⟩
theorem door_18 {W : SWorld} {l : List WVal} {c : Call} (hc : callOf 18 (takenAll l) = some c) (hw : within W c = true) (ok : okM l = true) (gt : ∀ v, okV v = true → given (taken v) = v) : CallIs W 18 l c := by
  obtain ⟨hl, hb⟩ := taking_some (n := 2) hc
  obtain ⟨e, hs, hc⟩ := bind_some hb
  have hc := Option.some.inj hc
  subst hc
  rw [takenAll_len] at hl
  obtain ⟨hs, he⟩ := slotAt_is hs
  have hw : (hasStream W e && _) = true := hw
  rw [Bool.and_eq_true] at hw
  obtain ⟨he2, st, hm⟩ := hasStream_some hw.1
  have hs' : argW (padW 18 l) 0 = .int ((e : Nat) : Int) := by rw [pad_arg]; exact hs
  refine ⟨e, hl, ⟨by decide, hs', fun h => by omega, fun h => by omega, fun _ => ⟨.inr (.inr rfl), hs', he2, ?_, fun h => by omega, fun _ => ⟨_, hm⟩⟩, pad_len hl, fun h => by omega⟩, ?_⟩
  · rw [pad_len hl]
    decide
  rw [stepW_walk (by decide)]
  have e1 : walkW W 18 (padW 18 l) = (strSet W e ⟨st.rest, true⟩, iterV (argW l 1) true) := by
    unfold walkW
    rw [if_neg (by decide), hs', show slotW (.int ((e : Nat) : Int)) = e from Int.toNat_natCast e, hm, pad_arg]
    rfl
  rw [e1]
  unfold R7278g.Spec.step
  dsimp only
  rw [hm]
  refine ⟨rfl, ?_⟩
  show given (R7278g.Spec.iteration (argAt (takenAll l) 1) true) = _
  rw [given_iter, takenAll_getD, gt _ (okV_arg ok 1)]
end Gm
end

section
set_option maxRecDepth 100000
set_option maxHeartbeats 8000000
/-! # The plain law, part 5: rows of requests -/
namespace Gm
open PySem PySem.Spec PyProof.Rows L2 L2G GmM
open R7278g.Spec (Plain Res Ans Call andThen memIndex memAt streamAt hasMem hasStream within atMem changing looking outcome)
open Rust (taken takenAll takenFields unitOf octetOf given givenAll givenFields argAt classOf slotOf callOf taking tellable answerOf)
theorem octet_unit (b : UInt8) : octetOf (unitOf b) = b := by
  unfold Rust.octetOf Rust.unitOf
  have hb := b.toNat_lt
  rw [UInt16.toNat_ofNat_of_lt' (by show b.toNat < 65536; omega)]
  exact UInt8.ofNat_toNat
theorem octets_units (u : List UInt8) : (u.map unitOf).map octetOf = u := by
  rw [List.map_map]
  have : octetOf ∘ unitOf = id := funext fun b => octet_unit b
  rw [this, List.map_id]
mutual
theorem given_taken_v : ∀ v : WVal, okV v = true → given (taken v) = v
  | .nothing, _ => rfl
  | .null, _ => rfl
  | .bool b, _ => rfl
  | .int i, _ => rfl
  | .text u, _ => by
    show RWire.Value.text ((u.map unitOf).map octetOf) = _
    rw [octets_units]
  | .big _, h => by simp [okV, RWire.noBig] at h
  | .octets _, h => by simp [okV, RWire.noOctets] at h
  | .wide _, h => by simp [okV, RWire.noWide] at h
  | .list l, h => by
    rw [okV_list] at h
    show RWire.Value.list (givenAll (takenAll l)) = _
    rw [given_taken_m l h]
  | .record l, h => by
    rw [okV_record] at h
    show RWire.Value.record (givenFields (takenFields l)) = _
    rw [given_taken_e l h]
theorem given_taken_m : ∀ l : List WVal, okM l = true → givenAll (takenAll l) = l
  | [], _ => rfl
  | v :: r, h => by
    have h := okM_cons h
    rw [takenAll, givenAll, given_taken_v v h.1, given_taken_m r h.2]
theorem given_taken_e : ∀ l : List (RWire.Text × WVal), okE l = true → givenFields (takenFields l) = l
  | [], _ => rfl
  | (u, v) :: r, h => by
    have h := okE_cons h
    rw [takenFields, givenFields, given_taken_v v h.1, given_taken_e r h.2, octets_units]
end
theorem call_is {W : SWorld} {d : Nat} {l : List WVal} {c : Call} (hc : callOf d (takenAll l) = some c) (hw : within W c = true) (ok : okM l = true) : CallIs W d l c :=
  match d, hc with
  | 0, hc => door_0 hc hw ok
  | 1, hc => door_1 hc hw ok
  | 2, hc => door_2 hc hw ok
  | 3, hc => door_3 hc hw ok
  | 4, hc => door_4 hc hw ok
  | 5, hc => door_5 hc hw ok
  | 6, hc => door_6 hc hw ok
  | 7, hc => door_7 hc hw ok
  | 8, hc => door_8 hc hw ok
  | 9, hc => door_9 hc hw ok
  | 10, hc => door_10 hc hw ok
  | 11, hc => door_11 hc hw ok
  | 12, hc => door_12 hc hw ok
  | 13, hc => door_13 hc hw ok
  | 14, hc => door_14 hc hw ok
  | 15, hc => door_15 hc hw ok
  | 16, hc => door_16 hc hw ok
  | 17, hc => door_17 hc hw ok
  | 18, hc => door_18 hc hw ok given_taken_v
  | n + 19, hc => by
    rw [door_none (by omega)] at hc
    cases hc
theorem out_of {o : Out WVal} {a : Ans} (h : AnsIs o a) (ht : tellable a = true) (hl : (RWire.writeAnswer (answerOf a)).length ≤ 65536) : OutOk o ∧ outO o = RWire.writeAnswer (answerOf a) := by
  cases o with
  | error e => cases a with
    | ret p => exact h.elim
    | fail x =>
      have h : ErrIs e x := h
      refine ⟨⟨?_, h.asc, h.len⟩, ?_⟩
      · rw [h.cls]
        cases x.cls <;> decide
      · show RWire.writeAnswer (.refused e.1 (asc e.2)) = RWire.writeAnswer (.refused (classOf x.cls) (x.msg.map octetOf))
        rw [h.cls, h.msg]
  | ok v => cases a with
    | fail x => exact h.elim
    | ret p =>
      have h : given p = v := h
      subst h
      have ht : (Rust.narrow p && (RWire.fine (given p) && decide (RWire.depth (given p) ≤ 32))) = true := ht
      rw [Bool.and_eq_true, Bool.and_eq_true] at ht
      have hl : (0 :: RWire.write (given p)).length ≤ 65536 := hl
      rw [List.length_cons] at hl
      exact ⟨⟨of_decide_eq_true ht.2.2, ht.2.1, by omega⟩, rfl⟩
/-- what is answered, request by request -/
def repl : SWorld → List Octs → List Octs
  | _, [] => []
  | W, b :: r => (Rust.step W b).2 :: repl (Rust.step W b).1 r
theorem asked_is {b : Octs} {c : Call} (h : Rust.asked b = some c) : ∃ d l, RWire.readRequest b = some (d, l) ∧ okM l = true ∧ callOf d (takenAll l) = some c := by
  unfold Rust.asked at h
  cases e : RWire.readRequest b with
  | none =>
    rw [e] at h
    cases h
  | some p =>
    obtain ⟨d, l⟩ := p
    rw [e] at h
    have h : (if okM l = true then callOf d (takenAll l) else none) = some c := h
    by_cases hk : okM l = true
    · rw [if_pos hk] at h
      exact ⟨d, l, rfl, hk, h⟩
    · rw [if_neg hk] at h
      cases h
theorem run_of : ∀ (bs : List Octs) (W : SWorld) (left : Nat), Rust.goes W left bs = true → Run W bs (repl W bs)
  | [], _, _, _ => .nil
  | b :: r, W, left, h => by
    unfold Rust.goes at h
    cases ha : Rust.asked b with
    | none =>
      rw [ha] at h
      cases h
    | some c =>
      rw [ha] at h
      have h : (((((within W c && true) && tellable (R7278g.Spec.step W c).2) && Nat.ble (Rust.step W b).2.length 65536) && Nat.ble (Rust.step W b).2.length left) && Rust.goes (R7278g.Spec.step W c).1 (left - (Rust.step W b).2.length) r) = true := h
      rw [Bool.and_eq_true, Bool.and_eq_true, Bool.and_eq_true, Bool.and_eq_true, Bool.and_eq_true] at h
      obtain ⟨⟨⟨⟨⟨hw, _⟩, ht⟩, hA⟩, _⟩, hg⟩ := h
      obtain ⟨d, l, hr, hk, hc⟩ := asked_is ha
      obtain ⟨p, hla, hst, hW, hans⟩ := call_is hc hw hk
      have es : Rust.step W b = ((R7278g.Spec.step W c).1, RWire.writeAnswer (answerOf (R7278g.Spec.step W c).2)) := by
        unfold Rust.step
        rw [ha]
        show (if (within W c && true) = true then _ else _) = _
        rw [if_pos (by rw [hw]; rfl)]
      have hA := Nat.le_of_ble_eq_true hA
      rw [es] at hA
      obtain ⟨hO, eO⟩ := out_of hans ht hA
      have ih := run_of r _ _ hg
      show Run W (b :: r) ((Rust.step W b).2 :: repl (Rust.step W b).1 r)
      rw [es]
      show Run W (b :: r) (RWire.writeAnswer (answerOf (R7278g.Spec.step W c).2) :: repl (R7278g.Spec.step W c).1 r)
      rw [← eO, hW]
      rw [hW] at ih
      exact .cons hr hk hla hst hO ih
/-! ### lists of numbers -/
theorem row_is {l x s : List Int} (h : PyFlat.row l = some (x, s)) : l = (x.length : Int) :: (x ++ s) := by
  cases l with
  | nil => cases h
  | cons n r =>
    unfold PyFlat.row at h
    dsimp only at h
    by_cases hc : 0 ≤ n ∧ n.toNat ≤ r.length
    · rw [if_pos hc] at h
      have h := Option.some.inj h
      have e1 : r.take n.toNat = x := congrArg Prod.fst h
      have e2 : r.drop n.toNat = s := congrArg Prod.snd h
      rw [← e1, ← e2, List.take_append_drop, List.length_take, Nat.min_eq_left hc.2]
      congr 1
      omega
    · rw [if_neg hc] at h
      cases h
def flatR (rs : List (List Int)) : List Int := rs.flatMap fun r => 0 :: (r.length : Int) :: r
theorem calls_is : ∀ (f : Nat) (l : List Int) (cs : List (List (List Int))), PyFlat.calls PyZn56.shape f l = some cs → ∃ rs : List (List Int), cs = rs.map (fun r => [[0], r]) ∧ l = flatR rs
  | f, [], cs, h => by
    have h : some [] = some cs := by
      cases f <;> exact h
    refine ⟨[], ?_, rfl⟩
    rw [← Option.some.inj h]
    rfl
  | 0, p :: r, cs, h => by cases h
  | f + 1, p :: r, cs, h => by
    unfold PyFlat.calls at h
    cases e : PyFlat.call PyZn56.shape (p :: r) with
    | none =>
      rw [e] at h
      cases h
    | some q =>
      obtain ⟨c, t⟩ := q
      rw [e] at h
      dsimp only at h
      cases e2 : PyFlat.calls PyZn56.shape f t with
      | none =>
        rw [e2] at h
        cases h
      | some cs' =>
        rw [e2] at h
        have h := Option.some.inj h
        obtain ⟨rs, h1, h2⟩ := calls_is f t cs' e2
        unfold PyFlat.call PyZn56.shape at e
        dsimp only at e
        by_cases hp : p = 0
        · rw [if_pos hp] at e
          have e : (match PyFlat.row r with
            | none => none
            | some (x, s) => some ([p :: r.take 0, x], s)) = some (c, t) := by
            have e : (if r.length < 0 then none else match PyFlat.rows 1 (r.drop 0) with
              | none => none
              | some (xs, t) => some ((p :: r.take 0) :: xs, t)) = some (c, t) := e
            rw [if_neg (Nat.not_lt_zero _)] at e
            rw [← e]
            show _ = (match (match PyFlat.row r with
              | none => none
              | some (x, s) => some ([x], s)) with
              | none => none
              | some (xs, t) => some ((p :: r.take 0) :: xs, t))
            cases PyFlat.row r <;> rfl
          cases e3 : PyFlat.row r with
          | none =>
            rw [e3] at e
            cases e
          | some q =>
            obtain ⟨x, s⟩ := q
            rw [e3] at e
            have e := Option.some.inj e
            have ec : [p :: r.take 0, x] = c := congrArg Prod.fst e
            have et : s = t := congrArg Prod.snd e
            refine ⟨x :: rs, ?_, ?_⟩
            · rw [← h, ← ec, h1, hp]
              rfl
            · rw [row_is e3, et, h2, hp]
              rfl
        · rw [if_neg hp] at e
          cases e
theorem bytes_is {r : List Int} (h : NeutralIO.bytes r = true) : (Zn56Neutral.bytesOf r).map octV = r.map V.int := by
  unfold Zn56Neutral.bytesOf
  rw [List.map_map]
  refine List.map_congr_left fun n hn => ?_
  unfold NeutralIO.bytes at h
  have := List.all_eq_true.mp h n hn
  rw [Bool.and_eq_true] at this
  have h0 := of_decide_eq_true this.1
  have h1 := of_decide_eq_true this.2
  show V.int (((UInt8.ofNat n.toNat).toNat : Nat) : Int) = V.int n
  rw [UInt8.toNat_ofNat_of_lt' (by show n.toNat < 256; omega)]
  congr 1
  omega
theorem bytes_len (r : List Int) : (Zn56Neutral.bytesOf r).length = r.length := by
  unfold Zn56Neutral.bytesOf
  rw [List.length_map]
theorem ask_is' : ∀ {rs : List (List Int)}, (rs.all NeutralIO.bytes) = true → askV (rs.map Zn56Neutral.bytesOf) = (flatR rs).map V.int
  | [], _ => rfl
  | r :: rs, h => by
    rw [List.all_cons, Bool.and_eq_true] at h
    have ih := ask_is' h.2
    unfold askV flatR at ih ⊢
    rw [List.map_cons, List.flatMap_cons, List.flatMap_cons, ih, List.map_append, List.map_cons, List.map_cons, bytes_is h.1, bytes_len]
theorem played_is : ∀ (rs : List (List Int)) (W : SWorld), PyFlat.played (fun s c => Zn56Neutral.step s (c.headD [])) W (rs.map fun r => [r]) = (repl W (rs.map Zn56Neutral.bytesOf)).map Zn56Neutral.numbersOf
  | [], _ => rfl
  | r :: rs, W => by
    have ih := played_is rs (Rust.step W (Zn56Neutral.bytesOf r)).1
    rw [List.map_cons, List.map_cons]
    unfold PyFlat.played repl
    rw [List.map_cons, ← ih]
    rfl
theorem told_is : ∀ outs : List Octs, (PyFlat.told (outs.map Zn56Neutral.numbersOf)).map V.int = toldV outs
  | [] => rfl
  | o :: r => by
    have ih := told_is r
    unfold PyFlat.told toldV at ih ⊢
    rw [List.map_cons, List.flatMap_cons, List.flatMap_cons, List.map_append, ih, List.map_cons]
    congr 1
    unfold Zn56Neutral.numbersOf
    rw [List.length_map, List.map_map]
    rfl
theorem law_is {ns : List Int} (h : PyZn56.answers_asked ns = true) (hl : ns.length ≤ 61000) :
    ∃ reqs outs, askV reqs = ns.map V.int ∧ Run R7278g.Spec.World.start reqs outs ∧ (∀ b ∈ reqs, b.length ≤ 100000) ∧ (askV reqs).length ≤ 10000000 ∧ (toldV outs).length ≤ 10000000 ∧ toldV outs = (PyZn56.answers ns).map V.int := by
  unfold PyZn56.answers_asked at h
  cases e : PyZn56.calls ns with
  | none =>
    rw [e] at h
    cases h
  | some cs =>
    rw [e] at h
    dsimp only at h
    rw [Bool.and_eq_true, Bool.and_eq_true] at h
    obtain ⟨⟨_, ha⟩, hs⟩ := h
    have e0 := e
    unfold PyZn56.calls at e
    cases e1 : PyFlat.calls PyZn56.shape ns.length ns with
    | none =>
      rw [e1] at e
      cases e
    | some cs' =>
      rw [e1] at e
      have e := Option.some.inj e
      obtain ⟨rs, h1, h2⟩ := calls_is _ _ _ e1
      have ec : cs = rs.map fun r => [r] := by
        rw [← e, h1, List.map_map]
        rfl
      have eh : cs.map (fun c => c.headD []) = rs := by
        rw [ec, List.map_map]
        exact List.map_id rs
      rw [eh] at ha
      have ha : (rs.all NeutralIO.bytes && (decide (1 ≤ rs.length) && Rust.fits (rs.map Zn56Neutral.bytesOf))) = true := ha
      rw [Bool.and_eq_true, Bool.and_eq_true] at ha
      obtain ⟨hb, _, hf⟩ := ha
      unfold Rust.fits at hf
      rw [Bool.and_eq_true, Bool.and_eq_true, Bool.and_eq_true] at hf
      obtain ⟨⟨⟨_, hoct⟩, _⟩, hg⟩ := hf
      have et : toldV (repl R7278g.Spec.World.start (rs.map Zn56Neutral.bytesOf)) = (PyZn56.answers ns).map V.int := by
        unfold PyZn56.answers
        rw [e0]
        dsimp only
        rw [ec, played_is, told_is]
        rfl
      have ea : askV (rs.map Zn56Neutral.bytesOf) = ns.map V.int := by
        rw [ask_is' hb, ← h2]
      refine ⟨rs.map Zn56Neutral.bytesOf, _, ea, run_of _ _ _ hg, fun b hbm => ?_, ?_, ?_, et⟩
      · have := Nat.le_of_ble_eq_true (List.all_eq_true.mp hoct b hbm)
        have : b.length ≤ 60000 := this
        omega
      · rw [ea, List.length_map]
        omega
      · rw [et, List.length_map]
        exact of_decide_eq_true hs
end Gm
end

section
set_option maxRecDepth 100000
set_option maxHeartbeats 8000000
/-! # The end: the facts of the written part, joined (printed by gen_end.py) -/
namespace Gm
open PySem PySem.Spec PyProof.Rows L2 L2G L2H GmM
theorem exm_self {K : PySem.W.Frag} {S : Addr} (h1 : PySem.W.subIn K (.ref S) (.type "BaseException") = some true) (h2 : PySem.W.isClsIn K S = true) (h3 : PySem.W.typeIn K (.ref S) = some (.type "type")) (h4 : PySem.W.subIn K (.ref S) (.ref S) = some true) :
    PySem.W.exmOne K (.ref S) (.ref S) = some true := by
  have e1 : (PySem.W.subIn K (.ref S) (.type "BaseException") == some true) = true := by rw [h1] <;> rfl
  have e2 : ((PySem.W.clsIn K S).isSome && PySem.W.typeIn K (.ref S) == some (.type "type")) = true := by
    have h2' : (PySem.W.clsIn K S).isSome = true := h2
    rw [h2', h3] <;> rfl
  show (if (PySem.W.subIn K (.ref S) (.type "BaseException") == some true) = true then (if ((PySem.W.clsIn K S).isSome && PySem.W.typeIn K (.ref S) == some (.type "type")) = true then PySem.W.subIn K (.ref S) (.ref S) else none) else none) = some true
  rw [if_pos e1, if_pos e2]
  exact h4
def A0 : Ad := ⟨0, 0, 0, 0, 0, 0, 0, 0, 0, 0, 0, 0, 0, 0, 0⟩
theorem all_mk {P : Program} {w : World} {K : PySem.W.Frag} {h : Heap} {mg : Str → Option Value} {fa : Addr} (X : K.In h) (G : h.Ns mainGlobals mg) (hfa : mg "answers" = some (.ref fa))
    {C_lim C_grp C_pag C_mem C_rdr C_dsk C_ref f_ref f_need_kind f_need_range f_need_readable f_Limits_init f_Group_init f_Page_init f_share_out f_Memory_init f_Memory_need_group f_Memory_kids f_Memory_above f_Memory_usages f_Memory_has_pages f_Memory_asked f_Memory_handed_down f_Memory_hard f_Memory_soft f_Memory_may_be_taken f_Memory_choice f_Memory_chosen f_Memory_take f_Memory_needs_of f_Memory_add_group f_Memory_new_limits f_Memory_remove f_Memory_move f_Memory_alloc f_Memory_get_page f_Memory_free f_Memory_touch f_Memory_get_below f_Reader_init f_Reader_take f_Reader_get_number f_Reader_text f_Reader_get_value f_octets_of f_v_int f_v_text f_v_list f_v_ints f_v_record f_member f_is_int f_number_octets f_text_octets f_written f_number_in f_group_in f_page_in f_limits_in f_page_value f_numbers_value f_group_value f_change_groups f_change_pages f_ask f_Desk_init f_Desk_memory f_Desk_walk f_Desk_answer f_Desk_get_octets f_answers t_NOTHING t_NULL t_NO t_YES t_PLAIN_values t_ARGUMENTS t_STATES : Addr} {oc_ref doc_ref pm_ref cd_ref ct_ref : Value} {od_ref an_ref : Option Addr} {sl_ref : Array (Option Value)} {t_MOST_GROUPS t_MOST_PAGES t_MOST_TAKEN t_MOST_NESTED t_MANY_MEMORIES t_MANY_VICTIMS t_GREAT t_WRONG_KIND t_OUT_OF_RANGE t_PLAIN_memories t_DIRTY t_NO_GROUP t_NO_MEMORY : Tok}
    (a_lim : PySem.W.nsIn K mainGlobals "Limits" = some (some (.ref C_lim)))
    (p1_lim : PySem.W.plainGet K C_lim Str.empty = true)
    (p2_lim : PySem.W.hasDictIn K C_lim = true)
    (p3_lim : PySem.W.plainOver K C_lim = true)
    (p4_lim : PySem.W.findIn K (.ref C_lim) "__setattr__" = some (some (.builtin "object.__setattr__")))
    (p5_lim : PySem.W.makesIn K C_lim = true)
    (p6_lim : PySem.W.keepIn K (.ref C_lim) = true)
    (n_lim_most : PySem.W.findIn K (.ref C_lim) "most" = some none)
    (n_lim_least : PySem.W.findIn K (.ref C_lim) "least" = some none)
    (n_lim_low : PySem.W.findIn K (.ref C_lim) "low" = some none)
    (a_grp : PySem.W.nsIn K mainGlobals "Group" = some (some (.ref C_grp)))
    (p1_grp : PySem.W.plainGet K C_grp Str.empty = true)
    (p2_grp : PySem.W.hasDictIn K C_grp = true)
    (p3_grp : PySem.W.plainOver K C_grp = true)
    (p4_grp : PySem.W.findIn K (.ref C_grp) "__setattr__" = some (some (.builtin "object.__setattr__")))
    (p5_grp : PySem.W.makesIn K C_grp = true)
    (p6_grp : PySem.W.keepIn K (.ref C_grp) = true)
    (n_grp_parent : PySem.W.findIn K (.ref C_grp) "parent" = some none)
    (n_grp_limits : PySem.W.findIn K (.ref C_grp) "limits" = some none)
    (a_pag : PySem.W.nsIn K mainGlobals "Page" = some (some (.ref C_pag)))
    (p1_pag : PySem.W.plainGet K C_pag Str.empty = true)
    (p2_pag : PySem.W.hasDictIn K C_pag = true)
    (p3_pag : PySem.W.plainOver K C_pag = true)
    (p4_pag : PySem.W.findIn K (.ref C_pag) "__setattr__" = some (some (.builtin "object.__setattr__")))
    (p5_pag : PySem.W.makesIn K C_pag = true)
    (p6_pag : PySem.W.keepIn K (.ref C_pag) = true)
    (n_pag_number : PySem.W.findIn K (.ref C_pag) "number" = some none)
    (n_pag_group : PySem.W.findIn K (.ref C_pag) "group" = some none)
    (n_pag_state : PySem.W.findIn K (.ref C_pag) "state" = some none)
    (a_mem : PySem.W.nsIn K mainGlobals "Memory" = some (some (.ref C_mem)))
    (p1_mem : PySem.W.plainGet K C_mem Str.empty = true)
    (p2_mem : PySem.W.hasDictIn K C_mem = true)
    (p3_mem : PySem.W.plainOver K C_mem = true)
    (p4_mem : PySem.W.findIn K (.ref C_mem) "__setattr__" = some (some (.builtin "object.__setattr__")))
    (p5_mem : PySem.W.makesIn K C_mem = true)
    (p6_mem : PySem.W.keepIn K (.ref C_mem) = true)
    (n_mem_groups : PySem.W.findIn K (.ref C_mem) "groups" = some none)
    (n_mem_made : PySem.W.findIn K (.ref C_mem) "made" = some none)
    (n_mem_rows : PySem.W.findIn K (.ref C_mem) "rows" = some none)
    (n_mem_next_page : PySem.W.findIn K (.ref C_mem) "next_page" = some none)
    (n_mem_taken : PySem.W.findIn K (.ref C_mem) "taken" = some none)
    (a_rdr : PySem.W.nsIn K mainGlobals "Reader" = some (some (.ref C_rdr)))
    (p1_rdr : PySem.W.plainGet K C_rdr Str.empty = true)
    (p2_rdr : PySem.W.hasDictIn K C_rdr = true)
    (p3_rdr : PySem.W.plainOver K C_rdr = true)
    (p4_rdr : PySem.W.findIn K (.ref C_rdr) "__setattr__" = some (some (.builtin "object.__setattr__")))
    (p5_rdr : PySem.W.makesIn K C_rdr = true)
    (p6_rdr : PySem.W.keepIn K (.ref C_rdr) = true)
    (n_rdr_octets : PySem.W.findIn K (.ref C_rdr) "octets" = some none)
    (n_rdr_at : PySem.W.findIn K (.ref C_rdr) "at" = some none)
    (a_dsk : PySem.W.nsIn K mainGlobals "Desk" = some (some (.ref C_dsk)))
    (p1_dsk : PySem.W.plainGet K C_dsk Str.empty = true)
    (p2_dsk : PySem.W.hasDictIn K C_dsk = true)
    (p3_dsk : PySem.W.plainOver K C_dsk = true)
    (p4_dsk : PySem.W.findIn K (.ref C_dsk) "__setattr__" = some (some (.builtin "object.__setattr__")))
    (p5_dsk : PySem.W.makesIn K C_dsk = true)
    (p6_dsk : PySem.W.keepIn K (.ref C_dsk) = true)
    (n_dsk_memories : PySem.W.findIn K (.ref C_dsk) "memories" = some none)
    (n_dsk_victims : PySem.W.findIn K (.ref C_dsk) "victims" = some none)
    (a_ref : PySem.W.nsIn K mainGlobals "Refused" = some (some (.ref C_ref)))
    (r_cls : ∃ nm q N bs sn sub ab col dd k0 k1 k2 k3 k5, K.lookup C_ref = some (excClassObj nm q C_ref N bs ESX.exTail true sn sub ab col dd k0 k1 k2 k3 k5 "Exception.__new__"))
    (r_sa : PySem.W.findIn K (.ref C_ref) "__setattr__" = some (some (.builtin "object.__setattr__")))
    (r_ga : PySem.W.findIn K (.ref C_ref) "__getattribute__" = some (some (.builtin "BaseException.__getattribute__")))
    (r_gg : PySem.W.findIn K (.ref C_ref) "__getattr__" = some none)
    (r_noC : PySem.W.findIn K (.ref C_ref) "code" = some none)
    (r_noM : PySem.W.findIn K (.ref C_ref) "message" = some none)
    (r_iC : PySem.W.findIn K (.ref C_ref) "__init__" = some (some (.ref f_ref)))
    (r_tC : PySem.W.typeIn K (.ref f_ref) = some (.type "function"))
    (r_kC : PySem.W.keepIn K (.ref C_ref) = true)
    (r_exC : PySem.W.subIn K (.ref C_ref) (.type "BaseException") = some true)
    (r_tyC : PySem.W.typeIn K (.ref C_ref) = some (.type "type"))
    (r_hdC : PySem.W.hasDictIn K C_ref = true)
    (r_is : PySem.W.isClsIn K C_ref = true)
    (r_sub : PySem.W.subIn K (.ref C_ref) (.ref C_ref) = some true)
    (r_fn : K.lookup f_ref = some ⟨oc_ref, od_ref, .func (PySem.W.fnOf "__init__" "Refused.__init__" (defArgs s_Refused_init) (defBody s_Refused_init) (defScope s_Refused_init) .none .none doc_ref pm_ref an_ref cd_ref ct_ref), sl_ref⟩)
    (r_cd : PySem.W.codeIn K cd_ref "Refused.__init__" = true)
    (a_need_kind : PySem.W.nsIn K mainGlobals "need_kind" = some (some (.ref f_need_kind)))
    (F_need_kind : FnF K "need_kind" "need_kind" s_need_kind f_need_kind)
    (a_need_range : PySem.W.nsIn K mainGlobals "need_range" = some (some (.ref f_need_range)))
    (F_need_range : FnF K "need_range" "need_range" s_need_range f_need_range)
    (a_need_readable : PySem.W.nsIn K mainGlobals "need_readable" = some (some (.ref f_need_readable)))
    (F_need_readable : FnF K "need_readable" "need_readable" s_need_readable f_need_readable)
    (a_Limits_init : PySem.W.findIn K (.ref C_lim) "__init__" = some (some (.ref f_Limits_init)))
    (i_Limits_init : PySem.W.isFn K (.ref f_Limits_init) = true)
    (F_Limits_init : FnF K "__init__" "Limits.__init__" s_Limits_init f_Limits_init)
    (a_Group_init : PySem.W.findIn K (.ref C_grp) "__init__" = some (some (.ref f_Group_init)))
    (i_Group_init : PySem.W.isFn K (.ref f_Group_init) = true)
    (F_Group_init : FnF K "__init__" "Group.__init__" s_Group_init f_Group_init)
    (a_Page_init : PySem.W.findIn K (.ref C_pag) "__init__" = some (some (.ref f_Page_init)))
    (i_Page_init : PySem.W.isFn K (.ref f_Page_init) = true)
    (F_Page_init : FnF K "__init__" "Page.__init__" s_Page_init f_Page_init)
    (a_share_out : PySem.W.nsIn K mainGlobals "share_out" = some (some (.ref f_share_out)))
    (F_share_out : FnF K "share_out" "share_out" s_share_out f_share_out)
    (a_Memory_init : PySem.W.findIn K (.ref C_mem) "__init__" = some (some (.ref f_Memory_init)))
    (i_Memory_init : PySem.W.isFn K (.ref f_Memory_init) = true)
    (F_Memory_init : FnF K "__init__" "Memory.__init__" s_Memory_init f_Memory_init)
    (a_Memory_need_group : PySem.W.findIn K (.ref C_mem) "need_group" = some (some (.ref f_Memory_need_group)))
    (i_Memory_need_group : PySem.W.isFn K (.ref f_Memory_need_group) = true)
    (F_Memory_need_group : FnF K "need_group" "Memory.need_group" s_Memory_need_group f_Memory_need_group)
    (a_Memory_kids : PySem.W.findIn K (.ref C_mem) "kids" = some (some (.ref f_Memory_kids)))
    (i_Memory_kids : PySem.W.isFn K (.ref f_Memory_kids) = true)
    (F_Memory_kids : FnF K "kids" "Memory.kids" s_Memory_kids f_Memory_kids)
    (a_Memory_above : PySem.W.findIn K (.ref C_mem) "above" = some (some (.ref f_Memory_above)))
    (i_Memory_above : PySem.W.isFn K (.ref f_Memory_above) = true)
    (F_Memory_above : FnF K "above" "Memory.above" s_Memory_above f_Memory_above)
    (a_Memory_usages : PySem.W.findIn K (.ref C_mem) "usages" = some (some (.ref f_Memory_usages)))
    (i_Memory_usages : PySem.W.isFn K (.ref f_Memory_usages) = true)
    (F_Memory_usages : FnF K "usages" "Memory.usages" s_Memory_usages f_Memory_usages)
    (a_Memory_has_pages : PySem.W.findIn K (.ref C_mem) "has_pages" = some (some (.ref f_Memory_has_pages)))
    (i_Memory_has_pages : PySem.W.isFn K (.ref f_Memory_has_pages) = true)
    (F_Memory_has_pages : FnF K "has_pages" "Memory.has_pages" s_Memory_has_pages f_Memory_has_pages)
    (a_Memory_asked : PySem.W.findIn K (.ref C_mem) "asked" = some (some (.ref f_Memory_asked)))
    (i_Memory_asked : PySem.W.isFn K (.ref f_Memory_asked) = true)
    (F_Memory_asked : FnF K "asked" "Memory.asked" s_Memory_asked f_Memory_asked)
    (a_Memory_handed_down : PySem.W.findIn K (.ref C_mem) "handed_down" = some (some (.ref f_Memory_handed_down)))
    (i_Memory_handed_down : PySem.W.isFn K (.ref f_Memory_handed_down) = true)
    (F_Memory_handed_down : FnF K "handed_down" "Memory.handed_down" s_Memory_handed_down f_Memory_handed_down)
    (a_Memory_hard : PySem.W.findIn K (.ref C_mem) "hard" = some (some (.ref f_Memory_hard)))
    (i_Memory_hard : PySem.W.isFn K (.ref f_Memory_hard) = true)
    (F_Memory_hard : FnF K "hard" "Memory.hard" s_Memory_hard f_Memory_hard)
    (a_Memory_soft : PySem.W.findIn K (.ref C_mem) "soft" = some (some (.ref f_Memory_soft)))
    (i_Memory_soft : PySem.W.isFn K (.ref f_Memory_soft) = true)
    (F_Memory_soft : FnF K "soft" "Memory.soft" s_Memory_soft f_Memory_soft)
    (a_Memory_may_be_taken : PySem.W.findIn K (.ref C_mem) "may_be_taken" = some (some (.ref f_Memory_may_be_taken)))
    (i_Memory_may_be_taken : PySem.W.isFn K (.ref f_Memory_may_be_taken) = true)
    (F_Memory_may_be_taken : FnF K "may_be_taken" "Memory.may_be_taken" s_Memory_may_be_taken f_Memory_may_be_taken)
    (a_Memory_choice : PySem.W.findIn K (.ref C_mem) "choice" = some (some (.ref f_Memory_choice)))
    (i_Memory_choice : PySem.W.isFn K (.ref f_Memory_choice) = true)
    (F_Memory_choice : FnF K "choice" "Memory.choice" s_Memory_choice f_Memory_choice)
    (a_Memory_chosen : PySem.W.findIn K (.ref C_mem) "chosen" = some (some (.ref f_Memory_chosen)))
    (i_Memory_chosen : PySem.W.isFn K (.ref f_Memory_chosen) = true)
    (F_Memory_chosen : FnF K "chosen" "Memory.chosen" s_Memory_chosen f_Memory_chosen)
    (a_Memory_take : PySem.W.findIn K (.ref C_mem) "take" = some (some (.ref f_Memory_take)))
    (i_Memory_take : PySem.W.isFn K (.ref f_Memory_take) = true)
    (F_Memory_take : FnF K "take" "Memory.take" s_Memory_take f_Memory_take)
    (a_Memory_needs_of : PySem.W.findIn K (.ref C_mem) "needs_of" = some (some (.ref f_Memory_needs_of)))
    (i_Memory_needs_of : PySem.W.isFn K (.ref f_Memory_needs_of) = true)
    (F_Memory_needs_of : FnF K "needs_of" "Memory.needs_of" s_Memory_needs_of f_Memory_needs_of)
    (a_Memory_add_group : PySem.W.findIn K (.ref C_mem) "add_group" = some (some (.ref f_Memory_add_group)))
    (i_Memory_add_group : PySem.W.isFn K (.ref f_Memory_add_group) = true)
    (F_Memory_add_group : FnF K "add_group" "Memory.add_group" s_Memory_add_group f_Memory_add_group)
    (a_Memory_new_limits : PySem.W.findIn K (.ref C_mem) "new_limits" = some (some (.ref f_Memory_new_limits)))
    (i_Memory_new_limits : PySem.W.isFn K (.ref f_Memory_new_limits) = true)
    (F_Memory_new_limits : FnF K "new_limits" "Memory.new_limits" s_Memory_new_limits f_Memory_new_limits)
    (a_Memory_remove : PySem.W.findIn K (.ref C_mem) "remove" = some (some (.ref f_Memory_remove)))
    (i_Memory_remove : PySem.W.isFn K (.ref f_Memory_remove) = true)
    (F_Memory_remove : FnF K "remove" "Memory.remove" s_Memory_remove f_Memory_remove)
    (a_Memory_move : PySem.W.findIn K (.ref C_mem) "move" = some (some (.ref f_Memory_move)))
    (i_Memory_move : PySem.W.isFn K (.ref f_Memory_move) = true)
    (F_Memory_move : FnF K "move" "Memory.move" s_Memory_move f_Memory_move)
    (a_Memory_alloc : PySem.W.findIn K (.ref C_mem) "alloc" = some (some (.ref f_Memory_alloc)))
    (i_Memory_alloc : PySem.W.isFn K (.ref f_Memory_alloc) = true)
    (F_Memory_alloc : FnF K "alloc" "Memory.alloc" s_Memory_alloc f_Memory_alloc)
    (a_Memory_get_page : PySem.W.findIn K (.ref C_mem) "get_page" = some (some (.ref f_Memory_get_page)))
    (i_Memory_get_page : PySem.W.isFn K (.ref f_Memory_get_page) = true)
    (F_Memory_get_page : FnF K "get_page" "Memory.get_page" s_Memory_get_page f_Memory_get_page)
    (a_Memory_free : PySem.W.findIn K (.ref C_mem) "free" = some (some (.ref f_Memory_free)))
    (i_Memory_free : PySem.W.isFn K (.ref f_Memory_free) = true)
    (F_Memory_free : FnF K "free" "Memory.free" s_Memory_free f_Memory_free)
    (a_Memory_touch : PySem.W.findIn K (.ref C_mem) "touch" = some (some (.ref f_Memory_touch)))
    (i_Memory_touch : PySem.W.isFn K (.ref f_Memory_touch) = true)
    (F_Memory_touch : FnF K "touch" "Memory.touch" s_Memory_touch f_Memory_touch)
    (a_Memory_get_below : PySem.W.findIn K (.ref C_mem) "get_below" = some (some (.ref f_Memory_get_below)))
    (i_Memory_get_below : PySem.W.isFn K (.ref f_Memory_get_below) = true)
    (F_Memory_get_below : FnF K "get_below" "Memory.get_below" s_Memory_get_below f_Memory_get_below)
    (a_Reader_init : PySem.W.findIn K (.ref C_rdr) "__init__" = some (some (.ref f_Reader_init)))
    (i_Reader_init : PySem.W.isFn K (.ref f_Reader_init) = true)
    (F_Reader_init : FnF K "__init__" "Reader.__init__" s_Reader_init f_Reader_init)
    (a_Reader_take : PySem.W.findIn K (.ref C_rdr) "take" = some (some (.ref f_Reader_take)))
    (i_Reader_take : PySem.W.isFn K (.ref f_Reader_take) = true)
    (F_Reader_take : FnF K "take" "Reader.take" s_Reader_take f_Reader_take)
    (a_Reader_get_number : PySem.W.findIn K (.ref C_rdr) "get_number" = some (some (.ref f_Reader_get_number)))
    (i_Reader_get_number : PySem.W.isFn K (.ref f_Reader_get_number) = true)
    (F_Reader_get_number : FnF K "get_number" "Reader.get_number" s_Reader_get_number f_Reader_get_number)
    (a_Reader_text : PySem.W.findIn K (.ref C_rdr) "text" = some (some (.ref f_Reader_text)))
    (i_Reader_text : PySem.W.isFn K (.ref f_Reader_text) = true)
    (F_Reader_text : FnF K "text" "Reader.text" s_Reader_text f_Reader_text)
    (a_Reader_get_value : PySem.W.findIn K (.ref C_rdr) "get_value" = some (some (.ref f_Reader_get_value)))
    (i_Reader_get_value : PySem.W.isFn K (.ref f_Reader_get_value) = true)
    (F_Reader_get_value : FnF K "get_value" "Reader.get_value" s_Reader_get_value f_Reader_get_value)
    (a_octets_of : PySem.W.nsIn K mainGlobals "octets_of" = some (some (.ref f_octets_of)))
    (F_octets_of : FnF K "octets_of" "octets_of" s_octets_of f_octets_of)
    (a_v_int : PySem.W.nsIn K mainGlobals "v_int" = some (some (.ref f_v_int)))
    (F_v_int : FnF K "v_int" "v_int" s_v_int f_v_int)
    (a_v_text : PySem.W.nsIn K mainGlobals "v_text" = some (some (.ref f_v_text)))
    (F_v_text : FnF K "v_text" "v_text" s_v_text f_v_text)
    (a_v_list : PySem.W.nsIn K mainGlobals "v_list" = some (some (.ref f_v_list)))
    (F_v_list : FnF K "v_list" "v_list" s_v_list f_v_list)
    (a_v_ints : PySem.W.nsIn K mainGlobals "v_ints" = some (some (.ref f_v_ints)))
    (F_v_ints : FnF K "v_ints" "v_ints" s_v_ints f_v_ints)
    (a_v_record : PySem.W.nsIn K mainGlobals "v_record" = some (some (.ref f_v_record)))
    (F_v_record : FnF K "v_record" "v_record" s_v_record f_v_record)
    (a_member : PySem.W.nsIn K mainGlobals "member" = some (some (.ref f_member)))
    (F_member : FnF K "member" "member" s_member f_member)
    (a_is_int : PySem.W.nsIn K mainGlobals "is_int" = some (some (.ref f_is_int)))
    (F_is_int : FnF K "is_int" "is_int" s_is_int f_is_int)
    (a_number_octets : PySem.W.nsIn K mainGlobals "number_octets" = some (some (.ref f_number_octets)))
    (F_number_octets : FnF K "number_octets" "number_octets" s_number_octets f_number_octets)
    (a_text_octets : PySem.W.nsIn K mainGlobals "text_octets" = some (some (.ref f_text_octets)))
    (F_text_octets : FnF K "text_octets" "text_octets" s_text_octets f_text_octets)
    (a_written : PySem.W.nsIn K mainGlobals "written" = some (some (.ref f_written)))
    (F_written : FnF K "written" "written" s_written f_written)
    (a_number_in : PySem.W.nsIn K mainGlobals "number_in" = some (some (.ref f_number_in)))
    (F_number_in : FnF K "number_in" "number_in" s_number_in f_number_in)
    (a_group_in : PySem.W.nsIn K mainGlobals "group_in" = some (some (.ref f_group_in)))
    (F_group_in : FnF K "group_in" "group_in" s_group_in f_group_in)
    (a_page_in : PySem.W.nsIn K mainGlobals "page_in" = some (some (.ref f_page_in)))
    (F_page_in : FnF K "page_in" "page_in" s_page_in f_page_in)
    (a_limits_in : PySem.W.nsIn K mainGlobals "limits_in" = some (some (.ref f_limits_in)))
    (F_limits_in : FnF K "limits_in" "limits_in" s_limits_in f_limits_in)
    (a_page_value : PySem.W.nsIn K mainGlobals "page_value" = some (some (.ref f_page_value)))
    (F_page_value : FnF K "page_value" "page_value" s_page_value f_page_value)
    (a_numbers_value : PySem.W.nsIn K mainGlobals "numbers_value" = some (some (.ref f_numbers_value)))
    (F_numbers_value : FnF K "numbers_value" "numbers_value" s_numbers_value f_numbers_value)
    (a_group_value : PySem.W.nsIn K mainGlobals "group_value" = some (some (.ref f_group_value)))
    (F_group_value : FnF K "group_value" "group_value" s_group_value f_group_value)
    (a_change_groups : PySem.W.nsIn K mainGlobals "change_groups" = some (some (.ref f_change_groups)))
    (F_change_groups : FnF K "change_groups" "change_groups" s_change_groups f_change_groups)
    (a_change_pages : PySem.W.nsIn K mainGlobals "change_pages" = some (some (.ref f_change_pages)))
    (F_change_pages : FnF K "change_pages" "change_pages" s_change_pages f_change_pages)
    (a_ask : PySem.W.nsIn K mainGlobals "ask" = some (some (.ref f_ask)))
    (F_ask : FnF K "ask" "ask" s_ask f_ask)
    (a_Desk_init : PySem.W.findIn K (.ref C_dsk) "__init__" = some (some (.ref f_Desk_init)))
    (i_Desk_init : PySem.W.isFn K (.ref f_Desk_init) = true)
    (F_Desk_init : FnF K "__init__" "Desk.__init__" s_Desk_init f_Desk_init)
    (a_Desk_memory : PySem.W.findIn K (.ref C_dsk) "memory" = some (some (.ref f_Desk_memory)))
    (i_Desk_memory : PySem.W.isFn K (.ref f_Desk_memory) = true)
    (F_Desk_memory : FnF K "memory" "Desk.memory" s_Desk_memory f_Desk_memory)
    (a_Desk_walk : PySem.W.findIn K (.ref C_dsk) "walk" = some (some (.ref f_Desk_walk)))
    (i_Desk_walk : PySem.W.isFn K (.ref f_Desk_walk) = true)
    (F_Desk_walk : FnF K "walk" "Desk.walk" s_Desk_walk f_Desk_walk)
    (a_Desk_answer : PySem.W.findIn K (.ref C_dsk) "answer" = some (some (.ref f_Desk_answer)))
    (i_Desk_answer : PySem.W.isFn K (.ref f_Desk_answer) = true)
    (F_Desk_answer : FnF K "answer" "Desk.answer" s_Desk_answer f_Desk_answer)
    (a_Desk_get_octets : PySem.W.findIn K (.ref C_dsk) "get_octets" = some (some (.ref f_Desk_get_octets)))
    (i_Desk_get_octets : PySem.W.isFn K (.ref f_Desk_get_octets) = true)
    (F_Desk_get_octets : FnF K "get_octets" "Desk.get_octets" s_Desk_get_octets f_Desk_get_octets)
    (a_answers : PySem.W.nsIn K mainGlobals "answers" = some (some (.ref f_answers)))
    (F_answers : FnF K "answers" "answers" s_answers f_answers)
    (b_len : PySem.W.nsIn K mainGlobals "len" = some none)
    (b_sum : PySem.W.nsIn K mainGlobals "sum" = some none)
    (b_list : PySem.W.nsIn K mainGlobals "list" = some none)
    (b_dict : PySem.W.nsIn K mainGlobals "dict" = some none)
    (b_sorted : PySem.W.nsIn K mainGlobals "sorted" = some none)
    (b_enumerate : PySem.W.nsIn K mainGlobals "enumerate" = some none)
    (b_any : PySem.W.nsIn K mainGlobals "any" = some none)
    (b_all : PySem.W.nsIn K mainGlobals "all" = some none)
    (b_max : PySem.W.nsIn K mainGlobals "max" = some none)
    (b_min : PySem.W.nsIn K mainGlobals "min" = some none)
    (b_zip : PySem.W.nsIn K mainGlobals "zip" = some none)
    (b_range : PySem.W.nsIn K mainGlobals "range" = some none)
    (b_tuple : PySem.W.nsIn K mainGlobals "tuple" = some none)
    (b_ord : PySem.W.nsIn K mainGlobals "ord" = some none)
    (b_str : PySem.W.nsIn K mainGlobals "str" = some none)
    (e_MOST_GROUPS : PySem.W.nsIn K mainGlobals "MOST_GROUPS" = some (some (.int 40 t_MOST_GROUPS)))
    (e_MOST_PAGES : PySem.W.nsIn K mainGlobals "MOST_PAGES" = some (some (.int 2000 t_MOST_PAGES)))
    (e_MOST_TAKEN : PySem.W.nsIn K mainGlobals "MOST_TAKEN" = some (some (.int 20 t_MOST_TAKEN)))
    (e_MOST_NESTED : PySem.W.nsIn K mainGlobals "MOST_NESTED" = some (some (.int 32 t_MOST_NESTED)))
    (e_MANY_MEMORIES : PySem.W.nsIn K mainGlobals "MANY_MEMORIES" = some (some (.int 3 t_MANY_MEMORIES)))
    (e_MANY_VICTIMS : PySem.W.nsIn K mainGlobals "MANY_VICTIMS" = some (some (.int 2 t_MANY_VICTIMS)))
    (e_GREAT : PySem.W.nsIn K mainGlobals "GREAT" = some (some (.int 1000000000 t_GREAT)))
    (e_WRONG_KIND : PySem.W.nsIn K mainGlobals "WRONG_KIND" = some (some (.int 1 t_WRONG_KIND)))
    (e_OUT_OF_RANGE : PySem.W.nsIn K mainGlobals "OUT_OF_RANGE" = some (some (.int 2 t_OUT_OF_RANGE)))
    (e_PLAIN_memories : PySem.W.nsIn K mainGlobals "PLAIN_memories" = some (some (.str "plain" t_PLAIN_memories)))
    (e_DIRTY : PySem.W.nsIn K mainGlobals "DIRTY" = some (some (.str "dirty" t_DIRTY)))
    (e_NO_GROUP : PySem.W.nsIn K mainGlobals "NO_GROUP" = some (some (.str "there is no such group" t_NO_GROUP)))
    (e_NO_MEMORY : PySem.W.nsIn K mainGlobals "NO_MEMORY" = some (some (.str "out of memory" t_NO_MEMORY)))
    (e_NOTHING : PySem.W.nsIn K mainGlobals "NOTHING" = some (some (.ref t_NOTHING)))
    (q_NOTHING : SqTK K t_NOTHING [.str "nothing", .non])
    (e_NULL : PySem.W.nsIn K mainGlobals "NULL" = some (some (.ref t_NULL)))
    (q_NULL : SqTK K t_NULL [.str "null", .non])
    (e_NO : PySem.W.nsIn K mainGlobals "NO" = some (some (.ref t_NO)))
    (q_NO : SqTK K t_NO [.str "false", .non])
    (e_YES : PySem.W.nsIn K mainGlobals "YES" = some (some (.ref t_YES)))
    (q_YES : SqTK K t_YES [.str "true", .non])
    (e_PLAIN_values : PySem.W.nsIn K mainGlobals "PLAIN_values" = some (some (.ref t_PLAIN_values)))
    (q_PLAIN_values : SqTK K t_PLAIN_values [.str "nothing", .str "null", .str "false", .str "true"])
    (e_ARGUMENTS : PySem.W.nsIn K mainGlobals "ARGUMENTS" = some (some (.ref t_ARGUMENTS)))
    (q_ARGUMENTS : SqTK K t_ARGUMENTS [.int 2, .int 3, .int 3, .int 2, .int 3, .int 3, .int 3, .int 2, .int 2, .int 3, .int 2, .int 3, .int 2, .int 2, .int 1, .int 1, .int 2, .int 1, .int 2])
    (e_STATES : PySem.W.nsIn K mainGlobals "STATES" = some (some (.ref t_STATES)))
    (q_STATES : SqTK K t_STATES [.str "plain", .str "dirty", .str "locked"])
    : ∃ fd : FuncData, (∀ (s : Shared) (us : List Value), us.length = (["calls"] : List Str).length → BindsTo s fd ⟨us, []⟩ ((["calls"] : List Str).zip us)) ∧ ∀ base : Heap, K.In base → base.Ns mainGlobals mg → FnOk P w K mg base CX0 37 fa fd ["calls"] (spAns K A0) := by
  have e := hfa.symm.trans (PySem.W.mg_of X G a_answers)
  cases e
  generalize hA : (⟨C_lim, C_grp, C_pag, C_mem, C_rdr, C_dsk, C_ref, C_ref, t_NOTHING, t_NULL, t_NO, t_YES, t_PLAIN_values, t_ARGUMENTS, t_STATES⟩ : Ad) = A
  have hlim : C_lim = A.lim := by rw [← hA]
  have hgrp : C_grp = A.grp := by rw [← hA]
  have hpag : C_pag = A.pag := by rw [← hA]
  have hmem : C_mem = A.mem := by rw [← hA]
  have hrdr : C_rdr = A.rdr := by rw [← hA]
  have hdsk : C_dsk = A.dsk := by rw [← hA]
  have href : C_ref = A.ref := by rw [← hA]
  have hNOTHING : t_NOTHING = A.tNOTHING := by rw [← hA]
  have hNULL : t_NULL = A.tNULL := by rw [← hA]
  have hNO : t_NO = A.tNO := by rw [← hA]
  have hYES : t_YES = A.tYES := by rw [← hA]
  have hPLAIN_values : t_PLAIN_values = A.tPLAIN_values := by rw [← hA]
  have hARGUMENTS : t_ARGUMENTS = A.tARGUMENTS := by rw [← hA]
  have hSTATES : t_STATES = A.tSTATES := by rw [← hA]
  clear hA
  subst hlim hgrp hpag hmem hrdr hdsk href hNOTHING hNULL hNO hYES hPLAIN_values hARGUMENTS hSTATES
  have T : Txt K mg A := {
    c_lim := ⟨p1_lim, p2_lim, p3_lim, p4_lim⟩
    n_lim_most := n_lim_most
    n_lim_least := n_lim_least
    n_lim_low := n_lim_low
    c_grp := ⟨p1_grp, p2_grp, p3_grp, p4_grp⟩
    n_grp_parent := n_grp_parent
    n_grp_limits := n_grp_limits
    c_pag := ⟨p1_pag, p2_pag, p3_pag, p4_pag⟩
    n_pag_number := n_pag_number
    n_pag_group := n_pag_group
    n_pag_state := n_pag_state
    c_mem := ⟨p1_mem, p2_mem, p3_mem, p4_mem⟩
    n_mem_groups := n_mem_groups
    n_mem_made := n_mem_made
    n_mem_rows := n_mem_rows
    n_mem_next_page := n_mem_next_page
    n_mem_taken := n_mem_taken
    c_rdr := ⟨p1_rdr, p2_rdr, p3_rdr, p4_rdr⟩
    n_rdr_octets := n_rdr_octets
    n_rdr_at := n_rdr_at
    c_dsk := ⟨p1_dsk, p2_dsk, p3_dsk, p4_dsk⟩
    n_dsk_memories := n_dsk_memories
    n_dsk_victims := n_dsk_victims
    b_len := PySem.W.mg_none_of X G b_len
    b_sum := PySem.W.mg_none_of X G b_sum
    b_list := PySem.W.mg_none_of X G b_list
    b_dict := PySem.W.mg_none_of X G b_dict
    b_sorted := PySem.W.mg_none_of X G b_sorted
    b_enumerate := PySem.W.mg_none_of X G b_enumerate
    b_any := PySem.W.mg_none_of X G b_any
    b_all := PySem.W.mg_none_of X G b_all
    b_max := PySem.W.mg_none_of X G b_max
    b_min := PySem.W.mg_none_of X G b_min
    b_zip := PySem.W.mg_none_of X G b_zip
    b_range := PySem.W.mg_none_of X G b_range
    b_tuple := PySem.W.mg_none_of X G b_tuple
    b_ord := PySem.W.mg_none_of X G b_ord
    b_str := PySem.W.mg_none_of X G b_str
    g_MOST_GROUPS := ⟨_, PySem.W.mg_of X G e_MOST_GROUPS, _, rfl⟩
    g_MOST_PAGES := ⟨_, PySem.W.mg_of X G e_MOST_PAGES, _, rfl⟩
    g_MOST_TAKEN := ⟨_, PySem.W.mg_of X G e_MOST_TAKEN, _, rfl⟩
    g_MOST_NESTED := ⟨_, PySem.W.mg_of X G e_MOST_NESTED, _, rfl⟩
    g_MANY_MEMORIES := ⟨_, PySem.W.mg_of X G e_MANY_MEMORIES, _, rfl⟩
    g_MANY_VICTIMS := ⟨_, PySem.W.mg_of X G e_MANY_VICTIMS, _, rfl⟩
    g_GREAT := ⟨_, PySem.W.mg_of X G e_GREAT, _, rfl⟩
    g_WRONG_KIND := ⟨_, PySem.W.mg_of X G e_WRONG_KIND, _, rfl⟩
    g_OUT_OF_RANGE := ⟨_, PySem.W.mg_of X G e_OUT_OF_RANGE, _, rfl⟩
    g_PLAIN_memories := ⟨_, PySem.W.mg_of X G e_PLAIN_memories, _, rfl⟩
    g_DIRTY := ⟨_, PySem.W.mg_of X G e_DIRTY, _, rfl⟩
    g_NO_GROUP := ⟨_, PySem.W.mg_of X G e_NO_GROUP, _, rfl⟩
    g_NO_MEMORY := ⟨_, PySem.W.mg_of X G e_NO_MEMORY, _, rfl⟩
    g_NOTHING := ⟨_, PySem.W.mg_of X G e_NOTHING, rfl⟩
    q_NOTHING := q_NOTHING
    g_NULL := ⟨_, PySem.W.mg_of X G e_NULL, rfl⟩
    q_NULL := q_NULL
    g_NO := ⟨_, PySem.W.mg_of X G e_NO, rfl⟩
    q_NO := q_NO
    g_YES := ⟨_, PySem.W.mg_of X G e_YES, rfl⟩
    q_YES := q_YES
    g_PLAIN_values := ⟨_, PySem.W.mg_of X G e_PLAIN_values, rfl⟩
    q_PLAIN_values := q_PLAIN_values
    g_ARGUMENTS := ⟨_, PySem.W.mg_of X G e_ARGUMENTS, rfl⟩
    q_ARGUMENTS := q_ARGUMENTS
    g_STATES := ⟨_, PySem.W.mg_of X G e_STATES, rfl⟩
    q_STATES := q_STATES }
  have R : PySem.GmX.RefTxt K mg A.ref f_ref := {
    gC := PySem.W.mg_of X G a_ref
    cls := r_cls
    sa := r_sa
    ga := r_ga
    gg := r_gg
    noC := r_noC
    noM := r_noM
    iC := r_iC
    tC := r_tC
    kC := r_kC
    exC := r_exC
    tyC := r_tyC
    hdC := r_hdC
    te := exm_self r_exC r_is r_tyC r_sub
    fn := ⟨_, _, _, _, _, _, _, _, _, _, _, _, _, _, _, _, _, _, _, r_fn, r_cd, ⟨_, _, _, rfl⟩, rfl, rfl⟩ }
  obtain ⟨fd_need_kind, F_need_kind⟩ := F_need_kind
  have B_need_kind : Binds K fd_need_kind ["truth", "message"] [] := F_need_kind.binds fun _ _ _ _ _ _ us hl => match us, hl with | [_, _], _ => rfl
  obtain ⟨fd_need_range, F_need_range⟩ := F_need_range
  have B_need_range : Binds K fd_need_range ["truth", "message"] [] := F_need_range.binds fun _ _ _ _ _ _ us hl => match us, hl with | [_, _], _ => rfl
  obtain ⟨fd_need_readable, F_need_readable⟩ := F_need_readable
  have B_need_readable : Binds K fd_need_readable ["truth"] [] := F_need_readable.binds fun _ _ _ _ _ _ us hl => match us, hl with | [_], _ => rfl
  obtain ⟨fd_Limits_init, F_Limits_init⟩ := F_Limits_init
  have B_Limits_init : Binds K fd_Limits_init ["self", "most", "least", "low"] [] := F_Limits_init.binds fun _ _ _ _ _ _ us hl => match us, hl with | [_, _, _, _], _ => rfl
  obtain ⟨fd_Group_init, F_Group_init⟩ := F_Group_init
  have B_Group_init : Binds K fd_Group_init ["self", "parent", "limits"] [] := F_Group_init.binds fun _ _ _ _ _ _ us hl => match us, hl with | [_, _, _], _ => rfl
  obtain ⟨fd_Page_init, F_Page_init⟩ := F_Page_init
  have B_Page_init : Binds K fd_Page_init ["self", "number", "group", "state"] [] := F_Page_init.binds fun _ _ _ _ _ _ us hl => match us, hl with | [_, _, _, _], _ => rfl
  obtain ⟨fd_share_out, F_share_out⟩ := F_share_out
  have B_share_out : Binds K fd_share_out ["pages", "claims"] [] := F_share_out.binds fun _ _ _ _ _ _ us hl => match us, hl with | [_, _], _ => rfl
  obtain ⟨fd_Memory_init, F_Memory_init⟩ := F_Memory_init
  have B_Memory_init : Binds K fd_Memory_init ["self", "limits"] [] := F_Memory_init.binds fun _ _ _ _ _ _ us hl => match us, hl with | [_, _], _ => rfl
  obtain ⟨fd_Memory_need_group, F_Memory_need_group⟩ := F_Memory_need_group
  have B_Memory_need_group : Binds K fd_Memory_need_group ["self", "number"] [] := F_Memory_need_group.binds fun _ _ _ _ _ _ us hl => match us, hl with | [_, _], _ => rfl
  obtain ⟨fd_Memory_kids, F_Memory_kids⟩ := F_Memory_kids
  have B_Memory_kids : Binds K fd_Memory_kids ["self", "number"] [] := F_Memory_kids.binds fun _ _ _ _ _ _ us hl => match us, hl with | [_, _], _ => rfl
  obtain ⟨fd_Memory_above, F_Memory_above⟩ := F_Memory_above
  have B_Memory_above : Binds K fd_Memory_above ["self", "number"] [] := F_Memory_above.binds fun _ _ _ _ _ _ us hl => match us, hl with | [_, _], _ => rfl
  obtain ⟨fd_Memory_usages, F_Memory_usages⟩ := F_Memory_usages
  have B_Memory_usages : Binds K fd_Memory_usages ["self"] [] := F_Memory_usages.binds fun _ _ _ _ _ _ us hl => match us, hl with | [_], _ => rfl
  obtain ⟨fd_Memory_has_pages, F_Memory_has_pages⟩ := F_Memory_has_pages
  have B_Memory_has_pages : Binds K fd_Memory_has_pages ["self", "number"] [] := F_Memory_has_pages.binds fun _ _ _ _ _ _ us hl => match us, hl with | [_, _], _ => rfl
  obtain ⟨fd_Memory_asked, F_Memory_asked⟩ := F_Memory_asked
  have B_Memory_asked : Binds K fd_Memory_asked ["self", "number", "is_second"] [] := F_Memory_asked.binds fun _ _ _ _ _ _ us hl => match us, hl with | [_, _, _], _ => rfl
  obtain ⟨fd_Memory_handed_down, F_Memory_handed_down⟩ := F_Memory_handed_down
  have B_Memory_handed_down : Binds K fd_Memory_handed_down ["self", "is_second"] [] := F_Memory_handed_down.binds fun _ _ _ _ _ _ us hl => match us, hl with | [_, _], _ => rfl
  obtain ⟨fd_Memory_hard, F_Memory_hard⟩ := F_Memory_hard
  have B_Memory_hard : Binds K fd_Memory_hard ["self"] [] := F_Memory_hard.binds fun _ _ _ _ _ _ us hl => match us, hl with | [_], _ => rfl
  obtain ⟨fd_Memory_soft, F_Memory_soft⟩ := F_Memory_soft
  have B_Memory_soft : Binds K fd_Memory_soft ["self"] [] := F_Memory_soft.binds fun _ _ _ _ _ _ us hl => match us, hl with | [_], _ => rfl
  obtain ⟨fd_Memory_may_be_taken, F_Memory_may_be_taken⟩ := F_Memory_may_be_taken
  have B_Memory_may_be_taken : Binds K fd_Memory_may_be_taken ["self", "protections"] [] := F_Memory_may_be_taken.binds fun _ _ _ _ _ _ us hl => match us, hl with | [_, _], _ => rfl
  obtain ⟨fd_Memory_choice, F_Memory_choice⟩ := F_Memory_choice
  have B_Memory_choice : Binds K fd_Memory_choice ["self", "needs"] [] := F_Memory_choice.binds fun _ _ _ _ _ _ us hl => match us, hl with | [_, _], _ => rfl
  obtain ⟨fd_Memory_chosen, F_Memory_chosen⟩ := F_Memory_chosen
  have B_Memory_chosen : Binds K fd_Memory_chosen ["self", "pages", "needs"] [] := F_Memory_chosen.binds fun _ _ _ _ _ _ us hl => match us, hl with | [_, _, _], _ => rfl
  obtain ⟨fd_Memory_take, F_Memory_take⟩ := F_Memory_take
  have B_Memory_take : Binds K fd_Memory_take ["self", "pages"] [] := F_Memory_take.binds fun _ _ _ _ _ _ us hl => match us, hl with | [_, _], _ => rfl
  obtain ⟨fd_Memory_needs_of, F_Memory_needs_of⟩ := F_Memory_needs_of
  have B_Memory_needs_of : Binds K fd_Memory_needs_of ["self", "number", "count"] [] := F_Memory_needs_of.binds fun _ _ _ _ _ _ us hl => match us, hl with | [_, _, _], _ => rfl
  obtain ⟨fd_Memory_add_group, F_Memory_add_group⟩ := F_Memory_add_group
  have B_Memory_add_group : Binds K fd_Memory_add_group ["self", "parent", "limits"] [] := F_Memory_add_group.binds fun _ _ _ _ _ _ us hl => match us, hl with | [_, _, _], _ => rfl
  obtain ⟨fd_Memory_new_limits, F_Memory_new_limits⟩ := F_Memory_new_limits
  have B_Memory_new_limits : Binds K fd_Memory_new_limits ["self", "number", "limits"] [] := F_Memory_new_limits.binds fun _ _ _ _ _ _ us hl => match us, hl with | [_, _, _], _ => rfl
  obtain ⟨fd_Memory_remove, F_Memory_remove⟩ := F_Memory_remove
  have B_Memory_remove : Binds K fd_Memory_remove ["self", "number"] [] := F_Memory_remove.binds fun _ _ _ _ _ _ us hl => match us, hl with | [_, _], _ => rfl
  obtain ⟨fd_Memory_move, F_Memory_move⟩ := F_Memory_move
  have B_Memory_move : Binds K fd_Memory_move ["self", "number", "parent"] [] := F_Memory_move.binds fun _ _ _ _ _ _ us hl => match us, hl with | [_, _, _], _ => rfl
  obtain ⟨fd_Memory_alloc, F_Memory_alloc⟩ := F_Memory_alloc
  have B_Memory_alloc : Binds K fd_Memory_alloc ["self", "number", "count"] [] := F_Memory_alloc.binds fun _ _ _ _ _ _ us hl => match us, hl with | [_, _, _], _ => rfl
  obtain ⟨fd_Memory_get_page, F_Memory_get_page⟩ := F_Memory_get_page
  have B_Memory_get_page : Binds K fd_Memory_get_page ["self", "number"] [] := F_Memory_get_page.binds fun _ _ _ _ _ _ us hl => match us, hl with | [_, _], _ => rfl
  obtain ⟨fd_Memory_free, F_Memory_free⟩ := F_Memory_free
  have B_Memory_free : Binds K fd_Memory_free ["self", "number"] [] := F_Memory_free.binds fun _ _ _ _ _ _ us hl => match us, hl with | [_, _], _ => rfl
  obtain ⟨fd_Memory_touch, F_Memory_touch⟩ := F_Memory_touch
  have B_Memory_touch : Binds K fd_Memory_touch ["self", "number"] [] := F_Memory_touch.binds fun _ _ _ _ _ _ us hl => match us, hl with | [_, _], _ => rfl
  obtain ⟨fd_Memory_get_below, F_Memory_get_below⟩ := F_Memory_get_below
  have B_Memory_get_below : Binds K fd_Memory_get_below ["self", "number"] [] := F_Memory_get_below.binds fun _ _ _ _ _ _ us hl => match us, hl with | [_, _], _ => rfl
  obtain ⟨fd_Reader_init, F_Reader_init⟩ := F_Reader_init
  have B_Reader_init : Binds K fd_Reader_init ["self", "octets"] [] := F_Reader_init.binds fun _ _ _ _ _ _ us hl => match us, hl with | [_, _], _ => rfl
  obtain ⟨fd_Reader_take, F_Reader_take⟩ := F_Reader_take
  have B_Reader_take : Binds K fd_Reader_take ["self", "many"] [] := F_Reader_take.binds fun _ _ _ _ _ _ us hl => match us, hl with | [_, _], _ => rfl
  obtain ⟨fd_Reader_get_number, F_Reader_get_number⟩ := F_Reader_get_number
  have B_Reader_get_number : Binds K fd_Reader_get_number ["self", "many"] [] := F_Reader_get_number.binds fun _ _ _ _ _ _ us hl => match us, hl with | [_, _], _ => rfl
  obtain ⟨fd_Reader_text, F_Reader_text⟩ := F_Reader_text
  have B_Reader_text : Binds K fd_Reader_text ["self"] [] := F_Reader_text.binds fun _ _ _ _ _ _ us hl => match us, hl with | [_], _ => rfl
  obtain ⟨fd_Reader_get_value, F_Reader_get_value⟩ := F_Reader_get_value
  have B_Reader_get_value : Binds K fd_Reader_get_value ["self", "deep"] [] := F_Reader_get_value.binds fun _ _ _ _ _ _ us hl => match us, hl with | [_, _], _ => rfl
  obtain ⟨fd_octets_of, F_octets_of⟩ := F_octets_of
  have B_octets_of : Binds K fd_octets_of ["word"] [] := F_octets_of.binds fun _ _ _ _ _ _ us hl => match us, hl with | [_], _ => rfl
  obtain ⟨fd_v_int, F_v_int⟩ := F_v_int
  have B_v_int : Binds K fd_v_int ["number"] [] := F_v_int.binds fun _ _ _ _ _ _ us hl => match us, hl with | [_], _ => rfl
  obtain ⟨fd_v_text, F_v_text⟩ := F_v_text
  have B_v_text : Binds K fd_v_text ["word"] [] := F_v_text.binds fun _ _ _ _ _ _ us hl => match us, hl with | [_], _ => rfl
  obtain ⟨fd_v_list, F_v_list⟩ := F_v_list
  have B_v_list : Binds K fd_v_list ["members"] [] := F_v_list.binds fun _ _ _ _ _ _ us hl => match us, hl with | [_], _ => rfl
  obtain ⟨fd_v_ints, F_v_ints⟩ := F_v_ints
  have B_v_ints : Binds K fd_v_ints ["numbers"] [] := F_v_ints.binds fun _ _ _ _ _ _ us hl => match us, hl with | [_], _ => rfl
  obtain ⟨fd_v_record, F_v_record⟩ := F_v_record
  have B_v_record : Binds K fd_v_record ["pairs"] [] := F_v_record.binds fun _ _ _ _ _ _ us hl => match us, hl with | [_], _ => rfl
  obtain ⟨fd_member, F_member⟩ := F_member
  have B_member : Binds K fd_member ["value", "word"] [] := F_member.binds fun _ _ _ _ _ _ us hl => match us, hl with | [_, _], _ => rfl
  obtain ⟨fd_is_int, F_is_int⟩ := F_is_int
  have B_is_int : Binds K fd_is_int ["value", "low", "high"] [] := F_is_int.binds fun _ _ _ _ _ _ us hl => match us, hl with | [_, _, _], _ => rfl
  obtain ⟨fd_number_octets, F_number_octets⟩ := F_number_octets
  have B_number_octets : Binds K fd_number_octets ["number", "many"] [] := F_number_octets.binds fun _ _ _ _ _ _ us hl => match us, hl with | [_, _], _ => rfl
  obtain ⟨fd_text_octets, F_text_octets⟩ := F_text_octets
  have B_text_octets : Binds K fd_text_octets ["octets"] [] := F_text_octets.binds fun _ _ _ _ _ _ us hl => match us, hl with | [_], _ => rfl
  obtain ⟨fd_written, F_written⟩ := F_written
  have B_written : Binds K fd_written ["value"] [] := F_written.binds fun _ _ _ _ _ _ us hl => match us, hl with | [_], _ => rfl
  obtain ⟨fd_number_in, F_number_in⟩ := F_number_in
  have B_number_in : Binds K fd_number_in ["value", "word", "low", "high"] [] := F_number_in.binds fun _ _ _ _ _ _ us hl => match us, hl with | [_, _, _, _], _ => rfl
  obtain ⟨fd_group_in, F_group_in⟩ := F_group_in
  have B_group_in : Binds K fd_group_in ["value"] [] := F_group_in.binds fun _ _ _ _ _ _ us hl => match us, hl with | [_], _ => rfl
  obtain ⟨fd_page_in, F_page_in⟩ := F_page_in
  have B_page_in : Binds K fd_page_in ["value"] [] := F_page_in.binds fun _ _ _ _ _ _ us hl => match us, hl with | [_], _ => rfl
  obtain ⟨fd_limits_in, F_limits_in⟩ := F_limits_in
  have B_limits_in : Binds K fd_limits_in ["value"] [] := F_limits_in.binds fun _ _ _ _ _ _ us hl => match us, hl with | [_], _ => rfl
  obtain ⟨fd_page_value, F_page_value⟩ := F_page_value
  have B_page_value : Binds K fd_page_value ["page"] [] := F_page_value.binds fun _ _ _ _ _ _ us hl => match us, hl with | [_], _ => rfl
  obtain ⟨fd_numbers_value, F_numbers_value⟩ := F_numbers_value
  have B_numbers_value : Binds K fd_numbers_value ["pages"] [] := F_numbers_value.binds fun _ _ _ _ _ _ us hl => match us, hl with | [_], _ => rfl
  obtain ⟨fd_group_value, F_group_value⟩ := F_group_value
  have B_group_value : Binds K fd_group_value ["memory", "number"] [] := F_group_value.binds fun _ _ _ _ _ _ us hl => match us, hl with | [_, _], _ => rfl
  obtain ⟨fd_change_groups, F_change_groups⟩ := F_change_groups
  have B_change_groups : Binds K fd_change_groups ["memory", "number", "arguments"] [] := F_change_groups.binds fun _ _ _ _ _ _ us hl => match us, hl with | [_, _, _], _ => rfl
  obtain ⟨fd_change_pages, F_change_pages⟩ := F_change_pages
  have B_change_pages : Binds K fd_change_pages ["memory", "number", "arguments"] [] := F_change_pages.binds fun _ _ _ _ _ _ us hl => match us, hl with | [_, _, _], _ => rfl
  obtain ⟨fd_ask, F_ask⟩ := F_ask
  have B_ask : Binds K fd_ask ["memory", "number", "arguments"] [] := F_ask.binds fun _ _ _ _ _ _ us hl => match us, hl with | [_, _, _], _ => rfl
  obtain ⟨fd_Desk_init, F_Desk_init⟩ := F_Desk_init
  have B_Desk_init : Binds K fd_Desk_init ["self"] [] := F_Desk_init.binds fun _ _ _ _ _ _ us hl => match us, hl with | [_], _ => rfl
  obtain ⟨fd_Desk_memory, F_Desk_memory⟩ := F_Desk_memory
  have B_Desk_memory : Binds K fd_Desk_memory ["self", "value"] [] := F_Desk_memory.binds fun _ _ _ _ _ _ us hl => match us, hl with | [_, _], _ => rfl
  obtain ⟨fd_Desk_walk, F_Desk_walk⟩ := F_Desk_walk
  have B_Desk_walk : Binds K fd_Desk_walk ["self", "number", "arguments"] [] := F_Desk_walk.binds fun _ _ _ _ _ _ us hl => match us, hl with | [_, _, _], _ => rfl
  obtain ⟨fd_Desk_answer, F_Desk_answer⟩ := F_Desk_answer
  have B_Desk_answer : Binds K fd_Desk_answer ["self", "number", "arguments"] [] := F_Desk_answer.binds fun _ _ _ _ _ _ us hl => match us, hl with | [_, _, _], _ => rfl
  obtain ⟨fd_Desk_get_octets, F_Desk_get_octets⟩ := F_Desk_get_octets
  have B_Desk_get_octets : Binds K fd_Desk_get_octets ["self", "request"] [] := F_Desk_get_octets.binds fun _ _ _ _ _ _ us hl => match us, hl with | [_, _], _ => rfl
  obtain ⟨fd_answers, F_answers⟩ := F_answers
  have B_answers : Binds K fd_answers ["calls"] [] := F_answers.binds fun _ _ _ _ _ _ us hl => match us, hl with | [_], _ => rfl
  refine ⟨fd_answers, fun s us hu => ?_, fun base _ _ => ?_⟩
  · obtain ⟨oc, od, kV, doc, pm, an, cdv, ct, osl, e, lk, hcd⟩ := F_answers.ex
    subst e
    exact match us, hu with | [_], _ => .of_eq rfl
  · have z : True := trivial
    have h_need_kind : GF P w K mg base (L2N.CX P w) 1 "need_kind" ["truth", "message"] (spNeed A 1) := ⟨f_need_kind, fd_need_kind, PySem.W.mg_of X G a_need_kind, F_need_kind.kp, B_need_kind, ok_need_kind F_need_kind T R⟩
    have h_need_range : GF P w K mg base (L2N.CX P w) 1 "need_range" ["truth", "message"] (spNeed A 2) := ⟨f_need_range, fd_need_range, PySem.W.mg_of X G a_need_range, F_need_range.kp, B_need_range, ok_need_range F_need_range T R⟩
    have h_need_readable : GF P w K mg base CX0 1 "need_readable" ["truth"] spNeedR := ⟨f_need_readable, fd_need_readable, PySem.W.mg_of X G a_need_readable, F_need_readable.kp, B_need_readable, ok_need_readable F_need_readable⟩
    have h_Limits : GC P w K mg base CX0 1 "Limits" A.lim ["self", "most", "least", "low"] (spLimI A) := ⟨f_Limits_init, fd_Limits_init, PySem.W.mg_of X G a_lim, ⟨p5_lim, a_Limits_init, i_Limits_init, p6_lim⟩, B_Limits_init, ok_Limits_init F_Limits_init T⟩
    have h_Group : GC P w K mg base CX0 1 "Group" A.grp ["self", "parent", "limits"] (spGrpI A) := ⟨f_Group_init, fd_Group_init, PySem.W.mg_of X G a_grp, ⟨p5_grp, a_Group_init, i_Group_init, p6_grp⟩, B_Group_init, ok_Group_init F_Group_init T⟩
    have h_Page : GC P w K mg base CX0 1 "Page" A.pag ["self", "number", "group", "state"] (spPagI A) := ⟨f_Page_init, fd_Page_init, PySem.W.mg_of X G a_pag, ⟨p5_pag, a_Page_init, i_Page_init, p6_pag⟩, B_Page_init, ok_Page_init F_Page_init T⟩
    have h_Memory_kids : GM P w K mg base CX0 1 A.mem "kids" ["self", "number"] (spKids K A) := ⟨f_Memory_kids, fd_Memory_kids, ⟨a_Memory_kids, i_Memory_kids, F_Memory_kids.kp⟩, B_Memory_kids, ok_kids F_Memory_kids T⟩
    have h_Memory_above : GM P w K mg base CX0 1 A.mem "above" ["self", "number"] (spAbove K A) := ⟨f_Memory_above, fd_Memory_above, ⟨a_Memory_above, i_Memory_above, F_Memory_above.kp⟩, B_Memory_above, ok_above F_Memory_above T⟩
    have h_Memory_has_pages : GM P w K mg base CX0 1 A.mem "has_pages" ["self", "number"] (spHasPages K A) := ⟨f_Memory_has_pages, fd_Memory_has_pages, ⟨a_Memory_has_pages, i_Memory_has_pages, F_Memory_has_pages.kp⟩, B_Memory_has_pages, ok_has_pages F_Memory_has_pages T⟩
    have h_Memory_asked : GM P w K mg base CX0 1 A.mem "asked" ["self", "number", "is_second"] (spAsked K A) := ⟨f_Memory_asked, fd_Memory_asked, ⟨a_Memory_asked, i_Memory_asked, F_Memory_asked.kp⟩, B_Memory_asked, ok_asked F_Memory_asked T⟩
    have h_Memory_usages : GM P w K mg base CX0 2 A.mem "usages" ["self"] (spUsages K A) := ⟨f_Memory_usages, fd_Memory_usages, ⟨a_Memory_usages, i_Memory_usages, F_Memory_usages.kp⟩, B_Memory_usages, ok_usages F_Memory_usages T h_Memory_above⟩
    have h_share_out : GF P w K mg base CX0 1 "share_out" ["pages", "claims"] (spShare K) := ⟨f_share_out, fd_share_out, PySem.W.mg_of X G a_share_out, F_share_out.kp, B_share_out, ok_share_out F_share_out T⟩
    have h_Memory_needs_of : GM P w K mg base CX0 3 A.mem "needs_of" ["self", "number", "count"] (spNeedsOf K A) := ⟨f_Memory_needs_of, fd_Memory_needs_of, ⟨a_Memory_needs_of, i_Memory_needs_of, F_Memory_needs_of.kp⟩, B_Memory_needs_of, ok_needs_of F_Memory_needs_of T h_Memory_above h_Memory_usages⟩
    have h_Memory_handed_down : GM P w K mg base CX0 3 A.mem "handed_down" ["self", "is_second"] (spHanded K A) := ⟨f_Memory_handed_down, fd_Memory_handed_down, ⟨a_Memory_handed_down, i_Memory_handed_down, F_Memory_handed_down.kp⟩, B_Memory_handed_down, ok_handed_down F_Memory_handed_down T h_Memory_kids h_Memory_asked h_Memory_usages h_share_out⟩
    have h_Memory_hard : GM P w K mg base CX0 4 A.mem "hard" ["self"] (spProt K A R7278g.Spec.Mem.hard) := ⟨f_Memory_hard, fd_Memory_hard, ⟨a_Memory_hard, i_Memory_hard, F_Memory_hard.kp⟩, B_Memory_hard, ok_hard F_Memory_hard T h_Memory_handed_down⟩
    have h_Memory_soft : GM P w K mg base CX0 5 A.mem "soft" ["self"] (spProt K A R7278g.Spec.Mem.soft) := ⟨f_Memory_soft, fd_Memory_soft, ⟨a_Memory_soft, i_Memory_soft, F_Memory_soft.kp⟩, B_Memory_soft, ok_soft F_Memory_soft T h_Memory_handed_down h_Memory_hard⟩
    have h_Memory_may_be_taken : GM P w K mg base CX0 3 A.mem "may_be_taken" ["self", "protections"] (spMay K A) := ⟨f_Memory_may_be_taken, fd_Memory_may_be_taken, ⟨a_Memory_may_be_taken, i_Memory_may_be_taken, F_Memory_may_be_taken.kp⟩, B_Memory_may_be_taken, ok_may_be_taken F_Memory_may_be_taken T h_Memory_usages h_Memory_kids⟩
    have h_Memory_chosen : GM P w K mg base CX0 2 A.mem "chosen" ["self", "pages", "needs"] (spChosen K A) := ⟨f_Memory_chosen, fd_Memory_chosen, ⟨a_Memory_chosen, i_Memory_chosen, F_Memory_chosen.kp⟩, B_Memory_chosen, ok_chosen F_Memory_chosen T h_Memory_above⟩
    have h_Memory_choice : GM P w K mg base CX0 6 A.mem "choice" ["self", "needs"] (spChoice K A) := ⟨f_Memory_choice, fd_Memory_choice, ⟨a_Memory_choice, i_Memory_choice, F_Memory_choice.kp⟩, B_Memory_choice, ok_choice F_Memory_choice T h_Memory_chosen h_Memory_may_be_taken h_Memory_soft h_Memory_hard⟩
    have h_Memory_need_group : GM P w K mg base (L2N.CX P w) 2 A.mem "need_group" ["self", "number"] (spNeedG K A) := ⟨f_Memory_need_group, fd_Memory_need_group, ⟨a_Memory_need_group, i_Memory_need_group, F_Memory_need_group.kp⟩, B_Memory_need_group, ok_need_group F_Memory_need_group T h_need_range⟩
    have h_Memory_get_page : GM P w K mg base (L2N.CX P w) 2 A.mem "get_page" ["self", "number"] (spGetPage K A) := ⟨f_Memory_get_page, fd_Memory_get_page, ⟨a_Memory_get_page, i_Memory_get_page, F_Memory_get_page.kp⟩, B_Memory_get_page, ok_get_page F_Memory_get_page T h_need_range⟩
    have h_Memory_get_below : GM P w K mg base CX0 2 A.mem "get_below" ["self", "number"] (spGetBelow K A) := ⟨f_Memory_get_below, fd_Memory_get_below, ⟨a_Memory_get_below, i_Memory_get_below, F_Memory_get_below.kp⟩, B_Memory_get_below, ok_get_below F_Memory_get_below T h_Memory_above⟩
    have h_Memory : GC P w K mg base CX0 3 "Memory" A.mem ["self", "limits"] (spMemI K A) := ⟨f_Memory_init, fd_Memory_init, PySem.W.mg_of X G a_mem, ⟨p5_mem, a_Memory_init, i_Memory_init, p6_mem⟩, B_Memory_init, ok_Memory_init F_Memory_init T h_Group⟩
    have h_Memory_take : GM P w K mg base (L2N.CX P w) 2 A.mem "take" ["self", "pages"] (spTake K A) := ⟨f_Memory_take, fd_Memory_take, ⟨a_Memory_take, i_Memory_take, F_Memory_take.kp⟩, B_Memory_take, ok_take F_Memory_take T h_need_range⟩
    have h_Memory_free : GM P w K mg base (L2N.CX P w) 3 A.mem "free" ["self", "number"] (spFree K A) := ⟨f_Memory_free, fd_Memory_free, ⟨a_Memory_free, i_Memory_free, F_Memory_free.kp⟩, B_Memory_free, ok_free F_Memory_free T h_Memory_get_page⟩
    have h_Memory_touch : GM P w K mg base (L2N.CX P w) 4 A.mem "touch" ["self", "number"] (spTouch K A) := ⟨f_Memory_touch, fd_Memory_touch, ⟨a_Memory_touch, i_Memory_touch, F_Memory_touch.kp⟩, B_Memory_touch, ok_touch F_Memory_touch T h_Memory_get_page h_Memory_free⟩
    have h_Memory_alloc : GM P w K mg base (L2N.CX P w) 7 A.mem "alloc" ["self", "number", "count"] (spAlloc K A) := ⟨f_Memory_alloc, fd_Memory_alloc, ⟨a_Memory_alloc, i_Memory_alloc, F_Memory_alloc.kp⟩, B_Memory_alloc, ok_alloc F_Memory_alloc T h_need_range h_Memory_need_group h_Memory_kids h_Memory_take h_Memory_choice h_Memory_needs_of h_Page⟩
    have h_Memory_add_group : GM P w K mg base (L2N.CX P w) 3 A.mem "add_group" ["self", "parent", "limits"] (spAddGroup K A) := ⟨f_Memory_add_group, fd_Memory_add_group, ⟨a_Memory_add_group, i_Memory_add_group, F_Memory_add_group.kp⟩, B_Memory_add_group, ok_add_group F_Memory_add_group T h_need_range h_Memory_need_group h_Memory_has_pages h_Group⟩
    have h_Memory_new_limits : GM P w K mg base (L2N.CX P w) 7 A.mem "new_limits" ["self", "number", "limits"] (spNewLimits K A) := ⟨f_Memory_new_limits, fd_Memory_new_limits, ⟨a_Memory_new_limits, i_Memory_new_limits, F_Memory_new_limits.kp⟩, B_Memory_new_limits, ok_new_limits F_Memory_new_limits T h_Memory_need_group h_Memory_usages h_Memory_take h_Memory_choice⟩
    have h_Memory_remove : GM P w K mg base (L2N.CX P w) 3 A.mem "remove" ["self", "number"] (spRemove K A) := ⟨f_Memory_remove, fd_Memory_remove, ⟨a_Memory_remove, i_Memory_remove, F_Memory_remove.kp⟩, B_Memory_remove, ok_remove F_Memory_remove T h_need_range h_Memory_need_group h_Memory_has_pages h_Memory_kids⟩
    have h_Memory_move : GM P w K mg base (L2N.CX P w) 3 A.mem "move" ["self", "number", "parent"] (spMove K A) := ⟨f_Memory_move, fd_Memory_move, ⟨a_Memory_move, i_Memory_move, F_Memory_move.kp⟩, B_Memory_move, ok_move F_Memory_move T h_need_range h_Memory_need_group h_Memory_has_pages h_Memory_above h_Memory_usages⟩
    have h_Reader : GC P w K mg base CX0 1 "Reader" A.rdr ["self", "octets"] (spRdrI K A) := ⟨f_Reader_init, fd_Reader_init, PySem.W.mg_of X G a_rdr, ⟨p5_rdr, a_Reader_init, i_Reader_init, p6_rdr⟩, B_Reader_init, ok_Reader_init F_Reader_init T⟩
    have h_Reader_take : GM P w K mg base CX0 1 A.rdr "take" ["self", "many"] (spRTake K A) := ⟨f_Reader_take, fd_Reader_take, ⟨a_Reader_take, i_Reader_take, F_Reader_take.kp⟩, B_Reader_take, ok_Reader_take F_Reader_take T⟩
    have h_Reader_get_number : GM P w K mg base CX0 2 A.rdr "get_number" ["self", "many"] (spRNum K A) := ⟨f_Reader_get_number, fd_Reader_get_number, ⟨a_Reader_get_number, i_Reader_get_number, F_Reader_get_number.kp⟩, B_Reader_get_number, ok_get_number F_Reader_get_number T h_Reader_take⟩
    have h_Reader_text : GM P w K mg base CX0 3 A.rdr "text" ["self"] (spRText K A) := ⟨f_Reader_text, fd_Reader_text, ⟨a_Reader_text, i_Reader_text, F_Reader_text.kp⟩, B_Reader_text, ok_Reader_text F_Reader_text T h_Reader_take h_Reader_get_number⟩
    have h_Reader_get_value : GM P w K mg base CX0 35 A.rdr "get_value" ["self", "deep"] (spRVal K A 32) := ⟨f_Reader_get_value, fd_Reader_get_value, ⟨a_Reader_get_value, i_Reader_get_value, F_Reader_get_value.kp⟩, B_Reader_get_value, ok_get_value F_Reader_get_value B_Reader_get_value ⟨a_Reader_get_value, i_Reader_get_value, F_Reader_get_value.kp⟩ T h_Reader_get_number h_Reader_text 32⟩
    have h_octets_of : GF P w K mg base CX0 1 "octets_of" ["word"] (spOctOf K) := ⟨f_octets_of, fd_octets_of, PySem.W.mg_of X G a_octets_of, F_octets_of.kp, B_octets_of, ok_octets_of F_octets_of T⟩
    have h_v_int : GF P w K mg base CX0 1 "v_int" ["number"] (spVInt K) := ⟨f_v_int, fd_v_int, PySem.W.mg_of X G a_v_int, F_v_int.kp, B_v_int, ok_v_int F_v_int⟩
    have h_v_text : GF P w K mg base CX0 2 "v_text" ["word"] (spVText K) := ⟨f_v_text, fd_v_text, PySem.W.mg_of X G a_v_text, F_v_text.kp, B_v_text, ok_v_text F_v_text h_octets_of⟩
    have h_v_list : GF P w K mg base CX0 1 "v_list" ["members"] (spVList K) := ⟨f_v_list, fd_v_list, PySem.W.mg_of X G a_v_list, F_v_list.kp, B_v_list, ok_v_list F_v_list T⟩
    have h_v_ints : GF P w K mg base CX0 1 "v_ints" ["numbers"] (spVInts K) := ⟨f_v_ints, fd_v_ints, PySem.W.mg_of X G a_v_ints, F_v_ints.kp, B_v_ints, ok_v_ints F_v_ints⟩
    have h_v_record : GF P w K mg base CX0 2 "v_record" ["pairs"] (spVRec K) := ⟨f_v_record, fd_v_record, PySem.W.mg_of X G a_v_record, F_v_record.kp, B_v_record, ok_v_record F_v_record h_octets_of⟩
    have h_member : GF P w K mg base CX0 2 "member" ["value", "word"] (spMember K) := ⟨f_member, fd_member, PySem.W.mg_of X G a_member, F_member.kp, B_member, ok_member F_member T h_octets_of⟩
    have h_is_int : GF P w K mg base CX0 1 "is_int" ["value", "low", "high"] (spIsInt K) := ⟨f_is_int, fd_is_int, PySem.W.mg_of X G a_is_int, F_is_int.kp, B_is_int, ok_is_int F_is_int⟩
    have h_number_octets : GF P w K mg base CX0 1 "number_octets" ["number", "many"] (spNumOct K) := ⟨f_number_octets, fd_number_octets, PySem.W.mg_of X G a_number_octets, F_number_octets.kp, B_number_octets, ok_number_octets F_number_octets T⟩
    have h_number_octetsH : GFH P w K mg base 1 "number_octets" ["number", "many"] (spNumOct K) := ⟨f_number_octets, fd_number_octets, PySem.W.mg_of X G a_number_octets, F_number_octets.kp, B_number_octets, ok_number_octetsH F_number_octets T⟩
    have h_text_octets : GF P w K mg base CX0 2 "text_octets" ["octets"] (spTextOct K) := ⟨f_text_octets, fd_text_octets, PySem.W.mg_of X G a_text_octets, F_text_octets.kp, B_text_octets, ok_text_octets F_text_octets T h_number_octets⟩
    have h_text_octetsH : GFH P w K mg base 2 "text_octets" ["octets"] (spTextOct K) := ⟨f_text_octets, fd_text_octets, PySem.W.mg_of X G a_text_octets, F_text_octets.kp, B_text_octets, ok_text_octetsH F_text_octets T h_number_octetsH⟩
    have h_written : GF P w K mg base CX0 34 "written" ["value"] (spWr K 32) := ⟨f_written, fd_written, PySem.W.mg_of X G a_written, F_written.kp, B_written, ok_written F_written B_written (PySem.W.mg_of X G a_written) F_written.kp T h_number_octets h_text_octets 32⟩
    have h_number_in : GF P w K mg base (L2N.CX P w) 2 "number_in" ["value", "word", "low", "high"] (spNumIn K A) := ⟨f_number_in, fd_number_in, PySem.W.mg_of X G a_number_in, F_number_in.kp, B_number_in, ok_number_in F_number_in T h_need_kind h_is_int⟩
    have h_group_in : GF P w K mg base (L2N.CX P w) 3 "group_in" ["value"] (spGroupIn K A "group" 0 100) := ⟨f_group_in, fd_group_in, PySem.W.mg_of X G a_group_in, F_group_in.kp, B_group_in, ok_group_in F_group_in h_number_in⟩
    have h_page_in : GF P w K mg base (L2N.CX P w) 3 "page_in" ["value"] (spGroupIn K A "page" 1 1000000000) := ⟨f_page_in, fd_page_in, PySem.W.mg_of X G a_page_in, F_page_in.kp, B_page_in, ok_page_in F_page_in T h_number_in⟩
    have h_limits_in : GF P w K mg base (L2N.CX P w) 3 "limits_in" ["value"] (spLimIn K A) := ⟨f_limits_in, fd_limits_in, PySem.W.mg_of X G a_limits_in, F_limits_in.kp, B_limits_in, ok_limits_in F_limits_in T h_need_kind h_number_in h_member h_Limits⟩
    have h_page_value : GF P w K mg base CX0 3 "page_value" ["page"] (spPageVal K A) := ⟨f_page_value, fd_page_value, PySem.W.mg_of X G a_page_value, F_page_value.kp, B_page_value, ok_page_value F_page_value T h_v_record h_v_int h_v_text⟩
    have h_numbers_value : GF P w K mg base CX0 2 "numbers_value" ["pages"] (spNumsVal K A) := ⟨f_numbers_value, fd_numbers_value, PySem.W.mg_of X G a_numbers_value, F_numbers_value.kp, B_numbers_value, ok_numbers_value F_numbers_value T h_v_ints⟩
    have h_group_value : GF P w K mg base CX0 6 "group_value" ["memory", "number"] (spGroupVal K A) := ⟨f_group_value, fd_group_value, PySem.W.mg_of X G a_group_value, F_group_value.kp, B_group_value, ok_group_value F_group_value T h_v_int h_v_ints h_v_record h_Memory_usages h_Memory_hard h_Memory_soft h_Memory_kids⟩
    have h_change_groups : GF P w K mg base (L2N.CX P w) 8 "change_groups" ["memory", "number", "arguments"] (spDoorM K A (fun d => decide (1 ≤ d) && decide (d ≤ 4)) (fun d => if d = 3 then 2 else 3) groupsW) := ⟨f_change_groups, fd_change_groups, PySem.W.mg_of X G a_change_groups, F_change_groups.kp, B_change_groups, ok_change_groups F_change_groups T h_number_in h_group_in h_limits_in h_v_int h_Memory_add_group h_Memory_new_limits h_Memory_remove h_Memory_move⟩
    have h_change_pages : GF P w K mg base (L2N.CX P w) 8 "change_pages" ["memory", "number", "arguments"] (fun vs H Q E => ∃ (L : Lay) (m : SMem) (d : Nat) (aa : Addr) (args : List WVal), vs = [.ref L.a, nV d, .ref aa] ∧ MemAt K A H L m ∧ 5 ≤ d ∧ d ≤ 10 ∧ ArgsAt K H aa args ∧ (if d = 5 ∨ d = 6 ∨ d = 9 then 3 else 2) ≤ args.length ∧ (datW (argW args 2)).depth ≤ 64 ∧ OutAt K A H L m E Q (pagesW d m args)) := ⟨f_change_pages, fd_change_pages, PySem.W.mg_of X G a_change_pages, F_change_pages.kp, B_change_pages, ok_change_pages F_change_pages T h_number_in h_group_in h_page_in h_need_kind h_octets_of h_v_int h_numbers_value h_Memory_alloc h_Memory_need_group h_Memory_choice h_Memory_take h_Memory_get_below h_Memory_free h_Memory_touch h_Memory_get_page⟩
    have h_ask : GF P w K mg base (L2N.CX P w) 8 "ask" ["memory", "number", "arguments"] (fun vs H Q E => ∃ (L : Lay) (m : SMem) (d : Nat) (aa : Addr) (args : List WVal), vs = [.ref L.a, nV d, .ref aa] ∧ MemAt K A H L m ∧ 11 ≤ d ∧ d ≤ 15 ∧ ArgsAt K H aa args ∧ (if d = 11 then 3 else if d ≤ 13 then 2 else 1) ≤ args.length ∧ OutV K A H E Q (askW d m args)) := ⟨f_ask, fd_ask, PySem.W.mg_of X G a_ask, F_ask.kp, B_ask, ok_ask F_ask T h_number_in h_group_in h_v_int h_v_list h_v_record h_numbers_value h_page_value h_group_value h_Memory_need_group h_Memory_choice h_Memory_needs_of h_Memory_get_below⟩
    have h_Desk : GC P w K mg base CX0 1 "Desk" A.dsk ["self"] (spDskI K A) := ⟨f_Desk_init, fd_Desk_init, PySem.W.mg_of X G a_dsk, ⟨p5_dsk, a_Desk_init, i_Desk_init, p6_dsk⟩, B_Desk_init, ok_Desk_init F_Desk_init T⟩
    have h_Desk_memory : GM P w K mg base CX0 2 A.dsk "memory" ["self", "value"] (spDMem K A) := ⟨f_Desk_memory, fd_Desk_memory, ⟨a_Desk_memory, i_Desk_memory, F_Desk_memory.kp⟩, B_Desk_memory, ok_Desk_memory F_Desk_memory T h_need_readable⟩
    have h_Desk_walk : GM P w K mg base CX0 6 A.dsk "walk" ["self", "number", "arguments"] (spWalk K A) := ⟨f_Desk_walk, fd_Desk_walk, ⟨a_Desk_walk, i_Desk_walk, F_Desk_walk.kp⟩, B_Desk_walk, ok_Desk_walk F_Desk_walk T h_need_readable h_is_int h_Desk_memory h_page_value h_v_record h_Memory_may_be_taken h_Memory_hard⟩
    have h_Desk_answer : GM P w K mg base (L2N.CX P w) 9 A.dsk "answer" ["self", "number", "arguments"] (spAnswer K A) := ⟨f_Desk_answer, fd_Desk_answer, ⟨a_Desk_answer, i_Desk_answer, F_Desk_answer.kp⟩, B_Desk_answer, ok_Desk_answer F_Desk_answer T h_need_readable h_is_int h_limits_in h_Memory h_Desk_walk h_Desk_memory h_change_groups h_change_pages h_ask⟩
    have h_Desk_get_octets : GM P w K mg base CX0 36 A.dsk "get_octets" ["self", "request"] (spGetO K A) := ⟨f_Desk_get_octets, fd_Desk_get_octets, ⟨a_Desk_get_octets, i_Desk_get_octets, F_Desk_get_octets.kp⟩, B_Desk_get_octets, ok_get_octets F_Desk_get_octets T R h_Reader h_Reader_get_number h_need_readable h_Reader_get_value h_written h_Desk_answer h_text_octetsH⟩
    have h_fin := ok_answers F_answers T h_Desk h_Desk_get_octets
    exact h_fin
theorem all_of {P : Program} {w : World} {K : PySem.W.Frag} {h : Heap} {mg : Str → Option Value} {fa : Addr} (c : Facts K) (X : K.In h) (G : h.Ns mainGlobals mg) (hfa : mg "answers" = some (.ref fa)) :
    ∃ fd : FuncData, (∀ (s : Shared) (us : List Value), us.length = (["calls"] : List Str).length → BindsTo s fd ⟨us, []⟩ ((["calls"] : List Str).zip us)) ∧ ∀ base : Heap, K.In base → base.Ns mainGlobals mg → FnOk P w K mg base CX0 37 fa fd ["calls"] (spAns K A0) := by
  cases c with
  | mk a_lim p1_lim p2_lim p3_lim p4_lim p5_lim p6_lim n_lim_most n_lim_least n_lim_low a_grp p1_grp p2_grp p3_grp p4_grp p5_grp p6_grp n_grp_parent n_grp_limits a_pag p1_pag p2_pag p3_pag p4_pag p5_pag p6_pag n_pag_number n_pag_group n_pag_state a_mem p1_mem p2_mem p3_mem p4_mem p5_mem p6_mem n_mem_groups n_mem_made n_mem_rows n_mem_next_page n_mem_taken a_rdr p1_rdr p2_rdr p3_rdr p4_rdr p5_rdr p6_rdr n_rdr_octets n_rdr_at a_dsk p1_dsk p2_dsk p3_dsk p4_dsk p5_dsk p6_dsk n_dsk_memories n_dsk_victims a_ref r_cls r_sa r_ga r_gg r_noC r_noM r_iC r_tC r_kC r_exC r_tyC r_hdC r_is r_sub r_fn r_cd a_need_kind F_need_kind a_need_range F_need_range a_need_readable F_need_readable a_Limits_init i_Limits_init F_Limits_init a_Group_init i_Group_init F_Group_init a_Page_init i_Page_init F_Page_init a_share_out F_share_out a_Memory_init i_Memory_init F_Memory_init a_Memory_need_group i_Memory_need_group F_Memory_need_group a_Memory_kids i_Memory_kids F_Memory_kids a_Memory_above i_Memory_above F_Memory_above a_Memory_usages i_Memory_usages F_Memory_usages a_Memory_has_pages i_Memory_has_pages F_Memory_has_pages a_Memory_asked i_Memory_asked F_Memory_asked a_Memory_handed_down i_Memory_handed_down F_Memory_handed_down a_Memory_hard i_Memory_hard F_Memory_hard a_Memory_soft i_Memory_soft F_Memory_soft a_Memory_may_be_taken i_Memory_may_be_taken F_Memory_may_be_taken a_Memory_choice i_Memory_choice F_Memory_choice a_Memory_chosen i_Memory_chosen F_Memory_chosen a_Memory_take i_Memory_take F_Memory_take a_Memory_needs_of i_Memory_needs_of F_Memory_needs_of a_Memory_add_group i_Memory_add_group F_Memory_add_group a_Memory_new_limits i_Memory_new_limits F_Memory_new_limits a_Memory_remove i_Memory_remove F_Memory_remove a_Memory_move i_Memory_move F_Memory_move a_Memory_alloc i_Memory_alloc F_Memory_alloc a_Memory_get_page i_Memory_get_page F_Memory_get_page a_Memory_free i_Memory_free F_Memory_free a_Memory_touch i_Memory_touch F_Memory_touch a_Memory_get_below i_Memory_get_below F_Memory_get_below a_Reader_init i_Reader_init F_Reader_init a_Reader_take i_Reader_take F_Reader_take a_Reader_get_number i_Reader_get_number F_Reader_get_number a_Reader_text i_Reader_text F_Reader_text a_Reader_get_value i_Reader_get_value F_Reader_get_value a_octets_of F_octets_of a_v_int F_v_int a_v_text F_v_text a_v_list F_v_list a_v_ints F_v_ints a_v_record F_v_record a_member F_member a_is_int F_is_int a_number_octets F_number_octets a_text_octets F_text_octets a_written F_written a_number_in F_number_in a_group_in F_group_in a_page_in F_page_in a_limits_in F_limits_in a_page_value F_page_value a_numbers_value F_numbers_value a_group_value F_group_value a_change_groups F_change_groups a_change_pages F_change_pages a_ask F_ask a_Desk_init i_Desk_init F_Desk_init a_Desk_memory i_Desk_memory F_Desk_memory a_Desk_walk i_Desk_walk F_Desk_walk a_Desk_answer i_Desk_answer F_Desk_answer a_Desk_get_octets i_Desk_get_octets F_Desk_get_octets a_answers F_answers b_len b_sum b_list b_dict b_sorted b_enumerate b_any b_all b_max b_min b_zip b_range b_tuple b_ord b_str e_MOST_GROUPS e_MOST_PAGES e_MOST_TAKEN e_MOST_NESTED e_MANY_MEMORIES e_MANY_VICTIMS e_GREAT e_WRONG_KIND e_OUT_OF_RANGE e_PLAIN_memories e_DIRTY e_NO_GROUP e_NO_MEMORY e_NOTHING q_NOTHING e_NULL q_NULL e_NO q_NO e_YES q_YES e_PLAIN_values q_PLAIN_values e_ARGUMENTS q_ARGUMENTS e_STATES q_STATES => exact all_mk X G hfa a_lim p1_lim p2_lim p3_lim p4_lim p5_lim p6_lim n_lim_most n_lim_least n_lim_low a_grp p1_grp p2_grp p3_grp p4_grp p5_grp p6_grp n_grp_parent n_grp_limits a_pag p1_pag p2_pag p3_pag p4_pag p5_pag p6_pag n_pag_number n_pag_group n_pag_state a_mem p1_mem p2_mem p3_mem p4_mem p5_mem p6_mem n_mem_groups n_mem_made n_mem_rows n_mem_next_page n_mem_taken a_rdr p1_rdr p2_rdr p3_rdr p4_rdr p5_rdr p6_rdr n_rdr_octets n_rdr_at a_dsk p1_dsk p2_dsk p3_dsk p4_dsk p5_dsk p6_dsk n_dsk_memories n_dsk_victims a_ref r_cls r_sa r_ga r_gg r_noC r_noM r_iC r_tC r_kC r_exC r_tyC r_hdC r_is r_sub r_fn r_cd a_need_kind F_need_kind a_need_range F_need_range a_need_readable F_need_readable a_Limits_init i_Limits_init F_Limits_init a_Group_init i_Group_init F_Group_init a_Page_init i_Page_init F_Page_init a_share_out F_share_out a_Memory_init i_Memory_init F_Memory_init a_Memory_need_group i_Memory_need_group F_Memory_need_group a_Memory_kids i_Memory_kids F_Memory_kids a_Memory_above i_Memory_above F_Memory_above a_Memory_usages i_Memory_usages F_Memory_usages a_Memory_has_pages i_Memory_has_pages F_Memory_has_pages a_Memory_asked i_Memory_asked F_Memory_asked a_Memory_handed_down i_Memory_handed_down F_Memory_handed_down a_Memory_hard i_Memory_hard F_Memory_hard a_Memory_soft i_Memory_soft F_Memory_soft a_Memory_may_be_taken i_Memory_may_be_taken F_Memory_may_be_taken a_Memory_choice i_Memory_choice F_Memory_choice a_Memory_chosen i_Memory_chosen F_Memory_chosen a_Memory_take i_Memory_take F_Memory_take a_Memory_needs_of i_Memory_needs_of F_Memory_needs_of a_Memory_add_group i_Memory_add_group F_Memory_add_group a_Memory_new_limits i_Memory_new_limits F_Memory_new_limits a_Memory_remove i_Memory_remove F_Memory_remove a_Memory_move i_Memory_move F_Memory_move a_Memory_alloc i_Memory_alloc F_Memory_alloc a_Memory_get_page i_Memory_get_page F_Memory_get_page a_Memory_free i_Memory_free F_Memory_free a_Memory_touch i_Memory_touch F_Memory_touch a_Memory_get_below i_Memory_get_below F_Memory_get_below a_Reader_init i_Reader_init F_Reader_init a_Reader_take i_Reader_take F_Reader_take a_Reader_get_number i_Reader_get_number F_Reader_get_number a_Reader_text i_Reader_text F_Reader_text a_Reader_get_value i_Reader_get_value F_Reader_get_value a_octets_of F_octets_of a_v_int F_v_int a_v_text F_v_text a_v_list F_v_list a_v_ints F_v_ints a_v_record F_v_record a_member F_member a_is_int F_is_int a_number_octets F_number_octets a_text_octets F_text_octets a_written F_written a_number_in F_number_in a_group_in F_group_in a_page_in F_page_in a_limits_in F_limits_in a_page_value F_page_value a_numbers_value F_numbers_value a_group_value F_group_value a_change_groups F_change_groups a_change_pages F_change_pages a_ask F_ask a_Desk_init i_Desk_init F_Desk_init a_Desk_memory i_Desk_memory F_Desk_memory a_Desk_walk i_Desk_walk F_Desk_walk a_Desk_answer i_Desk_answer F_Desk_answer a_Desk_get_octets i_Desk_get_octets F_Desk_get_octets a_answers F_answers b_len b_sum b_list b_dict b_sorted b_enumerate b_any b_all b_max b_min b_zip b_range b_tuple b_ord b_str e_MOST_GROUPS e_MOST_PAGES e_MOST_TAKEN e_MOST_NESTED e_MANY_MEMORIES e_MANY_VICTIMS e_GREAT e_WRONG_KIND e_OUT_OF_RANGE e_PLAIN_memories e_DIRTY e_NO_GROUP e_NO_MEMORY e_NOTHING q_NOTHING e_NULL q_NULL e_NO q_NO e_YES q_YES e_PLAIN_values q_PLAIN_values e_ARGUMENTS q_ARGUMENTS e_STATES q_STATES
end Gm
end

open PySem PySem.W PyProof.Rows
set_option maxRecDepth 100000 in
set_option maxHeartbeats 8000000 in
theorem PySem.Challenge.cw_groupmem_s01_answers_holds : PySem.Challenge.rw_groupmem_s01_answers.Holds := by
  have said := Gm.said
  w_on; k_headR; (case hw => exact ⟨[.list [.int 0, .int 17, .int 0, .int 0, .int 2, .int 4, .int 2, .int 0, .int 0, .int 0, .int 0, .int 0, .int 0, .int 0, .int 7, .int 0, .int 0, .int 0, .int 0]], by decide +kernel, by decide +kernel⟩)
  k_fillS
  refine L2.walk_specK (r := PySem.Challenge.rw_groupmem_s01_answers) (k := 37) (CX := L2.CX0) (ps := ["calls"]) (sp := fun K => Gm.spAns K Gm.A0) Gm.said rfl rfl ⟨rfl, by decide, by decide⟩ (fun w h Y => PySem.W.kIn_of Y) ?F ?S (fun _ _ _ _ z => z)
  case F =>
    intro w mg fa h Y KX G hmg
    refine Gm.all_of ?allfacts KX G hmg
    clear hmg G KX Y h fa mg
    as_aux_lemma =>
      refine' Gm.Facts.mk ?a_lim ?p1_lim ?p2_lim ?p3_lim ?p4_lim ?p5_lim ?p6_lim ?n_lim_most ?n_lim_least ?n_lim_low ?a_grp ?p1_grp ?p2_grp ?p3_grp ?p4_grp ?p5_grp ?p6_grp ?n_grp_parent ?n_grp_limits ?a_pag ?p1_pag ?p2_pag ?p3_pag ?p4_pag ?p5_pag ?p6_pag ?n_pag_number ?n_pag_group ?n_pag_state ?a_mem ?p1_mem ?p2_mem ?p3_mem ?p4_mem ?p5_mem ?p6_mem ?n_mem_groups ?n_mem_made ?n_mem_rows ?n_mem_next_page ?n_mem_taken ?a_rdr ?p1_rdr ?p2_rdr ?p3_rdr ?p4_rdr ?p5_rdr ?p6_rdr ?n_rdr_octets ?n_rdr_at ?a_dsk ?p1_dsk ?p2_dsk ?p3_dsk ?p4_dsk ?p5_dsk ?p6_dsk ?n_dsk_memories ?n_dsk_victims ?a_ref ?r_cls ?r_sa ?r_ga ?r_gg ?r_noC ?r_noM ?r_iC ?r_tC ?r_kC ?r_exC ?r_tyC ?r_hdC ?r_is ?r_sub ?r_fn ?r_cd ?a_need_kind ?F_need_kind ?a_need_range ?F_need_range ?a_need_readable ?F_need_readable ?a_Limits_init ?i_Limits_init ?F_Limits_init ?a_Group_init ?i_Group_init ?F_Group_init ?a_Page_init ?i_Page_init ?F_Page_init ?a_share_out ?F_share_out ?a_Memory_init ?i_Memory_init ?F_Memory_init ?a_Memory_need_group ?i_Memory_need_group ?F_Memory_need_group ?a_Memory_kids ?i_Memory_kids ?F_Memory_kids ?a_Memory_above ?i_Memory_above ?F_Memory_above ?a_Memory_usages ?i_Memory_usages ?F_Memory_usages ?a_Memory_has_pages ?i_Memory_has_pages ?F_Memory_has_pages ?a_Memory_asked ?i_Memory_asked ?F_Memory_asked ?a_Memory_handed_down ?i_Memory_handed_down ?F_Memory_handed_down ?a_Memory_hard ?i_Memory_hard ?F_Memory_hard ?a_Memory_soft ?i_Memory_soft ?F_Memory_soft ?a_Memory_may_be_taken ?i_Memory_may_be_taken ?F_Memory_may_be_taken ?a_Memory_choice ?i_Memory_choice ?F_Memory_choice ?a_Memory_chosen ?i_Memory_chosen ?F_Memory_chosen ?a_Memory_take ?i_Memory_take ?F_Memory_take ?a_Memory_needs_of ?i_Memory_needs_of ?F_Memory_needs_of ?a_Memory_add_group ?i_Memory_add_group ?F_Memory_add_group ?a_Memory_new_limits ?i_Memory_new_limits ?F_Memory_new_limits ?a_Memory_remove ?i_Memory_remove ?F_Memory_remove ?a_Memory_move ?i_Memory_move ?F_Memory_move ?a_Memory_alloc ?i_Memory_alloc ?F_Memory_alloc ?a_Memory_get_page ?i_Memory_get_page ?F_Memory_get_page ?a_Memory_free ?i_Memory_free ?F_Memory_free ?a_Memory_touch ?i_Memory_touch ?F_Memory_touch ?a_Memory_get_below ?i_Memory_get_below ?F_Memory_get_below ?a_Reader_init ?i_Reader_init ?F_Reader_init ?a_Reader_take ?i_Reader_take ?F_Reader_take ?a_Reader_get_number ?i_Reader_get_number ?F_Reader_get_number ?a_Reader_text ?i_Reader_text ?F_Reader_text ?a_Reader_get_value ?i_Reader_get_value ?F_Reader_get_value ?a_octets_of ?F_octets_of ?a_v_int ?F_v_int ?a_v_text ?F_v_text ?a_v_list ?F_v_list ?a_v_ints ?F_v_ints ?a_v_record ?F_v_record ?a_member ?F_member ?a_is_int ?F_is_int ?a_number_octets ?F_number_octets ?a_text_octets ?F_text_octets ?a_written ?F_written ?a_number_in ?F_number_in ?a_group_in ?F_group_in ?a_page_in ?F_page_in ?a_limits_in ?F_limits_in ?a_page_value ?F_page_value ?a_numbers_value ?F_numbers_value ?a_group_value ?F_group_value ?a_change_groups ?F_change_groups ?a_change_pages ?F_change_pages ?a_ask ?F_ask ?a_Desk_init ?i_Desk_init ?F_Desk_init ?a_Desk_memory ?i_Desk_memory ?F_Desk_memory ?a_Desk_walk ?i_Desk_walk ?F_Desk_walk ?a_Desk_answer ?i_Desk_answer ?F_Desk_answer ?a_Desk_get_octets ?i_Desk_get_octets ?F_Desk_get_octets ?a_answers ?F_answers ?b_len ?b_sum ?b_list ?b_dict ?b_sorted ?b_enumerate ?b_any ?b_all ?b_max ?b_min ?b_zip ?b_range ?b_tuple ?b_ord ?b_str ?e_MOST_GROUPS ?e_MOST_PAGES ?e_MOST_TAKEN ?e_MOST_NESTED ?e_MANY_MEMORIES ?e_MANY_VICTIMS ?e_GREAT ?e_WRONG_KIND ?e_OUT_OF_RANGE ?e_PLAIN_memories ?e_DIRTY ?e_NO_GROUP ?e_NO_MEMORY ?e_NOTHING ?q_NOTHING ?e_NULL ?q_NULL ?e_NO ?q_NO ?e_YES ?q_YES ?e_PLAIN_values ?q_PLAIN_values ?e_ARGUMENTS ?q_ARGUMENTS ?e_STATES ?q_STATES
      (case a_lim => k_is)
      (case p1_lim => k_is)
      (case p2_lim => k_is)
      (case p3_lim => k_is)
      (case p4_lim => k_is)
      (case p5_lim => k_is)
      (case p6_lim => k_is)
      (case n_lim_most => k_is)
      (case n_lim_least => k_is)
      (case n_lim_low => k_is)
      (case a_grp => k_is)
      (case p1_grp => k_is)
      (case p2_grp => k_is)
      (case p3_grp => k_is)
      (case p4_grp => k_is)
      (case p5_grp => k_is)
      (case p6_grp => k_is)
      (case n_grp_parent => k_is)
      (case n_grp_limits => k_is)
      (case a_pag => k_is)
      (case p1_pag => k_is)
      (case p2_pag => k_is)
      (case p3_pag => k_is)
      (case p4_pag => k_is)
      (case p5_pag => k_is)
      (case p6_pag => k_is)
      (case n_pag_number => k_is)
      (case n_pag_group => k_is)
      (case n_pag_state => k_is)
      (case a_mem => k_is)
      (case p1_mem => k_is)
      (case p2_mem => k_is)
      (case p3_mem => k_is)
      (case p4_mem => k_is)
      (case p5_mem => k_is)
      (case p6_mem => k_is)
      (case n_mem_groups => k_is)
      (case n_mem_made => k_is)
      (case n_mem_rows => k_is)
      (case n_mem_next_page => k_is)
      (case n_mem_taken => k_is)
      (case a_rdr => k_is)
      (case p1_rdr => k_is)
      (case p2_rdr => k_is)
      (case p3_rdr => k_is)
      (case p4_rdr => k_is)
      (case p5_rdr => k_is)
      (case p6_rdr => k_is)
      (case n_rdr_octets => k_is)
      (case n_rdr_at => k_is)
      (case a_dsk => k_is)
      (case p1_dsk => k_is)
      (case p2_dsk => k_is)
      (case p3_dsk => k_is)
      (case p4_dsk => k_is)
      (case p5_dsk => k_is)
      (case p6_dsk => k_is)
      (case n_dsk_memories => k_is)
      (case n_dsk_victims => k_is)
      (case a_ref => k_is)
      (case r_cls => refine' ⟨_, _, _, _, _, _, _, _, _, _, _, _, _, _, ?l⟩; (case l => refine' Eq.trans ?x ?y; (case x => k_is); (case y => exact rfl)))
      (case r_sa => k_is)
      (case r_ga => k_is)
      (case r_gg => k_is)
      (case r_noC => k_is)
      (case r_noM => k_is)
      (case r_iC => k_is)
      (case r_tC => k_is)
      (case r_kC => k_is)
      (case r_exC => k_is)
      (case r_tyC => k_is)
      (case r_hdC => k_is)
      (case r_is => k_is)
      (case r_sub => k_is)
      (case r_fn => k_is)
      (case r_cd => k_is)
      (case a_need_kind => k_is)
      (case F_need_kind => refine' Gm.fnF_mk ?l ?c ?k; (case l => k_is); (case c => k_is); (case k => k_is))
      (case a_need_range => k_is)
      (case F_need_range => refine' Gm.fnF_mk ?l ?c ?k; (case l => k_is); (case c => k_is); (case k => k_is))
      (case a_need_readable => k_is)
      (case F_need_readable => refine' Gm.fnF_mk ?l ?c ?k; (case l => k_is); (case c => k_is); (case k => k_is))
      (case a_Limits_init => k_is)
      (case i_Limits_init => k_is)
      (case F_Limits_init => refine' Gm.fnF_mk ?l ?c ?k; (case l => k_is); (case c => k_is); (case k => k_is))
      (case a_Group_init => k_is)
      (case i_Group_init => k_is)
      (case F_Group_init => refine' Gm.fnF_mk ?l ?c ?k; (case l => k_is); (case c => k_is); (case k => k_is))
      (case a_Page_init => k_is)
      (case i_Page_init => k_is)
      (case F_Page_init => refine' Gm.fnF_mk ?l ?c ?k; (case l => k_is); (case c => k_is); (case k => k_is))
      (case a_share_out => k_is)
      (case F_share_out => refine' Gm.fnF_mk ?l ?c ?k; (case l => k_is); (case c => k_is); (case k => k_is))
      (case a_Memory_init => k_is)
      (case i_Memory_init => k_is)
      (case F_Memory_init => refine' Gm.fnF_mk ?l ?c ?k; (case l => k_is); (case c => k_is); (case k => k_is))
      (case a_Memory_need_group => k_is)
      (case i_Memory_need_group => k_is)
      (case F_Memory_need_group => refine' Gm.fnF_mk ?l ?c ?k; (case l => k_is); (case c => k_is); (case k => k_is))
      (case a_Memory_kids => k_is)
      (case i_Memory_kids => k_is)
      (case F_Memory_kids => refine' Gm.fnF_mk ?l ?c ?k; (case l => k_is); (case c => k_is); (case k => k_is))
      (case a_Memory_above => k_is)
      (case i_Memory_above => k_is)
      (case F_Memory_above => refine' Gm.fnF_mk ?l ?c ?k; (case l => k_is); (case c => k_is); (case k => k_is))
      (case a_Memory_usages => k_is)
      (case i_Memory_usages => k_is)
      (case F_Memory_usages => refine' Gm.fnF_mk ?l ?c ?k; (case l => k_is); (case c => k_is); (case k => k_is))
      (case a_Memory_has_pages => k_is)
      (case i_Memory_has_pages => k_is)
      (case F_Memory_has_pages => refine' Gm.fnF_mk ?l ?c ?k; (case l => k_is); (case c => k_is); (case k => k_is))
      (case a_Memory_asked => k_is)
      (case i_Memory_asked => k_is)
      (case F_Memory_asked => refine' Gm.fnF_mk ?l ?c ?k; (case l => k_is); (case c => k_is); (case k => k_is))
      (case a_Memory_handed_down => k_is)
      (case i_Memory_handed_down => k_is)
      (case F_Memory_handed_down => refine' Gm.fnF_mk ?l ?c ?k; (case l => k_is); (case c => k_is); (case k => k_is))
      (case a_Memory_hard => k_is)
      (case i_Memory_hard => k_is)
      (case F_Memory_hard => refine' Gm.fnF_mk ?l ?c ?k; (case l => k_is); (case c => k_is); (case k => k_is))
      (case a_Memory_soft => k_is)
      (case i_Memory_soft => k_is)
      (case F_Memory_soft => refine' Gm.fnF_mk ?l ?c ?k; (case l => k_is); (case c => k_is); (case k => k_is))
      (case a_Memory_may_be_taken => k_is)
      (case i_Memory_may_be_taken => k_is)
      (case F_Memory_may_be_taken => refine' Gm.fnF_mk ?l ?c ?k; (case l => k_is); (case c => k_is); (case k => k_is))
      (case a_Memory_choice => k_is)
      (case i_Memory_choice => k_is)
      (case F_Memory_choice => refine' Gm.fnF_mk ?l ?c ?k; (case l => k_is); (case c => k_is); (case k => k_is))
      (case a_Memory_chosen => k_is)
      (case i_Memory_chosen => k_is)
      (case F_Memory_chosen => refine' Gm.fnF_mk ?l ?c ?k; (case l => k_is); (case c => k_is); (case k => k_is))
      (case a_Memory_take => k_is)
      (case i_Memory_take => k_is)
      (case F_Memory_take => refine' Gm.fnF_mk ?l ?c ?k; (case l => k_is); (case c => k_is); (case k => k_is))
      (case a_Memory_needs_of => k_is)
      (case i_Memory_needs_of => k_is)
      (case F_Memory_needs_of => refine' Gm.fnF_mk ?l ?c ?k; (case l => k_is); (case c => k_is); (case k => k_is))
      (case a_Memory_add_group => k_is)
      (case i_Memory_add_group => k_is)
      (case F_Memory_add_group => refine' Gm.fnF_mk ?l ?c ?k; (case l => k_is); (case c => k_is); (case k => k_is))
      (case a_Memory_new_limits => k_is)
      (case i_Memory_new_limits => k_is)
      (case F_Memory_new_limits => refine' Gm.fnF_mk ?l ?c ?k; (case l => k_is); (case c => k_is); (case k => k_is))
      (case a_Memory_remove => k_is)
      (case i_Memory_remove => k_is)
      (case F_Memory_remove => refine' Gm.fnF_mk ?l ?c ?k; (case l => k_is); (case c => k_is); (case k => k_is))
      (case a_Memory_move => k_is)
      (case i_Memory_move => k_is)
      (case F_Memory_move => refine' Gm.fnF_mk ?l ?c ?k; (case l => k_is); (case c => k_is); (case k => k_is))
      (case a_Memory_alloc => k_is)
      (case i_Memory_alloc => k_is)
      (case F_Memory_alloc => refine' Gm.fnF_mk ?l ?c ?k; (case l => k_is); (case c => k_is); (case k => k_is))
      (case a_Memory_get_page => k_is)
      (case i_Memory_get_page => k_is)
      (case F_Memory_get_page => refine' Gm.fnF_mk ?l ?c ?k; (case l => k_is); (case c => k_is); (case k => k_is))
      (case a_Memory_free => k_is)
      (case i_Memory_free => k_is)
      (case F_Memory_free => refine' Gm.fnF_mk ?l ?c ?k; (case l => k_is); (case c => k_is); (case k => k_is))
      (case a_Memory_touch => k_is)
      (case i_Memory_touch => k_is)
      (case F_Memory_touch => refine' Gm.fnF_mk ?l ?c ?k; (case l => k_is); (case c => k_is); (case k => k_is))
      (case a_Memory_get_below => k_is)
      (case i_Memory_get_below => k_is)
      (case F_Memory_get_below => refine' Gm.fnF_mk ?l ?c ?k; (case l => k_is); (case c => k_is); (case k => k_is))
      (case a_Reader_init => k_is)
      (case i_Reader_init => k_is)
      (case F_Reader_init => refine' Gm.fnF_mk ?l ?c ?k; (case l => k_is); (case c => k_is); (case k => k_is))
      (case a_Reader_take => k_is)
      (case i_Reader_take => k_is)
      (case F_Reader_take => refine' Gm.fnF_mk ?l ?c ?k; (case l => k_is); (case c => k_is); (case k => k_is))
      (case a_Reader_get_number => k_is)
      (case i_Reader_get_number => k_is)
      (case F_Reader_get_number => refine' Gm.fnF_mk ?l ?c ?k; (case l => k_is); (case c => k_is); (case k => k_is))
      (case a_Reader_text => k_is)
      (case i_Reader_text => k_is)
      (case F_Reader_text => refine' Gm.fnF_mk ?l ?c ?k; (case l => k_is); (case c => k_is); (case k => k_is))
      (case a_Reader_get_value => k_is)
      (case i_Reader_get_value => k_is)
      (case F_Reader_get_value => refine' Gm.fnF_mk ?l ?c ?k; (case l => k_is); (case c => k_is); (case k => k_is))
      (case a_octets_of => k_is)
      (case F_octets_of => refine' Gm.fnF_mk ?l ?c ?k; (case l => k_is); (case c => k_is); (case k => k_is))
      (case a_v_int => k_is)
      (case F_v_int => refine' Gm.fnF_mk ?l ?c ?k; (case l => k_is); (case c => k_is); (case k => k_is))
      (case a_v_text => k_is)
      (case F_v_text => refine' Gm.fnF_mk ?l ?c ?k; (case l => k_is); (case c => k_is); (case k => k_is))
      (case a_v_list => k_is)
      (case F_v_list => refine' Gm.fnF_mk ?l ?c ?k; (case l => k_is); (case c => k_is); (case k => k_is))
      (case a_v_ints => k_is)
      (case F_v_ints => refine' Gm.fnF_mk ?l ?c ?k; (case l => k_is); (case c => k_is); (case k => k_is))
      (case a_v_record => k_is)
      (case F_v_record => refine' Gm.fnF_mk ?l ?c ?k; (case l => k_is); (case c => k_is); (case k => k_is))
      (case a_member => k_is)
      (case F_member => refine' Gm.fnF_mk ?l ?c ?k; (case l => k_is); (case c => k_is); (case k => k_is))
      (case a_is_int => k_is)
      (case F_is_int => refine' Gm.fnF_mk ?l ?c ?k; (case l => k_is); (case c => k_is); (case k => k_is))
      (case a_number_octets => k_is)
      (case F_number_octets => refine' Gm.fnF_mk ?l ?c ?k; (case l => k_is); (case c => k_is); (case k => k_is))
      (case a_text_octets => k_is)
      (case F_text_octets => refine' Gm.fnF_mk ?l ?c ?k; (case l => k_is); (case c => k_is); (case k => k_is))
      (case a_written => k_is)
      (case F_written => refine' Gm.fnF_mk ?l ?c ?k; (case l => k_is); (case c => k_is); (case k => k_is))
      (case a_number_in => k_is)
      (case F_number_in => refine' Gm.fnF_mk ?l ?c ?k; (case l => k_is); (case c => k_is); (case k => k_is))
      (case a_group_in => k_is)
      (case F_group_in => refine' Gm.fnF_mk ?l ?c ?k; (case l => k_is); (case c => k_is); (case k => k_is))
      (case a_page_in => k_is)
      (case F_page_in => refine' Gm.fnF_mk ?l ?c ?k; (case l => k_is); (case c => k_is); (case k => k_is))
      (case a_limits_in => k_is)
      (case F_limits_in => refine' Gm.fnF_mk ?l ?c ?k; (case l => k_is); (case c => k_is); (case k => k_is))
      (case a_page_value => k_is)
      (case F_page_value => refine' Gm.fnF_mk ?l ?c ?k; (case l => k_is); (case c => k_is); (case k => k_is))
      (case a_numbers_value => k_is)
      (case F_numbers_value => refine' Gm.fnF_mk ?l ?c ?k; (case l => k_is); (case c => k_is); (case k => k_is))
      (case a_group_value => k_is)
      (case F_group_value => refine' Gm.fnF_mk ?l ?c ?k; (case l => k_is); (case c => k_is); (case k => k_is))
      (case a_change_groups => k_is)
      (case F_change_groups => refine' Gm.fnF_mk ?l ?c ?k; (case l => k_is); (case c => k_is); (case k => k_is))
      (case a_change_pages => k_is)
      (case F_change_pages => refine' Gm.fnF_mk ?l ?c ?k; (case l => k_is); (case c => k_is); (case k => k_is))
      (case a_ask => k_is)
      (case F_ask => refine' Gm.fnF_mk ?l ?c ?k; (case l => k_is); (case c => k_is); (case k => k_is))
      (case a_Desk_init => k_is)
      (case i_Desk_init => k_is)
      (case F_Desk_init => refine' Gm.fnF_mk ?l ?c ?k; (case l => k_is); (case c => k_is); (case k => k_is))
      (case a_Desk_memory => k_is)
      (case i_Desk_memory => k_is)
      (case F_Desk_memory => refine' Gm.fnF_mk ?l ?c ?k; (case l => k_is); (case c => k_is); (case k => k_is))
      (case a_Desk_walk => k_is)
      (case i_Desk_walk => k_is)
      (case F_Desk_walk => refine' Gm.fnF_mk ?l ?c ?k; (case l => k_is); (case c => k_is); (case k => k_is))
      (case a_Desk_answer => k_is)
      (case i_Desk_answer => k_is)
      (case F_Desk_answer => refine' Gm.fnF_mk ?l ?c ?k; (case l => k_is); (case c => k_is); (case k => k_is))
      (case a_Desk_get_octets => k_is)
      (case i_Desk_get_octets => k_is)
      (case F_Desk_get_octets => refine' Gm.fnF_mk ?l ?c ?k; (case l => k_is); (case c => k_is); (case k => k_is))
      (case a_answers => k_is)
      (case F_answers => refine' Gm.fnF_mk ?l ?c ?k; (case l => k_is); (case c => k_is); (case k => k_is))
      (case b_len => k_is)
      (case b_sum => k_is)
      (case b_list => k_is)
      (case b_dict => k_is)
      (case b_sorted => k_is)
      (case b_enumerate => k_is)
      (case b_any => k_is)
      (case b_all => k_is)
      (case b_max => k_is)
      (case b_min => k_is)
      (case b_zip => k_is)
      (case b_range => k_is)
      (case b_tuple => k_is)
      (case b_ord => k_is)
      (case b_str => k_is)
      (case e_MOST_GROUPS => k_is)
      (case e_MOST_PAGES => k_is)
      (case e_MOST_TAKEN => k_is)
      (case e_MOST_NESTED => k_is)
      (case e_MANY_MEMORIES => k_is)
      (case e_MANY_VICTIMS => k_is)
      (case e_GREAT => k_is)
      (case e_WRONG_KIND => k_is)
      (case e_OUT_OF_RANGE => k_is)
      (case e_PLAIN_memories => k_is)
      (case e_DIRTY => k_is)
      (case e_NO_GROUP => k_is)
      (case e_NO_MEMORY => k_is)
      (case e_NOTHING => k_is)
      (case q_NOTHING => refine' Gm.sqtk_mk ?l ?s ?r; (case l => k_is); (case s => exact Gm.tup_line (by decide)); (case r => exact (.cons ⟨_, rfl⟩ (.cons rfl .nil))))
      (case e_NULL => k_is)
      (case q_NULL => refine' Gm.sqtk_mk ?l ?s ?r; (case l => k_is); (case s => exact Gm.tup_line (by decide)); (case r => exact (.cons ⟨_, rfl⟩ (.cons rfl .nil))))
      (case e_NO => k_is)
      (case q_NO => refine' Gm.sqtk_mk ?l ?s ?r; (case l => k_is); (case s => exact Gm.tup_line (by decide)); (case r => exact (.cons ⟨_, rfl⟩ (.cons rfl .nil))))
      (case e_YES => k_is)
      (case q_YES => refine' Gm.sqtk_mk ?l ?s ?r; (case l => k_is); (case s => exact Gm.tup_line (by decide)); (case r => exact (.cons ⟨_, rfl⟩ (.cons rfl .nil))))
      (case e_PLAIN_values => k_is)
      (case q_PLAIN_values => refine' Gm.sqtk_mk ?l ?s ?r; (case l => k_is); (case s => exact Gm.tup_line (by decide)); (case r => exact (.cons ⟨_, rfl⟩ (.cons ⟨_, rfl⟩ (.cons ⟨_, rfl⟩ (.cons ⟨_, rfl⟩ .nil))))))
      (case e_ARGUMENTS => k_is)
      (case q_ARGUMENTS => refine' Gm.sqtk_mk ?l ?s ?r; (case l => k_is); (case s => exact Gm.tup_line (by decide)); (case r => exact (.cons ⟨_, rfl⟩ (.cons ⟨_, rfl⟩ (.cons ⟨_, rfl⟩ (.cons ⟨_, rfl⟩ (.cons ⟨_, rfl⟩ (.cons ⟨_, rfl⟩ (.cons ⟨_, rfl⟩ (.cons ⟨_, rfl⟩ (.cons ⟨_, rfl⟩ (.cons ⟨_, rfl⟩ (.cons ⟨_, rfl⟩ (.cons ⟨_, rfl⟩ (.cons ⟨_, rfl⟩ (.cons ⟨_, rfl⟩ (.cons ⟨_, rfl⟩ (.cons ⟨_, rfl⟩ (.cons ⟨_, rfl⟩ (.cons ⟨_, rfl⟩ (.cons ⟨_, rfl⟩ .nil)))))))))))))))))))))
      (case e_STATES => k_is)
      (case q_STATES => refine' Gm.sqtk_mk ?l ?s ?r; (case l => k_is); (case s => exact Gm.tup_line (by decide)); (case r => exact (.cons ⟨_, rfl⟩ (.cons ⟨_, rfl⟩ (.cons ⟨_, rfl⟩ .nil)))))
  case S =>
    intro K H xs a hO hwi hask hx
    cases hx with
    | cons h1 h2 =>
      cases h2
      cases h1 with
      | lst hs ha =>
        have e := L2.ints_dw a.1 _ ha
        subst e
        have q : ((Codec.inLen 0 61000 a.1 && a.1.all (Codec.inInt 0 65535)) && true) = true := hwi
        rw [Bool.and_eq_true, Bool.and_eq_true] at q
        obtain ⟨reqs, outs, e1, e2, e3, e4, e5, e6⟩ := Gm.law_is (ns := a.1) hask (Codec.inNat_iff.mp q.1.1).2
        exact ⟨_, reqs, outs, rfl, by rw [e1]; exact hs, e2, e3, e4, e5, fun p H' hp => .lst (L2.SqL.of (by rw [e6] at hp; exact hp)) (L2.dw_ints _)⟩
#print axioms PySem.Challenge.cw_groupmem_s01_answers_holds
