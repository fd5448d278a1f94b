import PyProof.Rows.All
import Wide.All
import OpenK.AllK
import Wide.FinOn
import HandS.ForMost
import HandS.IsInst
import HandS.Property
import HandS.DictComp
import HandS.SetFor
import HandS.Star
import HandS.NoneIn
import HandS.Style
import HandS.More
import HandS.Finally
import HandS.Flow
import HandS.SetKeys
import HandS.GenCall
import HandS.GenYield
import HandS.SortKw
import KE.KStateDown
import HandS.WordsExc
import HandS.Defaults
import HandS.Head0
import HandS.Head1
import HandS.Head2
import HandS.HeadEnd
import HandS.HeadHook1
import HandS.HeadHook2
import HandS.HeadNt
import HandS.Walk
import HandS.GenList
import KE.SortData
import HandS.Slots
import HandS.Set
import HandS.Strs
import PyProof.Rows.SortShellK
import PyProof.Rows.SortStr
import KE.DataCmp
import HandS.Text
import HandS.TryOnly
import PySem.Challenge.RW_fewleft_k48_whole_possible_committees
set_option Elab.async false
set_option linter.all false
set_option maxRecDepth 100000
set_option maxHeartbeats 0
namespace Fl
open PySem PySem.Spec PyProof.Rows L2
def top (i : Nat) : Stmt := PySem.Challenge.pw_fewleft_k48_whole_possible_committees.main.body.getD i (.Pass ⟨0, 0, 0, 0⟩)
abbrev s_is_name : Stmt := top 15
abbrev s_are_names : Stmt := top 16
abbrev s_is_number : Stmt := top 17
abbrev s_distinct : Stmt := top 18
abbrev s_C_init : Stmt := inClass (top 20) 0
abbrev s_C_members : Stmt := inClass (top 20) 1
abbrev s_C_len : Stmt := inClass (top 20) 2
abbrev s_C_eq : Stmt := inClass (top 20) 4
abbrev s_C_contains : Stmt := inClass (top 20) 5
abbrev s_C_sub : Stmt := inClass (top 20) 8
abbrev s_C_is_within : Stmt := inClass (top 20) 10
abbrev s_R_init : Stmt := inClass (top 22) 0
abbrev s_R_alternatives : Stmt := inClass (top 22) 1
abbrev s_R_len : Stmt := inClass (top 22) 2
abbrev s_R_contains : Stmt := inClass (top 22) 4
abbrev s_R_getitem : Stmt := inClass (top 22) 6
abbrev s_R_and : Stmt := inClass (top 22) 8
abbrev s_R_place : Stmt := inClass (top 22) 10
abbrev s_R_prefers : Stmt := inClass (top 22) 11
abbrev s_R_worst : Stmt := inClass (top 22) 12
abbrev s_members_known : Stmt := top 23
abbrev s_as_committee : Stmt := top 24
abbrev s_T_init : Stmt := inClass (top 26) 0
abbrev s_check_rankings : Stmt := top 28
abbrev s_all_of : Stmt := top 32
abbrev s_players_of : Stmt := top 33
abbrev s_check_committee : Stmt := top 34
abbrev s_check_counts : Stmt := top 35
abbrev s_check_all : Stmt := top 36
abbrev s_is_below : Stmt := top 37
abbrev s_strikers_of : Stmt := top 38
abbrev s_A_init : Stmt := inClass (top 39) 0
abbrev s_A_owned : Stmt := inClass (top 39) 1
abbrev s_A_search : Stmt := inClass (top 39) 2
abbrev s_A_assign : Stmt := inClass (top 39) 3
abbrev s_A_stuck : Stmt := inClass (top 39) 4
abbrev s_A_blocked : Stmt := inClass (top 39) 5
abbrev s_find_assignment : Stmt := top 40
abbrev s_is_assignment : Stmt := top 41
abbrev s_exchange : Stmt := top 42
abbrev s_turns_for : Stmt := top 43
abbrev s_find_turns : Stmt := top 44
abbrev s_find_block : Stmt := top 45
abbrev s_choices : Stmt := top 46
abbrev s_number_of_choices : Stmt := top 47
abbrev s_check_listed : Stmt := top 48
abbrev s_possible_committees : Stmt := top 49
abbrev s_membership : Stmt := top 50
abbrev s_number_of_orders : Stmt := top 51
abbrev s_count_orders : Stmt := top 52
abbrev s_count_turns : Stmt := top 53
abbrev s_l_stream : Stmt := top 55
abbrev s_l_draw : Stmt := top 56
abbrev s_l_shuffled : Stmt := top 57
abbrev s_l_players : Stmt := top 58
abbrev s_l_names : Stmt := top 59
abbrev s_l_own : Stmt := top 60
abbrev s_l_worst : Stmt := top 62
abbrev s_l_pass : Stmt := top 63
abbrev s_l_all : Stmt := top 64
abbrev s_l_below : Stmt := top 65
abbrev s_l_is_below : Stmt := top 66
abbrev s_l_drawn : Stmt := top 67
abbrev s_l_rankings : Stmt := top 69
abbrev s_l_orders : Stmt := top 70
abbrev s_l_sets : Stmt := top 71
abbrev s_l_name : Stmt := top 72
abbrev s_l_each_right : Stmt := top 73
abbrev s_l_crowd : Stmt := top 74
abbrev s_l_orders_right : Stmt := top 75
abbrev s_l_noted : Stmt := top 76
abbrev s_l_kept_right : Stmt := top 77
abbrev s_law : Stmt := top 78
theorem sc_is_name : FnScope ["candidate", "letter"] ["candidate"] (defScope s_is_name) := ⟨rfl, rfl, rfl, by decide +kernel, rfl, by decide +kernel, by decide +kernel⟩
theorem sc_are_names : FnScope ["candidate", "name"] ["candidate"] (defScope s_are_names) := ⟨rfl, rfl, rfl, by decide +kernel, rfl, by decide +kernel, by decide +kernel⟩
theorem sc_is_number : FnScope ["candidate", "least", "greatest"] ["candidate", "least", "greatest"] (defScope s_is_number) := ⟨rfl, rfl, rfl, by decide +kernel, rfl, by decide +kernel, by decide +kernel⟩
theorem sc_distinct : FnScope ["names", "name"] ["names"] (defScope s_distinct) := ⟨rfl, rfl, rfl, by decide +kernel, rfl, by decide +kernel, by decide +kernel⟩
theorem sc_C_init : FnScope ["self", "names"] ["self", "names"] (defScope s_C_init) := ⟨rfl, rfl, rfl, by decide +kernel, rfl, by decide +kernel, by decide +kernel⟩
theorem sc_C_members : FnScope ["self"] ["self"] (defScope s_C_members) := ⟨rfl, rfl, rfl, by decide +kernel, rfl, by decide +kernel, by decide +kernel⟩
theorem sc_C_len : FnScope ["self"] ["self"] (defScope s_C_len) := ⟨rfl, rfl, rfl, by decide +kernel, rfl, by decide +kernel, by decide +kernel⟩
theorem sc_C_eq : FnScope ["self", "other"] ["self", "other"] (defScope s_C_eq) := ⟨rfl, rfl, rfl, by decide +kernel, rfl, by decide +kernel, by decide +kernel⟩
theorem sc_C_contains : FnScope ["self", "name"] ["self", "name"] (defScope s_C_contains) := ⟨rfl, rfl, rfl, by decide +kernel, rfl, by decide +kernel, by decide +kernel⟩
theorem sc_C_sub : FnScope ["self", "other", "name"] ["self", "other"] (defScope s_C_sub) := ⟨rfl, rfl, rfl, by decide +kernel, rfl, by decide +kernel, by decide +kernel⟩
theorem sc_C_is_within : FnScope ["self", "other", "name"] ["self", "other"] (defScope s_C_is_within) := ⟨rfl, rfl, rfl, by decide +kernel, rfl, by decide +kernel, by decide +kernel⟩
theorem sc_R_init : FnScope ["self", "alternatives", "place", "name"] ["self", "alternatives"] (defScope s_R_init) := ⟨rfl, rfl, rfl, by decide +kernel, rfl, by decide +kernel, by decide +kernel⟩
theorem sc_R_alternatives : FnScope ["self"] ["self"] (defScope s_R_alternatives) := ⟨rfl, rfl, rfl, by decide +kernel, rfl, by decide +kernel, by decide +kernel⟩
theorem sc_R_len : FnScope ["self"] ["self"] (defScope s_R_len) := ⟨rfl, rfl, rfl, by decide +kernel, rfl, by decide +kernel, by decide +kernel⟩
theorem sc_R_contains : FnScope ["self", "name"] ["self", "name"] (defScope s_R_contains) := ⟨rfl, rfl, rfl, by decide +kernel, rfl, by decide +kernel, by decide +kernel⟩
theorem sc_R_getitem : FnScope ["self", "place"] ["self", "place"] (defScope s_R_getitem) := ⟨rfl, rfl, rfl, by decide +kernel, rfl, by decide +kernel, by decide +kernel⟩
theorem sc_R_and : FnScope ["self", "committee", "name"] ["self", "committee"] (defScope s_R_and) := ⟨rfl, rfl, rfl, by decide +kernel, rfl, by decide +kernel, by decide +kernel⟩
theorem sc_R_place : FnScope ["self", "name"] ["self", "name"] (defScope s_R_place) := ⟨rfl, rfl, rfl, by decide +kernel, rfl, by decide +kernel, by decide +kernel⟩
theorem sc_R_prefers : FnScope ["self", "one", "other", "first", "second"] ["self", "one", "other"] (defScope s_R_prefers) := ⟨rfl, rfl, rfl, by decide +kernel, rfl, by decide +kernel, by decide +kernel⟩
theorem sc_R_worst : FnScope ["self", "committee", "found"] ["self", "committee"] (defScope s_R_worst) := ⟨rfl, rfl, rfl, by decide +kernel, rfl, by decide +kernel, by decide +kernel⟩
theorem sc_members_known : FnScope ["ranking", "committee", "name"] ["ranking", "committee"] (defScope s_members_known) := ⟨rfl, rfl, rfl, by decide +kernel, rfl, by decide +kernel, by decide +kernel⟩
theorem sc_as_committee : FnScope ["ranking"] ["ranking"] (defScope s_as_committee) := ⟨rfl, rfl, rfl, by decide +kernel, rfl, by decide +kernel, by decide +kernel⟩
theorem sc_T_init : FnScope ["self", "players"] ["self", "players"] (defScope s_T_init) := ⟨rfl, rfl, rfl, by decide +kernel, rfl, by decide +kernel, by decide +kernel⟩
theorem sc_check_rankings : FnScope ["rankings", "first", "player", "ranking"] ["rankings"] (defScope s_check_rankings) := ⟨rfl, rfl, rfl, by decide +kernel, rfl, by decide +kernel, by decide +kernel⟩
theorem sc_all_of : FnScope ["rankings"] ["rankings"] (defScope s_all_of) := ⟨rfl, rfl, rfl, by decide +kernel, rfl, by decide +kernel, by decide +kernel⟩
theorem sc_players_of : FnScope ["rankings"] ["rankings"] (defScope s_players_of) := ⟨rfl, rfl, rfl, by decide +kernel, rfl, by decide +kernel, by decide +kernel⟩
theorem sc_check_committee : FnScope ["rankings", "committee"] ["rankings", "committee"] (defScope s_check_committee) := ⟨rfl, rfl, rfl, by decide +kernel, rfl, by decide +kernel, by decide +kernel⟩
theorem sc_check_counts : FnScope ["rankings", "counts", "least", "most", "player", "count"] ["rankings", "counts", "least", "most"] (defScope s_check_counts) := ⟨rfl, rfl, rfl, by decide +kernel, rfl, by decide +kernel, by decide +kernel⟩
theorem sc_check_all : FnScope ["rankings", "counts", "committee", "others"] ["rankings", "counts", "committee"] (defScope s_check_all) := ⟨rfl, rfl, rfl, by decide +kernel, rfl, by decide +kernel, by decide +kernel⟩
theorem sc_is_below : FnScope ["ranking", "name", "committee", "member"] ["ranking", "name", "committee"] (defScope s_is_below) := ⟨rfl, rfl, rfl, by decide +kernel, rfl, by decide +kernel, by decide +kernel⟩
theorem sc_strikers_of : FnScope ["rankings", "committee", "name", "player"] ["rankings", "committee", "name"] (defScope s_strikers_of) := ⟨rfl, rfl, rfl, by decide +kernel, rfl, by decide +kernel, by decide +kernel⟩
theorem sc_A_init : FnScope ["self", "rankings", "counts", "committee", "others", "name"] ["self", "rankings", "counts", "committee"] (defScope s_A_init) := ⟨rfl, rfl, rfl, by decide +kernel, rfl, by decide +kernel, by decide +kernel⟩
theorem sc_A_owned : FnScope ["self", "player", "name", "own"] ["self", "player"] (defScope s_A_owned) := ⟨rfl, rfl, rfl, by decide +kernel, rfl, by decide +kernel, by decide +kernel⟩
theorem sc_A_search : FnScope ["self", "name", "reached", "names", "current", "player"] ["self", "name"] (defScope s_A_search) := ⟨rfl, rfl, rfl, by decide +kernel, rfl, by decide +kernel, by decide +kernel⟩
theorem sc_A_assign : FnScope ["self", "name", "player", "reached", "current", "before"] ["self", "name"] (defScope s_A_assign) := ⟨rfl, rfl, rfl, by decide +kernel, rfl, by decide +kernel, by decide +kernel⟩
theorem sc_A_stuck : FnScope ["self", "name"] ["self"] (defScope s_A_stuck) := ⟨rfl, rfl, rfl, by decide +kernel, rfl, by decide +kernel, by decide +kernel⟩
theorem sc_A_blocked : FnScope ["self", "name", "reached", "other", "player"] ["self", "name"] (defScope s_A_blocked) := ⟨rfl, rfl, rfl, by decide +kernel, rfl, by decide +kernel, by decide +kernel⟩
theorem sc_find_assignment : FnScope ["rankings", "counts", "committee", "work", "name"] ["rankings", "counts", "committee"] (defScope s_find_assignment) := ⟨rfl, rfl, rfl, by decide +kernel, rfl, by decide +kernel, by decide +kernel⟩
theorem sc_is_assignment : FnScope ["rankings", "counts", "committee", "candidate", "others", "name", "player", "found", "count"] ["rankings", "counts", "committee", "candidate"] (defScope s_is_assignment) := ⟨rfl, rfl, rfl, by decide +kernel, rfl, by decide +kernel, by decide +kernel⟩
theorem sc_exchange : FnScope ["owner", "targets", "player", "path", "member"] ["owner", "targets", "player"] (defScope s_exchange) := ⟨rfl, rfl, rfl, by decide +kernel, rfl, by decide +kernel, by decide +kernel⟩
theorem sc_turns_for : FnScope ["rankings", "counts", "committee", "assignment", "owner", "left", "players", "targets", "player", "name"] ["rankings", "counts", "committee", "assignment"] (defScope s_turns_for) := ⟨rfl, rfl, rfl, by decide +kernel, rfl, by decide +kernel, by decide +kernel⟩
theorem sc_find_turns : FnScope ["rankings", "counts", "committee", "assignment"] ["rankings", "counts", "committee"] (defScope s_find_turns) := ⟨rfl, rfl, rfl, by decide +kernel, rfl, by decide +kernel, by decide +kernel⟩
theorem sc_find_block : FnScope ["rankings", "counts", "committee", "work", "name"] ["rankings", "counts", "committee"] (defScope s_find_block) := ⟨rfl, rfl, rfl, by decide +kernel, rfl, by decide +kernel, by decide +kernel⟩
theorem sc_choices : GScope ["names", "size", "index", "rest"] ["names", "size"] (defScope s_choices) := ⟨rfl, rfl, rfl, by decide +kernel, rfl, by decide +kernel, by decide +kernel⟩
theorem sc_number_of_choices : FnScope ["total", "size", "result", "index"] ["total", "size"] (defScope s_number_of_choices) := ⟨rfl, rfl, rfl, by decide +kernel, rfl, by decide +kernel, by decide +kernel⟩
theorem sc_check_listed : FnScope ["number"] ["number"] (defScope s_check_listed) := ⟨rfl, rfl, rfl, by decide +kernel, rfl, by decide +kernel, by decide +kernel⟩
theorem sc_possible_committees : GScope ["rankings", "counts", "names", "size", "members"] ["rankings", "counts"] (defScope s_possible_committees) := ⟨rfl, rfl, rfl, by decide +kernel, rfl, by decide +kernel, by decide +kernel⟩
theorem sc_membership : FnScope ["rankings", "counts", "name", "found", "committee"] ["rankings", "counts", "name"] (defScope s_membership) := ⟨rfl, rfl, rfl, by decide +kernel, rfl, by decide +kernel, by decide +kernel⟩
theorem sc_number_of_orders : FnScope ["counts", "result", "total", "count"] ["counts"] (defScope s_number_of_orders) := ⟨rfl, rfl, rfl, by decide +kernel, rfl, by decide +kernel, by decide +kernel⟩
theorem sc_count_orders : FnScope ["rankings", "counts", "committee", "left", "result", "player", "count", "later"] ["rankings", "counts", "committee", "left"] (defScope s_count_orders) := ⟨rfl, rfl, rfl, by decide +kernel, rfl, by decide +kernel, by decide +kernel⟩
theorem sc_count_turns : FnScope ["rankings", "counts", "committee"] ["rankings", "counts", "committee"] (defScope s_count_turns) := ⟨rfl, rfl, rfl, by decide +kernel, rfl, by decide +kernel, by decide +kernel⟩
theorem sc_l_stream : FnScope ["_law_script", "_law_k", "_law_cell", "_law_size", "_law_mixed"] ["_law_script", "_law_k"] (defScope s_l_stream) := ⟨rfl, rfl, rfl, by decide +kernel, rfl, by decide +kernel, by decide +kernel⟩
theorem sc_l_draw : FnScope ["_law_stream_here", "_law_count", "_law_result"] ["_law_stream_here", "_law_count"] (defScope s_l_draw) := ⟨rfl, rfl, rfl, by decide +kernel, rfl, by decide +kernel, by decide +kernel⟩
theorem sc_l_shuffled : FnScope ["_law_stream_here", "_law_items", "_law_left", "_law_found", "_law_turn"] ["_law_stream_here", "_law_items"] (defScope s_l_shuffled) := ⟨rfl, rfl, rfl, by decide +kernel, rfl, by decide +kernel, by decide +kernel⟩
theorem sc_l_players : FnScope ["_law_stream_here", "_law_most"] ["_law_stream_here", "_law_most"] (defScope s_l_players) := ⟨rfl, rfl, rfl, by decide +kernel, rfl, by decide +kernel, by decide +kernel⟩
theorem sc_l_names : FnScope ["_law_stream_here", "_law_many"] ["_law_stream_here", "_law_many"] (defScope s_l_names) := ⟨rfl, rfl, rfl, by decide +kernel, rfl, by decide +kernel, by decide +kernel⟩
theorem sc_l_own : FnScope ["_law_stream_here", "_law_most", "_law_names_here", "_law_players_here", "_law_rankings_here", "_law_turns", "_law_player", "_law_turn"] ["_law_stream_here", "_law_most"] (defScope s_l_own) := ⟨rfl, rfl, rfl, by decide +kernel, rfl, by decide +kernel, by decide +kernel⟩
theorem sc_l_worst : FnScope ["_law_ranking", "_law_left", "_law_name_here"] ["_law_ranking", "_law_left"] (defScope s_l_worst) := ⟨rfl, rfl, rfl, by decide +kernel, rfl, by decide +kernel, by decide +kernel⟩
theorem sc_l_pass : FnScope ["_law_own_here", "_law_left", "_law_turns", "_law_player", "_law_worst_here", "_law_name_here"] ["_law_own_here", "_law_left", "_law_turns"] (defScope s_l_pass) := ⟨rfl, rfl, rfl, by decide +kernel, rfl, by decide +kernel, by decide +kernel⟩
theorem sc_l_all : FnScope ["_law_own_here"] ["_law_own_here"] (defScope s_l_all) := ⟨rfl, rfl, rfl, by decide +kernel, rfl, by decide +kernel, by decide +kernel⟩
theorem sc_l_below : FnScope ["_law_own_here", "_law_name_here", "_law_members", "_law_player"] ["_law_own_here", "_law_name_here", "_law_members"] (defScope s_l_below) := ⟨rfl, rfl, rfl, by decide +kernel, rfl, by decide +kernel, by decide +kernel⟩
theorem sc_l_is_below : FnScope ["_law_ranking", "_law_name_here", "_law_members", "_law_member"] ["_law_ranking", "_law_name_here", "_law_members"] (defScope s_l_is_below) := ⟨rfl, rfl, rfl, by decide +kernel, rfl, by decide +kernel, by decide +kernel⟩
theorem sc_l_drawn : FnScope ["_law_stream_here", "_law_most", "_law_own_here", "_law_names_here", "_law_members", "_law_players_here", "_law_counts", "_law_others", "_law_name_here", "_law_fit", "_law_some", "_law_player"] ["_law_stream_here", "_law_most"] (defScope s_l_drawn) := ⟨rfl, rfl, rfl, by decide +kernel, rfl, by decide +kernel, by decide +kernel⟩
theorem sc_l_rankings : FnScope ["_law_own_here", "_law_player"] ["_law_own_here"] (defScope s_l_rankings) := ⟨rfl, rfl, rfl, by decide +kernel, rfl, by decide +kernel, by decide +kernel⟩
theorem sc_l_orders : FnScope ["_law_counts", "_law_found", "_law_player", "_law_less", "_law_rest"] ["_law_counts"] (defScope s_l_orders) := ⟨rfl, rfl, rfl, by decide +kernel, rfl, by decide +kernel, by decide +kernel⟩
theorem sc_l_sets : FnScope ["_law_some", "_law_size", "_law_found", "_law_name_here", "_law_chosen"] ["_law_some", "_law_size"] (defScope s_l_sets) := ⟨rfl, rfl, rfl, by decide +kernel, rfl, by decide +kernel, by decide +kernel⟩
theorem sc_l_name : FnScope ["_law_members"] ["_law_members"] (defScope s_l_name) := ⟨rfl, rfl, rfl, by decide +kernel, rfl, by decide +kernel, by decide +kernel⟩
theorem sc_l_each_right : FnScope ["_law_rankings_here", "_law_counts", "_law_chosen", "_law_many", "_law_committee", "_law_is_there"] ["_law_rankings_here", "_law_counts", "_law_chosen", "_law_many"] (defScope s_l_each_right) := ⟨rfl, rfl, rfl, by decide +kernel, rfl, by decide +kernel, by decide +kernel⟩
theorem sc_l_crowd : FnScope ["_law_stream_here", "_law_names_here", "_law_players_here", "_law_own_here", "_law_counts", "_law_turn", "_law_size", "_law_player"] ["_law_stream_here"] (defScope s_l_crowd) := ⟨rfl, rfl, rfl, by decide +kernel, rfl, by decide +kernel, by decide +kernel⟩
theorem sc_l_orders_right : FnScope ["_law_own_here", "_law_members", "_law_counts", "_law_rankings_here", "_law_ends", "_law_told", "_law_found", "_law_chosen", "_law_name_here", "_law_many", "_law_due", "_law_order", "_law_end", "_law_committee", "_law_one", "_law_at"] ["_law_own_here", "_law_members", "_law_counts"] (defScope s_l_orders_right) := ⟨rfl, rfl, rfl, by decide +kernel, rfl, by decide +kernel, by decide +kernel⟩
theorem sc_l_noted : FnScope ["_law_committee", "_law_rankings_here", "_law_numbers"] ["_law_committee", "_law_rankings_here", "_law_numbers"] (defScope s_l_noted) := ⟨rfl, rfl, rfl, by decide +kernel, rfl, by decide +kernel, by decide +kernel⟩
theorem sc_l_kept_right : FnScope ["_law_own_here", "_law_counts", "_law_rankings_here", "_law_numbers", "_law_some", "_law_one"] ["_law_own_here", "_law_counts"] (defScope s_l_kept_right) := ⟨rfl, rfl, rfl, by decide +kernel, rfl, by decide +kernel, by decide +kernel⟩
theorem sc_law : FnScope ["_law_script", "_law_k", "_law_stream_here", "_law_own_here", "_law_members", "_law_others", "_law_counts", "_law_nobody", "_law_one"] ["_law_script"] (defScope s_law) := ⟨rfl, rfl, rfl, by decide +kernel, rfl, by decide +kernel, by decide +kernel⟩
end Fl
namespace Fl
open PySem PySem.Spec PyProof.Rows L2
/-! ### defs that are called: bundles -/
section
variable (P : Program) (w : World) (K : PySem.W.Frag) (mg : Str → Option Value) (base : Heap)
/-- a def of the module, called by its name -/
structure Cal (k : Nat) (x : Str) (ps : List Str) (sp : Sp) : Prop where
  ex : ∃ f fd, FnOk P w K mg base CX0 k f fd ps sp ∧ Binds K fd ps [] ∧ mg x = some (.ref f) ∧ PySem.W.keepIn K (.ref f) = true
/-- the def at f, a method, a getter -/
structure Fok (k : Nat) (f : Addr) (ps : List Str) (sp : Sp) : Prop where
  ex : ∃ fd, FnOk P w K mg base CX0 k f fd ps sp ∧ Binds K fd ps []
end
section
variable {P : Program} {w : World} {K : PySem.W.Frag} {mg : Str → Option Value} {base : Heap} {k j : Nat} {x : Str} {ps : List Str} {sp sp' : Sp} {f : Addr}
theorem Cal.mono (c : Cal P w K mg base j x ps sp) (h : j ≤ k) : Cal P w K mg base k x ps sp := by
  obtain ⟨f, fd, F, b, m, q⟩ := c.ex
  exact ⟨f, fd, F.mono h, b, m, q⟩
theorem Fok.mono (c : Fok P w K mg base j f ps sp) (h : j ≤ k) : Fok P w K mg base k f ps sp := by
  obtain ⟨fd, F, b⟩ := c.ex
  exact ⟨fd, F.mono h, b⟩
/-- a def by its body -/
theorem fok_mk {q nm : Str} {st : Stmt} {N : List Str} (hF : ∃ fd, Fun K nm q st f fd) (S : FnScope N ps (defScope st))
    (hb : ∀ (kV doc pm : Value) (an : Option Addr) (cdv ct : Value) (us : List Value), us.length = ps.length → bindArgs (PySem.W.fnOf nm q (defArgs st) (defBody st) (defScope st) .none kV doc pm an cdv ct) ⟨us, []⟩ = pure (ps.zip us))
    (len : ∀ vs H Q E, sp vs H Q E → vs.length = ps.length)
    (hbody : ∀ (cdv : Value) (A : Around) (outer : List Env) (s : Shared) (H : Hp) (vs : List V) (Q : VK) (E : XK), Room k (A.deeper (envOfC q (defScope st) s.heap.objs.size f cdv)) → sp vs H Q E →
      ∃ t, PSs (cxOf CX0 P w K mg base N q (defScope st) f cdv A outer s H E).nox (defBody st) t ∧ t { nx := fun _ H' => Q .non H', rt := Q } (start N vs) H) : Fok P w K mg base (k + 1) f ps sp := by
  obtain ⟨fd, F⟩ := hF
  exact ⟨fd, F.ok S len hbody, F.binds hb⟩
theorem cal_mk (F : Fok P w K mg base k f ps sp) (hm : mg x = some (.ref f)) (hk : PySem.W.keepIn K (.ref f) = true) : Cal P w K mg base k x ps sp := by
  obtain ⟨fd, F, b⟩ := F.ex
  exact ⟨f, fd, F, b, hm, hk⟩
end
section
variable {X : Cx} {k : Nat} {f C : Addr} {ps : List Str} {sp : Sp} {x m : Str} {p pos apos : Pos} {e o : Expr} {es : List Expr} {ta : TE} {t : TA}
theorem pe_c (F : Cal X.prog X.w X.K X.mg X.base k x ps sp) (hr : Room k X.A) (ha : PA X (e :: es) t) (hg : Gl X x := by rfl) (hdb : (x == ("__debug__" : Str)) = false := by decide)
    (he : starEach (e :: es) X.env = (false, eval e X.env) :: starEach es X.env := by rfl) (hpl : (backTo pos (starEach es X.env)).any (·.1) = false := by rfl) : PE X (.Call (.Name x p) (e :: es) [] pos) (tCall sp [] E0 t) := by
  obtain ⟨f, fd, F, b, hm, hk⟩ := F.ex
  exact pe_call F hr hg hm hk b .nil pass0 ha hdb he hpl
/-- o.m(e, ..) -/
theorem pe_m {pl : Sem Bool} (F : Fok X.prog X.w X.K X.mg X.base k f ps sp) (c : Cls X.K C) (hm : Meth X.K C m f) (hr : Room k X.A) (he : PE X o ta) (ha : PA X (e :: es) t)
    (hst : starEach (e :: es) X.env = (false, eval e X.env) :: starEach es X.env := by rfl) (hpl : (backTo pos (starEach es X.env)).any (·.1) = false := by rfl)
    (ht : eval (.Call (.Attribute o m apos) (e :: es) [] pos) X.env = (do
      let ov ← eval o X.env
      standAt apos.atName
      let (f, first) ← holding [ov] (getMethod ov m pl)
      callWith pos f first (backTo pos (starEach (e :: es) X.env)) (backToKw pos (keywordEach [] X.env))) := by rfl) :
    PE X (.Call (.Attribute o m apos) (e :: es) [] pos) (tMeth C m sp [] E0 ta t) := by
  obtain ⟨fd, F, b⟩ := F.ex
  exact pe_meth he c hm F hr b .nil pass0 ha hst hpl ht
/-- o.m() -/
theorem pe_m0 {pl : Sem Bool} (F : Fok X.prog X.w X.K X.mg X.base k f ps sp) (c : Cls X.K C) (hm : Meth X.K C m f) (hr : Room k X.A) (he : PE X o ta)
    (ht : eval (.Call (.Attribute o m apos) [] [] pos) X.env = (do
      let ov ← eval o X.env
      standAt apos.atName
      let (f, first) ← holding [ov] (getMethod ov m pl)
      callWith pos f first (backTo pos (starEach [] X.env)) (backToKw pos (keywordEach [] X.env))) := by rfl) :
    PE X (.Call (.Attribute o m apos) [] [] pos) (tMeth C m sp [] E0 ta tNil) := by
  obtain ⟨fd, F, b⟩ := F.ex
  exact pe_meth0 he c hm F hr b .nil pass0 ht
/-- C(e, ..) -/
theorem pe_mk (F : Fok X.prog X.w X.K X.mg X.base k f ps sp) (M : Mk X.K C f) (hm : X.mg x = some (.ref C)) (hr : Room (k + 1) X.A) (ha : PA X (e :: es) t) (hg : Gl X x := by rfl) (hdb : (x == ("__debug__" : Str)) = false := by decide)
    (he : starEach (e :: es) X.env = (false, eval e X.env) :: starEach es X.env := by rfl) (hpl : (backTo pos (starEach es X.env)).any (·.1) = false := by rfl) : PE X (.Call (.Name x p) (e :: es) [] pos) (tMake C sp [] E0 t) := by
  obtain ⟨fd, F, b⟩ := F.ex
  exact pe_make M F hr hg hm b .nil pass0 ha hdb he hpl
/-- e.f, a property -/
theorem pe_pr {pa : Addr} (F : Fok X.prog X.w X.K X.mg X.base k f ps sp) (c : Cls X.K C) (hp : PropOf X.K C m pa f) (hr : Room (k + 1) X.A) (he : PE X e ta)
    (hab : attributeBase e m X.env (eval e X.env) = eval e X.env := by rfl) : PE X (.Attribute e m pos) (tProp C sp [] E0 ta) := by
  obtain ⟨fd, F, b⟩ := F.ex
  exact pe_prop he c hp F hr b .nil pass0 hab
/-! ### the operators that a class defines -/
/-- the def runs somewhere below the body -/
theorem run_below {A : Around} {pins : List (Addr × Obj)} {σ : L2.St} {H : Hp} {s : Shared} {Q : VK} {us : List Value} {vs : List V} {E' : Value → Shared → Prop} (F : Fok X.prog X.w X.K X.mg X.base k f ps sp) (hr : Room k A) (hfr : A.frames = X.A.frames)
    (I : Inv X pins σ H s) (r : Vals vs us) (h : sp vs H Q E0) : wpAny (model X.prog X.w) A (call (.ref f) us) (EP X pins σ Q) E' s := by
  obtain ⟨fd, F, b⟩ := F.ex
  have hl : (us ++ []).length = ps.length := by rw [List.append_nil, ← r.length]; exact F.len _ _ _ _ h
  have e0 : Env0 X.prog X.w X.K X.mg X.base A X.stack s H := by
    have e := I.env0
    exact ⟨by rw [hfr]; exact e.frames, e.mod, e.bs, e.bsz, e.funs, e.frf, e.hok, e.bare⟩
  have hb := b s us I.kIn hl
  rw [List.append_nil] at hb
  refine wpAny_call (codeAny_mono (F.run A X.stack s H ⟨us, []⟩ us vs Q E0 hr e0 hb r h) fun r s' hq => ?_)
  cases r with
  | error e => exact False.elim hq
  | ok fl =>
    cases fl with
    | ret u => exact I.after hq
    | next => exact False.elim hq
    | brk => exact False.elim hq
    | cont => exact False.elim hq
theorem ins_at {pins : List (Addr × Obj)} {σ : L2.St} {H : Hp} {s : Shared} {a dx : Addr} {fs : List (Str × V)} (I : Inv X pins σ H s) (h : H a = some (.ins C dx fs)) : ∃ ox od, PySem.W.InstAt s.heap a ox C (some od) := by
  obtain ⟨mA, J, _⟩ := ins_get I.hok h
  obtain ⟨od, J, _⟩ := J.look
  exact ⟨_, od, J⟩
/-- the special method that the class has: its def -/
structure Spc (K : PySem.W.Frag) (C : Addr) (m : Str) (f : Addr) : Prop where
  at_ : PySem.W.findIn K (.ref C) m = some (some (.ref f))
  fn : PySem.W.isFn K (.ref f) = true
/-- len(o) -/
def rLenO (C : Addr) (sp : Sp) : List V → Hp → VK → Prop := fun xs H Q => ∃ a dx fs, xs = [.ref a] ∧ H a = some (.ins C dx fs) ∧ sp [.ref a] H (fun v H' => ∃ n : Int, v = .int n ∧ (0 ≤ n ∧ n < 2 ^ 63) ∧ Q (.int n) H') E0
theorem call_lenO (F : Fok X.prog X.w X.K X.mg X.base k f ps sp) (S : Spc X.K C "__len__" f) (hr : Room (k + 1) X.A) : CallR X (.builtin "len") (rLenO C sp) := by
  intro pins s σ H xs us Q I r h
  obtain ⟨a, dx, fs, rfl, ha, h⟩ := h
  cases Vals.ref1 r
  obtain ⟨ox, od, J⟩ := ins_at I ha
  obtain ⟨m, hF⟩ := I.fr
  refine PySem.W.len_K hF I.ok.mod.kin J S.at_ S.fn (wpAny_mono (run_below (A := X.A.in1) F hr.in1 rfl I r h) (fun v s' q => ?_) fun _ _ x => x)
  obtain ⟨z, H', I', rz, n, rfl, hn, q⟩ := q
  obtain ⟨t, rfl⟩ := rz
  exact ⟨hn, .int n, H', I'.tok _, ⟨_, rfl⟩, q⟩
/-- x in o, x not in o -/
def rInO (C : Addr) (sp : Sp) (neg : Bool) : R2 := fun x y H Q => ∃ a dx fs, y = .ref a ∧ H a = some (.ins C dx fs) ∧ sp [.ref a, x] H (fun v H' => ∃ b, v = .bl b ∧ Q (.bl (if neg then !b else b)) H') E0
theorem op_inO (F : Fok X.prog X.w X.K X.mg X.base k f ps sp) (S : Spc X.K C "__contains__" f) (hr : Room k X.A) : OpR X (compareOp .In) (rInO C sp false) := by
  intro pins s σ H x y v u Q I rx ry h
  obtain ⟨a, dx, fs, rfl, ha, h⟩ := h
  cases (show u = Value.ref a from ry)
  obtain ⟨ox, od, J⟩ := ins_at I ha
  obtain ⟨m, hF⟩ := I.fr
  refine PySem.W.in_K hF I.ok.mod.kin J S.at_ S.fn (wpAny_mono (run_below (us := [.ref a, v]) (vs := [.ref a, x]) F hr rfl I (.cons rfl (.cons rx .nil)) h) (fun v s' q => ?_) fun _ _ x => x)
  obtain ⟨z, H', I', rz, b, rfl, q⟩ := q
  cases (show v = Value.bool b from rz)
  exact wpAny_truthy_bool ⟨.bl b, H', I', rfl, q⟩
theorem op_notInO (F : Fok X.prog X.w X.K X.mg X.base k f ps sp) (S : Spc X.K C "__contains__" f) (hr : Room k X.A) : OpR X (compareOp .NotIn) (rInO C sp true) := by
  intro pins s σ H x y v u Q I rx ry h
  obtain ⟨a, dx, fs, rfl, ha, h⟩ := h
  cases (show u = Value.ref a from ry)
  obtain ⟨ox, od, J⟩ := ins_at I ha
  obtain ⟨m, hF⟩ := I.fr
  refine PySem.W.notIn_K hF I.ok.mod.kin J S.at_ S.fn (wpAny_mono (run_below (us := [.ref a, v]) (vs := [.ref a, x]) F hr rfl I (.cons rfl (.cons rx .nil)) h) (fun v s' q => ?_) fun _ _ x => x)
  obtain ⟨z, H', I', rz, b, rfl, q⟩ := q
  cases (show v = Value.bool b from rz)
  exact wpAny_truthy_bool ⟨.bl (!b), H', I', rfl, q⟩
/-- a == b, both of the class -/
def rEqO (C : Addr) (sp : Sp) : R2 := fun x y H Q => ∃ a dx fs b dy gs, x = .ref a ∧ y = .ref b ∧ H a = some (.ins C dx fs) ∧ H b = some (.ins C dy gs) ∧ sp [.ref a, .ref b] H Q E0
theorem op_eqO (F : Fok X.prog X.w X.K X.mg X.base k f ps sp) (S : Spc X.K C "__eq__" f) (hr : Room k X.A) : OpR X (compareOp .Eq) (rEqO C sp) := by
  intro pins s σ H x y v u Q I rx ry h
  obtain ⟨a, dx, fs, b, dy, gs, rfl, rfl, ha, hb, h⟩ := h
  cases (show v = Value.ref a from rx)
  cases (show u = Value.ref b from ry)
  obtain ⟨ox, od, J⟩ := ins_at I ha
  obtain ⟨oy, oe, J'⟩ := ins_at I hb
  obtain ⟨m, hF⟩ := I.fr
  refine PySem.W.cmp_K (op := .Eq) (tb := .ref C) hr.units0 hF I.ok.mod.kin J J'.type (by simp [PySem.W.notFirst]) S.at_ S.fn ?_
  refine wpAny_mono (run_below (us := [.ref a, .ref b]) (vs := [.ref a, .ref b]) F hr rfl I (.cons rfl (.cons rfl .nil)) h) (fun w' s' z => ?_) fun _ _ x => x
  obtain ⟨z', H', I', rz, qz⟩ := z
  have hv : w' ≠ .notImplemented := by
    intro e
    rw [e] at rz
    cases z' <;> first | exact nomatch rz | (obtain ⟨_, q⟩ := rz; cases q)
  show PySem.W.CmpBack _ w' s'
  cases w' <;> first | exact absurd rfl hv | exact ⟨z', H', I', rz, qz⟩
end
end Fl
namespace PySem.W
open PySem PySem.Calls PyProof.Rows Builtin
section
variable {prog : Program} {w : World} {A : Around} {E : Value → Shared → Prop} {s : Shared} {K : Frag} {x C C2 L f f2 : Addr} {h₀ : Heap} {m : Str → Option Value} {ox : Obj} {od : Option Obj}
theorem inPy_K {M : Model} {h : Heap} {nm : String} (X : K.In h) (hs : findIn K (.ref C) (PySem.dunder nm) = some (some (.ref f))) (hr : findIn K (.ref C) (PySem.dunderR nm) = some none) : Looks M h (numberSlotInPython (.ref C) nm) true := by
  intro A Q E s k q
  unfold numberSlotInPython
  refine wpAny_bind (looks_findIn X hs A _ E s k ?_)
  refine wpAny_bind ?_
  show wpAny M A (pure true) _ _ _
  refine wpAny_pure ?_
  refine wpAny_bind (looks_findIn X hr A _ E s k ?_)
  refine wpAny_bind ?_
  show wpAny M A (pure false) _ _ _
  refine wpAny_pure ?_
  exact wpAny_pure q
/-- an own operator whose right operand is of another own class that defines it too -/
theorem binop_K2 {prog : Program} {w : World} {op : Operator} {b : Value} {Q : Value → Shared → Prop} (F : Fr h₀ L s.heap m) (X₀ : K.In h₀) (I : InstAt s.heap x ox C od) (hb : Looks (model prog w) s.heap (typeOf b) (.ref C2)) (hne : C ≠ C2)
    (hc : selfFirst K C = true) (hc2 : selfFirst K C2 = true) (hsub : subIn K (.ref C2) (.ref C) = some false)
    (hs : findIn K (.ref C) (PySem.dunder op.info.2) = some (some (.ref f))) (hf : isFn K (.ref f) = true) (hsr : findIn K (.ref C) (PySem.dunderR op.info.2) = some none)
    (hs2 : findIn K (.ref C2) (PySem.dunder op.info.2) = some (some (.ref f2))) (hsr2 : findIn K (.ref C2) (PySem.dunderR op.info.2) = some none)
    (h : wpAny (model prog w) A (call (.ref f) [.ref x, b]) (CmpBack Q) E s) : wpAny (model prog w) A (binaryOp op (.ref x) b) Q E s := by
  have X := X₀.keeps F.keep
  obtain ⟨cd, hcd, hm⟩ := any_some hc
  obtain ⟨rest, hm⟩ : ∃ rest, cd.mro = .ref C :: rest := by
    cases q : cd.mro with
    | nil => rw [q] at hm; cases hm
    | cons a r => rw [q] at hm; exact ⟨r, by rw [List.head?_cons] at hm; cases (beq_iff_eq.mp hm); rfl⟩
  obtain ⟨cd2, hcd2, hm2⟩ := any_some hc2
  obtain ⟨rest2, hm2⟩ : ∃ rest, cd2.mro = .ref C2 :: rest := by
    cases q : cd2.mro with
    | nil => rw [q] at hm2; cases hm2
    | cons a r => rw [q] at hm2; exact ⟨r, by rw [List.head?_cons] at hm2; cases (beq_iff_eq.mp hm2); rfl⟩
  have hbe : ((Value.ref C) == (Value.ref C2)) = false := beq_eq_false_iff_ne.mpr fun e => hne (by cases e; rfl)
  unfold binaryOp
  refine wpAny_holding (wpAny_bind ?_)
  unfold binaryOp1
  refine wpAny_bind (I.type.here (wpAny_bind (hb.here (wpAny_bind ((fills_K X hcd hm hs).here ?_)))))
  simp only [hbe, Bool.false_eq_true, if_false]
  refine wpAny_bind ((fills_K X hcd2 hm2 hs2).here ?_)
  simp only [Bool.and_self, if_true]
  refine wpAny_bind ((looks_subIn X hsub).here ?_)
  simp only [Bool.false_eq_true, if_false, Bool.not_false, Bool.and_self, if_true]
  refine wpAny_bind ((inPy_K X hs hsr).here ?_)
  simp only [if_true]
  refine wpAny_bind ((inPy_K X hs2 hsr2).here ?_)
  simp only [Bool.not_true, Bool.false_eq_true, if_false]
  refine wpAny_bind (m := tryMethod (.ref x) _ b) ?_
  unfold tryMethod
  refine wpAny_bind (special_fn X I hs (beq_iff_eq.mp hf) (wpAny_mono h (fun v s' hv => ?_) fun _ _ e => e))
  cases v <;> first | exact hv.elim | exact wpAny_pure (wpAny_pure (wpAny_pure hv))
end
end PySem.W
namespace Fl
open PySem PySem.Spec PyProof.Rows L2
section
variable {X : Cx} {k : Nat} {f C C2 f2 : Addr} {ps : List Str} {sp : Sp} {a b : Expr} {ta tb : TE} {pos : Pos}
theorem cmpback_of {P : Value → Shared → Prop} {z : V} {v : Value} {s' : Shared} (r : L2.RelV z v) (h : P v s') : PySem.W.CmpBack P v s' := by
  have hv : v ≠ .notImplemented := by
    intro e
    rw [e] at r
    cases z <;> first | exact nomatch r | (obtain ⟨_, q⟩ := r; cases q)
  cases v <;> first | exact absurd rfl hv | exact h
/-- a - b, both of the class -/
theorem op_binO {op : Operator} (F : Fok X.prog X.w X.K X.mg X.base k f ps sp) (hc : PySem.W.selfFirst X.K C = true) (S : Spc X.K C (PySem.dunder op.info.2) f) (hr : Room k X.A) : OpR X (binaryOp op) (rEqO C sp) := by
  intro pins s σ H x y v u Q I rx ry h
  obtain ⟨a, dx, fs, b, dy, gs, rfl, rfl, ha, hb, h⟩ := h
  cases (show v = Value.ref a from rx)
  cases (show u = Value.ref b from ry)
  obtain ⟨ox, od, J⟩ := ins_at I ha
  obtain ⟨oy, oe, J'⟩ := ins_at I hb
  obtain ⟨m, hF⟩ := I.fr
  refine PySem.W.binop_K hF I.ok.mod.kin J J'.type hc S.at_ S.fn ?_
  refine wpAny_mono (run_below (us := [.ref a, .ref b]) (vs := [.ref a, .ref b]) F hr rfl I (.cons rfl (.cons rfl .nil)) h) (fun w' s' z => ?_) fun _ _ x => x
  obtain ⟨z', H', I', rz, qz⟩ := z
  exact cmpback_of rz ⟨z', H', I', rz, qz⟩
/-- two classes that both define the operator -/
structure Two (K : PySem.W.Frag) (C C2 : Addr) (op : Operator) (f2 : Addr) : Prop where
  ne : C ≠ C2
  c : PySem.W.selfFirst K C = true
  c2 : PySem.W.selfFirst K C2 = true
  sub : PySem.W.subIn K (.ref C2) (.ref C) = some false
  r : PySem.W.findIn K (.ref C) (PySem.dunderR op.info.2) = some none
  s2 : PySem.W.findIn K (.ref C2) (PySem.dunder op.info.2) = some (some (.ref f2))
  r2 : PySem.W.findIn K (.ref C2) (PySem.dunderR op.info.2) = some none
def rBinO (C C2 : Addr) (sp : Sp) : R2 := fun x y H Q => ∃ a dx fs b dy gs, x = .ref a ∧ y = .ref b ∧ H a = some (.ins C dx fs) ∧ H b = some (.ins C2 dy gs) ∧ sp [.ref a, .ref b] H Q E0
theorem op_binO2 {op : Operator} (F : Fok X.prog X.w X.K X.mg X.base k f ps sp) (T : Two X.K C C2 op f2) (S : Spc X.K C (PySem.dunder op.info.2) f) (hr : Room k X.A) : OpR X (binaryOp op) (rBinO C C2 sp) := by
  intro pins s σ H x y v u Q I rx ry h
  obtain ⟨a, dx, fs, b, dy, gs, rfl, rfl, ha, hb, h⟩ := h
  cases (show v = Value.ref a from rx)
  cases (show u = Value.ref b from ry)
  obtain ⟨ox, od, J⟩ := ins_at I ha
  obtain ⟨oy, oe, J'⟩ := ins_at I hb
  obtain ⟨m, hF⟩ := I.fr
  refine PySem.W.binop_K2 hF I.ok.mod.kin J J'.type T.ne T.c T.c2 T.sub S.at_ S.fn T.r T.s2 T.r2 ?_
  refine wpAny_mono (run_below (us := [.ref a, .ref b]) (vs := [.ref a, .ref b]) F hr rfl I (.cons rfl (.cons rfl .nil)) h) (fun w' s' z => ?_) fun _ _ x => x
  obtain ⟨z', H', I', rz, qz⟩ := z
  exact cmpback_of rz ⟨z', H', I', rz, qz⟩
/-- o[i] by an own __getitem__ -/
def rIxO (C : Addr) (sp : Sp) : R2 := fun x y H Q => ∃ a dx fs, x = .ref a ∧ H a = some (.ins C dx fs) ∧ sp [.ref a, y] H Q E0
theorem pe_ixO (F : Fok X.prog X.w X.K X.mg X.base k f ps sp) (S : Spc X.K C "__getitem__" f) (hfn : PySem.W.fnIn X.K f = true) (hr : Room (k + 1) X.A) (ha : PE X a ta) (hb : PE X b tb)
    (hsl : ∀ o i, subscripted b true o i = runValue (.builtin "lifetime.subscript" ⟨[o, i], []⟩) := by intro _ _; with_unfolding_all rfl) : PE X (.Subscript a b pos) (tOp (rIxO C sp) ta tb) := by
  refine ⟨fun pins s σ H Q I h => ?_⟩
  refine Subscript_ (binT ha hb I h fun v u s2 x y H2 I2 rx ry q => ?_)
  obtain ⟨o, dx, fs, rfl, ho, q⟩ := q
  cases (show v = Value.ref o from rx)
  obtain ⟨ox, od, J⟩ := ins_at I2 ho
  obtain ⟨m, hF⟩ := I2.fr
  exact PySem.W.sub_K hF I2.ok.mod.kin J S.at_ hfn S.fn (run_below (A := X.A.in1) (us := [.ref o, u]) (vs := [.ref o, y]) F hr.in1 rfl I2 (.cons rfl (.cons ry .nil)) q) (hsl _ _)
end
end Fl
namespace Fl
open PySem PySem.Spec L2
theorem vals_of_kv {κ : Type} : ∀ {kvs : List (κ × V)} {vs : List (κ × Value)}, KV kvs vs → Vals (kvs.map (·.2)) (vs.map (·.2))
  | [], _, .nil => .nil
  | _ :: _, _, .cons h r => .cons h.2 (vals_of_kv r)
section
variable {X : Cx} {o a b : Expr} {to ta tb : TE} {p pos apos cpos : Pos}
/-- list(d.values()) -/
def tLvals (to : TE) : TE := fun σ H Q => to σ H fun x H1 => ∃ d, ∃ kvs : List (Key × V), x = .ref d ∧ Rd H1 d (.dK kvs) ∧ ∀ q, H1 q = none → Q (.ref q) (upd H1 q (.lst (kvs.map (·.2))))
theorem pe_lvals (hc : X.calm = true) (hm : X.mg "list" = none) (ho : PE X o to) (hg : Gl X "list" := by rfl)
    (hbase : attributeBase o "values" X.env (eval o X.env) = eval o X.env := by rfl) (hline : (apos.endLine == cpos.line) = true := by rfl)
    (na : starEach [.Call (.Attribute o "values" apos) [] [] cpos] X.env = (false, eval (.Call (.Attribute o "values" apos) [] [] cpos) X.env) :: starEach [] X.env := by rfl) :
    PE X (.Call (.Name "list" p) [.Call (.Attribute o "values" apos) [] [] cpos] [] pos) (tLvals to) := by
  refine ⟨fun pins s σ H Q I h => ?_⟩
  have key : wpAny (model X.prog X.w) X.A (eval (.Call (.Attribute o "values" apos) [] [] cpos) X.env) (fun x s1 => wpAny (model X.prog X.w) X.A (call (.type "list") [x]) (EP X pins σ Q) X.xe s1) X.xe s := by
    refine wpAny_Call_method (T := "dict") (id := "dict.values") hbase rfl hline F.plainAttrs_dict F.slot_dict_values F.type_dict_values (thn (ho.run pins s σ H _ I h) fun u s1 hx => ?_)
    obtain ⟨x, H1, I1, rx, d, kvs, ex, hd, q⟩ := hx
    subst ex
    obtain rfl : u = Value.ref d := rx
    obtain ⟨z, hs, vs, kv, hm⟩ := dk_rd I1.hok hd
    have hl : kvs.length = vs.length := Paired.length kv
    refine ⟨hm.typeIs, hm.mapOf.noDict, ?_⟩
    have I2 : Inv X pins σ H1 { s1 with heap := s1.heap.push { cls := .type "dict_values", data := .fields #[.ref d] } } := I1.kept (t' := s1.toks) fun b ob q => Heap.get?_push_of_some _ q
    have fin : wpAny (model X.prog X.w) X.A (call (.type "list") [.ref s1.heap.objs.size]) (EP X pins σ Q) X.xe { s1 with heap := s1.heap.push { cls := .type "dict_values", data := .fields #[.ref d] } } := by
      obtain ⟨ep, hat⟩ := hm.dictAt
      refine PySem.W.kdl_call (PySem.W.kdl_values (knd := mixKind X.prog X.w) (r := s1.heap.objs.size) (d := d) (kvs := vs) (ep := ep)) (I2.ok.hd hc) ⟨⟨_, Heap.get?_push_size _ rfl, rfl, rfl⟩, hat.push _⟩ (by rw [← hl]; exact z) fun h' tk acc c' hk hD hacc => ?_
      have he : acc.toList = vs.map (·.2) := PySem.W.kdl_vals_eq acc.toList (by rw [Array.length_toList]; exact hacc.1) fun j v e => hacc.2 j v (by rw [← Array.getElem?_toList]; exact e)
      refine ⟨.ref _, upd H1 _ (.lst (kvs.map (·.2))), I2.laid (t' := tk) hk (Nat.le_refl _)
        (show ObjOk X.prog X.w _ _ _ (.lst (kvs.map (·.2))) from ⟨by rw [List.length_map]; exact z, acc.toList, c', by rw [he]; exact vals_of_kv kv, by rw [Array.toArray_toList]; exact hD⟩), rfl, q _ (I2.hok.fresh (Nat.le_refl _))⟩
    show wpAny _ _ (callWith cpos (.builtin "dict.values") [.ref d] [] []) _ X.xe s1
    exact method_meetsIn F.slot_dict_values F.entry_dict_values rfl (PySem.evalArgs_none ⟨rfl, hm.typeIs, F.args_dict_values_1 _, _, meets_dict_values (mixKind X.prog X.w) d hs, ⟨vs, hm⟩, fin⟩)
  exact PyProof.Rows.Call_ (ld_blt I hg hm PyProof.Rows.boot_list (PyProof.Rows.callWith_type1 (PyProof.Rows.args_cons (thn key fun x s1 q => PyProof.Rows.args_nil q) na) na))
/-- d == {} of a dict that is not empty -/
def rEqD0 : R2 := fun x y H Q => ∃ a b ks, x = .ref a ∧ y = .ref b ∧ Rd H a (.dK ks) ∧ Rd H b (.dK []) ∧ ks ≠ [] ∧ Q (.bl false) H
theorem op_eqD0 (hu : X.A.units < cLine) : OpR X (compareOp .Eq) rEqD0 := by
  intro pins s σ H x y v u Q I rx ry h
  obtain ⟨a, b, ks, rfl, rfl, ha, hb, hne, q⟩ := h
  cases (show v = Value.ref a from rx)
  cases (show u = Value.ref b from ry)
  obtain ⟨_, la, va, ra, da⟩ := dk_rd I.hok ha
  obtain ⟨_, lb, vb, rb, db⟩ := dk_rd I.hok hb
  have e1 := Paired.length ra
  have e2 := Paired.length rb
  have hl : va.length ≠ vb.length := by
    intro e
    rw [← e1, ← e2] at e
    exact hne (List.length_eq_zero_iff.mp e)
  refine PySem.W.keq_eq (r := true) la lb da db hu (fun e => absurd e hl) ?_
  rw [show (va.length == vb.length) = false from beq_eq_false_iff_ne.mpr hl]
  exact ⟨.bl false, H, I, rfl, q⟩
end
end Fl
namespace Fl
open PySem PySem.Spec L2
/-! ### the order of texts -/
def ltS (a b : Str) : Bool := ltCps a.cps.toList b.cps.toList
theorem ltCps_irr : ∀ a : List Nat, ltCps a a = false
  | [] => rfl
  | a :: r => by simp [ltCps, ltCps_irr r]
theorem ltCps_tr : ∀ a b c : List Nat, ltCps a b = true → ltCps b c = true → ltCps a c = true
  | [], [], _, h, _ => by simp [ltCps] at h
  | [], _ :: _, [], _, h => by simp [ltCps] at h
  | [], _ :: _, _ :: _, _, _ => rfl
  | _ :: _, [], _, h, _ => by simp [ltCps] at h
  | _ :: _, _ :: _, [], _, h => by simp [ltCps] at h
  | a :: r, b :: t, c :: u, h1, h2 => by
    simp only [ltCps, Bool.or_eq_true, decide_eq_true_eq, Bool.and_eq_true, beq_iff_eq] at h1 h2 ⊢
    rcases h1 with h1 | ⟨h1, h1'⟩
    · rcases h2 with h2 | ⟨h2, h2'⟩
      · exact .inl (by omega)
      · exact .inl (by omega)
    · rcases h2 with h2 | ⟨h2, h2'⟩
      · exact .inl (by omega)
      · exact .inr ⟨by omega, ltCps_tr r t u h1' h2'⟩
theorem ltCps_tri : ∀ a b : List Nat, ltCps a b = false → ltCps b a = false → a = b
  | [], [], _, _ => rfl
  | [], _ :: _, h, _ => by simp [ltCps] at h
  | _ :: _, [], _, h => by simp [ltCps] at h
  | a :: r, b :: t, h1, h2 => by
    simp only [ltCps, Bool.or_eq_false_iff, decide_eq_false_iff_not, Bool.and_eq_false_iff] at h1 h2
    have hab : a = b := by omega
    subst hab
    simp only [beq_self_eq_true, Bool.true_eq_false, false_or] at h1 h2
    rw [ltCps_tri r t h1.2 h2.2]
theorem ltS_irr (a : Str) : ltS a a = false := ltCps_irr _
theorem ltS_tr {a b c : Str} (h1 : ltS a b = true) (h2 : ltS b c = true) : ltS a c = true := ltCps_tr _ _ _ h1 h2
theorem ltS_tri {a b : Str} (h1 : ltS a b = false) (h2 : ltS b a = false) : a = b := by
  have e := ltCps_tri _ _ h1 h2
  cases a with
  | mk x =>
    cases b with
    | mk y => exact congrArg Str.mk (by simpa using e)
theorem ltS_asym {a b : Str} (h : ltS a b = true) : ltS b a = false := by
  cases e : ltS b a with
  | false => rfl
  | true => have := ltS_tr h e; rw [ltS_irr] at this; cases this
theorem ltS_tr' {a b c : Str} (h1 : ltS b a = false) (h2 : ltS c b = false) : ltS c a = false := by
  cases e : ltS c a with
  | false => rfl
  | true =>
    cases e2 : ltS a b with
    | true => rw [ltS_tr e e2] at h2; cases h2
    | false =>
      have := ltS_tri e2 h1
      subst this
      rw [e] at h2; cases h2
/-- strictly rising -/
def SS (l : List Str) : Prop := l.Pairwise fun a b => ltS a b = true
theorem SS.nil : SS [] := List.Pairwise.nil
theorem risingS_pw : ∀ (l : List Str) (p : Str), PyProof.Rows.risingS p l = true → (∀ x ∈ l, ltS x p = false) ∧ l.Pairwise fun a b => ltS b a = false
  | [], _, _ => ⟨(fun _ h => nomatch h), List.Pairwise.nil⟩
  | x :: r, p, h => by
    simp only [PyProof.Rows.risingS, Bool.and_eq_true, Bool.not_eq_true'] at h
    obtain ⟨h1, h2⟩ := risingS_pw r x h.2
    have hx : ltS x p = false := h.1
    refine ⟨fun y hy => ?_, .cons (fun y hy => h1 y hy) h2⟩
    rcases List.mem_cons.mp hy with rfl | hy
    · exact hx
    · exact ltS_tr' hx (h1 y hy)
theorem sortedS_pw {l : List Str} (h : PyProof.Rows.sortedS l = true) : l.Pairwise fun a b => ltS b a = false := by
  cases l with
  | nil => exact .nil
  | cons x r =>
    obtain ⟨h1, h2⟩ := risingS_pw r x h
    exact .cons (fun y hy => h1 y hy) h2
theorem SS.of_sorted : ∀ {l : List Str}, (l.Pairwise fun a b => ltS b a = false) → l.Nodup → SS l
  | [], _, _ => .nil
  | x :: r, h, hn => by
    cases h with
    | cons h1 h2 =>
      rw [List.nodup_cons] at hn
      refine .cons (fun y hy => ?_) (SS.of_sorted h2 hn.2)
      cases e : ltS x y with
      | true => rfl
      | false =>
        have := ltS_tri e (h1 y hy)
        subst this
        exact absurd hy hn.1
theorem SS.nodup {l : List Str} (h : SS l) : l.Nodup := by
  refine List.Pairwise.imp (fun {a b} hab => ?_) h
  rintro rfl
  rw [ltS_irr] at hab; cases hab
theorem SS.tail {x : Str} {l : List Str} (h : SS (x :: l)) : SS l := by cases h; assumption
theorem SS.head {x : Str} {l : List Str} (h : SS (x :: l)) : ∀ y ∈ l, ltS x y = true := by cases h; assumption
/-- a strictly rising list is told by its members -/
theorem SS.ext : ∀ {l m : List Str}, SS l → SS m → (∀ x, x ∈ l ↔ x ∈ m) → l = m
  | [], [], _, _, _ => rfl
  | [], y :: m, _, _, h => nomatch (h y).mpr List.mem_cons_self
  | x :: l, [], _, _, h => nomatch (h x).mp List.mem_cons_self
  | x :: l, y :: m, hl, hm, h => by
    have exy : x = y := by
      rcases List.mem_cons.mp ((h x).mp List.mem_cons_self) with e | hx
      · exact e
      · rcases List.mem_cons.mp ((h y).mpr List.mem_cons_self) with e | hy
        · exact e.symm
        · have := ltS_tr (hm.head x hx) (hl.head y hy)
          rw [ltS_irr] at this; cases this
    subst exy
    have hx : x ∉ l := by
      have := hl.nodup
      rw [List.nodup_cons] at this
      exact this.1
    have hy : x ∉ m := by
      have := hm.nodup
      rw [List.nodup_cons] at this
      exact this.1
    rw [SS.ext hl.tail hm.tail fun z => ?_]
    constructor
    · intro hz
      rcases List.mem_cons.mp ((h z).mp (List.mem_cons_of_mem _ hz)) with e | q
      · subst e; exact absurd hz hx
      · exact q
    · intro hz
      rcases List.mem_cons.mp ((h z).mpr (List.mem_cons_of_mem _ hz)) with e | q
      · subst e; exact absurd hz hy
      · exact q
theorem SS.filter {l : List Str} (h : SS l) (p : Str → Bool) : SS (l.filter p) := List.Pairwise.filter p h
theorem SS.sub {l m : List Str} (h : SS l) (hs : m.Sublist l) : SS m := List.Pairwise.sublist hs h
/-- the rising list of the members of a list -/
def insS (x : Str) : List Str → List Str
  | [] => [x]
  | y :: r => if ltS x y = true then x :: y :: r else if ltS y x = true then y :: insS x r else y :: r
def srt (l : List Str) : List Str := l.foldr insS []
theorem mem_insS (x z : Str) : ∀ l : List Str, z ∈ insS x l ↔ z = x ∨ z ∈ l
  | [] => by simp [insS]
  | y :: r => by
    unfold insS
    by_cases h1 : ltS x y = true
    · rw [if_pos h1]; simp
    · rw [if_neg h1]
      by_cases h2 : ltS y x = true
      · rw [if_pos h2, List.mem_cons, mem_insS x z r, List.mem_cons]
        constructor
        · rintro (h | h | h)
          · exact .inr (.inl h)
          · exact .inl h
          · exact .inr (.inr h)
        · rintro (h | h | h)
          · exact .inr (.inl h)
          · exact .inl h
          · exact .inr (.inr h)
      · rw [if_neg h2]
        have := ltS_tri (by simpa using h1) (by simpa using h2)
        subst this
        simp
theorem insS_SS (x : Str) : ∀ l : List Str, SS l → SS (insS x l)
  | [], _ => List.pairwise_singleton _ _
  | y :: r, h => by
    unfold insS
    by_cases h1 : ltS x y = true
    · rw [if_pos h1]
      refine .cons (fun z hz => ?_) h
      rcases List.mem_cons.mp hz with rfl | hz
      · exact h1
      · exact ltS_tr h1 (h.head z hz)
    · rw [if_neg h1]
      by_cases h2 : ltS y x = true
      · rw [if_pos h2]
        refine .cons (fun z hz => ?_) (insS_SS x r h.tail)
        rcases (mem_insS x z r).mp hz with rfl | hz
        · exact h2
        · exact h.head z hz
      · rw [if_neg h2]; exact h
theorem srt_SS : ∀ l : List Str, SS (srt l)
  | [] => .nil
  | x :: r => insS_SS x _ (srt_SS r)
theorem mem_srt (z : Str) : ∀ l : List Str, z ∈ srt l ↔ z ∈ l
  | [] => Iff.rfl
  | x :: r => by
    show z ∈ insS x (srt r) ↔ _
    rw [mem_insS, mem_srt z r, List.mem_cons]
theorem srt_of_SS {l : List Str} (h : SS l) : srt l = l := SS.ext (srt_SS l) h fun z => mem_srt z l
theorem srt_ext {l m : List Str} (h : ∀ x, x ∈ l ↔ x ∈ m) : srt l = srt m := SS.ext (srt_SS _) (srt_SS _) fun z => by rw [mem_srt, mem_srt]; exact h z
/-- what sorted gives of different names -/
theorem sorted_is {l ys : List Str} (hp : ys.Perm l) (hs : PyProof.Rows.sortedS ys = true) (hn : l.Nodup) : ys = srt l :=
  SS.ext (SS.of_sorted (sortedS_pw hs) (hp.nodup_iff.mpr hn)) (srt_SS l) fun z => by rw [mem_srt]; exact hp.mem_iff
theorem srt_perm {l : List Str} (hn : l.Nodup) : (srt l).Perm l := by
  rw [List.perm_ext_iff_of_nodup (srt_SS l).nodup hn]
  exact fun z => mem_srt z l
theorem srt_length {l : List Str} (hn : l.Nodup) : (srt l).length = l.length := (srt_perm hn).length_eq
end Fl
namespace Fl
open PySem PySem.Spec L2
/-- the getter of the property at p -/
def gtr (K : PySem.W.Frag) (p : Addr) : Addr := match PySem.W.recIn K p "property" with
  | some (.ref g :: _) => g
  | _ => 0
def ConG (mg : Str → Option Value) (x : Str) (v : V) : Prop := ∃ u, mg x = some u ∧ L2.RelV v u
/-- what isinstance asks of an own class -/
structure Isi (K : PySem.W.Frag) (C : Addr) : Prop where
  ca : PySem.W.findIn K (.ref C) "__class__" = some (some (.builtin "object.__class__"))
  cn : PySem.W.specialIn K (.builtin "object.__class__") "__get__" = some (some (.builtin "getset_descriptor.__get__"))
  ct : PySem.W.takesIn K (.builtin "object.__class__") = some true
  cm : PySem.W.mroIn K C (.type "object") = some true
structure TX (K : PySem.W.Frag) (mg : Str → Option Value) : Prop where
  b_isinstance : mg "isinstance" = none
  b_len : mg "len" = none
  b_all : mg "all" = none
  b_any : mg "any" = none
  b_list : mg "list" = none
  b_sorted : mg "sorted" = none
  b_dict : mg "dict" = none
  b_sum : mg "sum" = none
  b_range : mg "range" = none
  b_enumerate : mg "enumerate" = none
  b_int : mg "int" = none
  b_str : mg "str" = none
  b_bool : mg "bool" = none
  b_max : mg "max" = none
  b_min : mg "min" = none
  b_set : mg "set" = none
  c_LETTERS : ConG mg "LETTERS" (.str "abcdefghijklmnopqrstuvwxyz")
  c_MAX_LETTERS : ConG mg "MAX_LETTERS" (.int 8)
  c_MAX_NAMES : ConG mg "MAX_NAMES" (.int 30)
  c_MAX_LISTED : ConG mg "MAX_LISTED" (.int 5000)
  gC : mg "Committee" = some (.ref (He.ga K "Committee"))
  clsC : Cls K (He.ga K "Committee")
  mkC : Mk K (He.ga K "Committee") (He.ma K (He.ga K "Committee") "__init__")
  gR : mg "Ranking" = some (.ref (He.ga K "Ranking"))
  clsR : Cls K (He.ga K "Ranking")
  mkR : Mk K (He.ga K "Ranking") (He.ma K (He.ga K "Ranking") "__init__")
  gT : mg "Turns" = some (.ref (He.ga K "Turns"))
  clsT : Cls K (He.ga K "Turns")
  mkT : Mk K (He.ga K "Turns") (He.ma K (He.ga K "Turns") "__init__")
  gA : mg "Assigning" = some (.ref (He.ga K "Assigning"))
  clsA : Cls K (He.ga K "Assigning")
  mkA : Mk K (He.ga K "Assigning") (He.ma K (He.ga K "Assigning") "__init__")
  nC_own_members : NoAttr K (He.ga K "Committee") "own_members"
  nR_order : NoAttr K (He.ga K "Ranking") "order"
  nR_places : NoAttr K (He.ga K "Ranking") "places"
  nT_order : NoAttr K (He.ga K "Turns") "order"
  nA_own_counts : NoAttr K (He.ga K "Assigning") "own_counts"
  nA_options : NoAttr K (He.ga K "Assigning") "options"
  nA_owner : NoAttr K (He.ga K "Assigning") "owner"
  pC_members : PropOf K (He.ga K "Committee") "members" (He.ma K (He.ga K "Committee") "members") (gtr K (He.ma K (He.ga K "Committee") "members"))
  pR_alternatives : PropOf K (He.ga K "Ranking") "alternatives" (He.ma K (He.ga K "Ranking") "alternatives") (gtr K (He.ma K (He.ga K "Ranking") "alternatives"))
  sC_len : Spc K (He.ga K "Committee") "__len__" (He.ma K (He.ga K "Committee") "__len__")
  sC_eq : Spc K (He.ga K "Committee") "__eq__" (He.ma K (He.ga K "Committee") "__eq__")
  sC_contains : Spc K (He.ga K "Committee") "__contains__" (He.ma K (He.ga K "Committee") "__contains__")
  sC_sub : Spc K (He.ga K "Committee") "__sub__" (He.ma K (He.ga K "Committee") "__sub__")
  sR_len : Spc K (He.ga K "Ranking") "__len__" (He.ma K (He.ga K "Ranking") "__len__")
  sR_contains : Spc K (He.ga K "Ranking") "__contains__" (He.ma K (He.ga K "Ranking") "__contains__")
  sR_getitem : Spc K (He.ga K "Ranking") "__getitem__" (He.ma K (He.ga K "Ranking") "__getitem__")
  sR_and : Spc K (He.ga K "Ranking") "__and__" (He.ma K (He.ga K "Ranking") "__and__")
  mC_is_within : Meth K (He.ga K "Committee") "is_within" (He.ma K (He.ga K "Committee") "is_within")
  mR_place : Meth K (He.ga K "Ranking") "place" (He.ma K (He.ga K "Ranking") "place")
  mR_prefers : Meth K (He.ga K "Ranking") "prefers" (He.ma K (He.ga K "Ranking") "prefers")
  mR_worst : Meth K (He.ga K "Ranking") "worst" (He.ma K (He.ga K "Ranking") "worst")
  mA_owned : Meth K (He.ga K "Assigning") "owned" (He.ma K (He.ga K "Assigning") "owned")
  mA_search : Meth K (He.ga K "Assigning") "search" (He.ma K (He.ga K "Assigning") "search")
  mA_assign : Meth K (He.ga K "Assigning") "assign" (He.ma K (He.ga K "Assigning") "assign")
  mA_stuck : Meth K (He.ga K "Assigning") "stuck" (He.ma K (He.ga K "Assigning") "stuck")
  mA_blocked : Meth K (He.ga K "Assigning") "blocked" (He.ma K (He.ga K "Assigning") "blocked")
  sfC : PySem.W.selfFirst K (He.ga K "Committee") = true
  two : Two K (He.ga K "Ranking") (He.ga K "Committee") .BitAnd (He.ma K (He.ga K "Committee") "__and__")
  iC : Isi K (He.ga K "Committee")
  iR : Isi K (He.ga K "Ranking")
  fnR : PySem.W.fnIn K (He.ma K (He.ga K "Ranking") "__getitem__") = true
  kitC : PySem.W.kitOne K (.ref (He.ga K "Committee")) (.ref (He.ga K "Committee")) = some true
  kitR : PySem.W.kitOne K (.ref (He.ga K "Ranking")) (.ref (He.ga K "Ranking")) = some true
  f_is_name : ∃ fd, Fun K "is_name" "is_name" s_is_name (He.ga K "is_name") fd
  g_is_name : mg "is_name" = some (.ref (He.ga K "is_name"))
  f_are_names : ∃ fd, Fun K "are_names" "are_names" s_are_names (He.ga K "are_names") fd
  g_are_names : mg "are_names" = some (.ref (He.ga K "are_names"))
  f_is_number : ∃ fd, Fun K "is_number" "is_number" s_is_number (He.ga K "is_number") fd
  g_is_number : mg "is_number" = some (.ref (He.ga K "is_number"))
  f_distinct : ∃ fd, Fun K "distinct" "distinct" s_distinct (He.ga K "distinct") fd
  g_distinct : mg "distinct" = some (.ref (He.ga K "distinct"))
  f_C_init : ∃ fd, Fun K "__init__" "Committee.__init__" s_C_init (He.ma K (He.ga K "Committee") "__init__") fd
  f_C_members : ∃ fd, Fun K "members" "Committee.members" s_C_members (gtr K (He.ma K (He.ga K "Committee") "members")) fd
  f_C_len : ∃ fd, Fun K "__len__" "Committee.__len__" s_C_len (He.ma K (He.ga K "Committee") "__len__") fd
  f_C_eq : ∃ fd, Fun K "__eq__" "Committee.__eq__" s_C_eq (He.ma K (He.ga K "Committee") "__eq__") fd
  f_C_contains : ∃ fd, Fun K "__contains__" "Committee.__contains__" s_C_contains (He.ma K (He.ga K "Committee") "__contains__") fd
  f_C_sub : ∃ fd, Fun K "__sub__" "Committee.__sub__" s_C_sub (He.ma K (He.ga K "Committee") "__sub__") fd
  f_C_is_within : ∃ fd, Fun K "is_within" "Committee.is_within" s_C_is_within (He.ma K (He.ga K "Committee") "is_within") fd
  f_R_init : ∃ fd, Fun K "__init__" "Ranking.__init__" s_R_init (He.ma K (He.ga K "Ranking") "__init__") fd
  f_R_alternatives : ∃ fd, Fun K "alternatives" "Ranking.alternatives" s_R_alternatives (gtr K (He.ma K (He.ga K "Ranking") "alternatives")) fd
  f_R_len : ∃ fd, Fun K "__len__" "Ranking.__len__" s_R_len (He.ma K (He.ga K "Ranking") "__len__") fd
  f_R_contains : ∃ fd, Fun K "__contains__" "Ranking.__contains__" s_R_contains (He.ma K (He.ga K "Ranking") "__contains__") fd
  f_R_getitem : ∃ fd, Fun K "__getitem__" "Ranking.__getitem__" s_R_getitem (He.ma K (He.ga K "Ranking") "__getitem__") fd
  f_R_and : ∃ fd, Fun K "__and__" "Ranking.__and__" s_R_and (He.ma K (He.ga K "Ranking") "__and__") fd
  f_R_place : ∃ fd, Fun K "place" "Ranking.place" s_R_place (He.ma K (He.ga K "Ranking") "place") fd
  f_R_prefers : ∃ fd, Fun K "prefers" "Ranking.prefers" s_R_prefers (He.ma K (He.ga K "Ranking") "prefers") fd
  f_R_worst : ∃ fd, Fun K "worst" "Ranking.worst" s_R_worst (He.ma K (He.ga K "Ranking") "worst") fd
  f_members_known : ∃ fd, Fun K "members_known" "members_known" s_members_known (He.ga K "members_known") fd
  g_members_known : mg "members_known" = some (.ref (He.ga K "members_known"))
  f_as_committee : ∃ fd, Fun K "as_committee" "as_committee" s_as_committee (He.ga K "as_committee") fd
  g_as_committee : mg "as_committee" = some (.ref (He.ga K "as_committee"))
  f_T_init : ∃ fd, Fun K "__init__" "Turns.__init__" s_T_init (He.ma K (He.ga K "Turns") "__init__") fd
  f_check_rankings : ∃ fd, Fun K "check_rankings" "check_rankings" s_check_rankings (He.ga K "check_rankings") fd
  g_check_rankings : mg "check_rankings" = some (.ref (He.ga K "check_rankings"))
  f_all_of : ∃ fd, Fun K "all_of" "all_of" s_all_of (He.ga K "all_of") fd
  g_all_of : mg "all_of" = some (.ref (He.ga K "all_of"))
  f_players_of : ∃ fd, Fun K "players_of" "players_of" s_players_of (He.ga K "players_of") fd
  g_players_of : mg "players_of" = some (.ref (He.ga K "players_of"))
  f_check_committee : ∃ fd, Fun K "check_committee" "check_committee" s_check_committee (He.ga K "check_committee") fd
  g_check_committee : mg "check_committee" = some (.ref (He.ga K "check_committee"))
  f_check_counts : ∃ fd, Fun K "check_counts" "check_counts" s_check_counts (He.ga K "check_counts") fd
  g_check_counts : mg "check_counts" = some (.ref (He.ga K "check_counts"))
  f_check_all : ∃ fd, Fun K "check_all" "check_all" s_check_all (He.ga K "check_all") fd
  g_check_all : mg "check_all" = some (.ref (He.ga K "check_all"))
  f_is_below : ∃ fd, Fun K "is_below" "is_below" s_is_below (He.ga K "is_below") fd
  g_is_below : mg "is_below" = some (.ref (He.ga K "is_below"))
  f_strikers_of : ∃ fd, Fun K "strikers_of" "strikers_of" s_strikers_of (He.ga K "strikers_of") fd
  g_strikers_of : mg "strikers_of" = some (.ref (He.ga K "strikers_of"))
  f_A_init : ∃ fd, Fun K "__init__" "Assigning.__init__" s_A_init (He.ma K (He.ga K "Assigning") "__init__") fd
  f_A_owned : ∃ fd, Fun K "owned" "Assigning.owned" s_A_owned (He.ma K (He.ga K "Assigning") "owned") fd
  f_A_search : ∃ fd, Fun K "search" "Assigning.search" s_A_search (He.ma K (He.ga K "Assigning") "search") fd
  f_A_assign : ∃ fd, Fun K "assign" "Assigning.assign" s_A_assign (He.ma K (He.ga K "Assigning") "assign") fd
  f_A_stuck : ∃ fd, Fun K "stuck" "Assigning.stuck" s_A_stuck (He.ma K (He.ga K "Assigning") "stuck") fd
  f_A_blocked : ∃ fd, Fun K "blocked" "Assigning.blocked" s_A_blocked (He.ma K (He.ga K "Assigning") "blocked") fd
  f_find_assignment : ∃ fd, Fun K "find_assignment" "find_assignment" s_find_assignment (He.ga K "find_assignment") fd
  g_find_assignment : mg "find_assignment" = some (.ref (He.ga K "find_assignment"))
  f_is_assignment : ∃ fd, Fun K "is_assignment" "is_assignment" s_is_assignment (He.ga K "is_assignment") fd
  g_is_assignment : mg "is_assignment" = some (.ref (He.ga K "is_assignment"))
  f_exchange : ∃ fd, Fun K "exchange" "exchange" s_exchange (He.ga K "exchange") fd
  g_exchange : mg "exchange" = some (.ref (He.ga K "exchange"))
  f_turns_for : ∃ fd, Fun K "turns_for" "turns_for" s_turns_for (He.ga K "turns_for") fd
  g_turns_for : mg "turns_for" = some (.ref (He.ga K "turns_for"))
  f_find_turns : ∃ fd, Fun K "find_turns" "find_turns" s_find_turns (He.ga K "find_turns") fd
  g_find_turns : mg "find_turns" = some (.ref (He.ga K "find_turns"))
  f_find_block : ∃ fd, Fun K "find_block" "find_block" s_find_block (He.ga K "find_block") fd
  g_find_block : mg "find_block" = some (.ref (He.ga K "find_block"))
  f_choices : ∃ fd, Fun K "choices" "choices" s_choices (He.ga K "choices") fd
  g_choices : mg "choices" = some (.ref (He.ga K "choices"))
  f_number_of_choices : ∃ fd, Fun K "number_of_choices" "number_of_choices" s_number_of_choices (He.ga K "number_of_choices") fd
  g_number_of_choices : mg "number_of_choices" = some (.ref (He.ga K "number_of_choices"))
  f_check_listed : ∃ fd, Fun K "check_listed" "check_listed" s_check_listed (He.ga K "check_listed") fd
  g_check_listed : mg "check_listed" = some (.ref (He.ga K "check_listed"))
  f_possible_committees : ∃ fd, Fun K "possible_committees" "possible_committees" s_possible_committees (He.ga K "possible_committees") fd
  g_possible_committees : mg "possible_committees" = some (.ref (He.ga K "possible_committees"))
  f_membership : ∃ fd, Fun K "membership" "membership" s_membership (He.ga K "membership") fd
  g_membership : mg "membership" = some (.ref (He.ga K "membership"))
  f_number_of_orders : ∃ fd, Fun K "number_of_orders" "number_of_orders" s_number_of_orders (He.ga K "number_of_orders") fd
  g_number_of_orders : mg "number_of_orders" = some (.ref (He.ga K "number_of_orders"))
  f_count_orders : ∃ fd, Fun K "count_orders" "count_orders" s_count_orders (He.ga K "count_orders") fd
  g_count_orders : mg "count_orders" = some (.ref (He.ga K "count_orders"))
  f_count_turns : ∃ fd, Fun K "count_turns" "count_turns" s_count_turns (He.ga K "count_turns") fd
  g_count_turns : mg "count_turns" = some (.ref (He.ga K "count_turns"))
  f_l_stream : ∃ fd, Fun K "_law_stream" "_law_stream" s_l_stream (He.ga K "_law_stream") fd
  g_l_stream : mg "_law_stream" = some (.ref (He.ga K "_law_stream"))
  f_l_draw : ∃ fd, Fun K "_law_draw" "_law_draw" s_l_draw (He.ga K "_law_draw") fd
  g_l_draw : mg "_law_draw" = some (.ref (He.ga K "_law_draw"))
  f_l_shuffled : ∃ fd, Fun K "_law_shuffled" "_law_shuffled" s_l_shuffled (He.ga K "_law_shuffled") fd
  g_l_shuffled : mg "_law_shuffled" = some (.ref (He.ga K "_law_shuffled"))
  f_l_players : ∃ fd, Fun K "_law_players" "_law_players" s_l_players (He.ga K "_law_players") fd
  g_l_players : mg "_law_players" = some (.ref (He.ga K "_law_players"))
  f_l_names : ∃ fd, Fun K "_law_names" "_law_names" s_l_names (He.ga K "_law_names") fd
  g_l_names : mg "_law_names" = some (.ref (He.ga K "_law_names"))
  f_l_own : ∃ fd, Fun K "_law_own" "_law_own" s_l_own (He.ga K "_law_own") fd
  g_l_own : mg "_law_own" = some (.ref (He.ga K "_law_own"))
  f_l_worst : ∃ fd, Fun K "_law_worst" "_law_worst" s_l_worst (He.ga K "_law_worst") fd
  g_l_worst : mg "_law_worst" = some (.ref (He.ga K "_law_worst"))
  f_l_pass : ∃ fd, Fun K "_law_pass" "_law_pass" s_l_pass (He.ga K "_law_pass") fd
  g_l_pass : mg "_law_pass" = some (.ref (He.ga K "_law_pass"))
  f_l_all : ∃ fd, Fun K "_law_all" "_law_all" s_l_all (He.ga K "_law_all") fd
  g_l_all : mg "_law_all" = some (.ref (He.ga K "_law_all"))
  f_l_below : ∃ fd, Fun K "_law_below" "_law_below" s_l_below (He.ga K "_law_below") fd
  g_l_below : mg "_law_below" = some (.ref (He.ga K "_law_below"))
  f_l_is_below : ∃ fd, Fun K "_law_is_below" "_law_is_below" s_l_is_below (He.ga K "_law_is_below") fd
  g_l_is_below : mg "_law_is_below" = some (.ref (He.ga K "_law_is_below"))
  f_l_drawn : ∃ fd, Fun K "_law_drawn" "_law_drawn" s_l_drawn (He.ga K "_law_drawn") fd
  g_l_drawn : mg "_law_drawn" = some (.ref (He.ga K "_law_drawn"))
  f_l_rankings : ∃ fd, Fun K "_law_rankings" "_law_rankings" s_l_rankings (He.ga K "_law_rankings") fd
  g_l_rankings : mg "_law_rankings" = some (.ref (He.ga K "_law_rankings"))
  f_l_orders : ∃ fd, Fun K "_law_orders" "_law_orders" s_l_orders (He.ga K "_law_orders") fd
  g_l_orders : mg "_law_orders" = some (.ref (He.ga K "_law_orders"))
  f_l_sets : ∃ fd, Fun K "_law_sets" "_law_sets" s_l_sets (He.ga K "_law_sets") fd
  g_l_sets : mg "_law_sets" = some (.ref (He.ga K "_law_sets"))
  f_l_name : ∃ fd, Fun K "_law_name" "_law_name" s_l_name (He.ga K "_law_name") fd
  g_l_name : mg "_law_name" = some (.ref (He.ga K "_law_name"))
  f_l_each_right : ∃ fd, Fun K "_law_each_right" "_law_each_right" s_l_each_right (He.ga K "_law_each_right") fd
  g_l_each_right : mg "_law_each_right" = some (.ref (He.ga K "_law_each_right"))
  f_l_crowd : ∃ fd, Fun K "_law_crowd" "_law_crowd" s_l_crowd (He.ga K "_law_crowd") fd
  g_l_crowd : mg "_law_crowd" = some (.ref (He.ga K "_law_crowd"))
  f_l_orders_right : ∃ fd, Fun K "_law_orders_right" "_law_orders_right" s_l_orders_right (He.ga K "_law_orders_right") fd
  g_l_orders_right : mg "_law_orders_right" = some (.ref (He.ga K "_law_orders_right"))
  f_l_noted : ∃ fd, Fun K "_law_noted" "_law_noted" s_l_noted (He.ga K "_law_noted") fd
  g_l_noted : mg "_law_noted" = some (.ref (He.ga K "_law_noted"))
  f_l_kept_right : ∃ fd, Fun K "_law_kept_right" "_law_kept_right" s_l_kept_right (He.ga K "_law_kept_right") fd
  g_l_kept_right : mg "_law_kept_right" = some (.ref (He.ga K "_law_kept_right"))
  f_law : ∃ fd, Fun K "law" "law" s_law (He.ga K "law") fd
  g_law : mg "law" = some (.ref (He.ga K "law"))
end Fl
namespace Fl
open PySem PySem.Spec L2
/-! ### the facts as tests -/
theorem conG_int {K : PySem.W.Frag} {h : Heap} {mg : Str → Option Value} (X : K.In h) (G : h.Ns mainGlobals mg) {x : Str} {i : Int} (c : (He.Fa.int x i).ok K = true) : ConG mg x (.int i) := by
  obtain ⟨t, e⟩ := He.int_ok X G c
  exact ⟨_, e, ⟨t, rfl⟩⟩
theorem conG_str {K : PySem.W.Frag} {h : Heap} {mg : Str → Option Value} (X : K.In h) (G : h.Ns mainGlobals mg) {x z : Str} (c : (He.Fa.str x z).ok K = true) : ConG mg x (.str z) := by
  obtain ⟨t, e⟩ := He.str_ok X G c
  exact ⟨_, e, ⟨t, rfl⟩⟩
def recB (K : PySem.W.Frag) (p : Addr) : Bool := match PySem.W.recIn K p "property" with
  | some (.ref _ :: _) => true
  | _ => false
theorem recB_ok {K : PySem.W.Frag} {p : Addr} (h : recB K p = true) : ∃ rest, PySem.W.recIn K p "property" = some (.ref (gtr K p) :: rest) := by
  unfold recB at h
  unfold gtr
  split at h
  · rename_i g r e
    exact ⟨r, by rw [e]⟩
  · cases h
def propB (K : PySem.W.Frag) (C : Addr) (f : Str) : Bool := He.eqO (PySem.W.findIn K (.ref C) f) (some (some (.ref (He.ma K C f)))) && (He.eqO (PySem.W.specialIn K (.ref (He.ma K C f)) "__get__") (some (some (.builtin "property.__get__"))) && (decide (PySem.W.takesIn K (.ref (He.ma K C f)) = some true) && recB K (He.ma K C f)))
theorem propB_ok {K : PySem.W.Frag} {C : Addr} {f : Str} (h : propB K C f = true) : PropOf K C f (He.ma K C f) (gtr K (He.ma K C f)) := by
  obtain ⟨h1, h⟩ := He.ba h
  obtain ⟨h2, h⟩ := He.ba h
  obtain ⟨h3, h4⟩ := He.ba h
  exact ⟨He.eqO_ok h1, He.eqO_ok h2, of_decide_eq_true h3, recB_ok h4⟩
def spcB (K : PySem.W.Frag) (C : Addr) (m : Str) : Bool := He.eqO (PySem.W.findIn K (.ref C) m) (some (some (.ref (He.ma K C m)))) && PySem.W.isFn K (.ref (He.ma K C m))
theorem spcB_ok {K : PySem.W.Frag} {C : Addr} {m : Str} (h : spcB K C m = true) : Spc K C m (He.ma K C m) := by
  obtain ⟨h1, h2⟩ := He.ba h
  exact ⟨He.eqO_ok h1, h2⟩
def twoB (K : PySem.W.Frag) (C C2 : Addr) : Bool := (!decide (C = C2)) && (PySem.W.selfFirst K C && (PySem.W.selfFirst K C2 && (decide (PySem.W.subIn K (.ref C2) (.ref C) = some false) && (He.eqO (PySem.W.findIn K (.ref C) (PySem.dunderR Operator.BitAnd.info.2)) (some none) &&
  (He.eqO (PySem.W.findIn K (.ref C2) (PySem.dunder Operator.BitAnd.info.2)) (some (some (.ref (He.ma K C2 "__and__")))) && He.eqO (PySem.W.findIn K (.ref C2) (PySem.dunderR Operator.BitAnd.info.2)) (some none))))))
theorem twoB_ok {K : PySem.W.Frag} {C C2 : Addr} (h : twoB K C C2 = true) : Two K C C2 .BitAnd (He.ma K C2 "__and__") := by
  obtain ⟨h1, h⟩ := He.ba h
  obtain ⟨h2, h⟩ := He.ba h
  obtain ⟨h3, h⟩ := He.ba h
  obtain ⟨h4, h⟩ := He.ba h
  obtain ⟨h5, h⟩ := He.ba h
  obtain ⟨h6, h7⟩ := He.ba h
  exact ⟨by simpa using h1, h2, h3, of_decide_eq_true h4, He.eqO_ok h5, He.eqO_ok h6, He.eqO_ok h7⟩
def isiB (K : PySem.W.Frag) (C : Addr) : Bool := He.eqO (PySem.W.findIn K (.ref C) "__class__") (some (some (.builtin "object.__class__"))) && (He.eqO (PySem.W.specialIn K (.builtin "object.__class__") "__get__") (some (some (.builtin "getset_descriptor.__get__"))) &&
  (decide (PySem.W.takesIn K (.builtin "object.__class__") = some true) && decide (PySem.W.mroIn K C (.type "object") = some true)))
theorem isiB_ok {K : PySem.W.Frag} {C : Addr} (h : isiB K C = true) : Isi K C := by
  obtain ⟨h1, h⟩ := He.ba h
  obtain ⟨h2, h⟩ := He.ba h
  obtain ⟨h3, h4⟩ := He.ba h
  exact ⟨He.eqO_ok h1, He.eqO_ok h2, of_decide_eq_true h3, of_decide_eq_true h4⟩
def exB0 (K : PySem.W.Frag) : Bool := He.eqO (PySem.W.nsIn K mainGlobals "isinstance") (some none) && (He.eqO (PySem.W.nsIn K mainGlobals "len") (some none) && (He.eqO (PySem.W.nsIn K mainGlobals "all") (some none) && (He.eqO (PySem.W.nsIn K mainGlobals "any") (some none) && (He.eqO (PySem.W.nsIn K mainGlobals "list") (some none) && (He.eqO (PySem.W.nsIn K mainGlobals "sorted") (some none) && (He.eqO (PySem.W.nsIn K mainGlobals "dict") (some none) && (He.eqO (PySem.W.nsIn K mainGlobals "sum") (some none) && (He.eqO (PySem.W.nsIn K mainGlobals "range") (some none) && (He.eqO (PySem.W.nsIn K mainGlobals "enumerate") (some none) && (He.eqO (PySem.W.nsIn K mainGlobals "int") (some none) && (He.eqO (PySem.W.nsIn K mainGlobals "str") (some none))))))))))))
def exB1 (K : PySem.W.Frag) : Bool := He.eqO (PySem.W.nsIn K mainGlobals "bool") (some none) && (He.eqO (PySem.W.nsIn K mainGlobals "max") (some none) && (He.eqO (PySem.W.nsIn K mainGlobals "min") (some none) && (He.eqO (PySem.W.nsIn K mainGlobals "set") (some none) && ((He.Fa.str "LETTERS" "abcdefghijklmnopqrstuvwxyz").ok K && ((He.Fa.int "MAX_LETTERS" 8).ok K && ((He.Fa.int "MAX_NAMES" 30).ok K && ((He.Fa.int "MAX_LISTED" 5000).ok K && ((He.Fa.glo "Committee").ok K && ((He.Fa.cls "Committee").ok K && ((He.Fa.mkr "Committee").ok K && ((He.Fa.glo "Ranking").ok K)))))))))))
def exB2 (K : PySem.W.Frag) : Bool := (He.Fa.cls "Ranking").ok K && ((He.Fa.mkr "Ranking").ok K && ((He.Fa.glo "Turns").ok K && ((He.Fa.cls "Turns").ok K && ((He.Fa.mkr "Turns").ok K && ((He.Fa.glo "Assigning").ok K && ((He.Fa.cls "Assigning").ok K && ((He.Fa.mkr "Assigning").ok K && ((He.Fa.noat "Committee" "own_members").ok K && ((He.Fa.noat "Ranking" "order").ok K && ((He.Fa.noat "Ranking" "places").ok K && ((He.Fa.noat "Turns" "order").ok K)))))))))))
def exB3 (K : PySem.W.Frag) : Bool := (He.Fa.noat "Assigning" "own_counts").ok K && ((He.Fa.noat "Assigning" "options").ok K && ((He.Fa.noat "Assigning" "owner").ok K && (propB K (He.ga K "Committee") "members" && (propB K (He.ga K "Ranking") "alternatives" && (spcB K (He.ga K "Committee") "__len__" && (spcB K (He.ga K "Committee") "__eq__" && (spcB K (He.ga K "Committee") "__contains__" && (spcB K (He.ga K "Committee") "__sub__" && (spcB K (He.ga K "Ranking") "__len__" && (spcB K (He.ga K "Ranking") "__contains__" && (spcB K (He.ga K "Ranking") "__getitem__")))))))))))
def exB4 (K : PySem.W.Frag) : Bool := spcB K (He.ga K "Ranking") "__and__" && ((He.Fa.meth "Committee" "is_within").ok K && ((He.Fa.meth "Ranking" "place").ok K && ((He.Fa.meth "Ranking" "prefers").ok K && ((He.Fa.meth "Ranking" "worst").ok K && ((He.Fa.meth "Assigning" "owned").ok K && ((He.Fa.meth "Assigning" "search").ok K && ((He.Fa.meth "Assigning" "assign").ok K && ((He.Fa.meth "Assigning" "stuck").ok K && ((He.Fa.meth "Assigning" "blocked").ok K && (PySem.W.selfFirst K (He.ga K "Committee") && (twoB K (He.ga K "Ranking") (He.ga K "Committee"))))))))))))
def exB5 (K : PySem.W.Frag) : Bool := isiB K (He.ga K "Committee") && (isiB K (He.ga K "Ranking") && (PySem.W.fnIn K (He.ma K (He.ga K "Ranking") "__getitem__") && (decide (PySem.W.kitOne K (.ref (He.ga K "Committee")) (.ref (He.ga K "Committee")) = some true) && (decide (PySem.W.kitOne K (.ref (He.ga K "Ranking")) (.ref (He.ga K "Ranking")) = some true) && ((He.Fa.glo "is_name").ok K && ((He.Fa.glo "are_names").ok K && ((He.Fa.glo "is_number").ok K && ((He.Fa.glo "distinct").ok K && ((He.Fa.glo "members_known").ok K && ((He.Fa.glo "as_committee").ok K && ((He.Fa.glo "check_rankings").ok K)))))))))))
def exB6 (K : PySem.W.Frag) : Bool := (He.Fa.glo "all_of").ok K && ((He.Fa.glo "players_of").ok K && ((He.Fa.glo "check_committee").ok K && ((He.Fa.glo "check_counts").ok K && ((He.Fa.glo "check_all").ok K && ((He.Fa.glo "is_below").ok K && ((He.Fa.glo "strikers_of").ok K && ((He.Fa.glo "find_assignment").ok K && ((He.Fa.glo "is_assignment").ok K && ((He.Fa.glo "exchange").ok K && ((He.Fa.glo "turns_for").ok K && ((He.Fa.glo "find_turns").ok K)))))))))))
def exB7 (K : PySem.W.Frag) : Bool := (He.Fa.glo "find_block").ok K && ((He.Fa.glo "choices").ok K && ((He.Fa.glo "number_of_choices").ok K && ((He.Fa.glo "check_listed").ok K && ((He.Fa.glo "possible_committees").ok K && ((He.Fa.glo "membership").ok K && ((He.Fa.glo "number_of_orders").ok K && ((He.Fa.glo "count_orders").ok K && ((He.Fa.glo "count_turns").ok K && ((He.Fa.glo "_law_stream").ok K && ((He.Fa.glo "_law_draw").ok K && ((He.Fa.glo "_law_shuffled").ok K)))))))))))
def exB8 (K : PySem.W.Frag) : Bool := (He.Fa.glo "_law_players").ok K && ((He.Fa.glo "_law_names").ok K && ((He.Fa.glo "_law_own").ok K && ((He.Fa.glo "_law_worst").ok K && ((He.Fa.glo "_law_pass").ok K && ((He.Fa.glo "_law_all").ok K && ((He.Fa.glo "_law_below").ok K && ((He.Fa.glo "_law_is_below").ok K && ((He.Fa.glo "_law_drawn").ok K && ((He.Fa.glo "_law_rankings").ok K && ((He.Fa.glo "_law_orders").ok K && ((He.Fa.glo "_law_sets").ok K)))))))))))
def exB9 (K : PySem.W.Frag) : Bool := (He.Fa.glo "_law_name").ok K && ((He.Fa.glo "_law_each_right").ok K && ((He.Fa.glo "_law_crowd").ok K && ((He.Fa.glo "_law_orders_right").ok K && ((He.Fa.glo "_law_noted").ok K && ((He.Fa.glo "_law_kept_right").ok K && ((He.Fa.glo "law").ok K))))))
def exB (K : PySem.W.Frag) : Bool := exB0 K && (exB1 K && (exB2 K && (exB3 K && (exB4 K && (exB5 K && (exB6 K && (exB7 K && (exB8 K && (exB9 K)))))))))
def fnL : List He5.DefA := [⟨fun K => (He.ga K "is_name"), "is_name", "is_name", defArgs s_is_name, defBody s_is_name, defScope s_is_name, [], []⟩, ⟨fun K => (He.ga K "are_names"), "are_names", "are_names", defArgs s_are_names, defBody s_are_names, defScope s_are_names, [], []⟩, ⟨fun K => (He.ga K "is_number"), "is_number", "is_number", defArgs s_is_number, defBody s_is_number, defScope s_is_number, [], []⟩, ⟨fun K => (He.ga K "distinct"), "distinct", "distinct", defArgs s_distinct, defBody s_distinct, defScope s_distinct, [], []⟩, ⟨fun K => (He.ma K (He.ga K "Committee") "__init__"), "__init__", "Committee.__init__", defArgs s_C_init, defBody s_C_init, defScope s_C_init, [], []⟩, ⟨fun K => (gtr K (He.ma K (He.ga K "Committee") "members")), "members", "Committee.members", defArgs s_C_members, defBody s_C_members, defScope s_C_members, [], []⟩, ⟨fun K => (He.ma K (He.ga K "Committee") "__len__"), "__len__", "Committee.__len__", defArgs s_C_len, defBody s_C_len, defScope s_C_len, [], []⟩, ⟨fun K => (He.ma K (He.ga K "Committee") "__eq__"), "__eq__", "Committee.__eq__", defArgs s_C_eq, defBody s_C_eq, defScope s_C_eq, [], []⟩, ⟨fun K => (He.ma K (He.ga K "Committee") "__contains__"), "__contains__", "Committee.__contains__", defArgs s_C_contains, defBody s_C_contains, defScope s_C_contains, [], []⟩, ⟨fun K => (He.ma K (He.ga K "Committee") "__sub__"), "__sub__", "Committee.__sub__", defArgs s_C_sub, defBody s_C_sub, defScope s_C_sub, [], []⟩, ⟨fun K => (He.ma K (He.ga K "Committee") "is_within"), "is_within", "Committee.is_within", defArgs s_C_is_within, defBody s_C_is_within, defScope s_C_is_within, [], []⟩, ⟨fun K => (He.ma K (He.ga K "Ranking") "__init__"), "__init__", "Ranking.__init__", defArgs s_R_init, defBody s_R_init, defScope s_R_init, [], []⟩, ⟨fun K => (gtr K (He.ma K (He.ga K "Ranking") "alternatives")), "alternatives", "Ranking.alternatives", defArgs s_R_alternatives, defBody s_R_alternatives, defScope s_R_alternatives, [], []⟩, ⟨fun K => (He.ma K (He.ga K "Ranking") "__len__"), "__len__", "Ranking.__len__", defArgs s_R_len, defBody s_R_len, defScope s_R_len, [], []⟩, ⟨fun K => (He.ma K (He.ga K "Ranking") "__contains__"), "__contains__", "Ranking.__contains__", defArgs s_R_contains, defBody s_R_contains, defScope s_R_contains, [], []⟩, ⟨fun K => (He.ma K (He.ga K "Ranking") "__getitem__"), "__getitem__", "Ranking.__getitem__", defArgs s_R_getitem, defBody s_R_getitem, defScope s_R_getitem, [], []⟩, ⟨fun K => (He.ma K (He.ga K "Ranking") "__and__"), "__and__", "Ranking.__and__", defArgs s_R_and, defBody s_R_and, defScope s_R_and, [], []⟩, ⟨fun K => (He.ma K (He.ga K "Ranking") "place"), "place", "Ranking.place", defArgs s_R_place, defBody s_R_place, defScope s_R_place, [], []⟩, ⟨fun K => (He.ma K (He.ga K "Ranking") "prefers"), "prefers", "Ranking.prefers", defArgs s_R_prefers, defBody s_R_prefers, defScope s_R_prefers, [], []⟩, ⟨fun K => (He.ma K (He.ga K "Ranking") "worst"), "worst", "Ranking.worst", defArgs s_R_worst, defBody s_R_worst, defScope s_R_worst, [], []⟩, ⟨fun K => (He.ga K "members_known"), "members_known", "members_known", defArgs s_members_known, defBody s_members_known, defScope s_members_known, [], []⟩, ⟨fun K => (He.ga K "as_committee"), "as_committee", "as_committee", defArgs s_as_committee, defBody s_as_committee, defScope s_as_committee, [], []⟩, ⟨fun K => (He.ma K (He.ga K "Turns") "__init__"), "__init__", "Turns.__init__", defArgs s_T_init, defBody s_T_init, defScope s_T_init, [], []⟩, ⟨fun K => (He.ga K "check_rankings"), "check_rankings", "check_rankings", defArgs s_check_rankings, defBody s_check_rankings, defScope s_check_rankings, [], []⟩, ⟨fun K => (He.ga K "all_of"), "all_of", "all_of", defArgs s_all_of, defBody s_all_of, defScope s_all_of, [], []⟩, ⟨fun K => (He.ga K "players_of"), "players_of", "players_of", defArgs s_players_of, defBody s_players_of, defScope s_players_of, [], []⟩, ⟨fun K => (He.ga K "check_committee"), "check_committee", "check_committee", defArgs s_check_committee, defBody s_check_committee, defScope s_check_committee, [], []⟩, ⟨fun K => (He.ga K "check_counts"), "check_counts", "check_counts", defArgs s_check_counts, defBody s_check_counts, defScope s_check_counts, [], []⟩, ⟨fun K => (He.ga K "check_all"), "check_all", "check_all", defArgs s_check_all, defBody s_check_all, defScope s_check_all, [], []⟩, ⟨fun K => (He.ga K "is_below"), "is_below", "is_below", defArgs s_is_below, defBody s_is_below, defScope s_is_below, [], []⟩, ⟨fun K => (He.ga K "strikers_of"), "strikers_of", "strikers_of", defArgs s_strikers_of, defBody s_strikers_of, defScope s_strikers_of, [], []⟩, ⟨fun K => (He.ma K (He.ga K "Assigning") "__init__"), "__init__", "Assigning.__init__", defArgs s_A_init, defBody s_A_init, defScope s_A_init, [], []⟩, ⟨fun K => (He.ma K (He.ga K "Assigning") "owned"), "owned", "Assigning.owned", defArgs s_A_owned, defBody s_A_owned, defScope s_A_owned, [], []⟩, ⟨fun K => (He.ma K (He.ga K "Assigning") "search"), "search", "Assigning.search", defArgs s_A_search, defBody s_A_search, defScope s_A_search, [], []⟩, ⟨fun K => (He.ma K (He.ga K "Assigning") "assign"), "assign", "Assigning.assign", defArgs s_A_assign, defBody s_A_assign, defScope s_A_assign, [], []⟩, ⟨fun K => (He.ma K (He.ga K "Assigning") "stuck"), "stuck", "Assigning.stuck", defArgs s_A_stuck, defBody s_A_stuck, defScope s_A_stuck, [], []⟩, ⟨fun K => (He.ma K (He.ga K "Assigning") "blocked"), "blocked", "Assigning.blocked", defArgs s_A_blocked, defBody s_A_blocked, defScope s_A_blocked, [], []⟩, ⟨fun K => (He.ga K "find_assignment"), "find_assignment", "find_assignment", defArgs s_find_assignment, defBody s_find_assignment, defScope s_find_assignment, [], []⟩, ⟨fun K => (He.ga K "is_assignment"), "is_assignment", "is_assignment", defArgs s_is_assignment, defBody s_is_assignment, defScope s_is_assignment, [], []⟩, ⟨fun K => (He.ga K "exchange"), "exchange", "exchange", defArgs s_exchange, defBody s_exchange, defScope s_exchange, [], []⟩, ⟨fun K => (He.ga K "turns_for"), "turns_for", "turns_for", defArgs s_turns_for, defBody s_turns_for, defScope s_turns_for, [], []⟩, ⟨fun K => (He.ga K "find_turns"), "find_turns", "find_turns", defArgs s_find_turns, defBody s_find_turns, defScope s_find_turns, [], []⟩, ⟨fun K => (He.ga K "find_block"), "find_block", "find_block", defArgs s_find_block, defBody s_find_block, defScope s_find_block, [], []⟩, ⟨fun K => (He.ga K "choices"), "choices", "choices", defArgs s_choices, defBody s_choices, defScope s_choices, [], []⟩, ⟨fun K => (He.ga K "number_of_choices"), "number_of_choices", "number_of_choices", defArgs s_number_of_choices, defBody s_number_of_choices, defScope s_number_of_choices, [], []⟩, ⟨fun K => (He.ga K "check_listed"), "check_listed", "check_listed", defArgs s_check_listed, defBody s_check_listed, defScope s_check_listed, [], []⟩, ⟨fun K => (He.ga K "possible_committees"), "possible_committees", "possible_committees", defArgs s_possible_committees, defBody s_possible_committees, defScope s_possible_committees, [], []⟩, ⟨fun K => (He.ga K "membership"), "membership", "membership", defArgs s_membership, defBody s_membership, defScope s_membership, [], []⟩, ⟨fun K => (He.ga K "number_of_orders"), "number_of_orders", "number_of_orders", defArgs s_number_of_orders, defBody s_number_of_orders, defScope s_number_of_orders, [], []⟩, ⟨fun K => (He.ga K "count_orders"), "count_orders", "count_orders", defArgs s_count_orders, defBody s_count_orders, defScope s_count_orders, [], []⟩, ⟨fun K => (He.ga K "count_turns"), "count_turns", "count_turns", defArgs s_count_turns, defBody s_count_turns, defScope s_count_turns, [], []⟩, ⟨fun K => (He.ga K "_law_stream"), "_law_stream", "_law_stream", defArgs s_l_stream, defBody s_l_stream, defScope s_l_stream, [], []⟩, ⟨fun K => (He.ga K "_law_draw"), "_law_draw", "_law_draw", defArgs s_l_draw, defBody s_l_draw, defScope s_l_draw, [], []⟩, ⟨fun K => (He.ga K "_law_shuffled"), "_law_shuffled", "_law_shuffled", defArgs s_l_shuffled, defBody s_l_shuffled, defScope s_l_shuffled, [], []⟩, ⟨fun K => (He.ga K "_law_players"), "_law_players", "_law_players", defArgs s_l_players, defBody s_l_players, defScope s_l_players, [], []⟩, ⟨fun K => (He.ga K "_law_names"), "_law_names", "_law_names", defArgs s_l_names, defBody s_l_names, defScope s_l_names, [], []⟩, ⟨fun K => (He.ga K "_law_own"), "_law_own", "_law_own", defArgs s_l_own, defBody s_l_own, defScope s_l_own, [], []⟩, ⟨fun K => (He.ga K "_law_worst"), "_law_worst", "_law_worst", defArgs s_l_worst, defBody s_l_worst, defScope s_l_worst, [], []⟩, ⟨fun K => (He.ga K "_law_pass"), "_law_pass", "_law_pass", defArgs s_l_pass, defBody s_l_pass, defScope s_l_pass, [], []⟩, ⟨fun K => (He.ga K "_law_all"), "_law_all", "_law_all", defArgs s_l_all, defBody s_l_all, defScope s_l_all, [], []⟩, ⟨fun K => (He.ga K "_law_below"), "_law_below", "_law_below", defArgs s_l_below, defBody s_l_below, defScope s_l_below, [], []⟩, ⟨fun K => (He.ga K "_law_is_below"), "_law_is_below", "_law_is_below", defArgs s_l_is_below, defBody s_l_is_below, defScope s_l_is_below, [], []⟩, ⟨fun K => (He.ga K "_law_drawn"), "_law_drawn", "_law_drawn", defArgs s_l_drawn, defBody s_l_drawn, defScope s_l_drawn, [], []⟩, ⟨fun K => (He.ga K "_law_rankings"), "_law_rankings", "_law_rankings", defArgs s_l_rankings, defBody s_l_rankings, defScope s_l_rankings, [], []⟩, ⟨fun K => (He.ga K "_law_orders"), "_law_orders", "_law_orders", defArgs s_l_orders, defBody s_l_orders, defScope s_l_orders, [], []⟩, ⟨fun K => (He.ga K "_law_sets"), "_law_sets", "_law_sets", defArgs s_l_sets, defBody s_l_sets, defScope s_l_sets, [], []⟩, ⟨fun K => (He.ga K "_law_name"), "_law_name", "_law_name", defArgs s_l_name, defBody s_l_name, defScope s_l_name, [], []⟩, ⟨fun K => (He.ga K "_law_each_right"), "_law_each_right", "_law_each_right", defArgs s_l_each_right, defBody s_l_each_right, defScope s_l_each_right, [], []⟩, ⟨fun K => (He.ga K "_law_crowd"), "_law_crowd", "_law_crowd", defArgs s_l_crowd, defBody s_l_crowd, defScope s_l_crowd, [], []⟩, ⟨fun K => (He.ga K "_law_orders_right"), "_law_orders_right", "_law_orders_right", defArgs s_l_orders_right, defBody s_l_orders_right, defScope s_l_orders_right, [], []⟩, ⟨fun K => (He.ga K "_law_noted"), "_law_noted", "_law_noted", defArgs s_l_noted, defBody s_l_noted, defScope s_l_noted, [], []⟩, ⟨fun K => (He.ga K "_law_kept_right"), "_law_kept_right", "_law_kept_right", defArgs s_l_kept_right, defBody s_l_kept_right, defScope s_l_kept_right, [], []⟩, ⟨fun K => (He.ga K "law"), "law", "law", defArgs s_law, defBody s_law, defScope s_law, [], []⟩]
theorem tx_of {K : PySem.W.Frag} {h : Heap} {mg : Str → Option Value} (X : K.In h) (G : h.Ns mainGlobals mg) (e : exB K = true) (c : ∀ (i : Nat) (d : He5.DefA), fnL[i]? = some d → ∃ fd, FunD K d.name d.qual d.params d.body d.scope (d.dvs K) (d.kws K) (d.at_ K) fd) : TX K mg := by
  obtain ⟨e0, e⟩ := He.ba e
  obtain ⟨e1, e⟩ := He.ba e
  obtain ⟨e2, e⟩ := He.ba e
  obtain ⟨e3, e⟩ := He.ba e
  obtain ⟨e4, e⟩ := He.ba e
  obtain ⟨e5, e⟩ := He.ba e
  obtain ⟨e6, e⟩ := He.ba e
  obtain ⟨e7, e⟩ := He.ba e
  obtain ⟨e8, e⟩ := He.ba e
  have e9 := e
  obtain ⟨q_b_isinstance, e0⟩ := He.ba e0
  obtain ⟨q_b_len, e0⟩ := He.ba e0
  obtain ⟨q_b_all, e0⟩ := He.ba e0
  obtain ⟨q_b_any, e0⟩ := He.ba e0
  obtain ⟨q_b_list, e0⟩ := He.ba e0
  obtain ⟨q_b_sorted, e0⟩ := He.ba e0
  obtain ⟨q_b_dict, e0⟩ := He.ba e0
  obtain ⟨q_b_sum, e0⟩ := He.ba e0
  obtain ⟨q_b_range, e0⟩ := He.ba e0
  obtain ⟨q_b_enumerate, e0⟩ := He.ba e0
  obtain ⟨q_b_int, e0⟩ := He.ba e0
  have q_b_str := e0
  obtain ⟨q_b_bool, e1⟩ := He.ba e1
  obtain ⟨q_b_max, e1⟩ := He.ba e1
  obtain ⟨q_b_min, e1⟩ := He.ba e1
  obtain ⟨q_b_set, e1⟩ := He.ba e1
  obtain ⟨q_c_LETTERS, e1⟩ := He.ba e1
  obtain ⟨q_c_MAX_LETTERS, e1⟩ := He.ba e1
  obtain ⟨q_c_MAX_NAMES, e1⟩ := He.ba e1
  obtain ⟨q_c_MAX_LISTED, e1⟩ := He.ba e1
  obtain ⟨q_gC, e1⟩ := He.ba e1
  obtain ⟨q_clsC, e1⟩ := He.ba e1
  obtain ⟨q_mkC, e1⟩ := He.ba e1
  have q_gR := e1
  obtain ⟨q_clsR, e2⟩ := He.ba e2
  obtain ⟨q_mkR, e2⟩ := He.ba e2
  obtain ⟨q_gT, e2⟩ := He.ba e2
  obtain ⟨q_clsT, e2⟩ := He.ba e2
  obtain ⟨q_mkT, e2⟩ := He.ba e2
  obtain ⟨q_gA, e2⟩ := He.ba e2
  obtain ⟨q_clsA, e2⟩ := He.ba e2
  obtain ⟨q_mkA, e2⟩ := He.ba e2
  obtain ⟨q_nC_own_members, e2⟩ := He.ba e2
  obtain ⟨q_nR_order, e2⟩ := He.ba e2
  obtain ⟨q_nR_places, e2⟩ := He.ba e2
  have q_nT_order := e2
  obtain ⟨q_nA_own_counts, e3⟩ := He.ba e3
  obtain ⟨q_nA_options, e3⟩ := He.ba e3
  obtain ⟨q_nA_owner, e3⟩ := He.ba e3
  obtain ⟨q_pC_members, e3⟩ := He.ba e3
  obtain ⟨q_pR_alternatives, e3⟩ := He.ba e3
  obtain ⟨q_sC_len, e3⟩ := He.ba e3
  obtain ⟨q_sC_eq, e3⟩ := He.ba e3
  obtain ⟨q_sC_contains, e3⟩ := He.ba e3
  obtain ⟨q_sC_sub, e3⟩ := He.ba e3
  obtain ⟨q_sR_len, e3⟩ := He.ba e3
  obtain ⟨q_sR_contains, e3⟩ := He.ba e3
  have q_sR_getitem := e3
  obtain ⟨q_sR_and, e4⟩ := He.ba e4
  obtain ⟨q_mC_is_within, e4⟩ := He.ba e4
  obtain ⟨q_mR_place, e4⟩ := He.ba e4
  obtain ⟨q_mR_prefers, e4⟩ := He.ba e4
  obtain ⟨q_mR_worst, e4⟩ := He.ba e4
  obtain ⟨q_mA_owned, e4⟩ := He.ba e4
  obtain ⟨q_mA_search, e4⟩ := He.ba e4
  obtain ⟨q_mA_assign, e4⟩ := He.ba e4
  obtain ⟨q_mA_stuck, e4⟩ := He.ba e4
  obtain ⟨q_mA_blocked, e4⟩ := He.ba e4
  obtain ⟨q_sfC, e4⟩ := He.ba e4
  have q_two := e4
  obtain ⟨q_iC, e5⟩ := He.ba e5
  obtain ⟨q_iR, e5⟩ := He.ba e5
  obtain ⟨q_fnR, e5⟩ := He.ba e5
  obtain ⟨q_kitC, e5⟩ := He.ba e5
  obtain ⟨q_kitR, e5⟩ := He.ba e5
  obtain ⟨q_g_is_name, e5⟩ := He.ba e5
  obtain ⟨q_g_are_names, e5⟩ := He.ba e5
  obtain ⟨q_g_is_number, e5⟩ := He.ba e5
  obtain ⟨q_g_distinct, e5⟩ := He.ba e5
  obtain ⟨q_g_members_known, e5⟩ := He.ba e5
  obtain ⟨q_g_as_committee, e5⟩ := He.ba e5
  have q_g_check_rankings := e5
  obtain ⟨q_g_all_of, e6⟩ := He.ba e6
  obtain ⟨q_g_players_of, e6⟩ := He.ba e6
  obtain ⟨q_g_check_committee, e6⟩ := He.ba e6
  obtain ⟨q_g_check_counts, e6⟩ := He.ba e6
  obtain ⟨q_g_check_all, e6⟩ := He.ba e6
  obtain ⟨q_g_is_below, e6⟩ := He.ba e6
  obtain ⟨q_g_strikers_of, e6⟩ := He.ba e6
  obtain ⟨q_g_find_assignment, e6⟩ := He.ba e6
  obtain ⟨q_g_is_assignment, e6⟩ := He.ba e6
  obtain ⟨q_g_exchange, e6⟩ := He.ba e6
  obtain ⟨q_g_turns_for, e6⟩ := He.ba e6
  have q_g_find_turns := e6
  obtain ⟨q_g_find_block, e7⟩ := He.ba e7
  obtain ⟨q_g_choices, e7⟩ := He.ba e7
  obtain ⟨q_g_number_of_choices, e7⟩ := He.ba e7
  obtain ⟨q_g_check_listed, e7⟩ := He.ba e7
  obtain ⟨q_g_possible_committees, e7⟩ := He.ba e7
  obtain ⟨q_g_membership, e7⟩ := He.ba e7
  obtain ⟨q_g_number_of_orders, e7⟩ := He.ba e7
  obtain ⟨q_g_count_orders, e7⟩ := He.ba e7
  obtain ⟨q_g_count_turns, e7⟩ := He.ba e7
  obtain ⟨q_g_l_stream, e7⟩ := He.ba e7
  obtain ⟨q_g_l_draw, e7⟩ := He.ba e7
  have q_g_l_shuffled := e7
  obtain ⟨q_g_l_players, e8⟩ := He.ba e8
  obtain ⟨q_g_l_names, e8⟩ := He.ba e8
  obtain ⟨q_g_l_own, e8⟩ := He.ba e8
  obtain ⟨q_g_l_worst, e8⟩ := He.ba e8
  obtain ⟨q_g_l_pass, e8⟩ := He.ba e8
  obtain ⟨q_g_l_all, e8⟩ := He.ba e8
  obtain ⟨q_g_l_below, e8⟩ := He.ba e8
  obtain ⟨q_g_l_is_below, e8⟩ := He.ba e8
  obtain ⟨q_g_l_drawn, e8⟩ := He.ba e8
  obtain ⟨q_g_l_rankings, e8⟩ := He.ba e8
  obtain ⟨q_g_l_orders, e8⟩ := He.ba e8
  have q_g_l_sets := e8
  obtain ⟨q_g_l_name, e9⟩ := He.ba e9
  obtain ⟨q_g_l_each_right, e9⟩ := He.ba e9
  obtain ⟨q_g_l_crowd, e9⟩ := He.ba e9
  obtain ⟨q_g_l_orders_right, e9⟩ := He.ba e9
  obtain ⟨q_g_l_noted, e9⟩ := He.ba e9
  obtain ⟨q_g_l_kept_right, e9⟩ := He.ba e9
  have q_g_law := e9
  exact {
    b_isinstance := by have h := q_b_isinstance; exact He.free_ok X G h
    b_len := by have h := q_b_len; exact He.free_ok X G h
    b_all := by have h := q_b_all; exact He.free_ok X G h
    b_any := by have h := q_b_any; exact He.free_ok X G h
    b_list := by have h := q_b_list; exact He.free_ok X G h
    b_sorted := by have h := q_b_sorted; exact He.free_ok X G h
    b_dict := by have h := q_b_dict; exact He.free_ok X G h
    b_sum := by have h := q_b_sum; exact He.free_ok X G h
    b_range := by have h := q_b_range; exact He.free_ok X G h
    b_enumerate := by have h := q_b_enumerate; exact He.free_ok X G h
    b_int := by have h := q_b_int; exact He.free_ok X G h
    b_str := by have h := q_b_str; exact He.free_ok X G h
    b_bool := by have h := q_b_bool; exact He.free_ok X G h
    b_max := by have h := q_b_max; exact He.free_ok X G h
    b_min := by have h := q_b_min; exact He.free_ok X G h
    b_set := by have h := q_b_set; exact He.free_ok X G h
    c_LETTERS := by have h := q_c_LETTERS; exact conG_str X G h
    c_MAX_LETTERS := by have h := q_c_MAX_LETTERS; exact conG_int X G h
    c_MAX_NAMES := by have h := q_c_MAX_NAMES; exact conG_int X G h
    c_MAX_LISTED := by have h := q_c_MAX_LISTED; exact conG_int X G h
    gC := by have h := q_gC; exact He.glo_ok X G h
    clsC := by have h := q_clsC; exact He.cls_ok h
    mkC := by have h := q_mkC; exact He.mkr_ok h
    gR := by have h := q_gR; exact He.glo_ok X G h
    clsR := by have h := q_clsR; exact He.cls_ok h
    mkR := by have h := q_mkR; exact He.mkr_ok h
    gT := by have h := q_gT; exact He.glo_ok X G h
    clsT := by have h := q_clsT; exact He.cls_ok h
    mkT := by have h := q_mkT; exact He.mkr_ok h
    gA := by have h := q_gA; exact He.glo_ok X G h
    clsA := by have h := q_clsA; exact He.cls_ok h
    mkA := by have h := q_mkA; exact He.mkr_ok h
    nC_own_members := by have h := q_nC_own_members; exact He.noat_ok h
    nR_order := by have h := q_nR_order; exact He.noat_ok h
    nR_places := by have h := q_nR_places; exact He.noat_ok h
    nT_order := by have h := q_nT_order; exact He.noat_ok h
    nA_own_counts := by have h := q_nA_own_counts; exact He.noat_ok h
    nA_options := by have h := q_nA_options; exact He.noat_ok h
    nA_owner := by have h := q_nA_owner; exact He.noat_ok h
    pC_members := by have h := q_pC_members; exact propB_ok h
    pR_alternatives := by have h := q_pR_alternatives; exact propB_ok h
    sC_len := by have h := q_sC_len; exact spcB_ok h
    sC_eq := by have h := q_sC_eq; exact spcB_ok h
    sC_contains := by have h := q_sC_contains; exact spcB_ok h
    sC_sub := by have h := q_sC_sub; exact spcB_ok h
    sR_len := by have h := q_sR_len; exact spcB_ok h
    sR_contains := by have h := q_sR_contains; exact spcB_ok h
    sR_getitem := by have h := q_sR_getitem; exact spcB_ok h
    sR_and := by have h := q_sR_and; exact spcB_ok h
    mC_is_within := by have h := q_mC_is_within; exact He.meth_ok h
    mR_place := by have h := q_mR_place; exact He.meth_ok h
    mR_prefers := by have h := q_mR_prefers; exact He.meth_ok h
    mR_worst := by have h := q_mR_worst; exact He.meth_ok h
    mA_owned := by have h := q_mA_owned; exact He.meth_ok h
    mA_search := by have h := q_mA_search; exact He.meth_ok h
    mA_assign := by have h := q_mA_assign; exact He.meth_ok h
    mA_stuck := by have h := q_mA_stuck; exact He.meth_ok h
    mA_blocked := by have h := q_mA_blocked; exact He.meth_ok h
    sfC := by have h := q_sfC; exact h
    two := by have h := q_two; exact twoB_ok h
    iC := by have h := q_iC; exact isiB_ok h
    iR := by have h := q_iR; exact isiB_ok h
    fnR := by have h := q_fnR; exact h
    kitC := by have h := q_kitC; exact of_decide_eq_true h
    kitR := by have h := q_kitR; exact of_decide_eq_true h
    f_is_name := by obtain ⟨fd, F⟩ := c 0 _ rfl; exact ⟨fd, He5.fun_of F⟩
    g_is_name := He.glo_ok X G q_g_is_name
    f_are_names := by obtain ⟨fd, F⟩ := c 1 _ rfl; exact ⟨fd, He5.fun_of F⟩
    g_are_names := He.glo_ok X G q_g_are_names
    f_is_number := by obtain ⟨fd, F⟩ := c 2 _ rfl; exact ⟨fd, He5.fun_of F⟩
    g_is_number := He.glo_ok X G q_g_is_number
    f_distinct := by obtain ⟨fd, F⟩ := c 3 _ rfl; exact ⟨fd, He5.fun_of F⟩
    g_distinct := He.glo_ok X G q_g_distinct
    f_C_init := by obtain ⟨fd, F⟩ := c 4 _ rfl; exact ⟨fd, He5.fun_of F⟩
    f_C_members := by obtain ⟨fd, F⟩ := c 5 _ rfl; exact ⟨fd, He5.fun_of F⟩
    f_C_len := by obtain ⟨fd, F⟩ := c 6 _ rfl; exact ⟨fd, He5.fun_of F⟩
    f_C_eq := by obtain ⟨fd, F⟩ := c 7 _ rfl; exact ⟨fd, He5.fun_of F⟩
    f_C_contains := by obtain ⟨fd, F⟩ := c 8 _ rfl; exact ⟨fd, He5.fun_of F⟩
    f_C_sub := by obtain ⟨fd, F⟩ := c 9 _ rfl; exact ⟨fd, He5.fun_of F⟩
    f_C_is_within := by obtain ⟨fd, F⟩ := c 10 _ rfl; exact ⟨fd, He5.fun_of F⟩
    f_R_init := by obtain ⟨fd, F⟩ := c 11 _ rfl; exact ⟨fd, He5.fun_of F⟩
    f_R_alternatives := by obtain ⟨fd, F⟩ := c 12 _ rfl; exact ⟨fd, He5.fun_of F⟩
    f_R_len := by obtain ⟨fd, F⟩ := c 13 _ rfl; exact ⟨fd, He5.fun_of F⟩
    f_R_contains := by obtain ⟨fd, F⟩ := c 14 _ rfl; exact ⟨fd, He5.fun_of F⟩
    f_R_getitem := by obtain ⟨fd, F⟩ := c 15 _ rfl; exact ⟨fd, He5.fun_of F⟩
    f_R_and := by obtain ⟨fd, F⟩ := c 16 _ rfl; exact ⟨fd, He5.fun_of F⟩
    f_R_place := by obtain ⟨fd, F⟩ := c 17 _ rfl; exact ⟨fd, He5.fun_of F⟩
    f_R_prefers := by obtain ⟨fd, F⟩ := c 18 _ rfl; exact ⟨fd, He5.fun_of F⟩
    f_R_worst := by obtain ⟨fd, F⟩ := c 19 _ rfl; exact ⟨fd, He5.fun_of F⟩
    f_members_known := by obtain ⟨fd, F⟩ := c 20 _ rfl; exact ⟨fd, He5.fun_of F⟩
    g_members_known := He.glo_ok X G q_g_members_known
    f_as_committee := by obtain ⟨fd, F⟩ := c 21 _ rfl; exact ⟨fd, He5.fun_of F⟩
    g_as_committee := He.glo_ok X G q_g_as_committee
    f_T_init := by obtain ⟨fd, F⟩ := c 22 _ rfl; exact ⟨fd, He5.fun_of F⟩
    f_check_rankings := by obtain ⟨fd, F⟩ := c 23 _ rfl; exact ⟨fd, He5.fun_of F⟩
    g_check_rankings := He.glo_ok X G q_g_check_rankings
    f_all_of := by obtain ⟨fd, F⟩ := c 24 _ rfl; exact ⟨fd, He5.fun_of F⟩
    g_all_of := He.glo_ok X G q_g_all_of
    f_players_of := by obtain ⟨fd, F⟩ := c 25 _ rfl; exact ⟨fd, He5.fun_of F⟩
    g_players_of := He.glo_ok X G q_g_players_of
    f_check_committee := by obtain ⟨fd, F⟩ := c 26 _ rfl; exact ⟨fd, He5.fun_of F⟩
    g_check_committee := He.glo_ok X G q_g_check_committee
    f_check_counts := by obtain ⟨fd, F⟩ := c 27 _ rfl; exact ⟨fd, He5.fun_of F⟩
    g_check_counts := He.glo_ok X G q_g_check_counts
    f_check_all := by obtain ⟨fd, F⟩ := c 28 _ rfl; exact ⟨fd, He5.fun_of F⟩
    g_check_all := He.glo_ok X G q_g_check_all
    f_is_below := by obtain ⟨fd, F⟩ := c 29 _ rfl; exact ⟨fd, He5.fun_of F⟩
    g_is_below := He.glo_ok X G q_g_is_below
    f_strikers_of := by obtain ⟨fd, F⟩ := c 30 _ rfl; exact ⟨fd, He5.fun_of F⟩
    g_strikers_of := He.glo_ok X G q_g_strikers_of
    f_A_init := by obtain ⟨fd, F⟩ := c 31 _ rfl; exact ⟨fd, He5.fun_of F⟩
    f_A_owned := by obtain ⟨fd, F⟩ := c 32 _ rfl; exact ⟨fd, He5.fun_of F⟩
    f_A_search := by obtain ⟨fd, F⟩ := c 33 _ rfl; exact ⟨fd, He5.fun_of F⟩
    f_A_assign := by obtain ⟨fd, F⟩ := c 34 _ rfl; exact ⟨fd, He5.fun_of F⟩
    f_A_stuck := by obtain ⟨fd, F⟩ := c 35 _ rfl; exact ⟨fd, He5.fun_of F⟩
    f_A_blocked := by obtain ⟨fd, F⟩ := c 36 _ rfl; exact ⟨fd, He5.fun_of F⟩
    f_find_assignment := by obtain ⟨fd, F⟩ := c 37 _ rfl; exact ⟨fd, He5.fun_of F⟩
    g_find_assignment := He.glo_ok X G q_g_find_assignment
    f_is_assignment := by obtain ⟨fd, F⟩ := c 38 _ rfl; exact ⟨fd, He5.fun_of F⟩
    g_is_assignment := He.glo_ok X G q_g_is_assignment
    f_exchange := by obtain ⟨fd, F⟩ := c 39 _ rfl; exact ⟨fd, He5.fun_of F⟩
    g_exchange := He.glo_ok X G q_g_exchange
    f_turns_for := by obtain ⟨fd, F⟩ := c 40 _ rfl; exact ⟨fd, He5.fun_of F⟩
    g_turns_for := He.glo_ok X G q_g_turns_for
    f_find_turns := by obtain ⟨fd, F⟩ := c 41 _ rfl; exact ⟨fd, He5.fun_of F⟩
    g_find_turns := He.glo_ok X G q_g_find_turns
    f_find_block := by obtain ⟨fd, F⟩ := c 42 _ rfl; exact ⟨fd, He5.fun_of F⟩
    g_find_block := He.glo_ok X G q_g_find_block
    f_choices := by obtain ⟨fd, F⟩ := c 43 _ rfl; exact ⟨fd, He5.fun_of F⟩
    g_choices := He.glo_ok X G q_g_choices
    f_number_of_choices := by obtain ⟨fd, F⟩ := c 44 _ rfl; exact ⟨fd, He5.fun_of F⟩
    g_number_of_choices := He.glo_ok X G q_g_number_of_choices
    f_check_listed := by obtain ⟨fd, F⟩ := c 45 _ rfl; exact ⟨fd, He5.fun_of F⟩
    g_check_listed := He.glo_ok X G q_g_check_listed
    f_possible_committees := by obtain ⟨fd, F⟩ := c 46 _ rfl; exact ⟨fd, He5.fun_of F⟩
    g_possible_committees := He.glo_ok X G q_g_possible_committees
    f_membership := by obtain ⟨fd, F⟩ := c 47 _ rfl; exact ⟨fd, He5.fun_of F⟩
    g_membership := He.glo_ok X G q_g_membership
    f_number_of_orders := by obtain ⟨fd, F⟩ := c 48 _ rfl; exact ⟨fd, He5.fun_of F⟩
    g_number_of_orders := He.glo_ok X G q_g_number_of_orders
    f_count_orders := by obtain ⟨fd, F⟩ := c 49 _ rfl; exact ⟨fd, He5.fun_of F⟩
    g_count_orders := He.glo_ok X G q_g_count_orders
    f_count_turns := by obtain ⟨fd, F⟩ := c 50 _ rfl; exact ⟨fd, He5.fun_of F⟩
    g_count_turns := He.glo_ok X G q_g_count_turns
    f_l_stream := by obtain ⟨fd, F⟩ := c 51 _ rfl; exact ⟨fd, He5.fun_of F⟩
    g_l_stream := He.glo_ok X G q_g_l_stream
    f_l_draw := by obtain ⟨fd, F⟩ := c 52 _ rfl; exact ⟨fd, He5.fun_of F⟩
    g_l_draw := He.glo_ok X G q_g_l_draw
    f_l_shuffled := by obtain ⟨fd, F⟩ := c 53 _ rfl; exact ⟨fd, He5.fun_of F⟩
    g_l_shuffled := He.glo_ok X G q_g_l_shuffled
    f_l_players := by obtain ⟨fd, F⟩ := c 54 _ rfl; exact ⟨fd, He5.fun_of F⟩
    g_l_players := He.glo_ok X G q_g_l_players
    f_l_names := by obtain ⟨fd, F⟩ := c 55 _ rfl; exact ⟨fd, He5.fun_of F⟩
    g_l_names := He.glo_ok X G q_g_l_names
    f_l_own := by obtain ⟨fd, F⟩ := c 56 _ rfl; exact ⟨fd, He5.fun_of F⟩
    g_l_own := He.glo_ok X G q_g_l_own
    f_l_worst := by obtain ⟨fd, F⟩ := c 57 _ rfl; exact ⟨fd, He5.fun_of F⟩
    g_l_worst := He.glo_ok X G q_g_l_worst
    f_l_pass := by obtain ⟨fd, F⟩ := c 58 _ rfl; exact ⟨fd, He5.fun_of F⟩
    g_l_pass := He.glo_ok X G q_g_l_pass
    f_l_all := by obtain ⟨fd, F⟩ := c 59 _ rfl; exact ⟨fd, He5.fun_of F⟩
    g_l_all := He.glo_ok X G q_g_l_all
    f_l_below := by obtain ⟨fd, F⟩ := c 60 _ rfl; exact ⟨fd, He5.fun_of F⟩
    g_l_below := He.glo_ok X G q_g_l_below
    f_l_is_below := by obtain ⟨fd, F⟩ := c 61 _ rfl; exact ⟨fd, He5.fun_of F⟩
    g_l_is_below := He.glo_ok X G q_g_l_is_below
    f_l_drawn := by obtain ⟨fd, F⟩ := c 62 _ rfl; exact ⟨fd, He5.fun_of F⟩
    g_l_drawn := He.glo_ok X G q_g_l_drawn
    f_l_rankings := by obtain ⟨fd, F⟩ := c 63 _ rfl; exact ⟨fd, He5.fun_of F⟩
    g_l_rankings := He.glo_ok X G q_g_l_rankings
    f_l_orders := by obtain ⟨fd, F⟩ := c 64 _ rfl; exact ⟨fd, He5.fun_of F⟩
    g_l_orders := He.glo_ok X G q_g_l_orders
    f_l_sets := by obtain ⟨fd, F⟩ := c 65 _ rfl; exact ⟨fd, He5.fun_of F⟩
    g_l_sets := He.glo_ok X G q_g_l_sets
    f_l_name := by obtain ⟨fd, F⟩ := c 66 _ rfl; exact ⟨fd, He5.fun_of F⟩
    g_l_name := He.glo_ok X G q_g_l_name
    f_l_each_right := by obtain ⟨fd, F⟩ := c 67 _ rfl; exact ⟨fd, He5.fun_of F⟩
    g_l_each_right := He.glo_ok X G q_g_l_each_right
    f_l_crowd := by obtain ⟨fd, F⟩ := c 68 _ rfl; exact ⟨fd, He5.fun_of F⟩
    g_l_crowd := He.glo_ok X G q_g_l_crowd
    f_l_orders_right := by obtain ⟨fd, F⟩ := c 69 _ rfl; exact ⟨fd, He5.fun_of F⟩
    g_l_orders_right := He.glo_ok X G q_g_l_orders_right
    f_l_noted := by obtain ⟨fd, F⟩ := c 70 _ rfl; exact ⟨fd, He5.fun_of F⟩
    g_l_noted := He.glo_ok X G q_g_l_noted
    f_l_kept_right := by obtain ⟨fd, F⟩ := c 71 _ rfl; exact ⟨fd, He5.fun_of F⟩
    g_l_kept_right := He.glo_ok X G q_g_l_kept_right
    f_law := by obtain ⟨fd, F⟩ := c 72 _ rfl; exact ⟨fd, He5.fun_of F⟩
    g_law := He.glo_ok X G q_g_law }

/-! ### the hook -/
def obsB (K : PySem.W.Frag) : He.AlD := (exB K && fnL.all fun d => d.ok K, fnL.map fun d => He5.fnA K (d.at_ K))
def valB : He.AlD := (true, fnL.map He5.DefA.val)
def SaysB (K : PySem.W.Frag) : Prop := obsB K = valB
def refsF (o : Obj) : List Addr := match o.data with
  | .dict es _ => es.toList.flatMap fun e => He.refV e.val
  | .func fd => He.refV fd.code
  | .cls cd => [cd.ns]
  | .fields vs => vs.toList.flatMap He.refV
  | _ => []
def layF (g : Addr → Option Obj) (as : List Addr) : List Addr := as.flatMap fun a => match g a with
  | some o => refsF o
  | none => []
def asF (g : Addr → Option Obj) : Nat → List Addr → List Addr
  | 0, as => as
  | n + 1, as => as ++ asF g n (layF g as)
def obsBG (g : Addr → Option Obj) : He.AlD := obsB (He.frG g (asF g 5 [mainGlobals] ++ [cStatics]))
def hk : PySem.W.Hook where
  α := He.AlD
  obs := fun s => obsBG s.heap.get?
  val := fun _ => valB
  says := fun _ h => ∃ K : PySem.W.Frag, K.In h ∧ SaysB K
  of := fun _ _ e => ⟨_, He.frG_in, e⟩
  keeps := fun _ _ _ ⟨K, hK, c⟩ k => ⟨K, PySem.W.Frag.In.keeps hK k, c⟩
def ob (s : PySem.W.SharedT) : He.AlD := obsBG (HandSHeadRun.getT s)
theorem ob_eq (s : PySem.W.SharedT) : ob s = hk.obs s.abs := by
  have e : HandSHeadRun.getT s = s.abs.heap.get? := funext (HandSHeadRun.getT_eq s)
  unfold ob
  rw [e] <;> rfl
theorem SaysB.ex {K : PySem.W.Frag} (c : SaysB K) : exB K = true := (He.ba (show (exB K && fnL.all fun d => d.ok K) = true from congrArg (fun z : He.AlD => z.1) c)).1
theorem SaysB.def_ {K : PySem.W.Frag} (c : SaysB K) (i : Nat) (d : He5.DefA) (h : fnL[i]? = some d) : ∃ fd, FunD K d.name d.qual d.params d.body d.scope (d.dvs K) (d.kws K) (d.at_ K) fd := by
  have c2 := (He.ba (show (exB K && fnL.all fun d => d.ok K) = true from congrArg (fun z : He.AlD => z.1) c)).2
  have e : fnL.map (fun d => He5.fnA K (d.at_ K)) = fnL.map He5.DefA.val := congrArg (fun z : He.AlD => z.2) c
  have e2 : (fnL.map fun d => He5.fnA K (d.at_ K))[i]? = (fnL.map He5.DefA.val)[i]? := by rw [e]
  rw [List.getElem?_map, List.getElem?_map, h] at e2
  exact He5.DefA.funD (Option.some.inj e2) (List.all_eq_true.mp c2 d (List.mem_of_getElem? h))
abbrev R : PySem.W.OpenRow := PySem.W.OpenLaw.row PySem.Challenge.rw_fewleft_k48_whole_possible_committees
def names : List Str := [("_wall" : Str), ("__name__" : Str), ("StrikeError" : Str), ("InvalidRanking" : Str), ("InvalidCommittee" : Str), ("InvalidTurns" : Str), ("InvalidGame" : Str), ("InvalidCounts" : Str), ("UnknownName" : Str), ("NoPlace" : Str), ("LimitExceeded" : Str), ("LETTERS" : Str), ("MAX_LETTERS" : Str), ("MAX_NAMES" : Str), ("is_name" : Str), ("are_names" : Str), ("is_number" : Str), ("distinct" : Str), ("Committee" : Str), ("Ranking" : Str), ("members_known" : Str), ("as_committee" : Str), ("Turns" : Str), ("check_rankings" : Str), ("Game" : Str), ("MAX_LISTED" : Str), ("all_of" : Str), ("players_of" : Str), ("check_committee" : Str), ("check_counts" : Str), ("check_all" : Str), ("is_below" : Str), ("strikers_of" : Str), ("Assigning" : Str), ("find_assignment" : Str), ("is_assignment" : Str), ("exchange" : Str), ("turns_for" : Str), ("find_turns" : Str), ("find_block" : Str), ("choices" : Str), ("number_of_choices" : Str), ("check_listed" : Str), ("possible_committees" : Str), ("membership" : Str), ("number_of_orders" : Str), ("count_orders" : Str), ("count_turns" : Str), ("_law_stream" : Str), ("_law_draw" : Str), ("_law_shuffled" : Str), ("_law_players" : Str), ("_law_names" : Str), ("_law_own" : Str), ("_law_game" : Str), ("_law_worst" : Str), ("_law_pass" : Str), ("_law_all" : Str), ("_law_below" : Str), ("_law_is_below" : Str), ("_law_drawn" : Str), ("_law_assigned" : Str), ("_law_rankings" : Str), ("_law_orders" : Str), ("_law_sets" : Str), ("_law_name" : Str), ("_law_each_right" : Str), ("_law_crowd" : Str), ("_law_orders_right" : Str), ("_law_noted" : Str), ("_law_kept_right" : Str)]
end Fl
namespace Fl
open PySem PySem.Spec L2
theorem run (w : World) : HandSHeadRun.RunEq R (PySem.W.view R.prog [78]) hk ob 20000 names w := by
  intro os
  kernel_rfl
end Fl
namespace Fl
open PySem PySem.Spec L2
/-! ### data -/
abbrev CC (K : PySem.W.Frag) : Addr := He.ga K "Committee"
abbrev RC (K : PySem.W.Frag) : Addr := He.ga K "Ranking"
abbrev TC (K : PySem.W.Frag) : Addr := He.ga K "Turns"
abbrev AC (K : PySem.W.Frag) : Addr := He.ga K "Assigning"
abbrev sv (xs : List Str) : List V := xs.map V.str
/-- a dict, open or locked -/
def isDct : HO → Bool
  | .dK _ => true
  | .frz _ (.dK _) => true
  | _ => false
/-- all that is tracked is as it was; a dict may be locked or be open again -/
structure Sm (H H' : Hp) : Prop where
  ex : ∀ b o, isDct o = false → H b = some o → H' b = some o
  rd : ∀ b kvs, Rd H b (.dK kvs) → Rd H' b (.dK kvs)
theorem Sm.refl (H : Hp) : Sm H H := ⟨fun _ _ _ h => h, fun _ _ h => h⟩
theorem Sm.trans {H H1 H2 : Hp} (a : Sm H H1) (b : Sm H1 H2) : Sm H H2 := ⟨fun x o n h => b.ex x o n (a.ex x o n h), fun x k h => b.rd x k (a.rd x k h)⟩
theorem Sm.of {H H' : Hp} (h : Same H H') : Sm H H' := ⟨fun b o _ e => h b o e, fun b kvs e => e.elim (fun e => .inl (h b _ e)) fun ⟨o, e⟩ => .inr ⟨o, h b _ e⟩⟩
theorem same_new {H : Hp} {p : Addr} (h : H p = none) (o : HO) : Same H (upd H p o) := fun b u e => by rw [upd_ne (ne_of_none e h)]; exact e
theorem Sm.new {H : Hp} {p : Addr} (h : H p = none) (o : HO) : Sm H (upd H p o) := .of (same_new h o)
theorem Sm.lock {H : Hp} {d : Addr} {od : Obj} {kvs : List (Key × V)} (h : H d = some (.dK kvs)) : Sm H (upd H d (.frz od (.dK kvs))) := by
  refine ⟨fun b o n e => ?_, fun b k e => ?_⟩
  · rw [upd_ne (fun z => by rw [z, h] at e; cases e; cases n)]; exact e
  · by_cases z : b = d
    · subst z
      rcases e with e | ⟨o, e⟩
      · rw [h] at e; cases e; exact .inr ⟨od, upd_same⟩
      · rw [h] at e; cases e
    · rcases e with e | ⟨o, e⟩
      · exact .inl (by rw [upd_ne z]; exact e)
      · exact .inr ⟨o, by rw [upd_ne z]; exact e⟩
theorem Sm.unlock {H : Hp} {d : Addr} {od : Obj} {kvs : List (Key × V)} (h : H d = some (.frz od (.dK kvs))) : Sm H (upd H d (.dK kvs)) := by
  refine ⟨fun b o n e => ?_, fun b k e => ?_⟩
  · rw [upd_ne (fun z => by rw [z, h] at e; cases e; cases n)]; exact e
  · by_cases z : b = d
    · subst z
      rcases e with e | ⟨o, e⟩
      · rw [h] at e; cases e
      · rw [h] at e; cases e; exact .inl upd_same
    · rcases e with e | ⟨o, e⟩
      · exact .inl (by rw [upd_ne z]; exact e)
      · exact .inr ⟨o, by rw [upd_ne z]; exact e⟩
/-- behind a lock: what extended the locked heap extends the heap -/
theorem same_unlock {H H' : Hp} {d : Addr} {od : Obj} {u : HO} (h : H d = some u) (s : Same (upd H d (.frz od u)) H') : Same H (upd H' d u) := fun b o e => by
  by_cases z : b = d
  · subst z; rw [upd_same]; rw [h] at e; exact e
  · rw [upd_ne z]; exact s b o (by rw [upd_ne z]; exact e)
theorem Sm.seq {K : PySem.W.Frag} {H H' : Hp} {a : Addr} {xs : List V} (e : Sm H H') (h : SqL K H a xs) : SqL K H' a xs := by
  rcases h with h | h
  · rcases h with h | ⟨o, h⟩
    · exact .inl (.inl (e.ex _ _ rfl h))
    · exact .inl (.inr ⟨o, e.ex _ _ rfl h⟩)
  · exact .inr h
theorem Sm.lst {H H' : Hp} {a : Addr} {xs : List V} (e : Sm H H') (h : H a = some (.lst xs)) : H' a = some (.lst xs) := e.ex _ _ rfl h
theorem Sm.ins {H H' : Hp} {a C dx : Addr} {fs : List (Str × V)} (e : Sm H H') (h : H a = some (.ins C dx fs)) : H' a = some (.ins C dx fs) := e.ex _ _ rfl h
/-- a list that never changes any more -/
def FzL (H : Hp) (l : Addr) (xs : List V) : Prop := ∃ o, H l = some (.frz o (.lst xs))
theorem FzL.sm {H H' : Hp} {l : Addr} {xs : List V} (h : FzL H l xs) (e : Sm H H') : FzL H' l xs := let ⟨o, h⟩ := h; ⟨o, e.ex _ _ rfl h⟩
theorem FzL.seq {K : PySem.W.Frag} {H : Hp} {l : Addr} {xs : List V} (h : FzL H l xs) : SqL K H l xs := .inl (.inr h)
/-- a change of an object that is neither an instance nor closed -/
structure Md (H H' : Hp) : Prop where
  fz : ∀ b o u, H b = some (.frz o u) → H' b = some (.frz o u)
  ins : ∀ b C dx fs, H b = some (.ins C dx fs) → H' b = some (.ins C dx fs)
  tr : ∀ b o, H b = some o → ∃ o', H' b = some o'
theorem Md.of {H H' : Hp} (h : Same H H') : Md H H' := ⟨fun _ _ _ e => h _ _ e, fun _ _ _ _ e => h _ _ e, fun _ o e => ⟨o, h _ _ e⟩⟩
theorem Md.trans {H H1 H2 : Hp} (a : Md H H1) (b : Md H1 H2) : Md H H2 := ⟨fun _ _ _ e => b.fz _ _ _ (a.fz _ _ _ e), fun _ _ _ _ e => b.ins _ _ _ _ (a.ins _ _ _ _ e), fun x o e => let ⟨o', e'⟩ := a.tr x o e; b.tr x o' e'⟩
theorem upd_tr {H : Hp} {D : Addr} {o : HO} : ∀ b u, H b = some u → ∃ u', (upd H D o) b = some u' := fun b u e => by
  by_cases h : b = D
  · subst h; exact ⟨o, upd_same⟩
  · exact ⟨u, by rw [upd_ne h]; exact e⟩
theorem Md.lst {H : Hp} {D : Addr} {xs : List V} (h : H D = some (.lst xs)) (o : HO) : Md H (upd H D o) := ⟨fun b q u e => by rw [upd_ne (ne_of e h (fun z => nomatch z))]; exact e, fun b C dx fs e => by rw [upd_ne (ne_of e h (fun z => nomatch z))]; exact e, upd_tr⟩
theorem Md.dK {H : Hp} {D : Addr} {xs : List (Key × V)} (h : H D = some (.dK xs)) (o : HO) : Md H (upd H D o) := ⟨fun b q u e => by rw [upd_ne (ne_of e h (fun z => nomatch z))]; exact e, fun b C dx fs e => by rw [upd_ne (ne_of e h (fun z => nomatch z))]; exact e, upd_tr⟩
/-- a committee of the names ms -/
def ComAt (K : PySem.W.Frag) (H : Hp) (a : Addr) (ms : List Str) : Prop := ∃ dx l, H a = some (.ins (CC K) dx [("own_members", .ref l)]) ∧ FzL H l (sv ms)
/-- a ranking's table of places -/
def plcs (o : List Str) : List (Key × V) := o.zipIdx.map fun q => (Sum.inr q.1, V.int (q.2 : Nat))
def RkAt (K : PySem.W.Frag) (H : Hp) (a : Addr) (o : List Str) : Prop := ∃ dx l d q, H a = some (.ins (RC K) dx [("order", .ref l), ("places", .ref d)]) ∧ FzL H l (sv o) ∧ H d = some (.frz q (.dK (plcs o)))
theorem ComAt.sm {K : PySem.W.Frag} {H H' : Hp} {a : Addr} {ms : List Str} (h : ComAt K H a ms) (e : Sm H H') : ComAt K H' a ms := by
  obtain ⟨dx, l, h1, h2⟩ := h
  exact ⟨dx, l, e.ins h1, h2.sm e⟩
theorem ComAt.md {K : PySem.W.Frag} {H H' : Hp} {a : Addr} {ms : List Str} (h : ComAt K H a ms) (e : Md H H') : ComAt K H' a ms := by
  obtain ⟨dx, l, h1, o, h2⟩ := h
  exact ⟨dx, l, e.ins _ _ _ _ h1, o, e.fz _ _ _ h2⟩
theorem RkAt.md {K : PySem.W.Frag} {H H' : Hp} {a : Addr} {ms : List Str} (h : RkAt K H a ms) (e : Md H H') : RkAt K H' a ms := by
  obtain ⟨dx, l, d, q, h1, ⟨o, h2⟩, h3⟩ := h
  exact ⟨dx, l, d, q, e.ins _ _ _ _ h1, ⟨o, e.fz _ _ _ h2⟩, e.fz _ _ _ h3⟩
theorem ComAt.s {K : PySem.W.Frag} {H H' : Hp} {a : Addr} {ms : List Str} (h : ComAt K H a ms) (e : Same H H') : ComAt K H' a ms := h.md (.of e)
theorem RkAt.s {K : PySem.W.Frag} {H H' : Hp} {a : Addr} {ms : List Str} (h : RkAt K H a ms) (e : Same H H') : RkAt K H' a ms := h.md (.of e)
/-- a dict of rankings: players in order, each with its ranking -/
abbrev Rks := List (Str × List Str)
def RksOf (K : PySem.W.Frag) (H : Hp) (rs : Rks) (kvs : List (Key × V)) : Prop := kvs.length = rs.length ∧ ∀ (i : Nat) (q : Str × List Str), rs[i]? = some q → ∃ a, kvs[i]? = some (Sum.inr q.1, V.ref a) ∧ RkAt K H a q.2
def RksAt (K : PySem.W.Frag) (H : Hp) (r : Addr) (rs : Rks) : Prop := ∃ kvs, Rd H r (.dK kvs) ∧ RksOf K H rs kvs
theorem RksOf.md {K : PySem.W.Frag} {H H' : Hp} {rs : Rks} {kvs : List (Key × V)} (h : RksOf K H rs kvs) (e : Md H H') : RksOf K H' rs kvs := ⟨h.1, fun i q e1 => let ⟨a, z1, z2⟩ := h.2 i q e1; ⟨a, z1, z2.md e⟩⟩
theorem Rd.s {H H' : Hp} {a : Addr} {u : HO} (h : Rd H a u) (s : Same H H') : Rd H' a u := h.elim (fun e => .inl (s _ _ e)) fun ⟨o, e⟩ => .inr ⟨o, s _ _ e⟩
theorem RksAt.s {K : PySem.W.Frag} {H H' : Hp} {r : Addr} {rs : Rks} (h : RksAt K H r rs) (s : Same H H') : RksAt K H' r rs := let ⟨kvs, h1, h2⟩ := h; ⟨kvs, Rd.s h1 s, h2.md (.of s)⟩
/-- a lock, an unlock of an open dict leaves what is closed -/
theorem md_lock {H : Hp} {d : Addr} {od : Obj} {kvs : List (Key × V)} (h : H d = some (.dK kvs)) : Md H (upd H d (.frz od (.dK kvs))) := .dK h _
/-- a dict of counts -/
abbrev Cts := List (Str × Int)
def ctK (cs : Cts) : List (Key × V) := cs.map fun q => (Sum.inr q.1, V.int q.2)
/-! ### names -/
def okLetter (c : Nat) : Bool := 97 ≤ c && c ≤ 122
def okName (x : Str) : Bool := (1 ≤ x.cps.size && x.cps.size ≤ 8) && x.cps.toList.all okLetter
def Nms (xs : List Str) : Prop := ∀ x ∈ xs, okName x = true

section
variable {X : Cx} {st : Stmt} {t : TS} {e : Expr} {te : TE}
/-- behind the statement the list or dict at d is closed for ever: d is the reading's choice -/
def tFz (t : TS) : TS := fun D σ H => t { D with nx := fun σ' H' => ∃ d u, H' d = some u ∧ Mut (some u) ∧ ∀ od, D.nx σ' (upd H' d (.frz od u)) } σ H
theorem ps_fz (h : PS X st t) : PS X st (tFz t) := by
  refine ⟨fun pins s σ H D I hw => ?_⟩
  refine thn (h.run pins s σ H _ I hw) fun f s1 q => ?_
  cases f with
  | next =>
    obtain ⟨σ', H', I2, d, u, e, mu, q⟩ := q
    obtain ⟨od, I3⟩ := I2.lock e mu
    exact ⟨σ', _, I3, q od⟩
  | brk => exact q
  | cont => exact q
  | ret v => exact q
/-- the value is a list or a dict that is closed for ever -/
def tFzE (t : TE) : TE := fun σ H Q => t σ H fun v H' => ∃ d u, H' d = some u ∧ Mut (some u) ∧ ∀ od, Q v (upd H' d (.frz od u))
theorem pe_fz (h : PE X e te) : PE X e (tFzE te) := by
  refine ⟨fun pins s σ H Q I hw => ?_⟩
  refine thn (h.run pins s σ H _ I hw) fun u s1 q => ?_
  obtain ⟨v, H', I2, r, d, u', e, mu, q⟩ := q
  obtain ⟨od, I3⟩ := I2.lock e mu
  exact ⟨v, _, I3, r, q od⟩
/-- a walk over the dict at d, open or closed: H1 the heap in which it is closed, H3 the heap behind it -/
def tLockR (t : TS) : TS := fun D σ H => ∃ d kvs, Rd H d (.dK kvs) ∧ ∀ H1 o, Md H H1 → H1 d = some (.frz o (.dK kvs)) → (∀ b, b ≠ d → H1 b = H b) →
  t ⟨fun σ' H2 => H2 d = some (.frz o (.dK kvs)) ∧ ∀ H3, H3 d = H d → (∀ b, b ≠ d → H3 b = H2 b) → D.nx σ' H3, fun v H2 => H2 d = some (.frz o (.dK kvs)) ∧ ∀ H3, H3 d = H d → (∀ b, b ≠ d → H3 b = H2 b) → D.rt v H3,
    fun σ' H2 => H2 d = some (.frz o (.dK kvs)) ∧ ∀ H3, H3 d = H d → (∀ b, b ≠ d → H3 b = H2 b) → D.bk σ' H3, fun σ' H2 => H2 d = some (.frz o (.dK kvs)) ∧ ∀ H3, H3 d = H d → (∀ b, b ≠ d → H3 b = H2 b) → D.ct σ' H3⟩ σ H1
def tLockER (t : TE) : TE := fun σ H Q => ∃ d kvs, Rd H d (.dK kvs) ∧ ∀ H1 o, Md H H1 → H1 d = some (.frz o (.dK kvs)) → (∀ b, b ≠ d → H1 b = H b) →
  t σ H1 fun v H2 => H2 d = some (.frz o (.dK kvs)) ∧ ∀ H3, H3 d = H d → (∀ b, b ≠ d → H3 b = H2 b) → Q v H3
theorem ps_lockR (h : PS X st t) : PS X st (tLockR t) := by
  refine ⟨fun pins s σ H D I hw => ?_⟩
  obtain ⟨d, kvs, hd, hw⟩ := hw
  rcases hd with hd | ⟨o, hd⟩
  · obtain ⟨od, I1⟩ := I.lock hd trivial
    refine thn (h.run pins s σ _ _ I1 (hw _ od (md_lock hd) upd_same fun b hb => upd_ne hb)) fun f s1 q => ?_
    cases f with
    | next => obtain ⟨σ', H', I2, e, q⟩ := q; exact ⟨σ', _, I2.unlock e (I.nofrz hd trivial), q _ (by rw [upd_same, hd]) fun b hb => upd_ne hb⟩
    | brk => obtain ⟨σ', H', I2, e, q⟩ := q; exact ⟨σ', _, I2.unlock e (I.nofrz hd trivial), q _ (by rw [upd_same, hd]) fun b hb => upd_ne hb⟩
    | cont => obtain ⟨σ', H', I2, e, q⟩ := q; exact ⟨σ', _, I2.unlock e (I.nofrz hd trivial), q _ (by rw [upd_same, hd]) fun b hb => upd_ne hb⟩
    | ret v => obtain ⟨x, σ', H', I2, r, e, q⟩ := q; exact ⟨x, σ', _, I2.unlock e (I.nofrz hd trivial), r, q _ (by rw [upd_same, hd]) fun b hb => upd_ne hb⟩
  · refine thn (h.run pins s σ _ _ I (hw H o (.of fun _ _ e => e) hd fun _ _ => rfl)) fun f s1 q => ?_
    cases f with
    | next => obtain ⟨σ', H', I2, e, q⟩ := q; exact ⟨σ', _, I2, q _ (by rw [e, hd]) fun b hb => rfl⟩
    | brk => obtain ⟨σ', H', I2, e, q⟩ := q; exact ⟨σ', _, I2, q _ (by rw [e, hd]) fun b hb => rfl⟩
    | cont => obtain ⟨σ', H', I2, e, q⟩ := q; exact ⟨σ', _, I2, q _ (by rw [e, hd]) fun b hb => rfl⟩
    | ret v => obtain ⟨x, σ', H', I2, r, e, q⟩ := q; exact ⟨x, σ', _, I2, r, q _ (by rw [e, hd]) fun b hb => rfl⟩
theorem pe_lockR (h : PE X e te) : PE X e (tLockER te) := by
  refine ⟨fun pins s σ H Q I hw => ?_⟩
  obtain ⟨d, kvs, hd, hw⟩ := hw
  rcases hd with hd | ⟨o, hd⟩
  · obtain ⟨od, I1⟩ := I.lock hd trivial
    refine thn (h.run pins s σ _ _ I1 (hw _ od (md_lock hd) upd_same fun b hb => upd_ne hb)) fun u s1 q => ?_
    obtain ⟨x, H', I2, r, e, q⟩ := q
    exact ⟨x, _, I2.unlock e (I.nofrz hd trivial), r, q _ (by rw [upd_same, hd]) fun b hb => upd_ne hb⟩
  · refine thn (h.run pins s σ _ _ I (hw H o (.of fun _ _ e => e) hd fun _ _ => rfl)) fun u s1 q => ?_
    obtain ⟨x, H', I2, r, e, q⟩ := q
    exact ⟨x, _, I2, r, q _ (by rw [e, hd]) fun b hb => rfl⟩
end
section
variable {H H1 H2 H3 : Hp} {d : Addr} {o : Obj} {kvs : List (Key × V)}
theorem lk_same (e1 : ∀ b, b ≠ d → H1 b = H b) (s : Same H1 H2) (e3 : H3 d = H d) (e4 : ∀ b, b ≠ d → H3 b = H2 b) : Same H H3 := fun b u q => by
  by_cases z : b = d
  · subst z; rw [e3]; exact q
  · rw [e4 b z]; exact s b u (by rw [e1 b z]; exact q)
/-- a new object made under the lock -/
theorem lk_new {b : Addr} {u : HO} (h1 : H1 d = some (.frz o (.dK kvs))) (s : Same H1 H2) (e4 : ∀ b, b ≠ d → H3 b = H2 b) (q : H2 b = some u) (n : isDct u = false) : H3 b = some u := by
  rw [e4 b (fun z => by subst z; rw [s _ _ h1] at q; cases q; cases n)]; exact q
theorem lk_none {b : Addr} (e1 : ∀ b, b ≠ d → H1 b = H b) (h1 : H1 d = some (.frz o (.dK kvs))) (q : H1 b = none) : H b = none := by
  rw [← e1 b (fun z => by subst z; rw [h1] at q; cases q)]; exact q
end
/-! ### comprehensions whose turns leave all that was tracked -/
section
variable {J : It} {n : Nat} {G : Hp → Prop} {Y : Nat → Hp → V → Hp → Prop}
theorem lc_g (w : Walk J n G Y) {g : TG} {tt : TT} {te : TE} {vs : List Nat} {σ : L2.St} {H1 : Hp} {Qd : Addr → Hp → Prop} (R : Nat → List V → Hp → Prop) (hn : n ≤ 1000) (hG : ∀ H, Same H1 H → G H) (h0 : ∀ H, Same H1 H → R 0 [] H) (hmd : ∀ i acc H H', R i acc H → Md H H' → R i acc H') (hz : ∀ i acc H, R i acc H → acc.length ≤ i)
    (hs : ∀ i acc x H H' (Qy : V → Hp → Prop) (Qn : Hp → Prop), i < n → Same H1 H → R i acc H → Y i H x H' → (∀ y H4, Same H H4 → R (i + 1) (acc ++ [y]) H4 → Qy y H4) → (∀ H3, Same H H3 → R (i + 1) acc H3 → Qn H3) →
      g x (wipe σ vs) H' fun σ2 H2 => wipe σ2 vs = wipe σ vs ∧ tt σ2 H2 fun b H3 => if b = true then te σ2 H3 Qy else Qn H3)
    (hd : ∀ D acc H, H1 D = none → Same H1 H → H D = some (.lst acc) → R n acc H → Qd D H) :
    ∀ D, H1 D = none → ∃ W : Nat → Nat → Hp → Prop, (∃ m, W 0 m (upd H1 D (.lst []))) ∧ ∀ i m H, W i m H →
      (J.stop i H ∧ Qd D H) ∨ (J.go i H ∧ ∃ Nx : Hp → Prop, (∀ H', Nx H' → ∃ m', m' < m ∧ W (i + 1) m' H') ∧ ∀ x H', J.yld i H x H' → g x (wipe σ vs) H' fun σ2 H2 => wipe σ2 vs = wipe σ vs ∧ tt σ2 H2 fun b H3 =>
        if b = true then te σ2 H3 fun y H4 => ∃ acc, H4 D = some (.lst acc) ∧ acc.length < sizeLine ∧ Nx (upd H4 D (.lst (acc ++ [y]))) else Nx H3) := by
  intro D hD
  refine lc_it w (fun i H => Same H1 H ∧ ∃ acc, H D = some (.lst acc) ∧ R i acc H) ⟨same_new hD _, [], upd_same, h0 _ (same_new hD _)⟩ (fun i H _ h => hG H h.1) ?_ ?_
  · rintro i x H H' hi ⟨s, acc, ha, r⟩ y
    refine hs i acc x H H' _ _ hi s r y (fun y H4 s4 r4 => ?_) (fun H3 s3 r3 => ⟨s.trans s3, acc, s3 _ _ ha, r3⟩)
    have h4 := s4 _ _ ha
    refine ⟨acc, h4, ?_, ?_, acc ++ [y], upd_same, hmd _ _ _ _ r4 (Md.lst h4 _)⟩
    · exact small1000 (Nat.le_trans (hz _ _ _ r) (by omega))
    · exact fun b u q => by rw [upd_ne (ne_of_none q hD)]; exact s4 _ _ (s _ _ q)
  · rintro H ⟨s, acc, ha, r⟩
    exact hd D acc H hD s ha r
theorem dc_it (w : Walk J n G Y) {g : TG} {tt : TT} {tk tv : TE} {vs : List Nat} {σ : L2.St} {H1 : Hp} {D : Addr} {Qd : Hp → Prop} (Pv : Nat → Hp → Prop) (h0 : Pv 0 (upd H1 D (.dK []))) (hG : ∀ i H, i ≤ n → Pv i H → G H)
    (hs : ∀ i x H H', i < n → Pv i H → Y i H x H' → g x (wipe σ vs) H' fun σ2 H2 => wipe σ2 vs = wipe σ vs ∧ tt σ2 H2 fun b H3 =>
      if b = true then tk σ2 H3 fun y H4 => tv σ2 H4 fun z H5 => ∃ kvs k, y = kV k ∧ H5 D = some (.dK kvs) ∧ kvs.length < sizeLine ∧ Pv (i + 1) (upd H5 D (.dK (putK kvs k z))) else Pv (i + 1) H3) (hd : ∀ H, Pv n H → Qd H) :
    ∃ W : Nat → Nat → Hp → Prop, (∃ m, W 0 m (upd H1 D (.dK []))) ∧ ∀ i m H, W i m H →
      (J.stop i H ∧ Qd H) ∨ (J.go i H ∧ ∃ Nx : Hp → Prop, (∀ H', Nx H' → ∃ m', m' < m ∧ W (i + 1) m' H') ∧ ∀ x H', J.yld i H x H' → g x (wipe σ vs) H' fun σ2 H2 => wipe σ2 vs = wipe σ vs ∧ tt σ2 H2 fun b H3 =>
        if b = true then tk σ2 H3 fun y H4 => tv σ2 H4 fun z H5 => ∃ kvs k, y = kV k ∧ H5 D = some (.dK kvs) ∧ kvs.length < sizeLine ∧ Nx (upd H5 D (.dK (putK kvs k z))) else Nx H3) := by
  refine ⟨fun i m H => i + m = n ∧ Pv i H, ⟨n, by omega, h0⟩, ?_⟩
  rintro i m H ⟨e, p⟩
  by_cases hi : i < n
  · refine .inr ⟨w.goes i H hi (hG i H (by omega) p), Pv (i + 1), fun H' p' => ⟨m - 1, by omega, by omega, p'⟩, fun x H' y => hs i x H H' hi p (w.yields i H x H' hi (hG i H (by omega) p) y)⟩
  · have ei : i = n := by omega
    subst ei
    exact .inl ⟨w.stops H (hG i H (by omega) p), hd H p⟩
/-- .. of a dict: R tells of the keys and values so far -/
theorem dc_g (w : Walk J n G Y) {g : TG} {tt : TT} {tk tv : TE} {vs : List Nat} {σ : L2.St} {H1 : Hp} {Qd : Addr → Hp → Prop} (R : Nat → List (Key × V) → Hp → Prop) (hn : n ≤ 1000) (hG : ∀ H, Same H1 H → G H) (h0 : ∀ H, Same H1 H → R 0 [] H) (hmd : ∀ i acc H H', R i acc H → Md H H' → R i acc H') (hz : ∀ i acc H, R i acc H → acc.length ≤ i)
    (hs : ∀ i acc x H H' (Qy : V → V → Hp → Prop) (Qn : Hp → Prop), i < n → Same H1 H → R i acc H → Y i H x H' → (∀ k z H4, Same H H4 → R (i + 1) (putK acc k z) H4 → Qy (kV k) z H4) → (∀ H3, Same H H3 → R (i + 1) acc H3 → Qn H3) →
      g x (wipe σ vs) H' fun σ2 H2 => wipe σ2 vs = wipe σ vs ∧ tt σ2 H2 fun b H3 => if b = true then tk σ2 H3 fun y H4 => tv σ2 H4 fun z H5 => Qy y z H5 else Qn H3)
    (hd : ∀ D acc H, H1 D = none → Same H1 H → H D = some (.dK acc) → R n acc H → Qd D H) :
    ∀ D, H1 D = none → ∃ W : Nat → Nat → Hp → Prop, (∃ m, W 0 m (upd H1 D (.dK []))) ∧ ∀ i m H, W i m H →
      (J.stop i H ∧ Qd D H) ∨ (J.go i H ∧ ∃ Nx : Hp → Prop, (∀ H', Nx H' → ∃ m', m' < m ∧ W (i + 1) m' H') ∧ ∀ x H', J.yld i H x H' → g x (wipe σ vs) H' fun σ2 H2 => wipe σ2 vs = wipe σ vs ∧ tt σ2 H2 fun b H3 =>
        if b = true then tk σ2 H3 fun y H4 => tv σ2 H4 fun z H5 => ∃ kvs k, y = kV k ∧ H5 D = some (.dK kvs) ∧ kvs.length < sizeLine ∧ Nx (upd H5 D (.dK (putK kvs k z))) else Nx H3) := by
  intro D hD
  refine dc_it w (fun i H => Same H1 H ∧ ∃ acc, H D = some (.dK acc) ∧ R i acc H) ⟨same_new hD _, [], upd_same, h0 _ (same_new hD _)⟩ (fun i H _ h => hG H h.1) ?_ ?_
  · rintro i x H H' hi ⟨s, acc, ha, r⟩ y
    refine hs i acc x H H' (fun y z H5 => ∃ kvs k, y = kV k ∧ H5 D = some (.dK kvs) ∧ kvs.length < sizeLine ∧ _) _ hi s r y (fun k z H4 s4 r4 => ?_) (fun H3 s3 r3 => ⟨s.trans s3, acc, s3 _ _ ha, r3⟩)
    have h4 := s4 _ _ ha
    refine ⟨acc, k, rfl, h4, ?_, ?_, _, upd_same, hmd _ _ _ _ r4 (Md.dK h4 _)⟩
    · exact small1000 (Nat.le_trans (hz _ _ _ r) (by omega))
    · exact fun b u q => by rw [upd_ne (ne_of_none q hD)]; exact s4 _ _ (s _ _ q)
  · rintro H ⟨s, acc, ha, r⟩
    exact hd D acc H hD s ha r
end
end Fl
namespace Fl
open PySem
open Sem (wp)
/-! ### sleeping generators are left alone -/
def asleep : GenState → Bool
  | .suspended .. => true
  | _ => false
/-- the same look, but it can not be woken -/
def stub : GenState → GenState
  | .suspended _ l c p fs cl => .suspended (fun _ => .unsupported "") l c p fs cl
  | x => x
theorem stub_seen (x : GenState) : (stub x).seen = x.seen := by cases x <;> rfl
theorem stub_bare (x : GenState) : (stub x).bare = x.bare := by cases x <;> rfl
def clean : GenState → Prop
  | .suspended _ _ _ _ fs _ => splitAtGen fs = none
  | _ => True
def cleanE : End → Prop
  | .susp _ _ _ _ _ _ fs => splitAtGen fs = none
  | _ => True
theorem clean_of {e : End} (h : cleanE e) : clean e.genState := by
  cases e <;> exact h
/-- the table a as run, b as it is; G: as it was at the start -/
structure FG (G a b : Array GenState) : Prop where
  sz : a.size = b.size
  le : G.size ≤ a.size
  st : ∀ (i : Nat) x, G[i]? = some x → asleep x = true → a[i]? = some (stub x) ∧ b[i]? = some x
  eq : ∀ (i : Nat) y, a[i]? = some y → (∀ x, G[i]? = some x → asleep x = false) → b[i]? = some y ∧ clean y
theorem split_append : ∀ (a b : List Frame), splitAtGen a = none → splitAtGen b = none → splitAtGen (a ++ b) = none
  | [], _, _, h => h
  | .ret .. :: r, b, h, h' => by
    have h1 : (splitAtGen r).map _ = none := h
    show (splitAtGen (r ++ b)).map _ = none
    rw [split_append r b (by simpa using h1) h']; rfl
  | .gen .. :: r, b, h, h' => nomatch h
theorem split_tail {k h g l c p kp} {fs : List Frame} (e : splitAtGen (.ret k h g l c p kp :: fs) = none) : splitAtGen fs = none := by
  have h1 : (splitAtGen fs).map _ = none := e
  simpa using h1
theorem no_runs {M : Model} {Γ : Ctx} {p : Pos} {w : String} {fs : List Frame} {s s' : Shared} {e : End} (h : Runs M Γ p (.unsupported w) fs s e s') : False := by
  generalize ht : (Sem.unsupported w : Sem PySem.Fin) = t at h
  induction h <;> first | (cases ht; done) | (rename_i ih; exact ih ht) | (rename_i ih _; exact ih ht)
section
variable {G a b : Array GenState}
theorem FG.look (h : FG G a b) {g : Nat} {x : GenState} (e : a[g]? = some x) : ∃ y, b[g]? = some y ∧ y.seen = x.seen := by
  cases hg : G[g]? with
  | none => exact ⟨x, (h.eq g x e fun z q => by rw [hg] at q; cases q).1, rfl⟩
  | some z =>
    by_cases ha : asleep z = true
    · obtain ⟨h1, h2⟩ := h.st g z hg ha
      rw [e] at h1; cases h1
      exact ⟨z, h2, (stub_seen z).symm⟩
    · exact ⟨x, (h.eq g x e fun u q => by rw [hg] at q; cases q; simpa using ha).1, rfl⟩
/-- what can be woken is no stub -/
theorem FG.live (h : FG G a b) {g : Nat} {x : GenState} (e : a[g]? = some x) (hx : ∀ y, asleep y = true → x ≠ stub y) : b[g]? = some x ∧ clean x ∧ ∀ y, G[g]? = some y → asleep y = false := by
  have q : ∀ y, G[g]? = some y → asleep y = false := fun y hy => by
    by_cases ha : asleep y = true
    · obtain ⟨h1, _⟩ := h.st g y hy ha
      rw [e] at h1; cases h1
      exact absurd rfl (hx y ha)
    · simpa using ha
  exact ⟨(h.eq g x e q).1, (h.eq g x e q).2, q⟩
theorem FG.set (h : FG G a b) {g : Nat} {x : GenState} (q : ∀ y, G[g]? = some y → asleep y = false) (c : clean x) : FG G (a.setIfInBounds g x) (b.setIfInBounds g x) := by
  refine ⟨by simp [h.sz], by simp [h.le], fun i z hz ha => ?_, fun i y hy hn => ?_⟩
  · have hi : i ≠ g := fun e => by subst e; rw [q z hz] at ha; cases ha
    obtain ⟨h1, h2⟩ := h.st i z hz ha
    rw [Array.getElem?_setIfInBounds_ne (Ne.symm hi), Array.getElem?_setIfInBounds_ne (Ne.symm hi)]
    exact ⟨h1, h2⟩
  · by_cases hi : g = i
    · subst hi
      rw [Array.getElem?_setIfInBounds_self] at hy ⊢
      rw [← h.sz]
      split at hy
      · rename_i hl
        cases hy
        rw [if_pos hl]
        exact ⟨rfl, c⟩
      · cases hy
    · rw [Array.getElem?_setIfInBounds_ne hi] at hy ⊢
      exact h.eq i y hy hn
theorem FG.push (h : FG G a b) (c : Code) : FG G (a.push (.fresh c)) (b.push (.fresh c)) := by
  refine ⟨by simp [h.sz], by simp; have := h.le; omega, fun i z hz ha => ?_, fun i y hy hn => ?_⟩
  · obtain ⟨h1, h2⟩ := h.st i z hz ha
    have l1 := (Array.getElem?_eq_some_iff.mp h1).1
    have l2 := (Array.getElem?_eq_some_iff.mp h2).1
    rw [Array.getElem?_push, Array.getElem?_push, if_neg (by omega), if_neg (by omega)]
    exact ⟨h1, h2⟩
  · rw [Array.getElem?_push] at hy ⊢
    rw [← h.sz]
    split at hy
    · rename_i e
      rw [if_pos e]
      cases hy
      exact ⟨rfl, trivial⟩
    · rename_i e
      rw [if_neg e]
      exact h.eq i y hy hn
end
/-- the table replaced -/
abbrev wG (s : Shared) (b : Array GenState) : Shared := { s with gens := b }
theorem not_stub {x : GenState} (h : asleep x = false) : ∀ y, asleep y = true → x ≠ stub y := fun y hy e => by
  cases y with
  | suspended => subst e; cases h
  | _ => cases hy
theorem runs_fg {M : Model} {G : Array GenState} {Γ : Ctx} {p : Pos} {t : Sem PySem.Fin} {fs : List Frame} {s s' : Shared} {e : End} (h : Runs M Γ p t fs s e s') :
    splitAtGen fs = none → ∀ b, FG G s.gens b → ∃ b', Runs M Γ p t fs (wG s b) e (wG s' b') ∧ FG G s'.gens b' ∧ cleanE e := by
  induction h with
  | done => intro _ b f; exact ⟨b, .done, f, trivial⟩
  | raise => intro _ b f; exact ⟨b, .raise, f, trivial⟩
  | again hq _ ih => intro hf b f; obtain ⟨b', r, f', c⟩ := ih rfl b f; exact ⟨b', .again hq r, f', c⟩
  | rule _ ih => intro hf b f; obtain ⟨b', r, f', c⟩ := ih rfl b f; exact ⟨b', .rule r, f', c⟩
  | «at» _ ih => intro hf b f; obtain ⟨b', r, f', c⟩ := ih rfl b f; exact ⟨b', .at r, f', c⟩
  | load e _ ih => intro hf b f; obtain ⟨b', r, f', c⟩ := ih rfl b f; exact ⟨b', .load e r, f', c⟩
  | update e _ ih => intro hf b f; obtain ⟨b', r, f', c⟩ := ih rfl b f; exact ⟨b', .update e r, f', c⟩
  | loadIfAlive _ ih => intro hf b f; obtain ⟨b', r, f', c⟩ := ih rfl b f; exact ⟨b', .loadIfAlive r, f', c⟩
  | point _ ih => intro hf b f; obtain ⟨b', r, f', c⟩ := ih rfl b f; exact ⟨b', .point r, f', c⟩
  | alloc _ ih => intro hf b f; obtain ⟨b', r, f', c⟩ := ih rfl b f; exact ⟨b', .alloc r, f', c⟩
  | fresh _ ih => intro hf b f; obtain ⟨b', r, f', c⟩ := ih rfl b f; exact ⟨b', .fresh r, f', c⟩
  | ask _ ih => intro hf b f; obtain ⟨b', r, f', c⟩ := ih rfl b f; exact ⟨b', .ask r, f', c⟩
  | choose hn _ ih => intro hf b f; obtain ⟨b', r, f', c⟩ := ih rfl b f; exact ⟨b', .choose hn r, f', c⟩
  | os _ ih => intro hf b f; obtain ⟨b', r, f', c⟩ := ih rfl b f; exact ⟨b', .os r, f', c⟩
  | handled _ ih => intro hf b f; obtain ⟨b', r, f', c⟩ := ih rfl b f; exact ⟨b', .handled r, f', c⟩
  | genState e _ ih =>
    intro hf b f
    obtain ⟨y, hy, es⟩ := f.look e
    obtain ⟨b', r, f', c⟩ := ih rfl b f
    exact ⟨b', .genState (st := y) hy (by rw [es]; exact r), f', c⟩
  | stack _ ih => intro hf b f; obtain ⟨b', r, f', c⟩ := ih rfl b f; exact ⟨b', .stack r, f', c⟩
  | thread _ ih => intro hf b f; obtain ⟨b', r, f', c⟩ := ih rfl b f; exact ⟨b', .thread r, f', c⟩
  | newGen _ ih =>
    intro hf b f
    obtain ⟨b', r, f', c⟩ := ih rfl _ (f.push _)
    refine ⟨b', .newGen ?_, f', c⟩
    have e := f.sz
    dsimp only at e ⊢ r
    rw [← e]
    exact r
  | call _ _ ih1 ih2 =>
    intro hf b f
    obtain ⟨b1, r1, f1, _⟩ := ih1 rfl b f
    obtain ⟨b2, r2, f2, c⟩ := ih2 rfl b1 f1
    exact ⟨b2, .call r1 r2, f2, c⟩
  | callSusp _ ih =>
    intro hf b f
    obtain ⟨b1, r1, f1, c⟩ := ih rfl b f
    exact ⟨b1, .callSusp r1, f1, split_append _ _ c rfl⟩
  | yield => intro hf b f; exact ⟨b, .yield, f, rfl⟩
  | resumeFresh e _ hq _ ih1 ih2 =>
    intro hf b f
    obtain ⟨q1, q2, q3⟩ := f.live e (not_stub rfl)
    obtain ⟨b1, r1, f1, c1⟩ := ih1 rfl _ (f.set (x := .running) q3 trivial)
    obtain ⟨b2, r2, f2, c⟩ := ih2 rfl _ (f1.set q3 (clean_of c1))
    exact ⟨b2, .resumeFresh q1 r1 hq r2, f2, c⟩
  | @resumeSuspended _ _ g r₀ _ _ s k₀ l₀ c₀ p₀ fs cl _ _ _ _ e hr hq _ ih1 ih2 =>
    intro hf b f
    have nst : ∀ y, asleep y = true → GenState.suspended k₀ l₀ c₀ p₀ fs cl ≠ stub y := fun y hy z => by
      cases y with
      | suspended =>
        injection z with z1
        subst z1
        exact no_runs hr
      | _ => cases hy
    obtain ⟨q1, q2, q3⟩ := f.live e nst
    obtain ⟨b1, r1, f1, c1⟩ := ih1 q2 _ (f.set (x := .running) q3 trivial)
    obtain ⟨b2, r2, f2, c⟩ := ih2 rfl _ (f1.set q3 (clean_of c1))
    exact ⟨b2, .resumeSuspended q1 r1 hq r2, f2, c⟩
  | resumeJustStarted e hv _ ih =>
    intro hf b f
    obtain ⟨q1, q2, q3⟩ := f.live e (not_stub rfl)
    obtain ⟨b', r, f', c⟩ := ih rfl b f; exact ⟨b', .resumeJustStarted q1 hv r, f', c⟩
  | resumeThrowFresh e _ ih =>
    intro hf b f
    obtain ⟨q1, q2, q3⟩ := f.live e (not_stub rfl)
    obtain ⟨b', r, f', c⟩ := ih rfl _ (f.set (x := .finished) q3 trivial); exact ⟨b', .resumeThrowFresh q1 r, f', c⟩
  | resumeRunning e _ ih =>
    intro hf b f
    obtain ⟨q1, q2, q3⟩ := f.live e (not_stub rfl)
    obtain ⟨b', r, f', c⟩ := ih rfl b f; exact ⟨b', .resumeRunning q1 r, f', c⟩
  | resumeFinished e _ ih =>
    intro hf b f
    obtain ⟨q1, q2, q3⟩ := f.live e (not_stub rfl)
    obtain ⟨b', r, f', c⟩ := ih rfl b f; exact ⟨b', .resumeFinished q1 r, f', c⟩
  | segRet _ _ ih1 ih2 =>
    intro hf b f
    obtain ⟨b1, r1, f1, _⟩ := ih1 rfl b f
    obtain ⟨b2, r2, f2, c⟩ := ih2 (split_tail hf) b1 f1
    exact ⟨b2, .segRet r1 r2, f2, c⟩
  | segGen => intro hf; exact nomatch hf
  | segSuspOut hs _ ih =>
    intro hf b f
    obtain ⟨b1, r1, f1, c⟩ := ih rfl b f
    exact ⟨b1, .segSuspOut hs r1, f1, split_append _ _ c hs⟩
  | segSuspGen hs => intro hf; rw [hs] at hf; exact nomatch hf
theorem returns_fg {M : Model} {G : Array GenState} {Γ : Ctx} {p : Pos} {s s' : Shared} {r : Result} (h : Returns M Γ p s r s') {b : Array GenState} (f : FG G s.gens b) : ∃ b', Returns M Γ p (wG s b) r (wG s' b') ∧ FG G s'.gens b' := by
  obtain ⟨b', r, f, _⟩ := runs_fg h rfl b f
  exact ⟨b', r, f⟩
theorem wakes_fg {M : Model} {G : Array GenState} {Γ : Ctx} {p : Pos} {g : Nat} {r : Resume} {s s' : Shared} {res : GenResult} (h : Wakes M Γ p g r s res s') {b : Array GenState} (f : FG G s.gens b) :
    ∃ b', Wakes M Γ p g r (wG s b) res (wG s' b') ∧ FG G s'.gens b' := by
  unfold Wakes at h
  split at h
  · exact h.elim
  · rename_i c e
    obtain ⟨q1, q2, q3⟩ := f.live e (not_stub rfl)
    split at h
    · obtain ⟨e₁, s₁, hr, hq, rfl, rfl⟩ := h
      obtain ⟨b1, r1, f1, c1⟩ := runs_fg hr rfl _ (f.set (x := .running) q3 trivial)
      refine ⟨b1.setIfInBounds g e₁.genState, ?_, f1.set q3 (clean_of c1)⟩
      unfold Wakes
      rw [show (wG s b).gens[g]? = _ from q1]
      exact ⟨e₁, _, r1, hq, rfl, rfl⟩
    · rename_i v hv
      obtain ⟨rfl, rfl⟩ := h
      refine ⟨b, ?_, f⟩
      unfold Wakes
      rw [show (wG s' b).gens[g]? = _ from q1]
      dsimp only
      split
      · rename_i hh; exact absurd (by injection hh) hv
      · exact ⟨rfl, rfl⟩
      · rename_i hh; cases hh
    · obtain ⟨rfl, rfl⟩ := h
      refine ⟨b.setIfInBounds g .finished, ?_, f.set q3 trivial⟩
      unfold Wakes
      rw [show (wG s b).gens[g]? = _ from q1]
      exact ⟨rfl, rfl⟩
  · rename_i k₀ l₀ c₀ p₀ fs cl e
    obtain ⟨e₁, s₁, hr, hq, rfl, rfl⟩ := h
    have nst : ∀ y, asleep y = true → GenState.suspended k₀ l₀ c₀ p₀ fs cl ≠ stub y := fun y hy z => by
      cases y with
      | suspended =>
        injection z with z1
        subst z1
        exact no_runs hr
      | _ => cases hy
    obtain ⟨q1, q2, q3⟩ := f.live e nst
    obtain ⟨b1, r1, f1, c1⟩ := runs_fg hr q2 _ (f.set (x := .running) q3 trivial)
    refine ⟨b1.setIfInBounds g e₁.genState, ?_, f1.set q3 (clean_of c1)⟩
    unfold Wakes
    rw [show (wG s b).gens[g]? = _ from q1]
    exact ⟨e₁, _, r1, hq, rfl, rfl⟩
  · rename_i e
    obtain ⟨q1, q2, q3⟩ := f.live e (not_stub rfl)
    obtain ⟨rfl, rfl⟩ := h
    refine ⟨b, ?_, f⟩
    unfold Wakes
    rw [show (wG s' b).gens[g]? = _ from q1]
    exact ⟨rfl, rfl⟩
  · rename_i e
    obtain ⟨q1, q2, q3⟩ := f.live e (not_stub rfl)
    obtain ⟨rfl, rfl⟩ := h
    refine ⟨b, ?_, f⟩
    unfold Wakes
    rw [show (wG s' b).gens[g]? = _ from q1]
    exact ⟨rfl, rfl⟩
/-- the run's post, told of the real table -/
def Bk {α : Type} (G : Array GenState) (Q : α → Pos → Shared → Prop) : α → Pos → Shared → Prop := fun a p s' => ∃ s'' b', s' = wG s'' b' ∧ FG G s''.gens b' ∧ Q a p s''
theorem wp_fg {α : Type} (M : Model) (G : Array GenState) (Γ : Ctx) (t : Sem α) : ∀ (Q : α → Pos → Shared → Prop) (E : Value → Pos → Shared → Prop) (p : Pos) (s : Shared) (b : Array GenState), FG G s.gens b → wp M Γ t Q E p s →
    wp M Γ t (Bk G Q) (Bk G E) p (wG s b) := by
  induction t with
  | pure a => intro Q E p s b f h; exact ⟨s, b, rfl, f, h⟩
  | raise e => intro Q E p s b f h; exact ⟨s, b, rfl, f, h⟩
  | unsupported _ => intro Q E p s b f h; exact h
  | finish _ => intro Q E p s b f h; exact h
  | rule _ k ih => intro Q E p s b f h; exact ih () Q E p s b f h
  | «at» p' k ih => intro Q E p s b f h; exact ih () Q E p' s b f h
  | load a _ k ih => intro Q E p s b f h; obtain ⟨o, ho, h⟩ := h; exact ⟨o, ho, ih o Q E p s b f h⟩
  | update a _ u k ih => intro Q E p s b f h; exact ⟨h.1, ih () Q E p { s with heap := s.heap.update a u } b f h.2⟩
  | loadIfAlive a k ih => intro Q E p s b f h; exact ih _ Q E p s b f h
  | point _ k ih => intro Q E p s b f h; exact ih () Q E p s b f h
  | register _ _ => intro Q E p s b f h; exact h
  | alloc o k ih => intro Q E p s b f h; exact ih _ Q E p { s with heap := s.heap.push o } b f h
  | fresh k ih => intro Q E p s b f h; exact ih _ Q E p { s with toks := s.toks + 1 } b f h
  | ask k ih => intro Q E p s b f h; exact ih _ Q E p s b f h
  | choose src m k ih => intro Q E p s b f h; exact ⟨h.1, ih _ Q E p { s with drawn := s.drawn.bump src } b f h.2⟩
  | os q _ k ih => intro Q E p s b f h; exact ih _ Q E p { s with os := (Os.step s.os q).1 } b f h
  | call c hd _ _ k ih =>
    intro Q E p s b f h; obtain ⟨r, s', hr, h⟩ := h
    obtain ⟨b', hr', f'⟩ := returns_fg hr f
    exact ⟨r, _, hr', ih r Q E p s' b' f' h⟩
  | handled own k ih => intro Q E p s b f h; exact ih _ Q E p s b f h
  | genState g k ih =>
    intro Q E p s b f h; obtain ⟨st, hs, h⟩ := h
    obtain ⟨y, hy, es⟩ := f.look hs
    exact ⟨y, hy, by rw [es]; exact ih _ Q E p s b f h⟩
  | newGen c k ih =>
    intro Q E p s b f h
    have q := ih _ Q E p { s with gens := s.gens.push (.fresh c) } _ (f.push c) h
    have e : s.gens.size = b.size := f.sz
    rw [e] at q
    exact q
  | resume g r _ k ih =>
    intro Q E p s b f h; obtain ⟨res, s', hw, h⟩ := h
    obtain ⟨b', hw', f'⟩ := wakes_fg hw f
    exact ⟨res, _, hw', ih res Q E p s' b' f' h⟩
  | yield _ _ _ _ => intro Q E p s b f h; exact h
  | stack k ih => intro Q E p s b f h; exact ih _ Q E p s b f h
  | fork _ _ => intro Q E p s b f h; exact h
  | thread k ih => intro Q E p s b f h; exact ih _ Q E p s b f h
  | await _ _ _ _ _ => intro Q E p s b f h; exact h
/-- the sleeping generators are as they were, none is lost -/
structure GKeep (G G' : Array GenState) : Prop where
  le : G.size ≤ G'.size
  st : ∀ (i : Nat) x, G[i]? = some x → asleep x = true → G'[i]? = some x
theorem GKeep.refl (G : Array GenState) : GKeep G G := ⟨Nat.le_refl _, fun _ _ h _ => h⟩
theorem GKeep.trans {a b c : Array GenState} (x : GKeep a b) (y : GKeep b c) : GKeep a c := ⟨Nat.le_trans x.le y.le, fun i z h ha => y.st i z (x.st i z h ha) ha⟩
theorem fg_start (G : Array GenState) : FG G (G.map stub) G := by
  refine ⟨by simp, by simp, fun i x h _ => ?_, fun i y h n => ?_⟩
  · exact ⟨by rw [Array.getElem?_map, h]; rfl, h⟩
  · rw [Array.getElem?_map] at h
    cases e : G[i]? with
    | none => rw [e] at h; cases h
    | some x =>
      rw [e] at h
      have ha := n x e
      have h1 : stub x = y := by simpa using h
      cases x with
      | suspended => cases ha
      | fresh c => subst h1; exact ⟨rfl, trivial⟩
      | running => subst h1; exact ⟨rfl, trivial⟩
      | finished => subst h1; exact ⟨rfl, trivial⟩
theorem FG.keep {G a b : Array GenState} (f : FG G a b) : GKeep G b := ⟨by rw [← f.sz]; exact f.le, fun i x h ha => (f.st i x h ha).2⟩
theorem bare_stub {G : Array GenState} (h : PyProof.Rows.AllBare G) : PyProof.Rows.AllBare (G.map stub) := fun y hy => by
  obtain ⟨x, hx, rfl⟩ := Array.mem_map.mp hy
  rw [stub_bare]; exact h x hx
theorem FG.bare {G a b : Array GenState} (f : FG G a b) (h : PyProof.Rows.AllBare a) : PyProof.Rows.AllBare b := fun y hy => by
  obtain ⟨i, hi, e⟩ := Array.mem_iff_getElem.mp hy
  have q : b[i]? = some y := by rw [Array.getElem?_eq_getElem hi, e]
  have hi' : i < a.size := by rw [f.sz]; exact hi
  have q' : a[i]? = some a[i] := Array.getElem?_eq_getElem hi'
  have hb := h a[i] (Array.getElem_mem hi')
  cases hg : G[i]? with
  | none =>
    have z := (f.eq i _ q' fun z q => by rw [hg] at q; cases q).1
    rw [q] at z; cases z
    exact hb
  | some x =>
    by_cases ha : asleep x = true
    · obtain ⟨h1, h2⟩ := f.st i x hg ha
      rw [q] at h2; cases h2
      rw [q'] at h1
      have e1 := Option.some.inj h1
      rw [e1, stub_bare] at hb
      exact hb
    · have z := (f.eq i _ q' fun u q => by rw [hg] at q; cases q; simpa using ha).1
      rw [q] at z; cases z
      exact hb
theorem wpAny_keep {α : Type} {M : Model} {A : Around} {t : Sem α} {Q : α → Shared → Prop} {E : Value → Shared → Prop} {s : Shared} (h : wpAny M A t Q E (wG s (s.gens.map stub))) :
    wpAny M A t (fun a s' => ∃ s'' b', s' = wG s'' b' ∧ FG s.gens s''.gens b' ∧ Q a s'') (fun a s' => ∃ s'' b', s' = wG s'' b' ∧ FG s.gens s''.gens b' ∧ E a s'') s := fun Γ p hΓ =>
  wp_fg M s.gens Γ t _ _ p (wG s (s.gens.map stub)) s.gens (fg_start _) (h Γ p hΓ)
end Fl
namespace Fl
open PySem
open Sem (wp)
/-! ### one run of a generator's code: until it hands out or ends -/
abbrev EPost := End → Shared → Prop
def Go (M : Model) (A : Around) (Φ : EPost) (c : Code) (t : Sem PySem.Fin) (fs : List Frame) (s : Shared) : Prop := ∀ Γ p, Γ.code = c → Γ.Woken A → ∃ e s', Runs M Γ p t fs s e s' ∧ Φ e s'
section
variable {M : Model} {A : Around} {Φ : EPost} {c : Code} {fs : List Frame} {s : Shared} {K : Flow → Sem PySem.Fin} {J : Value → Sem PySem.Fin} {gd : Bool → Bool} {lv : List Value → List Value} {env : Env}
theorem go_wrap {α : Type} {m : Sem α} {K : α → Sem PySem.Fin} {J : Value → Sem PySem.Fin} {gd lv}
    (h : wpAny M (A.over c fs) m (fun a s' => Go M A Φ c (K a) fs s') (fun _ _ => False) s) : Go M A Φ c (m.wrap K J gd lv) fs s := by
  rintro Γ p rfl hΓ
  exact runs_wrap_of_wp K J gd lv m (h (Γ.over fs) p (hΓ.over fs)) (fun a p' s' h' => h' Γ p' rfl hΓ) (fun x p' s' h' => h'.elim)
theorem go_bind {α : Type} {m : Sem α} {K : α → Sem PySem.Fin} (h : wpAny M (A.over c fs) m (fun a s' => Go M A Φ c (K a) fs s') (fun _ _ => False) s) : Go M A Φ c (m >>= K) fs s := by
  rw [Sem.bind_eq_wrap']; exact go_wrap h
/-- the head of a bind -/
theorem go_bindw {α β : Type} {m : Sem α} {f : α → Sem β} {K : β → Sem PySem.Fin} {J : Value → Sem PySem.Fin} {gd lv}
    (h : wpAny M (A.over c fs) m (fun a s' => Go M A Φ c ((f a).wrap K J gd lv) fs s') (fun _ _ => False) s) : Go M A Φ c ((m >>= f).wrap K J gd lv) fs s := by
  rw [Sem.bind_eq_wrap', Sem.wrap_wrap]; exact go_wrap h
theorem go_at {p' : Pos} {k : Unit → Sem PySem.Fin} (h : Go M A Φ c (k ()) fs s) : Go M A Φ c (.at p' k) fs s :=
  go_wrap (m := standAt p') (K := k) (J := .raise) (gd := id) (lv := id) (wpAny_standAt h)
theorem go_point {l : List Value} {k : Unit → Sem PySem.Fin} (h : Go M A Φ c (k ()) fs s) : Go M A Φ c (.point l k) fs s :=
  go_wrap (m := point) (K := k) (J := .raise) (gd := id) (lv := fun _ => l) (wpAny_point h)
theorem go_call {c' : Code} {h g l} {k : Result → Sem PySem.Fin} (hc : ∀ p, Go M A Φ c' (M.den c') (.ret k h g l c p [] :: fs) s) : Go M A Φ c (.call c' h g l k) fs s := by
  rintro Γ p rfl hΓ
  obtain ⟨e, s', hr, he⟩ := hc p (Γ.goto c') p rfl (hΓ.goto c')
  exact ⟨e, s', runs_call_seg hr, he⟩
theorem go_leaf {k h g l c₁ p₁ kp} (r : Result) (hk : Go M A Φ c₁ (k r) fs s) : Go M A Φ c (leafOf r) (.ret k h g l c₁ p₁ kp :: fs) s := by
  rintro Γ p rfl hΓ
  obtain ⟨e, s', hr, he⟩ := hk (Γ.goto c₁) p₁ rfl (hΓ.goto c₁)
  exact ⟨e, s', Runs.pop r hr, he⟩
theorem go_again {c' : Code} (hq : c'.quiet = true) (hc : Go M A Φ c' (M.den c') fs s) : Go M A Φ c (.pure (.again c')) fs s := by
  rintro Γ p rfl hΓ
  obtain ⟨e, s', hr, he⟩ := hc (Γ.goto c') p rfl (hΓ.goto c')
  exact ⟨e, s', Runs.head (c₁ := c') (fun _ _ x => .again hq x) hr, he⟩
theorem go_end (r : Result) (h : Φ (.ret r) s) : Go M A Φ c (leafOf r) [] s := by
  rintro Γ p rfl _
  exact ⟨.ret r, s, Runs.leaf r, h⟩
theorem go_yield {v g l} {k : Resume → Sem PySem.Fin} (hfs : splitAtGen fs = none) (h : ∀ p, Φ (.susp v g l k c p fs) s) : Go M A Φ c (.yield v g l k) fs s := by
  rintro Γ p rfl _
  exact ⟨_, s, Runs.yield' fs hfs, h p⟩
/-! ### statements -/
theorem go_nil (h : Go M A Φ c (K .next) fs s) : Go M A Φ c ((execs [] env).wrap K J gd lv) fs s := h
theorem go_cons {st : Stmt} {rest : List Stmt}
    (h : Go M A Φ c ((exec st env).wrap (fun f => match f with | .next => (execs rest env).wrap K J gd lv | f => K f) J gd lv) fs s) : Go M A Φ c ((execs (st :: rest) env).wrap K J gd lv) fs s := by rw [execs_cons_wrap]; exact h
theorem go_one {st : Stmt} (h : Go M A Φ c ((exec st env).wrap K J gd lv) fs s) : Go M A Φ c ((execs [st] env).wrap K J gd lv) fs s := by
  refine go_cons ?_
  rw [Sem.wrap_congr (exec st env) gd lv (K' := K) (H' := J) (fun f => by cases f <;> rfl) (fun _ => rfl)]
  exact h
theorem go_if {test : Expr} {body orelse : List Stmt} {pos : Pos} (h : wpAny M (A.over c fs) (isTrue test env (eval test env)) (fun b s' => Go M A Φ c ((if b = true then execs body env else execs orelse env).wrap K J gd lv) fs s') (fun _ _ => False) s) :
    Go M A Φ c ((exec (.If test body orelse pos) env).wrap K J gd lv) fs s := by
  show Go M A Φ c (.at pos fun _ => ((isTrue test env (eval test env)) >>= fun b => if b = true then execs body env else execs orelse env).wrap K J gd lv) fs s
  exact go_at (go_bindw h)
theorem go_yld {e : Expr} {ypos pos : Pos} (hfs : splitAtGen fs = none) 
    (h : wpAny M (A.over c fs) (eval e env) (fun v s' => ∀ (k : Resume → Sem PySem.Fin) (l : List Value), (∀ A' Φ' s'', Go M A' Φ' c (K .next) fs s'' → Go M A' Φ' c (k (.send .none)) fs s'') → ∀ p, Φ (.susp v (gd false) l k c p fs) s') (fun _ _ => False) s)
    (hco : env.scope.isCoroutine = false := by rfl) (hi : interactive env = false := by rfl) : Go M A Φ c ((exec (.Expr (.Yield (some e) ypos) pos) env).wrap K J gd lv) fs s := by
  rw [exec_Expr env _ pos hi rfl]
  show Go M A Φ c (.at pos fun _ => ((eval e env >>= fun v => (standAt ypos >>= fun _ => yieldOut env v)) >>= fun x => dropValue (.Yield (some e) ypos) pos x).wrap K J gd lv) fs s
  have hy : ∀ v, yieldOut env v = yieldValue v := fun v => by simp only [yieldOut, hco, Bool.false_eq_true, if_false]
  simp only [hy]
  refine go_at ?_
  rw [Sem.bind_eq_wrap', Sem.bind_eq_wrap', Sem.wrap_wrap, Sem.wrap_wrap]
  refine go_wrap (wpAny_mono h (fun v s' h' => ?_) fun _ _ x => x)
  refine go_at (go_yield hfs ?_)
  exact h' _ _ fun A' Φ' s'' hx => hx
theorem go_for {tg iter : Expr} {body : List Stmt} {pos : Pos}
    (h : wpAny M (A.over c fs) (eval iter env) (fun x s₁ => wpAny M (A.over c fs) (pyIter x) (fun it s₂ => ∀ p k, (∀ A' Φ' s'', Go M A' Φ' c (K .next) fs s'' → Go M A' Φ' c (k (.ok .next)) fs s'') →
      Go M A Φ (.forLoop tg it body [] env) (M.den (.forLoop tg it body [] env)) (.ret k none (gd false) (lv []) c p [] :: fs) s₂) (fun _ _ => False) s₁) (fun _ _ => False) s)
    (hs : ∀ x, foldedSetIterable iter env x = pure x := by intro _; rfl) : Go M A Φ c ((exec (.For tg iter body [] pos) env).wrap K J gd lv) fs s := by
  rw [exec_For]
  refine go_bindw (wpAny_standAt ?_)
  refine go_bindw (wpAny_mono h (fun x s1 h1 => ?_) fun _ _ z => z)
  refine go_bindw (wpAny_of_eq (hs x) ?_)
  refine go_bindw (wpAny_standAt ?_)
  refine go_bindw (wpAny_holding (wpAny_mono h1 (fun it s2 h2 => ?_) fun _ _ z => z))
  exact go_call fun p => h2 p _ fun A' Φ' s'' hx => hx
end
section
variable {prog : Program} {w : World} {A : Around} {Φ : EPost} {fs : List Frame} {s : Shared} {env : Env}
theorem go_func {body : List Stmt} (h : Go (model prog w) A Φ (.func body env) ((execs body env).wrap (fun f => .pure (.done (.ret (match f with | .ret v => v | _ => .none)))) (fun e => (leaving env e).wrap (fun _ => .raise e) .raise id id) id id) fs s) :
    Go (model prog w) A Φ (.func body env) ((model prog w).den (.func body env)) fs s := by
  show Go _ A Φ _ (.point [] fun _ => ((execs body env).onRaise (leaving env)) >>= _) fs s
  refine go_point ?_
  rw [Sem.onRaise_eq_wrap, Sem.bind_eq_wrap', Sem.wrap_wrap]
  rw [Sem.wrap_congr (execs body env) _ _ (K' := fun f => .pure (.done (.ret (match f with | .ret v => v | _ => .none))))
    (H' := fun e => (leaving env e).wrap (fun _ => .raise e) .raise id id) (fun f => by cases f <;> rfl)
    (fun e => by rw [Sem.bind_eq_wrap, Sem.wrap_wrap]; rfl)]
  exact h
/-- a turn of a for loop -/
theorem go_forLoop {tg : Expr} {it : Value} {body : List Stmt}
    (h : wpAny (model prog w) (A.over (.forLoop tg it body [] env) fs) (pyNext it) (fun r s1 => match r with
      | none => Go (model prog w) A Φ (.block [] env) (.pure (.done .next)) fs s1
      | some v => wpAny (model prog w) (A.over (.forLoop tg it body [] env) fs) (letOwnedTupleGo tg it v) (fun _ s2 => wpAny (model prog w) (A.over (.forLoop tg it body [] env) fs) (assign tg env v) (fun _ s3 =>
          ∀ (K : Flow → Sem PySem.Fin) (J : Value → Sem PySem.Fin), K .next = .pure (.again (.forLoop tg it body [] env)) → Go (model prog w) A Φ (.forLoop tg it body [] env) ((execs body env).wrap K J id id) fs s3) (fun _ _ => False) s2) (fun _ _ => False) s1) (fun _ _ => False) s) :
    Go (model prog w) A Φ (.forLoop tg it body [] env) ((model prog w).den (.forLoop tg it body [] env)) fs s := by
  show Go _ A Φ _ ((forTurn tg it body [] env).onRaise (fun x => do noteFrame x env; theTreesLotGoes x)) fs s
  rw [Sem.onRaise_eq_wrap]
  simp only [forTurn]
  refine go_bindw (wpAny_standAt ?_)
  refine go_bindw (wpAny_onRaise (wpAny_mono h (fun r s1 h1 => ?_) fun _ _ z => z.elim))
  cases r with
  | none =>
    show Go _ A Φ _ (.pure (.again (.block [] env))) fs s1
    exact go_again rfl h1
  | some v =>
    refine go_bindw (wpAny_mono h1 (fun _ s2 h2 => ?_) fun _ _ z => z)
    refine go_bindw (wpAny_mono h2 (fun _ s3 h3 => ?_) fun _ _ z => z)
    rw [Sem.bind_eq_wrap', Sem.wrap_wrap]
    exact h3 _ _ rfl
end
end Fl
namespace Fl
open PySem PySem.Spec L2
/-! ### the rules that speak of the written part, with K named -/
section
variable {X : Cx} (K : PySem.W.Frag) (h : X.K = K := by rfl)
include h
theorem k_in : OpR X (compareOp .In) (rIn K false) := by subst h; exact op_in_seq
theorem k_notIn : OpR X (compareOp .NotIn) (rIn K true) := by subst h; exact op_notIn_seq
theorem k_isi : CallR X (.builtin "isinstance") (rIsi K) := by subst h; exact call_isi
theorem k_all (hc : X.calm = true) : CallR X (.builtin "all") (rAll K) := by subst h; exact cr_all hc
theorem k_any (hc : X.calm = true) : CallR X (.builtin "any") (rAny K) := by subst h; exact cr_any hc
theorem k_sum (hc : X.calm = true) : CallR X (.builtin "sum") (rSum K) := by subst h; exact cr_sum hc
theorem k_len : CallR X (.builtin "len") (fun xs H Q => ∃ p ys, xs = [.ref p] ∧ (SqL K H p ys ∨ SqT K H p ys) ∧ Q (.int ys.length) H) := by subst h; exact call_len_seq
theorem k_list : CallR X (.type "list") (fun xs H Q => ∃ p ys, xs = [.ref p] ∧ (SqL K H p ys ∨ SqT K H p ys) ∧ ∀ l, H l = none → Q (.ref l) (upd H l (.lst ys))) := by subst h; exact call_list_of
theorem k_sortedS : CallR X (.builtin "sorted") (rSortedS K) := by subst h; exact cr_sortedS
theorem k_ixL : IxR X (rIxL K) := by subst h; exact ix_list
theorem k_ixT : IxR X (rIxT K) := by subst h; exact ix_tup
theorem k_slL : SlR X (rSlL K) := by subst h; exact sl_list
theorem k_index : MtR X "list.index" (rIndex K) := by subst h; exact mt_index
theorem k_eqD (hu : X.A.units + 64 < cLine) : OpR X (compareOp .Eq) (rEqD K) := by subst h; exact op_eqD hu
theorem k_neD (hu : X.A.units + 64 < cLine) : OpR X (compareOp .NotEq) (rNeD K) := by subst h; exact op_neD hu
theorem k_dictP (hcalm : X.calm = true) : CallR X (.type "dict") (fun xs H Q => ∃ (a : Addr) (ps : List Addr) (kvs : List (Key × V)), xs = [.ref a] ∧ SqL K H a (ps.map V.ref) ∧ Paired (fun p kv => SqT K H p [kV kv.1, kv.2]) ps kvs ∧
    ∀ p, H p = none → Q (.ref p) (upd H p (.dK (mergeK [] kvs)))) := by subst h; exact call_dictP hcalm
theorem k_bm {o e : Expr} {es : List Expr} {to : TE} {t : TA} {name : Str} {apos cpos : Pos} {T id : String} {r : V → List V → Hp → VK → Prop} (pa : PlainAttrs T) (slot : Slot T name id) (hty : typeOf (.builtin id) = pure (.type "method_descriptor")) (hm : MtR X id r) (ho : PE X o to) (ha : PA X (e :: es) t)
    (hbase : attributeBase o name X.env (eval o X.env) = eval o X.env := by rfl)
    (hfew : ((backTo cpos (starEach (e :: es) X.env)).all (fun x => !x.1) && (backToKw cpos (keywordEach [] X.env)).all (fun x => x.1.isSome)
      && decide ((e :: es).length + ([] : List Keyword).length + (if ([] : List Keyword).isEmpty then 0 else 1) < 30)) = true := by rfl)
    (hline : (apos.endLine == cpos.line) = true := by rfl) (hs : starEach (e :: es) X.env = (false, eval e X.env) :: starEach es X.env := by rfl) (hplain : (backTo cpos (starEach es X.env)).any (·.1) = false := by rfl) :
    PE X (.Call (.Attribute o name apos) (e :: es) [] cpos) (tBM K T r to t) := by subst h; exact pe_bm pa slot hty hm ho ha hbase hfew hline hs hplain
theorem k_fld {e : Expr} {f : Str} {pos : Pos} {ta : TE} (he : PE X e ta) (hb : attributeBase e f X.env (eval e X.env) = eval e X.env := by rfl) : PE X (.Attribute e f pos) (tFld K ta f) := by subst h; exact pe_fld he hb
theorem k_pil {tg l : Expr} {tl : TE} (hl : PE X l tl) : PI X tg l (iList K tl) := by subst h; exact pi_list hl
theorem k_pit {tg l : Expr} {tl : TE} (hl : PE X l tl) : PI X tg l (iTup K tl) := by subst h; exact pi_tup hl
theorem k_enum {e : Expr} {ta : TA} {p pos tpos : Pos} {elts : List Expr} {kk : Nat} (hg : Gl X "enumerate") (hm : X.mg "enumerate" = none) (ha : PA X [e] ta) (hs : starEach [e] X.env = [(false, eval e X.env)] := by rfl) :
    PI X (.Tuple elts kk tpos) (.Call (.Name "enumerate" p) [e] [] pos) (iEnum K ta) := by subst h; exact pi_enum hg hm ha hs
theorem k_gtup {pos : Pos} {es : List Expr} {k : Nat} {t : TGs} {n : Nat} (hc : X.calm = true) (hh : PGs X es t)
    (hn : (assignEach es X.env).length = n := by rfl) (hst : (assignEach es X.env).findIdx? (·.1) = none := by rfl) : PG X (.Tuple es k pos) (gTup K n t) := by subst h; exact pg_tup hc hh hn hst
end
end Fl
namespace Fl
open PySem PySem.Spec L2
theorem itT {b : Bool} {A B : Prop} (h : b = true) (a : A) : if b = true then A else B := by rw [if_pos h]; exact a
theorem itF {b : Bool} {A B : Prop} (h : b = false) (a : B) : if b = true then A else B := by rw [if_neg (by rw [h]; exact Bool.false_ne_true)]; exact a
theorem okN {x : Str} (h : okName x = true) : 1 ≤ x.length ∧ x.length ≤ 8 ∧ ∀ c ∈ x.cps.toList, 97 ≤ c ∧ c ≤ 122 := by
  unfold okName at h
  simp only [Bool.and_eq_true, decide_eq_true_eq, List.all_eq_true, okLetter] at h
  exact ⟨h.1.1, h.1.2, h.2⟩
theorem letters_mem {c : Nat} (h : 97 ≤ c ∧ c ≤ 122) : c ∈ (("abcdefghijklmnopqrstuvwxyz" : Str)).cps.toList := by
  have e : (("abcdefghijklmnopqrstuvwxyz" : Str)).cps.toList = (List.range 26).map (· + 97) := by decide +kernel
  rw [e, List.mem_map]
  exact ⟨c - 97, List.mem_range.mpr (by omega), by omega⟩
theorem all_rep (n : Nat) : (List.replicate n true).all id = true := by simp
theorem sz_line {n : Nat} (h : n ≤ 1000) : n ≤ sizeLine := Nat.le_of_lt (small1000 h)
/-- a pure def: what was tracked stays; P tells of the answer -/
abbrev Ret (H : Hp) (Q : VK) (P : V → Hp → Prop) : Prop := ∀ v H', Same H H' → P v H' → Q v H'
def spIsName : Sp := fun vs H Q _ => ∃ x, vs = [.str x] ∧ okName x = true ∧ Ret H Q fun v _ => v = .bl true
section
variable {P : Program} {w : World} {K : PySem.W.Frag} {mg : Str → Option Value} {base : Heap}
theorem ok_is_name (T : TX K mg) : Cal P w K mg base 1 "is_name" ["candidate"] spIsName := by
  refine cal_mk (fok_mk T.f_is_name sc_is_name (fun _ _ _ _ _ _ us hl => match us, hl with | [_], _ => rfl) (fun vs H Q E h => ?_) (fun cdv A outer s H vs Q E hr h => ?_)) T.g_is_name (let ⟨_, F⟩ := T.f_is_name; F.kp)
  · obtain ⟨x, rfl, _⟩ := h; rfl
  obtain ⟨x, rfl, hx, k⟩ := h
  obtain ⟨h1, h8, hl⟩ := okN hx
  obtain ⟨_, h_MAX_LETTERS, r_MAX_LETTERS⟩ := T.c_MAX_LETTERS
  obtain ⟨_, h_LETTERS, r_LETTERS⟩ := T.c_LETTERS
  refine ⟨_, (pss_cons (ps_if (PW.pt (pw_or (pt_not (pt_val (pe_callB (k_isi K (by rfl)) (by rfl) T.b_isinstance (by decide +kernel) (pa_cons (pv 0) (pa_cons (pe_bltn (v := .ty "str") (by rfl) T.b_str (by decide +kernel) rfl) pa_nil))))) (pw_or1 (pt_not (pt_chain op_le op_le pe_int (pe_callB call_len_str (by rfl) T.b_len (by decide +kernel) (pa_cons (pv 0) pa_nil)) (pe_glob (by rfl) h_MAX_LETTERS r_MAX_LETTERS)))))) (pss_one (ps_ret pe_bl)) pss_nil)
      (pss_one (ps_ret (pe_callB (k_all K (by rfl) rfl) (by rfl) T.b_all (by decide +kernel) (pa_cons (pe_lc (own := [("letter", 1)]) (g := gName 1) (tt := tYes) rfl sc_is_name.nd (pi_str (pv 0)) (blkOk_by (N := ["candidate", "letter"]) (sc := defScope s_is_name) (by decide +kernel)) (fun _ _ _ _ _ => by exact (pg_name (i := 1) sc_is_name.nd rfl (Or.inl rfl))) (fun _ _ _ _ _ => by exact (pts_nil)) (fun _ _ _ _ _ => by exact ((pe_cmpR op_in_sign (pv 1) (pe_glob (by rfl) h_LETTERS r_LETTERS) (by rfl))))) pa_nil))))), ?_⟩
  refine ⟨_, rfl, _, _, _, .type "str", true, rfl, .ty _, .base (.str _), kit_ty (by decide +kernel), true, rfl, iteF ?_⟩
  refine ⟨_, rfl, x, rfl, sz_line (by omega), 1, _, rfl, rfl, true, congrArg V.bl (decide_eq_true (by omega)), iteT ⟨_, 8, rfl, rfl, true, congrArg V.bl (decide_eq_true (by omega)), iteF ?_⟩⟩
  refine ⟨_, rfl, x, rfl, lc_g walk_str (fun i acc _ => acc = List.replicate i (.bl true)) (Nat.le_trans h8 (by decide)) (fun _ _ => trivial) (fun _ _ => rfl) (fun _ _ _ _ r _ => r) (fun i acc _ r => by rw [r, List.length_replicate]; exact Nat.le_refl _) ?_ ?_⟩
  · rintro i acc y H1 H2 Qy Qn hi s1 rfl ⟨rfl, c, hc, rfl⟩ ky kn
    refine ⟨rfl, ?_⟩
    refine ⟨_, rfl, c, _, rfl, rfl, ky _ _ (Same.refl _) ?_⟩
    rw [decide_eq_true (letters_mem (hl c (by
      rw [← Array.getElem?_toList] at hc
      exact List.mem_of_getElem? hc))), List.replicate_succ']
  · intro D acc H1 hD s1 hacc r
    refine ⟨D, List.replicate x.cps.size true, rfl, ?_, ?_⟩
    · rw [List.map_replicate, ← r]; exact SqL.of hacc
    · rw [all_rep]; exact k _ _ s1 rfl
end
end Fl
namespace Fl
open PySem PySem.Spec L2
theorem tyx_list {K : PySem.W.Frag} {H : Hp} {a : Addr} {xs : List V} (h : SqL K H a xs) : TyX K H (.ref a) (.type "list") := by
  rcases h with h | ⟨o, its, n, h1, h2, _⟩
  · rcases h with h | ⟨o, h⟩
    · exact .base (.lst h)
    · exact .base (.frz h)
  · exact .kList h1 h2
theorem get_map {α β : Type} {f : α → β} {l : List α} {i : Nat} {y : β} (h : (l.map f)[i]? = some y) : ∃ x, l[i]? = some x ∧ y = f x := by
  rw [List.getElem?_map] at h
  cases e : l[i]? with
  | none => rw [e] at h; cases h
  | some x => rw [e] at h; exact ⟨x, rfl, (Option.some.inj h).symm⟩
theorem get_lt {α : Type} {l : List α} {i : Nat} (h : i < l.length) : ∃ x, l[i]? = some x := ⟨l[i], List.getElem?_eq_getElem h⟩
theorem take_snoc {α : Type} {l : List α} {i : Nat} {x : α} (h : l[i]? = some x) : l.take (i + 1) = l.take i ++ [x] := by
  rw [List.take_add_one, h]; rfl
def ttK (ks : List Str) : List (Key × V) := ks.map fun k => (Sum.inr k, V.bl true)
theorem ttK_keys (ks : List Str) : (ttK ks).map (·.1) = ks.map Sum.inr := by
  unfold ttK; rw [List.map_map]; rfl
theorem valV_none_iff {kvs : List (Key × V)} {k : Key} : valV kvs k = none ↔ k ∉ kvs.map (·.1) := by
  constructor
  · exact valV_not
  · intro h
    cases e : valV kvs k with
    | none => rfl
    | some v => exact absurd (valV_in e) h
theorem ttK_put_new {ks : List Str} {x : Str} (h : x ∉ ks) : putK (ttK ks) (Sum.inr x) (.bl true) = ttK (ks ++ [x]) := by
  rw [putK_new]
  · unfold ttK; rw [List.map_append]; rfl
  · rw [valV_none_iff, ttK_keys]
    intro hm
    obtain ⟨y, hy, e⟩ := List.mem_map.mp hm
    cases e
    exact h hy
theorem ttK_put_old {ks : List Str} {x : Str} (h : x ∈ ks) : putK (ttK ks) (Sum.inr x) (.bl true) = ttK ks := by
  unfold putK
  have hany : ((ttK ks).any fun kv => decide (kv.1 = Sum.inr x)) = true := by
    rw [List.any_eq_true]
    exact ⟨(Sum.inr x, .bl true), List.mem_map.mpr ⟨x, h, rfl⟩, by simp⟩
  rw [hany, if_pos rfl]
  unfold ttK
  rw [List.map_map]
  apply List.map_congr_left
  intro z _
  show (if (Sum.inr z : Key) = Sum.inr x then _ else _) = _
  split <;> rfl
def spAreNames (K : PySem.W.Frag) : Sp := fun vs H Q _ => ∃ a xs, vs = [.ref a] ∧ SqL K H a (sv xs) ∧ Nms xs ∧ xs.length ≤ 1000 ∧ Ret H Q fun v _ => v = .bl true
def spIsNumber : Sp := fun vs H Q _ => ∃ c l g : Int, vs = [.int c, .int l, .int g] ∧ l ≤ c ∧ c ≤ g ∧ Q (.bl true) H
def spDistinct (K : PySem.W.Frag) : Sp := fun vs H Q _ => ∃ a xs, vs = [.ref a] ∧ SqL K H a (sv xs) ∧ xs.length < 64 ∧ ∀ p H', H p = none → Same H H' → H' p = some (.lst (sv (srt xs))) → Q (.ref p) H'
section
variable {P : Program} {w : World} {K : PySem.W.Frag} {mg : Str → Option Value} {base : Heap}
theorem ok_are_names (T : TX K mg) : Cal P w K mg base 2 "are_names" ["candidate"] (spAreNames K) := by
  have F_is_name := ok_is_name (P := P) (w := w) (base := base) T
  refine cal_mk (fok_mk T.f_are_names sc_are_names (fun _ _ _ _ _ _ us hl => match us, hl with | [_], _ => rfl) (fun vs H Q E h => ?_) (fun cdv A outer s H vs Q E hr h => ?_)) T.g_are_names (let ⟨_, F⟩ := T.f_are_names; F.kp)
  · obtain ⟨a, xs, rfl, _⟩ := h; rfl
  obtain ⟨a, xs, rfl, ha, hx, hn, k⟩ := h
  refine ⟨_, (pss_one (ps_ret (pe_and (pe_callB (k_isi K (by rfl)) (by rfl) T.b_isinstance (by decide +kernel) (pa_cons (pv 0) (pa_cons (pe_bltn (v := .ty "list") (by rfl) T.b_list (by decide +kernel) rfl) pa_nil))) (pe_one (pe_callB (k_all K (by rfl) rfl) (by rfl) T.b_all (by decide +kernel) (pa_cons (pe_lc (own := [("name", 1)]) (g := gName 1) (tt := tYes) rfl sc_are_names.nd (k_pil K (by rfl) (pv 0)) (blkOk_by (N := ["candidate", "name"]) (sc := defScope s_are_names) (by decide +kernel)) (fun _ _ _ _ _ => by exact (pg_name (i := 1) sc_are_names.nd rfl (Or.inl rfl))) (fun _ _ _ _ _ => by exact (pts_nil)) (fun _ _ _ _ _ => by exact ((pe_c F_is_name (hr.mono (by decide)) (pa_cons (pv 1) pa_nil))))) pa_nil)))))), ?_⟩
  refine ⟨_, rfl, _, _, _, .type "list", true, rfl, .ty _, tyx_list ha, kit_ty (by decide +kernel), true, rfl, iteT ?_⟩
  refine ⟨_, rfl, a, rfl, ⟨_, ha⟩, lc_g walk_list (fun i acc _ => acc = List.replicate i (.bl true)) (by rw [List.length_map]; exact hn) (fun H1 s1 => (Sm.of s1).seq ha) (fun _ _ => rfl) (fun _ _ _ _ r _ => r) (fun i acc _ r => by rw [r, List.length_replicate]; exact Nat.le_refl _) ?_ ?_⟩
  · rintro i acc y H1 H2 Qy Qn hi s1 rfl ⟨rfl, hc⟩ ky kn
    obtain ⟨x, hx1, rfl⟩ := get_map hc
    refine ⟨rfl, ?_⟩
    refine ⟨_, rfl, x, rfl, hx x (List.mem_of_getElem? hx1), fun v H3 s3 hv => ?_⟩
    subst hv
    exact ky _ _ s3 (by rw [List.replicate_succ'])
  · intro D acc H1 hD s1 hacc r
    refine ⟨D, List.replicate (sv xs).length true, rfl, ?_, ?_⟩
    · rw [List.map_replicate, ← r]; exact SqL.of hacc
    · rw [all_rep]; exact k _ _ s1 rfl
theorem ok_is_number (T : TX K mg) : Cal P w K mg base 1 "is_number" ["candidate", "least", "greatest"] spIsNumber := by
  refine cal_mk (fok_mk T.f_is_number sc_is_number (fun _ _ _ _ _ _ us hl => match us, hl with | [_, _, _], _ => rfl) (fun vs H Q E h => ?_) (fun cdv A outer s H vs Q E hr h => ?_)) T.g_is_number (let ⟨_, F⟩ := T.f_is_number; F.kp)
  · obtain ⟨c, l, g, rfl, _⟩ := h; rfl
  obtain ⟨c, l, g, rfl, h1, h2, k⟩ := h
  refine ⟨_, (pss_one (ps_ret (pe_and (pe_callB (k_isi K (by rfl)) (by rfl) T.b_isinstance (by decide +kernel) (pa_cons (pv 0) (pa_cons (pe_bltn (v := .ty "int") (by rfl) T.b_int (by decide +kernel) rfl) pa_nil))) (pe_and (pe_not (pe_callB (k_isi K (by rfl)) (by rfl) T.b_isinstance (by decide +kernel) (pa_cons (pv 0) (pa_cons (pe_bltn (v := .ty "bool") (by rfl) T.b_bool (by decide +kernel) rfl) pa_nil)))) (pe_one (pe_chain op_le op_le (pv 1) (pv 0) (pv 2))))))), ?_⟩
  refine ⟨_, rfl, _, _, _, .type "int", true, rfl, .ty _, .base (.int _), kit_ty (by decide +kernel), true, rfl, iteT ?_⟩
  refine ⟨_, rfl, _, _, _, .type "bool", false, rfl, .ty _, .base (.int _), kit_ty (by decide +kernel), false, rfl, true, rfl, iteT ?_⟩
  refine ⟨_, rfl, _, rfl, l, c, rfl, rfl, true, congrArg V.bl (decide_eq_true h1), iteT ⟨_, rfl, c, g, rfl, rfl, ?_⟩⟩
  show Q (.bl (decide (c ≤ g))) H
  rw [decide_eq_true h2]
  exact k
theorem ok_distinct (T : TX K mg) : Cal P w K mg base 1 "distinct" ["names"] (spDistinct K) := by
  refine cal_mk (fok_mk T.f_distinct sc_distinct (fun _ _ _ _ _ _ us hl => match us, hl with | [_], _ => rfl) (fun vs H Q E h => ?_) (fun cdv A outer s H vs Q E hr h => ?_)) T.g_distinct (let ⟨_, F⟩ := T.f_distinct; F.kp)
  · obtain ⟨a, xs, rfl, _⟩ := h; rfl
  obtain ⟨a, xs, rfl, ha, hn, k⟩ := h
  refine ⟨_, (pss_one (ps_ret (pe_callB (call_sortedD rfl) (by rfl) T.b_sorted (by decide +kernel) (pa_cons (pe_dc (own := [("name", 1)]) (g := gName 1) (tt := tYes) rfl sc_distinct.nd (k_pil K (by rfl) (pv 0)) (blkOk_by (N := ["names", "name"]) (sc := defScope s_distinct) (by decide +kernel)) (fun _ _ _ _ _ => by exact (pg_name (i := 1) sc_distinct.nd rfl (Or.inl rfl))) (fun _ _ _ _ _ => by exact (pts_nil)) (fun _ _ _ _ _ => by exact ((pv 1))) (fun _ _ _ _ _ => by exact (pe_bl))) pa_nil)))), ?_⟩
  refine ⟨_, rfl, a, rfl, ⟨_, ha⟩, dc_g walk_list (fun i acc _ => ∃ ks : List Str, acc = ttK ks ∧ ks.Nodup ∧ (∀ z, z ∈ ks ↔ z ∈ xs.take i) ∧ ks.length ≤ i) (by rw [List.length_map]; omega) (fun H1 s1 => (Sm.of s1).seq ha) (fun _ _ => ⟨[], rfl, .nil, by simp, Nat.le_refl _⟩) (fun _ _ _ _ r _ => r)
    (fun i acc _ ⟨ks, e, _, _, h⟩ => by rw [e]; unfold ttK; rw [List.length_map]; exact h) ?_ ?_⟩
  · rintro i acc y H1 H2 Qy Qn hi s1 ⟨ks, rfl, nd, hm, hl⟩ ⟨rfl, hc⟩ ky kn
    obtain ⟨x, hx1, rfl⟩ := get_map hc
    refine ⟨rfl, ?_⟩
    refine ⟨_, rfl, ky (Sum.inr x) _ _ (Same.refl _) ?_⟩
    rw [take_snoc hx1]
    by_cases hx : x ∈ ks
    · refine ⟨ks, ttK_put_old hx, nd, fun z => ?_, by omega⟩
      rw [List.mem_append, ← hm z]
      constructor
      · exact .inl
      · rintro (h | h)
        · exact h
        · rw [List.mem_singleton.mp h]; exact hx
    · refine ⟨ks ++ [x], ttK_put_new hx, nd_snoc nd hx, fun z => ?_, by rw [List.length_append, List.length_singleton]; omega⟩
      rw [List.mem_append, List.mem_append, hm z]
  · intro D acc H1 hD s1 hacc ⟨ks, e, nd, hm, hl⟩
    subst e
    rw [List.length_map] at hl hm
    refine ⟨D, ttK ks, ks, rfl, .inl hacc, ttK_keys ks, by omega, fun ys p hp hs hn1 => ?_⟩
    have e : ys = srt xs := by
      rw [sorted_is hp hs nd]
      exact srt_ext fun z => by rw [hm z, List.take_length]
    subst e
    exact k p _ (s1.free hn1) (s1.trans (same_new hn1 _)) upd_same
end
end Fl
namespace Fl
open PySem PySem.Spec L2
section
variable {X : Cx}
/-- isinstance(d, dict), d open or closed -/
def rIsiD : List V → Hp → VK → Prop := fun xs H Q => ∃ a kvs, xs = [.ref a, .ty "dict"] ∧ Rd H a (.dK kvs) ∧ Q (.bl true) H
theorem call_isiD : CallR X (.builtin "isinstance") rIsiD := by
  intro pins s σ H xs us Q I r h
  obtain ⟨a, kvs, rfl, ha, q⟩ := h
  obtain ⟨u1, u2, rfl, r1, r2⟩ := vals2 r
  cases (show u1 = Value.ref a from r1)
  cases (show u2 = Value.type "dict" from r2)
  obtain ⟨_, _, vs, _, o, es, ep, h1, h2, _⟩ := dk_rd I.hok ha
  exact PySem.W.kia_one PySem.W.kitx_dict I.kIn ⟨o, h1, h2.1⟩ (kit_ty (b := "dict") (r := true) (by decide +kernel)) (fun z => nomatch z) fun tk => ⟨.bl true, H, I.tok tk, rfl, q⟩
end
theorem tyx_ins {K : PySem.W.Frag} {H : Hp} {a C dx : Addr} {fs : List (Str × V)} (h : H a = some (.ins C dx fs)) (c : Cls K C) (i : Isi K C) : TyX K H (.ref a) (.ref C) := .base (.ins h c i.ca i.cn i.ct i.cm)
/-! ### == of lists of texts -/
theorem eqv_strs : ∀ xs ys : List Str, PyData.eqvAll (xs.map .str) (ys.map .str) = decide (xs = ys)
  | [], [] => by simp [PyData.eqvAll]
  | [], _ :: _ => by simp [PyData.eqvAll]
  | _ :: _, [] => by simp [PyData.eqvAll]
  | x :: xs, y :: ys => by
    simp only [List.map_cons, PyData.eqvAll, PyData.eqv, eqv_strs xs ys, List.cons.injEq, Bool.decide_and]
    congr 1
theorem dp_all {K : PySem.W.Frag} {H : Hp} : ∀ xs : List Str, DpAll K H (sv xs) (xs.map .str)
  | [] => .nil
  | x :: r => .cons (.str x) (dp_all r)
theorem dp_strs {K : PySem.W.Frag} {H : Hp} {a : Addr} {xs : List Str} (h : SqL K H a (sv xs)) : Dp K H (.ref a) (.list (xs.map .str)) := .lst h (dp_all xs)
theorem canLay_all : ∀ xs : List Str, Nms xs → PyData.canLayAll0 (xs.map .str) = true
  | [], _ => rfl
  | x :: r, h => by
    obtain ⟨_, _, h2⟩ := okN (h x List.mem_cons_self)
    have e : PyData.strOk x = true := by
      unfold PyData.strOk
      rw [Array.all_eq_true']
      intro c hc
      have := h2 c (Array.mem_toList_iff.mpr hc)
      simp; omega
    simp only [List.map_cons, PyData.canLayAll0, PyData.canLay0, e, canLay_all r (fun z hz => h z (List.mem_cons_of_mem _ hz)), Bool.and_self]
theorem depth_all : ∀ xs : List Str, PyData.depthAll (xs.map .str) = 0
  | [] => rfl
  | x :: r => by simp [PyData.depthAll, PyData.depth, depth_all r]
theorem shaped_strs {xs : List Str} (h : Nms xs) : SeqAt.shaped (.list (xs.map .str)) = true := by
  simp [SeqAt.shaped, PyData.canLay0, canLay_all xs h, PyData.depth, depth_all]
theorem eqv_lists (xs ys : List Str) : PyData.eqv (.list (xs.map .str)) (.list (ys.map .str)) = decide (xs = ys) := by
  simp only [PyData.eqv, eqv_strs]
theorem inV_strs (x : Str) (xs : List Str) : inV (.str x) (sv xs) = decide (x ∈ xs) := by
  unfold inV
  rw [List.any_map]
  rw [Bool.eq_iff_iff, List.any_eq_true, decide_eq_true_iff]
  constructor
  · rintro ⟨y, hy, h⟩
    have e : y = x := eq_of_beq h
    rw [← e]; exact hy
  · intro h
    exact ⟨x, h, beq_self_eq_true x⟩
theorem flat_sv (xs : List Str) : (sv xs).all flatV = true := by
  rw [List.all_map]; simp [flatV]
/-- a new list -/
abbrev RetL (H : Hp) (Q : VK) (xs : List V) : Prop := ∀ p H', H p = none → Same H H' → H' p = some (.lst xs) → Q (.ref p) H'
/-- names that a committee may have, in order -/
def GC (ms : List Str) : Prop := SS ms ∧ Nms ms ∧ ms.length ≤ 30
def GR (o : List Str) : Prop := o.Nodup ∧ Nms o ∧ o.length ≤ 30
theorem GC.gr {ms : List Str} (h : GC ms) : GR ms := ⟨h.1.nodup, h.2.1, h.2.2⟩
theorem GC.filter {ms : List Str} (h : GC ms) (p : Str → Bool) : GC (ms.filter p) := ⟨h.1.filter p, fun x hx => h.2.1 x (List.mem_filter.mp hx).1, Nat.le_trans (List.length_filter_le _ _) h.2.2⟩
theorem GR.srt {o : List Str} (h : GR o) : GC (srt o) := ⟨srt_SS _, fun x hx => h.2.1 x ((mem_srt x o).mp hx), by rw [srt_length h.1]; exact h.2.2⟩
end Fl
namespace Fl
open PySem PySem.Spec L2
open PyProof.Rows (AllBare)
/-! ### the heap as it was made up to a size -/
def trunc (h : Heap) (n : Nat) : Heap := ⟨h.objs.take n, h.life⟩
theorem trunc_size {h : Heap} {n : Nat} (e : n ≤ h.objs.size) : (trunc h n).objs.size = n := by
  show (h.objs.take n).size = n
  simp; omega
theorem trunc_get {h : Heap} {n : Nat} {b : Nat} (e : b < n) : (trunc h n).get? b = h.get? b := by
  unfold Heap.get? trunc
  have : (h.objs.take n)[b]? = h.objs[b]? := by
    rw [Array.take_eq_extract, Array.getElem?_extract]
    by_cases hb : b < h.objs.size
    · have : b < min n h.objs.size - 0 := by omega
      rw [if_pos this]; simp
    · have : ¬ b < min n h.objs.size - 0 := by omega
      have h2 : h.objs.size ≤ b := by omega
      rw [if_neg this, Array.getElem?_eq_none h2]
  simp only [this]
theorem of_trunc {h : Heap} {n : Nat} {b : Nat} {o : Obj} (e : (trunc h n).get? b = some o) : b < n ∧ h.get? b = some o := by
  have hb : b < n := by
    have h1 : b < (trunc h n).objs.size := Heap.lt_size e
    have h2 : (trunc h n).objs.size ≤ n := by
      show (h.objs.take n).size ≤ n
      rw [Array.take_eq_extract, Array.size_extract]; omega
    omega
  exact ⟨hb, by rw [← trunc_get hb]; exact e⟩
theorem funs_trunc {h base : Heap} {n : Nat} : ∀ {l : List Env}, (∀ b ∈ frs l, b < n) → h.FunFrames base l → (trunc h n).FunFrames base l
  | [], _, _ => trivial
  | env :: r, hb, hl => by
    obtain ⟨hk, ⟨L, o, hf, hn, ho, hd⟩, hr⟩ := hl
    have hL : L < n := hb L (by unfold frs; rw [List.filterMap_cons, hf]; exact List.mem_cons_self)
    exact ⟨hk, ⟨L, o, hf, hn, by rw [trunc_get hL]; exact ho, hd⟩, funs_trunc (fun b z => hb b (by unfold frs; rw [List.filterMap_cons, hf]; exact List.mem_cons_of_mem _ z)) hr⟩
/-! ### a generator that was called: what is fixed -/
structure GP where
  P : Program
  w : World
  K : PySem.W.Frag
  mg : Str → Option Value
  base : Heap
  outer : List Env
  N0 : Nat
  g : Nat
  k : Nat
  Itm : Hp → List Str → V → Prop
structure GP.Ok (p : GP) : Prop where
  mod : Mod p.K p.mg p.base
  bsz : p.base.objs.size ≤ p.N0
  frN : ∀ b ∈ frs p.outer, b < p.N0
/-- a wake: pn: what younger untracked things must be kept -/
structure Cur where
  A : Around
  s : Shared
  H : Hp
  pn : List (Addr × Obj)
structure Wk (p : GP) (F : List (Addr × Obj)) (G : List (Nat × GenState)) (H : Hp) (c : Cur) : Prop where
  room : Room p.k c.A
  frames : c.A.frames = some p.outer
  md : Md H c.H
  hok : HOk p.P p.w c.H c.s.heap
  bare : AllBare c.s.gens
  bs : ∀ b o, p.base.get? b = some o → c.s.heap.get? b = some o ∧ c.H b = none
  funs : c.s.heap.FunFrames p.base p.outer
  frf : ∀ b ∈ frs p.outer, c.H b = none
  sz : p.N0 ≤ c.s.heap.objs.size
  gs : p.g < c.s.gens.size
  fp : ∀ q ∈ F, c.s.heap.get? q.1 = some q.2 ∧ c.H q.1 = none
  ig : ∀ q ∈ G, c.s.gens[q.1]? = some q.2
  pn : ∀ q ∈ c.pn, c.s.heap.get? q.1 = some q.2 ∧ c.H q.1 = none ∧ p.N0 ≤ q.1 ∧ (∀ v, q.2.data ≠ .cell v) ∧ ∀ z ∈ F, z.1 ≠ q.1
structure Post (p : GP) (c : Cur) (H3 : Hp) (s' : Shared) : Prop where
  os : s'.os = c.s.os
  bare : AllBare s'.gens
  un : Un (frs p.outer) [] c.H H3 (trunc c.s.heap p.N0) s'.heap
  hok : HOk p.P p.w H3 s'.heap
  same : Same c.H H3
  pn : ∀ q ∈ c.pn, s'.heap.get? q.1 = some q.2 ∧ H3 q.1 = none
  gsz : c.s.gens.size ≤ s'.gens.size
structure Hold (p : GP) (F : List (Addr × Obj)) (G : List (Nat × GenState)) (c : Cur) (H3 : Hp) (s' : Shared) : Prop where
  fp : ∀ q ∈ F, s'.heap.get? q.1 = some q.2 ∧ H3 q.1 = none ∧ p.N0 ≤ q.1 ∧ (∀ v, q.2.data ≠ .cell v) ∧ ∀ r ∈ c.pn, r.1 ≠ q.1
  ig : ∀ q ∈ G, s'.gens[q.1]? = some q.2 ∧ asleep q.2 = true ∧ p.g < q.1
def Phi (p : GP) : List (List Str) → Cur → EPost
  | [], c => fun e s' => e = .ret (.ok (.ret .none)) ∧ ∃ H3, Post p c H3 s'
  | x :: r, c => fun e s' => ∃ v g l k c' pos fs, e = .susp v g l k c' pos fs ∧ e.quiet = true ∧ ∃ H3 fp ig, Post p c H3 s' ∧ (∃ y, RelV y v ∧ p.Itm H3 x y) ∧ Hold p fp ig c H3 s' ∧
      ∀ c2, Wk p fp ig H3 c2 → Go (model p.P p.w) c2.A (Phi p r c2) c' (k (.send .none)) fs c2.s
/-- asleep (or not begun): what is still to come, what it leans on -/
def Asl (p : GP) (its : List (List Str)) (gs : GenState) (fp : List (Addr × Obj)) (ig : List (Nat × GenState)) (H : Hp) : Prop :=
  match gs with
  | .fresh c => ∀ c2, Wk p fp ig H c2 → Same H c2.H → Go (model p.P p.w) c2.A (Phi p its c2) c ((model p.P p.w).den c) [] c2.s
  | .suspended k _ c _ fs _ => ∀ c2, Wk p fp ig H c2 → Go (model p.P p.w) c2.A (Phi p its c2) c (k (.send .none)) fs c2.s
  | _ => False
section
variable {M : Model} {A : Around}
theorem wpAny_resumeG {Φ : EPost} {E : Value → Shared → Prop} {s : Shared} {g : Nat} {gs : GenState} {r : Resume} {l : List Value} {α : Type} {k : GenResult → Sem α} {Q : α → Shared → Prop} (hg : s.gens[g]? = some gs)
    (hgo : match gs with
      | .fresh c => r = .send .none ∧ Go M A Φ c (M.den c) [] (s.setGen g .running)
      | .suspended k _ c _ fs _ => Go M A Φ c (k r) fs (s.setGen g .running)
      | _ => False)
    (hΦ : ∀ e s₁, Φ e s₁ → e.quiet = true ∧ wpAny M A (k e.result) Q E (s₁.setGen g e.genState)) : wpAny M A (.resume g r l k) Q E s := by
  intro Γ p hΓ
  rw [Sem.wp_resume]
  cases gs with
  | fresh c =>
    obtain ⟨rfl, hs⟩ := hgo
    obtain ⟨e₁, s₁, hr, he⟩ := hs (Γ.wake c p) p rfl (hΓ.wake c p)
    obtain ⟨hq, hw⟩ := hΦ e₁ s₁ he
    exact ⟨_, _, by unfold Wakes; rw [hg]; exact ⟨e₁, s₁, hr, hq, rfl, rfl⟩, hw Γ p hΓ⟩
  | suspended k₀ l₀ c₀ p₀ fs₀ cl =>
    obtain ⟨e₁, s₁, hr, he⟩ := hgo (Γ.wake c₀ p) p₀ rfl (hΓ.wake c₀ p)
    obtain ⟨hq, hw⟩ := hΦ e₁ s₁ he
    exact ⟨_, _, by unfold Wakes; rw [hg]; exact ⟨e₁, s₁, hr, hq, rfl, rfl⟩, hw Γ p hΓ⟩
  | running => exact hgo.elim
  | finished => exact hgo.elim
/-- next(g) -/
theorem next_asl {p : GP} {a : Addr} {g : Nat} {gs : GenState} {its : List (List Str)} {fp : List (Addr × Obj)} {ig : List (Nat × GenState)} {H H2 : Hp} {pn : List (Addr × Obj)} {Q : Option Value → Shared → Prop} {E : Value → Shared → Prop} {s : Shared}
    (hh : A.handled = none) (hl : s.heap.NoLimit) (hroom : A.depth < recursionLimit) (hg : s.heap.IsGen a g) (hgs : s.gens[g]? = some gs) (ha : Asl p its gs fp ig H) (W : Wk p fp ig H ⟨A.in1, s.setGen g .running, H2, pn⟩) (hsm : asleep gs = false → Same H H2)
    (hY : ∀ x r v s₁ gs' H3 fp' ig', its = x :: r → gs'.bare = true → asleep gs' = true → Post p ⟨A.in1, s.setGen g .running, H2, pn⟩ H3 s₁ → (∃ y, RelV y v ∧ p.Itm H3 x y) → Hold p fp' ig' ⟨A.in1, s.setGen g .running, H2, pn⟩ H3 s₁ → Asl p r gs' fp' ig' H3 → Q (some v) (s₁.setGen g gs'))
    (hN : its = [] → ∀ s₁ H3 h', Post p ⟨A.in1, s.setGen g .running, H2, pn⟩ H3 s₁ → (∀ b o, s₁.heap.get? b = some o → h'.get? b = some o) → Q none { s₁.setGen g .finished with heap := h' }) :
    wpAny (model p.P p.w) A (pyNext (.ref a)) Q E s := by
  unfold pyNext
  refine wpAny_bind (wpAny_attempt (wpAny_callSpecial?_slot (name := Str.ofString "__next__") hg.typeIs slot_gen_next
    (wpAny_call_entry slot_gen_next hg.typeIs entry_gen_next ?_ (args_gen_next _))))
  show wpAny _ A.in1 (Builtin.Generator.genWake (.ref a) (.send .none)) _ _ s
  unfold Builtin.Generator.genWake
  refine wpAny_bind (wpAny_holding (wpAny_genNumber hg (wpAny_bind (wpAny_genState hgs ?_))))
  cases gs with
  | running => exact ha.elim
  | finished => exact ha.elim
  | _ =>
    refine wpAny_bind (wpAny_roomToWake hl hroom ?_)
    show wpAny _ A.in1 (.resume g (.send .none) [] _) _ _ s
    refine wpAny_resumeG (Φ := Phi p its ⟨A.in1, s.setGen g .running, H2, pn⟩) hgs ?_ (fun e s₁ he => ?_)
    · first
        | exact ⟨rfl, ha _ W (hsm rfl)⟩
        | exact ha _ W
    · cases its with
      | nil =>
        obtain ⟨rfl, H3, hp⟩ := he
        refine ⟨rfl, ?_⟩
        show wpAny _ A.in1 (newExc (.type "StopIteration") [] >>= _) _ _ _
        refine wpAny_bind ?_
        simp only [newExc, newTuple]
        refine wpAny_bind (wpAny_newObj_type ?_ (by size_fits))
        refine wpAny_bind (m := firstArgMember _ _) (wpAny_of_eq (a := Value.none) (by first | rfl | (simp only [firstArgMember]; rfl)) ?_)
        refine wpAny_newObj_type ?_ (by size_fits)
        simp only [raiseNew]
        refine wpAny_bind (wpAny_bind (wpAny_handled ?_))
        first | rw [show A.in1.handled = none from hh] | rw [hh]
        refine wpAny_throw ?_
        refine wpAny_bind (wpAny_isInstance (T := "StopIteration") (b := true) ⟨_, Heap.get?_push_size _ rfl, rfl⟩ isSubtype_stop ?_)
        exact wpAny_pure (hN rfl s₁ H3 _ hp fun b o hb => Heap.get?_push_of_some _ (Heap.get?_push_of_some _ hb))
      | cons x r =>
        obtain ⟨v, g0, l, k, c', pos, fs, rfl, hq, H3, fp', ig', hp, hi, hd, nx⟩ := he
        refine ⟨hq, ?_⟩
        exact wpAny_pure ⟨v, rfl, wpAny_pure (hY x r v s₁ _ H3 fp' ig' rfl (End.bare_of_quiet hq) rfl hp hi hd nx)⟩
end
end Fl
namespace Fl
open PySem PySem.Spec L2
open PyProof.Rows (AllBare)
def isCell (o : Obj) : Bool := match o.data with
  | .cell _ => true
  | _ => false
theorem notCell {o : Obj} (h : isCell o = false) : ∀ v, o.data ≠ .cell v := fun v e => by unfold isCell at h; rw [e] at h; cases h
theorem isCell_false {o : Obj} (h : ∀ v, o.data ≠ .cell v) : isCell o = false := by
  unfold isCell
  split
  · rename_i v e; exact absurd e (h v)
  · rfl
/-- all that is not tracked, from n on, but what stands in F and cells -/
def pnOf (h : Heap) (H : Hp) (n : Nat) (F : List Addr) : List (Addr × Obj) := (List.range h.objs.size).filterMap fun b => if n ≤ b ∧ b ∉ F ∧ (H b).isNone = true then (match h.get? b with
  | some o => if isCell o = true then none else some (b, o)
  | none => none) else none
theorem mem_pnOf {h : Heap} {H : Hp} {n : Nat} {F : List Addr} {b : Nat} {o : Obj} (h1 : n ≤ b) (h2 : b ∉ F) (h3 : H b = none) (h4 : h.get? b = some o) (h5 : isCell o = false) : (b, o) ∈ pnOf h H n F :=
  List.mem_filterMap.mpr ⟨b, List.mem_range.mpr (Heap.lt_size h4), by simp [h1, h2, h3, h4, h5]⟩
theorem of_pnOf {h : Heap} {H : Hp} {n : Nat} {F : List Addr} {q : Addr × Obj} (hq : q ∈ pnOf h H n F) : n ≤ q.1 ∧ q.1 ∉ F ∧ H q.1 = none ∧ h.get? q.1 = some q.2 ∧ isCell q.2 = false := by
  obtain ⟨b, _, e⟩ := List.mem_filterMap.mp hq
  split at e
  · rename_i hc
    split at e
    · rename_i o ho
      split at e
      · cases e
      · rename_i hn
        cases e
        exact ⟨hc.1, hc.2.1, by simpa using hc.2.2, ho, by simpa using hn⟩
    · cases e
  · cases e
theorem there_of {P : Program} {w : World} {H : Hp} {h : Heap} {a : Addr} {o : HO} (x : ObjOk P w H h a o) : ∃ u, h.get? a = some u := by
  cases o with
  | lst xs => obtain ⟨_, _, _, _, e⟩ := x; exact ⟨_, e⟩
  | tup xs => obtain ⟨_, _, _, o, e, _⟩ := x; exact ⟨_, e⟩
  | dK kvs => obtain ⟨_, _, _, _, o, _, _, e, _⟩ := x; exact ⟨_, e⟩
  | dT kvs => obtain ⟨_, _, _, _, o, _, _, e, _⟩ := x; exact ⟨_, e⟩
  | set S n => obtain ⟨o, _, _, _, e, _⟩ := x; exact ⟨_, e⟩
  | ins C dx fs => obtain ⟨_, _, _, e, _⟩ := x; exact ⟨_, e⟩
  | own y => exact x
  | xd fs => obtain ⟨_, ⟨o, _, _, e, _⟩, _⟩ := x; exact ⟨_, e⟩
  | rng lo hi => obtain ⟨_, _, _, e⟩ := x; exact ⟨_, e⟩
  | frz ob u => obtain ⟨e, _⟩ := x; exact ⟨_, e⟩
  | tbl ps => exact ⟨_, (show h.get? a = some _ from x)⟩
  | met f y => exact ⟨_, (show h.get? a = some _ from x)⟩
  | ext φ => obtain ⟨_, e, _⟩ := x; exact e
section
variable {X : Cx} {pins : List (Addr × Obj)} {σ : L2.St} {H : Hp} {s : Shared}
theorem inv_wG (I : Inv X pins σ H s) {b : Array GenState} (h : AllBare b) : Inv X pins σ H (wG s b) :=
  ⟨I.ok, I.os, h, I.base, I.loc, I.cell, I.free, I.freeC, I.pin, I.hok, I.len⟩
/-- the generator's fixed data, by its consumer -/
abbrev gp (X : Cx) (N0 g k : Nat) (Itm : Hp → List Str → V → Prop) : GP := ⟨X.prog, X.w, X.K, X.mg, X.base, X.stack, N0, g, k, Itm⟩
theorem fs_stk (ok : X.Ok) : ∀ b ∈ X.fs, b ∈ frs X.stack := fun b hb => by
  rcases ok.stk with e | ⟨e, hf⟩
  · rw [e]; exact hb
  · rw [e]; unfold frs; rw [List.filterMap_cons, hf]; exact List.mem_cons_of_mem _ hb
/-- what a wake may change of what is not tracked: F, young cells -/
def chOf (h : Heap) (H : Hp) (n : Nat) (F : List Addr) : List Addr := F ++ (List.range h.objs.size).filter fun b => (decide (n ≤ b) && (H b).isNone) && (match h.get? b with | some o => isCell o | none => false)
theorem of_chOf {h : Heap} {H : Hp} {n : Nat} {F : List Addr} (hF : ∀ b ∈ F, n ≤ b ∧ H b = none) : ∀ b ∈ chOf h H n F, n ≤ b ∧ H b = none ∧ (b ∈ F ∨ ∃ o, h.get? b = some o ∧ isCell o = true) := fun b hb => by
  rcases List.mem_append.mp hb with z | z
  · exact ⟨(hF b z).1, (hF b z).2, .inl z⟩
  · obtain ⟨_, z⟩ := List.mem_filter.mp z
    rw [Bool.and_eq_true, Bool.and_eq_true] at z
    obtain ⟨⟨z1, z3⟩, z2⟩ := z
    refine ⟨of_decide_eq_true z1, by simpa using z3, .inr ?_⟩
    split at z2
    · rename_i o e; exact ⟨o, e, z2⟩
    · cases z2
theorem not_chOf {h : Heap} {H : Hp} {n : Nat} {F : List Addr} {b : Nat} {o : Obj} (e : h.get? b = some o) (hn : H b = none) (hb : n ≤ b) (hc : b ∉ chOf h H n F) : b ∉ F ∧ isCell o = false := by
  unfold chOf at hc
  rw [List.mem_append, not_or] at hc
  refine ⟨hc.1, ?_⟩
  cases hcc : isCell o with
  | false => rfl
  | true =>
    refine absurd (List.mem_filter.mpr ⟨List.mem_range.mpr (Heap.lt_size e), ?_⟩) hc.2
    rw [e]
    simp [hb, hn, hcc]
/-- behind a wake -/
theorem inv_woken {N0 g k : Nat} {Itm : Hp → List Str → V → Prop} (I : Inv X pins σ H s) (frN : ∀ b ∈ frs X.stack, b < N0) {c : Cur} {F : List Addr} (hcs : c.s.heap = s.heap) (hos : c.s.os = s.os) (hH : c.H = H) (hpn : c.pn = pnOf s.heap H N0 F) {H3 : Hp} {s1 : Shared} (po : Post (gp X N0 g k Itm) c H3 s1)
    (hch : ∀ b, N0 ≤ b → H b = none → (b ∈ F ∨ ∃ o, s.heap.get? b = some o ∧ isCell o = true) → (b ∈ X.ex ∨ X.s_0.heap.objs.size ≤ b) ∧ b ≠ X.env.locals ∧ (∀ x c, X.env.cells.lookup x = some c → c ≠ b) ∧ ∀ p ∈ X.pn ++ pins, p.1 ≠ b)
    (hF : ∀ b ∈ F, N0 ≤ b ∧ H b = none) : Inv X pins σ H3 s1 := by
  have un := po.un
  have hpn' := po.pn
  rw [hpn] at hpn'
  rw [hcs, hH] at un
  have same := po.same
  rw [hH] at same
  refine I.call' (ch := chOf s.heap H N0 F) (po.os.trans hos) ⟨fun b o e n hb hc => ?_, fun b o e n hb hc => ?_, fun b o e n hc => ?_, fun b o e hc => ?_, un.tups, un.frzs, un.tbls⟩ po.hok po.bare fun b hb => let ⟨z1, z2, z3⟩ := of_chOf hF b hb; hch b z1 z2 z3
  · by_cases hN : b < N0
    · exact un.keep b o (by rw [trunc_get hN]; exact e) n hb (by simp)
    · have hN := Nat.le_of_not_lt hN
      obtain ⟨z1, z2⟩ := not_chOf e n hN hc
      exact (hpn' _ (mem_pnOf hN z1 n e z2)).1
  · have hN := frN b hb
    exact un.slot b o (by rw [trunc_get hN]; exact e) n hb (by simp)
  · by_cases hN : b < N0
    · exact un.free b o (by rw [trunc_get hN]; exact e) n (by simp)
    · have hN := Nat.le_of_not_lt hN
      obtain ⟨z1, z2⟩ := not_chOf e n hN hc
      exact (hpn' _ (mem_pnOf hN z1 n e z2)).2
  · by_cases hN : b < N0
    · exact un.there b o (by rw [trunc_get hN]; exact e) (by simp)
    · have hN := Nat.le_of_not_lt hN
      cases hb : H b with
      | none =>
        obtain ⟨z1, z2⟩ := not_chOf e hb hN hc
        exact ⟨o, (hpn' _ (mem_pnOf hN z1 hb e z2)).1⟩
      | some u => exact there_of (po.hok b u (same b u hb))
end
/-- a generator (at a) that sleeps, or has not begun, in the state of its consumer -/
structure SlpAt (X : Cx) (pins : List (Addr × Obj)) (p : GP) (a : Addr) (go : Obj) (gs : GenState) (F : List (Addr × Obj)) (G : List (Nat × GenState)) (H0 : Hp) (its : List (List Str)) (σ : L2.St) (H : Hp) (s : Shared) : Prop where
  inv : Inv X (pins ++ (a, go) :: F) σ H s
  md : Md H0 H
  sm : asleep gs = false → Same H0 H
  gen : ∀ h : Heap, h.get? a = some go → h.IsGen a p.g
  gst : s.gens[p.g]? = some gs
  ig : ∀ q ∈ G, s.gens[q.1]? = some q.2 ∧ asleep q.2 = true ∧ p.g < q.1
  sl : Asl p its gs F G H0
  fN : ∀ q ∈ F, p.N0 ≤ q.1 ∧ q.1 ≠ a
  aN : p.N0 ≤ a
  dj : ∀ q ∈ F, ∀ z ∈ X.pn ++ pins, z.1 ≠ q.1
  cell : isCell go = false
def Slp (X : Cx) (pins : List (Addr × Obj)) (p : GP) (a : Addr) (its : List (List Str)) (σ : L2.St) (H : Hp) (s : Shared) : Prop := ∃ go gs F G H0, asleep gs = true ∧ SlpAt X pins p a go gs F G H0 its σ H s
theorem getSet_ne {s : Shared} {g i : Nat} {x : GenState} (h : g ≠ i) : (s.setGen g x).gens[i]? = s.gens[i]? := by
  show (s.gens.setIfInBounds g x)[i]? = _
  rw [Array.getElem?_setIfInBounds_ne h]
section
variable {X : Cx} {pins : List (Addr × Obj)} {a : Addr} {its : List (List Str)} {σ : L2.St} {H : Hp} {s : Shared} {p : GP}
/-- what runs in the consumer while it sleeps -/
theorem slp_run {α : Type} {m : Sem α} {A : Around} {σ2 : α → L2.St → Hp → Prop} (h : ∀ pins' s, Inv X pins' σ H s → wpAny (model X.prog X.w) A m (fun u s' => ∃ σ' H', Inv X pins' σ' H' s' ∧ Md H H' ∧ σ2 u σ' H') (fun _ _ => False) s)
    (S : Slp X pins p a its σ H s) : wpAny (model X.prog X.w) A m (fun u s' => ∃ σ' H', Slp X pins p a its σ' H' s' ∧ σ2 u σ' H') (fun _ _ => False) s := by
  obtain ⟨go, gs, F, G, H0, hs, S⟩ := S
  have q := h _ _ (inv_wG S.inv (bare_stub S.inv.bare))
  refine wpAny_mono (wpAny_keep q) (fun u s' z => ?_) fun _ _ ⟨_, _, _, _, z⟩ => z.elim
  obtain ⟨s'', b', rfl, f, σ', H', I', md, r⟩ := z
  refine ⟨σ', H', ⟨go, gs, F, G, H0, hs, inv_wG I' (f.bare I'.bare), S.md.trans md, (fun e => (by rw [hs] at e; cases e)), S.gen, ?_, fun q hq => ?_, S.sl, S.fN, S.aN, S.dj, S.cell⟩, r⟩
  · exact f.keep.st _ _ S.gst hs
  · obtain ⟨h1, h2, h3⟩ := S.ig q hq
    exact ⟨f.keep.st _ _ h1 h2, h2, h3⟩
end
section
variable {X : Cx} {pins : List (Addr × Obj)} {a : Addr} {its : List (List Str)} {σ : L2.St} {H : Hp} {s : Shared} {N0 g k : Nat} {Itm : Hp → List Str → V → Prop}
/-- next(g) in its consumer -/
theorem slp_next {go : Obj} {gs : GenState} {F : List (Addr × Obj)} {G : List (Nat × GenState)} {H0 : Hp} {A : Around} {Q : Option Value → Shared → Prop} (S : SlpAt X pins (gp X N0 g k Itm) a go gs F G H0 its σ H s) (ok : (gp X N0 g k Itm).Ok) (hr : Room k A.in1) (hfr : A.frames = some X.stack)
    (h1 : ∀ b, N0 ≤ b → H b = none → b ≠ a → b ∈ X.ex ∨ X.s_0.heap.objs.size ≤ b) (h2 : ∀ x c, X.env.cells.lookup x = some c → c < N0)
    (hY : ∀ x r v y s' H3, its = x :: r → RelV y v → Itm H3 x y → Same H H3 → Slp X pins (gp X N0 g k Itm) a r σ H3 s' → Q (some v) s')
    (hN : its = [] → ∀ s' H3, Same H H3 → Inv X (pins ++ [(a, go)]) σ H3 s' → Q none s') : wpAny (model X.prog X.w) A (pyNext (.ref a)) Q (fun _ _ => False) s := by
  have I := S.inv
  have pinF : ∀ q ∈ F, s.heap.get? q.1 = some q.2 ∧ H q.1 = none ∧ q.1 ≠ X.env.locals ∧ q.1 ∉ X.fs ∧ ∀ v, q.2.data ≠ .cell v := fun q hq => I.pin q (List.mem_append_right _ (List.mem_append_right _ (List.mem_cons_of_mem _ hq)))
  have pinA := I.pin (a, go) (List.mem_append_right _ (List.mem_append_right _ List.mem_cons_self))
  have hn : N0 ≤ s.heap.objs.size := Nat.le_trans S.aN (Nat.le_of_lt (Heap.lt_size pinA.1))
  have hgl : g < s.gens.size := by
    have := S.gst
    exact (Array.getElem?_eq_some_iff.mp this).1
  have W : Wk (gp X N0 g k Itm) F G H0 ⟨A.in1, s.setGen g .running, H, pnOf s.heap H N0 (F.map (·.1))⟩ := by
    refine ⟨hr, hfr, S.md, I.hok, allBare_setGen I.bare rfl, I.bs, I.stack, I.stkFree, hn, by rw [GenW.setGen_size]; exact hgl, fun q hq => ⟨(pinF q hq).1, (pinF q hq).2.1⟩, fun q hq => ?_, fun q hq => ?_⟩
    · obtain ⟨h1, h2, h3⟩ := S.ig q hq
      rw [getSet_ne (Nat.ne_of_lt h3)]; exact h1
    · obtain ⟨z1, z2, z3, z4, z5⟩ := of_pnOf hq
      exact ⟨z4, z3, z1, notCell z5, fun z hz e => z2 (List.mem_map.mpr ⟨z, hz, e⟩)⟩
  have I0 : Inv X (pins ++ [(a, go)]) σ H s := I.pins_of fun q hq => by
    rcases List.mem_append.mp hq with z | z
    · exact I.pin q (List.mem_append_right _ (List.mem_append_left _ z))
    · rw [List.mem_singleton.mp z]; exact pinA
  have woke : ∀ {H3 : Hp} {s1 : Shared}, Post (gp X N0 g k Itm) ⟨A.in1, s.setGen g .running, H, pnOf s.heap H N0 (F.map (·.1))⟩ H3 s1 → Inv X (pins ++ [(a, go)]) σ H3 s1 := fun {H3 s1} po =>
    inv_woken I0 ok.frN rfl rfl rfl rfl po (fun b hb hn hc => by
      have hcell : ∀ q ∈ X.pn ++ (pins ++ [(a, go)]), (∃ o, s.heap.get? b = some o ∧ isCell o = true) → q.1 ≠ b := fun q hq ⟨o, ho, hc⟩ e => by
        obtain ⟨z1, _, _, _, z5⟩ := I0.pin q hq
        rw [e, ho] at z1; cases z1
        rw [isCell_false z5] at hc; cases hc
      have hna : b ≠ a := fun e => by
        rcases hc with hc | hc
        · obtain ⟨q', hq', e'⟩ := List.mem_map.mp hc
          exact (S.fN q' hq').2 (e'.trans e)
        · exact hcell (a, go) (List.mem_append_right _ (List.mem_append_right _ (List.mem_singleton.mpr rfl))) hc e.symm
      refine ⟨h1 b hb hn hna, fun e => ?_, fun x c hx e => ?_, fun q hq => ?_⟩
      · rcases hc with hc | ⟨o, ho, hc⟩
        · obtain ⟨q', hq', e'⟩ := List.mem_map.mp hc
          exact (pinF q' hq').2.2.1 (e'.trans e)
        · obtain ⟨m, ⟨o', es, ep, ho', hd2, _⟩, _⟩ := I.loc
          rw [e, ho'] at ho; cases ho
          rw [isCell_false fun v z => by rw [hd2] at z; cases z] at hc; cases hc
      · have := h2 x c hx
        rw [e] at this
        exact absurd (Nat.lt_of_lt_of_le this hb) (Nat.lt_irrefl _)
      · rcases hc with hc | hc
        · obtain ⟨q', hq', e'⟩ := List.mem_map.mp hc
          rcases List.mem_append.mp hq with z | z
          · exact fun e => S.dj q' hq' q (List.mem_append_left _ z) (e.trans e'.symm)
          · rcases List.mem_append.mp z with z | z
            · exact fun e => S.dj q' hq' q (List.mem_append_right _ z) (e.trans e'.symm)
            · rw [List.mem_singleton.mp z]
              exact fun e => hna e.symm
        · exact hcell q hq hc) fun b hb => by
      obtain ⟨q', hq', rfl⟩ := List.mem_map.mp hb
      exact ⟨(S.fN q' hq').1, (pinF q' hq').2.1⟩
  refine wpAny_mono (next_asl (E := fun _ _ => False) (p := gp X N0 g k Itm) (A := A) (Q := Q) hr.hd I.nolimit (by have := hr.depth; exact this) (S.gen _ pinA.1) S.gst S.sl W S.sm (fun x r v s1 gs' H3 fp' ig' e hb hs po hi hd ha => ?_) (fun e s1 H3 h' po hk => ?_)) (fun _ _ z => z) fun _ _ z => z
  · obtain ⟨y, ry, hi⟩ := hi
    have I1 := woke po
    refine hY x r v y _ H3 e ry hi po.same ⟨go, gs', fp', ig', H3, hs, ?_⟩
    have hgl1 : g < s1.gens.size := by
      have h1 := po.gsz
      have h2 : (s.setGen g .running).gens.size = s.gens.size := GenW.setGen_size _ _ _
      have h3 : (s.setGen g .running).gens.size ≤ s1.gens.size := h1
      omega
    refine ⟨(inv_wG (b := (s1.setGen g gs').gens) I1 (allBare_setGen I1.bare hb)).pins_of fun q hq => ?_, .of fun _ _ e => e, fun _ => fun _ _ e => e, S.gen, setGen_at hgl1, fun q hq => ?_, ha, fun q hq => ?_, S.aN, fun q hq z hz => ?_, S.cell⟩
    · rcases List.mem_append.mp hq with z | z
      · exact I1.pin q (List.mem_append_right _ (List.mem_append_left _ z))
      · rcases List.mem_cons.mp z with z | z
        · rw [z]; exact I1.pin (a, go) (List.mem_append_right _ (List.mem_append_right _ (List.mem_singleton.mpr rfl)))
        · obtain ⟨h1, h2, h3, h4, h5⟩ := hd.fp q z
          refine ⟨h1, h2, fun e => ?_, fun hm => ?_, h4⟩
          · by_cases hl : X.env.locals < N0
            · have h3 : N0 ≤ q.1 := h3
              rw [e] at h3
              exact absurd (Nat.lt_of_lt_of_le hl h3) (Nat.lt_irrefl _)
            · have hl := Nat.le_of_not_lt hl
              obtain ⟨m, ⟨o, es, ep, ho, hd2, _⟩, _⟩ := I.loc
              have hnF : X.env.locals ∉ F.map (·.1) := fun hm => by
                obtain ⟨q', hq', e'⟩ := List.mem_map.mp hm
                exact (pinF q' hq').2.2.1 e'
              exact h5 _ (mem_pnOf hl hnF I.free ho (isCell_false fun v z => by rw [hd2] at z; cases z)) e.symm
          · have h3 : N0 ≤ q.1 := h3
            exact absurd (Nat.lt_of_lt_of_le (ok.frN q.1 (fs_stk I.ok q.1 hm)) h3) (Nat.lt_irrefl _)
    · obtain ⟨h1, h2, h3⟩ := hd.ig q hq
      have h3 : g < q.1 := h3
      exact ⟨by rw [getSet_ne (Nat.ne_of_lt h3)]; exact h1, h2, h3⟩
    · obtain ⟨h1, h2, h3, h4, h5⟩ := hd.fp q hq
      refine ⟨h3, fun e => ?_⟩
      have hnF : a ∉ F.map (·.1) := fun hm => by
        obtain ⟨q', hq', e'⟩ := List.mem_map.mp hm
        exact (S.fN q' hq').2 e'
      exact h5 _ (mem_pnOf S.aN hnF pinA.2.1 pinA.1 S.cell) e.symm
    · obtain ⟨h1', h2', h3, h4, h5⟩ := hd.fp q hq
      obtain ⟨z1, z2, _, _, z5⟩ := I.pin z (by
        rcases List.mem_append.mp hz with y | y
        · exact List.mem_append_left _ y
        · exact List.mem_append_right _ (List.mem_append_left _ y))
      intro e
      by_cases hl : z.1 < N0
      · have h3 : N0 ≤ q.1 := h3
        rw [e] at hl
        exact absurd (Nat.lt_of_lt_of_le hl h3) (Nat.lt_irrefl _)
      · refine h5 _ (mem_pnOf (Nat.le_of_not_lt hl) (fun hm => ?_) z2 z1 (isCell_false z5)) e
        obtain ⟨q', hq', e'⟩ := List.mem_map.mp hm
        exact S.dj q' hq' z hz e'.symm
  · have I1 := woke po
    refine hN e _ H3 po.same ?_
    exact I1.call' (s' := { s1.setGen g .finished with heap := h' }) (ch := []) rfl (Un.kept hk) (I1.hok.kept hk) (allBare_setGen I1.bare rfl) fun b z => by simp at z
end
end Fl
namespace Fl
open PySem PySem.Spec L2
open PyProof.Rows (AllBare)
/-! ### within a generator's body -/
/-- its context, based at the wake -/
abbrev gX (p : GP) (N : List Str) (env : Env) (c : Cur) : Cx where
  prog := p.P
  w := p.w
  K := p.K
  mg := p.mg
  base := p.base
  A := c.A.deeper env
  N := N
  s_0 := { c.s with heap := trunc c.s.heap p.N0 }
  H_0 := c.H
  env := env
  outer := p.outer
  stack := env :: p.outer
  ex := []
  fn := fun _ => true
  calm := true
  pn := c.pn
  xe := fun _ _ => False
structure GE (p : GP) (env : Env) : Prop where
  kind : env.scope.kind = .function
  glob : env.globals = mainGlobals
  blt : env.builtins = builtinsNs
  loc : env.locals = p.N0
  frm : env.frame = some env.locals
  nc : ∀ x, env.cells.lookup x = none
  nk : ∀ x, env.kindOf x ≠ some .cell ∧ env.kindOf x ≠ some .free
/-- running: ip: what of its own stands; G: the generators that it holds, asleep -/
structure GSt (p : GP) (N : List Str) (env : Env) (c : Cur) (ip : List (Addr × Obj)) (G : List (Nat × GenState)) (σ : L2.St) (H : Hp) (s : Shared) : Prop where
  inv : Inv (gX p N env c) ip σ H s
  same : Same c.H H
  ip : ∀ q ∈ ip, p.N0 ≤ q.1 ∧ ∀ r ∈ c.pn, r.1 ≠ q.1
  gsz : c.s.gens.size ≤ s.gens.size
  gg : p.g < c.s.gens.size
  csz : p.N0 ≤ c.s.heap.objs.size
  ig : ∀ q ∈ G, s.gens[q.1]? = some q.2 ∧ asleep q.2 = true ∧ p.g < q.1
section
variable {p : GP} {N : List Str} {env : Env} {c c2 : Cur} {ip : List (Addr × Obj)} {G : List (Nat × GenState)} {σ : L2.St} {H : Hp} {s : Shared}
theorem GSt.post (S : GSt p N env c ip G σ H s) : Post p c H s :=
  ⟨S.inv.os, S.inv.bare, S.inv.base, S.inv.hok, S.same, fun q hq => let z := S.inv.pin q (List.mem_append_left _ hq); ⟨z.1, z.2.1⟩, S.gsz⟩
theorem GSt.lo (S : GSt p N env c ip G σ H s) : ∃ lo, s.heap.get? env.locals = some lo ∧ ∀ v, lo.data ≠ .cell v := by
  obtain ⟨m, ⟨o, es, ep, ho, hd, _⟩, _⟩ := S.inv.loc
  exact ⟨o, ho, fun v z => by rw [hd] at z; cases z⟩
theorem GSt.hold (S : GSt p N env c ip G σ H s) (ge : GE p env) {lo : Obj} (h : s.heap.get? env.locals = some lo) (hc : ∀ v, lo.data ≠ .cell v) : Hold p ((env.locals, lo) :: ip) G c H s := by
  refine ⟨fun q hq => ?_, S.ig⟩
  rcases List.mem_cons.mp hq with rfl | hq
  · exact ⟨h, S.inv.free, by rw [ge.loc]; exact Nat.le_refl _, hc, fun r hr => (S.inv.pin r (List.mem_append_left _ hr)).2.2.1⟩
  · obtain ⟨z1, z2, z3, z4, z5⟩ := S.inv.pin q (List.mem_append_right _ hq)
    exact ⟨z1, z2, (S.ip q hq).1, z5, (S.ip q hq).2⟩
/-- the invariant at a wake -/
theorem inv_wake (ok : p.Ok) (ge : GE p env) {F : List (Addr × Obj)} {H0 : Hp} (W : Wk p F G H0 c2) (hloc : ∃ m, c2.s.heap.Ns env.locals m ∧ ∀ (i : Nat) (x : Str) (v : V), N[i]? = some x → σ[i]? = some (some v) → Vis env.scope x → ∃ u, RelV v u ∧ Look env c2.s.heap m x u)
    {lo : Obj} (hlo : (env.locals, lo) ∈ F) (hlen : σ.length = N.length) (hip : ∀ q ∈ ip, q ∈ F ∧ q.1 ≠ env.locals ∧ (∀ v, q.2.data ≠ .cell v) ∧ p.N0 ≤ q.1) : Inv (gX p N env c2) ip σ c2.H c2.s := by
  have sz : (trunc c2.s.heap p.N0).objs.size = p.N0 := trunc_size W.sz
  have nofs : ∀ b : Nat, p.N0 ≤ b → b ∉ frs p.outer := fun b hb hm => absurd (Nat.lt_of_lt_of_le (ok.frN b hm) hb) (Nat.lt_irrefl _)
  have nocell : ∀ x c, env.cells.lookup x = some c → False := fun x c e => by rw [ge.nc] at e; cases e
  refine ⟨⟨ok.mod, ge.kind, ge.glob, ge.blt, ?_, fun x y c e => (nocell x c e).elim, fun x hx => ?_, fun x c _ e => (nocell x c e).elim, fun _ => W.room.hd, Around.frames_deeper W.frames, .inr ⟨rfl, ge.frm⟩, fun b hb => by simp at hb, fun b o e => ?_, ?_, fun b o e hb => by simp at hb, fun b hb => by simp at hb, funs_trunc ok.frN W.funs, W.frf⟩,
    rfl, W.bare, ⟨fun b o e n hb hx => (of_trunc e).2, fun b o e n hb hx => ⟨o.slots, (of_trunc e).2⟩, fun b o e n hx => n, fun b o e hx => ⟨o, (of_trunc e).2⟩, fun _ _ e => e, fun _ _ _ e => e, fun b ps e => ⟨#[], by have e : c2.H b = some (.tbl ps) := e; rw [e]; simp⟩⟩, hloc, fun x c e => (nocell x c e).elim, (W.fp _ hlo).2, fun x c e => (nocell x c e).elim, fun q hq => ?_, W.hok, hlen⟩
  · show (trunc c2.s.heap p.N0).objs.size ≤ env.locals
    rw [sz, ge.loc]; exact Nat.le_refl _
  · rcases hx with hx | hx
    · exact absurd hx (ge.nk x).1
    · exact absurd hx (ge.nk x).2
  · obtain ⟨h1, h2⟩ := W.bs b o e
    refine ⟨?_, h2⟩
    show (trunc c2.s.heap p.N0).get? b = some o
    rw [trunc_get (Nat.lt_of_lt_of_le (Heap.lt_size e) ok.bsz)]; exact h1
  · show p.base.objs.size ≤ (trunc c2.s.heap p.N0).objs.size
    rw [sz]; exact ok.bsz
  · rcases List.mem_append.mp hq with z | z
    · obtain ⟨z1, z2, z3, z4, z5⟩ := W.pn q z
      exact ⟨z1, z2, fun e => z5 _ hlo e.symm, nofs _ z3, z4⟩
    · obtain ⟨z1, z2, z3, z4⟩ := hip q z
      obtain ⟨y1, y2⟩ := W.fp q z1
      exact ⟨y1, y2, z2, nofs _ z4, z3⟩
/-- woken again -/
theorem gst_wake (ok : p.Ok) (ge : GE p env) (S : GSt p N env c ip G σ H s) {lo : Obj} (hl : s.heap.get? env.locals = some lo) (W : Wk p ((env.locals, lo) :: ip) G H c2) : GSt p N env c2 ip G σ c2.H c2.s := by
  have e2 : c2.s.heap.get? env.locals = some lo := (W.fp _ List.mem_cons_self).1
  refine ⟨inv_wake ok ge W ?_ List.mem_cons_self S.inv.len fun q hq => ?_, fun _ _ e => e, fun q hq => ⟨(S.ip q hq).1, fun r hr e => (W.pn r hr).2.2.2.2 q (List.mem_cons_of_mem _ hq) e.symm⟩, Nat.le_refl _, W.gs, W.sz, fun q hq => ⟨W.ig q hq, (S.ig q hq).2⟩⟩
  · obtain ⟨m, hn, hl'⟩ := S.inv.loc
    refine ⟨m, hn.at' fun o e => ?_, fun i x v h1 h2 h3 => ?_⟩
    · have e : s.heap.get? env.locals = some o := e
      rw [hl] at e; cases e
      exact e2
    · obtain ⟨u, r, l⟩ := hl' i x v h1 h2 h3
      refine ⟨u, r, ?_⟩
      rcases l with l | ⟨k, cc, e, _⟩
      · exact .inl l
      · have e : env.cells.lookup x = some cc := e
        rw [ge.nc] at e; cases e
  · obtain ⟨z1, z2, z3, z4, z5⟩ := S.inv.pin q (List.mem_append_right _ hq)
    exact ⟨List.mem_cons_of_mem _ hq, z3, z5, (S.ip q hq).1⟩
/-- a step of the body that hands out nothing -/
theorem gst_run {α : Type} {m : Sem α} {A : Around} {R : α → L2.St → Hp → Prop} (h : ∀ pins' s, Inv (gX p N env c) pins' σ H s → wpAny (model p.P p.w) A m (fun u s' => ∃ σ' H', Inv (gX p N env c) pins' σ' H' s' ∧ Same H H' ∧ R u σ' H') (fun _ _ => False) s)
    (S : GSt p N env c ip G σ H s) : wpAny (model p.P p.w) A m (fun u s' => ∃ σ' H', GSt p N env c ip G σ' H' s' ∧ Same H H' ∧ R u σ' H') (fun _ _ => False) s := by
  have q := h _ _ (inv_wG S.inv (bare_stub S.inv.bare))
  refine wpAny_mono (wpAny_keep q) (fun u s' z => ?_) fun _ _ ⟨_, _, _, _, z⟩ => z.elim
  obtain ⟨s'', b', rfl, f, σ', H', I', sm, r⟩ := z
  refine ⟨σ', H', ⟨inv_wG I' (f.bare I'.bare), S.same.trans sm, S.ip, Nat.le_trans S.gsz f.keep.le, S.gg, S.csz, fun q hq => ?_⟩, sm, r⟩
  obtain ⟨h1, h2, h3⟩ := S.ig q hq
  exact ⟨f.keep.st _ _ h1 h2, h2, h3⟩
/-- where the body's code stands -/
structure GCd (env : Env) (cd : Code) (fs : List Frame) : Prop where
  over : ∀ A : Around, A.over cd fs = A.deeper env
  split : splitAtGen fs = none
  guard : fs.any Frame.guarded = false
theorem GCd.func {body : List Stmt} : GCd env (.func body env) [] := ⟨fun _ => GenW.over_func, rfl, rfl⟩
theorem GCd.loop {cd cd' : Code} {fs : List Frame} {k : Result → Sem PySem.Fin} {l kp : List Value} {pos : Pos} (g : GCd env cd fs) (hw : cd'.weight = 0) (hu : cd'.cUnits = 0) : GCd env cd' (.ret k none false l cd pos kp :: fs) :=
  ⟨fun A => (GenW.over_loop hw hu).trans (g.over A), by show (splitAtGen fs).map _ = none; rw [g.split]; rfl, by show (false || fs.any Frame.guarded) = false; rw [g.guard]; rfl⟩
variable {cd : Code} {fs : List Frame} {K : Flow → Sem PySem.Fin} {J : Value → Sem PySem.Fin} {lv : List Value → List Value} {x : List Str} {r : List (List Str)}
/-- yield e -/
theorem g_yield {e : Expr} {te : TE} {yp pos : Pos} (ok : p.Ok) (ge : GE p env) (g : GCd env cd fs) (S : GSt p N env c ip G σ H s) (he : PE (gX p N env c) e te) {R : V → Hp → Prop} (ht : te σ H fun y H' => Same H H' ∧ p.Itm H' x y ∧ R y H')
    (hk : ∀ c2 H' y lo, Same H H' → R y H' → Wk p ((env.locals, lo) :: ip) G H' c2 → GSt p N env c2 ip G σ c2.H c2.s → Go (model p.P p.w) c2.A (Phi p r c2) cd (K .next) fs c2.s)
    (hco : env.scope.isCoroutine = false := by rfl) (hi : interactive env = false := by rfl) :
    Go (model p.P p.w) c.A (Phi p (x :: r) c) cd ((exec (.Expr (.Yield (some e) yp) pos) env).wrap K J id lv) fs s := by
  refine go_yld g.split ?_ hco hi
  rw [g.over]
  refine wpAny_mono (gst_run (R := fun u σ' H' => σ' = σ ∧ ∃ y, RelV y u ∧ p.Itm H' x y ∧ R y H') (fun pins s I => thn (he.run pins s σ H _ I ht) fun u s' ⟨y, H', I', ry, sm, it, q⟩ => ⟨σ, H', I', sm, rfl, y, ry, it, q⟩) S) (fun u s' z => ?_) fun _ _ z => z
  obtain ⟨σ', H', S', sm, rfl, y, ry, it, q⟩ := z
  intro k l hkk pos'
  obtain ⟨lo, hl, hc⟩ := S'.lo
  refine ⟨u, _, l, k, cd, pos', fs, rfl, by simp [End.quiet, g.guard], H', (env.locals, lo) :: ip, G, S'.post, ⟨y, ry, it⟩, S'.hold ge hl hc, fun c2 W => ?_⟩
  exact hkk _ _ _ (hk c2 H' y lo sm q W (gst_wake ok ge S' hl W))
end
end Fl
namespace Fl
open PySem PySem.Spec L2
open PyProof.Rows (AllBare)
/-- running, one generator (at a) held -/
structure Lp (p : GP) (N : List Str) (env : Env) (c : Cur) (ip : List (Addr × Obj)) (pi : GP) (a : Addr) (go : Obj) (gs : GenState) (F : List (Addr × Obj)) (G : List (Nat × GenState)) (H0 : Hp) (its : List (List Str)) (σ : L2.St) (H : Hp) (s : Shared) : Prop where
  sl : SlpAt (gX p N env c) ip pi a go gs F G H0 its σ H s
  same : Same c.H H
  ip : ∀ q ∈ ip, p.N0 ≤ q.1 ∧ ∀ r ∈ c.pn, r.1 ≠ q.1
  aip : ∀ r ∈ c.pn, r.1 ≠ a
  gsz : c.s.gens.size ≤ s.gens.size
  gg : p.g < c.s.gens.size
  csz : p.N0 ≤ c.s.heap.objs.size
  gi : p.g < pi.g
  pN : p.N0 ≤ pi.N0
def GSl (p : GP) (N : List Str) (env : Env) (c : Cur) (ip : List (Addr × Obj)) (pi : GP) (a : Addr) (its : List (List Str)) (σ : L2.St) (H : Hp) (s : Shared) : Prop :=
  ∃ go gs F G H0, asleep gs = true ∧ Lp p N env c ip pi a go gs F G H0 its σ H s
section
variable {p pi : GP} {N : List Str} {env : Env} {c c2 : Cur} {ip : List (Addr × Obj)} {a : Addr} {go : Obj} {gs : GenState} {F : List (Addr × Obj)} {G : List (Nat × GenState)} {H0 : Hp} {its : List (List Str)} {σ : L2.St} {H : Hp} {s : Shared}
theorem Lp.gst (L : Lp p N env c ip pi a go gs F G H0 its σ H s) (h : asleep gs = true) : GSt p N env c (ip ++ (a, go) :: F) ((pi.g, gs) :: G) σ H s := by
  refine ⟨L.sl.inv, L.same, fun q hq => ?_, L.gsz, L.gg, L.csz, fun q hq => ?_⟩
  · rcases List.mem_append.mp hq with z | z
    · exact L.ip q z
    · rcases List.mem_cons.mp z with rfl | z
      · exact ⟨Nat.le_trans L.pN L.sl.aN, L.aip⟩
      · exact ⟨Nat.le_trans L.pN (L.sl.fN q z).1, fun r hr => L.sl.dj q z r (List.mem_append_left _ hr)⟩
  · rcases List.mem_cons.mp hq with rfl | z
    · exact ⟨L.sl.gst, h, L.gi⟩
    · obtain ⟨h1, h2, h3⟩ := L.sl.ig q z
      exact ⟨h1, h2, Nat.lt_trans L.gi h3⟩
theorem Lp.wake (L : Lp p N env c ip pi a go gs F G H0 its σ H s) {H' : Hp} {lo : Obj} (hs : asleep gs = true) (sm : Same H H') (W : Wk p ((env.locals, lo) :: (ip ++ (a, go) :: F)) ((pi.g, gs) :: G) H' c2) (S2 : GSt p N env c2 (ip ++ (a, go) :: F) ((pi.g, gs) :: G) σ c2.H c2.s) :
    Lp p N env c2 ip pi a go gs F G H0 its σ c2.H c2.s := by
  refine ⟨⟨S2.inv, (L.sl.md.trans (.of sm)).trans W.md, (fun e => (by rw [hs] at e; cases e)), L.sl.gen, W.ig _ List.mem_cons_self, fun q hq => ⟨W.ig q (List.mem_cons_of_mem _ hq), (L.sl.ig q hq).2⟩, L.sl.sl, L.sl.fN, L.sl.aN, fun q hq z hz => ?_, L.sl.cell⟩,
    S2.same, fun q hq => S2.ip q (List.mem_append_left _ hq), (S2.ip (a, go) (List.mem_append_right _ List.mem_cons_self)).2, S2.gsz, S2.gg, S2.csz, L.gi, L.pN⟩
  rcases List.mem_append.mp hz with y | y
  · exact (S2.ip q (List.mem_append_right _ (List.mem_cons_of_mem _ hq))).2 z y
  · exact L.sl.dj q hq z (List.mem_append_right _ y)
variable {cd : Code} {fs : List Frame} {K : Flow → Sem PySem.Fin} {J : Value → Sem PySem.Fin} {lv : List Value → List Value} {x : List Str} {r : List (List Str)}
/-- yield while it holds one -/
theorem gl_yield {e : Expr} {te : TE} {yp pos : Pos} (ok : p.Ok) (ge : GE p env) (g : GCd env cd fs) (S : GSl p N env c ip pi a its σ H s) (he : PE (gX p N env c) e te) {R : V → Hp → Prop} (ht : te σ H fun y H' => Same H H' ∧ p.Itm H' x y ∧ R y H')
    (hk : ∀ c2 H' y, R y H' → Md H' c2.H → Room p.k c2.A → GSl p N env c2 ip pi a its σ c2.H c2.s → Go (model p.P p.w) c2.A (Phi p r c2) cd (K .next) fs c2.s)
    (hco : env.scope.isCoroutine = false := by rfl) (hi : interactive env = false := by rfl) :
    Go (model p.P p.w) c.A (Phi p (x :: r) c) cd ((exec (.Expr (.Yield (some e) yp) pos) env).wrap K J id lv) fs s := by
  obtain ⟨go, gs, F, G, H0, hs, L⟩ := S
  exact g_yield ok ge g (L.gst hs) he ht (fun c2 H' y lo sm q W S2 => hk c2 H' y q W.md W.room ⟨go, gs, F, G, H0, hs, L.wake hs sm W S2⟩) hco hi
/-- a step of the body, one held -/
theorem gl_run {α : Type} {m : Sem α} {A : Around} {R : α → L2.St → Hp → Prop} (h : ∀ pins' s, Inv (gX p N env c) pins' σ H s → wpAny (model p.P p.w) A m (fun u s' => ∃ σ' H', Inv (gX p N env c) pins' σ' H' s' ∧ Same H H' ∧ R u σ' H') (fun _ _ => False) s)
    (S : GSl p N env c ip pi a its σ H s) : wpAny (model p.P p.w) A m (fun u s' => ∃ σ' H', GSl p N env c ip pi a its σ' H' s' ∧ Same H H' ∧ R u σ' H') (fun _ _ => False) s := by
  obtain ⟨go, gs, F, G, H0, hs, L⟩ := S
  refine wpAny_mono (gst_run h (L.gst hs)) (fun u s' z => ?_) fun _ _ z => z
  obtain ⟨σ', H', S', sm, r⟩ := z
  refine ⟨σ', H', ⟨go, gs, F, G, H0, hs, ⟨⟨S'.inv, L.sl.md.trans (.of sm), (fun e => (by rw [hs] at e; cases e)), L.sl.gen, (S'.ig _ List.mem_cons_self).1, fun q hq => ⟨(S'.ig q (List.mem_cons_of_mem _ hq)).1, (L.sl.ig q hq).2⟩, L.sl.sl, L.sl.fN, L.sl.aN, L.sl.dj, L.sl.cell⟩, S'.same, L.ip, L.aip, S'.gsz, S'.gg, S'.csz, L.gi, L.pN⟩⟩, sm, r⟩
/-- what a call of a generator def gives -/
def NewAt (X : Cx) (pins : List (Addr × Obj)) (σ : L2.St) (Itm : Hp → List Str → V → Prop) (k n : Nat) (its : List (List Str)) (u : Value) (H1 : Hp) (s' : Shared) : Prop :=
  ∃ N0 g a go c F, u = .ref a ∧ SlpAt X pins (gp X N0 g k Itm) a go (.fresh c) F [] H1 its σ H1 s' ∧ (gp X N0 g k Itm).Ok ∧ (∀ x c, X.env.cells.lookup x = some c → c < N0) ∧ X.s_0.heap.objs.size ≤ N0 ∧ X.env.locals < N0 ∧ (∀ q ∈ X.pn ++ pins, q.1 < N0) ∧ n ≤ g
abbrev TGen := L2.St → Hp → (List (List Str) → Hp → Prop) → Prop
structure PGn (X : Cx) (k : Nat) (e : Expr) (Itm : Hp → List Str → V → Prop) (t : TGen) : Prop where
  run : ∀ (pins : List (Addr × Obj)) (s : Shared) (σ : L2.St) (H : Hp) (Q : List (List Str) → Hp → Prop), Inv X pins σ H s → t σ H Q → wpAny (model X.prog X.w) X.A (eval e X.env) (fun u s' => ∃ its H1, Q its H1 ∧ NewAt X pins σ Itm k s.gens.size its u H1 s') X.xe s
theorem go_gen {M : Model} {A : Around} {E : Value → Shared → Prop} {s : Shared} {tg : Expr} {a : Addr} {g : Nat} {u : Value} {Q : Unit → Shared → Prop} (h : s.heap.IsGen a g) (hQ : Q () s) : wpAny M A (letOwnedTupleGo tg (.ref a) u) Q E s := by
  obtain ⟨o, nm, qn, ho, hc, hd, _⟩ := h
  exact go_of ho hc hd (by decide) hQ
/-- for x in g(..) of a generator's body -/
theorem g_forGen {iter : Expr} {y : Str} {py pos : Pos} {i k : Nat} {body : List Stmt} {Itm : Hp → List Str → V → Prop} {tgn : TGen} (ok : p.Ok) (ge : GE p env) (gc : GCd env cd fs) (S : GSt p N env c ip [] σ H s) (hr : Room p.k c.A) (hk : k + 2 ≤ p.k)
    (hi : PGn (gX p N env c) k iter Itm tgn) (hg : ∀ c, PG (gX p N env c) (.Name y py) (gName i)) (out : List (List Str) → List (List Str)) (Iu : List (List Str) → L2.St → Hp → Prop) (hIS : ∀ its σ H H', Iu its σ H → Same H H' → Iu its σ H') {its0 : List (List Str)}
    (ht : tgn σ H fun its H1 => its = its0 ∧ Same H H1 ∧ Iu its0 σ H1)
    (hbody : ∀ c pi a x r v σ H s cdL fsL K J, pi.Itm = Itm → GCd env cdL fsL → Itm H x v → Iu (x :: r) σ H → Room p.k c.A → GSl p N env c ip pi a r (σ.set i (some v)) H s →
      (∀ c2 σ2 H2 s2, Iu r σ2 H2 → Room p.k c2.A → GSl p N env c2 ip pi a r σ2 H2 s2 → Go (model p.P p.w) c2.A (Phi p (out r) c2) cdL (K .next) fsL s2) →
      Go (model p.P p.w) c.A (Phi p (out (x :: r)) c) cdL ((execs body env).wrap K J id id) fsL s)
    (hdone : ∀ c σ H s, Iu [] σ H → Room p.k c.A → GSt p N env c ip [] σ H s → Go (model p.P p.w) c.A (Phi p (out []) c) cd (K .next) fs s)
    (hs : ∀ x, foldedSetIterable iter env x = pure x := by intro _; rfl) :
    Go (model p.P p.w) c.A (Phi p (out its0) c) cd ((exec (.For (.Name y py) iter body [] pos) env).wrap K J id lv) fs s := by
  refine go_for ?_ hs
  rw [gc.over]
  refine wpAny_mono (hi.run ip s σ H _ S.inv ht) (fun u s1 z => ?_) fun _ _ z => z
  obtain ⟨its, H1, ⟨rfl, sm1, iu1⟩, N0, g, a, go, cf, F, rfl, sl, pok, hcel, hs0, hloc, hpn, hgn⟩ := z
  have hgen : s1.heap.IsGen a g := sl.gen _ (sl.inv.pin (a, go) (List.mem_append_right _ (List.mem_append_right _ List.mem_cons_self))).1
  refine wpAny_pyIter_gen hgen ?_
  intro pp kk hkk
  have hs0' : (trunc c.s.heap p.N0).objs.size ≤ N0 := hs0
  have hsz : p.N0 ≤ N0 := by
    have := hloc
    have h2 : env.locals < N0 := this
    rw [ge.loc] at h2
    exact Nat.le_of_lt h2
  have hgg := S.gg
  have hgz := S.gsz
  have gcl : GCd env (.forLoop (.Name y py) (.ref a) body [] env) (.ret kk none false (lv []) cd pp [] :: fs) := gc.loop rfl rfl
  have hgs1 : g < s1.gens.size := (Array.getElem?_eq_some_iff.mp sl.gst).1
  have L1 : Lp p N env c ip (gp (gX p N env c) N0 g k Itm) a go (.fresh cf) F [] H1 its σ H1 s1 := by
    refine ⟨sl, S.same.trans sm1, S.ip, fun r hr e => ?_, by omega, S.gg, S.csz, by show p.g < g; omega, hsz⟩
    have h1 := hpn r (List.mem_append_left _ hr)
    have h2 : N0 ≤ a := sl.aN
    rw [e] at h1
    exact absurd (Nat.lt_of_lt_of_le h1 h2) (Nat.lt_irrefl _)
  -- the loop
  have loop : ∀ (its : List (List Str)) (c : Cur) (go : Obj) (gs : GenState) (F : List (Addr × Obj)) (G : List (Nat × GenState)) (H0 : Hp) (σ : L2.St) (H : Hp) (s : Shared), Iu its σ H → Room p.k c.A → Lp p N env c ip (gp (gX p N env c) N0 g k Itm) a go gs F G H0 its σ H s →
      Go (model p.P p.w) c.A (Phi p (out its) c) (.forLoop (.Name y py) (.ref a) body [] env) ((model p.P p.w).den (.forLoop (.Name y py) (.ref a) body [] env)) (.ret kk none false (lv []) cd pp [] :: fs) s := by
    intro its
    induction its with
    | nil =>
      intro c go gs F G H0 σ H s iu hr L
      refine go_forLoop ?_
      rw [gcl.over]
      refine GenW.wpAny_gsz (n := s.gens.size) (Nat.le_refl _) ?_
      have hr1 : Room k (c.A.deeper env).in1 := ((hr.mono hk).deeper env).in1
      have hh : ∀ s' H3, Same H H3 → Inv (gX p N env c) (ip ++ [(a, go)]) σ H3 s' → s.gens.size ≤ s'.gens.size → Go (model p.P p.w) c.A (Phi p (out []) c) (.block [] env) (.pure (.done .next)) (.ret kk none false (lv []) cd pp [] :: fs) s' := fun s' H3 sm I3 hz =>
        go_leaf (.ok .next) (hkk _ _ _ (hdone c σ H3 s' (hIS _ _ _ _ iu sm) hr ⟨I3.unpinned, L.same.trans sm, L.ip, Nat.le_trans L.gsz hz, L.gg, L.csz, fun q hq => by simp at hq⟩))
      refine wpAny_mono (slp_next (X := gX p N env c) (A := c.A.deeper env) L.sl pok hr1 L.sl.inv.ok.frames (fun b hb _ _ => .inr ?_) hcel (Q := fun r s' => match r with
        | none => s.gens.size ≤ s'.gens.size → Go (model p.P p.w) c.A (Phi p (out []) c) (.block [] env) (.pure (.done .next)) (.ret kk none false (lv []) cd pp [] :: fs) s'
        | some _ => False) (fun x r v y' s' H3 e => nomatch e) fun _ s' H3 sm I3 => hh s' H3 sm I3) (fun r s' z => ?_) fun _ _ z => z.elim
      · have e : (trunc c.s.heap p.N0).objs.size ≤ p.N0 := by
          show (c.s.heap.objs.take p.N0).size ≤ p.N0
          rw [Array.take_eq_extract, Array.size_extract]; omega
        exact Nat.le_trans e (Nat.le_trans hsz hb)
      · cases r with
        | none => exact z
        | some v => exact z.elim
    | cons x r ih =>
      intro c go gs F G H0 σ H s iu hr L
      refine go_forLoop ?_
      rw [gcl.over]
      refine GenW.wpAny_gsz (n := s.gens.size) (Nat.le_refl _) ?_
      have hr1 : Room k (c.A.deeper env).in1 := ((hr.mono hk).deeper env).in1
      have hh : ∀ v y' s' H3, RelV y' v → Itm H3 x y' → Same H H3 → Slp (gX p N env c) ip (gp (gX p N env c) N0 g k Itm) a r σ H3 s' → s.gens.size ≤ s'.gens.size →
          wpAny (model p.P p.w) (c.A.deeper env) (letOwnedTupleGo (.Name y py) (.ref a) v) (fun _ s2 => wpAny (model p.P p.w) (c.A.deeper env) (assign (.Name y py) env v) (fun _ s3 =>
            ∀ (K : Flow → Sem PySem.Fin) (J : Value → Sem PySem.Fin), K .next = .pure (.again (.forLoop (.Name y py) (.ref a) body [] env)) →
              Go (model p.P p.w) c.A (Phi p (out (x :: r)) c) (.forLoop (.Name y py) (.ref a) body [] env) ((execs body env).wrap K J id id) (.ret kk none false (lv []) cd pp [] :: fs) s3) (fun _ _ => False) s2) (fun _ _ => False) s' := by
        intro v y' s' H3 ry it sm ⟨go', gs', F', G', H0', hs', sl'⟩ hz
        have L' : Lp p N env c ip (gp (gX p N env c) N0 g k Itm) a go' gs' F' G' H0' r σ H3 s' := ⟨sl', L.same.trans sm, L.ip, L.aip, Nat.le_trans L.gsz hz, L.gg, L.csz, L.gi, L.pN⟩
        refine go_gen (sl'.gen _ (sl'.inv.pin (a, go') (List.mem_append_right _ (List.mem_append_right _ List.mem_cons_self))).1) ?_
        refine wpAny_mono (gl_run (R := fun _ σ' H' => σ' = σ.set i (some y') ∧ H' = H3) (fun pins' s I => thn ((hg c).run pins' s σ H3 y' v _ I ry (show gName i y' σ H3 (fun σ' H' => σ' = σ.set i (some y') ∧ H' = H3) from ⟨rfl, rfl⟩)) fun _ s2 ⟨σ', H', I', e1, e2⟩ => ⟨σ', H', I', by subst e2; exact fun _ _ e => e, e1, e2⟩)
          ⟨go', gs', F', G', H0', hs', L'⟩) (fun _ s3 z => ?_) fun _ _ z => z
        obtain ⟨σ', H', S3, _, rfl, rfl⟩ := z
        intro K J hK
        refine hbody c _ a x r y' σ H' s3 _ _ K J rfl gcl it (hIS _ _ _ _ iu sm) hr S3 fun c2 σ2 H2 s2 iu2 hr2 S2 => ?_
        obtain ⟨go2, gs2, F2, G2, H02, _, L2⟩ := S2
        rw [hK]
        exact go_again rfl (ih c2 go2 gs2 F2 G2 H02 σ2 H2 s2 iu2 hr2 L2)
      refine wpAny_mono (slp_next (X := gX p N env c) (A := c.A.deeper env) L.sl pok hr1 L.sl.inv.ok.frames (fun b hb _ _ => .inr ?_) hcel (Q := fun rr s' => match rr with
        | none => False
        | some v => ∃ y' H3, RelV y' v ∧ Itm H3 x y' ∧ Same H H3 ∧ Slp (gX p N env c) ip (gp (gX p N env c) N0 g k Itm) a r σ H3 s') (fun x' r' v y' s' H3 e ry it sm S' => by cases e; exact ⟨y', H3, ry, it, sm, S'⟩) fun e => nomatch e) (fun rr s' z => ?_) fun _ _ z => z.elim
      · have e : (trunc c.s.heap p.N0).objs.size ≤ p.N0 := by
          show (c.s.heap.objs.take p.N0).size ≤ p.N0
          rw [Array.take_eq_extract, Array.size_extract]; omega
        exact Nat.le_trans e (Nat.le_trans hsz hb)
      · cases rr with
        | none => exact z.elim
        | some v =>
          obtain ⟨y', H3, ry, it, sm, S'⟩ := z
          exact fun hz => hh v y' s' H3 ry it sm S' hz
  exact loop its c go (.fresh cf) F [] H1 σ H1 s1 iu1 hr L1
end
end Fl
namespace Fl
open PySem PySem.Spec L2
open PyProof.Rows (AllBare)
section
variable {p pi : GP} {N : List Str} {env : Env} {c c2 : Cur} {ip : List (Addr × Obj)} {G : List (Nat × GenState)} {σ : L2.St} {H : Hp} {s : Shared} {cd : Code} {fs : List Frame} {K : Flow → Sem PySem.Fin} {J : Value → Sem PySem.Fin} {lv : List Value → List Value}
/-- the body is through -/
theorem g_end (S : GSt p N env c ip G σ H s) : Go (model p.P p.w) c.A (Phi p [] c) cd (.pure (.done (.ret .none))) [] s :=
  go_end (.ok (.ret .none)) ⟨rfl, H, S.post⟩
/-- if -/
theorem g_if {Φ : EPost} {test : Expr} {tt : TT} {body orelse : List Stmt} {pos : Pos} {gd : Bool → Bool} (g : GCd env cd fs) (S : GSt p N env c ip G σ H s) (ht : PT (gX p N env c) test tt) {R : Bool → Hp → Prop} (h : tt σ H fun b H' => Same H H' ∧ R b H')
    (hk : ∀ b H' s', R b H' → GSt p N env c ip G σ H' s' → Go (model p.P p.w) c.A Φ cd ((if b = true then execs body env else execs orelse env).wrap K J gd lv) fs s') : Go (model p.P p.w) c.A Φ cd ((exec (.If test body orelse pos) env).wrap K J gd lv) fs s := by
  refine go_if ?_
  rw [g.over]
  refine wpAny_mono (gst_run (R := fun b σ' H' => σ' = σ ∧ R b H') (fun pins s I => thn (ht.run pins s σ H _ I h) fun b s' ⟨H', I', sm, q⟩ => ⟨σ, H', I', sm, rfl, q⟩) S) (fun b s' z => ?_) fun _ _ z => z
  obtain ⟨σ', H', S', sm, rfl, q⟩ := z
  exact hk b H' s' q S'
/-- statements that hand out nothing, then the rest -/
theorem g_cons {Φ : EPost} {st : Stmt} {rest : List Stmt} {t : TS} {gd : Bool → Bool} (g : GCd env cd fs) (S : GSt p N env c ip G σ H s) (ht : PS (gX p N env c) st t) {R : L2.St → Hp → Prop} (h : t { nx := fun σ' H' => Same H H' ∧ R σ' H', rt := fun _ _ => False } σ H)
    (hk : ∀ σ' H' s', R σ' H' → GSt p N env c ip G σ' H' s' → Go (model p.P p.w) c.A Φ cd ((execs rest env).wrap K J gd lv) fs s') : Go (model p.P p.w) c.A Φ cd ((execs (st :: rest) env).wrap K J gd lv) fs s := by
  refine go_cons (go_wrap ?_)
  rw [g.over]
  refine wpAny_mono (gst_run (R := fun f σ' H' => f = .next ∧ R σ' H') (fun pins s I => thn (ht.run pins s σ H _ I h) fun f s' z => ?_) S) (fun f s' z => ?_) fun _ _ z => z
  · cases f with
    | next => obtain ⟨σ', H', I', sm, q⟩ := z; exact ⟨σ', H', I', sm, rfl, q⟩
    | brk => obtain ⟨_, _, _, q⟩ := z; exact q.elim
    | cont => obtain ⟨_, _, _, q⟩ := z; exact q.elim
    | ret u => obtain ⟨_, _, _, _, _, q⟩ := z; exact q.elim
  · obtain ⟨σ', H', S', sm, rfl, q⟩ := z
    exact hk σ' H' s' q S'
/-- for i in range(..) of a generator's body -/
theorem g_forRange {iter : Expr} {y : Str} {py pos : Pos} {i n : Nat} {body : List Stmt} {wi : TI} (ok : p.Ok) (ge : GE p env) (gc : GCd env cd fs) (S : GSt p N env c ip [] σ H s) (hr : Room p.k c.A)
    (hi : PI (gX p N env c) (.Name y py) iter wi) (hg : ∀ c, PG (gX p N env c) (.Name y py) (gName i)) (out : Nat → List (List Str)) (Iu : Nat → L2.St → Hp → Prop)
    (ht : wi σ H fun J H1 => J = Itr 0 n ∧ Same H H1 ∧ Iu 0 σ H1)
    (hbody : ∀ c j ip' σ H s cdL fsL K J, GCd env cdL fsL → j < n → Iu j σ H → Room p.k c.A → GSt p N env c ip' [] (σ.set i (some (.int (j : Nat)))) H s →
      (∀ c2 σ2 H2 s2, Iu (j + 1) σ2 H2 → Room p.k c2.A → GSt p N env c2 ip' [] σ2 H2 s2 → Go (model p.P p.w) c2.A (Phi p (out (j + 1)) c2) cdL (K .next) fsL s2) →
      Go (model p.P p.w) c.A (Phi p (out j) c) cdL ((execs body env).wrap K J id id) fsL s)
    (hdone : ∀ c σ H s, Iu n σ H → Room p.k c.A → GSt p N env c ip [] σ H s → Go (model p.P p.w) c.A (Phi p (out n) c) cd (K .next) fs s)
    (hs : ∀ x, foldedSetIterable iter env x = pure x := by intro _; rfl) :
    Go (model p.P p.w) c.A (Phi p (out 0) c) cd ((exec (.For (.Name y py) iter body [] pos) env).wrap K J id lv) fs s := by
  refine go_for ?_ hs
  rw [gc.over]
  refine GenW.wpAny_gsz (n := s.gens.size) (Nat.le_refl _) ?_
  refine wpAny_mono (hi.run ip s σ H _ S.inv ht) (fun u s1 z hz1 => ?_) fun _ _ z => z.elim
  refine GenW.wpAny_gsz (n := s.gens.size) hz1 ?_
  refine wpAny_mono z (fun u2 s2 z hz2 => ?_) fun _ _ z => z.elim
  obtain ⟨it, fp, tn, J0, H1, rfl, I1, T, st1, f1, rfl, sm1, iu1⟩ := z
  intro pp kk hkk
  have gcl : GCd env (.forLoop (.Name y py) (.ref it) body [] env) (.ret kk none false (lv []) cd pp [] :: fs) := gc.loop rfl rfl
  have fN : ∀ b ∈ fp, p.N0 ≤ b := fun b hb => by
    obtain ⟨_, _, _, h, _⟩ := f1 b hb
    rcases h with h | h
    · simp at h
    · have h : (trunc c.s.heap p.N0).objs.size ≤ b := h
      rw [trunc_size S.csz] at h
      exact h
  have fip : ∀ b ∈ fp, ∀ q ∈ ip, q.1 ≠ b := fun b hb q hq => (f1 b hb).2.2.2.2.2 q (List.mem_append_right _ hq)
  have mk : ∀ {c : Cur} {H : Hp}, p.N0 ≤ c.s.heap.objs.size → (∀ b ∈ fp, H b = none) → (∀ b ∈ fp, ∀ q ∈ c.pn, q.1 ≠ b) → ∀ b ∈ fp, FpOk (gX p N env c) ip H b := fun {c H} hz hn hd b hb =>
    ⟨hn b hb, (f1 b hb).2.1, (f1 b hb).2.2.1, .inr (by show (trunc c.s.heap p.N0).objs.size ≤ b; rw [trunc_size hz]; exact fN b hb), (f1 b hb).2.2.2.2.1, fun q hq => (List.mem_append.mp hq).elim (fun z => hd b hb q z) fun z => fip b hb q z⟩
  have loop : ∀ (m j : Nat) (c : Cur) (σ : L2.St) (H : Hp) (s : Shared), j + m = n → Iu j σ H → Room p.k c.A → GSt p N env c ip [] σ H s → tn j s.heap → (∀ b ∈ fp, H b = none) → (∀ b ∈ fp, ∀ q ∈ c.pn, q.1 ≠ b) →
      Go (model p.P p.w) c.A (Phi p (out j) c) (.forLoop (.Name y py) (.ref it) body [] env) ((model p.P p.w).den (.forLoop (.Name y py) (.ref it) body [] env)) (.ret kk none false (lv []) cd pp [] :: fs) s := by
    intro m
    induction m with
    | zero =>
      intro j c σ H s hj iu hr S st hn hd
      have hj : j = n := by omega
      subst hj
      refine go_forLoop ?_
      rw [gcl.over]
      refine GenW.wpAny_gsz (n := s.gens.size) (Nat.le_refl _) ?_
      refine wpAny_mono (T.done (gX p N env c) rfl rfl rfl rfl j ip s σ H (fun _ _ => False) S.inv (mk S.csz hn hd) st (Nat.le_refl _)) (fun r s' ⟨hr', I'⟩ hz => ?_) fun _ _ z => z.elim
      subst hr'
      exact go_leaf (.ok .next) (hkk _ _ _ (hdone c σ H s' iu hr ⟨I', S.same, S.ip, Nat.le_trans S.gsz hz, S.gg, S.csz, fun q hq => by simp at hq⟩))
    | succ m ih =>
      intro j c σ H s hj iu hr S st hn hd
      refine go_forLoop ?_
      rw [gcl.over]
      refine GenW.wpAny_gsz (n := s.gens.size) (Nat.le_refl _) ?_
      refine wpAny_mono (T.item (gX p N env c) rfl rfl rfl rfl j ip s σ H (fun _ _ => False) S.inv (mk S.csz hn hd) st (show j < n by omega)) (fun r s4 ⟨u, hr', h4⟩ hz => ?_) fun _ _ z => z.elim
      subst hr'
      refine GenW.wpAny_gsz (n := s.gens.size) hz ?_
      refine wpAny_mono h4 (fun _ s5 ⟨x, H5, I5, r5, y5, st5, fr5⟩ hz5 => ?_) fun _ _ z => z.elim
      have y5 : H5 = H ∧ x = .int (0 + (j : Nat)) := y5
      obtain ⟨rfl, rfl⟩ := y5
      have I5' := I5.pinned (mk S.csz fr5 hd) (T.obj _ _ st5)
      have S5 : GSt p N env c (ip ++ pinsAt fp s5.heap) [] σ H5 s5 := ⟨I5', S.same, fun q hq => by
        rcases List.mem_append.mp hq with z | z
        · exact S.ip q z
        · obtain ⟨hb, _⟩ := of_pinsAt z
          exact ⟨fN _ hb, fun r hr => hd _ hb r hr⟩, Nat.le_trans S.gsz hz5, S.gg, S.csz, fun q hq => by simp at hq⟩
      refine wpAny_mono (gst_run (R := fun _ σ' H' => σ' = σ.set i (some (.int (j : Nat))) ∧ H' = H5) (fun pins' s I => thn ((hg c).run pins' s σ H5 _ u _ I r5 (show gName i _ σ H5 (fun σ' H' => σ' = σ.set i (some (.int (j : Nat))) ∧ H' = H5) from ⟨by rw [Int.zero_add], rfl⟩)) fun _ s2 ⟨σ', H', I', e1, e2⟩ => ⟨σ', H', I', by subst e2; exact fun _ _ e => e, e1, e2⟩) S5) (fun _ s6 z => ?_) fun _ _ z => z
      obtain ⟨σ6, H6, S6, _, rfl, rfl⟩ := z
      intro K J hK
      refine hbody c j _ σ H6 s6 _ _ K J gcl (by omega) iu hr S6 fun c2 σ2 H2 s2 iu2 hr2 S2 => ?_
      rw [hK]
      have pin2 : ∀ b ∈ fp, ∀ o, s5.heap.get? b = some o → s2.heap.get? b = some o ∧ H2 b = none := fun b hb o e =>
        let z := S2.inv.pin (b, o) (List.mem_append_right _ (List.mem_append_right _ (mem_pinsAt hb e)))
        ⟨z.1, z.2.1⟩
      refine go_again rfl (ih (j + 1) c2 σ2 H2 s2 (by omega) iu2 hr2 ⟨S2.inv.unpinned, S2.same, fun q hq => S2.ip q (List.mem_append_left _ hq), S2.gsz, S2.gg, S2.csz, fun q hq => by simp at hq⟩ (T.keep _ _ _ st5 fun b hb o e => (pin2 b hb o e).1) (fun b hb => ?_) fun b hb q hq => ?_)
      · obtain ⟨o, e, _⟩ := T.obj _ _ st5 b hb
        exact (pin2 b hb o e).2
      · obtain ⟨o, e, _⟩ := T.obj _ _ st5 b hb
        exact (S2.ip (b, o) (List.mem_append_right _ (mem_pinsAt hb e))).2 q hq
  refine loop n 0 c σ H1 s2 (Nat.zero_add _) iu1 hr ⟨I1, S.same.trans sm1, S.ip, Nat.le_trans S.gsz hz2, S.gg, S.csz, fun q hq => by simp at hq⟩ st1 (fun b hb => (f1 b hb).1) fun b hb q hq => (f1 b hb).2.2.2.2.2 q (List.mem_append_left _ hq)
end
end Fl
namespace Fl
open PySem PySem.Spec L2
open PyProof.Rows (AllBare envOfC)
/-! ### a generator def: its promise by its body -/
/-- the arguments, the heap: what it will hand out -/
abbrev SpG := List V → Hp → List (List Str) → Prop
structure GMk (P : Program) (w : World) (K : PySem.W.Frag) (mg : Str → Option Value) (base : Heap) (k : Nat) (outer : List Env) (Itm : Hp → List Str → V → Prop) (s : Shared) (its : List (List Str)) (H : Hp) (u : Value) (s' : Shared) : Prop where
  ex : ∃ a go c F, u = .ref a ∧ s'.heap.get? a = some go ∧ (∀ h : Heap, h.get? a = some go → h.IsGen a s.gens.size) ∧ s'.gens[s.gens.size]? = some (.fresh c) ∧ s'.os = s.os ∧ AllBare s'.gens ∧ (∀ b o, s.heap.get? b = some o → s'.heap.get? b = some o) ∧
    (∀ q ∈ F, s'.heap.get? q.1 = some q.2 ∧ s.heap.objs.size ≤ q.1 ∧ q.1 ≠ a ∧ isCell q.2 = false) ∧ isCell go = false ∧ s.heap.objs.size < a ∧ Asl ⟨P, w, K, mg, base, outer, s.heap.objs.size, s.gens.size, k, Itm⟩ its (.fresh c) F [] H
structure GFok (P : Program) (w : World) (K : PySem.W.Frag) (mg : Str → Option Value) (base : Heap) (k : Nat) (f : Addr) (ps : List Str) (Itm : Hp → List Str → V → Prop) (sp : SpG) : Prop where
  ex : ∃ fd, (∀ vs H its, sp vs H its → vs.length = ps.length) ∧ (∀ (A : Around) (outer : List Env) (s : Shared) (H : Hp) (args : Args) (us : List Value) (vs : List V) (its : List (List Str)), Room k A → Env0 P w K mg base A outer s H → BindsTo s fd args (ps.zip us) → Vals vs us → sp vs H its →
    codeAny (model P w) A (.call (.ref f) args) (fun r s' => match r with | .ok (.ret u) => GMk P w K mg base k outer Itm s its H u s' | _ => False) s) ∧ Binds K fd ps []
theorem noCells : ∀ {names : List (Str × NameKind)} {n : Nat} {acc : List (Str × Addr)}, (∀ y ∈ names, y.2 ≠ .cell) → cellsFrom n names acc = acc
  | [], _, _, _ => rfl
  | (x, k) :: r, n, acc, h => by
    unfold cellsFrom
    have hk : (k == NameKind.cell) = false := by
      have := h (x, k) List.mem_cons_self
      cases k <;> first | rfl | exact absurd rfl this
    rw [hk, if_neg Bool.false_ne_true]
    exact noCells fun y hy => h y (List.mem_cons_of_mem _ hy)
theorem frs_lt {P : Program} {w : World} {K : PySem.W.Frag} {mg : Str → Option Value} {base : Heap} {A : Around} {outer : List Env} {s : Shared} {H : Hp} (e : Env0 P w K mg base A outer s H) : ∀ b ∈ frs outer, b < s.heap.objs.size := fun b hb => by
  obtain ⟨_, o, ho, _⟩ := e.funs.mem hb
  exact Heap.lt_size ho
theorem gfok_mk {P : Program} {w : World} {K : PySem.W.Frag} {mg : Str → Option Value} {base : Heap} {k : Nat} {f : Addr} {q nm : Str} {st : Stmt} {N ps : List Str} {Itm : Hp → List Str → V → Prop} {sp : SpG} (hF : ∃ fd, Fun K nm q st f fd) (S : GScope N ps (defScope st)) (hnc : ∀ y ∈ (defScope st).names, y.2 ≠ .cell)
    (hb : ∀ (kV doc pm : Value) (an : Option Addr) (cdv ct : Value) (us : List Value), us.length = ps.length → bindArgs (PySem.W.fnOf nm q (defArgs st) (defBody st) (defScope st) .none kV doc pm an cdv ct) ⟨us, []⟩ = pure (ps.zip us))
    (len : ∀ vs H its, sp vs H its → vs.length = ps.length)
    (hbody : ∀ (cdv : Value) (p : GP) (H : Hp) (vs : List V) (its : List (List Str)) (c : Cur) (J : Value → Sem PySem.Fin), p.P = P → p.w = w → p.K = K → p.mg = mg → p.base = base → p.k = k → p.Itm = Itm → p.Ok → GE p (envOfC q (defScope st) p.N0 f cdv) → sp vs H its → Same H c.H → Room k c.A → GSt p N (envOfC q (defScope st) p.N0 f cdv) c [] [] (start N vs) c.H c.s →
      ∀ (Kf : Flow → Sem PySem.Fin), Kf .next = .pure (.done (.ret .none)) → Go (model P w) c.A (Phi p its c) (.func (defBody st) (envOfC q (defScope st) p.N0 f cdv)) ((execs (defBody st) (envOfC q (defScope st) p.N0 f cdv)).wrap Kf J id id) [] c.s) :
    GFok P w K mg base k f ps Itm sp := by
  obtain ⟨fd, F⟩ := hF
  refine ⟨fd, len, ?_, F.binds hb⟩
  obtain ⟨oc, od, kV, doc, pm, an, cdv, ct, osl, rfl, lk, hcd⟩ := F.ex
  intro A outer s H args us vs its hr e0 hbb r hsp
  have hl := len _ _ _ hsp
  have KX : K.In s.heap := e0.mod.kin.keeps fun b o e => (e0.bs b o e).1
  have lim : s.heap.NoLimit := e0.mod.nolimit.keeps fun b o e => (e0.bs b o e).1
  have hkind : ∀ y ∈ ps.zip us, (defScope st).names.lookup y.1 = some .local ∨ ((defScope st).names.lookup y.1 = some .cell ∧ ((cellsFrom (s.heap.objs.size + 1) (defScope st).names []).lookup y.1).isSome = true) := fun ⟨n, v⟩ hy => by
    rcases S.par n (List.of_mem_zip hy).1 with q | q
    · exact .inl q
    · exact .inr ⟨q, PySem.W.cellsFrom_some _ _ _ (.inl q)⟩
  refine codeAny_call_generator hr.depth (KX _ _ lk) rfl S.co S.gen rfl (PySem.W.codeRec_of KX hcd) (hbb _ _ _ _ ?_)
  refine wpAny_newFunctionEnv_cells S.kind hkind fun env he s1 x => ?_
  subst he
  have lim1 : s1.heap.NoLimit := lim.keeps x.toInCall.keep
  refine ⟨lim1, ?_⟩
  obtain ⟨h1, tk, es1, hk1⟩ := x.done
  have os1 : s1.os = s.os := by rw [es1]
  have gen1 : s1.gens = s.gens := by rw [es1]
  have lt1 : s.heap.objs.size < s1.heap.objs.size := x.toInCall.ns.lt
  have kp1 : ∀ b o, s.heap.get? b = some o → s1.heap.get? b = some o := x.toInCall.keep
  have I1 : Inv (gcxOf P w K mg base N q (defScope st) f cdv A outer s H E0 []) [] (start N vs) H s1 := inv_startG S hr.hd e0 hl r x
  have ok : GP.Ok ⟨P, w, K, mg, base, outer, s.heap.objs.size, s.gens.size, k, Itm⟩ := ⟨e0.mod, e0.bsz, frs_lt e0⟩
  have nocell : ∀ x c, (envOfC q (defScope st) s.heap.objs.size f cdv).cells.lookup x = some c → False := fun x c e => by
    have e : (cellsFrom (s.heap.objs.size + 1) (defScope st).names []).lookup x = some c := e
    rw [noCells hnc] at e; cases e
  have ge : GE ⟨P, w, K, mg, base, outer, s.heap.objs.size, s.gens.size, k, Itm⟩ (envOfC q (defScope st) s.heap.objs.size f cdv) := ⟨S.kind, rfl, rfl, rfl, rfl, fun x => by
    cases e : (envOfC q (defScope st) s.heap.objs.size f cdv).cells.lookup x with
    | none => rfl
    | some c => exact (nocell x c e).elim, fun x => ⟨fun e => hnc _ (PySem.mem_of_lookup (show (defScope st).names.lookup x = some .cell from e)) rfl, fun e => S.nofree _ (PySem.mem_of_lookup (show (defScope st).names.lookup x = some .free from e)) rfl⟩⟩
  obtain ⟨m, hn, hlv⟩ := I1.loc
  obtain ⟨lo, es, ep, hlo, hld, hlr⟩ := id hn
  have hlo : s1.heap.get? s.heap.objs.size = some lo := hlo
  have main : ∀ (go : Obj) (nm' qn : Value) (tk2 : Nat), go.cls = .type "generator" → go.data = .fields #[.int s1.gens.size 0, nm', qn] → go.slots = #[] → (∀ h : Heap, (h.push go).get? h.objs.size = some go) →
      GMk P w K mg base k outer Itm s its H (.ref s1.heap.objs.size) { s1 with gens := s1.gens.push (.fresh (.func (defBody st) (envOfC q (defScope st) s.heap.objs.size f cdv))), toks := tk2, heap := s1.heap.push go } := by
    intro go nm' qn tk2 hgc hgd0 hgs hgp
    have hng : isCell go = false := isCell_false fun v e => by rw [hgd0] at e; cases e
    have hnl : isCell lo = false := isCell_false fun v e => by rw [hld] at e; cases e
    refine ⟨s1.heap.objs.size, go, .func (defBody st) (envOfC q (defScope st) s.heap.objs.size f cdv), [(s.heap.objs.size, lo)], rfl, hgp _, fun h e => ⟨go, nm', qn, e, hgc, by rw [hgd0, gen1], hgs⟩, ?_, os1, AllBare.push (by rw [gen1]; exact e0.bare) rfl, fun b o e => Heap.get?_push_of_some _ (kp1 b o e), fun z hz => ?_, hng, lt1, ?_⟩
    · show (s1.gens.push _)[s.gens.size]? = _
      rw [← gen1]; exact Array.getElem?_push_size ..
    · rw [List.mem_singleton.mp hz]
      exact ⟨Heap.get?_push_of_some _ hlo, Nat.le_refl _, Nat.ne_of_lt lt1, hnl⟩
    · show ∀ c2, Wk _ _ _ _ c2 → Same H c2.H → _
      intro c2 W sm
      have e2 : c2.s.heap.get? s.heap.objs.size = some lo := (W.fp _ List.mem_cons_self).1
      refine go_func ?_
      refine hbody cdv ⟨P, w, K, mg, base, outer, s.heap.objs.size, s.gens.size, k, Itm⟩ H vs its c2 _ rfl rfl rfl rfl rfl rfl rfl ok ge hsp sm W.room ?_ _ rfl
      refine ⟨inv_wake ok ge W ⟨m, hn.at' fun o e => ?_, fun i y v h1 h2 h3 => ?_⟩ List.mem_cons_self I1.len (fun z hz => by simp at hz), fun _ _ e => e, fun z hz => by simp at hz, Nat.le_refl _, W.gs, W.sz, fun z hz => by simp at hz⟩
      · have e : s1.heap.get? s.heap.objs.size = some o := e
        rw [hlo] at e; cases e
        exact e2
      · obtain ⟨u, ru, l⟩ := hlv i y v h1 h2 h3
        refine ⟨u, ru, ?_⟩
        rcases l with l | ⟨kk, cc, e, _⟩
        · exact .inl l
        · exact (nocell y cc e).elim
  exact main _ _ _ _ rfl rfl rfl fun h => Heap.get?_push_size _ rfl
def tCallGn (sp : SpG) (t : TA) : TGen := fun σ H Q => t σ H fun vs H1 => ∃ its, sp vs H1 its ∧ Q its H1
/-- g(e, ..), g a generator def -/
theorem pgn_call {X : Cx} {k : Nat} {f : Addr} {x : Str} {pp pos : Pos} {e : Expr} {es : List Expr} {ps : List Str} {Itm : Hp → List Str → V → Prop} {sp : SpG} {t : TA} (F : GFok X.prog X.w X.K X.mg X.base k f ps Itm sp) (hr : Room k X.A) (hm : X.mg x = some (.ref f)) (hk : PySem.W.keepIn X.K (.ref f) = true) (ha : PA X (e :: es) t) (hg : Gl X x := by rfl)
    (hdb : (x == ("__debug__" : Str)) = false := by decide) (he : starEach (e :: es) X.env = (false, eval e X.env) :: starEach es X.env := by rfl) (hpl : (backTo pos (starEach es X.env)).any (·.1) = false := by rfl) : PGn X k (.Call (.Name x pp) (e :: es) [] pos) Itm (tCallGn sp t) := by
  refine ⟨fun pins s σ H Q I h => ?_⟩
  obtain ⟨fd, len, run, hb⟩ := F.ex
  refine wpAny_Call_Name_kw (ld_glob I hg hm ?_ hdb)
  refine PySem.W.callWith_K (h₀ := X.base) I.ok.mod.kin hk (GenW.wpAny_gsz (n := s.gens.size) (Nat.le_refl _) (wpAny_mono (ha.run pos pins s σ H _ I h) (fun us s1 ⟨vs, H1, I1, r, its, hsp, q⟩ hz => ⟨I1.kIn, ?_⟩) fun _ _ z _ => z)) he hpl
  have hl2 : (us ++ []).length = ps.length := by rw [List.append_nil, ← r.length]; exact len _ _ _ hsp
  have hbb := hb s1 us I1.kIn hl2
  rw [List.append_nil] at hbb
  refine wpAny_call (codeAny_mono (run X.A X.stack s1 H1 ⟨us, []⟩ us vs its hr I1.env0 hbb r hsp) fun r s' hq => ?_)
  cases r with
  | error e => exact False.elim hq
  | ok fl =>
    cases fl with
    | next => exact False.elim hq
    | brk => exact False.elim hq
    | cont => exact False.elim hq
    | ret u =>
      obtain ⟨a, go, c, F, rfl, hgo, hgen, hgs, hos, hbare, hkp, hF, hcl, ha, hasl⟩ := hq
      have I2 : Inv X pins σ H1 s' := I1.call' (ch := []) hos (Un.kept hkp) (I1.hok.kept hkp) hbare fun b z => by simp at z
      have young : ∀ b : Nat, s1.heap.objs.size ≤ b → H1 b = none ∧ b ≠ X.env.locals ∧ b ∉ X.fs := fun b hb => ⟨I1.hok.fresh hb, fun e => absurd (Nat.lt_of_lt_of_le I1.lt (by rw [← e]; exact hb)) (Nat.lt_irrefl _), I1.nofs hb⟩
      have I3 : Inv X (pins ++ (a, go) :: F) σ H1 s' := I2.pins_of fun z hz => by
        rcases List.mem_append.mp hz with y | y
        · exact I2.pin z (List.mem_append_right _ y)
        · rcases List.mem_cons.mp y with y | y
          · rw [y]
            obtain ⟨y1, y2, y3⟩ := young a (Nat.le_of_lt ha)
            exact ⟨hgo, y1, y2, y3, notCell hcl⟩
          · obtain ⟨z1, z2, z3, z4⟩ := hF z y
            obtain ⟨y1, y2, y3⟩ := young z.1 z2
            exact ⟨z1, y1, y2, y3, notCell z4⟩
      have lt : ∀ z ∈ X.pn ++ pins, z.1 < s1.heap.objs.size := fun z hz => Heap.lt_size (I1.pin z hz).1
      refine ⟨its, H1, q, s1.heap.objs.size, s1.gens.size, a, go, c, F, rfl, ⟨I3, .of fun _ _ e => e, fun _ => fun _ _ e => e, hgen, hgs, fun z hz => by simp at hz, hasl, fun z hz => ⟨(hF z hz).2.1, (hF z hz).2.2.1⟩, Nat.le_of_lt ha, fun z hz y hy e => ?_, hcl⟩, ⟨I1.ok.mod, Nat.le_trans I1.ok.bsz I1.sz, frs_lt I1.env0⟩, fun x c e => ?_, I1.sz, I1.lt, lt, hz⟩
      · have h1 := lt y hy
        have h2 := (hF z hz).2.1
        rw [e] at h1
        exact absurd (Nat.lt_of_lt_of_le h1 h2) (Nat.lt_irrefl _)
      · obtain ⟨v, o, ho, _⟩ := I1.cell x c e
        exact Heap.lt_size ho
end Fl
namespace Fl
open PySem PySem.Spec L2
open PyProof.Rows (AllBare)
/-! ### [e for y in g(..)] -/
def tLcG (tg : TGen) (Itm : Hp → List Str → V → Prop) (i0 : Nat) (te : TE) (vs : List Nat) : TE := fun σ H Q => tg σ H fun its H1 => ∀ D, H1 D = none → ∃ W : List (List Str) → Hp → Prop, W its (upd H1 D (.lst [])) ∧
  (∀ H H3, W [] H → Same H H3 → Q (.ref D) H3) ∧
  (∀ x r H H3 y, W (x :: r) H → Same H H3 → Itm H3 x y → te ((wipe σ vs).set i0 (some y)) H3 fun z H4 => Md H3 H4 ∧ ∃ acc, H4 D = some (.lst acc) ∧ acc.length < sizeLine ∧ W r (upd H4 D (.lst (acc ++ [z]))))
/-- what the block may find changed: the generator's own -/
def exOf (H : Hp) (n m a : Nat) : List Addr := (List.range m).filter fun b => (decide (n ≤ b) && (H b).isNone) && !decide (b = a)
theorem mem_exOf {H : Hp} {n m a b : Nat} : b ∈ exOf H n m a ↔ b < m ∧ n ≤ b ∧ H b = none ∧ b ≠ a := by
  unfold exOf
  rw [List.mem_filter, List.mem_range, Bool.and_eq_true, Bool.and_eq_true]
  simp [and_assoc]
section
variable {X : Cx}
theorem lcG_core {pins : List (Addr × Obj)} {s : Shared} {σ : L2.St} {H : Hp} {Q : VK} {elt iter : Expr} {y : Str} {py : Pos} {i0 k : Nat} {scope : Scope} {own : List (Str × Nat)} {pos pos' : Pos} {tgn : TGen} {Itm : Hp → List Str → V → Prop} {te : TE} {use : Option (Value → Sem Unit)} {Qf : Value → Shared → Prop}
    (hc : X.calm = true) (hN : X.N.Nodup) (I : Inv X pins σ H s) (hr : Room (k + 1) X.A) (hi : PGn X k iter Itm tgn) (ok : BlkOk X.N X.env.scope scope own) (hnc : ∀ z ∈ scope.names, z.2 ≠ .cell)
    (hi0 : i0 ∈ own.map (·.2))
    (hg : ∀ (s : Shared) (H : Hp) (C : Addr) (cl : List (Str × Addr)) (fp : List Addr), PG (X.blk s H scope (compEnvC scope cl C X.env) fp) (.Name y py) (gName i0))
    (he : ∀ (s : Shared) (H : Hp) (C : Addr) (cl : List (Str × Addr)) (fp : List Addr), PE (X.blk s H scope (compEnvC scope cl C X.env) fp) elt te) (hs : ∀ x, foldedSetIterable iter X.env x = pure x)
    (h : tLcG tgn Itm i0 te (own.map (·.2)) σ H Q)
    (hRR : ∀ D C s' m H', Inv X pins σ H' s' → Q (.ref D) H' → s'.heap.Ns C m → FpOk X pins H' C → compPost (model X.prog X.w) X.A X.xe use Qf (.ref D) C (.ok .next) s') :
    wpAny (model X.prog X.w) X.A (comprehension (.ListComp elt [⟨.Name y py, iter, [], 0⟩] scope pos) scope X.env pos' (newList []) false (eval iter X.env) use) Qf X.xe s := by
  have hfree : ∀ z ∈ scope.names, z.2 = .free → ∃ c, X.env.cells.lookup z.1 = some c := fun z hz e => by
    rcases ok.free z hz e with k | k
    · exact I.ok.has _ (.inl k)
    · exact I.ok.has _ (.inr k)
  refine wpAny_comprehension_free (use := use) rfl hs (closure_ok hfree) ok.kind (fun z hz e => by rw [ok.uniq z hz, e])
    (thn (hi.run pins s σ H _ I h) fun u s2 ⟨its, H2, q, N0, g, a, go, cf, F, eu, sl, pok, hcel, hs0, hloc, hpn, hgn⟩ => ?_)
  subst eu
  have I2' := sl.inv
  have hgen : s2.heap.IsGen a g := sl.gen _ (I2'.pin (a, go) (List.mem_append_right _ (List.mem_append_right _ List.mem_cons_self))).1
  have I2 : Inv X pins σ H2 s2 := I2'.unpinned
  refine wpAny_pyIter_gen hgen ?_
  refine wpAny_newObj_type (newEnv_comp ?_) (by show 0 ≤ sizeLine; decide)
  generalize hD : s2.heap.objs.size = D
  have hDn : H2 D = none := I2.hok.fresh (Nat.le_of_eq hD)
  obtain ⟨W, w0, wq, wt⟩ := q D hDn
  generalize hs3 : ({ s2 with heap := s2.heap.push { cls := .type "list", data := .seq ([] : List Value).toArray } } : Shared) = s3
  have I3' : Inv X (pins ++ (a, go) :: F) σ (upd H2 D (.lst [])) s3 := by
    rw [← hs3]
    refine I2'.laid (t' := s2.toks) (fun b o e => Heap.get?_push_of_some _ e) (Nat.le_of_eq hD) ⟨Nat.zero_le _, [], 0, .nil, ?_⟩
    rw [← hD]
    exact Heap.get?_push_size _ rfl
  have I3 : Inv X pins σ (upd H2 D (.lst [])) s3 := I3'.unpinned
  have h3 : s3.heap = s2.heap.push { cls := .type "list", data := .seq ([] : List Value).toArray } := by rw [← hs3]
  have g3 : s3.gens = s2.gens := by rw [← hs3]
  have sz3 : s3.heap.objs.size = D + 1 := by rw [h3, Heap.size_push, hD]
  have pinA := I3'.pin (a, go) (List.mem_append_right _ (List.mem_append_right _ List.mem_cons_self))
  have f3 : ∀ b ∈ exOf (upd H2 D (.lst [])) N0 s3.heap.objs.size a, FpOk X pins (upd H2 D (.lst [])) b ∧ b < s3.heap.objs.size := fun b hb => by
    obtain ⟨z1, z2, z3, z4⟩ := mem_exOf.mp hb
    have nlt : ∀ c : Nat, c < N0 → c ≠ b := fun c hc e => absurd (Nat.lt_of_lt_of_le hc (by rw [e]; exact z2)) (Nat.lt_irrefl _)
    exact ⟨⟨z3, (nlt _ hloc).symm, fun hm => nlt b (pok.frN b (fs_stk I3.ok b hm)) rfl, .inr (Nat.le_trans hs0 z2), fun x c e => nlt c (hcel x c e), fun p hp => nlt p.1 (hpn p hp)⟩, z1⟩
  have I4 := block_start I3 ok hN f3
  have pg := hg s3 (upd H2 D (.lst [])) s3.heap.objs.size (cellsFrom (s3.heap.objs.size + 1) scope.names (cloFrom X.env.cells scope.names [])) (exOf (upd H2 D (.lst [])) N0 s3.heap.objs.size a)
  have pe := he s3 (upd H2 D (.lst [])) s3.heap.objs.size (cellsFrom (s3.heap.objs.size + 1) scope.names (cloFrom X.env.cells scope.names [])) (exOf (upd H2 D (.lst [])) N0 s3.heap.objs.size a)
  show codeAny _ _ (.compStart (.ListComp elt [⟨.Name y py, iter, [], 0⟩] scope pos) 0 (.ref a) (.ref D) (compEnvC scope (cellsFrom (s3.heap.objs.size + 1) scope.names (cloFrom X.env.cells scope.names [])) s3.heap.objs.size X.env)) (compPost (model X.prog X.w) X.A X.xe use Qf (.ref D) s3.heap.objs.size) { s3 with heap := pushCells (s3.heap.push { cls := .type "dict", data := .dict #[] }) scope.names }
  generalize hex : exOf (upd H2 D (.lst [])) N0 s3.heap.objs.size a = ex at I4 pg pe f3
  have hccells : ∀ x c, (cellsFrom (s3.heap.objs.size + 1) scope.names (cloFrom X.env.cells scope.names [])).lookup x = some c → c < N0 := fun x c e => by
    rw [noCells hnc] at e
    rcases cloFrom_mem (PySem.mem_of_lookup e) with z | ⟨z1, z2⟩
    · simp at z
    · obtain ⟨c', hc'⟩ := hfree _ z1 rfl
      rw [hc'] at z2
      rw [z2]
      exact hcel x c' hc'
  generalize hce : compEnvC scope (cellsFrom (s3.heap.objs.size + 1) scope.names (cloFrom X.env.cells scope.names [])) s3.heap.objs.size X.env = ce at I4 pg pe ⊢
  have cL : ce.locals = s3.heap.objs.size := by subst hce; rfl
  have cC : ∀ x c, ce.cells.lookup x = some c → c < N0 := fun x c e => hccells x c (by subst hce; exact e)
  generalize hH3 : upd H2 D (.lst []) = H3 at I3 I3' I4 pg pe w0 f3 hex
  generalize hs4 : ({ s3 with heap := pushCells (s3.heap.push { cls := .type "dict", data := .dict #[] }) scope.names } : Shared) = s4 at I4 ⊢
  have nf3 : ∀ b : Nat, N0 ≤ b → b ∉ frs X.stack := fun b hb hm => absurd (Nat.lt_of_lt_of_le (pok.frN b hm) hb) (Nat.lt_irrefl _)
  have keep34 : ∀ b o, s3.heap.get? b = some o → s4.heap.get? b = some o := fun b o e => by rw [← hs4]; exact pushCells_keeps _ _ _ _ (Heap.get?_push_of_some _ e)
  have gen4 : s4.gens = s3.gens := by rw [← hs4]
  have S4 : SlpAt (X.blk s3 H3 scope ce ex) [] (gp X N0 g k Itm) a go (.fresh cf) F [] H2 its (wipe σ (own.map (·.2))) H3 s4 := by
    refine ⟨I4.pins_of fun z hz => ?_, ?_, (fun _ => (by rw [← hH3]; exact same_new hDn _)), sl.gen, ?_, fun z hz => by simp at hz, sl.sl, sl.fN, sl.aN, fun z hz w hw => by simp at hw, sl.cell⟩
    · have hz : z ∈ (a, go) :: F := by simpa using hz
      have hp := I3'.pin z (List.mem_append_right _ (List.mem_append_right _ hz))
      obtain ⟨p1, p2, p3, p4, p5⟩ := hp
      have hzN : N0 ≤ z.1 := by
        rcases List.mem_cons.mp hz with e | e
        · rw [e]; exact sl.aN
        · exact (sl.fN z e).1
      exact ⟨keep34 _ _ p1, p2, fun e => by
        have e : z.1 = ce.locals := e
        rw [cL] at e
        exact absurd (Heap.lt_size p1) (by rw [e]; exact Nat.lt_irrefl _), nf3 _ hzN, p5⟩
    · rw [← hH3]; exact .of (same_new hDn _)
    · rw [gen4, g3]; exact sl.gst
  have md3 : ∀ {H5 : Hp}, Md H3 H5 → ∀ b, H5 b = none → H3 b = none := fun {H5} md b hb => by
    cases e : H3 b with
    | none => rfl
    | some u =>
      obtain ⟨o', e'⟩ := md.tr b u e
      rw [hb] at e'; cases e'
  have c1 : ∀ {H5 : Hp}, Md H3 H5 → ∀ b, N0 ≤ b → H5 b = none → b ≠ a → b ∈ ex ∨ s3.heap.objs.size ≤ b := fun {H5} md b hb hn hne => by
    by_cases hl : b < s3.heap.objs.size
    · refine .inl ?_
      rw [← hex, mem_exOf]
      exact ⟨hl, hb, md3 md b hn, hne⟩
    · exact .inr (Nat.le_of_not_lt hl)
  have loop : codeAny (model X.prog X.w) X.A (.compLoop (.ListComp elt [⟨.Name y py, iter, [], 0⟩] scope pos) 0 (.ref a) (.ref D) ce) (compPost (model X.prog X.w) X.A X.xe use Qf (.ref D) s3.heap.objs.size) s4 := by
    refine compLoop_any (fun n s' => ∃ its H' go gs F G H0, its.length = n ∧ SlpAt (X.blk s3 H3 scope ce ex) [] (gp X N0 g k Itm) a go gs F G H0 its (wipe σ (own.map (·.2))) H' s' ∧ Md H3 H' ∧ W its H') ?_ _ ⟨its, H3, go, .fresh cf, F, [], H2, rfl, S4, .of fun _ _ e => e, w0⟩
    rintro n s5 ⟨its5, H5, go5, gs5, F5, G5, H05, hn5, S5, md5, w5⟩
    cases its5 with
    | nil =>
      refine thnF (slp_next (X := X.blk s3 H3 scope ce ex) (A := X.A) S5 pok hr.in1 S5.inv.ok.frames (c1 md5) cC (Q := fun r s6 => r = none ∧ ∃ H6, Same H5 H6 ∧ Inv (X.blk s3 H3 scope ce ex) [] (wipe σ (own.map (·.2))) H6 s6) (fun x r v y' s' H3 e => nomatch e) fun _ s' H6 sm I6 => ⟨rfl, H6, sm, I6.unpinned⟩) fun r s6 z => ?_
      obtain ⟨hr', H6, sm, I6⟩ := z
      subst hr'
      have I7 : Inv X pins σ H6 s6 := I3.call' (ch := ex) I6.os I6.base I6.hok I6.bare fun b hb => ⟨(f3 b hb).1.2.2.2.1, (f3 b hb).1.2.1, (f3 b hb).1.2.2.2.2.1, (f3 b hb).1.2.2.2.2.2⟩
      have nC : H6 s3.heap.objs.size = none := by
        have z : H6 ce.locals = none := I6.free
        rw [cL] at z
        exact z
      obtain ⟨m, hn, _⟩ := I6.loc
      have hn : s6.heap.Ns ce.locals m := hn
      rw [cL] at hn
      exact hRR D s3.heap.objs.size s6 m H6 I7 (wq H5 H6 w5 sm) hn (I3.fpOk (Nat.le_refl _) nC)
    | cons x r =>
      refine thnF (slp_next (X := X.blk s3 H3 scope ce ex) (A := X.A) S5 pok hr.in1 S5.inv.ok.frames (c1 md5) cC (Q := fun rr s6 => ∃ v y' H6, rr = some v ∧ RelV y' v ∧ Itm H6 x y' ∧ Same H5 H6 ∧ Slp (X.blk s3 H3 scope ce ex) [] (gp X N0 g k Itm) a r (wipe σ (own.map (·.2))) H6 s6)
        (fun x' r' v y' s' H6 e ry it sm S' => by cases e; exact ⟨v, y', H6, rfl, ry, it, sm, S'⟩) fun e => nomatch e) fun rr s6 z => ?_
      obtain ⟨v, y', H6, hrr, ry, it, sm6, S6⟩ := z
      subst hrr
      have hg6 : s6.heap.IsGen a g := by
        obtain ⟨go6, gs6, F6, G6, H06, _, q6⟩ := S6
        exact q6.gen _ (q6.inv.pin (a, go6) (List.mem_append_right _ (List.mem_append_right _ List.mem_cons_self))).1
      refine go_gen hg6 ?_
      refine thnF (slp_run (X := X.blk s3 H3 scope ce ex) (σ2 := fun _ σ' H' => σ' = (wipe σ (own.map (·.2))).set i0 (some y') ∧ H' = H6) (fun pins' s I => thn (pg.run pins' s _ H6 y' v _ I ry (show gName i0 y' (wipe σ (own.map (·.2))) H6 (fun σ' H' => σ' = (wipe σ (own.map (·.2))).set i0 (some y') ∧ H' = H6) from ⟨rfl, rfl⟩)) fun _ s2 ⟨σ', H', I', e1, e2⟩ => ⟨σ', H', I', by subst e2; exact .of fun _ _ e => e, e1, e2⟩) S6) fun _ s8 z => ?_
      obtain ⟨σ8, H8, S8, rfl, rfl⟩ := z
      refine wpAny_tests_nil ?_
      simp only [if_true]
      refine thnF (slp_run (X := X.blk s3 H3 scope ce ex) (σ2 := fun u σ' H' => σ' = (wipe σ (own.map (·.2))).set i0 (some y') ∧ ∃ z, RelV z u ∧ Md H8 H' ∧ ∃ acc, H' D = some (.lst acc) ∧ acc.length < sizeLine ∧ W r (upd H' D (.lst (acc ++ [z])))) (fun pins' s I => thn (pe.run pins' s _ H8 _ I (wt x r H5 H8 y' w5 sm6 it)) fun u s2 ⟨z, H', I', rz, md, rest⟩ => ⟨_, H', I', md, rfl, z, rz, md, rest⟩) S8) fun u s10 z => ?_
      obtain ⟨σ10, H10, S10, rfl, zv, rz, md10, acc, hD10, hz10, w10⟩ := z
      refine thnF (slp_run (X := X.blk s3 H3 scope ce ex) (σ2 := fun _ σ' H' => σ' = (wipe σ (own.map (·.2))).set i0 (some y') ∧ H' = upd H10 D (.lst (acc ++ [zv]))) (fun pins' s I => app_ok (X := X.blk s3 H3 scope ce ex) I hD10 hz10 rz fun s11 I11 => ⟨_, _, I11, .lst hD10 _, rfl, rfl⟩) S10) fun _ s11 z => ?_
      obtain ⟨σ11, H11, S11, rfl, rfl⟩ := z
      obtain ⟨go11, gs11, F11, G11, H011, _, q11⟩ := S11
      refine ⟨r.length, by rw [← hn5]; exact Nat.lt_succ_self _, r, upd H10 D (.lst (acc ++ [zv])), go11, gs11, F11, G11, H011, rfl, ⟨q11.inv.weak ?_ (fun j v e => ?_), q11.md, q11.sm, q11.gen, q11.gst, q11.ig, q11.sl, q11.fN, q11.aN, q11.dj, q11.cell⟩, ((md5.trans (.of sm6)).trans md10).trans (.lst hD10 _), w10⟩
      · rw [List.length_set]
      · rw [List.getElem?_set_ne]
        · exact e
        · intro e'
          subst e'
          exact (wipe_some e).2 hi0
  exact codeAny_compStart_list loop (wpAny_pyIter_gen (S4.gen _ (S4.inv.pin (a, go) (List.mem_append_right _ (List.mem_append_right _ List.mem_cons_self))).1) loop)
/-- as a value -/
theorem pe_lcG {elt iter : Expr} {y : Str} {py : Pos} {i0 k : Nat} {scope : Scope} {own : List (Str × Nat)} {pos : Pos} {tgn : TGen} {Itm : Hp → List Str → V → Prop} {te : TE} (hc : X.calm = true) (hN : X.N.Nodup) (hr : Room (k + 1) X.A) (hi : PGn X k iter Itm tgn) (ok : BlkOk X.N X.env.scope scope own) (hnc : ∀ z ∈ scope.names, z.2 ≠ .cell) (hi0 : i0 ∈ own.map (·.2))
    (hg : ∀ (s : Shared) (H : Hp) (C : Addr) (cl : List (Str × Addr)) (fp : List Addr), PG (X.blk s H scope (compEnvC scope cl C X.env) fp) (.Name y py) (gName i0))
    (he : ∀ (s : Shared) (H : Hp) (C : Addr) (cl : List (Str × Addr)) (fp : List Addr), PE (X.blk s H scope (compEnvC scope cl C X.env) fp) elt te) (hs : ∀ x, foldedSetIterable iter X.env x = pure x := by intro _; rfl) :
    PE X (.ListComp elt [⟨.Name y py, iter, [], 0⟩] scope pos) (tLcG tgn Itm i0 te (own.map (·.2))) := by
  refine ⟨fun pins s σ H Q I h => ?_⟩
  rw [eval_ListComp]
  refine lcG_core hc hN I hr hi ok hnc hi0 hg he hs h fun D C s' m H' I' q hn f => ⟨m, hn, fun h'' sb => ?_⟩
  obtain ⟨f0, f1, f2, f3, f4, f5⟩ := f
  exact ⟨.ref D, H', I'.turned (t' := s'.toks) (fun b o hb e => (sb.2 b hb).trans e) f0 f1 f3 f4 f5, rfl, q⟩
/-- name = [..] on one line, the name a local -/
theorem ps_setLcG {i : Nat} {z : Str} {pz : Pos} {elt iter : Expr} {y : Str} {py : Pos} {i0 k : Nat} {scope : Scope} {own : List (Str × Nat)} {pos spos : Pos} {tgn : TGen} {Itm : Hp → List Str → V → Prop} {te : TE} (hc : X.calm = true) (hN : X.N.Nodup) (hy : X.N[i]? = some z) (hyl : X.env.scope.names.lookup z = some .local)
    (hsw : swapsWith (.ListComp elt [⟨.Name y py, iter, [], 0⟩] scope pos) (some (.Name z pz)) spos.line X.env = pure true) (hr : Room (k + 1) X.A) (hi : PGn X k iter Itm tgn) (ok : BlkOk X.N X.env.scope scope own) (hnc : ∀ z ∈ scope.names, z.2 ≠ .cell) (hi0 : i0 ∈ own.map (·.2))
    (hg : ∀ (s : Shared) (H : Hp) (C : Addr) (cl : List (Str × Addr)) (fp : List Addr), PG (X.blk s H scope (compEnvC scope cl C X.env) fp) (.Name y py) (gName i0))
    (he : ∀ (s : Shared) (H : Hp) (C : Addr) (cl : List (Str × Addr)) (fp : List Addr), PE (X.blk s H scope (compEnvC scope cl C X.env) fp) elt te) (hs : ∀ x, foldedSetIterable iter X.env x = pure x := by intro _; rfl) :
    PS X (.Assign [.Name z pz] (.ListComp elt [⟨.Name y py, iter, [], 0⟩] scope pos) spos) (tAsg (tLcG tgn Itm i0 te (own.map (·.2))) (gName i)) := by
  refine ⟨fun pins s σ H D I h => ?_⟩
  rw [exec_Assign_Name_used _ _ _ _ hsw]
  refine wpAny_bind (wpAny_standAt (wpAny_bind ?_))
  show wpAny _ X.A (do let _ ← comprehension (.ListComp elt [⟨.Name y py, iter, [], 0⟩] scope pos) scope X.env (firstIterPos [⟨.Name y py, iter, [], 0⟩] pos) (newList []) false (eval iter X.env) (some (assign (.Name z pz) X.env))) _ _ s
  have h : tLcG tgn Itm i0 te (own.map (·.2)) σ H (fun x H1 => gName i x σ H1 D.nx) := h
  refine wpAny_bind (thn (lcG_core (Qf := fun _ s' => SP X pins D .next s') hc hN I hr hi ok hnc hi0 hg he hs h fun L C s' m H' I' q hn f => ?_) fun _ s' hq => wpAny_pure (wpAny_pure hq))
  show wpAny _ _ (assign (.Name z pz) X.env (.ref L)) _ _ _
  refine wpAny_assign_Name (store_ok2 (v := V.ref L) I' hN hy (.inl hyl) rfl (fun s2 I2 ⟨a, sb, ha⟩ => ?_) (.inr hyl))
  obtain ⟨f0, f1, f2, f3, f4, f5⟩ := f
  have haC : C ≠ a := by
    rcases ha with z | z
    · rw [z]; exact f1
    · exact fun e => f4 _ a z e.symm
  refine ⟨m, hn.sameBut sb haC, fun h3 sb3 => ?_⟩
  exact ⟨_, H', I2.turned (t' := s2.toks) (fun b o hb e => (sb3.2 b hb).trans e) f0 f1 f3 f4 f5, q⟩
end
end Fl
namespace Fl
open PySem PySem.Spec L2
/-- a new instance of the class C at p is filled: all else stays -/
def spCInit (K : PySem.W.Frag) : Sp := fun vs H Q _ => ∃ p dx a xs, vs = [.ref p, .ref a] ∧ H p = some (.ins (CC K) dx []) ∧ SqL K H a (sv xs) ∧ Nms xs ∧ xs.length ≤ 30 ∧
  ∀ H', ComAt K H' p (srt xs) → (∀ b o, b ≠ p → H b = some o → H' b = some o) → Q .non H'
def spMembers (K : PySem.W.Frag) : Sp := fun vs H Q _ => ∃ a ms, vs = [.ref a] ∧ ComAt K H a ms ∧ RetL H Q (sv ms)
def spCLen (K : PySem.W.Frag) : Sp := fun vs H Q _ => ∃ a ms, vs = [.ref a] ∧ ComAt K H a ms ∧ Q (.int (ms.length : Nat)) H
def spCEq (K : PySem.W.Frag) : Sp := fun vs H Q _ => ∃ a b ms ns, vs = [.ref a, .ref b] ∧ ComAt K H a ms ∧ ComAt K H b ns ∧ Nms ms ∧ Nms ns ∧ Q (.bl (decide (ms = ns))) H
def spCContains (K : PySem.W.Frag) : Sp := fun vs H Q _ => ∃ a ms x, vs = [.ref a, .str x] ∧ ComAt K H a ms ∧ okName x = true ∧ Ret H Q fun v _ => v = .bl (decide (x ∈ ms))
def spCSub (K : PySem.W.Frag) : Sp := fun vs H Q _ => ∃ a b ms ns, vs = [.ref a, .ref b] ∧ ComAt K H a ms ∧ ComAt K H b ns ∧ GC ms ∧ Ret H Q fun v H' => ∃ p, v = .ref p ∧ ComAt K H' p (ms.filter fun x => !decide (x ∈ ns))
def spWithin (K : PySem.W.Frag) : Sp := fun vs H Q _ => ∃ a b ms ns, vs = [.ref a, .ref b] ∧ ComAt K H a ms ∧ ComAt K H b ns ∧ ms.length ≤ 30 ∧ Ret H Q fun v _ => v = .bl (ms.all fun x => decide (x ∈ ns))
theorem made_same {H H1 : Hp} {x dx C : Addr} (nx : H x = none) (nd : H dx = none) (k : ∀ b o, b ≠ x → (upd (upd H dx (.own x)) x (.ins C dx [])) b = some o → H1 b = some o) : Same H H1 := fun b o e =>
  k b o (ne_of_none e nx) (by rw [upd_ne (ne_of_none e nx), upd_ne (ne_of_none e nd)]; exact e)
theorem lk1 {v : V} {f : Str} : ([(f, v)] : List (Str × V)).lookup f = some v := by
  rw [List.lookup_cons]
  simp
section
variable {P : Program} {w : World} {K : PySem.W.Frag} {mg : Str → Option Value} {base : Heap}
theorem ok_C_init (T : TX K mg) : Fok P w K mg base 3 (He.ma K (CC K) "__init__") ["self", "names"] (spCInit K) := by
  have F_are_names := ok_are_names (P := P) (w := w) (base := base) T
  have F_distinct := ok_distinct (P := P) (w := w) (base := base) T
  refine fok_mk T.f_C_init sc_C_init (fun _ _ _ _ _ _ us hl => match us, hl with | [_, _], _ => rfl) (fun vs H Q E h => ?_) (fun cdv A outer s H vs Q E hr h => ?_)
  · obtain ⟨p, dx, a, xs, rfl, _⟩ := h; rfl
  obtain ⟨p, dx, a, xs, rfl, hp, ha, hx, hn, k⟩ := h
  obtain ⟨_, h_MAX_NAMES, r_MAX_NAMES⟩ := T.c_MAX_NAMES
  refine ⟨_, (pss_cons (ps_if (PW.pt (pw_or (pt_not (pt_val (pe_c F_are_names (hr.mono (by decide)) (pa_cons (pv 1) pa_nil)))) (pw_or1 (pt_cmpR op_gt (pe_callB (k_len K (by rfl)) (by rfl) T.b_len (by decide +kernel) (pa_cons (pe_c F_distinct (hr.mono (by decide)) (pa_cons (pv 1) pa_nil)) pa_nil)) (pe_glob (by rfl) h_MAX_NAMES r_MAX_NAMES) (nomark _))))) pss_never pss_nil)
      (pss_one (ps_fz (ps_fld (pv 0) (pe_c F_distinct (hr.mono (by decide)) (pa_cons (pv 1) pa_nil)) rfl)))), ?_⟩
  refine ⟨_, rfl, a, xs, rfl, ha, hx, by omega, fun v H1 s1 e => ?_⟩
  subst e
  refine ⟨true, rfl, iteF ?_⟩
  refine ⟨_, rfl, a, xs, rfl, (Sm.of s1).seq ha, by omega, fun q H2 hq s2 e2 => ?_⟩
  have hl : (sv (srt xs)).length ≤ xs.length := by
    rw [List.length_map]
    exact (srt_SS xs).nodup.length_le_of_subset fun z hz => (mem_srt z xs).mp hz
  refine ⟨q, _, rfl, .inl (SqL.of e2), _, 30, rfl, rfl, _, rfl, itF (decide_eq_false (by omega)) ?_⟩
  have s12 := s1.trans s2
  refine ⟨_, rfl, a, xs, rfl, (Sm.of s12).seq ha, by omega, fun r H3 hr3 s3 e3 => ?_⟩
  have s13 := s12.trans s3
  refine ⟨_, rfl, p, _, dx, _, rfl, s13 _ _ hp, T.clsC, T.nC_own_members, by decide, ?_⟩
  have nrp : r ≠ p := ne_of e3 (s13 _ _ hp) (fun z => nomatch z)
  refine ⟨r, .lst _, by rw [upd_ne nrp]; exact e3, trivial, fun od => ?_⟩
  refine k _ ⟨dx, r, ?_, od, upd_same⟩ fun b o hb e => ?_
  · rw [upd_ne nrp.symm, upd_same]; rfl
  · have e' := s12 b o e
    rw [upd_ne (ne_of_none e' hr3), upd_ne hb]
    exact s3 _ _ e'
theorem ok_C_members (T : TX K mg) : Fok P w K mg base 1 (gtr K (He.ma K (CC K) "members")) ["self"] (spMembers K) := by
  refine fok_mk T.f_C_members sc_C_members (fun _ _ _ _ _ _ us hl => match us, hl with | [_], _ => rfl) (fun vs H Q E h => ?_) (fun cdv A outer s H vs Q E hr h => ?_)
  · obtain ⟨a, ms, rfl, _⟩ := h; rfl
  obtain ⟨a, ms, rfl, ⟨dx, l, h1, h2⟩, k⟩ := h
  refine ⟨_, (pss_one (ps_ret (pe_callTy (k_list K (by rfl)) (by rfl) T.b_list (by decide +kernel) (pa_cons (k_fld K (by rfl) (pv 0)) pa_nil)))), ?_⟩
  exact ⟨_, rfl, a, _, dx, _, _, rfl, h1, T.clsC, T.nC_own_members, lk1, l, _, rfl, .inl h2.seq, fun q hq => k q _ hq (same_new hq _) upd_same⟩
theorem ok_C_len (T : TX K mg) : Fok P w K mg base 1 (He.ma K (CC K) "__len__") ["self"] (spCLen K) := by
  refine fok_mk T.f_C_len sc_C_len (fun _ _ _ _ _ _ us hl => match us, hl with | [_], _ => rfl) (fun vs H Q E h => ?_) (fun cdv A outer s H vs Q E hr h => ?_)
  · obtain ⟨a, ms, rfl, _⟩ := h; rfl
  obtain ⟨a, ms, rfl, ⟨dx, l, h1, h2⟩, k⟩ := h
  refine ⟨_, (pss_one (ps_ret (pe_callB (k_len K (by rfl)) (by rfl) T.b_len (by decide +kernel) (pa_cons (k_fld K (by rfl) (pv 0)) pa_nil)))), ?_⟩
  refine ⟨_, rfl, a, _, dx, _, _, rfl, h1, T.clsC, T.nC_own_members, lk1, l, _, rfl, .inl h2.seq, ?_⟩
  rw [List.length_map]
  exact k
theorem ok_C_eq (T : TX K mg) : Fok P w K mg base 1 (He.ma K (CC K) "__eq__") ["self", "other"] (spCEq K) := by
  refine fok_mk T.f_C_eq sc_C_eq (fun _ _ _ _ _ _ us hl => match us, hl with | [_, _], _ => rfl) (fun vs H Q E h => ?_) (fun cdv A outer s H vs Q E hr h => ?_)
  · obtain ⟨a, b, ms, ns, rfl, _⟩ := h; rfl
  obtain ⟨a, b, ms, ns, rfl, ⟨dx, l, h1, h2⟩, ⟨dy, m, h3, h4⟩, n1, n2, k⟩ := h
  refine ⟨_, (pss_one (ps_ret (pe_and (pe_callB (k_isi K (by rfl)) (by rfl) T.b_isinstance (by decide +kernel) (pa_cons (pv 1) (pa_cons (pe_glob (v := .ref _) (by rfl) T.gC rfl) pa_nil))) (pe_one (pe_cmpR (k_eqD K (by rfl) hr.units) (k_fld K (by rfl) (pv 0)) (k_fld K (by rfl) (pv 1)) (nomark _)))))), ?_⟩
  refine ⟨_, rfl, _, _, _, .ref (CC K), true, rfl, .own _, tyx_ins h3 T.clsC T.iC, T.kitC, true, rfl, iteT ?_⟩
  refine ⟨_, rfl, a, _, dx, _, _, rfl, h1, T.clsC, T.nC_own_members, lk1, _, rfl, b, _, dy, _, _, rfl, h3, T.clsC, T.nC_own_members, lk1, _, _, dp_strs h2.seq, dp_strs h4.seq, shaped_strs n1, shaped_strs n2, ?_⟩
  rw [eqv_lists]
  exact k
theorem ok_C_contains (T : TX K mg) : Fok P w K mg base 2 (He.ma K (CC K) "__contains__") ["self", "name"] (spCContains K) := by
  have F_is_name := ok_is_name (P := P) (w := w) (base := base) T
  refine fok_mk T.f_C_contains sc_C_contains (fun _ _ _ _ _ _ us hl => match us, hl with | [_, _], _ => rfl) (fun vs H Q E h => ?_) (fun cdv A outer s H vs Q E hr h => ?_)
  · obtain ⟨a, ms, x, rfl, _⟩ := h; rfl
  obtain ⟨a, ms, x, rfl, hc, hx, k⟩ := h
  refine ⟨_, (pss_one (ps_ret (pe_and (pe_c F_is_name (hr.mono (by decide)) (pa_cons (pv 1) pa_nil)) (pe_one (pe_cmpR (k_in K (by rfl)) (pv 1) (k_fld K (by rfl) (pv 0)) (by rfl)))))), ?_⟩
  refine ⟨_, rfl, x, rfl, hx, fun v H1 s1 e => ?_⟩
  subst e
  obtain ⟨dx, l, h1, h2⟩ := hc.s s1
  refine ⟨true, rfl, iteT ?_⟩
  refine ⟨_, rfl, _, rfl, a, _, dx, _, _, rfl, h1, T.clsC, T.nC_own_members, lk1, l, _, rfl, .inl h2.seq, rfl, flat_sv ms, ?_⟩
  exact k _ _ s1 (by rw [if_neg Bool.false_ne_true, inV_strs])
theorem ok_C_sub (T : TX K mg) : Fok P w K mg base 5 (He.ma K (CC K) "__sub__") ["self", "other"] (spCSub K) := by
  have F_C_init := ok_C_init (P := P) (w := w) (base := base) T
  refine fok_mk T.f_C_sub sc_C_sub (fun _ _ _ _ _ _ us hl => match us, hl with | [_, _], _ => rfl) (fun vs H Q E h => ?_) (fun cdv A outer s H vs Q E hr h => ?_)
  · obtain ⟨a, b, ms, ns, rfl, _⟩ := h; rfl
  obtain ⟨a, b, ms, ns, rfl, ha, hb, gm, k⟩ := h
  obtain ⟨dx, l, h1, h2⟩ := id ha
  obtain ⟨dy, m, h3, h4⟩ := id hb
  refine ⟨_, (pss_one (ps_ret (pe_mk F_C_init T.mkC T.gC (hr.mono (by decide)) (pa_cons (pe_lc (own := [("name", 2)]) (g := gName 2) rfl sc_C_sub.nd (k_pil K (by rfl) (k_fld K (by rfl) (pv 0))) (blkOk_by (N := ["self", "other", "name"]) (sc := defScope s_C_sub) (by decide +kernel)) (fun _ _ _ _ _ => by exact (pg_name (i := 2) sc_C_sub.nd rfl (Or.inl rfl))) (fun _ _ _ _ _ => by exact (pts_one (pt_cmpR (k_notIn K (by rfl)) (pv 2) (k_fld K (by rfl) (pv 1)) (by rfl)))) (fun _ _ _ _ _ => by exact ((pv 2)))) pa_nil)))), ?_⟩
  refine ⟨_, rfl, a, _, dx, _, _, rfl, h1, T.clsC, T.nC_own_members, lk1, l, rfl, ⟨_, h2.seq⟩, lc_g walk_list (fun i acc _ => acc = sv ((ms.take i).filter fun x => !decide (x ∈ ns))) (by rw [List.length_map]; have := gm.2.2; omega) (fun H1 s1 => (Sm.of s1).seq h2.seq) (fun _ _ => rfl) (fun _ _ _ _ r _ => r)
    (fun i acc _ e => by rw [e, List.length_map]; exact Nat.le_trans (List.length_filter_le _ _) (by rw [List.length_take]; exact Nat.min_le_left _ _)) ?_ ?_⟩
  · rintro i acc y H1 H2 Qy Qn hi s1 rfl ⟨rfl, hc⟩ ky kn
    obtain ⟨x, hx1, rfl⟩ := get_map hc
    refine ⟨rfl, ?_⟩
    refine ⟨_, rfl, _, rfl, b, _, dy, _, _, rfl, s1 _ _ h3, T.clsC, T.nC_own_members, lk1, m, _, rfl, .inl ((Sm.of s1).seq h4.seq), rfl, flat_sv ns, _, rfl, ?_⟩
    rw [if_pos rfl, inV_strs]
    by_cases hx : x ∈ ns
    · rw [decide_eq_true hx]
      refine itF rfl (kn _ (Same.refl _) ?_)
      rw [take_snoc hx1, List.filter_append]
      simp [hx]
    · rw [decide_eq_false hx]
      refine itT rfl ⟨_, rfl, ky _ _ (Same.refl _) ?_⟩
      rw [take_snoc hx1, List.filter_append]
      simp [hx]
  · intro D acc H1 hD s1 hacc r
    rw [List.length_map, List.take_length] at r
    subst r
    intro x dz nx nd ne
    have sm := same_new nd (.own x)
    refine ⟨x, dz, D, ms.filter fun x => !decide (x ∈ ns), rfl, upd_same, ?_, (gm.filter _).2.1, (gm.filter _).2.2, fun H4 hc kp => ⟨rfl, ?_⟩⟩
    · exact SqL.of (by rw [upd_ne (ne_of_none hacc nx), upd_ne (ne_of_none hacc nd)]; exact hacc)
    · rw [srt_of_SS (gm.filter _).1] at hc
      exact k _ _ (s1.trans (made_same nx nd kp)) ⟨x, rfl, hc⟩
theorem ok_within (T : TX K mg) : Fok P w K mg base 1 (He.ma K (CC K) "is_within") ["self", "other"] (spWithin K) := by
  refine fok_mk T.f_C_is_within sc_C_is_within (fun _ _ _ _ _ _ us hl => match us, hl with | [_, _], _ => rfl) (fun vs H Q E h => ?_) (fun cdv A outer s H vs Q E hr h => ?_)
  · obtain ⟨a, b, ms, ns, rfl, _⟩ := h; rfl
  obtain ⟨a, b, ms, ns, rfl, ⟨dx, l, h1, h2⟩, ⟨dy, m, h3, h4⟩, gm, k⟩ := h
  refine ⟨_, (pss_one (ps_ret (pe_callB (k_all K (by rfl) rfl) (by rfl) T.b_all (by decide +kernel) (pa_cons (pe_lc (own := [("name", 2)]) (g := gName 2) (tt := tYes) rfl sc_C_is_within.nd (k_pil K (by rfl) (k_fld K (by rfl) (pv 0))) (blkOk_by (N := ["self", "other", "name"]) (sc := defScope s_C_is_within) (by decide +kernel)) (fun _ _ _ _ _ => by exact (pg_name (i := 2) sc_C_is_within.nd rfl (Or.inl rfl))) (fun _ _ _ _ _ => by exact (pts_nil)) (fun _ _ _ _ _ => by exact ((pe_cmpR (k_in K (by rfl)) (pv 2) (k_fld K (by rfl) (pv 1)) (by rfl))))) pa_nil)))), ?_⟩
  refine ⟨_, rfl, a, _, dx, _, _, rfl, h1, T.clsC, T.nC_own_members, lk1, l, rfl, ⟨_, h2.seq⟩, lc_g walk_list (fun i acc _ => acc = ((ms.take i).map fun x => decide (x ∈ ns)).map V.bl) (by rw [List.length_map]; omega) (fun H1 s1 => (Sm.of s1).seq h2.seq) (fun _ _ => rfl) (fun _ _ _ _ r _ => r)
    (fun i acc _ e => by rw [e, List.length_map, List.length_map, List.length_take]; exact Nat.min_le_left _ _) ?_ ?_⟩
  · rintro i acc y H1 H2 Qy Qn hi s1 rfl ⟨rfl, hc⟩ ky kn
    obtain ⟨x, hx1, rfl⟩ := get_map hc
    refine ⟨rfl, ?_⟩
    refine ⟨_, rfl, _, rfl, b, _, dy, _, _, rfl, s1 _ _ h3, T.clsC, T.nC_own_members, lk1, m, _, rfl, .inl ((Sm.of s1).seq h4.seq), rfl, flat_sv ns, ?_⟩
    refine ky _ _ (Same.refl _) ?_
    rw [if_neg Bool.false_ne_true, inV_strs, take_snoc hx1, List.map_append, List.map_append]
    rfl
  · intro D acc H1 hD s1 hacc r
    rw [List.length_map, List.take_length] at r
    refine ⟨D, _, rfl, by rw [← r]; exact SqL.of hacc, k _ _ s1 ?_⟩
    rw [List.all_map]
    rfl
end
end Fl
namespace Fl
open PySem PySem.Spec L2
theorem lk_hit {v : V} {f g : Str} {r : List (Str × V)} (h : f = g) : ((f, v) :: r : List (Str × V)).lookup g = some v := by
  subst h; rw [List.lookup_cons]; simp
theorem lk_miss {v : V} {f g : Str} {r : List (Str × V)} (h : ¬ g = f) : ((f, v) :: r : List (Str × V)).lookup g = r.lookup g := by
  rw [List.lookup_cons]
  have : (g == f) = false := by simp [h]
  rw [this]
theorem rk_places {v u : V} : ([("order", v), ("places", u)] : List (Str × V)).lookup ("places" : Str) = some u := by
  rw [lk_miss (by decide +kernel)]; exact lk_hit rfl
theorem plcs_snoc {o : List Str} {i : Nat} {x : Str} (h : o[i]? = some x) : plcs (o.take (i + 1)) = plcs (o.take i) ++ [(Sum.inr x, V.int (i : Nat))] := by
  unfold plcs
  rw [take_snoc h, List.zipIdx_append, List.map_append]
  have hl : (o.take i).length = i := by
    rw [List.length_take]
    have := (List.getElem?_eq_some_iff.mp h).1
    omega
  rw [hl]
  simp
theorem plcs_val : ∀ (o : List Str) (n : Nat) (x : Str), valV (o.zipIdx n |>.map fun q => ((Sum.inr q.1 : Key), V.int (q.2 : Nat))) (Sum.inr x) = none ↔ x ∉ o
  | [], n, x => by simp [valV]
  | y :: r, n, x => by
    rw [List.zipIdx_cons, List.map_cons]
    by_cases h : y = x
    · subst h
      rw [valV_pos rfl]
      simp
    · rw [valV_neg (by intro e; cases e; exact h rfl), plcs_val r (n + 1) x, List.mem_cons]
      have : ¬ x = y := fun e => h e.symm
      simp [this]
theorem plcs_get : ∀ (o : List Str) (n i : Nat) (x : Str), o.Nodup → o[i]? = some x → valV (o.zipIdx n |>.map fun q => ((Sum.inr q.1 : Key), V.int (q.2 : Nat))) (Sum.inr x) = some (.int ((n + i : Nat) : Int))
  | [], n, i, x, _, h => by simp at h
  | y :: r, n, 0, x, _, h => by
    have e : y = x := Option.some.inj h
    subst e
    rw [List.zipIdx_cons, List.map_cons, valV_pos rfl]; rfl
  | y :: r, n, i + 1, x, hn, h => by
    rw [List.nodup_cons] at hn
    have hx : r[i]? = some x := h
    have hy : y ≠ x := fun e => hn.1 (by rw [e]; exact List.mem_of_getElem? hx)
    rw [List.zipIdx_cons, List.map_cons, valV_neg (by intro e; cases e; exact hy rfl), plcs_get r (n + 1) i x hn.2 hx]
    congr 2; omega
theorem plcs_length (o : List Str) : (plcs o).length = o.length := by unfold plcs; simp
def spRInit (K : PySem.W.Frag) : Sp := fun vs H Q _ => ∃ p dx a o, vs = [.ref p, .ref a] ∧ H p = some (.ins (RC K) dx []) ∧ SqL K H a (sv o) ∧ GR o ∧
  ∀ H', RkAt K H' p o → (∀ b u, b ≠ p → H b = some u → H' b = some u) → Q .non H'
def spAlts (K : PySem.W.Frag) : Sp := fun vs H Q _ => ∃ a o, vs = [.ref a] ∧ RkAt K H a o ∧ RetL H Q (sv o)
def spRLen (K : PySem.W.Frag) : Sp := fun vs H Q _ => ∃ a o, vs = [.ref a] ∧ RkAt K H a o ∧ Q (.int (o.length : Nat)) H
def spRContains (K : PySem.W.Frag) : Sp := fun vs H Q _ => ∃ a o x, vs = [.ref a, .str x] ∧ RkAt K H a o ∧ okName x = true ∧ Ret H Q fun v _ => v = .bl (decide (x ∈ o))
def spRGet (K : PySem.W.Frag) : Sp := fun vs H Q _ => ∃ a o, ∃ i : Nat, ∃ x, vs = [.ref a, .int (i : Nat)] ∧ RkAt K H a o ∧ o[i]? = some x ∧ Q (.str x) H
def spRAnd (K : PySem.W.Frag) : Sp := fun vs H Q _ => ∃ a b o ms, vs = [.ref a, .ref b] ∧ RkAt K H a o ∧ ComAt K H b ms ∧ GR o ∧ Ret H Q fun v H' => ∃ p, v = .ref p ∧ RkAt K H' p (o.filter fun x => decide (x ∈ ms))
def spPlace (K : PySem.W.Frag) : Sp := fun vs H Q _ => ∃ a o, ∃ i : Nat, ∃ x, vs = [.ref a, .str x] ∧ RkAt K H a o ∧ GR o ∧ o[i]? = some x ∧ Ret H Q fun v _ => v = .int (i : Nat)
def spPrefers (K : PySem.W.Frag) : Sp := fun vs H Q _ => ∃ a o, ∃ i j : Nat, ∃ x y, vs = [.ref a, .str x, .str y] ∧ RkAt K H a o ∧ GR o ∧ o[i]? = some x ∧ o[j]? = some y ∧ Ret H Q fun v _ => v = .bl (decide (i < j))
def spWorst (K : PySem.W.Frag) : Sp := fun vs H Q _ => ∃ a b o ms z, vs = [.ref a, .ref b] ∧ RkAt K H a o ∧ ComAt K H b ms ∧ GR o ∧ (o.filter fun x => decide (x ∈ ms)).getLast? = some z ∧ Ret H Q fun v _ => v = .str z
def spKnown (K : PySem.W.Frag) : Sp := fun vs H Q _ => ∃ a b o ms, vs = [.ref a, .ref b] ∧ RkAt K H a o ∧ ComAt K H b ms ∧ Nms ms ∧ (∀ x ∈ ms, x ∈ o) ∧ ∀ H', Same H H' → Q .non H'
def spAsCom (K : PySem.W.Frag) : Sp := fun vs H Q _ => ∃ a o, vs = [.ref a] ∧ RkAt K H a o ∧ GR o ∧ Ret H Q fun v H' => ∃ p, v = .ref p ∧ ComAt K H' p (srt o)
section
variable {P : Program} {w : World} {K : PySem.W.Frag} {mg : Str → Option Value} {base : Heap}
theorem ok_R_init (T : TX K mg) : Fok P w K mg base 3 (He.ma K (RC K) "__init__") ["self", "alternatives"] (spRInit K) := by
  have F_are_names := ok_are_names (P := P) (w := w) (base := base) T
  have F_distinct := ok_distinct (P := P) (w := w) (base := base) T
  refine fok_mk T.f_R_init sc_R_init (fun _ _ _ _ _ _ us hl => match us, hl with | [_, _], _ => rfl) (fun vs H Q E h => ?_) (fun cdv A outer s H vs Q E hr h => ?_)
  · obtain ⟨p, dx, a, o, rfl, _⟩ := h; rfl
  obtain ⟨p, dx, a, o, rfl, hp, ha, go, k⟩ := h
  obtain ⟨_, h_MAX_NAMES, r_MAX_NAMES⟩ := T.c_MAX_NAMES
  refine ⟨_, (pss_cons (ps_if (PW.pt (pw_or (pt_not (pt_val (pe_c F_are_names (hr.mono (by decide)) (pa_cons (pv 1) pa_nil)))) (pw_or1 (pt_cmpR op_gt (pe_callB (k_len K (by rfl)) (by rfl) T.b_len (by decide +kernel) (pa_cons (pv 1) pa_nil)) (pe_glob (by rfl) h_MAX_NAMES r_MAX_NAMES) (nomark _))))) pss_never pss_nil)
      (pss_cons (ps_if (pt_cmpR op_ne (pe_callB (k_len K (by rfl)) (by rfl) T.b_len (by decide +kernel) (pa_cons (pe_c F_distinct (hr.mono (by decide)) (pa_cons (pv 1) pa_nil)) pa_nil)) (pe_callB (k_len K (by rfl)) (by rfl) T.b_len (by decide +kernel) (pa_cons (pv 1) pa_nil)) (nomark _)) pss_never pss_nil)
      (pss_cons (ps_fz (ps_fld (pv 0) (pe_callTy (k_list K (by rfl)) (by rfl) T.b_list (by decide +kernel) (pa_cons (pv 1) pa_nil)) rfl))
      (pss_one (ps_fz (ps_fld (pv 0) (pe_dc (own := [("place", 2), ("name", 3)]) (g := gTup K 2 (gCons (gName 2) (gCons (gName 3) gNil))) (tt := tYes) rfl sc_R_init.nd (k_enum K (by rfl) (by rfl) T.b_enumerate (pa_cons (k_fld K (by rfl) (pv 0)) pa_nil)) (blkOk_by (N := ["self", "alternatives", "place", "name"]) (sc := defScope s_R_init) (by decide +kernel)) (fun _ _ _ _ _ => by exact (k_gtup K (by rfl) rfl (pgs_cons (pg_name (i := 2) sc_R_init.nd rfl (Or.inl rfl)) (pgs_cons (pg_name (i := 3) sc_R_init.nd rfl (Or.inl rfl)) pgs_nil)))) (fun _ _ _ _ _ => by exact (pts_nil)) (fun _ _ _ _ _ => by exact ((pv 3))) (fun _ _ _ _ _ => by exact ((pv 2)))) rfl)))))), ?_⟩
  have hlen := go.2.2
  refine ⟨_, rfl, a, o, rfl, ha, go.2.1, by omega, fun v H1 s1 e => ?_⟩
  subst e
  refine ⟨true, rfl, iteF ?_⟩
  refine ⟨_, rfl, a, _, rfl, .inl ((Sm.of s1).seq ha), _, 30, rfl, rfl, _, rfl, itF (decide_eq_false (by rw [List.length_map]; omega)) ?_⟩
  refine ⟨_, rfl, a, o, rfl, (Sm.of s1).seq ha, by omega, fun q H2 hq s2 e2 => ?_⟩
  have s12 := s1.trans s2
  refine ⟨q, _, rfl, .inl (SqL.of e2), _, rfl, a, _, rfl, .inl ((Sm.of s12).seq ha), rfl, _, rfl, itF ?_ ?_⟩
  · rw [List.length_map, List.length_map, srt_length go.1]; simp
  refine ⟨_, rfl, a, _, rfl, .inl ((Sm.of s12).seq ha), fun l hl => ?_⟩
  have hp2 := s12 _ _ hp
  have nlp : l ≠ p := (ne_of_none hp2 hl).symm
  refine ⟨_, rfl, p, _, dx, _, rfl, by rw [upd_ne nlp.symm]; exact hp2, T.clsR, T.nR_order, by decide, ?_⟩
  refine ⟨l, .lst _, by rw [upd_ne nlp]; exact upd_same, trivial, fun od => ?_⟩
  generalize hH4 : upd (upd (upd H2 l (.lst (sv o))) p (.ins (RC K) dx (putF "order" (.ref l) []))) l (.frz od (.lst (sv o))) = H4
  have e4 : ∀ b, b ≠ l → b ≠ p → H4 b = H2 b := fun b h1 h2 => by rw [← hH4, upd_ne h1, upd_ne h2, upd_ne h1]
  have e4l : H4 l = some (.frz od (.lst (sv o))) := by rw [← hH4]; exact upd_same
  have e4p : H4 p = some (.ins (RC K) dx [("order", .ref l)]) := by rw [← hH4, upd_ne nlp.symm, upd_same]; rfl
  refine ⟨_, rfl, p, _, dx, _, _, rfl, e4p, T.clsR, T.nR_order, lk1, l, _, rfl, .inl (.inr ⟨_, e4l⟩), dc_g walk_enum (fun i acc _ => acc = plcs (o.take i)) (by rw [List.length_map]; omega) (fun H1 s1 => .inl (.inr ⟨_, s1 _ _ e4l⟩)) (fun _ _ => rfl) (fun _ _ _ _ r _ => r)
    (fun i acc _ e => by rw [e, plcs_length, List.length_take]; exact Nat.min_le_left _ _) ?_ ?_⟩
  · rintro i acc y H5 H6 Qy Qn hi s5 rfl ⟨t, x1, x2, rfl, ht, rfl, f1, f2⟩ ky kn
    obtain ⟨x, hx1, rfl⟩ := get_map f2
    cases f1
    refine ⟨t, [.int (i : Nat), .str x], rfl, .inl (.inl upd_same), rfl, _, [.str x], rfl, _, [], rfl, rfl, rfl, ?_⟩
    refine ⟨_, rfl, _, rfl, ky (Sum.inr x) _ _ (same_new ht _) ?_⟩
    rw [plcs_snoc hx1, putK_new]
    rw [show plcs (o.take i) = ((o.take i).zipIdx 0 |>.map fun q => ((Sum.inr q.1 : Key), V.int (q.2 : Nat))) from rfl, plcs_val]
    intro hm
    obtain ⟨j, hj⟩ := List.getElem?_of_mem hm
    rw [List.getElem?_take] at hj
    by_cases hji : j < i
    · rw [if_pos hji] at hj
      exact absurd (nd_ix go.1 hj hx1) (by omega)
    · rw [if_neg hji] at hj; cases hj
  · intro D acc H5 hD s5 hacc r
    rw [List.length_map, List.take_length] at r
    subst r
    have e5p := s5 _ _ e4p
    refine ⟨_, rfl, p, _, dx, _, rfl, e5p, T.clsR, T.nR_places, by show 1 < 1000; decide, ?_⟩
    have nDp : D ≠ p := (ne_of_none e4p hD).symm
    refine ⟨D, .dK _, by rw [upd_ne nDp]; exact hacc, trivial, fun od2 => ?_⟩
    refine k _ ⟨dx, l, D, od2, ?_, ⟨od, ?_⟩, upd_same⟩ fun b u hb e => ?_
    · rw [upd_ne nDp.symm, upd_same]
      show some (HO.ins (RC K) dx (if ("order" : Str) = "places" then _ else (("order" : Str), V.ref l) :: putF "places" (.ref D) [])) = _
      rw [if_neg (by decide +kernel)]; rfl
    · rw [upd_ne (ne_of_none e4l hD), upd_ne nlp]; exact s5 _ _ e4l
    · have e' := s12 b u e
      have nl : b ≠ l := ne_of_none e' hl
      have e4' : H4 b = some u := by rw [e4 b nl hb]; exact e'
      rw [upd_ne (ne_of_none e4' hD), upd_ne hb]
      exact s5 _ _ e4'
theorem ok_R_alternatives (T : TX K mg) : Fok P w K mg base 1 (gtr K (He.ma K (RC K) "alternatives")) ["self"] (spAlts K) := by
  refine fok_mk T.f_R_alternatives sc_R_alternatives (fun _ _ _ _ _ _ us hl => match us, hl with | [_], _ => rfl) (fun vs H Q E h => ?_) (fun cdv A outer s H vs Q E hr h => ?_)
  · obtain ⟨a, ms, rfl, _⟩ := h; rfl
  obtain ⟨a, ms, rfl, ⟨dx, l, d, q, h1, h2, h3⟩, k⟩ := h
  refine ⟨_, (pss_one (ps_ret (pe_callTy (k_list K (by rfl)) (by rfl) T.b_list (by decide +kernel) (pa_cons (k_fld K (by rfl) (pv 0)) pa_nil)))), ?_⟩
  exact ⟨_, rfl, a, _, dx, _, _, rfl, h1, T.clsR, T.nR_order, lk_hit rfl, l, _, rfl, .inl h2.seq, fun q hq => k q _ hq (same_new hq _) upd_same⟩
theorem ok_R_len (T : TX K mg) : Fok P w K mg base 1 (He.ma K (RC K) "__len__") ["self"] (spRLen K) := by
  refine fok_mk T.f_R_len sc_R_len (fun _ _ _ _ _ _ us hl => match us, hl with | [_], _ => rfl) (fun vs H Q E h => ?_) (fun cdv A outer s H vs Q E hr h => ?_)
  · obtain ⟨a, ms, rfl, _⟩ := h; rfl
  obtain ⟨a, ms, rfl, ⟨dx, l, d, q, h1, h2, h3⟩, k⟩ := h
  refine ⟨_, (pss_one (ps_ret (pe_callB (k_len K (by rfl)) (by rfl) T.b_len (by decide +kernel) (pa_cons (k_fld K (by rfl) (pv 0)) pa_nil)))), ?_⟩
  refine ⟨_, rfl, a, _, dx, _, _, rfl, h1, T.clsR, T.nR_order, lk_hit rfl, l, _, rfl, .inl h2.seq, ?_⟩
  rw [List.length_map]
  exact k
theorem ok_R_contains (T : TX K mg) : Fok P w K mg base 2 (He.ma K (RC K) "__contains__") ["self", "name"] (spRContains K) := by
  have F_is_name := ok_is_name (P := P) (w := w) (base := base) T
  refine fok_mk T.f_R_contains sc_R_contains (fun _ _ _ _ _ _ us hl => match us, hl with | [_, _], _ => rfl) (fun vs H Q E h => ?_) (fun cdv A outer s H vs Q E hr h => ?_)
  · obtain ⟨a, ms, x, rfl, _⟩ := h; rfl
  obtain ⟨a, ms, x, rfl, hc, hx, k⟩ := h
  refine ⟨_, (pss_one (ps_ret (pe_and (pe_c F_is_name (hr.mono (by decide)) (pa_cons (pv 1) pa_nil)) (pe_one (pe_cmp (pc_din (hu_of hr) (pv 1) (k_fld K (by rfl) (pv 0))) (by rfl)))))), ?_⟩
  refine ⟨_, rfl, x, rfl, hx, fun v H1 s1 e => ?_⟩
  subst e
  obtain ⟨dx, l, d, q, h1, h2, h3⟩ := hc.s s1
  refine ⟨true, rfl, iteT ?_⟩
  refine ⟨_, rfl, _, rfl, a, _, dx, _, _, rfl, h1, T.clsR, T.nR_places, rk_places, d, valV (plcs ms) (Sum.inr x), rfl, .inl ⟨_, Sum.inr x, .inr ⟨q, h3⟩, rfl, rfl⟩, ?_⟩
  refine k _ _ s1 ?_
  have e := plcs_val ms 0 x
  by_cases hm : x ∈ ms
  · rw [decide_eq_true hm]
    cases e2 : valV (plcs ms) (Sum.inr x) with
    | none => exact absurd hm (e.mp e2)
    | some _ => rfl
  · rw [decide_eq_false hm, show valV (plcs ms) (Sum.inr x) = none from e.mpr hm]; rfl
theorem ok_R_getitem (T : TX K mg) : Fok P w K mg base 2 (He.ma K (RC K) "__getitem__") ["self", "place"] (spRGet K) := by
  have F_is_number := ok_is_number (P := P) (w := w) (base := base) T
  refine fok_mk T.f_R_getitem sc_R_getitem (fun _ _ _ _ _ _ us hl => match us, hl with | [_, _], _ => rfl) (fun vs H Q E h => ?_) (fun cdv A outer s H vs Q E hr h => ?_)
  · obtain ⟨a, ms, i, x, rfl, _⟩ := h; rfl
  obtain ⟨a, o, i, x, rfl, ⟨dx, l, d, q, h1, h2, h3⟩, hx, k⟩ := h
  refine ⟨_, (pss_cons (ps_if (pt_not (pt_val (pe_c F_is_number (hr.mono (by decide)) (pa_cons (pv 1) (pa_cons pe_int (pa_cons (pe_op op_sub (pe_callB (k_len K (by rfl)) (by rfl) T.b_len (by decide +kernel) (pa_cons (k_fld K (by rfl) (pv 0)) pa_nil)) pe_int) pa_nil)))))) pss_never pss_nil)
      (pss_one (ps_ret (pe_ix (k_ixL K (by rfl)) (k_fld K (by rfl) (pv 0)) (pv 1) (fun _ _ => rfl))))), ?_⟩
  have hi := (List.getElem?_eq_some_iff.mp hx).1
  refine ⟨_, rfl, _, rfl, a, _, dx, _, _, rfl, h1, T.clsR, T.nR_order, lk_hit rfl, l, _, rfl, .inl h2.seq, _, 1, rfl, rfl, _, 0, _, rfl, by omega, by rw [List.length_map]; omega, true, rfl, iteF ?_⟩
  exact ⟨_, rfl, a, _, dx, _, _, rfl, h1, T.clsR, T.nR_order, lk_hit rfl, _, rfl, l, _, _, _, rfl, rfl, h2.seq, atI_nat (j := i) (v := .str x) (by rw [List.getElem?_map, hx]; rfl), k⟩
theorem ok_R_and (T : TX K mg) : Fok P w K mg base 5 (He.ma K (RC K) "__and__") ["self", "committee"] (spRAnd K) := by
  have F_R_init := ok_R_init (P := P) (w := w) (base := base) T
  have F_C_members := ok_C_members (P := P) (w := w) (base := base) T
  refine fok_mk T.f_R_and sc_R_and (fun _ _ _ _ _ _ us hl => match us, hl with | [_, _], _ => rfl) (fun vs H Q E h => ?_) (fun cdv A outer s H vs Q E hr h => ?_)
  · obtain ⟨a, b, ms, ns, rfl, _⟩ := h; rfl
  obtain ⟨a, b, o, ms, rfl, hra, hb, go, k⟩ := h
  obtain ⟨dx, l, d, q, h1, h2, h3⟩ := id hra
  obtain ⟨dy, m, g3, g4⟩ := id hb
  refine ⟨_, (pss_one (ps_ret (pe_mk F_R_init T.mkR T.gR (hr.mono (by decide)) (pa_cons (pe_lc (own := [("name", 2)]) (g := gName 2) rfl sc_R_and.nd (k_pil K (by rfl) (k_fld K (by rfl) (pv 0))) (blkOk_by (N := ["self", "committee", "name"]) (sc := defScope s_R_and) (by decide +kernel)) (fun _ _ _ _ _ => by exact (pg_name (i := 2) sc_R_and.nd rfl (Or.inl rfl))) (fun _ _ _ _ _ => by exact (pts_one (pt_cmpR (k_in K (by rfl)) (pv 2) (pe_pr F_C_members T.clsC T.pC_members (hr.mono (by decide)) (pv 1)) (by rfl)))) (fun _ _ _ _ _ => by exact ((pv 2)))) pa_nil)))), ?_⟩
  refine ⟨_, rfl, a, _, dx, _, _, rfl, h1, T.clsR, T.nR_order, lk_hit rfl, l, rfl, ⟨_, h2.seq⟩, lc_g walk_list (fun i acc _ => acc = sv ((o.take i).filter fun x => decide (x ∈ ms))) (by rw [List.length_map]; have := go.2.2; omega) (fun H1 s1 => (Sm.of s1).seq h2.seq) (fun _ _ => rfl) (fun _ _ _ _ r _ => r)
    (fun i acc _ e => by rw [e, List.length_map]; exact Nat.le_trans (List.length_filter_le _ _) (by rw [List.length_take]; exact Nat.min_le_left _ _)) ?_ ?_⟩
  · rintro i acc y H1 H2 Qy Qn hi s1 rfl ⟨rfl, hc⟩ ky kn
    obtain ⟨x, hx1, rfl⟩ := get_map hc
    refine ⟨rfl, ?_⟩
    refine ⟨_, rfl, _, rfl, b, dy, _, rfl, s1 _ _ g3, b, ms, rfl, hb.s s1, fun z H3 hz s3 e3 => ⟨z, _, rfl, .inl (SqL.of e3), rfl, flat_sv ms, _, rfl, ?_⟩⟩
    rw [if_neg Bool.false_ne_true, inV_strs]
    by_cases hx : x ∈ ms
    · rw [decide_eq_true hx]
      refine itT rfl ⟨_, rfl, ky _ _ s3 ?_⟩
      rw [take_snoc hx1, List.filter_append]
      simp [hx]
    · rw [decide_eq_false hx]
      refine itF rfl (kn _ s3 ?_)
      rw [take_snoc hx1, List.filter_append]
      simp [hx]
  · intro D acc H1 hD s1 hacc r
    rw [List.length_map, List.take_length] at r
    subst r
    intro x dz nx nd ne
    have gf : GR (o.filter fun x => decide (x ∈ ms)) := ⟨go.1.filter _, fun x hx => go.2.1 x (List.mem_filter.mp hx).1, Nat.le_trans (List.length_filter_le _ _) go.2.2⟩
    refine ⟨x, dz, D, o.filter fun x => decide (x ∈ ms), rfl, upd_same, ?_, gf, fun H4 hc kp => ⟨rfl, ?_⟩⟩
    · exact SqL.of (by rw [upd_ne (ne_of_none hacc nx), upd_ne (ne_of_none hacc nd)]; exact hacc)
    · exact k _ _ (s1.trans (made_same nx nd kp)) ⟨x, rfl, hc⟩
theorem ok_R_place (T : TX K mg) : Fok P w K mg base 3 (He.ma K (RC K) "place") ["self", "name"] (spPlace K) := by
  have F_R_contains := ok_R_contains (P := P) (w := w) (base := base) T
  refine fok_mk T.f_R_place sc_R_place (fun _ _ _ _ _ _ us hl => match us, hl with | [_, _], _ => rfl) (fun vs H Q E h => ?_) (fun cdv A outer s H vs Q E hr h => ?_)
  · obtain ⟨a, o, i, x, rfl, _⟩ := h; rfl
  obtain ⟨a, o, i, x, rfl, hra, go, hx, k⟩ := h
  obtain ⟨dx, l, d, q, h1, h2, h3⟩ := id hra
  refine ⟨_, (pss_cons (ps_if (pt_cmpR (op_notInO F_R_contains T.sR_contains hr) (pv 1) (pv 0) (by rfl)) pss_never pss_nil)
      (pss_one (ps_ret (pe_dget (hu_of hr) (k_fld K (by rfl) (pv 0)) (pv 1) (fun _ _ => rfl))))), ?_⟩
  have hm := List.mem_of_getElem? hx
  refine ⟨_, rfl, _, rfl, a, dx, _, rfl, h1, a, o, x, rfl, hra, go.2.1 x hm, fun v H1 s1 e => ?_⟩
  subst e
  refine ⟨_, rfl, _, rfl, itF (by rw [decide_eq_true hm]; rfl) ?_⟩
  refine ⟨_, rfl, a, _, dx, _, _, rfl, s1 _ _ h1, T.clsR, T.nR_places, rk_places, _, rfl, d, _, rfl, .inl ⟨_, Sum.inr x, .inr ⟨q, s1 _ _ h3⟩, rfl, (plcs_get o 0 i x go.1 hx).symm⟩, k _ _ s1 ?_⟩
  rw [Nat.zero_add]
theorem ok_R_prefers (T : TX K mg) : Fok P w K mg base 4 (He.ma K (RC K) "prefers") ["self", "one", "other"] (spPrefers K) := by
  have F_R_place := ok_R_place (P := P) (w := w) (base := base) T
  refine fok_mk T.f_R_prefers sc_R_prefers (fun _ _ _ _ _ _ us hl => match us, hl with | [_, _, _], _ => rfl) (fun vs H Q E h => ?_) (fun cdv A outer s H vs Q E hr h => ?_)
  · obtain ⟨a, o, i, j, x, y, rfl, _⟩ := h; rfl
  obtain ⟨a, o, i, j, x, y, rfl, hra, go, hx, hy, k⟩ := h
  obtain ⟨dx, l, d, q, h1, h2, h3⟩ := id hra
  refine ⟨_, (pss_cons (ps_par (i := 3) (j := 4) (by rfl) sc_R_prefers.nd rfl rfl (by decide) rfl rfl (pa_cons (pe_m F_R_place T.clsR T.mR_place (hr.mono (by decide)) (pv 0) (pa_cons (pv 1) pa_nil)) (pa_cons (pe_m F_R_place T.clsR T.mR_place (hr.mono (by decide)) (pv 0) (pa_cons (pv 2) pa_nil)) pa_nil)) (by rfl))
      (pss_one (ps_ret (pe_cmpR op_lt (pv 3) (pv 4) (nomark _))))), ?_⟩
  refine ⟨_, rfl, a, dx, _, rfl, h1, ?_⟩
  refine ⟨by rw [lk_miss (by decide +kernel), lk_miss (by decide +kernel)]; rfl, _, rfl, a, o, i, x, rfl, hra, go, hx, fun v H1 s1 e => ?_⟩
  subst e
  refine ⟨_, rfl, a, dx, _, rfl, s1 _ _ h1, ?_⟩
  refine ⟨by rw [lk_miss (by decide +kernel), lk_miss (by decide +kernel)]; rfl, _, rfl, a, o, j, y, rfl, hra.s s1, go, hy, fun v H2 s2 e => ?_⟩
  subst e
  refine ⟨_, _, rfl, _, rfl, _, rfl, _, _, rfl, rfl, k _ _ (s1.trans s2) ?_⟩
  exact congrArg V.bl (decide_eq_decide.mpr Int.ofNat_lt)
theorem ok_R_worst (T : TX K mg) : Fok P w K mg base 6 (He.ma K (RC K) "worst") ["self", "committee"] (spWorst K) := by
  have F_R_and := ok_R_and (P := P) (w := w) (base := base) T
  have F_R_len := ok_R_len (P := P) (w := w) (base := base) T
  have F_R_getitem := ok_R_getitem (P := P) (w := w) (base := base) T
  refine fok_mk T.f_R_worst sc_R_worst (fun _ _ _ _ _ _ us hl => match us, hl with | [_, _], _ => rfl) (fun vs H Q E h => ?_) (fun cdv A outer s H vs Q E hr h => ?_)
  · obtain ⟨a, b, o, ms, z, rfl, _⟩ := h; rfl
  obtain ⟨a, b, o, ms, z, rfl, hra, hb, go, hz, k⟩ := h
  obtain ⟨dx, l, d, q, h1, h2, h3⟩ := id hra
  obtain ⟨dy, m, g3, g4⟩ := id hb
  refine ⟨_, (pss_cons (ps_set (i := 2) sc_R_worst.nd rfl (Or.inl rfl) (pe_op (op_binO2 F_R_and T.two T.sR_and hr) (pv 0) (pv 1)))
      (pss_one (ps_ret (pe_ifExp (pt_cmpR op_gt (pe_callB (call_lenO F_R_len T.sR_len (hr.mono (by decide))) (by rfl) T.b_len (by decide +kernel) (pa_cons (pv 2) pa_nil)) pe_int (nomark _)) (pe_ixO F_R_getitem T.sR_getitem T.fnR (hr.mono (by decide)) (pv 2) (pe_op op_sub (pe_callB (call_lenO F_R_len T.sR_len (hr.mono (by decide))) (by rfl) T.b_len (by decide +kernel) (pa_cons (pv 2) pa_nil)) pe_int)) pe_non)))), ?_⟩
  refine ⟨_, rfl, _, rfl, a, dx, _, b, dy, _, rfl, rfl, h1, g3, a, b, o, ms, rfl, hra, hb, go, ?_⟩
  rintro v H1 s1 ⟨p, rfl, hp⟩
  have hne : (o.filter fun x => decide (x ∈ ms)) ≠ [] := fun e => by rw [e] at hz; cases hz
  have hlt : (o.filter fun x => decide (x ∈ ms)).length ≤ sizeLine := sz_line (Nat.le_trans (List.length_filter_le _ _) (Nat.le_trans go.2.2 (by decide)))
  generalize (o.filter fun x => decide (x ∈ ms)) = f at hz hp hne hlt
  have hl : 0 < f.length := List.length_pos_iff.mpr hne
  obtain ⟨dp, lp, ddp, qp, e1, e2, e3⟩ := id hp
  have b63 : ((f.length : Nat) : Int) < 2 ^ 63 := by
    have : (sizeLine : Nat) < 2 ^ 63 := line63
    omega
  refine ⟨_, rfl, p, dp, _, rfl, e1, p, f, rfl, hp, f.length, rfl, ⟨by omega, b63⟩, _, 0, rfl, rfl, _, rfl, itT (decide_eq_true (by omega)) ?_⟩
  refine ⟨_, rfl, _, rfl, p, dp, _, rfl, e1, p, f, rfl, hp, f.length, rfl, ⟨by omega, b63⟩, _, 1, rfl, rfl, p, dp, _, rfl, e1, p, f, f.length - 1, z, ?_, hp, ?_, k _ _ s1 rfl⟩
  · have e : ((f.length : Nat) : Int) - 1 = ((f.length - 1 : Nat) : Int) := by omega
    show [V.ref p, V.int (((f.length : Nat) : Int) - 1)] = _
    rw [e]
  · rw [← List.getLast?_eq_getElem?]; exact hz
theorem ok_members_known (T : TX K mg) : Cal P w K mg base 3 "members_known" ["ranking", "committee"] (spKnown K) := by
  have F_C_members := ok_C_members (P := P) (w := w) (base := base) T
  have F_R_contains := ok_R_contains (P := P) (w := w) (base := base) T
  refine cal_mk (fok_mk T.f_members_known sc_members_known (fun _ _ _ _ _ _ us hl => match us, hl with | [_, _], _ => rfl) (fun vs H Q E h => ?_) (fun cdv A outer s H vs Q E hr h => ?_)) T.g_members_known (let ⟨_, F⟩ := T.f_members_known; F.kp)
  · obtain ⟨a, b, o, ms, rfl, _⟩ := h; rfl
  obtain ⟨a, b, o, ms, rfl, hra, hb, nm, hsub, k⟩ := h
  obtain ⟨dx, l, d, q, h1, h2, h3⟩ := id hra
  obtain ⟨dy, m, g3, g4⟩ := id hb
  refine ⟨_, (pss_one (ps_for PassesOwn.never rfl (k_pil K (by rfl) (pe_pr F_C_members T.clsC T.pC_members (hr.mono (by decide)) (pv 1))) (pg_name (i := 2) sc_members_known.nd rfl (Or.inl rfl)) (pss_one (ps_if (pt_cmpR (op_notInO F_R_contains T.sR_contains hr) (pv 2) (pv 0) (by rfl)) pss_never pss_nil)))), ?_⟩
  refine ⟨_, rfl, b, dy, _, rfl, g3, b, ms, rfl, hb, fun z H1 hz s1 e1 => ⟨z, rfl, ⟨_, SqL.of e1⟩, ?_⟩⟩
  refine for_it walk_list (fun i σ H2 => ∃ v : Option V, σ = [some (.ref a), some (.ref b), v] ∧ Same H1 H2) ⟨none, rfl, Same.refl _⟩ (fun i σ H2 _ h => let ⟨_, _, s2⟩ := h; SqL.of (s2 _ _ e1)) ?_ ?_
  · rintro i y σ H2 H3 hi ⟨v, rfl, s2⟩ ⟨rfl, hc⟩
    obtain ⟨x, hx1, rfl⟩ := get_map hc
    have s12 := s1.trans s2
    have hxm := List.mem_of_getElem? hx1
    refine ⟨_, rfl, _, rfl, a, dx, _, rfl, s12 _ _ h1, a, o, x, rfl, hra.s s12, nm x hxm, fun v H4 s4 e => ?_⟩
    subst e
    exact ⟨_, rfl, _, rfl, itF (by rw [decide_eq_true (hsub x hxm)]; rfl) ⟨_, rfl, s2.trans s4⟩⟩
  · rintro σ H2 ⟨v, rfl, s2⟩
    exact k _ (s1.trans s2)
theorem ok_as_committee (T : TX K mg) : Cal P w K mg base 5 "as_committee" ["ranking"] (spAsCom K) := by
  have F_C_init := ok_C_init (P := P) (w := w) (base := base) T
  have F_R_alternatives := ok_R_alternatives (P := P) (w := w) (base := base) T
  refine cal_mk (fok_mk T.f_as_committee sc_as_committee (fun _ _ _ _ _ _ us hl => match us, hl with | [_], _ => rfl) (fun vs H Q E h => ?_) (fun cdv A outer s H vs Q E hr h => ?_)) T.g_as_committee (let ⟨_, F⟩ := T.f_as_committee; F.kp)
  · obtain ⟨a, o, rfl, _⟩ := h; rfl
  obtain ⟨a, o, rfl, hra, go, k⟩ := h
  obtain ⟨dx, l, d, q, h1, h2, h3⟩ := id hra
  refine ⟨_, (pss_one (ps_ret (pe_mk F_C_init T.mkC T.gC (hr.mono (by decide)) (pa_cons (pe_pr F_R_alternatives T.clsR T.pR_alternatives (hr.mono (by decide)) (pv 0)) pa_nil)))), ?_⟩
  refine ⟨_, rfl, a, dx, _, rfl, h1, a, o, rfl, hra, fun z H1 hz s1 e1 x dz nx nd ne => ?_⟩
  refine ⟨x, dz, z, o, rfl, upd_same, ?_, go.2.1, go.2.2, fun H4 hc kp => ⟨rfl, k _ _ (s1.trans (made_same nx nd kp)) ⟨x, rfl, hc⟩⟩⟩
  exact SqL.of (by rw [upd_ne (ne_of_none e1 nx), upd_ne (ne_of_none e1 nd)]; exact e1)
end
end Fl
namespace Fl
open PySem PySem.Spec L2
open PyProof.Rows (StrsAre)
/-! ### sorted(d, key=str) -/
theorem ltCps_lt : ∀ a b : List Nat, ltCps a b = decide (a < b)
  | [], [] => by simp [ltCps]
  | [], _ :: _ => by simp [ltCps]
  | _ :: _, [] => by simp [ltCps]
  | a :: r, b :: t => by
    rw [ltCps, ltCps_lt r t]
    rw [Bool.eq_iff_iff]
    simp [List.cons_lt_cons_iff]
theorem each_length {α β : Type} {R : α → β → Prop} : ∀ {as : List α} {bs : List β}, PySem.W.EachIs R as bs → as.length = bs.length
  | _, _, .nil => rfl
  | _, _, .cons _ t => by simp [each_length t]
theorem vals_each : ∀ {out : List Value} {ys : List Str}, PySem.W.EachIs (fun v (x : Str) => ∃ t, v = Value.str x t) out ys → Vals (sv ys) out
  | _, _, .nil => .nil
  | _, _, .cons r t => .cons r (vals_each t)
theorem each_strs : ∀ {vs : List Value} {ks : List Str}, StrsAre vs ks → PySem.W.EachIs (fun v (x : Str) => ∃ t, v = Value.str x t) vs ks
  | _, _, .nil => .nil
  | _, _, .cons x t h => .cons ⟨t, rfl⟩ (each_strs h)
section
variable {X : Cx} {nm nk : Str} {p pk kp pos : Pos} {d : Expr} {td : TE}
def rSortedK : List V → List V → Hp → VK → Prop := fun xs zs H Q => ∃ (a : Addr) (kvs : List (Key × V)) (ks : List Str), xs = [.ref a] ∧ zs = [.ty "str"] ∧ Rd H a (.dK kvs) ∧ kvs.map (·.1) = ks.map Sum.inr ∧ ks.Nodup ∧ ks.length < 64 ∧
    ∀ p, H p = none → Q (.ref p) (upd H p (.lst (sv (srt ks))))
theorem cr_sortedK (hcalm : X.calm = true) (hu : X.A.units + 64 < cLine) : CallRK X (.builtin "sorted") [Str.ofString "key"] rSortedK := by
  intro pins s σ H xs zs us ws Q I r rz q
  obtain ⟨a, kvs, ks, rfl, rfl, hd, hks, hnd, h64, q⟩ := q
  obtain ⟨u, rfl, rx⟩ := vals1 r
  cases (show u = Value.ref a from rx)
  obtain ⟨u, rfl, rx⟩ := vals1 rz
  cases (show u = Value.type "str" from rx)
  obtain ⟨z, lo, vs, rel, dd⟩ := dk_rd I.hok hd
  obtain ⟨ep, hat⟩ := dd.dictAt
  have hkeys : vs.map (·.1) = ks.map Sum.inr := rel.keys.symm.trans hks
  have hl : vs.length = ks.length := by
    have e := congrArg List.length hkeys
    rw [List.length_map, List.length_map] at e
    exact e
  have h16 : vs.length ≤ sizeLine := by rw [hl, sizeLine_eq]; omega
  refine PyProof.Rows.call_function_entry_kw PyProof.Rows.kind_sorted PyProof.Rows.plain_sorted PyProof.Rows.entry_sorted (PyProof.Rows.ksk_s1 _ _) ?_
  unfold Builtin.«sorted»
  refine wpAny_bind (m := checkCount "sorted" 1 1 _) (wpAny_pure ?_)
  refine wpAny_bind (PySem.W.kdu_collect (A := X.A.in1) (PySem.W.kdl_dict (knd := mixKind X.prog X.w) (kvs := vs) (ep := ep) lo) (I.ok.hd hcalm) hat h16 fun h' tk acc hk hacc => ?_)
  have hal : acc.toList.length = ks.length := by rw [Array.length_toList, hacc.1, hl]
  have hS : StrsAre acc.toList ks := strs_at hal fun j v e => by
    obtain ⟨k, x, e1, e2⟩ := hacc.2 j v (by rw [← Array.getElem?_toList]; exact e)
    have e3 : (vs.map (·.1))[j]? = some k := by rw [List.getElem?_map, e1]; all_goals rfl
    rw [hkeys, List.getElem?_map] at e3
    cases e4 : ks[j]? with
    | none => rw [e4] at e3; cases e3
    | some y =>
      rw [e4] at e3
      have e5 : Sum.inr y = k := Option.some.inj e3
      subst e5
      obtain ⟨t, ev⟩ := Value.isStrOf_shape (x := y) (v := v) e2
      exact ⟨y, t, rfl, ev⟩
  have I1 : Inv X pins σ H { s with heap := h', toks := tk } := I.kept hk
  refine wpAny_bind (wpAny_newList ?_ (by rw [hal, sizeLine_eq]; omega))
  have I2 : Inv X pins σ H { s with heap := h'.push (PyProof.Rows.seqObj "list" acc.toList.toArray 0), toks := tk } := I1.kept (t' := tk) fun b o e => Heap.get?_push_of_some _ e
  have hoL : (h'.push (PyProof.Rows.seqObj "list" acc.toList.toArray 0)).get? h'.objs.size = some (PyProof.Rows.seqObj "list" acc.toList.toArray 0) := Heap.get?_push_size _ rfl
  show wpAny _ _ _ _ _ { s with heap := h'.push (PyProof.Rows.seqObj "list" acc.toList.toArray 0), toks := tk }
  obtain ⟨m, hF⟩ := I2.fr
  have hlL : X.env.locals < h'.objs.size := I1.lt
  have hDb : X.base.get? h'.objs.size = none := Heap.get?_none_of_le (Nat.le_trans I1.ok.bsz I1.sz)
  refine wpAny_bind (wpAny_holding (PySem.W.list_sort_key_data_frame (β := Str) (R := fun v x => ∃ t, v = Value.str x t) (bs := ks) (vs := acc.toList) (b := false) (fun x => PyData.str x) hF (news_at (d := h'.objs.size) (Nat.ne_of_gt hlL) hDb hoL) (fun o => .head rest_ne) (by rw [List.toList_toArray]) (each_strs hS) ?_ ?_ ?_ ?_ (PyProof.Rows.ksk_l1 _ _) rfl ?_ fun out c h2 tk2 F2 N2 ho he => ?_))
  · exact PySem.W.AllAlike.of fun _ _ => by simp [PySem.W.alike]
  · refine .inr fun d hd => ?_
    obtain ⟨b, _, rfl⟩ := List.mem_map.mp hd
    exact ⟨fun z => (by cases z), fun _ z => (by cases z)⟩
  · rw [sizeLine_eq]; omega
  · intro x _
    show X.A.units + 1 + 1 + 0 < cLine
    omega
  · rintro v x ⟨t, rfl⟩ _ h3 tk3 own F3 N3
    exact PySem.P.str_of_str ⟨h3, tk3, [], rfl, PySem.W.KeyIs.str x t, fun p hp => by simp at hp, F3, by rw [List.append_nil]; exact N3⟩
  · have kp := kept_of_news (fun b o e => (I2.bs b o e).1) F2 (fun p hp => N2 p (List.mem_cons_of_mem _ hp))
    have hD : h2.get? h'.objs.size = some (PySem.W.listOf (List.toArray out) c) := (N2 _ List.mem_cons_self).1
    have hnone : H h'.objs.size = none := I1.hok.fresh (Nat.le_refl _)
    have hys : ks.mergeSort (PySem.W.dataLe false fun x => PyData.str x) = srt ks := by
      rw [PySem.W.dataLe_str (fun x : Str => x)]
      have tr : ∀ a b c : Str, decide (a.cps.toList ≤ b.cps.toList) = true → decide (b.cps.toList ≤ c.cps.toList) = true → decide (a.cps.toList ≤ c.cps.toList) = true := fun a b c h1 h2 => decide_eq_true (List.le_trans (of_decide_eq_true h1) (of_decide_eq_true h2))
      have tot : ∀ a b : Str, (decide (a.cps.toList ≤ b.cps.toList) || decide (b.cps.toList ≤ a.cps.toList)) = true := fun a b => by
        rcases List.le_total a.cps.toList b.cps.toList with h | h
        · rw [decide_eq_true h]; rfl
        · rw [decide_eq_true h, Bool.or_true]
      have pw := List.pairwise_mergeSort (le := fun a b : Str => decide (a.cps.toList ≤ b.cps.toList)) tr tot ks
      have pm := List.mergeSort_perm ks (fun a b : Str => decide (a.cps.toList ≤ b.cps.toList))
      refine SS.ext (SS.of_sorted (pw.imp fun {a b} h => ?_) (pm.nodup_iff.mpr hnd)) (srt_SS ks) fun z => by rw [pm.mem_iff, mem_srt]
      show ltCps b.cps.toList a.cps.toList = false
      rw [ltCps_lt, decide_eq_false_iff_not]
      exact List.not_lt.mpr (of_decide_eq_true h)
    rw [hys] at he
    have hlen : (sv (srt ks)).length ≤ sizeLine := by
      rw [List.length_map, srt_length hnd, sizeLine_eq]; omega
    refine wpAny_pure ⟨_, rfl, .ref h'.objs.size, upd H h'.objs.size (.lst (sv (srt ks))), ?_, rfl, q _ hnone⟩
    have nD : ∀ b u, H b = some u → b ≠ h'.objs.size := fun b u e z => by rw [z, hnone] at e; cases e
    have nL : ∀ b u, H b = some u → b ≠ X.env.locals := fun b u e z => by rw [z, I2.free] at e; cases e
    refine I2.step (g' := s.gens) (t' := tk2) (d' := s.drawn) (h' := h2) (ch := [h'.objs.size]) (fun b hb => ?_) (fun b o h1 _ h3 e _ => kp b o h1 (fun z => h3 (by simp [z])) e) (fun b o h1 _ h3 e _ => ⟨o.slots, kp b o h1 (fun z => h3 (by simp [z])) e⟩)
      (fun b o h3 e n => by rw [upd_ne (fun z => h3 (by simp [z]))]; exact n) (fun b o h3 e => ?_) (fun b xs e => by rw [upd_ne (nD b _ e)]; exact e) (fun b o u e => by rw [upd_ne (nD b _ e)]; exact e) (fun b ps e => ⟨#[], by rw [upd_ne (nD b _ e), e]; simp⟩) (fun m' hm => ?_) (fun b u e => ?_) I2.bare
    · obtain rfl : b = h'.objs.size := by simpa using hb
      refine ⟨.inr I1.sz, Nat.ne_of_gt hlL, fun x c e z => ?_, fun p hp z => ?_⟩
      · obtain ⟨v, o, ho, _⟩ := I1.cell x c e
        exact absurd (Heap.lt_size ho) (by rw [z]; exact Nat.lt_irrefl _)
      · exact absurd (Heap.lt_size (I1.pin p hp).1) (by rw [z]; exact Nat.lt_irrefl _)
    · by_cases hbL : b = X.env.locals
      · obtain ⟨o', _, _, ho', _⟩ := F2.ns
        exact ⟨o', by rw [hbL]; exact ho'⟩
      · exact ⟨o, kp b o hbL (fun z => h3 (by simp [z])) e⟩
    · rw [SlX.ns_only hm hF.ns]
      exact F2.ns
    · by_cases hb : b = h'.objs.size
      · subst hb
        rw [upd_same] at e; cases e
        exact ⟨hlen, out, c, vals_each he, hD⟩
      · rw [upd_ne hb] at e
        refine (I2.hok b u e).stay (fun z v hz ez => ?_) (fun z ez => by rw [upd_ne (nD z _ ez)]; exact ez) fun z xs ez => by rw [upd_ne (nD z _ ez)]; exact ez
        rcases hz with rfl | hz
        · exact kp _ _ (nL _ _ e) hb ez
        · exact kp _ _ (nL _ _ hz) (nD _ _ hz) ez
/-- sorted(d, key=str) -/
theorem pe_sortedk (hcalm : X.calm = true) (hu : X.A.units + 64 < cLine) (hm : X.mg "sorted" = none) (hms : X.mg "str" = none) (hd : PE X d td) (hg : Gl X "sorted" := by rfl) (hgs : Gl X "str" := by rfl) (hst : starEach [d] X.env = (false, eval d X.env) :: starEach [] X.env := by rfl)
    (he : backTo pos (starEach [d] X.env) = (false, eval d X.env) :: backTo pos (starEach [] X.env) := by rfl) (hpl : (backTo pos (starEach [d] X.env)).any (·.1) = false := by rfl)
    (hall : (backToKw pos (keywordEach [⟨some "key", .Name "str" pk, kp⟩] X.env)).all (·.1.isSome) = true := by rfl) (hnone : (backToKw pos (keywordEach [⟨some "key", .Name "str" pk, kp⟩] X.env)).any (·.1.isNone) = false := by rfl) (hks : (backToKw pos (keywordEach [⟨some "key", .Name "str" pk, kp⟩] X.env)).filterMap (·.1) = [Str.ofString "key"] := by rfl) :
    PE X (.Call (.Name "sorted" p) [d] [⟨some "key", .Name "str" pk, kp⟩] pos) (tCKw rSortedK (tCons td tNil) (tCons (tC (.ty "str")) tNil)) :=
  pe_callBK (cr_sortedK hcalm hu) hg hm (by decide +kernel) (pa_cons hd pa_nil hst) (pk_cons (pe_bltn (v := .ty "str") hgs hms (by decide +kernel) rfl) pk_nil) (by decide) (by decide) he hpl hall hnone hks
end
end Fl
namespace Fl
open PySem PySem.Spec L2
/-- players with rankings of the same names -/
structure GK (rs : Rks) (A : List Str) : Prop where
  ne : rs ≠ []
  len : rs.length ≤ 30
  nd : (rs.map (·.1)).Nodup
  nm : Nms (rs.map (·.1))
  gr : ∀ q ∈ rs, GR q.2 ∧ srt q.2 = A
theorem GK.gc {rs : Rks} {A : List Str} (g : GK rs A) : GC A := by
  obtain ⟨q, hq⟩ := List.exists_mem_of_ne_nil _ g.ne
  obtain ⟨h1, h2⟩ := g.gr q hq
  rw [← h2]; exact h1.srt
theorem GK.mem {rs : Rks} {A : List Str} (g : GK rs A) {q : Str × List Str} (hq : q ∈ rs) (x : Str) : x ∈ q.2 ↔ x ∈ A := by
  rw [← (g.gr q hq).2, mem_srt]
theorem RksOf.keys {K : PySem.W.Frag} {H : Hp} {rs : Rks} {kvs : List (Key × V)} (h : RksOf K H rs kvs) : kvs.map (·.1) = (rs.map (·.1)).map Sum.inr := by
  refine List.ext_getElem? fun i => ?_
  rw [List.getElem?_map, List.map_map, List.getElem?_map]
  cases e : rs[i]? with
  | none =>
    have : kvs[i]? = none := by
      rw [List.getElem?_eq_none_iff] at e ⊢
      have := h.1; omega
    rw [this]; rfl
  | some q =>
    obtain ⟨a, h1, _⟩ := h.2 i q e
    rw [h1]; rfl
theorem RksOf.at {K : PySem.W.Frag} {H : Hp} {rs : Rks} {kvs : List (Key × V)} (h : RksOf K H rs kvs) {i : Nat} {k : Key} {v : V} (e : kvs[i]? = some (k, v)) : ∃ q a, rs[i]? = some q ∧ k = Sum.inr q.1 ∧ v = .ref a ∧ RkAt K H a q.2 := by
  have hi : i < rs.length := by rw [← h.1]; exact (List.getElem?_eq_some_iff.mp e).1
  obtain ⟨q, hq⟩ := get_lt hi
  obtain ⟨a, h1, h2⟩ := h.2 i q hq
  rw [e] at h1
  have := Option.some.inj h1
  exact ⟨q, a, hq, (Prod.ext_iff.mp this).1, (Prod.ext_iff.mp this).2, h2⟩
theorem valV_at : ∀ {kvs : List (Key × V)} {i : Nat} {k : Key} {v : V}, (kvs.map (·.1)).Nodup → kvs[i]? = some (k, v) → valV kvs k = some v
  | [], i, k, v, _, h => by simp at h
  | (k', v') :: r, 0, k, v, _, h => by
    have e := Option.some.inj (show some (k', v') = some (k, v) from h)
    cases e
    exact valV_pos rfl
  | (k', v') :: r, i + 1, k, v, hn, h => by
    rw [List.map_cons, List.nodup_cons] at hn
    have hr : r[i]? = some (k, v) := h
    have hk : k' ≠ k := fun e => hn.1 (by rw [e]; exact List.mem_map.mpr ⟨(k, v), List.mem_of_getElem? hr, rfl⟩)
    rw [valV_neg hk, valV_at hn.2 hr]
theorem inr_nodup {l : List Str} (h : l.Nodup) : (l.map (Sum.inr : Str → Key)).Nodup := List.Pairwise.map _ (fun a b hab e => hab (Sum.inr.inj e)) h
theorem RksOf.val {K : PySem.W.Frag} {H : Hp} {rs : Rks} {kvs : List (Key × V)} (h : RksOf K H rs kvs) (nd : (rs.map (·.1)).Nodup) {q : Str × List Str} (hq : q ∈ rs) : ∃ a, valV kvs (Sum.inr q.1) = some (.ref a) ∧ RkAt K H a q.2 := by
  obtain ⟨i, hi⟩ := List.mem_iff_getElem?.mp hq
  obtain ⟨a, h1, h2⟩ := h.2 i q hi
  exact ⟨a, valV_at (by rw [h.keys]; exact inr_nodup nd) h1, h2⟩
theorem RksOf.first {K : PySem.W.Frag} {H : Hp} {rs : Rks} {kvs : List (Key × V)} (h : RksOf K H rs kvs) (ne : rs ≠ []) : ∃ q a, q ∈ rs ∧ (kvs.map (·.2))[0]? = some (.ref a) ∧ RkAt K H a q.2 := by
  obtain ⟨q, hq⟩ := get_lt (List.length_pos_iff.mpr ne)
  obtain ⟨a, h1, h2⟩ := h.2 0 q hq
  exact ⟨q, a, List.mem_of_getElem? hq, by rw [List.getElem?_map, h1]; rfl, h2⟩
theorem atN {α : Type} (xs : List α) (i : Nat) : atI xs (i : Int) = xs[i]? := by
  unfold atI ixN
  by_cases h : i < xs.length
  · simp [h]
  · simp [h]
theorem at0 {α : Type} (xs : List α) : atI xs 0 = xs[0]? := atN xs 0
/-- players in the order of rs, by what the dict holds -/
def spTInit (K : PySem.W.Frag) : Sp := fun vs H Q _ => ∃ p dx a o, vs = [.ref p, .ref a] ∧ H p = some (.ins (TC K) dx []) ∧ SqL K H a (sv o) ∧ Nms o ∧ o.length ≤ 30 ∧ ∀ H', (∀ b u, b ≠ p → H b = some u → H' b = some u) → Q .non H'
def spChkR (K : PySem.W.Frag) : Sp := fun vs H Q _ => ∃ r rs A, vs = [.ref r] ∧ RksAt K H r rs ∧ GK rs A ∧ ∀ H', Same H H' → Q .non H'
def spAllOf (K : PySem.W.Frag) : Sp := fun vs H Q _ => ∃ r rs A, vs = [.ref r] ∧ RksAt K H r rs ∧ GK rs A ∧ Ret H Q fun v H' => ∃ p, v = .ref p ∧ ComAt K H' p A
def spPlayers (K : PySem.W.Frag) : Sp := fun vs H Q _ => ∃ r rs A, vs = [.ref r] ∧ RksAt K H r rs ∧ GK rs A ∧ RetL H Q (sv (srt (rs.map (·.1))))
section
variable {P : Program} {w : World} {K : PySem.W.Frag} {mg : Str → Option Value} {base : Heap}
theorem ok_T_init (T : TX K mg) : Fok P w K mg base 3 (He.ma K (TC K) "__init__") ["self", "players"] (spTInit K) := by
  have F_are_names := ok_are_names (P := P) (w := w) (base := base) T
  refine fok_mk T.f_T_init sc_T_init (fun _ _ _ _ _ _ us hl => match us, hl with | [_, _], _ => rfl) (fun vs H Q E h => ?_) (fun cdv A outer s H vs Q E hr h => ?_)
  · obtain ⟨p, dx, a, o, rfl, _⟩ := h; rfl
  obtain ⟨p, dx, a, o, rfl, hp, ha, hx, hn, k⟩ := h
  obtain ⟨_, h_MAX_NAMES, r_MAX_NAMES⟩ := T.c_MAX_NAMES
  refine ⟨_, (pss_cons (ps_if (PW.pt (pw_or (pt_not (pt_val (pe_c F_are_names (hr.mono (by decide)) (pa_cons (pv 1) pa_nil)))) (pw_or1 (pt_cmpR op_gt (pe_callB (k_len K (by rfl)) (by rfl) T.b_len (by decide +kernel) (pa_cons (pv 1) pa_nil)) (pe_glob (by rfl) h_MAX_NAMES r_MAX_NAMES) (nomark _))))) pss_never pss_nil)
      (pss_one (ps_fld (pv 0) (pe_callTy (k_list K (by rfl)) (by rfl) T.b_list (by decide +kernel) (pa_cons (pv 1) pa_nil)) rfl))), ?_⟩
  refine ⟨_, rfl, a, o, rfl, ha, hx, by omega, fun v H1 s1 e => ?_⟩
  subst e
  refine ⟨true, rfl, iteF ?_⟩
  refine ⟨_, rfl, a, _, rfl, .inl ((Sm.of s1).seq ha), _, 30, rfl, rfl, _, rfl, itF (decide_eq_false (by rw [List.length_map]; omega)) ?_⟩
  refine ⟨_, rfl, a, _, rfl, .inl ((Sm.of s1).seq ha), fun l hl => ?_⟩
  have hp2 := s1 _ _ hp
  have nlp : l ≠ p := (ne_of_none hp2 hl).symm
  refine ⟨_, rfl, p, _, dx, _, rfl, by rw [upd_ne nlp.symm]; exact hp2, T.clsT, T.nT_order, by decide, ?_⟩
  exact k _ fun b u hb e => by
    have e' := s1 _ _ e
    rw [upd_ne hb, upd_ne (ne_of_none e' hl)]; exact e'
theorem ok_check_rankings (T : TX K mg) : Cal P w K mg base 6 "check_rankings" ["rankings"] (spChkR K) := by
  have F_is_name := ok_is_name (P := P) (w := w) (base := base) T
  have F_as_committee := ok_as_committee (P := P) (w := w) (base := base) T
  have F_C_eq := ok_C_eq (P := P) (w := w) (base := base) T
  refine cal_mk (fok_mk T.f_check_rankings sc_check_rankings (fun _ _ _ _ _ _ us hl => match us, hl with | [_], _ => rfl) (fun vs H Q E h => ?_) (fun cdv A outer s H vs Q E hr h => ?_)) T.g_check_rankings (let ⟨_, F⟩ := T.f_check_rankings; F.kp)
  · obtain ⟨r, rs, A, rfl, _⟩ := h; rfl
  obtain ⟨r, rs, A, rfl, ⟨kvs, hd, ho⟩, g, k⟩ := h
  refine ⟨_, (pss_cons (ps_if (PW.pt (pw_or (pt_not (pt_val (pe_callB call_isiD (by rfl) T.b_isinstance (by decide +kernel) (pa_cons (pv 0) (pa_cons (pe_bltn (v := .ty "dict") (by rfl) T.b_dict (by decide +kernel) rfl) pa_nil))))) (pw_or1 (pt_cmpR (op_eqD0 hr.units0) (pv 0) pe_dnewK (nomark _))))) pss_never pss_nil)
      (pss_cons (ps_if (pt_not (pt_val (pe_callB (k_all K (by rfl) rfl) (by rfl) T.b_all (by decide +kernel) (pa_cons (pe_lockR (pe_lc (own := [("player", 2), ("ranking", 3)]) (g := gTup K 2 (gCons (gName 2) (gCons (gName 3) gNil))) (tt := tYes) rfl sc_check_rankings.nd (pi_items (pv 0)) (blkOk_by (N := ["rankings", "first", "player", "ranking"]) (sc := defScope s_check_rankings) (by decide +kernel)) (fun _ _ _ _ _ => by exact (k_gtup K (by rfl) rfl (pgs_cons (pg_name (i := 2) sc_check_rankings.nd rfl (Or.inl rfl)) (pgs_cons (pg_name (i := 3) sc_check_rankings.nd rfl (Or.inl rfl)) pgs_nil)))) (fun _ _ _ _ _ => by exact (pts_nil)) (fun _ _ _ _ _ => by exact ((pe_and (pe_c F_is_name (hr.mono (by decide)) (pa_cons (pv 2) pa_nil)) (pe_one (pe_callB (k_isi K (by rfl)) (by rfl) T.b_isinstance (by decide +kernel) (pa_cons (pv 3) (pa_cons (pe_glob (v := .ref _) (by rfl) T.gR rfl) pa_nil))))))))) pa_nil)))) pss_never pss_nil)
      (pss_cons (ps_set (i := 1) sc_check_rankings.nd rfl (Or.inr rfl) (pe_ix (k_ixL K (by rfl)) (pe_lvals rfl T.b_list (pv 0)) pe_int (fun _ _ => rfl)))
      (pss_one (ps_if (pt_not (pt_val (pe_callB (k_all K (by rfl) rfl) (by rfl) T.b_all (by decide +kernel) (pa_cons (pe_lockR (pe_lc (own := [("ranking", 3)]) (g := gName 3) (tt := tYes) rfl sc_check_rankings.nd (pi_values (pv 0)) (blkOk_by (N := ["rankings", "first", "player", "ranking"]) (sc := defScope s_check_rankings) (by decide +kernel)) (fun _ _ _ _ _ => by exact (pg_name (i := 3) sc_check_rankings.nd rfl (Or.inl rfl))) (fun _ _ _ _ _ => by exact (pts_nil)) (fun _ _ _ _ _ => by exact ((pe_cmpR (op_eqO F_C_eq T.sC_eq (hr.mono (by decide))) (pe_c F_as_committee (hr.mono (by decide)) (pa_cons (pv 3) pa_nil)) (pe_c F_as_committee (hr.mono (by decide)) (pa_cons (pv 1) pa_nil)) (nomark _)))))) pa_nil)))) pss_never pss_nil))))), ?_⟩
  have hne : kvs ≠ [] := fun e => g.ne (List.length_eq_zero_iff.mp (by rw [← ho.1, e]; rfl))
  have hlen : kvs.length ≤ 1000 := by rw [ho.1]; exact Nat.le_trans g.len (by decide)
  refine ⟨_, rfl, r, kvs, rfl, hd, true, rfl, iteF ?_⟩
  refine ⟨_, rfl, fun p hp => ⟨_, _, kvs, rfl, rfl, Rd.s hd (same_new hp _), .inl upd_same, hne, _, rfl, itF rfl ?_⟩⟩
  have s0 := same_new hp (.dK [])
  generalize upd H p (.dK []) = H0 at s0
  refine ⟨r, kvs, Rd.s hd s0, fun H1 o md1 h1 e1 => ?_⟩
  have ho1 : RksOf K H1 rs kvs := (ho.md (.of s0)).md md1
  refine ⟨_, rfl, r, o, kvs, rfl, h1, lc_g walk_items (fun i acc _ => acc = (List.replicate i true).map V.bl) hlen (fun H s => s _ _ h1) (fun _ _ => rfl) (fun _ _ _ _ q _ => q) (fun i acc _ e => by rw [e, List.length_map, List.length_replicate]; exact Nat.le_refl _) ?_ ?_⟩
  · rintro i acc y H2 H3 Qy Qn hi s2 rfl ⟨t, x1, x2, rfl, ht, rfl, f1, f2⟩ ky kn
    obtain ⟨⟨k0, v0⟩, hkv⟩ := get_lt hi
    dsimp only at f1 f2
    rw [hkv] at f1 f2
    obtain ⟨q, a, hq, rfl, rfl, hra⟩ := (ho1.md (.of s2)).at hkv
    cases f1; cases f2
    have hqm := List.mem_of_getElem? hq
    have s3 := same_new ht (.tup [.str q.1, .ref a])
    refine ⟨t, _, rfl, .inl (.inl upd_same), rfl, _, _, rfl, _, [], rfl, rfl, rfl, ?_⟩
    refine ⟨_, rfl, q.1, rfl, g.nm _ (List.mem_map.mpr ⟨q, hqm, rfl⟩), fun v H4 s4 e => ?_⟩
    subst e
    obtain ⟨dx, l, d', oq, z1, z2, z3⟩ := ((hra.s s3).s s4)
    refine ⟨true, rfl, iteT ?_⟩
    refine ⟨_, rfl, _, _, _, .ref (RC K), true, rfl, .own _, tyx_ins z1 T.clsR T.iR, T.kitR, ?_⟩
    exact ky _ _ (s3.trans s4) (by rw [List.replicate_succ', List.map_append]; rfl)
  · intro D acc H2 hD s2 hacc q
    subst q
    refine ⟨s2 _ _ h1, fun H3 e3 e4 => ?_⟩
    have s3 : Same H0 H3 := lk_same e1 s2 e3 e4
    have hD3 := lk_new h1 s2 e4 hacc rfl
    have s03 := s0.trans s3
    refine ⟨D, _, rfl, SqL.of hD3, true, by rw [all_rep], iteF ?_⟩
    have ho3 := ho.md (.of s03)
    obtain ⟨q, a, hq, h0, hra⟩ := ho3.first g.ne
    refine ⟨_, rfl, r, kvs, rfl, Rd.s hd s03, fun l hl => ?_⟩
    have s4 := same_new hl (.lst (kvs.map (·.2)))
    refine ⟨l, _, 0, _, rfl, rfl, SqL.of upd_same, (at0 _).trans h0, ?_⟩
    have s34 := s03.trans s4
    generalize upd H3 l (.lst (kvs.map (·.2))) = H5 at s4 s34
    have hra5 := hra.s s4
    refine ⟨r, kvs, Rd.s hd s34, fun H6 o6 md6 h6 e6 => ?_⟩
    have ho6 : RksOf K H6 rs kvs := (ho.md (.of s34)).md md6
    have hra6 := hra5.md md6
    refine ⟨_, rfl, r, o6, kvs, rfl, h6, lc_g walk_values (fun i acc _ => acc = (List.replicate i true).map V.bl) hlen (fun H s => s _ _ h6) (fun _ _ => rfl) (fun _ _ _ _ q _ => q) (fun i acc _ e => by rw [e, List.length_map, List.length_replicate]; exact Nat.le_refl _) ?_ ?_⟩
    · rintro i acc y H7 H8 Qy Qn hi s7 rfl ⟨rfl, k0, hkv⟩ ky kn
      obtain ⟨q', a', hq', rfl, rfl, hra'⟩ := (ho6.md (.of s7)).at hkv
      have hqm := List.mem_of_getElem? hq'
      refine ⟨rfl, ?_⟩
      refine ⟨_, rfl, a', q'.2, rfl, hra', (g.gr q' hqm).1, fun v H9 s9 ⟨c1, ev, hc1⟩ => ?_⟩
      subst ev
      refine ⟨_, rfl, a, q.2, rfl, (hra6.s s7).s s9, (g.gr q hq).1, fun v H10 s10 ⟨c2, ev, hc2⟩ => ?_⟩
      subst ev
      obtain ⟨dx1, l1, y1, y2⟩ := id (hc1.s s10)
      obtain ⟨dx2, l2, z1, z2⟩ := id hc2
      refine ⟨c1, dx1, _, c2, dx2, _, rfl, rfl, y1, z1, c1, c2, _, _, rfl, hc1.s s10, hc2, (g.gr q' hqm).1.srt.2.1, (g.gr q hq).1.srt.2.1, ky _ _ (s9.trans s10) ?_⟩
      rw [(g.gr q' hqm).2, (g.gr q hq).2, decide_eq_true rfl, List.replicate_succ', List.map_append]; rfl
    · intro D2 acc H7 hD2 s7 hacc2 e
      subst e
      refine ⟨s7 _ _ h6, fun H8 e8 e9 => ?_⟩
      have s8 : Same H5 H8 := lk_same e6 s7 e8 e9
      have hD8 := lk_new h6 s7 e9 hacc2 rfl
      refine ⟨D2, _, rfl, SqL.of hD8, true, by rw [all_rep], iteF (k _ (s34.trans s8))⟩
theorem ok_all_of (T : TX K mg) : Cal P w K mg base 6 "all_of" ["rankings"] (spAllOf K) := by
  have F_as_committee := ok_as_committee (P := P) (w := w) (base := base) T
  refine cal_mk (fok_mk T.f_all_of sc_all_of (fun _ _ _ _ _ _ us hl => match us, hl with | [_], _ => rfl) (fun vs H Q E h => ?_) (fun cdv A outer s H vs Q E hr h => ?_)) T.g_all_of (let ⟨_, F⟩ := T.f_all_of; F.kp)
  · obtain ⟨r, rs, A, rfl, _⟩ := h; rfl
  obtain ⟨r, rs, A, rfl, ⟨kvs, hd, ho⟩, g, k⟩ := h
  refine ⟨_, (pss_one (ps_ret (pe_c F_as_committee (hr.mono (by decide)) (pa_cons (pe_ix (k_ixL K (by rfl)) (pe_lvals rfl T.b_list (pv 0)) pe_int (fun _ _ => rfl)) pa_nil)))), ?_⟩
  obtain ⟨q, a, hq, h0, hra⟩ := ho.first g.ne
  refine ⟨_, rfl, r, kvs, rfl, hd, fun l hl => ?_⟩
  have s4 := same_new hl (.lst (kvs.map (·.2)))
  refine ⟨l, _, 0, _, rfl, rfl, SqL.of upd_same, (at0 _).trans h0, a, q.2, rfl, hra.s s4, (g.gr q hq).1, fun v H5 s5 ⟨c, ev, hc⟩ => ?_⟩
  exact k _ _ (s4.trans s5) ⟨c, ev, by rw [← (g.gr q hq).2]; exact hc⟩
theorem ok_players_of (T : TX K mg) : Cal P w K mg base 1 "players_of" ["rankings"] (spPlayers K) := by
  refine cal_mk (fok_mk T.f_players_of sc_players_of (fun _ _ _ _ _ _ us hl => match us, hl with | [_], _ => rfl) (fun vs H Q E h => ?_) (fun cdv A outer s H vs Q E hr h => ?_)) T.g_players_of (let ⟨_, F⟩ := T.f_players_of; F.kp)
  · obtain ⟨r, rs, A, rfl, _⟩ := h; rfl
  obtain ⟨r, rs, A, rfl, ⟨kvs, hd, ho⟩, g, k⟩ := h
  refine ⟨_, (pss_one (ps_ret (pe_sortedk rfl hr.units T.b_sorted T.b_str (pv 0)))), ?_⟩
  refine ⟨_, rfl, r, kvs, _, rfl, rfl, hd, ho.keys, g.nd, by rw [List.length_map]; have := g.len; omega, fun p hp => k p _ hp (same_new hp _) upd_same⟩
end
end Fl
namespace Fl
open PySem PySem.Spec L2
section
variable {X : Cx}
theorem call_lenR : CallR X (.builtin "len") (fun xs H Q => ∃ a kvs, xs = [V.ref a] ∧ Rd H a (.dK kvs) ∧ Q (.int kvs.length) H) := by
  intro pins s σ H xs us Q I r h
  obtain ⟨a, kvs, rfl, ha, q⟩ := h
  obtain ⟨u, rfl, ru⟩ := vals1 r
  cases ru
  exact d_len I ha fun t s' I' => ⟨.int kvs.length, H, I', ⟨t, rfl⟩, q⟩
end
/-- counts for the players -/
structure CK (rs : Rks) (cs : Cts) : Prop where
  len : cs.length = rs.length
  nd : (cs.map (·.1)).Nodup
  sub : ∀ q ∈ cs, q.1 ∈ rs.map (·.1)
  rng : ∀ q ∈ cs, 0 ≤ q.2 ∧ q.2 ≤ 5000
def total (cs : Cts) : Int := (cs.map (·.2)).sum
def CtsAt (H : Hp) (n : Addr) (cs : Cts) : Prop := Rd H n (.dK (ctK cs))
def below (o : List Str) (x : Str) (ms : List Str) : Bool := ms.all fun m => decide (o.idxOf m < o.idxOf x)
def rkOf (rs : Rks) (pl : Str) : List Str := (rs.lookup pl).getD []
def strikers (rs : Rks) (ms : List Str) (x : Str) : List Str := (srt (rs.map (·.1))).filter fun pl => below (rkOf rs pl) x ms
theorem ctK_length (cs : Cts) : (ctK cs).length = cs.length := List.length_map _
theorem ctK_get {cs : Cts} {i : Nat} {k : Key} {v : V} (h : (ctK cs)[i]? = some (k, v)) : ∃ q, cs[i]? = some q ∧ k = Sum.inr q.1 ∧ v = .int q.2 := by
  obtain ⟨q, hq, e⟩ := get_map h
  cases e
  exact ⟨q, hq, rfl, rfl⟩
theorem rkOf_mem {rs : Rks} (nd : (rs.map (·.1)).Nodup) {q : Str × List Str} (hq : q ∈ rs) : rkOf rs q.1 = q.2 := by
  unfold rkOf
  induction rs with
  | nil => simp at hq
  | cons p r ih =>
    rw [List.map_cons, List.nodup_cons] at nd
    rw [List.lookup_cons]
    rcases List.mem_cons.mp hq with rfl | hq
    · simp
    · have : (q.1 == p.1) = false := by
        rw [beq_eq_false_iff_ne]
        intro e
        exact nd.1 (by rw [← e]; exact List.mem_map.mpr ⟨q, hq, rfl⟩)
      rw [this]; exact ih nd.2 hq
theorem get_idx {o : List Str} {x : Str} (h : x ∈ o) : o[o.idxOf x]? = some x := by
  have hl := List.idxOf_lt_length_iff.mpr h
  rw [List.getElem?_eq_getElem hl]
  exact congrArg some (List.getElem_idxOf hl)
theorem rd_inj {H : Hp} {a : Addr} {k1 k2 : List (Key × V)} (h1 : Rd H a (.dK k1)) (h2 : Rd H a (.dK k2)) : k1 = k2 := by
  rcases h1 with h1 | ⟨o, h1⟩ <;> rcases h2 with h2 | ⟨o2, h2⟩ <;> (rw [h1] at h2; cases h2) <;> rfl
theorem dict_ne {K : PySem.W.Frag} {H : Hp} {rs : Rks} {kvs : List (Key × V)} {cs : Cts} {r n : Addr} (ne : rs ≠ []) (ho : RksOf K H rs kvs) (h1 : Rd H r (.dK kvs)) (h2 : CtsAt H n cs) : r ≠ n := fun e => by
  subst e
  have e := rd_inj h1 h2
  obtain ⟨q, a, _, h0, _⟩ := ho.first ne
  rw [e, ctK, List.map_map, List.getElem?_map] at h0
  cases hc : cs[0]? with
  | none => rw [hc] at h0; cases h0
  | some p => rw [hc] at h0; cases h0
def spChkC (K : PySem.W.Frag) : Sp := fun vs H Q _ => ∃ r c rs A ms, vs = [.ref r, .ref c] ∧ RksAt K H r rs ∧ GK rs A ∧ ComAt K H c ms ∧ GC ms ∧ (∀ x ∈ ms, x ∈ A) ∧ ∀ H', Same H H' → Q .non H'
def spChkN (K : PySem.W.Frag) : Sp := fun vs H Q _ => ∃ r n rs A cs, ∃ lo hi : Int, vs = [.ref r, .ref n, .int lo, .int hi] ∧ RksAt K H r rs ∧ GK rs A ∧ CtsAt H n cs ∧ CK rs cs ∧ lo ≤ total cs ∧ total cs ≤ hi ∧ ∀ H', Same H H' → Q .non H'
def spChkAll (K : PySem.W.Frag) : Sp := fun vs H Q _ => ∃ r n c rs A cs ms, vs = [.ref r, .ref n, .ref c] ∧ RksAt K H r rs ∧ GK rs A ∧ CtsAt H n cs ∧ CK rs cs ∧ ComAt K H c ms ∧ GC ms ∧ (∀ x ∈ ms, x ∈ A) ∧
  total cs = ((A.filter fun x => !decide (x ∈ ms)).length : Nat) ∧ Ret H Q fun v H' => ∃ p, v = .ref p ∧ ComAt K H' p (A.filter fun x => !decide (x ∈ ms))
def spBelow (K : PySem.W.Frag) : Sp := fun vs H Q _ => ∃ a x c o ms, vs = [.ref a, .str x, .ref c] ∧ RkAt K H a o ∧ GR o ∧ ComAt K H c ms ∧ ms.length ≤ 30 ∧ x ∈ o ∧ (∀ m ∈ ms, m ∈ o) ∧ Ret H Q fun v _ => v = .bl (below o x ms)
def spStrik (K : PySem.W.Frag) : Sp := fun vs H Q _ => ∃ r c x rs A ms, vs = [.ref r, .ref c, .str x] ∧ RksAt K H r rs ∧ GK rs A ∧ ComAt K H c ms ∧ ms.length ≤ 30 ∧ x ∈ A ∧ (∀ m ∈ ms, m ∈ A) ∧ RetL H Q (sv (strikers rs ms x))
section
variable {P : Program} {w : World} {K : PySem.W.Frag} {mg : Str → Option Value} {base : Heap}
theorem ok_check_committee (T : TX K mg) : Cal P w K mg base 7 "check_committee" ["rankings", "committee"] (spChkC K) := by
  have F_check_rankings := ok_check_rankings (P := P) (w := w) (base := base) T
  have F_members_known := ok_members_known (P := P) (w := w) (base := base) T
  refine cal_mk (fok_mk T.f_check_committee sc_check_committee (fun _ _ _ _ _ _ us hl => match us, hl with | [_, _], _ => rfl) (fun vs H Q E h => ?_) (fun cdv A outer s H vs Q E hr h => ?_)) T.g_check_committee (let ⟨_, F⟩ := T.f_check_committee; F.kp)
  · obtain ⟨r, c, rs, A, ms, rfl, _⟩ := h; rfl
  obtain ⟨r, c, rs, A, ms, rfl, hR, g, hC, gm, hsub, k⟩ := h
  refine ⟨_, (pss_cons (ps_expr (pe_c F_check_rankings (hr.mono (by decide)) (pa_cons (pv 0) pa_nil)))
      (pss_one (ps_expr (pe_c F_members_known (hr.mono (by decide)) (pa_cons (pe_ix (k_ixL K (by rfl)) (pe_lvals rfl T.b_list (pv 0)) pe_int (fun _ _ => rfl)) (pa_cons (pv 1) pa_nil)))))), ?_⟩
  refine ⟨_, rfl, r, rs, A, rfl, hR, g, fun H1 s1 => ?_⟩
  obtain ⟨kvs, hd, ho⟩ := hR.s s1
  obtain ⟨q, a, hq, h0, hra⟩ := ho.first g.ne
  refine ⟨_, rfl, r, kvs, rfl, hd, fun l hl => ?_⟩
  have s2 := same_new hl (.lst (kvs.map (·.2)))
  refine ⟨l, _, 0, _, rfl, rfl, SqL.of upd_same, (at0 _).trans h0, _, rfl, a, c, q.2, ms, rfl, hra.s s2, (hC.s s1).s s2, gm.2.1, fun x hx => (g.mem hq x).mpr (hsub x hx), fun H3 s3 => k _ ((s1.trans s2).trans s3)⟩
theorem ok_check_counts (T : TX K mg) : Cal P w K mg base 2 "check_counts" ["rankings", "counts", "least", "most"] (spChkN K) := by
  have F_is_name := ok_is_name (P := P) (w := w) (base := base) T
  have F_is_number := ok_is_number (P := P) (w := w) (base := base) T
  refine cal_mk (fok_mk T.f_check_counts sc_check_counts (fun _ _ _ _ _ _ us hl => match us, hl with | [_, _, _, _], _ => rfl) (fun vs H Q E h => ?_) (fun cdv A outer s H vs Q E hr h => ?_)) T.g_check_counts (let ⟨_, F⟩ := T.f_check_counts; F.kp)
  · obtain ⟨r, n, rs, A, cs, lo, hi, rfl, _⟩ := h; rfl
  obtain ⟨r, n, rs, A, cs, lo, hi, rfl, ⟨kvs, hd, ho⟩, g, hN, ck, hlo, hhi, k⟩ := h
  obtain ⟨_, h_MAX_LISTED, r_MAX_LISTED⟩ := T.c_MAX_LISTED
  refine ⟨_, (pss_cons (ps_if (PW.pt (pw_or (pt_not (pt_val (pe_callB call_isiD (by rfl) T.b_isinstance (by decide +kernel) (pa_cons (pv 1) (pa_cons (pe_bltn (v := .ty "dict") (by rfl) T.b_dict (by decide +kernel) rfl) pa_nil))))) (pw_or1 (pt_cmpR op_ne (pe_callB call_lenR (by rfl) T.b_len (by decide +kernel) (pa_cons (pv 1) pa_nil)) (pe_callB call_lenR (by rfl) T.b_len (by decide +kernel) (pa_cons (pv 0) pa_nil)) (nomark _))))) pss_never pss_nil)
      (pss_cons (ps_if (pt_not (pt_val (pe_callB (k_all K (by rfl) rfl) (by rfl) T.b_all (by decide +kernel) (pa_cons (pe_lockR (pe_lc (own := [("player", 4)]) (g := gName 4) (tt := tYes) rfl sc_check_counts.nd (pi_keys (pv 1)) (blkOk_by (N := ["rankings", "counts", "least", "most", "player", "count"]) (sc := defScope s_check_counts) (by decide +kernel)) (fun _ _ _ _ _ => by exact (pg_name (i := 4) sc_check_counts.nd rfl (Or.inl rfl))) (fun _ _ _ _ _ => by exact (pts_nil)) (fun _ _ _ _ _ => by exact ((pe_and (pe_c F_is_name (hr.mono (by decide)) (pa_cons (pv 4) pa_nil)) (pe_one (pe_cmp (pc_din (hu_of hr) (pv 4) (pv 0)) (by rfl)))))))) pa_nil)))) pss_never pss_nil)
      (pss_cons (ps_if (pt_not (pt_val (pe_callB (k_all K (by rfl) rfl) (by rfl) T.b_all (by decide +kernel) (pa_cons (pe_lockR (pe_lc (own := [("count", 5)]) (g := gName 5) (tt := tYes) rfl sc_check_counts.nd (pi_values (pv 1)) (blkOk_by (N := ["rankings", "counts", "least", "most", "player", "count"]) (sc := defScope s_check_counts) (by decide +kernel)) (fun _ _ _ _ _ => by exact (pg_name (i := 5) sc_check_counts.nd rfl (Or.inl rfl))) (fun _ _ _ _ _ => by exact (pts_nil)) (fun _ _ _ _ _ => by exact ((pe_c F_is_number (hr.mono (by decide)) (pa_cons (pv 5) (pa_cons pe_int (pa_cons (pe_glob (by rfl) h_MAX_LISTED r_MAX_LISTED) pa_nil)))))))) pa_nil)))) pss_never pss_nil)
      (pss_one (ps_if (pt_not (pt_chain op_le op_le (pv 2) (pe_callB (k_sum K (by rfl) rfl) (by rfl) T.b_sum (by decide +kernel) (pa_cons (pe_lvals rfl T.b_list (pv 1)) pa_nil)) (pv 3))) pss_never pss_nil))))), ?_⟩
  have hlr : kvs.length ≤ 30 := by rw [ho.1]; exact g.len
  have hln : (ctK cs).length ≤ 1000 := by rw [ctK_length, ck.len]; have := g.len; omega
  refine ⟨_, rfl, n, _, rfl, hN, true, rfl, iteF ?_⟩
  refine ⟨_, rfl, n, _, rfl, hN, _, rfl, r, _, rfl, hd, by simp [scal], _, rfl, itF (by rw [ctK_length, ck.len, ho.1]; simp) ?_⟩
  refine ⟨n, _, hN, fun H1 o md1 h1 e1 => ?_⟩
  have hd1 : Rd H1 r (.dK kvs) := by
    by_cases z : r = n
    · exact absurd z (dict_ne g.ne ho hd hN)
    · rcases hd with e | ⟨o', e⟩
      · exact .inl (by rw [e1 r z]; exact e)
      · exact .inr ⟨o', by rw [e1 r z]; exact e⟩
  refine ⟨_, rfl, n, o, rfl, .inl ⟨_, h1, lc_g walk_keys (fun i acc _ => acc = (List.replicate i true).map V.bl) hln (fun H s => s _ _ h1) (fun _ _ => rfl) (fun _ _ _ _ q _ => q) (fun i acc _ e => by rw [e, List.length_map, List.length_replicate]; exact Nat.le_refl _) ?_ ?_⟩⟩
  · rintro i acc y H2 H3 Qy Qn hi s2 rfl ⟨rfl, k0, v0, hkv, rfl⟩ ky kn
    obtain ⟨q, hq, rfl, rfl⟩ := ctK_get hkv
    have hqm := List.mem_of_getElem? hq
    have hqs := ck.sub q hqm
    refine ⟨rfl, _, rfl, q.1, rfl, g.nm _ hqs, fun v H4 s4 e => ?_⟩
    subst e
    obtain ⟨q', hq', e'⟩ := List.mem_map.mp hqs
    obtain ⟨a, hv, _⟩ := ho.val g.nd hq'
    refine ⟨true, rfl, iteT ?_⟩
    refine ⟨_, rfl, _, rfl, r, _, rfl, .inl ⟨kvs, Sum.inr q.1, Rd.s (Rd.s hd1 s2) s4, rfl, rfl⟩, ?_⟩
    rw [← e', hv]
    exact ky _ _ s4 (by rw [List.replicate_succ', List.map_append]; rfl)
  · intro D acc H2 hD s2 hacc e
    subst e
    refine ⟨s2 _ _ h1, fun H3 e3 e4 => ?_⟩
    have s3 : Same H H3 := lk_same e1 s2 e3 e4
    have hD3 := lk_new h1 s2 e4 hacc rfl
    refine ⟨D, _, rfl, SqL.of hD3, true, by rw [all_rep], iteF ?_⟩
    refine ⟨n, _, Rd.s hN s3, fun H4 o4 md4 h4 e5 => ?_⟩
    refine ⟨_, rfl, n, o4, _, rfl, h4, lc_g walk_values (fun i acc _ => acc = (List.replicate i true).map V.bl) hln (fun H s => s _ _ h4) (fun _ _ => rfl) (fun _ _ _ _ q _ => q) (fun i acc _ e => by rw [e, List.length_map, List.length_replicate]; exact Nat.le_refl _) ?_ ?_⟩
    · rintro i acc y H5 H6 Qy Qn hi s5 rfl ⟨rfl, k0, hkv⟩ ky kn
      obtain ⟨q, hq, rfl, rfl⟩ := ctK_get hkv
      obtain ⟨r1, r2⟩ := ck.rng q (List.mem_of_getElem? hq)
      exact ⟨rfl, _, rfl, q.2, 0, 5000, rfl, r1, r2, ky _ _ (Same.refl _) (by rw [List.replicate_succ', List.map_append]; rfl)⟩
    · intro D2 acc H5 hD2 s5 hacc2 e
      subst e
      refine ⟨s5 _ _ h4, fun H6 e6 e7 => ?_⟩
      have s6 : Same H3 H6 := lk_same e5 s5 e6 e7
      have s36 := s3.trans s6
      refine ⟨D2, _, rfl, SqL.of (lk_new h4 s5 e7 hacc2 rfl), true, by rw [all_rep], iteF ?_⟩
      refine ⟨_, rfl, _, rfl, n, _, rfl, Rd.s hN s36, fun l hl => ?_⟩
      refine ⟨l, cs.map (·.2), rfl, .inl (.inl ?_), ?_⟩
      · rw [upd_same, List.map_map, ctK, List.map_map]; rfl
      · exact ⟨lo, _, rfl, rfl, true, congrArg V.bl (decide_eq_true hlo), _, rfl, _, hi, rfl, rfl, true, congrArg V.bl (decide_eq_true hhi), iteF (k _ (s36.trans (same_new hl _)))⟩
theorem ok_check_all (T : TX K mg) : Cal P w K mg base 8 "check_all" ["rankings", "counts", "committee"] (spChkAll K) := by
  have F_check_committee := ok_check_committee (P := P) (w := w) (base := base) T
  have F_check_counts := ok_check_counts (P := P) (w := w) (base := base) T
  have F_all_of := ok_all_of (P := P) (w := w) (base := base) T
  have F_C_sub := ok_C_sub (P := P) (w := w) (base := base) T
  have F_C_len := ok_C_len (P := P) (w := w) (base := base) T
  refine cal_mk (fok_mk T.f_check_all sc_check_all (fun _ _ _ _ _ _ us hl => match us, hl with | [_, _, _], _ => rfl) (fun vs H Q E h => ?_) (fun cdv A outer s H vs Q E hr h => ?_)) T.g_check_all (let ⟨_, F⟩ := T.f_check_all; F.kp)
  · obtain ⟨r, n, c, rs, A, cs, ms, rfl, _⟩ := h; rfl
  obtain ⟨r, n, c, rs, A, cs, ms, rfl, hR, g, hN, ck, hC, gm, hsub, htot, k⟩ := h
  refine ⟨_, (pss_cons (ps_expr (pe_c F_check_committee (hr.mono (by decide)) (pa_cons (pv 0) (pa_cons (pv 2) pa_nil))))
      (pss_cons (ps_set (i := 3) sc_check_all.nd rfl (Or.inl rfl) (pe_op (op_binO F_C_sub T.sfC T.sC_sub (hr.mono (by decide))) (pe_c F_all_of (hr.mono (by decide)) (pa_cons (pv 0) pa_nil)) (pv 2)))
      (pss_cons (ps_expr (pe_c F_check_counts (hr.mono (by decide)) (pa_cons (pv 0) (pa_cons (pv 1) (pa_cons (pe_callB (call_lenO F_C_len T.sC_len (hr.mono (by decide))) (by rfl) T.b_len (by decide +kernel) (pa_cons (pv 3) pa_nil)) (pa_cons (pe_callB (call_lenO F_C_len T.sC_len (hr.mono (by decide))) (by rfl) T.b_len (by decide +kernel) (pa_cons (pv 3) pa_nil)) pa_nil))))))
      (pss_one (ps_ret (pv 3)))))), ?_⟩
  refine ⟨_, rfl, _, rfl, r, c, rs, A, ms, rfl, hR, g, hC, gm, hsub, fun H1 s1 => ?_⟩
  refine ⟨_, rfl, r, rs, A, rfl, hR.s s1, g, fun v H2 s2 ⟨p, ev, hp⟩ => ?_⟩
  subst ev
  have hC2 := (hC.s s1).s s2
  obtain ⟨dx, l, y1, y2⟩ := id hp
  obtain ⟨dy, l2, z1, z2⟩ := id hC2
  refine ⟨_, rfl, p, dx, _, c, dy, _, rfl, rfl, y1, z1, p, c, A, ms, rfl, hp, hC2, g.gc, fun v H3 s3 ⟨p3, ev, hp3⟩ => ?_⟩
  subst ev
  have s13 := (s1.trans s2).trans s3
  obtain ⟨dx3, l3, x1, x2⟩ := id hp3
  have hlen : (A.filter fun x => !decide (x ∈ ms)).length ≤ 30 := Nat.le_trans (List.length_filter_le _ _) g.gc.2.2
  have b63 : (0 : Int) ≤ ((A.filter fun x => !decide (x ∈ ms)).length : Nat) ∧ (((A.filter fun x => !decide (x ∈ ms)).length : Nat) : Int) < 2 ^ 63 := by constructor <;> omega
  refine ⟨_, rfl, _, rfl, _, rfl, p3, dx3, _, rfl, x1, p3, _, rfl, hp3, _, rfl, b63, _, rfl, p3, dx3, _, rfl, x1, p3, _, rfl, hp3, _, rfl, b63, ?_⟩
  refine ⟨r, n, rs, A, cs, _, _, rfl, hR.s s13, g, Rd.s hN s13, ck, Int.le_of_eq htot.symm, Int.le_of_eq htot, fun H4 s4 => ?_⟩
  exact ⟨_, rfl, k _ _ (s13.trans s4) ⟨p3, rfl, hp3.s s4⟩⟩
theorem ok_is_below (T : TX K mg) : Cal P w K mg base 5 "is_below" ["ranking", "name", "committee"] (spBelow K) := by
  have F_R_prefers := ok_R_prefers (P := P) (w := w) (base := base) T
  have F_C_members := ok_C_members (P := P) (w := w) (base := base) T
  refine cal_mk (fok_mk T.f_is_below sc_is_below (fun _ _ _ _ _ _ us hl => match us, hl with | [_, _, _], _ => rfl) (fun vs H Q E h => ?_) (fun cdv A outer s H vs Q E hr h => ?_)) T.g_is_below (let ⟨_, F⟩ := T.f_is_below; F.kp)
  · obtain ⟨a, x, c, o, ms, rfl, _⟩ := h; rfl
  obtain ⟨a, x, c, o, ms, rfl, hra, go, hC, hlen, hx, hsub, k⟩ := h
  refine ⟨_, (pss_one (ps_ret (pe_callB (k_all K (by rfl) rfl) (by rfl) T.b_all (by decide +kernel) (pa_cons (pe_lc (own := [("member", 3)]) (g := gName 3) (tt := tYes) rfl sc_is_below.nd (k_pil K (by rfl) (pe_pr F_C_members T.clsC T.pC_members (hr.mono (by decide)) (pv 2))) (blkOk_by (N := ["ranking", "name", "committee", "member"]) (sc := defScope s_is_below) (by decide +kernel)) (fun _ _ _ _ _ => by exact (pg_name (i := 3) sc_is_below.nd rfl (Or.inl rfl))) (fun _ _ _ _ _ => by exact (pts_nil)) (fun _ _ _ _ _ => by exact ((pe_m F_R_prefers T.clsR T.mR_prefers (hr.mono (by decide)) (pv 0) (pa_cons (pv 3) (pa_cons (pv 1) pa_nil)))))) pa_nil)))), ?_⟩
  obtain ⟨dx, l, d, q, h1, h2, h3⟩ := id hra
  obtain ⟨dy, m, g3, g4⟩ := id hC
  refine ⟨_, rfl, c, dy, _, rfl, g3, c, ms, rfl, hC, fun z H1 hz s1 e1 => ⟨z, rfl, ⟨_, SqL.of e1⟩, lc_g walk_list (fun i acc _ => acc = ((ms.take i).map fun m => decide (o.idxOf m < o.idxOf x)).map V.bl) (by rw [List.length_map]; omega) (fun H s => SqL.of (s _ _ e1)) (fun _ _ => rfl) (fun _ _ _ _ q _ => q) (fun i acc _ e => by rw [e, List.length_map, List.length_map, List.length_take]; exact Nat.min_le_left _ _) ?_ ?_⟩⟩
  · rintro i acc y H2 H3 Qy Qn hi s2 rfl ⟨rfl, hc⟩ ky kn
    obtain ⟨y, hy1, rfl⟩ := get_map hc
    have s12 := s1.trans s2
    have hym := hsub y (List.mem_of_getElem? hy1)
    refine ⟨rfl, _, rfl, a, dx, _, rfl, s12 _ _ h1, ?_, _, rfl, _, rfl, a, o, _, _, y, x, rfl, hra.s s12, go, get_idx hym, get_idx hx, fun v H4 s4 e => ?_⟩
    · rw [lk_miss (by decide +kernel), lk_miss (by decide +kernel)]; rfl
    subst e
    refine ky _ _ s4 ?_
    rw [take_snoc hy1, List.map_append, List.map_append]
    rfl
  · intro D acc H2 hD s2 hacc e
    rw [List.length_map, List.take_length] at e
    refine ⟨D, _, rfl, by rw [← e]; exact SqL.of hacc, k _ _ (s1.trans s2) ?_⟩
    rw [List.all_map]
    rfl
theorem ok_strikers_of (T : TX K mg) : Cal P w K mg base 6 "strikers_of" ["rankings", "committee", "name"] (spStrik K) := by
  have F_is_below := ok_is_below (P := P) (w := w) (base := base) T
  have F_players_of := ok_players_of (P := P) (w := w) (base := base) T
  refine cal_mk (fok_mk T.f_strikers_of sc_strikers_of (fun _ _ _ _ _ _ us hl => match us, hl with | [_, _, _], _ => rfl) (fun vs H Q E h => ?_) (fun cdv A outer s H vs Q E hr h => ?_)) T.g_strikers_of (let ⟨_, F⟩ := T.f_strikers_of; F.kp)
  · obtain ⟨r, c, x, rs, A, ms, rfl, _⟩ := h; rfl
  obtain ⟨r, c, x, rs, A, ms, rfl, ⟨kvs, hd, ho⟩, g, hC, hlen, hx, hsub, k⟩ := h
  refine ⟨_, (pss_one (ps_ret (pe_lc (own := [("player", 3)]) (g := gName 3) rfl sc_strikers_of.nd (k_pil K (by rfl) (pe_c F_players_of (hr.mono (by decide)) (pa_cons (pv 0) pa_nil))) (blkOk_by (N := ["rankings", "committee", "name", "player"]) (sc := defScope s_strikers_of) (by decide +kernel)) (fun _ _ _ _ _ => by exact (pg_name (i := 3) sc_strikers_of.nd rfl (Or.inl rfl))) (fun _ _ _ _ _ => by exact (pts_one (pt_val (pe_c F_is_below (hr.mono (by decide)) (pa_cons (pe_dget (hu_of hr) (pv 0) (pv 3) (fun _ _ => rfl)) (pa_cons (pv 2) (pa_cons (pv 1) pa_nil))))))) (fun _ _ _ _ _ => by exact ((pv 3)))))), ?_⟩
  have hpl : (srt (rs.map (·.1))).length ≤ 30 := by rw [srt_length g.nd, List.length_map]; exact g.len
  refine ⟨_, rfl, r, rs, A, rfl, ⟨kvs, hd, ho⟩, g, fun p H1 hp s1 e1 => ⟨p, rfl, ⟨_, SqL.of e1⟩, lc_g walk_list (fun i acc _ => acc = sv (((srt (rs.map (·.1))).take i).filter fun pl => below (rkOf rs pl) x ms)) (by rw [List.length_map]; omega) (fun H s => SqL.of (s _ _ e1)) (fun _ _ => rfl) (fun _ _ _ _ q _ => q) (fun i acc _ e => by rw [e, List.length_map]; exact Nat.le_trans (List.length_filter_le _ _) (by rw [List.length_take]; exact Nat.min_le_left _ _)) ?_ ?_⟩⟩
  · rintro i acc y H2 H3 Qy Qn hi s2 rfl ⟨rfl, hc⟩ ky kn
    obtain ⟨y, hy1, rfl⟩ := get_map hc
    have s12 := s1.trans s2
    have hym := (mem_srt _ _).mp (List.mem_of_getElem? hy1)
    obtain ⟨q, hq, rfl⟩ := List.mem_map.mp hym
    obtain ⟨a, hv, hra⟩ := (ho.md (.of s12)).val g.nd hq
    refine ⟨rfl, ?_⟩
    refine ⟨_, rfl, _, rfl, r, _, rfl, .inl ⟨kvs, Sum.inr q.1, Rd.s hd s12, rfl, hv.symm⟩, _, rfl, _, rfl, a, x, c, q.2, ms, rfl, hra, (g.gr q hq).1, hC.s s12, hlen, (g.mem hq x).mpr hx, fun m hm => (g.mem hq m).mpr (hsub m hm), fun v H4 s4 e => ?_⟩
    subst e
    refine ⟨_, rfl, ?_⟩
    rw [take_snoc hy1, List.filter_append] at ky kn
    rw [List.filter_cons, List.filter_nil, rkOf_mem g.nd hq] at ky kn
    cases hb : below q.2 x ms with
    | true =>
      rw [hb] at ky
      exact itT rfl ⟨_, rfl, ky _ _ s4 (by rw [if_pos rfl, sv, sv, List.map_append]; rfl)⟩
    | false =>
      rw [hb] at kn
      exact itF rfl (kn _ s4 (by rw [if_neg Bool.false_ne_true, List.append_nil]))
  · intro D acc H2 hD s2 hacc e
    rw [List.length_map, List.take_length] at e
    have s12 := s1.trans s2
    refine k D H2 ?_ s12 (by rw [hacc, e]; rfl)
    cases hz : H D with
    | none => rfl
    | some u => rw [s1 _ _ hz] at hD; cases hD
end
end Fl
namespace Fl
open PySem PySem.Spec L2
/-! ### dicts by names -/
section
variable {α : Type}
def getA (l : List (Str × α)) (k : Str) : Option α := (l.find? fun q => decide (q.1 = k)).map (·.2)
def putA (l : List (Str × α)) (k : Str) (v : α) : List (Str × α) := if (l.any fun q => decide (q.1 = k)) = true then l.map (fun q => if q.1 = k then (q.1, v) else q) else l ++ [(k, v)]
def delA (l : List (Str × α)) (k : Str) : List (Str × α) := l.filter fun q => decide (q.1 ≠ k)
def asK (f : α → V) (l : List (Str × α)) : List (Key × V) := l.map fun q => (Sum.inr q.1, f q.2)
theorem asK_length (f : α → V) (l : List (Str × α)) : (asK f l).length = l.length := List.length_map _
theorem dec_inr (a b : Str) : decide ((Sum.inr a : Key) = Sum.inr b) = decide (a = b) := by
  by_cases h : a = b
  · subst h; simp
  · rw [decide_eq_false h, decide_eq_false fun e => h (Sum.inr.inj e)]
theorem asK_get (f : α → V) (k : Str) : ∀ l : List (Str × α), valV (asK f l) (Sum.inr k) = (getA l k).map f
  | [] => rfl
  | q :: r => by
    have ih := asK_get f k r
    unfold valV getA asK at ih ⊢
    rw [List.map_cons, List.find?_cons, List.find?_cons]
    rw [dec_inr]
    cases h : decide (q.1 = k) with
    | true => rfl
    | false => exact ih
theorem asK_any (f : α → V) (k : Str) : ∀ l : List (Str × α), ((asK f l).any fun kv => decide (kv.1 = Sum.inr k)) = l.any fun q => decide (q.1 = k)
  | [] => rfl
  | q :: r => by
    have ih := asK_any f k r
    unfold asK at ih ⊢
    rw [List.map_cons, List.any_cons, List.any_cons, ih, dec_inr]
theorem asK_put (f : α → V) (l : List (Str × α)) (k : Str) (v : α) : putK (asK f l) (Sum.inr k) (f v) = asK f (putA l k v) := by
  unfold putK putA
  rw [asK_any]
  split
  · unfold asK
    rw [List.map_map, List.map_map]
    refine List.map_congr_left fun q _ => ?_
    by_cases h : q.1 = k
    · simp [h]
    · have : ¬ (Sum.inr q.1 : Key) = Sum.inr k := fun e => h (Sum.inr.inj e)
      simp [h]
  · unfold asK; rw [List.map_append]; rfl
theorem asK_del (f : α → V) (l : List (Str × α)) (k : Str) : dropK (asK f l) (Sum.inr k) = asK f (delA l k) := by
  unfold dropK delA asK
  rw [List.filter_map]
  congr 1
  refine List.filter_congr fun q _ => ?_
  show decide ((Sum.inr q.1 : Key) ≠ Sum.inr k) = decide (q.1 ≠ k)
  by_cases h : q.1 = k
  · simp [h]
  · have : ¬ (Sum.inr q.1 : Key) = Sum.inr k := fun e => h (Sum.inr.inj e)
    simp [h]
theorem getA_nil (k : Str) : getA ([] : List (Str × α)) k = none := rfl
theorem getA_cons (q : Str × α) (r : List (Str × α)) (k : Str) : getA (q :: r) k = if q.1 = k then some q.2 else getA r k := by
  unfold getA
  rw [List.find?_cons]
  by_cases h : q.1 = k
  · simp [h]
  · simp [h]
theorem getA_none {l : List (Str × α)} {k : Str} : getA l k = none ↔ k ∉ l.map (·.1) := by
  induction l with
  | nil => simp [getA_nil]
  | cons q r ih =>
    rw [getA_cons, List.map_cons, List.mem_cons]
    by_cases h : q.1 = k
    · simp [h]
    · rw [if_neg h, ih]; simp [Ne.symm h]
theorem getA_mem {l : List (Str × α)} {k : Str} {v : α} (h : getA l k = some v) : (k, v) ∈ l := by
  induction l with
  | nil => simp [getA_nil] at h
  | cons q r ih =>
    rw [getA_cons] at h
    by_cases e : q.1 = k
    · rw [if_pos e] at h; cases h; subst e; exact List.mem_cons_self
    · rw [if_neg e] at h; exact List.mem_cons_of_mem _ (ih h)
theorem getA_key {l : List (Str × α)} {k : Str} {v : α} (h : getA l k = some v) : k ∈ l.map (·.1) := List.mem_map.mpr ⟨_, getA_mem h, rfl⟩
theorem mem_getA {l : List (Str × α)} (nd : (l.map (·.1)).Nodup) {k : Str} {v : α} (h : (k, v) ∈ l) : getA l k = some v := by
  induction l with
  | nil => simp at h
  | cons q r ih =>
    rw [List.map_cons, List.nodup_cons] at nd
    rw [getA_cons]
    rcases List.mem_cons.mp h with rfl | h
    · simp
    · have : ¬ q.1 = k := fun e => nd.1 (by rw [e]; exact List.mem_map.mpr ⟨_, h, rfl⟩)
      rw [if_neg this]; exact ih nd.2 h
theorem getA_of_key {l : List (Str × α)} {k : Str} (h : k ∈ l.map (·.1)) : ∃ v, getA l k = some v := by
  cases e : getA l k with
  | none => exact absurd h (getA_none.mp e)
  | some v => exact ⟨v, rfl⟩
theorem any_key {l : List (Str × α)} {k : Str} : (l.any fun q => decide (q.1 = k)) = true ↔ k ∈ l.map (·.1) := by
  rw [List.any_eq_true, List.mem_map]
  constructor
  · rintro ⟨q, hq, e⟩; exact ⟨q, hq, of_decide_eq_true e⟩
  · rintro ⟨q, hq, e⟩; exact ⟨q, hq, decide_eq_true e⟩
theorem putA_new {l : List (Str × α)} {k : Str} (v : α) (h : k ∉ l.map (·.1)) : putA l k v = l ++ [(k, v)] := by
  unfold putA
  rw [if_neg (fun e => h (any_key.mp e))]
theorem putA_old {l : List (Str × α)} {k : Str} (v : α) (h : k ∈ l.map (·.1)) : putA l k v = l.map (fun q => if q.1 = k then (q.1, v) else q) := by
  unfold putA
  rw [if_pos (any_key.mpr h)]
theorem keys_put (l : List (Str × α)) (k : Str) (v : α) : (putA l k v).map (·.1) = if k ∈ l.map (·.1) then l.map (·.1) else l.map (·.1) ++ [k] := by
  by_cases h : k ∈ l.map (·.1)
  · rw [putA_old v h, if_pos h, List.map_map]
    refine List.map_congr_left fun q _ => ?_
    show (if q.1 = k then (q.1, v) else q).1 = q.1
    split <;> rfl
  · rw [putA_new v h, if_neg h, List.map_append]; rfl
theorem nodup_put {l : List (Str × α)} (nd : (l.map (·.1)).Nodup) (k : Str) (v : α) : ((putA l k v).map (·.1)).Nodup := by
  rw [keys_put]
  split
  · exact nd
  · rename_i h
    rw [List.nodup_append]
    exact ⟨nd, by simp, fun a ha b hb e => by rw [List.mem_singleton] at hb; subst hb; subst e; exact h ha⟩
theorem getA_map (k j : Str) (v : α) : ∀ l : List (Str × α), getA (l.map fun q => if q.1 = k then (q.1, v) else q) j = (getA l j).map fun x => if j = k then v else x
  | [] => rfl
  | q :: r => by
    rw [List.map_cons, getA_cons, getA_cons, getA_map k j v r]
    by_cases h : q.1 = k
    · rw [if_pos h]
      by_cases hj : q.1 = j
      · simp [hj, ← h]
      · simp [hj]
    · rw [if_neg h]
      by_cases hj : q.1 = j
      · have : ¬ j = k := fun e => h (hj.trans e)
        simp [hj, this]
      · simp [hj]
theorem getA_snoc (l : List (Str × α)) (k j : Str) (v : α) (h : k ∉ l.map (·.1)) : getA (l ++ [(k, v)]) j = if j = k then some v else getA l j := by
  induction l with
  | nil => rw [List.nil_append, getA_cons]; by_cases e : k = j <;> simp [e, getA_nil, eq_comm]
  | cons q r ih =>
    rw [List.map_cons, List.mem_cons, not_or] at h
    rw [List.cons_append, getA_cons, getA_cons, ih h.2]
    by_cases e : q.1 = j
    · have : ¬ j = k := fun z => h.1 (z.symm.trans e.symm)
      simp [e, this]
    · simp [e]
theorem getA_put (l : List (Str × α)) (k j : Str) (v : α) : getA (putA l k v) j = if j = k then some v else getA l j := by
  by_cases h : k ∈ l.map (·.1)
  · rw [putA_old v h, getA_map]
    by_cases e : j = k
    · subst e
      obtain ⟨x, hx⟩ := getA_of_key h
      simp [hx]
    · simp [e]
  · rw [putA_new v h]; exact getA_snoc l k j v h
end
theorem ctK_as (cs : Cts) : ctK cs = asK V.int cs := rfl
abbrev Own := List (Str × Str)
def owned (own : Own) (p : Str) : List Str := (own.filter fun q => decide (q.2 = p)).map (·.1)
def cnt (own : Own) (p : Str) : Nat := (owned own p).length
theorem mem_owned {own : Own} {p n : Str} : n ∈ owned own p ↔ (n, p) ∈ own := by
  unfold owned
  rw [List.mem_map]
  constructor
  · rintro ⟨q, hq, rfl⟩
    obtain ⟨h1, h2⟩ := List.mem_filter.mp hq
    have := of_decide_eq_true h2
    subst this
    exact h1
  · intro h
    exact ⟨(n, p), List.mem_filter.mpr ⟨h, by simp⟩, rfl⟩
theorem owned_nodup {own : Own} (nd : (own.map (·.1)).Nodup) (p : Str) : (owned own p).Nodup := nd.sublist (List.Sublist.map _ List.filter_sublist)
theorem cnt_cons (q : Str × Str) (r : Own) (p : Str) : cnt (q :: r) p = (if q.2 = p then 1 else 0) + cnt r p := by
  unfold cnt owned
  rw [List.filter_cons]
  by_cases h : q.2 = p
  · simp [h]; omega
  · simp [h]
theorem cnt_append (a b : Own) (p : Str) : cnt (a ++ b) p = cnt a p + cnt b p := by
  unfold cnt owned
  rw [List.filter_append, List.map_append, List.length_append]
/-- a name goes to another player -/
theorem cnt_put {own : Own} (nd : (own.map (·.1)).Nodup) (n p r : Str) : cnt (putA own n p) r + (if getA own n = some r then 1 else 0) = cnt own r + (if p = r then 1 else 0) := by
  by_cases h : n ∈ own.map (·.1)
  · rw [putA_old p h]
    have key : ∀ l : Own, (l.map (·.1)).Nodup → n ∈ l.map (·.1) → cnt (l.map fun q => if q.1 = n then (q.1, p) else q) r + (if getA l n = some r then 1 else 0) = cnt l r + (if p = r then 1 else 0) := by
      intro l
      induction l with
      | nil => intro _ h; simp at h
      | cons q t ih =>
        intro nd h
        rw [List.map_cons, List.nodup_cons] at nd
        rw [List.map_cons, cnt_cons, cnt_cons, getA_cons]
        by_cases e : q.1 = n
        · have hid : t.map (fun q => if q.1 = n then (q.1, p) else q) = t := by
            conv => rhs; rw [← List.map_id t]
            refine List.map_congr_left fun z hz => ?_
            have : ¬ z.1 = n := fun e' => nd.1 (by rw [e, ← e']; exact List.mem_map.mpr ⟨z, hz, rfl⟩)
            rw [if_neg this]; rfl
          rw [hid, if_pos e, if_pos e]
          by_cases e2 : q.2 = r
          · simp [e2]; omega
          · have : ¬ (some q.2 = some r) := fun z => e2 (Option.some.inj z)
            simp [e2]; omega
        · rw [if_neg e, if_neg e]
          have hm : n ∈ t.map (·.1) := by
            rcases List.mem_cons.mp (by rw [List.map_cons] at h; exact h) with h | h
            · exact absurd h.symm e
            · exact h
          have := ih nd.2 hm
          omega
    exact key own nd h
  · rw [putA_new p h, getA_none.mpr h, cnt_append]
    have : cnt [(n, p)] r = if p = r then 1 else 0 := by
      rw [cnt_cons]; by_cases e : p = r <;> simp [e, cnt, owned]
    rw [this]; simp
end Fl
namespace Fl
open PySem PySem.Spec L2
/-! ### who may strike what -/
abbrev Opts := List (Str × List Str)
def optOf (opts : Opts) (n : Str) : List Str := (getA opts n).getD []
def cntOf (cs : Cts) (p : Str) : Int := (getA cs p).getD 0
/-- a dict from names to closed lists -/
def OptOf (H : Hp) (opts : Opts) (kvo : List (Key × V)) : Prop := kvo.length = opts.length ∧ ∀ (i : Nat) (q : Str × List Str), opts[i]? = some q → ∃ l, kvo[i]? = some (Sum.inr q.1, V.ref l) ∧ FzL H l (sv q.2)
theorem OptOf.md {H H' : Hp} {opts : Opts} {kvo : List (Key × V)} (h : OptOf H opts kvo) (e : Md H H') : OptOf H' opts kvo := ⟨h.1, fun i q e1 => let ⟨l, z1, o, z2⟩ := h.2 i q e1; ⟨l, z1, o, e.fz _ _ _ z2⟩⟩
theorem OptOf.keys {H : Hp} {opts : Opts} {kvo : List (Key × V)} (h : OptOf H opts kvo) : kvo.map (·.1) = (opts.map (·.1)).map Sum.inr := by
  refine List.ext_getElem? fun i => ?_
  rw [List.getElem?_map, List.map_map, List.getElem?_map]
  cases e : opts[i]? with
  | none =>
    have : kvo[i]? = none := by
      rw [List.getElem?_eq_none_iff] at e ⊢
      have := h.1; omega
    rw [this]; rfl
  | some q =>
    obtain ⟨a, h1, _⟩ := h.2 i q e
    rw [h1]; rfl
theorem OptOf.val {H : Hp} {opts : Opts} {kvo : List (Key × V)} (h : OptOf H opts kvo) (nd : (opts.map (·.1)).Nodup) {n : Str} (hn : n ∈ opts.map (·.1)) : ∃ l, valV kvo (Sum.inr n) = some (.ref l) ∧ FzL H l (sv (optOf opts n)) := by
  obtain ⟨v, hv⟩ := getA_of_key hn
  obtain ⟨i, hi⟩ := List.mem_iff_getElem?.mp (getA_mem hv)
  obtain ⟨l, h1, h2⟩ := h.2 i _ hi
  exact ⟨l, valV_at (by rw [h.keys]; exact inr_nodup nd) h1, by unfold optOf; rw [hv]; exact h2⟩
/-- what all turns on: names with their players, counts -/
structure Job (opts : Opts) (cs : Cts) : Prop where
  nd : (opts.map (·.1)).Nodup
  nm : Nms (opts.map (·.1))
  len : opts.length ≤ 30
  csn : (cs.map (·.1)).Nodup
  csl : cs.length ≤ 30
  pos : ∀ q ∈ cs, 0 ≤ q.2
  sub : ∀ q ∈ opts, q.2.Nodup ∧ q.2.length ≤ 30 ∧ ∀ p ∈ q.2, p ∈ cs.map (·.1)
/-- an assigning: the instance, its owner's dict at w -/
def AsgAt (K : PySem.W.Frag) (H : Hp) (a w : Addr) (opts : Opts) (cs : Cts) (own : Own) : Prop :=
  ∃ dx n od q kvo, H a = some (.ins (AC K) dx [("own_counts", .ref n), ("options", .ref od), ("owner", .ref w)]) ∧ Rd H n (.dK (ctK cs)) ∧ H od = some (.frz q (.dK kvo)) ∧ OptOf H opts kvo ∧ H w = some (.dK (asK V.str own)) ∧ n ≠ w
theorem AsgAt.s {K : PySem.W.Frag} {H H' : Hp} {a w : Addr} {opts : Opts} {cs : Cts} {own : Own} (h : AsgAt K H a w opts cs own) (s : Same H H') : AsgAt K H' a w opts cs own := by
  obtain ⟨dx, n, od, q, kvo, h1, h2, h3, h4, h5, h6⟩ := h
  exact ⟨dx, n, od, q, kvo, s _ _ h1, Rd.s h2 s, s _ _ h3, h4.md (.of s), s _ _ h5, h6⟩
/-- so far: each name by one of its own players, none above its count -/
structure Part (opts : Opts) (cs : Cts) (own : Own) : Prop where
  nd : (own.map (·.1)).Nodup
  sub : ∀ n p, getA own n = some p → n ∈ opts.map (·.1) ∧ p ∈ optOf opts n
  le : ∀ p ∈ cs.map (·.1), (cnt own p : Int) ≤ cntOf cs p
theorem Part.len {opts : Opts} {cs : Cts} {own : Own} (j : Job opts cs) (h : Part opts cs own) : own.length ≤ 30 := by
  have : (own.map (·.1)).length ≤ (opts.map (·.1)).length := h.nd.length_le_of_subset fun n hn => by
    obtain ⟨v, hv⟩ := getA_of_key hn
    exact (h.sub n v hv).1
  rw [List.length_map, List.length_map] at this
  have := j.len; omega
/-- the ways found from a name -/
structure Way (opts : Opts) (own : Own) (name : Str) (rch : Own) : Prop where
  nd : (rch.map (·.1)).Nodup
  ok : ∀ (i : Nat) p n, rch[i]? = some (p, n) → n ∈ opts.map (·.1) ∧ p ∈ optOf opts n ∧ (n = name ∨ ∃ (k : Nat) (p' n' : Str), k < i ∧ rch[k]? = some (p', n') ∧ getA own n = some p')
/-- the end of a search -/
def Found (opts : Opts) (cs : Cts) (own : Own) (name : Str) (rch : Own) : Option Str → Prop
  | some p => p ∈ rch.map (·.1) ∧ p ∈ cs.map (·.1) ∧ (cnt own p : Int) < cntOf cs p
  | none => (∀ n, (n = name ∨ ∃ p, p ∈ rch.map (·.1) ∧ getA own n = some p) → ∀ p ∈ optOf opts n, p ∈ rch.map (·.1)) ∧ ∀ p ∈ rch.map (·.1), p ∈ cs.map (·.1) ∧ cntOf cs p ≤ (cnt own p : Int)
theorem same_up {H H' : Hp} {a : Addr} (s : Same H H') (h : H a = none) (o : HO) : Same H (upd H' a o) := fun b u e => by rw [upd_ne (ne_of_none e h)]; exact s b u e
theorem way_add {opts : Opts} {own : Own} {name : Str} {rch : Own} {p n : Str} (w : Way opts own name rch) (hp : p ∉ rch.map (·.1)) (hn : n ∈ opts.map (·.1)) (hpn : p ∈ optOf opts n) (hv : n = name ∨ ∃ p', p' ∈ rch.map (·.1) ∧ getA own n = some p') : Way opts own name (rch ++ [(p, n)]) := by
  refine ⟨?_, fun i p1 n1 h => ?_⟩
  · rw [List.map_append, List.nodup_append]
    exact ⟨w.nd, by simp, fun a ha b hb e => by rw [List.map_cons, List.map_nil, List.mem_singleton] at hb; subst hb; subst e; exact hp ha⟩
  · by_cases hi : i < rch.length
    · rw [List.getElem?_append_left hi] at h
      obtain ⟨h1, h2, h3⟩ := w.ok i p1 n1 h
      refine ⟨h1, h2, h3.imp id fun ⟨k, p', n', hk, e1, e2⟩ => ⟨k, p', n', hk, ?_, e2⟩⟩
      rw [List.getElem?_append_left (by omega)]; exact e1
    · rw [List.getElem?_append_right (by omega)] at h
      have hi2 : i - rch.length = 0 := by
        cases e : i - rch.length with
        | zero => rfl
        | succ m => rw [e] at h; simp at h
      rw [hi2] at h
      cases h
      refine ⟨hn, hpn, hv.imp id fun ⟨p', hp', e⟩ => ?_⟩
      obtain ⟨z, hz, e1⟩ := List.mem_map.mp hp'
      obtain ⟨k, hk⟩ := List.mem_iff_getElem?.mp hz
      have hkl := (List.getElem?_eq_some_iff.mp hk).1
      exact ⟨k, z.1, z.2, by omega, by rw [List.getElem?_append_left hkl]; exact hk, by rw [e1]; exact e⟩
/-- amid a search: que waits, don is done -/
structure SI (opts : Opts) (cs : Cts) (own : Own) (name : Str) (rch : Own) (que don : List Str) : Prop where
  way : Way opts own name rch
  full : ∀ p ∈ rch.map (·.1), p ∈ cs.map (·.1) ∧ cntOf cs p ≤ (cnt own p : Int)
  nd : (don ++ que).Nodup
  mem : ∀ n, n ∈ don ++ que ↔ (n = name ∨ ∃ p, p ∈ rch.map (·.1) ∧ getA own n = some p)
theorem SI.sub {opts : Opts} {cs : Cts} {own : Own} {name : Str} {rch : Own} {que don : List Str} (h : SI opts cs own name rch que don) (pt : Part opts cs own) (hname : name ∈ opts.map (·.1)) : ∀ n ∈ don ++ que, n ∈ opts.map (·.1) := fun n hn => by
  rcases (h.mem n).mp hn with rfl | ⟨p, _, e⟩
  · exact hname
  · exact (pt.sub n p e).1
theorem SI.lens {opts : Opts} {cs : Cts} {own : Own} {name : Str} {rch : Own} {que don : List Str} (h : SI opts cs own name rch que don) (j : Job opts cs) (pt : Part opts cs own) (hname : name ∈ opts.map (·.1)) : don.length + que.length ≤ 30 := by
  have := h.nd.length_le_of_subset (h.sub pt hname)
  rw [List.length_append, List.length_map] at this
  have := j.len; omega
theorem SI.rlen {opts : Opts} {cs : Cts} {own : Own} {name : Str} {rch : Own} {que don : List Str} (h : SI opts cs own name rch que don) (j : Job opts cs) : rch.length ≤ 30 := by
  have := h.way.nd.length_le_of_subset (fun p hp => (h.full p hp).1)
  rw [List.length_map, List.length_map] at this
  have := j.csl; omega
theorem SI.add {opts : Opts} {cs : Cts} {own : Own} {name : Str} {rch : Own} {que don : List Str} {p n : Str} (h : SI opts cs own name rch que don) (pt : Part opts cs own) (hno : getA own name = none) (hp : p ∉ rch.map (·.1)) (hn : n ∈ don) (hno2 : n ∈ opts.map (·.1)) (hpn : p ∈ optOf opts n) (hpc : p ∈ cs.map (·.1)) (hfull : cntOf cs p ≤ (cnt own p : Int)) :
    SI opts cs own name (rch ++ [(p, n)]) (que ++ owned own p) don := by
  have key : ∀ z, z ∈ owned own p ↔ getA own z = some p := fun z => by rw [mem_owned]; exact ⟨mem_getA pt.nd, getA_mem⟩
  refine ⟨way_add h.way hp hno2 hpn ((h.mem n).mp (List.mem_append_left _ hn)), fun q hq => ?_, ?_, fun z => ?_⟩
  · rw [List.map_append, List.mem_append] at hq
    rcases hq with hq | hq
    · exact h.full q hq
    · rw [List.map_cons, List.map_nil, List.mem_singleton] at hq; subst hq; exact ⟨hpc, hfull⟩
  · rw [← List.append_assoc, List.nodup_append]
    refine ⟨h.nd, owned_nodup pt.nd p, fun a ha b hb e => ?_⟩
    subst e
    have e2 := (key a).mp hb
    rcases (h.mem a).mp ha with rfl | ⟨p', hp', e'⟩
    · rw [hno] at e2; cases e2
    · rw [e2] at e'; cases e'; exact hp hp'
  · rw [← List.append_assoc, List.mem_append, h.mem z, key z]
    constructor
    · rintro ((e | ⟨q, hq, e⟩) | e)
      · exact .inl e
      · exact .inr ⟨q, by rw [List.map_append]; exact List.mem_append_left _ hq, e⟩
      · exact .inr ⟨p, by rw [List.map_append]; exact List.mem_append_right _ (by simp), e⟩
    · rintro (e | ⟨q, hq, e⟩)
      · exact .inl (.inl e)
      · rw [List.map_append, List.mem_append] at hq
        rcases hq with hq | hq
        · exact .inl (.inr ⟨q, hq, e⟩)
        · rw [List.map_cons, List.map_nil, List.mem_singleton] at hq; subst hq; exact .inr e
def optV : Option Str → V
  | some p => .str p
  | none => .non
def spOwned (K : PySem.W.Frag) : Sp := fun vs H Q _ => ∃ a w p opts cs own, vs = [.ref a, .str p] ∧ AsgAt K H a w opts cs own ∧ own.length ≤ 1000 ∧ RetL H Q (sv (owned own p))
def spSearch (K : PySem.W.Frag) : Sp := fun vs H Q _ => ∃ a w name opts cs own, vs = [.ref a, .str name] ∧ AsgAt K H a w opts cs own ∧ Job opts cs ∧ Part opts cs own ∧ name ∈ opts.map (·.1) ∧ getA own name = none ∧
  ∀ t H' rc rch res, Same H H' → H t = none → H rc = none → H' t = some (.tup [optV res, .ref rc]) → H' rc = some (.dK (asK V.str rch)) → Way opts own name rch → Found opts cs own name rch res → Q (.ref t) H'
section
variable {P : Program} {w : World} {K : PySem.W.Frag} {mg : Str → Option Value} {base : Heap}
theorem lk3a {v u t : V} : ([("own_counts", v), ("options", u), ("owner", t)] : List (Str × V)).lookup ("own_counts" : Str) = some v := lk_hit rfl
theorem lk3b {v u t : V} : ([("own_counts", v), ("options", u), ("owner", t)] : List (Str × V)).lookup ("options" : Str) = some u := by rw [lk_miss (by decide +kernel)]; exact lk_hit rfl
theorem lk3c {v u t : V} : ([("own_counts", v), ("options", u), ("owner", t)] : List (Str × V)).lookup ("owner" : Str) = some t := by rw [lk_miss (by decide +kernel), lk_miss (by decide +kernel)]; exact lk_hit rfl
theorem ok_A_owned (T : TX K mg) : Fok P w K mg base 1 (He.ma K (AC K) "owned") ["self", "player"] (spOwned K) := by
  refine fok_mk T.f_A_owned sc_A_owned (fun _ _ _ _ _ _ us hl => match us, hl with | [_, _], _ => rfl) (fun vs H Q E h => ?_) (fun cdv A outer s H vs Q E hr h => ?_)
  · obtain ⟨a, w, p, opts, cs, own, rfl, _⟩ := h; rfl
  obtain ⟨a, w, p, opts, cs, own, rfl, ⟨dx, n, od, q, kvo, h1, h2, h3, h4, h5, h6⟩, hlen, k⟩ := h
  refine ⟨_, (pss_one (ps_ret (pe_lockR (pe_lc (own := [("name", 2), ("own", 3)]) (g := gTup K 2 (gCons (gName 2) (gCons (gName 3) gNil))) rfl sc_A_owned.nd (pi_items (k_fld K (by rfl) (pv 0))) (blkOk_by (N := ["self", "player", "name", "own"]) (sc := defScope s_A_owned) (by decide +kernel)) (fun _ _ _ _ _ => by exact (k_gtup K (by rfl) rfl (pgs_cons (pg_name (i := 2) sc_A_owned.nd rfl (Or.inl rfl)) (pgs_cons (pg_name (i := 3) sc_A_owned.nd rfl (Or.inl rfl)) pgs_nil)))) (fun _ _ _ _ _ => by exact (pts_one (pt_cmpR op_eq (pv 3) (pv 1) (nomark _)))) (fun _ _ _ _ _ => by exact ((pv 2))))))), ?_⟩
  refine ⟨w, _, .inl h5, fun H1 o md1 g1 e1 => ?_⟩
  have naw : a ≠ w := ne_of h1 h5 (fun z => nomatch z)
  refine ⟨_, rfl, a, _, dx, _, _, rfl, (e1 a naw).trans h1, T.clsA, T.nA_owner, lk3c, w, o, _, rfl, g1, lc_g walk_items (fun i acc _ => acc = sv (owned (own.take i) p)) (by rw [asK_length]; exact hlen) (fun H s => s _ _ g1) (fun _ _ => rfl) (fun _ _ _ _ q _ => q) (fun i acc _ e => by
    rw [e, List.length_map]; unfold owned; rw [List.length_map]; exact Nat.le_trans (List.length_filter_le _ _) (by rw [List.length_take]; exact Nat.min_le_left _ _)) ?_ ?_⟩
  · rintro i acc y H2 H3 Qy Qn hi s2 rfl ⟨t, x1, x2, rfl, ht, rfl, f1, f2⟩ ky kn
    dsimp only at f1 f2
    obtain ⟨⟨nm, pl⟩, hq⟩ := get_lt (l := own) (i := i) (by rw [asK_length] at hi; exact hi)
    rw [asK, List.getElem?_map, hq] at f1 f2
    cases f1; cases f2
    have s3 := same_new ht (.tup [.str nm, .str pl])
    have e := take_snoc hq
    refine ⟨t, _, rfl, .inl (.inl upd_same), rfl, _, _, rfl, _, [], rfl, rfl, rfl, ?_⟩
    refine ⟨_, rfl, _, rfl, rfl, _, rfl, ?_⟩
    rw [e] at ky kn
    unfold owned at ky kn
    rw [List.filter_append, List.filter_cons, List.filter_nil] at ky kn
    by_cases hp : pl = p
    · subst hp
      rw [if_pos (by simp), List.map_append] at ky
      exact itT (by simp) ⟨_, rfl, ky _ _ s3 (by rw [sv, sv, List.map_append]; rfl)⟩
    · rw [if_neg (by simpa using hp), List.append_nil] at kn
      exact itF (by simp [hp]) (kn _ s3 rfl)
  · intro D acc H2 hD s2 hacc e
    rw [asK_length, List.take_length] at e
    refine ⟨s2 _ _ g1, fun H3 e3 e4 => ?_⟩
    exact k D H3 (lk_none e1 g1 hD) (lk_same e1 s2 e3 e4) (by rw [← e]; exact lk_new g1 s2 e4 hacc rfl)
theorem ok_A_search (T : TX K mg) : Fok P w K mg base 2 (He.ma K (AC K) "search") ["self", "name"] (spSearch K) := by
  have F_A_owned := ok_A_owned (P := P) (w := w) (base := base) T
  refine fok_mk T.f_A_search sc_A_search (fun _ _ _ _ _ _ us hl => match us, hl with | [_, _], _ => rfl) (fun vs H Q E h => ?_) (fun cdv A outer s H vs Q E hr h => ?_)
  · obtain ⟨a, w, name, opts, cs, own, rfl, _⟩ := h; rfl
  obtain ⟨a, w, name, opts, cs, own, rfl, hA, j, pt, hname, hno, k⟩ := h
  have hol := pt.len j
  obtain ⟨dx, n, od, q, kvo, h1, h2, h3, h4, h5, h6⟩ := id hA
  refine ⟨_, (pss_cons (ps_par (i := 2) (j := 3) (by rfl) sc_A_search.nd rfl rfl (by decide) rfl rfl (pa_cons pe_dnewK (pa_cons (pe_lst (pa_cons (pv 1) pa_nil)) pa_nil)) (by rfl))
      (pss_cons (ps_while PassesOwn.never (pt_cmpR (k_neD K (by rfl) hr.units) (pv 3) (pe_lst pa_nil) (nomark _)) (pss_cons (ps_set (i := 4) sc_A_search.nd rfl (Or.inl rfl) (k_bm K (by rfl) PySem.F.plainAttrs_list PySem.F.slot_list_pop PySem.F.type_list_pop mt_popAt (pv 3) (pa_cons pe_int pa_nil)))
      (pss_one (ps_for PassesOwn.never rfl (k_pil K (by rfl) (pe_dget (hu_of hr) (k_fld K (by rfl) (pv 0)) (pv 4) (fun _ _ => rfl))) (pg_name (i := 5) sc_A_search.nd rfl (Or.inl rfl)) (pss_one (ps_if (pt_cmp (pc_dnotin (hu_of hr) (pv 5) (pv 2)) (by rfl)) (pss_cons (ps_dput (hu_of hr) (pv 2) (pv 5) (pv 4) rfl)
      (pss_cons (ps_if (pt_cmpR op_lt (pe_callB (k_len K (by rfl)) (by rfl) T.b_len (by decide +kernel) (pa_cons (pe_m F_A_owned T.clsA T.mA_owned (hr.mono (by decide)) (pv 0) (pa_cons (pv 5) pa_nil)) pa_nil)) (pe_dget (hu_of hr) (k_fld K (by rfl) (pv 0)) (pv 5) (fun _ _ => rfl)) (nomark _)) (pss_one (ps_ret (pe_tup (pa_cons (pv 5) (pa_cons (pv 2) pa_nil))))) pss_nil)
      (pss_one (ps_expr (k_bm K (by rfl) PySem.F.plainAttrs_list PySem.F.slot_list_extend PySem.F.type_list_extend mt_extend (pv 3) (pa_cons (pe_m F_A_owned T.clsA T.mA_owned (hr.mono (by decide)) (pv 0) (pa_cons (pv 5) pa_nil)) pa_nil)))))) pss_nil))))))
      (pss_one (ps_ret (pe_tup (pa_cons pe_non (pa_cons (pv 2) pa_nil))))))), ?_⟩
  refine fun rc hrc => ⟨_, rfl, sz_line (by decide : 1 ≤ 1000), fun nm hnm => ⟨_, _, rfl, ?_⟩⟩
  have nrn : rc ≠ nm := fun e => by rw [← e, upd_same] at hnm; cases hnm
  have hnm0 : H nm = none := by rw [upd_ne nrn.symm] at hnm; exact hnm
  have s0 : Same H (upd (upd H rc (.dK [])) nm (.lst (sv [name]))) := same_up (same_up (Same.refl H) hrc _) hnm0 _
  have nof : ([("own_counts", .ref n), ("options", .ref od), ("owner", .ref w)] : List (Str × V)).lookup ("owned" : Str) = none := by
    rw [lk_miss (by decide +kernel), lk_miss (by decide +kernel), lk_miss (by decide +kernel)]; rfl
  refine ⟨fun m σ Hc => ∃ rch que don cu pl, σ = [some (.ref a), some (.str name), some (.ref rc), some (.ref nm), cu, pl] ∧ SI opts cs own name rch que don ∧ (∀ z ∈ don, ∀ p ∈ optOf opts z, p ∈ rch.map (·.1)) ∧ Same H Hc ∧ Hc rc = some (.dK (asK V.str rch)) ∧ Hc nm = some (.lst (sv que)) ∧ m + don.length = 31,
    ⟨31, [], [name], [], none, none, rfl, ⟨⟨by simp, fun i p n h => by simp at h⟩, fun p hp => by simp at hp, by simp, fun z => by simp⟩, fun z hz => by simp at hz, s0, by rw [upd_ne nrn, upd_same]; rfl, upd_same, rfl⟩, ?_⟩
  rintro m σ Hc ⟨rch, que, don, cu, pl, rfl, si, hdone, sc, erc, enm, hm⟩
  have hl := si.lens j pt hname
  have hqs := si.sub pt hname
  refine ⟨_, rfl, sz_line (by decide : 0 ≤ 1000), fun p0 hp0 => ?_⟩
  have sp := same_new hp0 (.lst [])
  refine ⟨_, _, dp_strs (xs := que) (SqL.of (sp _ _ enm)), dp_strs (xs := []) (SqL.of upd_same), shaped_strs fun z hz => j.nm z (hqs z (List.mem_append_right _ hz)), shaped_strs fun z hz => (by simp at hz), _, rfl, ?_⟩
  rw [eqv_lists]
  have sc' := sc.trans sp
  have erc' := sp _ _ erc
  have enm' := sp _ _ enm
  generalize upd Hc p0 (.lst []) = Hd at sc' erc' enm'
  cases que with
  | nil =>
    refine itF (by simp) ?_
    refine ⟨_, rfl, by show 2 ≤ sizeLine; exact sz_line (by decide), fun t ht => ?_⟩
    have hht : H t = none := by
      cases z : H t with
      | none => rfl
      | some u => rw [sc' _ _ z] at ht; cases ht
    refine k t _ rc rch none (sc'.trans (same_new ht _)) hht hrc upd_same (by rw [upd_ne (ne_of_none erc' ht)]; exact erc') si.way ⟨fun z hz p hp => ?_, si.full⟩
    have := (si.mem z).mpr hz
    rw [List.append_nil] at this
    exact hdone z this p hp
  | cons x r =>
    have hxo := hqs x (List.mem_append_right _ List.mem_cons_self)
    refine itT (by simp) ⟨fun σ' H' => ∃ m', m' < m ∧ ∃ rch que don cu pl, σ' = [some (.ref a), some (.str name), some (.ref rc), some (.ref nm), cu, pl] ∧ SI opts cs own name rch que don ∧ (∀ z ∈ don, ∀ p ∈ optOf opts z, p ∈ rch.map (·.1)) ∧ Same H H' ∧ H' rc = some (.dK (asK V.str rch)) ∧ H' nm = some (.lst (sv que)) ∧ m' + don.length = 31, fun _ _ z => z, ?_⟩
    refine ⟨_, rfl, .inl ⟨rfl, _, SqL.of enm'⟩, nm, _, 0, 0, .str x, rfl, rfl, enm', by decide, by decide, by simp [seqIndex?, sv], rfl, ?_⟩
    have sE := same_up sc' hnm0 (.lst ((sv (x :: r)).eraseIdx 0))
    have ercE : (upd Hd nm (.lst ((sv (x :: r)).eraseIdx 0))) rc = some (.dK (asK V.str rch)) := by rw [upd_ne nrn]; exact erc'
    have enmE : (upd Hd nm (.lst ((sv (x :: r)).eraseIdx 0))) nm = some (.lst (sv r)) := upd_same
    generalize upd Hd nm (.lst ((sv (x :: r)).eraseIdx 0)) = He at sE ercE enmE
    obtain ⟨l, hlv, hlz⟩ := (h4.md (.of sE)).val j.nd hxo
    have hps : (optOf opts x).Nodup ∧ (optOf opts x).length ≤ 30 ∧ ∀ p ∈ optOf opts x, p ∈ cs.map (·.1) := by
      obtain ⟨v, hv⟩ := getA_of_key hxo
      unfold optOf
      rw [hv]
      exact j.sub _ (getA_mem hv)
    refine ⟨_, rfl, a, _, dx, _, _, rfl, sE _ _ h1, T.clsA, T.nA_options, lk3b, _, rfl, od, _, rfl, .inl ⟨kvo, Sum.inr x, .inr ⟨q, sE _ _ h3⟩, rfl, hlv.symm⟩, l, rfl, ⟨_, hlz.seq⟩, ?_⟩
    refine for_it walk_list (fun i σ Hc => ∃ rch que pl, σ = [some (.ref a), some (.str name), some (.ref rc), some (.ref nm), some (.str x), pl] ∧ SI opts cs own name rch que (don ++ [x]) ∧ (∀ z ∈ don, ∀ p ∈ optOf opts z, p ∈ rch.map (·.1)) ∧ (∀ p ∈ (optOf opts x).take i, p ∈ rch.map (·.1)) ∧ Same H Hc ∧ (∃ o, Hc l = some (.frz o (.lst (sv (optOf opts x))))) ∧ Hc rc = some (.dK (asK V.str rch)) ∧ Hc nm = some (.lst (sv que)))
      ⟨rch, r, pl, rfl, ⟨si.way, si.full, by have := si.nd; simpa using this, fun z => by rw [← si.mem z]; simp⟩, hdone, fun p hp => by simp at hp, sE, hlz, ercE, enmE⟩
      (fun i σ Hc _ ⟨_, _, _, _, _, _, _, _, ⟨o, e⟩, _⟩ => .inl (.inr ⟨o, e⟩)) ?_ ?_
    · rintro i y σ Hc H2 hi ⟨rch, que, pl, rfl, si, hdone, hdx, sc, hl2, erc, enm⟩ ⟨rfl, hc⟩
      obtain ⟨p, hp1, rfl⟩ := get_map hc
      have hpm := List.mem_of_getElem? hp1
      refine ⟨_, rfl, _, rfl, rc, _, rfl, .inl ⟨_, Sum.inr p, .inl erc, rfl, rfl⟩, _, rfl, ?_⟩
      rw [asK_get]
      cases hg : getA rch p with
      | some v =>
        refine itF rfl ⟨rch, que, _, rfl, si, hdone, fun z hz => ?_, sc, hl2, erc, enm⟩
        rw [take_snoc hp1, List.mem_append] at hz
        rcases hz with hz | hz
        · exact hdx z hz
        · rw [List.mem_singleton.mp hz]; exact getA_key hg
      | none =>
        have hpk := getA_none.mp hg
        have hpc := hps.2.2 p hpm
        have hrl := si.rlen j
        refine itT rfl ?_
        refine ⟨_, rfl, _, rfl, _, rfl, rc, _, rfl, .inl ⟨_, Sum.inr p, erc, rfl, small1000 (by rw [asK_length]; omega), rfl⟩, ?_⟩
        have e6 : putK (asK V.str rch) (Sum.inr p) (V.str x) = asK V.str (rch ++ [(p, x)]) := by rw [asK_put, putA_new x hpk]
        rw [e6]
        have sF := same_up sc hrc (.dK (asK V.str (rch ++ [(p, x)])))
        have ercF : (upd H2 rc (.dK (asK V.str (rch ++ [(p, x)])))) rc = some (.dK (asK V.str (rch ++ [(p, x)]))) := upd_same
        have enmF : (upd H2 rc (.dK (asK V.str (rch ++ [(p, x)])))) nm = some (.lst (sv que)) := by rw [upd_ne nrn.symm]; exact enm
        have hlF : ∃ o, (upd H2 rc (.dK (asK V.str (rch ++ [(p, x)])))) l = some (.frz o (.lst (sv (optOf opts x)))) := by
          obtain ⟨o, e⟩ := hl2
          exact ⟨o, by rw [upd_ne (ne_of e erc (fun z => nomatch z))]; exact e⟩
        generalize upd H2 rc (.dK (asK V.str (rch ++ [(p, x)]))) = Hf at sF ercF enmF hlF
        have hv := (si.mem x).mp (List.mem_append_left _ (List.mem_append_right _ (List.mem_singleton.mpr rfl)))
        obtain ⟨cv, hcv⟩ := getA_of_key hpc
        have hcv2 : cntOf cs p = cv := by unfold cntOf; rw [hcv]; rfl
        refine ⟨_, rfl, a, dx, _, rfl, sF _ _ h1, nof, _, rfl, a, w, p, opts, cs, own, rfl, hA.s sF, by omega, fun l1 H5 hl1 s5 e5 => ?_⟩
        have s05 := sF.trans s5
        refine ⟨l1, _, rfl, .inl (SqL.of e5), _, rfl, a, _, dx, _, _, rfl, s05 _ _ h1, T.clsA, T.nA_own_counts, lk3a, _, rfl, n, _, rfl, .inl ⟨ctK cs, Sum.inr p, Rd.s h2 s05, rfl, by rw [ctK_as, asK_get, hcv]; rfl⟩, _, _, rfl, rfl, _, rfl, ?_⟩
        rw [List.length_map]
        by_cases hlt : ((owned own p).length : Int) < cv
        · refine itT (decide_eq_true hlt) ?_
          refine ⟨_, rfl, _, rfl, sz_line (by decide : 2 ≤ 1000), fun t ht => ?_⟩
          have hht : H t = none := by
            cases z : H t with
            | none => rfl
            | some u => rw [s05 _ _ z] at ht; cases ht
          have erc5 := s5 _ _ ercF
          refine k t _ rc (rch ++ [(p, x)]) (some p) (s05.trans (same_new ht _)) hht hrc upd_same (by rw [upd_ne (ne_of_none erc5 ht)]; exact erc5) (way_add si.way hpk hxo hpm hv) ⟨by rw [List.map_append]; exact List.mem_append_right _ (by simp), hpc, by rw [hcv2]; exact hlt⟩
        · refine itF (decide_eq_false hlt) ?_
          refine ⟨_, rfl, .inl ⟨rfl, _, SqL.of (s5 _ _ enmF)⟩, _, rfl, a, dx, _, rfl, s05 _ _ h1, nof, _, rfl, a, w, p, opts, cs, own, rfl, hA.s s05, by omega, fun l2 H6 hl2' s6 e6 => ?_⟩
          have s06 := s05.trans s6
          have si2 := si.add pt hno hpk (List.mem_append_right _ (List.mem_singleton.mpr rfl)) hxo hpm hpc (by rw [hcv2]; exact Int.not_lt.mp hlt)
          have hl4 := si2.lens j pt hname
          have enm6 := s6 _ _ (s5 _ _ enmF)
          refine ⟨nm, l2, _, _, rfl, rfl, enm6, e6, ?_, ?_⟩
          · rw [List.length_map, List.length_map]
            simp only [List.length_append] at hl4
            exact sz_line (by omega)
          refine ⟨rch ++ [(p, x)], que ++ owned own p, _, rfl, si2, fun z hz p' hp' => ?_, fun z hz => ?_, same_up s06 hnm0 _, ?_, ?_, ?_⟩
          · rw [List.map_append]; exact List.mem_append_left _ (hdone z hz p' hp')
          · rw [take_snoc hp1, List.mem_append] at hz
            rw [List.map_append]
            rcases hz with hz | hz
            · exact List.mem_append_left _ (hdx z hz)
            · rw [List.mem_singleton.mp hz]; exact List.mem_append_right _ (by simp)
          · obtain ⟨o, e⟩ := hlF
            have e' := s6 _ _ (s5 _ _ e)
            exact ⟨o, by rw [upd_ne (ne_of e' enm6 (fun z => nomatch z))]; exact e'⟩
          · rw [upd_ne nrn]; exact s6 _ _ (s5 _ _ ercF)
          · rw [upd_same, sv, sv, sv, List.map_append]
    · rintro σ Hc ⟨rch, que, pl, rfl, si, hdone, hdx, sc, hl2, erc, enm⟩
      rw [List.length_map, List.take_length] at hdx
      have hl3 := si.lens j pt hname
      refine ⟨m - 1, by omega, rch, que, don ++ [x], _, pl, rfl, si, fun z hz => ?_, sc, erc, enm, by rw [List.length_append, List.length_singleton]; omega⟩
      rcases List.mem_append.mp hz with hz | hz
      · exact hdone z hz
      · rw [List.mem_singleton.mp hz]; exact hdx
end
end Fl
namespace Fl
open PySem PySem.Spec L2
/-- all but the object at w is as it was -/
def But (w : Addr) (H H' : Hp) : Prop := ∀ b u, b ≠ w → H b = some u → H' b = some u
theorem But.of {w : Addr} {H H' : Hp} (s : Same H H') : But w H H' := fun b u _ e => s b u e
theorem But.trans {w : Addr} {H H1 H2 : Hp} (a : But w H H1) (b : But w H1 H2) : But w H H2 := fun x u n e => b x u n (a x u n e)
theorem But.up {w : Addr} {H H' : Hp} (a : But w H H') (o : HO) : But w H (upd H' w o) := fun x u n e => by rw [upd_ne n]; exact a x u n e
theorem But.seq {w : Addr} {H H' : Hp} {l : Addr} {o : Obj} {u v : HO} (a : But w H H') (hw : H w = some v) (hv : ∀ o u, v ≠ .frz o u) (h : H l = some (.frz o u)) : H' l = some (.frz o u) := a l _ (ne_of h hw (fun z => hv o u z.symm)) h
/-- the pieces but the owner -/
theorem AsgAt.but {K : PySem.W.Frag} {H H' : Hp} {a w : Addr} {opts : Opts} {cs : Cts} {own own' : Own} (h : AsgAt K H a w opts cs own) (b : But w H H') (hw : H' w = some (.dK (asK V.str own'))) : AsgAt K H' a w opts cs own' := by
  obtain ⟨dx, n, od, q, kvo, h1, h2, h3, h4, h5, h6⟩ := h
  refine ⟨dx, n, od, q, kvo, b _ _ (ne_of h1 h5 (fun z => nomatch z)) h1, ?_, b _ _ (ne_of h3 h5 (fun z => nomatch z)) h3, ⟨h4.1, fun i x e => ?_⟩, hw, h6⟩
  · exact h2.imp (b _ _ h6) fun ⟨o, e⟩ => ⟨o, b _ _ h6 e⟩
  · obtain ⟨l, e1, o, e2⟩ := h4.2 i x e
    exact ⟨l, e1, o, b _ _ (ne_of e2 h5 (fun z => nomatch z)) e2⟩
theorem nd_idx {rch : Own} (nd : (rch.map (·.1)).Nodup) {i k : Nat} {p n n' : Str} (h1 : rch[i]? = some (p, n)) (h2 : rch[k]? = some (p, n')) : i = k := by
  have e1 : (rch.map (·.1))[i]? = some p := by rw [List.getElem?_map, h1]; rfl
  have e2 : (rch.map (·.1))[k]? = some p := by rw [List.getElem?_map, h2]; rfl
  exact nd_ix nd e1 e2
def AIat (own : Own) (name : Str) (rch own' : Own) : Option Str → Nat → Prop
  | none, _ => ∀ n, n ∈ own'.map (·.1) ↔ n ∈ own.map (·.1) ∨ n = name
  | some p, m => (∀ n, n ∈ own'.map (·.1) ↔ n ∈ own.map (·.1)) ∧ ∃ n', rch[m]? = some (p, n') ∧ ∀ n, (n = name ∨ ∃ (k : Nat) (q nn : Str), k < m ∧ rch[k]? = some (q, nn) ∧ getA own n = some q) → getA own' n = getA own n
/-- amid an assigning: the player that lost a name -/
structure AI (opts : Opts) (own : Own) (name : Str) (rch : Own) (p0 : Str) (own' : Own) (pl : Option Str) (m : Nat) : Prop where
  nd : (own'.map (·.1)).Nodup
  sub : ∀ n p, getA own' n = some p → n ∈ opts.map (·.1) ∧ p ∈ optOf opts n
  cn : ∀ r, cnt own' r + (if pl = some r then 1 else 0) = cnt own r + (if p0 = r then 1 else 0)
  at_ : AIat own name rch own' pl m
theorem AI.step {opts : Opts} {own : Own} {name : Str} {rch : Own} {p0 p : Str} {own' : Own} {m : Nat} (w : Way opts own name rch) (hno : getA own name = none) (h : AI opts own name rch p0 own' (some p) m) :
    ∃ n', getA rch p = some n' ∧ n' ∈ opts.map (·.1) ∧ ∃ m', AI opts own name rch p0 (putA own' n' p) (getA own' n') m' ∧ ((getA own' n').isSome = true → m' < m) := by
  obtain ⟨hk, n', hm, ag⟩ := h.at_
  obtain ⟨w1, w2, w3⟩ := w.ok m p n' hm
  have hg : getA rch p = some n' := mem_getA w.nd (List.mem_of_getElem? hm)
  refine ⟨n', hg, w1, ?_⟩
  have sub : ∀ n q, getA (putA own' n' p) n = some q → n ∈ opts.map (·.1) ∧ q ∈ optOf opts n := fun n q e => by
    rw [getA_put] at e
    by_cases hn : n = n'
    · rw [if_pos hn] at e; cases e; subst hn; exact ⟨w1, w2⟩
    · rw [if_neg hn] at e; exact h.sub n q e
  have hcn : ∀ r, cnt (putA own' n' p) r + (if getA own' n' = some r then 1 else 0) = cnt own r + (if p0 = r then 1 else 0) := fun r => by
    have e1 := cnt_put h.nd n' p r
    have e2 := h.cn r
    have e3 : (if (some p : Option Str) = some r then 1 else 0) = (if p = r then (1 : Nat) else 0) := by
      by_cases e : p = r <;> simp [e]
    omega
  rcases w3 with rfl | ⟨k, p', n2, hkm, hk2, ho⟩
  · have hb : getA own' n' = none := by rw [ag n' (.inl rfl)]; exact hno
    rw [hb] at hcn ⊢
    refine ⟨0, ⟨nodup_put h.nd _ _, sub, hcn, ?_⟩, fun e => by cases e⟩
    intro n
    rw [keys_put]
    have hnk : n' ∉ own'.map (·.1) := getA_none.mp hb
    rw [if_neg hnk, List.mem_append, hk n, List.mem_singleton]
  · have hb : getA own' n' = some p' := by rw [ag n' (.inr ⟨k, p', n2, hkm, hk2, ho⟩)]; exact ho
    rw [hb] at hcn ⊢
    refine ⟨k, ⟨nodup_put h.nd _ _, sub, hcn, ?_⟩, fun _ => hkm⟩
    have hnk : n' ∈ own'.map (·.1) := getA_key hb
    refine ⟨fun n => ?_, n2, hk2, fun n hn => ?_⟩
    · rw [keys_put, if_pos hnk]; exact hk n
    · have hne : n ≠ n' := fun e => by
        subst e
        rcases hn with rfl | ⟨k', q, nn, hk', hq, hoq⟩
        · rw [hno] at ho; cases ho
        · rw [ho] at hoq; cases hoq
          have := nd_idx w.nd hk2 hq
          omega
      rw [getA_put, if_neg hne]
      exact ag n (hn.imp id fun ⟨k', q, nn, hk', z⟩ => ⟨k', q, nn, by omega, z⟩)
/-- there is no way to give each name to one of its players -/
def Stuck (opts : Opts) (cs : Cts) (own : Own) (name : Str) : Prop := name ∈ opts.map (·.1) ∧ getA own name = none ∧ ∃ rch, Way opts own name rch ∧ Found opts cs own name rch none
def AsgEnd (opts : Opts) (cs : Cts) (own : Own) (name : Str) (own' : Own) (v : V) : Prop :=
  (v = .bl true ∧ ∀ n, n ∈ own'.map (·.1) ↔ n ∈ own.map (·.1) ∨ n = name) ∨ (v = .bl false ∧ own' = own ∧ Stuck opts cs own name)
def spAssign (K : PySem.W.Frag) : Sp := fun vs H Q _ => ∃ a w name opts cs own, vs = [.ref a, .str name] ∧ AsgAt K H a w opts cs own ∧ Job opts cs ∧ Part opts cs own ∧ name ∈ opts.map (·.1) ∧ getA own name = none ∧
  ∀ v H' own', But w H H' → AsgAt K H' a w opts cs own' → Part opts cs own' → AsgEnd opts cs own name own' v → Q v H'
def spStuck (K : PySem.W.Frag) : Sp := fun vs H Q _ => ∃ a w opts cs, vs = [.ref a] ∧ AsgAt K H a w opts cs [] ∧ Job opts cs ∧
  ∀ v H' own', But w H H' → AsgAt K H' a w opts cs own' → Part opts cs own' → ((v = .non ∧ ∀ n ∈ opts.map (·.1), n ∈ own'.map (·.1)) ∨ ∃ name, v = .str name ∧ Stuck opts cs own' name) → Q v H'
def spBlocked (K : PySem.W.Frag) : Sp := fun vs H Q _ => ∃ a w name opts cs own, vs = [.ref a, .str name] ∧ AsgAt K H a w opts cs own ∧ Job opts cs ∧ Part opts cs own ∧ name ∈ opts.map (·.1) ∧ getA own name = none ∧
  Ret H Q fun v _ => ∃ p, v = .ref p
section
variable {P : Program} {w : World} {K : PySem.W.Frag} {mg : Str → Option Value} {base : Heap}
theorem ok_A_assign (T : TX K mg) : Fok P w K mg base 3 (He.ma K (AC K) "assign") ["self", "name"] (spAssign K) := by
  have F_A_search := ok_A_search (P := P) (w := w) (base := base) T
  refine fok_mk T.f_A_assign sc_A_assign (fun _ _ _ _ _ _ us hl => match us, hl with | [_, _], _ => rfl) (fun vs H Q E h => ?_) (fun cdv A outer s H vs Q E hr h => ?_)
  · obtain ⟨a, w, name, opts, cs, own, rfl, _⟩ := h; rfl
  obtain ⟨a, w, name, opts, cs, own, rfl, hA, j, pt, hname, hno, k⟩ := h
  obtain ⟨dx, n, od, q, kvo, h1, h2, h3, h4, h5, h6⟩ := id hA
  have nof : ([("own_counts", .ref n), ("options", .ref od), ("owner", .ref w)] : List (Str × V)).lookup ("search" : Str) = none := by
    rw [lk_miss (by decide +kernel), lk_miss (by decide +kernel), lk_miss (by decide +kernel)]; rfl
  refine ⟨_, (pss_cons (ps_asg (pe_m F_A_search T.clsA T.mA_search (hr.mono (by decide)) (pv 0) (pa_cons (pv 1) pa_nil)) (k_gtup K (by rfl) rfl (pgs_cons (pg_name (i := 2) sc_A_assign.nd rfl (Or.inl rfl)) (pgs_cons (pg_name (i := 3) sc_A_assign.nd rfl (Or.inl rfl)) pgs_nil))))
      (pss_cons (ps_if (pt_cmpR op_isN (pv 2) pe_non (nomark _)) (pss_one (ps_ret pe_bl)) pss_nil)
      (pss_cons (ps_while PassesOwn.never (pt_cmpR op_notN (pv 2) pe_non (nomark _)) (pss_cons (ps_set (i := 4) sc_A_assign.nd rfl (Or.inl rfl) (pe_dget (hu_of hr) (pv 3) (pv 2) (fun _ _ => rfl)))
      (pss_cons (ps_set (i := 5) sc_A_assign.nd rfl (Or.inl rfl) (pe_dget1 (hu_of hr) (k_fld K (by rfl) (pv 0)) (pv 4) ⟨rfl, rfl, rfl, rfl⟩))
      (pss_cons (ps_dput (hu_of hr) (k_fld K (by rfl) (pv 0)) (pv 4) (pv 2) rfl)
      (pss_one (ps_set (i := 2) sc_A_assign.nd rfl (Or.inl rfl) (pv 5)))))))
      (pss_one (ps_ret pe_bl))))), ?_⟩
  refine ⟨_, rfl, a, dx, _, rfl, h1, nof, _, rfl, a, w, name, opts, cs, own, rfl, hA, j, pt, hname, hno, fun t H1 rc rch res s1 ht hrc et erc way fd => ?_⟩
  refine ⟨t, [optV res, .ref rc], rfl, .inl (.inl et), rfl, _, [.ref rc], rfl, _, [], rfl, rfl, ?_⟩
  have hA1 := hA.s s1
  cases res with
  | none =>
    refine ⟨_, rfl, rfl, _, rfl, itT (by simp [optV]) ?_⟩
    exact k _ _ own (.of s1) hA1 pt (.inr ⟨rfl, rfl, hname, hno, rch, way, fd⟩)
  | some p0 =>
    refine ⟨_, rfl, rfl, _, rfl, itF (by simp [optV]) ?_⟩
    obtain ⟨f1, f2, f3⟩ := fd
    have nwr : rc ≠ w := fun e => by rw [e, h5] at hrc; cases hrc
    refine ⟨fun m σ Hc => ∃ own' pl m' cu be, σ = [some (.ref a), some (.str name), some (optV pl), some (.ref rc), cu, be] ∧ AI opts own name rch p0 own' pl m' ∧ But w H1 Hc ∧ Hc w = some (.dK (asK V.str own')) ∧ m = (match pl with | none => 0 | some _ => m' + 1), ?_, ?_⟩
    · obtain ⟨z, hz, e⟩ := List.mem_map.mp f1
      obtain ⟨i, hi⟩ := List.mem_iff_getElem?.mp hz
      obtain ⟨z1, z2⟩ := z
      obtain rfl : z1 = p0 := e
      refine ⟨_, own, some z1, i, none, none, rfl, ⟨pt.nd, pt.sub, fun r => ?_, fun n => Iff.rfl, z2, hi, fun _ _ => rfl⟩, .of (Same.refl _), s1 _ _ h5, rfl⟩
      by_cases e : z1 = r <;> simp [e]
    · rintro m σ Hc ⟨own', pl, m', cu, be, rfl, ai, bt, ew, rfl⟩
      cases pl with
      | none =>
        refine ⟨_, rfl, rfl, _, rfl, itF (by simp [optV]) ?_⟩
        have hp : Part opts cs own' := ⟨ai.nd, ai.sub, fun r hr => by
          have e1 := ai.cn r
          have e2 := pt.le r hr
          by_cases e : p0 = r
          · subst e
            simp at e1
            omega
          · simp [e] at e1
            omega⟩
        exact k _ _ own' ((But.of s1).trans bt) (hA1.but bt ew) hp (.inl ⟨rfl, ai.at_⟩)
      | some p =>
        refine ⟨_, rfl, rfl, _, rfl, itT (by simp [optV]) ?_⟩
        obtain ⟨n', hg, hn', m2, ai2, hm2⟩ := ai.step way hno
        refine ⟨fun σ' H' => ∃ m3, m3 < m' + 1 ∧ ∃ own' pl m' cu be, σ' = [some (.ref a), some (.str name), some (optV pl), some (.ref rc), cu, be] ∧ AI opts own name rch p0 own' pl m' ∧ But w H1 H' ∧ H' w = some (.dK (asK V.str own')) ∧ m3 = (match pl with | none => 0 | some _ => m' + 1), fun _ _ z => z, ?_⟩
        have erc2 := bt rc _ nwr erc
        refine ⟨_, rfl, _, rfl, rc, _, rfl, .inl ⟨_, Sum.inr p, .inl erc2, rfl, by rw [asK_get, hg]; rfl⟩, ?_⟩
        have ea := bt a _ (ne_of (s1 _ _ h1) (s1 _ _ h5) (fun z => nomatch z)) (s1 _ _ h1)
        refine ⟨_, rfl, a, _, dx, _, _, rfl, ea, T.clsA, T.nA_owner, lk3c, w, rfl, .inl ⟨_, .inl ew⟩, _, rfl, _, .inl ⟨_, Sum.inr n', .inl ew, rfl, rfl⟩, ?_⟩
        rw [asK_get]
        have hb : ((getA own' n').map V.str).getD V.non = optV (getA own' n') := by cases getA own' n' <;> rfl
        rw [hb]
        have hl : own'.length ≤ 30 := by
          have : (own'.map (·.1)).length ≤ (opts.map (·.1)).length := ai.nd.length_le_of_subset fun z hz => by
            obtain ⟨v, hv⟩ := getA_of_key hz
            exact (ai.sub z v hv).1
          rw [List.length_map, List.length_map] at this
          have := j.len; omega
        refine ⟨_, rfl, _, rfl, a, _, dx, _, _, rfl, ea, T.clsA, T.nA_owner, lk3c, _, rfl, w, _, rfl, .inl ⟨_, Sum.inr n', ew, rfl, small1000 (by rw [asK_length]; omega), rfl⟩, ?_⟩
        refine ⟨_, rfl, _, ?_, putA own' n' p, getA own' n', m2, _, _, rfl, ai2, bt.up _, ?_, rfl⟩
        · cases e : getA own' n' with
          | none => exact Nat.succ_pos _
          | some q2 => exact Nat.succ_lt_succ (hm2 (by rw [e]; rfl))
        · rw [upd_same, ← asK_put]; rfl
theorem ok_A_stuck (T : TX K mg) : Fok P w K mg base 4 (He.ma K (AC K) "stuck") ["self"] (spStuck K) := by
  have F_A_assign := ok_A_assign (P := P) (w := w) (base := base) T
  refine fok_mk T.f_A_stuck sc_A_stuck (fun _ _ _ _ _ _ us hl => match us, hl with | [_], _ => rfl) (fun vs H Q E h => ?_) (fun cdv A outer s H vs Q E hr h => ?_)
  · obtain ⟨a, w, opts, cs, rfl, _⟩ := h; rfl
  obtain ⟨a, w, opts, cs, rfl, hA, j, k⟩ := h
  obtain ⟨dx, n, od, q, kvo, h1, h2, h3, h4, h5, h6⟩ := id hA
  refine ⟨_, (pss_cons (ps_for PassesOwn.never rfl (pi_keys (k_fld K (by rfl) (pv 0))) (pg_name (i := 1) sc_A_stuck.nd rfl (Or.inl rfl)) (pss_one (ps_if (pt_not (pt_val (pe_m F_A_assign T.clsA T.mA_assign (hr.mono (by decide)) (pv 0) (pa_cons (pv 1) pa_nil)))) (pss_one (ps_ret (pv 1))) pss_nil)))
      (pss_one (ps_ret pe_non))), ?_⟩
  have nof : ([("own_counts", .ref n), ("options", .ref od), ("owner", .ref w)] : List (Str × V)).lookup ("assign" : Str) = none := by
    rw [lk_miss (by decide +kernel), lk_miss (by decide +kernel), lk_miss (by decide +kernel)]; rfl
  have naw : a ≠ w := ne_of h1 h5 (fun z => nomatch z)
  have now : od ≠ w := ne_of h3 h5 (fun z => nomatch z)
  refine ⟨_, rfl, a, _, dx, _, _, rfl, h1, T.clsA, T.nA_options, lk3b, od, q, rfl, .inl ⟨kvo, h3, ?_⟩⟩
  refine for_it walk_keys (fun i σ Hc => ∃ own' nm, σ = [some (.ref a), nm] ∧ But w H Hc ∧ AsgAt K Hc a w opts cs own' ∧ Part opts cs own' ∧ ∀ z, z ∈ own'.map (·.1) ↔ z ∈ (opts.map (·.1)).take i) ⟨[], none, rfl, .of (Same.refl _), hA, ⟨by simp, fun n p e => by simp [getA_nil] at e, fun p hp => ?_⟩, fun z => by simp⟩ (fun i σ Hc _ ⟨_, _, _, bt, _⟩ => bt _ _ now h3) ?_ ?_
  · have hc0 : cnt ([] : Own) p = 0 := rfl
    rw [hc0]
    obtain ⟨v, hv⟩ := getA_of_key hp
    unfold cntOf
    rw [hv]
    exact j.pos _ (getA_mem hv)
  · rintro i y σ Hc H2 hi ⟨own', nm, rfl, bt, hA', pt', hk'⟩ ⟨rfl, k0, v0, hkv, rfl⟩
    have e0 : (kvo.map (·.1))[i]? = some k0 := by rw [List.getElem?_map, hkv]; rfl
    rw [h4.keys] at e0
    obtain ⟨name, hnm, rfl⟩ := get_map e0
    have hn := List.mem_of_getElem? hnm
    have hno : getA own' name = none := getA_none.mpr fun hm => by
      obtain ⟨jx, hj⟩ := List.mem_iff_getElem?.mp ((hk' name).mp hm)
      rw [List.getElem?_take] at hj
      by_cases hji : jx < i
      · rw [if_pos hji] at hj
        have := nd_ix j.nd hj hnm
        omega
      · rw [if_neg hji] at hj; cases hj
    refine ⟨_, rfl, a, dx, _, rfl, bt _ _ naw h1, nof, _, rfl, a, w, name, opts, cs, own', rfl, hA', j, pt', hn, hno, fun v H3 own2 bt2 hA2 pt2 e2 => ?_⟩
    rcases e2 with ⟨rfl, hk2⟩ | ⟨rfl, rfl, st⟩
    · refine ⟨true, rfl, iteF ⟨own2, _, rfl, bt.trans bt2, hA2, pt2, fun z => ?_⟩⟩
      rw [hk2, hk', take_snoc hnm, List.mem_append, List.mem_singleton]
    · exact ⟨false, rfl, iteT ⟨_, rfl, k _ _ own2 (bt.trans bt2) hA2 pt2 (.inr ⟨name, rfl, st⟩)⟩⟩
  · rintro σ Hc ⟨own', nm, rfl, bt, hA', pt', hk'⟩
    refine k _ _ own' bt hA' pt' (.inl ⟨rfl, fun z hz => (hk' z).mpr ?_⟩)
    rw [h4.1, ← List.length_map (f := (·.1)), List.take_length]
    exact hz
theorem ok_A_blocked (T : TX K mg) : Fok P w K mg base 5 (He.ma K (AC K) "blocked") ["self", "name"] (spBlocked K) := by
  have F_A_search := ok_A_search (P := P) (w := w) (base := base) T
  have F_C_init := ok_C_init (P := P) (w := w) (base := base) T
  refine fok_mk T.f_A_blocked sc_A_blocked (fun _ _ _ _ _ _ us hl => match us, hl with | [_, _], _ => rfl) (fun vs H Q E h => ?_) (fun cdv A outer s H vs Q E hr h => ?_)
  · obtain ⟨a, w, name, opts, cs, own, rfl, _⟩ := h; rfl
  obtain ⟨a, w, name, opts, cs, own, rfl, hA, j, pt, hname, hno, k⟩ := h
  obtain ⟨dx, n, od, q, kvo, h1, h2, h3, h4, h5, h6⟩ := id hA
  refine ⟨_, (pss_cons (ps_set (i := 2) sc_A_blocked.nd rfl (Or.inr rfl) (pe_ix (k_ixT K (by rfl)) (pe_m F_A_search T.clsA T.mA_search (hr.mono (by decide)) (pv 0) (pa_cons (pv 1) pa_nil)) pe_int (fun _ _ => rfl)))
      (pss_one (ps_ret (pe_mk F_C_init T.mkC T.gC (hr.mono (by decide)) (pa_cons (pe_lst (pa_cons (pv 1) (StX.pa_star (pe_lockR (pe_lc (own := [("other", 3), ("player", 4)]) (g := gTup K 2 (gCons (gName 3) (gCons (gName 4) gNil))) rfl sc_A_blocked.nd (pi_items (k_fld K (by rfl) (pv 0))) (blkOk_by (N := ["self", "name", "reached", "other", "player"]) (sc := defScope s_A_blocked) (by decide +kernel)) (fun _ _ _ _ _ => by exact (k_gtup K (by rfl) rfl (pgs_cons (pg_name (i := 3) sc_A_blocked.nd rfl (Or.inl rfl)) (pgs_cons (pg_name (i := 4) sc_A_blocked.nd rfl (Or.inl rfl)) pgs_nil)))) (fun _ _ _ _ _ => by exact (pts_one (pt_cmp (pc_din (hu_of hr) (pv 4) (pv 2)) (by rfl)))) (fun _ _ _ _ _ => by exact ((pv 3))))) pa_nil))) pa_nil))))), ?_⟩
  have hol := pt.len j
  have nof : ([("own_counts", .ref n), ("options", .ref od), ("owner", .ref w)] : List (Str × V)).lookup ("search" : Str) = none := by
    rw [lk_miss (by decide +kernel), lk_miss (by decide +kernel), lk_miss (by decide +kernel)]; rfl
  refine ⟨_, rfl, a, dx, _, rfl, h1, nof, _, rfl, a, w, name, opts, cs, own, rfl, hA, j, pt, hname, hno, fun t H1 rc rch res s1 ht hrc et erc way fd => ?_⟩
  refine ⟨t, _, 1, _, rfl, rfl, .inl (.inl et), atN _ 1, ?_⟩
  refine ⟨_, rfl, w, _, .inl (s1 _ _ h5), fun H2 o md2 g2 e2 => ?_⟩
  have naw : a ≠ w := ne_of h1 h5 (fun z => nomatch z)
  have nrw : rc ≠ w := fun e => by rw [e, h5] at hrc; cases hrc
  refine ⟨_, rfl, a, _, dx, _, _, rfl, (e2 a naw).trans (s1 _ _ h1), T.clsA, T.nA_owner, lk3c, w, o, _, rfl, g2, lc_g walk_items (fun i acc _ => acc = sv (((own.take i).filter fun q => (getA rch q.2).isSome).map (·.1))) (by rw [asK_length]; omega) (fun H s => s _ _ g2) (fun _ _ => rfl) (fun _ _ _ _ q _ => q) (fun i acc _ e => by
    rw [e, List.length_map, List.length_map]; exact Nat.le_trans (List.length_filter_le _ _) (by rw [List.length_take]; exact Nat.min_le_left _ _)) ?_ ?_⟩
  · rintro i acc y H3 H4 Qy Qn hi s3 rfl ⟨t2, x1, x2, rfl, ht2, rfl, f1, f2⟩ ky kn
    dsimp only at f1 f2
    obtain ⟨⟨nm, pl⟩, hq⟩ := get_lt (l := own) (i := i) (by rw [asK_length] at hi; exact hi)
    rw [asK, List.getElem?_map, hq] at f1 f2
    cases f1; cases f2
    have s4 := same_new ht2 (.tup [.str nm, .str pl])
    have e := take_snoc hq
    refine ⟨t2, _, rfl, .inl (.inl upd_same), rfl, _, _, rfl, _, [], rfl, rfl, rfl, ?_⟩
    refine ⟨_, rfl, _, rfl, rc, _, rfl, .inl ⟨_, Sum.inr pl, .inl (s4 _ _ (s3 _ _ ((e2 rc nrw).trans erc))), rfl, rfl⟩, _, rfl, ?_⟩
    rw [asK_get]
    rw [e] at ky kn
    rw [List.filter_append, List.filter_cons, List.filter_nil] at ky kn
    cases hg : getA rch pl with
    | some v =>
      rw [if_pos (by rw [hg]; rfl), List.map_append] at ky
      exact itT rfl ⟨_, rfl, ky _ _ s4 (by rw [sv, sv, List.map_append]; rfl)⟩
    | none =>
      rw [if_neg (by rw [hg]; exact Bool.false_ne_true), List.append_nil] at kn
      exact itF rfl (kn _ s4 rfl)
  · intro D acc H3 hD s3 hacc e
    rw [asK_length, List.take_length] at e
    subst e
    refine ⟨s3 _ _ g2, fun H4 e4 e5 => ?_⟩
    have s14 : Same H1 H4 := lk_same e2 s3 e4 e5
    have s04 := s1.trans s14
    have hD4 := lk_new g2 s3 e5 hacc rfl
    have hsub : ∀ z ∈ name :: (own.filter fun q => (getA rch q.2).isSome).map (·.1), z ∈ opts.map (·.1) := fun z hz => by
      rcases List.mem_cons.mp hz with rfl | hz
      · exact hname
      · obtain ⟨q', hq', rfl⟩ := List.mem_map.mp hz
        have := mem_getA pt.nd (k := q'.1) (v := q'.2) (List.mem_filter.mp hq').1
        exact (pt.sub _ _ this).1
    have hnd : (name :: (own.filter fun q => (getA rch q.2).isSome).map (·.1)).Nodup := by
      rw [List.nodup_cons]
      refine ⟨fun hm => ?_, pt.nd.sublist (List.Sublist.map _ List.filter_sublist)⟩
      obtain ⟨q', hq', e'⟩ := List.mem_map.mp hm
      exact getA_none.mp hno (List.mem_map.mpr ⟨q', (List.mem_filter.mp hq').1, e'⟩)
    have hlen : (name :: (own.filter fun q => (getA rch q.2).isSome).map (·.1)).length ≤ 30 := by
      have := hnd.length_le_of_subset hsub
      rw [List.length_map] at this
      have := j.len; omega
    refine ⟨D, _, rfl, .inr (SqL.of hD4), ?_, fun l hl x dz nx nd ne => ?_⟩
    · rw [List.append_nil]
      show (sv (name :: (own.filter fun q => (getA rch q.2).isSome).map (·.1))).length ≤ sizeLine
      rw [List.length_map]; exact sz_line (by omega)
    · have sl := same_new hl (.lst (sv (name :: (own.filter fun q => (getA rch q.2).isSome).map (·.1))))
      have nlx : l ≠ x := fun e => by subst e; rw [upd_same] at nx; cases nx
      have nld : l ≠ dz := fun e => by subst e; rw [upd_same] at nd; cases nd
      refine ⟨x, dz, l, name :: (own.filter fun q => (getA rch q.2).isSome).map (·.1), rfl, upd_same, SqL.of ?_, fun z hz => j.nm z (hsub z hz), hlen, fun H5 hc kp => ⟨rfl, k _ _ ?_ ⟨x, rfl⟩⟩⟩
      · rw [upd_ne nlx, upd_ne nld, upd_same, List.append_nil]; rfl
      · exact (s04.trans (same_new hl _)).trans (made_same nx nd kp)
end
end Fl
namespace Fl
open PySem PySem.Spec L2
def others (A ms : List Str) : List Str := A.filter fun x => !decide (x ∈ ms)
def optsOf (rs : Rks) (A ms : List Str) : Opts := (others A ms).map fun x => (x, strikers rs ms x)
theorem optsOf_keys (rs : Rks) (A ms : List Str) : (optsOf rs A ms).map (·.1) = others A ms := by
  unfold optsOf
  rw [List.map_map]
  conv => rhs; rw [← List.map_id (others A ms)]
  rfl
theorem sub_full {α : Type} [DecidableEq α] {l m : List α} (nd : l.Nodup) (h : ∀ x ∈ l, x ∈ m) (hl : m.length ≤ l.length) : ∀ x ∈ m, x ∈ l := fun x hx => by
  refine Decidable.byContradiction fun hn => ?_
  have := (List.nodup_cons.mpr ⟨hn, nd⟩).length_le_of_subset (l₂ := m) fun z hz => (List.mem_cons.mp hz).elim (fun e => e ▸ hx) (h z)
  rw [List.length_cons] at this
  omega
theorem nodup_flat {α β : Type} {f : α → List β} : ∀ {R : List α}, R.Nodup → (∀ p ∈ R, (f p).Nodup) → (∀ p q z, p ≠ q → z ∈ f p → z ∈ f q → False) → (R.flatMap f).Nodup
  | [], _, _, _ => by simp
  | p :: r, nd, h1, h2 => by
    rw [List.nodup_cons] at nd
    rw [List.flatMap_cons, List.nodup_append]
    refine ⟨h1 p List.mem_cons_self, nodup_flat nd.2 (fun q hq => h1 q (List.mem_cons_of_mem _ hq)) h2, fun a ha b hb e => ?_⟩
    subst e
    obtain ⟨q, hq, hz⟩ := List.mem_flatMap.mp hb
    exact h2 p q a (fun e => nd.1 (by rw [e]; exact hq)) ha hz
theorem sum0 : ∀ cs : Cts, (cs.map fun q => cnt ([] : Own) q.1).sum = 0
  | [] => rfl
  | q :: r => by rw [List.map_cons, List.sum_cons, sum0 r]; rfl
theorem CK.keys {rs : Rks} {cs : Cts} {A : List Str} (c : CK rs cs) (g : GK rs A) (p : Str) : p ∈ cs.map (·.1) ↔ p ∈ rs.map (·.1) := by
  have hsub : ∀ x ∈ cs.map (·.1), x ∈ rs.map (·.1) := fun x hx => by
    obtain ⟨q, hq, rfl⟩ := List.mem_map.mp hx
    exact c.sub q hq
  refine ⟨hsub p, fun h => ?_⟩
  have hl : (rs.map (·.1)).length ≤ (cs.map (·.1)).length := by rw [List.length_map, List.length_map, c.len]; exact Nat.le_refl _
  exact sub_full c.nd hsub hl p h
theorem job_of {rs : Rks} {cs : Cts} {A ms : List Str} (g : GK rs A) (c : CK rs cs) : Job (optsOf rs A ms) cs := by
  have ho : ∀ x ∈ others A ms, x ∈ A := fun x hx => (List.mem_filter.mp hx).1
  refine ⟨?_, ?_, ?_, c.nd, ?_, fun q hq => (c.rng q hq).1, fun q hq => ?_⟩
  · rw [optsOf_keys]; exact g.gc.1.nodup.sublist List.filter_sublist
  · rw [optsOf_keys]; exact fun x hx => g.gc.2.1 x (ho x hx)
  · unfold optsOf; rw [List.length_map]; exact Nat.le_trans (List.length_filter_le _ _) g.gc.2.2
  · rw [c.len]; exact g.len
  · obtain ⟨x, hx, rfl⟩ := List.mem_map.mp hq
    refine ⟨(srt_SS _).nodup.sublist List.filter_sublist, ?_, fun p hp => ?_⟩
    · show (strikers rs ms x).length ≤ 30
      refine Nat.le_trans (List.length_filter_le _ _) ?_
      rw [srt_length g.nd, List.length_map]; exact g.len
    · rw [c.keys g]; exact (mem_srt _ _).mp (List.mem_filter.mp hp).1
theorem optOf_of {rs : Rks} {A ms : List Str} {x : Str} (hx : x ∈ others A ms) : optOf (optsOf rs A ms) x = strikers rs ms x := by
  unfold optOf
  have key : ∀ l : List Str, x ∈ l → getA (l.map fun x => (x, strikers rs ms x)) x = some (strikers rs ms x) := by
    intro l
    induction l with
    | nil => intro h; simp at h
    | cons y r ih =>
      intro h
      rw [List.map_cons, getA_cons]
      by_cases e : y = x
      · subst e; simp
      · rw [if_neg e]; exact ih ((List.mem_cons.mp h).resolve_left fun z => e z.symm)
  unfold optsOf
  rw [key _ hx]; rfl
/-- each name by a player below which all members stand; each player as often as it is to strike -/
structure IsAsg (rs : Rks) (A ms : List Str) (cs : Cts) (asg : Own) : Prop where
  keys : asg.map (·.1) = others A ms
  ok : ∀ x p, getA asg x = some p → p ∈ strikers rs ms x
  cn : ∀ q ∈ cs, (cnt asg q.1 : Int) = q.2
theorem others_nd {A ms : List Str} (h : GC A) : (others A ms).Nodup := h.1.nodup.sublist List.filter_sublist
/-- a closed search tells that there is none -/
theorem no_asg {rs : Rks} {A ms : List Str} {cs : Cts} {own : Own} {name : Str} (g : GK rs A) (c : CK rs cs) (pt : Part (optsOf rs A ms) cs own) (st : Stuck (optsOf rs A ms) cs own name) : ∀ asg, ¬ IsAsg rs A ms cs asg := fun asg ia => by
  obtain ⟨hn, hno, rch, way, cl, full⟩ := st
  rw [optsOf_keys] at hn
  have and' : (asg.map (·.1)).Nodup := by rw [ia.keys]; exact others_nd g.gc
  have hR := way.nd
  generalize hRe : rch.map (·.1) = R at hR cl full
  -- the names that were reached
  have hsub : (name :: R.flatMap (owned own)) ⊆ R.flatMap (owned asg) := by
    intro z hz
    have hz' : z = name ∨ ∃ p, p ∈ R ∧ getA own z = some p := by
      rcases List.mem_cons.mp hz with rfl | hz
      · exact .inl rfl
      · obtain ⟨p, hp, hz⟩ := List.mem_flatMap.mp hz
        exact .inr ⟨p, hp, mem_getA pt.nd (mem_owned.mp hz)⟩
    have hzo : z ∈ others A ms := by
      rcases hz' with rfl | ⟨p, _, e⟩
      · exact hn
      · have := (pt.sub z p e).1
        rwa [optsOf_keys] at this
    obtain ⟨p, hp⟩ := getA_of_key (l := asg) (k := z) (by rw [ia.keys]; exact hzo)
    have hps := ia.ok z p hp
    rw [← optOf_of hzo] at hps
    exact List.mem_flatMap.mpr ⟨p, cl z hz' p hps, mem_owned.mpr (getA_mem hp)⟩
  have hnd : (name :: R.flatMap (owned own)).Nodup := by
    rw [List.nodup_cons]
    refine ⟨fun hm => ?_, ?_⟩
    · obtain ⟨p, _, hz⟩ := List.mem_flatMap.mp hm
      have := mem_getA pt.nd (mem_owned.mp hz)
      rw [hno] at this; cases this
    · refine nodup_flat hR (fun p _ => owned_nodup pt.nd p) fun p q z hpq hz1 hz2 => ?_
      have e1 := mem_getA pt.nd (mem_owned.mp hz1)
      have e2 := mem_getA pt.nd (mem_owned.mp hz2)
      rw [e1] at e2; cases e2; exact hpq rfl
  have h1 := hnd.length_le_of_subset hsub
  rw [List.length_cons, List.length_flatMap, List.length_flatMap] at h1
  have h2 : ∀ l : List Str, (∀ p ∈ l, p ∈ R) → (l.map fun p => (owned asg p).length).sum ≤ (l.map fun p => (owned own p).length).sum := by
    intro l
    induction l with
    | nil => intro _; exact Nat.le_refl _
    | cons p r ih =>
      intro h
      obtain ⟨f1, f2⟩ := full p (h p List.mem_cons_self)
      obtain ⟨v, hv⟩ := getA_of_key f1
      have e := ia.cn (p, v) (getA_mem hv)
      have e2 : cntOf cs p = v := by unfold cntOf; rw [hv]; rfl
      have := ih fun q hq => h q (List.mem_cons_of_mem _ hq)
      simp only [List.map_cons, List.sum_cons]
      have e3 : ((owned asg p).length : Int) = v := e
      have e4 : v ≤ ((owned own p).length : Int) := by rw [← e2]; exact f2
      omega
  have := h2 R fun _ h => h
  omega
theorem sum_cnt : ∀ (cs : Cts) (own : Own), (cs.map (·.1)).Nodup → (∀ q ∈ own, q.2 ∈ cs.map (·.1)) → (cs.map fun q => cnt own q.1).sum = own.length
  | cs, [], _, _ => sum0 cs
  | cs, o :: t, nd, h => by
    have ih := sum_cnt cs t nd fun q hq => h q (List.mem_cons_of_mem _ hq)
    have e : (cs.map fun q => cnt (o :: t) q.1) = cs.map fun q => (if o.2 = q.1 then 1 else 0) + cnt t q.1 := List.map_congr_left fun q _ => cnt_cons o t q.1
    have one : ∀ l : Cts, (l.map (·.1)).Nodup → (l.map fun q => (if o.2 = q.1 then 1 else 0) + cnt t q.1).sum = (if o.2 ∈ l.map (·.1) then 1 else 0) + (l.map fun q => cnt t q.1).sum := by
      intro l
      induction l with
      | nil => intro _; rfl
      | cons q r ih2 =>
        intro nd
        rw [List.map_cons, List.nodup_cons] at nd
        have := ih2 nd.2
        simp only [List.map_cons, List.sum_cons, List.mem_cons, this]
        by_cases e1 : o.2 = q.1
        · have hn : ¬ o.2 ∈ r.map (·.1) := fun hm => nd.1 (by rw [← e1]; exact hm)
          rw [if_pos e1, if_neg hn, if_pos (Or.inl e1)]
          omega
        · by_cases e2 : o.2 ∈ r.map (·.1)
          · rw [if_neg e1, if_pos e2, if_pos (Or.inr e2)]; omega
          · rw [if_neg e1, if_neg e2, if_neg (fun h => h.elim e1 e2)]; omega
    rw [e, one cs nd, ih, if_pos (h o List.mem_cons_self), List.length_cons]; omega
/-- a full one is an assignment -/
theorem full_asg {rs : Rks} {A ms : List Str} {cs : Cts} {own : Own} (g : GK rs A) (c : CK rs cs) (htot : total cs = ((others A ms).length : Nat)) (pt : Part (optsOf rs A ms) cs own) (full : ∀ n ∈ (optsOf rs A ms).map (·.1), n ∈ own.map (·.1)) :
    IsAsg rs A ms cs ((others A ms).map fun x => (x, (getA own x).getD "")) := by
  rw [optsOf_keys] at full
  have hk : ∀ n, n ∈ own.map (·.1) ↔ n ∈ others A ms := fun n => ⟨fun h => by
    obtain ⟨v, hv⟩ := getA_of_key h
    have := (pt.sub n v hv).1
    rwa [optsOf_keys] at this, full n⟩
  have hlen : own.length = (others A ms).length := by
    have h1 := pt.nd.length_le_of_subset fun n hn => (hk n).mp hn
    have h2 := (others_nd (ms := ms) g.gc).length_le_of_subset fun n hn => (hk n).mpr hn
    rw [List.length_map] at h1 h2
    omega
  have hget : ∀ x ∈ others A ms, getA ((others A ms).map fun x => (x, (getA own x).getD "")) x = getA own x := by
    intro x hx
    have key : ∀ l : List Str, x ∈ l → getA (l.map fun x => (x, (getA own x).getD "")) x = some ((getA own x).getD "") := by
      intro l
      induction l with
      | nil => intro h; simp at h
      | cons y r ih =>
        intro h
        rw [List.map_cons, getA_cons]
        by_cases e : y = x
        · subst e; simp
        · rw [if_neg e]; exact ih ((List.mem_cons.mp h).resolve_left fun z => e z.symm)
    rw [key _ hx]
    obtain ⟨v, hv⟩ := getA_of_key ((hk x).mpr hx)
    rw [hv]; rfl
  have hkeys : ((others A ms).map fun x => (x, (getA own x).getD "")).map (·.1) = others A ms := by
    rw [List.map_map]
    conv => rhs; rw [← List.map_id (others A ms)]
    rfl
  have hperm : ∀ p, cnt ((others A ms).map fun x => (x, (getA own x).getD "")) p = cnt own p := by
    intro p
    have nd1 : (((others A ms).map fun x => (x, (getA own x).getD "")).map (·.1)).Nodup := by rw [hkeys]; exact others_nd g.gc
    have ext : ∀ z, z ∈ owned ((others A ms).map fun x => (x, (getA own x).getD "")) p ↔ z ∈ owned own p := fun z => by
      rw [mem_owned, mem_owned]
      constructor
      · intro h
        have hz : z ∈ others A ms := by rw [← hkeys]; exact List.mem_map.mpr ⟨_, h, rfl⟩
        have := mem_getA nd1 h
        rw [hget z hz] at this
        exact getA_mem this
      · intro h
        have h' := mem_getA pt.nd h
        have hz := (hk z).mp (getA_key h')
        rw [← hget z hz] at h'
        exact getA_mem h'
    have a1 := (owned_nodup nd1 p).length_le_of_subset fun z hz => (ext z).mp hz
    have a2 := (owned_nodup pt.nd p).length_le_of_subset fun z hz => (ext z).mpr hz
    unfold cnt; omega
  refine ⟨hkeys, fun x p hp => ?_, fun q hq => ?_⟩
  · have hx : x ∈ others A ms := by rw [← hkeys]; exact getA_key hp
    rw [hget x hx] at hp
    have := (pt.sub x p hp).2
    rwa [optOf_of hx] at this
  · rw [hperm]
    have hsum := sum_cnt cs own c.nd fun q' hq' => by
      obtain ⟨z1, z2⟩ := q'
      have e := mem_getA pt.nd hq'
      have h2 := (pt.sub z1 z2 e).2
      have hx := (pt.sub z1 z2 e).1
      rw [optsOf_keys] at hx
      rw [optOf_of hx] at h2
      rw [c.keys g]
      exact (mem_srt _ _).mp (List.mem_filter.mp h2).1
    have hle : ∀ q ∈ cs, (cnt own q.1 : Int) ≤ q.2 := fun q hq => by
      have := pt.le q.1 (List.mem_map.mpr ⟨q, hq, rfl⟩)
      have e : cntOf cs q.1 = q.2 := by unfold cntOf; rw [mem_getA c.nd (k := q.1) (v := q.2) hq]; rfl
      rw [e] at this; exact this
    rw [hlen] at hsum
    have eq : ∀ l : Cts, (∀ q ∈ l, (cnt own q.1 : Int) ≤ q.2) → ((l.map fun q => cnt own q.1).sum : Int) = (l.map (·.2)).sum → ∀ q ∈ l, (cnt own q.1 : Int) = q.2 := by
      intro l
      induction l with
      | nil => intro _ _ q hq; simp at hq
      | cons a r ih =>
        intro h1 h2 q hq
        have hle2 : ∀ l : Cts, (∀ q ∈ l, (cnt own q.1 : Int) ≤ q.2) → ((l.map fun q => cnt own q.1).sum : Int) ≤ (l.map (·.2)).sum := by
          intro l
          induction l with
          | nil => intro _; simp
          | cons b t ih3 =>
            intro h
            have := ih3 fun q hq => h q (List.mem_cons_of_mem _ hq)
            have := h b List.mem_cons_self
            simp only [List.map_cons, List.sum_cons]
            omega
        have h3 := hle2 r fun q hq => h1 q (List.mem_cons_of_mem _ hq)
        have h4 := h1 a List.mem_cons_self
        simp only [List.map_cons, List.sum_cons] at h2
        rcases List.mem_cons.mp hq with rfl | hq
        · omega
        · exact ih (fun q hq => h1 q (List.mem_cons_of_mem _ hq)) (by omega) q hq
    refine eq cs hle ?_ q hq
    unfold total at htot
    rw [htot]
    exact congrArg _ hsum
end Fl
namespace Fl
open PySem PySem.Spec L2
section
variable {K : PySem.W.Frag} {H H' : Hp} {p C dx : Addr}
theorem rk_but {a : Addr} {o : List Str} (b : But p H H') (hp : H p = some (.ins C dx [])) (h : RkAt K H a o) : RkAt K H' a o := by
  obtain ⟨dy, l, d, q, h1, ⟨o', h2⟩, h3⟩ := h
  exact ⟨dy, l, d, q, b _ _ (ne_of h1 hp (fun z => nomatch z)) h1, ⟨o', b _ _ (ne_of h2 hp (fun z => nomatch z)) h2⟩, b _ _ (ne_of h3 hp (fun z => nomatch z)) h3⟩
theorem com_but {a : Addr} {o : List Str} (b : But p H H') (hp : H p = some (.ins C dx [])) (h : ComAt K H a o) : ComAt K H' a o := by
  obtain ⟨dy, l, h1, o', h2⟩ := h
  exact ⟨dy, l, b _ _ (ne_of h1 hp (fun z => nomatch z)) h1, ⟨o', b _ _ (ne_of h2 hp (fun z => nomatch z)) h2⟩⟩
theorem rd_but {a : Addr} {kvs : List (Key × V)} (b : But p H H') (hp : H p = some (.ins C dx [])) (h : Rd H a (.dK kvs)) : Rd H' a (.dK kvs) := by
  rcases h with e | ⟨o, e⟩
  · exact .inl (b _ _ (ne_of e hp (fun z => nomatch z)) e)
  · exact .inr ⟨o, b _ _ (ne_of e hp (fun z => nomatch z)) e⟩
theorem rks_but {r : Addr} {rs : Rks} (b : But p H H') (hp : H p = some (.ins C dx [])) (h : RksAt K H r rs) : RksAt K H' r rs := by
  obtain ⟨kvs, h1, h2, h3⟩ := h
  exact ⟨kvs, rd_but b hp h1, h2, fun i q e => let ⟨a, z1, z2⟩ := h3 i q e; ⟨a, z1, rk_but b hp z2⟩⟩
end
theorem putF2 {v u : V} : putF ("options" : Str) u [(("own_counts" : Str), v)] = ([("own_counts", v), ("options", u)] : List (Str × V)) := by
  have h : ¬ ("own_counts" : Str) = ("options" : Str) := by decide +kernel
  simp [putF, h]
theorem putF3 {v u t : V} : putF ("owner" : Str) t [(("own_counts" : Str), v), (("options" : Str), u)] = ([("own_counts", v), ("options", u), ("owner", t)] : List (Str × V)) := by
  have h : ¬ ("own_counts" : Str) = ("owner" : Str) := by decide +kernel
  have h2 : ¬ ("options" : Str) = ("owner" : Str) := by decide +kernel
  simp [putF, h, h2]
theorem opt_snoc {H : Hp} {opts : Opts} {acc : List (Key × V)} {i : Nat} {q : Str × List Str} {l : Addr} (hq : opts[i]? = some q) (h : OptOf H (opts.take i) acc) (hl : FzL H l (sv q.2)) : OptOf H (opts.take (i + 1)) (acc ++ [(Sum.inr q.1, V.ref l)]) := by
  have hlen : acc.length = i := by
    rw [h.1, List.length_take]
    have := (List.getElem?_eq_some_iff.mp hq).1
    omega
  rw [take_snoc hq]
  refine ⟨by rw [List.length_append, List.length_append, h.1]; rfl, fun k x hx => ?_⟩
  have htl : (opts.take i).length = i := by rw [← h.1]; exact hlen
  by_cases hk : k < i
  · rw [List.getElem?_append_left (by omega)] at hx
    obtain ⟨l', e1, e2⟩ := h.2 k x hx
    exact ⟨l', by rw [List.getElem?_append_left (by omega)]; exact e1, e2⟩
  · rw [List.getElem?_append_right (by omega), htl] at hx
    have hk0 : k - i = 0 := by
      cases e : k - i with
      | zero => rfl
      | succ m => rw [e] at hx; simp at hx
    rw [hk0] at hx
    cases hx
    exact ⟨l, by rw [List.getElem?_append_right (by omega), hlen, hk0]; rfl, hl⟩
/-- what the calls below want: rankings at r, counts at n, a committee at c -/
structure Pre (K : PySem.W.Frag) (H : Hp) (r n c : Addr) (rs : Rks) (A : List Str) (cs : Cts) (ms : List Str) : Prop where
  rk : RksAt K H r rs
  gk : GK rs A
  ct : CtsAt H n cs
  ck : CK rs cs
  cm : ComAt K H c ms
  gm : GC ms
  sub : ∀ x ∈ ms, x ∈ A
  tot : total cs = ((others A ms).length : Nat)
theorem Pre.s {K : PySem.W.Frag} {H H' : Hp} {r n c : Addr} {rs : Rks} {A : List Str} {cs : Cts} {ms : List Str} (h : Pre K H r n c rs A cs ms) (s : Same H H') : Pre K H' r n c rs A cs ms := ⟨h.rk.s s, h.gk, Rd.s h.ct s, h.ck, h.cm.s s, h.gm, h.sub, h.tot⟩
def spAInit (K : PySem.W.Frag) : Sp := fun vs H Q _ => ∃ p dx r n c rs A cs ms, vs = [.ref p, .ref r, .ref n, .ref c] ∧ H p = some (.ins (AC K) dx []) ∧ Pre K H r n c rs A cs ms ∧
  ∀ H' w, AsgAt K H' p w (optsOf rs A ms) cs [] → But p H H' → H w = none → Q .non H'
def FindEnd (rs : Rks) (A ms : List Str) (cs : Cts) (H : Hp) (v : V) (H' : Hp) : Prop := (v = .non ∧ ∀ asg, ¬ IsAsg rs A ms cs asg) ∨ ∃ d asg, v = .ref d ∧ H d = none ∧ H' d = some (.dK (asK V.str asg)) ∧ IsAsg rs A ms cs asg
def spFind (K : PySem.W.Frag) : Sp := fun vs H Q _ => ∃ r n c rs A cs ms, vs = [.ref r, .ref n, .ref c] ∧ Pre K H r n c rs A cs ms ∧ Ret H Q (FindEnd rs A ms cs H)
def spBlock (K : PySem.W.Frag) : Sp := fun vs H Q _ => ∃ r n c rs A cs ms, vs = [.ref r, .ref n, .ref c] ∧ Pre K H r n c rs A cs ms ∧ Ret H Q fun v _ => (v = .non ∧ ∃ asg, IsAsg rs A ms cs asg) ∨ (∃ p, v = .ref p) ∧ ∀ asg, ¬ IsAsg rs A ms cs asg
section
variable {P : Program} {w : World} {K : PySem.W.Frag} {mg : Str → Option Value} {base : Heap}
theorem ok_A_init (T : TX K mg) : Fok P w K mg base 7 (He.ma K (AC K) "__init__") ["self", "rankings", "counts", "committee"] (spAInit K) := by
  have F_all_of := ok_all_of (P := P) (w := w) (base := base) T
  have F_C_sub := ok_C_sub (P := P) (w := w) (base := base) T
  have F_C_members := ok_C_members (P := P) (w := w) (base := base) T
  have F_strikers_of := ok_strikers_of (P := P) (w := w) (base := base) T
  refine fok_mk T.f_A_init sc_A_init (fun _ _ _ _ _ _ us hl => match us, hl with | [_, _, _, _], _ => rfl) (fun vs H Q E h => ?_) (fun cdv A outer s H vs Q E hr h => ?_)
  · obtain ⟨p, dx, r, n, c, rs, A, cs, ms, rfl, _⟩ := h; rfl
  obtain ⟨p, dx, r, n, c, rs, A, cs, ms, rfl, hp, pre, k⟩ := h
  refine ⟨_, (pss_cons (ps_fld (pv 0) (pv 2) rfl)
      (pss_cons (ps_set (i := 4) sc_A_init.nd rfl (Or.inl rfl) (pe_op (op_binO F_C_sub T.sfC T.sC_sub (hr.mono (by decide))) (pe_c F_all_of (hr.mono (by decide)) (pa_cons (pv 1) pa_nil)) (pv 3)))
      (pss_cons (ps_fz (ps_fld (pv 0) (pe_dc (own := [("name", 5)]) (g := gName 5) (tt := tYes) rfl sc_A_init.nd (k_pil K (by rfl) (pe_pr F_C_members T.clsC T.pC_members (hr.mono (by decide)) (pv 4))) (blkOk_by (N := ["self", "rankings", "counts", "committee", "others", "name"]) (sc := defScope s_A_init) (by decide +kernel)) (fun _ _ _ _ _ => by exact (pg_name (i := 5) sc_A_init.nd rfl (Or.inl rfl))) (fun _ _ _ _ _ => by exact (pts_nil)) (fun _ _ _ _ _ => by exact ((pv 5))) (fun _ _ _ _ _ => by exact ((pe_fz (pe_c F_strikers_of (hr.mono (by decide)) (pa_cons (pv 1) (pa_cons (pv 3) (pa_cons (pv 5) pa_nil)))))))) rfl))
      (pss_one (ps_fld (pv 0) pe_dnewK rfl))))), ?_⟩
  have g := pre.gk
  refine ⟨_, rfl, _, rfl, p, _, dx, _, rfl, hp, T.clsA, T.nA_own_counts, by decide, ?_⟩
  have b1 : But p H (upd H p (.ins (AC K) dx (putF "own_counts" (.ref n) []))) := (But.of (Same.refl _)).up _
  have e1 : (upd H p (.ins (AC K) dx (putF "own_counts" (.ref n) []))) p = some (.ins (AC K) dx [("own_counts", .ref n)]) := upd_same
  generalize upd H p (.ins (AC K) dx (putF "own_counts" (.ref n) [])) = H1 at b1 e1
  have hR1 := rks_but b1 hp pre.rk
  have hC1 := com_but b1 hp pre.cm
  have hN1 := rd_but b1 hp pre.ct
  refine ⟨_, rfl, r, rs, A, rfl, hR1, g, fun v H2 s2 ⟨q, ev, hq⟩ => ?_⟩
  subst ev
  have hC2 := hC1.s s2
  obtain ⟨dxq, lq, y1, y2⟩ := id hq
  obtain ⟨dxc, lc, z1, z2⟩ := id hC2
  refine ⟨_, rfl, q, dxq, _, c, dxc, _, rfl, rfl, y1, z1, q, c, A, ms, rfl, hq, hC2, g.gc, fun v H3 s3 ⟨p3, ev, hp3⟩ => ?_⟩
  subst ev
  obtain ⟨dx3, l3, x1, x2⟩ := id hp3
  have s13 := s2.trans s3
  have hlo : (others A ms).length ≤ 30 := Nat.le_trans (List.length_filter_le _ _) g.gc.2.2
  refine ⟨_, rfl, p3, dx3, _, rfl, x1, p3, _, rfl, hp3, fun l H4 hl s4 e4 => ⟨l, rfl, ⟨_, SqL.of e4⟩, ?_⟩⟩
  have s14 := s13.trans s4
  have key : ∀ (i : Nat) x, (others A ms)[i]? = some x → (optsOf rs A ms)[i]? = some (x, strikers rs ms x) := fun i x hx => by
    unfold optsOf; rw [List.getElem?_map, hx]; rfl
  refine dc_g walk_list (fun i acc Hc => OptOf Hc ((optsOf rs A ms).take i) acc) (by rw [List.length_map]; show (others A ms).length ≤ 1000; omega) (fun H s => SqL.of (s _ _ e4)) (fun _ _ => ⟨by simp, fun i q h => by simp at h⟩) (fun _ _ _ _ q m => q.md m) (fun i acc _ h => by rw [h.1, List.length_take]; exact Nat.min_le_left _ _) ?_ ?_
  · rintro i acc y H5 H6 Qy Qn hi s5 ro ⟨rfl, hc⟩ ky kn
    obtain ⟨x, hx, rfl⟩ := get_map hc
    have hxo := List.mem_of_getElem? hx
    have hxA := (List.mem_filter.mp hxo).1
    have s15 := s14.trans s5
    refine ⟨rfl, _, rfl, _, rfl, _, rfl, _, rfl, r, c, x, rs, A, ms, rfl, hR1.s s15, g, hC1.s s15, pre.gm.2.2, hxA, pre.sub, fun l2 H7 hl2 s7 e7 => ⟨l2, .lst _, e7, trivial, fun od => ?_⟩⟩
    refine ky (Sum.inr x) _ _ (same_up s7 hl2 _) ?_
    have hnew : valV acc (Sum.inr x) = none := by
      rw [valV_none_iff, ro.keys]
      intro hm
      obtain ⟨z, hz, e⟩ := List.mem_map.mp hm
      cases e
      rw [List.map_take, optsOf_keys] at hz
      obtain ⟨jx, hj⟩ := List.mem_iff_getElem?.mp hz
      rw [List.getElem?_take] at hj
      by_cases hji : jx < i
      · rw [if_pos hji] at hj
        have := nd_ix (others_nd (ms := ms) g.gc) hj hx
        omega
      · rw [if_neg hji] at hj; cases hj
    rw [putK_new _ hnew]
    exact opt_snoc (key i x hx) (ro.md (.of (same_up s7 hl2 _))) ⟨od, upd_same⟩
  · intro D acc H5 hD s5 hacc ro
    have hlen : (sv (others A ms)).length = (optsOf rs A ms).length := by unfold optsOf; rw [List.length_map, List.length_map]
    have ro2 : OptOf H5 (optsOf rs A ms) acc := by
      have ro' : OptOf H5 ((optsOf rs A ms).take (sv (others A ms)).length) acc := ro
      rw [hlen, List.take_length] at ro'; exact ro'
    have s15 := s14.trans s5
    have e5 := s15 _ _ e1
    have nDp : D ≠ p := ne_of hacc e5 (fun z => nomatch z)
    refine ⟨_, rfl, p, _, dx, _, rfl, e5, T.clsA, T.nA_options, by show 1 < 1000; decide, ?_⟩
    refine ⟨D, .dK acc, by rw [upd_ne nDp]; exact hacc, trivial, fun od => ?_⟩
    have b6 : But p H (upd (upd H5 p (.ins (AC K) dx (putF "options" (.ref D) [("own_counts", .ref n)]))) D (.frz od (.dK acc))) := fun b u hb e => by
      have e' := s15 _ _ (b1 _ _ hb e)
      have hDn : H4 D = none := hD
      have nbD : b ≠ D := fun z => by
        subst z
        rw [s14 _ _ (b1 _ _ hb e)] at hDn; cases hDn
      rw [upd_ne nbD, upd_ne hb]; exact e'
    have e6 : (upd (upd H5 p (.ins (AC K) dx (putF "options" (.ref D) [("own_counts", .ref n)]))) D (.frz od (.dK acc))) p = some (.ins (AC K) dx [("own_counts", .ref n), ("options", .ref D)]) := by
      rw [upd_ne nDp.symm, upd_same]
      rw [putF2]
    have e7 : (upd (upd H5 p (.ins (AC K) dx (putF "options" (.ref D) [("own_counts", .ref n)]))) D (.frz od (.dK acc))) D = some (.frz od (.dK acc)) := upd_same
    have ro3 : OptOf (upd (upd H5 p (.ins (AC K) dx (putF "options" (.ref D) [("own_counts", .ref n)]))) D (.frz od (.dK acc))) (optsOf rs A ms) acc := ⟨ro2.1, fun i q h => by
      obtain ⟨l, z1, o, z2⟩ := ro2.2 i q h
      exact ⟨l, z1, o, by rw [upd_ne (ne_of z2 hacc (fun z => nomatch z)), upd_ne (ne_of z2 e5 (fun z => nomatch z))]; exact z2⟩⟩
    generalize upd (upd H5 p (.ins (AC K) dx (putF "options" (.ref D) [("own_counts", .ref n)]))) D (.frz od (.dK acc)) = H6 at b6 e6 e7 ro3
    refine fun wd hwd => ⟨_, rfl, p, _, dx, _, rfl, by rw [upd_ne (ne_of_none e6 hwd)]; exact e6, T.clsA, T.nA_owner, by show 2 < 1000; decide, ?_⟩
    have npw := ne_of_none e6 hwd
    have hwH : H wd = none := by
      cases z : H wd with
      | none => rfl
      | some u => rw [b6 _ _ npw.symm z] at hwd; cases hwd
    refine k _ wd ?_ (fun b u hb e => ?_) hwH
    · have hN6 := rd_but b6 hp pre.ct
      have nnw : n ≠ wd := fun e => by subst e; rcases hN6 with z | ⟨o, z⟩ <;> (rw [z] at hwd; cases hwd)
      have nnp : n ≠ p := fun e => by subst e; rcases hN6 with z | ⟨o, z⟩ <;> (rw [z] at e6; cases e6)
      refine ⟨dx, n, D, od, acc, ?_, ?_, ?_, ⟨ro3.1, fun i q h => ?_⟩, ?_, nnw⟩
      · rw [upd_same]
        rw [putF3]
      · rcases hN6 with z | ⟨o, z⟩
        · exact .inl (by rw [upd_ne nnp, upd_ne nnw]; exact z)
        · exact .inr ⟨o, by rw [upd_ne nnp, upd_ne nnw]; exact z⟩
      · rw [upd_ne nDp, upd_ne (ne_of_none e7 hwd)]; exact e7
      · obtain ⟨l, z1, o, z2⟩ := ro3.2 i q h
        exact ⟨l, z1, o, by rw [upd_ne (ne_of z2 e6 (fun z => nomatch z)), upd_ne (ne_of_none z2 hwd)]; exact z2⟩
      · rw [upd_ne npw.symm, upd_same]; rfl
    · have e' := b6 _ _ hb e
      rw [upd_ne hb, upd_ne (ne_of_none e' hwd)]; exact e'
theorem ok_find_assignment (T : TX K mg) : Cal P w K mg base 9 "find_assignment" ["rankings", "counts", "committee"] (spFind K) := by
  have F_check_all := ok_check_all (P := P) (w := w) (base := base) T
  have F_A_init := ok_A_init (P := P) (w := w) (base := base) T
  have F_A_stuck := ok_A_stuck (P := P) (w := w) (base := base) T
  refine cal_mk (fok_mk T.f_find_assignment sc_find_assignment (fun _ _ _ _ _ _ us hl => match us, hl with | [_, _, _], _ => rfl) (fun vs H Q E h => ?_) (fun cdv A outer s H vs Q E hr h => ?_)) T.g_find_assignment (let ⟨_, F⟩ := T.f_find_assignment; F.kp)
  · obtain ⟨r, n, c, rs, A, cs, ms, rfl, _⟩ := h; rfl
  obtain ⟨r, n, c, rs, A, cs, ms, rfl, pre, k⟩ := h
  refine ⟨_, (pss_cons (ps_expr (pe_c F_check_all (hr.mono (by decide)) (pa_cons (pv 0) (pa_cons (pv 1) (pa_cons (pv 2) pa_nil)))))
      (pss_cons (ps_set (i := 3) sc_find_assignment.nd rfl (Or.inr rfl) (pe_mk F_A_init T.mkA T.gA (hr.mono (by decide)) (pa_cons (pv 0) (pa_cons (pv 1) (pa_cons (pv 2) pa_nil)))))
      (pss_cons (ps_if (pt_cmpR op_notN (pe_m0 F_A_stuck T.clsA T.mA_stuck (hr.mono (by decide)) (pv 3)) pe_non (nomark _)) (pss_one (ps_ret pe_non)) pss_nil)
      (pss_one (ps_ret (pe_dc (own := [("name", 4)]) (g := gName 4) (tt := tYes) rfl sc_find_assignment.nd (pi_keys (k_fld K (by rfl) (pv 3))) (blkOk_by (N := ["rankings", "counts", "committee", "work", "name"]) (sc := defScope s_find_assignment) (by decide +kernel)) (fun _ _ _ _ _ => by exact (pg_name (i := 4) sc_find_assignment.nd rfl (Or.inl rfl))) (fun _ _ _ _ _ => by exact (pts_nil)) (fun _ _ _ _ _ => by exact ((pv 4))) (fun _ _ _ _ _ => by exact ((pe_dget (hu_of hr) (k_fld K (by rfl) (pv 3)) (pv 4) (fun _ _ => rfl)))))))))), ?_⟩
  refine ⟨_, rfl, _, rfl, _, rfl, r, n, c, rs, A, cs, ms, rfl, pre.rk, pre.gk, pre.ct, pre.ck, pre.cm, pre.gm, pre.sub, pre.tot, fun _ H1 s1 _ => ?_⟩
  refine ⟨_, rfl, _, rfl, _, rfl, fun x dx nx nd ne => ?_⟩
  have sm : Same H1 (upd (upd H1 dx (.own x)) x (.ins (AC K) dx [])) := same_up (same_up (Same.refl _) nd _) nx _
  refine ⟨x, dx, r, n, c, rs, A, cs, ms, rfl, upd_same, (pre.s s1).s sm, fun H2 wd hA bx hwd => ⟨rfl, ?_⟩⟩
  have s12 : Same H1 H2 := fun b u e => bx b u (ne_of_none e nx) (sm b u e)
  have s02 := s1.trans s12
  have hw0 : H wd = none := by
    cases z : H wd with
    | none => rfl
    | some u => rw [sm _ _ (s1 _ _ z)] at hwd; cases hwd
  have jb := job_of pre.gk pre.ck (ms := ms)
  obtain ⟨dx', n', od, q, kvo, h1, h2, h3, h4, h5, h6⟩ := id hA
  have nof : ([("own_counts", .ref n'), ("options", .ref od), ("owner", .ref wd)] : List (Str × V)).lookup ("stuck" : Str) = none := by
    rw [lk_miss (by decide +kernel), lk_miss (by decide +kernel), lk_miss (by decide +kernel)]; rfl
  refine ⟨_, rfl, x, dx', _, rfl, h1, nof, x, wd, _, _, rfl, hA, jb, fun v H3 own' bt hA' pt' e => ?_⟩
  have s03 : Same H H3 := fun b u e => bt b u (ne_of_none e hw0) (s02 b u e)
  rcases e with ⟨rfl, full⟩ | ⟨name, rfl, st⟩
  · refine ⟨rfl, _, rfl, itF (by simp) ?_⟩
    have ia := full_asg pre.gk pre.ck pre.tot pt' full
    obtain ⟨dx3, n3, od3, q3, kvo3, g1, g2, g3, g4, g5, g6⟩ := id hA'
    have hlo : kvo3.length = (others A ms).length := by rw [g4.1]; unfold optsOf; rw [List.length_map]
    have hlo30 : (others A ms).length ≤ 30 := Nat.le_trans (List.length_filter_le _ _) pre.gk.gc.2.2
    refine ⟨_, rfl, x, _, dx3, _, _, rfl, g1, T.clsA, T.nA_options, lk3b, od3, q3, rfl, .inl ⟨kvo3, g3, ?_⟩⟩
    refine dc_g walk_keys (fun i acc _ => acc = asK V.str (((others A ms).take i).map fun x => (x, (getA own' x).getD ""))) (by omega) (fun H s => s _ _ g3) (fun _ _ => rfl) (fun _ _ _ _ q _ => q) (fun i acc _ e => by rw [e, asK_length, List.length_map, List.length_take]; exact Nat.min_le_left _ _) ?_ ?_
    · rintro i acc y H4 H5 Qy Qn hi s4 rfl ⟨rfl, k0, v0, hkv, rfl⟩ ky kn
      have e0 : (kvo3.map (·.1))[i]? = some k0 := by rw [List.getElem?_map, hkv]; rfl
      rw [g4.keys, optsOf_keys] at e0
      obtain ⟨z, hz, rfl⟩ := get_map e0
      have hzo := List.mem_of_getElem? hz
      obtain ⟨pl, hpl⟩ := getA_of_key (full z (by rw [optsOf_keys]; exact hzo))
      refine ⟨rfl, _, rfl, _, rfl, x, _, dx3, _, _, rfl, s4 _ _ g1, T.clsA, T.nA_owner, lk3c, _, rfl, wd, _, rfl, .inl ⟨_, Sum.inr z, .inl (s4 _ _ g5), rfl, by rw [asK_get, hpl]; rfl⟩, ?_⟩
      refine ky (Sum.inr z) _ _ (Same.refl _) ?_
      rw [take_snoc hz, List.map_append]
      have hnew : z ∉ (((others A ms).take i).map fun x => (x, (getA own' x).getD "")).map (·.1) := by
        rw [List.map_map]
        intro hm
        obtain ⟨z', hz', e⟩ := List.mem_map.mp hm
        obtain rfl : z' = z := e
        obtain ⟨jx, hj⟩ := List.mem_iff_getElem?.mp hz'
        rw [List.getElem?_take] at hj
        by_cases hji : jx < i
        · rw [if_pos hji] at hj
          have := nd_ix (others_nd (ms := ms) pre.gk.gc) hj hz
          omega
        · rw [if_neg hji] at hj; cases hj
      rw [asK_put, putA_new _ hnew]
      show asK V.str _ = asK V.str (_ ++ [(z, (getA own' z).getD "")])
      rw [hpl]; rfl
    · intro D acc H4 hD s4 hacc e
      rw [hlo, List.take_length] at e
      refine k _ _ (s03.trans s4) (.inr ⟨D, _, rfl, ?_, by rw [hacc, e], ia⟩)
      cases z : H D with
      | none => rfl
      | some u => rw [s03 _ _ z] at hD; cases hD
  · refine ⟨rfl, _, rfl, itT (by simp) ?_⟩
    exact k _ _ s03 (.inl ⟨rfl, no_asg pre.gk pre.ck pt' st⟩)
theorem ok_find_block (T : TX K mg) : Cal P w K mg base 9 "find_block" ["rankings", "counts", "committee"] (spBlock K) := by
  have F_check_all := ok_check_all (P := P) (w := w) (base := base) T
  have F_A_init := ok_A_init (P := P) (w := w) (base := base) T
  have F_A_stuck := ok_A_stuck (P := P) (w := w) (base := base) T
  have F_A_blocked := ok_A_blocked (P := P) (w := w) (base := base) T
  refine cal_mk (fok_mk T.f_find_block sc_find_block (fun _ _ _ _ _ _ us hl => match us, hl with | [_, _, _], _ => rfl) (fun vs H Q E h => ?_) (fun cdv A outer s H vs Q E hr h => ?_)) T.g_find_block (let ⟨_, F⟩ := T.f_find_block; F.kp)
  · obtain ⟨r, n, c, rs, A, cs, ms, rfl, _⟩ := h; rfl
  obtain ⟨r, n, c, rs, A, cs, ms, rfl, pre, k⟩ := h
  refine ⟨_, (pss_cons (ps_expr (pe_c F_check_all (hr.mono (by decide)) (pa_cons (pv 0) (pa_cons (pv 1) (pa_cons (pv 2) pa_nil)))))
      (pss_cons (ps_set (i := 3) sc_find_block.nd rfl (Or.inl rfl) (pe_mk F_A_init T.mkA T.gA (hr.mono (by decide)) (pa_cons (pv 0) (pa_cons (pv 1) (pa_cons (pv 2) pa_nil)))))
      (pss_cons (ps_set (i := 4) sc_find_block.nd rfl (Or.inl rfl) (pe_m0 F_A_stuck T.clsA T.mA_stuck (hr.mono (by decide)) (pv 3)))
      (pss_one (ps_ret (pe_ifExp (pt_cmpR op_isN (pv 4) pe_non (nomark _)) pe_non (pe_m F_A_blocked T.clsA T.mA_blocked (hr.mono (by decide)) (pv 3) (pa_cons (pv 4) pa_nil)))))))), ?_⟩
  refine ⟨_, rfl, _, rfl, _, rfl, r, n, c, rs, A, cs, ms, rfl, pre.rk, pre.gk, pre.ct, pre.ck, pre.cm, pre.gm, pre.sub, pre.tot, fun _ H1 s1 _ => ?_⟩
  refine ⟨_, rfl, _, rfl, _, rfl, fun x dx nx nd ne => ?_⟩
  have sm : Same H1 (upd (upd H1 dx (.own x)) x (.ins (AC K) dx [])) := same_up (same_up (Same.refl _) nd _) nx _
  refine ⟨x, dx, r, n, c, rs, A, cs, ms, rfl, upd_same, (pre.s s1).s sm, fun H2 wd hA bx hwd => ⟨rfl, ?_⟩⟩
  have s12 : Same H1 H2 := fun b u e => bx b u (ne_of_none e nx) (sm b u e)
  have s02 := s1.trans s12
  have hw0 : H wd = none := by
    cases z : H wd with
    | none => rfl
    | some u => rw [sm _ _ (s1 _ _ z)] at hwd; cases hwd
  have jb := job_of pre.gk pre.ck (ms := ms)
  obtain ⟨dx', n', od, q, kvo, h1, h2, h3, h4, h5, h6⟩ := id hA
  have nof : ([("own_counts", .ref n'), ("options", .ref od), ("owner", .ref wd)] : List (Str × V)).lookup ("stuck" : Str) = none := by
    rw [lk_miss (by decide +kernel), lk_miss (by decide +kernel), lk_miss (by decide +kernel)]; rfl
  refine ⟨_, rfl, x, dx', _, rfl, h1, nof, x, wd, _, _, rfl, hA, jb, fun v H3 own' bt hA' pt' e => ?_⟩
  have s03 : Same H H3 := fun b u e => bt b u (ne_of_none e hw0) (s02 b u e)
  rcases e with ⟨rfl, full⟩ | ⟨name, rfl, st⟩
  · refine ⟨_, rfl, rfl, _, rfl, itT (by simp) ?_⟩
    exact k _ _ s03 (.inl ⟨rfl, _, full_asg pre.gk pre.ck pre.tot pt' full⟩)
  · refine ⟨_, rfl, rfl, _, rfl, itF (by simp) ?_⟩
    obtain ⟨dx3, n3, od3, q3, kvo3, g1, g2, g3, g4, g5, g6⟩ := id hA'
    have nof3 : ([("own_counts", .ref n3), ("options", .ref od3), ("owner", .ref wd)] : List (Str × V)).lookup ("blocked" : Str) = none := by
      rw [lk_miss (by decide +kernel), lk_miss (by decide +kernel), lk_miss (by decide +kernel)]; rfl
    refine ⟨_, rfl, x, dx3, _, rfl, g1, nof3, _, rfl, x, wd, name, _, _, _, rfl, hA', jb, pt', st.1, st.2.1, fun v H4 s4 e => ?_⟩
    exact k _ _ (s03.trans s4) (.inr ⟨e, no_asg pre.gk pre.ck pt' st⟩)
end
end Fl
namespace Fl
open PySem PySem.Spec L2
open PyProof.Rows (StrsAre)
/-! ### xs.count(x) of texts -/
def eqs (k : Str) (v : Value) : Bool := match v with
  | .str n _ => n == k
  | _ => false
theorem eqs_gives {A : Around} {s : Shared} {k : Str} {t : Tok} : ∀ {us : List Value} {ns : List Str}, StrsAre us ns → ∀ y ∈ us, SeqAt.EqAt A s y (.str k t) (eqs k y)
  | _, _, .nil => fun y hy => by cases hy
  | _, _, .cons n t' h => fun y hy => by
    rcases List.mem_cons.mp hy with e | e
    · rw [e]
      exact SeqAt.EqAt.str_str n t' k t
    · exact eqs_gives h y e
theorem eqs_count {k : Str} : ∀ {us : List Value} {ns : List Str}, StrsAre us ns → us.countP (eqs k) = ns.count k
  | _, _, .nil => rfl
  | _, _, .cons n t h => by
    have ih := eqs_count (k := k) h
    rw [List.countP_cons, List.count_cons, ih] <;> rfl
def rCntS (K : PySem.W.Frag) : V → List V → Hp → VK → Prop := fun x xs H Q => ∃ (p : Addr) (ns : List Str) (k : Str), x = .ref p ∧ xs = [.str k] ∧ SqL K H p (sv ns) ∧ Q (.int (ns.count k : Nat)) H
theorem vals_strs {us : List Value} {ns : List Str} (h : Vals (sv ns) us) : StrsAre us ns := by
  induction ns generalizing us with
  | nil => cases h; exact .nil
  | cons x r ih =>
    cases h with
    | cons h1 h2 =>
      obtain ⟨t, rfl⟩ := h1
      exact .cons x t (ih h2)
theorem k_countS {X : Cx} (K : PySem.W.Frag) (h : X.K = K := by rfl) : MtR X "list.count" (rCntS K) := by
  subst h
  intro pins s σ H x xs v us Q I rx rxs h
  obtain ⟨p, ns, k, rfl, rfl, hs, q⟩ := h
  cases rx
  obtain ⟨u, rfl, ru⟩ := rxs.one
  obtain ⟨t, rfl⟩ := ru
  obtain ⟨its, rv, ⟨⟨cls, dd, data, sl⟩, n, ho, hc, hdn, hd⟩, hlen⟩ := I.list hs
  simp only at hc hd
  subst hc hd
  have hi := vals_strs rv
  refine call_meets PySem.F.slot_list_count ⟨_, ho, rfl⟩ PySem.F.entry_list_count (PySem.F.args_list_count_2 _ _)
    (SeqAt.list_countAt p its.toArray n dd sl (.str k t) (eqs k)) ⟨ho, fun y hy => eqs_gives hi y (by simpa using hy), ?_⟩
  have ec : its.toArray.toList.countP (eqs k) = ns.count k := eqs_count hi
  refine ⟨.int (ns.count k : Nat), H, I.tok _, ⟨s.toks, ?_⟩, q⟩
  show Value.int ((its.toArray.toList.countP (eqs k) : Nat) : Int) s.toks = Value.int ((ns.count k : Nat) : Int) s.toks
  rw [ec]
/-! ### xs[::-1] -/
theorem k_revL {X : Cx} (K : PySem.W.Frag) (h : X.K = K := by rfl) {e : Expr} {te : TE} {k : Nat} {p1 p2 p3 pos : Pos} (he : PE X e te) : PE X (.Subscript e (.Slice none none (some (.UnaryOp .USub (.Constant (.int 1) k p1) p2)) p3) pos) (tRevL K te) := by
  subst h; exact pe_revL he
end Fl
namespace Fl
open PySem PySem.Spec L2
def spIsA (K : PySem.W.Frag) : Sp := fun vs H Q _ => ∃ r n c d rs A cs ms asg, vs = [.ref r, .ref n, .ref c, .ref d] ∧ Pre K H r n c rs A cs ms ∧ H d = some (.dK (asK V.str asg)) ∧ IsAsg rs A ms cs asg ∧ Ret H Q fun v _ => v = .bl true
/-- a way along the exchange: who is asked next -/
def Chain (own : Own) (tg : Str → Str) : List Str → Str → Prop
  | [], _ => True
  | m :: r, z => getA own (tg m) = some ((r ++ [z]).headD z) ∧ Chain own tg r z
def rotO (tg : Str → Str) (l : List Str) (own : Own) : Own := l.foldl (fun o m => putA o (tg m) m) own
theorem cut_from (xs : List V) (j : Nat) (h : j ≤ xs.length) : cutV xs (some (j : Int)) none = xs.drop j := by
  unfold cutV
  rw [HT.sIx_nat, HT.sIx_none, Nat.min_eq_left h]
  exact List.take_of_length_le (by rw [List.length_drop]; exact Nat.le_refl _)
theorem chain_snoc {own : Own} {tg : Str → Str} {z q : Str} (hq : getA own (tg z) = some q) : ∀ {l : List Str}, Chain own tg l z → Chain own tg (l ++ [z]) q
  | [], _ => ⟨hq, trivial⟩
  | m :: r, h => by
    refine ⟨?_, chain_snoc hq h.2⟩
    have h1 := h.1
    cases r with
    | nil => exact h1
    | cons a t => exact h1
theorem chain_drop {own : Own} {tg : Str → Str} {z : Str} : ∀ (j : Nat) {l : List Str}, Chain own tg l z → Chain own tg (l.drop j) z
  | 0, _, h => h
  | j + 1, [], _ => trivial
  | j + 1, _ :: r, h => chain_drop j (l := r) h.2
structure Exch (own : Own) (tg : Str → Str) (own' : Own) (z : Str) : Prop where
  ex : ∃ cyc, cyc.head? = some z ∧ (cyc.tail ++ [z]).Nodup ∧ Chain own tg cyc z ∧ own' = rotO tg cyc own ∧ (∀ m ∈ cyc, ∃ x, getA own x = some m)
def spExch (K : PySem.W.Frag) : Sp := fun vs H Q _ => ∃ w t own tgs p0, vs = [.ref w, .ref t, .str p0] ∧ H w = some (.dK (asK V.str own)) ∧ Rd H t (.dK (asK V.str tgs)) ∧ w ≠ t ∧ (own.map (·.1)).Nodup ∧ own.length ≤ 30 ∧ (∃ x, getA own x = some p0) ∧
  (∀ x p, getA own x = some p → ∃ y, getA tgs p = some y ∧ y ∈ own.map (·.1)) ∧ ∀ z H' own', But w H H' → H' w = some (.dK (asK V.str own')) → Exch own (fun p => (getA tgs p).getD "") own' z → Q (.str z) H'
section
variable {P : Program} {w : World} {K : PySem.W.Frag} {mg : Str → Option Value} {base : Heap}
theorem ok_is_assignment (T : TX K mg) : Cal P w K mg base 9 "is_assignment" ["rankings", "counts", "committee", "candidate"] (spIsA K) := by
  have F_check_all := ok_check_all (P := P) (w := w) (base := base) T
  have F_C_len := ok_C_len (P := P) (w := w) (base := base) T
  have F_C_contains := ok_C_contains (P := P) (w := w) (base := base) T
  have F_is_name := ok_is_name (P := P) (w := w) (base := base) T
  have F_is_below := ok_is_below (P := P) (w := w) (base := base) T
  refine cal_mk (fok_mk T.f_is_assignment sc_is_assignment (fun _ _ _ _ _ _ us hl => match us, hl with | [_, _, _, _], _ => rfl) (fun vs H Q E h => ?_) (fun cdv A outer s H vs Q E hr h => ?_)) T.g_is_assignment (let ⟨_, F⟩ := T.f_is_assignment; F.kp)
  · obtain ⟨r, n, c, d, rs, A, cs, ms, asg, rfl, _⟩ := h; rfl
  obtain ⟨r, n, c, d, rs, A, cs, ms, asg, rfl, pre, hd, ia, k⟩ := h
  refine ⟨_, (pss_cons (ps_set (i := 4) sc_is_assignment.nd rfl (Or.inl rfl) (pe_c F_check_all (hr.mono (by decide)) (pa_cons (pv 0) (pa_cons (pv 1) (pa_cons (pv 2) pa_nil)))))
      (pss_cons (ps_if (PW.pt (pw_or (pt_not (pt_val (pe_callB call_isiD (by rfl) T.b_isinstance (by decide +kernel) (pa_cons (pv 3) (pa_cons (pe_bltn (v := .ty "dict") (by rfl) T.b_dict (by decide +kernel) rfl) pa_nil))))) (pw_or1 (pt_cmpR op_ne (pe_callB call_lenR (by rfl) T.b_len (by decide +kernel) (pa_cons (pv 3) pa_nil)) (pe_callB (call_lenO F_C_len T.sC_len (hr.mono (by decide))) (by rfl) T.b_len (by decide +kernel) (pa_cons (pv 4) pa_nil)) (nomark _))))) (pss_one (ps_ret pe_bl)) pss_nil)
      (pss_cons (ps_lockR (ps_for PassesOwn.never rfl (pi_items (pv 3)) (k_gtup K (by rfl) rfl (pgs_cons (pg_name (i := 5) sc_is_assignment.nd rfl (Or.inl rfl)) (pgs_cons (pg_name (i := 6) sc_is_assignment.nd rfl (Or.inl rfl)) pgs_nil))) (pss_cons (ps_if (PW.pt (pw_or (pt_cmpR (op_notInO F_C_contains T.sC_contains (hr.mono (by decide))) (pv 5) (pv 4) (by rfl)) (pw_or (pt_not (pt_val (pe_c F_is_name (hr.mono (by decide)) (pa_cons (pv 6) pa_nil)))) (pw_or1 (pt_cmp (pc_dnotin (hu_of hr) (pv 6) (pv 0)) (by rfl)))))) (pss_one (ps_ret pe_bl)) pss_nil)
      (pss_one (ps_if (pt_not (pt_val (pe_c F_is_below (hr.mono (by decide)) (pa_cons (pe_dget (hu_of hr) (pv 0) (pv 6) (fun _ _ => rfl)) (pa_cons (pv 5) (pa_cons (pv 2) pa_nil)))))) (pss_one (ps_ret pe_bl)) pss_nil)))))
      (pss_cons (ps_set (i := 7) sc_is_assignment.nd rfl (Or.inr rfl) (pe_lvals rfl T.b_list (pv 3)))
      (pss_one (ps_ret (pe_callB (k_all K (by rfl) rfl) (by rfl) T.b_all (by decide +kernel) (pa_cons (pe_lockR (pe_lc (own := [("player", 6), ("count", 8)]) (g := gTup K 2 (gCons (gName 6) (gCons (gName 8) gNil))) (tt := tYes) rfl sc_is_assignment.nd (pi_items (pv 1)) (blkOk_by (N := ["rankings", "counts", "committee", "candidate", "others", "name", "player", "found", "count"]) (sc := defScope s_is_assignment) (by decide +kernel)) (fun _ _ _ _ _ => by exact (k_gtup K (by rfl) rfl (pgs_cons (pg_name (i := 6) sc_is_assignment.nd rfl (Or.inl rfl)) (pgs_cons (pg_name (i := 8) sc_is_assignment.nd rfl (Or.inl rfl)) pgs_nil)))) (fun _ _ _ _ _ => by exact (pts_nil)) (fun _ _ _ _ _ => by exact ((pe_cmpR op_eq (k_bm K (by rfl) PySem.F.plainAttrs_list PySem.F.slot_list_count PySem.F.type_list_count (k_countS K (by rfl)) (pv 7) (pa_cons (pv 6) pa_nil)) (pv 8) (nomark _)))))) pa_nil)))))))), ?_⟩
  have g := pre.gk
  have hlk : asg.length = (others A ms).length := by rw [← ia.keys, List.length_map]
  have hlo30 : (others A ms).length ≤ 30 := Nat.le_trans (List.length_filter_le _ _) g.gc.2.2
  refine ⟨_, rfl, _, rfl, _, rfl, r, n, c, rs, A, cs, ms, rfl, pre.rk, pre.gk, pre.ct, pre.ck, pre.cm, pre.gm, pre.sub, pre.tot, fun v H1 s1 ⟨q, ev, hq⟩ => ?_⟩
  subst ev
  obtain ⟨dxq, lq, y1, y2⟩ := id hq
  have hd1 := s1 _ _ hd
  have pre1 := pre.s s1
  refine ⟨_, rfl, d, _, rfl, .inl hd1, true, rfl, iteF ?_⟩
  have b63 : (0 : Int) ≤ ((others A ms).length : Nat) ∧ (((others A ms).length : Nat) : Int) < 2 ^ 63 := by constructor <;> omega
  refine ⟨_, rfl, d, _, rfl, .inl hd1, _, rfl, q, dxq, _, rfl, y1, q, _, rfl, hq, _, rfl, b63, by simp [scal], _, rfl, itF (by rw [asK_length, hlk]; simp [others]) ?_⟩
  refine ⟨d, _, .inl hd1, fun H2 o md2 g2 e2 => ?_⟩
  obtain ⟨kvs, hdr, hor⟩ := pre1.rk
  have nrd : r ≠ d := fun e => by
    subst e
    have e := rd_inj hdr (.inl hd1)
    obtain ⟨q', a, _, h0, _⟩ := hor.first g.ne
    rw [e, asK, List.map_map, List.getElem?_map] at h0
    cases hc : asg[0]? with
    | none => rw [hc] at h0; cases h0
    | some p => rw [hc] at h0; cases h0
  have hdr2 : Rd H2 r (.dK kvs) := hdr.imp (fun e => (e2 r nrd).trans e) fun ⟨o', e⟩ => ⟨o', (e2 r nrd).trans e⟩
  have hor2 := hor.md md2
  have hq2 := hq.md md2
  have hc2 := pre1.cm.md md2
  refine ⟨_, rfl, d, o, _, rfl, g2, for_it walk_items (fun i σ Hc => ∃ x5 x6, σ = [some (.ref r), some (.ref n), some (.ref c), some (.ref d), some (.ref q), x5, x6, none, none] ∧ Same H2 Hc) ⟨none, none, rfl, Same.refl _⟩ (fun i σ Hc _ ⟨_, _, _, s⟩ => s _ _ g2) ?_ ?_⟩
  · rintro i y σ Hc H3 hi ⟨x5, x6, rfl, s3⟩ ⟨t, x1, x2, rfl, ht, rfl, f1, f2⟩
    dsimp only at f1 f2
    obtain ⟨⟨nm, pl⟩, hqq⟩ := get_lt (l := asg) (i := i) (by rw [asK_length] at hi; exact hi)
    rw [asK, List.getElem?_map, hqq] at f1 f2
    cases f1; cases f2
    have s4 := s3.trans (same_new ht (.tup [.str nm, .str pl]))
    refine ⟨t, _, rfl, .inl (.inl upd_same), rfl, _, _, rfl, _, [], rfl, rfl, ?_⟩
    show tSeq _ _ _ _ (upd Hc t (.tup [.str nm, .str pl]))
    generalize upd Hc t (.tup [.str nm, .str pl]) = Hd at s4
    have and' : (asg.map (·.1)).Nodup := by rw [ia.keys]; exact others_nd g.gc
    have hget := mem_getA and' (List.mem_of_getElem? hqq)
    have hno : nm ∈ others A ms := by rw [← ia.keys]; exact getA_key hget
    have hps := ia.ok nm pl hget
    have hplr := (mem_srt _ _).mp (List.mem_filter.mp hps).1
    obtain ⟨qr, hqr, e⟩ := List.mem_map.mp hplr
    have hok : okName nm = true := g.gc.2.1 nm (List.mem_filter.mp hno).1
    have hq4 := hq2.s s4
    obtain ⟨dz, lz, z1, z2⟩ := id hq4
    refine ⟨_, rfl, _, rfl, q, dz, _, rfl, z1, q, _, nm, rfl, hq4, hok, fun v H5 s5 ev => ?_⟩
    subst ev
    rw [decide_eq_true (show nm ∈ A.filter (fun x => !decide (x ∈ ms)) from hno)]
    have s45 := s4.trans s5
    refine ⟨_, rfl, _, rfl, iteF ?_⟩
    refine ⟨_, rfl, pl, rfl, g.nm _ hplr, fun v H6 s6 ev => ?_⟩
    subst ev
    have s46 := s45.trans s6
    have hor6 := hor2.md (.of s46)
    obtain ⟨a, hv, hra⟩ := hor6.val g.nd hqr
    rw [e] at hv
    refine ⟨true, rfl, iteF ?_⟩
    refine ⟨_, rfl, _, rfl, r, _, rfl, .inl ⟨kvs, Sum.inr pl, Rd.s hdr2 s46, rfl, rfl⟩, _, rfl, ?_⟩
    rw [hv]
    refine iteF ?_
    refine ⟨_, rfl, _, rfl, r, _, rfl, .inl ⟨kvs, Sum.inr pl, Rd.s hdr2 s46, rfl, hv.symm⟩, _, rfl, _, rfl, a, nm, c, qr.2, ms, rfl, hra, (g.gr qr hqr).1, hc2.s s46, pre.gm.2.2, (g.mem hqr nm).mpr (List.mem_filter.mp hno).1, fun m hm => (g.mem hqr m).mpr (pre.sub m hm), fun v H7 s7 ev => ?_⟩
    subst ev
    have hb : below qr.2 nm ms = true := by
      have := (List.mem_filter.mp hps).2
      rw [← e, rkOf_mem g.nd hqr] at this
      exact this
    rw [hb]
    exact ⟨true, rfl, iteF ⟨_, _, rfl, s46.trans s7⟩⟩
  · rintro σ Hc ⟨x5, x6, rfl, s3⟩
    refine ⟨s3 _ _ g2, fun H4 e4 e5 => ?_⟩
    have s14 : Same H1 H4 := lk_same e2 s3 e4 e5
    have s04 := s1.trans s14
    refine ⟨_, rfl, d, _, rfl, .inl (s14 _ _ hd1), fun l hl => ?_⟩
    have s5 := same_new hl (.lst ((asK V.str asg).map (·.2)))
    have efl : (upd H4 l (.lst ((asK V.str asg).map (·.2)))) l = some (.lst (sv (asg.map (·.2)))) := by rw [upd_same, asK, List.map_map, sv, List.map_map]; rfl
    generalize upd H4 l (.lst ((asK V.str asg).map (·.2))) = H5 at s5 efl
    have s05 := s04.trans s5
    have hn5 : Rd H5 n (.dK (ctK cs)) := Rd.s pre.ct s05
    refine ⟨n, _, hn5, fun H6 o6 md6 g6 e6 => ?_⟩
    have nln : l ≠ n := fun e => by subst e; rcases hn5 with z | ⟨o, z⟩ <;> (rw [z] at efl; cases efl)
    have efl6 := (e6 l nln).trans efl
    have hlen : (ctK cs).length ≤ 1000 := by rw [ctK_length, pre.ck.len]; have := g.len; omega
    refine ⟨_, rfl, n, o6, _, rfl, g6, lc_g walk_items (fun i acc _ => acc = (List.replicate i true).map V.bl) hlen (fun H s => s _ _ g6) (fun _ _ => rfl) (fun _ _ _ _ q _ => q) (fun i acc _ e => by rw [e, List.length_map, List.length_replicate]; exact Nat.le_refl _) ?_ ?_⟩
    · rintro i acc y H7 H8 Qy Qn hi s7 rfl ⟨t, x1, x2, rfl, ht, rfl, f1, f2⟩ ky kn
      dsimp only at f1 f2
      obtain ⟨⟨pl, ct⟩, hqq⟩ := get_lt (l := cs) (i := i) (by rw [ctK_length] at hi; exact hi)
      rw [ctK, List.getElem?_map, hqq] at f1 f2
      cases f1; cases f2
      have s8 := same_new ht (.tup [.str pl, .int ct])
      refine ⟨t, _, rfl, .inl (.inl upd_same), rfl, _, _, rfl, _, [], rfl, rfl, rfl, ?_⟩
      refine ⟨_, rfl, .inl ⟨rfl, _, SqL.of (s8 _ _ (s7 _ _ efl6))⟩, _, rfl, l, _, pl, rfl, rfl, SqL.of (s8 _ _ (s7 _ _ efl6)), _, rfl, rfl, ?_⟩
      have hcn := ia.cn (pl, ct) (List.mem_of_getElem? hqq)
      have hcc : (asg.map (·.2)).count pl = cnt asg pl := by
        unfold cnt owned
        rw [List.length_map, List.count_eq_countP, List.countP_map, List.countP_eq_length_filter]
        congr 1
      refine ky _ _ s8 ?_
      rw [hcc, show ((cnt asg pl : Nat) : Int) = ct from hcn, List.replicate_succ', List.map_append]
      try simp
    · intro D acc H7 hD s7 hacc e
      subst e
      refine ⟨s7 _ _ g6, fun H8 e8 e9 => ?_⟩
      have s8 : Same H5 H8 := lk_same e6 s7 e8 e9
      refine ⟨D, _, rfl, SqL.of (lk_new g6 s7 e9 hacc rfl), k _ _ (s05.trans s8) ?_⟩
      rw [all_rep]
theorem ok_exchange (T : TX K mg) : Cal P w K mg base 1 "exchange" ["owner", "targets", "player"] (spExch K) := by
  refine cal_mk (fok_mk T.f_exchange sc_exchange (fun _ _ _ _ _ _ us hl => match us, hl with | [_, _, _], _ => rfl) (fun vs H Q E h => ?_) (fun cdv A outer s H vs Q E hr h => ?_)) T.g_exchange (let ⟨_, F⟩ := T.f_exchange; F.kp)
  · obtain ⟨wd, t, own, tgs, p0, rfl, _⟩ := h; rfl
  obtain ⟨wd, t, own, tgs, p0, rfl, hw, ht, nwt, nd, hlen, hp0, htg, k⟩ := h
  refine ⟨_, (pss_cons (ps_set (i := 3) sc_exchange.nd rfl (Or.inl rfl) (pe_lst pa_nil))
      (pss_cons (ps_while PassesOwn.never (pt_cmpR (k_notIn K (by rfl)) (pv 2) (pv 3) (by rfl)) (pss_cons (ps_expr (k_bm K (by rfl) PySem.F.plainAttrs_list PySem.F.slot_list_append PySem.F.type_list_append mt_append (pv 3) (pa_cons (pv 2) pa_nil)))
      (pss_one (ps_set (i := 2) sc_exchange.nd rfl (Or.inl rfl) (pe_dget (hu_of hr) (pv 0) (pe_dget (hu_of hr) (pv 1) (pv 2) (fun _ _ => rfl)) (fun _ _ => rfl))))))
      (pss_cons (ps_for PassesOwn.never rfl (k_pil K (by rfl) (pe_slice (k_slL K (by rfl)) (pv 3) (po_some (k_bm K (by rfl) PySem.F.plainAttrs_list PySem.F.slot_list_index PySem.F.type_list_index (k_index K (by rfl)) (pv 3) (pa_cons (pv 2) pa_nil))) po_none)) (pg_name (i := 4) sc_exchange.nd rfl (Or.inl rfl)) (pss_one (ps_dput (hu_of hr) (pv 0) (pe_dget (hu_of hr) (pv 1) (pv 4) (fun _ _ => rfl)) (pv 4) rfl)))
      (pss_one (ps_ret (pv 2)))))), ?_⟩
  generalize htgd : (fun p => (getA tgs p).getD "") = tg at k
  have htg2 : ∀ x p, getA own x = some p → getA tgs p = some (tg p) ∧ ∃ q, getA own (tg p) = some q := fun x p e => by
    obtain ⟨y, hy, hm⟩ := htg x p e
    have e1 : tg p = y := by rw [← htgd]; show (getA tgs p).getD "" = y; rw [hy]; rfl
    rw [e1]
    exact ⟨hy, getA_of_key hm⟩
  refine ⟨sz_line (by decide : 0 ≤ 1000), fun l hl => ?_⟩
  have s0 := same_new hl (.lst [])
  refine ⟨fun m σ Hc => ∃ path pl mb, σ = [some (.ref wd), some (.ref t), some (.str pl), some (.ref l), mb] ∧ Same H Hc ∧ Hc l = some (.lst (sv path)) ∧ path.Nodup ∧ Chain own tg path pl ∧ (∀ m ∈ path, ∃ x, getA own x = some m) ∧ (∃ x, getA own x = some pl) ∧ m + path.length = 31,
    ⟨31, [], p0, none, rfl, s0, upd_same, by simp, trivial, fun m hm => by simp at hm, hp0, rfl⟩, ?_⟩
  rintro m σ Hc ⟨path, pl, mb, rfl, sc, el, pnd, ch, hv, hpl, hm⟩
  have hplen : path.length ≤ 30 := by
    have := pnd.length_le_of_subset (l₂ := own.map (·.2)) fun z hz => by
      obtain ⟨x, hx⟩ := hv z hz
      exact List.mem_map.mpr ⟨_, getA_mem hx, rfl⟩
    rw [List.length_map] at this; omega
  obtain ⟨x0, hx0⟩ := hpl
  obtain ⟨g1, q, g2⟩ := htg2 x0 pl hx0
  refine ⟨_, rfl, _, rfl, l, _, rfl, .inl (SqL.of el), rfl, flat_sv path, _, rfl, ?_⟩
  rw [if_pos rfl, inV_strs]
  by_cases hin : pl ∈ path
  · rw [decide_eq_true hin]
    refine itF rfl ?_
    obtain ⟨j, hj, hjx⟩ : ∃ j, path[j]? = some pl ∧ j = path.idxOf pl := ⟨_, get_idx hin, rfl⟩
    have hjl := (List.getElem?_eq_some_iff.mp hj).1
    refine ⟨_, rfl, _, rfl, .inl ⟨rfl, _, SqL.of el⟩, _, rfl, l, _, .str pl, j, .str pl, rfl, rfl, SqL.of el, rfl, flat_sv path, by rw [List.getElem?_map, hj]; rfl, by simp [eqV], fun m z' hm hz => ?_, ?_⟩
    · obtain ⟨z, hz2, rfl⟩ := get_map hz
      have hne : z ≠ pl := fun e => by
        subst e
        have := nd_ix pnd hz2 hj
        omega
      simp [eqV, hne]
    refine ⟨_, rfl, l, _, rfl, SqL.of el, fun b hb => ?_⟩
    rw [cut_from _ _ (by rw [List.length_map]; omega)]
    have hcyc : (sv path).drop j = sv (path.drop j) := by rw [sv, sv, List.map_drop]
    rw [hcyc]
    have hchd := chain_drop j ch
    have hdv : ∀ m ∈ path.drop j, ∃ x, getA own x = some m := fun m hm => hv m (List.mem_of_mem_drop hm)
    have hdnd := pnd.sublist (List.drop_sublist j path)
    have hhead : (path.drop j).head? = some pl := by rw [List.head?_drop]; exact hj
    have hdl : (path.drop j).length ≤ 30 := by rw [List.length_drop]; omega
    have sF := sc.trans (same_new hb (.lst (sv (path.drop j))))
    have ebF : (upd Hc b (.lst (sv (path.drop j)))) b = some (.lst (sv (path.drop j))) := upd_same
    generalize upd Hc b (.lst (sv (path.drop j))) = Hf at sF ebF
    generalize path.drop j = cyc at hchd hdv hdnd hhead hdl ebF
    have ewF := sF _ _ hw
    have nbw : b ≠ wd := ne_of ebF ewF (fun z => nomatch z)
    refine ⟨b, rfl, ⟨_, SqL.of ebF⟩, for_it walk_list (fun i σ Hc => ∃ mb, σ = [some (.ref wd), some (.ref t), some (.str pl), some (.ref l), mb] ∧ But wd Hf Hc ∧ Hc wd = some (.dK (asK V.str (rotO tg (cyc.take i) own)))) ⟨mb, rfl, .of (Same.refl _), ewF⟩ (fun i σ Hc _ ⟨_, _, bt, _⟩ => SqL.of (bt _ _ nbw ebF)) ?_ ?_⟩
    · rintro i y σ Hc H2 hi ⟨mb, rfl, bt, ew⟩ ⟨rfl, hc⟩
      obtain ⟨z, hz, rfl⟩ := get_map hc
      obtain ⟨x, hx⟩ := hdv z (List.mem_of_getElem? hz)
      obtain ⟨g1, _⟩ := htg2 x z hx
      have ht2 : Rd H2 t (.dK (asK V.str tgs)) := (Rd.s ht sF).imp (fun e => bt _ _ nwt.symm e) fun ⟨o, e⟩ => ⟨o, bt _ _ nwt.symm e⟩
      have hl2 : (rotO tg (cyc.take i) own).length ≤ own.length + i := by
        have : ∀ (l : List Str) (o : Own), (rotO tg l o).length ≤ o.length + l.length := by
          intro l
          induction l with
          | nil => intro o; exact Nat.le_refl _
          | cons a r ih =>
            intro o
            have h1 := ih (putA o (tg a) a)
            have h2 : (putA o (tg a) a).length ≤ o.length + 1 := by
              unfold putA; split
              · rw [List.length_map]; omega
              · rw [List.length_append]; exact Nat.le_refl _
            show (rotO tg r (putA o (tg a) a)).length ≤ _
            rw [List.length_cons]; omega
        have h3 := this (cyc.take i) own
        rw [List.length_take] at h3
        omega
      have hi2 : i < 30 := by rw [List.length_map] at hi; omega
      refine ⟨_, rfl, _, rfl, _, rfl, _, rfl, t, _, rfl, .inl ⟨_, Sum.inr z, ht2, rfl, by rw [asK_get, g1]; rfl⟩, wd, _, rfl, .inl ⟨_, Sum.inr (tg z), ew, rfl, small1000 (by rw [asK_length]; omega), rfl⟩, ?_⟩
      refine ⟨_, rfl, bt.up _, ?_⟩
      rw [upd_same, take_snoc hz]
      have : rotO tg (cyc.take i ++ [z]) own = putA (rotO tg (cyc.take i) own) (tg z) z := by unfold rotO; rw [List.foldl_append]; rfl
      rw [this, ← asK_put]
    · rintro σ Hc ⟨mb, rfl, bt, ew⟩
      rw [List.length_map, List.take_length] at ew
      refine ⟨_, rfl, k pl Hc _ ((But.of sF).trans bt) ew ⟨cyc, hhead, ?_, hchd, rfl, hdv⟩⟩
      cases cyc with
      | nil => cases hhead
      | cons a r =>
        cases hhead
        rw [List.nodup_cons] at hdnd
        rw [List.tail_cons, List.nodup_append]
        exact ⟨hdnd.2, by simp, fun u hu v hv e => by rw [List.mem_singleton] at hv; subst hv; subst e; exact hdnd.1 hu⟩
  · rw [decide_eq_false hin]
    refine itT rfl ⟨fun σ' H' => ∃ m', m' < m ∧ ∃ path pl mb, σ' = [some (.ref wd), some (.ref t), some (.str pl), some (.ref l), mb] ∧ Same H H' ∧ H' l = some (.lst (sv path)) ∧ path.Nodup ∧ Chain own tg path pl ∧ (∀ m ∈ path, ∃ x, getA own x = some m) ∧ (∃ x, getA own x = some pl) ∧ m' + path.length = 31, fun _ _ z => z, ?_⟩
    refine ⟨_, rfl, .inl ⟨rfl, _, SqL.of el⟩, _, rfl, l, _, _, rfl, rfl, el, small1000 (by rw [List.length_map]; omega), ?_⟩
    have sE := same_up sc hl (.lst (sv path ++ [V.str pl]))
    have elE : (upd Hc l (.lst (sv path ++ [V.str pl]))) l = some (.lst (sv (path ++ [pl]))) := by rw [upd_same, sv, sv, List.map_append]; rfl
    generalize upd Hc l (.lst (sv path ++ [V.str pl])) = He at sE elE
    refine ⟨_, rfl, _, rfl, _, rfl, t, _, rfl, .inl ⟨_, Sum.inr pl, Rd.s ht sE, rfl, by rw [asK_get, g1]; rfl⟩, wd, _, rfl, .inl ⟨_, Sum.inr (tg pl), .inl (sE _ _ hw), rfl, by rw [asK_get, g2]; rfl⟩, ?_⟩
    refine ⟨m - 1, by omega, path ++ [pl], q, mb, rfl, sE, elE, ?_, chain_snoc g2 ch, fun z hz => ?_, ⟨_, g2⟩, by rw [List.length_append, List.length_singleton]; omega⟩
    · rw [List.nodup_append]
      exact ⟨pnd, by simp, fun a ha b hb e => by rw [List.mem_singleton] at hb; subst hb; subst e; exact hin ha⟩
    · rcases List.mem_append.mp hz with hz | hz
      · exact hv z hz
      · rw [List.mem_singleton.mp hz]; exact ⟨x0, hx0⟩
end
end Fl
namespace Fl
open PySem PySem.Spec L2
/-! ### a round of names -/
theorem rot_nil (tg : Str → Str) (o : Own) : rotO tg [] o = o := rfl
theorem rot_cons (tg : Str → Str) (m : Str) (r : List Str) (o : Own) : rotO tg (m :: r) o = rotO tg r (putA o (tg m) m) := rfl
theorem rot_keys {tg : Str → Str} : ∀ (l : List Str) (o : Own), (∀ m ∈ l, tg m ∈ o.map (·.1)) → (rotO tg l o).map (·.1) = o.map (·.1)
  | [], _, _ => rfl
  | m :: r, o, h => by
    have e : (putA o (tg m) m).map (·.1) = o.map (·.1) := by rw [keys_put, if_pos (h m List.mem_cons_self)]
    rw [rot_cons, rot_keys r _ (fun z hz => by rw [e]; exact h z (List.mem_cons_of_mem _ hz)), e]
theorem rot_get {tg : Str → Str} : ∀ (l : List Str) (o : Own) (x p : Str), getA (rotO tg l o) x = some p → getA o x = some p ∨ (x = tg p ∧ p ∈ l)
  | [], _, _, _, h => .inl h
  | m :: r, o, x, p, h => by
    rcases rot_get r _ x p h with h | ⟨h1, h2⟩
    · rw [getA_put] at h
      by_cases e : x = tg m
      · rw [if_pos e] at h; cases h; exact .inr ⟨e, List.mem_cons_self⟩
      · rw [if_neg e] at h; exact .inl h
    · exact .inr ⟨h1, List.mem_cons_of_mem _ h2⟩
theorem rot_miss {tg : Str → Str} : ∀ (l : List Str) (o : Own) (x : Str), x ∉ l.map tg → getA (rotO tg l o) x = getA o x
  | [], _, _, _ => rfl
  | m :: r, o, x, h => by
    rw [List.map_cons, List.mem_cons, not_or] at h
    rw [rot_cons, rot_miss r _ x h.2, getA_put, if_neg h.1]
theorem rot_hit {tg : Str → Str} : ∀ (l : List Str) (o : Own) (m : Str), (l.map tg).Nodup → m ∈ l → getA (rotO tg l o) (tg m) = some m
  | [], _, _, _, h => by simp at h
  | a :: r, o, m, nd, h => by
    rw [List.map_cons, List.nodup_cons] at nd
    rcases List.mem_cons.mp h with rfl | h
    · rw [rot_cons, rot_miss r _ _ nd.1, getA_put, if_pos rfl]
    · exact rot_hit r _ m nd.2 h
theorem chain_vals {own : Own} {tg : Str → Str} {z : Str} : ∀ {l : List Str}, l ≠ [] → Chain own tg l z → l.map (fun m => getA own (tg m)) = (l.tail ++ [z]).map some
  | [], h, _ => absurd rfl h
  | [m], _, h => by show [getA own (tg m)] = [some z]; rw [h.1]; rfl
  | m :: a :: t, _, h => by
    have ih := chain_vals (l := a :: t) (by simp) h.2
    rw [List.map_cons, ih, h.1]
    rfl
theorem chain_nd {own : Own} {tg : Str → Str} {z : Str} {l : List Str} (hl : l ≠ []) (h : Chain own tg l z) (nd : (l.tail ++ [z]).Nodup) : (l.map tg).Nodup := by
  have e := chain_vals hl h
  have nd2 : ((l.map tg).map (getA own)).Nodup := by
    rw [List.map_map]
    show (l.map fun m => getA own (tg m)).Nodup
    rw [e]
    exact List.Pairwise.map _ (fun a b hab e => hab (Option.some.inj e)) nd
  exact List.Pairwise.of_map (getA own) (fun a b hab e => hab (by rw [e])) nd2
theorem rot_nd {tg : Str → Str} : ∀ (l : List Str) (o : Own), (o.map (·.1)).Nodup → ((rotO tg l o).map (·.1)).Nodup
  | [], _, h => h
  | m :: r, o, h => rot_nd r _ (nodup_put h _ _)
theorem chain_put {own : Own} {tg : Str → Str} {z x p : Str} : ∀ {l : List Str}, x ∉ l.map tg → Chain own tg l z → Chain (putA own x p) tg l z
  | [], _, _ => trivial
  | m :: r, h, c => by
    rw [List.map_cons, List.mem_cons, not_or] at h
    refine ⟨?_, chain_put h.2 c.2⟩
    rw [getA_put, if_neg (fun e => h.1 e.symm)]; exact c.1
/-- each has as many as before -/
theorem rot_cnt {tg : Str → Str} {z : Str} (r : Str) : ∀ (m : Str) (l : List Str) (o : Own), (o.map (·.1)).Nodup → ((m :: l).map tg).Nodup → Chain o tg (m :: l) z → cnt (rotO tg (m :: l) o) r + (if z = r then 1 else 0) = cnt o r + (if m = r then 1 else 0)
  | m, [], o, nd, _, h => by
    have e := cnt_put nd (tg m) m r
    have h1 : getA o (tg m) = some z := h.1
    rw [h1] at e
    rw [rot_cons, rot_nil]
    have e3 : (if (some z : Option Str) = some r then 1 else 0) = (if z = r then (1 : Nat) else 0) := by by_cases e : z = r <;> simp [e]
    omega
  | m, a :: t, o, nd, hn, h => by
    have e := cnt_put nd (tg m) m r
    have h1 : getA o (tg m) = some a := h.1
    rw [h1] at e
    rw [List.map_cons, List.nodup_cons] at hn
    have ih := rot_cnt r a t (putA o (tg m) m) (nodup_put nd _ _) hn.2 (chain_put hn.1 h.2)
    rw [rot_cons]
    have e3 : (if (some a : Option Str) = some r then 1 else 0) = (if a = r then (1 : Nat) else 0) := by by_cases e : a = r <;> simp [e]
    omega
/-! ### the worst -/
def wst (rs : Rks) (left : List Str) (p : Str) : Str := (((rkOf rs p).filter fun x => decide (x ∈ left)).getLast?).getD ""
theorem idx_ne {a x : Str} {l : List Str} (h : a ≠ x) : (a :: l).idxOf x = l.idxOf x + 1 := by
  have e : (a == x) = false := by simp [h]
  rw [List.idxOf_cons, e]; rfl
theorem last_max {o left : List Str} {z : Str} (nd : o.Nodup) (h : (o.filter fun x => decide (x ∈ left)).getLast? = some z) : z ∈ left ∧ z ∈ o ∧ ∀ y ∈ left, y ∈ o → o.idxOf y ≤ o.idxOf z := by
  have hz := List.mem_of_getLast? h
  obtain ⟨h1, h2⟩ := List.mem_filter.mp hz
  refine ⟨of_decide_eq_true h2, h1, fun y hy hyo => ?_⟩
  induction o with
  | nil => simp at h1
  | cons a t ih =>
    rw [List.nodup_cons] at nd
    rw [List.filter_cons] at h
    by_cases haz : a = z
    · subst haz
      -- z is the head: nothing behind it is left
      by_cases ha : decide (a ∈ left) = true
      · rw [if_pos ha] at h
        have hnil : t.filter (fun x => decide (x ∈ left)) = [] := by
          cases e : t.filter (fun x => decide (x ∈ left)) with
          | nil => rfl
          | cons b r =>
            rw [e, List.getLast?_cons_cons] at h
            have hm := List.mem_of_getLast? h
            rw [← e] at hm
            exact absurd (List.mem_filter.mp hm).1 nd.1
        rcases List.mem_cons.mp hyo with rfl | hyt
        · exact Nat.le_refl _
        · have : y ∈ t.filter (fun x => decide (x ∈ left)) := List.mem_filter.mpr ⟨hyt, decide_eq_true hy⟩
          rw [hnil] at this; simp at this
      · exact absurd h2 ha
    · have hzt : z ∈ t := (List.mem_cons.mp h1).resolve_left fun e => haz e.symm
      have h' : (t.filter fun x => decide (x ∈ left)).getLast? = some z := by
        by_cases ha : decide (a ∈ left) = true
        · rw [if_pos ha] at h
          cases e : t.filter (fun x => decide (x ∈ left)) with
          | nil => rw [e] at h; simp at h; exact absurd h haz
          | cons b r => rw [e, List.getLast?_cons_cons] at h; exact h
        · rw [if_neg ha] at h; exact h
      by_cases hya : y = a
      · subst hya; rw [List.idxOf_cons_self]; exact Nat.zero_le _
      · have hyt := (List.mem_cons.mp hyo).resolve_left hya
        have := ih nd.2 h' (List.mem_of_getLast? h') hzt hyt
        rw [idx_ne (fun e => hya e.symm), idx_ne haz]
        omega
/-- names and players that are left -/
structure TI (rs : Rks) (A ms : List Str) (own : Own) (left : List Str) : Prop where
  gl : GC left
  la : ∀ x ∈ left, x ∈ A
  ml : ∀ x ∈ ms, x ∈ left
  nd : (own.map (·.1)).Nodup
  keys : ∀ x, x ∈ own.map (·.1) ↔ x ∈ left ∧ x ∉ ms
  el : ∀ x p, getA own x = some p → p ∈ rs.map (·.1) ∧ below (rkOf rs p) x ms = true
theorem wst_is {rs : Rks} {A left : List Str} (g : GK rs A) (la : ∀ x ∈ left, x ∈ A) (ne : left ≠ []) {p : Str} (hp : p ∈ rs.map (·.1)) :
    ((rkOf rs p).filter fun x => decide (x ∈ left)).getLast? = some (wst rs left p) ∧ wst rs left p ∈ left ∧ ∀ y ∈ left, (rkOf rs p).idxOf y ≤ (rkOf rs p).idxOf (wst rs left p) := by
  obtain ⟨q, hq, rfl⟩ := List.mem_map.mp hp
  have e := rkOf_mem g.nd hq
  obtain ⟨x, hx⟩ := List.exists_mem_of_ne_nil _ ne
  have hxo : x ∈ rkOf rs q.1 := by rw [e]; exact (g.mem hq x).mpr (la x hx)
  have hne : (rkOf rs q.1).filter (fun x => decide (x ∈ left)) ≠ [] := List.ne_nil_of_mem (List.mem_filter.mpr ⟨hxo, decide_eq_true hx⟩)
  obtain ⟨z, hz⟩ : ∃ z, ((rkOf rs q.1).filter fun x => decide (x ∈ left)).getLast? = some z := by
    cases h : ((rkOf rs q.1).filter fun x => decide (x ∈ left)).getLast? with
    | none => rw [List.getLast?_eq_none_iff] at h; exact absurd h hne
    | some z => exact ⟨z, rfl⟩
  have ew : wst rs left q.1 = z := by unfold wst; rw [hz]; rfl
  rw [ew]
  obtain ⟨h1, h2, h3⟩ := last_max (by rw [e]; exact (g.gr q hq).1.1) hz
  exact ⟨hz, h1, fun y hy => h3 y hy (by rw [e]; exact (g.mem hq y).mpr (la y hy))⟩
theorem TI.ne {rs : Rks} {A ms : List Str} {own : Own} {left : List Str} (h : TI rs A ms own left) {x p : Str} (hx : getA own x = some p) : left ≠ [] := List.ne_nil_of_mem ((h.keys x).mp (getA_key hx)).1
/-- what an owner would strike is no member -/
theorem TI.tgt {rs : Rks} {A ms : List Str} {own : Own} {left : List Str} (h : TI rs A ms own left) (g : GK rs A) {x p : Str} (hx : getA own x = some p) : wst rs left p ∈ own.map (·.1) ∧ below (rkOf rs p) (wst rs left p) ms = true := by
  obtain ⟨hp, hb⟩ := h.el x p hx
  obtain ⟨_, w2, w3⟩ := wst_is g h.la (h.ne hx) hp
  have hxl := ((h.keys x).mp (getA_key hx)).1
  have hb' : ∀ m ∈ ms, (rkOf rs p).idxOf m < (rkOf rs p).idxOf x := fun m hm => of_decide_eq_true (List.all_eq_true.mp hb m hm)
  refine ⟨(h.keys _).mpr ⟨w2, fun hm => ?_⟩, List.all_eq_true.mpr fun m hm => decide_eq_true ?_⟩
  · have := hb' _ hm
    have := w3 x hxl
    omega
  · have h1 := hb' m hm
    have h2 := w3 x hxl
    omega
theorem TI.step {rs : Rks} {A ms : List Str} {own own' : Own} {left : List Str} {z : Str} (h : TI rs A ms own left) (g : GK rs A) (e : Exch own (wst rs left) own' z) :
    getA own' (wst rs left z) = some z ∧ z ∈ rs.map (·.1) ∧ own'.length = own.length ∧ (∀ r, cnt own' r = cnt own r) ∧ (own'.map (·.1)).Nodup ∧ TI rs A ms (delA own' (wst rs left z)) (left.filter fun x => !decide (x ∈ [wst rs left z])) := by
  obtain ⟨cyc, hh, hnd, hc, rfl, hv⟩ := e.ex
  have hne : cyc ≠ [] := fun e => by rw [e] at hh; cases hh
  have htn := chain_nd hne hc hnd
  have hz : z ∈ cyc := List.mem_of_mem_head? hh
  have hk := rot_keys (tg := wst rs left) cyc own fun m hm => by
    obtain ⟨x, hx⟩ := hv m hm
    exact (h.tgt g hx).1
  have hit := rot_hit cyc own z htn hz
  have nd' := rot_nd (tg := wst rs left) cyc own h.nd
  obtain ⟨xz, hxz⟩ := hv z hz
  refine ⟨hit, (h.el xz z hxz).1, by have := congrArg List.length hk; rwa [List.length_map, List.length_map] at this, fun r => ?_, nd', ?_⟩
  · cases cyc with
    | nil => exact absurd rfl hne
    | cons m l =>
      cases hh
      have := rot_cnt r z l own h.nd htn hc
      omega
  · have hdk : ∀ x, x ∈ (delA (rotO (wst rs left) cyc own) (wst rs left z)).map (·.1) ↔ x ∈ own.map (·.1) ∧ x ≠ wst rs left z := fun x => by
      rw [← hk]
      unfold delA
      rw [List.mem_map, List.mem_map]
      constructor
      · rintro ⟨q, hq, rfl⟩
        obtain ⟨q1, q2⟩ := List.mem_filter.mp hq
        exact ⟨⟨q, q1, rfl⟩, of_decide_eq_true q2⟩
      · rintro ⟨⟨q, hq, rfl⟩, hn⟩
        exact ⟨q, List.mem_filter.mpr ⟨hq, decide_eq_true hn⟩, rfl⟩
    refine ⟨h.gl.filter _, fun x hx => h.la x (List.mem_filter.mp hx).1, fun x hx => ?_, nd'.sublist (List.Sublist.map _ List.filter_sublist), fun x => ?_, fun x p hx => ?_⟩
    · refine List.mem_filter.mpr ⟨h.ml x hx, ?_⟩
      have := ((h.keys _).mp (h.tgt g hxz).1).2
      simp only [List.mem_singleton, Bool.not_eq_true', decide_eq_false_iff_not]
      exact fun e => this (e ▸ hx)
    · rw [hdk, h.keys, List.mem_filter]
      simp only [List.mem_singleton, Bool.not_eq_true', decide_eq_false_iff_not]
      constructor
      · rintro ⟨⟨a, b⟩, c⟩; exact ⟨⟨a, c⟩, b⟩
      · rintro ⟨⟨a, c⟩, b⟩; exact ⟨⟨a, b⟩, c⟩
    · have hx' : getA (rotO (wst rs left) cyc own) x = some p := by
        have hm := getA_mem hx
        exact mem_getA nd' (List.mem_filter.mp hm).1
      rcases rot_get cyc own x p hx' with hx2 | ⟨rfl, hp⟩
      · exact h.el x p hx2
      · obtain ⟨x2, hx2⟩ := hv p hp
        exact ⟨(h.el x2 p hx2).1, (h.tgt g hx2).2⟩
end Fl
namespace Fl
open PySem PySem.Spec L2
section
variable {X : Cx}
theorem swD_true {k v : Expr} {gs : List Comprehension} {scope : Scope} {pos py : Pos} {y : Str} {l : Nat} {env : Env} (hk : env.scope.kind = .function) (hy : env.scope.names.lookup y = some .local) (hl : (py.line == pos.line) = true)
    (ha : (scope.names.any fun (n, k) => n == y && (k == .local || k == .cell)) = false) : swapsWith (.DictComp k v gs scope pos) (some (.Name y py)) l env = pure true := by
  have ky : env.kindOf y = some .local := hy
  have hb : env.blockKind = .function := by unfold Env.blockKind; rw [hk]; rfl
  unfold swapsWith
  simp only [hb, ky, ha, Expr.pos, hl]
  rfl
theorem ps_setDc {i : Nat} {y : Str} {py : Pos} {kx vx tg iter : Expr} {ifs : List Expr} {scope : Scope} {own : List (Str × Nat)} {pos spos : Pos} {wi : L2.TI} {g : TG} {tt : TT} {tk tv : TE} (hc : X.calm = true) (hN : X.N.Nodup) (hy : X.N[i]? = some y) (hyl : X.env.scope.names.lookup y = some .local)
    (hsw : swapsWith (.DictComp kx vx [⟨tg, iter, ifs, 0⟩] scope pos) (some (.Name y py)) spos.line X.env = pure true) (hi : PI X tg iter wi) (ok : BlkOk X.N X.env.scope scope own)
    (hg : ∀ (s : Shared) (H : Hp) (C : Addr) (cl : List (Str × Addr)) (fp : List Addr), PG (X.blk s H scope (compEnvC scope cl C X.env) fp) tg g) (ht : ∀ (s : Shared) (H : Hp) (C : Addr) (cl : List (Str × Addr)) (fp : List Addr), PTs (X.blk s H scope (compEnvC scope cl C X.env) fp) ifs tt)
    (hk : ∀ (s : Shared) (H : Hp) (C : Addr) (cl : List (Str × Addr)) (fp : List Addr), PE (X.blk s H scope (compEnvC scope cl C X.env) fp) kx tk)
    (he : ∀ (s : Shared) (H : Hp) (C : Addr) (cl : List (Str × Addr)) (fp : List Addr), PE (X.blk s H scope (compEnvC scope cl C X.env) fp) vx tv) (hs : ∀ x, foldedSetIterable iter X.env x = pure x := by intro _; rfl) :
    PS X (.Assign [.Name y py] (.DictComp kx vx [⟨tg, iter, ifs, 0⟩] scope pos) spos) (tAsg (tDc wi g tt tk tv (own.map (·.2))) (gName i)) := by
  refine ⟨fun pins s σ H D I h => ?_⟩
  rw [exec_Assign_Name_used _ _ _ _ hsw]
  refine wpAny_bind (wpAny_standAt (wpAny_bind ?_))
  have h : tDc wi g tt tk tv (own.map (·.2)) σ H (fun x H1 => gName i x σ H1 D.nx) := h
  show wpAny _ X.A (evalThenUse (.DictComp kx vx [⟨tg, iter, ifs, 0⟩] scope pos) X.env (assign (.Name y py) X.env)) _ _ s
  unfold evalThenUse
  refine wpAny_bind (thn (dc_core (Qf := fun _ s' => SP X pins D .next s') hc hN I hi ok hg ht hk he hs h fun L C s' m H' I' q hn f => ?_) fun _ s' hq => wpAny_pure (wpAny_pure hq))
  show wpAny _ _ (assign (.Name y py) X.env (.ref L)) _ _ _
  refine wpAny_assign_Name (store_ok2 (v := V.ref L) I' hN hy (.inl hyl) rfl (fun s2 I2 ⟨a, sb, ha⟩ => ?_) (.inr hyl))
  obtain ⟨f0, f1, f2, f3, f4, f5⟩ := f
  have haC : C ≠ a := by
    rcases ha with z | z
    · rw [z]; exact f1
    · exact fun e => f4 y a z e.symm
  refine ⟨m, hn.sameBut sb haC, fun h3 sb3 => ?_⟩
  exact ⟨_, H', I2.turned (t' := s2.toks) (fun b o hb e => (sb3.2 b hb).trans e) f0 f1 f3 f4 f5, q⟩
end
end Fl
namespace Fl
open PySem PySem.Spec L2
def spTurns (K : PySem.W.Frag) : Sp := fun vs H Q _ => ∃ r n c d rs A cs ms asg, vs = [.ref r, .ref n, .ref c, .ref d] ∧ Pre K H r n c rs A cs ms ∧ H d = some (.dK (asK V.str asg)) ∧ IsAsg rs A ms cs asg ∧ Ret H Q fun v _ => ∃ p, v = .ref p
def spFindT (K : PySem.W.Frag) : Sp := fun vs H Q _ => ∃ r n c rs A cs ms, vs = [.ref r, .ref n, .ref c] ∧ Pre K H r n c rs A cs ms ∧ Ret H Q fun v _ => (v = .non ∧ ∀ asg, ¬ IsAsg rs A ms cs asg) ∨ (∃ p, v = .ref p) ∧ ∃ asg, IsAsg rs A ms cs asg
theorem Chain.congr {own : Own} {tg tg' : Str → Str} {z : Str} : ∀ {l : List Str}, (∀ m ∈ l, tg m = tg' m) → Chain own tg l z → Chain own tg' l z
  | [], _, _ => trivial
  | m :: r, h, c => ⟨by rw [← h m List.mem_cons_self]; exact c.1, c.2.congr fun z hz => h z (List.mem_cons_of_mem _ hz)⟩
theorem rot_congr {tg tg' : Str → Str} : ∀ (l : List Str) (o : Own), (∀ m ∈ l, tg m = tg' m) → rotO tg l o = rotO tg' l o
  | [], _, _ => rfl
  | m :: r, o, h => by rw [rot_cons, rot_cons, h m List.mem_cons_self]; exact rot_congr r _ fun z hz => h z (List.mem_cons_of_mem _ hz)
theorem Exch.congr {own own' : Own} {tg tg' : Str → Str} {z : Str} (h : ∀ x m, getA own x = some m → tg m = tg' m) (e : Exch own tg own' z) : Exch own tg' own' z := by
  obtain ⟨cyc, h1, h2, h3, h4, h5⟩ := e.ex
  have hc : ∀ m ∈ cyc, tg m = tg' m := fun m hm => let ⟨x, hx⟩ := h5 m hm; h x m hx
  exact ⟨cyc, h1, h2, h3.congr hc, h4.trans (rot_congr cyc own hc), h5⟩
theorem getA_map_fn {f : Str → Str} {p : Str} : ∀ {l : List Str}, p ∈ l → getA (l.map fun x => (x, f x)) p = some (f p)
  | [], h => by simp at h
  | y :: r, h => by
    rw [List.map_cons, getA_cons]
    by_cases e : y = p
    · subst e; simp
    · rw [if_neg e]; exact getA_map_fn ((List.mem_cons.mp h).resolve_left fun z => e z.symm)
theorem asK_snoc {l : Own} {x p : Str} (h : x ∉ l.map (·.1)) : putK (asK V.str l) (Sum.inr x) (.str p) = asK V.str (l ++ [(x, p)]) := by rw [asK_put, putA_new p h]
theorem take_notin {l : List Str} (nd : l.Nodup) {i : Nat} {x : Str} (h : l[i]? = some x) : x ∉ l.take i := fun hm => by
  obtain ⟨jx, hj⟩ := List.mem_iff_getElem?.mp hm
  rw [List.getElem?_take] at hj
  by_cases hji : jx < i
  · rw [if_pos hji] at hj
    have := nd_ix nd hj h
    omega
  · rw [if_neg hji] at hj; cases hj
theorem ti_start {rs : Rks} {A ms : List Str} {cs : Cts} {asg : Own} (g : GK rs A) (ia : IsAsg rs A ms cs asg) (hsub : ∀ x ∈ ms, x ∈ A) : TI rs A ms asg A := by
  refine ⟨g.gc, fun _ h => h, hsub, by rw [ia.keys]; exact others_nd g.gc, fun x => ?_, fun x p hx => ?_⟩
  · rw [ia.keys]; unfold others; rw [List.mem_filter]; simp
  · have := ia.ok x p hx
    exact ⟨(mem_srt _ _).mp (List.mem_filter.mp this).1, (List.mem_filter.mp this).2⟩
section
variable {P : Program} {w : World} {K : PySem.W.Frag} {mg : Str → Option Value} {base : Heap}
theorem ok_turns_for (T : TX K mg) : Cal P w K mg base 10 "turns_for" ["rankings", "counts", "committee", "assignment"] (spTurns K) := by
  have F_is_assignment := ok_is_assignment (P := P) (w := w) (base := base) T
  have F_all_of := ok_all_of (P := P) (w := w) (base := base) T
  have F_players_of := ok_players_of (P := P) (w := w) (base := base) T
  have F_exchange := ok_exchange (P := P) (w := w) (base := base) T
  have F_R_worst := ok_R_worst (P := P) (w := w) (base := base) T
  have F_C_init := ok_C_init (P := P) (w := w) (base := base) T
  have F_C_sub := ok_C_sub (P := P) (w := w) (base := base) T
  have F_T_init := ok_T_init (P := P) (w := w) (base := base) T
  refine cal_mk (fok_mk T.f_turns_for sc_turns_for (fun _ _ _ _ _ _ us hl => match us, hl with | [_, _, _, _], _ => rfl) (fun vs H Q E h => ?_) (fun cdv A outer s H vs Q E hr h => ?_)) T.g_turns_for (let ⟨_, F⟩ := T.f_turns_for; F.kp)
  · obtain ⟨r, n, c, d, rs, A, cs, ms, asg, rfl, _⟩ := h; rfl
  obtain ⟨r, n, c, d, rs, A, cs, ms, asg, rfl, pre, hd, ia, k⟩ := h
  refine ⟨_, (pss_cons (ps_if (pt_not (pt_val (pe_c F_is_assignment (hr.mono (by decide)) (pa_cons (pv 0) (pa_cons (pv 1) (pa_cons (pv 2) (pa_cons (pv 3) pa_nil))))))) pss_never pss_nil)
      (pss_cons (ps_setDc (i := 4) (own := [("name", 9)]) (g := gName 9) (tt := tYes) rfl sc_turns_for.nd rfl rfl (swD_true rfl rfl rfl (by decide +kernel)) (k_pil K (by rfl) (pe_callB (call_sortedD rfl) (by rfl) T.b_sorted (by decide +kernel) (pa_cons (pv 3) pa_nil))) (blkOk_by (N := ["rankings", "counts", "committee", "assignment", "owner", "left", "players", "targets", "player", "name"]) (sc := defScope s_turns_for) (by decide +kernel)) (fun _ _ _ _ _ => by exact (pg_name (i := 9) sc_turns_for.nd rfl (Or.inl rfl))) (fun _ _ _ _ _ => by exact (pts_nil)) (fun _ _ _ _ _ => by exact ((pv 9))) (fun _ _ _ _ _ => by exact ((pe_dget (hu_of hr) (pv 3) (pv 9) (fun _ _ => rfl)))))
      (pss_cons (ps_set (i := 5) sc_turns_for.nd rfl (Or.inr rfl) (pe_c F_all_of (hr.mono (by decide)) (pa_cons (pv 0) pa_nil)))
      (pss_cons (ps_set (i := 6) sc_turns_for.nd rfl (Or.inl rfl) (pe_lst pa_nil))
      (pss_cons (ps_while PassesOwn.never (pt_cmpR op_gt (pe_callB call_lenR (by rfl) T.b_len (by decide +kernel) (pa_cons (pv 4) pa_nil)) pe_int (nomark _)) (pss_cons (ps_setDc (i := 7) (own := [("player", 8)]) (g := gName 8) (tt := tYes) rfl sc_turns_for.nd rfl rfl (swD_true rfl rfl rfl (by decide +kernel)) (k_pil K (by rfl) (pe_c F_players_of (hr.mono (by decide)) (pa_cons (pv 0) pa_nil))) (blkOk_by (N := ["rankings", "counts", "committee", "assignment", "owner", "left", "players", "targets", "player", "name"]) (sc := defScope s_turns_for) (by decide +kernel)) (fun _ _ _ _ _ => by exact (pg_name (i := 8) sc_turns_for.nd rfl (Or.inl rfl))) (fun _ _ _ _ _ => by exact (pts_nil)) (fun _ _ _ _ _ => by exact ((pv 8))) (fun _ _ _ _ _ => by exact ((pe_m F_R_worst T.clsR T.mR_worst (hr.mono (by decide)) (pe_dget (hu_of hr) (pv 0) (pv 8) (fun _ _ => rfl)) (pa_cons (pv 5) pa_nil)))))
      (pss_cons (ps_set (i := 8) sc_turns_for.nd rfl (Or.inl rfl) (pe_c F_exchange (hr.mono (by decide)) (pa_cons (pv 4) (pa_cons (pv 7) (pa_cons (pe_ix (k_ixL K (by rfl)) (pe_lvals rfl T.b_list (pv 4)) pe_int (fun _ _ => rfl)) pa_nil)))))
      (pss_cons (ps_expr (k_bm K (by rfl) PySem.F.plainAttrs_list PySem.F.slot_list_append PySem.F.type_list_append mt_append (pv 6) (pa_cons (pv 8) pa_nil)))
      (pss_cons (ps_ddel (pv 4) (pe_dget (hu_of hr) (pv 7) (pv 8) (fun _ _ => rfl)))
      (pss_one (ps_set (i := 5) sc_turns_for.nd rfl (Or.inr rfl) (pe_op (op_binO F_C_sub T.sfC T.sC_sub (hr.mono (by decide))) (pv 5) (pe_mk F_C_init T.mkC T.gC (hr.mono (by decide)) (pa_cons (pe_lst (pa_cons (pe_dget (hu_of hr) (pv 7) (pv 8) (fun _ _ => rfl)) pa_nil)) pa_nil))))))))))
      (pss_one (ps_ret (pe_mk F_T_init T.mkT T.gT (hr.mono (by decide)) (pa_cons (k_revL K (by rfl) (pv 6)) pa_nil))))))))), ?_⟩
  have g := pre.gk
  have hlo30 : (others A ms).length ≤ 30 := Nat.le_trans (List.length_filter_le _ _) g.gc.2.2
  have hal : asg.length = (others A ms).length := by rw [← ia.keys, List.length_map]
  have and' : (asg.map (·.1)).Nodup := by rw [ia.keys]; exact others_nd g.gc
  refine ⟨_, rfl, _, rfl, _, rfl, _, rfl, r, n, c, d, rs, A, cs, ms, asg, rfl, pre, hd, ia, fun v H1 s1 e => ?_⟩
  subst e
  refine ⟨true, rfl, iteF ?_⟩
  have hd1 := s1 _ _ hd
  refine ⟨_, rfl, d, _, others A ms, rfl, .inl hd1, ?_, by omega, fun ys p hperm hsort hp => ?_⟩
  · rw [← ia.keys, asK, List.map_map, List.map_map]; rfl
  have hys : ys = others A ms := by rw [sorted_is hperm hsort (others_nd g.gc)]; exact srt_of_SS (g.gc.1.filter _)
  subst hys
  have s2 := s1.trans (same_new hp (.lst ((others A ms).map V.str)))
  have ep : (upd H1 p (.lst ((others A ms).map V.str))) p = some (.lst (sv (others A ms))) := upd_same
  generalize upd H1 p (.lst ((others A ms).map V.str)) = H2 at s2 ep
  refine ⟨p, rfl, ⟨_, SqL.of ep⟩, dc_g walk_list (fun i acc _ => acc = asK V.str (asg.take i)) (by rw [List.length_map]; omega) (fun H s => SqL.of (s _ _ ep)) (fun _ _ => rfl) (fun _ _ _ _ q _ => q) (fun i acc _ e => by rw [e, asK_length, List.length_take]; exact Nat.min_le_left _ _) ?_ ?_⟩
  · rintro i acc y H3 H4 Qy Qn hi s3 rfl ⟨rfl, hc⟩ ky kn
    obtain ⟨x, hx, rfl⟩ := get_map hc
    obtain ⟨⟨x', pl⟩, hq⟩ := get_lt (l := asg) (i := i) (by rw [List.length_map] at hi; omega)
    have e1 : (asg.map (·.1))[i]? = some x' := by rw [List.getElem?_map, hq]; rfl
    rw [ia.keys, hx] at e1
    cases e1
    have hget := mem_getA and' (List.mem_of_getElem? hq)
    have s23 := s2.trans s3
    refine ⟨rfl, _, rfl, _, rfl, _, rfl, d, _, rfl, .inl ⟨_, Sum.inr x, .inl (s23 _ _ hd), rfl, by rw [asK_get, hget]; rfl⟩, ?_⟩
    refine ky (Sum.inr x) _ _ (Same.refl _) ?_
    rw [take_snoc hq, asK_snoc]
    rw [List.map_take]
    exact take_notin and' (by rw [List.getElem?_map, hq]; rfl)
  intro wd acc H3 hwd0 s3 hacc e
  rw [List.length_map, ← hal, List.take_length] at e
  subst e
  have s03 := s2.trans s3
  have hwH : H wd = none := by
    cases z : H wd with
    | none => rfl
    | some u => rw [s2 _ _ z] at hwd0; cases hwd0
  refine ⟨_, rfl, r, rs, A, rfl, pre.rk.s s03, g, fun v H4 s4 ⟨q, ev, hq⟩ => ?_⟩
  subst ev
  have s04 := s03.trans s4
  refine ⟨sz_line (by decide : 0 ≤ 1000), fun pl hpl => ?_⟩
  have hplH : H pl = none := by
    cases z : H pl with
    | none => rfl
    | some u => rw [s04 _ _ z] at hpl; cases hpl
  have s5 := same_new hpl (.lst [])
  refine ⟨fun m σ Hc => ∃ own left ps lf tgx plx, σ = [some (.ref r), some (.ref n), some (.ref c), some (.ref d), some (.ref wd), some (.ref lf), some (.ref pl), tgx, plx, none] ∧ Same H Hc ∧ Hc wd = some (.dK (asK V.str own)) ∧ ComAt K Hc lf left ∧ Hc pl = some (.lst (sv ps)) ∧ TI rs A ms own left ∧ (∀ p ∈ ps, p ∈ rs.map (·.1)) ∧ ps.length + own.length = asg.length ∧ m = own.length,
    ⟨_, asg, A, [], q, none, none, rfl, s04.trans s5, s5 _ _ (s4 _ _ hacc), hq.s s5, upd_same, ti_start g ia pre.sub, fun p hp => by simp at hp, by simp, rfl⟩, ?_⟩
  rintro m σ Hc ⟨own, left, ps, lf, tgx, plx, rfl, sc, ew, hlf, epl, ti, hps, hlen, rfl⟩
  refine ⟨_, rfl, wd, _, rfl, .inl ew, _, 0, rfl, rfl, _, rfl, ?_⟩
  rw [asK_length]
  cases own with
  | nil =>
    refine itF (by simp) ?_
    refine ⟨_, rfl, pl, _, rfl, SqL.of epl, fun l hl x dx nx nd ne => ?_⟩
    have sl := sc.trans (same_new hl (.lst (sv ps).reverse))
    have nlx : l ≠ x := fun e => by subst e; rw [upd_same] at nx; cases nx
    have nld : l ≠ dx := fun e => by subst e; rw [upd_same] at nd; cases nd
    refine ⟨x, dx, l, ps.reverse, rfl, upd_same, SqL.of ?_, fun z hz => g.nm _ (hps z (List.mem_reverse.mp hz)), by rw [List.length_reverse]; simp at hlen; omega, fun H5 kp => ⟨rfl, k _ _ (sl.trans (made_same nx nd kp)) ⟨x, rfl⟩⟩⟩
    rw [upd_ne nlx, upd_ne nld, upd_same, sv, sv, List.map_reverse]
  | cons o rest =>
    refine itT (by simp) ⟨fun σ' H' => ∃ m', m' < (o :: rest).length ∧ ∃ own left ps lf tgx plx, σ' = [some (.ref r), some (.ref n), some (.ref c), some (.ref d), some (.ref wd), some (.ref lf), some (.ref pl), tgx, plx, none] ∧ Same H H' ∧ H' wd = some (.dK (asK V.str own)) ∧ ComAt K H' lf left ∧ H' pl = some (.lst (sv ps)) ∧ TI rs A ms own left ∧ (∀ p ∈ ps, p ∈ rs.map (·.1)) ∧ ps.length + own.length = asg.length ∧ m' = own.length, fun _ _ z => z, ?_⟩
    obtain ⟨x0, p0⟩ := o
    have hx0 : getA ((x0, p0) :: rest) x0 = some p0 := by rw [getA_cons]; simp
    have hlne := ti.ne hx0
    generalize hown : (x0, p0) :: rest = own at ew ti hlen hx0
    have hfst : ((asK V.str own).map (·.2))[0]? = some (.str p0) := by rw [← hown]; rfl
    have hol : own.length ≤ 30 := by omega
    have rk := pre.rk.s sc
    have hpl30 : (srt (rs.map (·.1))).length ≤ 30 := by rw [srt_length g.nd, List.length_map]; exact g.len
    refine ⟨_, rfl, r, rs, A, rfl, rk, g, fun p H5 hp s5 e5 => ⟨p, rfl, ⟨_, SqL.of e5⟩, dc_g walk_list (fun i acc _ => acc = asK V.str (((srt (rs.map (·.1))).take i).map fun p => (p, wst rs left p))) (by rw [List.length_map]; omega) (fun H s => SqL.of (s _ _ e5)) (fun _ _ => rfl) (fun _ _ _ _ q _ => q) (fun i acc _ e => by rw [e, asK_length, List.length_map, List.length_take]; exact Nat.min_le_left _ _) ?_ ?_⟩⟩
    · rintro i acc y H6 H7 Qy Qn hi s6 rfl ⟨rfl, hc⟩ ky kn
      obtain ⟨pp, hpp, rfl⟩ := get_map hc
      have hpm := (mem_srt _ _).mp (List.mem_of_getElem? hpp)
      obtain ⟨qr, hqr, e⟩ := List.mem_map.mp hpm
      have s56 := s5.trans s6
      obtain ⟨kvs, hdr, hor⟩ := rk.s s56
      obtain ⟨a, hv, hra⟩ := hor.val g.nd hqr
      obtain ⟨dxa, la, da, qa, a1, a2, a3⟩ := id hra
      rw [e] at hv
      obtain ⟨w1, w2, w3⟩ := wst_is g ti.la hlne hpm
      have hrkk : rkOf rs pp = qr.2 := by rw [← e]; exact rkOf_mem g.nd hqr
      rw [hrkk] at w1
      have now : ([("order", .ref la), ("places", .ref da)] : List (Str × V)).lookup ("worst" : Str) = none := by
        rw [lk_miss (by decide +kernel), lk_miss (by decide +kernel)]; rfl
      refine ⟨rfl, _, rfl, _, rfl, _, rfl, r, _, rfl, .inl ⟨kvs, Sum.inr pp, hdr, rfl, hv.symm⟩, a, dxa, _, rfl, a1, now, _, rfl, a, lf, qr.2, left, _, rfl, hra, hlf.s s56, (g.gr qr hqr).1, w1, fun v H8 s8 ev => ?_⟩
      subst ev
      refine ky (Sum.inr pp) _ _ s8 ?_
      rw [take_snoc hpp, List.map_append]
      rw [asK_snoc]
      · rfl
      · rw [List.map_map]
        show pp ∉ ((srt (rs.map (·.1))).take i).map id
        rw [List.map_id]
        exact take_notin (srt_SS _).nodup hpp
    intro td acc H6 htd s6 hacc e
    rw [List.length_map, List.take_length] at e
    subst e
    have s56 := s5.trans s6
    have sc6 := sc.trans s56
    have ew6 := s56 _ _ ew
    have epl6 := s56 _ _ epl
    have hlf6 := hlf.s s56
    have htgs : ∀ x p, getA own x = some p → getA ((srt (rs.map (·.1))).map fun p => (p, wst rs left p)) p = some (wst rs left p) := fun x p hx => getA_map_fn ((mem_srt _ _).mpr (ti.el x p hx).1)
    refine ⟨_, rfl, _, rfl, _, rfl, wd, _, rfl, .inl ew6, fun l hl => ?_⟩
    have s7 := same_new hl (.lst ((asK V.str own).map (·.2)))
    have elv : (upd H6 l (.lst ((asK V.str own).map (·.2)))) l = some (.lst ((asK V.str own).map (·.2))) := upd_same
    have ew7 := s7 _ _ ew6
    have htd7 := s7 _ _ hacc
    have nwt : wd ≠ td := fun e => by subst e; rw [s5 _ _ ew] at htd; cases htd
    have npw : pl ≠ wd := ne_of epl ew (fun z => nomatch z)
    refine ⟨l, _, 0, _, rfl, rfl, SqL.of elv, (at0 _).trans hfst, wd, td, own, _, p0, rfl, ew7, .inl htd7, nwt, ti.nd, hol, ⟨x0, hx0⟩, fun x p hx => ⟨_, htgs x p hx, (ti.tgt g hx).1⟩, fun z H8 own' bt ew8 ex => ?_⟩
    have ex' : Exch own (wst rs left) own' z := ex.congr fun x m hx => by rw [htgs x m hx]; rfl
    obtain ⟨hit, hzp, hl', _, nd', ti'⟩ := ti.step g ex'
    have sc8 : Same H H8 := fun b u e => bt b u (ne_of_none e hwH) (s7 _ _ (sc6 _ _ e))
    have epl8 := bt _ _ npw (s7 _ _ epl6)
    have htd8 := bt _ _ nwt.symm htd7
    have hlf7 := hlf6.s s7
    have hlf8 : ComAt K H8 lf left := by
      obtain ⟨dy, m, g3, o', g4⟩ := hlf7
      exact ⟨dy, m, bt _ _ (ne_of g3 ew7 (fun z => nomatch z)) g3, o', bt _ _ (ne_of g4 ew7 (fun z => nomatch z)) g4⟩
    have hzt : getA ((srt (rs.map (·.1))).map fun p => (p, wst rs left p)) z = some (wst rs left z) := getA_map_fn ((mem_srt _ _).mpr hzp)
    have hplen : ps.length ≤ 30 := by omega
    refine ⟨_, rfl, .inl ⟨rfl, _, SqL.of epl8⟩, _, rfl, pl, _, _, rfl, rfl, epl8, small1000 (by rw [List.length_map]; omega), ?_⟩
    have sc9 := same_up sc8 hplH (.lst (sv ps ++ [V.str z]))
    have epl9 : (upd H8 pl (.lst (sv ps ++ [V.str z]))) pl = some (.lst (sv (ps ++ [z]))) := by rw [upd_same, sv, sv, List.map_append]; rfl
    have ntp : td ≠ pl := ne_of htd8 epl8 (fun z => nomatch z)
    have ew9 : (upd H8 pl (.lst (sv ps ++ [V.str z]))) wd = some (.dK (asK V.str own')) := by rw [upd_ne npw.symm]; exact ew8
    have htd9 : (upd H8 pl (.lst (sv ps ++ [V.str z]))) td = _ := (upd_ne ntp).trans htd8
    have hlf9 : ComAt K (upd H8 pl (.lst (sv ps ++ [V.str z]))) lf left := hlf8.md (.lst epl8 _)
    generalize upd H8 pl (.lst (sv ps ++ [V.str z])) = H9 at sc9 epl9 ew9 htd9 hlf9
    refine ⟨_, rfl, _, rfl, _, rfl, td, _, rfl, .inl ⟨_, Sum.inr z, .inl htd9, rfl, by rw [asK_get, hzt]; rfl⟩, wd, _, Sum.inr (wst rs left z), rfl, ew9, rfl, by rw [asK_get, hit]; rfl, ?_⟩
    rw [asK_del]
    have sc10 := same_up sc9 hwH (.dK (asK V.str (delA own' (wst rs left z))))
    have ew10 : (upd H9 wd (.dK (asK V.str (delA own' (wst rs left z))))) wd = some (.dK (asK V.str (delA own' (wst rs left z)))) := upd_same
    have epl10 : (upd H9 wd (.dK (asK V.str (delA own' (wst rs left z))))) pl = some (.lst (sv (ps ++ [z]))) := by rw [upd_ne npw]; exact epl9
    have htd10 : (upd H9 wd (.dK (asK V.str (delA own' (wst rs left z))))) td = _ := (upd_ne nwt.symm).trans htd9
    have hlf10 : ComAt K (upd H9 wd (.dK (asK V.str (delA own' (wst rs left z))))) lf left := hlf9.md (.dK ew9 _)
    generalize upd H9 wd (.dK (asK V.str (delA own' (wst rs left z)))) = H10 at sc10 ew10 epl10 htd10 hlf10
    have hwn : Nms [wst rs left z] := fun y hy => by
      rw [List.mem_singleton.mp hy]
      obtain ⟨xz, hxz⟩ : ∃ x, getA own x = some z := by
        obtain ⟨cyc, c1, c2, c3, c4, c5⟩ := ex'.ex
        exact c5 z (List.mem_of_mem_head? c1)
      exact ti.gl.2.1 _ ((ti.keys _).mp (ti.tgt g hxz).1).1
    refine ⟨_, rfl, _, rfl, _, rfl, td, _, rfl, .inl ⟨_, Sum.inr z, .inl htd10, rfl, by rw [asK_get, hzt]; rfl⟩, sz_line (by decide : 1 ≤ 1000), fun l2 hl2 x dx nx nd ne => ?_⟩
    have nlx : l2 ≠ x := fun e => by subst e; rw [upd_same] at nx; cases nx
    have nld : l2 ≠ dx := fun e => by subst e; rw [upd_same] at nd; cases nd
    refine ⟨x, dx, l2, [wst rs left z], rfl, upd_same, SqL.of (by rw [upd_ne nlx, upd_ne nld, upd_same]; rfl), hwn, by show 1 ≤ 30; decide, fun H11 hc11 kp => ⟨rfl, ?_⟩⟩
    have s11 : Same H10 H11 := (same_new hl2 _).trans (made_same nx nd kp)
    rw [srt_of_SS (by exact List.pairwise_singleton _ _)] at hc11
    have hlf11 := hlf10.s s11
    obtain ⟨dl, ll, z1, z2⟩ := id hlf11
    obtain ⟨dc, lc, z3, z4⟩ := id hc11
    refine ⟨lf, dl, _, x, dc, _, rfl, rfl, z1, z3, lf, x, left, _, rfl, hlf11, hc11, ti.gl, fun v H12 s12 ⟨q12, ev, hq12⟩ => ?_⟩
    subst ev
    have hdl : (delA own' (wst rs left z)).length + 1 = own'.length := by
      have h1 : (asK V.str (delA own' (wst rs left z))).length + 1 = (asK V.str own').length := by
        rw [← asK_del]
        exact dropK_len (by rw [asK, List.map_map]; show ((own'.map fun q => (Sum.inr q.1 : Key))).Nodup; have := inr_nodup nd'; rwa [List.map_map] at this) (by rw [asK, List.map_map]; obtain hm := getA_key hit; obtain ⟨q, hq, e⟩ := List.mem_map.mp hm; exact List.mem_map.mpr ⟨q, hq, by rw [← e]; rfl⟩)
      rwa [asK_length, asK_length] at h1
    refine ⟨_, ?_, delA own' (wst rs left z), _, ps ++ [z], q12, _, _, rfl, (sc10.trans s11).trans s12, s12 _ _ (s11 _ _ ew10), hq12, s12 _ _ (s11 _ _ epl10), ti', fun p hp => ?_, ?_, rfl⟩
    · omega
    · rcases List.mem_append.mp hp with hp | hp
      · exact hps p hp
      · rw [List.mem_singleton.mp hp]; exact hzp
    · rw [List.length_append, List.length_singleton]; omega
theorem ok_find_turns (T : TX K mg) : Cal P w K mg base 11 "find_turns" ["rankings", "counts", "committee"] (spFindT K) := by
  have F_find_assignment := ok_find_assignment (P := P) (w := w) (base := base) T
  have F_turns_for := ok_turns_for (P := P) (w := w) (base := base) T
  refine cal_mk (fok_mk T.f_find_turns sc_find_turns (fun _ _ _ _ _ _ us hl => match us, hl with | [_, _, _], _ => rfl) (fun vs H Q E h => ?_) (fun cdv A outer s H vs Q E hr h => ?_)) T.g_find_turns (let ⟨_, F⟩ := T.f_find_turns; F.kp)
  · obtain ⟨r, n, c, rs, A, cs, ms, rfl, _⟩ := h; rfl
  obtain ⟨r, n, c, rs, A, cs, ms, rfl, pre, k⟩ := h
  refine ⟨_, (pss_cons (ps_set (i := 3) sc_find_turns.nd rfl (Or.inl rfl) (pe_c F_find_assignment (hr.mono (by decide)) (pa_cons (pv 0) (pa_cons (pv 1) (pa_cons (pv 2) pa_nil)))))
      (pss_one (ps_ret (pe_ifExp (pt_cmpR op_isN (pv 3) pe_non (nomark _)) pe_non (pe_c F_turns_for (hr.mono (by decide)) (pa_cons (pv 0) (pa_cons (pv 1) (pa_cons (pv 2) (pa_cons (pv 3) pa_nil))))))))), ?_⟩
  refine ⟨_, rfl, _, rfl, _, rfl, r, n, c, rs, A, cs, ms, rfl, pre, fun v H1 s1 e => ?_⟩
  rcases e with ⟨rfl, hn⟩ | ⟨d, asg, rfl, hd, hd1, ia⟩
  · exact ⟨_, rfl, rfl, _, rfl, itT (by simp) (k _ _ s1 (.inl ⟨rfl, hn⟩))⟩
  · exact ⟨_, rfl, rfl, _, rfl, itF (by simp) ⟨_, rfl, _, rfl, _, rfl, _, rfl, r, n, c, d, rs, A, cs, ms, asg, rfl, pre.s s1, hd1, ia, fun v H2 s2 ⟨p, e⟩ => k _ _ (s1.trans s2) (.inr ⟨⟨p, e⟩, asg, ia⟩)⟩⟩
end
end Fl
namespace Fl
open PySem PySem.Spec L2
open PyProof.Rows (envOfC)
/-! ### numbers of choices, of orders -/
def nch (t : Nat) : Nat → Int
  | 0 => 1
  | i + 1 => nch t i * ((t : Int) - i) / ((i : Int) + 1)
theorem nch_tab : ∀ t < 9, ∀ i < 9, 0 ≤ nch t i ∧ nch t i ≤ 100 := by decide +kernel
def nord : Cts → Int → Int → Int
  | [], _, r => r
  | q :: t, T, r => nord t (T + q.2) (r * nch (T + q.2).toNat q.2.toNat)
def fact : Nat → Int
  | 0 => 1
  | n + 1 => fact n * ((n : Int) + 1)
theorem nch_fact : ∀ T < 7, ∀ c < 7, T + c < 7 → 0 ≤ nch (T + c) c ∧ fact T * nch (T + c) c ≤ fact (T + c) := by decide +kernel
theorem fact_tab : ∀ T < 7, 0 < fact T ∧ fact T ≤ 720 := by decide +kernel
theorem nord_le : ∀ (cs : Cts) (T : Nat) (r : Int), (∀ q ∈ cs, 0 ≤ q.2) → (T : Int) + (cs.map (·.2)).sum ≤ 6 → 0 ≤ r → r ≤ fact T → nord cs T r ≤ 720
  | [], T, r, _, hs, _, h => by
    have hT : T < 7 := by simp at hs; omega
    exact Int.le_trans h (fact_tab T hT).2
  | q :: t, T, r, hq, hs, h0, h => by
    have hq0 := hq q List.mem_cons_self
    rw [List.map_cons, List.sum_cons] at hs
    have ht0 : 0 ≤ (t.map (·.2)).sum := by
      have : ∀ l : Cts, (∀ q ∈ l, 0 ≤ q.2) → 0 ≤ (l.map (·.2)).sum := by
        intro l
        induction l with
        | nil => intro _; simp
        | cons a r ih =>
          intro h
          rw [List.map_cons, List.sum_cons]
          have := ih fun q hq => h q (List.mem_cons_of_mem _ hq)
          have := h a List.mem_cons_self
          omega
      exact this t fun q h => hq q (List.mem_cons_of_mem _ h)
    obtain ⟨c, hc⟩ := Int.eq_ofNat_of_zero_le hq0
    have e1 : (T : Int) + q.2 = ((T + c : Nat) : Int) := by omega
    unfold nord
    rw [e1]
    have e2 : (((T + c : Nat) : Int)).toNat = T + c := Int.toNat_natCast _
    have e3 : q.2.toNat = c := by omega
    rw [e2, e3]
    obtain ⟨n1, n2⟩ := nch_fact T (by omega) c (by omega) (by omega)
    refine nord_le t (T + c) _ (fun q h => hq q (List.mem_cons_of_mem _ h)) (by omega) (Int.mul_nonneg h0 n1) (Int.le_trans (Int.mul_le_mul_of_nonneg_right h n1) n2)
def spNch : Sp := fun vs H Q _ => ∃ t k : Nat, vs = [.int t, .int k] ∧ t < 9 ∧ k < 9 ∧ Q (.int (nch t k)) H
def spListed : Sp := fun vs H Q _ => ∃ x : Int, vs = [.int x] ∧ x ≤ 5000 ∧ Q .non H
def spNord : Sp := fun vs H Q _ => ∃ n cs, vs = [.ref n] ∧ CtsAt H n cs ∧ cs.length ≤ 30 ∧ (∀ q ∈ cs, 0 ≤ q.2) ∧ total cs ≤ 8 ∧ ∀ H', Same H H' → Q (.int (nord cs 0 1)) H'
section
variable {P : Program} {w : World} {K : PySem.W.Frag} {mg : Str → Option Value} {base : Heap}
theorem ok_number_of_choices (T : TX K mg) : Cal P w K mg base 1 "number_of_choices" ["total", "size"] spNch := by
  refine cal_mk (fok_mk T.f_number_of_choices sc_number_of_choices (fun _ _ _ _ _ _ us hl => match us, hl with | [_, _], _ => rfl) (fun vs H Q E h => ?_) (fun cdv A outer s H vs Q E hr h => ?_)) T.g_number_of_choices (let ⟨_, F⟩ := T.f_number_of_choices; F.kp)
  · obtain ⟨t, k, rfl, _⟩ := h; rfl
  obtain ⟨t, k, rfl, ht, hk, q⟩ := h
  refine ⟨_, (pss_cons (ps_set (i := 2) sc_number_of_choices.nd rfl (Or.inl rfl) pe_int)
      (pss_cons (ps_for PassesOwn.never rfl (pi_range1 (by rfl) T.b_range (pa_cons (pv 1) pa_nil)) (pg_name (i := 3) sc_number_of_choices.nd rfl (Or.inl rfl)) (pss_one (ps_set (i := 2) sc_number_of_choices.nd rfl (Or.inl rfl) (pe_op op_fdiv (pe_op op_mul (pv 2) (pe_op op_sub (pv 0) (pv 3))) (pe_op op_add (pv 3) pe_int)))))
      (pss_one (ps_ret (pv 2))))), ?_⟩
  refine ⟨_, rfl, k, rfl, by omega, by omega, ?_⟩
  rw [Int.toNat_natCast]
  refine for_it walk_range (fun i σ Hc => ∃ x, σ = [some (.int t), some (.int k), some (.int (nch t i)), x] ∧ Hc = H) ⟨none, rfl, rfl⟩ (fun _ _ _ _ _ => trivial) ?_ ?_
  · rintro i y σ Hc H2 hi ⟨x, rfl, rfl⟩ ⟨rfl, rfl⟩
    obtain ⟨n1, n2⟩ := nch_tab t ht i (by omega)
    refine ⟨_, rfl, _, rfl, _, rfl, _, _, rfl, rfl, _, _, rfl, rfl, .inl ⟨by omega, by omega⟩, _, rfl, _, _, rfl, rfl, _, _, rfl, rfl, ⟨by omega, by omega⟩, ?_⟩
    refine ⟨some (.int (0 + (i : Nat))), ?_, rfl⟩
    show [some (V.int t), some (V.int k), some (V.int (nch t i * ((t : Int) - (0 + (i : Nat))) / (0 + (i : Nat) + 1))), some (V.int (0 + (i : Nat)))] = _
    rw [Int.zero_add]
    try rfl
  · rintro σ Hc ⟨x, rfl, rfl⟩
    exact ⟨_, rfl, q⟩
theorem ok_check_listed (T : TX K mg) : Cal P w K mg base 1 "check_listed" ["number"] spListed := by
  refine cal_mk (fok_mk T.f_check_listed sc_check_listed (fun _ _ _ _ _ _ us hl => match us, hl with | [_], _ => rfl) (fun vs H Q E h => ?_) (fun cdv A outer s H vs Q E hr h => ?_)) T.g_check_listed (let ⟨_, F⟩ := T.f_check_listed; F.kp)
  · obtain ⟨x, rfl, _⟩ := h; rfl
  obtain ⟨x, rfl, hx, q⟩ := h
  obtain ⟨_, h_MAX_LISTED, r_MAX_LISTED⟩ := T.c_MAX_LISTED
  refine ⟨_, (pss_one (ps_if (pt_cmpR op_gt (pv 0) (pe_glob (by rfl) h_MAX_LISTED r_MAX_LISTED) (nomark _)) pss_never pss_nil)), ?_⟩
  exact ⟨_, rfl, x, 5000, rfl, rfl, _, rfl, itF (decide_eq_false (by omega)) q⟩
theorem ok_number_of_orders (T : TX K mg) : Cal P w K mg base 2 "number_of_orders" ["counts"] spNord := by
  have F_number_of_choices := ok_number_of_choices (P := P) (w := w) (base := base) T
  refine cal_mk (fok_mk T.f_number_of_orders sc_number_of_orders (fun _ _ _ _ _ _ us hl => match us, hl with | [_], _ => rfl) (fun vs H Q E h => ?_) (fun cdv A outer s H vs Q E hr h => ?_)) T.g_number_of_orders (let ⟨_, F⟩ := T.f_number_of_orders; F.kp)
  · obtain ⟨n, cs, rfl, _⟩ := h; rfl
  obtain ⟨n, cs, rfl, hn, hl, h0, htot, k⟩ := h
  refine ⟨_, (pss_cons (ps_asg (pe_tup (pa_cons pe_int (pa_cons pe_int pa_nil))) (k_gtup K (by rfl) rfl (pgs_cons (pg_name (i := 1) sc_number_of_orders.nd rfl (Or.inl rfl)) (pgs_cons (pg_name (i := 2) sc_number_of_orders.nd rfl (Or.inl rfl)) pgs_nil))))
      (pss_cons (ps_lockR (ps_for PassesOwn.never rfl (pi_values (pv 0)) (pg_name (i := 3) sc_number_of_orders.nd rfl (Or.inl rfl)) (pss_cons (ps_aug (i := 2) sc_number_of_orders.nd rfl (Or.inl rfl) (pv 3) ip_add)
      (pss_one (ps_aug (i := 1) sc_number_of_orders.nd rfl (Or.inl rfl) (pe_c F_number_of_choices (hr.mono (by decide)) (pa_cons (pv 2) (pa_cons (pv 3) pa_nil))) iop_mul)))))
      (pss_one (ps_ret (pv 1))))), ?_⟩
  refine ⟨by decide, fun p hp => ⟨p, [.int 1, .int 0], rfl, .inl (.inl upd_same), rfl, _, [.int 0], rfl, _, [], rfl, rfl, ?_⟩⟩
  have s1 := same_new hp (.tup [.int 1, .int 0])
  show tSeq _ _ _ _ (upd H p (.tup [.int 1, .int 0]))
  generalize upd H p (.tup [.int 1, .int 0]) = H1 at s1
  refine ⟨n, _, Rd.s hn s1, fun H2 o md2 g2 e2 => ?_⟩
  refine ⟨_, rfl, n, o, _, rfl, g2, for_it walk_values (fun i σ Hc => ∃ x, ∃ R T : Int, σ = [some (.ref n), some (.int R), some (.int T), x] ∧ Hc = H2 ∧ 0 ≤ T ∧ T + ((cs.drop i).map (·.2)).sum = total cs ∧ nord (cs.drop i) T R = nord cs 0 1) ⟨none, 1, 0, rfl, rfl, by decide, by simp [total], rfl⟩ (fun _ _ _ _ ⟨_, _, _, _, e, _⟩ => by rw [e]; exact g2) ?_ ?_⟩
  · rintro i y σ Hc H3 hi ⟨x, R, T', rfl, rfl, hT, hsum, hr⟩ ⟨rfl, k0, hkv⟩
    obtain ⟨q, hq, rfl, rfl⟩ := ctK_get hkv
    have hil := (List.getElem?_eq_some_iff.mp hq).1
    have hdr : cs.drop i = q :: cs.drop (i + 1) := by
      rw [List.drop_eq_getElem_cons hil]
      congr 1
      exact (List.getElem?_eq_some_iff.mp hq).2
    rw [hdr] at hsum hr
    rw [List.map_cons, List.sum_cons] at hsum
    have hq0 := h0 q (List.mem_of_getElem? hq)
    have hrest : 0 ≤ ((cs.drop (i + 1)).map (·.2)).sum := by
      have : ∀ l : Cts, (∀ q ∈ l, 0 ≤ q.2) → 0 ≤ (l.map (·.2)).sum := by
        intro l
        induction l with
        | nil => intro _; simp
        | cons a r ih =>
          intro h
          rw [List.map_cons, List.sum_cons]
          have := ih fun q hq => h q (List.mem_cons_of_mem _ hq)
          have := h a List.mem_cons_self
          omega
      exact this _ fun q h => h0 q (List.mem_of_mem_drop h)
    have e1 : ((T' + q.2).toNat : Int) = T' + q.2 := Int.toNat_of_nonneg (by omega)
    have e3 : (q.2.toNat : Int) = q.2 := Int.toNat_of_nonneg hq0
    obtain ⟨m1, m2⟩ := nch_tab (T' + q.2).toNat (by omega) q.2.toNat (by omega)
    refine ⟨_, rfl, _, rfl, _, _, rfl, rfl, ?_⟩
    refine ⟨_, rfl, _, rfl, _, rfl, (T' + q.2).toNat, q.2.toNat, ?_, by omega, by omega, ?_⟩
    · show [V.int (T' + q.2), V.int q.2] = _
      rw [e1, e3]
    refine ⟨_, _, rfl, rfl, .inr ⟨by omega, by omega⟩, ?_⟩
    exact ⟨some (.int q.2), R * nch (T' + q.2).toNat q.2.toNat, T' + q.2, rfl, rfl, by omega, by omega, hr⟩
  · rintro σ Hc ⟨x, R, T', rfl, rfl, hT, hsum, hr⟩
    refine ⟨g2, fun H3 e3 e4 => ?_⟩
    rw [ctK_length, List.drop_length] at hr
    have hr : R = nord cs 0 1 := hr
    exact ⟨_, rfl, by rw [hr]; exact k _ (s1.trans (lk_same e2 (Same.refl _) e3 e4))⟩
end
end Fl
namespace Fl
open PySem PySem.Spec L2
open PyProof.Rows (envOfC)
theorem gfok_mk2 {P : Program} {w : World} {K : PySem.W.Frag} {mg : Str → Option Value} {base : Heap} {k : Nat} {f : Addr} {q nm : Str} {st : Stmt} {N ps : List Str} {Itm : Hp → List Str → V → Prop} {sp : SpG} (hF : ∃ fd, Fun K nm q st f fd) (S : GScope N ps (defScope st)) (hnc : ∀ y ∈ (defScope st).names, y.2 ≠ .cell)
    (hb : ∀ (kV doc pm : Value) (an : Option Addr) (cdv ct : Value) (us : List Value), us.length = ps.length → bindArgs (PySem.W.fnOf nm q (defArgs st) (defBody st) (defScope st) .none kV doc pm an cdv ct) ⟨us, []⟩ = pure (ps.zip us))
    (len : ∀ vs H its, sp vs H its → vs.length = ps.length)
    (hbody : ∀ (cdv : Value) (outer : List Env) (N0 g : Nat) (H : Hp) (vs : List V) (its : List (List Str)) (c : Cur) (J : Value → Sem PySem.Fin), GP.Ok ⟨P, w, K, mg, base, outer, N0, g, k, Itm⟩ → GE ⟨P, w, K, mg, base, outer, N0, g, k, Itm⟩ (envOfC q (defScope st) N0 f cdv) → sp vs H its → Same H c.H → Room k c.A → GSt ⟨P, w, K, mg, base, outer, N0, g, k, Itm⟩ N (envOfC q (defScope st) N0 f cdv) c [] [] (start N vs) c.H c.s →
      ∀ (Kf : Flow → Sem PySem.Fin), Kf .next = .pure (.done (.ret .none)) → Go (model P w) c.A (Phi ⟨P, w, K, mg, base, outer, N0, g, k, Itm⟩ its c) (.func (defBody st) (envOfC q (defScope st) N0 f cdv)) ((execs (defBody st) (envOfC q (defScope st) N0 f cdv)).wrap Kf J id id) [] c.s) :
    GFok P w K mg base k f ps Itm sp := gfok_mk hF S hnc hb len fun cdv p H vs its c J e1 e2 e3 e4 e5 e6 e7 => by
  obtain ⟨P', w', K', mg', base', outer, N0, g, k', Itm'⟩ := p
  cases e1; cases e2; cases e3; cases e4; cases e5; cases e6; cases e7
  exact hbody cdv outer N0 g H vs its c J
/-! ### the choices of size names, in order -/
def chs (names : List Str) : Nat → List (List Str)
  | 0 => [[]]
  | k + 1 => (List.range (names.length - k)).flatMap fun i => (chs (names.drop (i + 1)) k).map fun r => (names.getD i "") :: r
theorem chs_len : ∀ (k : Nat) (names : List Str), ∀ x ∈ chs names k, x.length = k
  | 0, names, x, h => by rw [chs, List.mem_singleton] at h; subst h; rfl
  | k + 1, names, x, h => by
    rw [chs, List.mem_flatMap] at h
    obtain ⟨i, _, h⟩ := h
    obtain ⟨r, hr, rfl⟩ := List.mem_map.mp h
    rw [List.length_cons, chs_len k _ r hr]
def itmL : Hp → List Str → V → Prop := fun H x v => ∃ p, v = .ref p ∧ H p = some (.lst (sv x))
def spChs (n : Nat) : SpG := fun vs H its => ∃ l names, ∃ k : Nat, vs = [.ref l, .int k] ∧ k ≤ n ∧ k ≤ 30 ∧ FzL H l (sv names) ∧ names.length ≤ 30 ∧ its = chs names k
structure Gcal (P : Program) (w : World) (K : PySem.W.Frag) (mg : Str → Option Value) (base : Heap) (k : Nat) (x : Str) (ps : List Str) (Itm : Hp → List Str → V → Prop) (sp : SpG) : Prop where
  ex : ∃ f, GFok P w K mg base k f ps Itm sp ∧ mg x = some (.ref f) ∧ PySem.W.keepIn K (.ref f) = true
theorem pgn_c {X : Cx} {k : Nat} {x : Str} {pp pos : Pos} {e : Expr} {es : List Expr} {ps : List Str} {Itm : Hp → List Str → V → Prop} {sp : SpG} {t : TA} (F : Gcal X.prog X.w X.K X.mg X.base k x ps Itm sp) (hr : Room k X.A) (ha : PA X (e :: es) t) (hg : Gl X x := by rfl)
    (hdb : (x == ("__debug__" : Str)) = false := by decide) (he : starEach (e :: es) X.env = (false, eval e X.env) :: starEach es X.env := by rfl) (hpl : (backTo pos (starEach es X.env)).any (·.1) = false := by rfl) : PGn X k (.Call (.Name x pp) (e :: es) [] pos) Itm (tCallGn sp t) := by
  obtain ⟨f, F, hm, hk⟩ := F.ex
  exact pgn_call F hr hm hk ha hg hdb he hpl
section
variable {P : Program} {w : World} {K : PySem.W.Frag} {mg : Str → Option Value} {base : Heap}
theorem choices_at (T : TX K mg) (n : Nat) (ih : ∀ m, n = m + 1 → Gcal P w K mg base (2 * m + 1) "choices" ["names", "size"] itmL (spChs m)) : Gcal P w K mg base (2 * n + 1) "choices" ["names", "size"] itmL (spChs n) := by
  refine ⟨_, gfok_mk2 T.f_choices sc_choices (by decide +kernel) (fun _ _ _ _ _ _ us hl => match us, hl with | [_, _], _ => rfl) (fun vs H its h => ?_) (fun cdv outer N0 g H vs its c J ok ge hsp md hr S Kf hK => ?_), T.g_choices, let ⟨_, F⟩ := T.f_choices; F.kp⟩
  · obtain ⟨l, names, k, rfl, _⟩ := h; rfl
  obtain ⟨l, names, k, rfl, hk, hk30, ⟨o, hl0⟩, hn, rfl⟩ := hsp
  have hl : FzL c.H l (sv names) := ⟨o, md _ _ hl0⟩
  refine go_one ?_
  refine g_if (R := fun b H' => b = decide (V.int (k : Nat) = V.int 0) ∧ H' = c.H) .func S (pt_cmpR op_eq (pv 1) pe_int (nomark _)) ⟨_, rfl, rfl, _, rfl, Same.refl _, rfl, rfl⟩ fun b H' s' ⟨hb, hH⟩ S' => ?_
  subst hb; subst hH
  cases k with
  | zero =>
    rw [if_pos (by simp)]
    refine go_one ?_
    refine g_yield ok ge .func S' (pe_lst pa_nil) (R := fun _ _ => True) (x := []) (r := []) ⟨sz_line (by decide : 0 ≤ 1000), fun p hp => ⟨same_new hp _, ⟨p, rfl, upd_same⟩, trivial⟩⟩ fun c2 H' y lo sm q W S2 => ?_
    rw [hK]
    exact g_end S2
  | succ k =>
    rw [if_neg (by simp; omega)]
    obtain ⟨m, rfl⟩ : ∃ m, n = m + 1 := ⟨n - 1, by omega⟩
    have Fch := ih m rfl
    refine go_one ?_
    refine g_forRange (n := names.length - k) ok ge .func S' hr (pi_range1 (by rfl) T.b_range (pa_cons (pe_op op_add (pe_op op_sub (pe_callB (k_len K (by rfl)) (by rfl) T.b_len (by decide +kernel) (pa_cons (pv 0) pa_nil)) (pv 1)) pe_int) pa_nil)) (fun _ => pg_name (i := 2) sc_choices.nd rfl (Or.inl rfl))
      (fun j => ((List.range (names.length - k)).drop j).flatMap fun i => (chs (names.drop (i + 1)) k).map fun r => (names.getD i "") :: r) (fun _ σ H => ∃ x y, σ = [some (.ref l), some (.int ((k + 1 : Nat) : Int)), x, y] ∧ FzL H l (sv names)) ?_ ?_ ?_
    · refine ⟨_, rfl, l, _, rfl, .inl hl.seq, _, rfl, _, _, rfl, rfl, _, _, rfl, rfl, _, rfl, ?_, ?_, ?_, Same.refl _, none, none, rfl, hl⟩
      · rw [List.length_map]; omega
      · rw [List.length_map]; omega
      · congr 1
        rw [List.length_map]; omega
    · rintro c j ip' σ H s cdL fsL K' J' gcl hj ⟨x, y, rfl, hz⟩ hr S cont
      refine go_one ?_
      have hjl : j < names.length := by omega
      obtain ⟨nm, hnm⟩ := get_lt hjl
      have hgd : names.getD j "" = nm := by rw [List.getD_eq_getElem?_getD, hnm]; rfl
      have hout : ((List.range (names.length - k)).drop j) = j :: ((List.range (names.length - k)).drop (j + 1)) := by
        rw [List.drop_eq_getElem_cons (by rw [List.length_range]; exact hj)]
        congr 1
        exact List.getElem_range _
      show Go _ _ (Phi _ (((List.range (names.length - k)).drop j).flatMap _) c) _ _ _ _
      rw [hout, List.flatMap_cons]
      refine g_forGen (k := 2 * m + 1) (i := 3) ok ge gcl S hr (by show 2 * m + 1 + 2 ≤ 2 * (m + 1) + 1; omega) (pgn_c Fch ((hr.mono (by show 2 * m + 1 + 1 ≤ 2 * (m + 1) + 1; omega)).deeper _) (pa_cons (pe_fz (pe_slice (k_slL K (by rfl)) (pv 0) (po_some (pe_op op_add (pv 2) pe_int)) po_none)) (pa_cons (pe_op op_sub (pv 1) pe_int) pa_nil))) (fun _ => pg_name (i := 3) sc_choices.nd rfl (Or.inl rfl))
        (fun rr => (rr.map fun r => (names.getD j "") :: r) ++ ((List.range (names.length - k)).drop (j + 1)).flatMap fun i => (chs (names.drop (i + 1)) k).map fun r => (names.getD i "") :: r)
        (fun rr σ H => ∃ z, σ = [some (.ref l), some (.int ((k + 1 : Nat) : Int)), some (.int (j : Nat)), z] ∧ FzL H l (sv names) ∧ ∀ x ∈ rr, x.length = k) (fun _ σ H H' ⟨z, e, f, q⟩ sm => ⟨z, e, f.sm (.of sm), q⟩) ?_ ?_ ?_
      · have ej : ((j : Nat) : Int) + 1 = ((j + 1 : Nat) : Int) := by omega
        have ek : (((k + 1 : Nat) : Int)) - 1 = (k : Nat) := by omega
        refine ⟨_, rfl, _, rfl, _, _, rfl, rfl, _, rfl, l, _, rfl, hz.seq, fun b hb => ⟨b, .lst (cutV (sv names) (some ((j : Nat) + 1)) none), upd_same, trivial, fun od => ?_⟩⟩
        have hcut : cutV (sv names) (some (((j : Nat) : Int) + 1)) none = sv (names.drop (j + 1)) := by
          rw [ej, cut_from _ _ (by rw [List.length_map]; omega), sv, sv, List.map_drop]
        rw [hcut]
        refine ⟨_, rfl, _, _, rfl, rfl, _, ⟨b, names.drop (j + 1), k, ?_, by omega, by omega, ⟨od, upd_same⟩, by rw [List.length_drop]; omega, rfl⟩, rfl, ?_, y, rfl, ?_, chs_len k _⟩
        · show [V.ref b, V.int (((k + 1 : Nat) : Int) - 1)] = _
          rw [ek]
        · exact same_up (same_new hb _) hb _
        · exact hz.sm (.of (same_up (same_new hb _) hb _))
      · rintro c pi a x' r v σ H s cdL2 fsL2 K2 J2 hpi gcl2 ⟨pr, rfl, hpr⟩ ⟨z, rfl, hz, hlx⟩ hr S2 cont2
        refine go_one ?_
        refine gl_yield ok ge gcl2 S2 (pe_lst (pa_cons (pe_ix (k_ixL K (by rfl)) (pv 0) (pv 2) (fun _ _ => rfl)) (StX.pa_star (pv 3) pa_nil))) (R := fun _ H' => FzL H' l (sv names)) (x := names.getD j "" :: x') ?_ fun c2 H' y hR md hr2 S3 => ?_
        · refine ⟨_, rfl, _, rfl, l, _, _, .str (names.getD j ""), rfl, rfl, hz.seq, ?_, _, rfl, pr, _, rfl, .inr (SqL.of hpr), ?_, fun p hp => ⟨same_new hp _, ⟨p, rfl, ?_⟩, hz.sm (.of (same_new hp _))⟩⟩
          · rw [atN, List.getElem?_map, hnm, hgd]; rfl
          · have := hlx x' List.mem_cons_self
            rw [List.append_nil, List.length_cons, List.length_map]
            exact sz_line (by omega)
          · rw [upd_same, List.append_nil]; rfl
        · obtain ⟨o2, hR⟩ := hR
          exact cont2 c2 _ _ _ ⟨_, rfl, ⟨o2, md.fz _ _ _ hR⟩, fun x hx => hlx x (List.mem_cons_of_mem _ hx)⟩ hr2 S3
      · rintro c σ H s ⟨z, rfl, hz, _⟩ hr S
        exact cont c _ H s ⟨_, _, rfl, hz⟩ hr S
    · rintro c σ H s ⟨x, y, rfl, hz⟩ hr S
      rw [hK]
      show Go _ _ (Phi _ (((List.range (names.length - k)).drop (names.length - k)).flatMap _) c) _ _ _ _
      rw [List.drop_of_length_le (by rw [List.length_range]; exact Nat.le_refl _)]
      exact g_end S
theorem ok_choices (T : TX K mg) : ∀ n, Gcal P w K mg base (2 * n + 1) "choices" ["names", "size"] itmL (spChs n)
  | 0 => choices_at T 0 fun m h => by cases h
  | n + 1 => choices_at T (n + 1) fun m h => by cases h; exact ok_choices T n
end
end Fl
namespace Fl
open PySem PySem.Spec L2
open PyProof.Rows (envOfC)
theorem chs_sub : ∀ (k : Nat) (names : List Str), ∀ x ∈ chs names k, x.Sublist names
  | 0, names, x, h => by rw [chs, List.mem_singleton] at h; subst h; exact List.nil_sublist _
  | k + 1, names, x, h => by
    rw [chs, List.mem_flatMap] at h
    obtain ⟨i, hi, h⟩ := h
    obtain ⟨r, hr, rfl⟩ := List.mem_map.mp h
    rw [List.mem_range] at hi
    have hil : i < names.length := by omega
    have e : names.drop i = names[i] :: names.drop (i + 1) := List.drop_eq_getElem_cons hil
    have e2 : names.getD i "" = names[i] := by rw [List.getD_eq_getElem?_getD, List.getElem?_eq_getElem hil]; rfl
    rw [e2]
    have := (chs_sub k _ r hr).cons₂ names[i]
    rw [← e] at this
    exact this.trans (List.drop_sublist _ _)
theorem GC.sub {A x : List Str} (g : GC A) (h : x.Sublist A) : GC x := ⟨g.1.sub h, fun y hy => g.2.1 y (h.subset hy), Nat.le_trans h.length_le g.2.2⟩
theorem flt_add {α : Type} (p : α → Bool) : ∀ l : List α, (l.filter fun x => !p x).length + (l.filter p).length = l.length
  | [] => rfl
  | a :: r => by
    have ih := flt_add p r
    rw [List.filter_cons, List.filter_cons]
    cases h : p a with
    | true => simp only [Bool.not_true, Bool.false_eq_true, if_false, if_true, List.length_cons]; omega
    | false => simp only [Bool.not_false, Bool.false_eq_true, if_false, if_true, List.length_cons]; omega
theorem others_len {A ms : List Str} (ga : GC A) (gm : GC ms) (h : ∀ x ∈ ms, x ∈ A) : (others A ms).length + ms.length = A.length := by
  have e : A.filter (fun x => decide (x ∈ ms)) = ms := SS.ext (ga.1.filter _) gm.1 fun z => by
    rw [List.mem_filter]; simp; exact h z
  have := flt_add (fun x => decide (x ∈ ms)) A
  rw [e] at this
  unfold others
  omega
noncomputable def posb (rs : Rks) (A : List Str) (cs : Cts) (ms : List Str) : Bool := @decide (∃ asg, IsAsg rs A ms cs asg) (Classical.propDecidable _)
theorem posb_true {rs : Rks} {A : List Str} {cs : Cts} {ms : List Str} (h : ∃ asg, IsAsg rs A ms cs asg) : posb rs A cs ms = true := by unfold posb; exact @decide_eq_true _ (Classical.propDecidable _) h
theorem posb_false {rs : Rks} {A : List Str} {cs : Cts} {ms : List Str} (h : ∀ asg, ¬ IsAsg rs A ms cs asg) : posb rs A cs ms = false := by unfold posb; exact @decide_eq_false _ (Classical.propDecidable _) fun ⟨a, b⟩ => h a b
def itmC (K : PySem.W.Frag) : Hp → List Str → V → Prop := fun H x v => ∃ p, v = .ref p ∧ ComAt K H p x
noncomputable def pcs (rs : Rks) (A : List Str) (cs : Cts) : List (List Str) := (chs A (A.length - (total cs).toNat)).filter (posb rs A cs)
def spPc (K : PySem.W.Frag) : SpG := fun vs H its => ∃ r n rs A cs, vs = [.ref r, .ref n] ∧ RksAt K H r rs ∧ GK rs A ∧ CtsAt H n cs ∧ CK rs cs ∧ A.length ≤ 8 ∧ total cs ≤ A.length ∧ its = pcs rs A cs
section
variable {p pi : GP} {N : List Str} {env : Env} {c c2 : Cur} {ip : List (Addr × Obj)} {G : List (Nat × GenState)} {σ : L2.St} {H : Hp} {s : Shared} {cd : Code} {fs : List Frame} {K : Flow → Sem PySem.Fin} {J : Value → Sem PySem.Fin} {a : Addr} {its : List (List Str)}
/-- if, one generator held -/
theorem gl_if {Φ : EPost} {test : Expr} {tt : TT} {body orelse : List Stmt} {pos : Pos} {gd : Bool → Bool} {lv : List Value → List Value} (g : GCd env cd fs) (S : GSl p N env c ip pi a its σ H s) (ht : PT (gX p N env c) test tt) {R : Bool → Hp → Prop} (h : tt σ H fun b H' => Same H H' ∧ R b H')
    (hk : ∀ b H' s', Same H H' → R b H' → GSl p N env c ip pi a its σ H' s' → Go (model p.P p.w) c.A Φ cd ((if b = true then execs body env else execs orelse env).wrap K J gd lv) fs s') : Go (model p.P p.w) c.A Φ cd ((exec (.If test body orelse pos) env).wrap K J gd lv) fs s := by
  refine go_if ?_
  rw [g.over]
  refine wpAny_mono (gl_run (R := fun b σ' H' => σ' = σ ∧ R b H') (fun pins s I => thn (ht.run pins s σ H _ I h) fun b s' ⟨H', I', sm, q⟩ => ⟨σ, H', I', sm, rfl, q⟩) S) (fun b s' z => ?_) fun _ _ z => z
  obtain ⟨σ', H', S', sm, rfl, q⟩ := z
  exact hk b H' s' sm q S'
end
section
variable {P : Program} {w : World} {K : PySem.W.Frag} {mg : Str → Option Value} {base : Heap}
theorem ok_possible (T : TX K mg) : Gcal P w K mg base 19 "possible_committees" ["rankings", "counts"] (itmC K) (spPc K) := by
  have F_check_rankings := ok_check_rankings (P := P) (w := w) (base := base) T
  have F_all_of := ok_all_of (P := P) (w := w) (base := base) T
  have F_C_members := ok_C_members (P := P) (w := w) (base := base) T
  have F_check_counts := ok_check_counts (P := P) (w := w) (base := base) T
  have F_check_listed := ok_check_listed (P := P) (w := w) (base := base) T
  have F_number_of_choices := ok_number_of_choices (P := P) (w := w) (base := base) T
  have F_find_assignment := ok_find_assignment (P := P) (w := w) (base := base) T
  have F_C_init := ok_C_init (P := P) (w := w) (base := base) T
  have F_choices := ok_choices (P := P) (w := w) (base := base) T 8
  refine ⟨_, gfok_mk2 T.f_possible_committees sc_possible_committees (by decide +kernel) (fun _ _ _ _ _ _ us hl => match us, hl with | [_, _], _ => rfl) (fun vs H its h => ?_) (fun cdv outer N0 g H vs its c J ok ge hsp sm hrr S Kf hK => ?_), T.g_possible_committees, let ⟨_, F⟩ := T.f_possible_committees; F.kp⟩
  · obtain ⟨r, n, rs, A, cs, rfl, _⟩ := h; rfl
  obtain ⟨r, n, rs, A, cs, rfl, hR0, gk, hN0, ck, hA8, htot, rfl⟩ := hsp
  have hR := hR0.s sm
  have hN : CtsAt c.H n cs := Rd.s hN0 sm
  have hr := (show Room (18 + 1) c.A from hrr).deeper (envOfC "possible_committees" (defScope s_possible_committees) N0 (He.ga K "possible_committees") cdv)
  have hc0 : 0 ≤ total cs := by
    have : ∀ l : Cts, (∀ q ∈ l, 0 ≤ q.2) → 0 ≤ (l.map (·.2)).sum := by
      intro l
      induction l with
      | nil => intro _; simp
      | cons a r ih =>
        intro h
        rw [List.map_cons, List.sum_cons]
        have := ih fun q hq => h q (List.mem_cons_of_mem _ hq)
        have := h a List.mem_cons_self
        omega
    exact this cs fun q hq => (ck.rng q hq).1
  refine g_cons .func S (ps_expr (pe_c F_check_rankings (hr.mono (by decide)) (pa_cons (pv 0) pa_nil))) (R := fun σ' H' => σ' = [some (.ref r), some (.ref n), none, none, none] ∧ Same c.H H') ?_ fun σ1 H1 s1 ⟨e1, sm1⟩ S1 => ?_
  · exact ⟨_, rfl, r, rs, A, rfl, hR, gk, fun H' s => ⟨s, rfl, s⟩⟩
  subst e1
  refine g_cons .func S1 (ps_fz (ps_set (i := 2) sc_possible_committees.nd rfl (Or.inl rfl) (pe_pr F_C_members T.clsC T.pC_members (hr.mono (by decide)) (pe_c F_all_of (hr.mono (by decide)) (pa_cons (pv 0) pa_nil))))) (R := fun σ' H' => ∃ l, σ' = [some (.ref r), some (.ref n), some (.ref l), none, none] ∧ Same c.H H' ∧ FzL H' l (sv A)) ?_ fun σ2 H2 s2 ⟨l, e2, sm2, hl⟩ S2 => ?_
  · obtain ⟨kvs, hd, ho⟩ := hR.s sm1
    refine ⟨_, rfl, r, rs, A, rfl, ⟨kvs, hd, ho⟩, gk, fun v H3 s3 ⟨q, ev, hq⟩ => ?_⟩
    subst ev
    obtain ⟨dx, lq, y1, y2⟩ := id hq
    refine ⟨q, dx, _, rfl, y1, q, A, rfl, hq, fun l H4 hl s4 e4 => ⟨l, .lst _, e4, trivial, fun od => ?_⟩⟩
    have s14 : Same H1 H4 := s3.trans s4
    have s5 : Same H1 (upd H4 l (.frz od (.lst (sv A)))) := s3.trans (same_up s4 hl _)
    exact ⟨s5, l, rfl, sm1.trans s5, od, upd_same⟩
  subst e2
  have hR2 := hR.s sm2
  have hN2 : CtsAt H2 n cs := Rd.s hN sm2
  refine g_cons .func S2 (ps_expr (pe_c F_check_counts (hr.mono (by decide)) (pa_cons (pv 0) (pa_cons (pv 1) (pa_cons pe_int (pa_cons (pe_callB (k_len K (by rfl)) (by rfl) T.b_len (by decide +kernel) (pa_cons (pv 2) pa_nil)) pa_nil)))))) (R := fun σ' H' => σ' = [some (.ref r), some (.ref n), some (.ref l), none, none] ∧ Same H2 H') ?_ fun σ3 H3 s3 ⟨e3, sm3⟩ S3 => ?_
  · refine ⟨_, rfl, _, rfl, _, rfl, l, _, rfl, .inl hl.seq, r, n, rs, A, cs, 0, _, rfl, hR2, gk, hN2, ck, hc0, by rw [List.length_map]; exact htot, fun H' s => ⟨s, rfl, s⟩⟩
  subst e3
  have sm03 := sm2.trans sm3
  have hl3 := hl.sm (.of sm3)
  refine g_cons .func S3 (ps_fz (ps_fz (ps_par (i := 0) (j := 1) (by rfl) sc_possible_committees.nd rfl rfl (by decide) rfl rfl (pa_cons (pe_callTy call_dictD (by rfl) T.b_dict (by decide +kernel) (pa_cons (pv 0) pa_nil)) (pa_cons (pe_callTy call_dictD (by rfl) T.b_dict (by decide +kernel) (pa_cons (pv 1) pa_nil)) pa_nil)) (by rfl)))) (R := fun σ' H' => ∃ r2 n2, σ' = [some (.ref r2), some (.ref n2), some (.ref l), none, none] ∧ FzL H' l (sv A) ∧ (∃ kvs o, H' r2 = some (.frz o (.dK kvs)) ∧ RksOf K H' rs kvs) ∧ ∃ o, H' n2 = some (.frz o (.dK (ctK cs)))) ?_ fun σ4 H4 s4 ⟨r2, n2, e4, hl4, hr2, hn2⟩ S4 => ?_
  · obtain ⟨kvs, hd, ho⟩ := hR.s sm03
    have hN3 : CtsAt H3 n cs := Rd.s hN sm03
    refine ⟨_, rfl, r, kvs, rfl, hd, fun d1 hd1 => ⟨_, rfl, n, _, rfl, Rd.s hN3 (same_new hd1 _), fun d2 hd2 => ?_⟩⟩
    have n12 : d2 ≠ d1 := fun e => by rw [e, upd_same] at hd2; cases hd2
    have hd2' : H3 d2 = none := by rw [upd_ne n12] at hd2; exact hd2
    refine ⟨_, _, rfl, d1, .dK kvs, by rw [upd_ne n12.symm, upd_same], trivial, fun od1 => ⟨d2, .dK (ctK cs), by rw [upd_ne n12, upd_same], trivial, fun od2 => ?_⟩⟩
    have s5 : Same H3 (upd (upd (upd (upd H3 d1 (.dK kvs)) d2 (.dK (ctK cs))) d1 (.frz od1 (.dK kvs))) d2 (.frz od2 (.dK (ctK cs)))) := same_up (same_up (same_up (same_up (Same.refl _) hd1 _) hd2' _) hd1 _) hd2' _
    exact ⟨s5, d1, d2, rfl, hl3.sm (.of s5), ⟨kvs, od1, by rw [upd_ne n12.symm, upd_same], ho.md (.of s5)⟩, od2, upd_same⟩
  subst e4
  obtain ⟨kvs, o1, hr2, hor⟩ := hr2
  obtain ⟨o2, hn2⟩ := hn2
  obtain ⟨tc, htc⟩ := Int.eq_ofNat_of_zero_le hc0
  have hsz : ((A.length : Nat) : Int) - total cs = ((A.length - tc : Nat) : Int) := by omega
  have htn : (total cs).toNat = tc := by omega
  refine g_cons .func S4 (ps_set (i := 3) sc_possible_committees.nd rfl (Or.inl rfl) (pe_op op_sub (pe_callB (k_len K (by rfl)) (by rfl) T.b_len (by decide +kernel) (pa_cons (pv 2) pa_nil)) (pe_callB (k_sum K (by rfl) rfl) (by rfl) T.b_sum (by decide +kernel) (pa_cons (pe_lvals rfl T.b_list (pv 1)) pa_nil)))) (R := fun σ' H' => σ' = [some (.ref r2), some (.ref n2), some (.ref l), some (.int ((A.length - tc : Nat) : Int)), none] ∧ Same H4 H') ?_ fun σ5 H5 s5 ⟨e5, sm5⟩ S5 => ?_
  · refine ⟨_, rfl, l, _, rfl, .inl hl4.seq, _, rfl, n2, _, rfl, .inr ⟨_, hn2⟩, fun q hq => ⟨q, cs.map (·.2), rfl, .inl (.inl ?_), _, _, rfl, rfl, same_new hq _, ?_, same_new hq _⟩⟩
    · rw [upd_same, ctK, List.map_map, List.map_map]; rfl
    · rw [List.length_map]
      show [some (V.ref r2), some (V.ref n2), some (V.ref l), some (V.int ((A.length : Int) - total cs)), none] = _
      rw [hsz]
  subst e5
  have hl5 := hl4.sm (.of sm5)
  refine g_cons .func S5 (ps_expr (pe_c F_check_listed (hr.mono (by decide)) (pa_cons (pe_c F_number_of_choices (hr.mono (by decide)) (pa_cons (pe_callB (k_len K (by rfl)) (by rfl) T.b_len (by decide +kernel) (pa_cons (pv 2) pa_nil)) (pa_cons (pv 3) pa_nil))) pa_nil))) (R := fun σ' H' => σ' = [some (.ref r2), some (.ref n2), some (.ref l), some (.int ((A.length - tc : Nat) : Int)), none] ∧ H' = H5) ?_ fun σ6 H6 s6 ⟨e6, e7⟩ S6 => ?_
  · refine ⟨_, rfl, l, _, rfl, .inl hl5.seq, _, rfl, A.length, A.length - tc, ?_, by omega, by omega, nch A.length (A.length - tc), rfl, ?_, Same.refl _, rfl, rfl⟩
    · show [V.int ((sv A).length : Int), V.int ((A.length - tc : Nat) : Int)] = _
      rw [List.length_map]
    · have := (nch_tab A.length (by omega) (A.length - tc) (by omega)).2
      omega
  subst e6; subst e7
  refine go_one ?_
  have hits : pcs rs A cs = (fun rr => rr.filter (posb rs A cs)) (chs A (A.length - tc)) := by unfold pcs; rw [htn]
  rw [hits]
  refine g_forGen (k := 17) (i := 4) ok ge .func S6 hrr (by show 17 + 2 ≤ 19; decide) (pgn_c F_choices (hr.mono (by decide)) (pa_cons (pv 2) (pa_cons (pv 3) pa_nil))) (fun _ => pg_name (i := 4) sc_possible_committees.nd rfl (Or.inl rfl)) (fun rr => rr.filter (posb rs A cs))
    (fun rr σ H => ∃ x, σ = [some (.ref r2), some (.ref n2), some (.ref l), some (.int ((A.length - tc : Nat) : Int)), x] ∧ H r2 = some (.frz o1 (.dK kvs)) ∧ RksOf K H rs kvs ∧ H n2 = some (.frz o2 (.dK (ctK cs))) ∧ ∀ x ∈ rr, GC x ∧ (∀ y ∈ x, y ∈ A) ∧ x.length = A.length - tc) (fun _ σ H H' ⟨x, e, f1, f2, f3, f4⟩ s => ⟨x, e, s _ _ f1, f2.md (.of s), s _ _ f3, f4⟩) ?_ ?_ ?_
  · refine ⟨_, rfl, _, rfl, _, ⟨l, A, A.length - tc, rfl, by omega, by omega, hl5, by omega, rfl⟩, rfl, Same.refl _, none, rfl, sm5 _ _ hr2, hor.md (.of sm5), sm5 _ _ hn2, fun x hx => ?_⟩
    have hs := chs_sub _ _ x hx
    exact ⟨gk.gc.sub hs, fun y hy => hs.subset hy, chs_len _ _ x hx⟩
  · rintro c pi a x rr v σ H s cdL fsL K2 J2 hpi gcl ⟨pr, rfl, hpr⟩ ⟨x0, rfl, f1, f2, f3, f4⟩ hrr S cont
    obtain ⟨gx, hxA, hxl⟩ := f4 x List.mem_cons_self
    have hr := (show Room (18 + 1) c.A from hrr).deeper (envOfC "possible_committees" (defScope s_possible_committees) N0 (He.ga K "possible_committees") cdv)
    refine go_one ?_
    refine gl_if gcl S (pt_cmpR op_notN (pe_c F_find_assignment (hr.mono (by decide)) (pa_cons (pv 0) (pa_cons (pv 1) (pa_cons (pe_mk F_C_init T.mkC T.gC (hr.mono (by decide)) (pa_cons (pv 4) pa_nil)) pa_nil)))) pe_non (nomark _)) (R := fun b _ => b = posb rs A cs x) ?_ fun b H' s' sm' hb S' => ?_
    · refine ⟨_, rfl, _, rfl, _, rfl, fun xx dx nx nd ne => ?_⟩
      refine ⟨xx, dx, pr, x, rfl, upd_same, SqL.of (by rw [upd_ne (ne_of_none hpr nx), upd_ne (ne_of_none hpr nd)]; exact hpr), gx.2.1, gx.2.2, fun H5 hc kp => ⟨rfl, ?_⟩⟩
      have s5 := made_same nx nd kp
      rw [srt_of_SS gx.1] at hc
      have hlen := others_len gk.gc gx hxA
      refine ⟨r2, n2, xx, rs, A, cs, x, rfl, ⟨⟨kvs, .inr ⟨_, s5 _ _ f1⟩, f2.md (.of s5)⟩, gk, .inr ⟨_, s5 _ _ f3⟩, ck, hc, gx, hxA, by omega⟩, fun v H6 s6 e => ?_⟩
      rcases e with ⟨rfl, hn⟩ | ⟨d, asg, rfl, _, _, ia⟩
      · exact ⟨rfl, _, rfl, s5.trans s6, (posb_false hn).symm⟩
      · exact ⟨rfl, _, rfl, s5.trans s6, (posb_true ⟨asg, ia⟩).symm⟩
    · subst hb
      rw [List.filter_cons]
      cases hp : posb rs A cs x with
      | true =>
        rw [if_pos rfl, if_pos rfl]
        refine go_one ?_
        refine gl_yield ok ge gcl S' (pe_mk F_C_init T.mkC T.gC (hr.mono (by decide)) (pa_cons (pv 4) pa_nil)) (R := fun _ H'' => Same H' H'') (x := x) ?_ fun c2 H'' y hR md hr2 S3 => ?_
        · have hpr' := sm' _ _ hpr
          refine ⟨_, rfl, fun xx dx nx nd ne => ?_⟩
          refine ⟨xx, dx, pr, x, rfl, upd_same, SqL.of (by rw [upd_ne (ne_of_none hpr' nx), upd_ne (ne_of_none hpr' nd)]; exact hpr'), gx.2.1, gx.2.2, fun H5 hc kp => ⟨rfl, ?_⟩⟩
          have s5 := made_same nx nd kp
          rw [srt_of_SS gx.1] at hc
          exact ⟨s5, ⟨xx, rfl, hc⟩, s5⟩
        · have s := sm'.trans hR
          exact cont c2 _ _ _ ⟨_, rfl, md.fz _ _ _ (s _ _ f1), (f2.md (.of s)).md md, md.fz _ _ _ (s _ _ f3), fun x hx => f4 x (List.mem_cons_of_mem _ hx)⟩ hr2 S3
      | false =>
        rw [if_neg Bool.false_ne_true, if_neg Bool.false_ne_true]
        exact go_nil (cont c _ _ _ ⟨_, rfl, sm' _ _ f1, f2.md (.of sm'), sm' _ _ f3, fun x hx => f4 x (List.mem_cons_of_mem _ hx)⟩ hrr S')
  · rintro c σ H s ⟨x, rfl, _⟩ hr S
    rw [hK]
    exact g_end S
end
end Fl
namespace Fl
open PySem PySem.Spec L2
section
variable {prog : Program} {w : World} {K : Type} [DecidableEq K] {knd : KeyKind prog w K} {A : Around} {E : Value → Shared → Prop} {s : Shared}

theorem wp_dictPut {d : Addr} {kvs : List (K × Value)} {k : K} {key v : Value} {Q : Unit → Shared → Prop} (hkey : knd.is k key = true) (hm : s.heap.DictOf knd d kvs)
    (hQ : ∀ h', h'.DictOf knd d (stored kvs k v) → Heap.SameBut d s.heap h' → Q () { s with heap := h' })
    (hsz : kvs.length ≤ sizeLine) :
    wpAny (model prog w) A (dictPut d (knd.hash k) key v) Q E s := by
  obtain ⟨o, es, ep, ho, hc, hd, hk, hp, hn⟩ := hm
  have hes : es.size ≤ sizeLine := by have e1 := hp.length; have e2 : es.toList.length = es.size := by simp
                                      omega
  unfold dictPut
  refine wpAny_bind (wpAny_dictFind_of hkey ho hd hk ?_)
  have hidx : (es.findIdx? fun e => knd.is k e.key) = kvs.findIdx? fun kv => decide (kv.1 = k) := by
    rw [← hp.findIdx k]; obtain ⟨l⟩ := es; simp
  cases hi : es.findIdx? fun e => knd.is k e.key with
  | some i =>
    refine wpAny_updateDict ho hd (hQ _ ⟨_, _, ep, Heap.get?_update_self _ ho (Obj.isFreed_of_dict (Obj.data_mapDict hd _)),
      hc.mapDict _, Obj.data_mapDict hd _, hk.modify _ _, ?_, ?_⟩ (Heap.SameBut.update ..))
    · rw [stored, if_pos (any_of_findIdx_some (hidx ▸ hi))]
      have hl : (es.toList.findIdx? fun e => knd.is k e.key) = some i := by rw [← hi]; obtain ⟨l⟩ := es; simp
      have := hp.modify hn hl v
      obtain ⟨l⟩ := es
      simpa using this
    · rw [stored, if_pos (any_of_findIdx_some (hidx ▸ hi)), keys_map_store]; exact hn
  | none =>
    have hnot : k ∉ kvs.map (·.1) := not_mem_of_findIdx_none (hidx ▸ hi)
    have hany : ¬ (kvs.any fun kv => decide (kv.1 = k)) = true := by
      rw [List.any_eq_true]; rintro ⟨kv, hkv, he⟩
      exact hnot (List.mem_map.mpr ⟨kv, hkv, of_decide_eq_true he⟩)
    refine wpAny_updateDictKeys (hz := hes) ho hd (hQ _ ⟨_, _, ep + 1, Heap.get?_update_self _ ho (Obj.isFreed_of_dict (Obj.data_mapDictKeys hd _)),
      hc.mapDictKeys _, Obj.data_mapDictKeys hd _, hk.push hkey _, ?_, ?_⟩ (Heap.SameBut.update ..))
    · rw [stored, if_neg hany]
      have := hp.append hkey (knd.hash k) v
      obtain ⟨l⟩ := es
      simpa using this
    · rw [stored, if_neg hany, List.map_append, List.nodup_append]
      refine ⟨hn, by simp, ?_⟩
      intro a ha b hb
      simp only [List.map_cons, List.map_nil, List.mem_singleton] at hb
      subst hb
      exact fun e => hnot (e ▸ ha)

theorem wp_mergeMap {d o : Addr} {kvs more : List (K × Value)} {Q : Unit → Shared → Prop} (hdo : d ≠ o) (hoS : (o == sysModules) = false)
    (hd : s.heap.DictOf knd d kvs) (ho : s.heap.DictOf knd o more)
    (hQ : ∀ h', h'.DictOf knd d (merged kvs more) → h'.DictOf knd o more → Heap.SameBut d s.heap h' → Q () { s with heap := h' })
    (hsz : kvs.length + more.length ≤ sizeLine) :
    wpAny (model prog w) A (mergeMapping d (.ref o) false) Q E s := by
  obtain ⟨od, esd, epd, hod, hcd, hdd, hkd, hpd, hnd⟩ := id hd
  obtain ⟨oo, eso, epo, hoo, hco, hdo', hko, hpo, hno⟩ := id ho
  have hlen : more.length = eso.size := by rw [← hpo.length]; simp
  unfold mergeMapping
  refine wpAny_bind (wpAny_isInstance ho.typeIs isSubtype_dict_dict ?_)
  dsimp only
  rw [if_pos rfl]
  refine wpAny_bind (wpAny_specialOf ho.typeIs F.slot_dict_iter.lookup ?_)
  refine wpAny_bind (wpAny_pure ?_)
  rw [show (some (Value.builtin "dict.__iter__") == some (.builtin "dict.__iter__")) = true from by simp]
  dsimp only
  rw [if_neg (by rw [hoS]; exact Bool.false_ne_true)]
  simp only [Bool.false_eq_true, if_false]
  have loop : wpAny (model prog w) A (do
      let l ← dictEntries o
      let epoch ← dictEpoch o
      forIn (List.range l.size) PUnit.unit fun i (_ : PUnit) => (do
          let l' ← dictEntries o
          match l'[i]? with
            | some e => do
              holding [e.key, e.val] (dictPut d e.hash e.key e.val)
              let ep' ← dictEpoch o
              if (ep' != epoch) = true then do
                  (unsupported "dict.changed-during-merge" : Sem PUnit)
                  pure (ForInStep.yield PUnit.unit)
                else pure (ForInStep.yield PUnit.unit)
            | _ => do
              (unsupported "dict.changed-during-merge" : Sem PUnit)
              pure (ForInStep.yield PUnit.unit) : Sem (ForInStep PUnit))
      pure ()) Q E s := by
    refine wpAny_bind (wpAny_dictEntries hoo hdo' ?_)
    refine wpAny_bind (wpAny_dictEpoch hoo hdo' ?_)
    refine wpAny_bind ?_
    rw [List.range_eq_range']
    refine wpAny_forIn_list _
      (fun rest _ s' => ∃ h' i, s' = { s with heap := h' } ∧ rest = List.range' i (eso.size - i) ∧ i ≤ eso.size ∧ h'.DictOf knd d (merged kvs (more.take i)) ∧ h'.get? o = some oo ∧ Heap.SameBut d s.heap h')
      _ ?_ ?_ _ _ ⟨s.heap, 0, rfl, by simp, Nat.zero_le _, by simpa [merged] using hd, hoo, Heap.SameBut.refl _ _⟩
    · rintro x rest b s' ⟨h', i, rfl, hr, hi, hd', hoo', hs'⟩
      have hlt : i < eso.size := by
        rcases Nat.lt_or_ge i eso.size with h | h
        · exact h
        · rw [Nat.sub_eq_zero_of_le h] at hr; simp at hr
      obtain ⟨rfl, hrest⟩ : x = i ∧ rest = List.range' (i + 1) (eso.size - (i + 1)) := by
        have e : eso.size - i = (eso.size - (i + 1)) + 1 := by omega
        rw [e, List.range'_succ] at hr
        injection hr with h1 h2
        exact ⟨h1, h2⟩
      refine wpAny_bind (wpAny_dictEntries hoo' hdo' ?_)
      rw [Array.getElem?_eq_getElem hlt]
      obtain ⟨kv, hkv⟩ : ∃ kv, more[x]? = some kv := ⟨more[x]'(by rw [hlen]; exact hlt), List.getElem?_eq_getElem _⟩
      obtain ⟨k, v⟩ := kv
      obtain ⟨hkey, hval⟩ := hpo.get? (e := eso[x]) (by simp [hlt]) hkv
      obtain ⟨k', hkey', hhash⟩ := hko eso[x] (Array.getElem_mem hlt)
      obtain rfl : k' = k := knd.inj _ _ _ hkey' hkey
      show wpAny _ _ (holding [eso[x].key, eso[x].val] (dictPut d eso[x].hash eso[x].key eso[x].val) >>= _) _ _ _
      rw [hhash, hval]
      have hmx : (merged kvs (more.take x)).length ≤ sizeLine := by
        have e1 := merged_length_le kvs (more.take x)
        have e2 : (more.take x).length ≤ more.length := by rw [List.length_take]; omega
        omega
      refine wpAny_bind (wpAny_holding (wp_dictPut (hsz := hmx) hkey hd' fun h'' hd'' hs'' => ?_))
      have hoo'' : h''.get? o = some oo := (hs''.2 o (Ne.symm hdo)).trans hoo'
      refine wpAny_bind (wpAny_dictEpoch hoo'' hdo' ?_)
      rw [if_neg (by simp)]
      exact wpAny_pure ⟨h'', x + 1, rfl, hrest, hlt, by rw [merged_take_succ kvs more x (k', v) hkv]; exact hd'', hoo'', hs'.trans hs''⟩
    · rintro b s' ⟨h', i, rfl, hr, hi, hd', hoo', hs'⟩
      have hin : i = eso.size := by
        rcases Nat.lt_or_ge i eso.size with h | h
        · have e : eso.size - i = (eso.size - (i + 1)) + 1 := by omega
          rw [e, List.range'_succ] at hr; exact nomatch hr
        · exact Nat.le_antisymm hi h
      refine wpAny_pure (hQ h' ?_ ⟨oo, eso, epo, hoo', hco, hdo', hko, hpo, hno⟩ hs')
      rw [hin, ← hlen, List.take_length] at hd'; exact hd'
  refine wpAny_bind (wpAny_dictEntries hod hdd ?_)
  split
  · refine wpAny_bind (wpAny_dictEntries hoo hdo' ?_)
    refine wpAny_bind ?_
    rw [← Array.forIn_toList]
    refine wpAny_forIn_list _ (fun rest _ s' => s' = s ∧ ∀ e ∈ rest, e ∈ eso) _ ?_ ?_ _ _ ⟨rfl, fun e he => Array.mem_toList_iff.mp he⟩
    · rintro e rest b s' ⟨rfl, hr⟩
      obtain ⟨k, hkey, _⟩ := hko e (hr e List.mem_cons_self)
      have hb := knd.byValue k _ hkey
      have hnr : ∀ a, e.key ≠ .ref a := by
        intro a ea
        rw [ea] at hb
        have q : carriedByValue (Value.ref a) = false := rfl
        rw [q] at hb
        cases hb
      split
      · rename_i a ea
        exact (hnr a ea).elim
      · exact wpAny_pure ⟨rfl, fun e' he' => hr e' (List.mem_cons_of_mem _ he')⟩
    · rintro b s' ⟨rfl, _⟩
      exact loop
  · exact loop
/-- {**m, k: v} -/
theorem dictDisplay_star (m : Sem Value) (k v : Sem Value) {Q : Value → Shared → Prop} {E : Value → Shared → Prop}
    (h : wpAny (model prog w) A m (fun mv s1 => wpAny (model prog w) A (mergeMapping s.heap.objs.size mv false) (fun _ s2 =>
      wpAny (model prog w) A (subDict [(k, v)]) (fun sub s3 => wpAny (model prog w) A (mergeMapping s.heap.objs.size (.ref sub) false) (fun _ s4 => Q (.ref s.heap.objs.size) s4) (fun _ _ => False) s3) E s2) (fun _ _ => False) s1) E
      { s with heap := s.heap.push { cls := .type "dict", data := .dict #[] } }) :
    wpAny (model prog w) A (dictDisplay [(none, m), (some k, v)]) Q E s := by
  unfold dictDisplay
  simp only [List.forIn_cons, List.forIn_nil, List.isEmpty_nil, if_true, pure_bind, bind_assoc, List.nil_append, List.length_cons, List.length_nil, List.isEmpty_cons, Bool.false_eq_true, if_false]
  refine wpAny_bind (wpAny_alloc ?_)
  refine wpAny_bind (wpAny_holding (wpAny_mono h (fun mv s1 h1 => ?_) (fun _ _ e => e)))
  refine wpAny_bind (wpAny_onRaise (wpAny_tryCatch (wpAny_onRaise (wpAny_holding (wpAny_mono h1 (fun _ s2 h2 => ?_) (fun _ _ f => f.elim))))))
  refine wpAny_bind ?_
  rw [if_neg (by decide)]
  refine wpAny_pure (wpAny_bind (wpAny_pure (wpAny_bind ?_)))
  dsimp only
  rw [if_neg (by simp)]
  refine wpAny_bind (wpAny_holding (wpAny_mono h2 (fun sub s3 h3 => ?_) (fun _ _ e => e)))
  refine wpAny_bind (wpAny_onRaise (wpAny_holding (wpAny_mono h3 (fun _ s4 h4 => ?_) (fun _ _ f => f.elim))))
  exact wpAny_pure (wpAny_pure h4)
end
/-- the reading of {**m, k: v}: D the new dict, D2 the dict of the last pair -/
def tDstar (td tk tv : TE) : TE := fun σ H Q => ∀ D, H D = none → td σ (upd H D (.dK [])) fun x H1 => ∃ a kvs, x = .ref a ∧ a ≠ D ∧ Rd H1 a (.dK kvs) ∧ (kvs.map (·.1)).Nodup ∧ kvs.length < sizeLine ∧ H1 D = some (.dK []) ∧
  ∀ D2, upd H1 D (.dK kvs) D2 = none → tk σ (upd (upd H1 D (.dK kvs)) D2 (.dK [])) fun y H2 => tv σ H2 fun z H3 => ∃ k, y = kV k ∧ H3 D = some (.dK kvs) ∧ H3 D2 = some (.dK []) ∧
    Q (.ref D) (upd (upd H3 D2 (.dK [(k, z)])) D (.dK (putK kvs k z)))
section
variable {X : Cx}
theorem mergeK_nil {kvs : List (Key × V)} (hn : (kvs.map (·.1)).Nodup) : mergeK [] kvs = kvs := by
  have g : ∀ (more acc : List (Key × V)), ((acc ++ more).map (·.1)).Nodup → mergeK acc more = acc ++ more := by
    intro more
    induction more with
    | nil => intro acc _; simp [mergeK]
    | cons kv rest ih =>
      intro acc hn
      have hf : valV acc kv.1 = none := by
        cases q : valV acc kv.1 with
        | none => rfl
        | some v =>
          have q2 := valV_any kv.1 acc
          rw [q, Option.isSome_some, List.any_eq_true] at q2
          obtain ⟨x, hx, he⟩ := q2
          rw [List.map_append, List.map_cons, List.nodup_append] at hn
          exact (hn.2.2 x.1 (List.mem_map.mpr ⟨x, hx, rfl⟩) kv.1 List.mem_cons_self (of_decide_eq_true he)).elim
      have e : mergeK acc (kv :: rest) = mergeK (acc ++ [kv]) rest := by
        show mergeK (putK acc kv.1 kv.2) rest = _
        rw [putK_new kv.2 hf]
      rw [e, ih (acc ++ [kv]) (by simpa using hn)]
      simp
  exact g kvs [] hn
theorem pe_dstar {d k v : Expr} {pos : Pos} {td tk tv : TE} (hd : PE X d td) (hk : PE X k tk) (hv : PE X v tv) : PE X (.Dict [none, some k] [d, v] pos) (tDstar td tk tv) := by
  refine ⟨fun pins s σ H Q I h => ?_⟩
  rw [arm_eval_Dict]
  refine wpAny_bind (wpAny_standAt ?_)
  show wpAny _ _ (dictDisplay [(none, do let x ← eval d X.env; standAt pos; pure x), (some (eval k X.env), do let x ← eval v X.env; standAt pos; pure x)]) _ _ _
  refine dictDisplay_star _ _ _ ?_
  have hn := I.hok.fresh (Nat.le_refl s.heap.objs.size)
  have I1 := I.laid (a := s.heap.objs.size) (o := .dK []) (h' := s.heap.push { cls := .type "dict", data := .dict #[] }) (t' := s.toks) (fun _ _ q => Heap.get?_push_of_some _ q) (Nat.le_refl _) (dk_empty s.heap I.big)
  refine wpAny_bind (thn (hd.run pins _ σ _ _ I1 (h _ hn)) fun u s1 h1 => wpAny_bind (wpAny_standAt (wpAny_pure ?_)))
  obtain ⟨x, H1, I2, rx, a, kvs, ex, hne, rd, hnd, hlt, eD, q1⟩ := h1
  subst ex
  obtain rfl : u = Value.ref a := rx
  generalize s.heap.objs.size = D at hne eD q1 ⊢
  obtain ⟨z1, hs1, vs1, r1, dd1⟩ := dk_rd I2.hok rd
  obtain ⟨z2, hs2, vs2, r2, dd2⟩ := dk_of I2.hok eD
  cases r2
  refine wp_mergeMap (knd := mixKind X.prog X.w) (Ne.symm hne) hs1 dd2 dd1 (fun h' dd' _ hs' => ?_) (by rw [← r1.length, List.length_nil, Nat.zero_add]; exact z1)
  have I3 : Inv X pins σ (upd H1 D (.dK kvs)) { s1 with heap := h' } := by
    have he : ∃ q, h'.get? D = some q := let ⟨q, _, _, hq, _⟩ := dd'; ⟨q, hq⟩
    have hz : (mergeK [] kvs).length ≤ sizeLine := by rw [mergeK_nil hnd]; exact z1
    have w := d_write (t' := s1.toks) I2 (by rw [eD]; exact True.intro) hs' he (dk_new hz hs2 (r1.merge .nil) dd')
    rw [mergeK_nil hnd] at w
    exact w
  generalize hs3 : ({ s1 with heap := h' } : Shared) = s3 at I3 ⊢
  have hn3 := I3.hok.fresh (Nat.le_refl s3.heap.objs.size)
  have I4 := I3.laid (a := s3.heap.objs.size) (o := .dK []) (h' := s3.heap.push { cls := .type "dict", data := .dict #[] }) (t' := s3.toks) (fun _ _ q => Heap.get?_push_of_some _ q) (Nat.le_refl _) (dk_empty s3.heap I3.big)
  refine wpAny_subDict (knd := mixKind X.prog X.w) (by simp) ?_
  show wpAny _ _ (do let kv ← eval k X.env; let vv ← holding [kv] (do let x ← eval v X.env; standAt pos; pure x); let r ← holding [kv, vv] (evalPairs []); pure ((kv, vv) :: r)) _ _ _
  refine wpAny_bind (thn (hk.run pins _ σ _ _ I4 (q1 _ hn3)) fun ku s4 ⟨y, H2, I5, ry, q2⟩ => ?_)
  refine wpAny_bind (wpAny_holding (wpAny_bind (thn (hv.run pins s4 σ H2 _ I5 q2) fun vu s5 ⟨z, H3, I6, rz, kk, ey, eD3, eD4, q3⟩ => wpAny_bind (wpAny_standAt (wpAny_pure ?_)))))
  refine wpAny_bind (wpAny_holding (wpAny_pure (wpAny_pure ?_)))
  subst ey
  generalize s3.heap.objs.size = D2 at eD4 q3 hn3 ⊢
  have hD2 := hn3
  obtain ⟨z4, hs4, vs4, r4, dd4⟩ := dk_of I6.hok eD4
  cases r4
  refine ⟨[(kk, vu)], ⟨kV_is ry, rfl, True.intro⟩, dd4, fun h6 dd6 hs6 => ?_⟩
  have e6 : merged ([] : List (Key × Value)) [(kk, vu)] = [(kk, vu)] := rfl
  rw [e6] at dd6
  have I7 : Inv X pins σ (upd H3 D2 (.dK [(kk, z)])) { s5 with heap := h6, toks := s5.toks + [(ku, vu)].length } := by
    have he : ∃ q, h6.get? D2 = some q := let ⟨q, _, _, hq, _⟩ := dd6; ⟨q, hq⟩
    exact d_write I6 (by rw [eD4]; exact True.intro) hs6 he (dk_new (by rw [sizeLine_eq]; simp) hs4 (.cons ⟨rfl, rz⟩ .nil) dd6)
  have hDD : D ≠ D2 := by
    intro e
    subst e
    rw [show upd H1 D (.dK kvs) D = some (.dK kvs) from by unfold upd; exact if_pos rfl] at hD2
    cases hD2
  have eD7 : (upd H3 D2 (.dK [(kk, z)])) D = some (.dK kvs) := by rw [upd_ne hDD]; exact eD3
  obtain ⟨z7, hs7, vs7, r7, dd7⟩ := dk_of I7.hok eD7
  refine wp_mergeMap (knd := mixKind X.prog X.w) hDD hs4 dd7 dd6 (fun h8 dd8 _ hs8 => ?_) (by rw [← r7.length]; simp; omega)
  have hz : (putK kvs kk z).length ≤ sizeLine := by have := length_putK kvs kk z; omega
  refine ⟨V.ref D, _, ?_, rfl, q3⟩
  have he : ∃ q, h8.get? D = some q := let ⟨q, _, _, hq, _⟩ := dd8; ⟨q, hq⟩
  exact d_write I7 (by rw [eD7]; exact True.intro) hs8 he (dk_new hz hs7 (r7.put kk rz) dd8)
end
end Fl
namespace Fl
open PySem PySem.Spec L2
open PyProof.Rows (envOfC)
/-! ### the number of orders -/
def decC (cs : Cts) (p : Str) : Cts := cs.map fun q => if q.1 = p then (q.1, q.2 - 1) else q
def later (rs : Rks) (left : List Str) (p : Str) : List Str := left.filter fun x => !decide (x ∈ [wst rs left p])
def cTerm (rs : Rks) (ms : List Str) (f : Cts → List Str → Int) (cs : Cts) (left : List Str) (q : Str × Int) : Int :=
  if 0 < q.2 then (if (ms.all fun x => decide (x ∈ later rs left q.1)) = true then f (decC cs q.1) (later rs left q.1) else 0) else 0
def cOrd (rs : Rks) (ms : List Str) : Nat → Cts → List Str → Int
  | 0, _, _ => 0
  | n + 1, cs, left => if left.length = ms.length then (if left = ms then 1 else 0) else (cs.map (cTerm rs ms (cOrd rs ms n) cs left)).sum
theorem decC_keys (cs : Cts) (p : Str) : (decC cs p).map (·.1) = cs.map (·.1) := by
  unfold decC
  rw [List.map_map]
  refine List.map_congr_left fun q _ => ?_
  show (if q.1 = p then (q.1, q.2 - 1) else q).1 = q.1
  split <;> rfl
theorem decC_length (cs : Cts) (p : Str) : (decC cs p).length = cs.length := List.length_map _
theorem ctK_keys (cs : Cts) : ((ctK cs).map (·.1)) = (cs.map (·.1)).map Sum.inr := by
  unfold ctK; rw [List.map_map, List.map_map]; rfl
theorem ctK_nodup {cs : Cts} (h : (cs.map (·.1)).Nodup) : ((ctK cs).map (·.1)).Nodup := by
  rw [ctK_keys]; exact inr_nodup h
theorem ctK_put {cs : Cts} (nd : (cs.map (·.1)).Nodup) {p : Str} {c : Int} (h : (p, c) ∈ cs) : putK (ctK cs) (Sum.inr p) (.int (c - 1)) = ctK (decC cs p) := by
  have hany : ((ctK cs).any fun kv => decide (kv.1 = (Sum.inr p : Key))) = true := List.any_eq_true.mpr ⟨(Sum.inr p, .int c), List.mem_map.mpr ⟨(p, c), h, rfl⟩, decide_eq_true rfl⟩
  unfold putK
  rw [if_pos hany]
  unfold ctK decC
  rw [List.map_map, List.map_map]
  refine List.map_congr_left fun q hq => ?_
  show (if (Sum.inr q.1 : Key) = Sum.inr p then ((Sum.inr q.1 : Key), V.int (c - 1)) else (Sum.inr q.1, V.int q.2)) = _
  by_cases e : q.1 = p
  · have eq : q = (p, c) := by
      have hq' : (p, q.2) ∈ cs := by rw [← e]; exact hq
      have h2 := mem_getA nd h
      have h3 := mem_getA nd hq'
      rw [h2] at h3
      injection h3 with h3
      exact Prod.ext e h3.symm
    rw [eq, if_pos rfl]
    show _ = ((Sum.inr (if p = p then (p, c - 1) else (p, c)).1 : Key), V.int (if p = p then (p, c - 1) else (p, c)).2)
    rw [if_pos rfl]
  · rw [if_neg (fun z => e (Sum.inr.inj z))]
    show _ = ((Sum.inr (if q.1 = p then (q.1, q.2 - 1) else q).1 : Key), V.int (if q.1 = p then (q.1, q.2 - 1) else q).2)
    rw [if_neg e]
theorem decC_ck {rs : Rks} {cs : Cts} (ck : CK rs cs) {p : Str} {c : Int} (h : (p, c) ∈ cs) (hc : 0 < c) : CK rs (decC cs p) := by
  refine ⟨by rw [decC_length]; exact ck.len, by rw [decC_keys]; exact ck.nd, fun q hq => ?_, fun q hq => ?_⟩
  · obtain ⟨q0, h0, e⟩ := List.mem_map.mp hq
    have := ck.sub q0 h0
    rw [← e]
    split <;> exact this
  · obtain ⟨q0, h0, e⟩ := List.mem_map.mp hq
    have := ck.rng q0 h0
    by_cases z : q0.1 = p
    · rw [if_pos z] at e
      have hq' : (p, q0.2) ∈ cs := by rw [← z]; exact h0
      have h2 := mem_getA ck.nd h
      have h3 := mem_getA ck.nd hq'
      rw [h2] at h3
      injection h3 with h3
      rw [← e]; dsimp only; omega
    · rw [if_neg z] at e; rw [← e]; exact this
def spCnt (K : PySem.W.Frag) (k : Nat) : Sp := fun vs H Q _ => ∃ r n c l rs A cs ms left, vs = [.ref r, .ref n, .ref c, .ref l] ∧ RksAt K H r rs ∧ GK rs A ∧ CtsAt H n cs ∧ CK rs cs ∧ ComAt K H c ms ∧ GC ms ∧ ComAt K H l left ∧ GC left ∧
  (∀ x ∈ left, x ∈ A) ∧ (∀ x ∈ ms, x ∈ left) ∧ left.length < ms.length + k ∧ Ret H Q fun v _ => v = .int (cOrd rs ms k cs left)
def spCntT (K : PySem.W.Frag) : Sp := fun vs H Q _ => ∃ r n c rs A cs ms, vs = [.ref r, .ref n, .ref c] ∧ Pre K H r n c rs A cs ms ∧ A.length ≤ 8 ∧ nord cs 0 1 ≤ 5000 ∧ Ret H Q fun v _ => v = .int (cOrd rs ms 9 cs A)
theorem sum_snoc (l : List Int) (x : Int) : (l ++ [x]).sum = l.sum + x := by rw [List.sum_append]; simp
section
variable {P : Program} {w : World} {K : PySem.W.Frag} {mg : Str → Option Value} {base : Heap}
theorem count_orders_at (T : TX K mg) (k : Nat) (ih : ∀ m, k = m + 1 → Cal P w K mg base (m + 7) "count_orders" ["rankings", "counts", "committee", "left"] (spCnt K m)) :
    Cal P w K mg base (k + 7) "count_orders" ["rankings", "counts", "committee", "left"] (spCnt K k) := by
  have F_C_len := ok_C_len (P := P) (w := w) (base := base) T
  have F_C_eq := ok_C_eq (P := P) (w := w) (base := base) T
  have F_C_sub := ok_C_sub (P := P) (w := w) (base := base) T
  have F_C_init := ok_C_init (P := P) (w := w) (base := base) T
  have F_R_worst := ok_R_worst (P := P) (w := w) (base := base) T
  have F_C_is_within := ok_within (P := P) (w := w) (base := base) T
  refine cal_mk (fok_mk T.f_count_orders sc_count_orders (fun _ _ _ _ _ _ us hl => match us, hl with | [_, _, _, _], _ => rfl) (fun vs H Q E h => ?_) (fun cdv A outer s H vs Q E hr h => ?_)) T.g_count_orders (let ⟨_, F⟩ := T.f_count_orders; F.kp)
  · obtain ⟨r, n, c, l, rs, A, cs, ms, left, rfl, _⟩ := h; rfl
  obtain ⟨r, n, c, l, rs, A, cs, ms, left, rfl, rk, g, ct, ck, cm, gm, lf, gl, la, ml, hk, q⟩ := h
  have hle : ms.length ≤ left.length := gm.1.nodup.length_le_of_subset ml
  cases k with
  | zero => exact absurd hk (by omega)
  | succ k =>
  have F_count_orders := ih k rfl
  refine ⟨_, (pss_cons (ps_if (pt_cmpR op_eq (pe_callB (call_lenO F_C_len T.sC_len (hr.mono (by omega))) (by rfl) T.b_len (by decide +kernel) (pa_cons (pv 3) pa_nil)) (pe_callB (call_lenO F_C_len T.sC_len (hr.mono (by omega))) (by rfl) T.b_len (by decide +kernel) (pa_cons (pv 2) pa_nil)) (nomark _)) (pss_one (ps_ret (pe_callTy call_int1 (by rfl) T.b_int (by decide +kernel) (pa_cons (pe_cmpR (op_eqO F_C_eq T.sC_eq (hr.mono (by omega))) (pv 3) (pv 2) (nomark _)) pa_nil)))) pss_nil)
      (pss_cons (ps_set (i := 4) sc_count_orders.nd rfl (Or.inl rfl) pe_int)
      (pss_cons (ps_lockR (ps_for PassesOwn.never rfl (pi_items (pv 1)) (k_gtup K (by rfl) rfl (pgs_cons (pg_name (i := 5) sc_count_orders.nd rfl (Or.inl rfl)) (pgs_cons (pg_name (i := 6) sc_count_orders.nd rfl (Or.inl rfl)) pgs_nil))) (pss_one (ps_if (pt_cmpR op_gt (pv 6) pe_int (nomark _)) (pss_cons (ps_set (i := 7) sc_count_orders.nd rfl (Or.inl rfl) (pe_op (op_binO F_C_sub T.sfC T.sC_sub (hr.mono (by omega))) (pv 3) (pe_mk F_C_init T.mkC T.gC (hr.mono (by omega)) (pa_cons (pe_lst (pa_cons (pe_m F_R_worst T.clsR T.mR_worst (hr.mono (by omega)) (pe_dget (hu_of hr) (pv 0) (pv 5) (fun _ _ => rfl)) (pa_cons (pv 3) pa_nil)) pa_nil)) pa_nil))))
      (pss_one (ps_if (pt_val (pe_m F_C_is_within T.clsC T.mC_is_within (hr.mono (by omega)) (pv 2) (pa_cons (pv 7) pa_nil))) (pss_one (ps_aug (i := 4) sc_count_orders.nd rfl (Or.inl rfl) (pe_c F_count_orders (hr.mono (by omega)) (pa_cons (pv 0) (pa_cons (pe_dstar (pv 1) (pv 5) (pe_op op_sub (pv 6) pe_int)) (pa_cons (pv 2) (pa_cons (pv 7) pa_nil))))) ip_add)) pss_nil))) pss_nil))))
      (pss_one (ps_ret (pv 4)))))), ?_⟩
  have b63 : ∀ x : List Str, GC x → (0 : Int) ≤ (x.length : Nat) ∧ ((x.length : Nat) : Int) < 2 ^ 63 := fun x hx => by have := hx.2.2; constructor <;> omega
  obtain ⟨dl, ll, l1, l2⟩ := id lf
  obtain ⟨dc, lc, c1, c2⟩ := id cm
  refine ⟨_, rfl, l, dl, _, rfl, l1, l, _, rfl, lf, _, rfl, b63 _ gl, _, rfl, c, dc, _, rfl, c1, c, _, rfl, cm, _, rfl, b63 _ gm, by simp [scal], _, rfl, ?_⟩
  by_cases hlen : left.length = ms.length
  · refine itT (by simp [hlen]) ?_
    refine ⟨_, rfl, _, rfl, l, dl, _, c, dc, _, rfl, rfl, l1, c1, l, c, left, ms, rfl, lf, cm, gl.2.1, gm.2.1, .inr ⟨_, rfl, ?_⟩⟩
    refine q _ _ (Same.refl _) ?_
    unfold cOrd
    rw [if_pos hlen]
    by_cases e : left = ms
    · simp [e]
    · simp [e]
  · refine itF (by simp; omega) ?_
    have hlt : ms.length < left.length := by omega
    have hne : left ≠ [] := fun e => by rw [e] at hlt; simp at hlt
    refine ⟨n, _, ct, fun H1 o md1 g1 e1 => ?_⟩
    obtain ⟨kvs, hdr, hor⟩ := rk
    have nrn : r ≠ n := dict_ne g.ne hor hdr ct
    have hdr1 : Rd H1 r (.dK kvs) := hdr.imp (fun e => (e1 r nrn).trans e) fun ⟨o', e⟩ => ⟨o', (e1 r nrn).trans e⟩
    have hor1 := hor.md md1
    have rk1 : RksAt K H1 r rs := ⟨kvs, hdr1, hor1⟩
    have lf1 := lf.md md1
    have cm1 := cm.md md1
    have hn1 : Rd H1 n (.dK (ctK cs)) := .inr ⟨o, g1⟩
    refine ⟨_, rfl, n, o, _, rfl, g1, for_it walk_items (fun i σ Hc => ∃ x5 x6 x7, σ = [some (.ref r), some (.ref n), some (.ref c), some (.ref l), some (.int ((cs.take i).map (cTerm rs ms (cOrd rs ms k) cs left)).sum), x5, x6, x7] ∧ Same H1 Hc) ⟨none, none, none, rfl, Same.refl _⟩ (fun i σ Hc _ ⟨_, _, _, _, s⟩ => s _ _ g1) ?_ ?_⟩
    · rintro i y σ Hc H3 hi ⟨x5, x6, x7, rfl, s3⟩ ⟨t, x1, x2, rfl, ht, rfl, f1, f2⟩
      dsimp only at f1 f2
      obtain ⟨⟨pl, cc⟩, hqq⟩ := get_lt (l := cs) (i := i) (by rw [ctK_length] at hi; exact hi)
      rw [ctK, List.getElem?_map, hqq] at f1 f2
      cases f1; cases f2
      have s4 := s3.trans (same_new ht (.tup [.str pl, .int cc]))
      refine ⟨t, _, rfl, .inl (.inl upd_same), rfl, _, _, rfl, _, [], rfl, rfl, ?_⟩
      show tIfS _ _ _ _ _ (upd Hc t (.tup [.str pl, .int cc]))
      generalize upd Hc t (.tup [.str pl, .int cc]) = Hd at s4
      have hmem := List.mem_of_getElem? hqq
      have hplr : pl ∈ rs.map (·.1) := ck.sub _ hmem
      have hsum : ((cs.take (i + 1)).map (cTerm rs ms (cOrd rs ms k) cs left)).sum = ((cs.take i).map (cTerm rs ms (cOrd rs ms k) cs left)).sum + cTerm rs ms (cOrd rs ms k) cs left (pl, cc) := by
        rw [take_snoc hqq, List.map_append, List.map_cons, List.map_nil, sum_snoc]
      by_cases hc0 : 0 < cc
      · obtain ⟨qr, hqr, e⟩ := List.mem_map.mp hplr
        obtain ⟨w1, w2, w3⟩ := wst_is g la hne hplr
        have hrkk : rkOf rs pl = qr.2 := by
          have e : qr.1 = pl := e
          rw [← e]; exact rkOf_mem g.nd hqr
        rw [hrkk] at w1
        have hor4 := hor1.md (.of s4)
        obtain ⟨a, hv, hra⟩ := hor4.val g.nd hqr
        rw [e] at hv
        obtain ⟨dxa, la', da, qa, a1, a2, a3⟩ := id hra
        have now : ([("order", .ref la'), ("places", .ref da)] : List (Str × V)).lookup ("worst" : Str) = none := by
          rw [lk_miss (by decide +kernel), lk_miss (by decide +kernel)]; rfl
        have lf4 := lf1.s s4
        obtain ⟨dl4, ll4, l41, l42⟩ := id lf4
        refine ⟨_, rfl, cc, 0, rfl, rfl, _, rfl, itT (by simp [hc0]) ?_⟩
        refine ⟨_, rfl, _, rfl, _, rfl, r, _, rfl, .inl ⟨kvs, Sum.inr pl, Rd.s hdr1 s4, rfl, hv.symm⟩, a, dxa, _, rfl, a1, now, _, rfl, a, l, qr.2, left, _, rfl, hra, lf4, (g.gr qr hqr).1, w1, fun v H5 s5 ev => ?_⟩
        subst ev
        have s15 := s4.trans s5
        have hwn : Nms [wst rs left pl] := fun y hy => by
          rw [List.mem_singleton.mp hy]; exact gl.2.1 _ w2
        refine ⟨sz_line (by decide : 1 ≤ 1000), fun l3 hl3 x dx nx nd ne => ?_⟩
        have nlx : l3 ≠ x := fun e => by subst e; rw [upd_same] at nx; cases nx
        have nld : l3 ≠ dx := fun e => by subst e; rw [upd_same] at nd; cases nd
        refine ⟨x, dx, l3, [wst rs left pl], rfl, upd_same, SqL.of (by rw [upd_ne nlx, upd_ne nld, upd_same]; rfl), hwn, by show 1 ≤ 30; decide, fun H6 hc6 kp => ⟨rfl, ?_⟩⟩
        have s16 : Same H1 H6 := s15.trans ((same_new hl3 _).trans (made_same nx nd kp))
        rw [srt_of_SS (by exact List.pairwise_singleton _ _)] at hc6
        have lf6 := lf1.s s16
        obtain ⟨dl6, ll6, z1, z2⟩ := id lf6
        obtain ⟨dc6, lc6, z3, z4⟩ := id hc6
        refine ⟨l, dl6, _, x, dc6, _, rfl, rfl, z1, z3, l, x, left, _, rfl, lf6, hc6, gl, fun v H7 s7 ⟨q7, ev, hq7⟩ => ?_⟩
        subst ev
        have s17 := s16.trans s7
        have hq7 : ComAt K H7 q7 (later rs left pl) := hq7
        have cm7 := cm1.s s17
        obtain ⟨dc7, lc7, y1, y2⟩ := id cm7
        refine ⟨_, rfl, c, dc7, _, rfl, y1, rfl, _, rfl, c, q7, ms, later rs left pl, rfl, cm7, hq7, gm.2.2, fun v H8 s8 ev => ?_⟩
        subst ev
        have s18 := s17.trans s8
        cases hw : (ms.all fun x => decide (x ∈ later rs left pl)) with
        | false =>
          refine ⟨false, rfl, iteF ⟨some (.str pl), some (.int cc), some (.ref q7), ?_, s18⟩⟩
          rw [hsum, show cTerm rs ms (cOrd rs ms k) cs left (pl, cc) = 0 from by unfold cTerm; rw [if_pos hc0, hw]; rfl, Int.add_zero]
          rfl
        | true =>
          refine ⟨true, rfl, iteT ?_⟩
          have n8 : Rd H8 n (.dK (ctK cs)) := Rd.s hn1 s18
          refine ⟨_, rfl, _, rfl, fun D hD => ⟨_, rfl, n, ctK cs, rfl, ?_, ?_, ctK_nodup ck.nd, ?_, upd_same, fun D2 hD2 => ⟨_, rfl, _, rfl, cc, 1, rfl, rfl, Sum.inr pl, rfl, ?_, ?_, ?_⟩⟩⟩
          · intro e; subst e; rcases n8 with z | ⟨o', z⟩ <;> (rw [z] at hD; cases hD)
          · exact Rd.s n8 (same_new hD _)
          · rw [ctK_length, ck.len, sizeLine_eq]; have := g.len; omega
          · rw [upd_ne (fun e => by subst e; rw [upd_same] at hD2; cases hD2), upd_same]
          · exact upd_same
          · rw [ctK_put ck.nd hmem]
            have sA : Same H8 (upd (upd H8 D (.dK [])) D (.dK (ctK cs))) := same_up (same_new hD _) hD _
            have hD2' : H8 D2 = none := by
              cases z : H8 D2 with
              | none => rfl
              | some u => rw [sA _ _ z] at hD2; cases hD2
            have sB := same_up (same_up (sA.trans (same_new hD2 (.dK []))) hD2' (.dK [(Sum.inr pl, .int (cc - 1))])) hD (.dK (ctK (decC cs pl)))
            have eD : (upd (upd (upd (upd (upd H8 D (.dK [])) D (.dK (ctK cs))) D2 (.dK [])) D2 (.dK [(Sum.inr pl, .int (cc - 1))])) D (.dK (ctK (decC cs pl)))) D = some (.dK (ctK (decC cs pl))) := upd_same
            generalize upd (upd (upd (upd (upd H8 D (.dK [])) D (.dK (ctK cs))) D2 (.dK [])) D2 (.dK [(Sum.inr pl, .int (cc - 1))])) D (.dK (ctK (decC cs pl))) = H9 at sB eD
            have s19 := s18.trans sB
            have hq9 := (hq7.s s8).s sB
            have hll : (later rs left pl).length < left.length := by
              refine List.length_filter_lt_length_iff_exists.mpr ⟨wst rs left pl, w2, by simp⟩
            refine ⟨_, rfl, _, rfl, r, D, c, q7, rs, A, decC cs pl, ms, later rs left pl, rfl, rk1.s s19, g, .inl eD, decC_ck ck hmem hc0, cm1.s s19, gm, hq9, ⟨gl.1.filter _, fun x hx => gl.2.1 x (List.mem_filter.mp hx).1, Nat.le_trans (List.length_filter_le _ _) gl.2.2⟩, fun x hx => la x (List.mem_filter.mp hx).1, fun x hx => of_decide_eq_true (List.all_eq_true.mp hw x hx), by omega, fun v H10 s10 ev => ?_⟩
            subst ev
            refine ⟨_, _, rfl, rfl, some (.str pl), some (.int cc), some (.ref q7), ?_, s19.trans s10⟩
            rw [hsum, show cTerm rs ms (cOrd rs ms k) cs left (pl, cc) = cOrd rs ms k (decC cs pl) (later rs left pl) from by unfold cTerm; rw [if_pos hc0, hw, if_pos rfl]]
            rfl
      · refine ⟨_, rfl, cc, 0, rfl, rfl, _, rfl, itF (by simp; omega) ?_⟩
        refine ⟨some (.str pl), some (.int cc), x7, ?_, s4⟩
        rw [hsum, show cTerm rs ms (cOrd rs ms k) cs left (pl, cc) = 0 from if_neg hc0, Int.add_zero]
        rfl
    · rintro σ Hc ⟨x5, x6, x7, rfl, s3⟩
      refine ⟨s3 _ _ g1, fun H4 e4 e5 => ?_⟩
      have s14 : Same H H4 := lk_same e1 s3 e4 e5
      refine ⟨_, rfl, q _ _ s14 ?_⟩
      rw [ctK_length, List.take_length]
      unfold cOrd
      rw [if_neg hlen]
theorem ok_count_orders (T : TX K mg) : ∀ k, Cal P w K mg base (k + 7) "count_orders" ["rankings", "counts", "committee", "left"] (spCnt K k)
  | 0 => count_orders_at T 0 fun m h => by cases h
  | k + 1 => count_orders_at T (k + 1) fun m h => by cases h; exact ok_count_orders T k
theorem ok_count_turns (T : TX K mg) : Cal P w K mg base 17 "count_turns" ["rankings", "counts", "committee"] (spCntT K) := by
  have F_check_all := ok_check_all (P := P) (w := w) (base := base) T
  have F_check_listed := ok_check_listed (P := P) (w := w) (base := base) T
  have F_number_of_orders := ok_number_of_orders (P := P) (w := w) (base := base) T
  have F_all_of := ok_all_of (P := P) (w := w) (base := base) T
  have F_count_orders := ok_count_orders (P := P) (w := w) (base := base) T 9
  refine cal_mk (fok_mk T.f_count_turns sc_count_turns (fun _ _ _ _ _ _ us hl => match us, hl with | [_, _, _], _ => rfl) (fun vs H Q E h => ?_) (fun cdv A outer s H vs Q E hr h => ?_)) T.g_count_turns (let ⟨_, F⟩ := T.f_count_turns; F.kp)
  · obtain ⟨r, n, c, rs, A, cs, ms, rfl, _⟩ := h; rfl
  obtain ⟨r, n, c, rs, A, cs, ms, rfl, pre, h8, hno, k⟩ := h
  refine ⟨_, (pss_cons (ps_expr (pe_c F_check_all (hr.mono (by decide)) (pa_cons (pv 0) (pa_cons (pv 1) (pa_cons (pv 2) pa_nil)))))
      (pss_cons (ps_expr (pe_c F_check_listed (hr.mono (by decide)) (pa_cons (pe_c F_number_of_orders (hr.mono (by decide)) (pa_cons (pv 1) pa_nil)) pa_nil)))
      (pss_one (ps_ret (pe_c F_count_orders (hr.mono (by decide)) (pa_cons (pv 0) (pa_cons (pv 1) (pa_cons (pv 2) (pa_cons (pe_c F_all_of (hr.mono (by decide)) (pa_cons (pv 0) pa_nil)) pa_nil))))))))), ?_⟩
  have hA : total cs ≤ 8 := by
    have := pre.tot
    have h2 : (others A ms).length ≤ A.length := List.length_filter_le _ _
    omega
  refine ⟨_, rfl, _, rfl, _, rfl, r, n, c, rs, A, cs, ms, rfl, pre.rk, pre.gk, pre.ct, pre.ck, pre.cm, pre.gm, pre.sub, pre.tot, fun _ H1 s1 _ => ?_⟩
  have pre1 := pre.s s1
  refine ⟨_, rfl, n, cs, rfl, pre1.ct, by rw [pre.ck.len]; exact pre.gk.len, fun q hq => (pre.ck.rng q hq).1, hA, fun H2 s2 => ⟨_, rfl, hno, ?_⟩⟩
  have s12 := s1.trans s2
  refine ⟨_, rfl, _, rfl, _, rfl, _, rfl, r, rs, A, rfl, pre.rk.s s12, pre.gk, fun v H3 s3 ⟨p, ev, hp⟩ => ?_⟩
  subst ev
  have s13 := s12.trans s3
  have p3 := pre.s s13
  exact ⟨r, n, c, p, rs, A, cs, ms, A, rfl, p3.rk, p3.gk, p3.ct, p3.ck, p3.cm, p3.gm, hp, p3.gk.gc, fun _ h => h, p3.sub, by omega, fun v H4 s4 ev => k _ _ (s13.trans s4) ev⟩
end
end Fl
namespace Fl
open PySem PySem.Spec L2
open PyProof.Rows (envOfC)
theorem sum_le_mul (b : Nat) : ∀ l : List Nat, (∀ x ∈ l, x ≤ b) → l.sum ≤ l.length * b
  | [], _ => by simp
  | a :: r, h => by
    have := sum_le_mul b r fun x hx => h x (List.mem_cons_of_mem _ hx)
    have := h a List.mem_cons_self
    rw [List.sum_cons, List.length_cons, Nat.succ_mul]
    omega
theorem chs_count : ∀ (k : Nat) (names : List Str), names.length ≤ 8 → (chs names k).length ≤ 8 ^ k
  | 0, _, _ => by simp [chs]
  | k + 1, names, h => by
    rw [chs, List.length_flatMap]
    refine Nat.le_trans (sum_le_mul (8 ^ k) _ fun x hx => ?_) ?_
    · obtain ⟨i, _, rfl⟩ := List.mem_map.mp hx
      rw [List.length_map]
      exact chs_count k _ (by rw [List.length_drop]; omega)
    · rw [List.length_map, List.length_range, Nat.pow_succ, Nat.mul_comm]
      exact Nat.mul_le_mul_left _ (by omega)
theorem pcs_count {rs : Rks} {A : List Str} {cs : Cts} (h : A.length ≤ 8) : (pcs rs A cs).length ≤ 16777216 := by
  unfold pcs
  refine Nat.le_trans (List.length_filter_le _ _) (Nat.le_trans (chs_count _ _ h) ?_)
  exact Nat.le_trans (Nat.pow_le_pow_right (by decide) (show A.length - (total cs).toNat ≤ 8 by omega)) (by decide)
noncomputable def memb (rs : Rks) (A : List Str) (cs : Cts) (x : Str) : Str :=
  if ((pcs rs A cs).all fun C => decide (x ∈ C)) = true then "all" else if ((pcs rs A cs).any fun C => decide (x ∈ C)) = true then "some" else "none"
def spMemb (K : PySem.W.Frag) : Sp := fun vs H Q _ => ∃ r n x rs A cs, vs = [.ref r, .ref n, .str x] ∧ RksAt K H r rs ∧ GK rs A ∧ CtsAt H n cs ∧ CK rs cs ∧ A.length ≤ 8 ∧ 0 ≤ total cs ∧ total cs ≤ A.length ∧ x ∈ A ∧ Ret H Q fun v _ => v = .str (memb rs A cs x)
section
variable {P : Program} {w : World} {K : PySem.W.Frag} {mg : Str → Option Value} {base : Heap}
theorem ok_membership (T : TX K mg) : Cal P w K mg base 22 "membership" ["rankings", "counts", "name"] (spMemb K) := by
  have F_check_rankings := ok_check_rankings (P := P) (w := w) (base := base) T
  have F_check_counts := ok_check_counts (P := P) (w := w) (base := base) T
  have F_all_of := ok_all_of (P := P) (w := w) (base := base) T
  have F_C_len := ok_C_len (P := P) (w := w) (base := base) T
  have F_C_contains := ok_C_contains (P := P) (w := w) (base := base) T
  have F_possible := ok_possible (P := P) (w := w) (base := base) T
  refine cal_mk (fok_mk T.f_membership sc_membership (fun _ _ _ _ _ _ us hl => match us, hl with | [_, _, _], _ => rfl) (fun vs H Q E h => ?_) (fun cdv A outer s H vs Q E hr h => ?_)) T.g_membership (let ⟨_, F⟩ := T.f_membership; F.kp)
  · obtain ⟨r, n, x, rs, A, cs, rfl, _⟩ := h; rfl
  obtain ⟨r, n, x, rs, A, cs, rfl, rk, g, ct, ck, h8, h0, hA, hx, k⟩ := h
  refine ⟨_, (pss_cons (ps_expr (pe_c F_check_rankings (hr.mono (by decide)) (pa_cons (pv 0) pa_nil)))
      (pss_cons (ps_expr (pe_c F_check_counts (hr.mono (by decide)) (pa_cons (pv 0) (pa_cons (pv 1) (pa_cons pe_int (pa_cons (pe_callB (call_lenO F_C_len T.sC_len (hr.mono (by decide))) (by rfl) T.b_len (by decide +kernel) (pa_cons (pe_c F_all_of (hr.mono (by decide)) (pa_cons (pv 0) pa_nil)) pa_nil)) pa_nil))))))
      (pss_cons (ps_if (pt_cmpR (op_notInO F_C_contains T.sC_contains (hr.mono (by decide))) (pv 2) (pe_c F_all_of (hr.mono (by decide)) (pa_cons (pv 0) pa_nil)) (by rfl)) pss_never pss_nil)
      (pss_cons (ps_setLcG (i := 3) (own := [("committee", 4)]) (i0 := 4) rfl sc_membership.nd rfl rfl (sw_true rfl rfl rfl (by decide +kernel)) (hr.mono (by decide)) (pgn_c F_possible (hr.mono (by decide)) (pa_cons (pv 0) (pa_cons (pv 1) pa_nil))) (blkOk_by (N := ["rankings", "counts", "name", "found", "committee"]) (sc := defScope s_membership) (by decide +kernel)) (by decide) (by decide) (fun _ _ _ _ _ => by exact (pg_name (i := 4) sc_membership.nd rfl (Or.inl rfl))) (fun _ _ _ _ _ => by exact ((pe_cmpR (op_inO F_C_contains T.sC_contains (hr.mono (by decide))) (pv 2) (pv 4) (by rfl)))))
      (pss_cons (ps_if (pt_val (pe_callB (k_all K (by rfl) rfl) (by rfl) T.b_all (by decide +kernel) (pa_cons (pv 3) pa_nil))) (pss_one (ps_ret pe_str)) pss_nil)
      (pss_one (ps_ret (pe_ifExp (pt_val (pe_callB (k_any K (by rfl) rfl) (by rfl) T.b_any (by decide +kernel) (pa_cons (pv 3) pa_nil))) pe_str pe_str)))))))), ?_⟩
  have b63 : ∀ x : List Str, GC x → (0 : Int) ≤ (x.length : Nat) ∧ ((x.length : Nat) : Int) < 2 ^ 63 := fun x hx => by have := hx.2.2; constructor <;> omega
  have hok : okName x = true := g.gc.2.1 x hx
  refine ⟨_, rfl, r, rs, A, rfl, rk, g, fun H1 s1 => ?_⟩
  have rk1 := rk.s s1
  refine ⟨_, rfl, _, rfl, _, rfl, r, rs, A, rfl, rk1, g, fun v H2 s2 ⟨p, ev, hp⟩ => ?_⟩
  subst ev
  obtain ⟨dp, lp, p1, p2⟩ := id hp
  have s12 := s1.trans s2
  refine ⟨p, dp, _, rfl, p1, p, A, rfl, hp, _, rfl, b63 _ g.gc, r, n, rs, A, cs, 0, _, rfl, rk.s s12, g, Rd.s ct s12, ck, h0, hA, fun H3 s3 => ?_⟩
  have s13 := s12.trans s3
  refine ⟨_, rfl, _, rfl, r, rs, A, rfl, rk.s s13, g, fun v H4 s4 ⟨p', ev, hp'⟩ => ?_⟩
  subst ev
  have s14 := s13.trans s4
  obtain ⟨dp', lp', p1', p2'⟩ := id hp'
  refine ⟨p', dp', _, rfl, p1', p', A, x, rfl, hp', hok, fun v H5 s5 ev => ?_⟩
  subst ev
  have s15 := s14.trans s5
  rw [decide_eq_true hx]
  refine ⟨_, rfl, _, rfl, iteF ?_⟩
  have rk5 := rk.s s15
  have ct5 : CtsAt H5 n cs := Rd.s ct s15
  refine ⟨_, rfl, _, rfl, pcs rs A cs, ⟨r, n, rs, A, cs, rfl, rk5, g, ct5, ck, h8, hA, rfl⟩, fun D hD => ⟨fun rest Hc => ∃ done, pcs rs A cs = done ++ rest ∧ Same H5 Hc ∧ Hc D = some (.lst ((done.map fun C => decide (x ∈ C)).map V.bl)), ⟨[], rfl, same_new hD _, upd_same⟩, ?_, ?_⟩⟩
  · rintro Hc H6 ⟨done, e, sc, eD⟩ s6
    rw [List.append_nil] at e
    subst e
    have eD6 := s6 _ _ eD
    have s16 := sc.trans s6
    have ku : ∀ b, memb rs A cs x = b → Q (.str b) H6 := fun b e => k _ _ (s15.trans s16) (by rw [e])
    have hall : ((pcs rs A cs).map fun C => decide (x ∈ C)).all id = (pcs rs A cs).all fun C => decide (x ∈ C) := by rw [List.all_map]; rfl
    have hany : ((pcs rs A cs).map fun C => decide (x ∈ C)).any id = (pcs rs A cs).any fun C => decide (x ∈ C) := by rw [List.any_map]; rfl
    refine ⟨_, rfl, D, _, rfl, SqL.of eD6, _, rfl, ?_⟩
    rw [hall]
    cases h1 : ((pcs rs A cs).all fun C => decide (x ∈ C)) with
    | true => exact iteT (ku "all" (by unfold memb; rw [if_pos h1]))
    | false =>
      refine iteF ⟨_, rfl, D, _, rfl, SqL.of eD6, _, rfl, ?_⟩
      rw [hany]
      cases h2 : ((pcs rs A cs).any fun C => decide (x ∈ C)) with
      | true => exact iteT (ku "some" (by unfold memb; rw [if_neg (by rw [h1]; decide), if_pos h2]))
      | false => exact iteF (ku "none" (by unfold memb; rw [if_neg (by rw [h1]; decide), if_neg (by rw [h2]; decide)]))
  · rintro C rest Hc H6 y ⟨done, e, sc, eD⟩ s6 ⟨p6, rfl, hp6⟩
    obtain ⟨d6, l6, y1, y2⟩ := id hp6
    refine ⟨_, rfl, _, rfl, p6, d6, _, rfl, y1, p6, C, x, rfl, hp6, hok, fun v H7 s7 ev => ?_⟩
    subst ev
    have eD7 := s7 _ _ (s6 _ _ eD)
    refine ⟨_, rfl, .of s7, _, eD7, ?_, done ++ [C], by rw [e, List.append_assoc]; rfl, ?_, ?_⟩
    · have := pcs_count (rs := rs) (cs := cs) h8
      rw [e, List.length_append, List.length_cons] at this
      rw [List.length_map, List.length_map, sizeLine_eq]; omega
    · exact same_up ((sc.trans s6).trans s7) hD _
    · rw [upd_same, List.map_append, List.map_append]; rfl
end
end Fl
namespace Fl
open PySem PySem.Spec L2
open PyProof.Rows (envOfC)
/-! ### the law's stream of draws -/
def StAt (H : Hp) (s : Addr) : Prop := ∃ a b : Int, H s = some (.lst [.int a, .int b]) ∧ 0 ≤ b ∧ b < 2147483647
def spStream (K : PySem.W.Frag) : Sp := fun vs H Q _ => ∃ l, ∃ xs : List Int, ∃ k : Nat, vs = [.ref l, .int k] ∧ SqL K H l (xs.map V.int) ∧ k ≤ 4 ∧ ∀ p H', H p = none → Same H H' → StAt H' p → Q (.ref p) H'
def spDraw : Sp := fun vs H Q _ => ∃ s, ∃ n : Int, vs = [.ref s, .int n] ∧ StAt H s ∧ 0 < n ∧ n < 1000 ∧ ∀ (r : Int) H', 0 ≤ r → r < n → But s H H' → StAt H' s → Q (.int r) H'
def spShuf (K : PySem.W.Frag) : Sp := fun vs H Q _ => ∃ s l xs, vs = [.ref s, .ref l] ∧ StAt H s ∧ SqL K H l (sv xs) ∧ xs.length ≤ 30 ∧ ∀ ys p H', ys.Perm xs → H p = none → But s H H' → StAt H' s → H' p = some (.lst (sv ys)) → Q (.ref p) H'
theorem sv_erase : ∀ (l : List Str) (j : Nat), (sv l).eraseIdx j = sv (l.eraseIdx j)
  | [], _ => rfl
  | _ :: _, 0 => rfl
  | a :: r, j + 1 => by
    show (V.str a :: (sv r).eraseIdx j) = V.str a :: sv (r.eraseIdx j)
    rw [sv_erase r j]
theorem erase_perm : ∀ (l : List Str) (j : Nat) (h : j < l.length), (l[j] :: l.eraseIdx j).Perm l
  | [], _, h => by simp at h
  | _ :: _, 0, _ => List.Perm.refl _
  | a :: r, j + 1, h => by
    show (r[j]'(by simpa using h) :: a :: r.eraseIdx j).Perm (a :: r)
    exact (List.Perm.swap _ _ _).trans ((erase_perm r j (by simpa using h)).cons a)
section
variable {P : Program} {w : World} {K : PySem.W.Frag} {mg : Str → Option Value} {base : Heap}
theorem ok_l_stream (T : TX K mg) : Cal P w K mg base 1 "_law_stream" ["_law_script", "_law_k"] (spStream K) := by
  refine cal_mk (fok_mk T.f_l_stream sc_l_stream (fun _ _ _ _ _ _ us hl => match us, hl with | [_, _], _ => rfl) (fun vs H Q E h => ?_) (fun cdv A outer s H vs Q E hr h => ?_)) T.g_l_stream (let ⟨_, F⟩ := T.f_l_stream; F.kp)
  · obtain ⟨l, xs, k, rfl, _⟩ := h; rfl
  obtain ⟨l, xs, k, rfl, hl, hk4, q⟩ := h
  refine ⟨_, (pss_cons (ps_set (i := 2) sc_l_stream.nd rfl (Or.inl rfl) pe_int)
      (pss_cons (ps_if (pt_cmpR op_lt (pv 1) (pe_callB (k_len K (by rfl)) (by rfl) T.b_len (by decide +kernel) (pa_cons (pv 0) pa_nil)) (nomark _)) (pss_one (ps_set (i := 2) sc_l_stream.nd rfl (Or.inl rfl) (pe_ix (k_ixL K (by rfl)) (pv 0) (pv 1) (fun _ _ => rfl)))) pss_nil)
      (pss_cons (ps_set (i := 3) sc_l_stream.nd rfl (Or.inl rfl) (pe_callB (call_max2 rfl) (by rfl) T.b_max (by decide +kernel) (pa_cons (pv 2) (pa_cons (pe_op op_sub (pe_un un_neg pe_int) (pv 2)) pa_nil))))
      (pss_cons (ps_set (i := 4) sc_l_stream.nd rfl (Or.inl rfl) (pe_op op_mod (pe_op op_mul (pe_op op_add (pe_op op_add (pe_op op_add (pe_op op_mod (pv 3) pe_int) (pe_op op_mul (pe_op op_mul pe_int (pv 1)) (pv 1))) (pe_op op_mul pe_int (pv 1))) pe_int) pe_int) pe_int))
      (pss_one (ps_ret (pe_lst (pa_cons (pe_op op_mul (pv 3) (pe_callTy call_int1 (by rfl) T.b_int (by decide +kernel) (pa_cons (pe_cmpR op_ge (pv 3) (pe_op op_pow pe_int pe_int) (nomark _)) pa_nil))) (pa_cons (pv 4) pa_nil))))))))), ?_⟩
  refine ⟨_, rfl, _, rfl, l, _, rfl, .inl hl, _, _, rfl, rfl, _, rfl, ?_⟩
  have fin : ∀ {H' : Hp} {l : Addr} {x y : Int}, Same H H' → H' l = none → 0 ≤ y → y < 2147483647 → Q (.ref l) (upd H' l (.lst [.int x, .int y])) := fun {H' l x y} s hl hy0 hy1 => q _ _ (by
    cases z : H l with
    | none => rfl
    | some u => rw [s _ _ z] at hl; cases hl) (s.trans (same_new hl _)) ⟨x, y, upd_same, hy0, hy1⟩
  by_cases hk : k < xs.length
  · refine itT (by simp [hk]) ⟨_, rfl, _, rfl, l, _, _, .int xs[k], rfl, rfl, hl, by rw [atN, List.getElem?_map, List.getElem?_eq_getElem hk]; rfl, ?_⟩
    generalize xs[k] = c
    refine ⟨_, rfl, 1, rfl, _, rfl, _, _, rfl, rfl, _, _, rfl, ?_⟩
    generalize (if -1 - c > c then -1 - c else c) = d
    refine ⟨_, rfl, d, _, rfl, rfl, by omega, _, rfl, 7919, (k : Int), rfl, rfl, .inl ⟨by omega, by omega⟩, _, rfl, _, (k : Int), rfl, rfl, .inr ⟨by omega, by omega⟩, _, _, rfl, rfl, _, rfl, 31, (k : Int), rfl, rfl, .inl ⟨by omega, by omega⟩, _, _, rfl, rfl, _, _, rfl, rfl, _, _, rfl, rfl, .inr ⟨by omega, by omega⟩, _, _, rfl, rfl, by omega, ?_⟩
    refine ⟨_, rfl, _, rfl, 10, 18, rfl, rfl, ⟨by decide, by decide, by decide⟩, _, _, rfl, rfl, .inr ⟨_, rfl, ?_⟩⟩
    refine ⟨_, _, rfl, rfl, .inr ⟨by split <;> omega, by split <;> omega⟩, _, rfl, sz_line (by decide : 2 ≤ 1000), fun p hp => fin (Same.refl _) hp (Int.emod_nonneg _ (by omega)) (Int.emod_lt_of_pos _ (by omega))⟩
  · refine itF (by simp; omega) ?_
    refine ⟨_, rfl, 1, rfl, _, rfl, _, _, rfl, rfl, _, _, rfl, ?_⟩
    generalize (if -1 - (0 : Int) > 0 then -1 - (0 : Int) else 0) = d
    refine ⟨_, rfl, d, _, rfl, rfl, by omega, _, rfl, 7919, (k : Int), rfl, rfl, .inl ⟨by omega, by omega⟩, _, rfl, _, (k : Int), rfl, rfl, .inr ⟨by omega, by omega⟩, _, _, rfl, rfl, _, rfl, 31, (k : Int), rfl, rfl, .inl ⟨by omega, by omega⟩, _, _, rfl, rfl, _, _, rfl, rfl, _, _, rfl, rfl, .inr ⟨by omega, by omega⟩, _, _, rfl, rfl, by omega, ?_⟩
    refine ⟨_, rfl, _, rfl, 10, 18, rfl, rfl, ⟨by decide, by decide, by decide⟩, _, _, rfl, rfl, .inr ⟨_, rfl, ?_⟩⟩
    refine ⟨_, _, rfl, rfl, .inr ⟨by split <;> omega, by split <;> omega⟩, _, rfl, sz_line (by decide : 2 ≤ 1000), fun p hp => fin (Same.refl _) hp (Int.emod_nonneg _ (by omega)) (Int.emod_lt_of_pos _ (by omega))⟩
theorem ok_l_draw (T : TX K mg) : Cal P w K mg base 1 "_law_draw" ["_law_stream_here", "_law_count"] spDraw := by
  refine cal_mk (fok_mk T.f_l_draw sc_l_draw (fun _ _ _ _ _ _ us hl => match us, hl with | [_, _], _ => rfl) (fun vs H Q E h => ?_) (fun cdv A outer s H vs Q E hr h => ?_)) T.g_l_draw (let ⟨_, F⟩ := T.f_l_draw; F.kp)
  · obtain ⟨s, n, rfl, _⟩ := h; rfl
  obtain ⟨st, n, rfl, ⟨a, b, hs, b0, b1⟩, hn, hn2, q⟩ := h
  refine ⟨_, (pss_cons (ps_if (pt_cmpR op_gt (pe_ix (k_ixL K (by rfl)) (pv 0) pe_int (fun _ _ => rfl)) pe_int (nomark _)) (pss_cons (ps_set (i := 2) sc_l_draw.nd rfl (Or.inl rfl) (pe_op op_mod (pe_ix (k_ixL K (by rfl)) (pv 0) pe_int (fun _ _ => rfl)) (pv 1)))
      (pss_cons (ps_asg (pe_op op_fdiv (pe_ix (k_ixL K (by rfl)) (pv 0) pe_int (fun _ _ => rfl)) (pv 1)) (pg_sub (pv 0) pe_int set_list))
      (pss_one (ps_ret (pv 2))))) pss_nil)
      (pss_cons (ps_asg (pe_op op_mod (pe_op op_add (pe_op op_mul (pe_ix (k_ixL K (by rfl)) (pv 0) pe_int (fun _ _ => rfl)) pe_int) pe_int) pe_int) (pg_sub (pv 0) pe_int set_list))
      (pss_one (ps_ret (pe_op op_mod (pe_op op_fdiv (pe_op op_mod (pe_op op_mul (pe_ix (k_ixL K (by rfl)) (pv 0) pe_int (fun _ _ => rfl)) (pe_ix (k_ixL K (by rfl)) (pv 0) pe_int (fun _ _ => rfl))) pe_int) pe_int) (pv 1)))))), ?_⟩
  have sq : SqL K H st [V.int a, V.int b] := SqL.of hs
  refine ⟨_, rfl, st, _, 0, _, rfl, rfl, sq, rfl, a, 0, rfl, rfl, _, rfl, ?_⟩
  by_cases ha : 0 < a
  · refine itT (by simp [ha]) ?_
    refine ⟨_, rfl, st, _, 0, _, rfl, rfl, sq, rfl, _, rfl, a, n, rfl, rfl, hn, ?_⟩
    refine ⟨_, rfl, st, _, 0, _, rfl, rfl, sq, rfl, _, rfl, a, n, rfl, rfl, ⟨hn, by omega⟩, ?_⟩
    refine ⟨_, rfl, st, _, 0, 0, rfl, rfl, hs, rfl, _, rfl, ?_⟩
    refine q _ _ (Int.emod_nonneg _ (by omega)) (Int.emod_lt_of_pos _ hn) (fun c u hc e => by rw [upd_ne hc]; exact e) ⟨a / n, b, upd_same, b0, b1⟩
  · refine itF (by simp [ha]) ?_
    refine ⟨_, rfl, st, _, 1, _, rfl, rfl, sq, rfl, b, 69621, rfl, rfl, .inr ⟨by omega, by omega⟩, _, _, rfl, rfl, _, _, rfl, rfl, by omega, ?_⟩
    refine ⟨_, rfl, st, _, 1, 1, rfl, rfl, hs, rfl, ?_⟩
    dsimp only
    have m0 : 0 ≤ (b * 69621 + 7) % 2147483647 := Int.emod_nonneg _ (by omega)
    have m1 : (b * 69621 + 7) % 2147483647 < 2147483647 := Int.emod_lt_of_pos _ (by omega)
    generalize (b * 69621 + 7) % 2147483647 = b2 at m0 m1
    have es : (upd H st (.lst ([V.int a, V.int b].set 1 (V.int b2)))) st = some (.lst [.int a, .int b2]) := upd_same
    have bt : But st H (upd H st (.lst ([V.int a, V.int b].set 1 (V.int b2)))) := fun c u hc e => by rw [upd_ne hc]; exact e
    generalize upd H st (.lst ([V.int a, V.int b].set 1 (V.int b2))) = H2 at es bt
    have sq2 : SqL K H2 st [V.int a, V.int b2] := SqL.of es
    refine ⟨_, rfl, st, _, 1, _, rfl, rfl, sq2, rfl, _, rfl, st, _, 1, _, rfl, rfl, sq2, rfl, b2, b2, rfl, rfl, .inl ⟨by omega, by omega⟩, _, _, rfl, rfl, by omega, _, _, rfl, rfl, ⟨by omega, by omega⟩, _, rfl, _, _, rfl, rfl, hn, ?_⟩
    exact q _ _ (Int.emod_nonneg _ (by omega)) (Int.emod_lt_of_pos _ hn) bt ⟨a, b2, es, m0, m1⟩
theorem ok_l_shuffled (T : TX K mg) : Cal P w K mg base 2 "_law_shuffled" ["_law_stream_here", "_law_items"] (spShuf K) := by
  have F_l_draw := ok_l_draw (P := P) (w := w) (base := base) T
  refine cal_mk (fok_mk T.f_l_shuffled sc_l_shuffled (fun _ _ _ _ _ _ us hl => match us, hl with | [_, _], _ => rfl) (fun vs H Q E h => ?_) (fun cdv A outer s H vs Q E hr h => ?_)) T.g_l_shuffled (let ⟨_, F⟩ := T.f_l_shuffled; F.kp)
  · obtain ⟨s, l, xs, rfl, _⟩ := h; rfl
  obtain ⟨st, l, xs, rfl, hs, hl, hx, q⟩ := h
  refine ⟨_, (pss_cons (ps_par (i := 2) (j := 3) (by rfl) sc_l_shuffled.nd rfl rfl (by decide) rfl rfl (pa_cons (pe_callTy (k_list K (by rfl)) (by rfl) T.b_list (by decide +kernel) (pa_cons (pv 1) pa_nil)) (pa_cons (pe_lst pa_nil) pa_nil)) (by rfl))
      (pss_cons (ps_for PassesOwn.never rfl (pi_range1 (by rfl) T.b_range (pa_cons (pe_callB (k_len K (by rfl)) (by rfl) T.b_len (by decide +kernel) (pa_cons (pv 2) pa_nil)) pa_nil)) (pg_name (i := 4) sc_l_shuffled.nd rfl (Or.inl rfl)) (pss_one (ps_expr (k_bm K (by rfl) PySem.F.plainAttrs_list PySem.F.slot_list_append PySem.F.type_list_append mt_append (pv 3) (pa_cons (k_bm K (by rfl) PySem.F.plainAttrs_list PySem.F.slot_list_pop PySem.F.type_list_pop mt_popAt (pv 2) (pa_cons (pe_c F_l_draw (hr.mono (by decide)) (pa_cons (pv 0) (pa_cons (pe_callB (k_len K (by rfl)) (by rfl) T.b_len (by decide +kernel) (pa_cons (pv 2) pa_nil)) pa_nil))) pa_nil)) pa_nil)))))
      (pss_one (ps_ret (pv 3))))), ?_⟩
  refine ⟨_, rfl, l, _, rfl, .inl hl, fun lf hlf => ⟨sz_line (by decide : 0 ≤ 1000), fun p hp => ⟨_, _, rfl, ?_⟩⟩⟩
  have npl : p ≠ lf := fun e => by rw [e, upd_same] at hp; cases hp
  have hpH : H p = none := by rw [upd_ne npl] at hp; exact hp
  have s2 : Same H (upd (upd H lf (.lst (sv xs))) p (.lst [])) := same_up (same_new hlf _) hpH _
  have e1 : (upd (upd H lf (.lst (sv xs))) p (.lst [])) lf = some (.lst (sv xs)) := by rw [upd_ne npl.symm, upd_same]
  have e2 : (upd (upd H lf (.lst (sv xs))) p (.lst [])) p = some (.lst (sv [])) := upd_same
  have hst2 : StAt (upd (upd H lf (.lst (sv xs))) p (.lst [])) st := let ⟨a, b, e, r⟩ := hs; ⟨a, b, s2 _ _ e, r⟩
  have nsl : st ≠ lf := fun e => by obtain ⟨a, b, z, _⟩ := hs; rw [e, hlf] at z; cases z
  have nsp : st ≠ p := fun e => by obtain ⟨a, b, z, _⟩ := hs; rw [e, hpH] at z; cases z
  generalize upd (upd H lf (.lst (sv xs))) p (.lst []) = H2 at s2 e1 e2 hst2
  have hsl : (sv xs).length = xs.length := List.length_map _
  refine ⟨_, rfl, lf, _, rfl, .inl (SqL.of e1), xs.length, by rw [hsl], by omega, by omega, ?_⟩
  refine for_it walk_range (fun i σ Hc => ∃ x left found, σ = [some (.ref st), some (.ref l), some (.ref lf), some (.ref p), x] ∧ Hc lf = some (.lst (sv left)) ∧ Hc p = some (.lst (sv found)) ∧ StAt Hc st ∧ But st H Hc ∧ (found ++ left).Perm xs ∧ found.length = i) ⟨none, xs, [], rfl, e1, e2, hst2, .of s2, List.Perm.refl _, rfl⟩ (fun _ _ _ _ _ => trivial) ?_ ?_
  · rintro i y σ Hc H3 hi ⟨x, left, found, rfl, el, ef, hsc, bt, pm, hfl⟩ ⟨rfl, rfl⟩
    have hlen := pm.length_eq
    rw [List.length_append] at hlen
    have hsl2 : (sv left).length = left.length := List.length_map _
    refine ⟨_, rfl, .inl ⟨rfl, _, SqL.of ef⟩, _, rfl, .inl ⟨rfl, _, SqL.of el⟩, _, rfl, _, rfl, lf, _, rfl, .inl (SqL.of el), st, _, rfl, hsc, by rw [hsl2]; omega, by rw [hsl2]; omega, fun r H4 r0 r1 bt4 hs4 => ?_⟩
    rw [hsl2] at r1
    obtain ⟨j, rfl⟩ := Int.eq_ofNat_of_zero_le r0
    have hj : j < left.length := by omega
    have el4 := bt4 _ _ nsl.symm el
    have ef4 := bt4 _ _ nsp.symm ef
    refine ⟨lf, _, _, j, .str left[j], rfl, rfl, el4, by omega, by omega, by rw [hsl2, PySem.seqIndex_of (by omega) (by omega), Int.toNat_natCast], by rw [sv, List.getElem?_map, List.getElem?_eq_getElem hj]; rfl, ?_⟩
    have hee : (sv left).eraseIdx j = sv (left.eraseIdx j) := sv_erase _ _
    refine ⟨p, _, _, rfl, rfl, (upd_ne npl).trans ef4, small1000 (by rw [sv, List.length_map]; omega), ?_⟩
    refine ⟨some (.int (0 + (i : Nat))), left.eraseIdx j, found ++ [left[j]], rfl, ?_, ?_, ?_, ?_, ?_, ?_⟩
    · rw [upd_ne npl.symm, upd_same, hee]
    · rw [upd_same, sv, sv, List.map_append]; rfl
    · obtain ⟨a, b, e, r⟩ := hs4
      exact ⟨a, b, by rw [upd_ne nsp, upd_ne nsl]; exact e, r⟩
    · intro b u hb e
      have nb1 : b ≠ p := fun z => by rw [z, hpH] at e; cases e
      have nb2 : b ≠ lf := fun z => by rw [z, hlf] at e; cases e
      rw [upd_ne nb1, upd_ne nb2]
      exact bt4 _ _ hb (bt _ _ hb e)
    · refine List.Perm.trans ?_ pm
      rw [List.append_assoc]
      exact List.Perm.append_left _ (erase_perm left j hj)
    · rw [List.length_append, hfl]; rfl
  · rintro σ Hc ⟨x, left, found, rfl, el, ef, hsc, bt, pm, hfl⟩
    have hlen := pm.length_eq
    rw [List.length_append] at hlen
    have : left = [] := List.length_eq_zero_iff.mp (by omega)
    subst this
    rw [List.append_nil] at pm
    exact ⟨_, rfl, q _ _ _ pm hpH bt hsc ef⟩
end
end Fl
namespace Fl
open PySem PySem.Spec L2
open PyProof.Rows (envOfC)
theorem cut_to (xs : List V) (m : Nat) : cutV xs none (some (m : Int)) = xs.take m := by
  unfold cutV
  have h0 : HT.sIx xs.length 0 none = 0 := rfl
  rw [h0, List.drop_zero, Nat.sub_zero]
  have h1 : HT.sIx xs.length xs.length (some (m : Int)) = min m xs.length := HT.sIx_nat _ _ _
  rw [h1]
  by_cases h : m ≤ xs.length
  · rw [Nat.min_eq_left h]
  · rw [Nat.min_eq_right (by omega), List.take_of_length_le (Nat.le_refl _), List.take_of_length_le (by omega)]
def spLP (bound : Nat) : Sp := fun vs H Q _ => ∃ s, ∃ m : Nat, vs = [.ref s, .int m] ∧ StAt H s ∧ 1 ≤ m ∧ m ≤ bound ∧ ∀ ys p H', ys.Nodup → Nms ys → 1 ≤ ys.length → ys.length ≤ m → H p = none → But s H H' → StAt H' s → H' p = some (.lst (sv ys)) → Q (.ref p) H'
theorem pool_take {pool ys : List Str} {m : Nat} (hn : pool.Nodup) (hm : Nms pool) (pm : ys.Perm pool) (h0 : 1 ≤ m) (h1 : 1 ≤ pool.length) : (ys.take m).Nodup ∧ Nms (ys.take m) ∧ 1 ≤ (ys.take m).length ∧ (ys.take m).length ≤ m :=
  ⟨(pm.nodup_iff.mpr hn).sublist (List.take_sublist _ _), fun x hx => hm x (pm.mem_iff.mp (List.mem_of_mem_take hx)), by rw [List.length_take, pm.length_eq]; omega, List.length_take_le _ _⟩
theorem StAt.s {H H' : Hp} {s : Addr} (h : StAt H s) (e : Same H H') : StAt H' s := let ⟨a, b, z, r⟩ := h; ⟨a, b, e _ _ z, r⟩
theorem StAt.ne {H : Hp} {s p : Addr} (h : StAt H s) (e : H p = none) : p ≠ s := fun z => by
  obtain ⟨a, b, q, _⟩ := h
  rw [z, q] at e; cases e
theorem but_none {s p : Addr} {H H' : Hp} (b : But s H H') (h : StAt H' s) (e : H' p = none) : H p = none := by
  cases z : H p with
  | none => rfl
  | some u =>
    rw [b p u (h.ne e) z] at e; cases e
theorem same_none {p : Addr} {H H' : Hp} (b : Same H H') (e : H' p = none) : H p = none := by
  cases z : H p with
  | none => rfl
  | some u => rw [b p u z] at e; cases e
theorem sv_take (l : List Str) (n : Nat) : (sv l).take n = sv (l.take n) := by rw [sv, sv, List.map_take]
section
variable {P : Program} {w : World} {K : PySem.W.Frag} {mg : Str → Option Value} {base : Heap}
theorem ok_l_players (T : TX K mg) : Cal P w K mg base 3 "_law_players" ["_law_stream_here", "_law_most"] (spLP 5) := by
  have F_l_draw := ok_l_draw (P := P) (w := w) (base := base) T
  have F_l_shuffled := ok_l_shuffled (P := P) (w := w) (base := base) T
  refine cal_mk (fok_mk T.f_l_players sc_l_players (fun _ _ _ _ _ _ us hl => match us, hl with | [_, _], _ => rfl) (fun vs H Q E h => ?_) (fun cdv A outer s H vs Q E hr h => ?_)) T.g_l_players (let ⟨_, F⟩ := T.f_l_players; F.kp)
  · obtain ⟨s, n, rfl, _⟩ := h; rfl
  obtain ⟨st, m, rfl, hs, m0, m1, q⟩ := h
  refine ⟨_, (pss_one (ps_ret (pe_slice (k_slL K (by rfl)) (pe_c F_l_shuffled (hr.mono (by decide)) (pa_cons (pv 0) (pa_cons (pe_lst (pa_cons pe_str (pa_cons pe_str (pa_cons pe_str (pa_cons pe_str (pa_cons pe_str pa_nil)))))) pa_nil))) po_none (po_some (pe_op op_add pe_int (pe_c F_l_draw (hr.mono (by decide)) (pa_cons (pv 0) (pa_cons (pv 1) pa_nil)))))))), ?_⟩
  refine ⟨_, rfl, sz_line (by decide : 5 ≤ 1000), fun l hl => ?_⟩
  have s1 := same_new hl (.lst [V.str "ann", V.str "x", V.str "zoe", V.str "c", V.str "carol"])
  refine ⟨st, l, ["ann", "x", "zoe", "c", "carol"], rfl, let ⟨a, b, e, r⟩ := hs; ⟨a, b, s1 _ _ e, r⟩, SqL.of upd_same, by decide, fun ys p H2 pm hp bt hs2 hp2 => ?_⟩
  refine ⟨_, rfl, _, rfl, st, m, rfl, hs2, by omega, by omega, fun r H3 r0 r1 bt3 hs3 => ⟨1, r, rfl, rfl, _, rfl, ?_⟩⟩
  obtain ⟨j, rfl⟩ := Int.eq_ofNat_of_zero_le r0
  have nps : p ≠ st := (hs.s s1).ne hp
  refine ⟨p, _, rfl, SqL.of (bt3 _ _ nps hp2), fun p2 hp2' => ?_⟩
  rw [show (1 + (j : Int)) = ((1 + j : Nat) : Int) by omega, cut_to, sv_take]
  obtain ⟨t1, t2, t3, t4⟩ := pool_take (m := 1 + j) (by decide) (by unfold Nms; decide +kernel) pm (by omega) (by decide)
  have bt := ((But.of s1).trans bt).trans bt3
  refine q _ p2 _ t1 t2 t3 (by omega) (but_none bt hs3 hp2') (bt.trans (.of (same_new hp2' _))) (hs3.s (same_new hp2' _)) upd_same
theorem ok_l_names (T : TX K mg) : Cal P w K mg base 3 "_law_names" ["_law_stream_here", "_law_many"] (spLP 8) := by
  have F_l_shuffled := ok_l_shuffled (P := P) (w := w) (base := base) T
  refine cal_mk (fok_mk T.f_l_names sc_l_names (fun _ _ _ _ _ _ us hl => match us, hl with | [_, _], _ => rfl) (fun vs H Q E h => ?_) (fun cdv A outer s H vs Q E hr h => ?_)) T.g_l_names (let ⟨_, F⟩ := T.f_l_names; F.kp)
  · obtain ⟨s, n, rfl, _⟩ := h; rfl
  obtain ⟨st, m, rfl, hs, m0, m1, q⟩ := h
  refine ⟨_, (pss_one (ps_ret (pe_slice (k_slL K (by rfl)) (pe_c F_l_shuffled (hr.mono (by decide)) (pa_cons (pv 0) (pa_cons (pe_lst (pa_cons pe_str (pa_cons pe_str (pa_cons pe_str (pa_cons pe_str (pa_cons pe_str (pa_cons pe_str (pa_cons pe_str (pa_cons pe_str pa_nil))))))))) pa_nil))) po_none (po_some (pv 1))))), ?_⟩
  refine ⟨_, rfl, sz_line (by decide : 8 ≤ 1000), fun l hl => ?_⟩
  have s1 := same_new hl (.lst [V.str "a", V.str "ab", V.str "c", V.str "dd", V.str "e", V.str "x", V.str "yes", V.str "zzzzzzzz"])
  refine ⟨st, l, ["a", "ab", "c", "dd", "e", "x", "yes", "zzzzzzzz"], rfl, hs.s s1, SqL.of upd_same, by decide, fun ys p H2 pm hp bt hs2 hp2 => ?_⟩
  refine ⟨_, rfl, m, rfl, p, _, rfl, SqL.of hp2, fun p2 hp2' => ?_⟩
  rw [cut_to, sv_take]
  obtain ⟨t1, t2, t3, t4⟩ := pool_take (m := m) (by decide) (by unfold Nms; decide +kernel) pm (by omega) (by decide)
  have bt := (But.of s1).trans bt
  refine q _ p2 _ t1 t2 t3 (by omega) (but_none bt hs2 hp2') (bt.trans (.of (same_new hp2' _))) (hs2.s (same_new hp2' _)) upd_same
end
end Fl
namespace Fl
open PySem PySem.Spec L2
open PyProof.Rows (envOfC)
/-! ### the law's own rankings: lists of names by player -/
def LsOf (H : Hp) (rs : Rks) (kvs : List (Key × V)) : Prop := kvs.length = rs.length ∧ ∀ (i : Nat) (q : Str × List Str), rs[i]? = some q → ∃ a, kvs[i]? = some (Sum.inr q.1, .ref a) ∧ H a = some (.lst (sv q.2))
def OwnAt (H : Hp) (o : Addr) (rs : Rks) : Prop := ∃ d t kvs, H o = some (.lst [.ref d, .ref t]) ∧ H d = some (.dK kvs) ∧ LsOf H rs kvs
theorem LsOf.s {H H' : Hp} {rs : Rks} {kvs : List (Key × V)} (h : LsOf H rs kvs) (e : Same H H') : LsOf H' rs kvs :=
  ⟨h.1, fun i q hq => let ⟨a, h1, h2⟩ := h.2 i q hq; ⟨a, h1, e _ _ h2⟩⟩
theorem OwnAt.s {H H' : Hp} {o : Addr} {rs : Rks} (h : OwnAt H o rs) (e : Same H H') : OwnAt H' o rs :=
  let ⟨d, t, kvs, h1, h2, h3⟩ := h; ⟨d, t, kvs, e _ _ h1, e _ _ h2, h3.s e⟩
theorem sv_ne_ints {l : List Str} {a b : Int} : (HO.lst (sv l)) ≠ .lst [.int a, .int b] := fun e => by
  injection e with e
  cases l with
  | nil => cases e
  | cons x r => injection e with e _; cases e
theorem OwnAt.but {H H' : Hp} {o s : Addr} {rs : Rks} (h : OwnAt H o rs) (hs : StAt H s) (e : But s H H') : OwnAt H' o rs := by
  obtain ⟨d, t, kvs, h1, h2, h3⟩ := h
  obtain ⟨a, b, hs, _⟩ := hs
  refine ⟨d, t, kvs, e _ _ (ne_of h1 hs (fun z => by cases z)) h1, e _ _ (ne_of h2 hs (fun z => by cases z)) h2, h3.1, fun i q hq => ?_⟩
  obtain ⟨x, g1, g2⟩ := h3.2 i q hq
  exact ⟨x, g1, e _ _ (ne_of g2 hs sv_ne_ints) g2⟩
def spLWorst (K : PySem.W.Frag) : Sp := fun vs H Q _ => ∃ a b o left z, vs = [.ref a, .ref b] ∧ SqL K H a (sv o) ∧ SqL K H b (sv left) ∧ o.length ≤ 30 ∧ (o.filter fun x => decide (x ∈ left)).getLast? = some z ∧ Ret H Q fun v _ => v = .str z
def spLIsB (K : PySem.W.Frag) : Sp := fun vs H Q _ => ∃ a x b o ms, vs = [.ref a, .str x, .ref b] ∧ SqL K H a (sv o) ∧ SqL K H b (sv ms) ∧ o.length ≤ 30 ∧ ms.length ≤ 30 ∧ x ∈ o ∧ (∀ m ∈ ms, m ∈ o) ∧ Nms ms ∧ Ret H Q fun v _ => ∃ b, v = .bl b
def spLAll (K : PySem.W.Frag) : Sp := fun vs H Q _ => ∃ o rs q, vs = [.ref o] ∧ OwnAt H o rs ∧ rs[0]? = some q ∧ q.2.length ≤ 30 ∧ q.2.Nodup ∧ RetL H Q (sv (srt q.2))
theorem at_last {α : Type} {xs : List α} {z : α} (h : xs.getLast? = some z) : atI xs (-1) = some z := by
  have hne : xs ≠ [] := fun e => by rw [e] at h; cases h
  have hl : 0 < xs.length := List.length_pos_iff.mpr hne
  unfold atI ixN
  rw [if_neg (by decide), if_pos (by omega)]
  show xs[((-1 : Int) + (xs.length : Int)).toNat]? = some z
  rw [show ((-1 : Int) + (xs.length : Int)).toNat = xs.length - 1 by omega, ← List.getLast?_eq_getElem?]
  exact h
section
variable {P : Program} {w : World} {K : PySem.W.Frag} {mg : Str → Option Value} {base : Heap}
theorem ok_l_worst (T : TX K mg) : Cal P w K mg base 1 "_law_worst" ["_law_ranking", "_law_left"] (spLWorst K) := by
  refine cal_mk (fok_mk T.f_l_worst sc_l_worst (fun _ _ _ _ _ _ us hl => match us, hl with | [_, _], _ => rfl) (fun vs H Q E h => ?_) (fun cdv A outer s H vs Q E hr h => ?_)) T.g_l_worst (let ⟨_, F⟩ := T.f_l_worst; F.kp)
  · obtain ⟨a, b, o, left, z, rfl, _⟩ := h; rfl
  obtain ⟨a, b, o, left, z, rfl, ha, hb, ho, hz, k⟩ := h
  refine ⟨_, (pss_one (ps_ret (pe_ix (k_ixL K (by rfl)) (pe_lc (own := [("_law_name_here", 2)]) (g := gName 2) rfl sc_l_worst.nd (k_pil K (by rfl) (pv 0)) (blkOk_by (N := ["_law_ranking", "_law_left", "_law_name_here"]) (sc := defScope s_l_worst) (by decide +kernel)) (fun _ _ _ _ _ => by exact (pg_name (i := 2) sc_l_worst.nd rfl (Or.inl rfl))) (fun _ _ _ _ _ => by exact (pts_one (pt_cmpR (k_in K (by rfl)) (pv 2) (pv 1) (by rfl)))) (fun _ _ _ _ _ => by exact ((pv 2)))) (pe_un un_neg pe_int) (fun _ _ => rfl)))), ?_⟩
  refine ⟨_, rfl, a, rfl, ⟨_, ha⟩, lc_g walk_list (fun i acc _ => acc = sv ((o.take i).filter fun x => decide (x ∈ left))) (by rw [List.length_map]; omega) (fun H1 s1 => (Sm.of s1).seq ha) (fun _ _ => rfl) (fun _ _ _ _ r _ => r)
    (fun i acc _ e => by rw [e, List.length_map]; exact Nat.le_trans (List.length_filter_le _ _) (by rw [List.length_take]; exact Nat.min_le_left _ _)) ?_ ?_⟩
  · rintro i acc y H1 H2 Qy Qn hi s1 rfl ⟨rfl, hc⟩ ky kn
    obtain ⟨x, hx1, rfl⟩ := get_map hc
    refine ⟨rfl, ?_⟩
    refine ⟨_, rfl, _, rfl, b, _, rfl, .inl ((Sm.of s1).seq hb), rfl, flat_sv left, _, rfl, ?_⟩
    rw [if_neg Bool.false_ne_true, inV_strs]
    by_cases hx : x ∈ left
    · rw [decide_eq_true hx]
      refine itT rfl ⟨_, rfl, ky _ _ (Same.refl _) ?_⟩
      rw [take_snoc hx1, List.filter_append]
      simp [hx]
    · rw [decide_eq_false hx]
      refine itF rfl (kn _ (Same.refl _) ?_)
      rw [take_snoc hx1, List.filter_append]
      simp [hx]
  · intro D acc H1 hD s1 hacc r
    rw [List.length_map, List.take_length] at r
    subst r
    refine ⟨1, rfl, D, _, -1, .str z, rfl, rfl, SqL.of hacc, ?_, k _ _ s1 rfl⟩
    refine at_last ?_
    rw [sv, List.getLast?_map, hz]; rfl
theorem ok_l_all (T : TX K mg) : Cal P w K mg base 1 "_law_all" ["_law_own_here"] (spLAll K) := by
  refine cal_mk (fok_mk T.f_l_all sc_l_all (fun _ _ _ _ _ _ us hl => match us, hl with | [_], _ => rfl) (fun vs H Q E h => ?_) (fun cdv A outer s H vs Q E hr h => ?_)) T.g_l_all (let ⟨_, F⟩ := T.f_l_all; F.kp)
  · obtain ⟨o, rs, q, rfl, _⟩ := h; rfl
  obtain ⟨o, rs, q, rfl, ⟨d, t, kvs, h1, h2, h3⟩, hq, hql, hqn, k⟩ := h
  obtain ⟨a, g1, g2⟩ := h3.2 0 q hq
  refine ⟨_, (pss_one (ps_ret (pe_callB (k_sortedS K (by rfl)) (by rfl) T.b_sorted (by decide +kernel) (pa_cons (pe_ix (k_ixL K (by rfl)) (pe_lvals rfl T.b_list (pe_ix (k_ixL K (by rfl)) (pv 0) pe_int (fun _ _ => rfl))) pe_int (fun _ _ => rfl)) pa_nil)))), ?_⟩
  refine ⟨_, rfl, o, _, 0, .ref d, rfl, rfl, SqL.of h1, rfl, d, _, rfl, .inl h2, fun l hl => ?_⟩
  have s1 := same_new hl (.lst (kvs.map (·.2)))
  refine ⟨l, _, 0, .ref a, rfl, rfl, SqL.of upd_same, by rw [at0, List.getElem?_map, g1]; rfl, ?_⟩
  refine ⟨a, q.2, rfl, SqL.of (s1 _ _ g2), by omega, fun ys p hp hs hn => ?_⟩
  have e := sorted_is hp hs hqn
  subst e
  exact k _ _ (same_none s1 hn) (s1.trans (same_new hn _)) upd_same
theorem ok_l_is_below (T : TX K mg) : Cal P w K mg base 1 "_law_is_below" ["_law_ranking", "_law_name_here", "_law_members"] (spLIsB K) := by
  refine cal_mk (fok_mk T.f_l_is_below sc_l_is_below (fun _ _ _ _ _ _ us hl => match us, hl with | [_, _, _], _ => rfl) (fun vs H Q E h => ?_) (fun cdv A outer s H vs Q E hr h => ?_)) T.g_l_is_below (let ⟨_, F⟩ := T.f_l_is_below; F.kp)
  · obtain ⟨a, x, b, o, ms, rfl, _⟩ := h; rfl
  obtain ⟨a, x, b, o, ms, rfl, ha, hb, ho, hm, hx, hsub, hmn, k⟩ := h
  refine ⟨_, (pss_one (ps_ret (pe_cmpR (k_eqD K (by rfl) hr.units) (pe_lc (own := [("_law_member", 3)]) (g := gName 3) rfl sc_l_is_below.nd (k_pil K (by rfl) (pv 2)) (blkOk_by (N := ["_law_ranking", "_law_name_here", "_law_members", "_law_member"]) (sc := defScope s_l_is_below) (by decide +kernel)) (fun _ _ _ _ _ => by exact (pg_name (i := 3) sc_l_is_below.nd rfl (Or.inl rfl))) (fun _ _ _ _ _ => by exact (pts_one (pt_cmpR op_gt (k_bm K (by rfl) PySem.F.plainAttrs_list PySem.F.slot_list_index PySem.F.type_list_index (k_index K (by rfl)) (pv 0) (pa_cons (pv 3) pa_nil)) (k_bm K (by rfl) PySem.F.plainAttrs_list PySem.F.slot_list_index PySem.F.type_list_index (k_index K (by rfl)) (pv 0) (pa_cons (pv 1) pa_nil)) (nomark _)))) (fun _ _ _ _ _ => by exact ((pv 3)))) (pe_lst pa_nil) (nomark _)))), ?_⟩
  have hlow : ∀ {z : Str}, ∀ (m : Nat) (z' : V), m < o.idxOf z → (sv o)[m]? = some z' → eqV z' (.str z) = false := fun {z} m z' hm hz' => by
    rw [List.getElem?_map] at hz'
    cases e : o[m]? with
    | none => rw [e] at hz'; cases hz'
    | some w =>
      rw [e] at hz'
      cases hz'
      have hne : w ≠ z := fun q => by
        subst q
        have := List.not_of_lt_findIdx (xs := o) (p := (· == w)) (show m < o.findIdx (· == w) from hm)
        rw [(List.getElem?_eq_some_iff.mp e).2] at this
        simp at this
      simp [eqV, hne]
  have hget : ∀ {z : Str}, z ∈ o → (sv o)[o.idxOf z]? = some (.str z) := fun {z} hz => by rw [List.getElem?_map, get_idx hz]; rfl
  refine ⟨_, rfl, b, rfl, ⟨_, hb⟩, lc_g walk_list (fun i acc _ => acc = sv ((ms.take i).filter fun m => decide (o.idxOf x < o.idxOf m))) (by rw [List.length_map]; omega) (fun H1 s1 => (Sm.of s1).seq hb) (fun _ _ => rfl) (fun _ _ _ _ r _ => r)
    (fun i acc _ e => by rw [e, List.length_map]; exact Nat.le_trans (List.length_filter_le _ _) (by rw [List.length_take]; exact Nat.min_le_left _ _)) ?_ ?_⟩
  · rintro i acc y H1 H2 Qy Qn hi s1 rfl ⟨rfl, hc⟩ ky kn
    obtain ⟨m, hm1, rfl⟩ := get_map hc
    have hmo := hsub m (List.mem_of_getElem? hm1)
    refine ⟨rfl, ?_⟩
    refine ⟨_, rfl, .inl ⟨rfl, _, (Sm.of s1).seq ha⟩, _, rfl, a, _, .str m, o.idxOf m, .str m, rfl, rfl, (Sm.of s1).seq ha, rfl, flat_sv o, hget hmo, by simp [eqV], hlow, ?_⟩
    refine ⟨_, rfl, .inl ⟨rfl, _, (Sm.of s1).seq ha⟩, _, rfl, a, _, .str x, o.idxOf x, .str x, rfl, rfl, (Sm.of s1).seq ha, rfl, flat_sv o, hget hx, by simp [eqV], hlow, _, _, rfl, rfl, _, rfl, ?_⟩
    by_cases hlt : o.idxOf x < o.idxOf m
    · refine itT (by simpa using hlt) ⟨_, rfl, ky _ _ (Same.refl _) ?_⟩
      rw [take_snoc hm1, List.filter_append]
      simp [hlt]
    · refine itF (by simpa using hlt) (kn _ (Same.refl _) ?_)
      rw [take_snoc hm1, List.filter_append]
      simp [hlt]
  · intro D acc H1 hD s1 hacc r
    rw [List.length_map, List.take_length] at r
    subst r
    refine ⟨sz_line (by decide : 0 ≤ 1000), fun l hl => ?_⟩
    have s2 := same_new hl (.lst [])
    refine ⟨_, _, dp_strs (SqL.of (s2 _ _ hacc)), dp_strs (xs := []) (SqL.of upd_same), shaped_strs fun z hz => hmn z (List.mem_filter.mp hz).1, shaped_strs fun z hz => (by simp at hz), ?_⟩
    exact k _ _ (s1.trans s2) ⟨_, rfl⟩
end
end Fl
namespace Fl
open PySem PySem.Spec L2
open PyProof.Rows (envOfC)
/-! ### the law's pass -/
def passL (rs : Rks) (left : List Str) (ps : List Str) : List Str := ps.foldl (later rs) left
def spLPass (K : PySem.W.Frag) : Sp := fun vs H Q _ => ∃ o l t rs A left ps, vs = [.ref o, .ref l, .ref t] ∧ OwnAt H o rs ∧ GK rs A ∧ SqL K H l (sv left) ∧ SqL K H t (sv ps) ∧ left.Nodup ∧ left.length ≤ 30 ∧ (∀ x ∈ left, x ∈ A) ∧ ps.length ≤ left.length ∧ (∀ p ∈ ps, p ∈ rs.map (·.1)) ∧
  RetL H Q (sv (srt (passL rs left ps.reverse)))
theorem LsOf.keys {H : Hp} {rs : Rks} {kvs : List (Key × V)} (h : LsOf H rs kvs) : kvs.map (·.1) = (rs.map (·.1)).map Sum.inr := by
  refine List.ext_getElem? fun i => ?_
  rw [List.getElem?_map, List.map_map, List.getElem?_map]
  cases e : rs[i]? with
  | none =>
    have : kvs[i]? = none := by
      rw [List.getElem?_eq_none_iff] at e ⊢
      have := h.1; omega
    rw [this]; rfl
  | some q =>
    obtain ⟨a, h1, _⟩ := h.2 i q e
    rw [h1]; rfl
theorem LsOf.val {H : Hp} {rs : Rks} {kvs : List (Key × V)} (h : LsOf H rs kvs) (nd : (rs.map (·.1)).Nodup) {q : Str × List Str} (hq : q ∈ rs) : ∃ a, valV kvs (Sum.inr q.1) = some (.ref a) ∧ H a = some (.lst (sv q.2)) := by
  obtain ⟨i, hi⟩ := List.mem_iff_getElem?.mp hq
  obtain ⟨a, h1, h2⟩ := h.2 i q hi
  exact ⟨a, valV_at (by rw [h.keys]; exact inr_nodup nd) h1, h2⟩
theorem later_length {rs : Rks} {left : List Str} {p : Str} (hn : left.Nodup) (hm : wst rs left p ∈ left) : (later rs left p).length + 1 = left.length := by
  have e : later rs left p = left.erase (wst rs left p) := by
    rw [hn.erase_eq_filter]
    unfold later
    refine List.filter_congr fun x _ => ?_
    by_cases h : x = wst rs left p <;> simp [h]
  rw [e, List.length_erase_of_mem hm]
  have := List.length_pos_of_mem hm
  omega
section
variable {P : Program} {w : World} {K : PySem.W.Frag} {mg : Str → Option Value} {base : Heap}
theorem ok_l_pass (T : TX K mg) : Cal P w K mg base 2 "_law_pass" ["_law_own_here", "_law_left", "_law_turns"] (spLPass K) := by
  have F_l_worst := ok_l_worst (P := P) (w := w) (base := base) T
  refine cal_mk (fok_mk T.f_l_pass sc_l_pass (fun _ _ _ _ _ _ us hl => match us, hl with | [_, _, _], _ => rfl) (fun vs H Q E h => ?_) (fun cdv A outer s H vs Q E hr h => ?_)) T.g_l_pass (let ⟨_, F⟩ := T.f_l_pass; F.kp)
  · obtain ⟨o, l, t, rs, A, left, ps, rfl, _⟩ := h; rfl
  obtain ⟨o, l, t, rs, A, left, ps, rfl, ho, g, hl, ht, hn, hlen, la, hpl, hps, k⟩ := h
  refine ⟨_, (pss_cons (ps_for PassesOwn.never rfl (k_pil K (by rfl) (k_revL K (by rfl) (pv 2))) (pg_name (i := 3) sc_l_pass.nd rfl (Or.inl rfl)) (pss_cons (ps_set (i := 4) sc_l_pass.nd rfl (Or.inr rfl) (pe_c F_l_worst (hr.mono (by decide)) (pa_cons (pe_dget (hu_of hr) (pe_ix (k_ixL K (by rfl)) (pv 0) pe_int (fun _ _ => rfl)) (pv 3) (fun _ _ => rfl)) (pa_cons (pv 1) pa_nil))))
      (pss_one (ps_setLc (i := 1) (own := [("_law_name_here", 5)]) (g := gName 5) rfl sc_l_pass.nd rfl rfl (sw_true rfl rfl rfl (by decide +kernel)) (k_pil K (by rfl) (pv 1)) (blkOk_by (N := ["_law_own_here", "_law_left", "_law_turns", "_law_player", "_law_worst_here", "_law_name_here"]) (sc := defScope s_l_pass) (by decide +kernel)) (fun _ _ _ _ _ => by exact (pg_name (i := 5) sc_l_pass.nd rfl (Or.inl rfl))) (fun _ _ _ _ _ => by exact (pts_one (pt_cmpR op_ne (pv 5) (pv 4) (nomark _)))) (fun _ _ _ _ _ => by exact ((pv 5)))))))
      (pss_one (ps_ret (pe_callB (k_sortedS K (by rfl)) (by rfl) T.b_sorted (by decide +kernel) (pa_cons (pv 1) pa_nil))))), ?_⟩
  refine ⟨_, rfl, t, _, rfl, ht, fun l2 hl2 => ⟨l2, rfl, ⟨_, SqL.of upd_same⟩, ?_⟩⟩
  have s1 := same_new hl2 (.lst (sv ps).reverse)
  have er : (sv ps).reverse = sv ps.reverse := by rw [sv, sv, List.map_reverse]
  have e2 : (upd H l2 (.lst (sv ps).reverse)) l2 = some (.lst (sv ps.reverse)) := by rw [upd_same, er]
  rw [er]
  rw [er] at s1 e2
  generalize upd H l2 (.lst (sv ps.reverse)) = H1 at s1 e2
  refine for_it walk_list (fun i σ Hc => ∃ x3 x4 lp cur, σ = [some (.ref o), some (.ref lp), some (.ref t), x3, x4, none] ∧ Same H1 Hc ∧ SqL K Hc lp (sv cur) ∧ cur = passL rs left (ps.reverse.take i) ∧ cur.Nodup ∧ (∀ x ∈ cur, x ∈ A) ∧ cur.length + i = left.length) ⟨none, none, l, left, rfl, Same.refl _, (Sm.of s1).seq hl, rfl, hn, la, rfl⟩ (fun i σ Hc _ h => by
    obtain ⟨_, _, _, _, _, sc, _⟩ := h
    exact (Sm.of sc).seq (SqL.of e2)) ?_ ?_
  · rintro i y σ Hc H3 hi ⟨x3, x4, lp, cur, rfl, sc, hcur, rfl, hcn, hca, hcl⟩ ⟨rfl, hc⟩
    obtain ⟨pl, hp1, rfl⟩ := get_map hc
    have hi' : i < ps.length := by rw [List.length_map, List.length_reverse] at hi; exact hi
    have hpk := hps pl (List.mem_reverse.mp (List.mem_of_getElem? hp1))
    generalize hcu : passL rs left (ps.reverse.take i) = cur at hcur hcn hca hcl
    have hne : cur ≠ [] := fun e => by rw [e] at hcl; simp at hcl; omega
    obtain ⟨w1, w2, w3⟩ := wst_is g hca hne hpk
    obtain ⟨q, hq, e⟩ := List.mem_map.mp hpk
    obtain ⟨d, td, kvs, h1, h2, h3⟩ := (ho.s s1).s sc
    obtain ⟨a, hv, ha⟩ := h3.val g.nd hq
    rw [show q.1 = pl from e] at hv
    have hrk : rkOf rs pl = q.2 := by rw [← e]; exact rkOf_mem g.nd hq
    rw [hrk] at w1
    refine ⟨_, rfl, o, _, 0, .ref d, rfl, rfl, SqL.of h1, rfl, _, rfl, d, _, rfl, .inl ⟨kvs, Sum.inr pl, .inl h2, rfl, hv.symm⟩, _, rfl, a, lp, q.2, cur, _, rfl, SqL.of ha, hcur, (g.gr q hq).1.2.2, w1, fun v H4 s4 ev => ?_⟩
    subst ev
    have hcur4 := (Sm.of s4).seq hcur
    refine ⟨_, rfl, lp, rfl, ⟨_, hcur4⟩, lc_g walk_list (fun i acc _ => acc = sv ((cur.take i).filter fun x => !decide (x ∈ [wst rs cur pl]))) (by rw [List.length_map]; omega) (fun H1 s1 => (Sm.of s1).seq hcur4) (fun _ _ => rfl) (fun _ _ _ _ r _ => r)
      (fun i acc _ e => by rw [e, List.length_map]; exact Nat.le_trans (List.length_filter_le _ _) (by rw [List.length_take]; exact Nat.min_le_left _ _)) ?_ ?_⟩
    · rintro i acc y H5 H6 Qy Qn hi s5 rfl ⟨rfl, hc⟩ ky kn
      obtain ⟨x, hx1, rfl⟩ := get_map hc
      refine ⟨rfl, _, rfl, _, rfl, by simp [scal], _, rfl, ?_⟩
      by_cases hx : x = wst rs cur pl
      · refine itF (by simp [hx]) (kn _ (Same.refl _) ?_)
        rw [take_snoc hx1, List.filter_append]
        simp [hx]
      · refine itT (by simp [hx]) ⟨_, rfl, ky _ _ (Same.refl _) ?_⟩
        rw [take_snoc hx1, List.filter_append]
        simp [hx]
    · intro D acc H5 hD s5 hacc r
      rw [List.length_map, List.take_length] at r
      subst r
      have hlat := later_length hcn w2
      refine ⟨_, _, D, later rs cur pl, rfl, (sc.trans s4).trans s5, SqL.of hacc, ?_, hcn.filter _, fun x hx => hca x (List.mem_filter.mp hx).1, by omega⟩
      rw [take_snoc hp1, passL, List.foldl_append, ← hcu]
      rfl
  · rintro σ Hc ⟨x3, x4, lp, cur, rfl, sc, hcur, rfl, hcn, hca, hcl⟩
    rw [List.length_map, List.take_length] at hcur hcn hca hcl
    refine ⟨_, rfl, lp, passL rs left ps.reverse, rfl, hcur, by omega, fun ys p hp hs hnp => ?_⟩
    have e := sorted_is hp hs hcn
    subst e
    exact k _ _ (same_none (s1.trans sc) hnp) ((s1.trans sc).trans (same_new hnp _)) upd_same
end
end Fl
namespace Fl
open PySem PySem.Spec L2
open PyProof.Rows (envOfC)
/-- the law's below: some list of players -/
def spLBelow (K : PySem.W.Frag) : Sp := fun vs H Q _ => ∃ o x b rs A ms, vs = [.ref o, .str x, .ref b] ∧ OwnAt H o rs ∧ GK rs A ∧ SqL K H b (sv ms) ∧ ms.length ≤ 30 ∧ x ∈ A ∧ (∀ m ∈ ms, m ∈ A) ∧ Nms ms ∧
  ∀ p H' ys, H p = none → Same H H' → (∀ y ∈ ys, y ∈ rs.map (·.1)) → ys.length ≤ rs.length → H' p = some (.lst (sv ys)) → Q (.ref p) H'
section
variable {P : Program} {w : World} {K : PySem.W.Frag} {mg : Str → Option Value} {base : Heap}
theorem ok_l_below (T : TX K mg) : Cal P w K mg base 2 "_law_below" ["_law_own_here", "_law_name_here", "_law_members"] (spLBelow K) := by
  have F_l_is_below := ok_l_is_below (P := P) (w := w) (base := base) T
  refine cal_mk (fok_mk T.f_l_below sc_l_below (fun _ _ _ _ _ _ us hl => match us, hl with | [_, _, _], _ => rfl) (fun vs H Q E h => ?_) (fun cdv A outer s H vs Q E hr h => ?_)) T.g_l_below (let ⟨_, F⟩ := T.f_l_below; F.kp)
  · obtain ⟨o, x, b, rs, A, ms, rfl, _⟩ := h; rfl
  obtain ⟨o, x, b, rs, A, ms, rfl, ho, g, hb, hm, hx, hsub, hmn, k⟩ := h
  refine ⟨_, (pss_one (ps_ret (pe_lc (own := [("_law_player", 3)]) (g := gName 3) rfl sc_l_below.nd (k_pil K (by rfl) (pe_callB (call_sortedD rfl) (by rfl) T.b_sorted (by decide +kernel) (pa_cons (pe_ix (k_ixL K (by rfl)) (pv 0) pe_int (fun _ _ => rfl)) pa_nil))) (blkOk_by (N := ["_law_own_here", "_law_name_here", "_law_members", "_law_player"]) (sc := defScope s_l_below) (by decide +kernel)) (fun _ _ _ _ _ => by exact (pg_name (i := 3) sc_l_below.nd rfl (Or.inl rfl))) (fun _ _ _ _ _ => by exact (pts_one (pt_val (pe_c F_l_is_below (hr.mono (by decide)) (pa_cons (pe_dget (hu_of hr) (pe_ix (k_ixL K (by rfl)) (pv 0) pe_int (fun _ _ => rfl)) (pv 3) (fun _ _ => rfl)) (pa_cons (pv 1) (pa_cons (pv 2) pa_nil))))))) (fun _ _ _ _ _ => by exact ((pv 3)))))), ?_⟩
  obtain ⟨d, td, kvs, h1, h2, h3⟩ := id ho
  have hrl : rs.length ≤ 30 := g.len
  refine ⟨_, rfl, o, _, 0, .ref d, rfl, rfl, SqL.of h1, rfl, d, kvs, rs.map (·.1), rfl, .inl h2, h3.keys, by rw [List.length_map]; omega, fun ys p hp hs hn => ?_⟩
  have s1 := same_new hn (.lst (sv ys))
  have ey : (upd H p (.lst (sv ys))) p = some (.lst (sv ys)) := upd_same
  have eyl : ys.length = rs.length := by rw [hp.length_eq, List.length_map]
  show _
  change (upd H p (.lst (List.map V.str ys))) p = _ at ey
  generalize upd H p (.lst (List.map V.str ys)) = H1 at s1 ey
  refine ⟨p, rfl, ⟨_, SqL.of ey⟩, lc_g walk_list (fun i acc _ => ∃ l : List Str, acc = sv l ∧ l.length ≤ i ∧ ∀ y ∈ l, y ∈ rs.map (fun q : Str × List Str => q.1)) (by rw [List.length_map]; omega) (fun H2 s2 => (Sm.of s2).seq (SqL.of ey)) (fun _ _ => ⟨[], rfl, Nat.le_refl _, fun y hy => by simp at hy⟩) (fun _ _ _ _ r _ => r)
    (fun i acc _ ⟨l, e, h, _⟩ => by rw [e, List.length_map]; exact h) ?_ ?_⟩
  · rintro i acc y H2 H3 Qy Qn hi s2 ⟨l, rfl, hll, hlk⟩ ⟨rfl, hc⟩ ky kn
    obtain ⟨pl, hp1, rfl⟩ := get_map hc
    have hpk : pl ∈ rs.map (·.1) := hp.mem_iff.mp (List.mem_of_getElem? hp1)
    obtain ⟨q, hq, e⟩ := List.mem_map.mp hpk
    have s12 := s1.trans s2
    have h32 := h3.s s12
    obtain ⟨a, hv, ha⟩ := h32.val g.nd hq
    rw [show q.1 = pl from e] at hv
    refine ⟨rfl, _, rfl, o, _, 0, .ref d, rfl, rfl, SqL.of (s12 _ _ h1), rfl, _, rfl, d, _, rfl, .inl ⟨kvs, Sum.inr pl, .inl (s12 _ _ h2), rfl, hv.symm⟩, _, rfl, _, rfl, a, x, b, q.2, ms, rfl, SqL.of ha, (Sm.of s12).seq hb, (g.gr q hq).1.2.2, hm, (g.mem hq x).mpr hx, fun m hm => (g.mem hq m).mpr (hsub m hm), hmn, fun v H4 s4 ⟨bb, ev⟩ => ?_⟩
    subst ev
    refine ⟨bb, rfl, ?_⟩
    cases bb with
    | true => exact iteT ⟨_, rfl, ky _ _ s4 ⟨l ++ [pl], by rw [sv, sv, List.map_append]; rfl, by rw [List.length_append, List.length_singleton]; omega, fun y hy => by
        rcases List.mem_append.mp hy with h | h
        · exact hlk y h
        · rw [List.mem_singleton.mp h]; exact hpk⟩⟩
    | false => exact iteF (kn _ s4 ⟨l, rfl, by omega, hlk⟩)
  · rintro D acc H2 hD s2 hacc ⟨l, rfl, hll, hlk⟩
    rw [List.length_map] at hll
    exact k D H2 l (same_none s1 hD) (s1.trans s2) hlk (by omega) hacc
end
end Fl
namespace Fl
open PySem PySem.Spec L2
/-- the heap without D -/
def wo (H : Hp) (D : Addr) : Hp := fun b => if b = D then none else H b
theorem wo_ne {H : Hp} {D b : Addr} (h : b ≠ D) : wo H D b = H b := if_neg h
theorem wo_same {H : Hp} {D : Addr} : Same (wo H D) H := fun b u e => by
  by_cases h : b = D
  · unfold wo at e; rw [if_pos h] at e; cases e
  · rwa [wo_ne h] at e
theorem wo_mono {H H' : Hp} {D : Addr} (s : Same H H') : Same (wo H D) (wo H' D) := fun b u e => by
  by_cases h : b = D
  · unfold wo at e; rw [if_pos h] at e; cases e
  · rw [wo_ne h] at e ⊢; exact s _ _ e
theorem wo_upd {H : Hp} {D : Addr} {o : HO} : wo (upd H D o) D = wo H D := funext fun b => by
  by_cases h : b = D
  · unfold wo; rw [if_pos h, if_pos h]
  · rw [wo_ne h, wo_ne h, upd_ne h]
section
variable {J : It} {n : Nat} {G : Hp → Prop} {Y : Nat → Hp → V → Hp → Prop}
theorem lc_gD (w : Walk J n G Y) {g : TG} {tt : TT} {te : TE} {vs : List Nat} {σ : L2.St} {H1 : Hp} {Qd : Addr → Hp → Prop} (R : Nat → List V → Hp → Prop) (hn : n ≤ 16777216) (hG : ∀ H, Same H1 H → G H) (h0 : ∀ H, Same H1 H → R 0 [] H) (hz : ∀ i acc H, R i acc H → acc.length ≤ i)
    (hs : ∀ i acc D x H H' (Qy : V → Hp → Prop) (Qn : Hp → Prop), i < n → H1 D = none → H D = some (.lst acc) → Same H1 H → R i acc (wo H D) → Y i H x H' → (∀ y H4, Same H H4 → R (i + 1) (acc ++ [y]) (wo H4 D) → Qy y H4) → (∀ H3, Same H H3 → R (i + 1) acc (wo H3 D) → Qn H3) →
      g x (wipe σ vs) H' fun σ2 H2 => wipe σ2 vs = wipe σ vs ∧ tt σ2 H2 fun b H3 => if b = true then te σ2 H3 Qy else Qn H3)
    (hd : ∀ D acc H, H1 D = none → Same H1 H → H D = some (.lst acc) → R n acc (wo H D) → Qd D H) :
    ∀ D, H1 D = none → ∃ W : Nat → Nat → Hp → Prop, (∃ m, W 0 m (upd H1 D (.lst []))) ∧ ∀ i m H, W i m H →
      (J.stop i H ∧ Qd D H) ∨ (J.go i H ∧ ∃ Nx : Hp → Prop, (∀ H', Nx H' → ∃ m', m' < m ∧ W (i + 1) m' H') ∧ ∀ x H', J.yld i H x H' → g x (wipe σ vs) H' fun σ2 H2 => wipe σ2 vs = wipe σ vs ∧ tt σ2 H2 fun b H3 =>
        if b = true then te σ2 H3 fun y H4 => ∃ acc, H4 D = some (.lst acc) ∧ acc.length < sizeLine ∧ Nx (upd H4 D (.lst (acc ++ [y]))) else Nx H3) := by
  intro D hD
  refine lc_it w (fun i H => Same H1 H ∧ ∃ acc, H D = some (.lst acc) ∧ R i acc (wo H D)) ⟨same_new hD _, [], upd_same, h0 _ (by rw [wo_upd]; exact fun b u e => by rw [wo_ne (ne_of_none e hD)]; exact e)⟩ (fun i H _ h => hG H h.1) ?_ ?_
  · rintro i x H H' hi ⟨s, acc, ha, r⟩ y
    refine hs i acc D x H H' _ _ hi hD ha s r y (fun y H4 s4 r4 => ?_) (fun H3 s3 r3 => ⟨s.trans s3, acc, s3 _ _ ha, r3⟩)
    have h4 := s4 _ _ ha
    refine ⟨acc, h4, ?_, ?_, acc ++ [y], upd_same, by rw [wo_upd]; exact r4⟩
    · have := hz _ _ _ r
      rw [sizeLine_eq]; omega
    · exact fun b u q => by rw [upd_ne (ne_of_none q hD)]; exact s4 _ _ (s _ _ q)
  · rintro H ⟨s, acc, ha, r⟩
    exact hd D acc H hD s ha r
end
end Fl
namespace Fl
open PySem PySem.Spec L2
open PyProof.Rows (envOfC)
def spLRk (K : PySem.W.Frag) : Sp := fun vs H Q _ => ∃ o rs A, vs = [.ref o] ∧ OwnAt H o rs ∧ GK rs A ∧ ∀ p H', H p = none → Same H H' → (∃ kvs, H' p = some (.dK kvs) ∧ RksOf K H' rs kvs) → Q (.ref p) H'
theorem RkAt.wo {K : PySem.W.Frag} {H : Hp} {a D : Addr} {o : List Str} {xs : List V} (h : RkAt K H a o) (hD : H D = some (.lst xs)) : RkAt K (wo H D) a o := by
  obtain ⟨dx, l, d, q, h1, h2, h3⟩ := h
  obtain ⟨o', h2⟩ := h2
  exact ⟨dx, l, d, q, by rw [wo_ne (ne_of h1 hD (fun z => nomatch z))]; exact h1, ⟨o', by rw [wo_ne (ne_of h2 hD (fun z => nomatch z))]; exact h2⟩, by rw [wo_ne (ne_of h3 hD (fun z => nomatch z))]; exact h3⟩
theorem RksOf.s {K : PySem.W.Frag} {H H' : Hp} {rs : Rks} {kvs : List (Key × V)} (h : RksOf K H rs kvs) (e : Same H H') : RksOf K H' rs kvs := h.md (.of e)
theorem RksOf.snoc {K : PySem.W.Frag} {H : Hp} {rs : Rks} {ks : List (Key × V)} {i : Nat} {q : Str × List Str} {x : Addr} (h : RksOf K H (rs.take i) ks) (hq : rs[i]? = some q) (hx : RkAt K H x q.2) : RksOf K H (rs.take (i + 1)) (ks ++ [(Sum.inr q.1, .ref x)]) := by
  rw [take_snoc hq]
  refine ⟨by rw [List.length_append, List.length_append, h.1]; rfl, fun j p hp => ?_⟩
  rw [List.getElem?_append] at hp ⊢
  rw [h.1]
  split at hp
  · rename_i hj
    rw [if_pos hj]
    exact h.2 j p hp
  · rename_i hj
    rw [if_neg hj]
    cases e : j - (rs.take i).length with
    | zero => rw [e] at hp; cases hp; exact ⟨x, rfl, hx⟩
    | succ n => rw [e] at hp; simp at hp
section
variable {P : Program} {w : World} {K : PySem.W.Frag} {mg : Str → Option Value} {base : Heap}
theorem ok_l_rankings (T : TX K mg) : Cal P w K mg base 8 "_law_rankings" ["_law_own_here"] (spLRk K) := by
  have F_R_init := ok_R_init (P := P) (w := w) (base := base) T
  refine cal_mk (fok_mk T.f_l_rankings sc_l_rankings (fun _ _ _ _ _ _ us hl => match us, hl with | [_], _ => rfl) (fun vs H Q E h => ?_) (fun cdv A outer s H vs Q E hr h => ?_)) T.g_l_rankings (let ⟨_, F⟩ := T.f_l_rankings; F.kp)
  · obtain ⟨o, rs, A, rfl, _⟩ := h; rfl
  obtain ⟨o, rs, A, rfl, ho, g, k⟩ := h
  refine ⟨_, (pss_one (ps_ret (pe_callTy (k_dictP K (by rfl) rfl) (by rfl) T.b_dict (by decide +kernel) (pa_cons (pe_lockR (pe_lc (own := [("_law_player", 1)]) (g := gName 1) (tt := tYes) rfl sc_l_rankings.nd (pi_keys (pe_ix (k_ixL K (by rfl)) (pv 0) pe_int (fun _ _ => rfl))) (blkOk_by (N := ["_law_own_here", "_law_player"]) (sc := defScope s_l_rankings) (by decide +kernel)) (fun _ _ _ _ _ => by exact (pg_name (i := 1) sc_l_rankings.nd rfl (Or.inl rfl))) (fun _ _ _ _ _ => by exact (pts_nil)) (fun _ _ _ _ _ => by exact ((pe_tup (pa_cons (pv 1) (pa_cons (pe_mk F_R_init T.mkR T.gR (hr.mono (by decide)) (pa_cons (pe_dget (hu_of hr) (pe_ix (k_ixL K (by rfl)) (pv 0) pe_int (fun _ _ => rfl)) (pv 1) (fun _ _ => rfl)) pa_nil)) pa_nil))))))) pa_nil)))), ?_⟩
  obtain ⟨d, td, kvs, h1, h2, h3⟩ := id ho
  refine ⟨d, kvs, .inl h2, fun H1 od md1 g1 e1 => ?_⟩
  have no : o ≠ d := ne_of h1 h2 (fun z => nomatch z)
  have h1' : H1 o = some (.lst [.ref d, .ref td]) := (e1 o no).trans h1
  have h3' : LsOf H1 rs kvs := ⟨h3.1, fun i q hq => let ⟨a, g1, g2⟩ := h3.2 i q hq; ⟨a, g1, (e1 a (ne_of g2 h2 (fun z => nomatch z))).trans g2⟩⟩
  have hl30 : kvs.length ≤ 30 := by rw [h3.1]; exact g.len
  refine ⟨_, rfl, o, _, 0, .ref d, rfl, rfl, SqL.of h1', rfl, d, od, rfl, .inl ⟨kvs, g1, lc_gD walk_keys (fun i acc Hc => ∃ (ps : List Addr) (ks : List (Key × V)), acc = ps.map V.ref ∧ ps.length ≤ i ∧ Paired (fun p kv => Hc p = some (.tup [kV kv.1, kv.2])) ps ks ∧ RksOf K Hc (rs.take i) ks) (by omega) (fun H2 s2 => s2 _ _ g1) (fun _ _ => ⟨[], [], rfl, Nat.le_refl _, .nil, by simp [RksOf]⟩) (fun i acc _ ⟨ps, ks, e, h, _⟩ => by rw [e, List.length_map]; exact h) ?_ ?_⟩⟩
  · rintro i acc D x H2 H3 Qy Qn hi hD hDa s2 ⟨ps, ks, rfl, hpl, hpr, hrk⟩ ⟨rfl, kk, v, hkv, rfl⟩ ky kn
    obtain ⟨q, hq⟩ := get_lt (l := rs) (i := i) (by rw [← h3.1]; exact hi)
    obtain ⟨a', g2, g3'⟩ := h3'.2 i q hq
    rw [g2] at hkv
    cases hkv
    have hqm := List.mem_of_getElem? hq
    obtain ⟨a, hv, g3⟩ := h3'.val g.nd hqm
    refine ⟨rfl, _, rfl, _, rfl, o, _, 0, .ref d, rfl, rfl, SqL.of (s2 _ _ h1'), rfl, _, rfl, d, _, rfl, .inl ⟨kvs, Sum.inr q.1, .inr ⟨od, s2 _ _ g1⟩, rfl, hv.symm⟩, fun x dx nx nd ne => ?_⟩
    have hxD : D ≠ x := ne_of_none hDa nx
    have g33 : H3 a = some (.lst (sv q.2)) := s2 _ _ g3
    have hax : a ≠ x := ne_of_none g33 nx
    have had : a ≠ dx := ne_of_none g33 nd
    refine ⟨x, dx, a, q.2, rfl, upd_same, SqL.of ?_, (g.gr q hqm).1, fun H4 hrk4 kp => ⟨rfl, sz_line (by decide : 2 ≤ 1000), fun t ht => ?_⟩⟩
    · rw [upd_ne hax, upd_ne had]; exact g33
    · have s34 : Same H3 H4 := made_same nx nd kp
      have s35 : Same H3 (upd H4 t (.tup [V.str q.1, V.ref x])) := s34.trans (same_new ht _)
      have hD5 := s35 _ _ hDa
      have htD : t ≠ D := fun e => by rw [e, s34 _ _ hDa] at ht; cases ht
      refine ky _ _ s35 ⟨ps ++ [t], ks ++ [(Sum.inr q.1, .ref x)], by rw [List.map_append]; rfl, by rw [List.length_append, List.length_singleton]; omega, ?_, ?_⟩
      · refine Paired.snoc (Paired.mapP hpr fun p kv e => wo_mono s35 _ _ e) ?_
        show wo _ D t = _
        rw [wo_ne htD]
        exact upd_same
      · exact RksOf.snoc (hrk.s (wo_mono s35)) hq ((hrk4.s (same_new ht _)).wo hD5)
  · rintro D acc H2 hD s2 hacc ⟨ps, ks, rfl, hpl, hpr, hrk⟩
    refine ⟨s2 _ _ g1, fun H3 e3 e4 => ?_⟩
    have s3 : Same H H3 := lk_same e1 s2 e3 e4
    have hD0 : H D = none := lk_none e1 g1 hD
    have hDd : D ≠ d := fun e => by rw [e, g1] at hD; cases hD
    have hk : ∀ b u, isDct u = false → wo H2 D b = some u → H3 b = some u := fun b u n e => by
      rw [e4 b (fun z => by
        subst z
        have := wo_same _ _ e
        rw [s2 _ _ g1] at this
        cases this; cases n)]
      exact wo_same _ _ e
    have hrks : RksOf K H3 rs ks := by
      rw [h3.1, List.take_length] at hrk
      refine ⟨hrk.1, fun i q hq => ?_⟩
      obtain ⟨x, y1, dx, l, dd, qq, y2, ⟨o', y3⟩, y4⟩ := hrk.2 i q hq
      have ndd : dd ≠ d := fun z => by
        have y5 := wo_same _ _ y4
        rw [z, s2 _ _ g1] at y5
        injection y5 with y5
        injection y5 with _ y5
        injection y5 with y5
        obtain ⟨q0, hq0⟩ := get_lt (List.length_pos_iff.mpr g.ne)
        obtain ⟨a0, f1, f2⟩ := h3.2 0 q0 hq0
        rw [y5, plcs, List.getElem?_map] at f1
        cases e : (q.2.zipIdx)[0]? with
        | none => rw [e] at f1; cases f1
        | some w =>
          rw [e] at f1
          injection f1 with f1
          injection f1 with _ f1
          cases f1
      exact ⟨x, y1, dx, l, dd, qq, hk _ _ rfl y2, ⟨o', hk _ _ rfl y3⟩, (e4 dd ndd).trans (wo_same _ _ y4)⟩
    refine ⟨D, ps, ks, rfl, SqL.of ((e4 D hDd).trans hacc), Paired.mapP hpr fun p kv e => ?_, fun p hp => ?_⟩
    · exact .inl (.inl (hk _ _ rfl e))
    · have hkn : (ks.map (·.1)).Nodup := by rw [hrks.keys]; exact inr_nodup g.nd
      rw [mergeK_nil hkn]
      have s4 := s3.trans (same_new hp (.dK ks))
      exact k p _ (same_none s3 hp) s4 ⟨ks, upd_same, hrks.s (same_new hp _)⟩
end
end Fl
namespace Fl
open PySem PySem.Spec L2
section
variable {J : It} {n : Nat} {G : Hp → Prop} {Y : Nat → Hp → V → Hp → Prop}
theorem StAt.ne' {H : Hp} {s p : Addr} (h : StAt H s) (e : H p = none) : s ≠ p := fun z => h.ne e z.symm
/-- a list comprehension whose turns draw from the stream -/
theorem lc_gB (w : Walk J n G Y) {g : TG} {tt : TT} {te : TE} {vs : List Nat} {σ : L2.St} {H1 : Hp} {Qd : Addr → Hp → Prop} {st : Addr} (R : Nat → List V → Hp → Prop) (hst : StAt H1 st) (hn : n ≤ 16777216) (hG : ∀ H, But st H1 H → G H) (h0 : ∀ H, Same H1 H → R 0 [] H) (hz : ∀ i acc H, R i acc H → acc.length ≤ i)
    (hs : ∀ i acc D x H H' (Qy : V → Hp → Prop) (Qn : Hp → Prop), i < n → H1 D = none → H D = some (.lst acc) → But st H1 H → StAt H st → R i acc (wo H D) → Y i H x H' → (∀ y H4, But st H H4 → StAt H4 st → R (i + 1) (acc ++ [y]) (wo H4 D) → Qy y H4) → (∀ H3, But st H H3 → StAt H3 st → R (i + 1) acc (wo H3 D) → Qn H3) →
      g x (wipe σ vs) H' fun σ2 H2 => wipe σ2 vs = wipe σ vs ∧ tt σ2 H2 fun b H3 => if b = true then te σ2 H3 Qy else Qn H3)
    (hd : ∀ D acc H, H1 D = none → But st H1 H → StAt H st → H D = some (.lst acc) → R n acc (wo H D) → Qd D H) :
    ∀ D, H1 D = none → ∃ W : Nat → Nat → Hp → Prop, (∃ m, W 0 m (upd H1 D (.lst []))) ∧ ∀ i m H, W i m H →
      (J.stop i H ∧ Qd D H) ∨ (J.go i H ∧ ∃ Nx : Hp → Prop, (∀ H', Nx H' → ∃ m', m' < m ∧ W (i + 1) m' H') ∧ ∀ x H', J.yld i H x H' → g x (wipe σ vs) H' fun σ2 H2 => wipe σ2 vs = wipe σ vs ∧ tt σ2 H2 fun b H3 =>
        if b = true then te σ2 H3 fun y H4 => ∃ acc, H4 D = some (.lst acc) ∧ acc.length < sizeLine ∧ Nx (upd H4 D (.lst (acc ++ [y]))) else Nx H3) := by
  intro D hD
  have hDs : D ≠ st := hst.ne hD
  refine lc_it w (fun i H => But st H1 H ∧ StAt H st ∧ ∃ acc, H D = some (.lst acc) ∧ R i acc (wo H D)) ⟨.of (same_new hD _), hst.s (same_new hD _), [], upd_same, h0 _ (by rw [wo_upd]; exact fun b u e => by rw [wo_ne (ne_of_none e hD)]; exact e)⟩ (fun i H _ h => hG H h.1) ?_ ?_
  · rintro i x H H' hi ⟨s, sa, acc, ha, r⟩ y
    refine hs i acc D x H H' _ _ hi hD ha s sa r y (fun y H4 s4 sa4 r4 => ?_) (fun H3 s3 sa3 r3 => ⟨s.trans s3, sa3, acc, s3 _ _ hDs ha, r3⟩)
    have h4 := s4 _ _ hDs ha
    refine ⟨acc, h4, ?_, ?_, ?_, acc ++ [y], upd_same, by rw [wo_upd]; exact r4⟩
    · have := hz _ _ _ r
      rw [sizeLine_eq]; omega
    · exact fun b u nb q => by rw [upd_ne (ne_of_none q hD)]; exact s4 _ _ nb (s _ _ nb q)
    · obtain ⟨a, b, e, z⟩ := sa4
      exact ⟨a, b, by rw [upd_ne hDs.symm]; exact e, z⟩
  · rintro H ⟨s, sa, acc, ha, r⟩
    exact hd D acc H hD s sa ha r
end
end Fl
/-! sets of texts: made of a list, sorted, counted -/
namespace Fl
open PySem PySem.Spec PyProof.Rows L2
theorem isS {P : Program} {w : World} (k : Str) (u : Tok) : (strKind P w).is k (.str k u) = true := by
  show Value.isStrOf k (.str k u) = true
  simp [Value.isStrOf]
def skey (e : Int × Value) : Str := match e.2 with | .str k _ => k | _ => ""
def GoodS (w : World) (e : Int × Value) : Prop := ∃ k tk, e.2 = Value.str k tk ∧ e.1 = hashStr w k
/-- the set of texts at a: S its members, n their number -/
def TSet (w : World) (h : Heap) (a : Addr) (S : Str → Bool) (n : Nat) : Prop :=
  ∃ o es ep t, h.get? a = some o ∧ o.ExactSet ∧ o.data = .set es ep t ∧ (∀ e ∈ es.toList, GoodS w e) ∧ (es.toList.map skey).Nodup ∧ (∀ k, S k = true ↔ k ∈ es.toList.map skey) ∧
    es.size < scanBound ∧ t.fits es.size = true ∧ es.size = n ∧ Ris t.place.toList ∧ (w.params.followText "set-order" = true ∨ t.led = true)
section
variable {P : Program} {w : World} {h h' : Heap} {a : Addr} {S : Str → Bool} {n : Nat}
theorem TSet.at (R : TSet w h a S n) (k : ∀ o, h.get? a = some o → h'.get? a = some o) : TSet w h' a S n := by
  obtain ⟨o, es, ep, t, ho, r⟩ := R
  exact ⟨o, es, ep, t, k o ho, r⟩
theorem TSet.congr {S' : Str → Bool} (R : TSet w h a S n) (e : ∀ k, S' k = S k) : TSet w h a S' n := by
  have q : S' = S := funext e
  rw [q]; exact R
theorem gs_elems {l : List (Int × Value)} (g : ∀ e ∈ l, GoodS w e) : ElemsOf (strKind P w) l := fun e he => by
  obtain ⟨k, tk, h1, h2⟩ := g e he
  exact ⟨⟨k, by rw [h1]; exact isS k tk, h2⟩, by rw [h1] <;> rfl⟩
theorem gs_is {e : Int × Value} (g : GoodS w e) (k : Str) : (strKind P w).is k e.2 = true ↔ skey e = k := by
  obtain ⟨k0, tk, h1, _⟩ := g
  unfold skey
  rw [h1]
  show Value.isStrOf k (.str k0 tk) = true ↔ k0 = k
  simp [Value.isStrOf]
theorem gs_mem {l : List (Int × Value)} (g : ∀ e ∈ l, GoodS w e) (k : Str) : k ∈ l.map skey ↔ ∃ e ∈ l, (strKind P w).is k e.2 = true := by
  rw [List.mem_map]
  constructor
  · rintro ⟨e, he, q⟩
    exact ⟨e, he, (gs_is (g e he) k).2 q⟩
  · rintro ⟨e, he, q⟩
    exact ⟨e, he, (gs_is (g e he) k).1 q⟩
end
section
variable {P : Program} {w : World} {A : Around} {E : Value → Shared → Prop} {s : Shared} {a : Addr} {S : Str → Bool} {n : Nat}
theorem tset_add_tail {g : Bool → Sem Unit} (hg : ∀ (b : Bool) (s₁ : Shared) (Q' : Unit → Shared → Prop), Q' () s₁ → wpAny (model P w) A (g b) Q' E s₁)
    {o : Obj} {es : Array (Int × Value)} {ep : Nat} {t : SetTable} (ho : s.heap.get? a = some o) (hex : o.ExactSet) (hd : o.data = .set es ep t)
    {es1 : Array (Int × Value)} {t2 : SetTable} {S' : Str → Bool} (g1 : ∀ e ∈ es1.toList, GoodS w e) (nd1 : (es1.toList.map skey).Nodup) (m1 : ∀ k, S' k = true ↔ k ∈ es1.toList.map skey)
    (hb1 : es1.size < scanBound) (hf2 : t2.fits es1.size = true) (hr : Ris t2.place.toList) (hl : w.params.followText "set-order" = true ∨ t2.led = true) {wasDummy : Bool} {R : Option Bool → Shared → Prop}
    (hR : ∀ h', Heap.SameBut a s.heap h' → TSet w h' a S' es1.size → R (some true) { s with heap := h' }) :
    wpAny (model P w) A (do
        storeSet a es1 t2
        if (!wasDummy && t2.tooFull) = true then do
            g (relayAll t2 es1 (SetTable.grown es1.size)).2.2
            storeSet a (relayAll t2 es1 (SetTable.grown es1.size)).1 (relayAll t2 es1 (SetTable.grown es1.size)).2.1
            pure (some true)
          else pure (some true)) R E s := by
  refine wpAny_bind (wpAny_storeSet_of ho hd ?_ (fits_of_scanBound hb1))
  have ho1 := store_at (es' := es1) (t' := t2) ho hd
  have sb1 := Heap.SameBut.update s.heap a (Obj.putSet es1 t2)
  split
  · have pm := relayAll_perm t2 es1 (SetTable.grown es1.size)
    have hf3 := relayAll_fits t2 es1 (SetTable.grown es1.size)
    have hr3 := relayAll_ris t2 es1 (SetTable.grown es1.size)
    have hl3 := relayAll_led t2 es1 (SetTable.grown es1.size)
    generalize relayAll t2 es1 (SetTable.grown es1.size) = Z at pm hf3 hr3 hl3 ⊢
    obtain ⟨es2, t3, gave⟩ := Z
    dsimp only at pm hf3 hr3 hl3 ⊢
    have hsz : es2.size = es1.size := by rw [← Array.length_toList, pm.length_eq, Array.length_toList]
    have hb2 : es2.size < scanBound := by rw [hsz]; exact hb1
    refine wpAny_bind (hg _ _ _ ?_)
    refine wpAny_bind (wpAny_storeSet_of ho1 rfl ?_ (fits_of_scanBound hb2))
    have ho2 := store_at (es' := es2) (t' := t3) ho1 rfl
    refine wpAny_pure (hR _ (sb1.trans (Heap.SameBut.update _ a _)) ?_)
    exact ⟨_, es2, _, t3, ho2, hex, rfl, fun e he => g1 e (pm.mem_iff.mp he), (pm.map skey).nodup_iff.mpr nd1, fun k => (m1 k).trans (pm.map skey).mem_iff.symm, hb2, hf3, hsz, hr3,
      hl.imp id fun z => by rw [hl3]; exact z⟩
  · exact wpAny_pure (hR _ sb1 ⟨_, es1, _, t2, ho1, hex, rfl, g1, nd1, m1, hb1, hf2, rfl, hr, hl⟩)

theorem tset_add_hashed {k : Str} {tk : Tok} {Q : Bool → Shared → Prop} (R : TSet w s.heap a S n) (room : n + 1 < scanBound)
    (hQ : ∀ h', Heap.SameBut a s.heap h' → TSet w h' a (fun j => S j || decide (j = k)) (if S k = true then n else n + 1) → Q (!S k) { s with heap := h' }) :
    wpAny (model P w) A (setAddHashed a (.str k tk) ((strKind P w).hash k)) Q E s := by
  obtain ⟨o, es, ep, t, ho, hex, hd, g, nd, hm, hb, hf, hn, hr, hl⟩ := R
  have hkey : (strKind P w).is k (.str k tk) = true := isS k tk
  have hsc : (Value.str k tk).scannable = true := rfl
  have hel : ElemsOf (strKind P w) es.toList := gs_elems g
  unfold setAddHashed setAddHashedIn
  refine wpAny_holding (wpAny_bind (wpAny_setState_of ho hd hf ?_))
  dsimp only
  rw [byScan_of hsc hb hel]
  simp only [↓reduceIte]
  unfold setAddByScan
  refine wpAny_bind ?_
  refine wpAny_bind (wpAny_rule ?_)
  refine wpAny_bind (wpAny_setScan_of hkey ho hd hf hel ?_)
  cases hfi : List.findIdx? (fun e => (strKind P w).is k e.2) es.toList with
  | some j =>
    dsimp only
    obtain ⟨hj, pj, _⟩ := List.findIdx?_eq_some_iff_getElem.mp hfi
    have hSk : S k = true := (hm k).2 ((gs_mem (P := P) (w := w) g k).2 ⟨es.toList[j], List.getElem_mem hj, pj⟩)
    refine wpAny_pure (wpAny_pure ?_)
    have q := hQ s.heap (Heap.SameBut.refl a s.heap) ⟨o, es, ep, t, ho, hex, hd, g, nd, fun i => by
      rw [Bool.or_eq_true, decide_eq_true_eq, ← hm i]
      exact ⟨fun z => z.elim id (fun e => e ▸ hSk), .inl⟩, hb, hf, by rw [if_pos hSk]; exact hn, hr, hl⟩
    rw [hSk] at q
    exact q
  | none =>
    dsimp only
    have hnk : k ∉ es.toList.map skey := fun z => by
      obtain ⟨e, he, q⟩ := (gs_mem (P := P) (w := w) g k).1 z
      have c := List.findIdx?_eq_none_iff.mp hfi e he
      rw [q] at c
      cases c
    have hSk : S k = false := by
      cases q : S k with
      | false => rfl
      | true => exact absurd ((hm k).1 q) hnk
    have hgw : ∀ (b : Bool) {s₁ : Shared} {Q' : Unit → Shared → Prop}, Q' () s₁ → wpAny (model P w) A (match b with | true => rule "set.scan.the-table-gave-way" | false => pure ()) Q' E s₁ :=
      fun b s₁ Q' q => by cases b <;> first | exact wpAny_pure q | exact wpAny_rule q
    have pm := layNew_perm t es ((strKind P w).hash k) (.str k tk)
    have hf1 := layNew_fits t es ((strKind P w).hash k) (.str k tk)
    have hr1 := layNew_ris t es ((strKind P w).hash k) (.str k tk) hr
    have hl1 := layNew_led t es ((strKind P w).hash k) (.str k tk)
    generalize layNew t es ((strKind P w).hash k) (.str k tk) = Z at pm hf1 hr1 hl1 ⊢
    obtain ⟨es1, t1, wasDummy, gave⟩ := Z
    dsimp only at pm hf1 hr1 hl1 ⊢
    rw [Array.toList_push] at pm
    have pc : es1.toList.Perm (((strKind P w).hash k, Value.str k tk) :: es.toList) := pm.trans (List.perm_append_singleton _ _)
    have pk : (es1.toList.map skey).Perm (k :: es.toList.map skey) := pc.map skey
    have g1 : ∀ e ∈ es1.toList, GoodS w e := fun e he => by
      rcases List.mem_cons.mp (pc.mem_iff.mp he) with z | z
      · rw [z]; exact ⟨k, tk, rfl, rfl⟩
      · exact g e z
    have nd1 : (es1.toList.map skey).Nodup := pk.nodup_iff.mpr (List.nodup_cons.mpr ⟨hnk, nd⟩)
    have m1 : ∀ i, (S i || decide (i = k)) = true ↔ i ∈ es1.toList.map skey := fun i => by
      rw [Bool.or_eq_true, decide_eq_true_eq, hm i, pk.mem_iff, List.mem_cons]
      exact Or.comm
    have hsz : es1.size = n + 1 := by rw [← Array.length_toList, pc.length_eq, List.length_cons, Array.length_toList, hn]
    have hb1 : es1.size < scanBound := by rw [hsz]; exact room
    have hled : w.params.followText "set-order" = true ∨ t1.led = true := hl.imp id fun z => by rw [hl1]; exact z
    have fin : ∀ h', Heap.SameBut a s.heap h' → TSet w h' a (fun j => S j || decide (j = k)) es1.size → Q true { s with heap := h' } := fun h' sb r => by
      have q := hQ h' sb
      rw [hSk] at q
      rw [hsz] at r
      exact q r
    refine wpAny_bind (hgw _ ?_)
    split
    · refine wpAny_bind ?_
      rw [hashByValue_scannable 8 hsc]
      refine wpAny_pure ?_
      refine tset_add_tail ?_ ho hex hd g1 nd1 m1 hb1 ?_ ?_ ?_ ?_
      · intro b s₁ Q' q; cases b <;> first | exact wpAny_pure q | exact wpAny_rule q
      · first | (split <;> first | exact hf1 | exact SetTable.fits_plain_off hf1) | exact hf1
      · first | (split <;> exact hr1) | exact hr1
      · first | (split <;> exact hled) | exact hled
      · intro h' sb r; dsimp only; exact wpAny_pure (fin h' sb r)
    · refine wpAny_bind (wpAny_pure ?_)
      simp only [↓reduceIte]
      refine tset_add_tail ?_ ho hex hd g1 nd1 m1 hb1 hf1 hr1 hled ?_
      · intro b s₁ Q' q; cases b <;> first | exact wpAny_pure q | exact wpAny_rule q
      · intro h' sb r; dsimp only; exact wpAny_pure (fin h' sb r)

theorem tset_new_at {w : World} {h : Heap} {a : Addr} {ns : List Str} (ho : h.get? a = some { cls := .type "set", dict := none, data := .set #[] 0 (.fresh 0 0 (!w.params.followText "set-order")) }) : TSet w h a (fun j => decide (j ∈ ns.take 0)) 0 :=
  ⟨_, #[], 0, _, ho, ⟨rfl, rfl, rfl⟩, rfl, (fun e he => by simp at he), (by simp), (fun k => by simp), (by decide), (by rfl), rfl, List.Pairwise.nil, by
    show _ ∨ (!w.params.followText "set-order") = true
    cases w.params.followText "set-order"
    · exact .inr rfl
    · exact .inl rfl⟩
theorem tset_update {I : Addr} {fp wr : List Addr} {G : Array GenState → Array GenState → Prop} {n : Nat} {Pv : Nat → Value → Prop} {St : Nat → Shared → Prop} {R : Result → Shared → Prop}
    (W : WalksS P w A.in1 I fp wr G n Pv St) (S : Addr) (hSf : S ∉ fp) (ns : List Str) (hn : n = ns.length) (hb : ns.length + 1 < scanBound) (hval : ∀ i v, Pv i v → ∃ k t, ns[i]? = some k ∧ v = .str k t) :
    ∀ (k i : Nat) (s : Shared), n - i = k → i ≤ n → St i s → (∃ c, c ≤ i ∧ TSet w s.heap S (fun j => decide (j ∈ ns.take i)) c) →
      (∀ s' c, Moved (S :: wr) G s s' → c ≤ n → TSet w s'.heap S (fun j => decide (j ∈ ns)) c → R (.ok (.ret .none)) s') →
      codeAny (model P w) A (.builtin "set.update.loop" ⟨[.ref S, .ref I], []⟩) R s := by
  have hSw : S ∉ wr := fun h => hSf (W.sub _ h)
  have hsub : ∀ b ∈ wr, b ∈ S :: wr := fun b hb => List.mem_cons_of_mem _ hb
  intro k
  induction k with
  | zero =>
    intro i s hk' hi hst ⟨c, hc, hS⟩ hR
    have hin : i = n := by omega
    subst hin
    refine codeAny_builtin F.entry_set_update_loop ?_
    rw [Around.under_plainId F.plain_set_update_loop _]
    show wpAny _ A.in1 (pyNext (.ref I) >>= _) _ _ s
    refine wpAny_bind (W.done s _ _ hst fun s' hm => ?_)
    show wpAny _ A.in1 (ret Value.none) _ _ s'
    have e : ns.take i = ns := List.take_of_length_le (by omega)
    rw [e] at hS
    exact wpAny_pure (hR s' c (hm.mono hsub) hc (hS.at fun o e => hm.heap S o hSw e))
  | succ k ih =>
    intro i s hk' hi hst ⟨c, hc, hS⟩ hR
    have hlt : i < n := by omega
    refine codeAny_builtin F.entry_set_update_loop ?_
    rw [Around.under_plainId F.plain_set_update_loop _]
    show wpAny _ A.in1 (pyNext (.ref I) >>= _) _ _ s
    refine wpAny_bind (W.item i s _ _ hlt hst fun v s' hP hst' hm => ?_)
    obtain ⟨z, t, hz, rfl⟩ := hval i v hP
    have hS' : TSet w s'.heap S (fun j => decide (j ∈ ns.take i)) c := hS.at fun o e => hm.heap S o hSw e
    show wpAny _ A.in1 (holding [Value.str z t] (setAdd S (.str z t)) >>= _) _ _ s'
    refine wpAny_bind (wpAny_holding ?_)
    unfold setAdd
    refine wpAny_holding ?_
    refine wpAny_bind ((strKind P w).pyHash (k := z) (isS _ _) ?_)
    refine tset_add_hashed (s := { s' with toks := s'.toks + 1 }) hS' (by omega) fun h' hsb hS2 => ?_
    have hS3 : TSet w h' S (fun j => decide (j ∈ ns.take (i + 1))) (if decide (z ∈ ns.take i) = true then c else c + 1) := hS2.congr fun j => by
      rw [List.take_add_one, hz]
      simp [List.mem_append]
    have hc3 : (if decide (z ∈ ns.take i) = true then c else c + 1) ≤ i + 1 := by
      split <;> omega
    refine wpAny_pure ⟨plainId_quiet F.plain_set_update_loop _, ih (i + 1) _ (by omega) hlt (W.frame _ s' _ _ hst' (Nat.le_succ _) fun b hb o e => ?_) ⟨_, hc3, hS3⟩ fun s'' c2 hm'' hc'' hS'' => ?_⟩
    · rw [hsb.2 b (fun h : b = S => hSf (by rw [← h]; exact hb))]; exact e
    · refine hR s'' c2 (Moved.trans W.gtrans ((hm.mono hsub).then_heap (Nat.le_succ _) fun b o hb e => ?_) hm'') hc'' hS''
      rw [hsb.2 b (fun h : b = S => hb (by rw [h]; exact List.mem_cons_self))]; exact e

theorem call_tset {l : Addr} {items : Array Value} (ns : List Str) {Q : Value → Shared → Prop} (hh : A.handled = none) (hl : s.heap.IsList l items) (hit : StrsAre items.toList ns) (hb : ns.length + 1 < scanBound)
    (h : ∀ (h' : Heap) (tk c : Nat), TSet w h' s.heap.objs.size (fun j => decide (j ∈ ns)) c → c ≤ ns.length → (∀ b o, s.heap.get? b = some o → h'.get? b = some o) → Q (.ref s.heap.objs.size) { s with heap := h', toks := tk }) :
    wpAny (model P w) A (call (.type "set") [.ref l]) Q E s := by
  have hisz : items.size = ns.length := by
    have q := StrsAre.length hit
    rw [Array.length_toList] at q
    exact q
  obtain ⟨c, tl, hmro⟩ := F.called_set.mro
  have hmade := F.called_set.made
  have hsub := F.called_set.sub
  refine wpAny_call (codeAny_of_tree ?_)
  show wpAny _ _ (callAny (.type "set") _) _ _ _
  refine wpAny_pure ⟨Code.quiet_builtin _ (by decide +kernel), codeAny_builtin F.entry_type_call ?_⟩
  rw [Around.under_plain (weight_type_call_type "set" [.ref l] []) rfl]
  have h1 := F.called_set.notType
  have h2 := F.called_set.canCreate
  have hct := F.typeCall_set_1 (.ref l)
  repeat (any_goals (first | assumption | wp_step))

  refine codeAny_mono (L2.code_set_led1 (.ref l) (E := E) (Q₁ := fun obj s₁ => obj = .ref s.heap.objs.size ∧ s₁ = { s with heap := s.heap.push { cls := .type "set", dict := none, data := .set #[] 0 (.fresh 0 0 (!w.params.followText "set-order")) } }) ⟨rfl, rfl⟩) fun r s₁ hr => ?_
  cases r with
  | error e => exact hr
  | ok fl =>
    cases fl with
    | ret obj =>
      obtain ⟨rfl, rfl⟩ := hr
      have hS : (s.heap.push { cls := .type "set", dict := none, data := .set #[] 0 (.fresh 0 0 (!w.params.followText "set-order")) }).get? s.heap.objs.size = some { cls := .type "set", dict := none, data := .set #[] 0 (.fresh 0 0 (!w.params.followText "set-order")) } := Heap.get?_push_size _ rfl
      have hT : Shared.TypeIs { s with heap := s.heap.push { cls := .type "set", dict := none, data := .set #[] 0 (.fresh 0 0 (!w.params.followText "set-order")) } } (.ref s.heap.objs.size) "set" := ⟨_, hS, rfl⟩
      have hli := F.called_set.init.lookup
      have hbi := F.called_set.init.bind (.ref s.heap.objs.size)
      repeat (any_goals (first | assumption | wp_step))

      refine codeAny_mono (codeAny_call_builtin (R := wants (fun r s₂ => r = .none ∧ ∃ h' tk c, s₂ = { s with heap := h', toks := tk } ∧ TSet w h' s.heap.objs.size (fun j => decide (j ∈ ns)) c ∧ c ≤ ns.length ∧
          (∀ b o, s.heap.get? b = some o → h'.get? b = some o)) E) F.called_set.init.plain F.entry_set_init (check_set_init_1 hT ?_)) fun r₂ s₂ hr₂ => ?_
      · obtain ⟨ol, hol, hcl, nl, hdl⟩ := hl
        obtain ⟨ocls, odict, odata, oslots⟩ := ol
        simp only at hcl hdl
        subst hcl; subst hdl
        have hol' : (s.heap.push { cls := .type "set", dict := none, data := .set #[] 0 (.fresh 0 0 (!w.params.followText "set-order")) }).get? l = some { cls := .type "list", dict := odict, data := .seq items nl, slots := oslots } := Heap.get?_push_of_some _ hol
        have hsls := F.sub_list_set
        have hslf := F.sub_list_frozenset
        have hne : (Value.type "list" == Value.type "dict") = false := by decide
        have hl1 : (s.heap.push { cls := .type "set", dict := none, data := .set #[] 0 (.fresh 0 0 (!w.params.followText "set-order")) }).IsList l items := ⟨_, hol', rfl, nl, rfl⟩
        unfold Builtin.«set.__init__» noKeywords Builtin.Frozenset.updateFrom
        generalize hPI : pyIter = PI
        wp_walk
        subst hPI

        refine wpAny_pyIter_list hl1 ?_
        refine wpAny_bind (wpAny_runValue ?_)
        have hlS : l < s.heap.objs.size := Heap.lt_size hol
        have hh3 : A.in1.in1.in1.handled = none := by simp [hh]
        have hz1 : (s.heap.push { cls := .type "set", dict := none, data := .set #[] 0 (.fresh 0 0 (!w.params.followText "set-order")) }).objs.size = s.heap.objs.size + 1 := Heap.size_push ..
        have hneI : l ≠ (s.heap.push { cls := .type "set", dict := none, data := .set #[] 0 (.fresh 0 0 (!w.params.followText "set-order")) }).objs.size := by
          rw [Heap.size_push]; exact Nat.ne_of_lt (Nat.lt_succ_of_lt hlS)
        have hSf : s.heap.objs.size ∉ [(s.heap.push { cls := .type "set", dict := none, data := .set #[] 0 (.fresh 0 0 (!w.params.followText "set-order")) }).objs.size, l] := by
          rw [Heap.size_push]; simp only [List.mem_cons, List.mem_singleton, List.not_mem_nil, or_false, not_or]
          exact ⟨Nat.ne_of_lt (Nat.lt_succ_self _), Nat.ne_of_gt hlS⟩
        have hval : ∀ (i : Nat) (v : Value), items[i]? = some v → ∃ k t, ns[i]? = some k ∧ v = .str k t := fun i v hv => by
          have hi : i < ns.length := by rw [← hisz]; exact (Array.getElem?_eq_some_iff.mp hv).1
          obtain ⟨t, e⟩ := _root_.SS.strs_at hit i v (by rw [Array.getElem?_toList]; exact hv)
          refine ⟨ns[i], t, List.getElem?_eq_getElem hi, ?_⟩
          rw [e, List.getD_eq_getElem?_getD, List.getElem?_eq_getElem hi] <;> rfl
        refine tset_update ((Walks.list hh3 _ l hneI items).toS) s.heap.objs.size
          hSf ns hisz hb hval (items.size - 0) 0 _ (by omega) (Nat.zero_le _)
          ⟨⟨_, Heap.get?_push_size _ rfl, rfl, rfl⟩, (hl1.push _)⟩ ?hS0 ?hR
        case hS0 =>
          have hget : ((s.heap.push { cls := .type "set", dict := none, data := .set #[] 0 (.fresh 0 0 (!w.params.followText "set-order")) }).push { cls := .type "list_iterator", data := .fields #[.ref l, .int 0 0] }).get? s.heap.objs.size
              = some { cls := .type "set", dict := none, data := .set #[] 0 (.fresh 0 0 (!w.params.followText "set-order")) } := Heap.get?_push_of_some _ hS
          exact ⟨0, Nat.le_refl 0, tset_new_at hget⟩
        case hR =>
          intro s' c' hm hc' hS'
          obtain ⟨h', g2, d', tk', os'⟩ := s'
          have eg : g2 = s.gens := hm.gens
          have ed : d' = s.drawn := hm.drawn
          have eo : os' = s.os := hm.os
          subst eg; subst ed; subst eo
          show wpAny _ _ _ _ _ _
          refine wpAny_pure ?_
          show wpAny _ _ (ret Value.none) _ _ _
          rw [hisz] at hc'
          refine wpAny_pure ⟨rfl, h', tk', c', rfl, hS', hc', fun b o e => ?_⟩
          have hb0 : b < s.heap.objs.size := Heap.lt_size e
          have hb1 : b ≠ s.heap.objs.size := Nat.ne_of_lt hb0
          have hb2 : b ≠ (s.heap.push { cls := .type "set", dict := none, data := .set #[] 0 (.fresh 0 0 (!w.params.followText "set-order")) }).objs.size := by
            rw [Heap.size_push]; exact Nat.ne_of_lt (Nat.lt_succ_of_lt hb0)
          exact hm.heap b o (by simp only [List.mem_cons, List.mem_singleton, List.not_mem_nil, or_false, not_or]; exact ⟨hb1, hb2⟩) (Heap.get?_push_of_some _ (Heap.get?_push_of_some _ e))

      · cases r₂ with
        | error e => exact hr₂
        | ok fl₂ =>
          cases fl₂ with
          | ret r =>
            obtain ⟨rfl, h', tk, c', rfl, hS', hc', hk'⟩ := hr₂
            repeat (any_goals (first | assumption | wp_step))
            exact h _ _ _ hS' hc' hk'
          | _ => exact hr₂.elim
    | _ => exact hr.elim

theorem sorted_tset {S : Str → Bool} {n : Nat} {Q : Value → Shared → Prop} (R : TSet w s.heap a S n) (hh : A.handled = none) (h64 : n < 64)
    (hQ : ∀ s' p (out : Array Value) (c : Nat) (ns : List Str), (∀ b o, s.heap.get? b = some o → s'.heap.get? b = some o) → s'.gens = s.gens → s'.os = s.os → s.heap.objs.size ≤ p →
      s'.heap.get? p = some (seqObj "list" out c) → StrsAre out.toList ns → sortedS ns = true → ns.Nodup → (∀ k, k ∈ ns ↔ S k = true) → ns.length = n → Q (.ref p) s') :
    wpAny (model P w) A (call (.builtin "sorted") [.ref a]) Q E s := by
  obtain ⟨o, es, ep, t, ho, hex, hd, g, nd, hm, hb, hf, hn, hr, hl⟩ := R
  refine Calls.call_function_entry kind_sorted plain_sorted entry_sorted (args_sorted1 _) ?_
  unfold Builtin.«sorted»
  refine wpAny_bind (m := checkCount "sorted" 1 1 _) (wpAny_pure ?_)
  refine wpAny_bind (collect_set (A := A.in1) hh ⟨o, ho, hex.1, hd⟩ hf hb hr hl fun s1 vs k1 hz g1 o1 pm => ?_)
  have hvl : vs.length = n := by rw [pm.length_eq, List.length_map, Array.length_toList]; exact hn
  have hI : StrsAre vs (vs.map strOf) := strsAre_map vs fun v hv => by
    obtain ⟨e, he, q⟩ := List.mem_map.mp (pm.mem_iff.mp hv)
    obtain ⟨k, tk, h1, _⟩ := g e he
    exact ⟨k, tk, by rw [← q]; exact h1⟩
  have pk : (vs.map strOf).Perm (es.toList.map skey) := by
    have q := pm.map strOf
    rw [List.map_map] at q
    have e2 : es.toList.map (strOf ∘ fun x => x.2) = es.toList.map skey := List.map_congr_left fun e he => by
      obtain ⟨k, tk, h1, _⟩ := g e he
      show strOf e.2 = skey e
      unfold skey
      rw [h1]; rfl
    rw [e2] at q
    exact q
  refine wpAny_bind (wpAny_newList ?_ (by rw [hvl, sizeLine_eq]; omega))
  have hoL : (s1.heap.push (seqObj "list" vs.toArray 0)).get? s1.heap.objs.size = some (seqObj "list" vs.toArray 0) := Heap.get?_push_size _ rfl
  refine wpAny_bind (wpAny_holding (wpAny_call_entry slot_list_sort ⟨_, hoL, rfl⟩ entry_list_sort (list_sort_treeK strKind_oneLt hoL hI.keysOf (fun v₁ v₂ rest e => keyKind_strs (by rw [← e]; exact hI)) (by rw [hvl]; exact h64) fun st' a1 a2 => ⟨_, rfl, ?_⟩) (args_list_sort _)))
  obtain ⟨ns', b1, b2, b3⟩ := sorted_out_str hI a1 a2
  obtain ⟨c, hc⟩ := sortedHeap_at (vs := vs) (out := (arrOf st').map (·.2)) hoL
  have pn : ns'.Perm (es.toList.map skey) := b2.trans pk
  refine wpAny_pure ⟨_, rfl, hQ _ s1.heap.objs.size _ c ns' (fun b u e => ?_) g1 o1 hz hc b1 b3 (pn.nodup_iff.mpr nd) (fun k => by rw [pn.mem_iff, ← hm k]) ?_⟩
  · have q := k1 b u e
    have hlt := Heap.lt_size q
    show (sortedHeap (s1.heap.push (seqObj "list" vs.toArray 0)) s1.heap.objs.size vs ((arrOf st').map (·.2))).get? b = some u
    rw [sortedHeap_old (Nat.ne_of_lt hlt) (by rw [size_push']; exact Nat.lt_succ_of_lt hlt)]
    exact Heap.get?_push_of_some _ q
  · rw [pn.length_eq, List.length_map, Array.length_toList]; exact hn
end
end Fl
namespace Fl
open PySem PySem.Spec L2
/-! ### the orders of the turns with given counts -/
def ords : Nat → Cts → List (List Str)
  | 0, _ => [[]]
  | n + 1, cs => cs.flatMap fun q => if 0 < q.2 then (ords n (decC cs q.1)).map (q.1 :: ·) else []
theorem total_cons (q : Str × Int) (r : Cts) : total (q :: r) = q.2 + total r := by unfold total; rw [List.map_cons, List.sum_cons]
theorem total_nn : ∀ {cs : Cts}, (∀ q ∈ cs, 0 ≤ q.2) → 0 ≤ total cs
  | [], _ => by decide
  | q :: r, h => by
    rw [total_cons]
    have := total_nn fun q hq => h q (List.mem_cons_of_mem _ hq)
    have := h q List.mem_cons_self
    omega
theorem total_le : ∀ {cs : Cts}, (∀ q ∈ cs, 0 ≤ q.2) → ∀ q ∈ cs, q.2 ≤ total cs
  | [], _, q, h => by simp at h
  | a :: r, h, q, hq => by
    rw [total_cons]
    have h1 := total_nn fun q hq => h q (List.mem_cons_of_mem _ hq)
    have h2 := h a List.mem_cons_self
    rcases List.mem_cons.mp hq with rfl | hq
    · omega
    · have := total_le (fun q hq => h q (List.mem_cons_of_mem _ hq)) q hq
      omega
theorem total_zero : ∀ {cs : Cts}, (∀ q ∈ cs, q.2 = 0) → total cs = 0
  | [], _ => by decide
  | q :: r, h => by
    rw [total_cons, h q List.mem_cons_self, total_zero fun q hq => h q (List.mem_cons_of_mem _ hq)]; rfl
theorem dec_miss {cs : Cts} {p : Str} (h : p ∉ cs.map (·.1)) : decC cs p = cs := by
  unfold decC
  conv => rhs; rw [← List.map_id cs]
  refine List.map_congr_left fun q hq => ?_
  rw [if_neg (fun e => h (List.mem_map.mpr ⟨q, hq, e⟩))]; rfl
theorem total_dec : ∀ {cs : Cts}, (cs.map (·.1)).Nodup → ∀ {p : Str} {c : Int}, (p, c) ∈ cs → total (decC cs p) = total cs - 1
  | [], _, p, c, h => by simp at h
  | q :: r, nd, p, c, h => by
    rw [List.map_cons, List.nodup_cons] at nd
    rcases List.mem_cons.mp h with e | h
    · subst e
      rw [show decC ((p, c) :: r) p = (p, c - 1) :: decC r p from by simp [decC], dec_miss nd.1, total_cons, total_cons]
      dsimp only
      omega
    · have hne : q.1 ≠ p := fun e => nd.1 (List.mem_map.mpr ⟨(p, c), h, e.symm⟩)
      rw [show decC (q :: r) p = q :: decC r p from by simp [decC, hne], total_cons, total_cons, total_dec nd.2 h]
      omega
theorem mem_dec {cs : Cts} {p r : Str} {x : Int} (h : (r, x) ∈ cs) : (r, if r = p then x - 1 else x) ∈ decC cs p := by
  unfold decC
  refine List.mem_map.mpr ⟨(r, x), h, ?_⟩
  dsimp only
  split <;> rfl
theorem dec_mem {cs : Cts} {p : Str} {q : Str × Int} (h : q ∈ decC cs p) : ∃ x, (q.1, x) ∈ cs ∧ q.2 = if q.1 = p then x - 1 else x := by
  unfold decC at h
  obtain ⟨q0, h0, e⟩ := List.mem_map.mp h
  by_cases z : q0.1 = p
  · rw [if_pos z] at e
    subst e
    exact ⟨q0.2, h0, by dsimp only; rw [if_pos z]⟩
  · rw [if_neg z] at e
    subst e
    exact ⟨q0.2, h0, by rw [if_neg z]⟩
theorem uniq_val {cs : Cts} (nd : (cs.map (·.1)).Nodup) {p : Str} {a b : Int} (h1 : (p, a) ∈ cs) (h2 : (p, b) ∈ cs) : a = b := by
  have e1 := mem_getA nd h1
  have e2 := mem_getA nd h2
  rw [e1] at e2
  exact Option.some.inj e2
theorem dec_nn {cs : Cts} (nd : (cs.map (·.1)).Nodup) (h0 : ∀ q ∈ cs, 0 ≤ q.2) {p : Str} {c : Int} (h : (p, c) ∈ cs) (hc : 0 < c) : ∀ q ∈ decC cs p, 0 ≤ q.2 := fun q hq => by
  obtain ⟨x, hx, e⟩ := dec_mem hq
  have h1 : 0 ≤ x := h0 _ hx
  rw [e]
  split
  · rename_i z
    rw [z] at hx
    have := uniq_val nd h hx
    omega
  · exact h1
theorem count_cons' (p r : Str) (o : List Str) : ((p :: o).count r : Int) = (o.count r : Int) + if p = r then 1 else 0 := by
  rw [List.count_cons]
  by_cases h : p = r <;> simp [h]
theorem mem_ords : ∀ (n : Nat) (cs : Cts), (cs.map (·.1)).Nodup → (∀ q ∈ cs, 0 ≤ q.2) → total cs = n → ∀ o, o ∈ ords n cs ↔ (∀ p ∈ o, p ∈ cs.map (·.1)) ∧ ∀ q ∈ cs, (o.count q.1 : Int) = q.2
  | 0, cs, nd, h0, ht, o => by
    have hz : ∀ q ∈ cs, q.2 = 0 := fun q hq => by
      have h1 := h0 q hq
      have h2 := total_le h0 q hq
      rw [ht] at h2
      have : q.2 ≤ 0 := h2
      omega
    rw [ords, List.mem_singleton]
    constructor
    · rintro rfl
      exact ⟨fun p hp => by simp at hp, fun q hq => by rw [hz q hq]; rfl⟩
    · rintro ⟨h1, h2⟩
      cases o with
      | nil => rfl
      | cons p o =>
        obtain ⟨q, hq, e⟩ := List.mem_map.mp (h1 p List.mem_cons_self)
        have h3 := h2 q hq
        rw [hz q hq, count_cons', e, if_pos rfl] at h3
        omega
  | n + 1, cs, nd, h0, ht, o => by
    rw [ords, List.mem_flatMap]
    constructor
    · rintro ⟨q, hq, h⟩
      by_cases hc : 0 < q.2
      · rw [if_pos hc] at h
        obtain ⟨o', ho', rfl⟩ := List.mem_map.mp h
        have htd := total_dec nd (show (q.1, q.2) ∈ cs from hq)
        have ih := (mem_ords n (decC cs q.1) (by rw [decC_keys]; exact nd) (dec_nn nd h0 (show (q.1, q.2) ∈ cs from hq) hc) (by rw [htd, ht]; omega) o').mp ho'
        rw [decC_keys] at ih
        refine ⟨fun p hp => ?_, fun r hr => ?_⟩
        · rcases List.mem_cons.mp hp with rfl | hp
          · exact List.mem_map.mpr ⟨q, hq, rfl⟩
          · exact ih.1 p hp
        · have h3 := ih.2 _ (mem_dec (p := q.1) (show (r.1, r.2) ∈ cs from hr))
          dsimp only at h3
          rw [count_cons', h3]
          by_cases e : q.1 = r.1
          · rw [if_pos e.symm, if_pos e]; omega
          · rw [if_neg (fun z => e z.symm), if_neg e]; omega
      · rw [if_neg hc] at h; simp at h
    · rintro ⟨h1, h2⟩
      cases o with
      | nil =>
        have : total cs = 0 := total_zero fun q hq => (h2 q hq).symm
        omega
      | cons p o =>
        obtain ⟨q, hq, e⟩ := List.mem_map.mp (h1 p List.mem_cons_self)
        have e : q.1 = p := e
        subst e
        have hc : 0 < q.2 := by
          have h3 := h2 q hq
          rw [count_cons', if_pos rfl] at h3
          omega
        refine ⟨q, hq, ?_⟩
        rw [if_pos hc]
        refine List.mem_map.mpr ⟨o, ?_, rfl⟩
        have htd := total_dec nd (show (q.1, q.2) ∈ cs from hq)
        refine (mem_ords n (decC cs q.1) (by rw [decC_keys]; exact nd) (dec_nn nd h0 (show (q.1, q.2) ∈ cs from hq) hc) (by rw [htd, ht]; omega) o).mpr ⟨fun p hp => by rw [decC_keys]; exact h1 p (List.mem_cons_of_mem _ hp), fun r hr => ?_⟩
        obtain ⟨x, hx, ex⟩ := dec_mem hr
        have h3 := h2 _ hx
        dsimp only at h3
        rw [count_cons'] at h3
        rw [ex, ← h3]
        by_cases e : q.1 = r.1
        · rw [if_pos e, if_pos e.symm]; omega
        · rw [if_neg e, if_neg (fun z => e z.symm)]; omega
theorem ords_nd : ∀ (n : Nat) (cs : Cts), (cs.map (·.1)).Nodup → (ords n cs).Nodup
  | 0, cs, _ => by rw [ords]; simp
  | n + 1, cs, nd => by
    rw [ords]
    unfold List.Nodup
    rw [List.pairwise_flatMap]
    refine ⟨fun q hq => ?_, ?_⟩
    · split
      · exact List.Pairwise.map _ (fun a b hab e => hab (List.cons.inj e).2) (ords_nd n _ (by rw [decC_keys]; exact nd))
      · exact List.Pairwise.nil
    · refine List.Pairwise.imp ?_ (List.pairwise_map.mp nd)
      intro a b hab x hx y hy e
      subst e
      split at hx
      · obtain ⟨o1, _, rfl⟩ := List.mem_map.mp hx
        split at hy
        · obtain ⟨o2, _, e⟩ := List.mem_map.mp hy
          exact hab (List.cons.inj e).1.symm
        · simp at hy
      · simp at hx
theorem ords_ne : ∀ (n : Nat) (cs : Cts), (cs.map (·.1)).Nodup → (∀ q ∈ cs, 0 ≤ q.2) → total cs = n → ∃ o, o ∈ ords n cs
  | 0, cs, _, _, _ => ⟨[], by rw [ords]; exact List.mem_singleton.mpr rfl⟩
  | n + 1, cs, nd, h0, ht => by
    have : ∃ q ∈ cs, 0 < q.2 := by
      refine Classical.byContradiction fun hh => ?_
      have : total cs = 0 := total_zero fun q hq => by
        have h1 := h0 q hq
        have h2 : ¬ 0 < q.2 := fun z => hh ⟨q, hq, z⟩
        omega
      omega
    obtain ⟨q, hq, hc⟩ := this
    have htd := total_dec nd (show (q.1, q.2) ∈ cs from hq)
    obtain ⟨o, ho⟩ := ords_ne n (decC cs q.1) (by rw [decC_keys]; exact nd) (dec_nn nd h0 (show (q.1, q.2) ∈ cs from hq) hc) (by rw [htd, ht]; omega)
    exact ⟨q.1 :: o, by rw [ords]; exact List.mem_flatMap.mpr ⟨q, hq, by rw [if_pos hc]; exact List.mem_map.mpr ⟨o, ho, rfl⟩⟩⟩
theorem ords_len : ∀ (n : Nat) (cs : Cts), ∀ o ∈ ords n cs, o.length = n
  | 0, cs, o, h => by rw [ords, List.mem_singleton] at h; subst h; rfl
  | n + 1, cs, o, h => by
    rw [ords, List.mem_flatMap] at h
    obtain ⟨q, hq, h⟩ := h
    split at h
    · obtain ⟨o', ho', rfl⟩ := List.mem_map.mp h
      rw [List.length_cons, ords_len n _ o' ho']
    · simp at h
/-- read from the back: the same orders -/
theorem ords_rev {n : Nat} {cs : Cts} (nd : (cs.map (·.1)).Nodup) (h0 : ∀ q ∈ cs, 0 ≤ q.2) (ht : total cs = n) : ((ords n cs).map List.reverse).Perm (ords n cs) := by
  refine (List.perm_ext_iff_of_nodup ?_ (ords_nd n cs nd)).mpr fun o => ?_
  · exact List.Pairwise.map _ (fun a b hab e => hab (List.reverse_inj.mp e)) (ords_nd n cs nd)
  · rw [List.mem_map]
    constructor
    · rintro ⟨o', ho', rfl⟩
      rw [mem_ords n cs nd h0 ht] at ho' ⊢
      exact ⟨fun p hp => ho'.1 p (List.mem_reverse.mp hp), fun q hq => by rw [List.count_reverse]; exact ho'.2 q hq⟩
    · intro ho
      refine ⟨o.reverse, ?_, List.reverse_reverse o⟩
      rw [mem_ords n cs nd h0 ht] at ho ⊢
      exact ⟨fun p hp => ho.1 p (List.mem_reverse.mp hp), fun q hq => by rw [List.count_reverse]; exact ho.2 q hq⟩
/-! ### how many orders lead to ms -/
theorem passL_cons (rs : Rks) (left : List Str) (p : Str) (s : List Str) : passL rs left (p :: s) = passL rs (later rs left p) s := rfl
theorem passL_sub (rs : Rks) : ∀ (s left : List Str), (passL rs left s).Sublist left
  | [], left => List.Sublist.refl _
  | p :: s, left => (passL_sub rs s (later rs left p)).trans List.filter_sublist
theorem sum_flat {P : List Str → Bool} {f : Str × Int → Int} {h : Str × Int → List (List Str)} : ∀ l : Cts, (∀ q ∈ l, f q = ((h q).countP P : Nat)) → (l.map f).sum = ((l.flatMap h).countP P : Nat)
  | [], _ => rfl
  | q :: r, e => by
    rw [List.map_cons, List.sum_cons, List.flatMap_cons, List.countP_append, e q List.mem_cons_self, sum_flat r fun q hq => e q (List.mem_cons_of_mem _ hq)]
    exact (Int.natCast_add _ _).symm
theorem countP_map' {α β : Type} (P : β → Bool) (f : α → β) : ∀ l : List α, (l.map f).countP P = l.countP fun x => P (f x)
  | [] => rfl
  | a :: r => by rw [List.map_cons, List.countP_cons, List.countP_cons, countP_map' P f r]
theorem countP_zero {α : Type} {P : α → Bool} : ∀ {l : List α}, (∀ x ∈ l, P x = false) → l.countP P = 0
  | [], _ => rfl
  | a :: r, h => by rw [List.countP_cons, countP_zero fun x hx => h x (List.mem_cons_of_mem _ hx), h a List.mem_cons_self]; rfl
theorem cOrd_is {rs : Rks} {A ms : List Str} (g : GK rs A) : ∀ (n k : Nat) (cs : Cts) (left : List Str), (cs.map (·.1)).Nodup → (∀ q ∈ cs, 0 ≤ q.2) → (∀ q ∈ cs, q.1 ∈ rs.map (·.1)) → total cs = n → n < k → left.Nodup → (∀ x ∈ left, x ∈ A) → left.length = ms.length + n →
    cOrd rs ms k cs left = ((ords n cs).countP fun s => decide (passL rs left s = ms) : Nat)
  | 0, 0, _, _, _, _, _, _, hk, _, _, _ => absurd hk (by omega)
  | 0, k + 1, cs, left, _, _, _, _, _, _, _, hl => by
    unfold cOrd
    rw [if_pos (by omega), ords]
    show _ = ((([[]] : List (List Str)).countP fun s => decide (passL rs left s = ms) : Nat) : Int)
    rw [List.countP_cons]
    show _ = (((0 : Nat) + if (decide (left = ms)) = true then 1 else 0 : Nat) : Int)
    by_cases e : left = ms
    · rw [if_pos e, if_pos (decide_eq_true e)]; rfl
    · rw [if_neg e, if_neg (by rw [decide_eq_false e]; decide)]; rfl
  | n + 1, 0, _, _, _, _, _, _, hk, _, _, _ => absurd hk (by omega)
  | n + 1, k + 1, cs, left, nd, h0, hsub, ht, hk, hn, hA, hl => by
    unfold cOrd
    rw [if_neg (by omega), ords]
    refine sum_flat cs fun q hq => ?_
    unfold cTerm
    by_cases hc : 0 < q.2
    · rw [if_pos hc, if_pos hc, countP_map']
      have hne : left ≠ [] := fun e => by rw [e] at hl; simp at hl
      obtain ⟨_, w2, _⟩ := wst_is g hA hne (hsub q hq)
      have hll := later_length hn w2
      have htd := total_dec nd (show (q.1, q.2) ∈ cs from hq)
      by_cases hw : (ms.all fun x => decide (x ∈ later rs left q.1)) = true
      · rw [if_pos hw]
        refine cOrd_is g n k (decC cs q.1) (later rs left q.1) (by rw [decC_keys]; exact nd) (dec_nn nd h0 (show (q.1, q.2) ∈ cs from hq) hc) (fun r hr => ?_) (by rw [htd, ht]; omega) (by omega) (hn.sublist List.filter_sublist) (fun x hx => hA x (List.mem_filter.mp hx).1) (by omega)
        obtain ⟨x, hx, _⟩ := dec_mem hr
        exact hsub (r.1, x) hx
      · rw [if_neg hw]
        rw [countP_zero]
        · rfl
        · intro s _
          refine decide_eq_false fun e => hw (List.all_eq_true.mpr fun x hx => decide_eq_true ?_)
          rw [passL_cons] at e
          rw [← e] at hx
          exact (passL_sub rs s _).subset hx
    · rw [if_neg hc, if_neg hc]; rfl
/-! ### an assignment from an order -/
theorem later_not {rs : Rks} {left : List Str} {p : Str} : wst rs left p ∉ later rs left p := fun h => by
  have := (List.mem_filter.mp h).2
  simp at this
theorem ord_asg {rs : Rks} {A ms : List Str} (g : GK rs A) : ∀ (s left : List Str), GC left → (∀ x ∈ left, x ∈ A) → (∀ p ∈ s, p ∈ rs.map (·.1)) → s.length ≤ left.length → passL rs left s = ms → ∃ own, TI rs A ms own left ∧ ∀ r, cnt own r = s.count r
  | [], left, gl, la, _, _, e => by
    have e : left = ms := e
    subst e
    exact ⟨[], ⟨gl, la, fun x h => h, List.Pairwise.nil, fun x => ⟨fun h => by simp at h, fun h => absurd h.1 h.2⟩, fun x p h => by rw [getA_nil] at h; cases h⟩, fun r => rfl⟩
  | p :: s, left, gl, la, hp, hl, e => by
    have hne : left ≠ [] := fun z => by rw [z] at hl; simp at hl
    obtain ⟨_, w2, w3⟩ := wst_is g la hne (hp p List.mem_cons_self)
    have hll := later_length gl.1.nodup w2
    rw [passL_cons] at e
    rw [List.length_cons] at hl
    obtain ⟨own, ti, hc⟩ := ord_asg g s (later rs left p) ⟨gl.1.filter _, fun x hx => gl.2.1 x (List.mem_filter.mp hx).1, Nat.le_trans (List.length_filter_le _ _) gl.2.2⟩ (fun x hx => la x (List.mem_filter.mp hx).1) (fun q hq => hp q (List.mem_cons_of_mem _ hq)) (by omega) e
    have hnm : wst rs left p ∉ ms := fun h => later_not (ti.ml _ h)
    have hno : wst rs left p ∉ own.map (·.1) := fun h => later_not ((ti.keys _).mp h).1
    refine ⟨(wst rs left p, p) :: own, ⟨gl, la, fun x hx => (List.mem_filter.mp (ti.ml x hx)).1, List.nodup_cons.mpr ⟨hno, ti.nd⟩, fun x => ?_, fun x r h => ?_⟩, fun r => ?_⟩
    · rw [List.map_cons, List.mem_cons, ti.keys x]
      constructor
      · rintro (rfl | ⟨h1, h2⟩)
        · exact ⟨w2, hnm⟩
        · exact ⟨(List.mem_filter.mp h1).1, h2⟩
      · rintro ⟨h1, h2⟩
        by_cases ex : x = wst rs left p
        · exact .inl ex
        · exact .inr ⟨List.mem_filter.mpr ⟨h1, by simp [ex]⟩, h2⟩
    · rw [getA_cons] at h
      by_cases ex : wst rs left p = x
      · rw [if_pos ex] at h
        injection h with h
        subst h
        refine ⟨hp _ List.mem_cons_self, List.all_eq_true.mpr fun m hm => decide_eq_true ?_⟩
        rw [← ex]
        have hml : m ∈ left := (List.mem_filter.mp (ti.ml m hm)).1
        have h1 := w3 m hml
        have hmo : m ∈ rkOf rs p := by
          obtain ⟨q, hq, e⟩ := List.mem_map.mp (hp p List.mem_cons_self)
          have e : q.1 = p := e
          rw [← e, rkOf_mem g.nd hq]
          exact (g.mem hq m).mpr (la m hml)
        have hwo : wst rs left p ∈ rkOf rs p := by
          obtain ⟨q, hq, e⟩ := List.mem_map.mp (hp p List.mem_cons_self)
          have e : q.1 = p := e
          have e2 : rkOf rs p = q.2 := by rw [← e]; exact rkOf_mem g.nd hq
          rw [e2]
          exact (g.mem hq _).mpr (la _ w2)
        have h2 : (rkOf rs p).idxOf m ≠ (rkOf rs p).idxOf (wst rs left p) := fun z => by
          have a1 := get_idx hmo
          have a2 := get_idx hwo
          rw [z, a2] at a1
          exact hnm (Option.some.inj a1 ▸ hm)
        show (rkOf rs p).idxOf m < (rkOf rs p).idxOf (wst rs left p)
        omega
      · rw [if_neg ex] at h
        exact ti.el x r h
    · rw [cnt_cons, hc, List.count_cons]
      by_cases e : p = r <;> simp [e] <;> omega
/-! ### an order from an assignment -/
theorem ex_exch {own : Own} {tg : Str → Str} (htg : ∀ x p, getA own x = some p → tg p ∈ own.map (·.1)) : ∀ (k : Nat) (path : List Str) (p : Str), own.length + 1 ≤ path.length + k → Chain own tg path p → path.Nodup → (∀ m ∈ path, ∃ x, getA own x = some m) → (∃ x, getA own x = some p) → ∃ own' z, Exch own tg own' z
  | 0, path, p, hk, hc, hn, hv, hp => by
    have : path.length ≤ (own.map (·.2)).length := hn.length_le_of_subset fun m hm => by
      obtain ⟨x, hx⟩ := hv m hm
      exact List.mem_map.mpr ⟨(x, m), getA_mem hx, rfl⟩
    rw [List.length_map] at this
    omega
  | k + 1, path, p, hk, hc, hn, hv, hp => by
    by_cases hm : p ∈ path
    · have hj := get_idx hm
      have hlt := (List.getElem?_eq_some_iff.mp hj).1
      have hd : path.drop (path.idxOf p) = p :: path.drop (path.idxOf p + 1) := by
        rw [List.drop_eq_getElem_cons hlt]
        congr 1
        exact (List.getElem?_eq_some_iff.mp hj).2
      have hnd : (path.drop (path.idxOf p)).Nodup := hn.sublist (List.drop_sublist _ _)
      refine ⟨_, p, ⟨path.drop (path.idxOf p), by rw [hd]; rfl, ?_, chain_drop _ hc, rfl, fun m hm => hv m (List.mem_of_mem_drop hm)⟩⟩
      rw [hd] at hnd ⊢
      exact (List.perm_append_singleton p _).nodup_iff.mpr hnd
    · obtain ⟨x, hx⟩ := hp
      obtain ⟨q, hq⟩ := getA_of_key (htg x p hx)
      refine ex_exch htg k (path ++ [p]) q (by rw [List.length_append, List.length_singleton]; omega) (chain_snoc hq hc) ?_ (fun m hm => ?_) ⟨_, hq⟩
      · exact (List.perm_append_singleton p path).nodup_iff.mpr (List.nodup_cons.mpr ⟨hm, hn⟩)
      · rcases List.mem_append.mp hm with h | h
        · exact hv m h
        · rw [List.mem_singleton.mp h]; exact ⟨x, hx⟩
theorem cnt_del : ∀ {own : Own}, (own.map (·.1)).Nodup → ∀ {x z : Str}, getA own x = some z → (∀ r, cnt (delA own x) r + (if z = r then 1 else 0) = cnt own r) ∧ (delA own x).length + 1 = own.length
  | [], _, x, z, h => by rw [getA_nil] at h; cases h
  | q :: o, nd, x, z, h => by
    rw [List.map_cons, List.nodup_cons] at nd
    rw [getA_cons] at h
    by_cases e : q.1 = x
    · rw [if_pos e] at h
      have ez : q.2 = z := Option.some.inj h
      have hd : delA (q :: o) x = o := by
        unfold delA
        rw [List.filter_cons, if_neg (by simp [e])]
        refine List.filter_eq_self.mpr fun r hr => decide_eq_true fun er => nd.1 (List.mem_map.mpr ⟨r, hr, ?_⟩)
        rw [er, e]
      rw [hd]
      refine ⟨fun r => ?_, rfl⟩
      rw [cnt_cons, ez]
      omega
    · rw [if_neg e] at h
      have hd : delA (q :: o) x = q :: delA o x := by
        unfold delA
        rw [List.filter_cons, if_pos (by simp [e])]
      obtain ⟨ih1, ih2⟩ := cnt_del nd.2 h
      rw [hd]
      refine ⟨fun r => ?_, by rw [List.length_cons, List.length_cons, ih2]⟩
      rw [cnt_cons, cnt_cons]
      have := ih1 r
      omega
theorem asg_ord {rs : Rks} {A ms : List Str} (g : GK rs A) (gm : GC ms) : ∀ (n : Nat) (own : Own) (left : List Str), TI rs A ms own left → own.length = n → ∃ s : List Str, (∀ r, s.count r = cnt own r) ∧ passL rs left s = ms
  | 0, own, left, ti, hn => by
    have e : own = [] := List.length_eq_zero_iff.mp hn
    subst e
    refine ⟨[], fun r => rfl, ?_⟩
    exact SS.ext ti.gl.1 gm.1 fun x => ⟨fun h => Classical.byContradiction fun hx => by
      have := (ti.keys x).mpr ⟨h, hx⟩
      simp at this, ti.ml x⟩
  | n + 1, own, left, ti, hn => by
    obtain ⟨⟨x, p⟩, o', eo⟩ : ∃ q o', own = q :: o' := by
      cases own with
      | nil => simp at hn
      | cons q o' => exact ⟨q, o', rfl⟩
    have hx : getA own x = some p := by rw [eo, getA_cons, if_pos rfl]
    obtain ⟨own', z, ex⟩ := ex_exch (fun x p h => (ti.tgt g h).1) (own.length + 1) [] p (by simp) trivial List.Pairwise.nil (fun m hm => by simp at hm) ⟨x, hx⟩
    obtain ⟨t1, t2, t3, t4, t5, t6⟩ := ti.step g ex
    obtain ⟨d1, d2⟩ := cnt_del t5 t1
    obtain ⟨s, s1, s2⟩ := asg_ord g gm n (delA own' (wst rs left z)) (later rs left z) t6 (by omega)
    refine ⟨z :: s, fun r => ?_, s2⟩
    rw [List.count_cons, s1, ← t4, ← d1 r]
    by_cases e : z = r <;> simp [e]
theorem nd_map {α β : Type} {f : α → β} {l : List α} (h : (l.map f).Nodup) : l.Nodup := List.Pairwise.of_map f (fun _ _ hne e => hne (congrArg f e)) h
theorem cnt_perm {a b : Own} (h : a.Perm b) (p : Str) : cnt a p = cnt b p := by
  unfold cnt owned
  rw [List.length_map, List.length_map]
  exact (h.filter _).length_eq
/-- some order with these counts leads to ms: an assignment exists -/
theorem pos_iff {rs : Rks} {A ms : List Str} {cs : Cts} {n : Nat} (g : GK rs A) (ck : CK rs cs) (ht : total cs = n) (gm : GC ms) (hsub : ∀ x ∈ ms, x ∈ A) (ho : (others A ms).length = n) :
    (∃ asg, IsAsg rs A ms cs asg) ↔ ∃ s ∈ ords n cs, passL rs A s = ms := by
  have h0 : ∀ q ∈ cs, 0 ≤ q.2 := fun q hq => (ck.rng q hq).1
  constructor
  · rintro ⟨asg, ia⟩
    obtain ⟨s, s1, s2⟩ := asg_ord g gm _ asg A (ti_start g ia hsub) rfl
    refine ⟨s, (mem_ords n cs ck.nd h0 ht s).mpr ⟨fun p hp => ?_, fun q hq => ?_⟩, s2⟩
    · have h1 : 0 < s.count p := List.count_pos_iff.mpr hp
      rw [s1] at h1
      have h2 : owned asg p ≠ [] := fun e => by unfold cnt at h1; rw [e] at h1; simp at h1
      obtain ⟨x, hx⟩ := List.exists_mem_of_ne_nil _ h2
      rw [mem_owned] at hx
      have h3 := ((ti_start g ia hsub).el x p (mem_getA (ti_start g ia hsub).nd hx)).1
      exact (ck.keys g p).mpr h3
    · rw [s1]; exact ia.cn q hq
  · rintro ⟨s, hs, e⟩
    obtain ⟨m1, m2⟩ := (mem_ords n cs ck.nd h0 ht s).mp hs
    have hl := ords_len n cs s hs
    have hoA : (others A ms).length ≤ A.length := List.length_filter_le _ _
    obtain ⟨own, ti, hc⟩ := ord_asg g s A g.gc (fun x h => h) (fun p hp => (ck.keys g p).mp (m1 p hp)) (by omega) e
    have hk : ∀ x, x ∈ others A ms → ∃ p, getA own x = some p := fun x hx => by
      obtain ⟨h1, h2⟩ := List.mem_filter.mp hx
      exact getA_of_key ((ti.keys x).mpr ⟨h1, by simpa using h2⟩)
    let asg : Own := (others A ms).map fun x => (x, (getA own x).getD "")
    have hkeys : asg.map (·.1) = others A ms := by
      show ((others A ms).map fun x => (x, (getA own x).getD "")).map (·.1) = _
      rw [List.map_map]
      conv => rhs; rw [← List.map_id (others A ms)]
      exact List.map_congr_left fun x _ => rfl
    have hnd := others_nd (A := A) (ms := ms) g.gc
    have hget : ∀ x p, getA asg x = some p → getA own x = some p := fun x p h => by
      have hm := getA_mem h
      obtain ⟨y, hy, ey⟩ := List.mem_map.mp hm
      injection ey with e1 e2
      subst e1
      obtain ⟨r, hr⟩ := hk y hy
      rw [hr] at e2 ⊢
      exact congrArg some e2
    have hperm : asg.Perm own := by
      refine (List.perm_ext_iff_of_nodup (nd_map (f := (·.1)) (by rw [hkeys]; exact hnd)) (nd_map (f := (·.1)) ti.nd)).mpr fun q => ⟨fun hq => ?_, fun hq => ?_⟩
      · have := mem_getA (by rw [hkeys]; exact hnd) (show (q.1, q.2) ∈ asg from hq)
        exact getA_mem (hget _ _ this)
      · have hk1 := (ti.keys q.1).mp (List.mem_map.mpr ⟨q, hq, rfl⟩)
        refine List.mem_map.mpr ⟨q.1, List.mem_filter.mpr ⟨hk1.1, by simpa using hk1.2⟩, ?_⟩
        rw [mem_getA ti.nd (show (q.1, q.2) ∈ own from hq)]
        rfl
    refine ⟨asg, hkeys, fun x p h => ?_, fun q hq => ?_⟩
    · obtain ⟨e1, e2⟩ := ti.el x p (hget x p h)
      exact List.mem_filter.mpr ⟨(mem_srt p _).mpr e1, e2⟩
    · rw [cnt_perm hperm, hc]; exact m2 q hq
end Fl
namespace Fl
open PySem PySem.Spec L2
/-! ### the choices: all parts of that size, in order -/
theorem sub_at {a : Str} {r : List Str} : ∀ {names : List Str}, (a :: r).Sublist names → ∃ i, ∃ h : i < names.length, names[i] = a ∧ r.Sublist (names.drop (i + 1))
  | [], h => by cases h
  | b :: t, h => by
    cases h with
    | cons _ h =>
      obtain ⟨i, hi, e, s⟩ := sub_at h
      exact ⟨i + 1, by rw [List.length_cons]; omega, e, s⟩
    | cons_cons _ h => exact ⟨0, by rw [List.length_cons]; omega, rfl, h⟩
theorem mem_chs : ∀ (k : Nat) (names x : List Str), x.Sublist names → x.length = k → x ∈ chs names k
  | 0, names, x, _, hl => by
    rw [List.length_eq_zero_iff] at hl
    subst hl
    rw [chs]
    exact List.mem_singleton.mpr rfl
  | k + 1, names, [], _, hl => by simp at hl
  | k + 1, names, a :: r, hs, hl => by
    obtain ⟨i, hi, e, s⟩ := sub_at hs
    rw [List.length_cons] at hl
    have h1 := s.length_le
    rw [List.length_drop] at h1
    rw [chs, List.mem_flatMap]
    refine ⟨i, List.mem_range.mpr (by omega), List.mem_map.mpr ⟨r, mem_chs k _ r s (by omega), ?_⟩⟩
    rw [List.getD_eq_getElem?_getD, List.getElem?_eq_getElem hi, e]; rfl
/-- lists of texts in order: the first that differ tell -/
def lexS : List Str → List Str → Bool
  | [], [] => false
  | [], _ :: _ => true
  | _ :: _, [] => false
  | a :: r, b :: t => if a = b then lexS r t else ltS a b
theorem chs_lex : ∀ (k : Nat) (names : List Str), SS names → (chs names k).Pairwise fun x y => lexS x y = true
  | 0, names, _ => by rw [chs]; exact List.pairwise_singleton _ _
  | k + 1, names, hs => by
    rw [chs, List.pairwise_flatMap]
    refine ⟨fun i hi => List.Pairwise.map _ (fun x y h => ?_) (chs_lex k _ (hs.sub (List.drop_sublist _ _))), ?_⟩
    · show lexS (_ :: x) (_ :: y) = true
      unfold lexS
      rw [if_pos rfl]; exact h
    · refine List.Pairwise.imp_of_mem ?_ (List.pairwise_lt_range (n := names.length - k))
      intro i j hi hj hij x hx y hy
      rw [List.mem_range] at hi hj
      obtain ⟨x', _, rfl⟩ := List.mem_map.mp hx
      obtain ⟨y', _, rfl⟩ := List.mem_map.mp hy
      have h1 : i < names.length := by omega
      have h2 : j < names.length := by omega
      have e1 : names.getD i "" = names[i] := by rw [List.getD_eq_getElem?_getD, List.getElem?_eq_getElem h1]; rfl
      have e2 : names.getD j "" = names[j] := by rw [List.getD_eq_getElem?_getD, List.getElem?_eq_getElem h2]; rfl
      have h3 : ltS names[i] names[j] = true := List.pairwise_iff_getElem.mp hs i j h1 h2 hij
      rw [e1, e2]
      unfold lexS
      rw [if_neg (fun e => by rw [e, ltS_irr] at h3; cases h3)]
      exact h3
theorem lex_irr : ∀ x : List Str, lexS x x = false
  | [] => rfl
  | a :: r => by unfold lexS; rw [if_pos rfl]; exact lex_irr r
theorem chs_nd (k : Nat) {names : List Str} (hs : SS names) : (chs names k).Nodup := (chs_lex k names hs).imp fun h e => by rw [e, lex_irr] at h; cases h
theorem pcs_lex {rs : Rks} {A : List Str} {cs : Cts} (g : GK rs A) : (pcs rs A cs).Pairwise fun x y => lexS x y = true := (chs_lex _ A g.gc.1).sublist List.filter_sublist
theorem pcs_nd {rs : Rks} {A : List Str} {cs : Cts} (g : GK rs A) : (pcs rs A cs).Nodup := (chs_nd _ g.gc.1).sublist List.filter_sublist
/-! ### the outcomes -/
theorem pass_len {rs : Rks} {A : List Str} (g : GK rs A) : ∀ (s left : List Str), left.Nodup → (∀ x ∈ left, x ∈ A) → (∀ p ∈ s, p ∈ rs.map (·.1)) → s.length ≤ left.length → (passL rs left s).length + s.length = left.length
  | [], left, _, _, _, _ => rfl
  | p :: s, left, hn, hA, hp, hl => by
    rw [List.length_cons] at hl
    have hne : left ≠ [] := fun e => by rw [e] at hl; simp at hl
    obtain ⟨_, w2, _⟩ := wst_is g hA hne (hp p List.mem_cons_self)
    have hll := later_length hn w2
    have := pass_len g s (later rs left p) (hn.sublist List.filter_sublist) (fun x hx => hA x (List.mem_filter.mp hx).1) (fun q hq => hp q (List.mem_cons_of_mem _ hq)) (by omega)
    rw [passL_cons, List.length_cons]
    omega
structure Prm (rs : Rks) (A : List Str) (cs : Cts) (n : Nat) : Prop where
  g : GK rs A
  ck : CK rs cs
  tot : total cs = n
  le : n ≤ A.length
theorem Prm.h0 {rs : Rks} {A : List Str} {cs : Cts} {n : Nat} (p : Prm rs A cs n) : ∀ q ∈ cs, 0 ≤ q.2 := fun q hq => (p.ck.rng q hq).1
theorem Prm.ords {rs : Rks} {A : List Str} {cs : Cts} {n : Nat} (p : Prm rs A cs n) {o : List Str} (h : o ∈ ords n cs) : (∀ q ∈ o, q ∈ rs.map (·.1)) ∧ o.length = n :=
  ⟨fun q hq => (p.ck.keys p.g q).mp (((mem_ords n cs p.ck.nd p.h0 p.tot o).mp h).1 q hq), ords_len n cs o h⟩
theorem Prm.rev {rs : Rks} {A : List Str} {cs : Cts} {n : Nat} (p : Prm rs A cs n) {o : List Str} (h : o ∈ Fl.ords n cs) : o.reverse ∈ Fl.ords n cs :=
  (ords_rev p.ck.nd p.h0 p.tot).mem_iff.mp (List.mem_map.mpr ⟨o, h, rfl⟩)
theorem Prm.out {rs : Rks} {A : List Str} {cs : Cts} {n : Nat} (p : Prm rs A cs n) {o : List Str} (h : o ∈ Fl.ords n cs) : (passL rs A o.reverse).Sublist A ∧ (passL rs A o.reverse).length = A.length - n := by
  have h2 := p.rev h
  obtain ⟨h3, h4⟩ := p.ords h2
  have := pass_len p.g o.reverse A p.g.gc.1.nodup (fun x h => h) h3 (by rw [h4]; exact p.le)
  exact ⟨passL_sub rs _ _, by rw [h4] at this; omega⟩
theorem Prm.oth {rs : Rks} {A ms : List Str} {cs : Cts} {n : Nat} (p : Prm rs A cs n) (hs : ms.Sublist A) (hl : ms.length = A.length - n) : (others A ms).length = n := by
  have := others_len p.g.gc (p.g.gc.sub hs) fun x hx => hs.subset hx
  have := p.le
  omega
/-- what possible_committees yields: the outcomes -/
theorem mem_pcs {rs : Rks} {A : List Str} {cs : Cts} {n : Nat} (p : Prm rs A cs n) (C : List Str) : C ∈ pcs rs A cs ↔ ∃ o ∈ ords n cs, passL rs A o.reverse = C := by
  have hn : (total cs).toNat = n := by rw [p.tot]; exact Int.toNat_natCast n
  unfold pcs
  rw [List.mem_filter, hn]
  constructor
  · rintro ⟨h1, h2⟩
    have hs := chs_sub _ _ C h1
    have hl := chs_len _ _ C h1
    have h3 : ∃ asg, IsAsg rs A C cs asg := Classical.byContradiction fun hh => by
      rw [posb_false fun a ia => hh ⟨a, ia⟩] at h2; cases h2
    obtain ⟨s, s1, s2⟩ := (pos_iff p.g p.ck p.tot (p.g.gc.sub hs) (fun x hx => hs.subset hx) (p.oth hs hl)).mp h3
    exact ⟨s.reverse, p.rev s1, by rw [List.reverse_reverse]; exact s2⟩
  · rintro ⟨o, ho, rfl⟩
    obtain ⟨hs, hl⟩ := p.out ho
    exact ⟨mem_chs _ _ _ hs hl, posb_true ((pos_iff p.g p.ck p.tot (p.g.gc.sub hs) (fun x hx => hs.subset hx) (p.oth hs hl)).mpr ⟨o.reverse, p.rev ho, rfl⟩)⟩
/-- how many orders lead to C -/
theorem cOrd_many {rs : Rks} {A C : List Str} {cs : Cts} {n : Nat} (p : Prm rs A cs n) (hl : C.length = A.length - n) (h9 : n < 9) : cOrd rs C 9 cs A = (((ords n cs).map fun o => passL rs A o.reverse).count C : Nat) := by
  have := p.le
  rw [cOrd_is p.g n 9 cs A p.ck.nd p.h0 p.ck.sub p.tot h9 p.g.gc.1.nodup (fun x h => h) (by omega)]
  congr 1
  rw [← (ords_rev p.ck.nd p.h0 p.tot).countP_eq]
  rw [countP_map']
  unfold List.count
  rw [countP_map']
  refine List.countP_congr fun o _ => ?_
  simp
/-- a committee with n others: the orders lead there or not -/
theorem asg_many {rs : Rks} {A C : List Str} {cs : Cts} {n : Nat} (p : Prm rs A cs n) (hs : C.Sublist A) (hl : C.length = A.length - n) : (∃ asg, IsAsg rs A C cs asg) ↔ 0 < ((ords n cs).map fun o => passL rs A o.reverse).count C := by
  rw [pos_iff p.g p.ck p.tot (p.g.gc.sub hs) (fun x hx => hs.subset hx) (p.oth hs hl), List.count_pos_iff, List.mem_map]
  constructor
  · rintro ⟨s, s1, s2⟩
    exact ⟨s.reverse, p.rev s1, by rw [List.reverse_reverse]; exact s2⟩
  · rintro ⟨o, ho, e⟩
    exact ⟨o.reverse, p.rev ho, e⟩
theorem pcs_ne {rs : Rks} {A : List Str} {cs : Cts} {n : Nat} (p : Prm rs A cs n) : ∃ C, C ∈ pcs rs A cs := by
  obtain ⟨o, ho⟩ := ords_ne n cs p.ck.nd p.h0 p.tot
  exact ⟨_, (mem_pcs p _).mpr ⟨o, ho, rfl⟩⟩
/-! ### membership -/
def dueOf (found : List (List Str)) (x : Str) : Str :=
  if (found.filter fun C => decide (x ∈ C)).length = 0 then "none" else if (found.filter fun C => decide (x ∈ C)).length = found.length then "all" else "some"
theorem memb_due {rs : Rks} {A : List Str} {cs : Cts} (x : Str) (h : ∃ C, C ∈ pcs rs A cs) : memb rs A cs x = dueOf (pcs rs A cs) x := by
  unfold memb dueOf
  generalize pcs rs A cs = l at h
  have e1 : (l.all fun C => decide (x ∈ C)) = true ↔ (l.filter fun C => decide (x ∈ C)).length = l.length := by
    rw [List.length_filter_eq_length_iff, List.all_eq_true]
  have e2 : (l.any fun C => decide (x ∈ C)) = true ↔ (l.filter fun C => decide (x ∈ C)).length ≠ 0 := by
    rw [List.any_eq_true]
    constructor
    · rintro ⟨C, h1, h2⟩ h3
      rw [List.length_eq_zero_iff] at h3
      have : C ∈ l.filter fun C => decide (x ∈ C) := List.mem_filter.mpr ⟨h1, h2⟩
      rw [h3] at this
      simp at this
    · intro h3
      obtain ⟨C, hC⟩ := List.exists_mem_of_ne_nil (l.filter fun C => decide (x ∈ C)) (fun e => h3 (by rw [e]; rfl))
      exact ⟨C, List.mem_filter.mp hC⟩
  have hl : l.length ≠ 0 := fun e => by
    obtain ⟨C, hC⟩ := h
    rw [List.length_eq_zero_iff] at e
    rw [e] at hC
    simp at hC
  by_cases h0 : (l.filter fun C => decide (x ∈ C)).length = 0
  · rw [if_pos h0, if_neg (fun z => by rw [e1] at z; omega), if_neg (fun z => (e2.mp z) h0)]
  · rw [if_neg h0]
    by_cases h1 : (l.filter fun C => decide (x ∈ C)).length = l.length
    · rw [if_pos h1, if_pos (e1.mpr h1)]
    · rw [if_neg h1, if_neg (fun z => h1 (e1.mp z)), if_pos (e2.mpr h0)]
/-! ### sizes -/
theorem binom_len : ∀ (k : Nat) (names : List Str), names.length ≤ 6 → (chs names k).length ≤ 20 ∧ (2 ≤ names.length → (chs names k).length ≤ 20) := by
  intro k names h
  have hlen : ∀ (k : Nat) (a b : List Str), a.length = b.length → (chs a k).length = (chs b k).length := by
    intro k
    induction k with
    | zero => intro a b _; rfl
    | succ k ih =>
      intro a b e
      rw [chs, chs, List.length_flatMap, List.length_flatMap, e]
      congr 1
      refine List.map_congr_left fun i _ => ?_
      rw [List.length_map, List.length_map]
      exact ih _ _ (by rw [List.length_drop, List.length_drop, e])
  have tab : ∀ n < 7, ∀ k < 8, (chs (List.replicate n ("" : Str)) k).length ≤ 20 := by decide +kernel
  have e := hlen k names (List.replicate names.length "") (by rw [List.length_replicate])
  have big : (chs names k).length ≤ 20 := by
    by_cases hk : k < 8
    · rw [e]; exact tab _ (by omega) k hk
    · have : chs names k = [] := by
        refine List.eq_nil_iff_forall_not_mem.mpr fun x hx => ?_
        have h1 := chs_len k names x hx
        have h2 := (chs_sub k names x hx).length_le
        omega
      rw [this]; decide
  exact ⟨big, fun _ => big⟩
theorem pcs_len {rs : Rks} {A : List Str} {cs : Cts} (h : A.length ≤ 6) : (pcs rs A cs).length ≤ 20 := by
  unfold pcs
  exact Nat.le_trans (List.length_filter_le _ _) (binom_len _ _ h).1
end Fl
namespace Fl
open PySem PySem.Spec L2
/-! ### the calls: set(texts), sorted(set), len(set) -/
def TSetO (w : World) (a : Addr) (S : Str → Bool) (n : Nat) : HO := .ext fun h => TSet w h a S n
theorem tsetO_new {w : World} {P : Program} {H : Hp} {h : Heap} {a : Addr} {S : Str → Bool} {n : Nat} (R : TSet w h a S n) : ObjOk P w H h a (TSetO w a S n) := by
  have ⟨o, _, _, _, ho, _⟩ := R
  exact ⟨R, ⟨o, ho⟩, fun h1 h2 p k => TSet.at p k⟩
section
variable {X : Cx}
def rTset (K : PySem.W.Frag) (w : World) : List V → Hp → VK → Prop := fun vs H Q => ∃ (l : Addr) (xs : List Str), vs = [V.ref l] ∧ SqL K H l (sv xs) ∧ xs.length < 4000 ∧
  ∀ (a : Addr) (n : Nat) (ks : List Str), ks.Nodup → ks.length = n → (∀ k, k ∈ ks ↔ k ∈ xs) → H a = none → Q (.ref a) (upd H a (TSetO w a (fun j => decide (j ∈ xs)) n))
theorem cr_tset (hc : X.calm = true) (K : PySem.W.Frag) (hK : X.K = K := by rfl) : CallR X (.type "set") (rTset K X.w) := by
  subst hK
  intro pins s σ H vs us Q I r h
  obtain ⟨l, xs, rfl, hl, hb, q⟩ := h
  rw [Vals.ref1 r]
  obtain ⟨its, rv, pl, hz⟩ := I.list hl
  have hn : H s.heap.objs.size = none := I.hok.fresh (Nat.le_refl _)
  refine call_tset (P := X.prog) (w := X.w) xs (I.ok.hd hc) pl.isList (by simpa using Vals.strs rv) (by show xs.length + 1 < 4096; omega) fun h' tk c R hcl k => ?_
  obtain ⟨o, es, ep, t, ho, hex, hd, g, nd, hm, hb2, hf, hn2, r2⟩ := id R
  refine ⟨.ref s.heap.objs.size, upd H s.heap.objs.size (TSetO X.w s.heap.objs.size (fun j => decide (j ∈ xs)) c), I.laid (t' := tk) k (Nat.le_refl _) (tsetO_new R), rfl, q _ c (es.toList.map skey) nd ?_ (fun z => ?_) hn⟩
  · rw [List.length_map, Array.length_toList]; exact hn2
  · rw [← hm z]; exact decide_eq_true_iff
def rSortT (w : World) : List V → Hp → VK → Prop := fun vs H Q => ∃ (a : Addr) (S : Str → Bool) (n : Nat), vs = [V.ref a] ∧ H a = some (TSetO w a S n) ∧ n < 64 ∧
  ∀ (zs : List Str) (p : Addr), SS zs → (∀ k, k ∈ zs ↔ S k = true) → H p = none → Q (.ref p) (upd H p (.lst (sv zs)))
theorem cr_sortT (hc : X.calm = true) : CallR X (.builtin "sorted") (rSortT X.w) := by
  intro pins s σ H vs us Q I r h
  obtain ⟨a, S, n, rfl, ha, h64, q⟩ := h
  have R : TSet X.w s.heap a S n := (I.hok a _ ha).1
  rw [Vals.ref1 r]
  refine sorted_tset R (I.ok.hd hc) h64 fun s' p out c ns k g o hp hg hi hs hnd hm hl => ?_
  have hlen : (sv ns).length ≤ sizeLine := by rw [List.length_map, hl, sizeLine_eq]; omega
  have hn : H p = none := I.hok.fresh hp
  have J : Inv X pins σ (upd H p (.lst (sv ns))) { s with heap := s'.heap, gens := s'.gens, drawn := s'.drawn, toks := s'.toks } :=
    I.call (ch := []) (Un.laid k hp hn) (I.hok.laid k hp ⟨hlen, out.toList, c, vals_of_strs hi, hg⟩) (by rw [g]; exact I.bare) (fun _ z => nomatch z)
  have e : s' = { s with heap := s'.heap, gens := s'.gens, drawn := s'.drawn, toks := s'.toks } := by
    cases s'
    cases s
    cases o
    rfl
  rw [e]
  exact ⟨.ref p, _, J, rfl, q ns p (SS.of_sorted (sortedS_pw hs) hnd) hm hn⟩
def rLenT (w : World) : List V → Hp → VK → Prop := fun vs H Q => ∃ (a : Addr) (S : Str → Bool) (n : Nat), vs = [V.ref a] ∧ H a = some (TSetO w a S n) ∧ Q (.int n) H
theorem cr_lenT : CallR X (.builtin "len") (rLenT X.w) := by
  intro pins s σ H vs us Q I r h
  obtain ⟨a, S, n, rfl, ha, q⟩ := h
  obtain ⟨o, es, ep, t, ho, hex, hd, g, nd, hm, hb2, hf, hn2, r2⟩ := (show TSet X.w s.heap a S n from (I.hok a _ ha).1)
  rw [Vals.ref1 r]
  have hb3 : es.size < 4096 := hb2
  refine call_len_set ho hex hd hf (by omega) ?_
  exact ⟨.int n, H, (I.tok _).tok _, ⟨_, by rw [hn2]⟩, q⟩
end
/-! ### list >= list of texts -/
theorem first_lex {xs ys : List Str} (hl : xs.length = ys.length) (fin : Bool) : ∀ (k i : Nat), i + k = xs.length → lexS (xs.drop i) (ys.drop i) = true →
    SeqAt.firstLt (fun j => xs.getD j "" == ys.getD j "") (fun j => !decide ((xs.getD j "").cps.toList < (ys.getD j "").cps.toList)) fin (List.range' i k) = false
  | 0, i, hk, h => by
    rw [List.drop_eq_nil_of_le (by omega), List.drop_eq_nil_of_le (by omega)] at h
    cases h
  | k + 1, i, hk, h => by
    have h1 : i < xs.length := by omega
    have h2 : i < ys.length := by omega
    rw [List.drop_eq_getElem_cons h1, List.drop_eq_getElem_cons h2] at h
    have e1 : xs.getD i "" = xs[i] := by rw [List.getD_eq_getElem?_getD, List.getElem?_eq_getElem h1]; rfl
    have e2 : ys.getD i "" = ys[i] := by rw [List.getD_eq_getElem?_getD, List.getElem?_eq_getElem h2]; rfl
    unfold lexS at h
    rw [List.range'_succ]
    by_cases e : xs[i] = ys[i]
    · rw [if_pos e] at h
      rw [SeqAt.firstLt_yes (by rw [e1, e2, e]; exact beq_self_eq_true _)]
      exact first_lex hl fin k (i + 1) (by omega) h
    · rw [if_neg e] at h
      rw [SeqAt.firstLt_no (by rw [e1, e2]; exact beq_eq_false_iff_ne.mpr e), e1, e2]
      have : decide (xs[i].cps.toList < ys[i].cps.toList) = true := by rw [← PyProof.Rows.ltCps_eq]; exact h
      rw [this]; rfl
section
variable {X : Cx}
def rGeL (K : PySem.W.Frag) : R2 := fun x y H Q => ∃ (a b : Addr) (xs ys : List Str), x = .ref a ∧ y = .ref b ∧ SqL K H a (sv xs) ∧ SqL K H b (sv ys) ∧ xs.length = ys.length ∧ lexS xs ys = true ∧ Q (.bl false) H
theorem op_geL (hu : X.A.units + 64 < cLine) (K : PySem.W.Frag) (hK : X.K = K := by rfl) : OpR X (compareOp .GtE) (rGeL K) := by
  subst hK
  intro pins s σ H x y v u Q I rx ry h
  obtain ⟨a, b, xs, ys, rfl, rfl, ha, hb, hl, hlex, q⟩ := h
  cases rx
  cases ry
  obtain ⟨its, r1, p1, _⟩ := I.list ha
  obtain ⟨its2, r2, p2, _⟩ := I.list hb
  have i1 : PyProof.Rows.StrsAre its xs := Vals.strs r1
  have i2 : PyProof.Rows.StrsAre its2 ys := Vals.strs r2
  have e1 : its.toArray.size = xs.length := by rw [List.size_toArray, ← r1.length, List.length_map]
  have e2 : its2.toArray.size = ys.length := by rw [List.size_toArray, ← r2.length, List.length_map]
  have at1 : ∀ j (h1 : j < its.toArray.size), ∃ t, its.toArray[j] = .str (xs.getD j "") t := fun j h1 => _root_.SS.strs_at i1 j _ (by simp at h1; simp [h1])
  have at2 : ∀ j (h1 : j < its2.toArray.size), ∃ t, its2.toArray[j] = .str (ys.getD j "") t := fun j h1 => _root_.SS.strs_at i2 j _ (by simp at h1; simp [h1])
  have R := SeqAt.RcOp.lists_ge (A := X.A) (s := s) (e := fun j => xs.getD j "" == ys.getD j "") (r := fun j => !decide ((xs.getD j "").cps.toList < (ys.getD j "").cps.toList)) p1.isList p2.isList (by omega) (fun j h1 h2 => by
    obtain ⟨t, et⟩ := at1 j h1
    obtain ⟨t', et'⟩ := at2 j h2
    rw [et, et']
    exact SeqAt.EqAt.str_str _ _ _ _) (fun j h1 h2 _ => by
    obtain ⟨t, et⟩ := at1 j h1
    obtain ⟨t', et'⟩ := at2 j h2
    rw [et, et']
    exact fun prog w E Q h => PySem.P.ge_str h)
  rw [e1, e2, ← hl, Nat.min_self, List.range_eq_range', first_lex hl _ xs.length 0 (by omega) hlex] at R
  have z : wpAny (model X.prog X.w) X.A (compareOp .GtE (.ref a) (.ref b)) (EP X pins σ Q) X.xe s := R X.prog X.w X.xe (EP X pins σ Q) ⟨.bl _, H, I, rfl, q⟩
  exact z
end
/-! ### == of lists of lists of texts -/
theorem dp_nest {K : PySem.W.Frag} {H : Hp} : ∀ {ps : List Addr} {xss : List (List Str)}, Paired (fun p xs => SqL K H p (sv xs)) ps xss → DpAll K H (ps.map V.ref) (xss.map fun xs => .list (xs.map .str))
  | [], [], _ => .nil
  | p :: ps, xs :: xss, .cons h t => .cons (dp_strs h) (dp_nest t)
theorem eqv_nest : ∀ xs ys : List (List Str), PyData.eqvAll (xs.map fun x => .list (x.map .str)) (ys.map fun x => .list (x.map .str)) = decide (xs = ys)
  | [], [] => by simp [PyData.eqvAll]
  | [], _ :: _ => by simp [PyData.eqvAll]
  | _ :: _, [] => by simp [PyData.eqvAll]
  | x :: xs, y :: ys => by
    simp only [List.map_cons, PyData.eqvAll, eqv_lists, eqv_nest xs ys, List.cons.injEq, Bool.decide_and]
theorem eqv_nests (xs ys : List (List Str)) : PyData.eqv (.list (xs.map fun x => .list (x.map .str))) (.list (ys.map fun x => .list (x.map .str))) = decide (xs = ys) := by
  simp only [PyData.eqv, eqv_nest]
theorem shaped_nest {xss : List (List Str)} (h : ∀ xs ∈ xss, Nms xs) : SeqAt.shaped (.list (xss.map fun x => .list (x.map .str))) = true := by
  have h1 : ∀ l : List (List Str), (∀ xs ∈ l, Nms xs) → PyData.canLayAll0 (l.map fun x => PyData.list (x.map .str)) = true := by
    intro l
    induction l with
    | nil => intro _; rfl
    | cons a t ih =>
      intro h
      simp only [List.map_cons, PyData.canLayAll0, PyData.canLay0, canLay_all a (h a List.mem_cons_self), ih fun z hz => h z (List.mem_cons_of_mem _ hz), Bool.and_self]
  have h2 : ∀ l : List (List Str), PyData.depthAll (l.map fun x => PyData.list (x.map .str)) ≤ 1 := by
    intro l
    induction l with
    | nil => decide
    | cons a t ih =>
      simp only [List.map_cons, PyData.depthAll, PyData.depth, depth_all]
      omega
  have := h2 xss
  rw [SeqAt.shaped, Bool.and_eq_true]
  refine ⟨by simp only [PyData.canLay0]; exact h1 _ h, decide_eq_true ?_⟩
  simp only [PyData.depth]
  omega
end Fl
namespace Fl
open PySem PySem.Spec L2
open PyProof.Rows (envOfC)
def spLOwn : Sp := fun vs H Q _ => ∃ s, ∃ most : Nat, vs = [.ref s, .int most] ∧ StAt H s ∧ 1 ≤ most ∧ most ≤ 8 ∧
  ∀ p H' rs A, H p = none → But s H H' → StAt H' s → OwnAt H' p rs → GK rs A → A.length ≤ most → rs.length ≤ 3 → Q (.ref p) H'
/-- players in order, each with the names shuffled -/
def Shf (rs : Rks) (pl ys : List Str) : Prop := rs.map (fun q : Str × List Str => q.1) = pl ∧ ∀ q ∈ rs, q.2.Perm ys
theorem Shf.gk {rs : Rks} {pl ys : List Str} (h : Shf rs pl ys) (h1 : 1 ≤ pl.length) (h2 : pl.length ≤ 30) (pn : pl.Nodup) (pm : Nms pl) (yn : ys.Nodup) (ym : Nms ys) (yl : ys.length ≤ 30) : GK rs (srt ys) := by
  refine ⟨fun e => ?_, ?_, by rw [h.1]; exact pn, by rw [h.1]; exact pm, fun q hq => ⟨⟨(h.2 q hq).nodup_iff.mpr yn, fun x hx => ym x ((h.2 q hq).mem_iff.mp hx), by rw [(h.2 q hq).length_eq]; exact yl⟩, srt_ext fun x => (h.2 q hq).mem_iff⟩⟩
  · have := h.1
    rw [e] at this
    rw [← this] at h1
    simp at h1
  · have := congrArg List.length h.1
    rw [List.length_map] at this
    omega
theorem Shf.snoc {rs : Rks} {pl ys zs : List Str} {i : Nat} {p : Str} (h : Shf rs (pl.take i) ys) (hp : pl[i]? = some p) (hz : zs.Perm ys) : Shf (rs ++ [(p, zs)]) (pl.take (i + 1)) ys := by
  refine ⟨by rw [List.map_append, h.1, take_snoc hp]; rfl, fun q hq => ?_⟩
  rcases List.mem_append.mp hq with g | g
  · exact h.2 q g
  · rw [List.mem_singleton.mp g]; exact hz
theorem LsOf.snoc {H : Hp} {rs : Rks} {ks : List (Key × V)} {q : Str × List Str} {x : Addr} (h : LsOf H rs ks) (hx : H x = some (.lst (sv q.2))) : LsOf H (rs ++ [q]) (ks ++ [(Sum.inr q.1, .ref x)]) := by
  refine ⟨by rw [List.length_append, List.length_append, h.1]; rfl, fun j r hr => ?_⟩
  rw [List.getElem?_append] at hr ⊢
  rw [h.1]
  split at hr
  · rename_i hj
    rw [if_pos hj]
    exact h.2 j r hr
  · rename_i hj
    rw [if_neg hj]
    cases e : j - rs.length with
    | zero => rw [e] at hr; cases hr; exact ⟨x, rfl, hx⟩
    | succ n => rw [e] at hr; simp at hr
theorem LsOf.but {H H' : Hp} {rs : Rks} {ks : List (Key × V)} {s : Addr} (h : LsOf H rs ks) (hs : StAt H s) (e : But s H H') : LsOf H' rs ks := by
  obtain ⟨a, b, hs, _⟩ := hs
  refine ⟨h.1, fun i q hq => ?_⟩
  obtain ⟨x, g1, g2⟩ := h.2 i q hq
  exact ⟨x, g1, e _ _ (ne_of g2 hs sv_ne_ints) g2⟩
theorem StAt.wo {H : Hp} {s D : Addr} (h : StAt H s) (n : s ≠ D) : StAt (wo H D) s := by
  obtain ⟨a, b, e, z⟩ := h
  exact ⟨a, b, by rw [wo_ne n]; exact e, z⟩
theorem but_wo {H H' : Hp} {s D : Addr} (h : But s H H') : But s (wo H D) (wo H' D) := fun b u nb e => by
  by_cases z : b = D
  · unfold wo at e; rw [if_pos z] at e; cases e
  · rw [wo_ne z] at e ⊢; exact h _ _ nb e
section
variable {P : Program} {w : World} {K : PySem.W.Frag} {mg : Str → Option Value} {base : Heap}
theorem ok_l_own (T : TX K mg) : Cal P w K mg base 4 "_law_own" ["_law_stream_here", "_law_most"] spLOwn := by
  have F_l_draw := ok_l_draw (P := P) (w := w) (base := base) T
  have F_l_names := ok_l_names (P := P) (w := w) (base := base) T
  have F_l_players := ok_l_players (P := P) (w := w) (base := base) T
  have F_l_shuffled := ok_l_shuffled (P := P) (w := w) (base := base) T
  refine cal_mk (fok_mk T.f_l_own sc_l_own (fun _ _ _ _ _ _ us hl => match us, hl with | [_, _], _ => rfl) (fun vs H Q E h => ?_) (fun cdv A outer s H vs Q E hr h => ?_)) T.g_l_own (let ⟨_, F⟩ := T.f_l_own; F.kp)
  · obtain ⟨s, n, rfl, _⟩ := h; rfl
  obtain ⟨st, most, rfl, hs, m1, m8, k⟩ := h
  refine ⟨_, (pss_cons (ps_asg (pe_tup (pa_cons (pe_c F_l_names (hr.mono (by decide)) (pa_cons (pv 0) (pa_cons (pe_op op_add pe_int (pe_c F_l_draw (hr.mono (by decide)) (pa_cons (pv 0) (pa_cons (pv 1) pa_nil)))) pa_nil))) (pa_cons (pe_c F_l_players (hr.mono (by decide)) (pa_cons (pv 0) (pa_cons pe_int pa_nil))) pa_nil))) (k_gtup K (by rfl) rfl (pgs_cons (pg_name (i := 2) sc_l_own.nd rfl (Or.inr rfl)) (pgs_cons (pg_name (i := 3) sc_l_own.nd rfl (Or.inr rfl)) pgs_nil))))
      (pss_cons (ps_set (i := 4) sc_l_own.nd rfl (Or.inl rfl) (pe_callTy (k_dictP K (by rfl) rfl) (by rfl) T.b_dict (by decide +kernel) (pa_cons (pe_lc (own := [("_law_player", 6)]) (g := gName 6) (tt := tYes) rfl sc_l_own.nd (k_pil K (by rfl) (pv 3)) (blkOk_by (N := ["_law_stream_here", "_law_most", "_law_names_here", "_law_players_here", "_law_rankings_here", "_law_turns", "_law_player", "_law_turn"]) (sc := defScope s_l_own) (by decide +kernel)) (fun _ _ _ _ _ => by exact (pg_name (i := 6) sc_l_own.nd rfl (Or.inl rfl))) (fun _ _ _ _ _ => by exact (pts_nil)) (fun _ _ _ _ _ => by exact ((pe_tup (pa_cons (pv 6) (pa_cons (pe_c F_l_shuffled (hr.mono (by decide)) (pa_cons (pv 0) (pa_cons (pv 2) pa_nil))) pa_nil)))))) pa_nil)))
      (pss_cons (ps_setLc (i := 5) (own := [("_law_turn", 7)]) (g := gName 7) (tt := tYes) rfl sc_l_own.nd rfl rfl (sw_true rfl rfl rfl (by decide +kernel)) (pi_range1 (by rfl) T.b_range (pa_cons (pe_c F_l_draw (hr.mono (by decide)) (pa_cons (pv 0) (pa_cons (pe_op op_add (pe_callB (k_len K (by rfl)) (by rfl) T.b_len (by decide +kernel) (pa_cons (pv 2) pa_nil)) pe_int) pa_nil))) pa_nil)) (blkOk_by (N := ["_law_stream_here", "_law_most", "_law_names_here", "_law_players_here", "_law_rankings_here", "_law_turns", "_law_player", "_law_turn"]) (sc := defScope s_l_own) (by decide +kernel)) (fun _ _ _ _ _ => by exact (pg_name (i := 7) sc_l_own.nd rfl (Or.inl rfl))) (fun _ _ _ _ _ => by exact (pts_nil)) (fun _ _ _ _ _ => by exact ((pe_ix (k_ixL K (by rfl)) (pv 3) (pe_c F_l_draw (hr.mono (by decide)) (pa_cons (pv 0) (pa_cons (pe_callB (k_len K (by rfl)) (by rfl) T.b_len (by decide +kernel) (pa_cons (pv 3) pa_nil)) pa_nil))) (fun _ _ => rfl)))))
      (pss_one (ps_ret (pe_lst (pa_cons (pv 4) (pa_cons (pv 5) pa_nil)))))))), ?_⟩
  refine ⟨_, rfl, _, rfl, _, rfl, st, most, rfl, hs, by omega, by omega, fun r H1 r0 r1 bt1 hs1 => ⟨1, r, rfl, rfl, ?_⟩⟩
  obtain ⟨j, rfl⟩ := Int.eq_ofNat_of_zero_le r0
  refine ⟨st, 1 + j, by rw [Int.natCast_add]; rfl, hs1, by omega, by omega, fun ys pn H2 yn ym yl1 yl2 np2 bt2 hs2 en2 => ?_⟩
  refine ⟨_, rfl, st, 3, rfl, hs2, by omega, by omega, fun pl pp H3 pn' pm pl1 pl2 np3 bt3 hs3 ep3 => ?_⟩
  have npn : pn ≠ st := hs1.ne np2
  have npp : pp ≠ st := hs2.ne np3
  have en3 := bt3 _ _ npn en2
  have bt03 := (bt1.trans bt2).trans bt3
  refine ⟨sz_line (by decide : 2 ≤ 1000), fun tp htp => ?_⟩
  have snt := same_new htp (.tup [V.ref pn, V.ref pp])
  refine ⟨tp, [.ref pn, .ref pp], rfl, .inl (.inl upd_same), rfl, _, [.ref pp], rfl, _, [], rfl, rfl, ?_⟩
  replace bt03 := bt03.trans (.of snt)
  replace hs3 := hs3.s snt
  replace en3 := snt _ _ en3
  replace ep3 := snt _ _ ep3
  change tSeq _ _ _ _ (upd H3 tp (.tup [V.ref pn, V.ref pp]))
  generalize upd H3 tp (.tup [V.ref pn, V.ref pp]) = H3' at bt03 hs3 en3 ep3
  clear snt htp bt3 np3
  revert H3' 
  intro H3 bt03 hs3 en3 ep3
  refine ⟨_, rfl, pp, rfl, ⟨_, SqL.of ep3⟩, lc_gB (st := st) walk_list (fun i acc Hc => ∃ (ts : List Addr) (ks : List (Key × V)) (rs : Rks), acc = ts.map V.ref ∧ ts.length ≤ i ∧ Paired (fun p kv => Hc p = some (.tup [kV kv.1, kv.2])) ts ks ∧ LsOf Hc rs ks ∧ Shf rs (pl.take i) ys) hs3 (by rw [List.length_map]; omega) (fun H4 bt4 => SqL.of (bt4 _ _ npp ep3)) (fun _ _ => ⟨[], [], [], rfl, Nat.le_refl _, .nil, ⟨rfl, fun i q h => by simp at h⟩, rfl, fun q h => by simp at h⟩) (fun i acc _ ⟨ts, ks, rs, e, h, _⟩ => by rw [e, List.length_map]; exact h) ?_ ?_⟩
  · rintro i acc D x H4 H5 Qy Qn hi hD hDa bt4 hs4 ⟨ts, ks, rs, rfl, htl, hpr, hls, hsh⟩ ⟨rfl, hc⟩ ky kn
    obtain ⟨p, hp, rfl⟩ := get_map hc
    have hDs : D ≠ st := hs3.ne hD
    refine ⟨rfl, _, rfl, _, rfl, _, rfl, st, pn, ys, rfl, hs4, SqL.of (bt4 _ _ npn en3), by omega, fun zs x H6 pmz nx bt6 hs6 ex => ?_⟩
    refine ⟨sz_line (by decide : 2 ≤ 1000), fun t ht => ?_⟩
    have hx6 : D ≠ x := ne_of_none hDa nx
    have hD6 : H6 D = some (.lst (ts.map V.ref)) := bt6 _ _ hDs hDa
    have htD : t ≠ D := fun e => by rw [e, hD6] at ht; cases ht
    have sn := same_new ht (.tup [V.str p, V.ref x])
    refine ky _ _ (bt6.trans (.of sn)) (hs6.s sn) ⟨ts ++ [t], ks ++ [(Sum.inr p, .ref x)], rs ++ [(p, zs)], by rw [List.map_append]; rfl, by rw [List.length_append, List.length_singleton]; omega, ?_, ?_, hsh.snoc hp pmz⟩
    · refine Paired.snoc (Paired.mapP hpr fun a kv e => ?_) ?_
      · have hsw := hs4.wo hDs.symm
        have n1 : a ≠ st := by
          obtain ⟨a', b', z, _⟩ := hsw
          exact ne_of e z (fun z => nomatch z)
        exact wo_mono sn _ _ (but_wo bt6 _ _ n1 e)
      · show wo _ D t = _
        rw [wo_ne htD]
        exact upd_same
    · refine LsOf.snoc (((hls.but (hs4.wo hDs.symm) (but_wo bt6))).s (wo_mono sn)) ?_
      show wo _ D x = _
      rw [wo_ne hx6.symm]
      exact sn _ _ ex
  · rintro D acc H4 hD bt4 hs4 hacc ⟨ts, ks, rs, rfl, htl, hpr, hls, hsh⟩
    rw [List.length_map, List.take_length] at hsh
    have hlsH : LsOf H4 rs ks := hls.s wo_same
    have gk := hsh.gk pl1 (by omega) pn' pm yn ym (by omega)
    refine ⟨D, ts, ks, rfl, SqL.of hacc, Paired.mapP hpr fun p kv e => .inl (.inl (wo_same _ _ e)), fun d hd => ?_⟩
    have hkn : (ks.map (·.1)).Nodup := by rw [hlsH.keys]; exact inr_nodup gk.nd
    rw [mergeK_nil hkn]
    have sn := same_new hd (.dK ks)
    have hls5 := hlsH.s sn
    have hs5 := hs4.s sn
    have ed : (upd H4 d (.dK ks)) d = some (.dK ks) := upd_same
    have bt05 : But st H (upd H4 d (.dK ks)) := (bt03.trans bt4).trans (.of sn)
    have en5 := sn _ _ (bt4 _ _ npn en3)
    have ep5 := sn _ _ (bt4 _ _ npp ep3)
    generalize upd H4 d (.dK ks) = H5 at hls5 hs5 ed bt05 en5 ep5
    have hyl : (sv ys).length = ys.length := List.length_map _
    have hpl : (sv pl).length = pl.length := List.length_map _
    refine ⟨_, rfl, _, rfl, pn, _, rfl, .inl (SqL.of en5), _, _, rfl, rfl, st, _, rfl, hs5, by rw [hyl]; omega, by rw [hyl]; omega, fun r H6 r0 r1 bt6 hs6 => ?_⟩
    obtain ⟨j, rfl⟩ := Int.eq_ofNat_of_zero_le r0
    rw [hyl] at r1
    have ep6 := bt6 _ _ npp ep5
    refine ⟨j, rfl, by omega, by omega, lc_gB (st := st) walk_range (fun i acc Hc => acc.length ≤ i) hs6 (by omega) (fun _ _ => trivial) (fun _ _ => Nat.le_refl _) (fun _ _ _ h => h) ?_ ?_⟩
    · rintro i acc D2 x H7 H8 Qy Qn hi hD2 hDa2 bt7 hs7 hl ⟨rfl, rfl⟩ ky kn
      have ep7 := bt7 _ _ npp ep6
      refine ⟨rfl, _, rfl, _, rfl, _, rfl, pp, _, rfl, .inl (SqL.of ep7), st, _, rfl, hs7, by rw [hpl]; omega, by rw [hpl]; omega, fun r H9 r0 r1 bt9 hs9 => ?_⟩
      obtain ⟨u, rfl⟩ := Int.eq_ofNat_of_zero_le r0
      rw [hpl] at r1
      have hu : u < pl.length := by omega
      refine ⟨pp, _, _, .str pl[u], rfl, rfl, SqL.of (bt9 _ _ npp ep7), by rw [atN, List.getElem?_map, List.getElem?_eq_getElem hu]; rfl, ?_⟩
      exact ky _ _ bt9 hs9 (by rw [List.length_append, List.length_singleton]; omega)
    · rintro D2 acc H7 hD2 bt7 hs7 hacc2 hl
      refine ⟨_, rfl, _, rfl, sz_line (by decide : 2 ≤ 1000), fun p hp => ?_⟩
      have hd5 : d ≠ st := by
        obtain ⟨a', b', z, _⟩ := hs5
        exact ne_of ed z (fun z => nomatch z)
      have sn2 := same_new hp (.lst [V.ref d, V.ref D2])
      have bt57 := bt6.trans bt7
      have bt07 := bt05.trans bt57
      refine k p _ rs (srt ys) (but_none bt07 hs7 hp) (bt07.trans (.of sn2)) (hs7.s sn2) ⟨d, D2, ks, upd_same, sn2 _ _ (bt57 _ _ hd5 ed), (hls5.but hs5 bt57).s sn2⟩ gk (by rw [srt_length yn]; omega) ?_
      have := congrArg List.length hsh.1
      rw [List.length_map] at this
      omega
end
end Fl
namespace Fl
open PySem PySem.Spec L2
open PyProof.Rows (envOfC)
/-! ### counts that grow -/
def incC (cs : Cts) (p : Str) : Cts := cs.map fun q => if q.1 = p then (q.1, q.2 + 1) else q
theorem incC_keys (cs : Cts) (p : Str) : (incC cs p).map (·.1) = cs.map (·.1) := by
  unfold incC
  rw [List.map_map]
  refine List.map_congr_left fun q _ => ?_
  show (if q.1 = p then (q.1, q.2 + 1) else q).1 = q.1
  split <;> rfl
theorem incC_miss {cs : Cts} {p : Str} (h : p ∉ cs.map (·.1)) : incC cs p = cs := by
  unfold incC
  conv => rhs; rw [← List.map_id cs]
  refine List.map_congr_left fun q hq => ?_
  rw [if_neg (fun e => h (List.mem_map.mpr ⟨q, hq, e⟩))]; rfl
theorem incC_total : ∀ {cs : Cts}, (cs.map (·.1)).Nodup → ∀ {p : Str}, p ∈ cs.map (·.1) → total (incC cs p) = total cs + 1
  | [], _, p, h => by simp at h
  | q :: r, nd, p, h => by
    rw [List.map_cons, List.nodup_cons] at nd
    rw [List.map_cons, List.mem_cons] at h
    by_cases e : q.1 = p
    · rw [show incC (q :: r) p = (q.1, q.2 + 1) :: incC r p from by simp [incC, e], incC_miss (by rw [← e]; exact nd.1), total_cons, total_cons]
      dsimp only
      omega
    · rw [show incC (q :: r) p = q :: incC r p from by simp [incC, e], total_cons, total_cons, incC_total nd.2 (h.resolve_left fun z => e z.symm)]
      omega
theorem incC_put {cs : Cts} (nd : (cs.map (·.1)).Nodup) {p : Str} {c : Int} (h : (p, c) ∈ cs) : putK (ctK cs) (Sum.inr p) (.int (c + 1)) = ctK (incC cs p) := by
  have hany : ((ctK cs).any fun kv => decide (kv.1 = (Sum.inr p : Key))) = true := List.any_eq_true.mpr ⟨(Sum.inr p, .int c), List.mem_map.mpr ⟨(p, c), h, rfl⟩, decide_eq_true rfl⟩
  unfold putK
  rw [if_pos hany]
  unfold ctK incC
  rw [List.map_map, List.map_map]
  refine List.map_congr_left fun q hq => ?_
  show (if (Sum.inr q.1 : Key) = Sum.inr p then ((Sum.inr q.1 : Key), V.int (c + 1)) else (Sum.inr q.1, V.int q.2)) = _
  by_cases e : q.1 = p
  · have e2 : q.2 = c := uniq_val nd (show (p, q.2) ∈ cs from by rw [← e]; exact hq) h
    rw [if_pos (by rw [e])]
    show _ = ((Sum.inr (if q.1 = p then (q.1, q.2 + 1) else q).1 : Key), V.int (if q.1 = p then (q.1, q.2 + 1) else q).2)
    rw [if_pos e, e2]
  · rw [if_neg (fun z => e (Sum.inr.inj z))]
    show _ = ((Sum.inr (if q.1 = p then (q.1, q.2 + 1) else q).1 : Key), V.int (if q.1 = p then (q.1, q.2 + 1) else q).2)
    rw [if_neg e]
theorem incC_mem {cs : Cts} {p : Str} {q : Str × Int} (h : q ∈ incC cs p) : ∃ x, (q.1, x) ∈ cs ∧ x ≤ q.2 ∧ q.2 ≤ x + 1 := by
  unfold incC at h
  obtain ⟨q0, h0, e⟩ := List.mem_map.mp h
  by_cases z : q0.1 = p
  · rw [if_pos z] at e
    subst e
    exact ⟨q0.2, h0, by dsimp only; omega, by dsimp only; omega⟩
  · rw [if_neg z] at e
    subst e
    exact ⟨q0.2, h0, by omega, by omega⟩
/-- counts that were raised i times -/
structure CI (rs : Rks) (cs : Cts) (i : Nat) : Prop where
  len : cs.length = rs.length
  nd : (cs.map (·.1)).Nodup
  sub : ∀ q ∈ cs, q.1 ∈ rs.map (·.1)
  rng : ∀ q ∈ cs, 0 ≤ q.2 ∧ q.2 ≤ i
  tot : total cs = i
theorem CI.ck {rs : Rks} {cs : Cts} {i : Nat} (h : CI rs cs i) (hi : i ≤ 5000) : CK rs cs := ⟨h.len, h.nd, h.sub, fun q hq => by have := h.rng q hq; omega⟩
theorem CI.inc {rs : Rks} {cs : Cts} {i : Nat} (h : CI rs cs i) {p : Str} (hp : p ∈ cs.map (·.1)) : CI rs (incC cs p) (i + 1) := by
  refine ⟨by unfold incC; rw [List.length_map]; exact h.len, by rw [incC_keys]; exact h.nd, fun q hq => ?_, fun q hq => ?_, by rw [incC_total h.nd hp, h.tot]; omega⟩
  · obtain ⟨x, hx, _⟩ := incC_mem hq
    exact h.sub (q.1, x) hx
  · obtain ⟨x, hx, h1, h2⟩ := incC_mem hq
    have := h.rng (q.1, x) hx
    dsimp only at this
    omega
def zer (l : List Str) : Cts := l.map fun p => (p, 0)
theorem zer_keys (l : List Str) : (zer l).map (·.1) = l := by
  unfold zer
  rw [List.map_map]
  conv => rhs; rw [← List.map_id l]
  exact List.map_congr_left fun _ _ => rfl
theorem zer_ci {rs : Rks} {l : List Str} (h : l.Perm (rs.map (·.1))) (nd : (rs.map (·.1)).Nodup) : CI rs (zer l) 0 := by
  refine ⟨by unfold zer; rw [List.length_map, h.length_eq, List.length_map], by rw [zer_keys]; exact h.nodup_iff.mpr nd, fun q hq => ?_, fun q hq => ?_, ?_⟩
  · obtain ⟨p, hp, rfl⟩ := List.mem_map.mp hq
    exact h.mem_iff.mp hp
  · obtain ⟨p, hp, rfl⟩ := List.mem_map.mp hq
    exact ⟨Int.le_refl 0, Int.le_refl 0⟩
  · refine total_zero fun q hq => ?_
    obtain ⟨p, hp, rfl⟩ := List.mem_map.mp hq
    rfl
theorem CI.keys {rs : Rks} {cs : Cts} {i : Nat} (h : CI rs cs i) (hi : i ≤ 5000) {A : List Str} (g : GK rs A) (p : Str) : p ∈ cs.map (·.1) ↔ p ∈ rs.map (·.1) := (h.ck hi).keys g p
/-- what the law draws -/
structure DatA (H : Hp) (o m n : Addr) (rs : Rks) (A ms : List Str) (cs : Cts) : Prop where
  own : OwnAt H o rs
  g : GK rs A
  ha : A.length ≤ 6
  hm : H m = some (.lst (sv ms))
  hn : H n = some (.dK (ctK cs))
  ck : CK rs cs
  tot : total cs + ms.length = A.length
theorem DatA.but {H H' : Hp} {o m n s : Addr} {rs : Rks} {A ms : List Str} {cs : Cts} (h : DatA H o m n rs A ms cs) (hs : StAt H s) (e : But s H H') : DatA H' o m n rs A ms cs := by
  obtain ⟨a, b, z, q⟩ := id hs
  exact ⟨h.own.but hs e, h.g, h.ha, e _ _ (ne_of h.hm z sv_ne_ints) h.hm, e _ _ (ne_of h.hn z (fun z => nomatch z)) h.hn, h.ck, h.tot⟩
theorem DatA.s {H H' : Hp} {o m n : Addr} {rs : Rks} {A ms : List Str} {cs : Cts} (h : DatA H o m n rs A ms cs) (e : Same H H') : DatA H' o m n rs A ms cs :=
  ⟨h.own.s e, h.g, h.ha, e _ _ h.hm, e _ _ h.hn, h.ck, h.tot⟩
def spLDrawn : Sp := fun vs H Q _ => ∃ s, ∃ most : Nat, vs = [.ref s, .int most] ∧ StAt H s ∧ 1 ≤ most ∧ most ≤ 6 ∧
  ∀ p H' o m t n rs A ms cs, H p = none → But s H H' → StAt H' s → H' p = some (.lst [.ref o, .ref m, .ref t, .ref n]) → DatA H' o m n rs A ms cs → rs.length ≤ 5 → Q (.ref p) H'
section
variable {P : Program} {w : World} {K : PySem.W.Frag} {mg : Str → Option Value} {base : Heap}
theorem ok_l_drawn (T : TX K mg) : Cal P w K mg base 5 "_law_drawn" ["_law_stream_here", "_law_most"] spLDrawn := by
  have F_l_draw := ok_l_draw (P := P) (w := w) (base := base) T
  have F_l_own := ok_l_own (P := P) (w := w) (base := base) T
  have F_l_all := ok_l_all (P := P) (w := w) (base := base) T
  have F_l_below := ok_l_below (P := P) (w := w) (base := base) T
  have F_l_shuffled := ok_l_shuffled (P := P) (w := w) (base := base) T
  refine cal_mk (fok_mk T.f_l_drawn sc_l_drawn (fun _ _ _ _ _ _ us hl => match us, hl with | [_, _], _ => rfl) (fun vs H Q E h => ?_) (fun cdv A outer s H vs Q E hr h => ?_)) T.g_l_drawn (let ⟨_, F⟩ := T.f_l_drawn; F.kp)
  · obtain ⟨s, n, rfl, _⟩ := h; rfl
  obtain ⟨st, most, rfl, hs, m1, m6, k⟩ := h
  refine ⟨_, (pss_cons (ps_set (i := 2) sc_l_drawn.nd rfl (Or.inl rfl) (pe_c F_l_own (hr.mono (by decide)) (pa_cons (pv 0) (pa_cons (pv 1) pa_nil))))
      (pss_cons (ps_set (i := 3) sc_l_drawn.nd rfl (Or.inl rfl) (pe_c F_l_all (hr.mono (by decide)) (pa_cons (pv 2) pa_nil)))
      (pss_cons (ps_set (i := 4) sc_l_drawn.nd rfl (Or.inr rfl) (pe_callB (k_sortedS K (by rfl)) (by rfl) T.b_sorted (by decide +kernel) (pa_cons (pe_slice (k_slL K (by rfl)) (pe_c F_l_shuffled (hr.mono (by decide)) (pa_cons (pv 0) (pa_cons (pv 3) pa_nil))) po_none (po_some (pe_c F_l_draw (hr.mono (by decide)) (pa_cons (pv 0) (pa_cons (pe_op op_add (pe_callB (k_len K (by rfl)) (by rfl) T.b_len (by decide +kernel) (pa_cons (pv 3) pa_nil)) pe_int) pa_nil))))) pa_nil)))
      (pss_cons (ps_set (i := 5) sc_l_drawn.nd rfl (Or.inl rfl) (pe_callB (call_sortedD rfl) (by rfl) T.b_sorted (by decide +kernel) (pa_cons (pe_ix (k_ixL K (by rfl)) (pv 2) pe_int (fun _ _ => rfl)) pa_nil)))
      (pss_cons (ps_set (i := 6) sc_l_drawn.nd rfl (Or.inl rfl) (pe_callTy (k_dictP K (by rfl) rfl) (by rfl) T.b_dict (by decide +kernel) (pa_cons (pe_lc (own := [("_law_player", 11)]) (g := gName 11) (tt := tYes) rfl sc_l_drawn.nd (k_pil K (by rfl) (pv 5)) (blkOk_by (N := ["_law_stream_here", "_law_most", "_law_own_here", "_law_names_here", "_law_members", "_law_players_here", "_law_counts", "_law_others", "_law_name_here", "_law_fit", "_law_some", "_law_player"]) (sc := defScope s_l_drawn) (by decide +kernel)) (fun _ _ _ _ _ => by exact (pg_name (i := 11) sc_l_drawn.nd rfl (Or.inl rfl))) (fun _ _ _ _ _ => by exact (pts_nil)) (fun _ _ _ _ _ => by exact ((pe_tup (pa_cons (pv 11) (pa_cons pe_int pa_nil)))))) pa_nil)))
      (pss_cons (ps_setLc (i := 7) (own := [("_law_name_here", 8)]) (g := gName 8) rfl sc_l_drawn.nd rfl rfl (sw_true rfl rfl rfl (by decide +kernel)) (k_pil K (by rfl) (pv 3)) (blkOk_by (N := ["_law_stream_here", "_law_most", "_law_own_here", "_law_names_here", "_law_members", "_law_players_here", "_law_counts", "_law_others", "_law_name_here", "_law_fit", "_law_some", "_law_player"]) (sc := defScope s_l_drawn) (by decide +kernel)) (fun _ _ _ _ _ => by exact (pg_name (i := 8) sc_l_drawn.nd rfl (Or.inl rfl))) (fun _ _ _ _ _ => by exact (pts_one (pt_cmpR (k_notIn K (by rfl)) (pv 8) (pv 4) (by rfl)))) (fun _ _ _ _ _ => by exact ((pv 8))))
      (pss_cons (ps_for PassesOwn.never rfl (k_pil K (by rfl) (pv 7)) (pg_name (i := 8) sc_l_drawn.nd rfl (Or.inl rfl)) (pss_cons (ps_set (i := 9) sc_l_drawn.nd rfl (Or.inl rfl) (pe_c F_l_below (hr.mono (by decide)) (pa_cons (pv 2) (pa_cons (pv 8) (pa_cons (pv 4) pa_nil)))))
      (pss_cons (ps_set (i := 10) sc_l_drawn.nd rfl (Or.inl rfl) (pe_ifExp (PW.pt (pw_and (pt_cmpR (k_neD K (by rfl) hr.units) (pv 9) (pe_lst pa_nil) (nomark _)) (pw_and1 (pt_cmpR op_gt (pe_c F_l_draw (hr.mono (by decide)) (pa_cons (pv 0) (pa_cons pe_int pa_nil))) pe_int (nomark _))))) (pv 9) (pv 5)))
      (pss_one (ps_daug (hu_of hr) (pv 6) (pe_ix (k_ixL K (by rfl)) (pv 10) (pe_c F_l_draw (hr.mono (by decide)) (pa_cons (pv 0) (pa_cons (pe_callB (k_len K (by rfl)) (by rfl) T.b_len (by decide +kernel) (pa_cons (pv 10) pa_nil)) pa_nil))) (fun _ _ => rfl)) pe_int in_add (fun _ _ _ => rfl))))))
      (pss_one (ps_ret (pe_lst (pa_cons (pv 2) (pa_cons (pv 4) (pa_cons (pv 7) (pa_cons (pv 6) pa_nil)))))))))))))), ?_⟩
  refine ⟨_, rfl, _, rfl, st, most, rfl, hs, m1, by omega, fun o H1 rs A no bt1 hs1 ho g hA hr3 => ?_⟩
  obtain ⟨q0, hq0⟩ := get_lt (List.length_pos_iff.mpr g.ne)
  have hq0m := List.mem_of_getElem? hq0
  have gc := g.gc
  have hA30 := gc.2.2
  refine ⟨_, rfl, o, rs, q0, rfl, ho, hq0, (g.gr q0 hq0m).1.2.2, (g.gr q0 hq0m).1.1, fun pn H2 np2 s2 en2 => ?_⟩
  rw [(g.gr q0 hq0m).2] at en2
  have ho2 := ho.s s2
  have hs2 := hs1.s s2
  have hsl : (sv A).length = A.length := List.length_map _
  refine ⟨_, rfl, _, rfl, st, pn, A, rfl, hs2, SqL.of en2, hA30, fun zs pz H3 pmz nz bt3 hs3 ez => ?_⟩
  have npn : pn ≠ st := hs1.ne np2
  have npz : pz ≠ st := hs2.ne nz
  have en3 := bt3 _ _ npn en2
  refine ⟨_, rfl, _, rfl, pn, _, rfl, .inl (SqL.of en3), _, _, rfl, rfl, st, _, rfl, hs3, by rw [hsl]; omega, by rw [hsl]; omega, fun r H4 r0 r1 bt4 hs4 => ?_⟩
  obtain ⟨j, rfl⟩ := Int.eq_ofNat_of_zero_le r0
  refine ⟨_, rfl, pz, _, rfl, SqL.of (bt4 _ _ npz ez), fun p2 hp2 => ?_⟩
  rw [cut_to, sv_take]
  have sn2 := same_new hp2 (.lst (sv (zs.take j)))
  have hzn : zs.Nodup := pmz.nodup_iff.mpr gc.1.nodup
  have hjn : (zs.take j).Nodup := hzn.sublist (List.take_sublist _ _)
  have hzl := pmz.length_eq
  refine ⟨p2, zs.take j, rfl, SqL.of upd_same, by rw [List.length_take]; omega, fun ms pm hpm hsm npm => ?_⟩
  have ems := sorted_is hpm hsm hjn
  subst ems
  have sn3 := same_new npm (.lst (sv (srt (zs.take j))))
  have em5 : (upd (upd H4 p2 (.lst (sv (zs.take j)))) pm (.lst ((srt (zs.take j)).map V.str))) pm = some (.lst (sv (srt (zs.take j)))) := upd_same
  have ho4 := ((ho2.but hs2 bt3).but hs3 bt4)
  have en4 := bt4 _ _ npn en3
  have s45 := sn2.trans sn3
  have ho5 := ho4.s s45
  have en5 := s45 _ _ en4
  have hs5 := hs4.s s45
  have bt05 : But st H _ := (((bt1.trans (.of s2)).trans bt3).trans bt4).trans (.of s45)
  have nms : Nms (srt (zs.take j)) := fun x hx => gc.2.1 x (pmz.mem_iff.mp (List.mem_of_mem_take ((mem_srt x _).mp hx)))
  have msA : ∀ x ∈ srt (zs.take j), x ∈ A := fun x hx => pmz.mem_iff.mp (List.mem_of_mem_take ((mem_srt x _).mp hx))
  have mSS := srt_SS (zs.take j)
  have gm : GC (srt (zs.take j)) := ⟨mSS, nms, by rw [srt_length hjn, List.length_take]; omega⟩
  change tSeq _ _ _ _ (upd (upd H4 p2 (.lst (sv (zs.take j)))) pm (.lst ((srt (zs.take j)).map V.str)))
  change Same H4 (upd (upd H4 p2 (.lst (sv (zs.take j)))) pm (.lst ((srt (zs.take j)).map V.str))) at s45
  change OwnAt (upd (upd H4 p2 (.lst (sv (zs.take j)))) pm (.lst ((srt (zs.take j)).map V.str))) o rs at ho5
  change (upd (upd H4 p2 (.lst (sv (zs.take j)))) pm (.lst ((srt (zs.take j)).map V.str))) pn = _ at en5
  change StAt (upd (upd H4 p2 (.lst (sv (zs.take j)))) pm (.lst ((srt (zs.take j)).map V.str))) st at hs5
  change But st H (upd (upd H4 p2 (.lst (sv (zs.take j)))) pm (.lst ((srt (zs.take j)).map V.str))) at bt05
  generalize srt (zs.take j) = ms at em5 nms msA mSS gm s45 ho5 en5 hs5 bt05 ⊢
  generalize upd (upd H4 p2 (.lst (sv (zs.take j)))) pm (.lst (ms.map V.str)) = H5 at em5 ho5 en5 hs5 bt05 ⊢
  clear s45 sn3 npm hpm hsm
  obtain ⟨d, td, kvs, h1, h2, h3⟩ := id ho5
  refine ⟨_, rfl, o, _, 0, .ref d, rfl, rfl, SqL.of h1, rfl, d, kvs, rs.map (·.1), rfl, .inl h2, h3.keys, by rw [List.length_map]; omega, fun pl pp hpl hsp npp => ?_⟩
  have sn6 := same_new npp (.lst (sv pl))
  have ep6 : (upd H5 pp (.lst (pl.map V.str))) pp = some (.lst (sv pl)) := upd_same
  have hs6 := hs5.s sn6
  have ho6 := ho5.s sn6
  have en6 := sn6 _ _ en5
  have em6 := sn6 _ _ em5
  have bt06 := bt05.trans (.of sn6)
  change Same H5 (upd H5 pp (.lst (pl.map V.str))) at sn6
  change StAt (upd H5 pp (.lst (pl.map V.str))) st at hs6
  change OwnAt (upd H5 pp (.lst (pl.map V.str))) o rs at ho6
  change (upd H5 pp (.lst (pl.map V.str))) pn = _ at en6
  change (upd H5 pp (.lst (pl.map V.str))) pm = _ at em6
  change But st H (upd H5 pp (.lst (pl.map V.str))) at bt06
  generalize upd H5 pp (.lst (pl.map V.str)) = H6 at ep6 hs6 ho6 en6 em6 bt06 ⊢
  have hpll : pl.length = rs.length := by rw [hpl.length_eq, List.length_map]
  have hrs1 : 0 < rs.length := List.length_pos_iff.mpr g.ne
  refine ⟨_, rfl, pp, rfl, ⟨_, SqL.of ep6⟩, lc_gD walk_list (fun i acc Hc => ∃ (ts : List Addr), acc = ts.map V.ref ∧ ts.length ≤ i ∧ Paired (fun p kv => Hc p = some (.tup [kV kv.1, kv.2])) ts (ctK (zer (pl.take i)))) (by rw [List.length_map]; omega) (fun H7 s7 => SqL.of (s7 _ _ ep6)) (fun _ _ => ⟨[], rfl, Nat.le_refl _, .nil⟩) (fun i acc _ ⟨ts, e, h, _⟩ => by rw [e, List.length_map]; exact h) ?_ ?_⟩
  · rintro i acc D x H7 H8 Qy Qn hi hD hDa s7 ⟨ts, rfl, htl, hpr⟩ ⟨rfl, hc⟩ ky kn
    obtain ⟨p, hp, rfl⟩ := get_map hc
    refine ⟨rfl, _, rfl, sz_line (by decide : 2 ≤ 1000), fun t ht => ?_⟩
    have htD : t ≠ D := fun e => by rw [e, hDa] at ht; cases ht
    have sn := same_new ht (.tup [V.str p, V.int 0])
    refine ky _ _ sn ⟨ts ++ [t], by rw [List.map_append]; rfl, by rw [List.length_append, List.length_singleton]; omega, ?_⟩
    rw [take_snoc hp]
    have e2 : ctK (zer (pl.take i ++ [p])) = ctK (zer (pl.take i)) ++ [(Sum.inr p, V.int 0)] := by unfold ctK zer; rw [List.map_append, List.map_append]; rfl
    rw [e2]
    refine Paired.snoc (Paired.mapP hpr fun a kv e => wo_mono sn _ _ e) ?_
    show wo _ D t = _
    rw [wo_ne htD]
    exact upd_same
  rintro D acc H7 hD s7 hacc ⟨ts, rfl, htl, hpr⟩
  rw [List.length_map, List.take_length] at hpr
  have ci0 := zer_ci hpl g.nd
  refine ⟨D, ts, _, rfl, SqL.of hacc, Paired.mapP hpr fun p kv e => .inl (.inl (wo_same _ _ e)), fun c hc => ?_⟩
  rw [mergeK_nil (ctK_nodup ci0.nd)]
  have sn8 := s7.trans (same_new hc (.dK (ctK (zer pl))))
  have ec8 : (upd H7 c (.dK (ctK (zer pl)))) c = some (.dK (ctK (zer pl))) := upd_same
  have hc6 : H6 c = none := same_none s7 hc
  generalize upd H7 c (.dK (ctK (zer pl))) = H8 at sn8 ec8 ⊢
  have en8 := sn8 _ _ en6
  have em8 := sn8 _ _ em6
  refine ⟨_, rfl, pn, rfl, ⟨_, SqL.of en8⟩, lc_g walk_list (fun i acc _ => acc = sv ((A.take i).filter fun x => !decide (x ∈ ms))) (by rw [List.length_map]; omega) (fun H9 s9 => (Sm.of s9).seq (SqL.of en8)) (fun _ _ => rfl) (fun _ _ _ _ r _ => r)
    (fun i acc _ e => by rw [e, List.length_map]; exact Nat.le_trans (List.length_filter_le _ _) (by rw [List.length_take]; exact Nat.min_le_left _ _)) ?_ ?_⟩
  · rintro i acc y H9 H10 Qy Qn hi s9 rfl ⟨rfl, hcc⟩ ky kn
    obtain ⟨x, hx1, rfl⟩ := get_map hcc
    refine ⟨rfl, _, rfl, _, rfl, pm, _, rfl, .inl (SqL.of (s9 _ _ em8)), rfl, flat_sv ms, _, rfl, ?_⟩
    rw [if_pos rfl, inV_strs]
    by_cases hx : x ∈ ms
    · rw [decide_eq_true hx]
      refine itF rfl (kn _ (Same.refl _) ?_)
      rw [take_snoc hx1, List.filter_append]
      simp [hx]
    · rw [decide_eq_false hx]
      refine itT rfl ⟨_, rfl, ky _ _ (Same.refl _) ?_⟩
      rw [take_snoc hx1, List.filter_append]
      simp [hx]
  rintro t acc H9 ht8 s9 hacc9 r
  rw [hsl] at r
  rw [List.take_length] at r
  change acc = sv (others A ms) at r
  subst r
  have hoth := others_len gc gm msA
  have s69 := sn8.trans s9
  have hs9 := hs6.s s69
  have nst : t ≠ st := (hs6.s sn8).ne ht8
  have nct : c ≠ t := ne_of_none ec8 ht8
  have ncs : c ≠ st := by
    obtain ⟨a', b', z, _⟩ := hs6
    exact fun e => by rw [e, z] at hc6; cases hc6
  have hosl : (sv (others A ms)).length = (others A ms).length := List.length_map _
  refine ⟨_, rfl, t, rfl, ⟨_, SqL.of hacc9⟩, for_it walk_list (fun i σ Hc => ∃ x8 x9 x10 cs, σ = [some (.ref st), some (.int most), some (.ref o), some (.ref pn), some (.ref pm), some (.ref pp), some (.ref c), some (.ref t), x8, x9, x10, none] ∧ But st H6 Hc ∧ StAt Hc st ∧ Hc c = some (.dK (ctK cs)) ∧ CI rs cs i ∧ Hc t = some (.lst (sv (others A ms)))) ⟨none, none, none, zer pl, rfl, .of s69, hs9, s9 _ _ ec8, ci0, hacc9⟩ (fun i σ Hc _ h => by obtain ⟨_, _, _, _, _, _, _, _, _, e⟩ := h; exact SqL.of e) ?_ ?_⟩
  · rintro i y σ H10 Hc hi ⟨x8, x9, x10, cs, rfl, btc, hsc, ecs, ci, etc⟩ ⟨rfl, hcc⟩
    obtain ⟨x, hx1, rfl⟩ := get_map hcc
    have hxA : x ∈ A := (List.mem_filter.mp (List.mem_of_getElem? hx1)).1
    have hi' : i < (others A ms).length := by rw [← hosl]; exact hi
    have hoc := ho6.but hs6 btc
    have nm1 : pm ≠ st := by
      obtain ⟨a', b', z, _⟩ := hs6
      exact ne_of em6 z sv_ne_ints
    have np1 : pp ≠ st := by
      obtain ⟨a', b', z, _⟩ := hs6
      exact ne_of ep6 z sv_ne_ints
    have emc := btc _ _ nm1 em6
    have epc := btc _ _ np1 ep6
    refine ⟨_, rfl, _, rfl, _, rfl, o, x, pm, rs, A, ms, rfl, hoc, g, SqL.of emc, gm.2.2, hxA, msA, nms, fun pf H11 ys nf s11 hsub hyl ef => ?_⟩
    -- the two branches end alike
    have fin : ∀ (pq : Addr) (qs : List Str) H12, H12 pq = some (.lst (sv qs)) → 0 < qs.length → qs.length ≤ 30 → (∀ q ∈ qs, q ∈ rs.map (·.1)) → But st Hc H12 → StAt H12 st → ∀ (Nx : Hp → Prop), (∀ Hz cs', But st H6 Hz → StAt Hz st → Hz c = some (.dK (ctK cs')) → CI rs cs' (i + 1) → Hz t = some (.lst (sv (others A ms))) → Nx Hz) → StAt H12 st ∧ 0 < (((sv qs).length : Nat) : Int) ∧ (((sv qs).length : Nat) : Int) < 1000 ∧ ∀ (r : Int) H13, 0 ≤ r → r < (((sv qs).length : Nat) : Int) → But st H12 H13 → StAt H13 st → ∃ v, atI (sv qs) r = some (.str v) ∧ H13 pq = some (.lst (sv qs)) ∧ ∃ cv : Int, valV (ctK cs) (Sum.inr v) = some (.int cv) ∧ H13 c = some (.dK (ctK cs)) ∧ Nx (upd H13 c (.dK (putK (ctK cs) (Sum.inr v) (.int (cv + 1))))) := by
      intro pq qs H12 eq h0 h30 hq bt12 hs12 Nx hN
      have hql : (sv qs).length = qs.length := List.length_map _
      rw [hql]
      refine ⟨hs12, by omega, by omega, fun r H13 r0 r1 bt13 hs13 => ?_⟩
      obtain ⟨u, rfl⟩ := Int.eq_ofNat_of_zero_le r0
      have hu : u < qs.length := by omega
      have npq : pq ≠ st := by
        obtain ⟨a', b', z, _⟩ := hs12
        exact ne_of eq z sv_ne_ints
      refine ⟨qs[u], by rw [atN, List.getElem?_map, List.getElem?_eq_getElem hu]; rfl, bt13 _ _ npq eq, ?_⟩
      have hk : qs[u] ∈ cs.map (·.1) := (ci.keys (by omega) g _).mpr (hq _ (List.getElem_mem hu))
      obtain ⟨q, hqm, eqv⟩ := List.mem_map.mp hk
      have ec13 := bt13 _ _ ncs (bt12 _ _ ncs ecs)
      have et13 := bt13 _ _ nst (bt12 _ _ nst etc)
      have eqv : q.1 = qs[u] := eqv
      have hm : (qs[u], q.2) ∈ cs := by rw [← eqv]; exact hqm
      refine ⟨q.2, ?_, ec13, ?_⟩
      · rw [ctK_as, asK_get, mem_getA ci.nd hm]; rfl
      · rw [incC_put ci.nd hm]
        refine hN _ (incC cs qs[u]) (fun b u nb e => ?_) ?_ upd_same (ci.inc hk) (by rw [upd_ne nct.symm]; exact et13)
        · rw [upd_ne (ne_of_none e hc6)]
          exact bt13 _ _ nb (bt12 _ _ nb (btc _ _ nb e))
        · obtain ⟨a', b', e, z⟩ := hs13
          exact ⟨a', b', by rw [upd_ne ncs.symm]; exact e, z⟩
    refine ⟨_, rfl, sz_line (by decide : 0 ≤ 1000), fun l0 hl0 => ?_⟩
    have sl := same_new hl0 (.lst [])
    have ef2 := sl _ _ ef
    have nys : Nms ys := fun z hz => g.nm z (hsub z hz)
    refine ⟨_, _, dp_strs (xs := ys) (SqL.of ef2), dp_strs (xs := []) (SqL.of upd_same), shaped_strs nys, shaped_strs fun z hz => (by simp at hz), _, rfl, ?_⟩
    rw [eqv_lists]
    have s13 := s11.trans sl
    have hs13 := hsc.s s13
    have epc13 := s13 _ _ epc
    generalize upd H11 l0 (.lst []) = H13 at s13 ef2 hs13 epc13 ⊢
    by_cases hy : ys = []
    · refine itF (by simp [hy]) ⟨_, rfl, ?_⟩
      obtain ⟨f1, f2, f3, f4⟩ := fin pp pl H13 epc13 (by omega) (by omega) (fun q hq => hpl.mem_iff.mp hq) (.of s13) hs13 _ (fun Hz cs' a1 a2 a3 a4 a5 => (⟨_, _, _, cs', rfl, a1, a2, a3, a4, a5⟩ : ∃ x8 x9 x10 cs, ([some (.ref st), some (.int most), some (.ref o), some (.ref pn), some (.ref pm), some (.ref pp), some (.ref c), some (.ref t), some (.str x), some (.ref pf), some (.ref pp), none] : L2.St) = [some (.ref st), some (.int most), some (.ref o), some (.ref pn), some (.ref pm), some (.ref pp), some (.ref c), some (.ref t), x8, x9, x10, none] ∧ But st H6 Hz ∧ StAt Hz st ∧ Hz c = some (.dK (ctK cs)) ∧ CI rs cs (i + 1) ∧ Hz t = some (.lst (sv (others A ms)))))
      refine ⟨_, rfl, _, rfl, _, rfl, _, rfl, pp, _, rfl, .inl (SqL.of epc13), st, _, rfl, f1, f2, f3, fun r H14 r0 r1 bt14 hs14 => ?_⟩
      obtain ⟨v, g1, g2, cv, g3, g4, g5⟩ := f4 r H14 r0 r1 bt14 hs14
      exact ⟨pp, _, _, .str v, rfl, rfl, SqL.of g2, g1, c, .int cv, rfl, .inl ⟨_, Sum.inr v, .inl g4, rfl, g3.symm⟩, cv, 1, rfl, rfl, _, .inl ⟨_, Sum.inr v, g4, rfl, by rw [ctK_length, ci.len, sizeLine_eq]; omega, rfl⟩, g5⟩
    · refine itT (by simp [hy]) ?_
      have hy0 : 0 < ys.length := List.length_pos_iff.mpr hy
      refine ⟨_, rfl, st, 6, rfl, hs13, by decide, by decide, fun r6 H14 _ _ bt14 hs14 => ⟨r6, 0, rfl, rfl, _, rfl, ?_⟩⟩
      have btt : But st Hc H14 := (But.of s13).trans bt14
      by_cases h6 : 0 < r6
      · refine itT (by simp [h6]) ⟨_, rfl, ?_⟩
        have ef14 : H14 pf = some (.lst (sv ys)) := bt14 _ _ (hsc.ne nf) ef2
        obtain ⟨f1, f2, f3, f4⟩ := fin pf ys H14 ef14 hy0 (by omega) hsub btt hs14 _ (fun Hz cs' a1 a2 a3 a4 a5 => (⟨_, _, _, cs', rfl, a1, a2, a3, a4, a5⟩ : ∃ x8 x9 x10 cs, ([some (.ref st), some (.int most), some (.ref o), some (.ref pn), some (.ref pm), some (.ref pp), some (.ref c), some (.ref t), some (.str x), some (.ref pf), some (.ref pf), none] : L2.St) = [some (.ref st), some (.int most), some (.ref o), some (.ref pn), some (.ref pm), some (.ref pp), some (.ref c), some (.ref t), x8, x9, x10, none] ∧ But st H6 Hz ∧ StAt Hz st ∧ Hz c = some (.dK (ctK cs)) ∧ CI rs cs (i + 1) ∧ Hz t = some (.lst (sv (others A ms)))))
        refine ⟨_, rfl, _, rfl, _, rfl, _, rfl, pf, _, rfl, .inl (SqL.of ef14), st, _, rfl, f1, f2, f3, fun r H15 r0 r1 bt15 hs15 => ?_⟩
        obtain ⟨v, g1, g2, cv, g3, g4, g5⟩ := f4 r H15 r0 r1 bt15 hs15
        exact ⟨pf, _, _, .str v, rfl, rfl, SqL.of g2, g1, c, .int cv, rfl, .inl ⟨_, Sum.inr v, .inl g4, rfl, g3.symm⟩, cv, 1, rfl, rfl, _, .inl ⟨_, Sum.inr v, g4, rfl, by rw [ctK_length, ci.len, sizeLine_eq]; omega, rfl⟩, g5⟩
      · refine itF (by simp [h6]) ⟨_, rfl, ?_⟩
        have epc14 := bt14 _ _ np1 epc13
        obtain ⟨f1, f2, f3, f4⟩ := fin pp pl H14 epc14 (by omega) (by omega) (fun q hq => hpl.mem_iff.mp hq) btt hs14 _ (fun Hz cs' a1 a2 a3 a4 a5 => (⟨_, _, _, cs', rfl, a1, a2, a3, a4, a5⟩ : ∃ x8 x9 x10 cs, ([some (.ref st), some (.int most), some (.ref o), some (.ref pn), some (.ref pm), some (.ref pp), some (.ref c), some (.ref t), some (.str x), some (.ref pf), some (.ref pp), none] : L2.St) = [some (.ref st), some (.int most), some (.ref o), some (.ref pn), some (.ref pm), some (.ref pp), some (.ref c), some (.ref t), x8, x9, x10, none] ∧ But st H6 Hz ∧ StAt Hz st ∧ Hz c = some (.dK (ctK cs)) ∧ CI rs cs (i + 1) ∧ Hz t = some (.lst (sv (others A ms)))))
        refine ⟨_, rfl, _, rfl, _, rfl, _, rfl, pp, _, rfl, .inl (SqL.of epc14), st, _, rfl, f1, f2, f3, fun r H15 r0 r1 bt15 hs15 => ?_⟩
        obtain ⟨v, g1, g2, cv, g3, g4, g5⟩ := f4 r H15 r0 r1 bt15 hs15
        exact ⟨pp, _, _, .str v, rfl, rfl, SqL.of g2, g1, c, .int cv, rfl, .inl ⟨_, Sum.inr v, .inl g4, rfl, g3.symm⟩, cv, 1, rfl, rfl, _, .inl ⟨_, Sum.inr v, g4, rfl, by rw [ctK_length, ci.len, sizeLine_eq]; omega, rfl⟩, g5⟩
  · rintro σ Hc ⟨x8, x9, x10, cs, rfl, btc, hsc, ecs, ci, etc⟩
    rw [hosl] at ci
    refine ⟨_, rfl, _, rfl, _, rfl, _, rfl, sz_line (by decide : 4 ≤ 1000), fun p hp => ?_⟩
    have snp := same_new hp (.lst [V.ref o, V.ref pm, V.ref t, V.ref c])
    have bt := bt06.trans btc
    have nm1 : pm ≠ st := by
      obtain ⟨a', b', z, _⟩ := hs6
      exact ne_of em6 z sv_ne_ints
    refine k p _ o pm t c rs A ms cs (but_none bt hsc hp) (bt.trans (.of snp)) (hsc.s snp) upd_same ?_ (by omega)
    exact (show DatA Hc o pm c rs A ms cs from ⟨ho6.but hs6 btc, g, by omega, btc _ _ nm1 em6, ecs, ci.ck (by omega), by rw [ci.tot]; omega⟩).s snp
end
end Fl
namespace Fl
open PySem PySem.Spec L2
open PyProof.Rows (envOfC)
def spLCrowd : Sp := fun vs H Q _ => ∃ s, vs = [.ref s] ∧ StAt H s ∧
  ∀ p H' o m t n rs A ms cs, H p = none → But s H H' → StAt H' s → H' p = some (.lst [.ref o, .ref m, .ref t, .ref n]) → DatA H' o m n rs A ms cs → rs.length ≤ 5 → Q (.ref p) H'
section
variable {P : Program} {w : World} {K : PySem.W.Frag} {mg : Str → Option Value} {base : Heap}
theorem ok_l_crowd (T : TX K mg) : Cal P w K mg base 4 "_law_crowd" ["_law_stream_here"] spLCrowd := by
  have F_l_draw := ok_l_draw (P := P) (w := w) (base := base) T
  have F_l_names := ok_l_names (P := P) (w := w) (base := base) T
  have F_l_shuffled := ok_l_shuffled (P := P) (w := w) (base := base) T
  refine cal_mk (fok_mk T.f_l_crowd sc_l_crowd (fun _ _ _ _ _ _ us hl => match us, hl with | [_], _ => rfl) (fun vs H Q E h => ?_) (fun cdv A outer s H vs Q E hr h => ?_)) T.g_l_crowd (let ⟨_, F⟩ := T.f_l_crowd; F.kp)
  · obtain ⟨s, rfl, _⟩ := h; rfl
  obtain ⟨st, rfl, hs, k⟩ := h
  refine ⟨_, (pss_cons (ps_set (i := 1) sc_l_crowd.nd rfl (Or.inr rfl) (pe_c F_l_names (hr.mono (by decide)) (pa_cons (pv 0) (pa_cons (pe_op op_add pe_int (pe_c F_l_draw (hr.mono (by decide)) (pa_cons (pv 0) (pa_cons pe_int pa_nil)))) pa_nil))))
      (pss_cons (ps_set (i := 2) sc_l_crowd.nd rfl (Or.inl rfl) (pe_slice (k_slL K (by rfl)) (pe_c F_l_shuffled (hr.mono (by decide)) (pa_cons (pv 0) (pa_cons (pe_lst (pa_cons pe_str (pa_cons pe_str (pa_cons pe_str (pa_cons pe_str (pa_cons pe_str pa_nil)))))) pa_nil))) po_none (po_some (pe_op op_add pe_int (pe_c F_l_draw (hr.mono (by decide)) (pa_cons (pv 0) (pa_cons pe_int pa_nil)))))))
      (pss_cons (ps_set (i := 3) sc_l_crowd.nd rfl (Or.inl rfl) (pe_lst (pa_cons (pe_callTy (k_dictP K (by rfl) rfl) (by rfl) T.b_dict (by decide +kernel) (pa_cons (pe_lc (own := [("_law_player", 7)]) (g := gName 7) (tt := tYes) rfl sc_l_crowd.nd (k_pil K (by rfl) (pv 2)) (blkOk_by (N := ["_law_stream_here", "_law_names_here", "_law_players_here", "_law_own_here", "_law_counts", "_law_turn", "_law_size", "_law_player"]) (sc := defScope s_l_crowd) (by decide +kernel)) (fun _ _ _ _ _ => by exact (pg_name (i := 7) sc_l_crowd.nd rfl (Or.inl rfl))) (fun _ _ _ _ _ => by exact (pts_nil)) (fun _ _ _ _ _ => by exact ((pe_tup (pa_cons (pv 7) (pa_cons (pe_c F_l_shuffled (hr.mono (by decide)) (pa_cons (pv 0) (pa_cons (pv 1) pa_nil))) pa_nil)))))) pa_nil)) (pa_cons (pe_lst pa_nil) pa_nil))))
      (pss_cons (ps_set (i := 4) sc_l_crowd.nd rfl (Or.inl rfl) (pe_callTy (k_dictP K (by rfl) rfl) (by rfl) T.b_dict (by decide +kernel) (pa_cons (pe_lc (own := [("_law_player", 7)]) (g := gName 7) (tt := tYes) rfl sc_l_crowd.nd (k_pil K (by rfl) (pv 2)) (blkOk_by (N := ["_law_stream_here", "_law_names_here", "_law_players_here", "_law_own_here", "_law_counts", "_law_turn", "_law_size", "_law_player"]) (sc := defScope s_l_crowd) (by decide +kernel)) (fun _ _ _ _ _ => by exact (pg_name (i := 7) sc_l_crowd.nd rfl (Or.inl rfl))) (fun _ _ _ _ _ => by exact (pts_nil)) (fun _ _ _ _ _ => by exact ((pe_tup (pa_cons (pv 7) (pa_cons pe_int pa_nil)))))) pa_nil)))
      (pss_cons (ps_for PassesOwn.never rfl (pi_range1 (by rfl) T.b_range (pa_cons (pe_c F_l_draw (hr.mono (by decide)) (pa_cons (pv 0) (pa_cons (pe_op op_add (pe_callB (k_len K (by rfl)) (by rfl) T.b_len (by decide +kernel) (pa_cons (pv 1) pa_nil)) pe_int) pa_nil))) pa_nil)) (pg_name (i := 5) sc_l_crowd.nd rfl (Or.inl rfl)) (pss_one (ps_daug (hu_of hr) (pv 4) (pe_ix (k_ixL K (by rfl)) (pv 2) (pe_c F_l_draw (hr.mono (by decide)) (pa_cons (pv 0) (pa_cons (pe_callB (k_len K (by rfl)) (by rfl) T.b_len (by decide +kernel) (pa_cons (pv 2) pa_nil)) pa_nil))) (fun _ _ => rfl)) pe_int in_add (fun _ _ _ => rfl))))
      (pss_cons (ps_set (i := 6) sc_l_crowd.nd rfl (Or.inl rfl) (pe_op op_sub (pe_callB (k_len K (by rfl)) (by rfl) T.b_len (by decide +kernel) (pa_cons (pv 1) pa_nil)) (pe_callB (k_sum K (by rfl) rfl) (by rfl) T.b_sum (by decide +kernel) (pa_cons (pe_lvals rfl T.b_list (pv 4)) pa_nil))))
      (pss_one (ps_ret (pe_lst (pa_cons (pv 3) (pa_cons (pe_slice (k_slL K (by rfl)) (pe_callB (k_sortedS K (by rfl)) (by rfl) T.b_sorted (by decide +kernel) (pa_cons (pv 1) pa_nil)) po_none (po_some (pv 6))) (pa_cons (pe_slice (k_slL K (by rfl)) (pe_callB (k_sortedS K (by rfl)) (by rfl) T.b_sorted (by decide +kernel) (pa_cons (pv 1) pa_nil)) (po_some (pv 6)) po_none) (pa_cons (pv 4) pa_nil))))))))))))), ?_⟩
  refine ⟨_, rfl, _, rfl, st, 3, rfl, hs, by decide, by decide, fun r H1 r0 r1 bt1 hs1 => ⟨3, r, rfl, rfl, ?_⟩⟩
  obtain ⟨j, rfl⟩ := Int.eq_ofNat_of_zero_le r0
  refine ⟨st, 3 + j, by rw [Int.natCast_add]; rfl, hs1, by omega, by omega, fun ys pn H2 yn ym yl1 yl2 np2 bt2 hs2 en2 => ?_⟩
  have npn : pn ≠ st := hs1.ne np2
  refine ⟨_, rfl, sz_line (by decide : 5 ≤ 1000), fun l hl => ?_⟩
  have s1 := same_new hl (.lst [V.str "ann", V.str "x", V.str "zoe", V.str "c", V.str "carol"])
  refine ⟨st, l, ["ann", "x", "zoe", "c", "carol"], rfl, hs2.s s1, SqL.of upd_same, by decide, fun zs pz H3 pmz nz bt3 hs3 ez => ?_⟩
  have npz : pz ≠ st := (hs2.s s1).ne nz
  refine ⟨_, rfl, st, 2, rfl, hs3, by decide, by decide, fun r H4 q0 q1 bt4 hs4 => ⟨4, r, rfl, rfl, _, rfl, ?_⟩⟩
  obtain ⟨u, rfl⟩ := Int.eq_ofNat_of_zero_le q0
  refine ⟨pz, _, rfl, SqL.of (bt4 _ _ npz ez), fun pp hpp => ?_⟩
  rw [show (4 + (u : Int)) = ((4 + u : Nat) : Int) by omega, cut_to, sv_take]
  obtain ⟨t1, t2, t3, t4⟩ := pool_take (m := 4 + u) (by decide) (by unfold Nms; decide +kernel) pmz (by omega) (by decide)
  have snp := same_new hpp (.lst (sv (zs.take (4 + u))))
  have ep5 : (upd H4 pp (.lst (sv (zs.take (4 + u))))) pp = some (.lst (sv (zs.take (4 + u)))) := upd_same
  have en5 := snp _ _ (bt4 _ _ npn (bt3 _ _ npn (s1 _ _ en2)))
  have hs5 := hs4.s snp
  have bt05 : But st H _ := ((((bt1.trans bt2).trans (.of s1)).trans bt3).trans bt4).trans (.of snp)
  generalize zs.take (4 + u) = pl at t1 t2 t3 t4 snp ep5 en5 hs5 bt05 ⊢
  generalize upd H4 pp (.lst (sv pl)) = H5 at ep5 en5 hs5 bt05 ⊢
  clear snp
  have pp5 : pp ≠ st := by
    obtain ⟨a', b', z, _⟩ := hs5
    exact ne_of ep5 z sv_ne_ints
  refine ⟨_, rfl, pp, rfl, ⟨_, SqL.of ep5⟩, lc_gB (st := st) walk_list (fun i acc Hc => ∃ (ts : List Addr) (ks : List (Key × V)) (rs : Rks), acc = ts.map V.ref ∧ ts.length ≤ i ∧ Paired (fun p kv => Hc p = some (.tup [kV kv.1, kv.2])) ts ks ∧ LsOf Hc rs ks ∧ Shf rs (pl.take i) ys) hs5 (by rw [List.length_map]; omega) (fun H4 bt4 => SqL.of (bt4 _ _ pp5 ep5)) (fun _ _ => ⟨[], [], [], rfl, Nat.le_refl _, .nil, ⟨rfl, fun i q h => by simp at h⟩, rfl, fun q h => by simp at h⟩) (fun i acc _ ⟨ts, ks, rs, e, h, _⟩ => by rw [e, List.length_map]; exact h) ?_ ?_⟩
  · rintro i acc D x H6 H7 Qy Qn hi hD hDa bt6 hs6 ⟨ts, ks, rs, rfl, htl, hpr, hls, hsh⟩ ⟨rfl, hc⟩ ky kn
    obtain ⟨p, hp, rfl⟩ := get_map hc
    have hDs : D ≠ st := hs5.ne hD
    refine ⟨rfl, _, rfl, _, rfl, _, rfl, st, pn, ys, rfl, hs6, SqL.of (bt6 _ _ npn en5), by omega, fun zs2 x H8 pmz2 nx bt8 hs8 ex => ?_⟩
    refine ⟨sz_line (by decide : 2 ≤ 1000), fun t ht => ?_⟩
    have hx6 : D ≠ x := ne_of_none hDa nx
    have hD8 : H8 D = some (.lst (ts.map V.ref)) := bt8 _ _ hDs hDa
    have htD : t ≠ D := fun e => by rw [e, hD8] at ht; cases ht
    have sn := same_new ht (.tup [V.str p, V.ref x])
    refine ky _ _ (bt8.trans (.of sn)) (hs8.s sn) ⟨ts ++ [t], ks ++ [(Sum.inr p, .ref x)], rs ++ [(p, zs2)], by rw [List.map_append]; rfl, by rw [List.length_append, List.length_singleton]; omega, ?_, ?_, hsh.snoc hp pmz2⟩
    · refine Paired.snoc (Paired.mapP hpr fun a kv e => ?_) ?_
      · have hsw := hs6.wo hDs.symm
        have n1 : a ≠ st := by
          obtain ⟨a', b', z, _⟩ := hsw
          exact ne_of e z (fun z => nomatch z)
        exact wo_mono sn _ _ (but_wo bt8 _ _ n1 e)
      · show wo _ D t = _
        rw [wo_ne htD]
        exact upd_same
    · refine LsOf.snoc (((hls.but (hs6.wo hDs.symm) (but_wo bt8))).s (wo_mono sn)) ?_
      show wo _ D x = _
      rw [wo_ne hx6.symm]
      exact sn _ _ ex
  rintro D acc H6 hD bt6 hs6 hacc ⟨ts, ks, rs, rfl, htl, hpr, hls, hsh⟩
  rw [List.length_map, List.take_length] at hsh
  have hlsH : LsOf H6 rs ks := hls.s wo_same
  have g := hsh.gk t3 (by omega) t1 t2 yn ym (by omega)
  refine ⟨D, ts, ks, rfl, SqL.of hacc, Paired.mapP hpr fun p kv e => .inl (.inl (wo_same _ _ e)), fun d hd => ?_⟩
  have hkn : (ks.map (·.1)).Nodup := by rw [hlsH.keys]; exact inr_nodup g.nd
  rw [mergeK_nil hkn]
  have sn1 := same_new hd (.dK ks)
  refine ⟨sz_line (by decide : 0 ≤ 1000), fun td htd => ?_⟩
  have sn2 := same_new htd (.lst [])
  refine ⟨sz_line (by decide : 2 ≤ 1000), fun o ho' => ?_⟩
  have sn3 := same_new ho' (.lst [V.ref d, V.ref td])
  have s13 := (sn1.trans sn2).trans sn3
  have ho7 : OwnAt (upd (upd (upd H6 d (.dK ks)) td (.lst [])) o (.lst [V.ref d, V.ref td])) o rs := ⟨d, td, ks, upd_same, sn3 _ _ (sn2 _ _ upd_same), hlsH.s s13⟩
  have hs7 := hs6.s s13
  have en7 := s13 _ _ (bt6 _ _ npn en5)
  have ep7 := s13 _ _ (bt6 _ _ pp5 ep5)
  have bt07 := (bt05.trans bt6).trans (.of s13)
  generalize upd (upd (upd H6 d (.dK ks)) td (.lst [])) o (.lst [V.ref d, V.ref td]) = H7 at ho7 hs7 en7 ep7 bt07 ⊢
  have hkeys : pl = rs.map (·.1) := hsh.1.symm
  have hpll : pl.length = rs.length := by rw [hkeys, List.length_map]
  refine ⟨_, rfl, pp, rfl, ⟨_, SqL.of ep7⟩, lc_gD walk_list (fun i acc Hc => ∃ (ts : List Addr), acc = ts.map V.ref ∧ ts.length ≤ i ∧ Paired (fun p kv => Hc p = some (.tup [kV kv.1, kv.2])) ts (ctK (zer (pl.take i)))) (by rw [List.length_map]; omega) (fun H7 s7 => SqL.of (s7 _ _ ep7)) (fun _ _ => ⟨[], rfl, Nat.le_refl _, .nil⟩) (fun i acc _ ⟨ts, e, h, _⟩ => by rw [e, List.length_map]; exact h) ?_ ?_⟩
  · rintro i acc D x H8 H9 Qy Qn hi hD hDa s7 ⟨ts, rfl, htl, hpr⟩ ⟨rfl, hc⟩ ky kn
    obtain ⟨p, hp, rfl⟩ := get_map hc
    refine ⟨rfl, _, rfl, sz_line (by decide : 2 ≤ 1000), fun t ht => ?_⟩
    have htD : t ≠ D := fun e => by rw [e, hDa] at ht; cases ht
    have sn := same_new ht (.tup [V.str p, V.int 0])
    refine ky _ _ sn ⟨ts ++ [t], by rw [List.map_append]; rfl, by rw [List.length_append, List.length_singleton]; omega, ?_⟩
    rw [take_snoc hp]
    have e2 : ctK (zer (pl.take i ++ [p])) = ctK (zer (pl.take i)) ++ [(Sum.inr p, V.int 0)] := by unfold ctK zer; rw [List.map_append, List.map_append]; rfl
    rw [e2]
    refine Paired.snoc (Paired.mapP hpr fun a kv e => wo_mono sn _ _ e) ?_
    show wo _ D t = _
    rw [wo_ne htD]
    exact upd_same
  rintro D2 acc H8 hD2 s8 hacc2 ⟨ts2, rfl, htl2, hpr2⟩
  rw [List.length_map, List.take_length] at hpr2
  have ci0 := zer_ci (rs := rs) (l := pl) (by rw [hkeys]) g.nd
  refine ⟨D2, ts2, _, rfl, SqL.of hacc2, Paired.mapP hpr2 fun p kv e => .inl (.inl (wo_same _ _ e)), fun c hc => ?_⟩
  rw [mergeK_nil (ctK_nodup ci0.nd)]
  have sn9 := s8.trans (same_new hc (.dK (ctK (zer pl))))
  have ec9 : (upd H8 c (.dK (ctK (zer pl)))) c = some (.dK (ctK (zer pl))) := upd_same
  have hc7 : H7 c = none := same_none s8 hc
  generalize upd H8 c (.dK (ctK (zer pl))) = H9 at sn9 ec9 ⊢
  have en9 := sn9 _ _ en7
  have hs9 := hs7.s sn9
  have ncs : c ≠ st := by
    obtain ⟨a', b', z, _⟩ := hs7
    exact fun e => by rw [e, z] at hc7; cases hc7
  have hyl : (sv ys).length = ys.length := List.length_map _
  have hpl' : (sv pl).length = pl.length := List.length_map _
  refine ⟨_, rfl, _, rfl, pn, _, rfl, .inl (SqL.of en9), _, _, rfl, rfl, st, _, rfl, hs9, by rw [hyl]; omega, by rw [hyl]; omega, fun r H10 r0 r1' bt10 hs10 => ?_⟩
  obtain ⟨v, rfl⟩ := Int.eq_ofNat_of_zero_le r0
  rw [hyl] at r1'
  refine ⟨v, rfl, by omega, by omega, for_it walk_range (fun i σ Hc => ∃ x5 cs, σ = [some (.ref st), some (.ref pn), some (.ref pp), some (.ref o), some (.ref c), x5, none, none] ∧ But st H7 Hc ∧ StAt Hc st ∧ Hc c = some (.dK (ctK cs)) ∧ CI rs cs i) ⟨none, zer pl, rfl, (But.of sn9).trans bt10, hs10, bt10 _ _ ncs ec9, ci0⟩ (fun _ _ _ _ _ => trivial) ?_ ?_⟩
  · rintro i y σ H11 Hc hi ⟨x5, cs, rfl, btc, hsc, ecs, ci⟩ ⟨rfl, rfl⟩
    have epc := btc _ _ pp5 ep7
    refine ⟨_, rfl, _, rfl, _, rfl, _, rfl, pp, _, rfl, .inl (SqL.of epc), st, _, rfl, hsc, by rw [hpl']; omega, by rw [hpl']; omega, fun r H12 r0 r1 bt12 hs12 => ?_⟩
    obtain ⟨z, rfl⟩ := Int.eq_ofNat_of_zero_le r0
    rw [hpl'] at r1
    have hz : z < pl.length := by omega
    have hk : pl[z] ∈ cs.map (·.1) := (ci.keys (by omega) g _).mpr (by rw [← hkeys]; exact List.getElem_mem hz)
    obtain ⟨q, hqm, eqv⟩ := List.mem_map.mp hk
    have eqv : q.1 = pl[z] := eqv
    have hm : (pl[z], q.2) ∈ cs := by rw [← eqv]; exact hqm
    have ec12 := bt12 _ _ ncs ecs
    refine ⟨pp, _, _, .str pl[z], rfl, rfl, SqL.of (bt12 _ _ pp5 epc), by rw [atN, List.getElem?_map, List.getElem?_eq_getElem hz]; rfl, c, .int q.2, rfl, .inl ⟨_, Sum.inr pl[z], .inl ec12, rfl, ?_⟩, q.2, 1, rfl, rfl, _, .inl ⟨_, Sum.inr pl[z], ec12, rfl, by rw [ctK_length, ci.len, sizeLine_eq]; omega, rfl⟩, ?_⟩
    · rw [ctK_as, asK_get, mem_getA ci.nd hm]; rfl
    · rw [incC_put ci.nd hm]
      refine ⟨_, incC cs pl[z], rfl, fun b u nb e => ?_, ?_, upd_same, ci.inc hk⟩
      · rw [upd_ne (ne_of_none e hc7)]
        exact bt12 _ _ nb (btc _ _ nb e)
      · obtain ⟨a', b', e, z⟩ := hs12
        exact ⟨a', b', by rw [upd_ne ncs.symm]; exact e, z⟩
  · rintro σ Hc ⟨x5, cs, rfl, btc, hsc, ecs, ci⟩
    have enc := btc _ _ npn en7
    refine ⟨_, rfl, pn, _, rfl, .inl (SqL.of enc), _, rfl, c, _, rfl, .inl ecs, fun q hq => ⟨q, cs.map (·.2), rfl, .inl (.inl ?_), _, _, rfl, rfl, ?_⟩⟩
    · rw [upd_same, ctK, List.map_map, List.map_map]; rfl
    have snq := same_new hq (.lst ((ctK cs).map (·.2)))
    have hsz : (((sv ys).length : Nat) : Int) - (cs.map (·.2)).sum = ((ys.length - v : Nat) : Int) := by
      have : (cs.map (·.2)).sum = total cs := rfl
      rw [this, ci.tot, hyl]
      omega
    dsimp only
    rw [hsz]
    have enq := snq _ _ enc
    refine ⟨_, rfl, _, rfl, pn, ys, rfl, SqL.of enq, by omega, fun ws pw hpw hsw npw => ?_⟩
    have ew := sorted_is hpw hsw yn
    subst ew
    have snw := same_new npw (.lst (sv (srt ys)))
    refine ⟨_, rfl, _, rfl, pw, _, rfl, SqL.of upd_same, fun pm hpm => ?_⟩
    rw [show (srt ys).map V.str = sv (srt ys) from rfl, cut_to, sv_take]
    have snm := same_new hpm (.lst (sv ((srt ys).take (ys.length - v))))
    have em : (upd (upd (upd Hc q (.lst ((ctK cs).map (·.2)))) pw (.lst (sv (srt ys)))) pm (.lst (sv ((srt ys).take (ys.length - v))))) pm = some (.lst (sv ((srt ys).take (ys.length - v)))) := upd_same
    have s1m := (snq.trans snw).trans snm
    change Same Hc (upd (upd (upd Hc q (.lst ((ctK cs).map (·.2)))) pw (.lst (sv (srt ys)))) pm (.lst (sv ((srt ys).take (ys.length - v))))) at s1m
    generalize (upd (upd (upd Hc q (.lst ((ctK cs).map (·.2)))) pw (.lst (sv (srt ys)))) pm (.lst (sv ((srt ys).take (ys.length - v))))) = H13 at em s1m ⊢
    refine ⟨_, rfl, pn, ys, rfl, SqL.of (s1m _ _ enc), by omega, fun ws2 pw2 hpw2 hsw2 npw2 => ?_⟩
    have snw2 := same_new npw2 (.lst (ws2.map V.str))
    refine ⟨_, rfl, _, rfl, pw2, _, rfl, SqL.of upd_same, fun pt hpt => ?_⟩
    generalize cutV (ws2.map V.str) _ _ = cv at hpt ⊢
    have snt := same_new hpt (.lst cv)
    refine ⟨_, rfl, sz_line (by decide : 4 ≤ 1000), fun p hp => ?_⟩
    have snp := same_new hp (.lst [V.ref o, V.ref pm, V.ref pt, V.ref c])
    have s2p := (snw2.trans snt)
    have sall := s1m.trans s2p
    have bt := (bt07.trans btc).trans (.of sall)
    have hsA := hsc.s sall
    refine k p _ o pm pt c rs (srt ys) ((srt ys).take (ys.length - v)) cs (but_none bt hsA hp) (bt.trans (.of snp)) (hsA.s snp) upd_same ?_ (by omega)
    refine DatA.s ⟨(ho7.but hs7 btc).s sall, g, by rw [srt_length yn]; omega, s2p _ _ em, sall _ _ ecs, ci.ck (by omega), ?_⟩ snp
    rw [ci.tot, List.length_take, srt_length yn]
    omega
end
end Fl
namespace Fl
open PySem PySem.Spec L2
open PyProof.Rows (envOfC)
/-! ### names of committees -/
def nm (C : List Str) : Str := Txt.join " " C
theorem nm_inj {a b : List Str} (ha : Nms a) (hb : Nms b) (hl : a.length = b.length) (e : nm a = nm b) : a = b := by
  cases a with
  | nil => exact (List.length_eq_zero_iff.mp hl.symm).symm
  | cons x r =>
    have hbn : b ≠ [] := fun z => by rw [z] at hl; simp at hl
    have no : ∀ l : List Str, Nms l → ∀ p ∈ l, (32 : Nat) ∉ TL.tl p := fun l hl p hp h => by
      obtain ⟨_, _, h2⟩ := okN (hl p hp)
      have := h2 32 h
      omega
    have e1 := TL.split_join (y := (" " : Str)) (s := 32) (S := []) (by decide +kernel) (by decide +kernel) (parts := x :: r) (by simp) (no _ ha)
    have e2 := TL.split_join (y := (" " : Str)) (s := 32) (S := []) (by decide +kernel) (by decide +kernel) (parts := b) hbn (no _ hb)
    rw [← e1, ← e2]
    show Txt.split (nm (x :: r)) _ = Txt.split (nm b) _
    rw [e]
def spLName (K : PySem.W.Frag) : Sp := fun vs H Q _ => ∃ l xs, vs = [.ref l] ∧ SqL K H l (sv xs) ∧ Nms xs ∧ xs.length ≤ 30 ∧ Q (.str (nm xs)) H
theorem len_sum : ∀ xs : List Str, Nms xs → (xs.map (·.length)).sum ≤ xs.length * 8
  | [], _ => by simp
  | x :: r, h => by
    rw [List.map_cons, List.sum_cons, List.length_cons]
    have h1 := len_sum r fun y hy => h y (List.mem_cons_of_mem _ hy)
    have h2 : x.cps.size ≤ 8 := by
      have := h x List.mem_cons_self
      unfold okName at this
      simp only [Bool.and_eq_true, decide_eq_true_eq] at this
      exact this.1.2
    have h3 : x.length = x.cps.size := rfl
    omega
section
variable {P : Program} {w : World} {K : PySem.W.Frag} {mg : Str → Option Value} {base : Heap}
theorem ok_l_name (T : TX K mg) : Cal P w K mg base 1 "_law_name" ["_law_members"] (spLName K) := by
  refine cal_mk (fok_mk T.f_l_name sc_l_name (fun _ _ _ _ _ _ us hl => match us, hl with | [_], _ => rfl) (fun vs H Q E h => ?_) (fun cdv A outer s H vs Q E hr h => ?_)) T.g_l_name (let ⟨_, F⟩ := T.f_l_name; F.kp)
  · obtain ⟨l, xs, rfl, _⟩ := h; rfl
  obtain ⟨l, xs, rfl, hl, hn, h30, k⟩ := h
  refine ⟨_, (pss_one (ps_ret (k_bm K (by rfl) PySem.F.plainAttrs_str PySem.F.slot_str_join PySem.F.type_str_join mt_join pe_str (pa_cons (pv 0) pa_nil)))), ?_⟩
  have := len_sum xs hn
  have h1 : (" " : Str).length = 1 := by decide +kernel
  exact ⟨rfl, _, rfl, _, l, xs, rfl, rfl, .inl hl, by rw [h1]; omega, k⟩
end
/-! ### one committee -/
def spLEach (K : PySem.W.Frag) : Sp := fun vs H Q _ => ∃ r n l rs A cs C, ∃ m : Nat, vs = [.ref r, .ref n, .ref l, .int m] ∧ RksAt K H r rs ∧ Prm rs A cs (A.length - C.length) ∧ CtsAt H n cs ∧ SqL K H l (sv C) ∧ C.Sublist A ∧ A.length ≤ 6 ∧ m = ((ords (A.length - C.length) cs).map fun o => passL rs A o.reverse).count C ∧ Ret H Q fun v _ => v = .bl true
section
variable {P : Program} {w : World} {K : PySem.W.Frag} {mg : Str → Option Value} {base : Heap}
theorem nord_ok {cs : Cts} (h0 : ∀ q ∈ cs, 0 ≤ q.2) (h : total cs ≤ 6) : nord cs 0 1 ≤ 720 :=
  nord_le cs 0 1 h0 (by show (0 : Int) + (cs.map (·.2)).sum ≤ 6; have : (cs.map (·.2)).sum = total cs := rfl; omega) (by decide) (by decide)
theorem ok_l_each_right (T : TX K mg) : Cal P w K mg base 18 "_law_each_right" ["_law_rankings_here", "_law_counts", "_law_chosen", "_law_many"] (spLEach K) := by
  have F_C_init := ok_C_init (P := P) (w := w) (base := base) T
  have F_count_turns := ok_count_turns (P := P) (w := w) (base := base) T
  have F_find_turns := ok_find_turns (P := P) (w := w) (base := base) T
  have F_find_block := ok_find_block (P := P) (w := w) (base := base) T
  refine cal_mk (fok_mk T.f_l_each_right sc_l_each_right (fun _ _ _ _ _ _ us hl => match us, hl with | [_, _, _, _], _ => rfl) (fun vs H Q E h => ?_) (fun cdv A outer s H vs Q E hr h => ?_)) T.g_l_each_right (let ⟨_, F⟩ := T.f_l_each_right; F.kp)
  · obtain ⟨r, n, l, rs, A, cs, C, m, rfl, _⟩ := h; rfl
  obtain ⟨r, n, l, rs, A, cs, C, m, rfl, rk, pr, ct, hl, hsub, h6, hm, k⟩ := h
  refine ⟨_, (pss_cons (ps_set (i := 4) sc_l_each_right.nd rfl (Or.inl rfl) (pe_mk F_C_init T.mkC T.gC (hr.mono (by decide)) (pa_cons (pv 2) pa_nil)))
      (pss_cons (ps_if (pt_cmpR op_ne (pe_c F_count_turns (hr.mono (by decide)) (pa_cons (pv 0) (pa_cons (pv 1) (pa_cons (pv 4) pa_nil)))) (pv 3) (nomark _)) (pss_one (ps_ret pe_bl)) pss_nil)
      (pss_cons (ps_set (i := 5) sc_l_each_right.nd rfl (Or.inl rfl) (pe_cmpR op_gt (pv 3) pe_int (nomark _)))
      (pss_cons (ps_if (pt_cmpR op_ne (pe_cmpR op_notN (pe_c F_find_turns (hr.mono (by decide)) (pa_cons (pv 0) (pa_cons (pv 1) (pa_cons (pv 4) pa_nil)))) pe_non (nomark _)) (pv 5) (nomark _)) (pss_one (ps_ret pe_bl)) pss_nil)
      (pss_one (ps_ret (pe_cmpR op_eq (pe_cmpR op_isN (pe_c F_find_block (hr.mono (by decide)) (pa_cons (pv 0) (pa_cons (pv 1) (pa_cons (pv 4) pa_nil)))) pe_non (nomark _)) (pv 5) (nomark _)))))))), ?_⟩
  have gc := pr.g.gc
  have gC := gc.sub hsub
  have hCl := hsub.length_le
  have hlen : C.length = A.length - (A.length - C.length) := by omega
  have hasg := asg_many pr hsub hlen
  rw [← hm] at hasg
  refine ⟨_, rfl, fun xx dx nx nd ne => ?_⟩
  refine ⟨xx, dx, l, C, rfl, upd_same, ((Sm.of (same_up (same_up (Same.refl H) nd _) nx _)).seq hl), gC.2.1, gC.2.2, fun H5 hc kp => ⟨rfl, ?_⟩⟩
  have s5 := made_same nx nd kp
  rw [srt_of_SS gC.1] at hc
  have ct5 : CtsAt H5 n cs := Rd.s ct s5
  have pre : Pre K H5 r n xx rs A cs C := ⟨rk.s s5, pr.g, ct5, pr.ck, hc, gC, fun x hx => hsub.subset hx, by rw [pr.oth hsub hlen]; exact pr.tot⟩
  have hno := nord_ok pr.h0 (by rw [pr.tot]; omega)
  refine ⟨_, rfl, _, rfl, _, rfl, r, n, xx, rs, A, cs, C, rfl, pre, by omega, by omega, fun v H6 s6 ev => ?_⟩
  subst ev
  rw [cOrd_many pr hlen (by omega), ← hm]
  have pre6 := pre.s s6
  refine ⟨_, rfl, by simp [scal], _, rfl, itF (by simp) ?_⟩
  refine ⟨_, rfl, m, 0, rfl, rfl, ?_⟩
  refine ⟨_, rfl, _, rfl, _, rfl, r, n, xx, rs, A, cs, C, rfl, pre6, fun v H7 s7 ev => ?_⟩
  have pre7 := pre6.s s7
  have e1 : (!decide (v = V.non)) = decide ((0 : Int) < (m : Nat)) := by
    rcases ev with ⟨rfl, hn⟩ | ⟨⟨p, rfl⟩, ha⟩
    · have : ¬ 0 < m := fun z => let ⟨a, ia⟩ := hasg.mpr z; hn a ia
      simp; omega
    · have := hasg.mp ha
      simp; omega
  refine ⟨rfl, _, rfl, by simp [scal], _, rfl, itF (by rw [e1]; simp) ?_⟩
  refine ⟨_, rfl, _, rfl, _, rfl, r, n, xx, rs, A, cs, C, rfl, pre7, fun v H8 s8 ev => ?_⟩
  have e2 : decide (v = V.non) = decide ((0 : Int) < (m : Nat)) := by
    rcases ev with ⟨rfl, ha⟩ | ⟨⟨p, rfl⟩, hn⟩
    · have := hasg.mp ha
      simp; omega
    · have : ¬ 0 < m := fun z => let ⟨a, ia⟩ := hasg.mpr z; hn a ia
      simp; omega
  refine ⟨rfl, _, rfl, by simp [scal], ?_⟩
  refine k _ _ (((s5.trans s6).trans s7).trans s8) ?_
  rw [e2]; simp
end
end Fl
namespace Fl
open PySem PySem.Spec L2
open PyProof.Rows (envOfC)
/-! ### lists of lists of texts -/
def LsP (H : Hp) (ps : List Addr) (xss : List (List Str)) : Prop := Paired (fun p xs => H p = some (.lst (sv xs))) ps xss
theorem LsP.s {H H' : Hp} {ps : List Addr} {xss : List (List Str)} (h : LsP H ps xss) (e : Same H H') : LsP H' ps xss := Paired.mapP h fun _ _ z => e _ _ z
theorem Paired.len {α β : Type} {F : α → β → Prop} : ∀ {a : List α} {b : List β}, Paired F a b → a.length = b.length
  | _, _, .nil => rfl
  | _, _, .cons _ t => by rw [List.length_cons, List.length_cons, Paired.len t]
theorem Paired.app {α β : Type} {F : α → β → Prop} : ∀ {a c : List α} {b d : List β}, Paired F a b → Paired F c d → Paired F (a ++ c) (b ++ d)
  | _, _, _, _, .nil, h => h
  | _, _, _, _, .cons r t, h => .cons r (Paired.app t h)
theorem Paired.at {α β : Type} {F : α → β → Prop} : ∀ {a : List α} {b : List β}, Paired F a b → ∀ {i : Nat} {x : α}, a[i]? = some x → ∃ y, b[i]? = some y ∧ F x y
  | _, _, .nil, i, x, h => by simp at h
  | _, _, .cons (a := p) (b := q) r t, i, x, h => by
    cases i with
    | zero => cases h; exact ⟨_, rfl, r⟩
    | succ i => exact Paired.at t (i := i) h
theorem get_ref {ps : List Addr} {i : Nat} {v : V} (h : (ps.map V.ref)[i]? = some v) : ∃ p, ps[i]? = some p ∧ v = .ref p := by
  rw [List.getElem?_map] at h
  cases e : ps[i]? with
  | none => rw [e] at h; cases h
  | some p => rw [e] at h; cases h; exact ⟨p, rfl, rfl⟩
theorem sv_app (a b : List Str) : sv a ++ sv b = sv (a ++ b) := by rw [sv, sv, sv, List.map_append]
theorem ref_app (a b : List Addr) : a.map V.ref ++ b.map V.ref = (a ++ b).map V.ref := by rw [List.map_append]
/-! ### all parts of a size -/
def spLSets (K : PySem.W.Frag) : Sp := fun vs H Q _ => ∃ l A, ∃ k : Nat, vs = [.ref l, .int k] ∧ SqL K H l (sv A) ∧ A.length ≤ 6 ∧
  ∀ p H' ps css, H p = none → Same H H' → H' p = some (.lst (ps.map V.ref)) → LsP H' ps css → ps.length ≤ 64 → (∀ C ∈ css, C.Sublist A ∧ C.length = k) → Q (.ref p) H'
section
variable {P : Program} {w : World} {K : PySem.W.Frag} {mg : Str → Option Value} {base : Heap}
theorem ok_l_sets (T : TX K mg) : Cal P w K mg base 1 "_law_sets" ["_law_some", "_law_size"] (spLSets K) := by
  refine cal_mk (fok_mk T.f_l_sets sc_l_sets (fun _ _ _ _ _ _ us hl => match us, hl with | [_, _], _ => rfl) (fun vs H Q E h => ?_) (fun cdv A outer s H vs Q E hr h => ?_)) T.g_l_sets (let ⟨_, F⟩ := T.f_l_sets; F.kp)
  · obtain ⟨l, A, k, rfl, _⟩ := h; rfl
  obtain ⟨l, A, sz, rfl, hl, h6, k⟩ := h
  refine ⟨_, (pss_cons (ps_set (i := 2) sc_l_sets.nd rfl (Or.inl rfl) (pe_lst (pa_cons (pe_lst pa_nil) pa_nil)))
      (pss_cons (ps_for PassesOwn.never rfl (k_pil K (by rfl) (pv 0)) (pg_name (i := 3) sc_l_sets.nd rfl (Or.inr rfl)) (pss_one (ps_set (i := 2) sc_l_sets.nd rfl (Or.inl rfl) (pe_op op_cat (pv 2) (pe_lc (own := [("_law_chosen", 4)]) (g := gName 4) rfl sc_l_sets.nd (k_pil K (by rfl) (pv 2)) (blkOk_by (N := ["_law_some", "_law_size", "_law_found", "_law_name_here", "_law_chosen"]) (sc := defScope s_l_sets) (by decide +kernel)) (fun _ _ _ _ _ => by exact (pg_name (i := 4) sc_l_sets.nd rfl (Or.inl rfl))) (fun _ _ _ _ _ => by exact (pts_one (pt_cmpR op_lt (pe_callB (k_len K (by rfl)) (by rfl) T.b_len (by decide +kernel) (pa_cons (pv 4) pa_nil)) (pv 1) (nomark _)))) (fun _ _ _ _ _ => by exact ((pe_op op_cat (pv 4) (pe_lst (pa_cons (pv 3) pa_nil))))))))))
      (pss_one (ps_ret (pe_lc (own := [("_law_chosen", 4)]) (g := gName 4) rfl sc_l_sets.nd (k_pil K (by rfl) (pv 2)) (blkOk_by (N := ["_law_some", "_law_size", "_law_found", "_law_name_here", "_law_chosen"]) (sc := defScope s_l_sets) (by decide +kernel)) (fun _ _ _ _ _ => by exact (pg_name (i := 4) sc_l_sets.nd rfl (Or.inl rfl))) (fun _ _ _ _ _ => by exact (pts_one (pt_cmpR op_eq (pe_callB (k_len K (by rfl)) (by rfl) T.b_len (by decide +kernel) (pa_cons (pv 4) pa_nil)) (pv 1) (nomark _)))) (fun _ _ _ _ _ => by exact ((pv 4)))))))), ?_⟩
  have hAl : (sv A).length = A.length := List.length_map _
  refine ⟨sz_line (by decide : 0 ≤ 1000), fun e0 he0 => ⟨sz_line (by decide : 1 ≤ 1000), fun pf hpf => ?_⟩⟩
  have s0 := (same_new he0 (.lst [])).trans (same_new hpf (.lst [V.ref e0]))
  have npe : pf ≠ e0 := fun e => by rw [e, upd_same] at hpf; cases hpf
  have ee0 : (upd (upd H e0 (.lst [])) pf (.lst [V.ref e0])) e0 = some (.lst (sv [])) := by rw [upd_ne npe.symm, upd_same]; rfl
  have epf : (upd (upd H e0 (.lst [])) pf (.lst [V.ref e0])) pf = some (.lst ([e0].map V.ref)) := upd_same
  generalize upd (upd H e0 (.lst [])) pf (.lst [V.ref e0]) = H1 at s0 ee0 epf ⊢
  refine ⟨_, rfl, l, rfl, ⟨_, (Sm.of s0).seq hl⟩, for_it walk_list (fun i σ Hc => ∃ x3 pf ps css, σ = [some (.ref l), some (.int (sz : Nat)), some (.ref pf), x3, none] ∧ Same H1 Hc ∧ Hc pf = some (.lst (ps.map V.ref)) ∧ LsP Hc ps css ∧ ps.length ≤ 2 ^ i ∧ ∀ C ∈ css, C.Sublist (A.take i)) ⟨none, pf, [e0], [[]], rfl, Same.refl _, epf, .cons ee0 .nil, Nat.le_refl _, fun C hC => by rw [List.mem_singleton.mp hC]; exact List.nil_sublist _⟩ (fun i σ Hc _ h => by obtain ⟨_, _, _, _, _, s, _⟩ := h; exact (Sm.of (s0.trans s)).seq hl) ?_ ?_⟩
  · rintro i y σ H2 Hc hi ⟨x3, pf, ps, css, rfl, sc, epf, hls, hpl, hsub⟩ ⟨rfl, hcc⟩
    obtain ⟨x, hx1, rfl⟩ := get_map hcc
    have hi' : i < 6 := by rw [hAl] at hi; omega
    have hp2 : 2 ^ i ≤ 32 := Nat.le_trans (Nat.pow_le_pow_right (by decide) (show i ≤ 5 by omega)) (by decide)
    refine ⟨_, rfl, _, rfl, pf, rfl, ⟨_, SqL.of epf⟩, lc_gD walk_list (fun j acc Hd => ∃ (qs : List Addr) (dss : List (List Str)), acc = qs.map V.ref ∧ qs.length ≤ j ∧ LsP Hd qs dss ∧ ∀ C ∈ dss, C.Sublist (A.take (i + 1))) (by rw [List.length_map]; omega) (fun H3 s3 => SqL.of (s3 _ _ epf)) (fun _ _ => ⟨[], [], rfl, Nat.le_refl _, .nil, fun C hC => by simp at hC⟩) (fun j acc _ ⟨qs, dss, e, h, _⟩ => by rw [e, List.length_map]; exact h) ?_ ?_⟩
    · rintro j acc D y H4 H3 Qy Qn hj hD hDa s3 ⟨qs, dss, rfl, hql, hqs, hdsub⟩ ⟨rfl, hc2⟩ ky kn
      obtain ⟨p, hp, rfl⟩ := get_ref hc2
      obtain ⟨C, hC, ep⟩ := Paired.at hls hp
      have ep3 := s3 _ _ ep
      refine ⟨rfl, _, rfl, p, _, rfl, .inl (SqL.of ep3), _, rfl, _, _, rfl, rfl, _, rfl, ?_⟩
      have stay : ∀ H5, Same H3 H5 → ∃ qs' dss', qs.map V.ref = qs'.map V.ref ∧ qs'.length ≤ j + 1 ∧ LsP (wo H5 D) qs' dss' ∧ ∀ C ∈ dss', C.Sublist (A.take (i + 1)) := fun H5 s5 => ⟨qs, dss, rfl, by omega, hqs.s (wo_mono s5), hdsub⟩
      by_cases hlt : (((sv C).length : Nat) : Int) < (sz : Nat)
      · refine itT (decide_eq_true hlt) ⟨_, rfl, _, rfl, sz_line (by decide : 1 ≤ 1000), fun q hq => ?_⟩
        have sq := same_new hq (.lst [V.str x])
        have hCl : C.length ≤ 6 := by
          have h1 := (hsub C (List.mem_of_getElem? hC)).length_le
          rw [List.length_take] at h1
          omega
        refine ⟨p, q, sv C, [V.str x], rfl, rfl, sq _ _ ep3, upd_same, by rw [List.length_map, sizeLine_eq]; show C.length + 1 ≤ _; omega, fun z hz => ?_⟩
        have hDz : D ≠ z := ne_of_none (sq _ _ hDa) hz
        have snz := same_new hz (.lst (sv C ++ [V.str x]))
        have s5 := sq.trans snz
        refine ky _ _ s5 ⟨qs ++ [z], dss ++ [C ++ [x]], by rw [List.map_append]; rfl, by rw [List.length_append, List.length_singleton]; omega, Paired.app (hqs.s (wo_mono s5)) (.cons ?_ .nil), fun C' hC' => ?_⟩
        · rw [wo_ne hDz.symm, upd_same, show [V.str x] = sv [x] from rfl, sv_app]
        · rcases List.mem_append.mp hC' with h | h
          · exact hdsub C' h
          · rw [List.mem_singleton.mp h, take_snoc hx1]
            exact (hsub C (List.mem_of_getElem? hC)).append (List.Sublist.refl _)
      · exact itF (decide_eq_false hlt) (kn _ (Same.refl _) (stay _ (Same.refl _)))
    · rintro D acc H3 hD s3 hacc ⟨qs, dss, rfl, hql, hqs, hdsub⟩
      rw [List.length_map] at hql
      refine ⟨pf, D, _, _, rfl, rfl, s3 _ _ epf, hacc, by rw [List.length_map, List.length_map, sizeLine_eq]; omega, fun p hp => ?_⟩
      rw [ref_app]
      have sn := same_new hp (.lst ((ps ++ qs).map V.ref))
      refine ⟨_, p, ps ++ qs, css ++ dss, rfl, (sc.trans s3).trans sn, upd_same, Paired.app (hls.s (s3.trans sn)) (hqs.s (wo_same.trans sn)), by rw [List.length_append, Nat.pow_succ]; omega, fun C hC => ?_⟩
      rcases List.mem_append.mp hC with h | h
      · exact (hsub C h).trans (List.take_sublist_take_left (Nat.le_succ i))
      · exact hdsub C h
  · rintro σ Hc ⟨x3, pf, ps, css, rfl, sc, epf, hls, hpl, hsub⟩
    rw [hAl] at hpl hsub
    rw [List.take_length] at hsub
    have hp2 : 2 ^ A.length ≤ 64 := Nat.le_trans (Nat.pow_le_pow_right (by decide) h6) (by decide)
    refine ⟨_, rfl, pf, rfl, ⟨_, SqL.of epf⟩, lc_g walk_list (fun j acc _ => ∃ (qs : List Addr) (dss : List (List Str)), acc = qs.map V.ref ∧ qs.length ≤ j ∧ LsP Hc qs dss ∧ ∀ C ∈ dss, C.Sublist A ∧ C.length = sz) (by rw [List.length_map]; omega) (fun H3 s3 => SqL.of (s3 _ _ epf)) (fun _ _ => ⟨[], [], rfl, Nat.le_refl _, .nil, fun C hC => by simp at hC⟩) (fun _ _ _ _ r _ => r) (fun j acc _ ⟨qs, dss, e, h, _⟩ => by rw [e, List.length_map]; exact h) ?_ ?_⟩
    · rintro j acc y H4 H3 Qy Qn hj s3 ⟨qs, dss, rfl, hql, hqs, hdsub⟩ ⟨rfl, hc2⟩ ky kn
      obtain ⟨p, hp, rfl⟩ := get_ref hc2
      obtain ⟨C, hC, ep⟩ := Paired.at hls hp
      refine ⟨rfl, _, rfl, p, _, rfl, .inl (SqL.of (s3 _ _ ep)), _, rfl, by simp [scal], _, rfl, ?_⟩
      have hcl : (sv C).length = C.length := List.length_map _
      by_cases he : C.length = sz
      · refine itT (by rw [hcl, he]; simp) ⟨_, rfl, ky _ _ (Same.refl _) ⟨qs ++ [p], dss ++ [C], by rw [List.map_append]; rfl, by rw [List.length_append, List.length_singleton]; omega, Paired.app hqs (.cons ep .nil), fun C' hC' => ?_⟩⟩
        rcases List.mem_append.mp hC' with h | h
        · exact hdsub C' h
        · rw [List.mem_singleton.mp h]; exact ⟨hsub C (List.mem_of_getElem? hC), he⟩
      · exact itF (by rw [hcl]; simp; omega) (kn _ (Same.refl _) ⟨qs, dss, rfl, by omega, hqs, hdsub⟩)
    · rintro D acc H3 hD s3 hacc ⟨qs, dss, rfl, hql, hqs, hdsub⟩
      rw [List.length_map] at hql
      exact k D H3 qs dss (same_none (s0.trans sc) hD) ((s0.trans sc).trans s3) hacc (hqs.s s3) (by omega) hdsub
end
end Fl
namespace Fl
open PySem PySem.Spec L2
open PyProof.Rows (envOfC)
theorem flat_len {α β : Type} {f : α → List β} {b : Nat} : ∀ l : List α, (∀ x ∈ l, (f x).length ≤ b) → (l.flatMap f).length ≤ l.length * b
  | [], _ => by simp
  | a :: r, h => by
    rw [List.flatMap_cons, List.length_append, List.length_cons, Nat.succ_mul]
    have := flat_len r fun x hx => h x (List.mem_cons_of_mem _ hx)
    have := h a List.mem_cons_self
    omega
theorem ords_count : ∀ (n : Nat) (cs : Cts), cs.length ≤ 5 → (ords n cs).length ≤ 5 ^ n
  | 0, _, _ => by rw [ords]; decide
  | n + 1, cs, h => by
    rw [ords]
    refine Nat.le_trans (flat_len (b := 5 ^ n) cs fun q _ => ?_) ?_
    · split
      · rw [List.length_map]; exact ords_count n _ (by rw [decC_length]; exact h)
      · exact Nat.zero_le _
    · rw [Nat.pow_succ, Nat.mul_comm (5 ^ n)]
      exact Nat.mul_le_mul_right _ h
def oPart (n : Nat) (cs : Cts) (q : Str × Int) : List (List Str) := if 0 < q.2 then (ords n (decC cs q.1)).map (q.1 :: ·) else []
theorem oPart_take {n : Nat} {cs : Cts} (h : cs.length ≤ 5) (hn : n ≤ 5) (i : Nat) : ((cs.take i).flatMap (oPart n cs)).length ≤ 15625 := by
  refine Nat.le_trans (flat_len (b := 3125) _ fun q _ => ?_) ?_
  · unfold oPart
    split
    · rw [List.length_map]
      exact Nat.le_trans (ords_count n _ (by rw [decC_length]; exact h)) (Nat.le_trans (Nat.pow_le_pow_right (by decide) hn) (by decide))
    · exact Nat.zero_le _
  · have : (cs.take i).length ≤ 5 := by rw [List.length_take]; omega
    exact Nat.le_trans (Nat.mul_le_mul_right 3125 this) (by decide)
def spLOrds (n : Nat) : Sp := fun vs H Q _ => ∃ c cs, vs = [.ref c] ∧ H c = some (.dK (ctK cs)) ∧ (cs.map (fun q : Str × Int => q.1)).Nodup ∧ (∀ q ∈ cs, 0 ≤ q.2) ∧ total cs = n ∧ cs.length ≤ 5 ∧ n ≤ 6 ∧
  ∀ p H' ps, H p = none → Same H H' → H' p = some (.lst (ps.map V.ref)) → LsP H' ps (ords n cs) → Q (.ref p) H'
section
variable {P : Program} {w : World} {K : PySem.W.Frag} {mg : Str → Option Value} {base : Heap}
theorem orders_void (T : TX K mg) : Cal P w K mg base 1 "_law_orders" ["_law_counts"] (fun _ _ _ _ => False) :=
  cal_mk (fok_mk T.f_l_orders sc_l_orders (fun _ _ _ _ _ _ us hl => match us, hl with | [_], _ => rfl) (fun vs H Q E h => h.elim) (fun cdv A outer s H vs Q E hr h => h.elim)) T.g_l_orders (let ⟨_, F⟩ := T.f_l_orders; F.kp)
theorem l_orders_at (T : TX K mg) (n : Nat) (ih : ∃ sp, Cal P w K mg base (n + 1) "_law_orders" ["_law_counts"] sp ∧ ∀ m, n = m + 1 → sp = spLOrds m) : Cal P w K mg base (n + 2) "_law_orders" ["_law_counts"] (spLOrds n) := by
  obtain ⟨sp, F_l_orders, hsp⟩ := ih
  refine cal_mk (fok_mk T.f_l_orders sc_l_orders (fun _ _ _ _ _ _ us hl => match us, hl with | [_], _ => rfl) (fun vs H Q E h => ?_) (fun cdv A outer s H vs Q E hr h => ?_)) T.g_l_orders (let ⟨_, F⟩ := T.f_l_orders; F.kp)
  · obtain ⟨c, cs, rfl, _⟩ := h; rfl
  obtain ⟨c, cs, rfl, hc, nd, h0, ht, h5, h6, k⟩ := h
  have sumq : ∀ (H' : Hp) (q : Addr), (upd H' q (.lst ((ctK cs).map (·.2)))) q = some (.lst ((cs.map (·.2)).map V.int)) := fun H' q => by
    rw [upd_same, ctK, List.map_map, List.map_map]; rfl
  have hsum : (cs.map (·.2)).sum = (n : Nat) := ht
  refine ⟨_, (pss_cons (ps_if (pt_cmpR op_eq (pe_callB (k_sum K (by rfl) rfl) (by rfl) T.b_sum (by decide +kernel) (pa_cons (pe_lvals rfl T.b_list (pv 0)) pa_nil)) pe_int (nomark _)) (pss_one (ps_ret (pe_lst (pa_cons (pe_lst pa_nil) pa_nil)))) pss_nil)
      (pss_cons (ps_set (i := 1) sc_l_orders.nd rfl (Or.inl rfl) (pe_lst pa_nil))
      (pss_cons (ps_lockR (ps_for PassesOwn.never rfl (pi_keys (pv 0)) (pg_name (i := 2) sc_l_orders.nd rfl (Or.inr rfl)) (pss_one (ps_if (pt_cmpR op_gt (pe_dget (hu_of hr) (pv 0) (pv 2) (fun _ _ => rfl)) pe_int (nomark _)) (pss_cons (ps_set (i := 3) sc_l_orders.nd rfl (Or.inl rfl) (pe_callTy call_dictD (by rfl) T.b_dict (by decide +kernel) (pa_cons (pv 0) pa_nil)))
      (pss_cons (ps_dput (hu_of hr) (pv 3) (pv 2) (pe_op op_sub (pe_dget (hu_of hr) (pv 0) (pv 2) (fun _ _ => rfl)) pe_int) rfl)
      (pss_one (ps_set (i := 1) sc_l_orders.nd rfl (Or.inl rfl) (pe_op op_cat (pv 1) (pe_lc (own := [("_law_rest", 4)]) (g := gName 4) (tt := tYes) rfl sc_l_orders.nd (k_pil K (by rfl) (pe_c F_l_orders (hr.mono (by omega)) (pa_cons (pv 3) pa_nil))) (blkOk_by (N := ["_law_counts", "_law_found", "_law_player", "_law_less", "_law_rest"]) (sc := defScope s_l_orders) (by decide +kernel)) (fun _ _ _ _ _ => by exact (pg_name (i := 4) sc_l_orders.nd rfl (Or.inl rfl))) (fun _ _ _ _ _ => by exact (pts_nil)) (fun _ _ _ _ _ => by exact ((pe_op op_cat (pe_lst (pa_cons (pv 2) pa_nil)) (pv 4)))))))))) pss_nil))))
      (pss_one (ps_ret (pv 1)))))), ?_⟩
  cases n with
  | zero =>
    refine ⟨_, rfl, c, _, rfl, .inl hc, fun q hq => ⟨q, cs.map (·.2), rfl, .inl (.inl (sumq _ _)), by simp [scal], _, rfl, itT (by rw [hsum]; simp) ?_⟩⟩
    have sq := same_new hq (.lst ((ctK cs).map (·.2)))
    refine ⟨sz_line (by decide : 0 ≤ 1000), fun e0 he0 => ⟨sz_line (by decide : 1 ≤ 1000), fun p hp => ?_⟩⟩
    have s1 := same_new he0 (.lst [])
    have s2 := same_new hp (.lst [V.ref e0])
    exact k p _ [e0] (same_none sq (same_none s1 hp)) ((sq.trans s1).trans s2) upd_same (.cons (s2 _ _ upd_same) .nil)
  | succ n =>
  obtain rfl := hsp n rfl
  refine ⟨_, rfl, c, _, rfl, .inl hc, fun q hq => ⟨q, cs.map (·.2), rfl, .inl (.inl (sumq _ _)), by simp [scal], _, rfl, itF (by rw [hsum]; simp; omega) ?_⟩⟩
  have sq := same_new hq (.lst ((ctK cs).map (·.2)))
  refine ⟨sz_line (by decide : 0 ≤ 1000), fun pf hpf => ?_⟩
  have s1 := sq.trans (same_new hpf (.lst []))
  have hc1 := s1 _ _ hc
  have epf : (upd (upd H q (.lst ((ctK cs).map (·.2)))) pf (.lst [])) pf = some (.lst (([] : List Addr).map V.ref)) := upd_same
  have hpf0 : H pf = none := same_none sq hpf
  generalize upd (upd H q (.lst ((ctK cs).map (·.2)))) pf (.lst []) = H1 at s1 hc1 epf ⊢
  refine ⟨c, _, .inl hc1, fun H2 od md2 g2 e2 => ?_⟩
  have npc : pf ≠ c := ne_of epf hc1 (fun z => nomatch z)
  have epf2 : H2 pf = some (.lst (([] : List Addr).map V.ref)) := (e2 pf npc).trans epf
  refine ⟨_, rfl, c, od, rfl, .inl ⟨ctK cs, g2, for_it walk_keys (fun i σ Hc => ∃ x2 x3 pf ps, σ = [some (.ref c), some (.ref pf), x2, x3, none] ∧ Same H2 Hc ∧ Hc pf = some (.lst (ps.map V.ref)) ∧ H pf = none ∧ LsP Hc ps ((cs.take i).flatMap (oPart n cs))) ⟨none, none, pf, [], rfl, Same.refl _, epf2, hpf0, .nil⟩ (fun i σ Hc _ h => by obtain ⟨_, _, _, _, _, s, _⟩ := h; exact s _ _ g2) ?_ ?_⟩⟩
  · rintro i y σ H4 Hc hi ⟨x2, x3, pf, ps, rfl, sc, epf, hpf0, hls⟩ ⟨rfl, kk, v, hkv, rfl⟩
    obtain ⟨q, hq', rfl, rfl⟩ := ctK_get hkv
    have hqm := List.mem_of_getElem? hq'
    have hv : some (V.int q.2) = valV (ctK cs) (Sum.inr q.1) := by
      rw [ctK_as, asK_get, mem_getA nd (show (q.1, q.2) ∈ cs from hqm)]; rfl
    have gc := sc _ _ g2
    have hpsl : ps.length ≤ 15625 := by rw [Paired.len hls]; exact oPart_take h5 (by omega) i
    refine ⟨_, rfl, _, rfl, c, _, rfl, .inl ⟨ctK cs, Sum.inr q.1, .inr ⟨od, gc⟩, rfl, hv⟩, q.2, 0, rfl, rfl, _, rfl, ?_⟩
    rw [take_snoc hq', List.flatMap_append]
    by_cases hq0 : 0 < q.2
    · refine itT (decide_eq_true hq0) ?_
      refine ⟨_, rfl, c, ctK cs, rfl, .inr ⟨od, gc⟩, fun d1 hd1 => ?_⟩
      have sd := same_new hd1 (.dK (ctK cs))
      have ed : (upd Hc d1 (.dK (ctK cs))) d1 = some (.dK (ctK cs)) := upd_same
      refine ⟨_, rfl, _, rfl, c, _, rfl, .inl ⟨ctK cs, Sum.inr q.1, .inr ⟨od, sd _ _ gc⟩, rfl, hv⟩, q.2, 1, rfl, rfl, _, rfl, _, rfl, d1, _, rfl, .inl ⟨_, Sum.inr q.1, ed, rfl, by rw [ctK_length, sizeLine_eq]; omega, rfl⟩, ?_⟩
      rw [ctK_put nd (show (q.1, q.2) ∈ cs from hqm)]
      have sdd : Same Hc (upd (upd Hc d1 (.dK (ctK cs))) d1 (.dK (ctK (decC cs q.1)))) := same_up (same_new hd1 _) hd1 _
      have ed2 : (upd (upd Hc d1 (.dK (ctK cs))) d1 (.dK (ctK (decC cs q.1)))) d1 = some (.dK (ctK (decC cs q.1))) := upd_same
      generalize upd (upd Hc d1 (.dK (ctK cs))) d1 (.dK (ctK (decC cs q.1))) = H5 at sdd ed2 ⊢
      refine ⟨_, rfl, _, rfl, d1, decC cs q.1, rfl, ed2, by rw [decC_keys]; exact nd, dec_nn nd h0 (show (q.1, q.2) ∈ cs from hqm) hq0, by rw [total_dec nd (show (q.1, q.2) ∈ cs from hqm), ht]; omega, by rw [decC_length]; exact h5, by omega, fun pr H6 rs0 hpr s6 epr hrs => ?_⟩
      have hrl : rs0.length ≤ 3125 := by
        rw [Paired.len hrs]
        exact Nat.le_trans (ords_count n _ (by rw [decC_length]; exact h5)) (Nat.le_trans (Nat.pow_le_pow_right (by decide) (show n ≤ 5 by omega)) (by decide))
      refine ⟨pr, rfl, ⟨_, SqL.of epr⟩, lc_gD walk_list (fun j acc Hd => ∃ (qs : List Addr), acc = qs.map V.ref ∧ qs.length ≤ j ∧ LsP Hd qs (((ords n (decC cs q.1)).take j).map (q.1 :: ·))) (by rw [List.length_map]; omega) (fun H7 s7 => SqL.of (s7 _ _ epr)) (fun _ _ => ⟨[], rfl, Nat.le_refl _, .nil⟩) (fun j acc _ ⟨qs, e, h, _⟩ => by rw [e, List.length_map]; exact h) ?_ ?_⟩
      · rintro j acc D y H8 H7 Qy Qn hj hD hDa s7 ⟨qs, rfl, hql, hqs⟩ ⟨rfl, hc2⟩ ky kn
        obtain ⟨p, hp, rfl⟩ := get_ref hc2
        obtain ⟨o, hoo, ep⟩ := Paired.at hrs hp
        have ep7 := s7 _ _ ep
        refine ⟨rfl, _, rfl, sz_line (by decide : 1 ≤ 1000), fun z hz => ?_⟩
        have sz := same_new hz (.lst [V.str q.1])
        have hol : o.length = n := ords_len n _ o (List.mem_of_getElem? hoo)
        refine ⟨_, rfl, z, p, [V.str q.1], sv o, rfl, rfl, upd_same, sz _ _ ep7, by rw [List.length_map, sizeLine_eq]; show 1 + o.length ≤ _; omega, fun z2 hz2 => ?_⟩
        have hDz : D ≠ z2 := ne_of_none (sz _ _ hDa) hz2
        have sn2 := same_new hz2 (.lst ([V.str q.1] ++ sv o))
        have s5 := sz.trans sn2
        refine ky _ _ s5 ⟨qs ++ [z2], by rw [List.map_append]; rfl, by rw [List.length_append, List.length_singleton]; omega, ?_⟩
        rw [take_snoc hoo, List.map_append]
        refine Paired.app (hqs.s (wo_mono s5)) (.cons ?_ .nil)
        rw [wo_ne hDz.symm, upd_same]
        rfl
      · rintro D acc H7 hD s7 hacc ⟨qs, rfl, hql, hqs⟩
        rw [List.length_map, Paired.len hrs, List.take_length] at hqs
        rw [List.length_map] at hql
        have sA := (sdd.trans s6).trans s7
        refine ⟨pf, D, _, _, rfl, rfl, sA _ _ epf, hacc, by rw [List.length_map, List.length_map, sizeLine_eq]; omega, fun p hp => ?_⟩
        rw [ref_app]
        have sn := same_new hp (.lst ((ps ++ qs).map V.ref))
        have hH4 : H p = none := by
          cases z : H p with
          | none => rfl
          | some u =>
            have z1 := s1 _ _ z
            by_cases hpc : p = c
            · subst hpc
              rw [sA _ _ gc] at hp; cases hp
            · have z2 := (e2 p hpc).trans z1
              rw [sA _ _ (sc _ _ z2)] at hp; cases hp
        refine ⟨_, _, p, ps ++ qs, rfl, (sc.trans sA).trans sn, upd_same, hH4, Paired.app (hls.s (sA.trans sn)) ?_⟩
        rw [List.flatMap_cons, List.flatMap_nil, List.append_nil]
        unfold oPart
        rw [if_pos hq0]
        exact hqs.s (wo_same.trans sn)
    · refine itF (decide_eq_false hq0) ⟨_, _, pf, ps, rfl, sc, epf, hpf0, ?_⟩
      rw [List.flatMap_cons, List.flatMap_nil, List.append_nil]
      have : oPart n cs q = [] := by unfold oPart; rw [if_neg hq0]
      rw [this, List.append_nil]
      exact hls
  · rintro σ Hc ⟨x2, x3, pf, ps, rfl, sc, epf, hpf0, hls⟩
    refine ⟨sc _ _ g2, fun H4 e4 e5 => ?_⟩
    have s14 : Same H1 H4 := lk_same e2 sc e4 e5
    rw [ctK_length, List.take_length] at hls
    have hpc : ∀ p u, isDct u = false → Hc p = some u → H4 p = some u := fun p u hu e => by
      rw [e5 p (fun z => by
        subst z
        rw [sc _ _ g2] at e
        cases e; cases hu)]
      exact e
    refine ⟨_, rfl, ?_⟩
    refine k pf _ ps hpf0 (s1.trans s14) (hpc _ _ rfl epf) ?_
    rw [ords]
    exact Paired.mapP hls fun p xs e => hpc _ _ rfl e
theorem ok_l_orders (T : TX K mg) : ∀ n, Cal P w K mg base (n + 2) "_law_orders" ["_law_counts"] (spLOrds n)
  | 0 => l_orders_at T 0 ⟨_, orders_void T, fun m h => by cases h⟩
  | n + 1 => l_orders_at T (n + 1) ⟨_, ok_l_orders T n, fun m h => by cases h; rfl⟩
end
end Fl
namespace Fl
open PySem PySem.Spec L2
open PyProof.Rows (envOfC)
/-! ### texts of names -/
theorem mem_joinL {S : List Nat} {c : Nat} : ∀ {parts : List (List Nat)}, c ∈ TL.joinL S parts → c ∈ S ∨ ∃ p ∈ parts, c ∈ p
  | [], h => by simp [TL.joinL] at h
  | [p], h => .inr ⟨p, List.mem_singleton.mpr rfl, h⟩
  | p :: q :: r, h => by
    have h : c ∈ p ++ (S ++ TL.joinL S (q :: r)) := h
    rcases List.mem_append.mp h with h | h
    · exact .inr ⟨p, List.mem_cons_self, h⟩
    · rcases List.mem_append.mp h with h | h
      · exact .inl h
      · rcases mem_joinL h with h | ⟨z, hz, h⟩
        · exact .inl h
        · exact .inr ⟨z, List.mem_cons_of_mem _ hz, h⟩
theorem strOk_nm {C : List Str} (h : Nms C) : PyData.strOk (nm C) = true := by
  unfold PyData.strOk
  rw [Array.all_eq_true']
  intro c hc
  have hc2 : c ∈ TL.tl (nm C) := Array.mem_toList_iff.mpr hc
  unfold nm at hc2
  rw [TL.join_eq, TL.tl_join] at hc2
  have : c < 128 := by
    rcases mem_joinL hc2 with h1 | ⟨p, hp, h1⟩
    · have e : TL.tl (" " : Str) = [32] := by decide +kernel
      rw [e, List.mem_singleton] at h1
      omega
    · obtain ⟨x, hx, rfl⟩ := List.mem_map.mp hp
      obtain ⟨_, _, h2⟩ := okN (h x hx)
      have := h2 c h1
      omega
  simp; omega
theorem shaped_oks {xs : List Str} (h : ∀ x ∈ xs, PyData.strOk x = true) : SeqAt.shaped (.list (xs.map .str)) = true := by
  have h1 : ∀ l : List Str, (∀ x ∈ l, PyData.strOk x = true) → PyData.canLayAll0 (l.map .str) = true := by
    intro l
    induction l with
    | nil => intro _; rfl
    | cons a t ih =>
      intro h
      simp only [List.map_cons, PyData.canLayAll0, PyData.canLay0, h a List.mem_cons_self, ih fun z hz => h z (List.mem_cons_of_mem _ hz), Bool.and_self]
  simp [SeqAt.shaped, PyData.canLay0, h1 xs h, PyData.depth, depth_all]
theorem count_nm {C : List Str} (hC : Nms C) : ∀ {E : List (List Str)}, (∀ D ∈ E, Nms D ∧ D.length = C.length) → (E.map nm).count (nm C) = E.count C
  | [], _ => rfl
  | D :: r, h => by
    obtain ⟨h1, h2⟩ := h D List.mem_cons_self
    rw [List.map_cons, List.count_cons, List.count_cons, count_nm hC fun z hz => h z (List.mem_cons_of_mem _ hz)]
    congr 1
    by_cases e : D = C
    · subst e; simp
    · have : nm D ≠ nm C := fun z => e (nm_inj h1 hC h2 z)
      simp [e, this]
/-- what the law has told and found -/
structure Told (rs : Rks) (A : List Str) (cs : Cts) (n : Nat) (E : List (List Str)) : Prop where
  e : E = (ords n cs).map fun o => passL rs A o.reverse
  p : Prm rs A cs n
theorem Told.sub {rs : Rks} {A : List Str} {cs : Cts} {n : Nat} {E : List (List Str)} (t : Told rs A cs n E) {C : List Str} (h : C ∈ E) : C.Sublist A ∧ C.length = A.length - n ∧ Nms C := by
  rw [t.e] at h
  obtain ⟨o, ho, rfl⟩ := List.mem_map.mp h
  obtain ⟨h1, h2⟩ := t.p.out ho
  exact ⟨h1, h2, fun x hx => t.p.g.gc.2.1 x (h1.subset hx)⟩
theorem Told.mem {rs : Rks} {A : List Str} {cs : Cts} {n : Nat} {E : List (List Str)} (t : Told rs A cs n E) (C : List Str) : C ∈ E ↔ C ∈ pcs rs A cs := by
  rw [mem_pcs t.p, t.e, List.mem_map]
theorem Told.pc {rs : Rks} {A : List Str} {cs : Cts} {n : Nat} {E : List (List Str)} (t : Told rs A cs n E) {C : List Str} (h : C ∈ pcs rs A cs) : C.Sublist A ∧ C.length = A.length - n ∧ Nms C := t.sub ((t.mem C).mpr h)
theorem Told.nms_nd {rs : Rks} {A : List Str} {cs : Cts} {n : Nat} {E : List (List Str)} (t : Told rs A cs n E) : ((pcs rs A cs).map nm).Nodup := by
  refine List.pairwise_map.mpr (List.Pairwise.imp_of_mem (fun {a b} ha hb hab e => hab ?_) (pcs_nd t.p.g))
  obtain ⟨_, l1, n1⟩ := t.pc ha
  obtain ⟨_, l2, n2⟩ := t.pc hb
  exact nm_inj n1 n2 (by rw [l1, l2]) e
theorem Told.set {rs : Rks} {A : List Str} {cs : Cts} {n : Nat} {E : List (List Str)} (t : Told rs A cs n E) (k : Str) : k ∈ E.map nm ↔ k ∈ (pcs rs A cs).map nm := by
  rw [List.mem_map, List.mem_map]
  constructor
  · rintro ⟨C, hC, rfl⟩; exact ⟨C, (t.mem C).mp hC, rfl⟩
  · rintro ⟨C, hC, rfl⟩; exact ⟨C, (t.mem C).mpr hC, rfl⟩
theorem Told.card {rs : Rks} {A : List Str} {cs : Cts} {n : Nat} {E : List (List Str)} (t : Told rs A cs n E) {ks : List Str} (nd : ks.Nodup) (h : ∀ k, k ∈ ks ↔ k ∈ E.map nm) : ks.length = (pcs rs A cs).length := by
  have : ks.Perm ((pcs rs A cs).map nm) := (List.perm_ext_iff_of_nodup nd t.nms_nd).mpr fun k => by rw [h k, t.set]
  rw [this.length_eq, List.length_map]
def fct : Nat → Nat
  | 0 => 1
  | n + 1 => (n + 1) * fct n
theorem pos_count : ∀ {cs : Cts}, (∀ q ∈ cs, 0 ≤ q.2) → ((cs.countP fun q => decide (0 < q.2) : Nat) : Int) ≤ total cs
  | [], _ => by decide
  | q :: r, h => by
    rw [total_cons, List.countP_cons]
    have h1 := pos_count fun q hq => h q (List.mem_cons_of_mem _ hq)
    have h2 := h q List.mem_cons_self
    by_cases e : 0 < q.2
    · rw [if_pos (decide_eq_true e)]; omega
    · rw [if_neg (by rw [decide_eq_false e]; decide)]; omega
theorem oPart_len {n b : Nat} {cs : Cts} : ∀ l : Cts, (∀ q ∈ l, 0 < q.2 → (ords n (decC cs q.1)).length ≤ b) → (l.flatMap (oPart n cs)).length ≤ (l.countP fun q => decide (0 < q.2)) * b
  | [], _ => by simp
  | q :: r, h => by
    rw [List.flatMap_cons, List.length_append, List.countP_cons]
    have h1 := oPart_len r fun q hq => h q (List.mem_cons_of_mem _ hq)
    unfold oPart at h1 ⊢
    by_cases e : 0 < q.2
    · rw [if_pos e, if_pos (decide_eq_true e), List.length_map, Nat.succ_mul]
      have := h q List.mem_cons_self e
      omega
    · rw [if_neg e, if_neg (by rw [decide_eq_false e]; decide)]
      simpa using h1
theorem ords_fct : ∀ (n : Nat) (cs : Cts), (cs.map (·.1)).Nodup → (∀ q ∈ cs, 0 ≤ q.2) → total cs = n → (ords n cs).length ≤ fct n
  | 0, _, _, _, _ => by rw [ords]; decide
  | n + 1, cs, nd, h0, ht => by
    have h := oPart_len (n := n) (b := fct n) (cs := cs) cs fun q hq hc => ords_fct n _ (by rw [decC_keys]; exact nd) (dec_nn nd h0 (show (q.1, q.2) ∈ cs from hq) hc) (by rw [total_dec nd (show (q.1, q.2) ∈ cs from hq), ht]; omega)
    have h2 := pos_count h0
    rw [ht] at h2
    rw [ords]
    refine Nat.le_trans h ?_
    exact Nat.mul_le_mul_right _ (by omega)
theorem fct_tab : ∀ n < 7, fct n ≤ 720 := by decide
def spLOR : Sp := fun vs H Q _ => ∃ o m n rs A ms cs, vs = [.ref o, .ref m, .ref n] ∧ DatA H o m n rs A ms cs ∧ rs.length ≤ 5 ∧ Ret H Q fun v _ => v = .bl true
section
variable {P : Program} {w : World} {K : PySem.W.Frag} {mg : Str → Option Value} {base : Heap}
theorem ok_l_orders_right (T : TX K mg) : Cal P w K mg base 23 "_law_orders_right" ["_law_own_here", "_law_members", "_law_counts"] spLOR := by
  have F_l_rankings := ok_l_rankings (P := P) (w := w) (base := base) T
  have F_l_pass := ok_l_pass (P := P) (w := w) (base := base) T
  have F_l_all := ok_l_all (P := P) (w := w) (base := base) T
  have F_l_name := ok_l_name (P := P) (w := w) (base := base) T
  have F_l_sets := ok_l_sets (P := P) (w := w) (base := base) T
  have F_l_each_right := ok_l_each_right (P := P) (w := w) (base := base) T
  have F_possible := ok_possible (P := P) (w := w) (base := base) T
  have F_C_members := ok_C_members (P := P) (w := w) (base := base) T
  have F_membership := ok_membership (P := P) (w := w) (base := base) T
  refine cal_mk (fok_mk T.f_l_orders_right sc_l_orders_right (fun _ _ _ _ _ _ us hl => match us, hl with | [_, _, _], _ => rfl) (fun vs H Q E h => ?_) (fun cdv A outer s H vs Q E hr h => ?_)) T.g_l_orders_right (let ⟨_, F⟩ := T.f_l_orders_right; F.kp)
  · obtain ⟨o, m, n, rs, A, ms, cs, rfl, _⟩ := h; rfl
  obtain ⟨o, m, nc, rs, A, ms, cs, rfl, dat, hr5, k⟩ := h
  have hc0 : 0 ≤ total cs := total_nn fun q hq => (dat.ck.rng q hq).1
  obtain ⟨n0, hn0⟩ := Int.eq_ofNat_of_zero_le hc0
  have hA6 := dat.ha
  have htot := dat.tot
  have F_l_orders := ok_l_orders (P := P) (w := w) (base := base) T n0
  have pr : Prm rs A cs n0 := ⟨dat.g, dat.ck, hn0, by omega⟩
  have g := dat.g
  have gc := g.gc
  obtain ⟨q0, hq0⟩ := get_lt (List.length_pos_iff.mpr g.ne)
  have hq0m := List.mem_of_getElem? hq0
  have hcl : cs.length = rs.length := dat.ck.len
  refine ⟨_, (pss_cons (ps_set (i := 3) sc_l_orders_right.nd rfl (Or.inl rfl) (pe_c F_l_rankings (hr.mono (by omega)) (pa_cons (pv 0) pa_nil)))
      (pss_cons (ps_setLc (i := 4) (own := [("_law_order", 11)]) (g := gName 11) (tt := tYes) rfl sc_l_orders_right.nd rfl rfl (sw_true rfl rfl rfl (by decide +kernel)) (k_pil K (by rfl) (pe_c F_l_orders (hr.mono (by omega)) (pa_cons (pv 2) pa_nil))) (blkOk_by (N := ["_law_own_here", "_law_members", "_law_counts", "_law_rankings_here", "_law_ends", "_law_told", "_law_found", "_law_chosen", "_law_name_here", "_law_many", "_law_due", "_law_order", "_law_end", "_law_committee", "_law_one", "_law_at"]) (sc := defScope s_l_orders_right) (by decide +kernel)) (fun _ _ _ _ _ => by exact (pg_name (i := 11) sc_l_orders_right.nd rfl (Or.inl rfl))) (fun _ _ _ _ _ => by exact (pts_nil)) (fun _ _ _ _ _ => by exact ((pe_c F_l_pass (hr.mono (by omega)) (pa_cons (pv 0) (pa_cons (pe_c F_l_all (hr.mono (by omega)) (pa_cons (pv 0) pa_nil)) (pa_cons (pv 11) pa_nil)))))))
      (pss_cons (ps_setLc (i := 5) (own := [("_law_end", 12)]) (g := gName 12) (tt := tYes) rfl sc_l_orders_right.nd rfl rfl (sw_true rfl rfl rfl (by decide +kernel)) (k_pil K (by rfl) (pv 4)) (blkOk_by (N := ["_law_own_here", "_law_members", "_law_counts", "_law_rankings_here", "_law_ends", "_law_told", "_law_found", "_law_chosen", "_law_name_here", "_law_many", "_law_due", "_law_order", "_law_end", "_law_committee", "_law_one", "_law_at"]) (sc := defScope s_l_orders_right) (by decide +kernel)) (fun _ _ _ _ _ => by exact (pg_name (i := 12) sc_l_orders_right.nd rfl (Or.inl rfl))) (fun _ _ _ _ _ => by exact (pts_nil)) (fun _ _ _ _ _ => by exact ((pe_c F_l_name (hr.mono (by omega)) (pa_cons (pv 12) pa_nil)))))
      (pss_cons (ps_set (i := 6) sc_l_orders_right.nd rfl (Or.inr rfl) (pe_lcG (own := [("_law_committee", 13)]) (i0 := 13) rfl sc_l_orders_right.nd  (hr.mono (by omega)) (pgn_c F_possible (hr.mono (by omega)) (pa_cons (pv 3) (pa_cons (pv 2) pa_nil))) (blkOk_by (N := ["_law_own_here", "_law_members", "_law_counts", "_law_rankings_here", "_law_ends", "_law_told", "_law_found", "_law_chosen", "_law_name_here", "_law_many", "_law_due", "_law_order", "_law_end", "_law_committee", "_law_one", "_law_at"]) (sc := defScope s_l_orders_right) (by decide +kernel)) (by decide) (by decide) (fun _ _ _ _ _ => by exact (pg_name (i := 13) sc_l_orders_right.nd rfl (Or.inl rfl))) (fun _ _ _ _ _ => by exact ((pe_pr F_C_members T.clsC T.pC_members (hr.mono (by omega)) (pv 13))))))
      (pss_cons (ps_if (pt_cmpR (k_neD K (by rfl) hr.units) (pe_callB (cr_sortT rfl) (by rfl) T.b_sorted (by decide +kernel) (pa_cons (pe_callTy (cr_tset rfl K (by rfl)) (by rfl) T.b_set (by decide +kernel) (pa_cons (pv 5) pa_nil)) pa_nil)) (pe_callB (k_sortedS K (by rfl)) (by rfl) T.b_sorted (by decide +kernel) (pa_cons (pe_lc (own := [("_law_one", 14)]) (g := gName 14) (tt := tYes) rfl sc_l_orders_right.nd (k_pil K (by rfl) (pv 6)) (blkOk_by (N := ["_law_own_here", "_law_members", "_law_counts", "_law_rankings_here", "_law_ends", "_law_told", "_law_found", "_law_chosen", "_law_name_here", "_law_many", "_law_due", "_law_order", "_law_end", "_law_committee", "_law_one", "_law_at"]) (sc := defScope s_l_orders_right) (by decide +kernel)) (fun _ _ _ _ _ => by exact (pg_name (i := 14) sc_l_orders_right.nd rfl (Or.inl rfl))) (fun _ _ _ _ _ => by exact (pts_nil)) (fun _ _ _ _ _ => by exact ((pe_c F_l_name (hr.mono (by omega)) (pa_cons (pv 14) pa_nil))))) pa_nil)) (nomark _)) (pss_one (ps_ret pe_bl)) pss_nil)
      (pss_cons (ps_if (pt_cmpR op_ne (pe_callB cr_lenT (by rfl) T.b_len (by decide +kernel) (pa_cons (pe_callTy (cr_tset rfl K (by rfl)) (by rfl) T.b_set (by decide +kernel) (pa_cons (pv 5) pa_nil)) pa_nil)) (pe_callB (k_len K (by rfl)) (by rfl) T.b_len (by decide +kernel) (pa_cons (pv 6) pa_nil)) (nomark _)) (pss_one (ps_ret pe_bl)) pss_nil)
      (pss_cons (ps_if (pt_cmpR (k_neD K (by rfl) hr.units) (pe_lc (own := [("_law_at", 15)]) (g := gName 15) rfl sc_l_orders_right.nd (pi_range1 (by rfl) T.b_range (pa_cons (pe_op op_sub (pe_callB (k_len K (by rfl)) (by rfl) T.b_len (by decide +kernel) (pa_cons (pv 6) pa_nil)) pe_int) pa_nil)) (blkOk_by (N := ["_law_own_here", "_law_members", "_law_counts", "_law_rankings_here", "_law_ends", "_law_told", "_law_found", "_law_chosen", "_law_name_here", "_law_many", "_law_due", "_law_order", "_law_end", "_law_committee", "_law_one", "_law_at"]) (sc := defScope s_l_orders_right) (by decide +kernel)) (fun _ _ _ _ _ => by exact (pg_name (i := 15) sc_l_orders_right.nd rfl (Or.inl rfl))) (fun _ _ _ _ _ => by exact (pts_one (pt_cmpR (op_geL hr.units K (by rfl)) (pe_ix (k_ixL K (by rfl)) (pv 6) (pv 15) (fun _ _ => rfl)) (pe_ix (k_ixL K (by rfl)) (pv 6) (pe_op op_add (pv 15) pe_int) (fun _ _ => rfl)) (nomark _)))) (fun _ _ _ _ _ => by exact ((pv 15)))) (pe_lst pa_nil) (nomark _)) (pss_one (ps_ret pe_bl)) pss_nil)
      (pss_cons (ps_for PassesOwn.never rfl (k_pil K (by rfl) (pe_c F_l_sets (hr.mono (by omega)) (pa_cons (pe_c F_l_all (hr.mono (by omega)) (pa_cons (pv 0) pa_nil)) (pa_cons (pe_callB (k_len K (by rfl)) (by rfl) T.b_len (by decide +kernel) (pa_cons (pv 1) pa_nil)) pa_nil)))) (pg_name (i := 7) sc_l_orders_right.nd rfl (Or.inl rfl)) (pss_one (ps_if (pt_not (pt_val (pe_c F_l_each_right (hr.mono (by omega)) (pa_cons (pv 3) (pa_cons (pv 2) (pa_cons (pv 7) (pa_cons (k_bm K (by rfl) PySem.F.plainAttrs_list PySem.F.slot_list_count PySem.F.type_list_count (k_countS K (by rfl)) (pv 5) (pa_cons (pe_c F_l_name (hr.mono (by omega)) (pa_cons (pv 7) pa_nil)) pa_nil)) pa_nil))))))) (pss_one (ps_ret pe_bl)) pss_nil)))
      (pss_cons (ps_for PassesOwn.never rfl (k_pil K (by rfl) (pe_c F_l_all (hr.mono (by omega)) (pa_cons (pv 0) pa_nil))) (pg_name (i := 8) sc_l_orders_right.nd rfl (Or.inr rfl)) (pss_cons (ps_set (i := 9) sc_l_orders_right.nd rfl (Or.inl rfl) (pe_callB (k_len K (by rfl)) (by rfl) T.b_len (by decide +kernel) (pa_cons (pe_lc (own := [("_law_end", 12)]) (g := gName 12) rfl sc_l_orders_right.nd (k_pil K (by rfl) (pv 6)) (blkOk_by (N := ["_law_own_here", "_law_members", "_law_counts", "_law_rankings_here", "_law_ends", "_law_told", "_law_found", "_law_chosen", "_law_name_here", "_law_many", "_law_due", "_law_order", "_law_end", "_law_committee", "_law_one", "_law_at"]) (sc := defScope s_l_orders_right) (by decide +kernel)) (fun _ _ _ _ _ => by exact (pg_name (i := 12) sc_l_orders_right.nd rfl (Or.inl rfl))) (fun _ _ _ _ _ => by exact (pts_one (pt_cmpR (k_in K (by rfl)) (pv 8) (pv 12) (by rfl)))) (fun _ _ _ _ _ => by exact ((pv 12)))) pa_nil)))
      (pss_cons (ps_set (i := 10) sc_l_orders_right.nd rfl (Or.inl rfl) (pe_ifExp (pt_cmpR op_eq (pv 9) pe_int (nomark _)) pe_str (pe_ix (k_ixL K (by rfl)) (pe_lst (pa_cons pe_str (pa_cons pe_str pa_nil))) (pe_callTy call_int1 (by rfl) T.b_int (by decide +kernel) (pa_cons (pe_cmpR op_eq (pv 9) (pe_callB (k_len K (by rfl)) (by rfl) T.b_len (by decide +kernel) (pa_cons (pv 6) pa_nil)) (nomark _)) pa_nil)) (fun _ _ => rfl))))
      (pss_one (ps_if (pt_cmpR op_ne (pe_c F_membership (hr.mono (by omega)) (pa_cons (pv 3) (pa_cons (pv 2) (pa_cons (pv 8) pa_nil)))) (pv 10) (nomark _)) (pss_one (ps_ret pe_bl)) pss_nil)))))
      (pss_one (ps_ret pe_bl))))))))))), ?_⟩
  obtain ⟨E, hE⟩ : ∃ E, E = (ords n0 cs).map fun o => passL rs A o.reverse := ⟨_, rfl⟩
  have td : Told rs A cs n0 E := ⟨hE, pr⟩
  refine ⟨_, rfl, o, rs, A, rfl, dat.own, g, fun rk H1 nrk s1 ⟨kvs, erk, hrk⟩ => ?_⟩
  have rk1 : RksAt K H1 rk rs := ⟨kvs, .inl erk, hrk⟩
  have hOl : (ords n0 cs).length ≤ 720 := Nat.le_trans (ords_fct n0 cs dat.ck.nd pr.h0 hn0) (fct_tab n0 (by omega))
  have hEl : E.length ≤ 720 := by rw [hE, List.length_map]; exact hOl
  have ec1 := s1 _ _ dat.hn
  refine ⟨_, rfl, nc, cs, rfl, ec1, dat.ck.nd, pr.h0, hn0, by omega, by omega, fun po H2 os npo s2 epo hos => ?_⟩
  have own2 := dat.own.s (s1.trans s2)
  have hpol : os.length ≤ 720 := by rw [Paired.len hos]; exact hOl
  refine ⟨po, rfl, ⟨_, SqL.of epo⟩, lc_gD walk_list (fun i acc Hc => ∃ (qs : List Addr), acc = qs.map V.ref ∧ qs.length ≤ i ∧ LsP Hc qs (E.take i)) (by rw [List.length_map]; omega) (fun H3 s3 => SqL.of (s3 _ _ epo)) (fun _ _ => ⟨[], rfl, Nat.le_refl _, .nil⟩) (fun i acc _ ⟨qs, e, h, _⟩ => by rw [e, List.length_map]; exact h) ?_ ?_⟩
  · rintro i acc D y H4 H3 Qy Qn hi hD hDa s3 ⟨qs, rfl, hql, hqs⟩ ⟨rfl, hc2⟩ ky kn
    obtain ⟨p, hp, rfl⟩ := get_ref hc2
    obtain ⟨od, hod, ep⟩ := Paired.at hos hp
    have hom := List.mem_of_getElem? hod
    obtain ⟨od1, od2⟩ := pr.ords hom
    have own3 := own2.s s3
    refine ⟨rfl, _, rfl, _, rfl, o, rs, q0, rfl, own3, hq0, (g.gr q0 hq0m).1.2.2, (g.gr q0 hq0m).1.1, fun pa H5 npa s5 epa => ?_⟩
    rw [(g.gr q0 hq0m).2] at epa
    refine ⟨_, rfl, o, pa, p, rs, A, A, od, rfl, own3.s s5, g, SqL.of epa, SqL.of (s5 _ _ (s3 _ _ ep)), gc.1.nodup, gc.2.2, fun x h => h, by rw [od2]; exact pr.le, od1, fun pz H6 nz s6 ez => ?_⟩
    have hout := pr.out hom
    rw [srt_of_SS (gc.1.sub hout.1)] at ez
    have hEi : E[i]? = some (passL rs A od.reverse) := by rw [hE, List.getElem?_map, hod]; rfl
    have s36 := s5.trans s6
    refine ky _ _ s36 ⟨qs ++ [pz], by rw [List.map_append]; rfl, by rw [List.length_append, List.length_singleton]; omega, ?_⟩
    rw [take_snoc hEi]
    refine Paired.app (hqs.s (wo_mono s36)) (.cons ?_ .nil)
    rw [wo_ne (ne_of_none (s5 _ _ hDa) nz).symm]
    exact ez
  rintro pe acc H3 hpe0 s3 epe ⟨qs, rfl, hql, hqs⟩
  have hqs : LsP H3 qs E := by
    have h := hqs.s wo_same
    rw [List.length_map, Paired.len hos, ← (show E.length = (ords n0 cs).length by rw [hE, List.length_map]), List.take_length] at h
    exact h
  have hqE := Paired.len hqs
  -- the names
  refine ⟨_, rfl, pe, rfl, ⟨_, SqL.of epe⟩, lc_g walk_list (fun i acc _ => acc = sv ((E.take i).map nm)) (by rw [List.length_map]; omega) (fun H4 s4 => SqL.of (s4 _ _ epe)) (fun _ _ => rfl) (fun _ _ _ _ r _ => r) (fun i acc _ e => by rw [e, List.length_map, List.length_map, List.length_take]; omega) ?_ ?_⟩
  · rintro i acc y H5 H4 Qy Qn hi s4 rfl ⟨rfl, hc2⟩ ky kn
    obtain ⟨p, hp, rfl⟩ := get_ref hc2
    obtain ⟨C, hC, ep⟩ := Paired.at hqs hp
    obtain ⟨t1, t2, t3⟩ := td.sub (List.mem_of_getElem? hC)
    refine ⟨rfl, _, rfl, p, C, rfl, SqL.of (s4 _ _ ep), t3, by have := t1.length_le; omega, ky _ _ (Same.refl _) ?_⟩
    rw [take_snoc hC, List.map_append, ← sv_app]
    rfl
  rintro pt acc H4 hpt0 s4 ept r
  rw [List.length_map, hqE, List.take_length] at r
  subst r
  -- what is found
  have s14 := (s2.trans s3).trans s4
  have rk4 := rk1.s s14
  have ec4 : CtsAt H4 nc cs := .inl (s14 _ _ ec1)
  have hp20 := pcs_len (rs := rs) (A := A) (cs := cs) hA6
  refine ⟨_, rfl, _, rfl, pcs rs A cs, ⟨rk, nc, rs, A, cs, rfl, rk4, g, ec4, dat.ck, by omega, by omega, rfl⟩, fun pf hpf0 => ⟨fun rest Hc => ∃ done qs, pcs rs A cs = done ++ rest ∧ Same H4 Hc ∧ Hc pf = some (.lst (qs.map V.ref)) ∧ LsP (wo Hc pf) qs done, ⟨[], [], rfl, same_new hpf0 _, upd_same, .nil⟩, ?_, ?_⟩⟩
  case' refine_2 =>
    rintro C rest Hc H6 y ⟨done, ps, e, sc, epf, hps⟩ s6 ⟨p6, rfl, hp6⟩
    obtain ⟨d6, l6, y1, y2⟩ := id hp6
    have epf6 := s6 _ _ epf
    refine ⟨_, rfl, p6, d6, _, rfl, y1, p6, C, rfl, hp6, fun l H7 hl s7 e7 => ?_⟩
    have epf7 := s7 _ _ epf6
    have s67 := s6.trans s7
    have hdl : (ps.map V.ref).length < sizeLine := by
      have : ps.length = done.length := Paired.len hps
      have := hp20
      rw [e, List.length_append, List.length_cons] at this
      rw [List.length_map, sizeLine_eq]; omega
    refine ⟨.of s7, _, epf7, hdl, done ++ [C], ps ++ [l], by rw [e, List.append_assoc]; rfl, same_up (sc.trans s67) hpf0 _, by rw [upd_same, List.map_append]; rfl, ?_⟩
    rw [wo_upd]
    refine Paired.app (Paired.mapP hps fun a xs z => wo_mono s67 _ _ z) (.cons ?_ .nil)
    rw [wo_ne (ne_of_none epf6 hl).symm]
    exact e7
  rintro Hc H5 ⟨done, ps, e, sc, epf, hps⟩ s5
  rw [List.append_nil] at e
  obtain ⟨F, hF⟩ : ∃ F, F = pcs rs A cs := ⟨_, rfl⟩
  have eF : F = done := hF.trans e
  subst eF
  clear e
  have hpsH : LsP H5 ps F := hps.s (wo_same.trans s5)
  have epf5 := s5 _ _ epf
  have ept5 := s5 _ _ (sc _ _ ept)
  have s45 := sc.trans s5
  have s15 := s14.trans s45
  have rk5 := rk1.s s15
  have ec5 := s15 _ _ ec1
  have sH5 : Same H H5 := s1.trans s15
  have own5 := dat.own.s sH5
  have hm5 := (s1.trans s15) _ _ dat.hm
  clear hps sc s5 epf
  have hFl : F.length ≤ 20 := by rw [hF]; exact hp20
  have hpl : ps.length = F.length := Paired.len hpsH
  have hFne : 0 < F.length := by
    obtain ⟨C, hC⟩ := pcs_ne pr
    rw [← hF] at hC
    exact List.length_pos_of_mem hC
  have hFs : ∀ {C}, C ∈ F → C.Sublist A ∧ C.length = A.length - n0 ∧ Nms C := fun h => td.pc (by rw [← hF]; exact h)
  -- sorted(set(told)) != sorted(..)
  refine ⟨_, rfl, pt, E.map nm, rfl, SqL.of ept5, by rw [List.length_map]; omega, fun a n' ks knd kl km na => ?_⟩
  have hn' : n' = F.length := by rw [← kl, td.card knd km, hF]
  have sa := same_new na (TSetO w a (fun j => decide (j ∈ E.map nm)) n')
  refine ⟨a, _, n', rfl, upd_same, by omega, fun zs pz hz hzm npz => ?_⟩
  have sz := same_new npz (.lst (sv zs))
  have ez6 : (upd (upd H5 a (TSetO w a (fun j => decide (j ∈ E.map nm)) n')) pz (.lst (sv zs))) pz = some (.lst (sv zs)) := upd_same
  have s56 : Same H5 (upd (upd H5 a (TSetO w a (fun j => decide (j ∈ E.map nm)) n')) pz (.lst (sv zs))) := sa.trans sz
  change tCons _ _ _ (upd (upd H5 a (TSetO w a (fun j => decide (j ∈ E.map nm)) n')) pz (.lst (sv zs))) _
  generalize upd (upd H5 a (TSetO w a (fun j => decide (j ∈ E.map nm)) n')) pz (.lst (sv zs)) = H6 at ez6 s56 ⊢
  have hps6 := hpsH.s s56
  have epf6 := s56 _ _ epf5
  refine ⟨_, rfl, pf, rfl, ⟨_, SqL.of epf6⟩, lc_g walk_list (fun i acc _ => acc = sv ((F.take i).map nm)) (by rw [List.length_map]; omega) (fun H7 s7 => SqL.of (s7 _ _ epf6)) (fun _ _ => rfl) (fun _ _ _ _ r _ => r) (fun i acc _ e => by rw [e, List.length_map, List.length_map, List.length_take]; omega) ?_ ?_⟩
  · rintro i acc y H8 H7 Qy Qn hi s7 rfl ⟨rfl, hc2⟩ ky kn
    obtain ⟨p, hp, rfl⟩ := get_ref hc2
    obtain ⟨C, hC, ep⟩ := Paired.at hps6 hp
    obtain ⟨t1, t2, t3⟩ := hFs (List.mem_of_getElem? hC)
    refine ⟨rfl, _, rfl, p, C, rfl, SqL.of (s7 _ _ ep), t3, by have := t1.length_le; omega, ky _ _ (Same.refl _) ?_⟩
    rw [take_snoc hC, List.map_append, ← sv_app]
    rfl
  rintro pk acc H7 hpk0 s7 epk r
  rw [List.length_map, hpl, List.take_length] at r
  subst r
  refine ⟨pk, F.map nm, rfl, SqL.of epk, by rw [List.length_map]; omega, fun ys py hpy hsy npy => ?_⟩
  have hFnd : (F.map nm).Nodup := by rw [hF]; exact td.nms_nd
  have ey := sorted_is hpy hsy hFnd
  have ezy : zs = ys := by
    rw [ey]
    refine SS.ext hz (srt_SS _) fun z => ?_
    rw [hzm, decide_eq_true_iff, mem_srt, td.set, ← hF]
  have hoks : ∀ x ∈ ys, PyData.strOk x = true := fun x hx => by
    rw [ey, mem_srt] at hx
    obtain ⟨C, hC, rfl⟩ := List.mem_map.mp hx
    exact strOk_nm (hFs hC).2.2
  have sy := same_new npy (.lst (sv ys))
  refine ⟨_, _, dp_strs (xs := zs) (SqL.of (sy _ _ (s7 _ _ ez6))), dp_strs (xs := ys) (SqL.of upd_same), shaped_oks (by rw [ezy]; exact hoks), shaped_oks hoks, _, rfl, itF (by rw [eqv_lists, ezy]; simp) ?_⟩
  have s58 := (s56.trans s7).trans sy
  change Same H5 (upd H7 py (.lst (ys.map V.str))) at s58
  generalize upd H7 py (.lst (ys.map V.str)) = H8 at s58 ⊢
  -- len(set(told)) != len(found)
  refine ⟨_, rfl, pt, E.map nm, rfl, SqL.of (s58 _ _ ept5), by rw [List.length_map]; omega, fun a2 n2 ks2 knd2 kl2 km2 na2 => ?_⟩
  have hn2 : n2 = F.length := by rw [← kl2, td.card knd2 km2, hF]
  have sa2 := same_new na2 (TSetO w a2 (fun j => decide (j ∈ E.map nm)) n2)
  refine ⟨a2, _, n2, rfl, upd_same, ?_⟩
  have s59 := s58.trans sa2
  change tCB _ _ _ (upd H8 a2 (TSetO w a2 (fun j => decide (j ∈ E.map nm)) n2)) _
  generalize upd H8 a2 (TSetO w a2 (fun j => decide (j ∈ E.map nm)) n2) = H9 at s59 ⊢
  have hprl : (ps.map V.ref).length = F.length := by rw [List.length_map, hpl]
  have epf9 := s59 _ _ epf5
  refine ⟨_, rfl, pf, _, rfl, .inl (SqL.of epf9), by simp [scal], _, rfl, itF (by rw [hprl, hn2]; simp) ?_⟩
  -- the order of what is found
  have hps9 := hpsH.s s59
  refine ⟨_, rfl, pf, _, rfl, .inl (SqL.of epf9), _, _, rfl, rfl, F.length - 1, by rw [hprl]; first | done | omega | (congr 1; omega), by omega, by omega, lc_g walk_range (fun i acc _ => acc = []) (by omega) (fun _ _ => trivial) (fun _ _ => rfl) (fun _ _ _ _ r _ => r) (fun i acc _ e => by rw [e]; exact Nat.zero_le _) ?_ ?_⟩
  · rintro i acc y H10 H11 Qy Qn hi s10 rfl ⟨rfl, rfl⟩ ky kn
    have hi' : i < F.length - 1 := by have h := hi; omega
    obtain ⟨p1, hp1⟩ := get_lt (l := ps) (i := i) (by omega)
    obtain ⟨p2, hp2⟩ := get_lt (l := ps) (i := i + 1) (by omega)
    obtain ⟨C1, hC1, ep1⟩ := Paired.at hps9 hp1
    obtain ⟨C2, hC2, ep2⟩ := Paired.at hps9 hp2
    have l1 := (hFs (List.mem_of_getElem? hC1)).2.1
    have l2 := (hFs (List.mem_of_getElem? hC2)).2.1
    have hlx : lexS C1 C2 = true := by
      obtain ⟨h1, e1⟩ := List.getElem?_eq_some_iff.mp hC1
      obtain ⟨h2, e2⟩ := List.getElem?_eq_some_iff.mp hC2
      rw [← e1, ← e2]
      have hlexF : F.Pairwise fun x y => lexS x y = true := by rw [hF]; exact pcs_lex g
      exact List.pairwise_iff_getElem.mp hlexF i (i + 1) h1 h2 (Nat.lt_succ_self i)
    refine ⟨rfl, _, rfl, _, rfl, pf, _, _, .ref p1, rfl, rfl, SqL.of (s10 _ _ epf9), ?_, _, rfl, _, rfl, _, _, rfl, rfl, pf, _, _, .ref p2, rfl, rfl, SqL.of (s10 _ _ epf9), ?_, p1, p2, C1, C2, rfl, rfl, SqL.of (s10 _ _ ep1), SqL.of (s10 _ _ ep2), by rw [l1, l2], hlx, _, rfl, itF rfl (kn _ (Same.refl _) rfl)⟩
    · rw [Int.zero_add, atN, List.getElem?_map, hp1]; rfl
    · rw [Int.zero_add, show ((i : Int) + 1) = ((i + 1 : Nat) : Int) by omega, atN, List.getElem?_map, hp2]; rfl
  rintro pq acc H10 hpq0 s10 epq r
  subst r
  refine ⟨sz_line (by decide : 0 ≤ 1000), fun l0 hl0 => ?_⟩
  have sl := same_new hl0 (.lst [])
  refine ⟨_, _, dp_strs (xs := []) (SqL.of (sl _ _ epq)), dp_strs (xs := []) (SqL.of upd_same), shaped_strs (fun z hz => by simp at hz), shaped_strs (fun z hz => by simp at hz), _, rfl, itF (by rw [eqv_lists]; simp) ?_⟩
  have s511 := (s59.trans s10).trans sl
  generalize upd H10 l0 (.lst []) = H11 at s511 ⊢
  clear sl s10 epq hpq0 hps9 epf9 s59 s58 s7 sy epk hpk0 ez6 epf6 hps6 s56
  have own11 := own5.s s511
  -- each committee
  refine ⟨_, rfl, o, rs, q0, rfl, own11, hq0, (g.gr q0 hq0m).1.2.2, (g.gr q0 hq0m).1.1, fun pa H12 npa s12 epa => ?_⟩
  rw [(g.gr q0 hq0m).2] at epa
  have hml : (sv ms).length = ms.length := List.length_map _
  refine ⟨_, rfl, m, _, rfl, .inl (SqL.of (s12 _ _ (s511 _ _ hm5))), pa, A, ms.length, by rw [hml]; rfl, SqL.of epa, hA6, fun pz H13 qs css npz2 s13 epz hcs hq64 hcss => ?_⟩
  have s513 := (s511.trans s12).trans s13
  refine ⟨pz, rfl, ⟨_, SqL.of epz⟩, for_it walk_list (fun i σ Hc => ∃ x7, σ = [some (.ref o), some (.ref m), some (.ref nc), some (.ref rk), some (.ref pe), some (.ref pt), some (.ref pf), x7, none, none, none, none, none, none, none, none] ∧ Same H13 Hc) ⟨none, rfl, Same.refl _⟩ (fun i σ Hc _ h => by obtain ⟨_, _, s⟩ := h; exact SqL.of (s _ _ epz)) ?_ ?_⟩
  · rintro i y σ H14 Hc hi ⟨x7, rfl, sc⟩ ⟨rfl, hc2⟩
    obtain ⟨p, hp, rfl⟩ := get_ref hc2
    obtain ⟨C, hC, ep⟩ := Paired.at hcs hp
    obtain ⟨c1, c2⟩ := hcss C (List.mem_of_getElem? hC)
    have hCn : A.length - C.length = n0 := by rw [c2]; omega
    have nC : Nms C := fun x hx => gc.2.1 x (c1.subset hx)
    have s5c := s513.trans sc
    have eC := sc _ _ ep
    refine ⟨_, rfl, _, rfl, _, rfl, _, rfl, .inl ⟨rfl, _, SqL.of (s5c _ _ ept5)⟩, _, rfl, p, C, rfl, SqL.of eC, nC, by have := c1.length_le; omega, pt, E.map nm, nm C, rfl, rfl, SqL.of (s5c _ _ ept5), ?_⟩
    refine ⟨rk, nc, p, rs, A, cs, C, (E.map nm).count (nm C), rfl, rk5.s s5c, by rw [hCn]; exact pr, .inl (s5c _ _ ec5), SqL.of eC, c1, hA6, ?_, fun v H15 s15 ev => ?_⟩
    · rw [hCn, ← hE]
      exact count_nm nC fun D hD => by
        obtain ⟨_, d2, d3⟩ := td.sub hD
        exact ⟨d3, by rw [d2, c2]; omega⟩
    · subst ev
      exact ⟨true, rfl, ⟨_, rfl, sc.trans s15⟩⟩
  rintro σ H14 ⟨x7, rfl, sc⟩
  have s514 := s513.trans sc
  have own14 := own5.s s514
  clear sc s513 s13 s12
  -- each alternative
  refine ⟨_, rfl, o, rs, q0, rfl, own14, hq0, (g.gr q0 hq0m).1.2.2, (g.gr q0 hq0m).1.1, fun pb H15 npb s15 epb => ?_⟩
  rw [(g.gr q0 hq0m).2] at epb
  have s515 := s514.trans s15
  refine ⟨pb, rfl, ⟨_, SqL.of epb⟩, for_it walk_list (fun i σ Hc => ∃ x8 x9 x10, σ = [some (.ref o), some (.ref m), some (.ref nc), some (.ref rk), some (.ref pe), some (.ref pt), some (.ref pf), x7, x8, x9, x10, none, none, none, none, none] ∧ Same H15 Hc) ⟨none, none, none, rfl, Same.refl _⟩ (fun i σ Hc _ h => by obtain ⟨_, _, _, _, s⟩ := h; exact SqL.of (s _ _ epb)) ?_ ?_⟩
  · rintro i y σ H16 Hc hi ⟨x8, x9, x10, rfl, sc⟩ ⟨rfl, hc2⟩
    obtain ⟨x, hx, rfl⟩ := get_map hc2
    have hxA := List.mem_of_getElem? hx
    have s5c := s515.trans sc
    have epfc := s5c _ _ epf5
    have hpsc := hpsH.s s5c
    refine ⟨_, rfl, pf, rfl, ⟨_, SqL.of epfc⟩, lc_g walk_list (fun i acc _ => acc.length = ((F.take i).filter fun C => decide (x ∈ C)).length) (by rw [List.length_map]; omega) (fun H7 s7 => SqL.of (s7 _ _ epfc)) (fun _ _ => rfl) (fun _ _ _ _ r _ => r) (fun i acc _ e => by rw [e]; exact Nat.le_trans (List.length_filter_le _ _) (by rw [List.length_take]; omega)) ?_ ?_⟩
    · rintro j acc y H18 H17 Qy Qn hj s7 ha ⟨rfl, hc3⟩ ky kn
      obtain ⟨p, hp, rfl⟩ := get_ref hc3
      obtain ⟨C, hC, ep⟩ := Paired.at hpsc hp
      refine ⟨rfl, _, rfl, _, rfl, p, _, rfl, .inl (SqL.of (s7 _ _ ep)), rfl, flat_sv C, _, rfl, ?_⟩
      rw [if_neg Bool.false_ne_true, inV_strs]
      by_cases hxC : x ∈ C
      · rw [decide_eq_true hxC]
        refine itT rfl ⟨_, rfl, ky _ _ (Same.refl _) ?_⟩
        rw [take_snoc hC, List.filter_append, List.length_append, List.length_append, ha]
        simp [hxC]
      · rw [decide_eq_false hxC]
        refine itF rfl (kn _ (Same.refl _) ?_)
        rw [take_snoc hC, List.filter_append, List.length_append, ha]
        simp [hxC]
    rintro pw acc H17 hpw0 s17 epw ha
    rw [List.length_map, hpl, List.take_length] at ha
    refine ⟨pw, acc, rfl, .inl (SqL.of epw), ?_⟩
    rw [ha]
    have s5d := s5c.trans s17
    have hdue := memb_due x (pcs_ne pr)
    rw [← hF] at hdue
    unfold dueOf at hdue
    have ct17 : CtsAt H17 nc cs := .inl (s5d _ _ ec5)
    have rk17 := rk5.s s5d
    by_cases hM : (F.filter fun C => decide (x ∈ C)).length = 0
    · rw [if_pos hM] at hdue
      refine ⟨_, rfl, by simp [scal], _, rfl, itT (by simp [hM]) ?_⟩
      refine ⟨_, rfl, _, rfl, _, rfl, rk, nc, x, rs, A, cs, rfl, rk17, g, ct17, dat.ck, by omega, hc0, by omega, hxA, fun v H18 s18 ev => ?_⟩
      subst ev
      exact ⟨_, rfl, by simp [scal], _, rfl, itF (by rw [hdue]; simp) ⟨_, _, _, rfl, (sc.trans s17).trans s18⟩⟩
    · rw [if_neg hM] at hdue
      refine ⟨_, rfl, by simp [scal], _, rfl, itF (decide_eq_false fun z => hM (by injection z with z; omega)) ?_⟩
      refine ⟨sz_line (by decide : 2 ≤ 1000), fun l hl => ?_⟩
      have snl := same_new hl (.lst [V.str "some", V.str "all"])
      have el : (upd H17 l (.lst [V.str "some", V.str "all"])) l = some (.lst [V.str "some", V.str "all"]) := upd_same
      have s17l := s17.trans snl
      have epfl := (s5c.trans s17l) _ _ epf5
      have rk18 := rk17.s snl
      have ct18 : CtsAt (upd H17 l (.lst [V.str "some", V.str "all"])) nc cs := Rd.s ct17 snl
      generalize upd H17 l (.lst [V.str "some", V.str "all"]) = H18 at el s17l epfl rk18 ct18 ⊢
      refine ⟨_, rfl, _, rfl, pf, _, rfl, .inl (SqL.of epfl), by simp [scal], .inr ⟨_, rfl, ?_⟩⟩
      rw [hprl]
      by_cases hA : (F.filter fun C => decide (x ∈ C)).length = F.length
      · rw [if_pos hA] at hdue
        rw [decide_eq_true (show V.int (((F.filter fun C => decide (x ∈ C)).length : Nat) : Int) = V.int ((F.length : Nat) : Int) by rw [hA])]
        refine ⟨l, _, 1, .str "all", rfl, rfl, SqL.of el, by decide, ?_⟩
        refine ⟨_, rfl, _, rfl, _, rfl, rk, nc, x, rs, A, cs, rfl, rk18, g, ct18, dat.ck, by omega, hc0, by omega, hxA, fun v H19 s19 ev => ?_⟩
        subst ev
        exact ⟨_, rfl, by simp [scal], _, rfl, itF (by rw [hdue]; simp) ⟨_, _, _, rfl, (sc.trans s17l).trans s19⟩⟩
      · rw [if_neg hA] at hdue
        rw [decide_eq_false (show ¬ (V.int (((F.filter fun C => decide (x ∈ C)).length : Nat) : Int) = V.int ((F.length : Nat) : Int)) from fun z => hA (by injection z with z; omega))]
        refine ⟨l, _, 0, .str "some", rfl, rfl, SqL.of el, by decide, ?_⟩
        refine ⟨_, rfl, _, rfl, _, rfl, rk, nc, x, rs, A, cs, rfl, rk18, g, ct18, dat.ck, by omega, hc0, by omega, hxA, fun v H19 s19 ev => ?_⟩
        subst ev
        exact ⟨_, rfl, by simp [scal], _, rfl, itF (by rw [hdue]; simp) ⟨_, _, _, rfl, (sc.trans s17l).trans s19⟩⟩
  rintro σ H16 ⟨x8, x9, x10, rfl, sc⟩
  exact k _ _ (sH5.trans (s515.trans sc)) rfl
end
end Fl
namespace Fl
open PySem PySem.Spec L2
open PyProof.Rows (envOfC)
/-! ### the rankings and the counts that are emptied -/
def spLNoted (K : PySem.W.Frag) : Sp := fun vs H Q _ => ∃ p r n C, vs = [.ref p, .ref r, .ref n] ∧ ComAt K H p C ∧ (∃ kv, H r = some (.dK kv)) ∧ (∃ kv, H n = some (.dK kv)) ∧ r ≠ n ∧
  ∀ l H', H l = none → (∀ b u, b ≠ r → b ≠ n → H b = some u → H' b = some u) → (∃ kv, H' r = some (.dK kv)) → (∃ kv, H' n = some (.dK kv)) → Md H H' → H' l = some (.lst (sv C)) → Q (.ref l) H'
def spLKept : Sp := fun vs H Q _ => ∃ o m n rs A ms cs, vs = [.ref o, .ref n] ∧ DatA H o m n rs A ms cs ∧ rs.length ≤ 5 ∧ Ret H Q fun v _ => v = .bl true
section
variable {P : Program} {w : World} {K : PySem.W.Frag} {mg : Str → Option Value} {base : Heap}
theorem ok_l_noted (T : TX K mg) : Cal P w K mg base 3 "_law_noted" ["_law_committee", "_law_rankings_here", "_law_numbers"] (spLNoted K) := by
  have F_C_members := ok_C_members (P := P) (w := w) (base := base) T
  refine cal_mk (fok_mk T.f_l_noted sc_l_noted (fun _ _ _ _ _ _ us hl => match us, hl with | [_, _, _], _ => rfl) (fun vs H Q E h => ?_) (fun cdv A outer s H vs Q E hr h => ?_)) T.g_l_noted (let ⟨_, F⟩ := T.f_l_noted; F.kp)
  · obtain ⟨p, r, n, C, rfl, _⟩ := h; rfl
  obtain ⟨p, r, n, C, rfl, hp, ⟨kr, er⟩, ⟨kn, en⟩, hrn, k⟩ := h
  refine ⟨_, (pss_cons (ps_expr (pe_dclear (pv 1)))
      (pss_cons (ps_expr (pe_dclear (pv 2)))
      (pss_one (ps_ret (pe_pr F_C_members T.clsC T.pC_members (hr.mono (by decide)) (pv 0)))))), ?_⟩
  refine ⟨_, rfl, .inr (.inr (.inl ⟨rfl, .inl ⟨_, er⟩⟩)), r, kr, rfl, rfl, er, ?_⟩
  have m1 := Md.dK er (.dK [])
  have en1 : (upd H r (.dK [])) n = some (.dK kn) := by rw [upd_ne hrn.symm]; exact en
  refine ⟨_, rfl, .inr (.inr (.inl ⟨rfl, .inl ⟨_, en1⟩⟩)), n, kn, rfl, rfl, en1, ?_⟩
  have m2 := m1.trans (Md.dK en1 (.dK []))
  have hp2 := hp.md m2
  obtain ⟨d2, l2, y1, y2⟩ := id hp2
  refine ⟨_, rfl, p, d2, _, rfl, y1, p, C, rfl, hp2, fun l H3 hl s3 e3 => ?_⟩
  have hlr : l ≠ r := fun e => by subst e; rw [upd_ne hrn, upd_same] at hl; cases hl
  have hln : l ≠ n := fun e => by subst e; rw [upd_same] at hl; cases hl
  refine k l H3 (by rw [upd_ne hln, upd_ne hlr] at hl; exact hl) (fun b u h1 h2 e => s3 _ _ (by rw [upd_ne h2, upd_ne h1]; exact e)) ⟨[], s3 _ _ (by rw [upd_ne hrn, upd_same])⟩ ⟨[], s3 _ _ upd_same⟩ (m2.trans (.of s3)) e3
theorem ok_l_kept_right (T : TX K mg) : Cal P w K mg base 22 "_law_kept_right" ["_law_own_here", "_law_counts"] spLKept := by
  have F_l_rankings := ok_l_rankings (P := P) (w := w) (base := base) T
  have F_l_noted := ok_l_noted (P := P) (w := w) (base := base) T
  have F_possible := ok_possible (P := P) (w := w) (base := base) T
  have F_C_members := ok_C_members (P := P) (w := w) (base := base) T
  refine cal_mk (fok_mk T.f_l_kept_right sc_l_kept_right (fun _ _ _ _ _ _ us hl => match us, hl with | [_, _], _ => rfl) (fun vs H Q E h => ?_) (fun cdv A outer s H vs Q E hr h => ?_)) T.g_l_kept_right (let ⟨_, F⟩ := T.f_l_kept_right; F.kp)
  · obtain ⟨o, m, n, rs, A, ms, cs, rfl, _⟩ := h; rfl
  obtain ⟨o, m, nc, rs, A, ms, cs, rfl, dat, hr5, k⟩ := h
  have hc0 : 0 ≤ total cs := total_nn fun q hq => (dat.ck.rng q hq).1
  obtain ⟨n0, hn0⟩ := Int.eq_ofNat_of_zero_le hc0
  have hA6 := dat.ha
  have htot := dat.tot
  have pr : Prm rs A cs n0 := ⟨dat.g, dat.ck, hn0, by omega⟩
  have td : Told rs A cs n0 _ := ⟨rfl, pr⟩
  have g := dat.g
  have gc := g.gc
  have hcl : cs.length = rs.length := dat.ck.len
  refine ⟨_, (pss_cons (ps_asg (pe_tup (pa_cons (pe_c F_l_rankings (hr.mono (by decide)) (pa_cons (pv 0) pa_nil)) (pa_cons (pe_callTy call_dictD (by rfl) T.b_dict (by decide +kernel) (pa_cons (pv 1) pa_nil)) pa_nil))) (k_gtup K (by rfl) rfl (pgs_cons (pg_name (i := 2) sc_l_kept_right.nd rfl (Or.inr rfl)) (pgs_cons (pg_name (i := 3) sc_l_kept_right.nd rfl (Or.inr rfl)) pgs_nil))))
      (pss_cons (ps_setLcG (i := 4) (own := [("_law_one", 5)]) (i0 := 5) rfl sc_l_kept_right.nd rfl rfl (sw_true rfl rfl rfl (by decide +kernel)) (hr.mono (by decide)) (pgn_c F_possible (hr.mono (by decide)) (pa_cons (pv 2) (pa_cons (pv 3) pa_nil))) (blkOk_by (N := ["_law_own_here", "_law_counts", "_law_rankings_here", "_law_numbers", "_law_some", "_law_one"]) (sc := defScope s_l_kept_right) (by decide +kernel)) (by decide) (by decide) (fun _ _ _ _ _ => by exact (pg_name (i := 5) sc_l_kept_right.nd rfl (Or.inl rfl))) (fun _ _ _ _ _ => by exact ((pe_c F_l_noted (hr.mono (by decide)) (pa_cons (pv 5) (pa_cons (pv 2) (pa_cons (pv 3) pa_nil)))))))
      (pss_one (ps_ret (pe_cmpR (k_eqD K (by rfl) hr.units) (pv 4) (pe_lcG (own := [("_law_one", 5)]) (i0 := 5) rfl sc_l_kept_right.nd  (hr.mono (by decide)) (pgn_c F_possible (hr.mono (by decide)) (pa_cons (pe_c F_l_rankings (hr.mono (by decide)) (pa_cons (pv 0) pa_nil)) (pa_cons (pv 1) pa_nil))) (blkOk_by (N := ["_law_own_here", "_law_counts", "_law_rankings_here", "_law_numbers", "_law_some", "_law_one"]) (sc := defScope s_l_kept_right) (by decide +kernel)) (by decide) (by decide) (fun _ _ _ _ _ => by exact (pg_name (i := 5) sc_l_kept_right.nd rfl (Or.inl rfl))) (fun _ _ _ _ _ => by exact ((pe_pr F_C_members T.clsC T.pC_members (hr.mono (by decide)) (pv 5))))) (nomark _)))))), ?_⟩
  refine ⟨_, rfl, o, rs, A, rfl, dat.own, g, fun rk H1 nrk s1 ⟨kvs, erk, hrk⟩ => ?_⟩
  have ec1 := s1 _ _ dat.hn
  refine ⟨_, rfl, nc, ctK cs, rfl, .inl ec1, fun d1 hd1 => ⟨sz_line (by decide : 2 ≤ 1000), fun tp htp => ?_⟩⟩
  have sd := same_new hd1 (.dK (ctK cs))
  have st := same_new htp (.tup [V.ref rk, V.ref d1])
  refine ⟨tp, [.ref rk, .ref d1], rfl, .inl (.inl upd_same), rfl, _, [.ref d1], rfl, _, [], rfl, rfl, ?_⟩
  have s12 := sd.trans st
  have ed2 : (upd (upd H1 d1 (.dK (ctK cs))) tp (.tup [V.ref rk, V.ref d1])) d1 = some (.dK (ctK cs)) := st _ _ upd_same
  have ndr : rk ≠ d1 := ne_of_none erk hd1
  have hd10 : H d1 = none := same_none s1 hd1
  change tSeq _ _ _ _ (upd (upd H1 d1 (.dK (ctK cs))) tp (.tup [V.ref rk, V.ref d1]))
  change Same H1 (upd (upd H1 d1 (.dK (ctK cs))) tp (.tup [V.ref rk, V.ref d1])) at s12
  generalize upd (upd H1 d1 (.dK (ctK cs))) tp (.tup [V.ref rk, V.ref d1]) = H2 at ed2 s12 ⊢
  have erk2 := s12 _ _ erk
  have hp20 := pcs_len (rs := rs) (A := A) (cs := cs) hA6
  have hFs : ∀ {C}, C ∈ pcs rs A cs → C.Sublist A ∧ C.length = A.length - n0 ∧ Nms C := fun h => td.pc h
  generalize hF : pcs rs A cs = F at hp20 hFs
  have s02 := s1.trans s12
  refine ⟨_, rfl, _, rfl, F, ⟨rk, d1, rs, A, cs, rfl, ⟨kvs, .inl erk2, hrk.md (.of s12)⟩, g, .inl ed2, dat.ck, by omega, by omega, hF.symm⟩, fun ps hps0 => ⟨fun rest Hc => ∃ done qs, F = done ++ rest ∧ Same H Hc ∧ (∃ kv, Hc rk = some (.dK kv)) ∧ (∃ kv, Hc d1 = some (.dK kv)) ∧ Hc ps = some (.lst (qs.map V.ref)) ∧ LsP (wo Hc ps) qs done, ⟨[], [], rfl, s02.trans (same_new hps0 _), ⟨_, same_new hps0 _ _ _ erk2⟩, ⟨_, same_new hps0 _ _ _ ed2⟩, upd_same, .nil⟩, ?_, ?_⟩⟩
  case' refine_2 =>
    rintro C rest Hc H6 y ⟨done, qs, e, sc, ⟨k1, er⟩, ⟨k2, ed⟩, eps, hqs⟩ s6 ⟨p6, rfl, hp6⟩
    have eps6 := s6 _ _ eps
    have er6 := s6 _ _ er
    have ed6 := s6 _ _ ed
    refine ⟨_, rfl, _, rfl, _, rfl, p6, rk, d1, C, rfl, hp6, ⟨_, er6⟩, ⟨_, ed6⟩, ndr, fun l H7 hl ky er7 ed7 md e7 => ?_⟩
    have npr : ps ≠ rk := ne_of eps6 er6 (fun z => nomatch z)
    have npd : ps ≠ d1 := ne_of eps6 ed6 (fun z => nomatch z)
    have eps7 := ky _ _ npr npd eps6
    have nlp : l ≠ ps := (ne_of_none eps6 hl).symm
    have hdl : (qs.map V.ref).length < sizeLine := by
      have h1 : qs.length = done.length := Paired.len hqs
      have := hp20
      rw [e, List.length_append, List.length_cons] at this
      rw [List.length_map, sizeLine_eq]; omega
    have sH7 : Same H H7 := fun b u z => ky _ _ (ne_of_none z nrk) (ne_of_none z hd10) (s6 _ _ (sc _ _ z))
    obtain ⟨k3, er7⟩ := er7
    obtain ⟨k4, ed7⟩ := ed7
    have hps00 : H ps = none := same_none s02 hps0
    refine ⟨md, _, eps7, hdl, done ++ [C], qs ++ [l], by rw [e, List.append_assoc]; rfl, same_up sH7 hps00 _, ⟨k3, by rw [upd_ne npr.symm]; exact er7⟩, ⟨k4, by rw [upd_ne npd.symm]; exact ed7⟩, by rw [upd_same, List.map_append]; rfl, ?_⟩
    rw [wo_upd]
    refine Paired.app (Paired.mapP hqs fun a xs z => ?_) (.cons ?_ .nil)
    · have nap : a ≠ ps := fun q => by
        subst q
        unfold wo at z
        rw [if_pos rfl] at z; cases z
      rw [wo_ne nap] at z ⊢
      have z6 := s6 _ _ z
      exact ky _ _ (ne_of z6 er6 (fun z => nomatch z)) (ne_of z6 ed6 (fun z => nomatch z)) z6
    · rw [wo_ne nlp]; exact e7
  rintro Hc H5 ⟨done, qs, e, sc, _, _, eps, hqs⟩ s5
  rw [List.append_nil] at e
  subst e
  have sH5 := sc.trans s5
  have hqs5 : LsP H5 qs F := hqs.s (wo_same.trans s5)
  have eps5 := s5 _ _ eps
  refine ⟨_, rfl, _, rfl, o, rs, A, rfl, dat.own.s sH5, g, fun rk2 H6 nrk2 s6 ⟨kvs2, erk6, hrk6⟩ => ?_⟩
  have ec6 := s6 _ _ (sH5 _ _ dat.hn)
  refine ⟨_, rfl, F, ⟨rk2, nc, rs, A, cs, rfl, ⟨kvs2, .inl erk6, hrk6⟩, g, .inl ec6, dat.ck, by omega, by omega, hF.symm⟩, fun pq hpq0 => ⟨fun rest Hc => ∃ done qs, F = done ++ rest ∧ Same H6 Hc ∧ Hc pq = some (.lst (qs.map V.ref)) ∧ LsP (wo Hc pq) qs done, ⟨[], [], rfl, same_new hpq0 _, upd_same, .nil⟩, ?_, ?_⟩⟩
  case' refine_2 =>
    rintro C rest Hc H7 y ⟨done, qs, e, sc, eps, hqs⟩ s7 ⟨p7, rfl, hp7⟩
    obtain ⟨d7, l7, y1, y2⟩ := id hp7
    have eps7 := s7 _ _ eps
    refine ⟨_, rfl, p7, d7, _, rfl, y1, p7, C, rfl, hp7, fun l H8 hl s8 e8 => ?_⟩
    have eps8 := s8 _ _ eps7
    have s78 := s7.trans s8
    have hdl : (qs.map V.ref).length < sizeLine := by
      have h1 : qs.length = done.length := Paired.len hqs
      have := hp20
      rw [e, List.length_append, List.length_cons] at this
      rw [List.length_map, sizeLine_eq]; omega
    refine ⟨.of s8, _, eps8, hdl, done ++ [C], qs ++ [l], by rw [e, List.append_assoc]; rfl, same_up (sc.trans s78) hpq0 _, by rw [upd_same, List.map_append]; rfl, ?_⟩
    rw [wo_upd]
    refine Paired.app (Paired.mapP hqs fun a xs z => wo_mono s78 _ _ z) (.cons ?_ .nil)
    rw [wo_ne (ne_of_none eps7 hl).symm]
    exact e8
  rintro H7 H8 ⟨done, qs2, e, sc2, eps2, hqs2⟩ s8
  rw [List.append_nil] at e
  subst e
  have s58 := (s6.trans sc2).trans s8
  have hnF : ∀ xs ∈ F, Nms xs := fun xs hx => (hFs hx).2.2
  refine ⟨_, _, .lst (SqL.of (s58 _ _ eps5)) (dp_nest (Paired.mapP (hqs5.s s58) fun a xs z => SqL.of z)), .lst (SqL.of (s8 _ _ eps2)) (dp_nest (Paired.mapP (hqs2.s (wo_same.trans s8)) fun a xs z => SqL.of z)), shaped_nest hnF, shaped_nest hnF, ?_⟩
  refine k _ _ (sH5.trans s58) ?_
  rw [eqv_nests]; simp
end
end Fl
namespace Fl
open PySem PySem.Spec L2
open PyProof.Rows (envOfC)
theorem k_glst {X : Cx} (K : PySem.W.Frag) (h0 : X.K = K := by rfl) {pos : Pos} {es : List Expr} {k : Nat} {t : TGs} {n : Nat} (hc : X.calm = true) (h : PGs X es t)
    (hn : (assignEach es X.env).length = n := by rfl) (hst : (assignEach es X.env).findIdx? (·.1) = none := by rfl) : PG X (.Tuple es k pos) (gLst K n t) := by subst h0; exact pg_lst hc h hn hst
/-- nobody to strike, no names -/
theorem prm_none : Prm [(("ann" : Str), ([] : List Str))] [] [(("ann" : Str), (0 : Int))] 0 := by
  refine ⟨⟨by simp, by decide, by simp, ?_, fun q hq => ?_⟩, ⟨rfl, by simp, fun q hq => ?_, fun q hq => ?_⟩, rfl, Nat.le_refl _⟩
  · unfold Nms; decide +kernel
  · rw [List.mem_singleton.mp hq]
    exact ⟨⟨List.Pairwise.nil, fun x hx => by simp at hx, by decide⟩, rfl⟩
  · rw [List.mem_singleton.mp hq]; exact List.mem_singleton.mpr rfl
  · rw [List.mem_singleton.mp hq]; exact ⟨by decide, by decide⟩
theorem pcs_none : pcs [(("ann" : Str), ([] : List Str))] [] [(("ann" : Str), (0 : Int))] = [[]] := by
  obtain ⟨C, hC⟩ := pcs_ne prm_none
  have e : pcs [(("ann" : Str), ([] : List Str))] [] [(("ann" : Str), (0 : Int))] = ([[]] : List (List Str)).filter (posb [(("ann" : Str), ([] : List Str))] [] [(("ann" : Str), (0 : Int))]) := rfl
  rw [e] at hC ⊢
  rw [List.filter_cons] at hC ⊢
  split at hC
  · rename_i h
    rw [if_pos h]; rfl
  · simp at hC
def spLaw (K : PySem.W.Frag) : Sp := fun vs H Q _ => ∃ l, ∃ xs : List Int, vs = [.ref l] ∧ SqL K H l (xs.map V.int) ∧ xs.length ≤ 63 ∧ ∀ H', Q (.bl true) H'
section
variable {P : Program} {w : World} {K : PySem.W.Frag} {mg : Str → Option Value} {base : Heap}
theorem law_fn (T : TX K mg) {f : Addr} {fd : FuncData} (F : Fun K "law" "law" s_law f fd) : FnOk P w K mg base CX0 24 f fd ["_law_script"] (spLaw K) := by
  have F_l_stream := ok_l_stream (P := P) (w := w) (base := base) T
  have F_l_drawn := ok_l_drawn (P := P) (w := w) (base := base) T
  have F_l_crowd := ok_l_crowd (P := P) (w := w) (base := base) T
  have F_l_orders_right := ok_l_orders_right (P := P) (w := w) (base := base) T
  have F_l_kept_right := ok_l_kept_right (P := P) (w := w) (base := base) T
  have F_possible := ok_possible (P := P) (w := w) (base := base) T
  have F_C_members := ok_C_members (P := P) (w := w) (base := base) T
  have F_R_init := ok_R_init (P := P) (w := w) (base := base) T
  refine F.ok sc_law (fun vs H Q E h => ?_) (fun cdv A outer s H vs Q E hr h => ?_)
  · obtain ⟨l, xs, rfl, _⟩ := h; rfl
  obtain ⟨l, xs, rfl, hl, h63, k⟩ := h
  refine ⟨_, (pss_cons (ps_for PassesOwn.never rfl (pi_range1 (by rfl) T.b_range (pa_cons (pe_callB (call_max2 rfl) (by rfl) T.b_max (by decide +kernel) (pa_cons pe_int (pa_cons (pe_callB (call_min2 rfl) (by rfl) T.b_min (by decide +kernel) (pa_cons pe_int (pa_cons (pe_callB (k_len K (by rfl)) (by rfl) T.b_len (by decide +kernel) (pa_cons (pv 0) pa_nil)) pa_nil))) pa_nil))) pa_nil)) (pg_name (i := 1) sc_law.nd rfl (Or.inl rfl)) (pss_cons (ps_set (i := 2) sc_law.nd rfl (Or.inl rfl) (pe_c F_l_stream (hr.mono (by decide)) (pa_cons (pv 0) (pa_cons (pv 1) pa_nil))))
      (pss_one (ps_for PassesOwn.never rfl (k_pil K (by rfl) (pe_lst (pa_cons (pe_c F_l_drawn (hr.mono (by decide)) (pa_cons (pv 2) (pa_cons pe_int pa_nil))) (pa_cons (pe_c F_l_crowd (hr.mono (by decide)) (pa_cons (pv 2) pa_nil)) pa_nil)))) (k_glst K (by rfl) rfl (pgs_cons (pg_name (i := 3) sc_law.nd rfl (Or.inl rfl)) (pgs_cons (pg_name (i := 4) sc_law.nd rfl (Or.inl rfl)) (pgs_cons (pg_name (i := 5) sc_law.nd rfl (Or.inl rfl)) (pgs_cons (pg_name (i := 6) sc_law.nd rfl (Or.inl rfl)) pgs_nil))))) (pss_cons (ps_if (pt_not (pt_val (pe_c F_l_orders_right (hr.mono (by decide)) (pa_cons (pv 3) (pa_cons (pv 4) (pa_cons (pv 6) pa_nil)))))) (pss_one (ps_ret pe_bl)) pss_nil)
      (pss_one (ps_if (PW.pt (pw_and (pt_cmpR op_lt (pe_callB call_lenR (by rfl) T.b_len (by decide +kernel) (pa_cons (pe_ix (k_ixL K (by rfl)) (pv 3) pe_int (fun _ _ => rfl)) pa_nil)) pe_int (nomark _)) (pw_and1 (pt_not (pt_val (pe_c F_l_kept_right (hr.mono (by decide)) (pa_cons (pv 3) (pa_cons (pv 6) pa_nil)))))))) (pss_one (ps_ret pe_bl)) pss_nil)))))))
      (pss_cons (ps_setLcG (i := 7) (own := [("_law_one", 8)]) (i0 := 8) rfl sc_law.nd rfl rfl (sw_true rfl rfl rfl (by decide +kernel)) (hr.mono (by decide)) (pgn_c F_possible (hr.mono (by decide)) (pa_cons (pe_disp (pps_cons pe_str (pe_mk F_R_init T.mkR T.gR (hr.mono (by decide)) (pa_cons (pe_lst pa_nil) pa_nil)) pps_nil) (by rfl) (by rfl) (fun z => by cases z) (by decide)) (pa_cons (pe_disp (pps_cons pe_str pe_int pps_nil) (by rfl) (by rfl) (fun z => by cases z) (by decide)) pa_nil))) (blkOk_by (N := ["_law_script", "_law_k", "_law_stream_here", "_law_own_here", "_law_members", "_law_others", "_law_counts", "_law_nobody", "_law_one"]) (sc := defScope s_law) (by decide +kernel)) (by decide) (by decide) (fun _ _ _ _ _ => by exact (pg_name (i := 8) sc_law.nd rfl (Or.inl rfl))) (fun _ _ _ _ _ => by exact ((pe_pr F_C_members T.clsC T.pC_members (hr.mono (by decide)) (pv 8)))))
      (pss_one (ps_ret (pe_cmpR (k_eqD K (by rfl) hr.units) (pv 7) (pe_lst (pa_cons (pe_lst pa_nil) pa_nil)) (nomark _)))))), ?_⟩
  have hxl : (xs.map V.int).length = xs.length := List.length_map _
  refine ⟨_, rfl, l, _, rfl, .inl hl, _, _, rfl, _, _, rfl, ?_⟩
  rw [hxl]
  refine ⟨_, rfl, by split <;> split <;> omega, by split <;> split <;> omega, ?_⟩
  refine for_it walk_range (fun i σ Hc => ∃ x1 x2 x3 x4 x5 x6, σ = [some (.ref l), x1, x2, x3, x4, x5, x6, none, none] ∧ Same H Hc) ⟨none, none, none, none, none, none, rfl, Same.refl _⟩ (fun _ _ _ _ _ => trivial) ?_ ?_
  · rintro i y σ H1 H2 hi ⟨x1, x2, x3, x4, x5, x6, rfl, sc⟩ ⟨rfl, rfl⟩
    have hi4 : i ≤ 4 := by
      have h := hi
      have : (if (if ((xs.length : Nat) : Int) < 4 then ((xs.length : Nat) : Int) else 4) > 1 then (if ((xs.length : Nat) : Int) < 4 then ((xs.length : Nat) : Int) else 4) else (1 : Int)) ≤ 4 := by split <;> split <;> omega
      omega
    refine ⟨_, rfl, _, rfl, l, xs, i, by show [V.ref l, V.int (0 + (i : Nat))] = _; rw [Int.zero_add], (Sm.of sc).seq hl, hi4, fun st H3 nst s3 hs3 => ?_⟩
    have sc3 := sc.trans s3
    have nst0 : H st = none := same_none sc nst
    refine ⟨_, rfl, st, 6, rfl, hs3, by decide, by decide, fun p1 H4 o1 m1 t1 n1 rs1 A1 ms1 cs1 np1 bt4 hs4 e1 dat1 hr1 => ?_⟩
    refine ⟨_, rfl, st, rfl, hs4, fun p2 H5 o2 m2 t2 n2 rs2 A2 ms2 cs2 np2 bt5 hs5 e2 dat2 hr2 => ?_⟩
    refine ⟨sz_line (by decide : 2 ≤ 1000), fun pl hpl => ?_⟩
    have sl := same_new hpl (.lst [V.ref p1, V.ref p2])
    have np1s : p1 ≠ st := hs3.ne np1
    have e15 := bt5 _ _ np1s e1
    have dat15 := dat1.but hs4 bt5
    have epl : (upd H5 pl (.lst [V.ref p1, V.ref p2])) pl = some (.lst ([p1, p2].map V.ref)) := upd_same
    have both : ∀ (j : Nat) (p : Addr), [p1, p2][j]? = some p → ∃ o m t n rs A ms cs, (upd H5 pl (.lst [V.ref p1, V.ref p2])) p = some (.lst [.ref o, .ref m, .ref t, .ref n]) ∧ DatA (upd H5 pl (.lst [V.ref p1, V.ref p2])) o m n rs A ms cs ∧ rs.length ≤ 5 := by
      intro j p hj
      match j, hj with
      | 0, hj => cases hj; exact ⟨o1, m1, t1, n1, rs1, A1, ms1, cs1, sl _ _ e15, dat15.s sl, hr1⟩
      | 1, hj => cases hj; exact ⟨o2, m2, t2, n2, rs2, A2, ms2, cs2, sl _ _ e2, dat2.s sl, hr2⟩
      | j + 2, hj => cases hj
    have sH : Same H (upd H5 pl (.lst [V.ref p1, V.ref p2])) := fun b u z => sl _ _ (bt5 _ _ (ne_of_none z nst0) (bt4 _ _ (ne_of_none z nst0) (sc3 _ _ z)))
    generalize upd H5 pl (.lst [V.ref p1, V.ref p2]) = H6 at epl both sH ⊢
    refine ⟨pl, rfl, ⟨_, SqL.of epl⟩, for_it walk_list (fun j σ Hc => ∃ x3 x4 x5 x6, σ = [some (.ref l), some (.int (0 + (i : Nat))), some (.ref st), x3, x4, x5, x6, none, none] ∧ Same H6 Hc) ⟨_, _, _, _, rfl, Same.refl _⟩ (fun j σ Hc _ h => by obtain ⟨_, _, _, _, _, s⟩ := h; exact SqL.of (s _ _ epl)) ?_ ?_⟩
    · rintro j y σ H7 Hc hj ⟨x3, x4, x5, x6, rfl, s7⟩ ⟨rfl, hc2⟩
      obtain ⟨p, hp, rfl⟩ := get_ref (ps := [p1, p2]) hc2
      obtain ⟨o, m, t, n, rs, A, ms, cs, ep, dat, hr5⟩ := both j p hp
      have datc := dat.s s7
      obtain ⟨d, td, kvs, h1, h2, h3⟩ := id datc.own
      refine ⟨p, [.ref o, .ref m, .ref t, .ref n], rfl, SqL.of (s7 _ _ ep), rfl, _, _, rfl, _, _, rfl, _, _, rfl, _, [], rfl, rfl, ?_⟩
      refine ⟨_, rfl, _, rfl, _, rfl, o, m, n, rs, A, ms, cs, rfl, datc, hr5, fun v H8 s8 ev => ?_⟩
      subst ev
      have dat8 := datc.s s8
      refine ⟨true, rfl, ?_⟩
      refine ⟨_, rfl, o, _, 0, .ref d, rfl, rfl, SqL.of (s8 _ _ h1), rfl, d, kvs, rfl, .inl (s8 _ _ h2), _, _, rfl, rfl, _, rfl, ?_⟩
      by_cases h4 : ((kvs.length : Nat) : Int) < 4
      · refine itT (decide_eq_true h4) ?_
        refine ⟨_, rfl, _, rfl, o, m, n, rs, A, ms, cs, rfl, dat8, hr5, fun v H9 s9 ev => ?_⟩
        subst ev
        exact ⟨true, rfl, _, _, _, _, rfl, (s7.trans s8).trans s9⟩
      · exact itF (decide_eq_false h4) ⟨_, _, _, _, rfl, s7.trans s8⟩
    · rintro σ H7 ⟨x3, x4, x5, x6, rfl, s7⟩
      exact ⟨_, _, _, _, _, _, rfl, sH.trans s7⟩
  · rintro σ H1 ⟨x1, x2, x3, x4, x5, x6, rfl, sc⟩
    refine fun dr hdr => ⟨sz_line (by decide : 0 ≤ 1000), fun l0 hl0 x dx nx nd ne => ?_⟩
    have sd := same_new hdr (.dK [])
    have sl := same_new hl0 (.lst [])
    have hlx : l0 ≠ x := fun e => by subst e; rw [upd_same] at nx; cases nx
    have hld : l0 ≠ dx := fun e => by subst e; rw [upd_same] at nd; cases nd
    refine ⟨x, dx, l0, [], rfl, upd_same, SqL.of (by rw [upd_ne hlx, upd_ne hld, upd_same]; rfl), ⟨List.Pairwise.nil, fun x hx => by simp at hx, by decide⟩, fun H4 hrk kp => ⟨rfl, ?_⟩⟩
    have s4 := sl.trans (made_same nx nd kp)
    have ed4 := s4 _ _ upd_same
    refine ⟨ed4, [(Sum.inr "ann", .ref x)], rfl, by show 1 ≤ 15; decide, ?_⟩
    have ed5 : (upd H4 dr (.dK (mergeK [] [((Sum.inr "ann" : Key), V.ref x)]))) dr = some (.dK [((Sum.inr "ann" : Key), V.ref x)]) := upd_same
    have hrk5 : RkAt K (upd H4 dr (.dK (mergeK [] [((Sum.inr "ann" : Key), V.ref x)]))) x [] := hrk.md (Md.dK ed4 _)
    generalize upd H4 dr (.dK (mergeK [] [((Sum.inr "ann" : Key), V.ref x)])) = H5 at ed5 hrk5 ⊢
    refine fun dn hdn => ?_
    refine ⟨upd_same, [(Sum.inr "ann", .int 0)], rfl, by show 1 ≤ 15; decide, ?_⟩
    have s6 : Same H5 (upd (upd H5 dn (.dK [])) dn (.dK (mergeK [] [((Sum.inr "ann" : Key), V.int 0)]))) := same_up (same_new hdn _) hdn _
    have en6 : (upd (upd H5 dn (.dK [])) dn (.dK (mergeK [] [((Sum.inr "ann" : Key), V.int 0)]))) dn = some (.dK (ctK [(("ann" : Str), (0 : Int))])) := upd_same
    generalize upd (upd H5 dn (.dK [])) dn (.dK (mergeK [] [((Sum.inr "ann" : Key), V.int 0)])) = H6 at s6 en6 ⊢
    have hrks : RksOf K H6 [(("ann" : Str), ([] : List Str))] [((Sum.inr "ann" : Key), V.ref x)] := by
      refine ⟨rfl, fun j q hq => ?_⟩
      match j, hq with
      | 0, hq => cases hq; exact ⟨x, rfl, hrk5.s s6⟩
      | j + 1, hq => simp at hq
    refine ⟨[[]], ⟨dr, dn, _, [], _, rfl, ⟨_, .inl (s6 _ _ ed5), hrks⟩, prm_none.g, .inl en6, prm_none.ck, by decide, by decide, pcs_none.symm⟩, fun pq hpq0 => ⟨fun rest Hc => ∃ done qs, ([[]] : List (List Str)) = done ++ rest ∧ Hc pq = some (.lst (qs.map V.ref)) ∧ LsP (wo Hc pq) qs done, ⟨[], [], rfl, upd_same, .nil⟩, ?_, ?_⟩⟩
    case' refine_2 =>
      rintro C rest Hc H7 y ⟨done, qs, e, eps, hqs⟩ s7 ⟨p7, rfl, hp7⟩
      obtain ⟨d7, l7, y1, y2⟩ := id hp7
      have eps7 := s7 _ _ eps
      refine ⟨_, rfl, p7, d7, _, rfl, y1, p7, C, rfl, hp7, fun l H8 hl s8 e8 => ?_⟩
      have eps8 := s8 _ _ eps7
      have s78 := s7.trans s8
      have hdl : (qs.map V.ref).length < sizeLine := by
        have h1 : qs.length = done.length := Paired.len hqs
        have h2 := congrArg List.length e
        rw [List.length_append, List.length_cons, List.length_cons, List.length_nil] at h2
        rw [List.length_map, sizeLine_eq]; omega
      refine ⟨.of s8, _, eps8, hdl, done ++ [C], qs ++ [l], by rw [e, List.append_assoc]; rfl, by rw [upd_same, List.map_append]; rfl, ?_⟩
      rw [wo_upd]
      refine Paired.app (Paired.mapP hqs fun a xs z => wo_mono s78 _ _ z) (.cons ?_ .nil)
      rw [wo_ne (ne_of_none eps7 hl).symm]
      exact e8
    rintro Hc H7 ⟨done, qs, e, eps, hqs⟩ s7
    rw [List.append_nil] at e
    subst e
    have eps7 := s7 _ _ eps
    have hqs7 : LsP H7 qs [[]] := hqs.s (wo_same.trans s7)
    refine ⟨_, rfl, sz_line (by decide : 0 ≤ 1000), fun e0 he0 => ⟨sz_line (by decide : 1 ≤ 1000), fun e1 he1 => ?_⟩⟩
    have s8 := same_new he0 (.lst [])
    have s9 := same_new he1 (.lst [V.ref e0])
    have hn0 : ∀ xs ∈ ([[]] : List (List Str)), Nms xs := fun xs hx => by rw [List.mem_singleton.mp hx]; exact fun z hz => by simp at hz
    refine ⟨_, _, .lst (SqL.of (s9 _ _ (s8 _ _ eps7))) (dp_nest (Paired.mapP (hqs7.s (s8.trans s9)) fun a xs z => SqL.of z)), .lst (SqL.of upd_same) (dp_nest (ps := [e0]) (xss := [[]]) (.cons (SqL.of (s9 _ _ upd_same)) .nil)), shaped_nest hn0, shaped_nest hn0, ?_⟩
    rw [eqv_nests]
    simpa using k _
end
end Fl
namespace Fl
open PySem PySem.Spec L2
theorem facts {P : Program} {w : World} {K : PySem.W.Frag} {h : Heap} {mg : Str → Option Value} {f : Addr} (X : K.In h) (G : h.Ns mainGlobals mg) (hfa : mg ("law" : Str) = some (.ref f)) (c : SaysB K) :
    ∃ fd : FuncData, (∀ (s : Shared) (v : Value), BindsTo s fd ⟨[v], []⟩ [("_law_script", v)]) ∧ ∀ base : Heap, K.In base → base.Ns mainGlobals mg → FnOk P w K mg base CX0 24 f fd ["_law_script"] (spLaw K) := by
  have T := tx_of X G c.ex c.def_
  obtain ⟨fd, F⟩ := c.def_ 72 _ rfl
  have e := hfa.symm.trans T.g_law
  cases e
  have b := FunD.bindsA (ps := ["_law_script"]) F fun _ _ _ _ _ _ us hl => match us, hl with | [_], _ => rfl
  exact ⟨fd, fun s v => b s [v] rfl, fun base _ _ => law_fn T (He5.fun_of F)⟩
end Fl
open PySem PySem.W PySem.Calls PyProof.Rows
theorem PySem.Challenge.cw_fewleft_k48_whole_possible_committees_holds : PySem.Challenge.rw_fewleft_k48_whole_possible_committees.Holds := by
  w_on; o_law
  refine HandSHeadRun.head_any (r := OpenLaw.row PySem.Challenge.rw_fewleft_k48_whole_possible_committees) (q := view (OpenLaw.row PySem.Challenge.rw_fewleft_k48_whole_possible_committees).prog [78]) (H := Fl.hk) (ob := Fl.ob) (M := 20000) (loose := Fl.names) (d := HandSHeadRun.topDef (OpenLaw.row PySem.Challenge.rw_fewleft_k48_whole_possible_committees).prog 78) (kwd := []) Fl.ob_eq
    (by kernel_rfl) (fun s => by kernel_rfl) Fl.run (by kernel_rfl) (by kernel_rfl) (by kernel_rfl) (by rfl) (by first | assumption | decide +kernel) (by decide +kernel) ⟨rfl, rfl, rfl, rfl, rfl, by decide +kernel⟩ ?hw ?hc
  case hw => w_witness2
  case hc =>
    refine L2.walk_ofE (l := PySem.Challenge.rw_fewleft_k48_whole_possible_committees) (n := 63) (k := 24) (x := "_law_script") (CX := L2.CX0) rfl (by decide) (by kernel_rfl) ⟨rfl, by decide, by decide⟩ ?F (fun _ _ _ _ z => z)
    intro w mg fa h Y G hmg0
    obtain ⟨K, KX, c⟩ := Y
    have hmg : mg ("law" : PySem.Str) = some (.ref fa) := by
      have e : (HandSHeadRun.topDef (OpenLaw.row PySem.Challenge.rw_fewleft_k48_whole_possible_committees).prog 78).name = ("law" : PySem.Str) := by kernel_rfl
      rw [← e]
      exact hmg0
    obtain ⟨fd, hb, hF⟩ := Fl.facts (P := (PySem.Challenge.rw_fewleft_k48_whole_possible_committees).prog) (w := w) KX G hmg c
    exact ⟨K, fd, Fl.spLaw K, KX, hb, fun H a ns hl _ hS => ⟨a, ns, rfl, hS, hl, fun _ => rfl⟩, hF⟩
