import PyProof.Rows.All
import Wide.All
import OpenK.AllK
import Wide.FinOn
import HandS.ForMost
import HandS.Codes
import HandS.Exc
import HandS.ExcOwn
import HandS.TryOnly
import HandS.WordsExc
import HandS.Small
import HandS.Style
import HandS.Flow
import HandS.SetKeys
import HandS.Deep
import HandS.Conv
import HandS.FStr
import HandS.NoneIn
import HandS.SortKw
import HandS.IsInst
import HandS.ExcIs
import HandS.ExcValue
import HandS.DictTup
import HandS.Steps
import HandS.Evl
import HandS.Defaults
import HandS.HeadHook2
import HandS.HeadEnd
import HandS.Head0
import HandS.Head1
import HandS.Head2
import KE.SortData
import HandS.Walk
import KE.KDictKeyed
import KE.KStateDown
import Lean
import HandS.HeadHook4
import HandS.HeadWalk
import KE.DataFind
import KE.LtData
import HandS.SetFor
import KE.DatumOrd
import HandS.Text
import HandS.Lambda
import KE.SortKeyHeap
import HandS.HeadHook3
import PySem.Challenge.RW_tieword_k28_a_book
set_option Elab.async false
set_option linter.all false
set_option maxRecDepth 100000
set_option maxHeartbeats 4000000
set_option autoImplicit false
namespace L2.Tw
open PySem PySem.Spec PyProof.Rows L2
/-! ### the text by places -/
def topS (i : Nat) : Stmt := PySem.Challenge.pw_tieword_k28_a_book.main.body.getD i (.Pass ⟨0, 0, 0, 0⟩)

abbrev s_ranked : Stmt := topS 14
theorem sc_ranked : FnScope ["keys", "unlike", "key"] ["keys"] (defScope s_ranked) := ⟨rfl, rfl, rfl, by decide +kernel, rfl, by decide +kernel, by decide +kernel⟩
abbrev d_ranked : He.DefD := ⟨("ranked", none), "ranked", "ranked", defArgs s_ranked, defBody s_ranked, defScope s_ranked, [], []⟩
abbrev s_key_at : Stmt := topS 15
theorem sc_key_at : FnScope ["web", "parting", "place", "round_it", "other"] ["web", "parting", "place"] (defScope s_key_at) := ⟨rfl, rfl, rfl, by decide +kernel, rfl, by decide +kernel, by decide +kernel⟩
abbrev d_key_at : He.DefD := ⟨("key_at", none), "key_at", "key_at", defArgs s_key_at, defBody s_key_at, defScope s_key_at, [], []⟩
abbrev s_keys_of : Stmt := topS 16
theorem sc_keys_of : FnScope ["web", "parting", "place"] ["web", "parting"] (defScope s_keys_of) := ⟨rfl, rfl, rfl, by decide +kernel, rfl, by decide +kernel, by decide +kernel⟩
abbrev d_keys_of : He.DefD := ⟨("keys_of", none), "keys_of", "keys_of", defArgs s_keys_of, defBody s_keys_of, defScope s_keys_of, [], []⟩
abbrev s_finer : Stmt := topS 17
theorem sc_finer : FnScope ["web", "parting"] ["web", "parting"] (defScope s_finer) := ⟨rfl, rfl, rfl, by decide +kernel, rfl, by decide +kernel, by decide +kernel⟩
abbrev d_finer : He.DefD := ⟨("finer", none), "finer", "finer", defArgs s_finer, defBody s_finer, defScope s_finer, [], []⟩
abbrev s_rounds_of : Stmt := topS 18
theorem sc_rounds_of : FnScope ["web", "parting", "rounds", "after"] ["web", "parting"] (defScope s_rounds_of) := ⟨rfl, rfl, rfl, by decide +kernel, rfl, by decide +kernel, by decide +kernel⟩
abbrev d_rounds_of : He.DefD := ⟨("rounds_of", none), "rounds_of", "rounds_of", defArgs s_rounds_of, defBody s_rounds_of, defScope s_rounds_of, [], []⟩
abbrev s_settled : Stmt := topS 19
theorem sc_settled : FnScope ["web", "parting"] ["web", "parting"] (defScope s_settled) := ⟨rfl, rfl, rfl, by decide +kernel, rfl, by decide +kernel, by decide +kernel⟩
abbrev d_settled : He.DefD := ⟨("settled", none), "settled", "settled", defArgs s_settled, defBody s_settled, defScope s_settled, [], []⟩
abbrev s_first_parting : Stmt := topS 20
theorem sc_first_parting : FnScope ["web"] ["web"] (defScope s_first_parting) := ⟨rfl, rfl, rfl, by decide +kernel, rfl, by decide +kernel, by decide +kernel⟩
abbrev d_first_parting : He.DefD := ⟨("first_parting", none), "first_parting", "first_parting", defArgs s_first_parting, defBody s_first_parting, defScope s_first_parting, [], []⟩
abbrev s_put_ahead : Stmt := topS 21
theorem sc_put_ahead : FnScope ["parting", "place", "own", "put", "other", "rank"] ["parting", "place"] (defScope s_put_ahead) := ⟨rfl, rfl, rfl, by decide +kernel, rfl, by decide +kernel, by decide +kernel⟩
abbrev d_put_ahead : He.DefD := ⟨("put_ahead", none), "put_ahead", "put_ahead", defArgs s_put_ahead, defBody s_put_ahead, defScope s_put_ahead, [], []⟩
abbrev s_chosen : Stmt := topS 22
theorem sc_chosen : FnScope ["web", "parting", "place"] ["web", "parting", "place"] (defScope s_chosen) := ⟨rfl, rfl, rfl, by decide +kernel, rfl, by decide +kernel, by decide +kernel⟩
abbrev d_chosen : He.DefD := ⟨("chosen", none), "chosen", "chosen", defArgs s_chosen, defBody s_chosen, defScope s_chosen, [], []⟩
abbrev s_open_class : Stmt := topS 23
theorem sc_open_class : FnScope ["parting", "rank", "place"] ["parting"] (defScope s_open_class) := ⟨rfl, rfl, rfl, by decide +kernel, rfl, by decide +kernel, by decide +kernel⟩
abbrev d_open_class : He.DefD := ⟨("open_class", none), "open_class", "open_class", defArgs s_open_class, defBody s_open_class, defScope s_open_class, [], []⟩
abbrev s_row_of : Stmt := topS 25
theorem sc_row_of : FnScope ["web", "order", "ties", "i", "j", "place"] ["web", "order"] (defScope s_row_of) := ⟨rfl, rfl, rfl, by decide +kernel, rfl, by decide +kernel, by decide +kernel⟩
abbrev d_row_of : He.DefD := ⟨("row_of", none), "row_of", "row_of", defArgs s_row_of, defBody s_row_of, defScope s_row_of, [], []⟩
abbrev s_order_by : Stmt := topS 26
theorem sc_order_by : FnScope ["parting", "order", "place", "rank"] ["parting"] (defScope s_order_by) := ⟨rfl, rfl, rfl, by decide +kernel, rfl, by decide +kernel, by decide +kernel⟩
abbrev d_order_by : He.DefD := ⟨("order_by", none), "order_by", "order_by", defArgs s_order_by, defBody s_order_by, defScope s_order_by, [], []⟩
abbrev s_leaves_all : Stmt := topS 27
theorem sc_leaves_all : FnScope ["turning", "places", "place"] ["turning", "places"] (defScope s_leaves_all) := ⟨rfl, rfl, rfl, by decide +kernel, rfl, by decide +kernel, by decide +kernel⟩
abbrev d_leaves_all : He.DefD := ⟨("leaves_all", none), "leaves_all", "leaves_all", defArgs s_leaves_all, defBody s_leaves_all, defScope s_leaves_all, [], []⟩
abbrev s_led_to : Stmt := topS 28
theorem sc_led_to : FnScope ["places", "turnings", "come", "at", "turning"] ["places", "turnings"] (defScope s_led_to) := ⟨rfl, rfl, rfl, by decide +kernel, rfl, by decide +kernel, by decide +kernel⟩
abbrev d_led_to : He.DefD := ⟨("led_to", none), "led_to", "led_to", defArgs s_led_to, defBody s_led_to, defScope s_led_to, [], []⟩
abbrev s_Finds_init : Stmt := inClass (topS 29) 0
theorem sc_Finds_init : FnScope ["self", "web"] ["self", "web"] (defScope s_Finds_init) := ⟨rfl, rfl, rfl, by decide +kernel, rfl, by decide +kernel, by decide +kernel⟩
abbrev d_Finds_init : He.DefD := ⟨("Finds", some "__init__"), "__init__", "Finds.__init__", defArgs s_Finds_init, defBody s_Finds_init, defScope s_Finds_init, [], []⟩
abbrev s_Finds_meet : Stmt := inClass (topS 29) 1
theorem sc_Finds_meet : FnScope ["self", "order", "row", "turning", "one", "other"] ["self", "order"] (defScope s_Finds_meet) := ⟨rfl, rfl, rfl, by decide +kernel, rfl, by decide +kernel, by decide +kernel⟩
abbrev d_Finds_meet : He.DefD := ⟨("Finds", some "meet"), "meet", "Finds.meet", defArgs s_Finds_meet, defBody s_Finds_meet, defScope s_Finds_meet, [], []⟩
abbrev s_Finds_needless : Stmt := inClass (topS 29) 2
theorem sc_Finds_needless : FnScope ["self", "place", "tried", "picked", "some", "turning"] ["self", "place", "tried", "picked"] (defScope s_Finds_needless) := ⟨rfl, rfl, rfl, by decide +kernel, rfl, by decide +kernel, by decide +kernel⟩
abbrev d_Finds_needless : He.DefD := ⟨("Finds", some "needless"), "needless", "Finds.needless", defArgs s_Finds_needless, defBody s_Finds_needless, defScope s_Finds_needless, [], []⟩
abbrev s_go_on : Stmt := topS 30
theorem sc_go_on : FnScope ["finds", "parting", "picked", "on_first", "choices", "tried", "place", "ahead", "again"] ["finds", "parting", "picked", "on_first"] (defScope s_go_on) := ⟨rfl, rfl, rfl, by decide +kernel, rfl, by decide +kernel, by decide +kernel⟩
abbrev d_go_on : He.DefD := ⟨("go_on", none), "go_on", "go_on", defArgs s_go_on, defBody s_go_on, defScope s_go_on, [], []⟩
abbrev s_searched : Stmt := topS 31
theorem sc_searched : FnScope ["web", "finds"] ["web"] (defScope s_searched) := ⟨rfl, rfl, rfl, by decide +kernel, rfl, by decide +kernel, by decide +kernel⟩
abbrev d_searched : He.DefD := ⟨("searched", none), "searched", "searched", defArgs s_searched, defBody s_searched, defScope s_searched, [], []⟩
abbrev s_least_order : Stmt := topS 32
theorem sc_least_order : FnScope ["web"] ["web"] (defScope s_least_order) := ⟨rfl, rfl, rfl, by decide +kernel, rfl, by decide +kernel, by decide +kernel⟩
abbrev d_least_order : He.DefD := ⟨("least_order", none), "least_order", "least_order", defArgs s_least_order, defBody s_least_order, defScope s_least_order, [], []⟩
abbrev s_is_word : Stmt := topS 37
theorem sc_is_word : FnScope ["kind", "sign"] ["kind"] (defScope s_is_word) := ⟨rfl, rfl, rfl, by decide +kernel, rfl, by decide +kernel, by decide +kernel⟩
abbrev d_is_word : He.DefD := ⟨("is_word", none), "is_word", "is_word", defArgs s_is_word, defBody s_is_word, defScope s_is_word, [], []⟩
abbrev s_is_tie : Stmt := topS 38
theorem sc_is_tie : FnScope ["size", "tie", "one", "other", "kind"] ["size", "tie"] (defScope s_is_tie) := ⟨rfl, rfl, rfl, by decide +kernel, rfl, by decide +kernel, by decide +kernel⟩
abbrev d_is_tie : He.DefD := ⟨("is_tie", none), "is_tie", "is_tie", defArgs s_is_tie, defBody s_is_tie, defScope s_is_tie, [], []⟩
abbrev s_plain_tie : Stmt := topS 39
theorem sc_plain_tie : FnScope ["tie"] ["tie"] (defScope s_plain_tie) := ⟨rfl, rfl, rfl, by decide +kernel, rfl, by decide +kernel, by decide +kernel⟩
abbrev d_plain_tie : He.DefD := ⟨("plain_tie", none), "plain_tie", "plain_tie", defArgs s_plain_tie, defBody s_plain_tie, defScope s_plain_tie, [], []⟩
abbrev s_pairs_between : Stmt := topS 40
theorem sc_pairs_between : FnScope ["ties", "found", "one", "other", "kind", "oneway", "there", "back", "told", "ends", "pairs"] ["ties"] (defScope s_pairs_between) := ⟨rfl, rfl, rfl, by decide +kernel, rfl, by decide +kernel, by decide +kernel⟩
abbrev d_pairs_between : He.DefD := ⟨("pairs_between", none), "pairs_between", "pairs_between", defArgs s_pairs_between, defBody s_pairs_between, defScope s_pairs_between, [], []⟩
abbrev s_Web_init : Stmt := inClass (topS 41) 0
theorem sc_Web_init : FnScope ["self", "kinds", "ties", "kind", "tie"] ["self", "kinds", "ties"] (defScope s_Web_init) := ⟨rfl, rfl, rfl, by decide +kernel, rfl, by decide +kernel, by decide +kernel⟩
abbrev d_Web_init : He.DefD := ⟨("Web", some "__init__"), "__init__", "Web.__init__", defArgs s_Web_init, defBody s_Web_init, defScope s_Web_init, [], []⟩
abbrev s_Web_size : Stmt := inClass (topS 41) 1
theorem sc_Web_size : FnScope ["self"] ["self"] (defScope s_Web_size) := ⟨rfl, rfl, rfl, by decide +kernel, rfl, by decide +kernel, by decide +kernel⟩
abbrev d_Web_size : He.DefD := ⟨("Web", some "size"), "size", "Web.size", defArgs s_Web_size, defBody s_Web_size, defScope s_Web_size, [], []⟩
abbrev s_Web_between : Stmt := inClass (topS 41) 2
theorem sc_Web_between : FnScope ["self", "one", "other"] ["self", "one", "other"] (defScope s_Web_between) := ⟨rfl, rfl, rfl, by decide +kernel, rfl, by decide +kernel, by decide +kernel⟩
abbrev d_Web_between : He.DefD := ⟨("Web", some "between"), "between", "Web.between", defArgs s_Web_between, defBody s_Web_between, defScope s_Web_between, [], []⟩
abbrev s_Web_near : Stmt := inClass (topS 41) 3
theorem sc_Web_near : FnScope ["self", "place", "other"] ["self", "place"] (defScope s_Web_near) := ⟨rfl, rfl, rfl, by decide +kernel, rfl, by decide +kernel, by decide +kernel⟩
abbrev d_Web_near : He.DefD := ⟨("Web", some "near"), "near", "Web.near", defArgs s_Web_near, defBody s_Web_near, defScope s_Web_near, [], []⟩
abbrev s_is_order : Stmt := topS 42
theorem sc_is_order : FnScope ["size", "order"] ["size", "order"] (defScope s_is_order) := ⟨rfl, rfl, rfl, by decide +kernel, rfl, by decide +kernel, by decide +kernel⟩
abbrev d_is_order : He.DefD := ⟨("is_order", none), "is_order", "is_order", defArgs s_is_order, defBody s_is_order, defScope s_is_order, [], []⟩
abbrev s_turned : Stmt := topS 43
theorem sc_turned : FnScope ["web", "order", "stands", "place", "old", "kinds", "ties", "one", "other", "kind", "oneway"] ["web", "order"] (defScope s_turned) := ⟨rfl, rfl, rfl, by decide +kernel, rfl, by decide +kernel, by decide +kernel⟩
abbrev d_turned : He.DefD := ⟨("turned", none), "turned", "turned", defArgs s_turned, defBody s_turned, defScope s_turned, [], []⟩
abbrev s_gone_from : Stmt := topS 45
theorem sc_gone_from : FnScope ["web", "place", "line", "sons", "other"] ["web", "place", "line", "sons"] (defScope s_gone_from) := ⟨rfl, rfl, rfl, by decide +kernel, rfl, by decide +kernel, by decide +kernel⟩
abbrev d_gone_from : He.DefD := ⟨("gone_from", none), "gone_from", "gone_from", defArgs s_gone_from, defBody s_gone_from, defScope s_gone_from, [], []⟩
abbrev s_walked : Stmt := topS 46
theorem sc_walked : FnScope ["web", "line", "sons", "begins", "place"] ["web"] (defScope s_walked) := ⟨rfl, rfl, rfl, by decide +kernel, rfl, by decide +kernel, by decide +kernel⟩
abbrev d_walked : He.DefD := ⟨("walked", none), "walked", "walked", defArgs s_walked, defBody s_walked, defScope s_walked, [], []⟩
abbrev s_marks_text : Stmt := topS 47
theorem sc_marks_text : FnScope ["pairs", "text", "kind", "lead"] ["pairs"] (defScope s_marks_text) := ⟨rfl, rfl, rfl, by decide +kernel, rfl, by decide +kernel, by decide +kernel⟩
abbrev d_marks_text : He.DefD := ⟨("marks_text", none), "marks_text", "marks_text", defArgs s_marks_text, defBody s_marks_text, defScope s_marks_text, [], []⟩
abbrev s_ring_signs : Stmt := topS 48
theorem sc_ring_signs : FnScope ["web", "line", "sons", "signs", "place", "number", "at", "close", "begin", "pairs", "marks"] ["web", "line", "sons"] (defScope s_ring_signs) := ⟨rfl, rfl, rfl, by decide +kernel, rfl, by decide +kernel, by decide +kernel⟩
abbrev d_ring_signs : He.DefD := ⟨("ring_signs", none), "ring_signs", "ring_signs", defArgs s_ring_signs, defBody s_ring_signs, defScope s_ring_signs, [], []⟩
abbrev s_run_text : Stmt := topS 49
theorem sc_run_text : FnScope ["web", "place", "sons", "signs", "text", "k", "son", "behind"] ["web", "place", "sons", "signs"] (defScope s_run_text) := ⟨rfl, rfl, rfl, by decide +kernel, rfl, by decide +kernel, by decide +kernel⟩
abbrev d_run_text : He.DefD := ⟨("run_text", none), "run_text", "run_text", defArgs s_run_text, defBody s_run_text, defScope s_run_text, [], []⟩
abbrev s_written : Stmt := topS 50
theorem sc_written : FnScope ["web", "least", "line", "sons", "begins", "signs", "place"] ["web"] (defScope s_written) := ⟨rfl, rfl, rfl, by decide +kernel, rfl, by decide +kernel, by decide +kernel⟩
abbrev d_written : He.DefD := ⟨("written", none), "written", "written", defArgs s_written, defBody s_written, defScope s_written, [], []⟩
abbrev s_pairing : Stmt := topS 53
theorem sc_pairing : FnScope ["one", "other", "mine", "theirs", "order", "place", "there"] ["one", "other"] (defScope s_pairing) := ⟨rfl, rfl, rfl, by decide +kernel, rfl, by decide +kernel, by decide +kernel⟩
abbrev d_pairing : He.DefD := ⟨("pairing", none), "pairing", "pairing", defArgs s_pairing, defBody s_pairing, defScope s_pairing, [], []⟩
abbrev s_is_book_name : Stmt := topS 54
theorem sc_is_book_name : FnScope ["name", "sign"] ["name"] (defScope s_is_book_name) := ⟨rfl, rfl, rfl, by decide +kernel, rfl, by decide +kernel, by decide +kernel⟩
abbrev d_is_book_name : He.DefD := ⟨("is_book_name", none), "is_book_name", "is_book_name", defArgs s_is_book_name, defBody s_is_book_name, defScope s_is_book_name, [], []⟩
abbrev s_Webbook_init : Stmt := inClass (topS 55) 0
theorem sc_Webbook_init : FnScope ["self"] ["self"] (defScope s_Webbook_init) := ⟨rfl, rfl, rfl, by decide +kernel, rfl, by decide +kernel, by decide +kernel⟩
abbrev d_Webbook_init : He.DefD := ⟨("Webbook", some "__init__"), "__init__", "Webbook.__init__", defArgs s_Webbook_init, defBody s_Webbook_init, defScope s_Webbook_init, [], []⟩
abbrev s_Webbook_note : Stmt := inClass (topS 55) 1
theorem sc_Webbook_note : FnScope ["self", "web", "name", "text", "other", "kept_web"] ["self", "web", "name"] (defScope s_Webbook_note) := ⟨rfl, rfl, rfl, by decide +kernel, rfl, by decide +kernel, by decide +kernel⟩
abbrev d_Webbook_note : He.DefD := ⟨("Webbook", some "note"), "note", "Webbook.note", defArgs s_Webbook_note, defBody s_Webbook_note, defScope s_Webbook_note, [], []⟩
abbrev s_Webbook_name_of : Stmt := inClass (topS 55) 2
theorem sc_Webbook_name_of : FnScope ["self", "web", "found"] ["self", "web"] (defScope s_Webbook_name_of) := ⟨rfl, rfl, rfl, by decide +kernel, rfl, by decide +kernel, by decide +kernel⟩
abbrev d_Webbook_name_of : He.DefD := ⟨("Webbook", some "name_of"), "name_of", "Webbook.name_of", defArgs s_Webbook_name_of, defBody s_Webbook_name_of, defScope s_Webbook_name_of, [], []⟩
abbrev s_Webbook_shown : Stmt := inClass (topS 55) 3
theorem sc_Webbook_shown : FnScope ["self", "web", "found"] ["self", "web"] (defScope s_Webbook_shown) := ⟨rfl, rfl, rfl, by decide +kernel, rfl, by decide +kernel, by decide +kernel⟩
abbrev d_Webbook_shown : He.DefD := ⟨("Webbook", some "shown"), "shown", "Webbook.shown", defArgs s_Webbook_shown, defBody s_Webbook_shown, defScope s_Webbook_shown, [], []⟩
abbrev s_Webbook_strike : Stmt := inClass (topS 55) 4
theorem sc_Webbook_strike : FnScope ["self", "web", "text"] ["self", "web"] (defScope s_Webbook_strike) := ⟨rfl, rfl, rfl, by decide +kernel, rfl, by decide +kernel, by decide +kernel⟩
abbrev d_Webbook_strike : He.DefD := ⟨("Webbook", some "strike"), "strike", "Webbook.strike", defArgs s_Webbook_strike, defBody s_Webbook_strike, defScope s_Webbook_strike, [], []⟩
abbrev s_Webbook_names : Stmt := inClass (topS 55) 5
theorem sc_Webbook_names : FnScope ["self", "text"] ["self"] (defScope s_Webbook_names) := ⟨rfl, rfl, rfl, by decide +kernel, rfl, by decide +kernel, by decide +kernel⟩
abbrev d_Webbook_names : He.DefD := ⟨("Webbook", some "names"), "names", "Webbook.names", defArgs s_Webbook_names, defBody s_Webbook_names, defScope s_Webbook_names, [], []⟩
abbrev s_Webbook_many : Stmt := inClass (topS 55) 6
theorem sc_Webbook_many : FnScope ["self"] ["self"] (defScope s_Webbook_many) := ⟨rfl, rfl, rfl, by decide +kernel, rfl, by decide +kernel, by decide +kernel⟩
abbrev d_Webbook_many : He.DefD := ⟨("Webbook", some "many"), "many", "Webbook.many", defArgs s_Webbook_many, defBody s_Webbook_many, defScope s_Webbook_many, [], []⟩
abbrev s_law_begin : Stmt := topS 57
theorem sc_law_begin : FnScope ["_law_script", "_law_number", "_law_cell"] ["_law_script"] (defScope s_law_begin) := ⟨rfl, rfl, rfl, by decide +kernel, rfl, by decide +kernel, by decide +kernel⟩
abbrev d_law_begin : He.DefD := ⟨("_law_begin", none), "_law_begin", "_law_begin", defArgs s_law_begin, defBody s_law_begin, defScope s_law_begin, [], []⟩
abbrev s_law_next : Stmt := topS 58
theorem sc_law_next : FnScope ["_law_script", "_law_at", "_law_cell"] ["_law_script", "_law_at"] (defScope s_law_next) := ⟨rfl, rfl, rfl, by decide +kernel, rfl, by decide +kernel, by decide +kernel⟩
abbrev d_law_next : He.DefD := ⟨("_law_next", none), "_law_next", "_law_next", defArgs s_law_next, defBody s_law_next, defScope s_law_next, [], []⟩
abbrev s_law_great : Stmt := topS 59
theorem sc_law_great : FnScope ["_law_script", "_law_at", "_law_number"] ["_law_script", "_law_at"] (defScope s_law_great) := ⟨rfl, rfl, rfl, by decide +kernel, rfl, by decide +kernel, by decide +kernel⟩
abbrev d_law_great : He.DefD := ⟨("_law_great", none), "_law_great", "_law_great", defArgs s_law_great, defBody s_law_great, defScope s_law_great, [], []⟩
abbrev s_law_pool : Stmt := topS 60
theorem sc_law_pool : FnScope ["_law_script", "_law_at", "_law_letters", "_law_n", "_law_size", "_law_base", "_law_k", "_law_spot", "_law_step", "_law_other", "_law_last"] ["_law_script", "_law_at"] (defScope s_law_pool) := ⟨rfl, rfl, rfl, by decide +kernel, rfl, by decide +kernel, by decide +kernel⟩
abbrev d_law_pool : He.DefD := ⟨("_law_pool", none), "_law_pool", "_law_pool", defArgs s_law_pool, defBody s_law_pool, defScope s_law_pool, [], []⟩
abbrev s_law_kinds : Stmt := topS 61
theorem sc_law_kinds : FnScope ["_law_script", "_law_at", "_law_size", "_law_pool_here", "_law_many", "_law_k"] ["_law_script", "_law_at", "_law_size"] (defScope s_law_kinds) := ⟨rfl, rfl, rfl, by decide +kernel, rfl, by decide +kernel, by decide +kernel⟩
abbrev d_law_kinds : He.DefD := ⟨("_law_kinds", none), "_law_kinds", "_law_kinds", defArgs s_law_kinds, defBody s_law_kinds, defScope s_law_kinds, [], []⟩
abbrev s_law_ties : Stmt := topS 62
theorem sc_law_ties : FnScope ["_law_script", "_law_at", "_law_size", "_law_some", "_law_family", "_law_lead", "_law_ties_here", "_law_k", "_law_j", "_law_half", "_law_one", "_law_other"] ["_law_script", "_law_at", "_law_size"] (defScope s_law_ties) := ⟨rfl, rfl, rfl, by decide +kernel, rfl, by decide +kernel, by decide +kernel⟩
abbrev d_law_ties : He.DefD := ⟨("_law_ties", none), "_law_ties", "_law_ties", defArgs s_law_ties, defBody s_law_ties, defScope s_law_ties, [], []⟩
abbrev s_law_web : Stmt := topS 63
theorem sc_law_web : FnScope ["_law_script", "_law_at", "_law_most", "_law_size", "_law_kinds_here", "_law_ties_here", "_law_kind", "_law_k", "_law_turn", "_law_one", "_law_other", "_law_oneway"] ["_law_script", "_law_at", "_law_most"] (defScope s_law_web) := ⟨rfl, rfl, rfl, by decide +kernel, rfl, by decide +kernel, by decide +kernel⟩
abbrev d_law_web : He.DefD := ⟨("_law_web", none), "_law_web", "_law_web", defArgs s_law_web, defBody s_law_web, defScope s_law_web, [], []⟩
abbrev s_law_order : Stmt := topS 64
theorem sc_law_order : FnScope ["_law_script", "_law_at", "_law_size", "_law_left", "_law_order_here"] ["_law_script", "_law_at", "_law_size"] (defScope s_law_order) := ⟨rfl, rfl, rfl, by decide +kernel, rfl, by decide +kernel, by decide +kernel⟩
abbrev d_law_order : He.DefD := ⟨("_law_order", none), "_law_order", "_law_order", defArgs s_law_order, defBody s_law_order, defScope s_law_order, [], []⟩
abbrev s_law_turned : Stmt := topS 65
theorem sc_law_turned : FnScope ["_law_made", "_law_order_here", "_law_stands", "_law_place", "_law_ties_here", "_law_one", "_law_other", "_law_kind", "_law_oneway", "_law_old"] ["_law_made", "_law_order_here"] (defScope s_law_turned) := ⟨rfl, rfl, rfl, by decide +kernel, rfl, by decide +kernel, by decide +kernel⟩
abbrev d_law_turned : He.DefD := ⟨("_law_turned", none), "_law_turned", "_law_turned", defArgs s_law_turned, defBody s_law_turned, defScope s_law_turned, [], []⟩
abbrev s_law_plain : Stmt := topS 66
theorem sc_law_plain : FnScope ["_law_ties_here", "_law_found", "_law_one", "_law_other", "_law_kind", "_law_oneway"] ["_law_ties_here"] (defScope s_law_plain) := ⟨rfl, rfl, rfl, by decide +kernel, rfl, by decide +kernel, by decide +kernel⟩
abbrev d_law_plain : He.DefD := ⟨("_law_plain", none), "_law_plain", "_law_plain", defArgs s_law_plain, defBody s_law_plain, defScope s_law_plain, [], []⟩
abbrev s_law_whole : Stmt := topS 67
theorem sc_law_whole : FnScope ["_law_found"] ["_law_found"] (defScope s_law_whole) := ⟨rfl, rfl, rfl, by decide +kernel, rfl, by decide +kernel, by decide +kernel⟩
abbrev d_law_whole : He.DefD := ⟨("_law_whole", none), "_law_whole", "_law_whole", defArgs s_law_whole, defBody s_law_whole, defScope s_law_whole, [], []⟩
abbrev s_law_table : Stmt := topS 70
theorem sc_law_table : FnScope ["_law_made", "_law_table_here", "_law_k", "_law_j", "_law_one", "_law_other", "_law_kind", "_law_oneway", "_law_ends"] ["_law_made"] (defScope s_law_table) := ⟨rfl, rfl, rfl, by decide +kernel, rfl, by decide +kernel, by decide +kernel⟩
abbrev d_law_table : He.DefD := ⟨("_law_table", none), "_law_table", "_law_table", defArgs s_law_table, defBody s_law_table, defScope s_law_table, [], []⟩
abbrev s_law_colours : Stmt := topS 71
theorem sc_law_colours : FnScope ["_law_made", "_law_table_here", "_law_size", "_law_j", "_law_k"] ["_law_made", "_law_table_here"] (defScope s_law_colours) := ⟨rfl, rfl, rfl, by decide +kernel, rfl, by decide +kernel, by decide +kernel⟩
abbrev d_law_colours : He.DefD := ⟨("_law_colours", none), "_law_colours", "_law_colours", defArgs s_law_colours, defBody s_law_colours, defScope s_law_colours, [], []⟩
abbrev s_law_go_on : Stmt := topS 72
theorem sc_law_go_on : FnScope ["_law_one", "_law_other", "_law_order_here", "_law_at", "_law_place", "_law_k", "_law_found"] ["_law_one", "_law_other", "_law_order_here"] (defScope s_law_go_on) := ⟨rfl, rfl, rfl, by decide +kernel, rfl, by decide +kernel, by decide +kernel⟩
abbrev d_law_go_on : He.DefD := ⟨("_law_go_on", none), "_law_go_on", "_law_go_on", defArgs s_law_go_on, defBody s_law_go_on, defScope s_law_go_on, [], []⟩
abbrev s_law_paired : Stmt := topS 73
theorem sc_law_paired : FnScope ["_law_one", "_law_other", "_law_first", "_law_second", "_law_mine", "_law_theirs"] ["_law_one", "_law_other"] (defScope s_law_paired) := ⟨rfl, rfl, rfl, by decide +kernel, rfl, by decide +kernel, by decide +kernel⟩
abbrev d_law_paired : He.DefD := ⟨("_law_paired", none), "_law_paired", "_law_paired", defArgs s_law_paired, defBody s_law_paired, defScope s_law_paired, [], []⟩
abbrev s_law_row_of : Stmt := topS 74
theorem sc_law_row_of : FnScope ["_law_held", "_law_made", "_law_row"] ["_law_held", "_law_made"] (defScope s_law_row_of) := ⟨rfl, rfl, rfl, by decide +kernel, rfl, by decide +kernel, by decide +kernel⟩
abbrev d_law_row_of : He.DefD := ⟨("_law_row_of", none), "_law_row_of", "_law_row_of", defArgs s_law_row_of, defBody s_law_row_of, defScope s_law_row_of, [], []⟩
abbrev s_law_shown : Stmt := topS 75
theorem sc_law_shown : FnScope ["_law_found", "_law_row", "_law_made", "_law_order_here", "_law_place", "_law_due"] ["_law_found", "_law_row", "_law_made"] (defScope s_law_shown) := ⟨rfl, rfl, rfl, by decide +kernel, rfl, by decide +kernel, by decide +kernel⟩
abbrev d_law_shown : He.DefD := ⟨("_law_shown", none), "_law_shown", "_law_shown", defArgs s_law_shown, defBody s_law_shown, defScope s_law_shown, [], []⟩
abbrev s_law_name_told : Stmt := topS 76
theorem sc_law_name_told : FnScope ["_law_found", "_law_row"] ["_law_found", "_law_row"] (defScope s_law_name_told) := ⟨rfl, rfl, rfl, by decide +kernel, rfl, by decide +kernel, by decide +kernel⟩
abbrev d_law_name_told : He.DefD := ⟨("_law_name_told", none), "_law_name_told", "_law_name_told", defArgs s_law_name_told, defBody s_law_name_told, defScope s_law_name_told, [], []⟩
abbrev s_law_names_told : Stmt := topS 77
theorem sc_law_names_told : FnScope ["_law_book", "_law_held", "_law_due", "_law_row", "_law_found"] ["_law_book", "_law_held"] (defScope s_law_names_told) := ⟨rfl, rfl, rfl, by decide +kernel, rfl, by decide +kernel, by decide +kernel⟩
abbrev d_law_names_told : He.DefD := ⟨("_law_names_told", none), "_law_names_told", "_law_names_told", defArgs s_law_names_told, defBody s_law_names_told, defScope s_law_names_told, [], []⟩
abbrev s_law_which : Stmt := topS 78
theorem sc_law_which : FnScope ["_law_caught", "_law_some", "_law_one"] ["_law_caught"] (defScope s_law_which) := ⟨rfl, rfl, rfl, by decide +kernel, rfl, by decide +kernel, by decide +kernel⟩
abbrev d_law_which : He.DefD := ⟨("_law_which", none), "_law_which", "_law_which", defArgs s_law_which, defBody s_law_which, defScope s_law_which, [], []⟩
abbrev s_law_note : Stmt := topS 79
theorem sc_law_note : FnScope ["_law_book", "_law_web_here", "_law_name_here", "_law_told", "_law_caught", "error"] ["_law_book", "_law_web_here", "_law_name_here"] (defScope s_law_note) := ⟨rfl, rfl, rfl, by decide +kernel, rfl, by decide +kernel, by decide +kernel⟩
abbrev d_law_note : He.DefD := ⟨("_law_note", none), "_law_note", "_law_note", defArgs s_law_note, defBody s_law_note, defScope s_law_note, [], []⟩
abbrev s_law_strike : Stmt := topS 80
theorem sc_law_strike : FnScope ["_law_book", "_law_web_here", "_law_told", "_law_caught", "error"] ["_law_book", "_law_web_here"] (defScope s_law_strike) := ⟨rfl, rfl, rfl, by decide +kernel, rfl, by decide +kernel, by decide +kernel⟩
abbrev d_law_strike : He.DefD := ⟨("_law_strike", none), "_law_strike", "_law_strike", defArgs s_law_strike, defBody s_law_strike, defScope s_law_strike, [], []⟩
abbrev s_law_name : Stmt := topS 81
theorem sc_law_name : FnScope ["_law_script", "_law_at", "_law_signs", "_law_n", "_law_size", "_law_spot", "_law_stem", "_law_name_here", "_law_strange"] ["_law_script", "_law_at"] (defScope s_law_name) := ⟨rfl, rfl, rfl, by decide +kernel, rfl, by decide +kernel, by decide +kernel⟩
abbrev d_law_name : He.DefD := ⟨("_law_name", none), "_law_name", "_law_name", defArgs s_law_name, defBody s_law_name, defScope s_law_name, [], []⟩
abbrev s_law_is_name : Stmt := topS 82
theorem sc_law_is_name : FnScope ["_law_name_here", "_law_sign"] ["_law_name_here"] (defScope s_law_is_name) := ⟨rfl, rfl, rfl, by decide +kernel, rfl, by decide +kernel, by decide +kernel⟩
abbrev d_law_is_name : He.DefD := ⟨("_law_is_name", none), "_law_is_name", "_law_is_name", defArgs s_law_is_name, defBody s_law_is_name, defScope s_law_is_name, [], []⟩
abbrev s_law_deed : Stmt := topS 83
theorem sc_law_deed : FnScope ["_law_script", "_law_at", "_law_book", "_law_held", "_law_gone", "_law_made", "_law_web_here", "_law_row", "_law_n", "_law_told", "_law_which_here", "_law_name_here", "_law_other"] ["_law_script", "_law_at", "_law_book", "_law_held", "_law_gone", "_law_made"] (defScope s_law_deed) := ⟨rfl, rfl, rfl, by decide +kernel, rfl, by decide +kernel, by decide +kernel⟩
abbrev d_law_deed : He.DefD := ⟨("_law_deed", none), "_law_deed", "_law_deed", defArgs s_law_deed, defBody s_law_deed, defScope s_law_deed, [], []⟩
abbrev s_law_filled : Stmt := topS 84
theorem sc_law_filled : FnScope ["_law_book", "_law_held", "_law_pool_here", "_law_k", "_law_made", "_law_web_here", "_law_row", "_law_name_here", "_law_told", "_law_which_here"] ["_law_book", "_law_held", "_law_pool_here"] (defScope s_law_filled) := ⟨rfl, rfl, rfl, by decide +kernel, rfl, by decide +kernel, by decide +kernel⟩
abbrev d_law_filled : He.DefD := ⟨("_law_filled", none), "_law_filled", "_law_filled", defArgs s_law_filled, defBody s_law_filled, defScope s_law_filled, [], []⟩
abbrev s_law : Stmt := topS 85
theorem sc_law : FnScope ["_law_script", "_law_at", "_law_many", "_law_pool_here", "_law_k", "_law_made", "_law_book", "_law_held", "_law_gone", "_law_cell", "_law_n", "_law_row"] ["_law_script"] (defScope s_law) := ⟨rfl, rfl, rfl, by decide +kernel, rfl, by decide +kernel, by decide +kernel⟩
abbrev d_law : He.DefD := ⟨("law", none), "law", "law", defArgs s_law, defBody s_law, defScope s_law, [], []⟩
def fn0 : List He.DefD := [d_ranked, d_key_at, d_keys_of, d_finer, d_rounds_of, d_settled, d_first_parting, d_put_ahead, d_chosen, d_open_class]
def fn1 : List He.DefD := [d_row_of, d_order_by, d_leaves_all, d_led_to, d_Finds_init, d_Finds_meet, d_Finds_needless, d_go_on, d_searched, d_least_order]
def fn2 : List He.DefD := [d_is_word, d_is_tie, d_plain_tie, d_pairs_between, d_Web_init, d_Web_size, d_Web_between, d_Web_near, d_is_order, d_turned]
def fn3 : List He.DefD := [d_gone_from, d_walked, d_marks_text, d_ring_signs, d_run_text, d_written, d_pairing, d_is_book_name, d_Webbook_init, d_Webbook_note]
def fn4 : List He.DefD := [d_Webbook_name_of, d_Webbook_shown, d_Webbook_strike, d_Webbook_names, d_Webbook_many, d_law_begin, d_law_next, d_law_great, d_law_pool, d_law_kinds]
def fn5 : List He.DefD := [d_law_ties, d_law_web, d_law_order, d_law_turned, d_law_plain, d_law_whole, d_law_table, d_law_colours, d_law_go_on, d_law_paired]
def fn6 : List He.DefD := [d_law_row_of, d_law_shown, d_law_name_told, d_law_names_told, d_law_which, d_law_note, d_law_strike, d_law_name, d_law_is_name, d_law_deed]
def fn7 : List He.DefD := [d_law_filled, d_law]
end L2.Tw
set_option Elab.async false
set_option linter.all false
set_option maxRecDepth 100000
set_option maxHeartbeats 4000000
set_option autoImplicit false
namespace L2.Tw
open PySem PySem.Spec PyProof.Rows L2
open C8 (Cal Met Mak pe_c pe_mk pe_mt pe_mt0 pe_gc InsC)
/-! ### what the head tells -/
def freeL : List Str := (["range", "sorted", "tuple", "list", "len", "int", "str", "all", "sum"] : List Str) ++ (["isinstance", "enumerate", "zip", "bool", "ValueError"] : List Str)
def gloA : List Str := ["ranked", "key_at", "keys_of", "finer", "rounds_of", "settled", "first_parting", "put_ahead", "chosen", "open_class"]
def gloB : List Str := ["row_of", "order_by", "leaves_all", "led_to", "go_on", "searched", "least_order", "is_word", "is_tie", "plain_tie", "pairs_between", "is_order", "turned"]
def gloC : List Str := ["gone_from", "walked", "marks_text", "ring_signs", "run_text", "written", "pairing", "is_book_name", "Web", "Finds", "Webbook"]
def gloD : List Str := ["_law_begin", "_law_next", "_law_great", "_law_pool", "_law_kinds", "_law_ties", "_law_web", "_law_order", "_law_turned", "_law_plain", "_law_whole"]
def gloE : List Str := ["_law_table", "_law_colours", "_law_go_on", "_law_paired", "_law_row_of", "_law_shown", "_law_name_told", "_law_names_told", "_law_which", "_law_note", "_law_strike", "_law_name", "_law_is_name", "_law_deed", "_law_filled", "law"]
def excL : List Str := ["BadName", "Twice", "NoWeb", "WebError", "BadOrder", "BadPlace", "BadRule", "BadText", "BadTie", "NoWay", "TooGreat", "TooMany"]
def gloL : List Str := gloA ++ (gloB ++ (gloC ++ (gloD ++ (gloE ++ excL))))
def clsL : List Str := ["Web", "Finds", "Webbook"]
def noaL : List (Str × Str) := [("Web", "kinds"), ("Web", "ties"), ("Web", "links"), ("Finds", "web"), ("Finds", "first"), ("Finds", "first_row"), ("Finds", "least"), ("Finds", "least_row"), ("Finds", "turnings"), ("Webbook", "held")]
def mthL : List (Str × Str) := [("Web", "size"), ("Web", "between"), ("Web", "near"), ("Finds", "meet"), ("Finds", "needless"), ("Webbook", "note"), ("Webbook", "name_of"), ("Webbook", "shown"), ("Webbook", "strike"), ("Webbook", "names"), ("Webbook", "many")]
def strL : List (Str × Str) := [("LETTERS", "abcdefghijklmnopqrstuvwxyz"), ("NAME_SIGNS", "abcdefghijklmnopqrstuvwxyz0123456789")]
def intL : List (Str × Int) := [("MOST_PLACES", 7), ("MOST_TIES", 12)]
def faL : List He.Fa := freeL.map He.Fa.free ++ (gloL.map He.Fa.glo ++ (clsL.map He.Fa.cls ++ (clsL.map He.Fa.mkr ++ (noaL.map (fun p => He.Fa.noat p.1 p.2) ++ (mthL.map (fun p => He.Fa.meth p.1 p.2) ++ (strL.map (fun p => He.Fa.str p.1 p.2) ++ intL.map fun p => He.Fa.int p.1 p.2))))))
def fnL : List He.DefD := fn0 ++ (fn1 ++ (fn2 ++ (fn3 ++ (fn4 ++ (fn5 ++ (fn6 ++ fn7))))))

structure TX (K : PySem.W.Frag) (mg : Str → Option Value) : Prop where
  fact : ∀ f ∈ faL, f.ok K = true
  defs : ∀ d ∈ fnL, ∃ fd, FunD K d.name d.qual d.params d.body d.scope [] [] (He.fAd K d.at_) fd
  inn : ∃ h : Heap, K.In h ∧ h.Ns mainGlobals mg
section
variable {K : PySem.W.Frag} {mg : Str → Option Value}
theorem TX.free (T : TX K mg) (x : Str) (hx : x ∈ freeL := by decide +kernel) : mg x = none := by
  obtain ⟨h, X, G⟩ := T.inn
  exact He.free_ok X G (T.fact (.free x) (List.mem_append_left _ (List.mem_map_of_mem hx)))
theorem TX.glo (T : TX K mg) (x : Str) (hx : x ∈ gloL := by decide +kernel) : mg x = some (.ref (He.ga K x)) := by
  obtain ⟨h, X, G⟩ := T.inn
  exact He.glo_ok X G (T.fact (.glo x) (List.mem_append_right _ (List.mem_append_left _ (List.mem_map_of_mem hx))))
theorem TX.cls (T : TX K mg) (x : Str) (hx : x ∈ clsL := by decide +kernel) : Cls K (He.ga K x) := by
  have c := T.fact (.cls x) (List.mem_append_right _ (List.mem_append_right _ (List.mem_append_left _ (List.mem_map_of_mem hx))))
  obtain ⟨h1, c⟩ := He.ba c
  obtain ⟨h2, c⟩ := He.ba c
  obtain ⟨h3, h4⟩ := He.ba c
  exact ⟨h1, h2, h3, He.eqO_ok h4⟩
theorem TX.mkr (T : TX K mg) (x : Str) (hx : x ∈ clsL := by decide +kernel) : Mk K (He.ga K x) (He.ma K (He.ga K x) "__init__") := by
  have c := T.fact (.mkr x) (List.mem_append_right _ (List.mem_append_right _ (List.mem_append_right _ (List.mem_append_left _ (List.mem_map_of_mem hx)))))
  obtain ⟨h1, c⟩ := He.ba c
  obtain ⟨h2, c⟩ := He.ba c
  obtain ⟨h3, h4⟩ := He.ba c
  exact ⟨h1, He.eqO_ok h2, h3, h4⟩
theorem TX.noat (T : TX K mg) (x f : Str) (hx : (x, f) ∈ noaL := by decide +kernel) : NoAttr K (He.ga K x) f := by
  have c := T.fact (.noat x f) (List.mem_append_right _ (List.mem_append_right _ (List.mem_append_right _ (List.mem_append_right _ (List.mem_append_left _ (List.mem_map_of_mem (f := fun p : Str × Str => He.Fa.noat p.1 p.2) hx))))))
  exact He.eqO_ok c
theorem TX.meth (T : TX K mg) (x m : Str) (hx : (x, m) ∈ mthL := by decide +kernel) : Meth K (He.ga K x) m (He.ma K (He.ga K x) m) := by
  have c := T.fact (.meth x m) (List.mem_append_right _ (List.mem_append_right _ (List.mem_append_right _ (List.mem_append_right _ (List.mem_append_right _ (List.mem_append_left _ (List.mem_map_of_mem (f := fun p : Str × Str => He.Fa.meth p.1 p.2) hx)))))))
  obtain ⟨h1, c⟩ := He.ba c
  obtain ⟨h2, h3⟩ := He.ba c
  exact ⟨He.eqO_ok h1, h2, h3⟩
theorem TX.str (T : TX K mg) (x z : Str) (hx : (x, z) ∈ strL := by decide +kernel) : ∃ u, mg x = some u ∧ RelV (.str z) u := by
  obtain ⟨h, X, G⟩ := T.inn
  obtain ⟨t, e⟩ := He.str_ok X G (T.fact (.str x z) (List.mem_append_right _ (List.mem_append_right _ (List.mem_append_right _ (List.mem_append_right _ (List.mem_append_right _ (List.mem_append_right _ (List.mem_append_left _ (List.mem_map_of_mem (f := fun p : Str × Str => He.Fa.str p.1 p.2) hx)))))))))
  exact ⟨_, e, t, rfl⟩
theorem TX.int (T : TX K mg) (x : Str) (z : Int) (hx : (x, z) ∈ intL := by decide +kernel) : ∃ u, mg x = some u ∧ RelV (.int z) u := by
  obtain ⟨h, X, G⟩ := T.inn
  obtain ⟨t, e⟩ := He.int_ok X G (T.fact (.int x z) (List.mem_append_right _ (List.mem_append_right _ (List.mem_append_right _ (List.mem_append_right _ (List.mem_append_right _ (List.mem_append_right _ (List.mem_append_right _ (List.mem_map_of_mem (f := fun p : Str × Int => He.Fa.int p.1 p.2) hx)))))))))
  exact ⟨_, e, t, rfl⟩
theorem TX.gLETTERS (T : TX K mg) : ∃ u, mg "LETTERS" = some u ∧ RelV (.str "abcdefghijklmnopqrstuvwxyz") u := T.str _ _
theorem TX.gNAME_SIGNS (T : TX K mg) : ∃ u, mg "NAME_SIGNS" = some u ∧ RelV (.str "abcdefghijklmnopqrstuvwxyz0123456789") u := T.str _ _
theorem TX.gMOST_PLACES (T : TX K mg) : ∃ u, mg "MOST_PLACES" = some u ∧ RelV (.int 7) u := T.int _ _
theorem TX.gMOST_TIES (T : TX K mg) : ∃ u, mg "MOST_TIES" = some u ∧ RelV (.int 12) u := T.int _ _
theorem TX.fnD (T : TX K mg) (d : He.DefD) (hd : d ∈ fnL) : ∃ fd, FunD K d.name d.qual d.params d.body d.scope [] [] (He.fAd K d.at_) fd := T.defs d hd

variable {P : Program} {w : World} {base : Heap}
/-- a def of the module, called by its name -/
theorem TX.cal (T : TX K mg) (d : He.DefD) {N ps : List Str} {k : Nat} {sp : Sp} (hd : d ∈ fnL) (h0 : d.at_ = (d.name, none)) (gx : d.name ∈ gloL) (S : FnScope N ps d.scope)
    (hb : ∀ (kV doc pm : Value) (an : Option Addr) (cdv ct : Value) (us : List Value), us.length = ps.length → bindArgs (PySem.W.fnOf d.name d.qual d.params d.body d.scope .none kV doc pm an cdv ct) ⟨us, []⟩ = pure (ps.zip us))
    (len : ∀ vs H Q E, sp vs H Q E → vs.length = ps.length)
    (hbody : ∀ (cdv : Value) (A : Around) (outer : List Env) (s : Shared) (H : Hp) (vs : List V) (Q : VK) (E : XK) (f : Addr), Room k (A.deeper (envOfC d.qual d.scope s.heap.objs.size f cdv)) → sp vs H Q E →
      ∃ t, PSs (cxOf CX0 P w K mg base N d.qual d.scope f cdv A outer s H E).nox d.body t ∧ t { nx := fun _ H' => Q .non H', rt := Q } (start N vs) H) : Cal P w K mg base (k + 1) d.name sp [] := by
  obtain ⟨fd, F⟩ := T.defs d hd
  refine ⟨_, fd, ps, [], F.ok S len fun cdv A outer s H vs Q E hr h => ?_, ?_, F.kp, F.bindsN hb, .nil⟩
  · obtain ⟨t, h1, h2⟩ := hbody cdv A outer s H vs Q E _ hr h
    exact ⟨t, h1.nox, h2⟩
  · rw [h0]
    exact T.glo d.name gx
/-- a method -/
theorem TX.met (T : TX K mg) (d : He.DefD) (C m : Str) {N ps : List Str} {k : Nat} {sp : Sp} (hd : d ∈ fnL) (h0 : d.at_ = (C, some m)) (hc : C ∈ clsL) (hm : (C, m) ∈ mthL) (S : FnScope N ps d.scope)
    (hb : ∀ (kV doc pm : Value) (an : Option Addr) (cdv ct : Value) (us : List Value), us.length = ps.length → bindArgs (PySem.W.fnOf d.name d.qual d.params d.body d.scope .none kV doc pm an cdv ct) ⟨us, []⟩ = pure (ps.zip us))
    (len : ∀ vs H Q E, sp vs H Q E → vs.length = ps.length)
    (hbody : ∀ (cdv : Value) (A : Around) (outer : List Env) (s : Shared) (H : Hp) (vs : List V) (Q : VK) (E : XK) (f : Addr), Room k (A.deeper (envOfC d.qual d.scope s.heap.objs.size f cdv)) → sp vs H Q E →
      ∃ t, PSs (cxOf CX0 P w K mg base N d.qual d.scope f cdv A outer s H E).nox d.body t ∧ t { nx := fun _ H' => Q .non H', rt := Q } (start N vs) H) : Met P w K mg base (k + 1) (He.ga K C) m sp [] := by
  obtain ⟨fd, F⟩ := T.defs d hd
  rw [h0] at F
  refine ⟨_, fd, ps, [], T.cls C hc, T.meth C m hm, F.ok S len fun cdv A outer s H vs Q E hr h => ?_, F.bindsN hb, .nil⟩
  obtain ⟨t, h1, h2⟩ := hbody cdv A outer s H vs Q E _ hr h
  exact ⟨t, h1.nox, h2⟩
/-- a class's __init__ -/
theorem TX.mak (T : TX K mg) (d : He.DefD) (C : Str) {N ps : List Str} {k : Nat} {sp : Sp} (hd : d ∈ fnL) (h0 : d.at_ = (C, some ("__init__" : Str))) (hc : C ∈ clsL) (gx : C ∈ gloL) (S : FnScope N ps d.scope)
    (hb : ∀ (kV doc pm : Value) (an : Option Addr) (cdv ct : Value) (us : List Value), us.length = ps.length → bindArgs (PySem.W.fnOf d.name d.qual d.params d.body d.scope .none kV doc pm an cdv ct) ⟨us, []⟩ = pure (ps.zip us))
    (len : ∀ vs H Q E, sp vs H Q E → vs.length = ps.length)
    (hbody : ∀ (cdv : Value) (A : Around) (outer : List Env) (s : Shared) (H : Hp) (vs : List V) (Q : VK) (E : XK) (f : Addr), Room k (A.deeper (envOfC d.qual d.scope s.heap.objs.size f cdv)) → sp vs H Q E →
      ∃ t, PSs (cxOf CX0 P w K mg base N d.qual d.scope f cdv A outer s H E).nox d.body t ∧ t { nx := fun _ H' => Q .non H', rt := Q } (start N vs) H) : Mak P w K mg base (k + 1) C (He.ga K C) sp [] := by
  obtain ⟨fd, F⟩ := T.defs d hd
  rw [h0] at F
  refine ⟨_, fd, ps, [], T.mkr C hc, F.ok S len fun cdv A outer s H vs Q E hr h => ?_, T.glo C gx, F.bindsN hb, .nil⟩
  obtain ⟨t, h1, h2⟩ := hbody cdv A outer s H vs Q E _ hr h
  exact ⟨t, h1.nox, h2⟩
end
end L2.Tw
set_option Elab.async false
set_option linter.all false
set_option maxRecDepth 100000
set_option maxHeartbeats 4000000
set_option autoImplicit false
namespace L2.Tw
open PySem PySem.Spec PyProof.Rows L2
/-! ### what is asked of the own exceptions -/
def veB : List Value := [.type "ValueError", .type "Exception", .type "BaseException", .type "object"]
def exN : List Str := ["BadName", "Twice", "NoWeb"]
def exO : List Str := ["BadOrder", "BadPlace", "BadRule", "BadText", "BadTie", "NoWay", "TooGreat", "TooMany"]
def isB (o : Option (Option Value)) (b : String) : Bool := match o with
  | some (some (.builtin c)) => c == b
  | _ => false
def tyB (o : Option Value) : Bool := match o with
  | some (.type c) => c == "type"
  | _ => false
def noB (o : Option (Option Value)) : Bool := match o with
  | some none => true
  | _ => false
def bitsB (K : PySem.W.Frag) (x : Str) : List Bool :=
  [PySem.W.excIn K (He.ga K x) veB "ValueError.__new__", PySem.W.keepIn K (.ref (He.ga K x)), decide (PySem.W.subIn K (.ref (He.ga K x)) (.type "BaseException") = some true), tyB (PySem.W.typeIn K (.ref (He.ga K x))),
   decide (PySem.W.exmOne K (.ref (He.ga K x)) (.ref (He.ga K "WebError")) = some true), decide (PySem.W.kitOne K (.ref (He.ga K x)) (.type "ValueError") = some true),
   exN.all fun y => decide (PySem.W.kitOne K (.ref (He.ga K x)) (.ref (He.ga K y)) = some (decide (x = y))), decide (PySem.W.kitAny K (.ref (He.ga K x)) (exO.map fun y => .ref (He.ga K y)) = some false),
   isB (PySem.W.findIn K (.ref (He.ga K x)) "__getattribute__") "BaseException.__getattribute__", noB (PySem.W.findIn K (.ref (He.ga K x)) "__getattr__"), PySem.W.hasDictIn K (He.ga K x), isB (PySem.W.findIn K (.ref (He.ga K x)) "__class__") "object.__class__",
   isB (PySem.W.specialIn K (.builtin "object.__class__") "__get__") "getset_descriptor.__get__", decide (PySem.W.takesIn K (.builtin "object.__class__") = some true), decide (PySem.W.mroIn K (He.ga K x) (.type "object") = some true)]
def excB (K : PySem.W.Frag) (x : Str) : Bool := (bitsB K x).all id
end L2.Tw
set_option Elab.async false
set_option linter.all false
set_option maxRecDepth 100000
set_option maxHeartbeats 0
set_option autoImplicit false
namespace L2.Tw
open PySem PySem.Spec PyProof.Rows L2
/-! ### the objects that the top leaves: found level by level, what was seen kept as bits of one number -/
def addA (p : List Addr × Nat) (a : Addr) : List Addr × Nat := cond (Nat.beq (Nat.land 1 (Nat.shiftRight p.2 a)) 1) p (a :: p.1, Nat.lor p.2 (Nat.shiftLeft 1 a))
def stepA (g : Addr → Option Obj) (p : List Addr × Nat) (a : Addr) : List Addr × Nat := match g a with
  | some o => (He.refsD o).foldl addA p
  | none => p
def levA (g : Addr → Option Obj) : Nat → List Addr × List Addr × Nat
  | 0 => ([mainGlobals], [mainGlobals], Nat.shiftLeft 1 mainGlobals)
  | n + 1 => match levA g n with
    | (all, fr, m) => (match fr.foldl (stepA g) ([], m) with
      | (new, m') => (all ++ new, new, m'))
def adrs (g : Addr → Option Obj) : List Addr := (levA g 4).1
def exAll (K : PySem.W.Frag) : Bool := exN.all fun x => excB K x
def tfL : List He.Defn := [("_law_names_told", none)]
def obK (g : Addr → Option Obj) (K : PySem.W.Frag) : He.AlX := (He.obsT faL fnL [] K, exAll K && He.tabsB g tfL K)
def obG (g : Addr → Option Obj) : He.AlX := obK g (He.frT g (adrs g))
theorem told_of {w : World} {h : Heap} {as : List Addr} (e : obK h.get? (He.frT h.get? as) = He.valX fnL [] w) : He.SaysX faL fnL [] tfL exAll w h (He.frT h.get? as) := by
  obtain ⟨e1, e2⟩ := Prod.mk.inj e
  rw [Bool.and_eq_true] at e2
  have one : ∀ p ∈ tfL, PySem.W.codeHdIn (He.frT h.get? as) (He.cT (He.frT h.get? as) p).1 (He.cT (He.frT h.get? as) p).2 = true ∧ ∃ o, h.get? (He.cT (He.frT h.get? as) p).2 = some o ∧ He.emptyTab o = true := by
    intro p hp
    have q := List.all_eq_true.mp e2.2 p hp
    rw [Bool.and_eq_true] at q
    refine ⟨q.1, ?_⟩
    have q2 := q.2
    split at q2
    · next o ho => exact ⟨o, ho, q2⟩
    · cases q2
  constructor
  · exact e1
  · exact e2.1
  · intro p hp
    exact (one p hp).1
  · intro p hp
    obtain ⟨_, o, g1, g2⟩ := one p hp
    exact He.frT_none g1 g2
  · intro p hp
    obtain ⟨_, o, g1, g2⟩ := one p hp
    exact g1.trans (congrArg some (He.emptyTab_eq g2))
def hk : PySem.W.Hook where
  α := He.AlX
  obs := fun s => obG s.heap.get?
  val := fun w => He.valX fnL [] w
  says := fun w h => ∃ K : PySem.W.Frag, K.In h ∧ He.SaysX faL fnL [] tfL exAll w h K
  of := fun w s e => ⟨He.frT s.heap.get? (adrs s.heap.get?), He.frT_in, told_of e⟩
  keeps := fun w h h' x k => by
    obtain ⟨K, h1, h2⟩ := x
    exact ⟨K, h1.keeps k, { t := h2.t, more := h2.more, hd := h2.hd, out := h2.out, empty := fun p hp => k _ _ (h2.empty p hp) }⟩
/-! ### the row's top -/
abbrev Rw : PySem.W.OpenRow := PySem.W.OpenLaw.row PySem.Challenge.rw_tieword_k28_a_book
abbrev qv : Program := PySem.W.view Rw.prog [85]
def nm0 : List PySem.Str := ["WebError", "TooGreat", "BadPlace", "BadTie", "BadOrder", "TooMany", "BadText", "BadName", "Twice", "NoWeb", "BadRule", "NoWay"]
def nm1 : List PySem.Str := ["ranked", "key_at", "keys_of", "finer", "rounds_of", "settled", "first_parting", "put_ahead", "chosen", "open_class", "row_of", "order_by"]
def nm2 : List PySem.Str := ["leaves_all", "led_to", "Finds", "go_on", "searched", "least_order", "LETTERS", "MOST_PLACES", "MOST_TIES", "is_word", "is_tie", "plain_tie"]
def nm3 : List PySem.Str := ["pairs_between", "Web", "is_order", "turned", "gone_from", "walked", "marks_text", "ring_signs", "run_text", "written", "NAME_SIGNS", "pairing"]
def nm4 : List PySem.Str := ["is_book_name", "Webbook", "_law_begin", "_law_next", "_law_great", "_law_pool", "_law_kinds", "_law_ties", "_law_web", "_law_order", "_law_turned", "_law_plain"]
def nm5 : List PySem.Str := ["_law_whole", "_law_is_tie", "_law_is_web", "_law_table", "_law_colours", "_law_go_on", "_law_paired", "_law_row_of", "_law_shown", "_law_name_told", "_law_names_told", "_law_which"]
def nm6 : List PySem.Str := ["_law_note", "_law_strike", "_law_name", "_law_is_name", "_law_deed", "_law_filled"]
def names : List PySem.Str := nm0 ++ (nm1 ++ (nm2 ++ (nm3 ++ (nm4 ++ (nm5 ++ nm6)))))
def ob (s : PySem.W.SharedT) : He.AlX := obG (HandSHeadRun.getT s)
theorem ob_eq (s : PySem.W.SharedT) : ob s = hk.obs s.abs := congrArg obG (funext (HandSHeadRun.getT_eq s))
theorem run (w : World) : HandSHeadRun.RunEq Rw qv hk ob 6000 names w := by
  intro os
  kernel_rfl
end L2.Tw
set_option Elab.async false
set_option linter.all false
set_option maxRecDepth 100000
set_option maxHeartbeats 4000000
set_option autoImplicit false
namespace L2.Tw


open PySem PySem.Spec PyProof.Rows L2
open C8 (Cal Met Mak pe_c pe_mk pe_mt pe_mt0 pe_gc InsC)
open Evl (Ex Ev EvT EvA)
/-! ### rules of our own -/
theorem _root_.L2.Room.units65 {k : Nat} {A : Around} (r : Room k A) : A.units + 65 < cLine := by have := r.un; omega
/-- a datum that can be asked for ==, its depth small -/
structure PlainD (d : PyData) : Prop where
  pl : d.plain = true
  dp : d.depth ≤ 40
section
variable {X : Cx}
def rEqP (K : PySem.W.Frag) : R2 := fun x y H Q => ∃ d e, Dp K H x d ∧ Dp K H y e ∧ PlainD d ∧ PlainD e ∧ Q (.bl (PyData.eqv d e)) H
def rNeP (K : PySem.W.Frag) : R2 := fun x y H Q => ∃ d e, Dp K H x d ∧ Dp K H y e ∧ PlainD d ∧ PlainD e ∧ Q (.bl (!PyData.eqv d e)) H
def rLtD (K : PySem.W.Frag) : R2 := fun x y H Q => ∃ d e, Dp K H x d ∧ Dp K H y e ∧ PySem.W.alike d e = true ∧ d ≠ .none ∧ d.depth ≤ 40 ∧ Q (.bl (PySem.W.dataLt d e)) H
theorem min_le40 {a b n : Nat} (h : a ≤ 40) (hu : n + 64 < cLine) : n + min a b < cLine := by
  have := Nat.min_le_left a b
  omega
theorem op_eqP (hu : X.A.units + 64 < cLine) : OpR X (compareOp .Eq) (rEqP X.K) := by
  intro pins s σ H x y v u Q I rx ry h
  obtain ⟨d, e, hd, he, sd, se, q⟩ := h
  obtain ⟨as, r1⟩ := Dp.reads I d x v hd rx
  obtain ⟨bs, r2⟩ := Dp.reads I e y u he ry
  exact SeqAt.eq_plain r1 r2 sd.pl se.pl (min_le40 sd.dp hu) ⟨.bl _, H, I, rfl, q⟩
theorem op_neP (hu : X.A.units + 64 < cLine) : OpR X (compareOp .NotEq) (rNeP X.K) := by
  intro pins s σ H x y v u Q I rx ry h
  obtain ⟨d, e, hd, he, sd, se, q⟩ := h
  obtain ⟨as, r1⟩ := Dp.reads I d x v hd rx
  obtain ⟨bs, r2⟩ := Dp.reads I e y u he ry
  exact SeqAt.ne_plain r1 r2 sd.pl se.pl (min_le40 sd.dp hu) ⟨.bl _, H, I, rfl, q⟩
theorem op_ltD (hu : X.A.units + 64 < cLine) : OpR X (compareOp .Lt) (rLtD X.K) := by
  intro pins s σ H x y v u Q I rx ry h
  obtain ⟨d, e, hd, he, ha, hn, hp, q⟩ := h
  obtain ⟨as, r1⟩ := Dp.reads I d x v hd rx
  obtain ⟨bs, r2⟩ := Dp.reads I e y u he ry
  exact PySem.W.rcLt_alike d e X.A s v u as bs r1 r2 ha hn (min_le40 hp hu) X.prog X.w X.xe _ ⟨.bl _, H, I, rfl, q⟩
/-! sorted(l): l a list of data that can be compared -/
def SortOk (ds : List PyData) : Prop := PySem.W.AllAlike ds ∧ PySem.W.Sortable ds ∧ (∀ d ∈ ds, d.depth ≤ 40) ∧ ds.length ≤ 100000
def sortD (ds : List PyData) : List PyData := ds.mergeSort (PySem.W.dataLe false fun d => d)
def rSortD (K : PySem.W.Frag) : List V → Hp → VK → Prop := fun vs H Q => ∃ (a : Addr) (xs : List V) (ds : List PyData), vs = [.ref a] ∧ SqL K H a xs ∧ DpAll K H xs ds ∧ SortOk ds ∧
  ∀ (p : Addr) (ys : List V), H p = none → DpAll K H ys (sortD ds) → (∀ y ∈ ys, y ∈ xs) → Q (.ref p) (upd H p (.lst ys))
theorem each_vals {K : PySem.W.Frag} {H : Hp} : ∀ {xs : List V} {us : List Value} {ds : List PyData}, Vals xs us → DpAll K H xs ds → PySem.W.EachIs (fun (u : Value) (d : PyData) => ∃ x, x ∈ xs ∧ RelV x u ∧ Dp K H x d) us ds
  | [], _, _, r, h => by
    cases r
    cases h
    exact .nil
  | x :: xs, _, _, r, h => by
    cases r with
    | cons r1 r2 =>
      cases h with
      | cons h1 h2 => exact .cons ⟨x, List.mem_cons_self, r1, h1⟩ ((each_vals r2 h2).mono fun u d ⟨y, hy, q⟩ => ⟨y, List.mem_cons_of_mem _ hy, q⟩)
theorem vals_each {K : PySem.W.Frag} {H : Hp} {all : List V} : ∀ {us : List Value} {ds : List PyData}, PySem.W.EachIs (fun (u : Value) (d : PyData) => ∃ x, x ∈ all ∧ RelV x u ∧ Dp K H x d) us ds → ∃ ys, Vals ys us ∧ DpAll K H ys ds ∧ ∀ y ∈ ys, y ∈ all
  | _, _, .nil => ⟨[], .nil, .nil, fun _ h => by cases h⟩
  | _, _, .cons ⟨x, hx, r, h⟩ t => by
    obtain ⟨ys, h1, h2, h3⟩ := vals_each t
    exact ⟨x :: ys, .cons r h1, .cons h h2, fun y hy => by
      rcases List.mem_cons.mp hy with e | hy
      · rw [e]
        exact hx
      · exact h3 y hy⟩
theorem DpAll.length {K : PySem.W.Frag} {H : Hp} : ∀ {xs : List V} {ds : List PyData}, DpAll K H xs ds → xs.length = ds.length
  | [], _, h => by
    cases h
    rfl
  | x :: xs, _, h => by
    cases h with
    | cons h1 h2 => exact congrArg Nat.succ (DpAll.length h2)
theorem cr_sortD (hu : X.A.units + 64 < cLine) : CallR X (.builtin "sorted") (rSortD X.K) := by
  intro pins s σ H vs us Q I r h
  obtain ⟨a, xs, ds, rfl, hs, hd, ⟨hal, hk, hdp, hL⟩, q⟩ := h
  obtain ⟨its, rv, hl, _⟩ := I.list hs
  rw [Vals.ref1 r]
  have e := each_vals rv hd
  have er : PySem.W.EachIs (fun v (d : PyData) => ∃ as, Reads s.heap v d as) its ds := e.mono fun u d ⟨x, _, r1, h1⟩ => Dp.reads I d x u h1 r1
  have hL' : ds.length ≤ sizeLine := Nat.le_trans hL (by decide)
  refine PySem.W.sorted_data (enc := fun d => d) hl.isList e er (by rw [List.map_id']; exact hal) (by rw [List.map_id']; exact hk) hL' (fun d hm => by have := hdp d hm; omega) fun out ho eo => ?_
  obtain ⟨ys, h1, h2, h3⟩ := vals_each eo
  obtain ⟨ep, he'⟩ := PyProof.Rows.sortedAll_at s.heap its out.toArray
  have hlen : ys.length ≤ sizeLine := by rw [h1.length, ho]; exact hL'
  exact ⟨.ref _, upd H (s.heap.objs.size + 1) (.lst ys), I.laid (t' := s.toks) (fun _ _ => PyProof.Rows.sortedAll_old) (Nat.le_succ _) ⟨hlen, out, ep, h1, he'⟩, rfl, q _ ys (I.hok.fresh (Nat.le_succ _)) h2 h3⟩
/-! l.index(x), l.remove(x) over data -/
def AllPl (ds : List PyData) : Prop := PyData.plainAll ds = true ∧ PyData.depthAll ds ≤ 40
def rIndexP (K : PySem.W.Frag) : V → List V → Hp → VK → Prop := fun x vs H Q => ∃ (a : Addr) (y : V) (xs : List V) (d : PyData) (ds : List PyData) (j : Nat), x = .ref a ∧ vs = [y] ∧ SqL K H a xs ∧ DpAll K H xs ds ∧ Dp K H y d ∧ AllPl ds ∧ PlainD d ∧
  SeqAt.dataPlace ds d = some j ∧ Q (.int (j : Nat)) H
theorem mt_indexP (hu : X.A.units + 65 < cLine) : MtR X "list.index" (rIndexP X.K) := by
  intro pins s σ H x xs v us Q I rx rxs h
  obtain ⟨a, y, ws, d, ds, j, rfl, rfl, hs, ha, hy, sl, sd, hj, q⟩ := h
  cases rx
  obtain ⟨uy, rfl, ry⟩ := rxs.one
  obtain ⟨bs, r1⟩ := Dp.reads I d y uy hy ry
  obtain ⟨its, rv, ⟨⟨cls, dd, data, sls⟩, n, ho, hc, hdn, hdt⟩, hlen⟩ := I.list hs
  simp only at hc hdt
  subst hc hdt
  obtain ⟨as, h4⟩ := Dp.readsAll I ds _ its ha rv
  have hroom : X.A.units + 1 + min (PyData.depthAll ds) d.depth < cLine := by
    have := Nat.min_le_left (PyData.depthAll ds) d.depth
    have := sl.2
    omega
  have h4' : ReadsAll s.heap its.toArray.toList ds as := h4
  obtain ⟨hj', h5, h6⟩ := SeqAt.hit_at (vs := its.toArray) h4' sl.1 hj
  have hvl := rv.length
  have hsl := sizeLine_eq
  have hj2 : j < its.length := by simpa using hj'
  refine call_meets PySem.F.slot_list_index ⟨_, ho, rfl⟩ PySem.F.entry_list_index (PySem.F.args_list_index_2 _ _)
    (SeqAt.list_indexAt a its.toArray n dd sls uy (fun u => PyData.eqv (SeqAt.readOf s.heap u) d) j hj' (by omega) h5 h6) ⟨ho, SeqAt.items_plain (vs := its.toArray) h4' r1 sl.1 sd.pl hroom, ?_⟩
  exact ⟨.int (j : Nat), H, I.tok _, ⟨_, rfl⟩, q⟩
def rRemP (K : PySem.W.Frag) : V → List V → Hp → VK → Prop := fun x vs H Q => ∃ (a : Addr) (y : V) (xs : List V) (d : PyData) (ds : List PyData) (j : Nat), x = .ref a ∧ vs = [y] ∧ H a = some (.lst xs) ∧ DpAll K H xs ds ∧ Dp K H y d ∧ AllPl ds ∧ PlainD d ∧
  SeqAt.dataPlace ds d = some j ∧ Q .non (upd H a (.lst (xs.eraseIdx j)))
theorem mt_removeP (hu : X.A.units + 65 < cLine) : MtR X "list.remove" (rRemP X.K) := by
  intro pins s σ H x xs v us Q I rx rxs h
  obtain ⟨a, y, ws, d, ds, j, rfl, rfl, hH, ha, hy, sl, sd, hj, q⟩ := h
  cases rx
  obtain ⟨uy, rfl, ry⟩ := rxs.one
  obtain ⟨bs, r1⟩ := Dp.reads I d y uy hy ry
  obtain ⟨z, its, n, rv, hl, e⟩ := I.lstM hH
  obtain ⟨as, h4⟩ := Dp.readsAll I ds _ its ha rv
  have hroom : X.A.units + 1 + min (PyData.depthAll ds) d.depth < cLine := by
    have := Nat.min_le_left (PyData.depthAll ds) d.depth
    have := sl.2
    omega
  have h4' : ReadsAll s.heap its.toArray.toList ds as := h4
  obtain ⟨hj', h5, h6⟩ := SeqAt.hit_at (vs := its.toArray) h4' sl.1 hj
  refine call_meets PySem.F.slot_list_remove ⟨_, e, rfl⟩ PySem.F.entry_list_remove (PySem.F.args_list_remove_2 _ _)
    (SeqAt.list_removeAt a its.toArray n none #[] uy (fun u => PyData.eqv (SeqAt.readOf s.heap u) d) j hj' h5 h6 (by rw [List.size_toArray]; omega)) ⟨e, SeqAt.items_plain (vs := its.toArray) h4' r1 sl.1 sd.pl hroom, ?_⟩
  refine ⟨.non, _, I.lset (its' := its.eraseIdx j) hH e ?_ (rv.eraseIdx j) ?_, rfl, q⟩
  · show its.toArray.eraseIdxIfInBounds j = (its.eraseIdx j).toArray
    rw [List.eraseIdxIfInBounds_toArray]
  · have := len_erase ws j
    omega
/-! texts -/
theorem op_mul_str : OpR X (binaryOp .Mult) (fun x y H Q => ∃ (z : Str) (n : Int), x = .str z ∧ y = .int n ∧ MulOk z n ∧ Q (.str (Txt.mul z n)) H) := by
  intro pins s σ H x y v u Q I rx ry h
  obtain ⟨z, n, rfl, rfl, hok, q⟩ := h
  obtain ⟨t, rfl⟩ := rx
  obtain ⟨t', rfl⟩ := ry
  exact SB.mul hok fun t' k => ⟨.str _, H, I.tok _, ⟨_, rfl⟩, q⟩
theorem ip_addS : PIp X .Add (fun x y H Q => ∃ i j, x = .str i ∧ y = .str j ∧ i.length + j.length ≤ sizeLine ∧ Q (.str (i ++ j)) H) := iop_add_str
end
end L2.Tw
set_option Elab.async false
set_option linter.all false
set_option maxRecDepth 100000
set_option maxHeartbeats 4000000
set_option autoImplicit false
namespace L2.Tw
open PySem PySem.Spec PyProof.Rows L2
/-! ### d.setdefault(k, x), the keys tuples -/
section
variable {X : Cx} {pins : List (Addr × Obj)} {σ : St} {H : Hp} {s : Shared} {a b : Addr} {u r : Value} {d : V} {k : List L2.Key} {A : Around} {E : Value → Shared → Prop}
theorem d_setdT {kvs : List (List L2.Key × V)} {Q : Value → Shared → Prop} (hu : A.units + 1 < cLine) (I : Inv X pins σ H s) (e : H a = some (.dT kvs)) (eb : H b = some (.tup (k.map kV))) (rd : RelV d r) (hl : kvs.length < sizeLine)
    (h1 : ∀ v, valV kvs k = some v → ∀ (w' : Value) (s' : Shared), Inv X pins σ H s' → RelV v w' → Q w' s') (h2 : valV kvs k = none → ∀ (w' : Value) (s' : Shared), Inv X pins σ (upd H a (.dT (putK kvs k d))) s' → RelV d w' → Q w' s') :
    wpAny (model X.prog X.w) A (call (.builtin "dict.setdefault") [.ref a, .ref b, r]) Q E s := by
  obtain ⟨z, hd, xs, rel, dd⟩ := dt_of I.hok e
  have hz : xs.length ≤ sizeLine := by rw [← Paired.length rel]; exact z
  refine call_setdefault_heap (hsz := hz) (tupleKind_room_in1 hu) (key_of I.hok eb) hd dd (fun p hp => ?_) fun hn h' dd' hs => ?_
  · have q := rel.val k
    rw [hp] at q
    cases q0 : valV kvs k with
    | none =>
      rw [q0] at q
      exact (show False from q).elim
    | some v0 =>
      rw [q0] at q
      exact h1 v0 q0 _ _ (I.tok _) q
  · have q := rel.val k
    rw [hn] at q
    cases q0 : valV kvs k with
    | some v0 =>
      rw [q0] at q
      exact (show False from q).elim
    | none =>
      have hl2 : (putK kvs k d).length ≤ sizeLine := by
        have := length_putK kvs k d
        omega
      obtain ⟨q, es, ep, hq, g2, g3, g4, _, g5⟩ := dd'
      refine h2 q0 _ _ (d_write (t' := s.toks + (tupleKind (mixKind X.prog X.w)).draws k) I (by rw [e]; exact True.intro) hs ⟨q, hq⟩ ⟨hl2, hd, _, (rel.put k eb rd).keeps fun c ys ec => ?_, q, es, ep, hq, g2, g3, g4, g5⟩) rd
      rw [upd_ne (ne_of ec e (fun z => nomatch z))]
      exact ec
end
def tDSetdT (td ty tx : TE) : TE := fun σ H Q => td σ H fun x H1 => ∃ a, x = .ref a ∧ IsD H1 a ∧ ty σ H1 fun y H2 => tx σ H2 fun z H3 => ∃ (kvs : List (List L2.Key × V)) (k : List L2.Key) (b : Addr), H3 a = some (.dT kvs) ∧ y = .ref b ∧ H3 b = some (.tup (k.map kV)) ∧ kvs.length < sizeLine ∧
  (∀ v, valV kvs k = some v → Q v H3) ∧ (valV kvs k = none → Q z (upd H3 a (.dT (putK kvs k z))))
section
variable {X : Cx} {o e f : Expr} {td ty tx : TE} {apos cpos : Pos}
theorem pe_dsetdT (hu : X.A.units + 1 < cLine) (ho : PE X o td) (he : PE X e ty) (hf : PE X f tx) (m : M2 X o "setdefault" apos e f cpos) : PE X (.Call (.Attribute o "setdefault" apos) [e, f] [] cpos) (tDSetdT td ty tx) := by
  refine ⟨fun pins s σ H Q I h => ?_⟩
  refine wpAny_Call_method m.base m.few m.line PySem.F.plainAttrs_dict PySem.F.slot_dict_setdefault PySem.F.type_dict_setdefault (thn (ho.run pins s σ H _ I h) fun u s1 ⟨x, H1, I1, rx, a, ex, d, q1⟩ => ?_)
  subst ex
  obtain rfl : u = Value.ref a := rx
  obtain ⟨t1, t2, _⟩ := isD_at I1 d
  refine ⟨t1, t2, ?_⟩
  rw [m.trees]
  refine Calls.callWith_builtin rfl (Calls.evalArgs_plain (Calls.spliced_cons (thn (he.run pins s1 σ H1 _ I1 q1) fun iv s2 ⟨y, H2, I2, ry, q2⟩ =>
    Calls.spliced_cons (thn (hf.run pins s2 σ H2 _ I2 q2) fun fv s3 ⟨z, H3, I3, rz, kvs, k, b, ea, ey, eb, hl, q3, q4⟩ => Calls.spliced_nil ?_))))
  subst ey
  obtain rfl : iv = Value.ref b := ry
  exact d_setdT hu I3 ea eb rz hl (fun v hv w' s4 I4 rw' => ⟨v, _, I4, rw', q3 v hv⟩) fun hn w' s4 I4 rw' => ⟨z, _, I4, rw', q4 hn⟩
end
/-! ### for k, v in d.items(), the keys tuples -/
section
variable {X : Cx} {pins : List (Addr × Obj)} {σ : St} {H : Hp} {s : Shared} {d : Addr} {o : Obj}
theorem Inv.frzT2 {kvs : List (List L2.Key × V)} (I : Inv X pins σ H s) (h : H d = some (.frz o (.dT kvs))) :
    (d == sysModules) = false ∧ s.heap.get? d = some o ∧ o.ExactDict ∧ ∃ (es : Array DictEntry) (ep : Nat), o.data = .dict es ep ∧ es.size = kvs.length ∧
      ∀ (i : Nat) (k : List L2.Key) (v : V), kvs[i]? = some (k, v) → ∃ (en : DictEntry) (q : Addr), es[i]? = some en ∧ en.key = .ref q ∧ H q = some (.tup (k.map kV)) ∧ RelV v en.val := by
  obtain ⟨hd, z, hs, xs, pr, o', es, ep, ho, hx, hdt, he, _⟩ := I.hok d _ h
  rw [hd] at ho
  cases ho
  refine ⟨hs, hd, hx, es, ep, hdt, ?_, fun i k v e => ?_⟩
  · have l1 : es.size = xs.length := size_of_entries he
    have l2 : kvs.length = xs.length := Paired.length pr
    omega
  · obtain ⟨b, hb, e1, e2, e3⟩ := paired_get pr e
    have q := entry_at he i
    rw [hb] at q
    exact ⟨_, b.2.1, q, rfl, e2, e3⟩
end
/-- the pairs, each a new tuple of the key's own tuple and the value -/
def Itit (d : Addr) (o : Obj) (kvs : List (List L2.Key × V)) : It :=
  ⟨fun i H => H d = some (.frz o (.dT kvs)) ∧ i < kvs.length, fun i H x H' => ∃ T k v q, kvs[i]? = some (k, v) ∧ x = .ref T ∧ H T = none ∧ H q = some (.tup (k.map kV)) ∧ H' = upd H T (.tup [.ref q, v]), fun i H => H d = some (.frz o (.dT kvs)) ∧ kvs.length ≤ i⟩
section
variable {P : Program} {w : World} {K : PySem.W.Frag} {tg : Expr} {d : Addr} {o : Obj} {es : Array DictEntry} {ep : Nat}
theorem turn_itemsT {kvs : List (List L2.Key × V)} {elts : List Expr} {kk : Nat} {tpos : Pos} (it : Addr) (hod : o.data = .dict es ep) :
    Turn P w K (.Tuple elts kk tpos) (Itit d o kvs) [it] it (fun i h => ∃ ok ov, IsItemIter h it d i kvs.length ep ok ov) where
  mem := by simp
  obj := fun i h st b hb => by
    have e : b = it := by simpa using hb
    subst e
    obtain ⟨ok, ov, e⟩ := st
    exact ⟨_, e, fun v z => nomatch z⟩
  keep := fun i h h' st k => let ⟨ok, ov, e⟩ := st; ⟨ok, ov, k it (by simp) _ e⟩
  item := by
    intro X hP hw hK hc i pins s σ H E I hf st hg
    subst hP hw hK
    obtain ⟨hd, hi⟩ := hg
    obtain ⟨hs, hgd, hx, es', ep', hdt, hsz, ent⟩ := Inv.frzT2 I hd
    obtain ⟨rfl, rfl⟩ := dict_ep hod hdt
    obtain ⟨⟨k, v⟩, hkv⟩ : ∃ p, kvs[i]? = some p := ⟨kvs[i], List.getElem?_eq_getElem hi⟩
    obtain ⟨en, q, hen, hkey, hq, hv⟩ := ent i k v hkv
    obtain ⟨ok, ov, he⟩ := st
    rw [← hsz] at he
    have hlt : it < s.heap.objs.size := Heap.lt_size he
    have hes : i < es'.size := by omega
    have hen2 : es'[i] = en := by
      rw [Array.getElem?_eq_getElem hes] at hen
      exact Option.some.inj hen
    refine wpAny_pyNext_items_item_raw he ⟨o, hgd, hx, hdt⟩ hes fun h' ho hT hz hk => ?_
    refine ⟨_, rfl, wpAny_letOwnedTupleGo_items (s := { s with heap := h' }) ho fun h'' he' sb => ?_⟩
    have hT2 : h''.get? s.heap.objs.size = some { cls := .type "tuple", data := .seq #[es'[i].key, es'[i].val] } := (sb.2 _ (Nat.ne_of_gt hlt)).trans hT
    have new : ObjOk X.prog X.w (upd H s.heap.objs.size (.tup [.ref q, v])) h'' s.heap.objs.size (.tup [.ref q, v]) :=
      ⟨by show 2 ≤ sizeLine; decide, [es'[i].key, es'[i].val], .cons (by rw [hen2]; exact hkey) (.cons (by rw [hen2]; exact hv) .nil), ⟨_, hT2, rfl, _, rfl⟩⟩
    have I1 : Inv X pins σ (upd H s.heap.objs.size (.tup [.ref q, v])) { s with heap := h'' } :=
      I.turnedNew (t' := s.toks) (ch := [it]) (fun b ob hb e => (sb.2 b (by simpa using hb)).trans (hk b ob (by simpa using hb) e)) hf (Nat.le_refl _) new
    refine ⟨.ref s.heap.objs.size, _, I1, rfl, ⟨_, k, v, q, hkv, rfl, I.hok.fresh (Nat.le_refl _), hq, rfl⟩, ⟨es'[i].key, es'[i].val, ?_⟩, fun b hb => ?_⟩
    · rw [← hsz]; exact he'
    · have e : b = it := by simpa using hb
      rw [e, upd_ne (Nat.ne_of_lt hlt)]
      exact (hf it (by simp)).1
  done := by
    intro X hP hw hK hc i pins s σ H E I hf st hg
    subst hP hw hK
    obtain ⟨hd, hi⟩ := hg
    obtain ⟨f0, f1, f2, f3, f4, f5⟩ := hf it (by simp)
    obtain ⟨hs, hgd, hx, es', ep', hdt, hsz, ent⟩ := Inv.frzT2 I hd
    obtain ⟨rfl, rfl⟩ := dict_ep hod hdt
    obtain ⟨ok, ov, he⟩ := st
    rw [← hsz] at he
    exact wpAny_pyNext_items_end_raw (I.ok.hd hc) he ⟨o, hgd, hx, hdt⟩ (by omega) fun h' eb => ⟨rfl, I.turned (t' := s.toks) (fun b ob hb e => eb b ob hb e) f0 f1 f3 f4 f5⟩
  self := fun A i s Q E st h => let ⟨_, _, e⟩ := st; PySem.W.kcp_self e h
end
def iItemsT (td : TE) : TI := fun σ H R => td σ H fun x H1 => ∃ d o kvs, x = .ref d ∧ H1 d = some (.frz o (.dT kvs)) ∧ R (Itit d o kvs) H1
section
variable {X : Cx} {tg e : Expr} {td : TE} {apos cpos : Pos}
theorem pi_itemsT {elts : List Expr} {kk : Nat} {tpos : Pos} (he : PE X e td) (hbase : attributeBase e "items" X.env (eval e X.env) = eval e X.env := by rfl) (hline : (apos.endLine == cpos.line) = true := by rfl) :
    PI X (.Tuple elts kk tpos) (.Call (.Attribute e "items" apos) [] [] cpos) (iItemsT td) := by
  refine ⟨fun pins s σ H R I h => ?_⟩
  refine wpAny_Call_method (T := "dict") (id := "dict.items") hbase rfl hline F.plainAttrs_dict F.slot_dict_items F.type_dict_items (thn (he.run pins s σ H _ I h) fun u s1 ⟨x, H1, I1, rx, d, o, kvs, ex, hd, q⟩ => ?_)
  subst ex
  obtain rfl : u = Value.ref d := rx
  obtain ⟨hs, hgd, hx, es, ep, hdt, hsz, ent⟩ := Inv.frzT2 I1 hd
  have raw : s1.heap.DictRaw d es ep := ⟨o, hgd, hx, hdt⟩
  refine ⟨raw.typeIs, fun b hb => ?_, ?_⟩
  · cases hb
    exact ⟨o, hgd, hx.2.1⟩
  have I2 : Inv X pins σ H1 { s1 with heap := s1.heap.push { cls := .type "dict_items", data := .fields #[.ref d] } } := I1.kept (t' := s1.toks) fun b ob q => Heap.get?_push_of_some _ q
  have fin : wpAny (model X.prog X.w) X.A (pyIter (.ref s1.heap.objs.size)) (PIE X pins σ (.Tuple elts kk tpos) R) X.xe { s1 with heap := s1.heap.push { cls := .type "dict_items", data := .fields #[.ref d] } } := by
    refine wpAny_pyIter_items_raw (d := d) ⟨_, Heap.get?_push_size _ rfl, rfl, rfl⟩ (raw.at fun o h => Heap.get?_push_of_some _ h) (pi_one (tk := s1.toks) I2 _ (turn_itemsT _ hdt) ⟨.none, .none, ?_⟩ q)
    rw [← hsz]
    exact Heap.get?_push_size _ rfl
  show wpAny _ _ (callWith cpos (.builtin "dict.items") [.ref d] [] []) _ X.xe s1
  exact method_meetsIn F.slot_dict_items F.entry_dict_items rfl (PySem.evalArgs_none ⟨rfl, raw.typeIs, F.args_dict_items_1 _, _, meets_dict_items_raw (prog := X.prog) (w := X.w) d hs, ⟨es, ep, raw⟩, fin⟩)
end
theorem walk_itemsT {d : Addr} {o : Obj} {kvs : List (List L2.Key × V)} : Walk (Itit d o kvs) kvs.length (fun H => H d = some (.frz o (.dT kvs)))
    (fun i H x H' => ∃ T k v q, kvs[i]? = some (k, v) ∧ x = .ref T ∧ H T = none ∧ H q = some (.tup (k.map kV)) ∧ H' = upd H T (.tup [.ref q, v])) :=
  ⟨fun _ _ hi q => ⟨q, hi⟩, fun _ q => ⟨q, Nat.le_refl _⟩, fun _ _ _ _ _ _ y => y⟩
end L2.Tw
set_option Elab.async false
set_option linter.all false
set_option maxRecDepth 100000
set_option maxHeartbeats 4000000
set_option autoImplicit false
namespace L2.Tw
open PySem PySem.Spec PyProof.Rows L2
open C8 (Cal Met Mak pe_c pe_mk pe_mt pe_mt0 pe_gc InsC)
open Evl (Ex Ev EvT EvA fresh_back ex_l ex_t ex_rd sq_of st_of sz_of sz_lt)
/-! ### what stands stays -/
mutual
theorem dp_ex {K : PySem.W.Frag} {H H' : Hp} (e : Ex H H') : ∀ {v : V} {d : PyData}, Dp K H v d → Dp K H' v d
  | _, .none, h => by cases h; exact .non
  | _, .bool b, h => by cases h; exact .bl b
  | _, .int i, h => by cases h; exact .int i
  | _, .str x, h => by cases h; exact .str x
  | _, .list ds, h => by
    cases h with
    | lst hs ha => exact .lst (ex_l e hs) (dpAll_ex e ha)
  | _, .tuple ds, h => by
    cases h with
    | tup hs ha => exact .tup (ex_t e hs) (dpAll_ex e ha)
  | _, .dict _, h => by cases h
theorem dpAll_ex {K : PySem.W.Frag} {H H' : Hp} (e : Ex H H') : ∀ {vs : List V} {ds : List PyData}, DpAll K H vs ds → DpAll K H' vs ds
  | _, [], h => by cases h; exact .nil
  | _, d :: ds, h => by
    cases h with
    | cons h1 h2 => exact .cons (dp_ex e h1) (dpAll_ex e h2)
end
theorem dpAll_snoc {K : PySem.W.Frag} {H : Hp} {v : V} {d : PyData} : ∀ {vs : List V} {ds : List PyData}, DpAll K H vs ds → Dp K H v d → DpAll K H (vs ++ [v]) (ds ++ [d])
  | [], _, h, q => by
    cases h
    exact .cons q .nil
  | x :: vs, _, h, q => by
    cases h with
    | cons h1 h2 => exact .cons h1 (dpAll_snoc h2 q)
theorem dpAll_get {K : PySem.W.Frag} {H : Hp} : ∀ {vs : List V} {ds : List PyData} {i : Nat} {v : V}, DpAll K H vs ds → vs[i]? = some v → ∃ d, ds[i]? = some d ∧ Dp K H v d
  | [], _, _, _, h, e => by simp at e
  | x :: vs, _, 0, v, h, e => by
    cases h with
    | cons h1 h2 =>
      have e' : x = v := by simpa using e
      subst e'
      exact ⟨_, rfl, h1⟩
  | x :: vs, _, i + 1, v, h, e => by
    cases h with
    | cons h1 h2 =>
      obtain ⟨d, h3, h4⟩ := dpAll_get (i := i) (v := v) h2 (by simpa using e)
      exact ⟨d, by simpa using h3, h4⟩
theorem dpAll_get' {K : PySem.W.Frag} {H : Hp} {vs : List V} {ds : List PyData} {i : Nat} {d : PyData} (h : DpAll K H vs ds) (e : ds[i]? = some d) : ∃ v, vs[i]? = some v ∧ Dp K H v d := by
  obtain ⟨hi, e1⟩ := List.getElem?_eq_some_iff.mp e
  have hl := DpAll.length h
  obtain ⟨d', e2, q⟩ := dpAll_get h (List.getElem?_eq_getElem (show i < vs.length by omega))
  rw [e] at e2
  cases e2
  exact ⟨_, List.getElem?_eq_getElem (show i < vs.length by omega), q⟩
theorem dpAll_ints {K : PySem.W.Frag} {H : Hp} : ∀ ns : List Int, DpAll K H (ns.map V.int) (ns.map PyData.int)
  | [] => .nil
  | n :: ns => .cons (.int n) (dpAll_ints ns)
theorem dpAll_ints' {K : PySem.W.Frag} {H : Hp} : ∀ {ns : List Int} {vs : List V}, DpAll K H vs (ns.map PyData.int) → vs = ns.map V.int
  | [], vs, h => by cases h; rfl
  | n :: ns, vs, h => by
    cases h with
    | cons h1 h2 =>
      cases h1
      rw [dpAll_ints' h2]
      rfl
theorem dpAll_strs {K : PySem.W.Frag} {H : Hp} : ∀ ns : List Str, DpAll K H (ns.map V.str) (ns.map PyData.str)
  | [] => .nil
  | n :: ns => .cons (.str n) (dpAll_strs ns)
theorem dpAll_strs' {K : PySem.W.Frag} {H : Hp} : ∀ {ns : List Str} {vs : List V}, DpAll K H vs (ns.map PyData.str) → vs = ns.map V.str
  | [], vs, h => by cases h; rfl
  | n :: ns, vs, h => by
    cases h with
    | cons h1 h2 =>
      cases h1
      rw [dpAll_strs' h2]
      rfl
theorem dpAll_bls {K : PySem.W.Frag} {H : Hp} : ∀ ns : List Bool, DpAll K H (ns.map V.bl) (ns.map PyData.bool)
  | [] => .nil
  | n :: ns => .cons (.bl n) (dpAll_bls ns)

/-! ### what an expression comes to, by a word of its value -/
abbrev VP := V → Hp → Prop
def EvP (te : TE) (σ : L2.St) (H : Hp) (P : VP) : Prop := ∀ H1, Ex H H1 → ∀ Q : VK, (∀ v H2, Ex H1 H2 → P v H2 → Q v H2) → te σ H1 Q
def EvAP (ta : TA) (σ : L2.St) (H : Hp) (P : List V → Hp → Prop) : Prop := ∀ H1, Ex H H1 → ∀ Q : List V → Hp → Prop, (∀ vs H2, Ex H1 H2 → P vs H2 → Q vs H2) → ta σ H1 Q
/-- it is the datum d -/
def DP (K : PySem.W.Frag) (d : PyData) : VP := fun v H => Dp K H v d
/-- it is a new list (nothing stood there in H0) of the data ds -/
def NewL (K : PySem.W.Frag) (H0 : Hp) (ds : List PyData) : VP := fun v H => ∃ p xs, v = .ref p ∧ H0 p = none ∧ H p = some (.lst xs) ∧ DpAll K H xs ds
section
variable {K : PySem.W.Frag} {σ : L2.St} {H H' H0 : Hp} {ta tb te tx tob : TE} {t u : TT} {x y z v : V} {r : R2} {P P' : VP} {d e : PyData} {ds es : List PyData} {tA tr : TA} {PA : List V → Hp → Prop}
theorem NewL.dp (h : NewL K H0 ds v H) : Dp K H v (.list ds) := by
  obtain ⟨p, xs, rfl, _, h1, h2⟩ := h
  exact .lst (sq_of h1) h2
theorem EvP.mono (e : Ex H H') (h : EvP te σ H P) : EvP te σ H' P := fun H1 a Q q => h H1 (e.trans a) Q q
theorem EvP.imp (h : EvP te σ H P) (hp : ∀ v H1, Ex H H1 → P v H1 → P' v H1) : EvP te σ H P' := fun H1 a Q q => h H1 a Q fun v H2 e p => q v H2 e (hp v H2 (a.trans e) p)
theorem EvAP.mono (e : Ex H H') (h : EvAP tA σ H PA) : EvAP tA σ H' PA := fun H1 a Q q => h H1 (e.trans a) Q q
theorem ep_ev (h : Ev te σ H v) (hp : ∀ H1, Ex H H1 → P v H1) : EvP te σ H P := fun H1 e Q q => h H1 e Q fun H2 e2 => q v H2 e2 (hp H2 (e.trans e2))
theorem ev_ofP (h : EvP te σ H (fun w _ => w = v)) : Ev te σ H v := fun H1 e Q q => h H1 e Q fun w H2 e2 hw => by
  subst hw
  exact q H2 e2
theorem ep_var {i : Nat} (h : σ[i]? = some (some v)) (hp : ∀ H1, Ex H H1 → P v H1) : EvP (tVar i) σ H P := ep_ev (Evl.ev_var h) hp
theorem ep_varD {i : Nat} (h : σ[i]? = some (some v)) (hd : Dp K H v d) : EvP (tVar i) σ H (DP K d) := ep_var h fun _ e => dp_ex e hd
theorem ep_evD (h : Ev te σ H v) (hd : Dp K H v d) : EvP te σ H (DP K d) := ep_ev h fun _ e => dp_ex e hd
theorem ep_int {i : Int} (h : Ev te σ H (.int i)) : EvP te σ H (DP K (.int i)) := ep_ev h fun _ _ => .int i
theorem ep_str {i : Str} (h : Ev te σ H (.str i)) : EvP te σ H (DP K (.str i)) := ep_ev h fun _ _ => .str i
theorem ep_bl {i : Bool} (h : Ev te σ H (.bl i)) : EvP te σ H (DP K (.bool i)) := ep_ev h fun _ _ => .bl i
theorem ev_intD {i : Int} (h : EvP te σ H (DP K (.int i))) : Ev te σ H (.int i) := ev_ofP (h.imp fun v _ _ q => by cases q; rfl)
theorem ev_strD {i : Str} (h : EvP te σ H (DP K (.str i))) : Ev te σ H (.str i) := ev_ofP (h.imp fun v _ _ q => by cases q; rfl)
theorem ev_blD {i : Bool} (h : EvP te σ H (DP K (.bool i))) : Ev te σ H (.bl i) := ev_ofP (h.imp fun v _ _ q => by cases q; rfl)
/-! arguments -/
theorem ea_nilP : EvAP tNil σ H (fun vs _ => vs = []) := fun H1 _ _ q => q [] H1 (Evl.Ex.refl H1) rfl
theorem ea_nilD : EvAP tNil σ H (fun vs H1 => DpAll K H1 vs []) := fun H1 _ _ q => q [] H1 (Evl.Ex.refl H1) .nil
theorem ea_consD (h : EvP te σ H (DP K d)) (hr : EvAP tr σ H (fun vs H1 => DpAll K H1 vs ds)) : EvAP (tCons te tr) σ H (fun vs H1 => DpAll K H1 vs (d :: ds)) := fun H1 e Q q =>
  h H1 e _ fun x H2 e2 hx => hr H2 (e.trans e2) _ fun vs H3 e3 hv => q _ H3 (e2.trans e3) (.cons (dp_ex e3 hx) hv)
/-- one more argument, whatever is known of it, if it stays known -/
theorem ea_consP (h : EvP te σ H P) (mo : ∀ v H1 H2, Ex H1 H2 → P v H1 → P v H2) (hr : EvAP tr σ H PA) : EvAP (tCons te tr) σ H (fun vs H1 => ∃ x r, vs = x :: r ∧ P x H1 ∧ PA r H1) := fun H1 e Q q =>
  h H1 e _ fun x H2 e2 hx => hr H2 (e.trans e2) _ fun vs H3 e3 hv => q _ H3 (e2.trans e3) ⟨x, vs, rfl, mo x H2 H3 e3 hx, hv⟩
theorem ea_consV (h : Ev te σ H v) (hr : EvAP tr σ H PA) : EvAP (tCons te tr) σ H (fun vs H1 => ∃ r, vs = v :: r ∧ PA r H1) := fun H1 e Q q =>
  h H1 e _ fun H2 e2 => hr H2 (e.trans e2) _ fun vs H3 e3 hv => q _ H3 (e2.trans e3) ⟨vs, rfl, hv⟩
theorem EvAP.imp {PB : List V → Hp → Prop} (h : EvAP tA σ H PA) (hp : ∀ vs H1, Ex H H1 → PA vs H1 → PB vs H1) : EvAP tA σ H PB := fun H1 a Q q => h H1 a Q fun vs H2 e p => q vs H2 e (hp vs H2 (a.trans e) p)
theorem eap_of {vs : List V} (h : EvA tA σ H vs) : EvAP tA σ H (fun ws _ => ws = vs) := fun H1 e Q q => h H1 e Q fun H2 e2 => q vs H2 e2 rfl
/-! displays -/
theorem ep_tupD (h : EvAP tA σ H (fun vs H1 => DpAll K H1 vs ds)) (hl : ds.length ≤ 100000 := by simp) : EvP (tTup tA) σ H (DP K (.tuple ds)) := fun H1 e Q q =>
  h H1 e _ fun vs H2 e2 hv => ⟨sz_of (by rw [DpAll.length hv]; exact hl), fun p hp => q _ _ (e2.trans (Evl.Ex.new hp)) (.tup (st_of upd_same) (dpAll_ex (Evl.Ex.new hp) hv))⟩
theorem ep_lstD (h : EvAP tA σ H (fun vs H1 => DpAll K H1 vs ds)) (hl : ds.length ≤ 100000 := by simp) : EvP (tLst tA) σ H (NewL K H ds) := fun H1 e Q q =>
  h H1 e _ fun vs H2 e2 hv => ⟨sz_of (by rw [DpAll.length hv]; exact hl), fun p hp => q _ _ (e2.trans (Evl.Ex.new hp)) ⟨p, vs, rfl, fresh_back (e.trans e2) hp, upd_same, dpAll_ex (Evl.Ex.new hp) hv⟩⟩
theorem EvP.newDp (h : EvP te σ H (NewL K H0 ds)) : EvP te σ H (DP K (.list ds)) := h.imp fun _ _ _ q => q.dp
/-! items -/
theorem atI_get {xs : List V} {n : Nat} {v : V} (h : xs[n]? = some v) : atI xs (n : Int) = some v := atI_nat h
theorem ep_ixL {n : Nat} (ha : EvP ta σ H (DP K (.list ds))) (hb : Ev tb σ H (.int (n : Int))) (hd : ds[n]? = some d) : EvP (tOp (rIxL K) ta tb) σ H (DP K d) := fun H1 e Q q =>
  ha H1 e _ fun x H2 e2 hx => hb H2 (e.trans e2) _ fun H3 e3 => by
    cases hx with
    | lst hs hA =>
      obtain ⟨v, h1, h2⟩ := dpAll_get' hA hd
      exact ⟨_, _, _, v, rfl, rfl, ex_l e3 hs, atI_get h1, q v H3 (e2.trans e3) (dp_ex e3 h2)⟩
theorem ep_ixT {n : Nat} (ha : EvP ta σ H (DP K (.tuple ds))) (hb : Ev tb σ H (.int (n : Int))) (hd : ds[n]? = some d) : EvP (tOp (rIxT K) ta tb) σ H (DP K d) := fun H1 e Q q =>
  ha H1 e _ fun x H2 e2 hx => hb H2 (e.trans e2) _ fun H3 e3 => by
    cases hx with
    | tup hs hA =>
      obtain ⟨v, h1, h2⟩ := dpAll_get' hA hd
      exact ⟨_, _, _, v, rfl, rfl, ex_t e3 hs, atI_get h1, q v H3 (e2.trans e3) (dp_ex e3 h2)⟩
/-! comparisons of data -/
theorem rv_eqP (hd : PlainD d) (he : PlainD e) (ha : EvP ta σ H (DP K d)) (hb : EvP tb σ H (DP K e)) : Ev (tOp (rEqP K) ta tb) σ H (.bl (PyData.eqv d e)) := fun H1 a Q q =>
  ha H1 a _ fun x H2 e2 hx => hb H2 (a.trans e2) _ fun y H3 e3 hy => ⟨d, e, dp_ex e3 hx, hy, hd, he, q H3 (e2.trans e3)⟩
theorem rv_neP (hd : PlainD d) (he : PlainD e) (ha : EvP ta σ H (DP K d)) (hb : EvP tb σ H (DP K e)) : Ev (tOp (rNeP K) ta tb) σ H (.bl (!PyData.eqv d e)) := fun H1 a Q q =>
  ha H1 a _ fun x H2 e2 hx => hb H2 (a.trans e2) _ fun y H3 e3 hy => ⟨d, e, dp_ex e3 hx, hy, hd, he, q H3 (e2.trans e3)⟩
theorem rv_ltD (h1 : PySem.W.alike d e = true) (h2 : d ≠ .none) (h3 : d.depth ≤ 40) (ha : EvP ta σ H (DP K d)) (hb : EvP tb σ H (DP K e)) : Ev (tOp (rLtD K) ta tb) σ H (.bl (PySem.W.dataLt d e)) := fun H1 a Q q =>
  ha H1 a _ fun x H2 e2 hx => hb H2 (a.trans e2) _ fun y H3 e3 hy => ⟨d, e, dp_ex e3 hx, hy, h1, h2, h3, q H3 (e2.trans e3)⟩
/-! built-in calls -/
theorem ep_sortD (h : EvP te σ H (DP K (.list ds))) (hs : SortOk ds) : EvP (tCB (rSortD K) (tCons te tNil)) σ H (NewL K H (sortD ds)) := fun H1 e Q q =>
  h H1 e _ fun x H2 e2 hx => by
    cases hx with
    | lst h1 h2 => exact ⟨_, _, _, rfl, h1, h2, hs, fun p ys hp hy _ => q _ _ (e2.trans (Evl.Ex.new hp)) ⟨p, ys, rfl, fresh_back (e.trans e2) hp, upd_same, dpAll_ex (Evl.Ex.new hp) hy⟩⟩
theorem ep_tupleOf (h : EvP te σ H (DP K (.list ds))) : EvP (tCB (fun xs H Q => ∃ p ys, xs = [.ref p] ∧ ((SqL K H p ys ∧ ∀ l, H l = none → Q (.ref l) (upd H l (.tup ys))) ∨ (SqT K H p ys ∧ Q (.ref p) H))) (tCons te tNil)) σ H (DP K (.tuple ds)) := fun H1 e Q q =>
  h H1 e _ fun x H2 e2 hx => by
    cases hx with
    | lst h1 h2 => exact ⟨_, _, rfl, .inl ⟨h1, fun l hl => q _ _ (e2.trans (Evl.Ex.new hl)) (.tup (st_of upd_same) (dpAll_ex (Evl.Ex.new hl) h2))⟩⟩
theorem ep_listOf (h : EvP te σ H (DP K (.list ds))) : EvP (tCB (fun xs H Q => ∃ p ys, xs = [.ref p] ∧ (SqL K H p ys ∨ SqT K H p ys) ∧ ∀ l, H l = none → Q (.ref l) (upd H l (.lst ys))) (tCons te tNil)) σ H (NewL K H ds) := fun H1 e Q q =>
  h H1 e _ fun x H2 e2 hx => by
    cases hx with
    | lst h1 h2 => exact ⟨_, _, rfl, .inl h1, fun l hl => q _ _ (e2.trans (Evl.Ex.new hl)) ⟨l, _, rfl, fresh_back (e.trans e2) hl, upd_same, dpAll_ex (Evl.Ex.new hl) h2⟩⟩
theorem ev_lenL (h : EvP te σ H (DP K (.list ds))) : Ev (tCB (fun xs H Q => ∃ p ys, xs = [.ref p] ∧ (SqL K H p ys ∨ SqT K H p ys) ∧ Q (.int ys.length) H) (tCons te tNil)) σ H (.int (ds.length : Int)) := fun H1 e Q q =>
  h H1 e _ fun x H2 e2 hx => by
    cases hx with
    | lst h1 h2 =>
      rw [← DpAll.length h2] at q
      exact ⟨_, _, rfl, .inl h1, q H2 e2⟩
theorem ev_lenT (h : EvP te σ H (DP K (.tuple ds))) : Ev (tCB (fun xs H Q => ∃ p ys, xs = [.ref p] ∧ (SqL K H p ys ∨ SqT K H p ys) ∧ Q (.int ys.length) H) (tCons te tNil)) σ H (.int (ds.length : Int)) := fun H1 e Q q =>
  h H1 e _ fun x H2 e2 hx => by
    cases hx with
    | tup h1 h2 =>
      rw [← DpAll.length h2] at q
      exact ⟨_, _, rfl, .inr h1, q H2 e2⟩
/-! ### promises of a form: what comes in, what goes out, all that stood stands -/
def spP {α : Type} (Pre : α → List V → Hp → Prop) (Post : α → Hp → V → Hp → Prop) : Sp := fun vs H Q _ => ∃ a, Pre a vs H ∧ ∀ v H', Ex H H' → Post a H v H' → Q v H'
theorem ep_call {α : Type} {Pre : α → List V → Hp → Prop} {Post : α → Hp → V → Hp → Prop} {E : XK} (a : α) (h : EvAP tA σ H PA) (hp : ∀ vs H1, Ex H H1 → PA vs H1 → Pre a vs H1) (hq : ∀ H1 v H2, Ex H H1 → Ex H1 H2 → Post a H1 v H2 → P v H2) : EvP (tCall (spP Pre Post) [] E tA) σ H P := fun H1 e Q q =>
  h H1 e _ fun vs H2 e2 hv => by
    show spP Pre Post (vs ++ []) H2 Q E
    rw [List.append_nil]
    exact ⟨a, hp vs H2 (e.trans e2) hv, fun v H3 e3 h3 => q v H3 (e2.trans e3) (hq H2 v H3 (e.trans e2) e3 h3)⟩
theorem ep_meth {α : Type} {Pre : α → List V → Hp → Prop} {Post : α → Hp → V → Hp → Prop} {E : XK} {C c dx : Addr} {m : Str} {fs : List (Str × V)} (a : α) (ho : Ev tob σ H (.ref c)) (hc : H c = some (.ins C dx fs)) (hm : fs.lookup m = none) (h : EvAP tA σ H PA)
    (hp : ∀ vs H1, Ex H H1 → PA vs H1 → Pre a (.ref c :: vs) H1) (hq : ∀ H1 v H2, Ex H H1 → Ex H1 H2 → Post a H1 v H2 → P v H2) : EvP (tMeth C m (spP Pre Post) [] E tob tA) σ H P := fun H1 e Q q =>
  ho H1 e _ fun H2 e2 => ⟨c, dx, fs, rfl, (e.trans e2) c _ hc, hm, h H2 (e.trans e2) _ fun vs H3 e3 hv => by
    show spP Pre Post (.ref c :: (vs ++ [])) H3 Q E
    rw [List.append_nil]
    exact ⟨a, hp vs H3 ((e.trans e2).trans e3) hv, fun v H4 e4 h4 => q v H4 ((e2.trans e3).trans e4) (hq H3 v H4 ((e.trans e2).trans e3) e4 h4)⟩⟩
theorem ep_make {α : Type} {C : Addr} {sp : Sp} {E : XK} (h : EvAP tA σ H PA) (hs : ∀ vs H1, Ex H H1 → PA vs H1 → ∀ x dx, H1 x = none → H1 dx = none → dx ≠ x → ∀ Q : VK, (∀ H2, Ex H1 H2 → P (.ref x) H2 → Q .non H2) → sp (.ref x :: vs) (upd (upd H1 dx (.own x)) x (.ins C dx [])) Q E) : EvP (tMake C sp [] E tA) σ H P := fun H1 e Q q =>
  h H1 e _ fun vs H2 e2 hv x dx hx hdx hne => by
    rw [List.append_nil]
    exact hs vs H2 (e.trans e2) hv x dx hx hdx hne _ fun H3 e3 hp => ⟨rfl, q _ H3 (e2.trans e3) hp⟩
/-! ### statements -/
variable {D : Ends} {tu tw : TS} {g : TG}
theorem s_asgP {i : Nat} (h : EvP te σ H P) (k : ∀ v H1, Ex H H1 → P v H1 → D.nx (σ.set i (some v)) H1) : tAsg te (gName i) D σ H := h H (Evl.Ex.refl H) _ k
theorem s_retP (h : EvP te σ H P) (k : ∀ v H1, Ex H H1 → P v H1 → D.rt v H1) : tRet te D σ H := h H (Evl.Ex.refl H) _ k
theorem s_dropP (h : EvP te σ H P) (k : ∀ v H1, Ex H H1 → P v H1 → D.nx σ H1) : tDrop te D σ H := h H (Evl.Ex.refl H) _ k
theorem s_appP {l : Addr} {xs : List V} (hl : H l = some (.lst xs)) (ha : Ev ta σ H (.ref l)) (h : EvP te σ H P) (hz : xs.length < 100000) (k : ∀ v H1, Ex H H1 → P v H1 → D.nx σ (upd H1 l (.lst (xs ++ [v])))) :
    tDrop (tBM K "list" rAppend ta (tCons te tNil)) D σ H := ha H (Evl.Ex.refl H) _ fun H1 e1 =>
  ⟨Or.inl ⟨rfl, xs, sq_of (e1 l _ hl)⟩, h H1 e1 _ fun v H2 e2 hv => ⟨l, xs, v, rfl, rfl, e2 l _ (e1 l _ hl), sz_lt hz, k v H2 (e1.trans e2) hv⟩⟩
theorem s_next (q : D.nx σ H) : tNext D σ H := q
theorem s_iff {b : Bool} (h : EvT t σ H b) (h1 : b = true → ∀ H1, Ex H H1 → tu D σ H1) (h2 : b = false → ∀ H1, Ex H H1 → tw D σ H1) : tIfS t tu tw D σ H := Evl.s_if h h1 h2
/-- the heap may change below an extension: an object that stood not ahead -/
theorem ex_upd {p : Addr} {o : HO} (e : Ex H H') (h : H p = none) : Ex H (upd H' p o) := Evl.Ex.mut e h
end
end L2.Tw
set_option Elab.async false
set_option linter.all false
set_option maxRecDepth 100000
set_option maxHeartbeats 4000000
set_option autoImplicit false
namespace L2.Tw
open PySem PySem.Spec PyProof.Rows L2
open Evl (Ex Ev EvT EvA fresh_back ex_l ex_t ex_rd sq_of st_of sz_of sz_lt)
/-! ### data of tuples alone stay while tuples stay -/
mutual
def noL : PyData → Bool
  | .none | .bool _ | .int _ | .str _ => true
  | .tuple ds => noLs ds
  | .list _ => false
  | .dict _ => false
def noLs : List PyData → Bool
  | [] => true
  | d :: ds => noL d && noLs ds
end
theorem noLs_iff {ds : List PyData} : noLs ds = true ↔ ∀ d ∈ ds, noL d = true := by
  induction ds with
  | nil => simp [noLs]
  | cons d ds ih => simp [noLs, ih]
def TupEx (K : PySem.W.Frag) (H H' : Hp) : Prop := ∀ a xs, SqT K H a xs → SqT K H' a xs
mutual
theorem dp_tup {K : PySem.W.Frag} {H H' : Hp} (e : TupEx K H H') : ∀ {v : V} {d : PyData}, noL d = true → Dp K H v d → Dp K H' v d
  | _, .none, _, h => by cases h; exact .non
  | _, .bool b, _, h => by cases h; exact .bl b
  | _, .int i, _, h => by cases h; exact .int i
  | _, .str x, _, h => by cases h; exact .str x
  | _, .list ds, n, h => by simp [noL] at n
  | _, .tuple ds, n, h => by
    cases h with
    | tup hs ha => exact .tup (e _ _ hs) (dpAll_tup e (by simpa [noL] using n) ha)
  | _, .dict _, _, h => by cases h
theorem dpAll_tup {K : PySem.W.Frag} {H H' : Hp} (e : TupEx K H H') : ∀ {vs : List V} {ds : List PyData}, noLs ds = true → DpAll K H vs ds → DpAll K H' vs ds
  | _, [], _, h => by cases h; exact .nil
  | _, d :: ds, n, h => by
    rw [noLs, Bool.and_eq_true] at n
    cases h with
    | cons h1 h2 => exact .cons (dp_tup e n.1 h1) (dpAll_tup e n.2 h2)
end
/-- what is no tuple and not locked -/
def Mutb : HO → Bool
  | .tup _ => false
  | .frz _ _ => false
  | _ => true
theorem tupEx_upd {K : PySem.W.Frag} {H : Hp} {p : Addr} {o o' : HO} (h : H p = some o) (hm : Mutb o = true) : TupEx K H (upd H p o') := fun a xs q => by
  rcases q with q | q
  · refine Or.inl ?_
    have ne : ∀ u, H a = some u → Mutb u = false → a ≠ p := fun u e1 e2 z => by
      rw [z, h] at e1
      cases e1
      rw [hm] at e2
      cases e2
    rcases q with q | ⟨u, q⟩
    · exact Or.inl (by rw [upd_ne (ne _ q rfl)]; exact q)
    · exact Or.inr ⟨u, by rw [upd_ne (ne _ q rfl)]; exact q⟩
  · exact Or.inr q
theorem tupEx_ex {K : PySem.W.Frag} {H H' : Hp} (e : Ex H H') : TupEx K H H' := fun _ _ q => ex_t e q
section
variable {K : PySem.W.Frag} {σ : L2.St} {H H' H0 : Hp} {ta tb te tx tl : TE} {t u : TT} {x y z v : V} {r : R2} {P P' : VP} {d e : PyData} {ds es : List PyData} {tA tr : TA} {PA : List V → Hp → Prop} {D : Ends} {tu tw tbd : TS} {g : TG}
/-! ### texts -/
theorem ev_lenS {s : Str} (h : Ev te σ H (.str s)) (hl : s.length ≤ 100000) : Ev (tCB (fun xs H Q => ∃ z, xs = [V.str z] ∧ z.length ≤ sizeLine ∧ Q (V.int ↑z.length) H) (tCons te tNil)) σ H (.int (s.length : Int)) := fun H1 e Q q =>
  h H1 e _ fun H2 e2 => ⟨s, rfl, sz_of hl, q H2 e2⟩
theorem rv_inS {c : Nat} {s : Str} : Evl.RV (fun x y H Q => ∃ (c : Nat) (z : Str), x = V.str ⟨#[c]⟩ ∧ y = V.str z ∧ Q (V.bl (decide (c ∈ z.cps.toList))) H) (.str ⟨#[c]⟩) (.str s) H (.bl (decide (c ∈ s.cps.toList))) := fun H1 _ _ q => ⟨c, s, rfl, rfl, q H1 (Evl.Ex.refl H1)⟩
theorem rv_niS {c : Nat} {s : Str} : Evl.RV (fun x y H Q => ∃ (c : Nat) (z : Str), x = V.str ⟨#[c]⟩ ∧ y = V.str z ∧ Q (V.bl (!decide (c ∈ z.cps.toList))) H) (.str ⟨#[c]⟩) (.str s) H (.bl (!decide (c ∈ s.cps.toList))) := fun H1 _ _ q => ⟨c, s, rfl, rfl, q H1 (Evl.Ex.refl H1)⟩
theorem rv_addS {a b : Str} (h : a.length + b.length ≤ 100000) : Evl.RV (fun x y H Q => ∃ i j, x = V.str i ∧ y = V.str j ∧ i.length + j.length ≤ sizeLine ∧ Q (V.str (i ++ j)) H) (.str a) (.str b) H (.str (a ++ b)) := fun H1 _ _ q => ⟨a, b, rfl, rfl, sz_of h, q H1 (Evl.Ex.refl H1)⟩
/-! ### loops -/
/-- for c in s -/
theorem s_forS {j : Nat} {s : Str} (h : Ev te σ H (.str s)) (Pv : Nat → L2.St → Hp → Prop) (h0 : ∀ H1, Ex H H1 → Pv 0 σ H1)
    (hs : ∀ i c σ' H', s.cps[i]? = some c → Pv i σ' H' → tbd { D with nx := Pv (i + 1), ct := Pv (i + 1), bk := D.nx } (σ'.set j (some (.str ⟨#[c]⟩))) H') (hd : ∀ σ' H', Pv s.cps.size σ' H' → D.nx σ' H') : tFor (iStr te) (gName j) tbd D σ H :=
  h H (Evl.Ex.refl H) _ fun H1 e => ⟨s, rfl, for_it walk_str Pv (h0 H1 e) (fun _ _ _ _ _ => True.intro) (fun i x σ' H' H2 hi p ⟨e2, c, hc, ev⟩ => by
    subst e2 ev
    exact hs i c σ' _ hc p) hd⟩
/-- the same, the list at hand -/
theorem s_forDL {a : Addr} {xs : List V} (h1 : Ev tl σ H (.ref a)) (h2 : SqL K H a xs) (h3 : DpAll K H xs ds) (Pv : Nat → L2.St → Hp → Prop) (h0 : ∀ H1, Ex H H1 → Pv 0 σ H1) (hl : ∀ i σ' H', Pv i σ' H' → Ex H H')
    (hs : ∀ i d x σ' H', ds[i]? = some d → Dp K H' x d → Pv i σ' H' → g x σ' H' fun σ2 H2 => tbd { D with nx := Pv (i + 1), ct := Pv (i + 1), bk := D.nx } σ2 H2) (hd : ∀ σ' H', Pv ds.length σ' H' → D.nx σ' H') : tFor (iList K tl) g tbd D σ H := by
  refine Evl.s_forL h1 h2 Pv h0 (fun i σ' H' _ p => ex_l (hl i σ' H' p) h2) (fun i x σ' H' hx p => ?_) (fun σ' H' p => hd σ' H' (by rw [← DpAll.length h3]; exact p))
  obtain ⟨d, hd1, hd2⟩ := dpAll_get h3 hx
  exact hs i d x σ' H' hd1 (dp_ex (hl i σ' H' p) hd2) p
/-- over a tuple of data -/
theorem s_forDT {a : Addr} {xs : List V} (h1 : Ev tl σ H (.ref a)) (h2 : SqT K H a xs) (h3 : DpAll K H xs ds) (Pv : Nat → L2.St → Hp → Prop) (h0 : ∀ H1, Ex H H1 → Pv 0 σ H1) (hl : ∀ i σ' H', Pv i σ' H' → Ex H H')
    (hs : ∀ i d x σ' H', ds[i]? = some d → Dp K H' x d → Pv i σ' H' → g x σ' H' fun σ2 H2 => tbd { D with nx := Pv (i + 1), ct := Pv (i + 1), bk := D.nx } σ2 H2) (hd : ∀ σ' H', Pv ds.length σ' H' → D.nx σ' H') : tFor (iTup K tl) g tbd D σ H := by
  refine Evl.s_forT h1 h2 Pv h0 (fun i σ' H' _ p => ex_t (hl i σ' H' p) h2) (fun i x σ' H' hx p => ?_) (fun σ' H' p => hd σ' H' (by rw [← DpAll.length h3]; exact p))
  obtain ⟨d, hd1, hd2⟩ := dpAll_get h3 hx
  exact hs i d x σ' H' hd1 (dp_ex (hl i σ' H' p) hd2) p
/-- for i, x in enumerate(l) -/
theorem s_forE {a : Addr} {xs : List V} {i j : Nat} (h1 : Ev tl σ H (.ref a)) (h2 : SqL K H a xs) (Pv : Nat → L2.St → Hp → Prop) (h0 : ∀ H1, Ex H H1 → Pv 0 σ H1) (hl : ∀ i σ' H', Pv i σ' H' → SqL K H' a xs)
    (hs : ∀ m x σ' H' H2, xs[m]? = some x → Pv m σ' H' → Ex H' H2 → tbd { D with nx := Pv (m + 1), ct := Pv (m + 1), bk := D.nx } ((σ'.set i (some (.int (m : Nat)))).set j (some x)) H2) (hd : ∀ σ' H', Pv xs.length σ' H' → D.nx σ' H') :
    tFor (iEnum K (tCons tl tNil)) (gTup K 2 (gCons (gName i) (gCons (gName j) gNil))) tbd D σ H :=
  h1 H (Evl.Ex.refl H) _ fun H1 e => ⟨a, xs, rfl, ex_l e h2, for_it walk_enum Pv (h0 H1 e) (fun m σ' H' _ p => hl m σ' H' p) (fun m x σ' H' H2 hm p ⟨T, x1, x2, ex, hT, eH, e1, e2⟩ => by
    subst ex eH
    cases e1
    exact ⟨T, _, rfl, st_of upd_same, rfl, _, _, rfl, _, _, rfl, rfl, hs m x2 σ' H' _ e2 p (Evl.Ex.new hT)⟩) hd⟩
/-- for x, y in zip(l, m) -/
theorem s_forZ {a b : Addr} {xs ys : List V} {i j : Nat} {tm : TE} (h1 : Ev tl σ H (.ref a)) (h2 : SqL K H a xs) (k1 : Ev tm σ H (.ref b)) (k2 : SqL K H b ys) (hxy : xs.length = ys.length) (Pv : Nat → L2.St → Hp → Prop) (h0 : ∀ H1, Ex H H1 → Pv 0 σ H1)
    (hl : ∀ i σ' H', Pv i σ' H' → SqL K H' a xs ∧ SqL K H' b ys)
    (hs : ∀ m x y σ' H' H2, xs[m]? = some x → ys[m]? = some y → Pv m σ' H' → Ex H' H2 → tbd { D with nx := Pv (m + 1), ct := Pv (m + 1), bk := D.nx } ((σ'.set i (some x)).set j (some y)) H2) (hd : ∀ σ' H', Pv xs.length σ' H' → D.nx σ' H') :
    tFor (iZip K (tCons tl (tCons tm tNil))) (gTup K 2 (gCons (gName i) (gCons (gName j) gNil))) tbd D σ H :=
  h1 H (Evl.Ex.refl H) _ fun H1 e => k1 H1 e _ fun H2 e2 => ⟨a, b, xs, ys, rfl, ex_l (e.trans e2) h2, ex_l (e.trans e2) k2, for_it (walk_zip (n := xs.length) (by omega)) Pv (h0 H2 (e.trans e2)) (fun m σ' H' _ p => hl m σ' H' p) (fun m x σ' H' H3 hm p ⟨T, x1, x2, ex, hT, eH, e1, e2⟩ => by
    subst ex eH
    exact ⟨T, _, rfl, st_of upd_same, rfl, _, _, rfl, _, _, rfl, rfl, hs m x1 x2 σ' H' _ e1 e2 p (Evl.Ex.new hT)⟩) hd⟩
theorem s_par3 {i j l : Nat} {v1 v2 v3 : V} (h : EvA tA σ H [v1, v2, v3]) (k : ∀ H1, Ex H H1 → D.nx (((σ.set i (some v1)).set j (some v2)).set l (some v3)) H1) : tPar3 i j l tA D σ H := h H (Evl.Ex.refl H) _ fun H1 e => ⟨_, _, _, rfl, k H1 e⟩
theorem s_retE {v : V} (h : Ev te σ H v) (k : ∀ H1, Ex H H1 → D.rt v H1) : tRet te D σ H := h H (Evl.Ex.refl H) _ k
theorem s_asgE {i : Nat} {v : V} (h : Ev te σ H v) (k : ∀ H1, Ex H H1 → D.nx (σ.set i (some v)) H1) : tAsg te (gName i) D σ H := h H (Evl.Ex.refl H) _ k
/-- a <= b < c -/
theorem ev_chain {r r' : R2} {tc : TE} {b1 b2 : Bool} (ha : Ev ta σ H x) (hb : Ev tb σ H y) (hr : Evl.RV r x y H (.bl b1)) (hc : b1 = true → Ev tc σ H z) (hr' : b1 = true → Evl.RV r' y z H (.bl b2)) : Ev (tChain r r' ta tb tc) σ H (.bl (b1 && b2)) := fun H1 e Q q =>
  ha H1 e _ fun H2 e2 => hb H2 (e.trans e2) _ fun H3 e3 => hr H3 ((e.trans e2).trans e3) _ fun H4 e4 => ⟨b1, rfl, by
    have e14 := ((e.trans e2).trans e3).trans e4
    cases b1 with
    | true => exact iteT (hc rfl H4 e14 _ fun H5 e5 => hr' rfl H5 (e14.trans e5) _ fun H6 e6 => q H6 ((((e2.trans e3).trans e4).trans e5).trans e6))
    | false => exact iteF (q H4 ((e2.trans e3).trans e4))⟩
theorem ev_andV1 {a b : Bool} (h1 : Ev ta σ H (.bl a)) (h2 : a = true → Ev tb σ H (.bl b)) : Ev (tAndV ta tb) σ H (.bl (a && b)) := Evl.ev_andV h1 h2
/-! ### targets -/
theorem g_tup2 {i j : Nat} {d1 d2 : PyData} (h : Dp K H x (.tuple [d1, d2])) {Q : L2.St → Hp → Prop} (q : ∀ v1 v2, Dp K H v1 d1 → Dp K H v2 d2 → Q ((σ.set i (some v1)).set j (some v2)) H) :
    gTup K 2 (gCons (gName i) (gCons (gName j) gNil)) x σ H Q := by
  cases h with
  | tup hs ha =>
    cases ha with
    | cons h1 r =>
      cases r with
      | cons h2 r =>
        cases r
        exact ⟨_, _, rfl, hs, rfl, _, _, rfl, _, _, rfl, rfl, q _ _ h1 h2⟩
theorem g_tup4 {i j k l : Nat} {d1 d2 d3 d4 : PyData} (h : Dp K H x (.tuple [d1, d2, d3, d4])) {Q : L2.St → Hp → Prop} (q : ∀ v1 v2 v3 v4, Dp K H v1 d1 → Dp K H v2 d2 → Dp K H v3 d3 → Dp K H v4 d4 → Q ((((σ.set i (some v1)).set j (some v2)).set k (some v3)).set l (some v4)) H) :
    gTup K 4 (gCons (gName i) (gCons (gName j) (gCons (gName k) (gCons (gName l) gNil)))) x σ H Q := by
  cases h with
  | tup hs ha =>
    cases ha with
    | cons h1 r =>
      cases r with
      | cons h2 r =>
        cases r with
        | cons h3 r =>
          cases r with
          | cons h4 r =>
            cases r
            exact ⟨_, _, rfl, hs, rfl, _, _, rfl, _, _, rfl, _, _, rfl, _, _, rfl, rfl, q _ _ _ _ h1 h2 h3 h4⟩
/-! ### comprehensions of data without lists -/
def outs (n : Nat) (f : Nat → Bool) (o : Nat → PyData) : List PyData := ((List.range n).filter f).map o
theorem outs_yes {n : Nat} {f : Nat → Bool} {o : Nat → PyData} (h : f n = true) : outs (n + 1) f o = outs n f o ++ [o n] := by
  unfold outs
  rw [List.range_succ, List.filter_append, List.map_append, List.filter_cons, if_pos h] <;> rfl
theorem outs_no {n : Nat} {f : Nat → Bool} {o : Nat → PyData} (h : f n = false) : outs (n + 1) f o = outs n f o := by
  unfold outs
  rw [List.range_succ, List.filter_append, List.map_append, List.filter_cons, if_neg (by rw [h]; decide)]
  show _ ++ [] = _
  rw [List.append_nil]
theorem outs_len (n : Nat) (f : Nat → Bool) (o : Nat → PyData) : (outs n f o).length ≤ n := by
  unfold outs
  rw [List.length_map]
  have h := List.length_filter_le f (List.range n)
  rw [List.length_range] at h
  exact h
theorem outs_all (n : Nat) (o : Nat → PyData) : outs n (fun _ => true) o = (List.range n).map o := by
  unfold outs
  rw [List.filter_eq_self.mpr (fun _ _ => rfl)]
def Cd (K : PySem.W.Frag) (H : Hp) (f : Nat → Bool) (o : Nat → PyData) (Dl : Addr) (i : Nat) (H' : Hp) : Prop := H Dl = none ∧ Ex H H' ∧ ∃ acc, H' Dl = some (.lst acc) ∧ DpAll K H' acc (outs i f o)
theorem cd_turn {f : Nat → Bool} {o : Nat → PyData} {Dl : Addr} {i : Nat} {σ2 : L2.St} (p : Cd K H f o Dl i H') (hi : i < 50000) (hn : ∀ j, j ≤ i → f j = true → noL (o j) = true) (ht : EvT t σ2 H (f i)) (he : f i = true → EvP te σ2 H (DP K (o i))) :
    t σ2 H' fun b H3 => if b = true then te σ2 H3 fun y H4 => ∃ acc, H4 Dl = some (.lst acc) ∧ acc.length < sizeLine ∧ Cd K H f o Dl (i + 1) (upd H4 Dl (.lst (acc ++ [y]))) else Cd K H f o Dl (i + 1) H3 := by
  obtain ⟨p1, p2, acc, p3, p4⟩ := p
  refine ht H' p2 _ fun H3 e3 => ?_
  cases hf : f i with
  | true =>
    show te σ2 H3 fun y H4 => ∃ acc, H4 Dl = some (.lst acc) ∧ acc.length < sizeLine ∧ Cd K H f o Dl (i + 1) (upd H4 Dl (.lst (acc ++ [y])))
    refine he hf H3 (p2.trans e3) _ fun v H4 e4 hv => ?_
    have q4 : H4 Dl = some (.lst acc) := e4 Dl _ (e3 Dl _ p3)
    have tx : TupEx K H4 (upd H4 Dl (.lst (acc ++ [v]))) := tupEx_upd q4 rfl
    refine ⟨acc, q4, sz_lt (by rw [DpAll.length p4]; have := outs_len i f o; omega), p1, Evl.Ex.mut ((p2.trans e3).trans e4) p1, _, upd_same, ?_⟩
    rw [outs_yes hf]
    refine dpAll_snoc (dpAll_tup tx (noLs_iff.mpr fun d hd => ?_) (dpAll_ex e4 (dpAll_ex e3 p4))) (dp_tup tx (hn i (Nat.le_refl _) hf) hv)
    obtain ⟨j, hj, rfl⟩ := List.mem_map.mp hd
    obtain ⟨h1, h2⟩ := List.mem_filter.mp hj
    exact hn j (Nat.le_of_lt (List.mem_range.mp h1)) h2
  | false =>
    show Cd K H f o Dl (i + 1) H3
    refine ⟨p1, p2.trans e3, acc, e3 Dl _ p3, ?_⟩
    rw [outs_no hf]
    exact dpAll_ex e3 p4
/-- [e for i in range(n) if t] -/
theorem ep_lcR {j : Nat} {vs : List Nat} {n : Nat} (f : Nat → Bool) (o : Nat → PyData) (h : EvA tA σ H [.int (n : Int)]) (hn : n ≤ 40000) (hno : ∀ j, j < n → f j = true → noL (o j) = true) (hw : ∀ x, wipe ((wipe σ vs).set j (some x)) vs = wipe σ vs)
    (ht : ∀ (i : Nat) H1, Ex H H1 → i < n → EvT t ((wipe σ vs).set j (some (.int (i : Int)))) H1 (f i)) (he : ∀ (i : Nat) H1, Ex H H1 → i < n → f i = true → EvP te ((wipe σ vs).set j (some (.int (i : Int)))) H1 (DP K (o i))) :
    EvP (tLc (iRng1 tA) (gName j) t te vs) σ H (NewL K H (outs n f o)) := fun H0 e Q q => h H0 e _ fun H1 e1 => ⟨(n : Int), rfl, by omega, by omega, fun Dl hD => by
  have en : ((n : Int)).toNat = n := by omega
  rw [en]
  exact lc_range (lo := 0) (n := n) (Cd K H1 f o Dl) ⟨hD, Evl.Ex.new hD, [], upd_same, .nil⟩ (fun i H' hi p => by
    have e0 : (0 : Int) + (i : Int) = (i : Int) := Int.zero_add _
    show wipe ((wipe σ vs).set j (some (.int ((0 : Int) + (i : Int))))) vs = wipe σ vs ∧ t ((wipe σ vs).set j (some (.int ((0 : Int) + (i : Int))))) H' fun b H3 => if b = true then te ((wipe σ vs).set j (some (.int ((0 : Int) + (i : Int))))) H3 fun y H4 => ∃ acc, H4 Dl = some (.lst acc) ∧ acc.length < sizeLine ∧ Cd K H1 f o Dl (i + 1) (upd H4 Dl (.lst (acc ++ [y]))) else Cd K H1 f o Dl (i + 1) H3
    rw [e0]
    exact ⟨hw _, cd_turn p (by omega) (fun j hj hf => hno j (by omega) hf) (ht i H1 (e.trans e1) hi) (fun hf => he i H1 (e.trans e1) hi hf)⟩) (fun H' ⟨p1, p2, acc, p3, p4⟩ => q _ H' (e1.trans p2) ⟨Dl, acc, rfl, fresh_back (e.trans e1) p1, p3, p4⟩)⟩
/-- [e for i in range(m, n)] -/
theorem ep_lcR2 {j : Nat} {vs : List Nat} {lo n : Nat} (o : Nat → PyData) (h : EvA tA σ H [.int (lo : Int), .int (n : Int)]) (hn : n ≤ 40000 ∧ lo ≤ 40000) (hno : ∀ j, j < n - lo → noL (o j) = true) (hw : ∀ x, wipe ((wipe σ vs).set j (some x)) vs = wipe σ vs)
    (he : ∀ (i : Nat) H1, Ex H H1 → i < n - lo → EvP te ((wipe σ vs).set j (some (.int ((lo + i : Nat) : Int)))) H1 (DP K (o i))) :
    EvP (tLc (iRng2 tA) (gName j) tYes te vs) σ H (NewL K H (outs (n - lo) (fun _ => true) o)) := fun H0 e Q q => h H0 e _ fun H1 e1 => ⟨(lo : Int), (n : Int), rfl, ⟨by omega, by omega, by omega, by omega⟩, fun Dl hD => by
  have en : ((n : Int) - (lo : Int)).toNat = n - lo := by omega
  rw [en]
  exact lc_range (lo := (lo : Int)) (n := n - lo) (Cd K H1 (fun _ => true) o Dl) ⟨hD, Evl.Ex.new hD, [], upd_same, .nil⟩ (fun i H' hi p => by
    have e0 : (lo : Int) + (i : Int) = ((lo + i : Nat) : Int) := by omega
    show wipe ((wipe σ vs).set j (some (.int ((lo : Int) + (i : Int))))) vs = wipe σ vs ∧ tYes ((wipe σ vs).set j (some (.int ((lo : Int) + (i : Int))))) H' fun b H3 => if b = true then te ((wipe σ vs).set j (some (.int ((lo : Int) + (i : Int))))) H3 fun y H4 => ∃ acc, H4 Dl = some (.lst acc) ∧ acc.length < sizeLine ∧ Cd K H1 (fun _ => true) o Dl (i + 1) (upd H4 Dl (.lst (acc ++ [y]))) else Cd K H1 (fun _ => true) o Dl (i + 1) H3
    rw [e0]
    exact ⟨hw _, cd_turn (t := tYes) p (by omega) (fun j hj _ => hno j (by omega)) (fun H2 _ _ q => q H2 (Evl.Ex.refl H2)) (fun _ => he i H1 (e.trans e1) hi)⟩) (fun H' ⟨p1, p2, acc, p3, p4⟩ => q _ H' (e1.trans p2) ⟨Dl, acc, rfl, fresh_back (e.trans e1) p1, p3, p4⟩)⟩
theorem et_yes : EvT tYes σ H true := fun H1 _ _ q => q H1 (Evl.Ex.refl H1)
/-- [e for .. in l if t], l a list of data; τ: the slots with the target taken -/
theorem ep_lcL {vs : List Nat} (f : Nat → Bool) (o : Nat → PyData) (h : EvP tl σ H (DP K (.list ds))) (hz : ds.length ≤ 40000) (hno : ∀ j, j < ds.length → f j = true → noL (o j) = true)
    (hg : ∀ i d x H1, Ex H H1 → ds[i]? = some d → Dp K H1 x d → ∃ σ2, wipe σ2 vs = wipe σ vs ∧ (∀ (H2 : Hp) (Q : L2.St → Hp → Prop), Ex H1 H2 → Q σ2 H2 → g x (wipe σ vs) H2 Q) ∧ EvT t σ2 H1 (f i) ∧ (f i = true → EvP te σ2 H1 (DP K (o i)))) :
    EvP (tLc (iList K tl) g t te vs) σ H (NewL K H (outs ds.length f o)) := fun H0 e Q q => h H0 e _ fun v H1 e1 hv => by
  cases hv with
  | @lst a xs _ h2 h3 =>
    refine ⟨a, rfl, ⟨xs, h2⟩, fun Dl hD => ?_⟩
    refine lc_list (xs := xs) (Cd K H1 f o Dl) ⟨hD, Evl.Ex.new hD, [], upd_same, .nil⟩ (fun i H' _ p => ex_l p.2.1 h2) (fun i x H' hi p => ?_) (fun H' ⟨p1, p2, acc, p3, p4⟩ => q _ H' (e1.trans p2) ⟨Dl, acc, rfl, fresh_back (e.trans e1) p1, p3, by rw [← DpAll.length h3]; exact p4⟩)
    obtain ⟨d, hd1, hd2⟩ := dpAll_get h3 hi
    obtain ⟨σ2, w1, w2, w3, w4⟩ := hg i d x H1 (e.trans e1) hd1 hd2
    have hil : i < ds.length := (List.getElem?_eq_some_iff.mp hd1).1
    exact w2 H' _ p.2.1 ⟨w1, cd_turn p (by omega) (fun j hj hf => hno j (by omega) hf) w3 w4⟩
/-! ### the same, with what follows -/
variable {tz : TS}
theorem q_par3 {i j l : Nat} {v1 v2 v3 : V} (h : EvA tA σ H [v1, v2, v3]) (k : ∀ H1, Ex H H1 → tz D (((σ.set i (some v1)).set j (some v2)).set l (some v3)) H1) : tSeq (tPar3 i j l tA) tz D σ H := s_par3 (D := { D with nx := tz D }) h k
theorem q_asgP {i : Nat} (h : EvP te σ H P) (k : ∀ v H1, Ex H H1 → P v H1 → tz D (σ.set i (some v)) H1) : tSeq (tAsg te (gName i)) tz D σ H := s_asgP (D := { D with nx := tz D }) h k
theorem q_asgG (h : EvP te σ H P) (k : ∀ v H1, Ex H H1 → P v H1 → g v σ H1 (tz D)) : tSeq (tAsg te g) tz D σ H := h H (Evl.Ex.refl H) _ k
theorem q_dropP (h : EvP te σ H P) (k : ∀ v H1, Ex H H1 → P v H1 → tz D σ H1) : tSeq (tDrop te) tz D σ H := s_dropP (D := { D with nx := tz D }) h k
theorem q_appP {l : Addr} {xs : List V} (hl : H l = some (.lst xs)) (ha : Ev ta σ H (.ref l)) (h : EvP te σ H P) (hz : xs.length < 100000) (k : ∀ v H1, Ex H H1 → P v H1 → tz D σ (upd H1 l (.lst (xs ++ [v])))) :
    tSeq (tDrop (tBM K "list" rAppend ta (tCons te tNil))) tz D σ H := s_appP (D := { D with nx := tz D }) hl ha h hz k
theorem q_forS {j : Nat} {s : Str} (h : Ev te σ H (.str s)) (Pv : Nat → L2.St → Hp → Prop) (h0 : ∀ H1, Ex H H1 → Pv 0 σ H1)
    (hs : ∀ i c σ' H', s.cps[i]? = some c → Pv i σ' H' → tbd { nx := Pv (i + 1), rt := D.rt, ct := Pv (i + 1), bk := tz D } (σ'.set j (some (.str ⟨#[c]⟩))) H') (hd : ∀ σ' H', Pv s.cps.size σ' H' → tz D σ' H') : tSeq (tFor (iStr te) (gName j) tbd) tz D σ H :=
  s_forS (D := { D with nx := tz D }) h Pv h0 hs hd
theorem q_forDL {a : Addr} {xs : List V} (h1 : Ev tl σ H (.ref a)) (h2 : SqL K H a xs) (h3 : DpAll K H xs ds) (Pv : Nat → L2.St → Hp → Prop) (h0 : ∀ H1, Ex H H1 → Pv 0 σ H1) (hl : ∀ i σ' H', Pv i σ' H' → Ex H H')
    (hs : ∀ i d x σ' H', ds[i]? = some d → Dp K H' x d → Pv i σ' H' → g x σ' H' fun σ2 H2 => tbd { nx := Pv (i + 1), rt := D.rt, ct := Pv (i + 1), bk := tz D } σ2 H2) (hd : ∀ σ' H', Pv ds.length σ' H' → tz D σ' H') : tSeq (tFor (iList K tl) g tbd) tz D σ H :=
  s_forDL (D := { D with nx := tz D }) h1 h2 h3 Pv h0 hl hs hd
theorem q_forDT {a : Addr} {xs : List V} (h1 : Ev tl σ H (.ref a)) (h2 : SqT K H a xs) (h3 : DpAll K H xs ds) (Pv : Nat → L2.St → Hp → Prop) (h0 : ∀ H1, Ex H H1 → Pv 0 σ H1) (hl : ∀ i σ' H', Pv i σ' H' → Ex H H')
    (hs : ∀ i d x σ' H', ds[i]? = some d → Dp K H' x d → Pv i σ' H' → g x σ' H' fun σ2 H2 => tbd { nx := Pv (i + 1), rt := D.rt, ct := Pv (i + 1), bk := tz D } σ2 H2) (hd : ∀ σ' H', Pv ds.length σ' H' → tz D σ' H') : tSeq (tFor (iTup K tl) g tbd) tz D σ H :=
  s_forDT (D := { D with nx := tz D }) h1 h2 h3 Pv h0 hl hs hd
theorem q_forE {a : Addr} {xs : List V} {i j : Nat} (h1 : Ev tl σ H (.ref a)) (h2 : SqL K H a xs) (Pv : Nat → L2.St → Hp → Prop) (h0 : ∀ H1, Ex H H1 → Pv 0 σ H1) (hl : ∀ i σ' H', Pv i σ' H' → SqL K H' a xs)
    (hs : ∀ m x σ' H' H2, xs[m]? = some x → Pv m σ' H' → Ex H' H2 → tbd { nx := Pv (m + 1), rt := D.rt, ct := Pv (m + 1), bk := tz D } ((σ'.set i (some (.int (m : Nat)))).set j (some x)) H2) (hd : ∀ σ' H', Pv xs.length σ' H' → tz D σ' H') :
    tSeq (tFor (iEnum K (tCons tl tNil)) (gTup K 2 (gCons (gName i) (gCons (gName j) gNil))) tbd) tz D σ H := s_forE (D := { D with nx := tz D }) h1 h2 Pv h0 hl hs hd
theorem q_forZ {a b : Addr} {xs ys : List V} {i j : Nat} {tm : TE} (h1 : Ev tl σ H (.ref a)) (h2 : SqL K H a xs) (k1 : Ev tm σ H (.ref b)) (k2 : SqL K H b ys) (hxy : xs.length = ys.length) (Pv : Nat → L2.St → Hp → Prop) (h0 : ∀ H1, Ex H H1 → Pv 0 σ H1)
    (hl : ∀ i σ' H', Pv i σ' H' → SqL K H' a xs ∧ SqL K H' b ys)
    (hs : ∀ m x y σ' H' H2, xs[m]? = some x → ys[m]? = some y → Pv m σ' H' → Ex H' H2 → tbd { nx := Pv (m + 1), rt := D.rt, ct := Pv (m + 1), bk := tz D } ((σ'.set i (some x)).set j (some y)) H2) (hd : ∀ σ' H', Pv xs.length σ' H' → tz D σ' H') :
    tSeq (tFor (iZip K (tCons tl (tCons tm tNil))) (gTup K 2 (gCons (gName i) (gCons (gName j) gNil))) tbd) tz D σ H := s_forZ (D := { D with nx := tz D }) h1 h2 k1 k2 hxy Pv h0 hl hs hd
theorem q_forR {j n : Nat} (h : EvA tA σ H [.int (n : Int)]) (hn : n ≤ 100000) (Pv : Nat → L2.St → Hp → Prop) (h0 : ∀ H1, Ex H H1 → Pv 0 σ H1)
    (hs : ∀ (i : Nat) σ' H', i < n → Pv i σ' H' → tbd { nx := Pv (i + 1), rt := D.rt, ct := Pv (i + 1), bk := tz D } (σ'.set j (some (.int (i : Int)))) H') (hd : ∀ σ' H', Pv n σ' H' → tz D σ' H') : tSeq (tFor (iRng1 tA) (gName j) tbd) tz D σ H :=
  Evl.s_forR1 (D := { D with nx := tz D }) h ⟨by omega, by omega⟩ Pv h0 (fun i σ' H' hi p => hs i σ' H' (by omega) p) (fun σ' H' p => hd σ' H' (by simpa using p))
theorem s_forR {j n : Nat} (h : EvA tA σ H [.int (n : Int)]) (hn : n ≤ 100000) (Pv : Nat → L2.St → Hp → Prop) (h0 : ∀ H1, Ex H H1 → Pv 0 σ H1)
    (hs : ∀ (i : Nat) σ' H', i < n → Pv i σ' H' → tbd { nx := Pv (i + 1), rt := D.rt, ct := Pv (i + 1), bk := D.nx } (σ'.set j (some (.int (i : Int)))) H') (hd : ∀ σ' H', Pv n σ' H' → D.nx σ' H') : tFor (iRng1 tA) (gName j) tbd D σ H :=
  Evl.s_forR1 h ⟨by omega, by omega⟩ Pv h0 (fun i σ' H' hi p => hs i σ' H' (by omega) p) (fun σ' H' p => hd σ' H' (by simpa using p))
theorem s_forR2 {j lo n : Nat} (h : EvA tA σ H [.int (lo : Int), .int (n : Int)]) (hn : n ≤ 100000 ∧ lo ≤ n) (Pv : Nat → L2.St → Hp → Prop) (h0 : ∀ H1, Ex H H1 → Pv lo σ H1)
    (hs : ∀ (i : Nat) σ' H', lo ≤ i → i < n → Pv i σ' H' → tbd { nx := Pv (i + 1), rt := D.rt, ct := Pv (i + 1), bk := D.nx } (σ'.set j (some (.int (i : Int)))) H') (hd : ∀ σ' H', Pv n σ' H' → D.nx σ' H') : tFor (iRng2 tA) (gName j) tbd D σ H :=
  Evl.s_forR2 h ⟨by omega, by omega, by omega, by omega⟩ (fun m => Pv (lo + m)) h0 (fun i σ' H' hi p => by
    have e : (lo : Int) + (i : Int) = ((lo + i : Nat) : Int) := by omega
    rw [e]
    exact hs (lo + i) σ' H' (by omega) (by omega) p) (fun σ' H' p => hd σ' H' (by
    have e : lo + ((n : Int) - (lo : Int)).toNat = n := by omega
    rw [e] at p
    exact p))
end
end L2.Tw
set_option Elab.async false
set_option linter.all false
set_option maxRecDepth 100000
set_option maxHeartbeats 4000000
set_option autoImplicit false
namespace L2.Tw
open PySem PySem.Spec PyProof.Rows L2
open Evl (Ex Ev EvT EvA fresh_back ex_l ex_t ex_rd sq_of st_of sz_of sz_lt)
section
variable {K : PySem.W.Frag} {σ : L2.St} {H H' H0 : Hp} {ta tb te tx tl td ty tv : TE} {t u : TT} {x y z v : V} {r : R2} {P P' : VP} {d e : PyData} {ds es : List PyData} {tA tr : TA} {PA : List V → Hp → Prop} {D : Ends} {tu tw tbd tz : TS} {g : TG}
/-- for .. in l, what is left of the list told by the invariant -/
theorem s_forDX {a : Addr} {xs : List V} (h1 : Ev tl σ H (.ref a)) (h2 : SqL K H a xs) (h3 : DpAll K H xs ds) (Pv : Nat → L2.St → Hp → Prop) (h0 : ∀ H1, Ex H H1 → Pv 0 σ H1) (hl : ∀ i σ' H', Pv i σ' H' → SqL K H' a xs ∧ DpAll K H' xs ds)
    (hs : ∀ i d x σ' H', ds[i]? = some d → Dp K H' x d → Pv i σ' H' → g x σ' H' fun σ2 H2 => tbd { D with nx := Pv (i + 1), ct := Pv (i + 1), bk := D.nx } σ2 H2) (hd : ∀ σ' H', Pv ds.length σ' H' → D.nx σ' H') : tFor (iList K tl) g tbd D σ H := by
  refine Evl.s_forL h1 h2 Pv h0 (fun i σ' H' _ p => (hl i σ' H' p).1) (fun i x σ' H' hx p => ?_) (fun σ' H' p => hd σ' H' (by rw [← DpAll.length h3]; exact p))
  obtain ⟨d, hd1, hd2⟩ := dpAll_get (hl i σ' H' p).2 hx
  exact hs i d x σ' H' hd1 hd2 p
theorem q_forDX {a : Addr} {xs : List V} (h1 : Ev tl σ H (.ref a)) (h2 : SqL K H a xs) (h3 : DpAll K H xs ds) (Pv : Nat → L2.St → Hp → Prop) (h0 : ∀ H1, Ex H H1 → Pv 0 σ H1) (hl : ∀ i σ' H', Pv i σ' H' → SqL K H' a xs ∧ DpAll K H' xs ds)
    (hs : ∀ i d x σ' H', ds[i]? = some d → Dp K H' x d → Pv i σ' H' → g x σ' H' fun σ2 H2 => tbd { nx := Pv (i + 1), rt := D.rt, ct := Pv (i + 1), bk := tz D } σ2 H2) (hd : ∀ σ' H', Pv ds.length σ' H' → tz D σ' H') : tSeq (tFor (iList K tl) g tbd) tz D σ H :=
  s_forDX (D := { D with nx := tz D }) h1 h2 h3 Pv h0 hl hs hd
/-! ### dicts -/
theorem s_dputT {a b : Addr} {kvs : List (List L2.Key × V)} {k : List L2.Key} (hv : EvP tv σ H P) (hd : Ev td σ H (.ref a)) (hk : Ev ty σ H (.ref b)) (ha : H a = some (.dT kvs)) (hb : H b = some (.tup (k.map kV))) (hl : kvs.length < 100000) (mo : ∀ v H1 H2, Ex H1 H2 → P v H1 → P v H2)
    (q : ∀ v H1, Ex H H1 → P v H1 → D.nx σ (upd H1 a (.dT (putK kvs k v)))) : sDPut td ty tv D σ H :=
  hv H (Evl.Ex.refl H) _ fun v H1 e1 p => hd H1 e1 _ fun H2 e2 => hk H2 (e1.trans e2) _ fun H3 e3 =>
    have e := (e1.trans e2).trans e3
    ⟨a, _, rfl, DPut.t (e a _ ha) (e b _ hb) (sz_lt hl), q v H3 e (mo v H1 H3 (e2.trans e3) p)⟩
theorem s_dputK {a : Addr} {kvs : List (L2.Key × V)} {k : L2.Key} (hv : EvP tv σ H P) (hd : Ev td σ H (.ref a)) (hk : Ev ty σ H (kV k)) (ha : H a = some (.dK kvs)) (hl : kvs.length < 100000) (mo : ∀ v H1 H2, Ex H1 H2 → P v H1 → P v H2)
    (q : ∀ v H1, Ex H H1 → P v H1 → D.nx σ (upd H1 a (.dK (putK kvs k v)))) : sDPut td ty tv D σ H :=
  hv H (Evl.Ex.refl H) _ fun v H1 e1 p => hd H1 e1 _ fun H2 e2 => hk H2 (e1.trans e2) _ fun H3 e3 =>
    have e := (e1.trans e2).trans e3
    ⟨a, _, rfl, DPut.k (e a _ ha) (sz_lt hl), q v H3 e (mo v H1 H3 (e2.trans e3) p)⟩
theorem q_dputK {a : Addr} {kvs : List (L2.Key × V)} {k : L2.Key} (hv : EvP tv σ H P) (hd : Ev td σ H (.ref a)) (hk : Ev ty σ H (kV k)) (ha : H a = some (.dK kvs)) (hl : kvs.length < 100000) (mo : ∀ v H1 H2, Ex H1 H2 → P v H1 → P v H2)
    (q : ∀ v H1, Ex H H1 → P v H1 → tz D σ (upd H1 a (.dK (putK kvs k v)))) : tSeq (sDPut td ty tv) tz D σ H := s_dputK (D := { D with nx := tz D }) hv hd hk ha hl mo q
theorem mo_dp {d : PyData} : ∀ v H1 H2, Ex H1 H2 → DP K d v H1 → DP K d v H2 := fun _ _ _ e p => dp_ex e p
theorem mo_dp' {d : PyData} : ∀ v H1 H2, Ex H1 H2 → Dp K H1 v d → Dp K H2 v d := fun _ _ _ e p => dp_ex e p
/-- d[k], k an int or a text -/
theorem ep_dgetK {a : Addr} {kvs : List (L2.Key × V)} {k : L2.Key} (hd : Ev td σ H (.ref a)) (hk : Ev ty σ H (kV k)) (ha : H a = some (.dK kvs)) (hv : valV kvs k = some v) (hp : ∀ H1, Ex H H1 → P v H1) : EvP (tDGet td ty) σ H P := fun H1 e1 Q q =>
  hd H1 e1 _ fun H2 e2 => hk H2 (e1.trans e2) _ fun H3 e3 =>
    have e := (e1.trans e2).trans e3
    ⟨a, v, rfl, hv ▸ DGet.k (e a _ ha), q v H3 (e2.trans e3) (hp H3 e)⟩
theorem ev_dgetK {a : Addr} {kvs : List (L2.Key × V)} {k : L2.Key} (hd : Ev td σ H (.ref a)) (hk : Ev ty σ H (kV k)) (ha : H a = some (.dK kvs)) (hv : valV kvs k = some v) : Ev (tDGet td ty) σ H v := fun H1 e1 Q q =>
  hd H1 e1 _ fun H2 e2 => hk H2 (e1.trans e2) _ fun H3 e3 =>
    have e := (e1.trans e2).trans e3
    ⟨a, v, rfl, hv ▸ DGet.k (e a _ ha), q H3 (e2.trans e3)⟩
/-! ### attributes -/
theorem ep_fld {a C dx : Addr} {fs : List (Str × V)} {f : Str} (ho : Ev ta σ H (.ref a)) (ha : H a = some (.ins C dx fs)) (hc : Cls K C) (hn : NoAttr K C f) (hl : fs.lookup f = some v) (hp : ∀ H1, Ex H H1 → P v H1) : EvP (tFld K ta f) σ H P := fun H1 e1 Q q =>
  ho H1 e1 _ fun H2 e2 => ⟨a, C, dx, fs, v, rfl, (e1.trans e2) a _ ha, hc, hn, hl, q v H2 e2 (hp H2 (e1.trans e2))⟩
theorem ev_fld {a C dx : Addr} {fs : List (Str × V)} {f : Str} (ho : Ev ta σ H (.ref a)) (ha : H a = some (.ins C dx fs)) (hc : Cls K C) (hn : NoAttr K C f) (hl : fs.lookup f = some v) : Ev (tFld K ta f) σ H v := fun H1 e1 Q q =>
  ho H1 e1 _ fun H2 e2 => ⟨a, C, dx, fs, v, rfl, (e1.trans e2) a _ ha, hc, hn, hl, q H2 e2⟩
theorem s_setF {a C dx : Addr} {fs : List (Str × V)} {f : Str} (hv : EvP tv σ H P) (ho : Ev ta σ H (.ref a)) (ha : H a = some (.ins C dx fs)) (hc : Cls K C) (hn : NoAttr K C f) (hl : fs.length < 1000) (mo : ∀ v H1 H2, Ex H1 H2 → P v H1 → P v H2)
    (q : ∀ v H1, Ex H H1 → P v H1 → D.nx σ (upd H1 a (.ins C dx (putF f v fs)))) : sFld K ta tv f D σ H :=
  hv H (Evl.Ex.refl H) _ fun v H1 e1 p => ho H1 e1 _ fun H2 e2 => ⟨a, C, dx, fs, rfl, (e1.trans e2) a _ ha, hc, hn, hl, q v H2 (e1.trans e2) (mo v H1 H2 e2 p)⟩
theorem q_setF {a C dx : Addr} {fs : List (Str × V)} {f : Str} (hv : EvP tv σ H P) (ho : Ev ta σ H (.ref a)) (ha : H a = some (.ins C dx fs)) (hc : Cls K C) (hn : NoAttr K C f) (hl : fs.length < 1000) (mo : ∀ v H1 H2, Ex H1 H2 → P v H1 → P v H2)
    (q : ∀ v H1, Ex H H1 → P v H1 → tz D σ (upd H1 a (.ins C dx (putF f v fs)))) : tSeq (sFld K ta tv f) tz D σ H := s_setF (D := { D with nx := tz D }) hv ho ha hc hn hl mo q
/-! ### slots -/
theorem q_set {i : Nat} (h : te σ H (fun v H1 => tz D (σ.set i (some v)) H1)) : tSeq (tAsg te (gName i)) tz D σ H := h
def rTupS (K : PySem.W.Frag) : List V → Hp → VK → Prop := fun xs H Q => ∃ p ys, xs = [.ref p] ∧ ((SqL K H p ys ∧ ∀ l, H l = none → Q (.ref l) (upd H l (.tup ys))) ∨ (SqT K H p ys ∧ Q (.ref p) H))
/-! ### comprehensions over typed lists -/
theorem outs_list {α : Type} (l : List α) (h : α → PyData) : outs (l.map h).length (fun _ => true) (fun i => (l.map h).getD i .none) = l.map h := by
  rw [outs_all]
  refine List.ext_getElem? fun i => ?_
  rw [List.getElem?_map]
  by_cases c : i < (l.map h).length
  · rw [List.getElem?_range c, List.getElem?_eq_getElem c]
    show some ((l.map h).getD i .none) = _
    rw [List.getD_eq_getElem?_getD, List.getElem?_eq_getElem c]
    rfl
  · rw [List.getElem?_eq_none (by rw [List.length_range]; omega), List.getElem?_eq_none (by omega)]
    rfl
theorem ep_lcG {α : Type} {l : List α} {f h : α → PyData} {vs : List Nat} (hl : EvP tl σ H (DP K (.list (l.map f)))) (hz : l.length ≤ 40000) (hno : ∀ a ∈ l, noL (h a) = true)
    (hg : ∀ a x H1, a ∈ l → Ex H H1 → Dp K H1 x (f a) → ∃ σ2, wipe σ2 vs = wipe σ vs ∧ (∀ (H2 : Hp) (Q : L2.St → Hp → Prop), Ex H1 H2 → Q σ2 H2 → g x (wipe σ vs) H2 Q) ∧ EvP te σ2 H1 (DP K (h a))) :
    EvP (tLc (iList K tl) g tYes te vs) σ H (NewL K H (l.map h)) := by
  have el : (l.map f).length = (l.map h).length := by rw [List.length_map, List.length_map]
  have hget : ∀ {i : Nat} {a : α}, l[i]? = some a → (l.map h).getD i .none = h a := fun {i a} e => by
    rw [List.getD_eq_getElem?_getD, List.getElem?_map, e]
    rfl
  have q := ep_lcL (K := K) (σ := σ) (H := H) (tl := tl) (g := g) (te := te) (t := tYes) (vs := vs) (ds := l.map f) (fun _ => true) (fun i => (l.map h).getD i .none) hl (by rw [List.length_map]; exact hz) (fun j hj _ => by
      have hj' : j < l.length := by rwa [List.length_map] at hj
      rw [hget (List.getElem?_eq_getElem hj')]
      exact hno _ (List.getElem_mem hj')) (fun i d x H1 e1 hd hx => by
      rw [List.getElem?_map] at hd
      obtain ⟨a, ha, rfl⟩ := Option.map_eq_some_iff.mp hd
      obtain ⟨σ2, w1, w2, w3⟩ := hg a x H1 (List.mem_of_getElem? ha) e1 hx
      exact ⟨σ2, w1, w2, et_yes, fun _ => by rw [hget ha]; exact w3⟩)
  rw [el, outs_list] at q
  exact q
/-- [e for x in l] -/
theorem ep_lcM {α : Type} {l : List α} {f h : α → PyData} {vs : List Nat} {j : Nat} (hl : EvP tl σ H (DP K (.list (l.map f)))) (hz : l.length ≤ 40000) (hno : ∀ a ∈ l, noL (h a) = true) (hw : ∀ x, wipe ((wipe σ vs).set j (some x)) vs = wipe σ vs)
    (he : ∀ a x H1, a ∈ l → Ex H H1 → Dp K H1 x (f a) → EvP te ((wipe σ vs).set j (some x)) H1 (DP K (h a))) :
    EvP (tLc (iList K tl) (gName j) tYes te vs) σ H (NewL K H (l.map h)) :=
  ep_lcG hl hz hno fun a x H1 ha e1 hx => ⟨_, hw x, fun H2 Q _ q => q, he a x H1 ha e1 hx⟩
theorem ep_sortM {α : Type} {l : List α} {f : α → PyData} (h : EvP te σ H (DP K (.list (l.map f)))) (hs : SortOk (l.map f)) : EvP (tCB (rSortD K) (tCons te tNil)) σ H (NewL K H ((l.mergeSort (PySem.W.dataLe false f)).map f)) := by
  have q := ep_sortD h hs
  rw [← show (l.mergeSort (PySem.W.dataLe false f)).map f = sortD (l.map f) from PySem.W.sort_maps f fun _ _ _ _ => rfl] at q
  exact q
theorem EvP.len {r : List PyData} (h : EvP te σ H (NewL K H0 r)) : EvP te σ H (DP K (.list r)) := h.newDp
end
end L2.Tw
set_option Elab.async false
set_option linter.all false
set_option maxRecDepth 100000
set_option maxHeartbeats 4000000
set_option autoImplicit false
namespace L2.Tw
open PySem PyProof.Rows
/-! ### data that are alike: == is =, their order is total -/
mutual
theorem eqv_eq : ∀ (d e : PyData), PySem.W.alike d e = true → PyData.eqv d e = true → d = e
  | .none, e, h, q => by cases e <;> simp_all [PySem.W.alike]
  | .bool a, e, h, q => by cases e <;> simp_all [PySem.W.alike, PyData.eqv]
  | .int a, e, h, q => by cases e <;> simp_all [PySem.W.alike, PyData.eqv]
  | .str a, e, h, q => by cases e <;> simp_all [PySem.W.alike, PyData.eqv]
  | .list xs, e, h, q => by
    cases e with
    | list ys =>
      have h' : PySem.W.alikeAll xs ys = true := by simpa [PySem.W.alike] using h
      have q' : PyData.eqvAll xs ys = true := by simpa [PyData.eqv] using q
      rw [eqvAll_eq' xs ys h' q']
    | _ => simp [PySem.W.alike] at h
  | .tuple xs, e, h, q => by
    cases e with
    | tuple ys =>
      have h' : PySem.W.alikeAll xs ys = true := by simpa [PySem.W.alike] using h
      have q' : PyData.eqvAll xs ys = true := by simpa [PyData.eqv] using q
      rw [eqvAll_eq' xs ys h' q']
    | _ => simp [PySem.W.alike] at h
  | .dict _, e, h, q => by cases e <;> simp_all [PySem.W.alike]
theorem eqvAll_eq' : ∀ (xs ys : List PyData), PySem.W.alikeAll xs ys = true → PyData.eqvAll xs ys = true → xs = ys
  | [], ys, h, q => by cases ys <;> simp_all [PyData.eqvAll]
  | x :: xs, ys, h, q => by
    cases ys with
    | nil => simp [PyData.eqvAll] at q
    | cons y ys =>
      obtain ⟨h1, h2⟩ := PySem.W.alike_all_cons h
      rw [PySem.W.eqv_all_cons, Bool.and_eq_true] at q
      rw [eqv_eq x y h1 q.1, eqvAll_eq' xs ys h2 q.2]
end
mutual
theorem alikeAll_self : ∀ xs : List PyData, PyData.plainAll xs = true → PySem.W.alikeAll xs xs = true
  | [], _ => by simp [PySem.W.alikeAll]
  | x :: xs, p => by
    rw [PyData.plainAll, Bool.and_eq_true] at p
    rw [PySem.W.alikeAll, Bool.and_eq_true]
    exact ⟨alike_self x p.1, alikeAll_self xs p.2⟩
theorem alike_self : ∀ d : PyData, d.plain = true → PySem.W.alike d d = true
  | .none, _ => rfl
  | .bool a, _ => rfl
  | .int a, _ => rfl
  | .str a, _ => rfl
  | .list xs, p => by
    rw [PySem.W.alike]
    exact alikeAll_self xs (by simpa [PyData.plain] using p)
  | .tuple xs, p => by
    rw [PySem.W.alike]
    exact alikeAll_self xs (by simpa [PyData.plain] using p)
  | .dict _, p => by simp [PyData.plain] at p
end
theorem eqv_iff {d e : PyData} (h : PySem.W.alike d e = true) (p : d.plain = true) : PyData.eqv d e = true ↔ d = e := by
  constructor
  · exact eqv_eq d e h
  · intro q
    subst q
    exact SeqAt.eqv_refl_plain d p
theorem eqv_dec {d e : PyData} [Decidable (d = e)] (h : PySem.W.alike d e = true) (p : d.plain = true) : PyData.eqv d e = decide (d = e) := by
  by_cases q : d = e
  · rw [(eqv_iff h p).mpr q, decide_eq_true q]
  · rw [decide_eq_false q]
    cases c : PyData.eqv d e with
    | false => rfl
    | true => exact absurd ((eqv_iff h p).mp c) q
theorem toks_inj {d e : PyData} (h : PySem.W.alike d e = true) (q : PySem.W.keyToks d = PySem.W.keyToks e) : d = e := by
  cases c : PyData.eqv d e with
  | true => exact eqv_eq d e h c
  | false =>
    have t := (PySem.W.toks_eqv d e h).2 c [.inl 0] [.inl 1]
    rw [q, PySem.W.lex_pre, PyProof.Rows.lex_irrefl] at t
    exact absurd t (by decide)
abbrev dle : PyData → PyData → Bool := PySem.W.dataLe false fun d => d
theorem dle_eq (a b : PyData) : dle a b = !PySem.W.dataLt b a := rfl
theorem dle_total : PySem.W.TotalLe dle := PySem.W.sortLe_total _ false _
theorem dle_anti {a b : PyData} (h : PySem.W.alike a b = true) (h1 : dle a b = true) (h2 : dle b a = true) : a = b := by
  have e1 : PySem.W.dataLt b a = false := by simpa [dle_eq] using h1
  have e2 : PySem.W.dataLt a b = false := by simpa [dle_eq] using h2
  exact toks_inj h (PyProof.Rows.lex_total (O := itemOrd) _ _ e2 e1)
theorem sortD_perm (ds : List PyData) : (sortD ds).Perm ds := List.mergeSort_perm ds dle
theorem sortD_sorted (ds : List PyData) : (sortD ds).Pairwise (fun a b => dle a b = true) := PySem.W.sort_pairwise dle_total ds
theorem sortD_of_perm {ds es : List PyData} (h : ds.Perm es) (ha : PySem.W.AllAlike ds) : sortD ds = sortD es := by
  refine List.Perm.eq_of_pairwise (le := fun a b => dle a b = true) (fun a b hma hmb h1 h2 => dle_anti (ha a ?_ b ?_) h1 h2) (sortD_sorted ds) (sortD_sorted es) ((sortD_perm ds).trans (h.trans (sortD_perm es).symm))
  · exact (sortD_perm ds).mem_iff.mp hma
  · exact h.mem_iff.mpr ((sortD_perm es).mem_iff.mp hmb)
theorem sortD_length (ds : List PyData) : (sortD ds).length = ds.length := (sortD_perm ds).length_eq

/-! ### lists of data -/
theorem plainAll_iff {ds : List PyData} : PyData.plainAll ds = true ↔ ∀ d ∈ ds, d.plain = true := by
  induction ds with
  | nil => simp [PyData.plainAll]
  | cons d ds ih => simp [PyData.plainAll, ih]
theorem depthAll_le {ds : List PyData} {n : Nat} : PyData.depthAll ds ≤ n ↔ ∀ d ∈ ds, d.depth ≤ n := by
  induction ds with
  | nil => simp [PyData.depthAll]
  | cons d ds ih =>
    rw [PyData.depthAll]
    simp only [List.mem_cons, forall_eq_or_imp, ← ih]
    omega
theorem alikeAll_of {ds es : List PyData} (h : ∀ d ∈ ds, ∀ e ∈ es, PySem.W.alike d e = true) : PySem.W.alikeAll ds es = true := by
  induction ds generalizing es with
  | nil => simp [PySem.W.alikeAll]
  | cons d ds ih =>
    cases es with
    | nil => simp [PySem.W.alikeAll]
    | cons e es =>
      rw [PySem.W.alikeAll, Bool.and_eq_true]
      exact ⟨h d List.mem_cons_self e List.mem_cons_self, ih fun a ha b hb => h a (List.mem_cons_of_mem _ ha) b (List.mem_cons_of_mem _ hb)⟩
/-- plain, at most n deep -/
def Pd (n : Nat) (d : PyData) : Prop := d.plain = true ∧ d.depth ≤ n
theorem Pd.up {n m : Nat} {d : PyData} (h : Pd n d) (l : n ≤ m := by omega) : Pd m d := ⟨h.1, Nat.le_trans h.2 l⟩
theorem Pd.pl {n : Nat} {d : PyData} (h : Pd n d) (l : n ≤ 40 := by decide) : PlainD d := ⟨h.1, Nat.le_trans h.2 l⟩
theorem pd_int (i : Int) : Pd 0 (.int i) := ⟨rfl, by simp [PyData.depth]⟩
theorem pd_str (i : Str) : Pd 0 (.str i) := ⟨rfl, by simp [PyData.depth]⟩
theorem pd_bl (i : Bool) : Pd 0 (.bool i) := ⟨rfl, by simp [PyData.depth]⟩
theorem pd_list {n : Nat} {ds : List PyData} (h : ∀ d ∈ ds, Pd n d) : Pd (n + 1) (.list ds) := by
  refine ⟨?_, ?_⟩
  · rw [PyData.plain]
    exact plainAll_iff.mpr fun d hd => (h d hd).1
  · rw [PyData.depth]
    have := depthAll_le.mpr fun d hd => (h d hd).2
    omega
theorem pd_tuple {n : Nat} {ds : List PyData} (h : ∀ d ∈ ds, Pd n d) : Pd (n + 1) (.tuple ds) := by
  refine ⟨?_, ?_⟩
  · rw [PyData.plain]
    exact plainAll_iff.mpr fun d hd => (h d hd).1
  · rw [PyData.depth]
    have := depthAll_le.mpr fun d hd => (h d hd).2
    omega
theorem allPl {n : Nat} {ds : List PyData} (h : ∀ d ∈ ds, Pd n d) (l : n ≤ 40 := by decide) : AllPl ds :=
  ⟨plainAll_iff.mpr fun d hd => (h d hd).1, depthAll_le.mpr fun d hd => Nat.le_trans (h d hd).2 l⟩

/-! ### ranks: the place of a value among the unlike ones, sorted -/
def stepU (un : List PyData) (d : PyData) : List PyData := match un.getLast? with
  | none => [d]
  | some l => if PyData.eqv l d = true then un else un ++ [d]
def unlike (ds : List PyData) : List PyData := (sortD ds).foldl stepU []
theorem stepU_mem {un : List PyData} {d e : PyData} (p : e ∈ stepU un d) : e ∈ un ∨ e = d := by
  unfold stepU at p
  cases h : un.getLast? with
  | none =>
    rw [h] at p
    exact .inr (by simpa using p)
  | some l =>
    rw [h] at p
    dsimp only at p
    split at p
    · exact .inl p
    · rcases List.mem_append.mp p with q | q
      · exact .inl q
      · exact .inr (by simpa using q)
/-- what a fold has: strictly rising, the same values -/
structure Uq (ds un : List PyData) : Prop where
  sub : ∀ d ∈ un, d ∈ ds
  all : ∀ d ∈ ds, d ∈ un
  rise : un.Pairwise fun a b => dle a b = true ∧ a ≠ b
  last : ∀ d ∈ ds, ∀ l, un.getLast? = some l → dle d l = true
theorem getLast_snoc (un : List PyData) (d : PyData) : (un ++ [d]).getLast? = some d := by simp
theorem uq_step {ds un : List PyData} {d : PyData} (u : Uq ds un) (hs : ∀ e ∈ ds, dle e d = true) (ha : ∀ e ∈ ds, PySem.W.alike e d = true) (hp : ∀ e ∈ ds, e.plain = true) : Uq (ds ++ [d]) (stepU un d) := by
  unfold stepU
  cases h : un.getLast? with
  | none =>
    have e0 : un = [] := List.getLast?_eq_none_iff.mp h
    have e1 : ds = [] := by
      cases ds with
      | nil => rfl
      | cons x r =>
        have := u.all x List.mem_cons_self
        rw [e0] at this
        cases this
    subst e0 e1
    exact ⟨by simp, by simp, by simp, fun e he l hl => by
      have h1 : e = d := by simpa using he
      have h2 : d = l := by simpa using hl
      rw [h1, ← h2]
      exact dle_total.refl d⟩
  | some l =>
    dsimp only
    have hl : l ∈ un := List.mem_of_getLast? h
    have hld := u.sub l hl
    by_cases q : PyData.eqv l d = true
    · rw [if_pos q]
      have e := eqv_eq l d (ha l hld) q
      subst e
      exact ⟨fun e he => List.mem_append_left _ (u.sub e he), fun e he => by
        rcases List.mem_append.mp he with z | z
        · exact u.all e z
        · have : e = l := by simpa using z
          rw [this]
          exact hl, u.rise, fun e he l' hl' => by
        rw [h] at hl'
        cases hl'
        rcases List.mem_append.mp he with z | z
        · exact hs e z
        · have : e = l := by simpa using z
          rw [this]
          exact dle_total.refl l⟩
    · rw [if_neg q]
      refine ⟨fun e he => ?_, fun e he => ?_, ?_, fun e he l' hl' => ?_⟩
      · rcases List.mem_append.mp he with z | z
        · exact List.mem_append_left _ (u.sub e z)
        · exact List.mem_append_right _ z
      · rcases List.mem_append.mp he with z | z
        · exact List.mem_append_left _ (u.all e z)
        · exact List.mem_append_right _ z
      · rw [List.pairwise_append]
        refine ⟨u.rise, by simp, fun a ha' b hb => ?_⟩
        have eb : b = d := by simpa using hb
        subst eb
        refine ⟨hs a (u.sub a ha'), fun e => ?_⟩
        subst e
        have h1 := u.last a (u.sub a ha') l h
        have h2 := hs l hld
        have e3 := dle_anti (ha l hld) h2 h1
        rw [e3] at q
        exact q (SeqAt.eqv_refl_plain a (hp a (u.sub a ha')))
      · rw [getLast_snoc] at hl'
        cases hl'
        rcases List.mem_append.mp he with z | z
        · exact hs e z
        · have : e = d := by simpa using z
          rw [this]
          exact dle_total.refl d
theorem uq_fold : ∀ (ds pre un : List PyData), Uq pre un → (pre ++ ds).Pairwise (fun a b => dle a b = true) → (∀ e ∈ pre ++ ds, ∀ f ∈ pre ++ ds, PySem.W.alike e f = true) → (∀ e ∈ pre ++ ds, e.plain = true) → Uq (pre ++ ds) (ds.foldl stepU un)
  | [], pre, un, u, _, _, _ => by rw [List.append_nil]; exact u
  | d :: ds, pre, un, u, hs, ha, hp => by
    have e : pre ++ d :: ds = (pre ++ [d]) ++ ds := by simp
    rw [e] at hs ha hp ⊢
    refine uq_fold ds (pre ++ [d]) (stepU un d) (uq_step u (fun x hx => ?_) (fun x hx => ?_) (fun x hx => ?_)) hs ha hp
    · have := (List.pairwise_append.mp ((List.pairwise_append.mp hs).1)).2.2
      exact this x hx d (by simp)
    · exact ha x (by simp [hx]) d (by simp)
    · exact hp x (by simp [hx])
theorem uq_unlike {ds : List PyData} (ha : PySem.W.AllAlike ds) (hp : ∀ e ∈ ds, e.plain = true) : Uq ds (unlike ds) := by
  have m := sortD_perm ds
  have u := uq_fold (sortD ds) [] [] ⟨by simp, by simp, by simp, by simp⟩ (by simpa using sortD_sorted ds) (fun e he f hf => ha e (m.mem_iff.mp (by simpa using he)) f (m.mem_iff.mp (by simpa using hf))) (fun e he => hp e (m.mem_iff.mp (by simpa using he)))
  have u' : Uq (sortD ds) (unlike ds) := u
  exact ⟨fun d hd => m.mem_iff.mp (u'.sub d hd), fun d hd => u'.all d (m.mem_iff.mpr hd), u'.rise, fun d hd => u'.last d (m.mem_iff.mpr hd)⟩
theorem unlike_perm {ds es : List PyData} (h : ds.Perm es) (ha : PySem.W.AllAlike ds) : unlike ds = unlike es := by
  unfold unlike
  rw [sortD_of_perm h ha]
/-- the rank of a value -/
def rk (un : List PyData) (d : PyData) : Nat := (SeqAt.dataPlace un d).getD 0
theorem place_of {ds un : List PyData} {d : PyData} (u : Uq ds un) (ha : PySem.W.AllAlike ds) (hp : ∀ e ∈ ds, e.plain = true) (hd : d ∈ ds) : ∃ i, SeqAt.dataPlace un d = some i ∧ un[i]? = some d := by
  obtain ⟨i, hi, e⟩ := List.mem_iff_getElem.mp (u.all d hd)
  unfold SeqAt.dataPlace
  cases h : un.findIdx? fun y => PyData.eqv y d with
  | none =>
    have := List.findIdx?_eq_none_iff.mp h d (u.all d hd)
    rw [SeqAt.eqv_refl_plain d (hp d hd)] at this
    cases this
  | some j =>
    obtain ⟨h1, h2, h3⟩ := List.findIdx?_eq_some_iff_getElem.mp h
    refine ⟨j, rfl, ?_⟩
    have h4 := eqv_eq un[j] d (ha _ (u.sub _ (List.getElem_mem h1)) _ hd) h2
    rw [List.getElem?_eq_getElem h1, h4]
section
variable {ds un : List PyData} {d e : PyData}
theorem rk_at (u : Uq ds un) (ha : PySem.W.AllAlike ds) (hp : ∀ e ∈ ds, e.plain = true) (hd : d ∈ ds) : SeqAt.dataPlace un d = some (rk un d) ∧ un[rk un d]? = some d := by
  obtain ⟨i, h1, h2⟩ := place_of u ha hp hd
  have e : rk un d = i := by
    unfold rk
    rw [h1]
    rfl
  rw [e]
  exact ⟨h1, h2⟩
theorem rk_inj (u : Uq ds un) (ha : PySem.W.AllAlike ds) (hp : ∀ e ∈ ds, e.plain = true) (hd : d ∈ ds) (he : e ∈ ds) (h : rk un d = rk un e) : d = e := by
  have h1 := (rk_at u ha hp hd).2
  have h2 := (rk_at u ha hp he).2
  rw [h, h2] at h1
  exact (Option.some.inj h1).symm
theorem rk_of_get (u : Uq ds un) (ha : PySem.W.AllAlike ds) (hp : ∀ e ∈ ds, e.plain = true) {i : Nat} (h : un[i]? = some d) : rk un d = i := by
  have hm : d ∈ un := List.mem_of_getElem? h
  have h1 := (rk_at u ha hp (u.sub d hm)).2
  obtain ⟨g1, g2⟩ := List.getElem?_eq_some_iff.mp h
  obtain ⟨g3, g4⟩ := List.getElem?_eq_some_iff.mp h1
  rcases Nat.lt_trichotomy (rk un d) i with l | l | l
  · exact absurd (g4.trans g2.symm) ((List.pairwise_iff_getElem.mp u.rise _ _ g3 g1 l).2)
  · exact l
  · exact absurd (g2.trans g4.symm) ((List.pairwise_iff_getElem.mp u.rise _ _ g1 g3 l).2)
/-- less means less -/
theorem rk_lt (u : Uq ds un) (ha : PySem.W.AllAlike ds) (hp : ∀ e ∈ ds, e.plain = true) (hd : d ∈ ds) (he : e ∈ ds) (h : dle d e = true) (hne : d ≠ e) : rk un d < rk un e := by
  obtain ⟨g1, g2⟩ := List.getElem?_eq_some_iff.mp (rk_at u ha hp hd).2
  obtain ⟨g3, g4⟩ := List.getElem?_eq_some_iff.mp (rk_at u ha hp he).2
  rcases Nat.lt_trichotomy (rk un d) (rk un e) with l | l | l
  · exact l
  · exact absurd (rk_inj u ha hp hd he l) hne
  · have q := (List.pairwise_iff_getElem.mp u.rise _ _ g3 g1 l).1
    rw [g4, g2] at q
    exact absurd (dle_anti (ha d hd e he) h q) hne
/-- each rank below one is a value's -/
theorem rk_dense (u : Uq ds un) (ha : PySem.W.AllAlike ds) (hp : ∀ e ∈ ds, e.plain = true) (hd : d ∈ ds) {t : Nat} (h : t < rk un d) : ∃ e ∈ ds, rk un e = t := by
  obtain ⟨g1, _⟩ := List.getElem?_eq_some_iff.mp (rk_at u ha hp hd).2
  have h2 : t < un.length := Nat.lt_trans h g1
  exact ⟨un[t], u.sub _ (List.getElem_mem h2), rk_of_get u ha hp (List.getElem?_eq_getElem h2)⟩
end
/-- ranked -/
def rankL (ds : List PyData) : List Nat := ds.map (rk (unlike ds))
theorem rankL_length (ds : List PyData) : (rankL ds).length = ds.length := by simp [rankL]
end L2.Tw
set_option Elab.async false
set_option linter.all false
set_option maxRecDepth 100000
set_option maxHeartbeats 4000000
set_option autoImplicit false
namespace L2.Tw
open PySem PyProof.Rows
/-! ### webs as data -/
structure Tie where
  a : Nat
  b : Nat
  k : Int
  o : Bool
  deriving DecidableEq
structure Wb where
  kinds : List Str
  ties : List Tie
abbrev Wb.n (W : Wb) : Nat := W.kinds.length
abbrev Pair := Int × Int
def pairD (p : Pair) : PyData := .tuple [.int p.1, .int p.2]
def pairsD (ps : List Pair) : PyData := .tuple (ps.map pairD)
def tieD (t : Tie) : PyData := .tuple [.int t.a, .int t.b, .int t.k, .bool t.o]
def kindOf (W : Wb) (i : Nat) : Str := W.kinds.getD i Str.empty
theorem pairD_inj {p q : Pair} (h : pairD p = pairD q) : p = q := by
  obtain ⟨a, b⟩ := p
  obtain ⟨c, d⟩ := q
  simp only [pairD, PyData.tuple.injEq, List.cons.injEq, PyData.int.injEq, and_true] at h
  exact Prod.ext h.1 h.2
theorem map_inj {α β : Type} {f : α → β} (hf : ∀ a b, f a = f b → a = b) : ∀ {l m : List α}, l.map f = m.map f → l = m
  | [], [], _ => rfl
  | [], _ :: _, h => by simp at h
  | _ :: _, [], h => by simp at h
  | a :: l, b :: m, h => by
    rw [List.map_cons, List.map_cons, List.cons.injEq] at h
    rw [hf a b h.1, map_inj hf h.2]
theorem pairsD_inj {p q : List Pair} (h : pairsD p = pairsD q) : p = q := by
  simp only [pairsD, PyData.tuple.injEq] at h
  exact map_inj (fun _ _ => pairD_inj) h
theorem tieD_inj {p q : Tie} (h : tieD p = tieD q) : p = q := by
  obtain ⟨a, b, k, o⟩ := p
  obtain ⟨c, d, l, u⟩ := q
  simp only [tieD, PyData.tuple.injEq, List.cons.injEq, PyData.int.injEq, PyData.bool.injEq, and_true] at h
  obtain ⟨h1, h2, h3, h4⟩ := h
  have e1 : a = c := by omega
  have e2 : b = d := by omega
  subst e1 e2 h3 h4
  rfl
theorem pd_pair (p : Pair) : Pd 1 (pairD p) := pd_tuple (by simp [pd_int])
theorem pd_map {α : Type} {f : α → PyData} {n : Nat} (h : ∀ a, Pd n (f a)) (l : List α) : ∀ d ∈ l.map f, Pd n d := fun d hd => by
  obtain ⟨a, _, rfl⟩ := List.mem_map.mp hd
  exact h a
theorem pd_pairs (ps : List Pair) : Pd 2 (pairsD ps) := pd_tuple (pd_map pd_pair ps)
theorem pd_tie (t : Tie) : Pd 1 (tieD t) := pd_tuple (by simp [pd_int, pd_bl])
theorem al_pair (p q : Pair) : PySem.W.alike (pairD p) (pairD q) = true := by simp [pairD, PySem.W.alike, PySem.W.alikeAll]
theorem al_tie (p q : Tie) : PySem.W.alike (tieD p) (tieD q) = true := by simp [tieD, PySem.W.alike, PySem.W.alikeAll]
theorem al_map {α : Type} {f : α → PyData} (h : ∀ a b, PySem.W.alike (f a) (f b) = true) (l m : List α) : PySem.W.alikeAll (l.map f) (m.map f) = true :=
  alikeAll_of fun d hd e he => by
    obtain ⟨a, _, rfl⟩ := List.mem_map.mp hd
    obtain ⟨b, _, rfl⟩ := List.mem_map.mp he
    exact h a b
theorem al_pairs (p q : List Pair) : PySem.W.alike (pairsD p) (pairsD q) = true := by
  rw [pairsD, pairsD, PySem.W.alike]
  exact al_map al_pair p q
theorem allAlike_map {α : Type} {f : α → PyData} (h : ∀ a b, PySem.W.alike (f a) (f b) = true) (l : List α) : PySem.W.AllAlike (l.map f) := PySem.W.AllAlike.of h
/-! ### sorting in a type of one's own -/
def sortBy {α : Type} (f : α → PyData) (l : List α) : List α := l.mergeSort (PySem.W.dataLe false f)
theorem sortBy_map {α : Type} (f : α → PyData) (l : List α) : (sortBy f l).map f = sortD (l.map f) := PySem.W.sort_maps f fun _ _ _ _ => rfl
theorem sortBy_perm {α : Type} (f : α → PyData) (l : List α) : (sortBy f l).Perm l := List.mergeSort_perm l _
theorem sortBy_of_perm {α : Type} {f : α → PyData} (hf : ∀ a b, f a = f b → a = b) (ha : ∀ a b, PySem.W.alike (f a) (f b) = true) {l m : List α} (h : l.Perm m) : sortBy f l = sortBy f m := by
  refine map_inj hf ?_
  rw [sortBy_map, sortBy_map]
  exact sortD_of_perm (h.map f) (allAlike_map ha l)
abbrev sortP : List Pair → List Pair := sortBy pairD
theorem sortP_of_perm {l m : List Pair} (h : l.Perm m) : sortP l = sortP m := sortBy_of_perm (fun _ _ => pairD_inj) al_pair h
/-! ### what lies between two places -/
def tieAt (i j : Nat) (t : Tie) : Option Pair := if t.a = i ∧ t.b = j then some (t.k, if t.o then 1 else 0) else if t.b = i ∧ t.a = j then some (t.k, if t.o then 2 else 0) else none
def raw (W : Wb) (i j : Nat) : List Pair := W.ties.filterMap (tieAt i j)
def bt (W : Wb) (i j : Nat) : List Pair := sortP (raw W i j)
def flipP (p : Pair) : Pair := (p.1, if p.2 = 1 then 2 else if p.2 = 2 then 1 else p.2)
def fl (ps : List Pair) : List Pair := sortP (ps.map flipP)
theorem tieAt_flip {i j : Nat} (h : i ≠ j) (t : Tie) : tieAt j i t = (tieAt i j t).map flipP := by
  unfold tieAt
  by_cases c1 : t.a = i ∧ t.b = j
  · have c2 : ¬ (t.a = j ∧ t.b = i) := by omega
    have c3 : t.b = j ∧ t.a = i := ⟨c1.2, c1.1⟩
    rw [if_neg c2, if_pos c3, if_pos c1]
    cases t.o <;> rfl
  · by_cases c2 : t.b = i ∧ t.a = j
    · have c3 : t.a = j ∧ t.b = i := ⟨c2.2, c2.1⟩
      rw [if_pos c3, if_neg c1, if_pos c2]
      cases t.o <;> rfl
    · have c3 : ¬ (t.a = j ∧ t.b = i) := by omega
      have c4 : ¬ (t.b = j ∧ t.a = i) := by omega
      rw [if_neg c3, if_neg c4, if_neg c1, if_neg c2]
      rfl
theorem raw_flip (W : Wb) {i j : Nat} (h : i ≠ j) : raw W j i = (raw W i j).map flipP := by
  unfold raw
  rw [List.map_filterMap]
  congr 1
  funext t
  exact tieAt_flip h t
theorem bt_flip (W : Wb) {i j : Nat} (h : i ≠ j) : bt W j i = fl (bt W i j) := by
  unfold bt fl
  rw [raw_flip W h]
  exact sortP_of_perm ((sortBy_perm _ _).symm.map flipP)
theorem bt_of_flip {W W' : Wb} {i j i' j' : Nat} (h : i ≠ j) (h' : i' ≠ j') (e : bt W i j = bt W' i' j') : bt W j i = bt W' j' i' := by rw [bt_flip W h, bt_flip W' h', e]
/-! ### partings -/
abbrev g (ps : List Nat) (i : Nat) : Nat := ps.getD i 0
def others (n i : Nat) : List Nat := (List.range n).filter fun j => j != i
def itemD (c : Nat) (ps : List Pair) : PyData := .tuple [.int c, pairsD ps]
def keyD (W : Wb) (ps : List Nat) (i : Nat) : PyData := .tuple [.int (g ps i), .tuple (sortD ((others W.n i).map fun j => itemD (g ps j) (bt W i j)))]
def keysL (W : Wb) (ps : List Nat) : List PyData := (List.range W.n).map (keyD W ps)
def finer (W : Wb) (ps : List Nat) : List Nat := rankL (keysL W ps)
theorem al_item (c c' : Nat) (p p' : List Pair) : PySem.W.alike (itemD c p) (itemD c' p') = true := by simp [itemD, PySem.W.alike, PySem.W.alikeAll, al_pairs]
theorem pd_item (c : Nat) (p : List Pair) : Pd 3 (itemD c p) := pd_tuple (by simp [(pd_int _).up, pd_pairs])
theorem itemD_inj {c c' : Nat} {p p' : List Pair} (h : itemD c p = itemD c' p') : c = c' ∧ p = p' := by
  simp only [itemD, PyData.tuple.injEq, List.cons.injEq, PyData.int.injEq, and_true] at h
  exact ⟨by omega, pairsD_inj h.2⟩
theorem items_al (W : Wb) (ps : List Nat) (i : Nat) : PySem.W.AllAlike ((others W.n i).map fun j => itemD (g ps j) (bt W i j)) := allAlike_map (fun _ _ => al_item _ _ _ _) _
theorem al_key (W : Wb) (ps : List Nat) (i j : Nat) : PySem.W.alike (keyD W ps i) (keyD W ps j) = true := by
  rw [keyD, keyD, PySem.W.alike, PySem.W.alikeAll, PySem.W.alikeAll, PySem.W.alikeAll, Bool.and_true]
  show (true && PySem.W.alike _ _) = true
  rw [Bool.true_and, PySem.W.alike]
  refine alikeAll_of fun d hd e he => ?_
  obtain ⟨a, _, rfl⟩ := List.mem_map.mp ((sortD_perm _).mem_iff.mp hd)
  obtain ⟨b, _, rfl⟩ := List.mem_map.mp ((sortD_perm _).mem_iff.mp he)
  exact al_item _ _ _ _
theorem pd_key (W : Wb) (ps : List Nat) (i : Nat) : Pd 5 (keyD W ps i) := by
  refine pd_tuple fun d hd => ?_
  rcases List.mem_cons.mp hd with e | hd
  · subst e
    exact (pd_int _).up
  · have e : d = .tuple (sortD ((others W.n i).map fun j => itemD (g ps j) (bt W i j))) := by simpa using hd
    subst e
    refine pd_tuple fun d hd => ?_
    obtain ⟨a, _, rfl⟩ := List.mem_map.mp ((sortD_perm _).mem_iff.mp hd)
    exact pd_item _ _
theorem keys_al (W : Wb) (ps : List Nat) : PySem.W.AllAlike (keysL W ps) := allAlike_map (al_key W ps) _
theorem keys_pd (W : Wb) (ps : List Nat) : ∀ d ∈ keysL W ps, Pd 5 d := fun d hd => by
  obtain ⟨a, _, rfl⟩ := List.mem_map.mp hd
  exact pd_key W ps a
theorem keys_pl (W : Wb) (ps : List Nat) : ∀ d ∈ keysL W ps, d.plain = true := fun d hd => (keys_pd W ps d hd).1
theorem keys_uq (W : Wb) (ps : List Nat) : Uq (keysL W ps) (unlike (keysL W ps)) := uq_unlike (keys_al W ps) (keys_pl W ps)
theorem keys_length (W : Wb) (ps : List Nat) : (keysL W ps).length = W.n := by simp [keysL]
theorem finer_length (W : Wb) (ps : List Nat) : (finer W ps).length = W.n := by simp [finer, rankL, keysL]
theorem key_mem {W : Wb} {ps : List Nat} {i : Nat} (h : i < W.n) : keyD W ps i ∈ keysL W ps := List.mem_map.mpr ⟨i, List.mem_range.mpr h, rfl⟩
theorem g_finer {W : Wb} {ps : List Nat} {i : Nat} (h : i < W.n) : g (finer W ps) i = rk (unlike (keysL W ps)) (keyD W ps i) := by
  unfold g finer rankL keysL
  simp [List.getD_eq_getElem?_getD, h]
/-- places with the same finer class have the same key -/
theorem finer_key {W : Wb} {ps : List Nat} {i j : Nat} (hi : i < W.n) (hj : j < W.n) (h : g (finer W ps) i = g (finer W ps) j) : keyD W ps i = keyD W ps j := by
  rw [g_finer hi, g_finer hj] at h
  exact rk_inj (keys_uq W ps) (keys_al W ps) (keys_pl W ps) (key_mem hi) (key_mem hj) h
theorem key_class {W : Wb} {ps : List Nat} {i j : Nat} (h : keyD W ps i = keyD W ps j) : g ps i = g ps j := by
  simp only [keyD, PyData.tuple.injEq, List.cons.injEq, PyData.int.injEq] at h
  omega
theorem key_items {W : Wb} {ps : List Nat} {i j : Nat} (h : keyD W ps i = keyD W ps j) : ((others W.n i).map fun k => itemD (g ps k) (bt W i k)).Perm ((others W.n j).map fun k => itemD (g ps k) (bt W j k)) := by
  simp only [keyD, PyData.tuple.injEq, List.cons.injEq, and_true] at h
  have e := h.2
  exact (sortD_perm _).symm.trans (e ▸ sortD_perm _)
/-- a parting: dense -/
structure Part (W : Wb) (ps : List Nat) : Prop where
  len : ps.length = W.n
  lt : ∀ i, i < W.n → g ps i < W.n
  dense : ∀ i, i < W.n → ∀ t, t < g ps i → ∃ j, j < W.n ∧ g ps j = t
theorem nodup_len {α : Type} : ∀ {l m : List α}, l.Nodup → (∀ x ∈ l, x ∈ m) → l.length ≤ m.length
  | [], _, _, _ => Nat.zero_le _
  | a :: l, m, hn, h => by
    obtain ⟨s, t, e⟩ := List.mem_iff_append.mp (h a List.mem_cons_self)
    subst e
    rw [List.nodup_cons] at hn
    have q := nodup_len (l := l) (m := s ++ t) hn.2 fun x hx => by
      have := h x (List.mem_cons_of_mem _ hx)
      simp only [List.mem_append, List.mem_cons] at this ⊢
      rcases this with z | z | z
      · exact .inl z
      · subst z
        exact absurd hx hn.1
      · exact .inr z
    simp only [List.length_append, List.length_cons] at q ⊢
    omega
theorem rank_lt {ds : List PyData} (ha : PySem.W.AllAlike ds) (hp : ∀ e ∈ ds, e.plain = true) {d : PyData} (hd : d ∈ ds) : rk (unlike ds) d < ds.length := by
  have u := uq_unlike ha hp
  obtain ⟨g1, _⟩ := List.getElem?_eq_some_iff.mp (rk_at u ha hp hd).2
  refine Nat.lt_of_lt_of_le g1 ?_
  have nd : (unlike ds).Nodup := u.rise.imp fun h => h.2
  exact nodup_len nd fun d hd => u.sub d hd
theorem part_rank {W : Wb} {ds : List PyData} (ha : PySem.W.AllAlike ds) (hp : ∀ e ∈ ds, e.plain = true) (hl : ds.length = W.n) : Part W (rankL ds) := by
  have at_ : ∀ i (h : i < ds.length), g (rankL ds) i = rk (unlike ds) ds[i] := fun i h => by
    unfold g rankL
    simp [List.getD_eq_getElem?_getD, h]
  refine ⟨by rw [rankL_length, hl], fun i hi => ?_, fun i hi t ht => ?_⟩
  · have h : i < ds.length := by omega
    rw [at_ i h, ← hl]
    exact rank_lt ha hp (List.getElem_mem h)
  · have h : i < ds.length := by omega
    rw [at_ i h] at ht
    obtain ⟨e, he, q⟩ := rk_dense (uq_unlike ha hp) ha hp (List.getElem_mem h) ht
    obtain ⟨j, hj, rfl⟩ := List.mem_iff_getElem.mp he
    exact ⟨j, by omega, by rw [at_ j hj, q]⟩
theorem part_finer (W : Wb) (ps : List Nat) : Part W (finer W ps) := part_rank (keys_al W ps) (keys_pl W ps) (keys_length W ps)
/-- lexicographic: the class decides -/
theorem key_lt {W : Wb} {ps : List Nat} {i j : Nat} (h : g ps i < g ps j) : dle (keyD W ps i) (keyD W ps j) = true ∧ keyD W ps i ≠ keyD W ps j := by
  refine ⟨?_, fun e => ?_⟩
  · rw [dle_eq, keyD, keyD, PySem.W.dataLt_pair (by simp [PySem.W.alike]) (by
      have := al_key W ps j i
      rw [keyD, keyD, PySem.W.alike, PySem.W.alikeAll, PySem.W.alikeAll, PySem.W.alikeAll, Bool.and_true, Bool.and_eq_true] at this
      exact this.2)]
    have c : PyData.eqv (.int (g ps j : Nat)) (.int (g ps i : Nat)) = false := by
      simp only [PyData.eqv, beq_eq_false_iff_ne, ne_eq]
      omega
    rw [c, if_neg Bool.false_ne_true, PySem.W.dataLt_int]
    simp only [Bool.not_eq_true', decide_eq_false_iff_not]
    omega
  · have := key_class e
    omega
/-- finer rises -/
theorem finer_ge {W : Wb} {ps : List Nat} (p : Part W ps) : ∀ (c i : Nat), i < W.n → g ps i = c → c ≤ g (finer W ps) i
  | 0, _, _, _ => Nat.zero_le _
  | c + 1, i, hi, e => by
    obtain ⟨j, hj, ej⟩ := p.dense i hi c (by omega)
    have ih := finer_ge p c j hj ej
    obtain ⟨h1, h2⟩ := key_lt (W := W) (ps := ps) (i := j) (j := i) (by omega)
    have l := rk_lt (keys_uq W ps) (keys_al W ps) (keys_pl W ps) (key_mem hj) (key_mem hi) h1 h2
    rw [← g_finer hj, ← g_finer hi] at l
    omega
def it {α : Type} (f : α → α) : Nat → α → α
  | 0, a => a
  | k + 1, a => it f k (f a)
theorem it_succ {α : Type} (f : α → α) : ∀ (k : Nat) (a : α), it f (k + 1) a = f (it f k a)
  | 0, _ => rfl
  | k + 1, a => it_succ f k (f a)
theorem it_add {α : Type} (f : α → α) : ∀ (k l : Nat) (a : α), it f (k + l) a = it f l (it f k a)
  | 0, l, a => by rw [Nat.zero_add]; rfl
  | k + 1, l, a => by
    have e : k + 1 + l = (k + l) + 1 := by omega
    rw [e]
    exact it_add f k l (f a)
theorem it_fix {α : Type} {f : α → α} {a : α} (h : f a = a) : ∀ k, it f k a = a
  | 0 => rfl
  | k + 1 => by
    show it f k (f a) = a
    rw [h]
    exact it_fix h k
/-- q is ps made finer until it is told again -/
def Settles (W : Wb) (ps q : List Nat) : Prop := ∃ k, q = it (finer W) k ps ∧ finer W q = q
theorem Settles.uniq {W : Wb} {ps q q' : List Nat} (h : Settles W ps q) (h' : Settles W ps q') : q = q' := by
  obtain ⟨k, e, f⟩ := h
  obtain ⟨l, e', f'⟩ := h'
  rcases Nat.le_total k l with z | z
  · obtain ⟨m, rfl⟩ := Nat.exists_eq_add_of_le z
    rw [it_add, ← e, it_fix f] at e'
    exact e'.symm
  · obtain ⟨m, rfl⟩ := Nat.exists_eq_add_of_le z
    rw [it_add, ← e', it_fix f'] at e
    exact e
theorem part_it {W : Wb} {ps : List Nat} (p : Part W ps) : ∀ k, Part W (it (finer W) k ps)
  | 0 => p
  | k + 1 => part_it (part_finer W ps) k
theorem Settles.part {W : Wb} {ps q : List Nat} (h : Settles W ps q) (p : Part W ps) : Part W q := by
  obtain ⟨k, rfl, _⟩ := h
  exact part_it p k
theorem it_class {W : Wb} {i j : Nat} (hi : i < W.n) (hj : j < W.n) : ∀ (k : Nat) (ps : List Nat), g (it (finer W) k ps) i = g (it (finer W) k ps) j → g ps i = g ps j
  | 0, _, h => h
  | k + 1, ps, h => key_class (finer_key hi hj (it_class hi hj k (finer W ps) h))
theorem Settles.class {W : Wb} {ps q : List Nat} (h : Settles W ps q) {i j : Nat} (hi : i < W.n) (hj : j < W.n) (e : g q i = g q j) : g ps i = g ps j := by
  obtain ⟨k, rfl, _⟩ := h
  exact it_class hi hj k ps e
end L2.Tw
set_option Elab.async false
set_option linter.all false
set_option maxRecDepth 100000
set_option maxHeartbeats 4000000
set_option autoImplicit false
namespace L2.Tw
open PySem PyProof.Rows
/-! ### a web seen by another numbering -/
/-- an order of n places -/
def Ord (n : Nat) (o : List Nat) : Prop := o.Perm (List.range n)
theorem Ord.len {n : Nat} {o : List Nat} (h : Ord n o) : o.length = n := by
  have := List.Perm.length_eq h
  simpa using this
theorem Ord.nd {n : Nat} {o : List Nat} (h : Ord n o) : o.Nodup := (List.Perm.nodup_iff h).mpr List.nodup_range
theorem Ord.mem {n : Nat} {o : List Nat} (h : Ord n o) {x : Nat} : x ∈ o ↔ x < n := (List.Perm.mem_iff h).trans List.mem_range
theorem g_get {o : List Nat} {i : Nat} (h : i < o.length) : g o i = o[i] := by simp [g, List.getD_eq_getElem?_getD, h]
theorem Ord.lt {n : Nat} {o : List Nat} (h : Ord n o) {i : Nat} (hi : i < n) : g o i < n := by
  have hl : i < o.length := by rw [h.len]; exact hi
  rw [g_get hl]
  exact h.mem.mp (List.getElem_mem hl)
theorem Ord.inj {n : Nat} {o : List Nat} (h : Ord n o) {i j : Nat} (hi : i < n) (hj : j < n) (e : g o i = g o j) : i = j := by
  have h1 : i < o.length := by rw [h.len]; exact hi
  have h2 : j < o.length := by rw [h.len]; exact hj
  rw [g_get h1, g_get h2] at e
  exact (List.getElem_inj h.nd).mp e
theorem Ord.surj {n : Nat} {o : List Nat} (h : Ord n o) {x : Nat} (hx : x < n) : ∃ i, i < n ∧ g o i = x := by
  obtain ⟨i, hi, e⟩ := List.mem_iff_getElem.mp (h.mem.mpr hx)
  exact ⟨i, by rw [← h.len]; exact hi, by rw [g_get hi, e]⟩
theorem range_map_g (o : List Nat) : (List.range o.length).map (g o) = o := by
  refine List.ext_getElem (by simp) fun i h1 h2 => ?_
  rw [List.getElem_map, List.getElem_range, g_get h2]
theorem map_eq_range {α : Type} {n : Nat} (o : List Nat) (ho : o.length = n) (f : Nat → α) : o.map f = (List.range n).map fun i => f (g o i) := by
  have e : (List.range o.length).map (fun i => f (g o i)) = ((List.range o.length).map (g o)).map f := by rw [List.map_map]; rfl
  rw [← ho, e, range_map_g]
theorem ord_of {n : Nat} {o : List Nat} (hl : o.length = n) (hlt : ∀ i, i < n → g o i < n) (hinj : ∀ i j, i < n → j < n → g o i = g o j → i = j) : Ord n o := by
  have nd : o.Nodup := by
    rw [List.nodup_iff_pairwise_ne, List.pairwise_iff_getElem]
    intro i j hi hj hij e
    have := hinj i j (by omega) (by omega) (by rw [g_get hi, g_get hj, e])
    omega
  have sub : ∀ x ∈ o, x ∈ List.range n := fun x hx => by
    obtain ⟨i, hi, e⟩ := List.mem_iff_getElem.mp hx
    rw [List.mem_range, ← e, ← g_get hi]
    exact hlt i (by omega)
  refine (List.perm_ext_iff_of_nodup nd List.nodup_range).mpr fun x => ⟨sub x, fun hx => ?_⟩
  -- all are met: else one less
  refine Classical.byContradiction fun hn => ?_
  have q := nodup_len (l := x :: o) (m := List.range n) (List.nodup_cons.mpr ⟨hn, nd⟩) fun y hy => by
    rcases List.mem_cons.mp hy with e | hy
    · rw [e]; exact hx
    · exact sub y hy
  simp only [List.length_cons, List.length_range] at q
  omega
/-- W' is W with place i its place τ i -/
structure Iso (τ : List Nat) (W W' : Wb) : Prop where
  ord : Ord W.n τ
  n : W'.n = W.n
  kd : ∀ i, i < W.n → kindOf W' i = kindOf W (g τ i)
  bt : ∀ i j, i < W.n → j < W.n → i ≠ j → bt W' i j = bt W (g τ i) (g τ j)
/-- a parting seen so -/
def rel (τ ps : List Nat) : List Nat := τ.map (g ps)
section
variable {τ : List Nat} {W W' : Wb} {ps q o : List Nat}
theorem g_rel (h : Iso τ W W') {i : Nat} (hi : i < W.n) : g (rel τ ps) i = g ps (g τ i) := by
  have hl : i < τ.length := by rw [h.ord.len]; exact hi
  rw [g_get (o := rel τ ps) (by simpa [rel] using hl), g_get hl]
  simp [rel]
theorem rel_length (h : Iso τ W W') : (rel τ ps).length = W.n := by simp [rel, h.ord.len]
theorem ext_g {a b : List Nat} (hl : a.length = b.length) (h : ∀ i, i < a.length → g a i = g b i) : a = b :=
  List.ext_getElem hl fun i h1 h2 => by
    have := h i h1
    rwa [g_get h1, g_get h2] at this
theorem others_mem {n i x : Nat} : x ∈ others n i ↔ x < n ∧ x ≠ i := by simp [others]
theorem others_nd (n i : Nat) : (others n i).Nodup := List.Pairwise.filter _ List.nodup_range
theorem others_map (h : Iso τ W W') {i : Nat} (hi : i < W.n) : ((others W.n i).map (g τ)).Perm (others W.n (g τ i)) := by
  refine (List.perm_ext_iff_of_nodup ?_ (others_nd _ _)).mpr fun x => ?_
  · rw [List.nodup_iff_pairwise_ne, List.pairwise_map]
    refine List.Pairwise.imp_of_mem (fun {a b} ha hb hab e => ?_) (List.nodup_iff_pairwise_ne.mp (others_nd W.n i))
    exact hab (h.ord.inj (others_mem.mp ha).1 (others_mem.mp hb).1 e)
  · rw [List.mem_map, others_mem]
    constructor
    · rintro ⟨j, hj, rfl⟩
      obtain ⟨h1, h2⟩ := others_mem.mp hj
      exact ⟨h.ord.lt h1, fun e => h2 (h.ord.inj h1 hi e)⟩
    · rintro ⟨h1, h2⟩
      obtain ⟨j, hj, e⟩ := h.ord.surj h1
      exact ⟨j, others_mem.mpr ⟨hj, fun z => h2 (by rw [← e, z])⟩, e⟩
theorem key_rel (h : Iso τ W W') {i : Nat} (hi : i < W.n) : keyD W' (rel τ ps) i = keyD W ps (g τ i) := by
  unfold keyD
  rw [g_rel h hi, h.n]
  congr 3
  refine congrArg PyData.tuple ?_
  have e : (others W.n i).map (fun j => itemD (g (rel τ ps) j) (bt W' i j)) = ((others W.n i).map (g τ)).map (fun k => itemD (g ps k) (bt W (g τ i) k)) := by
    rw [List.map_map]
    refine List.map_congr_left fun j hj => ?_
    obtain ⟨h1, h2⟩ := others_mem.mp hj
    show itemD (g (rel τ ps) j) (bt W' i j) = itemD (g ps (g τ j)) (bt W (g τ i) (g τ j))
    rw [g_rel h h1, h.bt i j hi h1 (Ne.symm h2)]
  rw [e]
  exact sortD_of_perm ((others_map h hi).map _) (allAlike_map (fun _ _ => al_item _ _ _ _) _)
theorem keys_rel (h : Iso τ W W') : keysL W' (rel τ ps) = τ.map (keyD W ps) := by
  rw [map_eq_range τ h.ord.len, keysL, h.n]
  exact List.map_congr_left fun i hi => key_rel h (List.mem_range.mp hi)
theorem keys_rel_perm (h : Iso τ W W') : (keysL W' (rel τ ps)).Perm (keysL W ps) := by
  rw [keys_rel h]
  exact h.ord.map _
theorem finer_rel (h : Iso τ W W') : finer W' (rel τ ps) = rel τ (finer W ps) := by
  refine ext_g (by rw [finer_length, rel_length h, h.n]) fun i hi => ?_
  rw [finer_length, h.n] at hi
  rw [g_finer (by rw [h.n]; exact hi), g_rel h hi, g_finer (h.ord.lt hi), key_rel h hi, unlike_perm (keys_rel_perm h) (keys_al W' _)]
theorem it_rel (h : Iso τ W W') : ∀ (k : Nat) (ps : List Nat), it (finer W') k (rel τ ps) = rel τ (it (finer W) k ps)
  | 0, _ => rfl
  | k + 1, ps => by
    show it (finer W') k (finer W' (rel τ ps)) = rel τ (it (finer W) k (finer W ps))
    rw [finer_rel h]
    exact it_rel h k (finer W ps)
theorem Settles.rel (h : Iso τ W W') (s : Settles W ps q) : Settles W' (Tw.rel τ ps) (Tw.rel τ q) := by
  obtain ⟨k, rfl, f⟩ := s
  exact ⟨k, (it_rel h k ps).symm, by rw [finer_rel h, f]⟩
theorem rel_perm (h : Iso τ W W') (hl : ps.length = W.n) : (Tw.rel τ ps).Perm ps := by
  have e : (List.range W.n).map (g ps) = ps := by rw [← hl]; exact range_map_g ps
  exact (h.ord.map (g ps)).trans (by rw [e])
/-! ### a place put ahead; the open class; the order of a discrete parting -/
def putA (ps : List Nat) (a : Nat) : List Nat := (List.range ps.length).map fun j =>
  if ps.count (g ps a) = 1 then g ps j else if g ps j > g ps a ∨ (g ps j = g ps a ∧ j ≠ a) then g ps j + 1 else g ps j
def openR (ps : List Nat) : Option Nat := (List.range ps.length).find? fun r => decide (1 < ps.count r)
def openC (ps : List Nat) : List Nat := match openR ps with
  | some r => (List.range ps.length).filter fun j => decide (g ps j = r)
  | none => []
theorem putA_length (ps : List Nat) (a : Nat) : (putA ps a).length = ps.length := by simp [putA]
theorem g_putA {ps : List Nat} {a j : Nat} (h : j < ps.length) : g (putA ps a) j = if ps.count (g ps a) = 1 then g ps j else if g ps j > g ps a ∨ (g ps j = g ps a ∧ j ≠ a) then g ps j + 1 else g ps j := by
  rw [g_get (by simpa [putA] using h)]
  simp [putA]
theorem putA_rel (h : Iso τ W W') (hl : ps.length = W.n) {i : Nat} (hi : i < W.n) : putA (Tw.rel τ ps) i = Tw.rel τ (putA ps (g τ i)) := by
  have hr := rel_length (ps := ps) h
  refine ext_g (by rw [putA_length, hr, rel_length h]) fun j hj => ?_
  rw [putA_length, hr] at hj
  rw [g_putA (by rw [hr]; exact hj), g_rel (ps := putA ps (g τ i)) h hj, g_putA (by rw [hl]; exact h.ord.lt hj), g_rel h hi, g_rel h hj, (rel_perm h hl).count_eq]
  have c : (j ≠ i) ↔ (g τ j ≠ g τ i) := ⟨fun z e => z (h.ord.inj hj hi e), fun z e => z (by rw [e])⟩
  simp only [c]
theorem openR_rel (h : Iso τ W W') (hl : ps.length = W.n) : openR (Tw.rel τ ps) = openR ps := by
  unfold openR
  rw [rel_length h, hl]
  congr 1
  funext r
  rw [(rel_perm h hl).count_eq]
theorem openC_mem {ps : List Nat} {a : Nat} : a ∈ openC ps ↔ ∃ r, openR ps = some r ∧ a < ps.length ∧ g ps a = r := by
  unfold openC
  cases e : openR ps with
  | none => simp
  | some r => simp
theorem openC_rel (h : Iso τ W W') (hl : ps.length = W.n) {i : Nat} (hi : i < W.n) : i ∈ openC (Tw.rel τ ps) ↔ g τ i ∈ openC ps := by
  rw [openC_mem, openC_mem, openR_rel h hl, rel_length h, hl, g_rel h hi]
  constructor
  · rintro ⟨r, h1, _, h2⟩
    exact ⟨r, h1, h.ord.lt hi, h2⟩
  · rintro ⟨r, h1, _, h2⟩
    exact ⟨r, h1, hi, h2⟩
theorem openC_same {ps : List Nat} {a b : Nat} (ha : a ∈ openC ps) (hb : b ∈ openC ps) : g ps a = g ps b := by
  obtain ⟨r, h1, _, h2⟩ := openC_mem.mp ha
  obtain ⟨r', h3, _, h4⟩ := openC_mem.mp hb
  rw [h1] at h3
  cases h3
  rw [h2, h4]
theorem openC_nil {ps : List Nat} (h : openC ps = []) : openR ps = none := by
  cases e : openR ps with
  | none => rfl
  | some r =>
    have q := List.find?_some e
    simp only [decide_eq_true_eq] at q
    have m : r ∈ ps := List.count_pos_iff.mp (by omega)
    obtain ⟨j, hj, e2⟩ := List.mem_iff_getElem.mp m
    have : j ∈ openC ps := openC_mem.mpr ⟨r, e, hj, by rw [g_get hj, e2]⟩
    rw [h] at this
    cases this
theorem openC_nil_rel (h : Iso τ W W') (hl : ps.length = W.n) (e : openC ps = []) : openC (Tw.rel τ ps) = [] := by
  have e1 := openR_rel h hl
  rw [openC_nil e] at e1
  unfold openC
  rw [e1]
theorem count_two {l : List Nat} {x i j : Nat} (hij : i < j) (hj : j < l.length) (hi : l[i] = x) (hx : l[j] = x) : 2 ≤ l.count x := by
  have e : l.take j ++ l.drop j = l := List.take_append_drop j l
  rw [← e, List.count_append]
  have h1 : x ∈ l.take j := List.mem_take_iff_getElem.mpr ⟨i, by omega, hi⟩
  have h2 : x ∈ l.drop j := List.mem_drop_iff_getElem.mpr ⟨0, by omega, by simpa using hx⟩
  have c1 := List.count_pos_iff.mpr h1
  have c2 := List.count_pos_iff.mpr h2
  omega
/-- with no open class the places have unlike classes -/
theorem discrete (p : Part W ps) (e : openC ps = []) {i j : Nat} (hi : i < W.n) (hj : j < W.n) (h : g ps i = g ps j) : i = j := by
  refine Classical.byContradiction fun hne => ?_
  have n0 := openC_nil e
  have hlt := p.lt i hi
  unfold openR at n0
  have q := List.find?_eq_none.mp n0 (g ps i) (List.mem_range.mpr (by rw [p.len]; exact hlt))
  simp only [decide_eq_true_eq, Nat.not_lt] at q
  have hi' : i < ps.length := by rw [p.len]; exact hi
  have hj' : j < ps.length := by rw [p.len]; exact hj
  have two : 2 ≤ ps.count (g ps i) := by
    rcases Nat.lt_or_gt_of_ne hne with l | l
    · exact count_two l hj' (g_get hi').symm (by rw [h]; exact (g_get hj').symm)
    · exact count_two l hi' (by rw [h]; exact (g_get hj').symm) (g_get hi').symm
  omega
end
end L2.Tw
set_option Elab.async false
set_option linter.all false
set_option maxRecDepth 100000
set_option maxHeartbeats 4000000
set_option autoImplicit false
namespace L2.Tw
open PySem PyProof.Rows
/-! ### the order of a discrete parting -/
def orderB (ps : List Nat) : List Nat := (List.range ps.length).foldl (fun o j => o.set (g ps j) j) (List.replicate ps.length 0)
theorem orderB_inv {ps : List Nat} {n : Nat} (hl : ps.length = n) (hlt : ∀ i, i < n → g ps i < n) (hinj : ∀ i j, i < n → j < n → g ps i = g ps j → i = j) : ∀ m, m ≤ n →
    ((List.range m).foldl (fun o j => o.set (g ps j) j) (List.replicate n 0)).length = n ∧ ∀ j, j < m → g ((List.range m).foldl (fun o j => o.set (g ps j) j) (List.replicate n 0)) (g ps j) = j
  | 0, _ => ⟨by simp, fun _ h => absurd h (Nat.not_lt_zero _)⟩
  | m + 1, hm => by
    obtain ⟨h1, h2⟩ := orderB_inv hl hlt hinj m (by omega)
    rw [List.range_succ, List.foldl_append]
    refine ⟨by simpa using h1, fun j hj => ?_⟩
    show g (List.set _ (g ps m) m) (g ps j) = j
    have hb : g ps j < n := hlt j (by omega)
    rw [g_get (by rw [List.length_set, h1]; exact hb), List.getElem_set]
    by_cases e : j = m
    · subst e
      rw [if_pos rfl]
    · rw [if_neg (fun z => e (hinj j m (by omega) (by omega) z.symm))]
      have := h2 j (by omega)
      rwa [g_get (by rw [h1]; exact hb)] at this
section
variable {W W' : Wb} {ps q o τ : List Nat}
theorem orderB_len (p : Part W ps) (e : openC ps = []) : (orderB ps).length = W.n := by
  have := (orderB_inv p.len p.lt (fun i j hi hj h => discrete p e hi hj h) W.n (Nat.le_refl _)).1
  unfold orderB
  rw [p.len]
  exact this
theorem orderB_at (p : Part W ps) (e : openC ps = []) {j : Nat} (hj : j < W.n) : g (orderB ps) (g ps j) = j := by
  have := (orderB_inv p.len p.lt (fun i j hi hj h => discrete p e hi hj h) W.n (Nat.le_refl _)).2 j hj
  unfold orderB
  rw [p.len]
  exact this
theorem part_ord (p : Part W ps) (e : openC ps = []) : Ord W.n ps := ord_of p.len p.lt fun i j hi hj h => discrete p e hi hj h
theorem orderB_ord (p : Part W ps) (e : openC ps = []) : Ord W.n (orderB ps) := by
  have po := part_ord p e
  have at_ : ∀ r, r < W.n → ∃ j, j < W.n ∧ g ps j = r ∧ g (orderB ps) r = j := fun r hr => by
    obtain ⟨j, hj, e1⟩ := po.surj hr
    exact ⟨j, hj, e1, by rw [← e1, orderB_at p e hj]⟩
  refine ord_of (orderB_len p e) (fun i hi => ?_) fun i j hi hj h => ?_
  · obtain ⟨k, hk, _, e2⟩ := at_ i hi
    rw [e2]
    exact hk
  · obtain ⟨k, hk, e1, e2⟩ := at_ i hi
    obtain ⟨l, hl, e3, e4⟩ := at_ j hj
    rw [e2, e4] at h
    rw [← e1, ← e3, h]
/-! ### partings on the way -/
theorem part_putA (p : Part W ps) {a : Nat} (ha : a < W.n) (h2 : ps.count (g ps a) ≠ 1) : Part W (putA ps a) ∧ ∀ i, i < W.n → g ps i ≤ g (putA ps a) i := by
  have hl : ∀ {i}, i < W.n → i < ps.length := fun hi => by rw [p.len]; exact hi
  have at_ : ∀ j, j < W.n → g (putA ps a) j = if g ps j > g ps a ∨ (g ps j = g ps a ∧ j ≠ a) then g ps j + 1 else g ps j := fun j hj => by
    rw [g_putA (hl hj), if_neg h2]
  -- another one of its class
  obtain ⟨b, hb, hba, eb⟩ : ∃ b, b < W.n ∧ b ≠ a ∧ g ps b = g ps a := by
    refine Classical.byContradiction fun hn => h2 ?_
    have only : ∀ j, j < W.n → g ps j = g ps a → j = a := fun j hj e => Classical.byContradiction fun z => hn ⟨j, hj, z, e⟩
    have hc : 1 ≤ ps.count (g ps a) := List.count_pos_iff.mpr (by rw [g_get (hl ha)]; exact List.getElem_mem _)
    refine Nat.le_antisymm (Nat.not_lt.mp fun h => ?_) hc
    -- two places of that class
    have e : ps.take a ++ ps.drop a = ps := List.take_append_drop a ps
    have e2 : ps.drop a = ps[a]'(hl ha) :: ps.drop (a + 1) := List.drop_eq_getElem_cons (hl ha)
    have ec : ∀ x, ps.count x = (ps.take a).count x + ((ps.drop (a + 1)).count x + if (ps[a]'(hl ha) == x) = true then 1 else 0) := fun x => by
      have q : ps.count x = (ps.take a ++ ps.drop a).count x := by rw [e]
      rw [q, List.count_append, e2, List.count_cons]
    have n1 : (ps.take a).count (g ps a) = 0 := List.count_eq_zero.mpr fun m => by
      obtain ⟨j, hj, q⟩ := List.mem_take_iff_getElem.mp m
      have := only j (by omega) (by rw [g_get (by omega), q])
      omega
    have n2 : (ps.drop (a + 1)).count (g ps a) = 0 := List.count_eq_zero.mpr fun m => by
      obtain ⟨j, hj, q⟩ := List.mem_drop_iff_getElem.mp m
      have hlt : a + 1 + j < W.n := by
        have := p.len
        omega
      have := only (a + 1 + j) hlt (by rw [g_get (hl hlt), q])
      omega
    rw [ec, n1, n2] at h
    split at h <;> omega
  refine ⟨⟨by rw [putA_length]; exact p.len, fun i hi => ?_, fun i hi t ht => ?_⟩, fun i hi => ?_⟩
  · -- below n: the ranks met are as many as the greatest one says
    rw [at_ i hi]
    by_cases c : g ps i > g ps a ∨ (g ps i = g ps a ∧ i ≠ a)
    · rw [if_pos c]
      refine Classical.byContradiction fun hge => ?_
      have hi1 : g ps i = W.n - 1 := by
        have := p.lt i hi
        omega
      -- then all ranks below n are met by unlike places, but a and b have the same
      have hs : ∀ t, t < W.n → ∃ j, j < W.n ∧ g ps j = t := fun t ht => by
        by_cases e : t = g ps i
        · exact ⟨i, hi, e.symm⟩
        · exact p.dense i hi t (by omega)
      have q := nodup_len (l := List.range W.n) (m := (others W.n b).map (g ps)) List.nodup_range fun t ht => by
        obtain ⟨j, hj, e⟩ := hs t (List.mem_range.mp ht)
        by_cases z : j = b
        · exact List.mem_map.mpr ⟨a, others_mem.mpr ⟨ha, Ne.symm hba⟩, by rw [← eb, ← z, e]⟩
        · exact List.mem_map.mpr ⟨j, others_mem.mpr ⟨hj, z⟩, e⟩
      have l1 : (others W.n b).length < W.n := by
        have := nodup_len (l := b :: others W.n b) (m := List.range W.n) (List.nodup_cons.mpr ⟨fun m => (others_mem.mp m).2 rfl, others_nd _ _⟩) fun x hx => by
          rcases List.mem_cons.mp hx with e | hx
          · rw [e]; exact List.mem_range.mpr hb
          · exact List.mem_range.mpr (others_mem.mp hx).1
        simp only [List.length_cons, List.length_range] at this
        omega
      simp only [List.length_range, List.length_map] at q
      omega
    · rw [if_neg c]
      exact p.lt i hi
  · rw [at_ i hi] at ht
    -- t below the class of i: a place of rank t
    by_cases c1 : t < g ps a
    · obtain ⟨j, hj, e⟩ := p.dense a ha t c1
      exact ⟨j, hj, by rw [at_ j hj, if_neg (by omega), e]⟩
    · by_cases c2 : t = g ps a
      · exact ⟨a, ha, by rw [at_ a ha, if_neg (by omega), c2]⟩
      · by_cases c3 : t = g ps a + 1
        · exact ⟨b, hb, by rw [at_ b hb, if_pos (.inr ⟨eb, hba⟩), eb, c3]⟩
        · have hlt : t - 1 < g ps i := by
            split at ht <;> omega
          obtain ⟨j, hj, e⟩ := p.dense i hi (t - 1) hlt
          exact ⟨j, hj, by rw [at_ j hj, if_pos (.inl (by omega)), e]; omega⟩
  · rw [at_ i hi]
    split <;> omega
theorem openC_lt (p : Part W ps) {a : Nat} (h : a ∈ openC ps) : a < W.n := by
  obtain ⟨r, _, h1, _⟩ := openC_mem.mp h
  rw [← p.len]
  exact h1
theorem openC_count {a : Nat} (h : a ∈ openC ps) : ps.count (g ps a) ≠ 1 := by
  obtain ⟨r, h1, _, h2⟩ := openC_mem.mp h
  have q := List.find?_some h1
  simp only [decide_eq_true_eq] at q
  rw [h2]
  omega
theorem putA_class (p : Part W ps) {a i j : Nat} (hi : i < W.n) (hj : j < W.n) (h : g (putA ps a) i = g (putA ps a) j) : g ps i = g ps j := by
  have hl : ∀ {i}, i < W.n → i < ps.length := fun hi => by rw [p.len]; exact hi
  rw [g_putA (hl hi), g_putA (hl hj)] at h
  split at h
  · exact h
  · split at h <;> split at h <;> omega
inductive EndOf (W : Wb) : List Nat → List Nat → Prop
  | fin {ps : List Nat} : openC ps = [] → EndOf W ps (orderB ps)
  | step {ps q o : List Nat} {a : Nat} : a ∈ openC ps → Settles W (putA ps a) q → EndOf W q o → EndOf W ps o
theorem part_step (p : Part W ps) {a : Nat} (ha : a ∈ openC ps) (s : Settles W (putA ps a) q) : Part W q := s.part (part_putA p (openC_lt p ha) (openC_count ha)).1
theorem EndOf.ord (h : EndOf W ps o) (p : Part W ps) : Ord W.n o := by
  induction h with
  | fin e => exact orderB_ord p e
  | step ha s _ ih => exact ih (part_step p ha s)
/-! ### rows -/
/-- the rows of two orders are the same -/
structure RowEq (W : Wb) (o : List Nat) (W' : Wb) (o' : List Nat) : Prop where
  len : o.length = o'.length
  kd : ∀ i, i < o.length → kindOf W (g o i) = kindOf W' (g o' i)
  bt : ∀ i j, i < j → j < o.length → bt W (g o i) (g o j) = bt W' (g o' i) (g o' j)
theorem RowEq.refl (W : Wb) (o : List Nat) : RowEq W o W o := ⟨rfl, fun _ _ => rfl, fun _ _ _ _ => rfl⟩
theorem RowEq.symm {o' : List Nat} (h : RowEq W o W' o') : RowEq W' o' W o := ⟨h.len.symm, fun i hi => (h.kd i (by rw [h.len]; exact hi)).symm, fun i j hij hj => (h.bt i j hij (by rw [h.len]; exact hj)).symm⟩
theorem RowEq.trans {W'' : Wb} {o' o'' : List Nat} (h : RowEq W o W' o') (h' : RowEq W' o' W'' o'') : RowEq W o W'' o'' :=
  ⟨h.len.trans h'.len, fun i hi => (h.kd i hi).trans (h'.kd i (by rw [← h.len]; exact hi)), fun i j hij hj => (h.bt i j hij hj).trans (h'.bt i j hij (by rw [← h.len]; exact hj))⟩
theorem row_iso {o' : List Nat} (h : Iso τ W W') (ho : Ord W.n o') (e : o = o'.map (g τ)) : RowEq W o W' o' := by
  subst e
  have at_ : ∀ i, i < o'.length → g (o'.map (g τ)) i = g τ (g o' i) := fun i hi => by
    rw [g_get (by simpa using hi), g_get hi]
    simp
  refine ⟨by simp, fun i hi => ?_, fun i j hij hj => ?_⟩
  · have hi' : i < o'.length := by simpa using hi
    rw [at_ i hi']
    exact (h.kd _ (ho.lt (by rw [← ho.len]; exact hi'))).symm
  · have hj' : j < o'.length := by simpa using hj
    have hi' : i < o'.length := by omega
    have ln := ho.len
    rw [at_ i hi', at_ j hj']
    exact (h.bt _ _ (ho.lt (by omega)) (ho.lt (by omega)) fun z => by
      have := ho.inj (by omega) (by omega) z
      omega).symm
/-- an end seen so -/
theorem EndOf.rel (h : Iso τ W W') (he : EndOf W ps o) (p : Part W ps) : ∃ o', EndOf W' (Tw.rel τ ps) o' ∧ Ord W.n o' ∧ o = o'.map (g τ) := by
  induction he with
  | @fin ps e =>
    have e' := openC_nil_rel h p.len e
    have p' : Part W' (Tw.rel τ ps) := by
      refine ⟨by rw [rel_length h, h.n], fun i hi => ?_, fun i hi t ht => ?_⟩
      · rw [h.n] at hi ⊢
        rw [g_rel h hi]
        exact p.lt _ (h.ord.lt hi)
      · rw [h.n] at hi ⊢
        rw [g_rel h hi] at ht
        obtain ⟨j, hj, e1⟩ := p.dense _ (h.ord.lt hi) t ht
        obtain ⟨k, hk, e2⟩ := h.ord.surj hj
        exact ⟨k, hk, by rw [g_rel h hk, e2, e1]⟩
    have o1 := orderB_ord p' e'
    rw [h.n] at o1
    refine ⟨_, .fin e', o1, ?_⟩
    refine ext_g (by rw [List.length_map, orderB_len p e, o1.len]) fun r hr => ?_
    rw [orderB_len p e] at hr
    have po := part_ord p' e'
    rw [h.n] at po
    obtain ⟨i, hi, e3⟩ := po.surj hr
    have a1 := orderB_at p' e' (j := i) (by rw [h.n]; exact hi)
    rw [e3] at a1
    rw [g_get (o := List.map _ _) (by rw [List.length_map, o1.len]; exact hr), List.getElem_map, ← g_get, a1, ← e3, g_rel h hi]
    exact orderB_at p e (h.ord.lt hi)
  | @step ps q o a ha s _ ih =>
    obtain ⟨o', h1, h2, h3⟩ := ih (part_step p ha s)
    obtain ⟨i, hi, e⟩ := h.ord.surj (openC_lt p ha)
    refine ⟨o', .step (a := i) ((openC_rel h p.len hi).mpr (by rw [e]; exact ha)) ?_ h1, h2, h3⟩
    rw [putA_rel h p.len hi, e]
    exact s.rel h
end
end L2.Tw
set_option Elab.async false
set_option linter.all false
set_option maxRecDepth 100000
set_option maxHeartbeats 4000000
set_option autoImplicit false
namespace L2.Tw
open PySem PyProof.Rows
/-! ### at most three places: places of one class are led to one another by a turning -/
structure Good (W : Wb) (ps : List Nat) : Prop where
  part : Part W ps
  fix : finer W ps = ps
  ref : ∀ i j, i < W.n → j < W.n → g ps i = g ps j → kindOf W i = kindOf W j
theorem perm_two {α : Type} {a b c d : α} (h : [a, b].Perm [c, d]) : (a = c ∧ b = d) ∨ (a = d ∧ b = c) := by
  have ha : a ∈ [c, d] := h.mem_iff.mp (by simp)
  have e1 : a = c ∨ a = d := by simpa using ha
  rcases e1 with e | e
  · subst e
    have h2 : [b].Perm [d] := List.Perm.cons_inv h
    have := List.perm_singleton.mp h2
    exact .inl ⟨rfl, by simpa using this⟩
  · subst e
    have h2 : [a, b].Perm [a, c] := h.trans (List.Perm.swap a c [])
    have h3 := List.perm_singleton.mp (List.Perm.cons_inv h2)
    exact .inr ⟨rfl, by simpa using h3⟩
section
variable {W W' : Wb} {ps q o τ : List Nat}
theorem iso_of_table (hn : W.n = 3) {i j k a b c : Nat} (hd : i < 3 ∧ j < 3 ∧ k < 3 ∧ i ≠ j ∧ i ≠ k ∧ j ≠ k)
    (kd : kindOf W i = kindOf W a ∧ kindOf W j = kindOf W b ∧ kindOf W k = kindOf W c) (hq : Ord 3 τ) (gi : g τ i = a) (gj : g τ j = b) (gk : g τ k = c)
    (b1 : bt W i j = bt W a b) (b2 : bt W i k = bt W a c) (b3 : bt W j k = bt W b c) : Iso τ W W := by
  have inj : ∀ {x y}, x < 3 → y < 3 → x ≠ y → g τ x ≠ g τ y := fun hx hy hne e => hne (hq.inj hx hy e)
  have hab : a ≠ b := by rw [← gi, ← gj]; exact inj hd.1 hd.2.1 hd.2.2.2.1
  have hac : a ≠ c := by rw [← gi, ← gk]; exact inj hd.1 hd.2.2.1 hd.2.2.2.2.1
  have hbc : b ≠ c := by rw [← gj, ← gk]; exact inj hd.2.1 hd.2.2.1 hd.2.2.2.2.2
  have three : ∀ x, x < 3 → x = i ∨ x = j ∨ x = k := fun x hx => by omega
  refine ⟨by rw [hn]; exact hq, rfl, fun x hx => ?_, fun x y hx hy hne => ?_⟩
  · rw [hn] at hx
    rcases three x hx with e | e | e
    · rw [e, gi]; exact kd.1
    · rw [e, gj]; exact kd.2.1
    · rw [e, gk]; exact kd.2.2
  · rw [hn] at hx hy
    rcases three x hx with e | e | e <;> rcases three y hy with e' | e' | e' <;> subst e e'
    · exact absurd rfl hne
    · rw [gi, gj]; exact b1
    · rw [gi, gk]; exact b2
    · rw [gi, gj]; exact bt_of_flip hd.2.2.2.1 hab b1
    · exact absurd rfl hne
    · rw [gj, gk]; exact b3
    · rw [gi, gk]; exact bt_of_flip hd.2.2.2.2.1 hac b2
    · rw [gj, gk]; exact bt_of_flip hd.2.2.2.2.2 hbc b3
    · exact absurd rfl hne
/-- the list that leads i to a, j to b, the third to c -/
def lead3 (i j a b c : Nat) : List Nat := (List.range 3).map fun x => if x = i then a else if x = j then b else c
theorem lead3_at {i j a b c x : Nat} (hx : x < 3) : g (lead3 i j a b c) x = if x = i then a else if x = j then b else c := by
  rw [g_get (by simpa [lead3] using hx)]
  simp [lead3]
theorem lead3_ord {i j k a b c : Nat} (hd : i < 3 ∧ j < 3 ∧ k < 3 ∧ i ≠ j ∧ i ≠ k ∧ j ≠ k) (ha : a < 3 ∧ b < 3 ∧ c < 3 ∧ a ≠ b ∧ a ≠ c ∧ b ≠ c) : Ord 3 (lead3 i j a b c) := by
  refine ord_of (by simp [lead3]) (fun x hx => ?_) fun x y hx hy h => ?_
  · rw [lead3_at hx]
    split
    · omega
    · split <;> omega
  · rw [lead3_at hx, lead3_at hy] at h
    repeat' split at h
    all_goals omega
theorem lemma_b (h3 : W.n ≤ 3) (G : Good W ps) {i j : Nat} (hi : i < W.n) (hj : j < W.n) (hij : i ≠ j) (e : g ps i = g ps j) : ∃ τ, Iso τ W W ∧ rel τ ps = ps ∧ g τ i = j := by
  have hk : keyD W ps i = keyD W ps j := finer_key hi hj (by rw [G.fix]; exact e)
  have hp := key_items hk
  have kij := G.ref i j hi hj e
  have hl : ∀ {x}, x < W.n → x < ps.length := fun hx => by rw [G.part.len]; exact hx
  have c : W.n = 2 ∨ W.n = 3 := by omega
  rcases c with c | c
  · -- two places: the swap
    have oi : others W.n i = [j] := by
      rw [c]
      have z : (i = 0 ∧ j = 1) ∨ (i = 1 ∧ j = 0) := by omega
      rcases z with ⟨rfl, rfl⟩ | ⟨rfl, rfl⟩ <;> decide
    have oj : others W.n j = [i] := by
      rw [c]
      have z : (i = 0 ∧ j = 1) ∨ (i = 1 ∧ j = 0) := by omega
      rcases z with ⟨rfl, rfl⟩ | ⟨rfl, rfl⟩ <;> decide
    rw [oi, oj] at hp
    have h1 := List.perm_singleton.mp hp
    have h2 : itemD (g ps j) (bt W i j) = itemD (g ps i) (bt W j i) := by simpa using h1
    have hb := (itemD_inj h2).2
    have g0 : ∀ x, x < 2 → g [1, 0] x = 1 - x := fun x hx => by
      have z : x = 0 ∨ x = 1 := by omega
      rcases z with rfl | rfl <;> rfl
    refine ⟨[1, 0], ⟨by rw [c]; exact List.Perm.swap 0 1 [], rfl, fun x hx => ?_, fun x y hx hy hne => ?_⟩, ?_, by rw [g0 i (by omega)]; omega⟩
    · rw [g0 x (by omega)]
      have z : (x = i ∧ 1 - x = j) ∨ (x = j ∧ 1 - x = i) := by omega
      rcases z with ⟨rfl, z⟩ | ⟨rfl, z⟩
      · rw [z]; exact kij
      · rw [z]; exact kij.symm
    · rw [g0 x (by omega), g0 y (by omega)]
      have z : (x = i ∧ y = j ∧ 1 - x = j ∧ 1 - y = i) ∨ (x = j ∧ y = i ∧ 1 - x = i ∧ 1 - y = j) := by omega
      rcases z with ⟨rfl, rfl, z1, z2⟩ | ⟨rfl, rfl, z1, z2⟩
      · rw [z1, z2]; exact hb
      · rw [z1, z2]; exact hb.symm
    · refine ext_g (by rw [rel, List.length_map, G.part.len, c]; rfl) fun x hx => ?_
      have hx2 : x < 2 := by simpa [rel] using hx
      have gx : g (rel [1, 0] ps) x = g ps (1 - x) := by
        have z : x = 0 ∨ x = 1 := by omega
        rcases z with rfl | rfl <;> rfl
      rw [gx]
      have z : (x = i ∧ 1 - x = j) ∨ (x = j ∧ 1 - x = i) := by omega
      rcases z with ⟨rfl, z⟩ | ⟨rfl, z⟩
      · rw [z]; exact e.symm
      · rw [z]; exact e
  · -- three
    obtain ⟨k, hk3, hki, hkj⟩ : ∃ k, k < 3 ∧ k ≠ i ∧ k ≠ j := by
      have hi3 : i < 3 := by omega
      have hj3 : j < 3 := by omega
      by_cases z : i + j = 1
      · exact ⟨2, by omega, by omega, by omega⟩
      · by_cases z2 : i + j = 2
        · exact ⟨1, by omega, by omega, by omega⟩
        · exact ⟨0, by omega, by omega, by omega⟩
    have hi3 : i < 3 := by omega
    have hj3 : j < 3 := by omega
    have oth : ∀ x y z : Nat, x < 3 → y < 3 → z < 3 → y ≠ x → z ≠ x → y ≠ z → (others 3 x).Perm [y, z] := fun x y z hx hy hz h1 h2 h3' => by
      refine (List.perm_ext_iff_of_nodup (others_nd _ _) (by simp [h3'])).mpr fun u => ?_
      rw [others_mem]
      simp only [List.mem_cons, List.not_mem_nil, or_false]
      constructor
      · intro hu
        omega
      · intro hu
        omega
    rw [c] at hp
    have hp2 := ((oth i j k hi3 hj3 hk3 (Ne.symm hij) hki (Ne.symm hkj)).map fun x => itemD (g ps x) (bt W i x)).symm.trans (hp.trans ((oth j i k hj3 hi3 hk3 hij hkj (Ne.symm hki)).map fun x => itemD (g ps x) (bt W j x)))
    have hp3 := perm_two (show [itemD (g ps j) (bt W i j), itemD (g ps k) (bt W i k)].Perm [itemD (g ps i) (bt W j i), itemD (g ps k) (bt W j k)] from hp2)
    have hd : i < 3 ∧ j < 3 ∧ k < 3 ∧ i ≠ j ∧ i ≠ k ∧ j ≠ k := ⟨hi3, hj3, hk3, hij, Ne.symm hki, Ne.symm hkj⟩
    have relx : ∀ (τ : List Nat), Iso τ W W → (∀ x, x < 3 → g ps (g τ x) = g ps x) → rel τ ps = ps := fun τ hτ hx => by
      refine ext_g (by rw [rel_length hτ, G.part.len]) fun x hx' => ?_
      rw [rel_length hτ] at hx'
      rw [g_rel hτ hx']
      exact hx x (by omega)
    rcases hp3 with ⟨h1, h2⟩ | ⟨h1, h2⟩
    · have b1 := (itemD_inj h1).2
      have b2 := (itemD_inj h2).2
      have or_ := lead3_ord (i := i) (j := j) (k := k) (a := j) (b := i) (c := k) hd ⟨hj3, hi3, hk3, Ne.symm hij, Ne.symm hkj, Ne.symm hki⟩
      have gi : g (lead3 i j j i k) i = j := by rw [lead3_at hi3, if_pos rfl]
      have gj : g (lead3 i j j i k) j = i := by rw [lead3_at hj3, if_neg (Ne.symm hij), if_pos rfl]
      have gk : g (lead3 i j j i k) k = k := by rw [lead3_at hk3, if_neg hki, if_neg hkj]
      have I : Iso (lead3 i j j i k) W W := iso_of_table c hd ⟨kij, kij.symm, rfl⟩ or_ gi gj gk b1 b2 b2.symm
      refine ⟨_, I, relx _ I fun x hx => ?_, gi⟩
      have z : x = i ∨ x = j ∨ x = k := by omega
      rcases z with rfl | rfl | rfl
      · rw [gi]; exact e.symm
      · rw [gj]; exact e
      · rw [gk]
    · obtain ⟨c1, b1⟩ := itemD_inj h1
      obtain ⟨c2, b2⟩ := itemD_inj h2
      -- i to j, j to k, k to i
      have or_ := lead3_ord (i := i) (j := j) (k := k) (a := j) (b := k) (c := i) hd ⟨hj3, hk3, hi3, Ne.symm hkj, Ne.symm hij, hki⟩
      have gi : g (lead3 i j j k i) i = j := by rw [lead3_at hi3, if_pos rfl]
      have gj : g (lead3 i j j k i) j = k := by rw [lead3_at hj3, if_neg (Ne.symm hij), if_pos rfl]
      have gk : g (lead3 i j j k i) k = i := by rw [lead3_at hk3, if_neg hki, if_neg hkj]
      have kjk := G.ref j k hj (by rw [c]; exact hk3) c1
      have b3 : bt W k i = bt W i j := by
        have := bt_of_flip (W := W) (W' := W) (i := i) (j := k) (i' := j) (j' := i) (Ne.symm hki) (Ne.symm hij) b2
        exact this
      have I : Iso (lead3 i j j k i) W W := iso_of_table c hd ⟨kij, kjk, (kij.trans kjk).symm⟩ or_ gi gj gk b1 b2 (by rw [b3]; exact b1.symm)
      refine ⟨_, I, relx _ I fun x hx => ?_, gi⟩
      have z : x = i ∨ x = j ∨ x = k := by omega
      rcases z with rfl | rfl | rfl
      · rw [gi]; exact e.symm
      · rw [gj]; exact c1.symm
      · rw [gk]; exact c2.symm
theorem good_step (G : Good W ps) {a : Nat} (ha : a ∈ openC ps) (s : Settles W (putA ps a) q) : Good W q :=
  ⟨part_step G.part ha s, (by obtain ⟨k, _, f⟩ := s; exact f), fun i j hi hj h => G.ref i j hi hj (putA_class G.part hi hj (s.class hi hj h))⟩
/-- all ends have the same row -/
theorem same_row (h3 : W.n ≤ 3) (he : EndOf W ps o) (G : Good W ps) : ∀ o', EndOf W ps o' → RowEq W o W o' := by
  induction he with
  | @fin ps e =>
    intro o' he'
    cases he' with
    | fin _ => exact RowEq.refl _ _
    | step ha _ _ =>
      rw [e] at ha
      cases ha
  | @step ps q o a ha s _ ih =>
    intro o' he'
    cases he' with
    | fin e =>
      rw [e] at ha
      cases ha
    | @step _ q' _ a' ha' s' he2 =>
      have G2 := good_step G ha s
      by_cases z : a = a'
      · subst z
        rw [← s.uniq s'] at he2
        exact ih G2 o' he2
      · obtain ⟨τ, I, hr, gt⟩ := lemma_b h3 G (openC_lt G.part ha) (openC_lt G.part ha') z (openC_same ha ha')
        have e1 : putA ps a = rel τ (putA ps a') := by
          have := putA_rel (ps := ps) I G.part.len (openC_lt G.part ha)
          rw [hr, gt] at this
          exact this
        have e2 : q = rel τ q' := by
          have s2 := s'.rel I
          rw [← e1] at s2
          exact s.uniq s2
        obtain ⟨o2, h1, h2, h4⟩ := he2.rel I (part_step G.part ha' s')
        rw [← e2] at h1
        exact (ih G2 o2 h1).trans (row_iso I h2 h4).symm
/-- the partings from the kinds -/
def kindsL (W : Wb) : List PyData := W.kinds.map .str
theorem kinds_al (W : Wb) : PySem.W.AllAlike (kindsL W) := allAlike_map (fun _ _ => rfl) _
theorem kinds_pl (W : Wb) : ∀ d ∈ kindsL W, d.plain = true := fun d hd => by
  obtain ⟨a, _, rfl⟩ := List.mem_map.mp hd
  rfl
theorem kinds_len (W : Wb) : (kindsL W).length = W.n := by simp [kindsL]
def firstR (W : Wb) : List Nat := rankL (kindsL W)
/-- o is an end of the first parting -/
def Can (W : Wb) (o : List Nat) : Prop := ∃ q, Settles W (firstR W) q ∧ EndOf W q o
theorem part_first (W : Wb) : Part W (firstR W) := part_rank (kinds_al W) (kinds_pl W) (kinds_len W)
theorem g_first {i : Nat} (hi : i < W.n) : g (firstR W) i = rk (unlike (kindsL W)) (.str (kindOf W i)) := by
  unfold g firstR rankL kindsL kindOf
  simp [List.getD_eq_getElem?_getD, hi]
theorem kind_mem {i : Nat} (hi : i < W.n) : PyData.str (kindOf W i) ∈ kindsL W := List.mem_map.mpr ⟨kindOf W i, by
  unfold kindOf
  simp [List.getD_eq_getElem?_getD, hi], rfl⟩
theorem good_first (s : Settles W (firstR W) q) : Good W q :=
  ⟨s.part (part_first W), (by obtain ⟨k, _, f⟩ := s; exact f), fun i j hi hj h => by
    have h1 := s.class hi hj h
    rw [g_first hi, g_first hj] at h1
    have h2 := rk_inj (uq_unlike (kinds_al W) (kinds_pl W)) (kinds_al W) (kinds_pl W) (kind_mem hi) (kind_mem hj) h1
    simpa using h2⟩
theorem kinds_rel (h : Iso τ W W') : kindsL W' = τ.map fun i => PyData.str (kindOf W i) := by
  rw [map_eq_range τ h.ord.len]
  have e : kindsL W' = (List.range W'.n).map fun i => PyData.str (kindOf W' i) := by
    refine List.ext_getElem (by simp [kindsL]) fun i h1 h2 => ?_
    have hi : i < W'.n := by simpa [kindsL] using h1
    simp [kindsL, kindOf, List.getD_eq_getElem?_getD, hi]
  rw [e, h.n]
  exact List.map_congr_left fun i hi => by rw [h.kd i (List.mem_range.mp hi)]
theorem first_rel (h : Iso τ W W') : firstR W' = rel τ (firstR W) := by
  have hp : (kindsL W').Perm (kindsL W) := by
    have e : kindsL W = (List.range W.n).map fun i => PyData.str (kindOf W i) := by
      refine List.ext_getElem (by simp [kindsL]) fun i h1 h2 => ?_
      have hi : i < W.n := by simpa [kindsL] using h1
      simp [kindsL, kindOf, List.getD_eq_getElem?_getD, hi]
    rw [kinds_rel h, e]
    exact h.ord.map _
  refine ext_g (by rw [firstR, rankL_length, kinds_len, rel_length h, h.n]) fun i hi => ?_
  rw [firstR, rankL_length, kinds_len, h.n] at hi
  rw [g_first (by rw [h.n]; exact hi), g_rel h hi, g_first (h.ord.lt hi), h.kd i hi, unlike_perm hp (kinds_al W')]
theorem Can.ord (h : Can W o) : Ord W.n o := by
  obtain ⟨q, s, e⟩ := h
  exact e.ord (s.part (part_first W))
/-- webs that are alike have the same rows -/
theorem canon {o' : List Nat} (h3 : W.n ≤ 3) (h : Iso τ W W') (c : Can W o) (c' : Can W' o') : RowEq W o W' o' := by
  obtain ⟨q, s, e⟩ := c
  obtain ⟨q', s', e'⟩ := c'
  have s2 := s.rel h
  rw [← first_rel h] at s2
  have eq := s'.uniq s2
  obtain ⟨o2, h1, h2, h4⟩ := e.rel h (s.part (part_first W))
  rw [← eq] at h1
  exact (row_iso h h2 h4).trans (same_row (by rw [h.n]; exact h3) h1 (good_first s') o' e')
theorem iso_refl (W : Wb) : Iso (List.range W.n) W W := by
  have e : ∀ i, i < W.n → g (List.range W.n) i = i := fun i hi => by rw [g_get (by simpa using hi)]; simp
  exact ⟨List.Perm.refl _, rfl, fun i hi => by rw [e i hi], fun i j hi hj _ => by rw [e i hi, e j hj]⟩
/-- equal rows of two orders: one web is the other by a numbering -/
theorem iso_of_rows {o' : List Nat} (ho : Ord W.n o) (ho' : Ord W'.n o') (r : RowEq W o W' o') : ∃ τ, Iso τ W W' ∧ ∀ i, i < W.n → g τ (g o' i) = g o i := by
  have hn : W'.n = W.n := by rw [← ho'.len, ← ho.len, r.len]
  have inv : ∀ x, x < W.n → ∃ i, i < W.n ∧ g o' i = x := fun x hx => by
    obtain ⟨i, hi, e⟩ := ho'.surj (by rw [hn]; exact hx)
    exact ⟨i, by omega, e⟩
  have hf : ∃ f : Nat → Nat, ∀ x, x < W.n → f x < W.n ∧ g o' (f x) = x := by
    refine ⟨fun x => if h : x < W.n then Classical.choose (inv x h) else 0, fun x hx => ?_⟩
    have := Classical.choose_spec (inv x hx)
    simp only [dif_pos hx]
    exact this
  obtain ⟨f, hf⟩ := hf
  have fo : ∀ i, i < W.n → f (g o' i) = i := fun i hi => by
    have h1 := hf (g o' i) (by rw [← hn]; exact ho'.lt (by rw [hn]; exact hi))
    exact ho'.inj (by rw [hn]; exact h1.1) (by rw [hn]; exact hi) h1.2
  have at_ : ∀ x, x < W.n → g ((List.range W.n).map fun x => g o (f x)) x = g o (f x) := fun x hx => by
    rw [g_get (by simpa using hx)]
    simp
  have or_ : Ord W.n ((List.range W.n).map fun x => g o (f x)) := by
    refine ord_of (by simp) (fun x hx => ?_) fun x y hx hy h => ?_
    · rw [at_ x hx]
      exact ho.lt (hf x hx).1
    · rw [at_ x hx, at_ y hy] at h
      have := ho.inj (hf x hx).1 (hf y hy).1 h
      rw [← (hf x hx).2, ← (hf y hy).2, this]
  refine ⟨_, ⟨or_, hn, fun x hx => ?_, fun x y hx hy hne => ?_⟩, fun i hi => ?_⟩
  · rw [at_ x hx]
    have := r.kd (f x) (by rw [ho.len]; exact (hf x hx).1)
    rw [this, (hf x hx).2]
  · rw [at_ x hx, at_ y hy]
    have hl := ho.len
    have l1 := (hf x hx).1
    have l2 := (hf y hy).1
    have hne2 : f x ≠ f y := fun e => hne (by rw [← (hf x hx).2, ← (hf y hy).2, e])
    rcases Nat.lt_or_gt_of_ne hne2 with l | l
    · have := r.bt (f x) (f y) l (by omega)
      rw [(hf x hx).2, (hf y hy).2] at this
      exact this.symm
    · have := r.bt (f y) (f x) l (by omega)
      rw [(hf x hx).2, (hf y hy).2] at this
      have d1 : g o (f y) ≠ g o (f x) := fun e => hne2 (ho.inj l1 l2 e.symm)
      exact (bt_of_flip d1 (Ne.symm hne) this).symm
  · have hx : g o' i < W.n := by rw [← hn]; exact ho'.lt (by rw [hn]; exact hi)
    rw [at_ _ hx, fo i hi]
end
end L2.Tw
set_option Elab.async false
set_option linter.all false
set_option maxRecDepth 100000
set_option maxHeartbeats 4000000
set_option autoImplicit false
namespace L2.Tw
open PySem PySem.Spec PyProof.Rows L2
open C8 (Cal Met Mak pe_c pe_mk pe_mt pe_mt0 pe_gc InsC)
open Evl (Ex Ev EvT EvA fresh_back ex_l ex_t ex_rd sq_of st_of sz_of sz_lt ev_var ev_c ev_op rv_I0 rv_I rv_eq rv_ne et_test et_or et_and et_not s_if s_ret ea_nil ea_cons)
section
variable {P : Program} {w : World} {K : PySem.W.Frag} {mg : Str → Option Value} {base : Heap}
/-! ### is_word -/
def letters : Str := "abcdefghijklmnopqrstuvwxyz"
structure Word (z : Str) : Prop where
  len : 1 ≤ z.length ∧ z.length ≤ 3
  sg : ∀ c ∈ z.cps.toList, c ∈ letters.cps.toList
def spWord : Sp := spP (fun (z : Str) vs H => vs = [.str z] ∧ Word z) (fun _ _ v _ => v = .bl true)
theorem cal_is_word (T : TX K mg) : Cal P w K mg base 1 "is_word" spWord [] := by
  refine T.cal d_is_word (N := ["kind", "sign"]) (ps := ["kind"]) (List.mem_of_getElem? (i := 20) rfl) rfl (by decide +kernel) sc_is_word (fun _ _ _ _ _ _ us hl => match us, hl with | [_], _ => rfl) (fun vs H Q E h => ?_) (fun cdv A outer s H vs Q E f hr h => ?_)
  · obtain ⟨z, ⟨rfl, _⟩, _⟩ := h
    rfl
  · obtain ⟨z, ⟨rfl, hz⟩, k⟩ := h
    have sc := sc_is_word
    refine ⟨_, pss_cons (ps_if (PW.pt (pw_or (pt_cmpR op_lt (pe_callB call_len_str (by rfl) (T.free "len") (by decide +kernel) (pa_cons (pv 0) pa_nil)) (pe_int) (by rfl)) (pw_or1 (pt_cmpR op_gt (pe_callB call_len_str (by rfl) (T.free "len") (by decide +kernel) (pa_cons (pv 0) pa_nil)) (pe_int) (by rfl)))))
    (pss_one (ps_ret (pe_bl)))
    (pss_nil))
    (pss_cons (ps_for PassesOwn.never rfl (pi_str (pv 0)) (pg_name (i := 1) sc.nd rfl (by first | exact Or.inl rfl | exact Or.inr rfl))
    (pss_one (ps_if (pt_cmpR op_notIn_sign (pv 1) (pe_gc rfl T.gLETTERS) (by rfl))
      (pss_one (ps_ret (pe_bl)))
      (pss_nil))))
    (pss_one (ps_ret (pe_bl)))), ?_⟩
    have hl := hz.len
    refine Evl.q_when (et_or (et_test (ev_op (ev_lenS (ev_var rfl) (by omega)) ev_c rv_I0)) fun _ => et_test (ev_op (ev_lenS (ev_var rfl) (by omega)) ev_c rv_I0)) (fun hb => ?_) fun _ H1 e1 => ?_
    · simp only [Bool.or_eq_true, decide_eq_true_eq] at hb
      omega
    refine q_forS (s := z) (ev_var rfl) (fun _ σ' H' => Ex H H' ∧ ∃ v, σ' = [some (.str z), v]) (fun H2 e2 => ⟨e1.trans e2, _, rfl⟩) (fun i c σ' H' hc ⟨e2, v, hσ⟩ => ?_) (fun σ' H' ⟨e2, _⟩ => ?_)
    · subst hσ
      have hm : c ∈ letters.cps.toList := hz.sg c (by
        rw [Array.mem_toList_iff]
        exact Array.mem_of_getElem? hc)
      refine s_if (et_test (ev_op (ev_var rfl) ev_c rv_niS)) (fun hb => ?_) fun _ H3 e3 => ?_
      · rw [show decide (c ∈ (Str.ofString "abcdefghijklmnopqrstuvwxyz").cps.toList) = true from decide_eq_true hm] at hb
        cases hb
      · exact ⟨e2.trans e3, _, rfl⟩
    · refine s_retE ev_c fun H3 e3 => ?_
      exact k _ _ (e2.trans e3) rfl
/-! ### is_tie -/
structure TieOk (n : Nat) (t : Tie) : Prop where
  a : t.a < n
  b : t.b < n
  ne : t.a ≠ t.b
  k : 0 ≤ t.k ∧ t.k < 10 ^ 30
def spIsTie (K : PySem.W.Frag) : Sp := spP (fun (x : Nat × Tie) vs H => ∃ v, vs = [.int (x.1 : Int), v] ∧ Dp K H v (tieD x.2) ∧ TieOk x.1 x.2) (fun _ _ v _ => v = .bl true)
theorem ev_ixI {K : PySem.W.Frag} {σ : L2.St} {H : Hp} {ta : TE} {ds : List PyData} {n : Nat} {i : Int} (h : EvP ta σ H (DP K (.tuple ds))) (hd : ds[n]? = some (.int i)) : Ev (tOp (rIxT K) ta (tC (.int (n : Int)))) σ H (.int i) := ev_intD (ep_ixT h ev_c hd)
theorem cal_is_tie (T : TX K mg) : Cal P w K mg base 1 "is_tie" (spIsTie K) [] := by
  refine T.cal d_is_tie (N := ["size", "tie", "one", "other", "kind"]) (ps := ["size", "tie"]) (List.mem_of_getElem? (i := 21) rfl) rfl (by decide +kernel) sc_is_tie (fun _ _ _ _ _ _ us hl => match us, hl with | [_, _], _ => rfl) (fun vs H Q E h => ?_) (fun cdv A outer s H vs Q E f hr h => ?_)
  · obtain ⟨z, ⟨v, rfl, _⟩, _⟩ := h
    rfl
  · obtain ⟨⟨n, t⟩, ⟨v, rfl, hd, ht⟩, k⟩ := h
    dsimp only at hd ht k ⊢
    have sc := sc_is_tie
    refine ⟨_, pss_cons (ps_par3 (i := 2) (j := 3) (l := 4) rfl sc.nd rfl rfl rfl (by decide) (by decide) (by decide) rfl rfl rfl (pa_cons (pe_ix ix_tup (pv 1) (pe_int) (fun _ _ => rfl)) (pa_cons (pe_ix ix_tup (pv 1) (pe_int) (fun _ _ => rfl)) (pa_cons (pe_ix ix_tup (pv 1) (pe_int) (fun _ _ => rfl)) pa_nil))) (by rfl))
    (pss_cons (ps_if (PW.pt (pw_or (pt_cmpR op_eq (pv 2) (pv 3) (by rfl)) (pw_or (pt_not (pt_chain op_le op_lt (pe_int) (pv 2) (pv 0))) (pw_or1 (pt_not (pt_chain op_le op_lt (pe_int) (pv 3) (pv 0)))))))
    (pss_one (ps_ret (pe_bl)))
    (pss_nil))
    (pss_one (ps_ret (pe_chain op_le op_lt (pe_int) (pv 4) (pe_op op_pow (pe_int) (pe_int)))))), ?_⟩
    obtain ⟨h1, h2, h3, h4⟩ := ht
    have e0 : EvA (tCons (tOp (rIxT K) (tVar 1) (tC (.int 0))) (tCons (tOp (rIxT K) (tVar 1) (tC (.int 1))) (tCons (tOp (rIxT K) (tVar 1) (tC (.int 2))) tNil))) (start ["size", "tie", "one", "other", "kind"] [.int (n : Int), v]) H [.int t.a, .int t.b, .int t.k] :=
      ea_cons (ev_ixI (n := 0) (ep_varD rfl hd) rfl) (ea_cons (ev_ixI (n := 1) (ep_varD rfl hd) rfl) (ea_cons (ev_ixI (n := 2) (ep_varD rfl hd) rfl) ea_nil))
    refine q_par3 e0 fun H1 e1 => ?_
    refine Evl.q_when (et_or (et_test (ev_op (ev_var rfl) (ev_var rfl) (rv_eq rfl))) fun _ => et_or (et_not (et_test (ev_chain ev_c (ev_var rfl) rv_I0 (fun _ => ev_var rfl) (fun _ => rv_I0)))) fun _ => et_not (et_test (ev_chain ev_c (ev_var rfl) rv_I0 (fun _ => ev_var rfl) (fun _ => rv_I0)))) (fun hb => ?_) fun _ H2 e2 => ?_
    · have hn : ¬ (V.int (t.a : Int) = V.int (t.b : Int)) := fun z => by
        have := V.int.inj z
        omega
      rw [decide_eq_false hn, decide_eq_true (show (0 : Int) ≤ t.a by omega), decide_eq_true (show (t.a : Int) < n by omega), decide_eq_true (show (0 : Int) ≤ t.b by omega), decide_eq_true (show (t.b : Int) < n by omega)] at hb
      cases hb
    · refine s_retE (ev_chain ev_c (ev_var rfl) rv_I0 (fun _ => ev_op ev_c ev_c (rv_I ⟨by decide, by decide, by decide⟩)) (fun _ => rv_I0)) fun H3 e3 => ?_
      have q : (decide ((0 : Int) ≤ t.k) && decide (t.k < (10 : Int) ^ (30 : Int).toNat)) = true := by
        rw [decide_eq_true h4.1, decide_eq_true (show t.k < (10 : Int) ^ (30 : Int).toNat from h4.2)]
        rfl
      exact k _ _ ((e1.trans e2).trans e3) (congrArg V.bl q)
end
end L2.Tw
set_option Elab.async false
set_option linter.all false
set_option maxRecDepth 100000
set_option maxHeartbeats 4000000
set_option autoImplicit false
namespace L2.Tw
open PySem PySem.Spec PyProof.Rows L2
open C8 (Cal Met Mak pe_c pe_mk pe_mt pe_mt0 pe_gc InsC)
open Evl (Ex Ev EvT EvA fresh_back ex_l ex_t ex_rd sq_of st_of sz_of sz_lt ev_var ev_c ev_op rv_I0 rv_I rv_eq rv_ne et_test et_or et_and et_not et_B s_if ea_nil ea_cons q_asg q_when)
section
variable {P : Program} {w : World} {K : PySem.W.Frag} {mg : Str → Option Value} {base : Heap}
theorem sortOk_tup {ds : List PyData} {n : Nat} (ha : PySem.W.AllAlike ds) (hp : ∀ d ∈ ds, Pd n d) (hn : n ≤ 40) (ht : ∀ d ∈ ds, ∃ x r, d = .tuple (x :: r)) (hl : ds.length ≤ 100000) : SortOk ds :=
  ⟨ha, .inl ht, fun d hd => Nat.le_trans (hp d hd).2 hn, hl⟩
theorem sortOk_map {α : Type} {f : α → PyData} {n : Nat} (ha : ∀ a b, PySem.W.alike (f a) (f b) = true) (hp : ∀ a, Pd n (f a)) (hn : n ≤ 40) (ht : ∀ a, ∃ x r, f a = .tuple (x :: r)) (l : List α) (hl : l.length ≤ 100000) : SortOk (l.map f) :=
  sortOk_tup (allAlike_map ha l) (pd_map hp l) hn (fun d hd => by
    obtain ⟨a, _, rfl⟩ := List.mem_map.mp hd
    exact ht a) (by rw [List.length_map]; exact hl)
theorem sortOk_pairs (l : List Pair) (hl : l.length ≤ 100000) : SortOk (l.map pairD) := sortOk_map al_pair pd_pair (by omega) (fun _ => ⟨_, _, rfl⟩) l hl
theorem sortOk_ties (l : List Tie) (hl : l.length ≤ 100000) : SortOk (l.map tieD) := sortOk_map al_tie pd_tie (by omega) (fun _ => ⟨_, _, rfl⟩) l hl
/-! ### plain_tie -/
def plainT (t : Tie) : Tie := if t.o = false ∧ t.b < t.a then ⟨t.b, t.a, t.k, t.o⟩ else t
def spPlain (K : PySem.W.Frag) : Sp := spP (fun (t : Tie) vs H => ∃ v, vs = [v] ∧ Dp K H v (tieD t)) (fun t _ v H' => Dp K H' v (tieD (plainT t)))
theorem cal_plain_tie (T : TX K mg) : Cal P w K mg base 1 "plain_tie" (spPlain K) [] := by
  refine T.cal d_plain_tie (N := ["tie"]) (ps := ["tie"]) (List.mem_of_getElem? (i := 22) rfl) rfl (by decide +kernel) sc_plain_tie (fun _ _ _ _ _ _ us hl => match us, hl with | [_], _ => rfl) (fun vs H Q E h => ?_) (fun cdv A outer s H vs Q E f hr h => ?_)
  · obtain ⟨z, ⟨v, rfl, _⟩, _⟩ := h
    rfl
  · obtain ⟨t, ⟨v, rfl, hd⟩, k⟩ := h
    have sc := sc_plain_tie
    refine ⟨_, pss_cons (ps_if (PW.pt (pw_and (pt_not (pt_val (pe_ix ix_tup (pv 0) (pe_int) (fun _ _ => rfl)))) (pw_and1 (pt_cmpR op_gt (pe_ix ix_tup (pv 0) (pe_int) (fun _ _ => rfl)) (pe_ix ix_tup (pv 0) (pe_int) (fun _ _ => rfl)) (by rfl)))))
    (pss_one (ps_ret (pe_tup (pa_cons (pe_ix ix_tup (pv 0) (pe_int) (fun _ _ => rfl)) (pa_cons (pe_ix ix_tup (pv 0) (pe_int) (fun _ _ => rfl)) (pa_cons (pe_ix ix_tup (pv 0) (pe_int) (fun _ _ => rfl)) (pa_cons (pe_ix ix_tup (pv 0) (pe_int) (fun _ _ => rfl)) pa_nil)))))))
    (pss_nil))
    (pss_one (ps_ret (pv 0))), ?_⟩
    have dv : ∀ {σ : L2.St} {H1 : Hp}, σ = [some v] → Ex H H1 → EvP (tVar 0) σ H1 (DP K (tieD t)) := fun hσ e => by
      subst hσ
      exact ep_varD rfl (dp_ex e hd)
    refine q_when (et_and (et_not (et_B (ev_blD (ep_ixT (n := 3) (dv rfl (Evl.Ex.refl H)) ev_c rfl)))) fun _ => et_test (ev_op (ev_intD (ep_ixT (n := 0) (dv rfl (Evl.Ex.refl H)) ev_c rfl)) (ev_intD (ep_ixT (n := 1) (dv rfl (Evl.Ex.refl H)) ev_c rfl)) rv_I0)) (fun hb H1 e1 => ?_) fun hb H1 e1 => ?_
    · simp only [Bool.and_eq_true, Bool.not_eq_true', decide_eq_true_eq] at hb
      have c : t.o = false ∧ t.b < t.a := ⟨hb.1, by omega⟩
      refine s_retP (P := DP K (tieD (plainT t))) (ep_tupD (ds := [.int t.b, .int t.a, .int t.k, .bool t.o]) (ea_consD (ep_ixT (n := 1) (dv rfl e1) ev_c rfl) (ea_consD (ep_ixT (n := 0) (dv rfl e1) ev_c rfl) (ea_consD (ep_ixT (n := 2) (dv rfl e1) ev_c rfl) (ea_consD (ep_ixT (n := 3) (dv rfl e1) ev_c rfl) ea_nilD)))) |>.imp fun v _ _ q => by
        unfold plainT
        rw [if_pos c]
        exact q) fun v H2 e2 hv => ?_
      exact k _ _ (e1.trans e2) hv
    · have c : ¬ (t.o = false ∧ t.b < t.a) := fun c => by
        have h1 : (decide ((t.b : Int) < (t.a : Int))) = true := decide_eq_true (by omega)
        rw [c.1, h1] at hb
        cases hb
      refine s_retE (ev_var rfl) fun H2 e2 => ?_
      have hp : plainT t = t := if_neg c
      refine k _ _ (e1.trans e2) ?_
      show Dp K H2 v (tieD (plainT t))
      rw [hp]
      exact dp_ex (e1.trans e2) hd
/-! ### pairs_between -/
def kk (i j : Nat) : List L2.Key := [Sum.inl (i : Int), Sum.inl (j : Int)]
theorem kk_inj {i j k l : Nat} (h : kk i j = kk k l) : i = k ∧ j = l := by
  simp only [kk, List.cons.injEq, Sum.inl.injEq, and_true] at h
  omega
def rawL (ts : List Tie) (i j : Nat) : List Pair := ts.filterMap (tieAt i j)
/-- the dict of tuples at g: for each key i, j the sorted pairs f i j, where there are any -/
def LinksAt (K : PySem.W.Frag) (H : Hp) (g : Addr) (f : Nat → Nat → List Pair) : Prop :=
  ∃ kv, H g = some (.dT kv) ∧ ∀ i j, (f i j = [] → valV kv (kk i j) = none) ∧ (f i j ≠ [] → ∃ v, valV kv (kk i j) = some v ∧ Dp K H v (pairsD (sortP (f i j))))
/-- the dict of lists at f: for each key i, j the list of the pairs g i j; S: keys that may have none yet; H0: what stood ahead -/
structure FO (K : PySem.W.Frag) (H0 H : Hp) (f : Addr) (g : Nat → Nat → List Pair) (m : Nat) (S : Nat → Nat → Prop) (kv : List (List L2.Key × V)) : Prop where
  at_ : H f = some (.dT kv)
  f0 : H0 f = none
  ex : Ex H0 H
  len : kv.length ≤ m
  nd : (kv.map (·.1)).Nodup
  ent : ∀ k v, (k, v) ∈ kv → ∃ i j a xs, k = kk i j ∧ v = .ref a ∧ H0 a = none ∧ H a = some (.lst xs) ∧ DpAll K H xs ((g i j).map pairD) ∧ (g i j ≠ [] ∨ S i j)
  inj : ∀ k k' a, (k, V.ref a) ∈ kv → (k', V.ref a) ∈ kv → k = k'
  tot : ∀ i j, g i j ≠ [] → ∃ v, (kk i j, v) ∈ kv
theorem valV_mem {κ : Type} [DecidableEq κ] {kv : List (κ × V)} {k : κ} {v : V} (h : valV kv k = some v) : (k, v) ∈ kv := by
  unfold valV at h
  obtain ⟨p, h1, h2⟩ := Option.map_eq_some_iff.mp h
  have h3 := List.find?_some h1
  have h4 := List.mem_of_find?_eq_some h1
  simp only [decide_eq_true_eq] at h3
  rw [← h3, ← h2]
  exact h4
theorem valV_none {κ : Type} [DecidableEq κ] {kv : List (κ × V)} {k : κ} (h : valV kv k = none) (v : V) : (k, v) ∉ kv := by
  unfold valV at h
  rw [Option.map_eq_none_iff] at h
  intro m
  have := List.find?_eq_none.mp h _ m
  simp at this
theorem nodup_val {κ : Type} : ∀ {kv : List (κ × V)}, (kv.map (·.1)).Nodup → ∀ {k : κ} {v w : V}, (k, v) ∈ kv → (k, w) ∈ kv → v = w
  | [], _, _, _, _, h, _ => by simp at h
  | (k0, v0) :: r, n, k, v, w, h1, h2 => by
    rw [List.map_cons, List.nodup_cons] at n
    have no : ∀ {u : V}, k = k0 → (k, u) ∉ r := fun e m => n.1 (List.mem_map.mpr ⟨_, m, e⟩)
    rcases List.mem_cons.mp h1 with h1 | h1 <;> rcases List.mem_cons.mp h2 with h2 | h2
    · exact (Prod.mk.inj h1).2.trans (Prod.mk.inj h2).2.symm
    · exact absurd h2 (no (Prod.mk.inj h1).1)
    · exact absurd h1 (no (Prod.mk.inj h2).1)
    · exact nodup_val n.2 h1 h2
theorem noLs_pairs (ps : List Pair) : noLs (ps.map pairD) = true := noLs_iff.mpr fun d hd => by
  obtain ⟨p, _, rfl⟩ := List.mem_map.mp hd
  simp [pairD, noL, noLs]
/-- found.setdefault((i, j), []) -/
theorem fo_setd {H0 H : Hp} {f : Addr} {g : Nat → Nat → List Pair} {m : Nat} {S : Nat → Nat → Prop} {kv : List (List L2.Key × V)} {td ti tj : TE} {σ : L2.St} {i j : Nat} {Q : VK} (F : FO K H0 H f g m S kv) (hd : Ev td σ H (.ref f)) (hi : Ev ti σ H (.int (i : Int))) (hj : Ev tj σ H (.int (j : Int))) (hm : m ≤ 1000)
    (k : ∀ a H' kv', FO K H0 H' f g (m + 1) (fun x y => S x y ∨ (x = i ∧ y = j)) kv' → (∀ p ∈ kv, p ∈ kv') → (kk i j, V.ref a) ∈ kv' → (∀ b o, H b = some o → b ≠ f → H' b = some o) → Q (.ref a) H') :
    tDSetdT td (tTup (tCons ti (tCons tj tNil))) (tLst tNil) σ H Q := by
  refine hd H (Evl.Ex.refl H) _ fun H1 e1 => ⟨f, rfl, .inr ⟨kv, .inl (e1 f _ F.at_)⟩, ?_⟩
  refine hi H1 e1 _ fun H2 e2 => hj H2 (e1.trans e2) _ fun H3 e3 => ⟨by show 2 ≤ sizeLine; decide, fun q hq => ⟨Nat.zero_le _, fun p hp => ?_⟩⟩
  have e03 : Ex H H3 := (e1.trans e2).trans e3
  have e4 : Ex H3 (upd (upd H3 q (.tup [.int (i : Int), .int (j : Int)])) p (.lst [])) := (Evl.Ex.new hq).trans (Evl.Ex.new hp)
  have e5 : Ex H _ := e03.trans e4
  have q5 : (upd (upd H3 q (.tup [.int (i : Int), .int (j : Int)])) p (.lst [])) q = some (.tup ((kk i j).map kV)) := by
    rw [upd_ne (ne_of_none upd_same hp), upd_same]
    rfl
  have p0 : H p = none := fresh_back (e03.trans (Evl.Ex.new hq)) hp
  have hfp : f ≠ p := ne_of_none (e03.trans (Evl.Ex.new hq) f _ F.at_) hp
  have f5 := e5 f _ F.at_
  have hl := F.len
  refine ⟨kv, kk i j, q, f5, rfl, q5, sz_lt (by omega), fun v hv => ?_, fun hn => ?_⟩
  · obtain ⟨i', j', a, xs, ek, ev, a0, ha, hx, hne⟩ := F.ent _ _ (valV_mem hv)
    subst ev
    refine k a _ kv ⟨f5, F.f0, F.ex.trans e5, Nat.le_succ_of_le F.len, F.nd, fun k v hk => ?_, F.inj, F.tot⟩ (fun _ h => h) (valV_mem hv) (fun b o hb _ => e5 b o hb)
    obtain ⟨i', j', a, xs, ek, ev, a0, ha, hx, hne⟩ := F.ent k v hk
    exact ⟨i', j', a, xs, ek, ev, a0, e5 a _ ha, dpAll_ex e5 hx, hne.imp id .inl⟩
  · have rn : g i j = [] := Classical.byContradiction fun h => by
      obtain ⟨v, hv⟩ := F.tot i j h
      exact valV_none hn v hv
    have ek : putK kv (kk i j) (V.ref p) = kv ++ [(kk i j, V.ref p)] := putK_new _ hn
    rw [ek]
    have e6 : ∀ b o, H b = some o → b ≠ f → (upd (upd (upd H3 q (.tup [.int (i : Int), .int (j : Int)])) p (.lst [])) f (.dT (kv ++ [(kk i j, V.ref p)]))) b = some o := fun b o hb hne => by
      rw [upd_ne hne]
      exact e5 b o hb
    have tx : TupEx K (upd (upd H3 q (.tup [.int (i : Int), .int (j : Int)])) p (.lst [])) (upd (upd (upd H3 q (.tup [.int (i : Int), .int (j : Int)])) p (.lst [])) f (.dT (kv ++ [(kk i j, V.ref p)]))) := tupEx_upd f5 rfl
    refine k p _ (kv ++ [(kk i j, V.ref p)]) ⟨upd_same, F.f0, ex_upd (F.ex.trans e5) F.f0, ?_, ?_, fun k v hk => ?_, fun k k' a h1 h2 => ?_, fun x y hxy => ?_⟩ (fun p hp => List.mem_append_left _ hp) (List.mem_append_right _ (by simp)) e6
    · simp only [List.length_append, List.length_singleton]
      omega
    · rw [List.map_append, List.nodup_append]
      refine ⟨F.nd, by simp, fun a ha b hb e => ?_⟩
      have hb' : b = kk i j := by simpa using hb
      obtain ⟨pr, hp1, hp2⟩ := List.mem_map.mp ha
      obtain ⟨pk, pw⟩ := pr
      have hp3 : pk = kk i j := by
        have := hp2
        simp only at this
        rw [this, e, hb']
      rw [hp3] at hp1
      exact valV_none hn pw hp1
    · rcases List.mem_append.mp hk with hk | hk
      · obtain ⟨i', j', a, xs, ek, ev, a0, ha, hx, hne⟩ := F.ent k v hk
        have haf : a ≠ f := ne_of ha F.at_ (by intro z; cases z)
        exact ⟨i', j', a, xs, ek, ev, a0, e6 a _ ha haf, dpAll_tup tx (noLs_pairs _) (dpAll_ex e5 hx), hne.imp id .inl⟩
      · have e7 : (k, v) = (kk i j, V.ref p) := by simpa using hk
        obtain ⟨e8, e9⟩ := Prod.mk.inj e7
        refine ⟨i, j, p, [], e8, e9, fresh_back F.ex p0, by rw [upd_ne (Ne.symm hfp), upd_same], ?_, .inr (.inr ⟨rfl, rfl⟩)⟩
        rw [rn]
        exact .nil
    · have old : ∀ {k}, (k, V.ref p) ∉ kv := fun {k} m => by
        obtain ⟨i', j', a, xs, ek, ev, a0, ha, hx, hne⟩ := F.ent _ _ m
        have : p = a := by simpa using ev
        rw [← this, p0] at ha
        cases ha
      rcases List.mem_append.mp h1 with h1 | h1 <;> rcases List.mem_append.mp h2 with h2 | h2
      · exact F.inj k k' a h1 h2
      · have : (k', V.ref a) = (kk i j, V.ref p) := by simpa using h2
        have e9 : a = p := by simpa using (Prod.mk.inj this).2
        rw [e9] at h1
        exact absurd h1 old
      · have : (k, V.ref a) = (kk i j, V.ref p) := by simpa using h1
        have e9 : a = p := by simpa using (Prod.mk.inj this).2
        rw [e9] at h2
        exact absurd h2 old
      · have g1 : (k, V.ref a) = (kk i j, V.ref p) := by simpa using h1
        have g2 : (k', V.ref a) = (kk i j, V.ref p) := by simpa using h2
        rw [(Prod.mk.inj g1).1, (Prod.mk.inj g2).1]
    · obtain ⟨v, hv⟩ := F.tot x y hxy
      exact ⟨v, List.mem_append_left _ hv⟩
def upG (g : Nat → Nat → List Pair) (i j : Nat) (p : Pair) : Nat → Nat → List Pair := fun x y => if x = i ∧ y = j then g x y ++ [p] else g x y
/-- found[i, j].append(p) -/
theorem fo_app {H0 H : Hp} {f a : Addr} {g : Nat → Nat → List Pair} {m : Nat} {S : Nat → Nat → Prop} {kv : List (List L2.Key × V)} {i j : Nat} {p : Pair} (F : FO K H0 H f g m S kv) (ha : (kk i j, V.ref a) ∈ kv) :
    ∃ xs, H a = some (.lst xs) ∧ xs.length = (g i j).length ∧ ∀ H1 v, Ex H H1 → Dp K H1 v (pairD p) → FO K H0 (upd H1 a (.lst (xs ++ [v]))) f (upG g i j p) m S kv := by
  obtain ⟨i0, j0, a0, xs, ek, ev, q0, ha0, hx, hne⟩ := F.ent _ _ ha
  obtain ⟨rfl, rfl⟩ := kk_inj ek
  obtain rfl : a = a0 := by simpa using ev
  refine ⟨xs, ha0, by rw [DpAll.length hx, List.length_map], fun H1 v e1 hv => ?_⟩
  have h1a := e1 a _ ha0
  have tx : TupEx K H1 (upd H1 a (.lst (xs ++ [v]))) := tupEx_upd h1a rfl
  have hfa : f ≠ a := ne_of F.at_ ha0 (by intro z; cases z)
  refine ⟨by rw [upd_ne hfa]; exact e1 f _ F.at_, F.f0, ex_upd (F.ex.trans e1) q0, F.len, F.nd, fun k v' hk => ?_, F.inj, fun x y hxy => ?_⟩
  · obtain ⟨i', j', b, ys, ek', ev', b0, hb, hy, hne'⟩ := F.ent _ _ hk
    by_cases hab : b = a
    · subst hab
      subst ev'
      have : k = kk i j := F.inj _ _ _ hk ha
      rw [this] at ek'
      obtain ⟨rfl, rfl⟩ := kk_inj ek'
      rw [ha0] at hb
      cases hb
      refine ⟨i, j, b, xs ++ [v], this, rfl, b0, upd_same, ?_, hne'.imp (fun _ => ?_) id⟩
      · have e : (upG g i j p i j) = g i j ++ [p] := if_pos ⟨rfl, rfl⟩
        rw [e, List.map_append]
        exact dpAll_snoc (dpAll_tup tx (noLs_pairs _) (dpAll_ex e1 hx)) (dp_tup tx (by simp [pairD, noL, noLs]) hv)
      · have e : (upG g i j p i j) = g i j ++ [p] := if_pos ⟨rfl, rfl⟩
        rw [e]
        simp
    · have hn : ¬ (i' = i ∧ j' = j) := fun ⟨e1, e2⟩ => by
        subst e1 e2
        subst ek' ev'
        have h2 := nodup_val F.nd hk ha
        have : b = a := by simpa using h2
        exact hab this
      have e : (upG g i j p i' j') = g i' j' := if_neg hn
      refine ⟨i', j', b, ys, ek', ev', b0, by rw [upd_ne hab]; exact e1 b _ hb, ?_, ?_⟩
      · rw [e]
        exact dpAll_tup tx (noLs_pairs _) (dpAll_ex e1 hy)
      · rw [e]
        exact hne'
  · by_cases hn : x = i ∧ y = j
    · rw [hn.1, hn.2]
      exact ⟨_, ha⟩
    · have e : (upG g i j p x y) = g x y := if_neg hn
      rw [e] at hxy
      exact F.tot x y hxy
theorem rawL_snoc (ts : List Tie) (t : Tie) (h : t.a ≠ t.b) : rawL (ts ++ [t]) = upG (upG (rawL ts) t.a t.b (t.k, if t.o then 1 else 0)) t.b t.a (t.k, if t.o then 2 else 0) := by
  funext i j
  unfold rawL upG tieAt
  rw [List.filterMap_append]
  by_cases h1 : i = t.a ∧ j = t.b
  · obtain ⟨rfl, rfl⟩ := h1
    rw [if_neg (show ¬ (t.a = t.b ∧ t.b = t.a) from fun z => h z.1), if_pos ⟨rfl, rfl⟩]
    simp
  · by_cases h2 : i = t.b ∧ j = t.a
    · obtain ⟨rfl, rfl⟩ := h2
      rw [if_pos ⟨rfl, rfl⟩, if_neg (show ¬ (t.b = t.a ∧ t.a = t.b) from fun z => h z.2)]
      have : ¬ (t.a = t.b ∧ t.b = t.a) := fun z => h z.1
      simp [List.filterMap_cons, this]
    · rw [if_neg h2, if_neg h1]
      have e1 : ¬ (t.a = i ∧ t.b = j) := fun z => h1 ⟨z.1.symm, z.2.symm⟩
      have e2 : ¬ (t.b = i ∧ t.a = j) := fun z => h2 ⟨z.1.symm, z.2.symm⟩
      simp [List.filterMap_cons, e1, e2]
/-- the loop that tells the pairs of each key, behind m keys -/
structure TL (K : PySem.W.Frag) (H0 : Hp) (fd gd : Addr) (od : Obj) (f : Nat → Nat → List Pair) (kv : List (List L2.Key × V)) (m : Nat) (H : Hp) : Prop where
  lock : H fd = some (.frz od (.dT kv))
  ex : Ex H0 H
  g0 : H0 gd = none
  out : ∃ tk, H gd = some (.dT tk) ∧ tk.length ≤ m ∧ (∀ i j v, valV tk (kk i j) = some v → f i j ≠ [] ∧ Dp K H v (pairsD (sortP (f i j)))) ∧ ∀ p k v, p < m → kv[p]? = some (k, v) → (valV tk k).isSome = true
  ent : ∀ k v, (k, v) ∈ kv → ∃ i j a xs, k = kk i j ∧ v = .ref a ∧ H a = some (.lst xs) ∧ DpAll K H xs ((f i j).map pairD) ∧ f i j ≠ []
theorem TL.more {H0 H H' : Hp} {fd gd : Addr} {od : Obj} {f : Nat → Nat → List Pair} {kv : List (List L2.Key × V)} {m : Nat} (t : TL K H0 fd gd od f kv m H) (e : Ex H H') : TL K H0 fd gd od f kv m H' := by
  refine ⟨e _ _ t.lock, t.ex.trans e, t.g0, ?_, fun k v h => ?_⟩
  · obtain ⟨tk, h1, h2, h3, h4⟩ := t.out
    exact ⟨tk, e _ _ h1, h2, fun i j v hv => ⟨(h3 i j v hv).1, dp_ex e (h3 i j v hv).2⟩, h4⟩
  · obtain ⟨i, j, a, xs, h1, h2, h3, h4, h5⟩ := t.ent k v h
    exact ⟨i, j, a, xs, h1, h2, e _ _ h3, dpAll_ex e h4, h5⟩
theorem noL_pairs (ps : List Pair) : noL (pairsD ps) = true := noLs_pairs ps
def spPairs (K : PySem.W.Frag) : Sp := spP (fun (ts : List Tie) vs H => ∃ v, vs = [v] ∧ Dp K H v (.list (ts.map tieD)) ∧ ts.length ≤ 12 ∧ ∀ t ∈ ts, t.a ≠ t.b) (fun ts _ v H' => ∃ g, v = .ref g ∧ LinksAt K H' g (rawL ts))
theorem cal_pairs_between (T : TX K mg) : Cal P w K mg base 1 "pairs_between" (spPairs K) [] := by
  refine T.cal d_pairs_between (N := ["ties", "found", "one", "other", "kind", "oneway", "there", "back", "told", "ends", "pairs"]) (ps := ["ties"]) (List.mem_of_getElem? (i := 23) rfl) rfl (by decide +kernel) sc_pairs_between (fun _ _ _ _ _ _ us hl => match us, hl with | [_], _ => rfl) (fun vs H Q E h => ?_) (fun cdv A outer s H vs Q E f hr h => ?_)
  · obtain ⟨z, ⟨v, rfl, _⟩, _⟩ := h
    rfl
  · obtain ⟨ts, ⟨v, rfl, hd, hlen, hne⟩, k⟩ := h
    have sc := sc_pairs_between
    refine ⟨_, pss_cons (ps_set (i := 1) sc.nd rfl (by first | exact Or.inl rfl | exact Or.inr rfl) (pe_dnewT))
    (pss_cons (ps_for PassesOwn.never rfl (pi_list (pv 0)) (pg_tup rfl (pgs_cons (pg_name (i := 2) sc.nd rfl (by first | exact Or.inl rfl | exact Or.inr rfl)) (pgs_cons (pg_name (i := 3) sc.nd rfl (by first | exact Or.inl rfl | exact Or.inr rfl)) (pgs_cons (pg_name (i := 4) sc.nd rfl (by first | exact Or.inl rfl | exact Or.inr rfl)) (pgs_cons (pg_name (i := 5) sc.nd rfl (by first | exact Or.inl rfl | exact Or.inr rfl)) (pgs_nil))))))
    (pss_cons (ps_set (i := 6) sc.nd rfl (by first | exact Or.inl rfl | exact Or.inr rfl) (pe_dsetdT (hu_of hr) (pv 1) (pe_tup (pa_cons (pv 2) (pa_cons (pv 3) pa_nil))) (pe_lst (pa_nil)) ⟨rfl, rfl, rfl, rfl⟩))
      (pss_cons (ps_set (i := 7) sc.nd rfl (by first | exact Or.inl rfl | exact Or.inr rfl) (pe_dsetdT (hu_of hr) (pv 1) (pe_tup (pa_cons (pv 3) (pa_cons (pv 2) pa_nil))) (pe_lst (pa_nil)) ⟨rfl, rfl, rfl, rfl⟩))
      (pss_one (ps_if (pt_val (pv 5))
      (pss_cons (ps_expr (pe_bm PySem.F.plainAttrs_list PySem.F.slot_list_append PySem.F.type_list_append mt_append (pv 6) (pa_cons (pe_tup (pa_cons (pv 4) (pa_cons (pe_int) pa_nil))) pa_nil)))
        (pss_one (ps_expr (pe_bm PySem.F.plainAttrs_list PySem.F.slot_list_append PySem.F.type_list_append mt_append (pv 7) (pa_cons (pe_tup (pa_cons (pv 4) (pa_cons (pe_int) pa_nil))) pa_nil)))))
      (pss_cons (ps_expr (pe_bm PySem.F.plainAttrs_list PySem.F.slot_list_append PySem.F.type_list_append mt_append (pv 6) (pa_cons (pe_tup (pa_cons (pv 4) (pa_cons (pe_int) pa_nil))) pa_nil)))
        (pss_one (ps_expr (pe_bm PySem.F.plainAttrs_list PySem.F.slot_list_append PySem.F.type_list_append mt_append (pv 7) (pa_cons (pe_tup (pa_cons (pv 4) (pa_cons (pe_int) pa_nil))) pa_nil))))))))))
    (pss_cons (ps_set (i := 8) sc.nd rfl (by first | exact Or.inl rfl | exact Or.inr rfl) (pe_dnewT))
    (pss_cons (ps_lock (ps_for PassesOwn.never rfl (pi_itemsT (pv 1)) (pg_tup rfl (pgs_cons (pg_name (i := 9) sc.nd rfl (by first | exact Or.inl rfl | exact Or.inr rfl)) (pgs_cons (pg_name (i := 10) sc.nd rfl (by first | exact Or.inl rfl | exact Or.inr rfl)) (pgs_nil))))
    (pss_one (ps_dput (hu_of hr) (pv 8) (pv 9) (pe_callTy call_tuple_of (by rfl) (T.free "tuple") (by decide +kernel) (pa_cons (pe_callB (cr_sortD hr.units) (by rfl) (T.free "sorted") (by decide +kernel) (pa_cons (pv 10) pa_nil)) pa_nil)) rfl))))
    (pss_one (ps_ret (pv 8)))))), ?_⟩
    intro fd hfd
    cases hd with
    | @lst la xs _ hs hA =>
    have e0 : Ex H (upd H fd (.dT [])) := Evl.Ex.new hfd
    refine q_forDX (a := la) (xs := xs) (ds := ts.map tieD) (ev_var rfl) (ex_l e0 hs) (dpAll_ex e0 hA)
      (fun m σ' H' => (∃ o2 o3 o4 o5 o6 o7, σ' = [some (.ref la), some (.ref fd), o2, o3, o4, o5, o6, o7, none, none, none]) ∧ ∃ kv, FO K H H' fd (rawL (ts.take m)) (2 * m) (fun _ _ => False) kv)
      (fun H1 e1 => ⟨⟨_, _, _, _, _, _, rfl⟩, [], ⟨e1 fd _ upd_same, hfd, e0.trans e1, Nat.zero_le _, List.nodup_nil, fun _ _ h => by simp at h, fun _ _ _ h => by simp at h, fun i j h => by simp [rawL] at h⟩⟩)
      (fun m σ' H' p => ?_) (fun m d x σ' H' hd hx p => ?_) (fun σ' H' p => ?_)
    · obtain ⟨_, kv, F⟩ := p
      exact ⟨ex_l F.ex hs, dpAll_ex F.ex hA⟩
    · obtain ⟨⟨o2, o3, o4, o5, o6, o7, rfl⟩, kv, F⟩ := p
      rw [List.getElem?_map] at hd
      obtain ⟨t, ht, rfl⟩ := Option.map_eq_some_iff.mp hd
      have hml : m < ts.length := (List.getElem?_eq_some_iff.mp ht).1
      have htk : ts.take (m + 1) = ts.take m ++ [t] := by
        rw [List.take_add_one, ht]
        rfl
      have hab : t.a ≠ t.b := hne t (List.mem_of_getElem? ht)
      have hrl : ∀ i j, (rawL (ts.take m) i j).length ≤ 12 := fun i j => by
        have h1 : (rawL (ts.take m) i j).length ≤ (ts.take m).length := List.length_filterMap_le _ _
        have h2 : (ts.take m).length ≤ ts.length := by rw [List.length_take]; omega
        omega
      refine g_tup4 hx fun v1 v2 v3 v4 d1 d2 d3 d4 => ?_
      cases d1
      cases d2
      cases d3
      cases d4
      show tSeq _ _ _ [some (.ref la), some (.ref fd), some (V.int t.a), some (V.int t.b), some (V.int t.k), some (V.bl t.o), o6, o7, none, none, none] H'
      refine q_set (fo_setd F (ev_var rfl) (ev_var rfl) (ev_var rfl) (by omega) fun a1 H2 kv2 F2 s2 m2 _ => ?_)
      refine q_set (fo_setd F2 (ev_var rfl) (ev_var rfl) (ev_var rfl) (by omega) fun a2 H3 kv3 F3 s3 m3 _ => ?_)
      have m1 := s3 _ m2
      have hk12 : kk t.a t.b ≠ kk t.b t.a := fun e => hab (kk_inj e).1
      have ha12 : a1 ≠ a2 := fun e => by
        subst e
        exact hk12 (F3.inj _ _ _ m1 m3)
      obtain ⟨xs1, h1, l1, u1⟩ := fo_app (p := (t.k, if t.o then 1 else 0)) F3 m1
      have fin : ∀ {H4 : Hp} {v v' : V} {H5 : Hp}, Ex H3 H4 → Dp K H4 v (pairD (t.k, if t.o then 1 else 0)) → Ex (upd H4 a1 (.lst (xs1 ++ [v]))) H5 → Dp K H5 v' (pairD (t.k, if t.o then 2 else 0)) → ∀ xs2, H3 a2 = some (.lst xs2) →
          ∃ kv, FO K H (upd H5 a2 (.lst (xs2 ++ [v']))) fd (rawL (ts.take (m + 1))) (2 * (m + 1)) (fun _ _ => False) kv := fun {H4 v v' H5} e4 hv e5 hv' xs2 hx2 => by
        have F4 := u1 H4 v e4 hv
        have F5 : FO K H (upd H4 a1 (.lst (xs1 ++ [v]))) fd _ _ _ kv3 := F4
        obtain ⟨xs2', h2, l2, u2⟩ := fo_app (p := (t.k, if t.o then 2 else 0)) F5 m3
        have : xs2' = xs2 := by
          rw [upd_ne (Ne.symm ha12), e4 a2 _ hx2] at h2
          cases h2
          rfl
        subst this
        have F6 := u2 H5 v' e5 hv'
        rw [← rawL_snoc _ _ hab, ← htk] at F6
        refine ⟨kv3, F6.at_, F6.f0, F6.ex, F6.len, F6.nd, fun k v hk => ?_, F6.inj, F6.tot⟩
        obtain ⟨i, j, a, ys, q1, q2, q3, q4, q5, q6⟩ := F6.ent k v hk
        refine ⟨i, j, a, ys, q1, q2, q3, q4, q5, .inl ?_⟩
        rcases q6 with q6 | (q6 | q6) | q6
        · exact q6
        · exact q6.elim
        · obtain ⟨rfl, rfl⟩ := q6
          rw [htk, rawL_snoc _ _ hab]
          simp [upG, hab]
        · obtain ⟨rfl, rfl⟩ := q6
          rw [htk, rawL_snoc _ _ hab]
          simp [upG, hab]
      have hx2 : ∃ xs2, H3 a2 = some (.lst xs2) ∧ xs2.length ≤ 12 := by
        obtain ⟨i, j, a, ys, q1, q2, q3, q4, q5, q6⟩ := F3.ent _ _ m3
        cases q2
        refine ⟨ys, q4, ?_⟩
        rw [DpAll.length q5, List.length_map]
        exact hrl i j
      obtain ⟨xs2, hx2, lx2⟩ := hx2
      have lx1 : xs1.length ≤ 12 := by
        rw [l1]
        exact hrl _ _
      refine s_if (et_B (ev_var rfl)) (fun hb H4 e4 => ?_) fun hb H4 e4 => ?_
      · rw [hb] at fin
        refine q_appP (P := DP K (pairD (t.k, 1))) (e4 a1 _ h1) (ev_var rfl) (ep_tupD (ea_consD (ep_int (ev_var rfl)) (ea_consD (ep_int ev_c) ea_nilD))) (by omega) fun v H5 e5 hv => ?_
        have h2 : (upd H5 a1 (.lst (xs1 ++ [v]))) a2 = some (.lst xs2) := by
          rw [upd_ne (Ne.symm ha12)]
          exact e5 _ _ (e4 _ _ hx2)
        refine s_appP (P := DP K (pairD (t.k, 2))) h2 (ev_var rfl) (ep_tupD (ea_consD (ep_int (ev_var rfl)) (ea_consD (ep_int ev_c) ea_nilD))) (by omega) fun v' H6 e6 hv' => ?_
        exact ⟨⟨_, _, _, _, _, _, rfl⟩, fin (e4.trans e5) hv e6 hv' xs2 hx2⟩
      · rw [hb] at fin
        refine q_appP (P := DP K (pairD (t.k, 0))) (e4 a1 _ h1) (ev_var rfl) (ep_tupD (ea_consD (ep_int (ev_var rfl)) (ea_consD (ep_int ev_c) ea_nilD))) (by omega) fun v H5 e5 hv => ?_
        have h2 : (upd H5 a1 (.lst (xs1 ++ [v]))) a2 = some (.lst xs2) := by
          rw [upd_ne (Ne.symm ha12)]
          exact e5 _ _ (e4 _ _ hx2)
        refine s_appP (P := DP K (pairD (t.k, 0))) h2 (ev_var rfl) (ep_tupD (ea_consD (ep_int (ev_var rfl)) (ea_consD (ep_int ev_c) ea_nilD))) (by omega) fun v' H6 e6 hv' => ?_
        exact ⟨⟨_, _, _, _, _, _, rfl⟩, fin (e4.trans e5) hv e6 hv' xs2 hx2⟩
    · obtain ⟨⟨o2, o3, o4, o5, o6, o7, rfl⟩, kv, F⟩ := p
      have htk : ts.take (ts.map tieD).length = ts := by rw [List.length_map, List.take_length]
      rw [htk, List.length_map] at F
      have hrl : ∀ i j, (rawL ts i j).length ≤ 12 := fun i j => by
        have h1 : (rawL ts i j).length ≤ ts.length := List.length_filterMap_le _ _
        omega
      intro gd hgd
      have hfg : fd ≠ gd := ne_of_none F.at_ hgd
      have eg : Ex H' (upd H' gd (.dT [])) := Evl.Ex.new hgd
      refine ⟨fd, .dT kv, eg fd _ F.at_, True.intro, fun od => ?_⟩
      have g0 : H gd = none := fresh_back F.ex hgd
      have tx : TupEx K (upd H' gd (.dT [])) (upd (upd H' gd (.dT [])) fd (.frz od (.dT kv))) := tupEx_upd (eg fd _ F.at_) rfl
      refine ⟨_, rfl, fd, od, kv, rfl, upd_same, for_it walk_itemsT (fun m σ' H2 => (∃ o9 o10, σ' = [some (.ref la), some (.ref fd), o2, o3, o4, o5, o6, o7, some (.ref gd), o9, o10]) ∧ TL K H fd gd od (rawL ts) kv m H2)
        ⟨⟨_, _, rfl⟩, upd_same, Evl.Ex.mut (F.ex.trans eg) F.f0, g0, ⟨[], by rw [upd_ne (Ne.symm hfg), upd_same], Nat.zero_le _, fun i j v hv => by simp [valV] at hv, fun p k v hp => by omega⟩, fun k v hk => ?_⟩ (fun i σ' H2 _ p => p.2.lock) (fun m x σ' H2 H3 hm p hy => ?_) (fun σ' H2 p => ?_)⟩
      · obtain ⟨i, j, a, ys, q1, q2, q3, q4, q5, q6⟩ := F.ent k v hk
        exact ⟨i, j, a, ys, q1, q2, by rw [upd_ne (ne_of q4 F.at_ (by intro z; cases z))]; exact eg _ _ q4, dpAll_tup tx (noLs_pairs _) (dpAll_ex eg q5), q6.resolve_right id⟩
      · obtain ⟨⟨o9, o10, rfl⟩, t⟩ := p
        obtain ⟨Ta, k, v, q, hkv, rfl, hT, hq, rfl⟩ := hy
        have e3 : Ex H2 (upd H2 Ta (.tup [.ref q, v])) := Evl.Ex.new hT
        have t3 := t.more e3
        obtain ⟨i, j, a, xs, rfl, rfl, ha, hx, hn⟩ := t3.ent _ _ (List.mem_of_getElem? hkv)
        have ht : SqT K (upd H2 Ta (.tup [.ref q, .ref a])) Ta [.ref q, .ref a] := st_of upd_same
        refine ⟨_, _, rfl, ht, rfl, _, _, rfl, _, _, rfl, rfl, ?_⟩
        obtain ⟨tk, h1, h2, h3, h4⟩ := t3.out
        have hlt := F.len
        refine s_dputT (P := DP K (pairsD (sortP (rawL ts i j)))) (EvP.imp (P := DP K (.tuple (sortD ((rawL ts i j).map pairD)))) (ep_tupleOf (EvP.newDp (ep_sortD (ep_evD (ev_var rfl) (.lst (sq_of ha) hx)) (sortOk_pairs _ (by have := hrl i j; omega))))) fun v H4 _ hv => by
          show Dp K H4 v (.tuple ((sortP (rawL ts i j)).map pairD))
          rw [sortBy_map]
          exact hv) (ev_var rfl) (ev_var rfl) h1 (e3 _ _ hq) (by omega) mo_dp fun v H4 e4 hv => ?_
        have t4 := t3.more e4
        obtain ⟨tk', h1', h2', h3', h4'⟩ := t4.out
        rw [e4 _ _ h1] at h1'
        cases h1'
        have tx4 : TupEx K H4 (upd H4 gd (.dT (putK tk (kk i j) v))) := tupEx_upd (e4 _ _ h1) rfl
        refine ⟨⟨_, _, rfl⟩, by rw [upd_ne hfg]; exact t4.lock, Evl.Ex.mut t4.ex t4.g0, t4.g0, ⟨_, upd_same, ?_, fun i' j' v' hv' => ?_, fun p k' w hp hk => ?_⟩, fun k' w hk => ?_⟩
        · have := length_putK tk (kk i j) v
          omega
        · rw [valV_put] at hv'
          by_cases c : kk i' j' = kk i j
          · rw [if_pos c] at hv'
            obtain ⟨rfl, rfl⟩ := kk_inj c
            cases hv'
            exact ⟨hn, dp_tup tx4 (noL_pairs _) hv⟩
          · rw [if_neg c] at hv'
            exact ⟨(h3' i' j' v' hv').1, dp_tup tx4 (noL_pairs _) (h3' i' j' v' hv').2⟩
        · rw [valV_put]
          by_cases c : k' = kk i j
          · rw [if_pos c]
            rfl
          · rw [if_neg c]
            refine h4 p k' w ?_ hk
            rcases Nat.lt_succ_iff_lt_or_eq.mp hp with h | h
            · exact h
            · subst h
              rw [hkv] at hk
              cases hk
              exact absurd rfl c
        · obtain ⟨i', j', b, ys, q1, q2, q3, q4, q5⟩ := t4.ent k' w hk
          exact ⟨i', j', b, ys, q1, q2, by rw [upd_ne (ne_of q3 (e4 _ _ h1) (by intro z; cases z))]; exact q3, dpAll_tup tx4 (noLs_pairs _) q4, q5⟩
      · obtain ⟨⟨o9, o10, rfl⟩, t⟩ := p
        refine ⟨t.lock, ?_⟩
        have tx5 : TupEx K H2 (upd H2 fd (.dT kv)) := fun a xs q => by
          have ne : ∀ u, H2 a = some u → u ≠ .frz od (.dT kv) → a ≠ fd := fun u e1 e2 z => by
            rw [z, t.lock] at e1
            cases e1
            exact e2 rfl
          rcases q with (q | ⟨u, q⟩) | q
          · exact Or.inl (Or.inl (by rw [upd_ne (ne _ q (fun z => nomatch z))]; exact q))
          · exact Or.inl (Or.inr ⟨u, by rw [upd_ne (ne _ q (fun z => by cases z))]; exact q⟩)
          · exact Or.inr q
        obtain ⟨tk, h1, h2, h3, h4⟩ := t.out
        refine s_retE (ev_var rfl) fun H3 e3 => ?_
        refine k _ _ ((Evl.Ex.mut t.ex F.f0).trans e3) ⟨gd, rfl, tk, e3 _ _ (by rw [upd_ne (Ne.symm hfg)]; exact h1), fun i j => ⟨fun hz => ?_, fun hz => ?_⟩⟩
        · cases hv : valV tk (kk i j) with
          | none => rfl
          | some v => exact absurd hz (h3 i j v hv).1
        · obtain ⟨v, hv⟩ := F.tot i j hz
          obtain ⟨p, hp⟩ := List.getElem?_of_mem hv
          have := h4 p _ _ (List.getElem?_eq_some_iff.mp hp).1 hp
          obtain ⟨w', hw⟩ := Option.isSome_iff_exists.mp this
          exact ⟨w', hw, dp_ex e3 (dp_tup tx5 (noL_pairs _) (h3 i j w' hw).2)⟩
end
end L2.Tw
set_option Elab.async false
set_option linter.all false
set_option maxRecDepth 100000
set_option maxHeartbeats 4000000
set_option autoImplicit false
namespace L2.Tw
open PySem PySem.Spec PyProof.Rows L2
open C8 (Cal Met Mak pe_c pe_mk pe_mt pe_mt0 pe_gc InsC)
open Evl (Ex Ev EvT EvA fresh_back ex_l ex_t ex_rd sq_of st_of sz_of sz_lt ev_var ev_c ev_op rv_I0 rv_I rv_eq rv_ne et_test et_or et_and et_not et_B s_if ea_nil ea_cons q_asg q_when)
/-! ### all but one object stay -/
mutual
theorem dp_gen {K : PySem.W.Frag} {H H' : Hp} (l : ∀ a xs, SqL K H a xs → SqL K H' a xs) (t : ∀ a xs, SqT K H a xs → SqT K H' a xs) : ∀ {v : V} {d : PyData}, Dp K H v d → Dp K H' v d
  | _, .none, h => by cases h; exact .non
  | _, .bool b, h => by cases h; exact .bl b
  | _, .int i, h => by cases h; exact .int i
  | _, .str x, h => by cases h; exact .str x
  | _, .list ds, h => by
    cases h with
    | lst hs ha => exact .lst (l _ _ hs) (dpAll_gen l t ha)
  | _, .tuple ds, h => by
    cases h with
    | tup hs ha => exact .tup (t _ _ hs) (dpAll_gen l t ha)
  | _, .dict _, h => by cases h
theorem dpAll_gen {K : PySem.W.Frag} {H H' : Hp} (l : ∀ a xs, SqL K H a xs → SqL K H' a xs) (t : ∀ a xs, SqT K H a xs → SqT K H' a xs) : ∀ {vs : List V} {ds : List PyData}, DpAll K H vs ds → DpAll K H' vs ds
  | _, [], h => by cases h; exact .nil
  | _, d :: ds, h => by
    cases h with
    | cons h1 h2 => exact .cons (dp_gen l t h1) (dpAll_gen l t h2)
end
/-- all that stands stays, but for what is at x -/
def But (x : Addr) (H H' : Hp) : Prop := ∀ q o, H q = some o → q ≠ x → H' q = some o
/-- no list, no tuple, not locked -/
def NoSeq : HO → Bool
  | .lst _ | .tup _ | .frz _ _ => false
  | _ => true
theorem But.refl (x : Addr) (H : Hp) : But x H H := fun _ _ h _ => h
theorem But.ex {x : Addr} {H H1 H2 : Hp} (b : But x H H1) (e : Ex H1 H2) : But x H H2 := fun q o h n => e q o (b q o h n)
theorem ex_but {x : Addr} {H H1 H2 : Hp} (e : Ex H H1) (b : But x H1 H2) : But x H H2 := fun q o h n => b q o (e q o h) n
theorem But.trans {x : Addr} {H H1 H2 : Hp} (a : But x H H1) (b : But x H1 H2) : But x H H2 := fun q o h n => b q o (a q o h n) n
theorem But.upd {x : Addr} {H : Hp} {o : HO} : But x H (upd H x o) := fun q u h n => by rw [upd_ne n]; exact h
theorem But.fresh {x : Addr} {H H1 H2 : Hp} (e : Ex H H1) (b : But x H1 H2) (hx : H x = none) : Ex H H2 := fun q o h => b q o (e q o h) (fun z => by rw [z, hx] at h; cases h)
section
variable {K : PySem.W.Frag} {H H' : Hp} {x : Addr} {o : HO}
theorem sqL_but (hx : H x = some o) (ho : NoSeq o = true) (b : But x H H') : ∀ a xs, SqL K H a xs → SqL K H' a xs := fun a xs h => by
  rcases h with (h | ⟨u, h⟩) | h
  · exact Or.inl (Or.inl (b _ _ h fun z => by rw [z, hx] at h; cases h; cases ho))
  · exact Or.inl (Or.inr ⟨u, b _ _ h fun z => by rw [z, hx] at h; cases h; cases ho⟩)
  · exact Or.inr h
theorem sqT_but (hx : H x = some o) (ho : NoSeq o = true) (b : But x H H') : ∀ a xs, SqT K H a xs → SqT K H' a xs := fun a xs h => by
  rcases h with (h | ⟨u, h⟩) | h
  · exact Or.inl (Or.inl (b _ _ h fun z => by rw [z, hx] at h; cases h; cases ho))
  · exact Or.inl (Or.inr ⟨u, b _ _ h fun z => by rw [z, hx] at h; cases h; cases ho⟩)
  · exact Or.inr h
theorem dp_but {v : V} {d : PyData} (hx : H x = some o) (ho : NoSeq o = true) (b : But x H H') (h : Dp K H v d) : Dp K H' v d := dp_gen (sqL_but hx ho b) (sqT_but hx ho b) h
end
theorem links_ex {K : PySem.W.Frag} {H H' : Hp} {g : Addr} {f : Nat → Nat → List Pair} (e : Ex H H') (h : LinksAt K H g f) : LinksAt K H' g f := by
  obtain ⟨kv, h1, h2⟩ := h
  exact ⟨kv, e _ _ h1, fun i j => ⟨(h2 i j).1, fun hn => by
    obtain ⟨v, h3, h4⟩ := (h2 i j).2 hn
    exact ⟨v, h3, dp_ex e h4⟩⟩⟩
theorem links_but {K : PySem.W.Frag} {H H' : Hp} {g x : Addr} {o : HO} {f : Nat → Nat → List Pair} (hx : H x = some o) (ho : NoSeq o = true) (b : But x H H') (hg : g ≠ x) (h : LinksAt K H g f) : LinksAt K H' g f := by
  obtain ⟨kv, h1, h2⟩ := h
  exact ⟨kv, b _ _ h1 hg, fun i j => ⟨(h2 i j).1, fun hn => by
    obtain ⟨v, h3, h4⟩ := (h2 i j).2 hn
    exact ⟨v, h3, dp_but hx ho b h4⟩⟩⟩
/-! ### webs in the heap -/
structure WebAt (K : PySem.W.Frag) (H : Hp) (p : Addr) (W : Wb) : Prop where
  out : ∃ dx vk vt g, H p = some (.ins (He.ga K "Web") dx [("kinds", vk), ("ties", vt), ("links", .ref g)]) ∧ Dp K H vk (.list (W.kinds.map .str)) ∧ Dp K H vt (.list (W.ties.map tieD)) ∧ LinksAt K H g (raw W)
theorem web_ex {K : PySem.W.Frag} {H H' : Hp} {p : Addr} {W : Wb} (e : Ex H H') (h : WebAt K H p W) : WebAt K H' p W := by
  obtain ⟨dx, vk, vt, g, h1, h2, h3, h4⟩ := h.out
  exact ⟨dx, vk, vt, g, e _ _ h1, dp_ex e h2, dp_ex e h3, links_ex e h4⟩
/-- the web made of kinds and ties -/
def mkW (ks : List Str) (ts : List Tie) : Wb := ⟨ks, sortBy tieD (ts.map plainT)⟩
structure Raw (ks : List Str) (ts : List Tie) : Prop where
  n : 1 ≤ ks.length ∧ ks.length ≤ 7
  m : ts.length ≤ 12
  w : ∀ k ∈ ks, Word k
  t : ∀ t ∈ ts, TieOk ks.length t
theorem plainT_ne {t : Tie} (h : t.a ≠ t.b) : (plainT t).a ≠ (plainT t).b := by
  unfold plainT
  split
  · exact Ne.symm h
  · exact h
section
variable {P : Program} {w : World} {K : PySem.W.Frag} {mg : Str → Option Value} {base : Heap}
/-! ### the heap without some lists -/
open Classical in
noncomputable def cut (S : Addr → Prop) (H : Hp) : Hp := fun a => if S a then none else H a
/-- lists stand at S -/
def Own (H : Hp) (S : Addr → Prop) : Prop := ∀ s, S s → ∃ xs, H s = some (.lst xs)
theorem Own.ex {H H' : Hp} {S : Addr → Prop} (o : Own H S) (e : Ex H H') : Own H' S := fun s hs => by
  obtain ⟨xs, h⟩ := o s hs
  exact ⟨xs, e _ _ h⟩
theorem Own.but {x : Addr} {H H' : Hp} {S : Addr → Prop} (o : Own H S) (b : But x H H') (n : ¬ S x) : Own H' S := fun s hs => by
  obtain ⟨xs, h⟩ := o s hs
  exact ⟨xs, b _ _ h fun z => n (z ▸ hs)⟩
theorem Own.not {H : Hp} {S : Addr → Prop} (o : Own H S) {p : Addr} (h : H p = none) : ¬ S p := fun hs => by
  obtain ⟨xs, e⟩ := o p hs
  rw [h] at e
  cases e
theorem Own.kind {H : Hp} {S : Addr → Prop} (o : Own H S) {p : Addr} {u : HO} (h : H p = some u) (hu : ∀ xs, u ≠ .lst xs) : ¬ S p := fun hs => by
  obtain ⟨xs, e⟩ := o p hs
  rw [h] at e
  exact hu xs (Option.some.inj e)
theorem cut_ex {S : Addr → Prop} {H : Hp} : Ex (cut S H) H := fun a o h => by
  unfold cut at h
  split at h
  · cases h
  · exact h
theorem cut_at {S : Addr → Prop} {a : Addr} {H : Hp} {o : HO} (h : H a = some o) (n : ¬ S a) : cut S H a = some o := by
  unfold cut
  rw [if_neg n]
  exact h
theorem cut_not {S : Addr → Prop} {a : Addr} {H : Hp} {o : HO} (h : cut S H a = some o) : ¬ S a := fun z => by
  unfold cut at h
  rw [if_pos z] at h
  cases h
theorem cut_mono {S : Addr → Prop} {H H' : Hp} (e : Ex H H') : Ex (cut S H) (cut S H') := fun a o h => cut_at (e a o (cut_ex a o h)) (cut_not h)
theorem cut_but {x : Addr} {S : Addr → Prop} {H H' : Hp} (b : But x H H') : But x (cut S H) (cut S H') := fun a o h n => cut_at (b a o (cut_ex a o h) n) (cut_not h)
theorem cut_butIn {x : Addr} {S : Addr → Prop} {H H' : Hp} (b : But x H H') (hx : S x) : Ex (cut S H) (cut S H') := fun a o h => cut_at (b a o (cut_ex a o h) fun z => cut_not h (z ▸ hx)) (cut_not h)
theorem ex_cut {S : Addr → Prop} {H0 H : Hp} (e : Ex H0 H) (n : ∀ s, S s → H0 s = none) : Ex H0 (cut S H) := fun a o h => cut_at (e a o h) fun z => by
  rw [n a z] at h
  cases h
theorem tupEx_cut {K : PySem.W.Frag} {H : Hp} {S : Addr → Prop} (o : Own H S) : TupEx K H (cut S H) := fun a xs h => by
  rcases h with (h | ⟨u, h⟩) | h
  · exact Or.inl (Or.inl (cut_at h (o.kind h (fun _ z => by cases z))))
  · exact Or.inl (Or.inr ⟨u, cut_at h (o.kind h (fun _ z => by cases z))⟩)
  · exact Or.inr h
theorem links_cut {K : PySem.W.Frag} {H : Hp} {S : Addr → Prop} {g : Addr} {f : Nat → Nat → List Pair} (o : Own H S) (h : LinksAt K H g f) : LinksAt K (cut S H) g f := by
  obtain ⟨kv, h1, h2⟩ := h
  refine ⟨kv, cut_at h1 (o.kind h1 (fun _ z => by cases z)), fun i j => ⟨(h2 i j).1, fun hn => ?_⟩⟩
  obtain ⟨v, h3, h4⟩ := (h2 i j).2 hn
  refine ⟨v, h3, dp_tup (tupEx_cut o) ?_ h4⟩
  rw [pairsD, noL]
  exact noLs_iff.mpr fun d hd => by
    obtain ⟨p, _, rfl⟩ := List.mem_map.mp hd
    rfl
def spWeb (K : PySem.W.Frag) : Sp := fun vs H Q _ => ∃ ks ts x dx a b, vs = [.ref x, a, b] ∧ H x = some (.ins (He.ga K "Web") dx []) ∧ Dp K H a (.list (ks.map .str)) ∧ Dp K H b (.list (ts.map tieD)) ∧ Raw ks ts ∧ ∀ H', But x H H' → WebAt K H' x (mkW ks ts) → (∀ S, Own H S → ¬ S x → WebAt K (cut S H') x (mkW ks ts)) → Q .non H'
theorem tupEx_but' {K : PySem.W.Frag} {H H' : Hp} {p C dx : Addr} {fs : List (Str × V)} (hx : H p = some (.ins C dx fs)) (b : But p H H') : TupEx K H H' := fun a xs h => sqT_but hx rfl b a xs h
theorem newL_ex {K : PySem.W.Frag} {H0 : Hp} {ds : List PyData} : ∀ v H1 H2, Ex H1 H2 → NewL K H0 ds v H1 → NewL K H0 ds v H2 := fun v H1 H2 e h => by
  obtain ⟨p, xs, h1, h2, h3, h4⟩ := h
  exact ⟨p, xs, h1, h2, e _ _ h3, dpAll_ex e h4⟩
theorem k_Web_ok (T : TX K mg) : Mak P w K mg base 2 "Web" (He.ga K "Web") (spWeb K) [] := by
  refine T.mak d_Web_init "Web" (N := ["self", "kinds", "ties", "kind", "tie"]) (ps := ["self", "kinds", "ties"]) (List.mem_of_getElem? (i := 24) rfl) rfl (by decide +kernel) (by decide +kernel) sc_Web_init (fun _ _ _ _ _ _ us hl => match us, hl with | [_, _, _], _ => rfl) (fun vs H Q E h => ?_) (fun cdv A outer s H vs Q E f hr h => ?_)
  · obtain ⟨ks, ts, x, dx, a, b, rfl, _⟩ := h
    rfl
  · obtain ⟨ks, ts, x, dx, a, b, rfl, hx, hda, hdb, hok, k⟩ := h
    have sc := sc_Web_init
    have c_is_word := cal_is_word (P := P) (w := w) (base := base) T
    have c_is_tie := cal_is_tie (P := P) (w := w) (base := base) T
    have c_plain_tie := cal_plain_tie (P := P) (w := w) (base := base) T
    have c_pairs_between := cal_pairs_between (P := P) (w := w) (base := base) T
    refine ⟨_, pss_cons (ps_if (PW.pt (pw_or (pt_cmpR op_lt (pe_callB call_len_seq (by rfl) (T.free "len") (by decide +kernel) (pa_cons (pv 1) pa_nil)) (pe_int) (by rfl)) (pw_or (pt_cmpR op_gt (pe_callB call_len_seq (by rfl) (T.free "len") (by decide +kernel) (pa_cons (pv 1) pa_nil)) (pe_gc rfl T.gMOST_PLACES) (by rfl)) (pw_or1 (pt_cmpR op_gt (pe_callB call_len_seq (by rfl) (T.free "len") (by decide +kernel) (pa_cons (pv 2) pa_nil)) (pe_gc rfl T.gMOST_TIES) (by rfl))))))
    (pss_one (ps_never))
    (pss_nil))
    (pss_cons (ps_for PassesOwn.never rfl (pi_list (pv 1)) (pg_name (i := 3) sc.nd rfl (by first | exact Or.inl rfl | exact Or.inr rfl))
    (pss_one (ps_if (pt_not (pt_val (pe_c c_is_word hr (by decide) rfl (pa_cons (pv 3) pa_nil))))
      (pss_one (ps_never))
      (pss_nil))))
    (pss_cons (ps_for PassesOwn.never rfl (pi_list (pv 2)) (pg_name (i := 4) sc.nd rfl (by first | exact Or.inl rfl | exact Or.inr rfl))
    (pss_one (ps_if (pt_not (pt_val (pe_c c_is_tie hr (by decide) rfl (pa_cons (pe_callB call_len_seq (by rfl) (T.free "len") (by decide +kernel) (pa_cons (pv 1) pa_nil)) (pa_cons (pv 4) pa_nil)))))
      (pss_one (ps_never))
      (pss_nil))))
    (pss_cons (ps_fld (pv 0) (pe_callTy call_list_of (by rfl) (T.free "list") (by decide +kernel) (pa_cons (pv 1) pa_nil)) rfl)
    (pss_cons (ps_fld (pv 0) (pe_callB (cr_sortD hr.units) (by rfl) (T.free "sorted") (by decide +kernel) (pa_cons (pe_lc (own := [("tie", 4)]) (g := gName 4) (tt := tYes) (te := _) rfl sc.nd (pi_list (pv 2)) (blkOk_by (own := [("tie", 4)]) rfl) (fun _ _ _ _ _ => pg_name (i := 4) sc.nd rfl (by first | exact Or.inl rfl | exact Or.inr rfl)) (fun _ _ _ _ _ => pts_nil) (fun _ _ _ _ _ => pe_c c_plain_tie hr (by decide) rfl (pa_cons (pv 4) pa_nil))) pa_nil)) rfl)
    (pss_one (ps_fld (pv 0) (pe_c c_pairs_between hr (by decide) rfl (pa_cons (pe_fld (pv 0) rfl) pa_nil)) rfl)))))), ?_⟩
    have hC := T.cls "Web"
    obtain ⟨⟨n1, n7⟩, m12, hw, ht⟩ := hok
    have lenA : ∀ {H1 : Hp} {o3 o4}, Ex H H1 → Ev (tCB (fun xs H Q => ∃ p ys, xs = [.ref p] ∧ (SqL K H p ys ∨ SqT K H p ys) ∧ Q (.int ys.length) H) (tCons (tVar 1) tNil)) [some (.ref x), some a, some b, o3, o4] H1 (.int (ks.length : Int)) := fun {H1 o3 o4} e => by
      have := ev_lenL (te := tVar 1) (σ := [some (.ref x), some a, some b, o3, o4]) (ep_varD rfl (dp_ex e hda))
      rwa [List.length_map] at this
    have lenB : ∀ {H1 : Hp} {o3 o4}, Ex H H1 → Ev (tCB (fun xs H Q => ∃ p ys, xs = [.ref p] ∧ (SqL K H p ys ∨ SqT K H p ys) ∧ Q (.int ys.length) H) (tCons (tVar 2) tNil)) [some (.ref x), some a, some b, o3, o4] H1 (.int (ts.length : Int)) := fun {H1 o3 o4} e => by
      have := ev_lenL (te := tVar 2) (σ := [some (.ref x), some a, some b, o3, o4]) (ep_varD rfl (dp_ex e hdb))
      rwa [List.length_map] at this
    refine Evl.q_when (et_or (et_test (ev_op (lenA (Evl.Ex.refl H)) ev_c rv_I0)) fun _ => et_or (et_test (ev_op (lenA (Evl.Ex.refl H)) ev_c rv_I0)) fun _ => et_test (ev_op (lenB (Evl.Ex.refl H)) ev_c rv_I0)) (fun hb => ?_) fun _ H1 e1 => ?_
    · simp only [Bool.or_eq_true, decide_eq_true_eq] at hb
      omega
    cases hda with
    | @lst la xa _ sa da =>
    cases hdb with
    | @lst lb xb _ sb db =>
    refine q_forDX (ev_var rfl) (ex_l e1 sa) (dpAll_ex e1 da) (fun _ σ' H' => (∃ o3, σ' = [some (.ref x), some (.ref la), some (.ref lb), o3, none]) ∧ Ex H H') (fun H2 e2 => ⟨⟨_, rfl⟩, e1.trans e2⟩) (fun i σ' H' p => ⟨ex_l p.2 sa, dpAll_ex p.2 da⟩) (fun i d y σ' H' hd hy p => ?_) (fun σ' H' p => ?_)
    · obtain ⟨⟨o3, rfl⟩, e2⟩ := p
      rw [List.getElem?_map] at hd
      obtain ⟨kd, hk, rfl⟩ := Option.map_eq_some_iff.mp hd
      cases hy
      refine s_if (et_not (et_B (ev_ofP (ep_call kd (eap_of (ea_cons (ev_var rfl) ea_nil)) (fun vs H3 e3 h => ⟨h, hw kd (List.mem_of_getElem? hk)⟩) (fun H3 v H4 e3 e4 h => h))))) (fun hb => by cases hb) fun _ H3 e3 => ?_
      exact ⟨⟨_, rfl⟩, e2.trans e3⟩
    · obtain ⟨⟨o3, rfl⟩, e2⟩ := p
      refine q_forDX (ev_var rfl) (ex_l e2 sb) (dpAll_ex e2 db) (fun _ σ' H' => (∃ o4, σ' = [some (.ref x), some (.ref la), some (.ref lb), o3, o4]) ∧ Ex H H') (fun H2 e3 => ⟨⟨_, rfl⟩, e2.trans e3⟩) (fun i σ' H' p => ⟨ex_l p.2 sb, dpAll_ex p.2 db⟩) (fun i d y σ' H' hd hy p => ?_) (fun σ' H' p => ?_)
      · obtain ⟨⟨o4, rfl⟩, e3⟩ := p
        rw [List.getElem?_map] at hd
        obtain ⟨t, hk, rfl⟩ := Option.map_eq_some_iff.mp hd
        refine s_if (et_not (et_B (ev_ofP (ep_call (ks.length, t) (ea_consV (lenA e3) (ea_consV (ev_var rfl) ea_nilP)) (fun vs H3 e4 h => by
          obtain ⟨r, rfl, r2, rfl, rfl⟩ := h
          exact ⟨y, rfl, dp_ex e4 hy, ht t (List.mem_of_getElem? hk)⟩) (fun H3 v H4 e3 e4 h => h))))) (fun hb => by cases hb) fun _ H3 e4 => ?_
        exact ⟨⟨_, rfl⟩, e3.trans e4⟩
      · obtain ⟨⟨o4, rfl⟩, e3⟩ := p
        have hA : Dp K H (.ref la) (.list (ks.map .str)) := .lst sa da
        have hB : Dp K H (.ref lb) (.list (ts.map tieD)) := .lst sb db
        refine q_setF (P := NewL K H' (ks.map .str)) (ep_listOf (ep_varD rfl (dp_ex e3 hA))) (ev_var rfl) (e3 _ _ hx) hC (T.noat "Web" "kinds") (by decide) newL_ex fun vk H2 e4 hvkN => ?_
        have hvk : DP K (.list (ks.map .str)) vk H2 := hvkN.dp
        have b2 : But x H (upd H2 x (.ins (He.ga K "Web") dx [("kinds", vk)])) := ex_but (e3.trans e4) But.upd
        have hx2 : (upd H2 x (.ins (He.ga K "Web") dx [("kinds", vk)])) x = some (.ins (He.ga K "Web") dx [("kinds", vk)]) := upd_same
        have hx0 : H2 x = some (.ins (He.ga K "Web") dx []) := e4 _ _ (e3 _ _ hx)
        have hvk2 := dp_but hx0 rfl (But.upd (o := .ins (He.ga K "Web") dx [("kinds", vk)])) hvk
        have hB2 := dp_but hx rfl b2 hB
        show tSeq _ _ _ _ (upd H2 x (.ins (He.ga K "Web") dx [("kinds", vk)]))
        have q1 : ∀ {σ : L2.St} {H3 : Hp}, σ = [some (.ref x), some (.ref la), some (.ref lb), o3, o4] → Ex (upd H2 x (.ins (He.ga K "Web") dx [("kinds", vk)])) H3 → EvP (tLc (iList K (tVar 2)) (gName 4) tYes (tCall (spPlain K) [] C8.E0 (tCons (tVar 4) tNil)) (List.map (fun x => x.snd) [((Str.ofString "tie"), 4)])) σ H3 (NewL K H3 (ts.map fun t => tieD (plainT t))) := fun {σ H3} hσ e5 => by
          subst hσ
          refine ep_lcM (f := tieD) (ep_varD rfl (dp_ex e5 hB2)) (by omega) (fun a ha => by simp [tieD, noL, noLs]) (fun y => rfl) fun t y H4 hm e6 hy => ?_
          refine ep_call t (ea_consV (ev_var rfl) ea_nilP) (fun vs H5 e7 h => ?_) fun H5 v H6 e7 e8 h => h
          obtain ⟨r, rfl, rfl⟩ := h
          exact ⟨y, rfl, dp_ex e7 hy⟩
        have q2 := q1 rfl (Evl.Ex.refl _)
        rw [← show (ts.map plainT).map tieD = ts.map fun t => tieD (plainT t) from List.map_map] at q2
        have q3 := ep_sortM (EvP.newDp q2) (sortOk_ties _ (by rw [List.length_map]; omega))
        refine q_setF (P := NewL K (upd H2 x (.ins (He.ga K "Web") dx [("kinds", vk)])) ((mkW ks ts).ties.map tieD)) q3 (ev_var rfl) hx2 hC (T.noat "Web" "ties") (by simp) newL_ex fun vt H3 e5 hvtN => ?_
        have hvt : DP K (.list ((mkW ks ts).ties.map tieD)) vt H3 := hvtN.dp
        have b3 : But x (upd H2 x (.ins (He.ga K "Web") dx [("kinds", vk)])) (upd H3 x (.ins (He.ga K "Web") dx [("kinds", vk), ("ties", vt)])) := ex_but e5 But.upd
        have hx3 : (upd H3 x (.ins (He.ga K "Web") dx [("kinds", vk), ("ties", vt)])) x = some (.ins (He.ga K "Web") dx [("kinds", vk), ("ties", vt)]) := upd_same
        have hvk3 := dp_but hx2 rfl b3 hvk2
        have hvt3 := dp_but (e5 _ _ hx2) rfl (But.upd (o := .ins (He.ga K "Web") dx [("kinds", vk), ("ties", vt)])) hvt
        show sFld _ _ _ _ _ _ (upd H3 x (.ins (He.ga K "Web") dx [("kinds", vk), ("ties", vt)]))
        have hl : (mkW ks ts).ties.length = ts.length := by
          rw [mkW, List.Perm.length_eq (sortBy_perm _ _), List.length_map]
        have hm : ∀ t ∈ (mkW ks ts).ties, t.a ≠ t.b := fun t h => by
          obtain ⟨t', h', rfl⟩ := List.mem_map.mp ((sortBy_perm _ _).mem_iff.mp h)
          exact plainT_ne (ht t' h').ne
        refine s_setF (P := fun v H' => ∃ g, v = .ref g ∧ LinksAt K H' g (raw (mkW ks ts))) (ep_call (mkW ks ts).ties (ea_consP (P := DP K (.list ((mkW ks ts).ties.map tieD))) (ep_fld (ev_var rfl) hx3 hC (T.noat "Web" "ties") rfl fun H4 e6 => dp_ex e6 hvt3) mo_dp ea_nilP) (fun vs H4 e6 h => ?_) fun H4 v H5 e6 e7 h => h) (ev_var rfl) hx3 hC (T.noat "Web" "links") (by simp) (fun v H1 H2 e h => ?_) fun v H4 e6 h => ?_
        · obtain ⟨v, r, rfl, h1, rfl⟩ := h
          exact ⟨v, rfl, h1, by omega, hm⟩
        · obtain ⟨g, rfl, h⟩ := h
          exact ⟨g, rfl, links_ex e h⟩
        · obtain ⟨g, rfl, h⟩ := h
          have b4 : But x H4 (upd H4 x (.ins (He.ga K "Web") dx [("kinds", vk), ("ties", vt), ("links", .ref g)])) := But.upd
          have hx4 := e6 _ _ hx3
          have bF := (b2.trans b3).trans ((But.refl x _).ex e6 |>.trans b4)
          have gx : g ≠ x := fun z => by
            obtain ⟨kv, h1, _⟩ := h
            rw [z, hx4] at h1
            cases h1
          have hL := links_but hx4 rfl b4 gx h
          refine k _ bF ⟨dx, vk, vt, g, upd_same, dp_but hx4 rfl b4 (dp_ex e6 hvk3), dp_but hx4 rfl b4 (dp_ex e6 hvt3), hL⟩ fun S own nx => ?_
          obtain ⟨pk, xk, rfl, k0, k1, k2⟩ := hvkN
          obtain ⟨pt, xt, rfl, t0, t1, t2⟩ := hvtN
          have ek := dpAll_strs' k2
          subst ek
          have ownF := own.but bF nx
          have pkx : pk ≠ x := fun z => by
            rw [z, e3 _ _ hx] at k0
            cases k0
          have ptx : pt ≠ x := fun z => by
            rw [z, hx2] at t0
            cases t0
          have nt : ¬ S pt := fun z => by
            obtain ⟨xs, h⟩ := own pt z
            have := b2 _ _ h ptx
            rw [t0] at this
            cases this
          have fk := b4 _ _ (e6 _ _ (b3 _ _ ((But.upd (o := .ins (He.ga K "Web") dx [("kinds", V.ref pk)])) _ _ k1 pkx) pkx)) pkx
          have b34 : But x H3 (upd H4 x (.ins (He.ga K "Web") dx [("kinds", V.ref pk), ("ties", V.ref pt), ("links", .ref g)])) := But.trans (But.ex (But.upd (o := .ins (He.ga K "Web") dx [("kinds", V.ref pk), ("ties", V.ref pt)])) e6) b4
          have ft := b34 _ _ t1 ptx
          have hx3' : H3 x = some (.ins (He.ga K "Web") dx [("kinds", V.ref pk)]) := e5 _ _ hx2
          exact ⟨dx, .ref pk, .ref pt, g, cut_at upd_same nx, .lst (sq_of (cut_at fk (own.not (fresh_back e3 k0)))) (dpAll_strs ks), .lst (sq_of (cut_at ft nt)) (dpAll_tup (tupEx_cut ownF) (noLs_iff.mpr fun d hd => by
            obtain ⟨t, _, rfl⟩ := List.mem_map.mp hd
            rfl) (dpAll_tup (tupEx_but' hx3' b34) (noLs_iff.mpr fun d hd => by
            obtain ⟨t, _, rfl⟩ := List.mem_map.mp hd
            rfl) t2)), links_cut ownF hL⟩
/-- Web(kinds, ties) -/
theorem ep_web {σ : L2.St} {H : Hp} {tA : TA} {PA : List V → Hp → Prop} {E : XK} (ks : List Str) (ts : List Tie) (hr : Raw ks ts) (h : EvAP tA σ H PA) (hp : ∀ vs H1, Ex H H1 → PA vs H1 → ∃ a b, vs = [a, b] ∧ Dp K H1 a (.list (ks.map .str)) ∧ Dp K H1 b (.list (ts.map tieD))) :
    EvP (tMake (He.ga K "Web") (spWeb K) [] E tA) σ H (fun v H' => ∃ p, v = .ref p ∧ H p = none ∧ WebAt K H' p (mkW ks ts) ∧ ∀ S, Own H S → WebAt K (cut S H') p (mkW ks ts)) :=
  ep_make (α := Unit) h fun vs H1 e1 q x dx hx hdx hne Q kQ => by
    obtain ⟨a, b, rfl, h1, h2⟩ := hp vs H1 e1 q
    have e2 : Ex H1 (upd (upd H1 dx (.own x)) x (.ins (He.ga K "Web") dx [])) := Evl.Ex.mut (Evl.Ex.new hdx) hx
    refine ⟨ks, ts, x, dx, a, b, rfl, upd_same, dp_ex e2 h1, dp_ex e2 h2, hr, fun H' b' hw hS => kQ H' (But.fresh e2 b' hx) ⟨x, rfl, fresh_back e1 hx, hw, fun S own => hS S (own.ex (e1.trans e2)) (own.not (fresh_back e1 hx))⟩⟩
end
end L2.Tw
set_option Elab.async false
set_option linter.all false
set_option maxRecDepth 100000
set_option maxHeartbeats 4000000
set_option autoImplicit false
namespace L2.Tw
open PySem PySem.Spec PyProof.Rows L2
open C8 (Cal Met Mak pe_c pe_mk pe_mt pe_mt0 pe_gc InsC)
open Evl (Ex Ev EvT EvA fresh_back ex_l ex_t ex_rd sq_of st_of sz_of sz_lt ev_var ev_c ev_op rv_I0 rv_I rv_eq rv_ne et_test et_or et_and et_not et_B s_if ea_nil ea_cons q_asg q_when)
abbrev WOk (W : Wb) : Prop := Raw W.kinds W.ties
theorem plainT_ok {n : Nat} {t : Tie} (h : TieOk n t) : TieOk n (plainT t) := by
  unfold plainT
  split
  · exact ⟨h.b, h.a, Ne.symm h.ne, h.k⟩
  · exact h
theorem mkW_ok {ks : List Str} {ts : List Tie} (h : Raw ks ts) : WOk (mkW ks ts) := by
  refine ⟨h.n, ?_, h.w, fun t ht => ?_⟩
  · show (sortBy tieD (ts.map plainT)).length ≤ 12
    rw [List.Perm.length_eq (sortBy_perm _ _), List.length_map]
    exact h.m
  · obtain ⟨t', h', rfl⟩ := List.mem_map.mp ((sortBy_perm _ _).mem_iff.mp ht)
    exact plainT_ok (h.t t' h')
section
variable {P : Program} {w : World} {K : PySem.W.Frag} {mg : Str → Option Value} {base : Heap}
/-- d.get((i, j), ()) -/
theorem ep_linkGet {σ : L2.St} {H : Hp} {td ti tj : TE} {g : Addr} {kv : List (List L2.Key × V)} {i j : Nat} {ps : List Pair} (hp : ∀ H1, Ex H H1 → (ps = [] ∧ valV kv (kk i j) = none) ∨ ∃ v, valV kv (kk i j) = some v ∧ Dp K H1 v (pairsD ps)) (hd : Ev td σ H (.ref g)) (hg : H g = some (.dT kv)) (hi : Ev ti σ H (.int (i : Int))) (hj : Ev tj σ H (.int (j : Int))) :
    EvP (tDGet2 td (tTup (tCons ti (tCons tj tNil))) (tTup tNil)) σ H (DP K (pairsD ps)) := fun H0 e0 Q q =>
  hd H0 e0 _ fun H1 e1 => ⟨g, rfl, Or.inr ⟨kv, .inl (e1 _ _ (e0 _ _ hg))⟩, hi H1 (e0.trans e1) _ fun H2 e2 => hj H2 ((e0.trans e1).trans e2) _ fun H3 e3 => ⟨by show 2 ≤ sizeLine; decide, fun b hb => ⟨Nat.zero_le _, fun z hz => by
    have e03 : Ex H0 H3 := (e1.trans e2).trans e3
    have e5 : Ex H0 (upd (upd H3 b (.tup [.int (i : Int), .int (j : Int)])) z (.tup [])) := (e03.trans (Evl.Ex.new hb)).trans (Evl.Ex.new hz)
    refine ⟨valV kv (kk i j), DGet.t (k := kk i j) (e5 _ _ (e0 _ _ hg)) (by rw [upd_ne (ne_of_none upd_same hz), upd_same]; rfl), q _ _ e5 ?_⟩
    rcases hp _ (e0.trans e5) with ⟨h1, h2⟩ | ⟨v, h1, h2⟩
    · rw [h1, h2]
      exact .tup (st_of upd_same) .nil
    · rw [h1]
      exact h2⟩⟩⟩
/-- (i, j) in d -/
theorem ev_linkIn {σ : L2.St} {H : Hp} {td ti tj : TE} {g : Addr} {kv : List (List L2.Key × V)} {i j : Nat} (hd : Ev td σ H (.ref g)) (hg : H g = some (.dT kv)) (hi : Ev ti σ H (.int (i : Int))) (hj : Ev tj σ H (.int (j : Int))) :
    Ev (tDIn (tTup (tCons ti (tCons tj tNil))) td) σ H (.bl (valV kv (kk i j)).isSome) := fun H0 e0 Q q =>
  hi H0 e0 _ fun H1 e1 => hj H1 (e0.trans e1) _ fun H2 e2 => ⟨by show 2 ≤ sizeLine; decide, fun b hb => by
    have e3 : Ex H0 (upd H2 b (.tup [.int (i : Int), .int (j : Int)])) := (e1.trans e2).trans (Evl.Ex.new hb)
    exact hd _ (e0.trans e3) _ fun H3 e4 => ⟨g, valV kv (kk i j), rfl, DGet.t (k := kk i j) (e4 _ _ (e3 _ _ (e0 _ _ hg))) (e4 _ _ upd_same), q H3 (e3.trans e4)⟩⟩
/-! ### Web.size -/
def spSize (K : PySem.W.Frag) : Sp := spP (fun (W : Wb) vs H => ∃ p, vs = [.ref p] ∧ WebAt K H p W) (fun W _ v _ => v = .int (W.n : Int))
theorem m_size (T : TX K mg) : Met P w K mg base 1 (He.ga K "Web") "size" (spSize K) [] := by
  refine T.met d_Web_size "Web" "size" (N := ["self"]) (ps := ["self"]) (List.mem_of_getElem? (i := 25) rfl) rfl (by decide +kernel) (by decide +kernel) sc_Web_size (fun _ _ _ _ _ _ us hl => match us, hl with | [_], _ => rfl) (fun vs H Q E h => ?_) (fun cdv A outer s H vs Q E f hr h => ?_)
  · obtain ⟨W, ⟨p, rfl, _⟩, _⟩ := h
    rfl
  · obtain ⟨W, ⟨p, rfl, hw⟩, k⟩ := h
    have sc := sc_Web_size
    refine ⟨_, pss_one (ps_ret (pe_callB call_len_seq (by rfl) (T.free "len") (by decide +kernel) (pa_cons (pe_fld (pv 0) rfl) pa_nil))), ?_⟩
    obtain ⟨dx, vk, vt, g, h1, h2, h3, h4⟩ := hw.out
    have q := ev_lenL (te := tFld K (tVar 0) "kinds") (σ := [some (.ref p)]) (H := H) (ds := W.kinds.map .str) (ep_fld (ev_var rfl) h1 (T.cls "Web") (T.noat "Web" "kinds") rfl fun H1 e => dp_ex e h2)
    rw [List.length_map] at q
    refine s_retE q fun H1 e1 => ?_
    exact k _ _ e1 rfl
/-! ### Web.between -/
def spBetween (K : PySem.W.Frag) : Sp := spP (fun (x : Wb × Nat × Nat) vs H => ∃ p, vs = [.ref p, .int (x.2.1 : Int), .int (x.2.2 : Int)] ∧ WebAt K H p x.1) (fun x _ v H' => Dp K H' v (pairsD (bt x.1 x.2.1 x.2.2)))
theorem m_between (T : TX K mg) : Met P w K mg base 1 (He.ga K "Web") "between" (spBetween K) [] := by
  refine T.met d_Web_between "Web" "between" (N := ["self", "one", "other"]) (ps := ["self", "one", "other"]) (List.mem_of_getElem? (i := 26) rfl) rfl (by decide +kernel) (by decide +kernel) sc_Web_between (fun _ _ _ _ _ _ us hl => match us, hl with | [_, _, _], _ => rfl) (fun vs H Q E h => ?_) (fun cdv A outer s H vs Q E f hr h => ?_)
  · obtain ⟨x, ⟨p, rfl, _⟩, _⟩ := h
    rfl
  · obtain ⟨⟨W, i, j⟩, ⟨p, rfl, hw⟩, k⟩ := h
    dsimp only at hw k ⊢
    have sc := sc_Web_between
    refine ⟨_, pss_one (ps_ret (pe_dget2 (hu_of hr) (pe_fld (pv 0) rfl) (pe_tup (pa_cons (pv 1) (pa_cons (pv 2) pa_nil))) (pe_tup (pa_nil)) ⟨rfl, rfl, rfl, rfl⟩)), ?_⟩
    obtain ⟨dx, vk, vt, g, h1, h2, h3, kv, h4, h5⟩ := hw.out
    have h5' : ∀ H1, Ex H H1 → (bt W i j = [] ∧ valV kv (kk i j) = none) ∨ ∃ v, valV kv (kk i j) = some v ∧ Dp K H1 v (pairsD (bt W i j)) := fun H1 e1 => by
      by_cases c : raw W i j = []
      · refine .inl ⟨?_, (h5 i j).1 c⟩
        unfold bt
        rw [c]
        exact List.mergeSort_nil
      · obtain ⟨v, h6, h7⟩ := (h5 i j).2 c
        exact .inr ⟨v, h6, dp_ex e1 h7⟩
    refine s_retP (P := DP K (pairsD (bt W i j))) (ep_linkGet (fun H1 e1 => h5' H1 e1) (ev_fld (v := .ref g) (ev_var rfl) h1 (T.cls "Web") (T.noat "Web" "links") rfl) h4 (ev_var rfl) (ev_var rfl)) fun v H1 e1 hv => k _ _ e1 hv
/-! ### Web.near -/
def nearL (W : Wb) (i : Nat) : List Nat := (List.range W.n).filter fun j => !(raw W i j).isEmpty
def spNear (K : PySem.W.Frag) : Sp := spP (fun (x : Wb × Nat) vs H => ∃ p, vs = [.ref p, .int (x.2 : Int)] ∧ WebAt K H p x.1 ∧ x.1.n ≤ 7) (fun x H v H' => NewL K H ((nearL x.1 x.2).map fun (j : Nat) => .int (j : Int)) v H')
theorem m_near (T : TX K mg) : Met P w K mg base 1 (He.ga K "Web") "near" (spNear K) [] := by
  refine T.met d_Web_near "Web" "near" (N := ["self", "place", "other"]) (ps := ["self", "place"]) (List.mem_of_getElem? (i := 27) rfl) rfl (by decide +kernel) (by decide +kernel) sc_Web_near (fun _ _ _ _ _ _ us hl => match us, hl with | [_, _], _ => rfl) (fun vs H Q E h => ?_) (fun cdv A outer s H vs Q E f hr h => ?_)
  · obtain ⟨x, ⟨p, rfl, _⟩, _⟩ := h
    rfl
  · obtain ⟨⟨W, i⟩, ⟨p, rfl, hw, h7⟩, k⟩ := h
    dsimp only at hw h7 k ⊢
    have sc := sc_Web_near
    refine ⟨_, pss_one (ps_ret (pe_lc (own := [("other", 2)]) (g := gName 2) (tt := tB (tDIn (_) (tFld K (_) _))) (te := _) rfl sc.nd (pi_range1 rfl (T.free "range") (pa_cons (pe_callB call_len_seq (by rfl) (T.free "len") (by decide +kernel) (pa_cons (pe_fld (pv 0) rfl) pa_nil)) pa_nil)) (blkOk_by (own := [("other", 2)]) rfl) (fun _ _ _ _ _ => pg_name (i := 2) sc.nd rfl (by first | exact Or.inl rfl | exact Or.inr rfl)) (fun _ _ _ _ _ => pts_one (pt_cmp (pc_din (hu_of hr) (pe_tup (pa_cons (pv 1) (pa_cons (pv 2) pa_nil))) (pe_fld (pv 0) rfl)))) (fun _ _ _ _ _ => pv 2))), ?_⟩
    obtain ⟨dx, vk, vt, g, h1, h2, h3, kv, h4, h5⟩ := hw.out
    have q := ev_lenL (te := tFld K (tVar 0) "kinds") (σ := [some (.ref p), some (.int (i : Int)), none]) (H := H) (ds := W.kinds.map .str) (ep_fld (ev_var rfl) h1 (T.cls "Web") (T.noat "Web" "kinds") rfl fun H1 e => dp_ex e h2)
    rw [List.length_map] at q
    refine s_retP (P := NewL K H ((nearL W i).map fun (j : Nat) => .int (j : Int))) (ep_lcR (n := W.n) (fun j => !(raw W i j).isEmpty) (fun j => .int (j : Int)) (ea_cons q ea_nil) (by omega) (fun _ _ _ => rfl) (fun x => rfl) (fun j H1 e1 hj => ?_) fun j H1 e1 hj _ => ep_int (ev_var rfl)) fun v H1 e1 hv => k _ _ e1 hv
    have : (valV kv (kk i j)).isSome = !(raw W i j).isEmpty := by
      by_cases c : raw W i j = []
      · rw [(h5 i j).1 c, c]
        rfl
      · obtain ⟨v, h6, _⟩ := (h5 i j).2 c
        rw [h6]
        cases hr : raw W i j with
        | nil => exact absurd hr c
        | cons a b => rfl
    rw [← this]
    exact et_B (ev_linkIn (ev_fld (v := .ref g) (ev_var rfl) (e1 _ _ h1) (T.cls "Web") (T.noat "Web" "links") rfl) (e1 _ _ h4) (ev_var rfl) (ev_var rfl))
/-! ### is_order -/
def natsD (l : List Nat) : PyData := .list (l.map fun (j : Nat) => .int (j : Int))
theorem sortOk_ints (l : List Nat) (hl : l.length ≤ 100000) : SortOk (l.map fun (j : Nat) => PyData.int (j : Int)) :=
  ⟨allAlike_map (fun _ _ => rfl) l, .inr fun d hd => by
    obtain ⟨a, _, rfl⟩ := List.mem_map.mp hd
    exact ⟨fun h => (by cases h), fun xs h => (by cases h)⟩, fun d hd => by
    obtain ⟨a, _, rfl⟩ := List.mem_map.mp hd
    simp [PyData.depth], by rw [List.length_map]; exact hl⟩
theorem sort_range {l : List Nat} {n : Nat} (h : l.Perm (List.range n)) : sortD (l.map fun (j : Nat) => PyData.int (j : Int)) = (List.range n).map fun (j : Nat) => PyData.int (j : Int) := by
  rw [sortD_of_perm (h.map _) (allAlike_map (fun _ _ => rfl) l)]
  refine List.mergeSort_of_pairwise ?_
  rw [List.pairwise_map]
  exact List.pairwise_lt_range.imp fun {a b} hab => by
    show (!PySem.W.dataLt (.int (b : Int)) (.int (a : Int))) = true
    have : ¬ ((b : Int) < (a : Int)) := by omega
    rw [PySem.W.dataLt_int, decide_eq_false this]
    rfl
theorem ep_rangeL {σ : L2.St} {H : Hp} {te : TE} {n : Nat} (h : Ev te σ H (.int (n : Int))) (hn : n ≤ 1000) : EvP (tLstRg (tRg1 te)) σ H (NewL K H ((List.range n).map fun (j : Nat) => .int (j : Int))) := fun H1 e Q q =>
  h H1 e _ fun H2 e2 => ⟨(n : Int), rfl, ⟨by omega, by omega, by omega, by omega, by omega⟩, fun p hp => q _ _ (e2.trans (Evl.Ex.new hp)) ⟨p, _, rfl, fresh_back (e.trans e2) hp, upd_same, by
    have e : rgV 0 (n : Int) = ((List.range n).map fun (j : Nat) => (j : Int)).map V.int := by
      unfold rgV
      rw [List.map_map, show ((n : Int) - 0).toNat = n by omega]
      refine List.map_congr_left fun a _ => ?_
      show V.int (0 + (a : Int)) = V.int (a : Int)
      rw [Int.zero_add]
    rw [e, show (List.range n).map (fun (j : Nat) => PyData.int (j : Int)) = ((List.range n).map fun (j : Nat) => (j : Int)).map PyData.int from (List.map_map ..).symm]
    exact dpAll_ints _⟩⟩
def spIsOrder (K : PySem.W.Frag) : Sp := spP (fun (x : Nat × List Nat) vs H => ∃ v, vs = [.int (x.1 : Int), v] ∧ Dp K H v (natsD x.2) ∧ x.2.Perm (List.range x.1) ∧ x.1 ≤ 7) (fun _ _ v _ => v = .bl true)
theorem cal_is_order (T : TX K mg) : Cal P w K mg base 1 "is_order" (spIsOrder K) [] := by
  refine T.cal d_is_order (N := ["size", "order"]) (ps := ["size", "order"]) (List.mem_of_getElem? (i := 28) rfl) rfl (by decide +kernel) sc_is_order (fun _ _ _ _ _ _ us hl => match us, hl with | [_, _], _ => rfl) (fun vs H Q E h => ?_) (fun cdv A outer s H vs Q E f hr h => ?_)
  · obtain ⟨x, ⟨v, rfl, _⟩, _⟩ := h
    rfl
  · obtain ⟨⟨n, l⟩, ⟨v, rfl, hd, hp, h7⟩, k⟩ := h
    dsimp only at hd hp h7 k ⊢
    have sc := sc_is_order
    refine ⟨_, pss_one (ps_ret (pe_cmpR (op_eqP hr.units) (pe_callB (cr_sortD hr.units) (by rfl) (T.free "sorted") (by decide +kernel) (pa_cons (pv 1) pa_nil)) (pe_listRg rfl rfl (T.free "list") (prg_1 rfl (T.free "range") (pv 0))) (by rfl))), ?_⟩
    have hl : l.length = n := by rw [hp.length_eq, List.length_range]
    have q1 := EvP.newDp (ep_sortD (ep_varD (σ := [some (.int (n : Int)), some v]) (i := 1) (H := H) rfl hd) (sortOk_ints l (by omega)))
    rw [sort_range hp] at q1
    have q2 := EvP.newDp (ep_rangeL (K := K) (σ := [some (.int (n : Int)), some v]) (H := H) (te := tVar 0) (n := n) (ev_var rfl) (by omega))
    have pl : PlainD (.list ((List.range n).map fun (j : Nat) => .int (j : Int))) := Pd.pl (pd_list (pd_map (fun _ => pd_int _) _))
    refine s_retE (rv_eqP pl pl q1 q2) fun H1 e1 => ?_
    refine k _ _ e1 ?_
    rw [(eqv_iff (alike_self _ pl.pl) pl.pl).mpr rfl]
/-! ### turned -/
def stand (o : List Nat) (x : Nat) : Nat := o.idxOf x
def ledT (o : List Nat) (t : Tie) : Tie := ⟨stand o t.a, stand o t.b, t.k, t.o⟩
def turnW (W : Wb) (o : List Nat) : Wb := mkW (o.map (kindOf W)) (W.ties.map (ledT o))
theorem stand_lt {o : List Nat} {n x : Nat} (h : o.Perm (List.range n)) (hx : x < n) : stand o x < o.length ∧ o[stand o x]? = some x := by
  have hm : x ∈ o := h.mem_iff.mpr (List.mem_range.mpr hx)
  have h1 : o.idxOf x < o.length := List.idxOf_lt_length_of_mem hm
  refine ⟨h1, ?_⟩
  show o[o.idxOf x]? = some x
  rw [List.getElem?_eq_getElem h1, List.getElem_idxOf h1]
theorem stand_at {o : List Nat} {n i x : Nat} (h : o.Perm (List.range n)) (hi : o[i]? = some x) : stand o x = i := by
  have nd : o.Nodup := h.nodup_iff.mpr List.nodup_range
  obtain ⟨h1, rfl⟩ := List.getElem?_eq_some_iff.mp hi
  exact nd.idxOf_getElem i h1
theorem order_lt {o : List Nat} {n i x : Nat} (h : o.Perm (List.range n)) (hi : o[i]? = some x) : x < n := List.mem_range.mp (h.mem_iff.mp (List.mem_of_getElem? hi))
theorem kindOf_get {W : Wb} {i : Nat} (h : i < W.n) : W.kinds[i]? = some (kindOf W i) := by
  unfold kindOf
  rw [List.getD_eq_getElem?_getD, List.getElem?_eq_getElem h]
  rfl
theorem turn_raw {W : Wb} {o : List Nat} (hw : WOk W) (h : o.Perm (List.range W.n)) : Raw (o.map (kindOf W)) (W.ties.map (ledT o)) := by
  have hl : o.length = W.n := by rw [h.length_eq, List.length_range]
  refine ⟨by rw [List.length_map, hl]; exact hw.n, by rw [List.length_map]; exact hw.m, fun k hk => ?_, fun t ht => ?_⟩
  · obtain ⟨x, hx, rfl⟩ := List.mem_map.mp hk
    have h1 : x < W.n := List.mem_range.mp (h.mem_iff.mp hx)
    exact hw.w _ (List.mem_of_getElem? (kindOf_get h1))
  · obtain ⟨t', h', rfl⟩ := List.mem_map.mp ht
    have q := hw.t t' h'
    have qa := stand_lt h q.a
    have qb := stand_lt h q.b
    rw [List.length_map]
    refine ⟨qa.1, qb.1, fun e => q.ne ?_, q.k⟩
    have e' : stand o t'.a = stand o t'.b := e
    rw [e', qb.2] at qa
    exact (Option.some.inj qa.2).symm
theorem turn_ok {W : Wb} {o : List Nat} (hw : WOk W) (h : o.Perm (List.range W.n)) : WOk (turnW W o) := mkW_ok (turn_raw hw h)
def spTurned (K : PySem.W.Frag) : Sp := spP (fun (x : Wb × List Nat) vs H => ∃ p v, vs = [.ref p, v] ∧ WebAt K H p x.1 ∧ WOk x.1 ∧ Dp K H v (natsD x.2) ∧ x.2.Perm (List.range x.1.n)) (fun x H v H' => ∃ p, v = .ref p ∧ H p = none ∧ WebAt K H' p (turnW x.1 x.2))
theorem ints_of {H : Hp} {o : List Nat} {xs : List V} (h : DpAll K H xs (o.map fun (j : Nat) => .int (j : Int))) : xs = o.map fun (j : Nat) => V.int (j : Int) := by
  rw [show o.map (fun (j : Nat) => PyData.int (j : Int)) = (o.map fun (j : Nat) => (j : Int)).map PyData.int from (List.map_map ..).symm] at h
  rw [dpAll_ints' h, List.map_map]
  rfl
theorem cal_turned (T : TX K mg) : Cal P w K mg base 4 "turned" (spTurned K) [] := by
  refine T.cal d_turned (N := ["web", "order", "stands", "place", "old", "kinds", "ties", "one", "other", "kind", "oneway"]) (ps := ["web", "order"]) (List.mem_of_getElem? (i := 29) rfl) rfl (by decide +kernel) sc_turned (fun _ _ _ _ _ _ us hl => match us, hl with | [_, _], _ => rfl) (fun vs H Q E h => ?_) (fun cdv A outer s H vs Q E f hr h => ?_)
  · obtain ⟨x, ⟨p, v, rfl, _⟩, _⟩ := h
    rfl
  · obtain ⟨⟨W, o⟩, ⟨p, v, rfl, hw, hok, hd, hp⟩, k⟩ := h
    dsimp only at hw hok hd hp k ⊢
    have sc := sc_turned
    have c_is_order := cal_is_order (P := P) (w := w) (base := base) T
    have m_Web_size := m_size (P := P) (w := w) (base := base) T
    have k_Web := k_Web_ok (P := P) (w := w) (base := base) T
    refine ⟨_, pss_cons (ps_if (pt_not (pt_val (pe_c c_is_order hr (by decide) rfl (pa_cons (pe_mt0 m_Web_size hr (by decide) (pv 0)) (pa_cons (pv 1) pa_nil)))))
    (pss_one (ps_never))
    (pss_nil))
    (pss_cons (ps_set (i := 2) sc.nd rfl (by first | exact Or.inl rfl | exact Or.inr rfl) (pe_dnewK))
    (pss_cons (ps_for PassesOwn.never rfl (pi_enum (by rfl) (T.free "enumerate") (pa_cons (pv 1) pa_nil)) (pg_tup rfl (pgs_cons (pg_name (i := 3) sc.nd rfl (by first | exact Or.inl rfl | exact Or.inr rfl)) (pgs_cons (pg_name (i := 4) sc.nd rfl (by first | exact Or.inl rfl | exact Or.inr rfl)) (pgs_nil))))
    (pss_one (ps_dput (hu_of hr) (pv 2) (pv 4) (pv 3) rfl)))
    (pss_cons (ps_setLc (i := 5) (own := [("old", 4)]) (g := gName 4) (tt := tYes) (te := tOp (rIxL K) (tFld K (_) _) (_)) rfl sc.nd rfl rfl (sw_true rfl rfl rfl (by decide +kernel)) (pi_list (pv 1)) (blkOk_by (own := [("old", 4)]) rfl) (fun _ _ _ _ _ => pg_name (i := 4) sc.nd rfl (by first | exact Or.inl rfl | exact Or.inr rfl)) (fun _ _ _ _ _ => pts_nil) (fun _ _ _ _ _ => pe_ix ix_list (pe_fld (pv 0) rfl) (pv 4) (fun _ _ => rfl)))
    (pss_cons (ps_setLc (i := 6) (own := [("one", 7), ("other", 8), ("kind", 9), ("oneway", 10)]) (g := gTup K 4 (gCons (gName 7) (gCons (gName 8) (gCons (gName 9) (gCons (gName 10) (gNil)))))) (tt := tYes) (te := _) rfl sc.nd rfl rfl (sw_true rfl rfl rfl (by decide +kernel)) (pi_list (pe_fld (pv 0) rfl)) (blkOk_by (own := [("one", 7), ("other", 8), ("kind", 9), ("oneway", 10)]) rfl) (fun _ _ _ _ _ => pg_tup rfl (pgs_cons (pg_name (i := 7) sc.nd rfl (by first | exact Or.inl rfl | exact Or.inr rfl)) (pgs_cons (pg_name (i := 8) sc.nd rfl (by first | exact Or.inl rfl | exact Or.inr rfl)) (pgs_cons (pg_name (i := 9) sc.nd rfl (by first | exact Or.inl rfl | exact Or.inr rfl)) (pgs_cons (pg_name (i := 10) sc.nd rfl (by first | exact Or.inl rfl | exact Or.inr rfl)) (pgs_nil)))))) (fun _ _ _ _ _ => pts_nil) (fun _ _ _ _ _ => pe_tup (pa_cons (pe_dget (hu_of hr) (pv 2) (pv 7) (fun _ _ => rfl)) (pa_cons (pe_dget (hu_of hr) (pv 2) (pv 8) (fun _ _ => rfl)) (pa_cons (pv 9) (pa_cons (pv 10) pa_nil))))))
    (pss_one (ps_ret (pe_mk k_Web hr (by decide) rfl (pa_cons (pv 5) (pa_cons (pv 6) pa_nil))))))))), ?_⟩
    have n7 : W.n ≤ 7 := hok.n.2
    have hl : o.length = W.n := by rw [hp.length_eq, List.length_range]
    obtain ⟨dx, vk, vt, g, h1, h2, h3, h4⟩ := hw.out
    have hC := T.cls "Web"
    refine Evl.q_when (et_not (et_B (ev_ofP (ep_call (W.n, o) (ea_consV (v := .int (W.n : Int)) (ev_ofP (ep_meth W (ev_var rfl) h1 rfl ea_nilP (fun vs H1 e1 h => by subst h; exact ⟨p, rfl, web_ex e1 hw⟩) fun H1 v H2 e1 e2 h => h)) (ea_consV (ev_var rfl) ea_nilP)) (fun vs H1 e1 h => by
      obtain ⟨r, rfl, r2, rfl, rfl⟩ := h
      exact ⟨v, rfl, dp_ex e1 hd, hp, n7⟩) fun H1 v H2 e1 e2 h => h)))) (fun hb => by cases hb) fun _ H1 e1 => ?_
    intro sd hsd
    have es : Ex H1 (upd H1 sd (.dK [])) := Evl.Ex.new hsd
    cases hd with
    | @lst la xs _ sl dl =>
    have hxs := ints_of dl
    subst hxs
    have h0d : H sd = none := fresh_back e1 hsd
    refine q_forE (ev_var rfl) (ex_l (e1.trans es) sl) (fun m σ' H' => (∃ o3 o4, σ' = [some (.ref p), some (.ref la), some (.ref sd), o3, o4, none, none, none, none, none, none]) ∧ Ex H H' ∧ ∃ kv, H' sd = some (.dK kv) ∧ kv.length ≤ m ∧ ∀ i x, i < m → o[i]? = some x → valV kv (Sum.inl (x : Int)) = some (.int (i : Int)))
      (fun H2 e2 => ⟨⟨_, _, rfl⟩, e1.trans (es.trans e2), [], e2 _ _ upd_same, Nat.zero_le _, fun i x hi => by omega⟩) (fun m σ' H' p => ex_l p.2.1 sl) (fun m x σ' H' H2 hx p e2 => ?_) (fun σ' H' p => ?_)
    · obtain ⟨⟨o3, o4, rfl⟩, e3, kv, h5, h6, h7⟩ := p
      rw [List.getElem?_map] at hx
      obtain ⟨y, hy, rfl⟩ := Option.map_eq_some_iff.mp hx
      have hm : m < o.length := (List.getElem?_eq_some_iff.mp hy).1
      refine s_dputK (k := Sum.inl (y : Int)) (P := fun v _ => v = .int (m : Int)) (ep_ev (ev_var rfl) fun _ _ => rfl) (ev_var rfl) (ev_var rfl) (e2 _ _ h5) (by omega) (fun _ _ _ _ h => h) fun v H3 e4 hv => ?_
      subst hv
      refine ⟨⟨_, _, rfl⟩, Evl.Ex.mut ((e3.trans e2).trans e4) h0d, _, upd_same, ?_, fun i x hi hxi => ?_⟩
      · have := length_putK kv (Sum.inl (y : Int)) (.int (m : Int))
        omega
      · rw [valV_put]
        by_cases c : (Sum.inl (x : Int) : L2.Key) = Sum.inl (y : Int)
        · rw [if_pos c]
          have exy : x = y := by
            have := Sum.inl.inj c
            omega
          subst exy
          rw [← stand_at hp hxi, stand_at hp hy]
        · rw [if_neg c]
          refine h7 i x ?_ hxi
          rcases Nat.lt_succ_iff_lt_or_eq.mp hi with h | h
          · exact h
          · subst h
            rw [hy] at hxi
            cases hxi
            exact absurd rfl c
    · obtain ⟨⟨o3, o4, rfl⟩, e3, kv, h5, h6, h7⟩ := p
      rw [List.length_map] at h7 h6
      have hst : ∀ x, x < W.n → valV kv (Sum.inl (x : Int)) = some (.int (stand o x : Int)) := fun x hx => h7 _ x (stand_lt hp hx).1 (stand_lt hp hx).2
      have hdo : Dp K H (.ref la) (.list (o.map fun (j : Nat) => .int (j : Int))) := .lst sl dl
      refine q_asgP (P := DP K (.list ((o.map (kindOf W)).map .str))) (EvP.imp (P := NewL K H' (o.map fun j => .str (kindOf W j))) (ep_lcM (f := fun (j : Nat) => .int (j : Int)) (ep_varD rfl (dp_ex e3 hdo)) (by omega) (fun _ _ => rfl) (fun x => rfl) fun a x H2 ha e2 hx => ?_) fun v H2 _ h => ?_) fun v1 H2 e4 hv1 => ?_
      · cases hx
        have hlt : a < W.n := List.mem_range.mp (hp.mem_iff.mp ha)
        exact ep_ixL (ds := W.kinds.map .str) (ep_fld (ev_var rfl) (e2 _ _ (e3 _ _ h1)) hC (T.noat "Web" "kinds") rfl fun H3 e5 => dp_ex (e3.trans (e2.trans e5)) h2) (ev_var rfl) (by rw [List.getElem?_map, kindOf_get hlt]; rfl)
      · rw [List.map_map]
        exact h.dp
      · refine q_asgP (P := DP K (.list ((W.ties.map (ledT o)).map tieD))) (EvP.imp (P := NewL K H2 (W.ties.map fun t => tieD (ledT o t))) (ep_lcG (f := tieD) (EvP.imp (P := DP K (.list (W.ties.map tieD))) (ep_fld (ev_var rfl) (e4 _ _ (e3 _ _ h1)) hC (T.noat "Web" "ties") rfl fun H3 e5 => dp_ex (e3.trans (e4.trans e5)) h3) fun _ _ _ h => h) (by have := hok.m; omega) (fun t ht => by simp [tieD, noL, noLs]) fun t x H3 ht e5 hx => ?_) fun v H3 _ h => ?_) fun v2 H3 e5 hv2 => ?_
        · refine ⟨[some (.ref p), some (.ref la), some (.ref sd), o3, o4, some v1, none, some (.int t.a), some (.int t.b), some (.int t.k), some (.bl t.o)], rfl, fun H4 Q e6 q => ?_, ?_⟩
          · refine g_tup4 (dp_ex e6 hx) fun v1 v2 v3 v4 d1 d2 d3 d4 => ?_
            cases d1
            cases d2
            cases d3
            cases d4
            exact q
          · have q := hok.t t ht
            refine ep_tupD (ds := [.int (stand o t.a : Int), .int (stand o t.b : Int), .int t.k, .bool t.o]) (ea_consD (ep_int (ev_dgetK (k := Sum.inl (t.a : Int)) (ev_var rfl) (ev_var rfl) (e5 _ _ (e4 _ _ h5)) (hst _ q.a))) (ea_consD (ep_int (ev_dgetK (k := Sum.inl (t.b : Int)) (ev_var rfl) (ev_var rfl) (e5 _ _ (e4 _ _ h5)) (hst _ q.b))) (ea_consD (ep_int (ev_var rfl)) (ea_consD (ep_bl (ev_var rfl)) ea_nilD))))
        · rw [List.map_map]
          exact h.dp
        · refine s_retP (ep_web _ _ (turn_raw hok hp) (ea_consD (ds := [.list ((W.ties.map (ledT o)).map tieD)]) (ep_varD rfl (dp_ex e5 hv1)) (ea_consD (ep_varD rfl hv2) ea_nilD)) fun vs H4 e6 h => ?_) fun v H4 e6 h => ?_
          · cases h with
            | cons h1 h2 =>
              cases h2 with
              | cons h2 h3 =>
                cases h3
                exact ⟨_, _, rfl, h1, h2⟩
          · obtain ⟨p', rfl, hp', hw', _⟩ := h
            exact k _ _ (e3.trans (e4.trans (e5.trans e6))) ⟨p', rfl, fresh_back (e3.trans (e4.trans e5)) hp', hw'⟩
end
end L2.Tw
set_option Elab.async false
set_option linter.all false
set_option maxRecDepth 100000
set_option maxHeartbeats 4000000
set_option autoImplicit false
namespace L2.Tw
open PySem PySem.Spec PyProof.Rows L2
open Evl (Ex Ev EvT EvA fresh_back ex_l ex_t ex_rd sq_of st_of sz_of sz_lt)
section
variable {K : PySem.W.Frag} {σ : L2.St} {H H' H0 : Hp} {ta tb te tx tl td ty tv : TE} {t u : TT} {x y z v : V} {r : R2} {P P' : VP} {d e : PyData} {ds es : List PyData} {tA tr : TA} {PA : List V → Hp → Prop} {D : Ends} {tu tw tbd tz : TS} {g : TG} {p : Addr} {o : HO}
theorem tupEx_but (hx : H p = some o) (hm : Mutb o = true) (b : But p H H') : TupEx K H H' := fun a xs h => by
  rcases h with (h | ⟨u, h⟩) | h
  · exact Or.inl (Or.inl (b _ _ h fun z => by rw [z, hx] at h; cases h; cases hm))
  · exact Or.inl (Or.inr ⟨u, b _ _ h fun z => by rw [z, hx] at h; cases h; cases hm⟩)
  · exact Or.inr h
theorem sqL_but' {a : Addr} {xs : List V} (b : But p H H') (hn : a ≠ p) (h : SqL K H a xs) : SqL K H' a xs := by
  rcases h with (h | ⟨u, h⟩) | h
  · exact Or.inl (Or.inl (b _ _ h hn))
  · exact Or.inl (Or.inr ⟨u, b _ _ h hn⟩)
  · exact Or.inr h
/-- a list that grows at p, all else standing as in H0 -/
def AccB (K : PySem.W.Frag) (p : Addr) (H0 : Hp) (ds : List PyData) (H : Hp) : Prop := But p H0 H ∧ ∃ xs, H p = some (.lst xs) ∧ DpAll K H xs ds
theorem AccB.ex (a : AccB K p H0 ds H) (e : Ex H H') : AccB K p H0 ds H' := by
  obtain ⟨b, xs, h1, h2⟩ := a
  exact ⟨b.ex e, xs, e _ _ h1, dpAll_ex e h2⟩
theorem AccB.dp (a : AccB K p H0 ds H) : Dp K H (.ref p) (.list ds) := by
  obtain ⟨b, xs, h1, h2⟩ := a
  exact .lst (sq_of h1) h2
theorem accB_new {xs : List V} (h : H p = some (.lst xs)) (hd : DpAll K H xs ds) : AccB K p H ds H := ⟨But.refl _ _, xs, h, hd⟩
theorem accB_put (a : AccB K p H0 ds H) (hn : noLs ds = true) (hd : noL d = true) (hv : Dp K H v d) {xs : List V} (hx : H p = some (.lst xs)) : AccB K p H0 (ds ++ [d]) (upd H p (.lst (xs ++ [v]))) := by
  obtain ⟨b, ys, h1, h2⟩ := a
  obtain rfl : ys = xs := by
    rw [h1] at hx
    cases hx
    rfl
  have tx : TupEx K H (upd H p (.lst (ys ++ [v]))) := tupEx_upd h1 rfl
  exact ⟨But.trans b But.upd, _, upd_same, dpAll_snoc (dpAll_tup tx hn h2) (dp_tup tx hd hv)⟩
theorem s_accB (a : AccB K p H0 ds H) (ha : Ev ta σ H (.ref p)) (h : EvP te σ H (DP K d)) (hn : noLs ds = true) (hd : noL d = true) (hz : ds.length < 100000) (k : ∀ H', AccB K p H0 (ds ++ [d]) H' → D.nx σ H') :
    tDrop (tBM K "list" rAppend ta (tCons te tNil)) D σ H := by
  obtain ⟨b, xs, h1, h2⟩ := a
  exact s_appP h1 ha h (by rw [DpAll.length h2]; exact hz) fun v H1 e1 hv => k _ (accB_put (AccB.ex ⟨b, xs, h1, h2⟩ e1) hn hd hv (e1 _ _ h1))
theorem q_accB (a : AccB K p H0 ds H) (ha : Ev ta σ H (.ref p)) (h : EvP te σ H (DP K d)) (hn : noLs ds = true) (hd : noL d = true) (hz : ds.length < 100000) (k : ∀ H', AccB K p H0 (ds ++ [d]) H' → tz D σ H') :
    tSeq (tDrop (tBM K "list" rAppend ta (tCons te tNil))) tz D σ H := s_accB (D := { D with nx := tz D }) a ha h hn hd hz k
theorem noLs_snoc {ds : List PyData} {d : PyData} (h : noLs ds = true) (hd : noL d = true) : noLs (ds ++ [d]) = true := noLs_iff.mpr fun e he => by
  rcases List.mem_append.mp he with he | he
  · exact noLs_iff.mp h e he
  · rw [show e = d by simpa using he]
    exact hd
/-- for .. in e, e a list that is told by its data -/
theorem s_forNX (h : EvP tl σ H (DP K (.list ds))) (k : ∀ a xs H1, Ex H H1 → SqL K H1 a xs → DpAll K H1 xs ds → ∃ Pv : Nat → L2.St → Hp → Prop, Pv 0 σ H1 ∧ (∀ i σ' H', Pv i σ' H' → SqL K H' a xs ∧ DpAll K H' xs ds) ∧
      (∀ i d x σ' H', ds[i]? = some d → Dp K H' x d → Pv i σ' H' → g x σ' H' fun σ2 H2 => tbd { D with nx := Pv (i + 1), ct := Pv (i + 1), bk := D.nx } σ2 H2) ∧ (∀ σ' H', Pv ds.length σ' H' → D.nx σ' H')) : tFor (iList K tl) g tbd D σ H :=
  h H (Evl.Ex.refl H) _ fun v H1 e hv => by
    cases hv with
    | @lst a xs _ hs hA =>
    obtain ⟨Pv, k1, k2, k3, k4⟩ := k a xs H1 e hs hA
    exact ⟨a, rfl, ⟨xs, hs⟩, for_list Pv k1 (fun i σ' H' _ p => (k2 i σ' H' p).1) (fun i x σ' H' hx p => by
      obtain ⟨d, hd1, hd2⟩ := dpAll_get (k2 i σ' H' p).2 hx
      exact k3 i d x σ' H' hd1 hd2 p) fun σ' H' p => k4 σ' H' (by rw [← DpAll.length hA]; exact p)⟩
theorem q_forNX (h : EvP tl σ H (DP K (.list ds))) (k : ∀ a xs H1, Ex H H1 → SqL K H1 a xs → DpAll K H1 xs ds → ∃ Pv : Nat → L2.St → Hp → Prop, Pv 0 σ H1 ∧ (∀ i σ' H', Pv i σ' H' → SqL K H' a xs ∧ DpAll K H' xs ds) ∧
      (∀ i d x σ' H', ds[i]? = some d → Dp K H' x d → Pv i σ' H' → g x σ' H' fun σ2 H2 => tbd { nx := Pv (i + 1), rt := D.rt, ct := Pv (i + 1), bk := tz D } σ2 H2) ∧ (∀ σ' H', Pv ds.length σ' H' → tz D σ' H')) : tSeq (tFor (iList K tl) g tbd) tz D σ H :=
  s_forNX (D := { D with nx := tz D }) h k
theorem s_forNU (h : EvP tl σ H (DP K (.tuple ds))) (k : ∀ a xs H1, Ex H H1 → SqT K H1 a xs → DpAll K H1 xs ds → ∃ Pv : Nat → L2.St → Hp → Prop, Pv 0 σ H1 ∧ (∀ i σ' H', Pv i σ' H' → SqT K H' a xs ∧ DpAll K H' xs ds) ∧
      (∀ i d x σ' H', ds[i]? = some d → Dp K H' x d → Pv i σ' H' → g x σ' H' fun σ2 H2 => tbd { D with nx := Pv (i + 1), ct := Pv (i + 1), bk := D.nx } σ2 H2) ∧ (∀ σ' H', Pv ds.length σ' H' → D.nx σ' H')) : tFor (iTup K tl) g tbd D σ H :=
  h H (Evl.Ex.refl H) _ fun v H1 e hv => by
    cases hv with
    | @tup a xs _ hs hA =>
    obtain ⟨Pv, k1, k2, k3, k4⟩ := k a xs H1 e hs hA
    exact ⟨a, rfl, ⟨xs, hs⟩, for_tup Pv k1 (fun i σ' H' _ p => (k2 i σ' H' p).1) (fun i x σ' H' hx p => by
      obtain ⟨d, hd1, hd2⟩ := dpAll_get (k2 i σ' H' p).2 hx
      exact k3 i d x σ' H' hd1 hd2 p) fun σ' H' p => k4 σ' H' (by rw [← DpAll.length hA]; exact p)⟩
theorem q_forNU (h : EvP tl σ H (DP K (.tuple ds))) (k : ∀ a xs H1, Ex H H1 → SqT K H1 a xs → DpAll K H1 xs ds → ∃ Pv : Nat → L2.St → Hp → Prop, Pv 0 σ H1 ∧ (∀ i σ' H', Pv i σ' H' → SqT K H' a xs ∧ DpAll K H' xs ds) ∧
      (∀ i d x σ' H', ds[i]? = some d → Dp K H' x d → Pv i σ' H' → g x σ' H' fun σ2 H2 => tbd { nx := Pv (i + 1), rt := D.rt, ct := Pv (i + 1), bk := tz D } σ2 H2) ∧ (∀ σ' H', Pv ds.length σ' H' → tz D σ' H')) : tSeq (tFor (iTup K tl) g tbd) tz D σ H :=
  s_forNU (D := { D with nx := tz D }) h k
/-- for .. in e, e a new list -/
theorem s_forNN (h : EvP tl σ H (NewL K H ds)) (k : ∀ a xs H1, Ex H H1 → H a = none → H1 a = some (.lst xs) → DpAll K H1 xs ds → ∃ Pv : Nat → L2.St → Hp → Prop, Pv 0 σ H1 ∧ (∀ i σ' H', Pv i σ' H' → SqL K H' a xs ∧ DpAll K H' xs ds) ∧
      (∀ i d x σ' H', ds[i]? = some d → Dp K H' x d → Pv i σ' H' → g x σ' H' fun σ2 H2 => tbd { D with nx := Pv (i + 1), ct := Pv (i + 1), bk := D.nx } σ2 H2) ∧ (∀ σ' H', Pv ds.length σ' H' → D.nx σ' H')) : tFor (iList K tl) g tbd D σ H :=
  h H (Evl.Ex.refl H) _ fun v H1 e ⟨a, xs, hv, h0, h1, hA⟩ => by
    obtain ⟨Pv, k1, k2, k3, k4⟩ := k a xs H1 e h0 h1 hA
    subst hv
    exact ⟨a, rfl, ⟨xs, sq_of h1⟩, for_list Pv k1 (fun i σ' H' _ p => (k2 i σ' H' p).1) (fun i x σ' H' hx p => by
      obtain ⟨d, hd1, hd2⟩ := dpAll_get (k2 i σ' H' p).2 hx
      exact k3 i d x σ' H' hd1 hd2 p) fun σ' H' p => k4 σ' H' (by rw [← DpAll.length hA]; exact p)⟩
theorem q_forNN (h : EvP tl σ H (NewL K H ds)) (k : ∀ a xs H1, Ex H H1 → H a = none → H1 a = some (.lst xs) → DpAll K H1 xs ds → ∃ Pv : Nat → L2.St → Hp → Prop, Pv 0 σ H1 ∧ (∀ i σ' H', Pv i σ' H' → SqL K H' a xs ∧ DpAll K H' xs ds) ∧
      (∀ i d x σ' H', ds[i]? = some d → Dp K H' x d → Pv i σ' H' → g x σ' H' fun σ2 H2 => tbd { nx := Pv (i + 1), rt := D.rt, ct := Pv (i + 1), bk := tz D } σ2 H2) ∧ (∀ σ' H', Pv ds.length σ' H' → tz D σ' H')) : tSeq (tFor (iList K tl) g tbd) tz D σ H :=
  s_forNN (D := { D with nx := tz D }) h k
theorem NewL.up (e : Ex H0 H) (h : NewL K H ds v H') : NewL K H0 ds v H' := by
  obtain ⟨p, xs, h1, h2, h3, h4⟩ := h
  exact ⟨p, xs, h1, fresh_back e h2, h3, h4⟩
theorem NewL.ex {H1 : Hp} (h : NewL K H0 ds v H) (e : Ex H H1) : NewL K H0 ds v H1 := by
  obtain ⟨p, xs, h1, h2, h3, h4⟩ := h
  exact ⟨p, xs, h1, h2, e _ _ h3, dpAll_ex e h4⟩
/-- [e] -/
theorem ep_lst1 (h : EvP te σ H P) : EvP (tLst (tCons te tNil)) σ H (fun v H' => ∃ p x H2, v = .ref p ∧ H p = none ∧ H' p = some (.lst [x]) ∧ Ex H H2 ∧ P x H2 ∧ H2 p = none ∧ Ex H2 H') := fun H1 e Q q =>
  h H1 e _ fun x H2 e2 hx => ⟨by show 1 ≤ sizeLine; decide, fun p hp => q _ _ (e2.trans (Evl.Ex.new hp)) ⟨p, x, H2, rfl, fresh_back (e.trans e2) hp, upd_same, e.trans e2, hx, hp, Evl.Ex.new hp⟩⟩
/-- a display of a tuple, whatever is known of the items -/
theorem ep_tupA (h : EvAP tA σ H PA) (hl : ∀ vs H1, PA vs H1 → vs.length ≤ 100) : EvP (tTup tA) σ H (fun v H' => ∃ p vs H2, v = .ref p ∧ H p = none ∧ H2 p = none ∧ H' p = some (.tup vs) ∧ Ex H H2 ∧ PA vs H2 ∧ Ex H2 H') := fun H1 e Q q =>
  h H1 e _ fun vs H2 e2 hx => ⟨sz_of (by have := hl vs H2 hx; omega), fun p hp => q _ _ (e2.trans (Evl.Ex.new hp)) ⟨p, vs, H2, rfl, fresh_back (e.trans e2) hp, hp, upd_same, e.trans e2, hx, Evl.Ex.new hp⟩⟩
/-! last item -/
theorem atI_neg1 {xs : List V} {v : V} (h : xs.getLast? = some v) : atI xs (-1) = some v := by
  obtain ⟨ys, rfl⟩ := List.getLast?_eq_some_iff.mp h
  exact atI_last ys v
theorem dpAll_last {xs : List V} (h : DpAll K H xs ds) (hd : ds.getLast? = some d) : ∃ v, xs.getLast? = some v ∧ Dp K H v d := by
  rw [List.getLast?_eq_getElem?] at hd ⊢
  rw [DpAll.length h]
  exact dpAll_get' h hd
theorem ev_neg {i : Int} (h : Ev ta σ H (.int i)) : Ev (tUn (rU fun i => .int (-i)) ta) σ H (.int (-i)) := Evl.ev_un h Evl.ru_neg
theorem ep_ixLn (ha : EvP ta σ H (DP K (.list ds))) (hb : Ev tb σ H (.int (-1))) (hd : ds.getLast? = some d) : EvP (tOp (rIxL K) ta tb) σ H (DP K d) := fun H1 e Q q =>
  ha H1 e _ fun x H2 e2 hx => hb H2 (e.trans e2) _ fun H3 e3 => by
    cases hx with
    | lst hs hA =>
      obtain ⟨v, h1, h2⟩ := dpAll_last hA hd
      exact ⟨_, _, _, v, rfl, rfl, ex_l e3 hs, atI_neg1 h1, q v H3 (e2.trans e3) (dp_ex e3 h2)⟩
/-! methods of lists -/
theorem tyV_lst {H : Hp} {v : V} (h : Dp K H v (.list ds)) : tyV K "list" v H := by
  cases h with
  | lst hs ha => exact Or.inl ⟨rfl, _, hs⟩
theorem ev_index {j : Nat} (ho : EvP ta σ H (DP K (.list ds))) (h : EvP te σ H (DP K d)) (ha : AllPl ds) (hd : PlainD d) (hj : SeqAt.dataPlace ds d = some j) : Ev (tBM K "list" (rIndexP K) ta (tCons te tNil)) σ H (.int (j : Int)) := fun H1 e Q q =>
  ho H1 e _ fun x H2 e2 hx => ⟨tyV_lst hx, h H2 (e.trans e2) _ fun v H3 e3 hv => by
    cases hx with
    | lst hs hA => exact ⟨_, v, _, d, ds, j, rfl, rfl, ex_l e3 hs, dpAll_ex e3 hA, hv, ha, hd, hj, q H3 (e2.trans e3)⟩⟩
theorem ev_count {ns : List Int} {i : Int} (ho : EvP ta σ H (DP K (.list (ns.map .int)))) (h : Ev te σ H (.int i)) : Ev (tBM K "list" (rCntI K) ta (tCons te tNil)) σ H (.int (ns.count i : Nat)) := fun H1 e Q q =>
  ho H1 e _ fun x H2 e2 hx => ⟨tyV_lst hx, h H2 (e.trans e2) _ fun H3 e3 => by
    cases hx with
    | lst hs hA =>
      have := dpAll_ints' hA
      subst this
      exact ⟨_, ns, i, rfl, rfl, ex_l e3 hs, q H3 (e2.trans e3)⟩⟩
theorem count_nat (l : List Nat) (i : Nat) : (l.map fun (j : Nat) => (j : Int)).count (i : Int) = l.count i := by
  induction l with
  | nil => rfl
  | cons a l ih =>
    rw [List.map_cons, List.count_cons, List.count_cons, ih]
    have : ((a : Int) == (i : Int)) = (a == i) := by
      rw [Bool.eq_iff_iff, beq_iff_eq, beq_iff_eq]
      omega
    rw [this]
theorem ev_countN {l : List Nat} {i : Nat} (ho : EvP ta σ H (DP K (natsD l))) (h : Ev te σ H (.int (i : Int))) : Ev (tBM K "list" (rCntI K) ta (tCons te tNil)) σ H (.int (l.count i : Nat)) := by
  have e : natsD l = .list ((l.map fun (j : Nat) => (j : Int)).map .int) := by
    unfold natsD
    rw [List.map_map]
    rfl
  rw [e] at ho
  have q := ev_count ho h
  rw [count_nat] at q
  exact q
/-- an item of a list of places -/
theorem ev_ixN {l : List Nat} {i y : Nat} (ha : EvP ta σ H (DP K (natsD l))) (hb : Ev tb σ H (.int (i : Int))) (hy : l[i]? = some y) : Ev (tOp (rIxL K) ta tb) σ H (.int (y : Int)) :=
  ev_intD (ep_ixL ha hb (by rw [List.getElem?_map, hy]; rfl))
theorem noL_nats (l : List Nat) : noLs (l.map fun (j : Nat) => PyData.int (j : Int)) = true := noLs_iff.mpr fun d hd => by
  obtain ⟨a, _, rfl⟩ := List.mem_map.mp hd
  rfl
end
end L2.Tw
set_option Elab.async false
set_option linter.all false
set_option maxRecDepth 100000
set_option maxHeartbeats 4000000
set_option autoImplicit false
namespace L2.Tw
open PySem PySem.Spec PyProof.Rows L2
open C8 (Cal Met Mak pe_c pe_mk pe_mt pe_mt0 pe_gc InsC)
open Evl (Ex Ev EvT EvA fresh_back ex_l ex_t ex_rd sq_of st_of sz_of sz_lt ev_var ev_c ev_op rv_I0 rv_I rv_eq rv_ne et_test et_or et_and et_not et_B s_if ea_nil ea_cons q_asg q_when)
section
variable {P : Program} {w : World} {K : PySem.W.Frag} {mg : Str → Option Value} {base : Heap}
theorem ev_size {σ : L2.St} {H : Hp} {tob : TE} {E : XK} {p : Addr} {W : Wb} (hw : WebAt K H p W) (ho : Ev tob σ H (.ref p)) : Ev (tMeth (He.ga K "Web") "size" (spSize K) [] E tob tNil) σ H (.int (W.n : Int)) := by
  obtain ⟨dx, vk, vt, g, h1, h2, h3, h4⟩ := hw.out
  exact ev_ofP (ep_meth W ho h1 rfl ea_nilP (fun vs H1 e1 h => by subst h; exact ⟨p, rfl, web_ex e1 hw⟩) fun H1 v H2 e1 e2 h => h)
theorem ep_between {σ : L2.St} {H : Hp} {tob ti tj : TE} {E : XK} {p : Addr} {W : Wb} {i j : Nat} (hw : WebAt K H p W) (ho : Ev tob σ H (.ref p)) (hi : Ev ti σ H (.int (i : Int))) (hj : Ev tj σ H (.int (j : Int))) :
    EvP (tMeth (He.ga K "Web") "between" (spBetween K) [] E tob (tCons ti (tCons tj tNil))) σ H (DP K (pairsD (bt W i j))) := by
  obtain ⟨dx, vk, vt, g, h1, h2, h3, h4⟩ := hw.out
  exact ep_meth (W, i, j) ho h1 rfl (eap_of (ea_cons hi (ea_cons hj ea_nil))) (fun vs H1 e1 h => by subst h; exact ⟨p, rfl, web_ex e1 hw⟩) fun H1 v H2 e1 e2 h => h
theorem ep_near {σ : L2.St} {H : Hp} {tob ti : TE} {E : XK} {p : Addr} {W : Wb} {i : Nat} (hw : WebAt K H p W) (h7 : W.n ≤ 7) (ho : Ev tob σ H (.ref p)) (hi : Ev ti σ H (.int (i : Int))) :
    EvP (tMeth (He.ga K "Web") "near" (spNear K) [] E tob (tCons ti tNil)) σ H (NewL K H ((nearL W i).map fun (j : Nat) => .int (j : Int))) := by
  obtain ⟨dx, vk, vt, g, h1, h2, h3, h4⟩ := hw.out
  exact ep_meth (W, i) ho h1 rfl (eap_of (ea_cons hi ea_nil)) (fun vs H1 e1 h => by subst h; exact ⟨p, rfl, web_ex e1 hw, h7⟩) fun H1 v H2 e1 e2 h => NewL.up e1 h
abbrev natsL (l : List Nat) : List PyData := l.map fun (j : Nat) => .int (j : Int)
/-! ### ranked -/
structure Keys (ds : List PyData) : Prop where
  srt : SortOk ds
  pd : ∀ d ∈ ds, Pd 6 d
  nl : noLs ds = true
  len : ds.length ≤ 100
def spRanked (K : PySem.W.Frag) : Sp := spP (fun (ds : List PyData) vs H => ∃ v, vs = [v] ∧ Dp K H v (.list ds) ∧ Keys ds) (fun ds H v H' => NewL K H (natsL (rankL ds)) v H')
theorem stepU_some {un : List PyData} {l d : PyData} (h : un.getLast? = some l) : stepU un d = if PyData.eqv l d = true then un else un ++ [d] := by
  unfold stepU
  rw [h]
theorem fold_take {S : List PyData} {m : Nat} {d : PyData} (h : S[m]? = some d) : (S.take (m + 1)).foldl stepU [] = stepU ((S.take m).foldl stepU []) d := by
  rw [List.take_add_one, h, List.foldl_append]
  rfl
theorem fold_mem {S : List PyData} {d : PyData} (h : d ∈ S.foldl stepU []) : d ∈ S := by
  have gen : ∀ (S un : List PyData), d ∈ S.foldl stepU un → d ∈ un ∨ d ∈ S := by
    intro S
    induction S with
    | nil => intro un h; exact .inl h
    | cons a S ih =>
      intro un h
      rcases ih _ h with h | h
      · rcases stepU_mem h with h | h
        · exact .inl h
        · exact .inr (by rw [h]; exact List.mem_cons_self)
      · exact .inr (List.mem_cons_of_mem _ h)
  rcases gen S [] h with h | h
  · cases h
  · exact h
theorem fold_len (S : List PyData) : (S.foldl stepU []).length ≤ S.length := by
  have gen : ∀ (S un : List PyData), (S.foldl stepU un).length ≤ un.length + S.length := by
    intro S
    induction S with
    | nil => intro un; exact Nat.le_refl _
    | cons a S ih =>
      intro un
      have h1 := ih (stepU un a)
      have h2 : (stepU un a).length ≤ un.length + 1 := by
        unfold stepU
        split
        · simp
        · split
          · omega
          · simp
      simp only [List.foldl_cons, List.length_cons] at *
      omega
  have := gen S []
  simpa using this
theorem cal_ranked (T : TX K mg) : Cal P w K mg base 1 "ranked" (spRanked K) [] := by
  refine T.cal d_ranked (N := ["keys", "unlike", "key"]) (ps := ["keys"]) (List.mem_of_getElem? (i := 0) rfl) rfl (by decide +kernel) sc_ranked (fun _ _ _ _ _ _ us hl => match us, hl with | [_], _ => rfl) (fun vs H Q E h => ?_) (fun cdv A outer s H vs Q E f hr h => ?_)
  · obtain ⟨x, ⟨v, rfl, _⟩, _⟩ := h
    rfl
  · obtain ⟨ds, ⟨v, rfl, hd, hk⟩, k⟩ := h
    have sc := sc_ranked
    refine ⟨_, pss_cons (ps_set (i := 1) sc.nd rfl (by first | exact Or.inl rfl | exact Or.inr rfl) (pe_lst (pa_nil)))
    (pss_cons (ps_for PassesOwn.never rfl (pi_list (pe_callB (cr_sortD hr.units) (by rfl) (T.free "sorted") (by decide +kernel) (pa_cons (pv 0) pa_nil))) (pg_name (i := 2) sc.nd rfl (by first | exact Or.inl rfl | exact Or.inr rfl))
    (pss_one (ps_if (PW.pt (pw_or (pt_cmpR (op_eqP hr.units) (pv 1) (pe_lst (pa_nil)) (by rfl)) (pw_or1 (pt_cmpR (op_neP hr.units) (pe_ix ix_list (pv 1) (pe_un un_neg (pe_int)) (fun _ _ => rfl)) (pv 2) (by rfl)))))
      (pss_one (ps_expr (pe_bm PySem.F.plainAttrs_list PySem.F.slot_list_append PySem.F.type_list_append mt_append (pv 1) (pa_cons (pv 2) pa_nil))))
      (pss_nil))))
    (pss_one (ps_ret (pe_lc (own := [("key", 2)]) (g := gName 2) (tt := tYes) (te := tBM K _ (rIndexP K) (_) (_)) rfl sc.nd (pi_list (pv 0)) (blkOk_by (own := [("key", 2)]) rfl) (fun _ _ _ _ _ => pg_name (i := 2) sc.nd rfl (by first | exact Or.inl rfl | exact Or.inr rfl)) (fun _ _ _ _ _ => pts_nil) (fun _ _ _ _ _ => pe_bm PySem.F.plainAttrs_list PySem.F.slot_list_index PySem.F.type_list_index (mt_indexP hr.units65) (pv 1) (pa_cons (pv 2) pa_nil)))))), ?_⟩
    have hpl : ∀ e ∈ ds, e.plain = true := fun e he => (hk.pd e he).1
    have hlen := hk.len
    refine q_asgP (ep_lstD (K := K) ea_nilD) fun v1 H1 e1 hv1 => ?_
    obtain ⟨p, xs0, rfl, hp0, hp1, hx0⟩ := hv1
    refine q_forNN (ep_sortD (ep_varD rfl (dp_ex e1 hd)) hk.srt) fun a xs H2 e2 ha0 ha hA => ?_
    have hap : a ≠ p := fun e => by
      rw [e, hp1] at ha0
      cases ha0
    have hS : ∀ d, d ∈ sortD ds → d ∈ ds := fun d h => (sortD_perm ds).mem_iff.mp h
    have pS : ∀ m, ∀ d ∈ ((sortD ds).take m).foldl stepU [], d ∈ ds := fun m d h => hS d (List.mem_of_mem_take (fold_mem h))
    have nS : ∀ m, noLs (((sortD ds).take m).foldl stepU []) = true := fun m => noLs_iff.mpr fun d h => noLs_iff.mp hk.nl d (pS m d h)
    have lS : ∀ m, (((sortD ds).take m).foldl stepU []).length ≤ 100 := fun m => by
      have h1 := fold_len ((sortD ds).take m)
      have h2 := List.length_take_le m (sortD ds)
      have h3 : ((sortD ds).take m).length ≤ (sortD ds).length := by rw [List.length_take]; omega
      rw [sortD_length] at h3
      omega
    have q1 : H2 p = some (.lst xs0) := e2 _ _ hp1
    refine ⟨fun m σ' H' => (∃ o2, σ' = [some v, some (.ref p), o2]) ∧ AccB K p H2 (((sortD ds).take m).foldl stepU []) H', ⟨⟨_, rfl⟩, accB_new q1 (dpAll_ex e2 hx0)⟩, fun i σ' H' q => ⟨sqL_but' q.2.1 hap (sq_of ha), dpAll_tup (tupEx_but q1 rfl q.2.1) (noLs_iff.mpr fun d h => noLs_iff.mp hk.nl d (hS d h)) hA⟩, fun m d x σ' H' hm hx q => ?_, fun σ' H' q => ?_⟩
    · obtain ⟨⟨o2, rfl⟩, acc⟩ := q
      show tIfS _ _ _ _ [some v, some (.ref p), some x] H'
      have hd0 : d ∈ ds := hS d (List.mem_of_getElem? hm)
      have plU : ∀ n, PlainD (.list (((sortD ds).take n).foldl stepU [])) := fun n => Pd.pl (pd_list (n := 6) fun d h => hk.pd d (pS n d h))
      have t1 : EvT (tTest (tOp (rEqP K) (tVar 1) (tLst tNil))) [some v, some (.ref p), some x] H' _ := et_test (rv_eqP (plU m) (Pd.pl (pd_list (n := 0) (ds := []) (fun d h => by cases h))) (ep_varD rfl acc.dp) (EvP.newDp (ep_lstD ea_nilD)))
      have app : ∀ H3, Ex H' H3 → stepU (((sortD ds).take m).foldl stepU []) d = ((sortD ds).take m).foldl stepU [] ++ [d] → tDrop (tBM K "list" rAppend (tVar 1) (tCons (tVar 2) tNil)) { nx := fun σ' H' => (∃ o2, σ' = [some v, some (.ref p), o2]) ∧ AccB K p H2 (((sortD ds).take (m + 1)).foldl stepU []) H', rt := Q, ct := fun σ' H' => (∃ o2, σ' = [some v, some (.ref p), o2]) ∧ AccB K p H2 (((sortD ds).take (m + 1)).foldl stepU []) H', bk := fun _ _ => False } [some v, some (.ref p), some x] H3 := fun H3 e3 hs => by
        refine s_accB (acc.ex e3) (ev_var rfl) (ep_varD rfl (dp_ex e3 hx)) (nS m) (noLs_iff.mp hk.nl d hd0) (by have := lS m; omega) fun H4 acc4 => ⟨⟨_, rfl⟩, ?_⟩
        rw [fold_take hm, hs]
        exact acc4
      cases hU : (((sortD ds).take m).foldl stepU []).getLast? with
      | none =>
        have e0 : ((sortD ds).take m).foldl stepU [] = [] := List.getLast?_eq_none_iff.mp hU
        refine s_if (et_or (b := true) t1 fun z => ?_) (fun hb H3 e3 => app H3 e3 (by rw [e0]; rfl)) fun hb H3 e3 => ?_
        · rw [e0] at z
          cases z
        · rw [e0] at hb
          cases hb
      | some l =>
        have hl : l ∈ ((sortD ds).take m).foldl stepU [] := List.mem_of_getLast? hU
        have e0 : PyData.eqv (.list (((sortD ds).take m).foldl stepU [])) (.list []) = false := by
          cases hq : ((sortD ds).take m).foldl stepU [] with
          | nil =>
            rw [hq] at hl
            cases hl
          | cons a b => rfl
        have es : stepU (((sortD ds).take m).foldl stepU []) d = if PyData.eqv l d = true then ((sortD ds).take m).foldl stepU [] else ((sortD ds).take m).foldl stepU [] ++ [d] := by
          exact stepU_some hU
        refine s_if (et_or t1 fun _ => et_test (rv_neP (Pd.pl (hk.pd l (pS m l hl))) (Pd.pl (hk.pd d hd0)) (ep_ixLn (ep_varD rfl acc.dp) (ev_neg ev_c) hU) (ep_varD rfl hx))) (fun hb H3 e3 => app H3 e3 ?_) fun hb H3 e3 => ?_
        · rw [e0, Bool.false_or, Bool.not_eq_true'] at hb
          rw [es, hb, if_neg Bool.false_ne_true]
        · rw [e0, Bool.false_or, Bool.not_eq_false'] at hb
          refine ⟨⟨_, rfl⟩, ?_⟩
          rw [fold_take hm, es, if_pos hb]
          exact acc.ex e3
    · obtain ⟨⟨o2, rfl⟩, acc⟩ := q
      rw [List.take_length] at acc
      have acc' : AccB K p H2 (unlike ds) H' := acc
      have eH : Ex H H' := But.fresh (e1.trans e2) acc.1 hp0
      have ha := hk.srt.1
      refine s_retP (P := NewL K H' (natsL (rankL ds))) (EvP.imp (P := NewL K H' (ds.map fun d => .int (rk (unlike ds) d : Nat))) (ep_lcM (f := id) (by rw [List.map_id]; exact ep_varD rfl (dp_ex eH hd)) (by omega) (fun _ _ => rfl) (fun x => rfl) fun d x H3 hm e3 hx => ?_) fun v H3 _ h => ?_) fun v H3 e3 h => k v H3 (eH.trans e3) (NewL.up eH h)
      · have hx' : Dp K H3 x d := hx
        exact ep_int (ev_index (ep_varD rfl (dp_ex e3 acc'.dp)) (ep_varD rfl hx') (allPl (n := 6) fun e he => hk.pd e ((uq_unlike ha hpl).sub e he)) (Pd.pl (hk.pd d hm)) (rk_at (uq_unlike ha hpl) ha hpl hm).1)
      · unfold natsL rankL
        rw [List.map_map]
        exact h
/-! ### key_at -/
def spKeyAt (K : PySem.W.Frag) : Sp := spP (fun (x : Wb × List Nat × Nat) vs H => ∃ p v, vs = [.ref p, v, .int (x.2.2 : Int)] ∧ WebAt K H p x.1 ∧ x.1.n ≤ 7 ∧ Dp K H v (natsD x.2.1) ∧ x.2.1.length = x.1.n ∧ x.2.2 < x.1.n) (fun x _ v H' => Dp K H' v (keyD x.1 x.2.1 x.2.2))
theorem get_g {ps : List Nat} {i : Nat} (h : i < ps.length) : ps[i]? = some (g ps i) := by
  rw [List.getElem?_eq_getElem h, g_get h]
theorem noL_item (c : Nat) (ps : List Pair) : noL (itemD c ps) = true := by
  simp [itemD, noL, noLs, noL_pairs]
theorem others_out (n i : Nat) (o : Nat → PyData) : outs n (fun j => j != i) o = (others n i).map o := rfl
theorem noLs_outs {n : Nat} {f : Nat → Bool} {o : Nat → PyData} (h : ∀ j, noL (o j) = true) : noLs (outs n f o) = true := noLs_iff.mpr fun d hd => by
  obtain ⟨a, _, rfl⟩ := List.mem_map.mp hd
  exact h a
theorem sortOk_items (W : Wb) (ps : List Nat) (i : Nat) (h7 : W.n ≤ 7) : SortOk ((others W.n i).map fun j => itemD (g ps j) (bt W i j)) :=
  sortOk_tup (n := 3) (items_al W ps i) (fun d hd => by
    obtain ⟨a, _, rfl⟩ := List.mem_map.mp hd
    exact pd_item _ _) (by omega) (fun d hd => by
    obtain ⟨a, _, rfl⟩ := List.mem_map.mp hd
    exact ⟨_, _, rfl⟩) (by
    rw [List.length_map]
    have := List.length_filter_le (fun j => j != i) (List.range W.n)
    rw [List.length_range] at this
    show ((List.range W.n).filter fun j => j != i).length ≤ _
    omega)
theorem cal_key_at (T : TX K mg) : Cal P w K mg base 2 "key_at" (spKeyAt K) [] := by
  refine T.cal d_key_at (N := ["web", "parting", "place", "round_it", "other"]) (ps := ["web", "parting", "place"]) (List.mem_of_getElem? (i := 1) rfl) rfl (by decide +kernel) sc_key_at (fun _ _ _ _ _ _ us hl => match us, hl with | [_, _, _], _ => rfl) (fun vs H Q E h => ?_) (fun cdv A outer s H vs Q E f hr h => ?_)
  · obtain ⟨x, ⟨p, v, rfl, _⟩, _⟩ := h
    rfl
  · obtain ⟨⟨W, ps, i⟩, ⟨p, v, rfl, hw, h7, hd, hl, hi⟩, k⟩ := h
    dsimp only at hw h7 hd hl hi k ⊢
    have sc := sc_key_at
    have m_Web_size := m_size (P := P) (w := w) (base := base) T
    have m_Web_between := m_between (P := P) (w := w) (base := base) T
    refine ⟨_, pss_cons (ps_set (i := 3) sc.nd rfl (by first | exact Or.inl rfl | exact Or.inr rfl) (pe_lst (pa_nil)))
    (pss_cons (ps_for PassesOwn.never rfl (pi_range1 rfl (T.free "range") (pa_cons (pe_mt0 m_Web_size hr (by decide) (pv 0)) pa_nil)) (pg_name (i := 4) sc.nd rfl (by first | exact Or.inl rfl | exact Or.inr rfl))
    (pss_one (ps_if (pt_cmpR op_ne (pv 4) (pv 2) (by rfl))
      (pss_one (ps_expr (pe_bm PySem.F.plainAttrs_list PySem.F.slot_list_append PySem.F.type_list_append mt_append (pv 3) (pa_cons (pe_tup (pa_cons (pe_ix ix_list (pv 1) (pv 4) (fun _ _ => rfl)) (pa_cons (pe_mt m_Web_between hr (by decide) (pv 0) (pa_cons (pv 2) (pa_cons (pv 4) pa_nil))) pa_nil))) pa_nil))))
      (pss_nil))))
    (pss_one (ps_ret (pe_tup (pa_cons (pe_ix ix_list (pv 1) (pv 2) (fun _ _ => rfl)) (pa_cons (pe_callTy call_tuple_of (by rfl) (T.free "tuple") (by decide +kernel) (pa_cons (pe_callB (cr_sortD hr.units) (by rfl) (T.free "sorted") (by decide +kernel) (pa_cons (pv 3) pa_nil)) pa_nil)) pa_nil)))))), ?_⟩
    refine q_asgP (ep_lstD (K := K) ea_nilD) fun v1 H1 e1 hv1 => ?_
    obtain ⟨r, xs0, rfl, hr0, hr1, hx0⟩ := hv1
    have web : ∀ {H'}, But r H1 H' → WebAt K H' p W := fun b => web_ex (But.fresh e1 b hr0) hw
    have par : ∀ {H'}, But r H1 H' → Dp K H' v (natsD ps) := fun b => dp_ex (But.fresh e1 b hr0) hd
    refine q_forR (n := W.n) (ea_cons (ev_size (web (But.refl _ _)) (ev_var rfl)) ea_nil) (by omega) (fun m σ' H' => (∃ o4, σ' = [some (.ref p), some v, some (.int (i : Int)), some (.ref r), o4]) ∧ AccB K r H1 (outs m (fun j => j != i) fun j => itemD (g ps j) (bt W i j)) H') (fun H2 e2 => ⟨⟨_, rfl⟩, AccB.ex (accB_new hr1 hx0) e2⟩) (fun m σ' H' hm q => ?_) (fun σ' H' q => ?_)
    · obtain ⟨⟨o4, rfl⟩, acc⟩ := q
      show tIfS _ _ _ _ [some (.ref p), some v, some (.int (i : Int)), some (.ref r), some (.int (m : Int))] H'
      have len := outs_len m (fun j => j != i) fun j => itemD (g ps j) (bt W i j)
      refine s_if (et_test (ev_op (ev_var rfl) (ev_var rfl) (rv_ne rfl))) (fun hb H2 e2 => ?_) fun hb H2 e2 => ?_
      · have c : (m != i) = true := by
          by_cases z : m = i
          · subst z
            simp at hb
          · simp [z]
        have acc2 := acc.ex e2
        refine s_accB (d := itemD (g ps m) (bt W i m)) acc2 (ev_var rfl) (ep_tupD (ea_consD (ep_int (ev_ixN (ep_varD rfl (par acc2.1)) (ev_var rfl) (get_g (by omega)))) (ea_consD (ep_between (web acc2.1) (ev_var rfl) (ev_var rfl) (ev_var rfl)) ea_nilD))) (noLs_outs fun j => noL_item _ _) (noL_item _ _) (by omega) fun H3 acc3 => ⟨⟨_, rfl⟩, ?_⟩
        rw [outs_yes (f := fun j => j != i) c]
        exact acc3
      · have c : (m != i) = false := by
          by_cases z : m = i
          · subst z
            simp
          · have : ¬ (V.int (m : Int) = V.int (i : Int)) := fun e => z (by have := V.int.inj e; omega)
            rw [decide_eq_false this] at hb
            cases hb
        refine ⟨⟨_, rfl⟩, ?_⟩
        rw [outs_no (f := fun j => j != i) c]
        exact acc.ex e2
    · obtain ⟨⟨o4, rfl⟩, acc⟩ := q
      have so := sortOk_items W ps i h7
      rw [others_out] at acc
      refine s_retP (P := DP K (keyD W ps i)) (ep_tupD (ea_consD (ep_int (ev_ixN (ep_varD rfl (par acc.1)) (ev_var rfl) (get_g (by omega)))) (ea_consD (ep_tupleOf (EvP.newDp (ep_sortD (ep_varD rfl acc.dp) so))) ea_nilD))) fun v2 H2 e2 h => ?_
      exact k _ _ ((But.fresh e1 acc.1 hr0).trans e2) h
/-! ### keys_of -/
def spKeysOf (K : PySem.W.Frag) : Sp := spP (fun (x : Wb × List Nat) vs H => ∃ p v, vs = [.ref p, v] ∧ WebAt K H p x.1 ∧ x.1.n ≤ 7 ∧ Dp K H v (natsD x.2) ∧ x.2.length = x.1.n) (fun x H v H' => NewL K H (keysL x.1 x.2) v H')
theorem noL_key (W : Wb) (ps : List Nat) (i : Nat) : noL (keyD W ps i) = true := by
  have h : noLs (sortD ((others W.n i).map fun j => itemD (g ps j) (bt W i j))) = true := noLs_iff.mpr fun d hd => by
    obtain ⟨a, _, rfl⟩ := List.mem_map.mp ((sortD_perm _).mem_iff.mp hd)
    exact noL_item _ _
  show (noL (.int (g ps i : Nat)) && (noLs (sortD ((others W.n i).map fun j => itemD (g ps j) (bt W i j))) && true)) = true
  rw [h]
  rfl
theorem cal_keys_of (T : TX K mg) : Cal P w K mg base 3 "keys_of" (spKeysOf K) [] := by
  refine T.cal d_keys_of (N := ["web", "parting", "place"]) (ps := ["web", "parting"]) (List.mem_of_getElem? (i := 2) rfl) rfl (by decide +kernel) sc_keys_of (fun _ _ _ _ _ _ us hl => match us, hl with | [_, _], _ => rfl) (fun vs H Q E h => ?_) (fun cdv A outer s H vs Q E f hr h => ?_)
  · obtain ⟨x, ⟨p, v, rfl, _⟩, _⟩ := h
    rfl
  · obtain ⟨⟨W, ps⟩, ⟨p, v, rfl, hw, h7, hd, hl⟩, k⟩ := h
    dsimp only at hw h7 hd hl k ⊢
    have sc := sc_keys_of
    have m_Web_size := m_size (P := P) (w := w) (base := base) T
    have c_key_at := cal_key_at (P := P) (w := w) (base := base) T
    refine ⟨_, pss_one (ps_ret (pe_lc (own := [("place", 2)]) (g := gName 2) (tt := tYes) (te := _) rfl sc.nd (pi_range1 rfl (T.free "range") (pa_cons (pe_mt0 m_Web_size hr (by decide) (pv 0)) pa_nil)) (blkOk_by (own := [("place", 2)]) rfl) (fun _ _ _ _ _ => pg_name (i := 2) sc.nd rfl (by first | exact Or.inl rfl | exact Or.inr rfl)) (fun _ _ _ _ _ => pts_nil) (fun _ _ _ _ _ => pe_c c_key_at hr (by decide) rfl (pa_cons (pv 0) (pa_cons (pv 1) (pa_cons (pv 2) pa_nil)))))), ?_⟩
    refine s_retP (P := NewL K H (keysL W ps)) (EvP.imp (P := NewL K H (outs W.n (fun _ => true) fun j => keyD W ps j)) (ep_lcR (K := K) (n := W.n) (fun _ => true) (fun j => keyD W ps j) (ea_cons (ev_size hw (ev_var rfl)) ea_nil) (by omega) (fun j _ _ => noL_key W ps j) (fun x => rfl) (fun _ _ _ _ => et_yes) fun j H1 e1 hj _ => ?_) fun v H1 _ h => ?_) fun v H1 e1 h => k _ _ e1 h
    · refine ep_call (W, ps, j) (eap_of (vs := [.ref p, v, .int (j : Int)]) (ea_cons (ev_var rfl) (ea_cons (ev_var rfl) (ea_cons (ev_var rfl) ea_nil)))) (fun vs H2 e2 h => ?_) fun H2 v H3 e2 e3 h => h
      subst h
      exact ⟨p, v, rfl, web_ex (e1.trans e2) hw, h7, dp_ex (e1.trans e2) hd, hl, hj⟩
    · rw [outs_all] at h
      exact h
/-! ### finer -/
def spFiner (K : PySem.W.Frag) : Sp := spP (fun (x : Wb × List Nat) vs H => ∃ p v, vs = [.ref p, v] ∧ WebAt K H p x.1 ∧ x.1.n ≤ 7 ∧ Dp K H v (natsD x.2) ∧ x.2.length = x.1.n) (fun x H v H' => NewL K H (natsL (finer x.1 x.2)) v H')
theorem keys_ok {W : Wb} (ps : List Nat) (h7 : W.n ≤ 7) : Keys (keysL W ps) :=
  ⟨sortOk_tup (n := 5) (keys_al W ps) (keys_pd W ps) (by omega) (fun d hd => by
    obtain ⟨a, _, rfl⟩ := List.mem_map.mp hd
    exact ⟨_, _, rfl⟩) (by rw [keys_length]; omega), fun d hd => (keys_pd W ps d hd).up, noLs_iff.mpr fun d hd => by
    obtain ⟨a, _, rfl⟩ := List.mem_map.mp hd
    exact noL_key W ps a, by rw [keys_length]; omega⟩
theorem cal_finer (T : TX K mg) : Cal P w K mg base 4 "finer" (spFiner K) [] := by
  refine T.cal d_finer (N := ["web", "parting"]) (ps := ["web", "parting"]) (List.mem_of_getElem? (i := 3) rfl) rfl (by decide +kernel) sc_finer (fun _ _ _ _ _ _ us hl => match us, hl with | [_, _], _ => rfl) (fun vs H Q E h => ?_) (fun cdv A outer s H vs Q E f hr h => ?_)
  · obtain ⟨x, ⟨p, v, rfl, _⟩, _⟩ := h
    rfl
  · obtain ⟨⟨W, ps⟩, ⟨p, v, rfl, hw, h7, hd, hl⟩, k⟩ := h
    dsimp only at hw h7 hd hl k ⊢
    have sc := sc_finer
    have c_ranked := cal_ranked (P := P) (w := w) (base := base) T
    have c_keys_of := cal_keys_of (P := P) (w := w) (base := base) T
    refine ⟨_, pss_one (ps_ret (pe_c c_ranked hr (by decide) rfl (pa_cons (pe_c c_keys_of hr (by decide) rfl (pa_cons (pv 0) (pa_cons (pv 1) pa_nil))) pa_nil))), ?_⟩
    refine s_retP (P := NewL K H (natsL (finer W ps))) (ep_call (keysL W ps) (ea_consD (d := .list (keysL W ps)) (EvP.newDp (H0 := H) (ep_call (W, ps) (eap_of (vs := [.ref p, v]) (ea_cons (ev_var rfl) (ea_cons (ev_var rfl) ea_nil))) (fun vs H2 e2 h => ?_) fun H2 v H3 e2 e3 h => NewL.up e2 h)) ea_nilD) (fun vs H2 e2 h => ?_) fun H2 v H3 e2 e3 h => NewL.up e2 h) fun v H1 e1 h => k _ _ e1 h
    · subst h
      exact ⟨p, v, rfl, web_ex e2 hw, h7, dp_ex e2 hd, hl⟩
    · cases h with
      | cons h1 h2 =>
        cases h2
        exact ⟨_, rfl, h1, keys_ok ps h7⟩
end
end L2.Tw
set_option Elab.async false
set_option linter.all false
set_option maxRecDepth 100000
set_option maxHeartbeats 4000000
set_option autoImplicit false
namespace L2.Tw
open PySem PySem.Spec PyProof.Rows L2
open C8 (Cal Met Mak pe_c pe_mk pe_mt pe_mt0 pe_gc InsC)
open Evl (Ex Ev EvT EvA fresh_back ex_l ex_t ex_rd sq_of st_of sz_of sz_lt ev_var ev_c ev_op rv_I0 rv_I rv_eq rv_ne et_test et_or et_and et_not et_B s_if ea_nil ea_cons q_asg q_when)
theorem sum_le {α : Type} {f : α → Nat} {b : Nat} : ∀ l : List α, (∀ i ∈ l, f i ≤ b) → (l.map f).sum ≤ l.length * b
  | [], _ => by simp
  | a :: l, h => by
    have h1 := h a List.mem_cons_self
    have h2 := sum_le l fun i hi => h i (List.mem_cons_of_mem _ hi)
    rw [List.map_cons, List.sum_cons, List.length_cons, Nat.succ_mul]
    omega
theorem sum_mono {α : Type} {f f' : α → Nat} : ∀ l : List α, (∀ i ∈ l, f i ≤ f' i) → (l.map f).sum ≤ (l.map f').sum
  | [], _ => by simp
  | a :: l, h => by
    have h1 := h a List.mem_cons_self
    have h2 := sum_mono l fun i hi => h i (List.mem_cons_of_mem _ hi)
    rw [List.map_cons, List.sum_cons, List.map_cons, List.sum_cons]
    omega
theorem sum_lt {α : Type} {f f' : α → Nat} : ∀ l : List α, (∀ i ∈ l, f i ≤ f' i) → (∃ i ∈ l, f i < f' i) → (l.map f).sum < (l.map f').sum
  | [], _, h => by simp at h
  | a :: l, h, h' => by
    have h1 := h a List.mem_cons_self
    have h2 : ∀ i ∈ l, f i ≤ f' i := fun i hi => h i (List.mem_cons_of_mem _ hi)
    rw [List.map_cons, List.sum_cons, List.map_cons, List.sum_cons]
    obtain ⟨i, hi, hlt⟩ := h'
    rcases List.mem_cons.mp hi with e | hi
    · subst e
      have := sum_mono l h2
      omega
    · have := sum_lt l h2 ⟨i, hi, hlt⟩
      omega
/-- how far a parting can still rise -/
def mu (W : Wb) (ps : List Nat) : Nat := ((List.range W.n).map fun i => W.n - g ps i).sum
theorem mu_le {W : Wb} (ps : List Nat) (h7 : W.n ≤ 7) : mu W ps ≤ 49 := by
  have h := sum_le (f := fun i => W.n - g ps i) (b := W.n) (List.range W.n) fun i _ => Nat.sub_le _ _
  rw [List.length_range] at h
  have : W.n * W.n ≤ 7 * 7 := Nat.mul_le_mul h7 h7
  unfold mu
  omega
theorem mu_lt {W : Wb} {ps : List Nat} (p : Part W ps) (hne : finer W ps ≠ ps) : mu W (finer W ps) < mu W ps := by
  refine sum_lt _ (fun i hi => ?_) (Classical.byContradiction fun hn => hne ?_)
  · have h1 := finer_ge p _ i (List.mem_range.mp hi) rfl
    omega
  · refine ext_g (by rw [finer_length, p.len]) fun i hi => ?_
    rw [finer_length] at hi
    have h1 := finer_ge p _ i hi rfl
    have h2 := p.lt i hi
    have h3 : ¬ (W.n - g (finer W ps) i < W.n - g ps i) := fun z => hn ⟨i, List.mem_range.mpr hi, z⟩
    omega
theorem nats_inj {l m : List Nat} (h : natsD l = natsD m) : l = m := by
  unfold natsD at h
  rw [PyData.list.injEq] at h
  exact map_inj (fun a b e => by
    have := PyData.int.inj e
    omega) h
theorem pd_nats (l : List Nat) : Pd 1 (natsD l) := pd_list (pd_map (fun _ => pd_int _) l)
theorem al_nats (l m : List Nat) : PySem.W.alike (natsD l) (natsD m) = true := by
  unfold natsD
  rw [PySem.W.alike]
  exact al_map (fun _ _ => rfl) l m
theorem eqv_nats (l m : List Nat) : PyData.eqv (natsD l) (natsD m) = decide (l = m) := by
  have q := eqv_iff (al_nats l m) (pd_nats l).1
  by_cases h : l = m
  · rw [decide_eq_true h]
    exact q.mpr (by rw [h])
  · rw [decide_eq_false h]
    cases e : PyData.eqv (natsD l) (natsD m) with
    | false => rfl
    | true => exact absurd (nats_inj (q.mp e)) h
section
variable {P : Program} {w : World} {K : PySem.W.Frag} {mg : Str → Option Value} {base : Heap}
/-! ### rounds_of -/
def natsV (l : List Nat) : List V := l.map fun (j : Nat) => V.int (j : Int)
theorem dp_natsV {H : Hp} {a : Addr} {l : List Nat} (h : H a = some (.lst (natsV l))) : Dp K H (.ref a) (natsD l) := .lst (sq_of h) (by
  have e : natsL l = (l.map fun (j : Nat) => (j : Int)).map PyData.int := by
    unfold natsL
    rw [List.map_map]
    rfl
  show DpAll K H (natsV l) (natsL l)
  rw [e, show natsV l = (l.map fun (j : Nat) => (j : Int)).map V.int by unfold natsV; rw [List.map_map]; rfl]
  exact dpAll_ints _)
theorem newL_nats {H0 H : Hp} {l : List Nat} {v : V} (h : NewL K H0 (natsL l) v H) : ∃ a, v = .ref a ∧ H0 a = none ∧ H a = some (.lst (natsV l)) := by
  obtain ⟨a, xs, h1, h2, h3, h4⟩ := h
  have := ints_of h4
  subst this
  exact ⟨a, h1, h2, h3⟩
theorem nats_newL {H0 H : Hp} {l : List Nat} {a : Addr} (h2 : H0 a = none) (h3 : H a = some (.lst (natsV l))) : NewL K H0 (natsL l) (.ref a) H := by
  refine ⟨a, _, rfl, h2, h3, ?_⟩
  cases dp_natsV (K := K) h3 with
  | lst hs hA =>
    rcases hs with (hs | ⟨u, hs⟩) | hs
    · rw [h3] at hs
      cases hs
      exact hA
    · rw [h3] at hs
      cases hs
    · have e : natsL l = (l.map fun (j : Nat) => (j : Int)).map PyData.int := by
        unfold natsL
        rw [List.map_map]
        rfl
      rw [e, show natsV l = (l.map fun (j : Nat) => (j : Int)).map V.int by unfold natsV; rw [List.map_map]; rfl]
      exact dpAll_ints _
def spRounds (K : PySem.W.Frag) : Sp := spP (fun (x : Wb × List Nat) vs H => ∃ p v, vs = [.ref p, v] ∧ WebAt K H p x.1 ∧ x.1.n ≤ 7 ∧ Dp K H v (natsD x.2) ∧ Part x.1 x.2)
  (fun x H v H' => ∃ rd xs a q, v = .ref rd ∧ H' rd = some (.lst (xs ++ [.ref a])) ∧ H a = none ∧ H' a = some (.lst (natsV q)) ∧ Settles x.1 x.2 q)
structure RoI (W : Wb) (ps : List Nat) (H : Hp) (rd : Addr) (m : Nat) (cur : List Nat) (af a : Addr) (xs : List V) (H' : Hp) : Prop where
  ex : Ex H H'
  rd0 : H rd = none
  hrd : H' rd = some (.lst (xs ++ [.ref a]))
  a0 : H a = none
  an : a ≠ rd
  ha : H' a = some (.lst (natsV cur))
  af0 : H af = none
  afn : af ≠ rd
  haf : H' af = some (.lst (natsV (finer W cur)))
  it : ∃ k, cur = Tw.it (Tw.finer W) k ps
  part : Part W cur
  mu : m = Tw.mu W cur
  len : xs.length + m ≤ 60
theorem cal_rounds_of (T : TX K mg) : Cal P w K mg base 5 "rounds_of" (spRounds K) [] := by
  refine T.cal d_rounds_of (N := ["web", "parting", "rounds", "after"]) (ps := ["web", "parting"]) (List.mem_of_getElem? (i := 4) rfl) rfl (by decide +kernel) sc_rounds_of (fun _ _ _ _ _ _ us hl => match us, hl with | [_, _], _ => rfl) (fun vs H Q E h => ?_) (fun cdv A outer s H vs Q E f hr h => ?_)
  · obtain ⟨x, ⟨p, v, rfl, _⟩, _⟩ := h
    rfl
  · obtain ⟨⟨W, ps⟩, ⟨p, v, rfl, hw, h7, hd, hp⟩, k⟩ := h
    dsimp only at hw h7 hd hp k ⊢
    have sc := sc_rounds_of
    have c_finer := cal_finer (P := P) (w := w) (base := base) T
    refine ⟨_, pss_cons (ps_set (i := 2) sc.nd rfl (by first | exact Or.inl rfl | exact Or.inr rfl) (pe_lst (pa_cons (pe_callTy call_list_of (by rfl) (T.free "list") (by decide +kernel) (pa_cons (pv 1) pa_nil)) pa_nil)))
    (pss_cons (ps_set (i := 3) sc.nd rfl (by first | exact Or.inl rfl | exact Or.inr rfl) (pe_c c_finer hr (by decide) rfl (pa_cons (pv 0) (pa_cons (pv 1) pa_nil))))
    (pss_cons (ps_while PassesOwn.never (pt_cmpR (op_neP hr.units) (pv 3) (pe_ix ix_list (pv 2) (pe_un un_neg (pe_int)) (fun _ _ => rfl)) (by rfl))
    (pss_cons (ps_expr (pe_bm PySem.F.plainAttrs_list PySem.F.slot_list_append PySem.F.type_list_append mt_append (pv 2) (pa_cons (pv 3) pa_nil)))
      (pss_one (ps_set (i := 3) sc.nd rfl (by first | exact Or.inl rfl | exact Or.inr rfl) (pe_c c_finer hr (by decide) rfl (pa_cons (pv 0) (pa_cons (pv 3) pa_nil)))))))
    (pss_one (ps_ret (pv 2))))), ?_⟩
    refine q_asgP (P := fun v1 H1 => ∃ rd a, v1 = .ref rd ∧ H rd = none ∧ H a = none ∧ a ≠ rd ∧ H1 rd = some (.lst [.ref a]) ∧ H1 a = some (.lst (natsV ps))) (EvP.imp (ep_lst1 (ep_listOf (K := K) (ds := natsL ps) (ep_varD rfl hd))) fun v1 H1 e1 h => ?_) fun v1 H1 e1 hv1 => ?_
    · obtain ⟨rd, x, H2, rfl, hrd0, hrd, e2, hx, hrd2, e3⟩ := h
      obtain ⟨a, rfl, ha0, ha⟩ := newL_nats hx
      exact ⟨rd, a, rfl, hrd0, ha0, ne_of_none ha hrd2, hrd, e3 _ _ ha⟩
    · obtain ⟨rd, a, rfl, hrd0, ha0, hne, hrd, ha⟩ := hv1
      have fin : ∀ {σ : L2.St} {H1 : Hp} {l : List Nat} {tv : TE} {v : V}, Ev (tVar 0) σ H1 (.ref p) → Ev tv σ H1 v → Dp K H1 v (natsD l) → l.length = W.n → Ex H H1 → EvP (tCall (spFiner K) [] C8.E0 (tCons (tVar 0) (tCons tv tNil))) σ H1 (fun v2 H2 => ∃ af, v2 = .ref af ∧ H1 af = none ∧ H2 af = some (.lst (natsV (finer W l)))) := fun {σ H1 l tv v} h1 h2 h3 h4 e => by
        refine ep_call (W, l) (eap_of (vs := [.ref p, v]) (ea_cons h1 (ea_cons h2 ea_nil))) (fun vs H2 e2 h => ?_) fun H2 v H3 e2 e3 h => newL_nats (NewL.up e2 h)
        subst h
        exact ⟨p, v, rfl, web_ex (e.trans e2) hw, h7, dp_ex e2 h3, h4⟩
      refine q_asgP (fin (ev_var rfl) (ev_var rfl) (dp_ex e1 hd) hp.len e1) fun v2 H2 e2 hv2 => ?_
      obtain ⟨af, rfl, haf0, haf⟩ := hv2
      refine Evl.q_while (fun m σ' H' => ∃ cur af a xs, σ' = [some (.ref p), some v, some (.ref rd), some (.ref af)] ∧ RoI W ps H rd m cur af a xs H') (mu W ps) ⟨ps, af, a, [], rfl, e1.trans e2, hrd0, e2 _ _ hrd, ha0, hne, e2 _ _ ha, fresh_back e1 haf0, fun e => (by rw [e, hrd] at haf0; cases haf0), haf, ⟨0, rfl⟩, hp, rfl, (by have := mu_le ps h7; simp only [List.length_nil]; omega)⟩ fun m σ' H' q => ?_
      obtain ⟨cur, af, a, xs, rfl, R⟩ := q
      have tst := et_test (rv_neP (K := K) (σ := [some (.ref p), some v, some (.ref rd), some (.ref af)]) (pd_nats (finer W cur)).pl (pd_nats cur).pl (ep_varD (i := 3) rfl (dp_natsV R.haf)) (ep_evD (ev_op (tb := tUn (rU fun i => .int (-i)) (tC (.int 1))) (ev_var (i := 2) rfl) (ev_neg ev_c) (Evl.rv_ixL (K := K) (sq_of R.hrd) (atI_last xs (.ref a)))) (dp_natsV R.ha)))
      rw [eqv_nats] at tst
      refine ⟨_, tst, fun hb H3 e3 => ?_, fun hb H3 e3 => ?_⟩
      · have hne' : finer W cur ≠ cur := fun e => by
          rw [decide_eq_true e] at hb
          cases hb
        have hlt := mu_lt R.part hne'
        refine ⟨fun σ2 H2 => ∃ cur' af' a' xs', σ2 = [some (.ref p), some v, some (.ref rd), some (.ref af')] ∧ RoI W ps H rd (mu W cur') cur' af' a' xs' H2 ∧ mu W cur' < m, fun σ2 H2 ⟨cur', af', a', xs', h1, h2, h3⟩ => ⟨_, h3, cur', af', a', xs', h1, h2⟩, ?_⟩
        have hl := R.len
        refine q_appP (P := fun v _ => v = .ref af) (e3 _ _ R.hrd) (ev_var rfl) (ep_ev (ev_var rfl) fun _ _ => rfl) (by rw [List.length_append, List.length_singleton]; omega) fun v4 H4 e4 hv4 => ?_
        subst hv4
        have e34 := e3.trans e4
        have b4 : But rd H' (upd H4 rd (.lst (xs ++ [.ref a] ++ [.ref af]))) := ex_but e34 But.upd
        have eb : Ex H (upd H4 rd (.lst (xs ++ [.ref a] ++ [.ref af]))) := But.fresh R.ex b4 R.rd0
        refine s_asgP (fin (ev_var rfl) (ev_var rfl) (dp_natsV (b4 _ _ R.haf R.afn)) (finer_length W cur) eb) fun v5 H5 e5 hv5 => ?_
        obtain ⟨af', rfl, h50, h5⟩ := hv5
        refine ⟨finer W cur, af', af, xs ++ [.ref a], rfl, ⟨eb.trans e5, R.rd0, e5 _ _ upd_same, R.af0, R.afn, e5 _ _ (b4 _ _ R.haf R.afn), fresh_back eb h50, fun e => ?_, h5, ?_, part_finer W cur, rfl, ?_⟩, ?_⟩
        · rw [e, upd_same] at h50
          cases h50
        · obtain ⟨k, hk⟩ := R.it
          exact ⟨k + 1, by rw [it_succ, ← hk]⟩
        · have := R.mu
          simp only [List.length_append, List.length_singleton]
          omega
        · have := R.mu
          omega
      · have heq : finer W cur = cur := by
          by_cases h : finer W cur = cur
          · exact h
          · rw [decide_eq_false h] at hb
            cases hb
        refine s_retE (ev_var rfl) fun H4 e4 => ?_
        obtain ⟨k', hk'⟩ := R.it
        exact k _ _ (R.ex.trans (e3.trans e4)) ⟨rd, xs, a, cur, rfl, e4 _ _ (e3 _ _ R.hrd), R.a0, e4 _ _ (e3 _ _ R.ha), k', hk', heq⟩
/-! ### settled, first_parting -/
def spSettled (K : PySem.W.Frag) : Sp := spP (fun (x : Wb × List Nat) vs H => ∃ p v, vs = [.ref p, v] ∧ WebAt K H p x.1 ∧ x.1.n ≤ 7 ∧ Dp K H v (natsD x.2) ∧ Part x.1 x.2) (fun x H v H' => ∃ q, Settles x.1 x.2 q ∧ NewL K H (natsL q) v H')
theorem cal_settled (T : TX K mg) : Cal P w K mg base 6 "settled" (spSettled K) [] := by
  refine T.cal d_settled (N := ["web", "parting"]) (ps := ["web", "parting"]) (List.mem_of_getElem? (i := 5) rfl) rfl (by decide +kernel) sc_settled (fun _ _ _ _ _ _ us hl => match us, hl with | [_, _], _ => rfl) (fun vs H Q E h => ?_) (fun cdv A outer s H vs Q E f hr h => ?_)
  · obtain ⟨x, ⟨p, v, rfl, _⟩, _⟩ := h
    rfl
  · obtain ⟨⟨W, ps⟩, ⟨p, v, rfl, hw, h7, hd, hp⟩, k⟩ := h
    dsimp only at hw h7 hd hp k ⊢
    have sc := sc_settled
    have c_rounds_of := cal_rounds_of (P := P) (w := w) (base := base) T
    refine ⟨_, pss_one (ps_ret (pe_ix ix_list (pe_c c_rounds_of hr (by decide) rfl (pa_cons (pv 0) (pa_cons (pv 1) pa_nil))) (pe_un un_neg (pe_int)) (fun _ _ => rfl))), ?_⟩
    refine s_retP (P := fun v H' => ∃ q, Settles W ps q ∧ NewL K H (natsL q) v H') (fun H1 e1 Q q => ?_) fun v H1 e1 h => k _ _ e1 h
    refine ep_call (P := fun v H' => ∃ rd xs a q, v = .ref rd ∧ H' rd = some (.lst (xs ++ [.ref a])) ∧ H a = none ∧ H' a = some (.lst (natsV q)) ∧ Settles W ps q) (W, ps) (eap_of (vs := [.ref p, v]) (ea_cons (ev_var rfl) (ea_cons (ev_var rfl) ea_nil))) (fun vs H2 e2 h => ?_) (fun H2 v H3 e2 e3 h => ?_) H1 e1 _ fun v2 H2 e2 h => ?_
    · subst h
      exact ⟨p, v, rfl, web_ex e2 hw, h7, dp_ex e2 hd, hp⟩
    · obtain ⟨rd, xs, a, q, h1, h2, h3, h4, h5⟩ := h
      exact ⟨rd, xs, a, q, h1, h2, fresh_back e2 h3, h4, h5⟩
    · obtain ⟨rd, xs, a, q', rfl, h2, h3, h4, h5⟩ := h
      refine ⟨1, rfl, _, _, _, .ref a, rfl, rfl, sq_of h2, atI_last xs (.ref a), ?_⟩
      exact q _ _ e2 ⟨q', h5, nats_newL h3 h4⟩
def spFirst (K : PySem.W.Frag) : Sp := spP (fun (W : Wb) vs H => ∃ p, vs = [.ref p] ∧ WebAt K H p W ∧ WOk W) (fun W H v H' => ∃ q, Settles W (firstR W) q ∧ NewL K H (natsL q) v H')
theorem kinds_keys {W : Wb} (h7 : W.n ≤ 7) : Keys (kindsL W) :=
  ⟨⟨kinds_al W, .inr fun d hd => by
      obtain ⟨a, _, rfl⟩ := List.mem_map.mp hd
      exact ⟨fun h => (by cases h), fun xs h => (by cases h)⟩, fun d hd => by
      obtain ⟨a, _, rfl⟩ := List.mem_map.mp hd
      simp [PyData.depth], by rw [kinds_len]; omega⟩, fun d hd => by
    obtain ⟨a, _, rfl⟩ := List.mem_map.mp hd
    exact (pd_str _).up, noLs_iff.mpr fun d hd => by
    obtain ⟨a, _, rfl⟩ := List.mem_map.mp hd
    rfl, by rw [kinds_len]; omega⟩
theorem cal_first_parting (T : TX K mg) : Cal P w K mg base 7 "first_parting" (spFirst K) [] := by
  refine T.cal d_first_parting (N := ["web"]) (ps := ["web"]) (List.mem_of_getElem? (i := 6) rfl) rfl (by decide +kernel) sc_first_parting (fun _ _ _ _ _ _ us hl => match us, hl with | [_], _ => rfl) (fun vs H Q E h => ?_) (fun cdv A outer s H vs Q E f hr h => ?_)
  · obtain ⟨x, ⟨p, rfl, _⟩, _⟩ := h
    rfl
  · obtain ⟨W, ⟨p, rfl, hw, hok⟩, k⟩ := h
    have sc := sc_first_parting
    have c_ranked := cal_ranked (P := P) (w := w) (base := base) T
    have c_settled := cal_settled (P := P) (w := w) (base := base) T
    refine ⟨_, pss_one (ps_ret (pe_c c_settled hr (by decide) rfl (pa_cons (pv 0) (pa_cons (pe_c c_ranked hr (by decide) rfl (pa_cons (pe_fld (pv 0) rfl) pa_nil)) pa_nil)))), ?_⟩
    have h7 : W.n ≤ 7 := hok.n.2
    obtain ⟨dx, vk, vt, g, h1, h2, h3, h4⟩ := hw.out
    refine s_retP (P := fun v H' => ∃ q, Settles W (firstR W) q ∧ NewL K H (natsL q) v H') (ep_call (W, firstR W) (ea_consV (v := .ref p) (ev_var rfl) (ea_consD (d := natsD (firstR W)) (EvP.newDp (H0 := H) (ep_call (kindsL W) (ea_consD (d := .list (kindsL W)) (ep_fld (ev_var rfl) h1 (T.cls "Web") (T.noat "Web" "kinds") rfl fun H1 e1 => dp_ex e1 h2) ea_nilD) (fun vs H2 e2 h => ?_) fun H2 v H3 e2 e3 h => NewL.up e2 h)) ea_nilD)) (fun vs H2 e2 h => ?_) fun H2 v H3 e2 e3 h => ?_) fun v H1 e1 h => k _ _ e1 h
    · cases h with
      | cons h1 h2 =>
        cases h2
        exact ⟨_, rfl, h1, kinds_keys h7⟩
    · obtain ⟨r, rfl, h⟩ := h
      cases h with
      | cons h1 h2 =>
        cases h2
        exact ⟨p, _, rfl, web_ex e2 hw, h7, h1, part_first W⟩
    · obtain ⟨q, h1, h2⟩ := h
      exact ⟨q, h1, NewL.up e2 h2⟩
/-! ### put_ahead, chosen -/
def spPut (K : PySem.W.Frag) : Sp := spP (fun (x : List Nat × Nat) vs H => ∃ v, vs = [v, .int (x.2 : Int)] ∧ Dp K H v (natsD x.1) ∧ x.2 < x.1.length ∧ x.1.length ≤ 7) (fun x H v H' => NewL K H (natsL (putA x.1 x.2)) v H')
theorem range_snoc {α : Type} (f : Nat → α) (m : Nat) : (List.range (m + 1)).map f = (List.range m).map f ++ [f m] := by
  rw [List.range_succ, List.map_append]
  rfl
theorem putTest {r o j a : Nat} : (decide ((o : Int) < (r : Int)) || (decide (V.int (r : Int) = V.int (o : Int)) && !decide (V.int (j : Int) = V.int (a : Int)))) = true ↔ (r > o ∨ (r = o ∧ j ≠ a)) := by
  have h : ∀ x y : Nat, (V.int (x : Int) = V.int (y : Int)) ↔ x = y := fun x y => ⟨fun e => by have := V.int.inj e; omega, fun e => by rw [e]⟩
  simp only [Bool.or_eq_true, Bool.and_eq_true, Bool.not_eq_true', decide_eq_true_eq, decide_eq_false_iff_not, h]
  omega
theorem cal_put_ahead (T : TX K mg) : Cal P w K mg base 1 "put_ahead" (spPut K) [] := by
  refine T.cal d_put_ahead (N := ["parting", "place", "own", "put", "other", "rank"]) (ps := ["parting", "place"]) (List.mem_of_getElem? (i := 7) rfl) rfl (by decide +kernel) sc_put_ahead (fun _ _ _ _ _ _ us hl => match us, hl with | [_, _], _ => rfl) (fun vs H Q E h => ?_) (fun cdv A outer s H vs Q E f hr h => ?_)
  · obtain ⟨x, ⟨v, rfl, _⟩, _⟩ := h
    rfl
  · obtain ⟨⟨ps, a⟩, ⟨v, rfl, hd, ha, h7⟩, k⟩ := h
    dsimp only at hd ha h7 k ⊢
    have sc := sc_put_ahead
    refine ⟨_, pss_cons (ps_set (i := 2) sc.nd rfl (by first | exact Or.inl rfl | exact Or.inr rfl) (pe_ix ix_list (pv 0) (pv 1) (fun _ _ => rfl)))
    (pss_cons (ps_if (pt_cmpR op_eq (pe_bm PySem.F.plainAttrs_list PySem.F.slot_list_count PySem.F.type_list_count mt_lcount (pv 0) (pa_cons (pv 2) pa_nil)) (pe_int) (by rfl))
    (pss_one (ps_ret (pe_callTy call_list_of (by rfl) (T.free "list") (by decide +kernel) (pa_cons (pv 0) pa_nil))))
    (pss_nil))
    (pss_cons (ps_set (i := 3) sc.nd rfl (by first | exact Or.inl rfl | exact Or.inr rfl) (pe_lst (pa_nil)))
    (pss_cons (ps_for PassesOwn.never rfl (pi_enum (by rfl) (T.free "enumerate") (pa_cons (pv 0) pa_nil)) (pg_tup rfl (pgs_cons (pg_name (i := 4) sc.nd rfl (by first | exact Or.inl rfl | exact Or.inr rfl)) (pgs_cons (pg_name (i := 5) sc.nd rfl (by first | exact Or.inl rfl | exact Or.inr rfl)) (pgs_nil))))
    (pss_one (ps_if (PW.pt (pw_or (pt_cmpR op_gt (pv 5) (pv 2) (by rfl)) (pw_or1 (PW.pt (pw_and (pt_cmpR op_eq (pv 5) (pv 2) (by rfl)) (pw_and1 (pt_cmpR op_ne (pv 4) (pv 1) (by rfl))))))))
      (pss_one (ps_expr (pe_bm PySem.F.plainAttrs_list PySem.F.slot_list_append PySem.F.type_list_append mt_append (pv 3) (pa_cons (pe_op op_add (pv 5) (pe_int)) pa_nil))))
      (pss_one (ps_expr (pe_bm PySem.F.plainAttrs_list PySem.F.slot_list_append PySem.F.type_list_append mt_append (pv 3) (pa_cons (pv 5) pa_nil)))))))
    (pss_one (ps_ret (pv 3)))))), ?_⟩
    refine q_asg (ev_ixN (ep_varD rfl hd) (ev_var rfl) (get_g ha)) fun H1 e1 => ?_
    refine q_when (et_test (ev_op (ev_countN (K := K) (ep_varD rfl (dp_ex e1 hd)) (ev_var rfl)) ev_c (rv_eq rfl))) (fun hb H2 e2 => ?_) fun hb H2 e2 => ?_
    · have c : ps.count (g ps a) = 1 := by
        have := of_decide_eq_true hb
        have := V.int.inj this
        omega
      have e : putA ps a = ps := by
        unfold putA
        rw [show (fun j => if ps.count (g ps a) = 1 then g ps j else if g ps j > g ps a ∨ (g ps j = g ps a ∧ j ≠ a) then g ps j + 1 else g ps j) = g ps from funext fun j => if_pos c]
        exact range_map_g ps
      refine s_retP (P := NewL K H2 (natsL ps)) (ep_listOf (ep_varD rfl (dp_ex (e1.trans e2) hd))) fun v2 H3 e3 h => k _ _ ((e1.trans e2).trans e3) ?_
      rw [e]
      exact NewL.up (e1.trans e2) h
    · have c : ps.count (g ps a) ≠ 1 := fun c => by
        rw [c] at hb
        cases hb
      let F : Nat → Nat := fun j => if g ps j > g ps a ∨ (g ps j = g ps a ∧ j ≠ a) then g ps j + 1 else g ps j
      have e : putA ps a = (List.range ps.length).map F := by
        unfold putA
        exact List.map_congr_left fun j _ => if_neg c
      refine q_asgP (ep_lstD (K := K) ea_nilD) fun v1 H3 e3 hv1 => ?_
      obtain ⟨r, xs0, rfl, hr0, hr1, hx0⟩ := hv1
      have e03 := (e1.trans e2).trans e3
      have r0 : H r = none := fresh_back (e1.trans e2) hr0
      cases hd with
      | @lst la xs _ sl dl =>
      have hxs := ints_of dl
      subst hxs
      have lar : la ≠ r ∨ ∃ o, K.lookup la = some o := by
        rcases sl with (sl | ⟨u, sl⟩) | ⟨o, its, n, sl, _⟩
        · exact .inl fun z => by rw [z, r0] at sl; cases sl
        · exact .inl fun z => by rw [z, r0] at sl; cases sl
        · exact .inr ⟨o, sl⟩
      refine q_forE (ev_var rfl) (ex_l e03 sl) (fun m σ' H' => (∃ o4 o5, σ' = [some (.ref la), some (.int (a : Int)), some (.int (g ps a : Int)), some (.ref r), o4, o5]) ∧ AccB K r H3 (natsL ((List.range m).map F)) H') (fun H4 e4 => ⟨⟨_, _, rfl⟩, AccB.ex (accB_new hr1 hx0) e4⟩) (fun m σ' H' q => ex_l (But.fresh e03 q.2.1 r0) sl) (fun m x σ' H' H4 hx q e4 => ?_) (fun σ' H' q => ?_)
      · obtain ⟨⟨o4, o5, rfl⟩, acc⟩ := q
        rw [List.getElem?_map] at hx
        obtain ⟨y, hy, rfl⟩ := Option.map_eq_some_iff.mp hx
        have hm : m < ps.length := (List.getElem?_eq_some_iff.mp hy).1
        have hy' : y = g ps m := by
          rw [get_g hm] at hy
          exact (Option.some.inj hy).symm
        subst hy'
        show tIfS _ _ _ _ [some (.ref la), some (.int (a : Int)), some (.int (g ps a : Int)), some (.ref r), some (.int (m : Int)), some (.int (g ps m : Int))] H4
        have fin : ∀ {H5 : Hp} {te : TE} {y : Nat}, Ex H4 H5 → y = F m → Ev te [some (.ref la), some (.int (a : Int)), some (.int (g ps a : Int)), some (.ref r), some (.int (m : Int)), some (.int (g ps m : Int))] H5 (.int (y : Int)) → tDrop (tBM K "list" rAppend (tVar 3) (tCons te tNil)) { nx := fun σ' H' => (∃ o4 o5, σ' = [some (.ref la), some (.int (a : Int)), some (.int (g ps a : Int)), some (.ref r), o4, o5]) ∧ AccB K r H3 (natsL ((List.range (m + 1)).map F)) H', rt := Q, ct := fun σ' H' => (∃ o4 o5, σ' = [some (.ref la), some (.int (a : Int)), some (.int (g ps a : Int)), some (.ref r), o4, o5]) ∧ AccB K r H3 (natsL ((List.range (m + 1)).map F)) H', bk := tRet (tVar 3) { nx := fun _ H' => Q .non H', rt := Q } } [some (.ref la), some (.int (a : Int)), some (.int (g ps a : Int)), some (.ref r), some (.int (m : Int)), some (.int (g ps m : Int))] H5 := fun {H5 te y} e5 hy he => by
          refine s_accB (d := .int (F m : Nat)) (AccB.ex acc (e4.trans e5)) (ev_var rfl) (by rw [← hy]; exact ep_int he) (noL_nats _) rfl (by rw [List.length_map, List.length_map, List.length_range]; omega) fun H6 acc6 => ⟨⟨_, _, rfl⟩, ?_⟩
          rw [range_snoc]
          unfold natsL
          rw [List.map_append]
          exact acc6
        refine s_if (et_or (et_test (ev_op (ev_var rfl) (ev_var rfl) rv_I0)) fun _ => et_and (et_test (ev_op (ev_var rfl) (ev_var rfl) (rv_eq rfl))) fun _ => et_test (ev_op (ev_var rfl) (ev_var rfl) (rv_ne rfl))) (fun hb H5 e5 => ?_) fun hb H5 e5 => ?_
        · refine fin (y := g ps m + 1) e5 ?_ (ev_op (ev_var rfl) ev_c rv_I0)
          exact (if_pos (putTest.mp hb)).symm
        · refine fin (y := g ps m) e5 ?_ (ev_var rfl)
          exact (if_neg fun z => by
            rw [putTest.mpr z] at hb
            cases hb).symm
      · obtain ⟨⟨o4, o5, rfl⟩, acc⟩ := q
        refine s_retE (ev_var rfl) fun H4 e4 => ?_
        have acc4 := AccB.ex acc e4
        rw [List.length_map, ← e] at acc4
        obtain ⟨b, xs, h1, h2⟩ := acc4
        exact k _ _ (But.fresh e03 b r0) ⟨r, xs, rfl, r0, h1, h2⟩
def spChosen (K : PySem.W.Frag) : Sp := spP (fun (x : Wb × List Nat × Nat) vs H => ∃ p v, vs = [.ref p, v, .int (x.2.2 : Int)] ∧ WebAt K H p x.1 ∧ x.1.n ≤ 7 ∧ Dp K H v (natsD x.2.1) ∧ Part x.1 x.2.1 ∧ x.2.2 < x.1.n ∧ x.2.1.count (g x.2.1 x.2.2) ≠ 1) (fun x H v H' => ∃ q, Settles x.1 (putA x.2.1 x.2.2) q ∧ NewL K H (natsL q) v H')
theorem cal_chosen (T : TX K mg) : Cal P w K mg base 7 "chosen" (spChosen K) [] := by
  refine T.cal d_chosen (N := ["web", "parting", "place"]) (ps := ["web", "parting", "place"]) (List.mem_of_getElem? (i := 8) rfl) rfl (by decide +kernel) sc_chosen (fun _ _ _ _ _ _ us hl => match us, hl with | [_, _, _], _ => rfl) (fun vs H Q E h => ?_) (fun cdv A outer s H vs Q E f hr h => ?_)
  · obtain ⟨x, ⟨p, v, rfl, _⟩, _⟩ := h
    rfl
  · obtain ⟨⟨W, ps, a⟩, ⟨p, v, rfl, hw, h7, hd, hp, ha, hc⟩, k⟩ := h
    dsimp only at hw h7 hd hp ha hc k ⊢
    have sc := sc_chosen
    have c_put_ahead := cal_put_ahead (P := P) (w := w) (base := base) T
    have c_settled := cal_settled (P := P) (w := w) (base := base) T
    refine ⟨_, pss_one (ps_ret (pe_c c_settled hr (by decide) rfl (pa_cons (pv 0) (pa_cons (pe_c c_put_ahead hr (by decide) rfl (pa_cons (pv 1) (pa_cons (pv 2) pa_nil))) pa_nil)))), ?_⟩
    refine s_retP (P := fun v H' => ∃ q, Settles W (putA ps a) q ∧ NewL K H (natsL q) v H') (ep_call (W, putA ps a) (ea_consV (v := .ref p) (ev_var rfl) (ea_consD (d := natsD (putA ps a)) (EvP.newDp (H0 := H) (ep_call (ps, a) (eap_of (vs := [v, .int (a : Int)]) (ea_cons (ev_var rfl) (ea_cons (ev_var rfl) ea_nil))) (fun vs H2 e2 h => ?_) fun H2 v H3 e2 e3 h => NewL.up e2 h)) ea_nilD)) (fun vs H2 e2 h => ?_) fun H2 v H3 e2 e3 h => ?_) fun v H1 e1 h => k _ _ e1 h
    · subst h
      have hl := hp.len
      exact ⟨v, rfl, dp_ex e2 hd, show a < ps.length by omega, show ps.length ≤ 7 by omega⟩
    · obtain ⟨r, rfl, h⟩ := h
      cases h with
      | cons h1 h2 =>
        cases h2
        exact ⟨p, _, rfl, web_ex e2 hw, h7, h1, (part_putA hp ha hc).1⟩
    · obtain ⟨q, h1, h2⟩ := h
      exact ⟨q, h1, NewL.up e2 h2⟩
/-! ### open_class -/
def spOpen (K : PySem.W.Frag) : Sp := spP (fun (ps : List Nat) vs H => ∃ v, vs = [v] ∧ Dp K H v (natsD ps) ∧ ps.length ≤ 7) (fun ps H v H' => NewL K H (natsL (openC ps)) v H')
theorem openR_some {ps : List Nat} {m : Nat} (hm : m < ps.length) (h0 : ∀ r, r < m → ¬ 1 < ps.count r) (h1 : 1 < ps.count m) : openR ps = some m := by
  unfold openR
  rw [List.find?_eq_some_iff_append]
  refine ⟨decide_eq_true h1, List.range m, (List.range (ps.length - m - 1)).map (fun i => m + 1 + i), ?_, fun a ha => ?_⟩
  · have e : ps.length = m + ((ps.length - m - 1) + 1) := by omega
    conv => lhs; rw [e]
    rw [List.range_add, List.range_succ_eq_map, List.map_cons, List.map_map]
    congr 2
    refine List.map_congr_left fun i _ => ?_
    show m + (i + 1) = m + 1 + i
    omega
  · rw [decide_eq_false (h0 a (List.mem_range.mp ha))]
    rfl
theorem openR_none' {ps : List Nat} (h0 : ∀ r, r < ps.length → ¬ 1 < ps.count r) : openR ps = none := by
  unfold openR
  rw [List.find?_eq_none]
  intro r hr
  rw [decide_eq_true_eq]
  exact h0 r (List.mem_range.mp hr)
theorem cal_open_class (T : TX K mg) : Cal P w K mg base 1 "open_class" (spOpen K) [] := by
  refine T.cal d_open_class (N := ["parting", "rank", "place"]) (ps := ["parting"]) (List.mem_of_getElem? (i := 9) rfl) rfl (by decide +kernel) sc_open_class (fun _ _ _ _ _ _ us hl => match us, hl with | [_], _ => rfl) (fun vs H Q E h => ?_) (fun cdv A outer s H vs Q E f hr h => ?_)
  · obtain ⟨x, ⟨v, rfl, _⟩, _⟩ := h
    rfl
  · obtain ⟨ps, ⟨v, rfl, hd, h7⟩, k⟩ := h
    have sc := sc_open_class
    refine ⟨_, pss_cons (ps_for PassesOwn.never rfl (pi_range1 rfl (T.free "range") (pa_cons (pe_callB call_len_seq (by rfl) (T.free "len") (by decide +kernel) (pa_cons (pv 0) pa_nil)) pa_nil)) (pg_name (i := 1) sc.nd rfl (by first | exact Or.inl rfl | exact Or.inr rfl))
    (pss_one (ps_if (pt_cmpR op_gt (pe_bm PySem.F.plainAttrs_list PySem.F.slot_list_count PySem.F.type_list_count mt_lcount (pv 0) (pa_cons (pv 1) pa_nil)) (pe_int) (by rfl))
      (pss_one (ps_ret (pe_lc (own := [("place", 2)]) (g := gName 2) (tt := tTest (tOp (_) (tOp (rIxL K) (_) (_)) (_))) (te := _) rfl sc.nd (pi_range1 rfl (T.free "range") (pa_cons (pe_callB call_len_seq (by rfl) (T.free "len") (by decide +kernel) (pa_cons (pv 0) pa_nil)) pa_nil)) (blkOk_by (own := [("place", 2)]) rfl) (fun _ _ _ _ _ => pg_name (i := 2) sc.nd rfl (by first | exact Or.inl rfl | exact Or.inr rfl)) (fun _ _ _ _ _ => pts_one (pt_cmpR op_eq (pe_ix ix_list (pv 0) (pv 2) (fun _ _ => rfl)) (pv 1) (by rfl))) (fun _ _ _ _ _ => pv 2))))
      (pss_nil))))
    (pss_one (ps_ret (pe_lst (pa_nil)))), ?_⟩
    have len : ∀ {σ : L2.St} {H1 : Hp}, σ[0]? = some (some v) → Ex H H1 → Ev (tCB (Evl.rLenS K) (tCons (tVar 0) tNil)) σ H1 (.int (ps.length : Int)) := fun {σ H1} hσ e => by
      have q := ev_lenL (K := K) (te := tVar 0) (σ := σ) (H := H1) (ep_varD hσ (dp_ex e hd))
      rwa [List.length_map] at q
    refine q_forR (n := ps.length) (ea_cons (len rfl (Evl.Ex.refl H)) ea_nil) (by omega) (fun m σ' H' => (∃ o1, σ' = [some v, o1, none]) ∧ Ex H H' ∧ ∀ r, r < m → ¬ 1 < ps.count r) (fun H1 e1 => ⟨⟨_, rfl⟩, e1, fun r hr => by omega⟩) (fun m σ' H' hm q => ?_) (fun σ' H' q => ?_)
    · obtain ⟨⟨o1, rfl⟩, e1, h0⟩ := q
      show tIfS _ _ _ _ [some v, some (.int (m : Int)), none] H'
      refine s_if (et_test (ev_op (ev_countN (K := K) (ep_varD rfl (dp_ex e1 hd)) (ev_var rfl)) ev_c rv_I0)) (fun hb H2 e2 => ?_) fun hb H2 e2 => ?_
      · have c : 1 < ps.count m := by
          have := of_decide_eq_true hb
          omega
        have eo := openR_some hm h0 c
        refine s_retP (P := NewL K H2 (natsL (openC ps))) (EvP.imp (P := NewL K H2 (outs ps.length (fun j => decide (g ps j = m)) fun j => .int (j : Int))) (ep_lcR (K := K) (n := ps.length) (fun j => decide (g ps j = m)) (fun j => .int (j : Int)) (ea_cons (len rfl (e1.trans e2)) ea_nil) (by omega) (fun _ _ _ => rfl) (fun x => rfl) (fun j H3 e3 hj => ?_) fun j H3 e3 hj _ => ep_int (ev_var rfl)) fun v3 H3 _ h => ?_) fun v3 H3 e3 h => k _ _ ((e1.trans e2).trans e3) (NewL.up (e1.trans e2) h)
        · have q := et_test (ev_op (ev_ixN (K := K) (σ := [some v, some (.int (m : Int)), some (.int (j : Int))]) (ta := tVar 0) (tb := tVar 2) (ep_varD rfl (dp_ex ((e1.trans e2).trans e3) hd)) (ev_var rfl) (get_g hj)) (ev_var (i := 1) rfl) (rv_eq rfl))
          have e : decide (V.int (g ps j : Int) = V.int (m : Int)) = decide (g ps j = m) := decide_eq_decide.mpr ⟨fun e => by have := V.int.inj e; omega, fun e => by rw [e]⟩
          rw [e] at q
          exact q
        · have e : openC ps = (List.range ps.length).filter fun j => decide (g ps j = m) := by
            unfold openC
            rw [eo]
          rw [e]
          exact h
      · refine ⟨⟨_, rfl⟩, e1.trans e2, fun r hr => ?_⟩
        rcases Nat.lt_succ_iff_lt_or_eq.mp hr with h | h
        · exact h0 r h
        · subst h
          intro c
          have : decide ((1 : Int) < ((ps.count r : Nat) : Int)) = true := decide_eq_true (by omega)
          rw [this] at hb
          cases hb
    · obtain ⟨⟨o1, rfl⟩, e1, h0⟩ := q
      refine s_retP (ep_lstD (K := K) ea_nilD) fun v3 H3 e3 h => k _ _ (e1.trans e3) ?_
      have e : openC ps = [] := by
        unfold openC
        rw [openR_none' h0]
      show NewL K H (natsL (openC ps)) v3 H3
      rw [e]
      exact NewL.up e1 h
end
end L2.Tw
set_option Elab.async false
set_option linter.all false
set_option maxRecDepth 100000
set_option maxHeartbeats 4000000
set_option autoImplicit false
namespace L2.Tw
open PySem PySem.Spec PyProof.Rows L2
open C8 (Cal Met Mak pe_c pe_mk pe_mt pe_mt0 pe_gc InsC)
open Evl (Ex Ev EvT EvA fresh_back ex_l ex_t ex_rd sq_of st_of sz_of sz_lt ev_var ev_c ev_op rv_I0 rv_I rv_eq rv_ne et_test et_or et_and et_not et_B s_if ea_nil ea_cons q_asg q_when)
/-! ### rows as data -/
def rowC (W : Wb) (o : List Nat) (i j : Nat) : PyData := pairsD (bt W (g o i) (g o j))
def rowI (W : Wb) (o : List Nat) (i : Nat) : List PyData := (List.range (o.length - (i + 1))).map fun k => rowC W o i (i + 1 + k)
def rowT (W : Wb) (o : List Nat) : List PyData := (List.range o.length).flatMap (rowI W o)
def rowD (W : Wb) (o : List Nat) : PyData := .tuple [.tuple (o.map fun x => .str (kindOf W x)), .tuple (rowT W o)]
theorem rowT_mem {W : Wb} {o : List Nat} {d : PyData} (h : d ∈ rowT W o) : ∃ i j, d = rowC W o i j := by
  obtain ⟨i, _, h2⟩ := List.mem_flatMap.mp h
  obtain ⟨k, _, rfl⟩ := List.mem_map.mp h2
  exact ⟨_, _, rfl⟩
theorem pd_row (W : Wb) (o : List Nat) : Pd 4 (rowD W o) := by
  refine pd_tuple fun d hd => ?_
  rcases List.mem_cons.mp hd with e | hd
  · subst e
    exact (pd_tuple (n := 0) (pd_map (fun _ => pd_str _) o)).up
  · rw [show d = .tuple (rowT W o) by simpa using hd]
    refine pd_tuple fun d hd => ?_
    obtain ⟨i, j, rfl⟩ := rowT_mem hd
    exact pd_pairs _
theorem row_eq {W W' : Wb} {o o' : List Nat} (r : RowEq W o W' o') : rowD W o = rowD W' o' := by
  have hl := r.len
  have h1 : (o.map fun x => PyData.str (kindOf W x)) = o'.map fun x => PyData.str (kindOf W' x) := by
    rw [map_eq_range o rfl, map_eq_range o' rfl, ← hl]
    refine List.map_congr_left fun i hi => ?_
    rw [r.kd i (List.mem_range.mp hi)]
  have h2 : rowT W o = rowT W' o' := by
    unfold rowT
    rw [← hl]
    have : ∀ l : List Nat, (∀ i ∈ l, i < o.length) → l.flatMap (rowI W o) = l.flatMap (rowI W' o') := by
      intro l hl'
      induction l with
      | nil => rfl
      | cons a l ih =>
        rw [List.flatMap_cons, List.flatMap_cons, ih fun i hi => hl' i (List.mem_cons_of_mem _ hi)]
        congr 1
        unfold rowI
        rw [← hl]
        refine List.map_congr_left fun k hk => ?_
        unfold rowC
        have hk' := List.mem_range.mp hk
        rw [r.bt a (a + 1 + k) (by omega) (by omega)]
    exact this _ fun i hi => List.mem_range.mp hi
  unfold rowD
  rw [h1, h2]
section
variable {P : Program} {w : World} {K : PySem.W.Frag} {mg : Str → Option Value} {base : Heap}
theorem ev_lenN {σ : L2.St} {H : Hp} {te : TE} {l : List Nat} (h : EvP te σ H (DP K (natsD l))) : Ev (tCB (Evl.rLenS K) (tCons te tNil)) σ H (.int (l.length : Int)) := by
  have q := ev_lenL h
  rwa [List.length_map] at q
/-! ### row_of -/
def spRow (K : PySem.W.Frag) : Sp := spP (fun (x : Wb × List Nat) vs H => ∃ p v, vs = [.ref p, v] ∧ WebAt K H p x.1 ∧ x.1.n ≤ 7 ∧ Dp K H v (natsD x.2) ∧ Ord x.1.n x.2) (fun x _ v H' => Dp K H' v (rowD x.1 x.2))
theorem flatMap_snoc {α : Type} (f : Nat → List α) (m : Nat) : (List.range (m + 1)).flatMap f = (List.range m).flatMap f ++ f m := by
  rw [List.range_succ, List.flatMap_append]
  simp
theorem flat_len {f : Nat → List PyData} {b : Nat} (h : ∀ i, (f i).length ≤ b) (m : Nat) : ((List.range m).flatMap f).length ≤ m * b := by
  induction m with
  | zero => simp
  | succ m ih =>
    rw [flatMap_snoc, List.length_append, Nat.succ_mul]
    have := h m
    omega
theorem cal_row_of (T : TX K mg) : Cal P w K mg base 2 "row_of" (spRow K) [] := by
  refine T.cal d_row_of (N := ["web", "order", "ties", "i", "j", "place"]) (ps := ["web", "order"]) (List.mem_of_getElem? (i := 10) rfl) rfl (by decide +kernel) sc_row_of (fun _ _ _ _ _ _ us hl => match us, hl with | [_, _], _ => rfl) (fun vs H Q E h => ?_) (fun cdv A outer s H vs Q E f hr h => ?_)
  · obtain ⟨x, ⟨p, v, rfl, _⟩, _⟩ := h
    rfl
  · obtain ⟨⟨W, o⟩, ⟨p, v, rfl, hw, h7, hd, ho⟩, k⟩ := h
    dsimp only at hw h7 hd ho k ⊢
    have sc := sc_row_of
    have m_Web_between := m_between (P := P) (w := w) (base := base) T
    refine ⟨_, pss_cons (ps_set (i := 2) sc.nd rfl (by first | exact Or.inl rfl | exact Or.inr rfl) (pe_lst (pa_nil)))
    (pss_cons (ps_for PassesOwn.never rfl (pi_range1 rfl (T.free "range") (pa_cons (pe_callB call_len_seq (by rfl) (T.free "len") (by decide +kernel) (pa_cons (pv 1) pa_nil)) pa_nil)) (pg_name (i := 3) sc.nd rfl (by first | exact Or.inl rfl | exact Or.inr rfl))
    (pss_one (ps_for PassesOwn.never rfl (pi_range2 (by rfl) (T.free "range") (pa_cons (pe_op op_add (pv 3) (pe_int)) (pa_cons (pe_callB call_len_seq (by rfl) (T.free "len") (by decide +kernel) (pa_cons (pv 1) pa_nil)) pa_nil))) (pg_name (i := 4) sc.nd rfl (by first | exact Or.inl rfl | exact Or.inr rfl))
      (pss_one (ps_expr (pe_bm PySem.F.plainAttrs_list PySem.F.slot_list_append PySem.F.type_list_append mt_append (pv 2) (pa_cons (pe_mt m_Web_between hr (by decide) (pv 0) (pa_cons (pe_ix ix_list (pv 1) (pv 3) (fun _ _ => rfl)) (pa_cons (pe_ix ix_list (pv 1) (pv 4) (fun _ _ => rfl)) pa_nil))) pa_nil)))))))
    (pss_one (ps_ret (pe_tup (pa_cons (pe_callTy call_tuple_of (by rfl) (T.free "tuple") (by decide +kernel) (pa_cons (pe_lc (own := [("place", 5)]) (g := gName 5) (tt := tYes) (te := tOp (rIxL K) (tFld K (_) _) (_)) rfl sc.nd (pi_list (pv 1)) (blkOk_by (own := [("place", 5)]) rfl) (fun _ _ _ _ _ => pg_name (i := 5) sc.nd rfl (by first | exact Or.inl rfl | exact Or.inr rfl)) (fun _ _ _ _ _ => pts_nil) (fun _ _ _ _ _ => pe_ix ix_list (pe_fld (pv 0) rfl) (pv 5) (fun _ _ => rfl))) pa_nil)) (pa_cons (pe_callTy call_tuple_of (by rfl) (T.free "tuple") (by decide +kernel) (pa_cons (pv 2) pa_nil)) pa_nil)))))), ?_⟩
    have hl : o.length = W.n := ho.len
    refine q_asgP (ep_lstD (K := K) ea_nilD) fun v1 H1 e1 hv1 => ?_
    obtain ⟨r, xs0, rfl, hr0, hr1, hx0⟩ := hv1
    have web : ∀ {H'}, But r H1 H' → WebAt K H' p W := fun b => web_ex (But.fresh e1 b hr0) hw
    have par : ∀ {H'}, But r H1 H' → Dp K H' v (natsD o) := fun b => dp_ex (But.fresh e1 b hr0) hd
    have nlC : ∀ i, noLs (rowI W o i) = true := fun i => noLs_iff.mpr fun d hd => by
      obtain ⟨k, _, rfl⟩ := List.mem_map.mp hd
      exact noL_pairs _
    have nlM : ∀ m, noLs ((List.range m).flatMap (rowI W o)) = true := fun m => noLs_iff.mpr fun d hd => by
      obtain ⟨i, _, h2⟩ := List.mem_flatMap.mp hd
      exact noLs_iff.mp (nlC i) d h2
    have lenI : ∀ i, (rowI W o i).length ≤ 7 := fun i => by
      unfold rowI
      rw [List.length_map, List.length_range]
      omega
    refine q_forR (n := o.length) (ea_cons (ev_lenN (ep_varD rfl (par (But.refl _ _)))) ea_nil) (by omega) (fun m σ' H' => (∃ o3 o4, σ' = [some (.ref p), some v, some (.ref r), o3, o4, none]) ∧ AccB K r H1 ((List.range m).flatMap (rowI W o)) H') (fun H2 e2 => ⟨⟨_, _, rfl⟩, AccB.ex (accB_new hr1 hx0) e2⟩) (fun m σ' H' hm q => ?_) (fun σ' H' q => ?_)
    · obtain ⟨⟨o3, o4, rfl⟩, acc⟩ := q
      have lm := flat_len lenI m
      refine s_forR2 (lo := m + 1) (n := o.length) (ea_cons (ev_op (ev_var rfl) ev_c rv_I0) (ea_cons (ev_lenN (ep_varD rfl (par acc.1))) ea_nil)) (by omega) (fun j σ' H' => (∃ o4, σ' = [some (.ref p), some v, some (.ref r), some (.int (m : Int)), o4, none]) ∧ AccB K r H1 ((List.range m).flatMap (rowI W o) ++ (List.range (j - (m + 1))).map fun k => rowC W o m (m + 1 + k)) H') (fun H2 e2 => ⟨⟨_, rfl⟩, by
        rw [Nat.sub_self]
        simp only [List.range_zero, List.map_nil, List.append_nil]
        exact acc.ex e2⟩) (fun j σ' H' h1 h2 q => ?_) (fun σ' H' q => ?_)
      · obtain ⟨⟨o4, rfl⟩, acc⟩ := q
        have hj : j + 1 - (m + 1) = (j - (m + 1)) + 1 := by omega
        refine s_accB (d := rowC W o m j) acc (ev_var rfl) (ep_between (web acc.1) (ev_var rfl) (ev_ixN (ep_varD rfl (par acc.1)) (ev_var rfl) (get_g hm)) (ev_ixN (ep_varD rfl (par acc.1)) (ev_var rfl) (get_g h2))) ?_ (noL_pairs _) ?_ fun H3 acc3 => ⟨⟨_, rfl⟩, ?_⟩
        · refine noLs_iff.mpr fun d hd => ?_
          rcases List.mem_append.mp hd with hd | hd
          · exact noLs_iff.mp (nlM m) d hd
          · obtain ⟨k, _, rfl⟩ := List.mem_map.mp hd
            exact noL_pairs _
        · rw [List.length_append, List.length_map, List.length_range]
          omega
        · rw [hj, range_snoc, ← List.append_assoc, show m + 1 + (j - (m + 1)) = j by omega]
          exact acc3
      · obtain ⟨⟨o4, rfl⟩, acc⟩ := q
        refine ⟨⟨_, _, rfl⟩, ?_⟩
        rw [flatMap_snoc]
        exact acc
    · obtain ⟨⟨o3, o4, rfl⟩, acc⟩ := q
      obtain ⟨dx, vk, vt, gg, h1, h2, h3, h4⟩ := (web acc.1).out
      refine s_retP (P := DP K (rowD W o)) (ep_tupD (ea_consD (ep_tupleOf (EvP.newDp (ep_lcM (f := fun (j : Nat) => .int (j : Int)) (h := fun x => .str (kindOf W x)) (ep_varD rfl (par acc.1)) (by omega) (fun _ _ => rfl) (fun x => rfl) fun a x H2 ha e2 hx => ?_))) (ea_consD (ep_tupleOf (ep_varD rfl acc.dp)) ea_nilD))) fun v2 H2 e2 h => k _ _ ((But.fresh e1 acc.1 hr0).trans e2) h
      cases hx
      have hlt : a < W.n := ho.mem.mp ha
      exact ep_ixL (ds := W.kinds.map .str) (ep_fld (ev_var rfl) (e2 _ _ h1) (T.cls "Web") (T.noat "Web" "kinds") rfl fun H3 e5 => dp_ex (e2.trans e5) h2) (ev_var rfl) (by rw [List.getElem?_map, kindOf_get hlt]; rfl)
/-! ### order_by -/
theorem ep_rep0 {σ : L2.St} {H : Hp} {te : TE} {n : Nat} (h : Ev te σ H (.int (n : Int))) (hn : n ≤ 1000) : EvP (tOp rRep (tLst (tCons (tC (.int 0)) tNil)) te) σ H (fun v H' => ∃ a, v = .ref a ∧ H a = none ∧ H' a = some (.lst (natsV (List.replicate n 0)))) := fun H1 e Q q =>
  ⟨by show 1 ≤ sizeLine; decide, fun p hp => by
    have e2 : Ex H1 (upd H1 p (.lst [.int 0])) := Evl.Ex.new hp
    refine h _ (e.trans e2) _ fun H3 e3 => ⟨p, (n : Int), [.int 0], rfl, rfl, e3 _ _ upd_same, by omega, by omega, ?_, fun a ha => ?_⟩
    · have : (1 : Nat) * n ≤ sizeLine := sz_of (by omega)
      exact this
    · refine q _ _ (e2.trans (e3.trans (Evl.Ex.new ha))) ⟨a, rfl, fresh_back (e.trans (e2.trans e3)) ha, ?_⟩
      have : (List.replicate ((n : Int).toNat) [V.int 0]).flatten = natsV (List.replicate n 0) := by
        unfold natsV
        rw [List.map_replicate, List.flatten_replicate_singleton]
        rfl
      rw [this]
      exact upd_same⟩
def spOrdBy (K : PySem.W.Frag) : Sp := spP (fun (x : Wb × List Nat) vs H => ∃ v, vs = [v] ∧ Dp K H v (natsD x.2) ∧ Part x.1 x.2 ∧ x.1.n ≤ 7 ∧ openC x.2 = []) (fun x H v H' => ∃ a, v = .ref a ∧ H a = none ∧ H' a = some (.lst (natsV (orderB x.2))))
theorem natsV_set (l : List Nat) (i x : Nat) : (natsV l).set i (.int (x : Int)) = natsV (l.set i x) := by
  unfold natsV
  rw [List.map_set]
theorem foldl_len (ps : List Nat) (m n : Nat) : ((List.range m).foldl (fun o j => o.set (g ps j) j) (List.replicate n 0)).length = n := by
  induction m with
  | zero => simp
  | succ m ih =>
    rw [List.range_succ, List.foldl_append]
    simpa using ih
theorem cal_order_by (T : TX K mg) : Cal P w K mg base 1 "order_by" (spOrdBy K) [] := by
  refine T.cal d_order_by (N := ["parting", "order", "place", "rank"]) (ps := ["parting"]) (List.mem_of_getElem? (i := 11) rfl) rfl (by decide +kernel) sc_order_by (fun _ _ _ _ _ _ us hl => match us, hl with | [_], _ => rfl) (fun vs H Q E h => ?_) (fun cdv A outer s H vs Q E f hr h => ?_)
  · obtain ⟨x, ⟨v, rfl, _⟩, _⟩ := h
    rfl
  · obtain ⟨⟨W, ps⟩, ⟨v, rfl, hd, hp, h7, hc⟩, k⟩ := h
    dsimp only at hd hp h7 hc k ⊢
    have sc := sc_order_by
    refine ⟨_, pss_cons (ps_set (i := 1) sc.nd rfl (by first | exact Or.inl rfl | exact Or.inr rfl) (pe_op op_rep (pe_lst (pa_cons (pe_int) pa_nil)) (pe_callB call_len_seq (by rfl) (T.free "len") (by decide +kernel) (pa_cons (pv 0) pa_nil))))
    (pss_cons (ps_for PassesOwn.never rfl (pi_enum (by rfl) (T.free "enumerate") (pa_cons (pv 0) pa_nil)) (pg_tup rfl (pgs_cons (pg_name (i := 2) sc.nd rfl (by first | exact Or.inl rfl | exact Or.inr rfl)) (pgs_cons (pg_name (i := 3) sc.nd rfl (by first | exact Or.inl rfl | exact Or.inr rfl)) (pgs_nil))))
    (pss_one (ps_asg (pv 2) (pg_sub (pv 1) (pv 3) set_list))))
    (pss_one (ps_ret (pv 1)))), ?_⟩
    have hl : ps.length = W.n := hp.len
    refine q_asgP (ep_rep0 (ev_lenN (ep_varD rfl hd)) (by omega)) fun v1 H1 e1 hv1 => ?_
    obtain ⟨a, rfl, ha0, ha1⟩ := hv1
    cases hd with
    | @lst la xs _ sl dl =>
    have hxs := ints_of dl
    subst hxs
    refine q_forE (ev_var rfl) (ex_l e1 sl) (fun m σ' H' => (∃ o2 o3, σ' = [some (.ref la), some (.ref a), o2, o3]) ∧ But a H1 H' ∧ H' a = some (.lst (natsV ((List.range m).foldl (fun o j => o.set (g ps j) j) (List.replicate ps.length 0))))) (fun H2 e2 => ⟨⟨_, _, rfl⟩, (But.refl _ _).ex e2, e2 _ _ ha1⟩) (fun m σ' H' q => ex_l (But.fresh e1 q.2.1 ha0) sl) (fun m x σ' H' H2 hx q e2 => ?_) (fun σ' H' q => ?_)
    · obtain ⟨⟨o2, o3, rfl⟩, b, h1⟩ := q
      rw [List.getElem?_map] at hx
      obtain ⟨y, hy, rfl⟩ := Option.map_eq_some_iff.mp hx
      have hm : m < ps.length := (List.getElem?_eq_some_iff.mp hy).1
      have hy' : y = g ps m := by
        rw [get_g hm] at hy
        exact (Option.some.inj hy).symm
      subst hy'
      refine Evl.s_setL (v := .int (m : Int)) (j := g ps m) (e2 _ _ h1) (ev_var rfl) (ev_var rfl) (ev_var rfl) ?_ fun H3 e3 => ⟨⟨_, _, rfl⟩, (b.ex (e2.trans e3)).trans But.upd, ?_⟩
      · unfold natsV
        rw [List.length_map, foldl_len]
        have := hp.lt m (by omega)
        omega
      · rw [upd_same, natsV_set, List.range_succ, List.foldl_append]
        rfl
    · obtain ⟨⟨o2, o3, rfl⟩, b, h1⟩ := q
      refine s_retE (ev_var rfl) fun H2 e2 => k _ _ ((But.fresh e1 b ha0).trans e2) ⟨a, rfl, ha0, ?_⟩
      rw [List.length_map] at h1
      exact e2 _ _ h1
/-! ### leaves_all -/
def spLeaves (K : PySem.W.Frag) : Sp := spP (fun (x : List Nat × List Nat) vs H => ∃ v u, vs = [v, u] ∧ Dp K H v (natsD x.1) ∧ Dp K H u (natsD x.2) ∧ ∀ i ∈ x.2, i < x.1.length) (fun _ _ v _ => ∃ b, v = .bl b)
theorem cal_leaves_all (T : TX K mg) : Cal P w K mg base 1 "leaves_all" (spLeaves K) [] := by
  refine T.cal d_leaves_all (N := ["turning", "places", "place"]) (ps := ["turning", "places"]) (List.mem_of_getElem? (i := 12) rfl) rfl (by decide +kernel) sc_leaves_all (fun _ _ _ _ _ _ us hl => match us, hl with | [_, _], _ => rfl) (fun vs H Q E h => ?_) (fun cdv A outer s H vs Q E f hr h => ?_)
  · obtain ⟨x, ⟨v, u, rfl, _⟩, _⟩ := h
    rfl
  · obtain ⟨⟨t, l⟩, ⟨v, u, rfl, ht, hu, hlt⟩, k⟩ := h
    dsimp only at ht hu hlt k ⊢
    have sc := sc_leaves_all
    refine ⟨_, pss_cons (ps_for PassesOwn.never rfl (pi_list (pv 1)) (pg_name (i := 2) sc.nd rfl (by first | exact Or.inl rfl | exact Or.inr rfl))
    (pss_one (ps_if (pt_cmpR op_ne (pe_ix ix_list (pv 0) (pv 2) (fun _ _ => rfl)) (pv 2) (by rfl))
      (pss_one (ps_ret (pe_bl)))
      (pss_nil))))
    (pss_one (ps_ret (pe_bl))), ?_⟩
    refine q_forNX (ep_varD rfl hu) fun a xs H1 e1 hs hA => ⟨fun m σ' H' => (∃ o2, σ' = [some v, some u, o2]) ∧ Ex H1 H', ⟨⟨_, rfl⟩, Evl.Ex.refl _⟩, fun i σ' H' q => ⟨ex_l q.2 hs, dpAll_ex q.2 hA⟩, fun m d x σ' H' hd hx q => ?_, fun σ' H' q => ?_⟩
    · obtain ⟨⟨o2, rfl⟩, e2⟩ := q
      rw [List.getElem?_map] at hd
      obtain ⟨y, hy, rfl⟩ := Option.map_eq_some_iff.mp hd
      cases hx
      refine s_if (et_test (ev_op (ev_ixN (ep_varD rfl (dp_ex (e1.trans e2) ht)) (ev_var rfl) (get_g (hlt y (List.mem_of_getElem? hy)))) (ev_var rfl) (rv_ne rfl))) (fun hb H3 e3 => ?_) fun hb H3 e3 => ⟨⟨_, rfl⟩, e2.trans e3⟩
      exact s_retE ev_c fun H4 e4 => k _ _ ((e1.trans e2).trans (e3.trans e4)) ⟨_, rfl⟩
    · obtain ⟨⟨o2, rfl⟩, e2⟩ := q
      exact s_retE ev_c fun H4 e4 => k _ _ ((e1.trans e2).trans e4) ⟨_, rfl⟩
/-! ### led_to -/
/-- the turnings at xs: lists of places below n, each at its own address -/
def Tns (n : Nat) (H : Hp) (xs : List V) : Prop := ∀ x ∈ xs, ∃ q t, x = .ref q ∧ H q = some (.lst (natsV t)) ∧ t.length = n ∧ ∀ i ∈ t, i < n
theorem Tns.ex {n : Nat} {H H' : Hp} {xs : List V} (e : Ex H H') (h : Tns n H xs) : Tns n H' xs := fun x hx => by
  obtain ⟨q, t, h1, h2, h3⟩ := h x hx
  exact ⟨q, t, h1, e _ _ h2, h3⟩
def spLed (K : PySem.W.Frag) : Sp := spP (fun (x : Nat × List Nat × List V) vs H => ∃ v ta, vs = [v, .ref ta] ∧ Dp K H v (natsD x.2.1) ∧ (∀ i ∈ x.2.1, i < x.1) ∧ SqL K H ta x.2.2 ∧ Tns x.1 H x.2.2 ∧ x.1 ≤ 7 ∧ x.2.1.length ≤ 7)
  (fun x H v H' => ∃ l, NewL K H (natsL l) v H' ∧ (x.2.1 = [] → l = []))
def missing (n : Nat) (l : List Nat) : Nat := ((List.range n).filter fun x => decide (x ∉ l)).length
theorem missing_le (n : Nat) (l : List Nat) : missing n l ≤ n := by
  unfold missing
  have := List.length_filter_le (fun x => decide (x ∉ l)) (List.range n)
  rwa [List.length_range] at this
theorem missing_add {n : Nat} {l : List Nat} {x : Nat} (hx : x < n) (hn : x ∉ l) : missing n (l ++ [x]) + 1 ≤ missing n l := by
  unfold missing
  have nd : (List.range n).Nodup := List.nodup_range
  have key : ∀ m : List Nat, m.Nodup → x ∈ m → (m.filter fun y => decide (y ∉ l ++ [x])).length + 1 ≤ (m.filter fun y => decide (y ∉ l)).length := by
    intro m
    induction m with
    | nil => intro _ h; cases h
    | cons a m ih =>
      intro nd hm
      rw [List.nodup_cons] at nd
      have mono : ∀ m : List Nat, (m.filter fun y => decide (y ∉ l ++ [x])).length ≤ (m.filter fun y => decide (y ∉ l)).length := by
        intro m
        induction m with
        | nil => simp
        | cons b m ih =>
          rw [List.filter_cons, List.filter_cons]
          by_cases c : b ∈ l
          · rw [if_neg (by simp [c]), if_neg (by simp [c])]
            exact ih
          · rw [if_pos (c := decide (b ∉ l) = true) (by simp [c])]
            split
            · simpa using ih
            · simp only [List.length_cons]
              omega
      rw [List.filter_cons, List.filter_cons]
      rcases List.mem_cons.mp hm with e | hm
      · subst e
        rw [if_neg (by simp), if_pos (by simpa using hn)]
        have := mono m
        simp only [List.length_cons]
        omega
      · have := ih nd.2 hm
        by_cases c : a ∈ l
        · rw [if_neg (by simp [c]), if_neg (by simp [c])]
          exact this
        · rw [if_pos (c := decide (a ∉ l) = true) (by simp [c])]
          split
          · simp only [List.length_cons]
            omega
          · simp only [List.length_cons]
            omega
  exact key _ nd (List.mem_range.mpr hx)
theorem inV_nats (l : List Nat) (x : Nat) : inV (.int (x : Int)) (natsV l) = decide (x ∈ l) := by
  unfold inV natsV
  rw [List.any_map, Bool.eq_iff_iff, List.any_eq_true, decide_eq_true_eq]
  constructor
  · rintro ⟨y, hy, e⟩
    have e' : ((y : Int) == (x : Int)) = true := e
    rw [beq_iff_eq] at e'
    have : y = x := by omega
    exact this ▸ hy
  · intro h
    refine ⟨x, h, ?_⟩
    show ((x : Int) == (x : Int)) = true
    exact beq_self_eq_true _
theorem flat_nats (l : List Nat) : (natsV l).all flatV = true := by
  rw [List.all_eq_true]
  intro v hv
  obtain ⟨a, _, rfl⟩ := List.mem_map.mp hv
  rfl
theorem cal_led_to (T : TX K mg) : Cal P w K mg base 1 "led_to" (spLed K) [] := by
  refine T.cal d_led_to (N := ["places", "turnings", "come", "at", "turning"]) (ps := ["places", "turnings"]) (List.mem_of_getElem? (i := 13) rfl) rfl (by decide +kernel) sc_led_to (fun _ _ _ _ _ _ us hl => match us, hl with | [_, _], _ => rfl) (fun vs H Q E h => ?_) (fun cdv A outer s H vs Q E f hr h => ?_)
  · obtain ⟨x, ⟨v, u, rfl, _⟩, _⟩ := h
    rfl
  · obtain ⟨⟨n, pl, xs⟩, ⟨v, ta, rfl, hd, hlt, hs, hT, h7, hp7⟩, k⟩ := h
    dsimp only at hd hlt hs hT h7 hp7 k ⊢
    have sc := sc_led_to
    refine ⟨_, pss_cons (ps_set (i := 2) sc.nd rfl (by first | exact Or.inl rfl | exact Or.inr rfl) (pe_callTy call_list_of (by rfl) (T.free "list") (by decide +kernel) (pa_cons (pv 0) pa_nil)))
    (pss_cons (ps_set (i := 3) sc.nd rfl (by first | exact Or.inl rfl | exact Or.inr rfl) (pe_int))
    (pss_cons (ps_while PassesOwn.never (pt_cmpR op_lt (pv 3) (pe_callB call_len_seq (by rfl) (T.free "len") (by decide +kernel) (pa_cons (pv 2) pa_nil)) (by rfl))
    (pss_cons (ps_for PassesOwn.never rfl (pi_list (pv 1)) (pg_name (i := 4) sc.nd rfl (by first | exact Or.inl rfl | exact Or.inr rfl))
      (pss_one (ps_if (pt_cmpR op_notIn_seq (pe_ix ix_list (pv 4) (pe_ix ix_list (pv 2) (pv 3) (fun _ _ => rfl)) (fun _ _ => rfl)) (pv 2) (by rfl))
        (pss_one (ps_expr (pe_bm PySem.F.plainAttrs_list PySem.F.slot_list_append PySem.F.type_list_append mt_append (pv 2) (pa_cons (pe_ix ix_list (pv 4) (pe_ix ix_list (pv 2) (pv 3) (fun _ _ => rfl)) (fun _ _ => rfl)) pa_nil))))
        (pss_nil))))
      (pss_one (ps_aug (i := 3) sc.nd rfl (by first | exact Or.inl rfl | exact Or.inr rfl) (pe_int) ip_add))))
    (pss_one (ps_ret (pv 2))))), ?_⟩
    refine q_asgP (ep_listOf (K := K) (ep_varD rfl hd)) fun v1 H1 e1 hv1 => ?_
    obtain ⟨a0, rfl, h00, h01⟩ := newL_nats hv1
    refine q_asg ev_c fun H2 e2 => ?_
    have eb : ∀ {H'}, But a0 H1 H' → Ex H H' := fun b => But.fresh e1 b h00
    refine Evl.q_while (fun M σ' H' => ∃ come at_ o4, σ' = [some v, some (.ref ta), some (.ref a0), some (.int ((at_ : Nat) : Int)), o4] ∧ But a0 H1 H' ∧ H' a0 = some (.lst (natsV come)) ∧ (∀ i ∈ come, i < n) ∧ (pl = [] → come = []) ∧ come.length + missing n come ≤ 14 ∧ M = 2 * missing n come + (come.length - at_)) (2 * missing n pl + (pl.length - 0)) ⟨pl, 0, none, rfl, (But.refl _ _).ex e2, e2 _ _ h01, hlt, fun e => e, by have := missing_le n pl; omega, rfl⟩ fun M σ' H' q => ?_
    obtain ⟨come, at_, o4, rfl, b, h1, hc, hpe, hb14, hM⟩ := q
    refine ⟨_, et_test (ev_op (ev_var rfl) (ev_lenN (ep_evD (ev_var rfl) (dp_natsV h1))) rv_I0), fun hb H3 e3 => ?_, fun hb H3 e3 => ?_⟩
    · have hat : at_ < come.length := by
        have := of_decide_eq_true hb
        omega
      have hpn : pl ≠ [] := fun e => by
        rw [hpe e] at hat
        simp at hat
      refine ⟨fun σ2 H2 => ∃ come' o4, σ2 = [some v, some (.ref ta), some (.ref a0), some (.int ((at_ + 1 : Nat) : Int)), o4] ∧ But a0 H1 H2 ∧ H2 a0 = some (.lst (natsV come')) ∧ (∀ i ∈ come', i < n) ∧ come'.length + missing n come' ≤ 14 ∧ 2 * missing n come' + (come'.length - (at_ + 1)) < M, fun σ2 H2 ⟨come', o4, g1, g2, g3, g4, g5, g6⟩ => ⟨_, g6, come', at_ + 1, o4, g1, g2, g3, g4, fun e => absurd e hpn, g5, rfl⟩, ?_⟩
      have b3 := b.ex e3
      refine Evl.q_forL (ev_var rfl) (ex_l (eb b3) hs) (fun m σ' H' => ∃ come' o4, σ' = [some v, some (.ref ta), some (.ref a0), some (.int ((at_ : Nat) : Int)), o4] ∧ But a0 H1 H' ∧ H' a0 = some (.lst (natsV come')) ∧ (∀ i ∈ come', i < n) ∧ come'.length + missing n come' ≤ 14 ∧ at_ < come'.length ∧ 2 * missing n come' + come'.length ≤ 2 * missing n come + come.length) (fun H4 e4 => ⟨come, _, rfl, b3.ex e4, e4 _ _ (e3 _ _ h1), hc, hb14, hat, Nat.le_refl _⟩) (fun i σ' H' _ q => ?_) (fun m x σ' H' hx q => ?_) (fun σ' H' q => ?_)
      · obtain ⟨come', o4, g1, g2, _⟩ := q
        exact ex_l (eb g2) hs
      · obtain ⟨come', o4, rfl, g2, g3, g4, g5, g6, g7⟩ := q
        obtain ⟨t', tl, rfl, q1, q2, q3⟩ := hT.ex (eb g2) x (List.mem_of_getElem? hx)
        have hcl : g come' at_ < n := g4 _ (by rw [g_get g6]; exact List.getElem_mem g6)
        have hyl : g tl (g come' at_) < n := q3 _ (by rw [g_get (by omega)]; exact List.getElem_mem _)
        have ey : ∀ {H5 : Hp}, Ex H' H5 → Ev (tOp (rIxL K) (tVar 4) (tOp (rIxL K) (tVar 2) (tVar 3))) [some v, some (.ref ta), some (.ref a0), some (.int ((at_ : Nat) : Int)), some (.ref t')] H5 (.int (g tl (g come' at_) : Int)) := fun e5 => ev_ixN (ep_evD (ev_var rfl) (dp_natsV (e5 _ _ q1))) (ev_ixN (ep_evD (ev_var rfl) (dp_natsV (e5 _ _ g3))) (ev_var rfl) (get_g g6)) (get_g (by omega))
        show tIfS _ _ _ _ [some v, some (.ref ta), some (.ref a0), some (.int ((at_ : Nat) : Int)), some (.ref t')] H'
        have tst := et_test (ev_op (ey (Evl.Ex.refl _)) (ev_var (i := 2) rfl) (Evl.rv_niL (K := K) (sq_of g3) rfl (flat_nats come')))
        rw [inV_nats] at tst
        refine s_if tst (fun hb H5 e5 => ?_) fun hb H5 e5 => ?_
        · have hn : g tl (g come' at_) ∉ come' := fun z => by
            rw [decide_eq_true z] at hb
            cases hb
          have hma := missing_add hyl hn
          refine Evl.s_app (e5 _ _ g3) (ev_var rfl) (ey e5) (by unfold natsV; rw [List.length_map]; omega) fun H6 e6 => ?_
          refine ⟨come' ++ [g tl (g come' at_)], _, rfl, (g2.ex (e5.trans e6)).trans But.upd, ?_, fun i hi => ?_, ?_, ?_, ?_⟩
          · rw [upd_same]
            unfold natsV
            rw [List.map_append]
            rfl
          · rcases List.mem_append.mp hi with hi | hi
            · exact g4 i hi
            · rw [show i = g tl (g come' at_) by simpa using hi]
              exact hyl
          · simp only [List.length_append, List.length_singleton]
            omega
          · simp only [List.length_append, List.length_singleton]
            omega
          · simp only [List.length_append, List.length_singleton]
            omega
        · exact ⟨come', _, rfl, g2.ex e5, e5 _ _ g3, g4, g5, g6, g7⟩
      · obtain ⟨come', o4, rfl, g2, g3, g4, g5, g6, g7⟩ := q
        refine Evl.s_aug rfl ev_c fun H5 e5 => ?_
        refine ⟨come', o4, rfl, g2.ex e5, e5 _ _ g3, g4, g5, ?_⟩
        omega
    · refine s_retE (ev_var rfl) fun H4 e4 => k _ _ ((eb b).trans (e3.trans e4)) ⟨come, nats_newL h00 (e4 _ _ (e3 _ _ h1)), hpe⟩
end
end L2.Tw
set_option Elab.async false
set_option linter.all false
set_option maxRecDepth 100000
set_option maxHeartbeats 4000000
set_option autoImplicit false
namespace L2.Tw
open PySem PySem.Spec PyProof.Rows L2
open C8 (Cal Met Mak pe_c pe_mk pe_mt pe_mt0 pe_gc InsC)
open Evl (Ex Ev EvT EvA fresh_back ex_l ex_t ex_rd sq_of st_of sz_of sz_lt ev_var ev_c ev_op rv_I0 rv_I rv_eq rv_ne et_test et_or et_and et_not et_B s_if ea_nil ea_cons q_asg q_when)
/-- all that stands stays, but for what is at the addresses of S -/
def ButS (S : List Addr) (H H' : Hp) : Prop := ∀ q o, H q = some o → q ∉ S → H' q = some o
theorem ButS.refl (S : List Addr) (H : Hp) : ButS S H H := fun _ _ h _ => h
theorem ButS.trans {S : List Addr} {H H1 H2 : Hp} (a : ButS S H H1) (b : ButS S H1 H2) : ButS S H H2 := fun q o h n => b q o (a q o h n) n
theorem ButS.of_ex {S : List Addr} {H H' : Hp} (e : Ex H H') : ButS S H H' := fun q o h _ => e q o h
theorem ButS.of_but {S : List Addr} {H H' : Hp} {x : Addr} (b : But x H H') (hx : x ∈ S) : ButS S H H' := fun q o h n => b q o h fun z => n (z ▸ hx)
theorem ButS.ex {S : List Addr} {H H1 H2 : Hp} (b : ButS S H H1) (e : Ex H1 H2) : ButS S H H2 := b.trans (.of_ex e)
theorem ButS.upd {S : List Addr} {H H1 : Hp} {x : Addr} {o : HO} (b : ButS S H H1) (hx : x ∈ S) : ButS S H (upd H1 x o) := b.trans (.of_but But.upd hx)
theorem ButS.sub {S S' : List Addr} {H H' : Hp} (b : ButS S H H') (h : ∀ x ∈ S, x ∈ S') : ButS S' H H' := fun q o hq n => b q o hq fun z => n (h q z)
/-- what is new to H0 can change -/
theorem ButS.fresh {S : List Addr} {H0 H H' : Hp} (e : Ex H0 H) (b : ButS S H H') (h : ∀ x ∈ S, H0 x = none) : Ex H0 H' := fun q o hq => b q o (e q o hq) fun z => by
  rw [h q z] at hq
  cases hq
section
variable {P : Program} {w : World} {K : PySem.W.Frag} {mg : Str → Option Value} {base : Heap}
/-- [x for x in l if t], the test any -/
theorem ep_lcSub {σ : L2.St} {H : Hp} {a : Addr} {xs : List V} {tl : TE} {t : TT} {j : Nat} {vs : List Nat} (h : Ev tl σ H (.ref a)) (hx : SqL K H a xs) (hz : xs.length ≤ 40000) (hw : ∀ x, wipe ((wipe σ vs).set j (some x)) vs = wipe σ vs) (hj : ∀ x : V, ((wipe σ vs).set j (some x))[j]? = some (some x))
    (ht : ∀ x H1, x ∈ xs → Ex H H1 → ∀ Q : Bool → Hp → Prop, (∀ b H2, Ex H1 H2 → Q b H2) → t ((wipe σ vs).set j (some x)) H1 Q) :
    EvP (tLc (iList K tl) (gName j) t (tVar j) vs) σ H (fun v H' => ∃ p ys, v = .ref p ∧ H p = none ∧ H' p = some (.lst ys) ∧ ∀ y ∈ ys, y ∈ xs) := fun H0 e Q q => h H0 e _ fun H1 e1 => ⟨a, rfl, ⟨xs, ex_l (e.trans e1) hx⟩, fun Dl hD => by
  refine lc_list (xs := xs) (fun i H' => H1 Dl = none ∧ Ex H1 H' ∧ ∃ acc, H' Dl = some (.lst acc) ∧ acc.length ≤ i ∧ ∀ y ∈ acc, y ∈ xs) ⟨hD, Evl.Ex.new hD, [], upd_same, Nat.zero_le _, fun y hy => by cases hy⟩ (fun i H' _ p => ex_l ((e.trans e1).trans p.2.1) hx) (fun i x H' hi p => ⟨hw x, ?_⟩) (fun H' ⟨p1, p2, acc, p3, p4, p5⟩ => q _ H' (e1.trans p2) ⟨Dl, acc, rfl, fresh_back (e.trans e1) p1, p3, p5⟩)
  obtain ⟨p1, p2, acc, p3, p4, p5⟩ := p
  have hil := (List.getElem?_eq_some_iff.mp hi).1
  refine ht x H' (List.mem_of_getElem? hi) ((e.trans e1).trans p2) _ fun b H2 e2 => ?_
  cases b with
  | true =>
    refine ⟨x, hj x, acc, e2 _ _ p3, sz_lt (by omega), p1, Evl.Ex.mut (p2.trans e2) p1, _, upd_same, by simp only [List.length_append, List.length_singleton]; omega, fun y hy => ?_⟩
    rcases List.mem_append.mp hy with hy | hy
    · exact p5 y hy
    · rw [show y = x by simpa using hy]
      exact List.mem_of_getElem? hi
  | false => exact ⟨p1, p2.trans e2, acc, e2 _ _ p3, by omega, p5⟩⟩
/-! ### Finds -/
/-- the first end, if any; S: addresses that are none of its own -/
def FirstAt (K : PySem.W.Frag) (S : List Addr) (H : Hp) (tl : Addr) (W : Wb) (vf vr vl vq : V) : Option (List Nat) → Prop
  | none => vf = .non
  | some o => vl = vf ∧ (∃ a, vf = .ref a ∧ a ≠ tl ∧ a ∉ S ∧ H a = some (.lst (natsV o))) ∧ Dp K H vr (rowD W o) ∧ Dp K H vq (rowD W o) ∧ Ord W.n o
structure FindsAt (K : PySem.W.Frag) (S : List Addr) (H0 H : Hp) (fp tl p : Addr) (W : Wb) (st : Option (List Nat)) (xs : List V) : Prop where
  web : WebAt K H0 p W
  ex : Ex H0 H
  f0 : H0 fp = none
  t0 : H0 tl = none
  fS : fp ∉ S
  tS : tl ∉ S
  htl : H tl = some (.lst xs)
  tns : ∀ x ∈ xs, ∃ q t, x = .ref q ∧ q ≠ tl ∧ q ∉ S ∧ H q = some (.lst (natsV t)) ∧ t.length = W.n ∧ ∀ i ∈ t, i < W.n
  out : ∃ dx vf vr vl vq, H fp = some (.ins (He.ga K "Finds") dx [("web", .ref p), ("first", vf), ("first_row", vr), ("least", vl), ("least_row", vq), ("turnings", .ref tl)]) ∧ FirstAt K S H tl W vf vr vl vq st
theorem FirstAt.ex {S : List Addr} {H H' : Hp} {tl : Addr} {W : Wb} {vf vr vl vq : V} {st : Option (List Nat)} (e : Ex H H') (h : FirstAt K S H tl W vf vr vl vq st) : FirstAt K S H' tl W vf vr vl vq st := by
  cases st with
  | none => exact h
  | some o =>
    obtain ⟨h1, ⟨a, h2, h3, hS, h4⟩, h5, h6, h7⟩ := h
    exact ⟨h1, ⟨a, h2, h3, hS, e _ _ h4⟩, dp_ex e h5, dp_ex e h6, h7⟩
theorem FindsAt.more {S : List Addr} {H0 H H' : Hp} {fp tl p : Addr} {W : Wb} {st : Option (List Nat)} {xs : List V} (F : FindsAt K S H0 H fp tl p W st xs) (e : Ex H H') : FindsAt K S H0 H' fp tl p W st xs := by
  obtain ⟨dx, vf, vr, vl, vq, h1, h2⟩ := F.out
  refine ⟨F.web, F.ex.trans e, F.f0, F.t0, F.fS, F.tS, e _ _ F.htl, fun x hx => ?_, dx, vf, vr, vl, vq, e _ _ h1, h2.ex e⟩
  obtain ⟨q, t, g1, g2, gS, g3, g4⟩ := F.tns x hx
  exact ⟨q, t, g1, g2, gS, e _ _ g3, g4⟩
theorem noL_row (W : Wb) (o : List Nat) : noL (rowD W o) = true := by
  have q1 : noLs (o.map fun x => PyData.str (kindOf W x)) = true := noLs_iff.mpr fun d hd => by
    obtain ⟨a, _, rfl⟩ := List.mem_map.mp hd
    rfl
  have q2 : noLs (rowT W o) = true := noLs_iff.mpr fun d hd => by
    obtain ⟨i, j, rfl⟩ := rowT_mem hd
    exact noL_pairs _
  show (noLs (o.map fun x => PyData.str (kindOf W x)) && (noLs (rowT W o) && true)) = true
  rw [q1, q2]
  rfl
/-- what changes elsewhere does not matter -/
theorem FindsAt.but {S : List Addr} {H0 H H' : Hp} {fp tl p x : Addr} {W : Wb} {st : Option (List Nat)} {xs : List V} (F : FindsAt K S H0 H fp tl p W st xs) (b : But x H H') (h0 : H0 x = none) (hS : x ∈ S) (h5 : TupEx K H H') : FindsAt K S H0 H' fp tl p W st xs := by
  obtain ⟨dx, vf, vr, vl, vq, g1, g2⟩ := F.out
  have nx : ∀ {y : Addr}, y ∉ S → y ≠ x := fun h z => h (z ▸ hS)
  refine ⟨F.web, But.fresh F.ex b h0, F.f0, F.t0, F.fS, F.tS, b _ _ F.htl (nx F.tS), fun y hy => ?_, dx, vf, vr, vl, vq, b _ _ g1 (nx F.fS), ?_⟩
  · obtain ⟨q, t, k1, k2, kS, k3, k4⟩ := F.tns y hy
    exact ⟨q, t, k1, k2, kS, b _ _ k3 (nx kS), k4⟩
  · cases st with
    | none => exact g2
    | some o =>
      obtain ⟨k1, ⟨a, k2, k3, kS, k4⟩, k5, k6, k7⟩ := g2
      exact ⟨k1, ⟨a, k2, k3, kS, b _ _ k4 (nx kS)⟩, dp_tup h5 (noL_row W o) k5, dp_tup h5 (noL_row W o) k6, k7⟩
theorem ne_none {H : Hp} {a x : Addr} {o : HO} (h : H a = some o) (hx : H x = none) : a ≠ x := fun z => by
  rw [z, hx] at h
  cases h
theorem FindsAt.add {S : List Addr} {H0 H : Hp} {fp tl p x : Addr} {W : Wb} {st : Option (List Nat)} {xs : List V} (F : FindsAt K S H0 H fp tl p W st xs) (hx : H x = none) : FindsAt K (x :: S) H0 H fp tl p W st xs := by
  obtain ⟨dx, vf, vr, vl, vq, g1, g2⟩ := F.out
  have nx : ∀ {y : Addr} {o : HO}, H y = some o → y ∉ S → y ∉ x :: S := fun h hS z => by
    rcases List.mem_cons.mp z with z | z
    · exact ne_none h hx z
    · exact hS z
  refine ⟨F.web, F.ex, F.f0, F.t0, nx g1 F.fS, nx F.htl F.tS, F.htl, fun y hy => ?_, dx, vf, vr, vl, vq, g1, ?_⟩
  · obtain ⟨q, t, k1, k2, kS, k3, k4⟩ := F.tns y hy
    exact ⟨q, t, k1, k2, nx k3 kS, k3, k4⟩
  · cases st with
    | none => exact g2
    | some o =>
      obtain ⟨k1, ⟨a, k2, k3, kS, k4⟩, k5⟩ := g2
      exact ⟨k1, ⟨a, k2, k3, nx k4 kS, k4⟩, k5⟩
theorem FindsAt.drop {S : List Addr} {H0 H : Hp} {fp tl p x : Addr} {W : Wb} {st : Option (List Nat)} {xs : List V} (F : FindsAt K (x :: S) H0 H fp tl p W st xs) : FindsAt K S H0 H fp tl p W st xs := by
  obtain ⟨dx, vf, vr, vl, vq, g1, g2⟩ := F.out
  have nx : ∀ {y : Addr}, y ∉ x :: S → y ∉ S := fun h z => h (List.mem_cons_of_mem _ z)
  refine ⟨F.web, F.ex, F.f0, F.t0, nx F.fS, nx F.tS, F.htl, fun y hy => ?_, dx, vf, vr, vl, vq, g1, ?_⟩
  · obtain ⟨q, t, k1, k2, kS, k3, k4⟩ := F.tns y hy
    exact ⟨q, t, k1, k2, nx kS, k3, k4⟩
  · cases st with
    | none => exact g2
    | some o =>
      obtain ⟨k1, ⟨a, k2, k3, kS, k4⟩, k5⟩ := g2
      exact ⟨k1, ⟨a, k2, k3, nx kS, k4⟩, k5⟩
theorem putF_len (f : Str) (v : V) : ∀ fs : List (Str × V), (putF f v fs).length ≤ fs.length + 1
  | [] => by simp [putF]
  | (g, x) :: r => by
    unfold putF
    split
    · simp
    · have := putF_len f v r
      simp only [List.length_cons]
      omega
/-! Finds(web) -/
def spFinds (K : PySem.W.Frag) : Sp := fun vs H Q _ => ∃ W x dx p H0, vs = [.ref x, .ref p] ∧ H x = some (.ins (He.ga K "Finds") dx []) ∧ WebAt K H0 p W ∧ Ex H0 H ∧ H0 x = none ∧ ∀ H' tl, But x H H' → H tl = none → FindsAt K [] H0 H' x tl p W none [] → Q .non H'
theorem k_Finds_ok (T : TX K mg) : Mak P w K mg base 1 "Finds" (He.ga K "Finds") (spFinds K) [] := by
  refine T.mak d_Finds_init "Finds" (N := ["self", "web"]) (ps := ["self", "web"]) (List.mem_of_getElem? (i := 14) rfl) rfl (by decide +kernel) (by decide +kernel) sc_Finds_init (fun _ _ _ _ _ _ us hl => match us, hl with | [_, _], _ => rfl) (fun vs H Q E h => ?_) (fun cdv A outer s H vs Q E f hr h => ?_)
  · obtain ⟨W, x, dx, p, H0, rfl, _⟩ := h
    rfl
  · obtain ⟨W, x, dx, p, H0, rfl, hx, hw, e0, h0, k⟩ := h
    have sc := sc_Finds_init
    refine ⟨_, pss_cons (ps_fld (pv 0) (pv 1) rfl)
    (pss_cons (ps_fld (pv 0) (pe_non) rfl)
    (pss_cons (ps_fld (pv 0) (pe_non) rfl)
    (pss_cons (ps_fld (pv 0) (pe_non) rfl)
    (pss_cons (ps_fld (pv 0) (pe_non) rfl)
    (pss_one (ps_fld (pv 0) (pe_lst (pa_nil)) rfl)))))), ?_⟩
    have hC := T.cls "Finds"
    have st : ∀ {H1 : Hp} {fs : List (Str × V)} {v : V} {f : Str} {te : TE} {tz : TS} {D : Ends}, H1 x = some (.ins (He.ga K "Finds") dx fs) → NoAttr K (He.ga K "Finds") f → ∀ n, fs.length ≤ n → n < 900 → Ev te [some (.ref x), some (.ref p)] H1 v → (∀ H2, But x H1 H2 → H2 x = some (.ins (He.ga K "Finds") dx (putF f v fs)) → (putF f v fs).length ≤ n + 1 → tz D [some (.ref x), some (.ref p)] H2) → tSeq (sFld K (tVar 0) te f) tz D [some (.ref x), some (.ref p)] H1 := fun {H1 fs v f te tz D} hx hn n hl hl9 hv q =>
      q_setF (P := fun y _ => y = v) (ep_ev hv fun _ _ => rfl) (ev_var rfl) hx hC hn (by omega) (fun _ _ _ _ h => h) fun y H2 e2 hy => by
        subst hy
        exact q _ (ex_but e2 But.upd) upd_same (by have := putF_len f y fs; omega)
    refine st hx (T.noat "Finds" "web") 0 (Nat.le_refl _) (by omega) (ev_var rfl) fun H1 b1 x1 l1 => ?_
    refine st x1 (T.noat "Finds" "first") 1 l1 (by omega) ev_c fun H2 b2 x2 l2 => ?_
    refine st x2 (T.noat "Finds" "first_row") 2 l2 (by omega) ev_c fun H3 b3 x3 l3 => ?_
    refine st x3 (T.noat "Finds" "least") 3 l3 (by omega) ev_c fun H4 b4 x4 l4 => ?_
    refine st x4 (T.noat "Finds" "least_row") 4 l4 (by omega) ev_c fun H5 b5 x5 l5 => ?_
    refine s_setF (P := NewL K H5 []) (ep_lstD (K := K) ea_nilD) (ev_var rfl) x5 hC (T.noat "Finds" "turnings") (by omega) (fun _ _ _ e h => h.ex e) fun v H6 e6 hv => ?_
    obtain ⟨tl, ys, rfl, t0, t1, t2⟩ := hv
    have eys : ys = [] := by cases t2; rfl
    subst eys
    have b := (((b1.trans b2).trans b3).trans b4).trans b5
    have b6 : But x H (upd H6 x (.ins (He.ga K "Finds") dx (putF "turnings" (.ref tl) (putF "least_row" .non (putF "least" .non (putF "first_row" .non (putF "first" .non (putF "web" (.ref p) [])))))))) := (b.ex e6).trans But.upd
    have htx : tl ≠ x := fun z => by
      rw [z, x5] at t0
      cases t0
    have tH : H tl = none := by
      cases hq : H tl with
      | none => rfl
      | some o =>
        rw [b _ _ hq htx] at t0
        cases t0
    refine k _ tl b6 tH ⟨hw, But.fresh e0 b6 h0, h0, fresh_back e0 tH, by simp, by simp, ?_, fun y hy => (by cases hy), dx, .non, .non, .non, .non, upd_same, rfl⟩
    rw [upd_ne htx]
    exact t1
/-! ### needless -/
def spNeedless (K : PySem.W.Frag) : Sp := spP (fun (x : (List Addr × Hp × Addr × Addr × Addr × Wb × Option (List Nat) × List V) × List Nat × List Nat × Nat) vs H => ∃ v u, vs = [.ref x.1.2.2.1, .int (x.2.2.2 : Int), v, u] ∧ FindsAt K x.1.1 x.1.2.1 H x.1.2.2.1 x.1.2.2.2.1 x.1.2.2.2.2.1 x.1.2.2.2.2.2.1 x.1.2.2.2.2.2.2.1 x.1.2.2.2.2.2.2.2 ∧ Dp K H v (natsD x.2.1) ∧ Dp K H u (natsD x.2.2.1) ∧ (∀ i ∈ x.2.1, i < x.1.2.2.2.2.2.1.n) ∧ (∀ i ∈ x.2.2.1, i < x.1.2.2.2.2.2.1.n) ∧ x.1.2.2.2.2.2.1.n ≤ 7 ∧ x.2.1.length ≤ 7 ∧ x.1.2.2.2.2.2.2.2.length ≤ 40000)
  (fun x _ v _ => ∃ b, v = .bl b ∧ (x.2.1 = [] → b = false))
theorem m_needless (T : TX K mg) : Met P w K mg base 2 (He.ga K "Finds") "needless" (spNeedless K) [] := by
  refine T.met d_Finds_needless "Finds" "needless" (N := ["self", "place", "tried", "picked", "some", "turning"]) (ps := ["self", "place", "tried", "picked"]) (List.mem_of_getElem? (i := 16) rfl) rfl (by decide +kernel) (by decide +kernel) sc_Finds_needless (fun _ _ _ _ _ _ us hl => match us, hl with | [_, _, _, _], _ => rfl) (fun vs H Q E h => ?_) (fun cdv A outer s H vs Q E f hr h => ?_)
  · obtain ⟨x, ⟨v, u, rfl, _⟩, _⟩ := h
    rfl
  · obtain ⟨⟨⟨S, H0, fp, tl, p, W, st, xs⟩, tr, pk, a⟩, ⟨v, u, rfl, F, hv, hu, htr, hpk, h7, hl7, hxs⟩, k⟩ := h
    dsimp only at F hv hu htr hpk h7 hl7 hxs k ⊢
    have sc := sc_Finds_needless
    have c_leaves_all := cal_leaves_all (P := P) (w := w) (base := base) T
    have c_led_to := cal_led_to (P := P) (w := w) (base := base) T
    refine ⟨_, pss_cons (ps_setLc (i := 4) (own := [("turning", 5)]) (g := gName 5) (tt := _) (te := _) rfl sc.nd rfl rfl (sw_true rfl rfl rfl (by decide +kernel)) (pi_list (pe_fld (pv 0) rfl)) (blkOk_by (own := [("turning", 5)]) rfl) (fun _ _ _ _ _ => pg_name (i := 5) sc.nd rfl (by first | exact Or.inl rfl | exact Or.inr rfl)) (fun _ _ _ _ _ => pts_one (pt_val (pe_c c_leaves_all hr (by decide) rfl (pa_cons (pv 5) (pa_cons (pv 3) pa_nil))))) (fun _ _ _ _ _ => pv 5))
    (pss_one (ps_ret (pe_cmpR op_in_seq (pv 1) (pe_c c_led_to hr (by decide) rfl (pa_cons (pv 2) (pa_cons (pv 4) pa_nil))) (by rfl)))), ?_⟩
    obtain ⟨dx, vf, vr, vl, vq, g1, g2⟩ := F.out
    refine q_asgP (ep_lcSub (K := K) (a := tl) (xs := xs) (ev_fld (ev_var rfl) g1 (T.cls "Finds") (T.noat "Finds" "turnings") rfl) (sq_of F.htl) hxs (fun x => rfl) (fun x => rfl) fun x H1 hx e1 Q q => ?_) fun v1 H1 e1 hv1 => ?_
    · obtain ⟨q1, t, rfl, k2, kS, k3, k4, k5⟩ := F.tns x hx
      exact ep_call (P := fun v _ => ∃ b, v = .bl b) (t, pk) (eap_of (vs := [.ref q1, u]) (ea_cons (ev_var rfl) (ea_cons (ev_var rfl) ea_nil))) (fun vs H2 e2 h => by
        subst h
        exact ⟨.ref q1, u, rfl, dp_ex (e1.trans e2) (dp_natsV k3), dp_ex (e1.trans e2) hu, fun i hi => by rw [k4]; exact hpk i hi⟩) (fun _ _ _ _ _ h => h) H1 (Evl.Ex.refl _) _ fun v H2 e2 ⟨b, hb⟩ => ⟨b, hb, q b H2 e2⟩
    · obtain ⟨ta, ys, rfl, h1, h2, h3⟩ := hv1
      refine s_retP (P := fun v _ => ∃ b, v = .bl b ∧ (tr = [] → b = false)) (fun H2 e2 Q q => ?_) fun v H2 e2 h => k _ _ (e1.trans e2) h
      refine ⟨.int (a : Int), rfl, ?_⟩
      refine ep_call (P := fun v H' => ∃ l, NewL K H1 (natsL l) v H' ∧ (tr = [] → l = [])) (W.n, tr, ys) (eap_of (vs := [v, .ref ta]) (ea_cons (ev_var rfl) (ea_cons (ev_var rfl) ea_nil))) (fun vs H3 e3 h => by
        subst h
        refine ⟨v, ta, rfl, dp_ex (e1.trans e3) hv, htr, sq_of (e3 _ _ h2), fun x hx => ?_, h7, hl7⟩
        obtain ⟨q1, t, k1, k2, kS, k3, k4⟩ := F.tns x (h3 x hx)
        exact ⟨q1, t, k1, e3 _ _ (e1 _ _ k3), k4⟩) (fun H3 v H4 e3 e4 h => ?_) H2 e2 _ fun v4 H4 e4 h => ?_
      · obtain ⟨l, h4, h5⟩ := h
        exact ⟨l, NewL.up e3 h4, h5⟩
      · obtain ⟨l, h4, h5⟩ := h
        obtain ⟨b, rfl, hb0, hb1⟩ := newL_nats h4
        refine ⟨b, natsV l, rfl, .inl (sq_of hb1), rfl, flat_nats l, ?_⟩
        show Q (.bl (inV (.int (a : Int)) (natsV l))) H4
        rw [inV_nats]
        exact q _ _ e4 ⟨_, rfl, fun e => by rw [h5 e]; simp⟩
end
end L2.Tw
set_option Elab.async false
set_option linter.all false
set_option maxRecDepth 100000
set_option maxHeartbeats 4000000
set_option autoImplicit false
namespace L2.Tw
open PySem PySem.Spec PyProof.Rows L2
open C8 (Cal Met Mak pe_c pe_mk pe_mt pe_mt0 pe_gc InsC)
open Evl (Ex Ev EvT EvA fresh_back ex_l ex_t ex_rd sq_of st_of sz_of sz_lt ev_var ev_c ev_op rv_I0 rv_I rv_eq rv_ne et_test et_or et_and et_not et_B s_if ea_nil ea_cons q_asg q_when)
section
variable {P : Program} {w : World} {K : PySem.W.Frag} {mg : Str → Option Value} {base : Heap}
theorem rv_isN {H : Hp} {x : V} : Evl.RV (fun x y H Q => y = .non ∧ Q (.bl (decide (x = .non))) H) x .non H (.bl (decide (x = .non))) := fun H1 _ _ q => ⟨rfl, q H1 (Evl.Ex.refl H1)⟩
def spMeet (K : PySem.W.Frag) : Sp := fun vs H Q _ => ∃ S H0 fp tl p W st xs ao o, vs = [.ref fp, .ref ao] ∧ FindsAt K S H0 H fp tl p W st xs ∧ W.n ≤ 7 ∧ (∀ s ∈ S, ∃ o, H s = some o) ∧ H ao = some (.lst (natsV o)) ∧ ao ≠ tl ∧ ao ∉ S ∧ Ord W.n o ∧ (∀ o0, st = some o0 → RowEq W o0 W o) ∧ xs.length ≤ 30000 ∧
  ∀ b H' xs', ButS [fp, tl] H H' → FindsAt K S H0 H' fp tl p W (some (st.getD o)) xs' → xs'.length ≤ xs.length + 1 → Q (.bl b) H'
theorem m_meet (T : TX K mg) : Met P w K mg base 3 (He.ga K "Finds") "meet" (spMeet K) [] := by
  refine T.met d_Finds_meet "Finds" "meet" (N := ["self", "order", "row", "turning", "one", "other"]) (ps := ["self", "order"]) (List.mem_of_getElem? (i := 15) rfl) rfl (by decide +kernel) (by decide +kernel) sc_Finds_meet (fun _ _ _ _ _ _ us hl => match us, hl with | [_, _], _ => rfl) (fun vs H Q E h => ?_) (fun cdv A outer s H vs Q E f hr h => ?_)
  · obtain ⟨S, H0, fp, tl, p, W, st, xs, ao, o, rfl, _⟩ := h
    rfl
  · obtain ⟨S, H0, fp, tl, p, W, st, xs, ao, o, rfl, F, h7, hS, hao, hat, haS, ho, hrow, hxs, k⟩ := h
    have sc := sc_Finds_meet
    have c_row_of := cal_row_of (P := P) (w := w) (base := base) T
    refine ⟨_, pss_cons (ps_set (i := 2) sc.nd rfl (by first | exact Or.inl rfl | exact Or.inr rfl) (pe_c c_row_of hr (by decide) rfl (pa_cons (pe_fld (pv 0) rfl) (pa_cons (pv 1) pa_nil))))
    (pss_cons (ps_if (pt_cmpR op_isN (pe_fld (pv 0) rfl) (pe_non) (by rfl))
    (pss_cons (ps_fld (pv 0) (pv 1) rfl)
      (pss_cons (ps_fld (pv 0) (pv 2) rfl)
      (pss_cons (ps_fld (pv 0) (pv 1) rfl)
      (pss_cons (ps_fld (pv 0) (pv 2) rfl)
      (pss_one (ps_ret (pe_bl)))))))
    (pss_nil))
    (pss_cons (ps_if (pt_cmpR (op_ltD hr.units) (pv 2) (pe_fld (pv 0) rfl) (by rfl))
    (pss_cons (ps_fld (pv 0) (pv 1) rfl)
      (pss_one (ps_fld (pv 0) (pv 2) rfl)))
    (pss_nil))
    (pss_cons (ps_if (pt_cmpR (op_neP hr.units) (pv 2) (pe_fld (pv 0) rfl) (by rfl))
    (pss_one (ps_ret (pe_bl)))
    (pss_nil))
    (pss_cons (ps_set (i := 3) sc.nd rfl (by first | exact Or.inl rfl | exact Or.inr rfl) (pe_op op_rep (pe_lst (pa_cons (pe_int) pa_nil)) (pe_callB call_len_seq (by rfl) (T.free "len") (by decide +kernel) (pa_cons (pv 1) pa_nil))))
    (pss_cons (ps_for PassesOwn.never rfl (pi_zip (by rfl) (T.free "zip") (pa_cons (pe_fld (pv 0) rfl) (pa_cons (pv 1) pa_nil))) (pg_tup rfl (pgs_cons (pg_name (i := 4) sc.nd rfl (by first | exact Or.inl rfl | exact Or.inr rfl)) (pgs_cons (pg_name (i := 5) sc.nd rfl (by first | exact Or.inl rfl | exact Or.inr rfl)) (pgs_nil))))
    (pss_one (ps_asg (pv 5) (pg_sub (pv 3) (pv 4) set_list))))
    (pss_cons (ps_expr (pe_bm PySem.F.plainAttrs_list PySem.F.slot_list_append PySem.F.type_list_append mt_append (pe_fld (pv 0) rfl) (pa_cons (pv 3) pa_nil)))
    (pss_one (ps_ret (pe_bl))))))))), ?_⟩
    obtain ⟨dx, vf, vr, vl, vq, g1, g2⟩ := F.out
    have hC := T.cls "Finds"
    have htf : tl ≠ fp := ne_of F.htl g1 (by intro z; cases z)
    have haf : ao ≠ fp := ne_of hao g1 (by intro z; cases z)
    refine q_asgP (P := DP K (rowD W o)) (ep_call (W, o) (eap_of (vs := [.ref p, .ref ao]) (ea_cons (ev_fld (ev_var rfl) g1 hC (T.noat "Finds" "web") rfl) (ea_cons (ev_var rfl) ea_nil))) (fun vs H2 e2 h => by
      subst h
      exact ⟨p, .ref ao, rfl, web_ex (F.ex.trans e2) F.web, h7, dp_ex e2 (dp_natsV hao), ho⟩) fun _ _ _ _ _ h => h) fun vrow H1 e1 hrow1 => ?_
    have x1 := e1 _ _ g1
    have nl : ∀ l : List (Str × V), l.length = 6 → l.length < 1000 := fun l h => by omega
    cases st with
    | none =>
      have hvf : vf = .non := g2
      subst hvf
      refine q_when (et_test (ev_op (ev_fld (ev_var rfl) x1 hC (T.noat "Finds" "first") rfl) ev_c rv_isN)) (fun hb H2 e2 => ?_) (fun hb => by cases hb)
      have st : ∀ {H1 : Hp} {fs : List (Str × V)} {v : V} {f : Str} {te : TE} {tz : TS} {D : Ends}, H1 fp = some (.ins (He.ga K "Finds") dx fs) → NoAttr K (He.ga K "Finds") f → fs.length = 6 → Ev te [some (.ref fp), some (.ref ao), some vrow, none, none, none] H1 v → (∀ H2, But fp H1 H2 → H2 fp = some (.ins (He.ga K "Finds") dx (putF f v fs)) → tz D [some (.ref fp), some (.ref ao), some vrow, none, none, none] H2) → tSeq (sFld K (tVar 0) te f) tz D [some (.ref fp), some (.ref ao), some vrow, none, none, none] H1 := fun {H1 fs v f te tz D} hx hn hl hv q =>
        q_setF (P := fun y _ => y = v) (ep_ev hv fun _ _ => rfl) (ev_var rfl) hx hC hn (by omega) (fun _ _ _ _ h => h) fun y H2 e2 hy => by
          subst hy
          exact q _ (ex_but e2 But.upd) upd_same
      refine st (e2 _ _ x1) (T.noat "Finds" "first") rfl (ev_var rfl) fun H3 b3 x3 => ?_
      refine st x3 (T.noat "Finds" "first_row") rfl (ev_var rfl) fun H4 b4 x4 => ?_
      refine st x4 (T.noat "Finds" "least") rfl (ev_var rfl) fun H5 b5 x5 => ?_
      refine st x5 (T.noat "Finds" "least_row") rfl (ev_var rfl) fun H6 b6 x6 => ?_
      refine s_retE ev_c fun H7 e7 => ?_
      have b : But fp H1 H7 := (((ex_but e2 b3).trans b4).trans b5).trans (b6.ex e7)
      have b' : But fp H H7 := ex_but e1 b
      refine k _ H7 xs (ButS.of_but b' (by simp)) ⟨F.web, But.fresh F.ex b' F.f0, F.f0, F.t0, F.fS, F.tS, b' _ _ F.htl htf, fun x hx => ?_, dx, .ref ao, vrow, .ref ao, vrow, e7 _ _ x6, rfl, ⟨ao, rfl, hat, haS, b' _ _ hao haf⟩, dp_but x1 rfl b hrow1, dp_but x1 rfl b hrow1, ho⟩ (Nat.le_succ _)
      obtain ⟨q, t, k1, k2, kS, k3, k4⟩ := F.tns x hx
      exact ⟨q, t, k1, k2, kS, b' _ _ k3 (ne_of k3 g1 (by intro z; cases z)), k4⟩
    | some o0 =>
      obtain ⟨rfl, ⟨a0, rfl, k2, kS, k3⟩, k4, k5, k6⟩ := g2
      have hre : rowD W o = rowD W o0 := (row_eq (hrow o0 rfl)).symm
      rw [hre] at hrow1
      have pl := (pd_row W o0).pl
      have tst := et_test (ev_op (tb := tC .non) (ev_fld (σ := [some (.ref fp), some (.ref ao), some vrow, none, none, none]) (ta := tVar 0) (ev_var rfl) x1 hC (T.noat "Finds" "first") rfl) ev_c rv_isN)
      refine q_when tst (fun hb => by cases hb) fun _ H2 e2 => ?_
      have e12 := e1.trans e2
      refine q_when (et_test (rv_ltD (d := rowD W o0) (e := rowD W o0) (alike_self _ pl.pl) (by intro z; cases z) pl.dp (ep_varD rfl (dp_ex e2 hrow1)) (ep_fld (ev_var rfl) (e2 _ _ x1) hC (T.noat "Finds" "least_row") rfl fun H3 e3 => dp_ex (e12.trans e3) k5))) (fun hb => ?_) fun _ H3 e3 => ?_
      · rw [PySem.W.dataLt_self] at hb
        cases hb
      refine q_when (et_test (rv_neP (d := rowD W o0) (e := rowD W o0) pl pl (ep_varD rfl (dp_ex (e2.trans e3) hrow1)) (ep_fld (ev_var rfl) (e3 _ _ (e2 _ _ x1)) hC (T.noat "Finds" "first_row") rfl fun H4 e4 => dp_ex (e12.trans (e3.trans e4)) k4))) (fun hb => ?_) fun _ H4 e4 => ?_
      · rw [(eqv_iff (alike_self _ pl.pl) pl.pl).mpr rfl] at hb
        cases hb
      have e04 : Ex H H4 := e12.trans (e3.trans e4)
      have hol : o.length = W.n := ho.len
      have ho0l : o0.length = W.n := k6.len
      refine q_asgP (ep_rep0 (ev_lenN (ep_evD (ev_var rfl) (dp_natsV (e04 _ _ hao)))) (by omega)) fun v5 H5 e5 hv5 => ?_
      obtain ⟨ar, rfl, ar0, ar1⟩ := hv5
      have e05 := e04.trans e5
      have ra : H ar = none := fresh_back e04 ar0
      refine q_forZ (xs := natsV o0) (ys := natsV o) (ev_fld (ev_var rfl) (e05 _ _ g1) hC (T.noat "Finds" "first") rfl) (sq_of (e05 _ _ k3)) (ev_var rfl) (sq_of (e05 _ _ hao)) (by unfold natsV; rw [List.length_map, List.length_map]; omega) (fun m σ' H' => (∃ o4 o5, σ' = [some (.ref fp), some (.ref ao), some vrow, some (.ref ar), o4, o5]) ∧ But ar H5 H' ∧ ∃ t, H' ar = some (.lst (natsV t)) ∧ t.length = W.n ∧ ∀ i ∈ t, i < W.n) (fun H6 e6 => ⟨⟨_, _, rfl⟩, (But.refl _ _).ex e6, List.replicate o.length 0, e6 _ _ ar1, by rw [List.length_replicate, hol], fun i hi => ?_⟩) (fun m σ' H' q => ⟨ex_l (But.fresh e05 q.2.1 ra) (sq_of k3), ex_l (But.fresh e05 q.2.1 ra) (sq_of hao)⟩) (fun m x y σ' H' H6 hx hy q e6 => ?_) (fun σ' H' q => ?_)
      · obtain ⟨h1, h2⟩ := List.mem_replicate.mp hi
        omega
      · obtain ⟨⟨o4, o5, rfl⟩, b, t, q1, q2, q3⟩ := q
        rw [natsV, List.getElem?_map] at hx hy
        obtain ⟨x', hx', rfl⟩ := Option.map_eq_some_iff.mp hx
        obtain ⟨y', hy', rfl⟩ := Option.map_eq_some_iff.mp hy
        have hxl : x' < W.n := order_lt k6 hx'
        have hyl : y' < W.n := order_lt ho hy'
        refine Evl.s_setL (v := .int (y' : Int)) (j := x') (e6 _ _ q1) (ev_var rfl) (ev_var rfl) (ev_var rfl) (by unfold natsV; rw [List.length_map]; omega) fun H7 e7 => ⟨⟨_, _, rfl⟩, (b.ex (e6.trans e7)).trans But.upd, t.set x' y', ?_, by rw [List.length_set]; exact q2, fun i hi => ?_⟩
        · rw [upd_same, natsV_set]
        · rcases List.mem_or_eq_of_mem_set hi with h | h
          · exact q3 i h
          · omega
      · obtain ⟨⟨o4, o5, rfl⟩, b, t, q1, q2, q3⟩ := q
        have e0' : Ex H H' := But.fresh e05 b ra
        have art : ar ≠ tl := fun z => by
          rw [z, F.htl] at ra
          cases ra
        refine q_appP (P := fun v _ => v = .ref ar) (e0' _ _ F.htl) (ev_fld (ev_var rfl) (e0' _ _ g1) hC (T.noat "Finds" "turnings") rfl) (ep_ev (ev_var rfl) fun _ _ => rfl) (by omega) fun v8 H8 e8 hv8 => ?_
        subst hv8
        have e08 := e0'.trans e8
        have bt : But tl H (upd H8 tl (.lst (xs ++ [.ref ar]))) := ex_but e08 But.upd
        have tx : TupEx K H (upd H8 tl (.lst (xs ++ [.ref ar]))) := tupEx_but F.htl rfl bt
        refine s_retE ev_c fun H9 e9 => ?_
        have bt9 := bt.ex e9
        refine k _ H9 (xs ++ [.ref ar]) (ButS.of_but bt9 (by simp)) ⟨F.web, But.fresh F.ex bt9 F.t0, F.f0, F.t0, F.fS, F.tS, e9 _ _ upd_same, fun x hx => ?_, dx, .ref a0, vr, .ref a0, vq, bt9 _ _ g1 (Ne.symm htf), rfl, ⟨a0, rfl, k2, kS, bt9 _ _ k3 k2⟩, dp_tup (tupEx_but F.htl rfl bt9) (noL_row _ _) k4, dp_tup (tupEx_but F.htl rfl bt9) (noL_row _ _) k5, k6⟩ (by simp)
        rcases List.mem_append.mp hx with hx | hx
        · obtain ⟨q, t, j1, j2, jS, j3, j4⟩ := F.tns x hx
          exact ⟨q, t, j1, j2, jS, bt9 _ _ j3 j2, j4⟩
        · rw [show x = .ref ar by simpa using hx]
          refine ⟨ar, t, rfl, art, fun z => ?_, e9 _ _ (by rw [upd_ne art]; exact e8 _ _ q1), q2, q3⟩
          obtain ⟨oo, hoo⟩ := hS ar z
          rw [hoo] at ra
          cases ra
/-! ### go_on -/
theorem mu_finer {W : Wb} {ps : List Nat} (p : Part W ps) : mu W (finer W ps) ≤ mu W ps := sum_mono _ fun i hi => by
  have h1 := finer_ge p _ i (List.mem_range.mp hi) rfl
  omega
theorem mu_it {W : Wb} : ∀ (k : Nat) {ps : List Nat}, Part W ps → mu W (it (finer W) k ps) ≤ mu W ps
  | 0, _, _ => Nat.le_refl _
  | k + 1, ps, p => Nat.le_trans (mu_it k (part_finer W ps)) (mu_finer p)
theorem mu_step {W : Wb} {ps q : List Nat} {a : Nat} (p : Part W ps) (ha : a ∈ openC ps) (s : Settles W (putA ps a) q) : mu W q < mu W ps := by
  have haW := openC_lt p ha
  have hc := openC_count ha
  obtain ⟨pp, hge⟩ := part_putA p haW hc
  obtain ⟨k, rfl, _⟩ := s
  refine Nat.lt_of_le_of_lt (mu_it k pp) ?_
  obtain ⟨r, hr, har, hra⟩ := openC_mem.mp ha
  have h2 := List.find?_some hr
  rw [decide_eq_true_eq] at h2
  have hj : ∃ j, j < ps.length ∧ j ≠ a ∧ g ps j = r := Classical.byContradiction fun hn => by
    have key : ∀ m, m ≤ ps.length → (ps.take m).count r ≤ if a < m then 1 else 0 := by
      intro m
      induction m with
      | zero => intro _; simp
      | succ m ih =>
        intro hm
        have ih := ih (by omega)
        rw [List.take_add_one, List.count_append, get_g (by omega)]
        show _ + List.count r [g ps m] ≤ _
        by_cases e : m = a
        · subst e
          rw [if_neg (Nat.lt_irrefl _)] at ih
          rw [if_pos (Nat.lt_succ_self _)]
          have : List.count r [g ps m] ≤ 1 := List.count_le_length ..
          omega
        · have hne : g ps m ≠ r := fun z => hn ⟨m, by omega, e, z⟩
          have : List.count r [g ps m] = 0 := by
            rw [List.count_eq_zero]
            intro z
            have z' : r = g ps m := by simpa using z
            exact hne z'.symm
          split at ih
          · rw [if_pos (by omega)]
            omega
          · split <;> omega
    have := key ps.length (Nat.le_refl _)
    rw [List.take_length, if_pos har] at this
    omega
  obtain ⟨j, hj1, hj2, hj3⟩ := hj
  refine sum_lt _ (fun i hi => ?_) ⟨j, List.mem_range.mpr (by have := p.len; omega), ?_⟩
  · have := hge i (List.mem_range.mp hi)
    omega
  · have h1 : g (putA ps a) j = g ps j + 1 := by
      rw [g_putA hj1, if_neg hc, if_pos (.inr ⟨by omega, hj2⟩)]
    have h3 := p.lt j (by have := p.len; omega)
    omega
theorem mu_pos {W : Wb} {ps : List Nat} (p : Part W ps) (hn : 1 ≤ W.n) : 0 < mu W ps := by
  have h := sum_lt (f := fun _ => 0) (f' := fun i => W.n - g ps i) (List.range W.n) (fun i _ => Nat.zero_le _) ⟨0, List.mem_range.mpr (by omega), by have := p.lt 0 (by omega); omega⟩
  unfold mu
  omega
def OldEnd (W : Wb) (ps : List Nat) (st : Option (List Nat)) (o' : List Nat) : Prop := (∀ o0, st = some o0 → o' = o0) ∧ (st = none → EndOf W ps o')
def spGo (K : PySem.W.Frag) (k : Nat) : Sp := fun vs H Q _ => ∃ S H0 fp tl p W st xs va ps vp pk b, vs = [.ref fp, .ref va, .ref vp, .bl b] ∧ FindsAt K S H0 H fp tl p W st xs ∧ W.n ≤ 3 ∧ 1 ≤ W.n ∧ (∀ s ∈ S, ∃ o, H s = some o) ∧ H va = some (.lst (natsV ps)) ∧ va ≠ tl ∧ H vp = some (.lst (natsV pk)) ∧ vp ≠ tl ∧
  Good W ps ∧ mu W ps ≤ k ∧ (∀ i ∈ pk, i < W.n) ∧ pk.length + k ≤ 20 ∧ xs.length + 3 ^ k ≤ 30000 ∧ (∀ o0, st = some o0 → ∀ o, EndOf W ps o → RowEq W o0 W o) ∧
  ∀ b' H' xs' o', ButS [fp, tl] H H' → FindsAt K S H0 H' fp tl p W (some o') xs' → OldEnd W ps st o' → xs'.length ≤ xs.length + 3 ^ k → Q (.bl b') H'
theorem q_whenB {σ : L2.St} {H : Hp} {te : TE} {R : Bool → Prop} {tu tz : TS} {D : Ends} (h : EvP te σ H (fun v _ => ∃ b, v = .bl b ∧ R b)) (h1 : R true → ∀ H1, Ex H H1 → tu { D with nx := tz D } σ H1) (h2 : R false → ∀ H1, Ex H H1 → tz D σ H1) : tSeq (tIfS (tB te) tu tNext) tz D σ H :=
  h H (Evl.Ex.refl H) _ fun v H1 e ⟨b, hb, r⟩ => ⟨b, hb, by
    cases b with
    | true => exact iteT (h1 r H1 e)
    | false => exact iteF (h2 r H1 e)⟩
theorem openC_le (ps : List Nat) : (openC ps).length ≤ ps.length := by
  unfold openC
  cases openR ps with
  | none => exact Nat.zero_le _
  | some r =>
    have := List.length_filter_le (fun j => decide (g ps j = r)) (List.range ps.length)
    rwa [List.length_range] at this
theorem callX {σ : L2.St} {H : Hp} {tA : TA} {sp : Sp} {E : XK} {PA : List V → Hp → Prop} {Q : VK} (h : EvAP tA σ H PA) (k : ∀ vs H1, Ex H H1 → PA vs H1 → sp vs H1 Q E) : tCall sp [] E tA σ H Q :=
  h H (Evl.Ex.refl H) _ fun vs H1 e hv => by
    show sp (vs ++ []) H1 Q E
    rw [List.append_nil]
    exact k vs H1 e hv
/-- l + [x] -/
theorem ep_cat1 {σ : L2.St} {H : Hp} {ta te : TE} {l : Addr} {pk : List Nat} {a : Nat} (ha : Ev ta σ H (.ref l)) (hl : H l = some (.lst (natsV pk))) (h : Ev te σ H (.int (a : Int))) (hz : pk.length ≤ 1000) : EvP (tOp rCat ta (tLst (tCons te tNil))) σ H (fun v H' => ∃ c, v = .ref c ∧ H c = none ∧ H' c = some (.lst (natsV (pk ++ [a])))) := fun H1 e Q q =>
  ha H1 e _ fun H2 e2 => h H2 (e.trans e2) _ fun H3 e3 => ⟨by show 1 ≤ sizeLine; decide, fun b hb => by
    have e4 : Ex H1 (upd H3 b (.lst [.int (a : Int)])) := (e2.trans e3).trans (Evl.Ex.new hb)
    refine ⟨l, b, natsV pk, [.int (a : Int)], rfl, rfl, e4 _ _ (e _ _ hl), upd_same, sz_of (by unfold natsV; rw [List.length_map]; simp; omega), fun c hc => ?_⟩
    refine q _ _ (e4.trans (Evl.Ex.new hc)) ⟨c, rfl, fresh_back (e.trans e4) hc, ?_⟩
    rw [upd_same]
    unfold natsV
    rw [List.map_append]
    rfl⟩
theorem cal_go_on (T : TX K mg) : ∀ k, Cal P w K mg base (k + 10) "go_on" (spGo K k) [] := by
  intro k
  induction k with
  | zero =>
    refine T.cal d_go_on (N := ["finds", "parting", "picked", "on_first", "choices", "tried", "place", "ahead", "again"]) (ps := ["finds", "parting", "picked", "on_first"]) (List.mem_of_getElem? (i := 17) rfl) rfl (by decide +kernel) sc_go_on (fun _ _ _ _ _ _ us hl => match us, hl with | [_, _, _, _], _ => rfl) (fun vs H Q E h => ?_) (fun cdv A outer s H vs Q E f hr h => ?_)
    · obtain ⟨S, H0, fp, tl, p, W, st, xs, va, ps, vp, pk, b, rfl, _⟩ := h
      rfl
    · obtain ⟨S, H0, fp, tl, p, W, st, xs, va, ps, vp, pk, b, rfl, F, h3, h1, hS, hva, hvat, hvp, hvpt, G, hmu, _⟩ := h
      have := mu_pos G.part h1
      omega
  | succ k ih =>
    refine T.cal d_go_on (N := ["finds", "parting", "picked", "on_first", "choices", "tried", "place", "ahead", "again"]) (ps := ["finds", "parting", "picked", "on_first"]) (List.mem_of_getElem? (i := 17) rfl) rfl (by decide +kernel) sc_go_on (fun _ _ _ _ _ _ us hl => match us, hl with | [_, _, _, _], _ => rfl) (fun vs H Q E h => ?_) (fun cdv A outer s H vs Q E f hr h => ?_)
    · obtain ⟨S, H0, fp, tl, p, W, st, xs, va, ps, vp, pk, b, rfl, _⟩ := h
      rfl
    · obtain ⟨S, H0, fp, tl, p, W, st, xs, va, ps, vp, pk, b, rfl, F, h3, h1, hS, hva, hvat, hvp, hvpt, G, hmu, hpk, hpl, hxs, hrow, kq⟩ := h
      have sc := sc_go_on
      have c_go_on := ih
      have c_open_class := cal_open_class (P := P) (w := w) (base := base) T
      have c_order_by := cal_order_by (P := P) (w := w) (base := base) T
      have c_chosen := cal_chosen (P := P) (w := w) (base := base) T
      have m_Finds_meet := Tw.m_meet (P := P) (w := w) (base := base) T
      have m_Finds_needless := Tw.m_needless (P := P) (w := w) (base := base) T
      refine ⟨_, pss_cons (ps_set (i := 4) sc.nd rfl (by first | exact Or.inl rfl | exact Or.inr rfl) (pe_c c_open_class hr (by omega) rfl (pa_cons (pv 1) pa_nil)))
    (pss_cons (ps_if (pt_cmpR (op_eqP hr.units) (pv 4) (pe_lst (pa_nil)) (by rfl))
    (pss_one (ps_ret (pe_mt m_Finds_meet hr (by omega) (pv 0) (pa_cons (pe_c c_order_by hr (by omega) rfl (pa_cons (pv 1) pa_nil)) pa_nil))))
    (pss_nil))
    (pss_cons (ps_set (i := 5) sc.nd rfl (by first | exact Or.inl rfl | exact Or.inr rfl) (pe_lst (pa_nil)))
    (pss_cons (ps_for PassesOwn.never rfl (pi_list (pv 4)) (pg_name (i := 6) sc.nd rfl (by first | exact Or.inl rfl | exact Or.inr rfl))
    (pss_cons (ps_if (pt_val (pe_mt m_Finds_needless hr (by omega) (pv 0) (pa_cons (pv 6) (pa_cons (pv 5) (pa_cons (pv 2) pa_nil)))))
      (pss_one (ps_continue))
      (pss_nil))
      (pss_cons (ps_set (i := 7) sc.nd rfl (by first | exact Or.inl rfl | exact Or.inr rfl) (pe_and (pv 3) (pe_one (pe_cmpR (op_eqP hr.units) (pv 5) (pe_lst (pa_nil)) (by rfl)))))
      (pss_cons (ps_expr (pe_bm PySem.F.plainAttrs_list PySem.F.slot_list_append PySem.F.type_list_append mt_append (pv 5) (pa_cons (pv 6) pa_nil)))
      (pss_cons (ps_set (i := 8) sc.nd rfl (by first | exact Or.inl rfl | exact Or.inr rfl) (pe_c c_go_on hr (by omega) rfl (pa_cons (pv 0) (pa_cons (pe_c c_chosen hr (by omega) rfl (pa_cons (pe_fld (pv 0) rfl) (pa_cons (pv 1) (pa_cons (pv 6) pa_nil)))) (pa_cons (pe_op op_cat (pv 2) (pe_lst (pa_cons (pv 6) pa_nil))) (pa_cons (pv 7) pa_nil))))))
      (pss_one (ps_if (PW.pt (pw_and (pt_val (pv 8)) (pw_and1 (pt_not (pt_val (pv 3))))))
      (pss_one (ps_ret (pe_bl)))
      (pss_nil))))))))
    (pss_one (ps_ret (pe_bl)))))), ?_⟩
      have hlen : ps.length = W.n := G.part.len
      have hC := T.cls "Finds"
      obtain ⟨dx, vf, vr, vl, vq, g1, g2⟩ := F.out
      refine q_asgP (ep_call (P := fun v H' => NewL K H (natsL (openC ps)) v H') ps (eap_of (vs := [.ref va]) (ea_cons (ev_var rfl) ea_nil)) (fun vs H2 e2 h => by
        subst h
        exact ⟨.ref va, rfl, dp_ex e2 (dp_natsV hva), by omega⟩) fun H2 v H3 e2 e3 h => NewL.up e2 h) fun v1 H1 e1 hv1 => ?_
      obtain ⟨cl, rfl, cl0, cl1⟩ := newL_nats hv1
      have tst := rv_eqP (K := K) (σ := [some (.ref fp), some (.ref va), some (.ref vp), some (.bl b), some (.ref cl), none, none, none, none]) (H := H1) (ta := tVar 4) (tb := tLst tNil) (d := natsD (openC ps)) (e := natsD []) (pd_nats _).pl (pd_nats _).pl (ep_evD (ev_var rfl) (dp_natsV cl1)) (EvP.newDp (ep_lstD (K := K) ea_nilD))
      rw [eqv_nats] at tst
      have F1 := F.more e1
      refine q_when (et_test tst) (fun hb H2 e2 => ?_) fun hb H2 e2 => ?_
      · have hoc : openC ps = [] := of_decide_eq_true hb
        have e12 := e1.trans e2
        refine ⟨_, rfl, fp, dx, _, rfl, e12 _ _ g1, rfl, ?_⟩
        refine ep_call (P := fun v H' => ∃ a, v = .ref a ∧ H2 a = none ∧ H' a = some (.lst (natsV (orderB ps)))) (W, ps) (eap_of (vs := [.ref va]) (ea_cons (ev_var rfl) ea_nil)) (fun vs H3 e3 h => by
          subst h
          exact ⟨.ref va, rfl, dp_ex (e12.trans e3) (dp_natsV hva), G.part, show W.n ≤ 7 by omega, hoc⟩) (fun H3 v H4 e3 e4 h => by
          obtain ⟨a, h1, h2, h3⟩ := h
          exact ⟨a, h1, fresh_back e3 h2, h3⟩) H2 (Evl.Ex.refl _) _ fun v3 H3 e3 hv3 => ?_
        obtain ⟨ao, rfl, ao0, ao1⟩ := hv3
        have e03 := e12.trans e3
        have ao0' : H ao = none := fresh_back e12 ao0
        refine ⟨S, H0, fp, tl, p, W, st, xs, ao, orderB ps, rfl, F.more e03, by omega, fun s hs => ?_, ao1, fun z => ?_, fun z => ?_, orderB_ord G.part hoc, fun o0 ho0 => hrow o0 ho0 _ (.fin hoc), ?_, fun b' H' xs' bs F' hx' => ?_⟩
        · obtain ⟨o, h⟩ := hS s hs
          exact ⟨o, e03 _ _ h⟩
        · rw [z, F.htl] at ao0'
          cases ao0'
        · obtain ⟨o, h⟩ := hS ao z
          rw [h] at ao0'
          cases ao0'
        · have : 1 ≤ 3 ^ (k + 1) := Nat.pos_of_ne_zero (by simp)
          omega
        · refine kq b' H' xs' _ ((ButS.of_ex e03).trans bs) F' ⟨fun o0 h => ?_, fun h => ?_⟩ ?_
          · rw [h]
            rfl
          · rw [h]
            exact .fin hoc
          · have : 1 ≤ 3 ^ (k + 1) := Nat.pos_of_ne_zero (by simp)
            omega
      · have hoc : openC ps ≠ [] := of_decide_eq_false hb
        refine q_asgP (ep_lstD (K := K) ea_nilD) fun v3 H3 e3 hv3 => ?_
        obtain ⟨td, ys, rfl, td0, td1, hys⟩ := hv3
        have eys : ys = [] := by cases hys; rfl
        subst eys
        have e02 := e1.trans e2
        have e03 := e02.trans e3
        have td0' : H td = none := fresh_back e02 td0
        have F2 : FindsAt K (td :: S) H0 H3 fp tl p W st xs := ((F.more e02).add td0).more e3
        have cltd : cl ≠ td := ne_none (e2 _ _ cl1) td0
        have vatd : va ≠ td := ne_none hva td0'
        have vptd : vp ≠ td := ne_none hvp td0'
        have cltl : cl ≠ tl := fun z => by
          rw [z, F.htl] at cl0
          cases cl0
        have clfp : cl ≠ fp := fun z => by
          rw [z, g1] at cl0
          cases cl0
        have vafp : va ≠ fp := ne_of hva g1 (by intro z; cases z)
        have vpfp : vp ≠ fp := ne_of hvp g1 (by intro z; cases z)
        have p3 : 3 ^ (k + 1) = 3 * 3 ^ k := by rw [Nat.pow_succ, Nat.mul_comm]
        have hocl : (openC ps).length ≤ 3 := by
          have : (openC ps).length ≤ ps.length := by
            exact openC_le ps
          omega
        have sub3 : ∀ x ∈ [fp, tl], x ∈ [fp, tl, td] := fun x hx => by
          simp only [List.mem_cons, List.not_mem_nil, or_false] at hx ⊢
          rcases hx with h | h
          · exact .inl h
          · exact .inr (.inl h)
        have notin : ∀ {q : Addr}, q ≠ fp → q ≠ tl → q ≠ td → q ∉ [fp, tl, td] := fun h1 h2 h3 z => by
          simp only [List.mem_cons, List.not_mem_nil, or_false] at z
          rcases z with z | z | z
          · exact h1 z
          · exact h2 z
          · exact h3 z
        have fromH : ∀ {H' : Hp}, ButS [fp, tl, td] H3 H' → ButS [fp, tl] H H' := fun b q o hq hn => by
          refine b q o (e03 _ _ hq) (notin (fun z => hn (by simp [z])) (fun z => hn (by simp [z])) (ne_none hq td0'))
        refine Evl.q_forL (xs := natsV (openC ps)) (ev_var rfl) (sq_of (e3 _ _ (e2 _ _ cl1))) (fun m σ' H' => (∃ o6 o7 o8, σ' = [some (.ref fp), some (.ref va), some (.ref vp), some (.bl b), some (.ref cl), some (.ref td), o6, o7, o8]) ∧ ButS [fp, tl, td] H3 H' ∧ ∃ tr st' xs', H' td = some (.lst (natsV tr)) ∧ (∀ i ∈ tr, i < W.n) ∧ tr.length ≤ m ∧ FindsAt K (td :: S) H0 H' fp tl p W st' xs' ∧ xs'.length ≤ xs.length + m * 3 ^ k ∧ ((m = 0 ∧ st' = st ∧ tr = []) ∨ (0 < m ∧ ∃ o', st' = some o' ∧ OldEnd W ps st o')))
          (fun H4 e4 => ⟨⟨_, _, _, rfl⟩, ButS.of_ex e4, [], st, xs, e4 _ _ td1, fun i hi => (by cases hi), Nat.le_refl _, F2.more e4, by omega, .inl ⟨rfl, rfl, rfl⟩⟩) (fun i σ' H' _ q => sq_of (q.2.1 _ _ (e3 _ _ (e2 _ _ cl1)) (notin clfp cltl cltd))) (fun m x σ' H' hx q => ?_) (fun σ' H' q => ?_)
        · obtain ⟨⟨o6, o7, o8, rfl⟩, bS, tr, st', xs', q1, q2, q3, F', q5, q6⟩ := q
          rw [natsV, List.getElem?_map] at hx
          obtain ⟨a, ha, rfl⟩ := Option.map_eq_some_iff.mp hx
          have hm : m < (openC ps).length := (List.getElem?_eq_some_iff.mp ha).1
          have hao : a ∈ openC ps := List.mem_of_getElem? ha
          have haW : a < W.n := openC_lt G.part hao
          have hm3 : m ≤ 2 := by omega
          have hmk : m * 3 ^ k ≤ 2 * 3 ^ k := Nat.mul_le_mul_right _ hm3
          obtain ⟨dx', vf', vr', vl', vq', g1', g2'⟩ := F'.out
          show tSeq _ _ _ [some (.ref fp), some (.ref va), some (.ref vp), some (.bl b), some (.ref cl), some (.ref td), some (.int (a : Int)), o7, o8] H'
          have sH' : ∀ {q : Addr} {o : HO}, H q = some o → q ≠ fp → q ≠ tl → q ≠ td → H' q = some o := fun hq h1 h2 h3 => bS _ _ (e03 _ _ hq) (notin h1 h2 h3)
          have va' := sH' hva vafp hvat vatd
          have vp' := sH' hvp vpfp hvpt vptd
          refine q_whenB (R := fun b => tr = [] → b = false) (ep_meth ((td :: S, H0, fp, tl, p, W, st', xs'), tr, pk, a) (ev_var rfl) g1' rfl (eap_of (vs := [.int (a : Int), .ref td, .ref vp]) (ea_cons (ev_var rfl) (ea_cons (ev_var rfl) (ea_cons (ev_var rfl) ea_nil)))) (fun vs H4 e4 h => by
            subst h
            exact ⟨.ref td, .ref vp, rfl, F'.more e4, dp_ex e4 (dp_natsV q1), dp_ex e4 (dp_natsV vp'), q2, hpk, show W.n ≤ 7 by omega, show tr.length ≤ 7 by omega, show xs'.length ≤ 40000 by omega⟩) fun _ _ _ _ _ h => h) (fun hR H4 e4 => ?_) fun hR H4 e4 => ?_
          · have htr : tr ≠ [] := fun z => by cases hR z
            refine ⟨⟨_, _, _, rfl⟩, bS.ex e4, tr, st', xs', e4 _ _ q1, q2, by omega, F'.more e4, by rw [Nat.succ_mul]; omega, ?_⟩
            rcases q6 with ⟨_, _, h⟩ | ⟨h1, h2⟩
            · exact absurd h htr
            · exact .inr ⟨by omega, h2⟩
          · have q14 := e4 _ _ q1
            have tst2 := rv_eqP (K := K) (σ := [some (.ref fp), some (.ref va), some (.ref vp), some (.bl b), some (.ref cl), some (.ref td), some (.int (a : Int)), o7, o8]) (H := H4) (ta := tVar 5) (tb := tLst tNil) (d := natsD tr) (e := natsD []) (pd_nats _).pl (pd_nats _).pl (ep_evD (ev_var rfl) (dp_natsV q14)) (EvP.newDp (ep_lstD (K := K) ea_nilD))
            refine q_asg (Evl.ev_andV (ev_var (v := .bl b) rfl) fun _ => tst2) fun H5 e5 => ?_
            refine Evl.q_app (v := .int (a : Int)) (e5 _ _ q14) (ev_var rfl) (ev_var rfl) (by unfold natsV; rw [List.length_map]; omega) fun H6 e6 => ?_
            have e46 := (e4.trans e5).trans e6
            have etr : natsV tr ++ [V.int (a : Int)] = natsV (tr ++ [a]) := by
              unfold natsV
              rw [List.map_append]
              rfl
            rw [etr]
            have b7 : But td H' (upd H6 td (.lst (natsV (tr ++ [a])))) := ex_but e46 But.upd
            have F7 : FindsAt K (td :: S) H0 (upd H6 td (.lst (natsV (tr ++ [a])))) fp tl p W st' xs' := F'.but b7 (fresh_back F.ex td0') (List.mem_cons_self ..) (tupEx_but q1 rfl b7)
            obtain ⟨dx7, vf7, vr7, vl7, vq7, g17, g27⟩ := F7.out
            have va7 := b7 _ _ va' vatd
            have vp7 := b7 _ _ vp' vptd
            have td7 : (upd H6 td (.lst (natsV (tr ++ [a])))) td = some (.lst (natsV (tr ++ [a]))) := upd_same
            have wb7 : WebAt K (upd H6 td (.lst (natsV (tr ++ [a])))) p W := web_ex F7.ex F7.web
            generalize hH7 : upd H6 td (.lst (natsV (tr ++ [a]))) = H7 at b7 F7 g17 va7 vp7 td7 wb7 ⊢
            have args : ∀ {σ : L2.St} {b2 : Bool}, σ[0]? = some (some (.ref fp)) → σ[1]? = some (some (.ref va)) → σ[2]? = some (some (.ref vp)) → σ[6]? = some (some (.int (a : Int))) → σ[7]? = some (some (.bl b2)) →
                EvAP (tCons (tVar 0) (tCons (tCall (spChosen K) [] C8.E0 (tCons (tFld K (tVar 0) "web") (tCons (tVar 1) (tCons (tVar 6) tNil)))) (tCons (tOp rCat (tVar 2) (tLst (tCons (tVar 6) tNil))) (tCons (tVar 7) tNil)))) σ H7
                  (fun vs H8 => ∃ qa qc q b2, vs = [.ref fp, .ref qa, .ref qc, .bl b2] ∧ H7 qa = none ∧ H7 qc = none ∧ Settles W (putA ps a) q ∧ H8 qa = some (.lst (natsV q)) ∧ H8 qc = some (.lst (natsV (pk ++ [a])))) := fun {σ b2} s0 s1 s2 s6 s7 => by
              refine EvAP.imp (ea_consV (v := .ref fp) (ev_var s0) (ea_consP (P := fun v H8 => ∃ q, Settles W (putA ps a) q ∧ NewL K H7 (natsL q) v H8) (ep_call (W, ps, a) (eap_of (vs := [.ref p, .ref va, .int (a : Int)]) (ea_cons (ev_fld (ev_var s0) g17 hC (T.noat "Finds" "web") rfl) (ea_cons (ev_var s1) (ea_cons (ev_var s6) ea_nil)))) (fun vs H8 e8 h => by
                subst h
                exact ⟨p, .ref va, rfl, web_ex e8 wb7, show W.n ≤ 7 by omega, dp_ex e8 (dp_natsV va7), G.part, haW, openC_count hao⟩) (fun H8 v H9 e8 e9 h => ?_)) (fun v H1 H2 e h => ?_) (ea_consP (P := fun v H8 => ∃ c, v = .ref c ∧ H7 c = none ∧ H8 c = some (.lst (natsV (pk ++ [a])))) (ep_cat1 (ev_var s2) vp7 (ev_var s6) (by omega)) (fun v H1 H2 e h => ?_) (ea_consV (v := .bl b2) (ev_var s7) ea_nilP)))) fun vs H8 e8 h => ?_
              · obtain ⟨q, h1, h2⟩ := h
                exact ⟨q, h1, NewL.up e8 h2⟩
              · obtain ⟨q, h1, h2⟩ := h
                exact ⟨q, h1, h2.ex e⟩
              · obtain ⟨c, h1, h2, h3⟩ := h
                exact ⟨c, h1, h2, e _ _ h3⟩
              · obtain ⟨r0, rfl, x1, r1, rfl, ⟨q, h1, h2⟩, x2, r2, rfl, ⟨c, rfl, h3, h4⟩, r3, rfl, rfl⟩ := h
                obtain ⟨qa, rfl, h5, h6⟩ := newL_nats h2
                exact ⟨qa, c, q, _, rfl, h5, h3, h1, h6, h4⟩
            refine q_set (callX (args rfl rfl rfl rfl rfl) fun vs H8 e8 h => ?_)
            · obtain ⟨qa, qc, q, b2, rfl, qa0, qc0, hq, hqa, hqc⟩ := h
              have stands : ∀ s ∈ td :: S, ∃ o, H8 s = some o := fun s hs => by
                rcases List.mem_cons.mp hs with hs | hs
                · subst hs
                  exact ⟨_, e8 _ _ td7⟩
                · obtain ⟨o, ho⟩ := hS s hs
                  have h1 : s ≠ fp := fun z => F.fS (z ▸ hs)
                  have h2 : s ≠ tl := fun z => F.tS (z ▸ hs)
                  have h3 := ne_none ho td0'
                  exact ⟨o, e8 _ _ (b7 _ _ (sH' ho h1 h2 h3) h3)⟩
              have tl7 := F7.htl
              refine ⟨td :: S, H0, fp, tl, p, W, st', xs', qa, q, qc, pk ++ [a], b2, rfl, F7.more e8, h3, h1, stands, hqa, fun z => ?_, hqc, fun z => ?_, good_step G hao hq, ?_, fun i hi => ?_, ?_, ?_, fun o0 ho0 o ho => ?_, fun b' H9 xs9 o9 bs9 F9 old9 len9 => ?_⟩
              · rw [z, tl7] at qa0
                cases qa0
              · rw [z, tl7] at qc0
                cases qc0
              · have := mu_step G.part hao hq
                omega
              · rcases List.mem_append.mp hi with hi | hi
                · exact hpk i hi
                · rw [show i = a by simpa using hi]
                  exact haW
              · simp only [List.length_append, List.length_singleton]
                omega
              · omega
              · have hstep : EndOf W ps o := .step hao hq ho
                rcases q6 with ⟨_, hst, _⟩ | ⟨_, o', hst, old⟩
                · rw [hst] at ho0
                  exact hrow o0 ho0 o hstep
                · rw [hst] at ho0
                  cases ho0
                  cases hs0 : st with
                  | none => exact same_row h3 (old.2 hs0) G o hstep
                  | some o1 =>
                    rw [old.1 o1 hs0]
                    exact hrow o1 hs0 o hstep
              · have bS9 : ButS [fp, tl, td] H3 H9 := ((bS.trans (ButS.of_but b7 (by simp))).ex e8).trans (bs9.sub sub3)
                have old : OldEnd W ps st o9 := by
                  rcases q6 with ⟨_, hst, _⟩ | ⟨_, o', hst, old⟩
                  · rw [hst] at old9
                    exact ⟨old9.1, fun h => .step hao hq (old9.2 h)⟩
                  · have := old9.1 o' hst
                    rw [this]
                    exact old
                have tdfl : td ∉ [fp, tl] := fun z => by
                  simp only [List.mem_cons, List.not_mem_nil, or_false] at z
                  rcases z with z | z
                  · exact F'.fS (z ▸ List.mem_cons_self ..)
                  · exact F'.tS (z ▸ List.mem_cons_self ..)
                have td9 : H9 td = some (.lst (natsV (tr ++ [a]))) := bs9 _ _ (e8 _ _ td7) tdfl
                show tIfS _ _ _ _ [some (.ref fp), some (.ref va), some (.ref vp), some (.bl b), some (.ref cl), some (.ref td), some (.int (a : Int)), _, some (.bl b')] H9
                refine s_if (et_and (et_B (ev_var rfl)) fun _ => et_not (et_B (ev_var rfl))) (fun hb2 H10 e10 => ?_) fun hb2 H10 e10 => ?_
                · refine s_retE ev_c fun H11 e11 => ?_
                  exact kq _ H11 xs9 o9 (fromH (bS9.ex (e10.trans e11))) (F9.more (e10.trans e11)).drop old (by omega)
                · refine ⟨⟨_, _, _, rfl⟩, bS9.ex e10, tr ++ [a], some o9, xs9, e10 _ _ td9, fun i hi => ?_, ?_, F9.more e10, by rw [Nat.succ_mul]; omega, .inr ⟨by omega, o9, rfl, old⟩⟩
                  · rcases List.mem_append.mp hi with hi | hi
                    · exact q2 i hi
                    · rw [show i = a by simpa using hi]
                      exact haW
                  · simp only [List.length_append, List.length_singleton]
                    omega
        · obtain ⟨⟨o6, o7, o8, rfl⟩, bS, tr, st', xs', q1, q2, q3, F', q5, q6⟩ := q
          have hl : (natsV (openC ps)).length = (openC ps).length := by unfold natsV; rw [List.length_map]
          rw [hl] at q5 q6
          rcases q6 with ⟨h, _⟩ | ⟨_, o', hst, old⟩
          · exact absurd (List.length_eq_zero_iff.mp h) hoc
          · subst hst
            refine s_retE ev_c fun H10 e10 => ?_
            have : (openC ps).length * 3 ^ k ≤ 3 * 3 ^ k := Nat.mul_le_mul_right _ hocl
            exact kq _ H10 xs' o' (fromH (bS.ex e10)) (F'.more e10).drop old (by omega)
end
end L2.Tw
set_option Elab.async false
set_option linter.all false
set_option maxRecDepth 100000
set_option maxHeartbeats 4000000
set_option autoImplicit false
namespace L2.Tw
open PySem PySem.Spec PyProof.Rows L2
open C8 (Cal Met Mak pe_c pe_mk pe_mt pe_mt0 pe_gc InsC)
open Evl (Ex Ev EvT EvA fresh_back ex_l ex_t ex_rd sq_of st_of sz_of sz_lt ev_var ev_c ev_op rv_I0 rv_I rv_eq rv_ne et_test et_or et_and et_not et_B s_if ea_nil ea_cons q_asg q_when)
section
variable {P : Program} {w : World} {K : PySem.W.Frag} {mg : Str → Option Value} {base : Heap}
def spSearched (K : PySem.W.Frag) : Sp := spP (fun (W : Wb) vs H => ∃ p, vs = [.ref p] ∧ WebAt K H p W ∧ WOk W ∧ W.n ≤ 3) (fun W H v H' => ∃ t x1 a x3 o, v = .ref t ∧ H' t = some (.tup [x1, .ref a, x3]) ∧ Can W o ∧ H a = none ∧ H' a = some (.lst (natsV o)))
theorem mu9 {W : Wb} (ps : List Nat) (h3 : W.n ≤ 3) : mu W ps ≤ 9 := by
  have h := sum_le (f := fun i => W.n - g ps i) (b := W.n) (List.range W.n) fun i _ => Nat.sub_le _ _
  rw [List.length_range] at h
  have : W.n * W.n ≤ 3 * 3 := Nat.mul_le_mul h3 h3
  unfold mu
  omega
theorem cal_searched (T : TX K mg) : Cal P w K mg base 20 "searched" (spSearched K) [] := by
  refine T.cal d_searched (N := ["web", "finds"]) (ps := ["web"]) (List.mem_of_getElem? (i := 18) rfl) rfl (by decide +kernel) sc_searched (fun _ _ _ _ _ _ us hl => match us, hl with | [_], _ => rfl) (fun vs H Q E h => ?_) (fun cdv A outer s H vs Q E f hr h => ?_)
  · obtain ⟨x, ⟨p, rfl, _⟩, _⟩ := h
    rfl
  · obtain ⟨W, ⟨p, rfl, hw, hok, h3⟩, k⟩ := h
    have sc := sc_searched
    have k_Finds := k_Finds_ok (P := P) (w := w) (base := base) T
    have c_first_parting := cal_first_parting (P := P) (w := w) (base := base) T
    have c_go_on := cal_go_on (P := P) (w := w) (base := base) T 9
    refine ⟨_, pss_cons (ps_set (i := 1) sc.nd rfl (by first | exact Or.inl rfl | exact Or.inr rfl) (pe_mk k_Finds hr (by decide) rfl (pa_cons (pv 0) pa_nil)))
    (pss_cons (ps_expr (pe_c c_go_on hr (by decide) rfl (pa_cons (pv 1) (pa_cons (pe_c c_first_parting hr (by decide) rfl (pa_cons (pv 0) pa_nil)) (pa_cons (pe_lst (pa_nil)) (pa_cons (pe_bl) pa_nil))))))
    (pss_one (ps_ret (pe_tup (pa_cons (pe_fld (pv 1) rfl) (pa_cons (pe_callTy call_list_of (by rfl) (T.free "list") (by decide +kernel) (pa_cons (pe_fld (pv 1) rfl) pa_nil)) (pa_cons (pe_fld (pv 1) rfl) pa_nil))))))), ?_⟩
    have hC := T.cls "Finds"
    refine q_asgP (P := fun v H' => ∃ x tl, v = .ref x ∧ H x = none ∧ H tl = none ∧ FindsAt K [] H H' x tl p W none []) (ep_make (α := Unit) (eap_of (vs := [.ref p]) (ea_cons (ev_var rfl) ea_nil)) fun vs H1 e1 h x dx hx hdx hne Q kQ => ?_) fun v1 H1 e1 hv1 => ?_
    · subst h
      have e2 : Ex H1 (upd (upd H1 dx (.own x)) x (.ins (He.ga K "Finds") dx [])) := Evl.Ex.mut (Evl.Ex.new hdx) hx
      refine ⟨W, x, dx, p, H, rfl, upd_same, hw, e1.trans e2, fresh_back e1 hx, fun H' tl b h0 F => kQ H' (But.fresh e2 b hx) ⟨x, tl, rfl, fresh_back e1 hx, fresh_back (e1.trans e2) h0, F⟩⟩
    · obtain ⟨x, tl, rfl, hx0, ht0, F⟩ := hv1
      have args : EvAP (tCons (tVar 1) (tCons (tCall (spFirst K) [] C8.E0 (tCons (tVar 0) tNil)) (tCons (tLst tNil) (tCons (tC (.bl true)) tNil)))) [some (.ref p), some (.ref x)] H1 (fun vs H2 => ∃ qa qc q, vs = [.ref x, .ref qa, .ref qc, .bl true] ∧ H1 qa = none ∧ H1 qc = none ∧ Settles W (firstR W) q ∧ H2 qa = some (.lst (natsV q)) ∧ H2 qc = some (.lst (natsV []))) := by
        refine EvAP.imp (ea_consV (v := .ref x) (ev_var rfl) (ea_consP (P := fun v H8 => ∃ q, Settles W (firstR W) q ∧ NewL K H1 (natsL q) v H8) (ep_call W (eap_of (vs := [.ref p]) (ea_cons (ev_var rfl) ea_nil)) (fun vs H8 e8 h => by
          subst h
          exact ⟨p, rfl, web_ex (e1.trans e8) hw, hok⟩) (fun H8 v H9 e8 e9 h => ?_)) (fun v H1 H2 e h => ?_) (ea_consP (P := NewL K H1 []) (ep_lstD (K := K) ea_nilD) (fun v H1 H2 e h => h.ex e) (ea_consV (v := .bl true) ev_c ea_nilP)))) fun vs H8 e8 h => ?_
        · obtain ⟨q, h1, h2⟩ := h
          exact ⟨q, h1, NewL.up e8 h2⟩
        · obtain ⟨q, h1, h2⟩ := h
          exact ⟨q, h1, h2.ex e⟩
        · obtain ⟨r0, rfl, x1, r1, rfl, ⟨q, h1, h2⟩, x2, r2, rfl, h3, r3, rfl, rfl⟩ := h
          obtain ⟨qa, rfl, h5, h6⟩ := newL_nats h2
          obtain ⟨qc, ys, rfl, h7, h8, h9⟩ := h3
          have eys : ys = [] := by cases h9; rfl
          subst eys
          exact ⟨qa, qc, q, rfl, h5, h7, h1, h6, h8⟩
      refine (callX args fun vs H2 e2 h => ?_ : tCall _ [] _ _ _ _ _)
      obtain ⟨qa, qc, q, rfl, qa0, qc0, hq, hqa, hqc⟩ := h
      have G := good_first hq
      have F2 := F.more e2
      refine ⟨[], H, x, tl, p, W, none, [], qa, q, qc, [], true, rfl, F2, h3, hok.n.1, fun s hs => (by cases hs), hqa, fun z => ?_, hqc, fun z => ?_, G, mu9 q h3, fun i hi => (by cases hi), by decide, by decide, fun o0 h => (by cases h), fun b' H3 xs' o' bs F3 old len => ?_⟩
      · rw [z, F.htl] at qa0
        cases qa0
      · rw [z, F.htl] at qc0
        cases qc0
      · have hcan : Can W o' := ⟨q, hq, old.2 rfl⟩
        obtain ⟨dx, vf, vr, vl, vq, g1, rfl, ⟨a0, rfl, k2, kS, k3⟩, k4, k5, k6⟩ := F3.out
        dsimp only
        refine s_retP (ep_tupA (ea_consV (v := .ref a0) (ev_fld (ev_var rfl) g1 hC (T.noat "Finds" "first") rfl) (ea_consP (P := NewL K H3 (natsL o')) (ep_listOf (ep_fld (ev_var rfl) g1 hC (T.noat "Finds" "least") rfl fun H6 e6 => dp_natsV (e6 _ _ k3))) (fun v H1 H2 e h => h.ex e) (ea_consV (v := .ref tl) (ev_fld (ev_var rfl) g1 hC (T.noat "Finds" "turnings") rfl) ea_nilP))) fun vs H1 h => ?_) fun v H4 e4 h => ?_
        · obtain ⟨r, rfl, x, r2, rfl, _, r3, rfl, rfl⟩ := h
          simp
        · obtain ⟨t, vs, H5, rfl, t0, t1, t2, e5, ⟨r, rfl, y, r2, rfl, hy, r3, rfl, rfl⟩, e6⟩ := h
          obtain ⟨a, rfl, ha0, ha1⟩ := newL_nats hy
          have eH3 := F3.ex
          exact k _ _ (eH3.trans e4) ⟨t, _, a, _, o', rfl, t2, hcan, fresh_back eH3 ha0, e6 _ _ ha1⟩
def spLeast (K : PySem.W.Frag) : Sp := spP (fun (W : Wb) vs H => ∃ p, vs = [.ref p] ∧ WebAt K H p W ∧ WOk W ∧ W.n ≤ 3) (fun W H v H' => ∃ o, Can W o ∧ NewL K H (natsL o) v H')
theorem cal_least_order (T : TX K mg) : Cal P w K mg base 21 "least_order" (spLeast K) [] := by
  refine T.cal d_least_order (N := ["web"]) (ps := ["web"]) (List.mem_of_getElem? (i := 19) rfl) rfl (by decide +kernel) sc_least_order (fun _ _ _ _ _ _ us hl => match us, hl with | [_], _ => rfl) (fun vs H Q E h => ?_) (fun cdv A outer s H vs Q E f hr h => ?_)
  · obtain ⟨x, ⟨p, rfl, _⟩, _⟩ := h
    rfl
  · obtain ⟨W, ⟨p, rfl, hw, hok, h3⟩, k⟩ := h
    have sc := sc_least_order
    have c_searched := cal_searched (P := P) (w := w) (base := base) T
    refine ⟨_, pss_one (ps_ret (pe_ix ix_tup (pe_c c_searched hr (by decide) rfl (pa_cons (pv 0) pa_nil)) (pe_int) (fun _ _ => rfl))), ?_⟩
    refine s_retP (P := fun v H' => ∃ o, Can W o ∧ NewL K H (natsL o) v H') (fun H1 e1 Q q => ?_) fun v H1 e1 h => k _ _ e1 h
    refine ep_call (P := fun v H' => ∃ t x1 a x3 o, v = .ref t ∧ H' t = some (.tup [x1, .ref a, x3]) ∧ Can W o ∧ H a = none ∧ H' a = some (.lst (natsV o))) W (eap_of (vs := [.ref p]) (ea_cons (ev_var rfl) ea_nil)) (fun vs H2 e2 h => by
      subst h
      exact ⟨p, rfl, web_ex e2 hw, hok, h3⟩) (fun H2 v H3 e2 e3 h => by
      obtain ⟨t, x1, a, x3, o, h1, h2, h3, h4, h5⟩ := h
      exact ⟨t, x1, a, x3, o, h1, h2, h3, fresh_back e2 h4, h5⟩) H1 e1 _ fun v2 H2 e2 h => ?_
    obtain ⟨t, x1, a, x3, o, rfl, h2, h3, h4, h5⟩ := h
    refine ⟨_, _, _, .ref a, rfl, rfl, st_of h2, atI_nat (j := 1) rfl, ?_⟩
    exact q _ _ e2 ⟨o, h3, nats_newL h4 h5⟩
end
end L2.Tw
set_option Elab.async false
set_option linter.all false
set_option maxRecDepth 100000
set_option maxHeartbeats 4000000
set_option autoImplicit false
namespace L2.Tw
open PySem PySem.Spec PyProof.Rows L2
/-! ### the writing, as plain functions -/
abbrev Sons := List (Nat × List Nat)
def sget (s : Sons) (p : Nat) : List Nat := ((s.find? fun x => x.1 == p).map (·.2)).getD []
def addSon (s : Sons) (p o : Nat) : Sons := s.map fun x => if x.1 = p then (x.1, x.2 ++ [o]) else x
abbrev WSt := List Nat × Sons
def goneF (nr : Nat → List Nat) : Nat → Nat → WSt → WSt
  | 0, _, st => st
  | f + 1, p, st => (nr p).foldl (fun st o => if o ∈ st.2.map (·.1) then st else goneF nr f o (st.1, addSon st.2 p o)) (st.1 ++ [p], st.2 ++ [(p, [])])
def walkStep (nr : Nat → List Nat) (st : WSt × List Nat) (p : Nat) : WSt × List Nat := if p ∈ st.1.2.map (·.1) then st else (goneF nr 3 p st.1, st.2 ++ [p])
def walkF (nr : Nat → List Nat) (n : Nat) : WSt × List Nat := (List.range n).foldl (walkStep nr) (([], []), [])
def leadC (p : Int) : Nat := if p = 0 then 126 else if p = 1 then 62 else 60
def numS (i : Int) : Str := Str.ofString (toString i)
def markS (p : Pair) : Str := ⟨#[leadC p.2]⟩ ++ numS p.1
def marksS (ps : List Pair) : Str := ps.foldl (fun t p => t ++ markS p) Str.empty
abbrev Sg := Nat → Str
def putSg (s : Sg) (p : Nat) (t : Str) : Sg := fun x => if x = p then s x ++ t else s x
def ringO (n : Int) : Str := Str.empty ++ ("{" : Str) ++ numS n ++ ("}" : Str)
def ringC (n : Int) (m : Str) : Str := Str.empty ++ ("{" : Str) ++ numS n ++ (":" : Str) ++ m ++ ("}" : Str)
def ringStep (b : Nat → Nat → List Pair) (sons : Sons) (close : Nat) (st : Int × Sg) (begin_ : Nat) : Int × Sg :=
  if b begin_ close ≠ [] ∧ close ∉ sget sons begin_ then (st.1 + 1, putSg (putSg st.2 begin_ (ringO (st.1 + 1))) close (ringC (st.1 + 1) (marksS (b begin_ close)))) else st
def ringRow (b : Nat → Nat → List Pair) (line : List Nat) (sons : Sons) (st : Int × Sg) (at_ : Nat) : Int × Sg := (line.take at_).foldl (ringStep b sons (g line at_)) st
def ringF (b : Nat → Nat → List Pair) (line : List Nat) (sons : Sons) : Int × Sg := (List.range line.length).foldl (ringRow b line sons) (0, fun _ => Str.empty)
def sonText (b : Nat → Nat → List Pair) (ss : List Nat) (p : Nat) (run : Nat → Str) (t : Str) (k : Nat) : Str :=
  t ++ (if k + 1 < ss.length then ("(" : Str) ++ (marksS (b p (g ss k)) ++ run (g ss k)) ++ (")" : Str) else marksS (b p (g ss k)) ++ run (g ss k))
def runF (kd : Nat → Str) (b : Nat → Nat → List Pair) (sons : Sons) (sg : Sg) : Nat → Nat → Str
  | 0, _ => Str.empty
  | f + 1, p => (List.range (sget sons p).length).foldl (sonText b (sget sons p) p (runF kd b sons sg f)) (kd p ++ sg p)
def txtF (kd : Nat → Str) (b : Nat → Nat → List Pair) (nr : Nat → List Nat) (n : Nat) : Str :=
  let w := walkF nr n
  Txt.join ("." : Str) (w.2.map (runF kd b w.1.2 (ringF b w.1.1 w.1.2).2 3))
def txt (W : Wb) : Str := txtF (kindOf W) (bt W) (nearL W) W.n
/-! ### adjacency of three places -/
def adj3 (x y z : Bool) (i j : Nat) : Bool := match i, j with
  | 0, 1 | 1, 0 => x
  | 0, 2 | 2, 0 => y
  | 1, 2 | 2, 1 => z
  | _, _ => false
def nrOf (n : Nat) (a : Nat → Nat → Bool) (i : Nat) : List Nat := (List.range n).filter (a i)
theorem walk3 : ∀ x y z : Bool, walkF (nrOf 3 (adj3 x y z)) 3 = match x, y, z with
  | false, false, false => (([0, 1, 2], [(0, []), (1, []), (2, [])]), [0, 1, 2])
  | true, false, false => (([0, 1, 2], [(0, [1]), (1, []), (2, [])]), [0, 2])
  | false, true, false => (([0, 2, 1], [(0, [2]), (2, []), (1, [])]), [0, 1])
  | false, false, true => (([0, 1, 2], [(0, []), (1, [2]), (2, [])]), [0, 1])
  | true, true, false => (([0, 1, 2], [(0, [1, 2]), (1, []), (2, [])]), [0])
  | true, false, true => (([0, 1, 2], [(0, [1]), (1, [2]), (2, [])]), [0])
  | false, true, true => (([0, 2, 1], [(0, [2]), (2, [1]), (1, [])]), [0])
  | true, true, true => (([0, 1, 2], [(0, [1]), (1, [2]), (2, [])]), [0]) := by decide
theorem walk2 : ∀ x : Bool, walkF (nrOf 2 (adj3 x false false)) 2 = match x with
  | false => (([0, 1], [(0, []), (1, [])]), [0, 1])
  | true => (([0, 1], [(0, [1]), (1, [])]), [0]) := by decide
theorem walk1 : walkF (nrOf 1 (adj3 false false false)) 1 = (([0], [(0, [])]), [0]) := by decide
/-! ### webs of at most three places -/
def adj (W : Wb) (i j : Nat) : Bool := !(raw W i j).isEmpty
theorem raw_out {W : Wb} (hw : WOk W) {i j : Nat} (h : raw W i j ≠ []) : i < W.n ∧ j < W.n ∧ i ≠ j := by
  obtain ⟨p, hp⟩ := List.exists_mem_of_ne_nil _ h
  obtain ⟨t, ht, e⟩ := List.mem_filterMap.mp hp
  have q := hw.t t ht
  unfold tieAt at e
  by_cases c1 : t.a = i ∧ t.b = j
  · exact ⟨c1.1 ▸ q.a, c1.2 ▸ q.b, c1.1 ▸ c1.2 ▸ q.ne⟩
  · rw [if_neg c1] at e
    by_cases c2 : t.b = i ∧ t.a = j
    · exact ⟨c2.1 ▸ q.b, c2.2 ▸ q.a, c2.1 ▸ c2.2 ▸ (Ne.symm q.ne)⟩
    · rw [if_neg c2] at e
      cases e
theorem adj_out {W : Wb} (hw : WOk W) {i j : Nat} (h : adj W i j = true) : i < W.n ∧ j < W.n ∧ i ≠ j := raw_out hw fun e => by
  unfold adj at h
  rw [e] at h
  cases h
theorem adj_comm (W : Wb) (i j : Nat) : adj W i j = adj W j i := by
  by_cases h : i = j
  · rw [h]
  · unfold adj
    rw [raw_flip W h]
    cases raw W i j <;> rfl
theorem bt_nil {W : Wb} {i j : Nat} : bt W i j = [] ↔ adj W i j = false := by
  unfold adj
  have h := (sortBy_perm pairD (raw W i j)).length_eq
  constructor
  · intro e
    have : (bt W i j).length = (raw W i j).length := h
    rw [e] at this
    cases hr : raw W i j with
    | nil => rfl
    | cons a l =>
      rw [hr] at this
      cases this
  · intro e
    cases hr : raw W i j with
    | nil =>
      unfold bt
      rw [hr]
      exact List.mergeSort_nil
    | cons a l =>
      rw [hr] at e
      cases e
theorem near_eq {W : Wb} (hw : WOk W) {x y z : Bool} (h3 : W.n ≤ 3) (hx : adj W 0 1 = x) (hy : adj W 0 2 = y) (hz : adj W 1 2 = z) : nearL W = nrOf W.n (adj3 x y z) := by
  funext i
  unfold nearL nrOf
  refine List.filter_congr fun j hj => ?_
  have hj' := List.mem_range.mp hj
  show adj W i j = adj3 x y z i j
  have hii : ∀ k, adj W k k = false := fun k => by
    cases e : adj W k k with
    | false => rfl
    | true => exact absurd rfl (adj_out hw e).2.2
  by_cases hi : i < 3
  · have hj3 : j < 3 := by omega
    match i, j, hi, hj3 with
    | 0, 0, _, _ => exact hii 0
    | 0, 1, _, _ => exact hx
    | 0, 2, _, _ => exact hy
    | 1, 0, _, _ => rw [adj_comm]; exact hx
    | 1, 1, _, _ => exact hii 1
    | 1, 2, _, _ => exact hz
    | 2, 0, _, _ => rw [adj_comm]; exact hy
    | 2, 1, _, _ => rw [adj_comm]; exact hz
    | 2, 2, _, _ => exact hii 2
  · have : adj W i j = false := by
      cases e : adj W i j with
      | false => rfl
      | true =>
        have := (adj_out hw e).1
        omega
    rw [this]
    match i, hi with
    | i + 3, _ => rfl
end L2.Tw
set_option Elab.async false
set_option linter.all false
set_option maxRecDepth 100000
set_option maxHeartbeats 4000000
set_option autoImplicit false
namespace L2.Tw
open PySem PySem.Spec PyProof.Rows L2
open _root_.TL (tl joinL join_eq tl_join tl_append numL numL_inj numL_digits numL_ne tl_num ext_tl)
theorem tl_empty : tl Str.empty = [] := rfl
theorem tl_dot : tl (Str.ofString ".") = [46] := by decide
theorem tl_op : tl (Str.ofString "(") = [40] := by decide
theorem tl_cl : tl (Str.ofString ")") = [41] := by decide
theorem tl_ob : tl (Str.ofString "{") = [123] := by decide
theorem tl_cb : tl (Str.ofString "}") = [125] := by decide
theorem tl_co : tl (Str.ofString ":") = [58] := by decide
theorem tl_one : tl (numS 1) = [49] := by decide
section
variable {W : Wb}
def Kl (W : Wb) (i : Nat) : List Nat := tl (kindOf W i)
def Ml (W : Wb) (i j : Nat) : List Nat := tl (marksS (bt W i j))
/-- the text of each shape -/
def shape3 (W : Wb) : Bool → Bool → Bool → List Nat
  | false, false, false => Kl W 0 ++ 46 :: (Kl W 1 ++ 46 :: Kl W 2)
  | true, false, false => Kl W 0 ++ (Ml W 0 1 ++ (Kl W 1 ++ 46 :: Kl W 2))
  | false, true, false => Kl W 0 ++ (Ml W 0 2 ++ (Kl W 2 ++ 46 :: Kl W 1))
  | false, false, true => Kl W 0 ++ 46 :: (Kl W 1 ++ (Ml W 1 2 ++ Kl W 2))
  | true, true, false => Kl W 0 ++ 40 :: (Ml W 0 1 ++ (Kl W 1 ++ 41 :: (Ml W 0 2 ++ Kl W 2)))
  | true, false, true => Kl W 0 ++ (Ml W 0 1 ++ (Kl W 1 ++ (Ml W 1 2 ++ Kl W 2)))
  | false, true, true => Kl W 0 ++ (Ml W 0 2 ++ (Kl W 2 ++ (Ml W 2 1 ++ Kl W 1)))
  | true, true, true => Kl W 0 ++ 123 :: 49 :: 125 :: (Ml W 0 1 ++ (Kl W 1 ++ (Ml W 1 2 ++ (Kl W 2 ++ 123 :: 49 :: 58 :: (Ml W 0 2 ++ [125])))))
theorem txt_eq (hw : WOk W) {n : Nat} (h : W.n = n) (h3 : n ≤ 3) {x y z : Bool} (hx : adj W 0 1 = x) (hy : adj W 0 2 = y) (hz : adj W 1 2 = z) : tl (txt W) = joinL [46] (((walkF (nrOf n (adj3 x y z)) n).2.map (runF (kindOf W) (bt W) (walkF (nrOf n (adj3 x y z)) n).1.2 (ringF (bt W) (walkF (nrOf n (adj3 x y z)) n).1.1 (walkF (nrOf n (adj3 x y z)) n).1.2).2 3)).map tl) := by
  subst h
  unfold txt txtF
  rw [near_eq hw h3 hx hy hz]
  show tl (Txt.join _ _) = _
  rw [join_eq, tl_join, tl_dot]
theorem ring_no {b : Nat → Nat → List Pair} {line : List Nat} {sons : Sons} (h : ∀ at_, at_ < line.length → ∀ x ∈ line.take at_, b x (g line at_) = [] ∨ g line at_ ∈ sget sons x) : (ringF b line sons).2 = fun _ => Str.empty := by
  have row : ∀ at_, at_ < line.length → ∀ st, ringRow b line sons st at_ = st := fun at_ ha st => by
    unfold ringRow
    have gen : ∀ l : List Nat, (∀ x ∈ l, b x (g line at_) = [] ∨ g line at_ ∈ sget sons x) → l.foldl (ringStep b sons (g line at_)) st = st := by
      intro l hl
      induction l with
      | nil => rfl
      | cons a l ih =>
        have e : ringStep b sons (g line at_) st a = st := if_neg fun ⟨z1, z2⟩ => by
          rcases hl a List.mem_cons_self with h | h
          · exact z1 h
          · exact z2 h
        rw [List.foldl_cons, e]
        exact ih fun x hx => hl x (List.mem_cons_of_mem _ hx)
    exact gen _ (h at_ ha)
  have gen : ∀ l : List Nat, (∀ i ∈ l, i < line.length) → ∀ st, l.foldl (ringRow b line sons) st = st := by
    intro l hl
    induction l with
    | nil => intro st; rfl
    | cons a l ih =>
      intro st
      rw [List.foldl_cons, row a (hl a List.mem_cons_self)]
      exact ih (fun i hi => hl i (List.mem_cons_of_mem _ hi)) st
  unfold ringF
  rw [gen _ fun i hi => List.mem_range.mp hi]
theorem txt3 (hw : WOk W) (h : W.n = 3) : tl (txt W) = shape3 W (adj W 0 1) (adj W 0 2) (adj W 1 2) := by
  rw [txt_eq hw h (Nat.le_refl _) rfl rfl rfl, walk3]
  have n01 : adj W 0 1 = false → bt W 0 1 = [] := fun e => bt_nil.mpr e
  have n02 : adj W 0 2 = false → bt W 0 2 = [] := fun e => bt_nil.mpr e
  have n12 : adj W 1 2 = false → bt W 1 2 = [] := fun e => bt_nil.mpr e
  have n21 : adj W 1 2 = false → bt W 2 1 = [] := fun e => bt_nil.mpr (by rw [adj_comm]; exact e)
  have r3 : List.range 3 = [0, 1, 2] := rfl
  have r2 : List.range 2 = [0, 1] := rfl
  have r1 : List.range 1 = [0] := rfl
  have three : ∀ {l : List Nat} {a : Nat}, l.length = 3 → a < l.length → a = 0 ∨ a = 1 ∨ a = 2 := fun {l a} h1 h2 => by omega
  cases h01 : adj W 0 1 <;> cases h02 : adj W 0 2 <;> cases h12 : adj W 1 2 <;> dsimp only
  · rw [ring_no (fun a ha x hx => ?_)]
    · simp [runF, sget, joinL, shape3, Kl, tl_append, tl_empty]
    · rcases three rfl ha with rfl | rfl | rfl
      · simp at hx
      · have : x = 0 := by simpa using hx
        subst this
        exact .inl (n01 h01)
      · have : x = 0 ∨ x = 1 := by simpa using hx
        rcases this with rfl | rfl
        · exact .inl (n02 h02)
        · exact .inl (n12 h12)
  · rw [ring_no (fun a ha x hx => ?_)]
    · simp [runF, sget, joinL, shape3, Kl, Ml, tl_append, tl_empty, r1, sonText, g]
    · rcases three rfl ha with rfl | rfl | rfl
      · simp at hx
      · have : x = 0 := by simpa using hx
        subst this
        exact .inl (n01 h01)
      · have : x = 0 ∨ x = 1 := by simpa using hx
        rcases this with rfl | rfl
        · exact .inl (n02 h02)
        · exact .inr (by decide)
  · rw [ring_no (fun a ha x hx => ?_)]
    · simp [runF, sget, joinL, shape3, Kl, Ml, tl_append, tl_empty, r1, sonText, g]
    · rcases three rfl ha with rfl | rfl | rfl
      · simp at hx
      · have : x = 0 := by simpa using hx
        subst this
        exact .inr (by decide)
      · have : x = 0 ∨ x = 2 := by simpa using hx
        rcases this with rfl | rfl
        · exact .inl (n01 h01)
        · exact .inl (n21 h12)
  · rw [ring_no (fun a ha x hx => ?_)]
    · simp [runF, sget, joinL, shape3, Kl, Ml, tl_append, tl_empty, r1, sonText, g]
    · rcases three rfl ha with rfl | rfl | rfl
      · simp at hx
      · have : x = 0 := by simpa using hx
        subst this
        exact .inr (by decide)
      · have : x = 0 ∨ x = 2 := by simpa using hx
        rcases this with rfl | rfl
        · exact .inl (n01 h01)
        · exact .inr (by decide)
  · rw [ring_no (fun a ha x hx => ?_)]
    · simp [runF, sget, joinL, shape3, Kl, Ml, tl_append, tl_empty, r1, sonText, g]
    · rcases three rfl ha with rfl | rfl | rfl
      · simp at hx
      · have : x = 0 := by simpa using hx
        subst this
        exact .inr (by decide)
      · have : x = 0 ∨ x = 1 := by simpa using hx
        rcases this with rfl | rfl
        · exact .inl (n02 h02)
        · exact .inl (n12 h12)
  · rw [ring_no (fun a ha x hx => ?_)]
    · simp [runF, sget, joinL, shape3, Kl, Ml, tl_append, tl_empty, r1, sonText, g]
    · rcases three rfl ha with rfl | rfl | rfl
      · simp at hx
      · have : x = 0 := by simpa using hx
        subst this
        exact .inr (by decide)
      · have : x = 0 ∨ x = 1 := by simpa using hx
        rcases this with rfl | rfl
        · exact .inl (n02 h02)
        · exact .inr (by decide)
  · rw [ring_no (fun a ha x hx => ?_)]
    · simp [runF, sget, joinL, shape3, Kl, Ml, tl_append, tl_empty, r1, r2, sonText, g, tl_op, tl_cl]
    · rcases three rfl ha with rfl | rfl | rfl
      · simp at hx
      · have : x = 0 := by simpa using hx
        subst this
        exact .inr (by decide)
      · have : x = 0 ∨ x = 1 := by simpa using hx
        rcases this with rfl | rfl
        · exact .inr (by decide)
        · exact .inl (n12 h12)
  · have b02 : bt W 0 2 ≠ [] := fun e => by
      rw [bt_nil.mp e] at h02
      cases h02
    have hr : ringF (bt W) [0, 1, 2] [(0, [1]), (1, [2]), (2, [])] = (1, putSg (putSg (fun _ => Str.empty) 0 (ringO 1)) 2 (ringC 1 (marksS (bt W 0 2)))) := by
      have t0 : ringRow (bt W) [0, 1, 2] [(0, [1]), (1, [2]), (2, [])] (0, fun _ => Str.empty) 0 = (0, fun _ => Str.empty) := rfl
      have t1 : ringRow (bt W) [0, 1, 2] [(0, [1]), (1, [2]), (2, [])] (0, fun _ => Str.empty) 1 = (0, fun _ => Str.empty) := by
        show ringStep _ _ _ _ 0 = _
        exact if_neg fun z => z.2 (by decide)
      have t2 : ringRow (bt W) [0, 1, 2] [(0, [1]), (1, [2]), (2, [])] (0, fun _ => Str.empty) 2 = (1, putSg (putSg (fun _ => Str.empty) 0 (ringO 1)) 2 (ringC 1 (marksS (bt W 0 2)))) := by
        show ringStep _ _ _ (ringStep _ _ _ _ 0) 1 = _
        have e1 : ringStep (bt W) [(0, [1]), (1, [2]), (2, [])] (g [0, 1, 2] 2) (0, fun _ => Str.empty) 0 = (1, putSg (putSg (fun _ => Str.empty) 0 (ringO 1)) 2 (ringC 1 (marksS (bt W 0 2)))) := if_pos ⟨b02, by decide⟩
        rw [e1]
        exact if_neg fun z => z.2 (by decide)
      show List.foldl _ _ [0, 1, 2] = _
      rw [List.foldl_cons, t0, List.foldl_cons, t1, List.foldl_cons, t2]
      rfl
    rw [hr]
    simp [runF, sget, joinL, shape3, Kl, Ml, tl_append, tl_empty, r1, sonText, g, putSg, ringO, ringC, tl_ob, tl_cb, tl_co, tl_one]
end
end L2.Tw
set_option Elab.async false
set_option linter.all false
set_option maxRecDepth 100000
set_option maxHeartbeats 4000000
set_option autoImplicit false
namespace L2.Tw
open PySem PySem.Spec PyProof.Rows L2
open _root_.TL (tl joinL join_eq tl_join tl_append numL numL_inj numL_digits numL_ne tl_num ext_tl)
theorem get_g' {ps : List Nat} {i : Nat} (h : i < ps.length) : ps[i]? = some (g ps i) := by
  rw [List.getElem?_eq_getElem h, g_get h]
theorem adj_no {W : Wb} (hw : WOk W) {i j : Nat} (h : ¬ (i < W.n ∧ j < W.n)) : adj W i j = false := by
  cases e : adj W i j with
  | false => rfl
  | true =>
    have := adj_out hw e
    exact absurd ⟨this.1, this.2.1⟩ h
theorem txt2 {W : Wb} (hw : WOk W) (h : W.n = 2) : tl (txt W) = if adj W 0 1 = true then Kl W 0 ++ (Ml W 0 1 ++ Kl W 1) else Kl W 0 ++ 46 :: Kl W 1 := by
  rw [txt_eq hw h (by omega) rfl (adj_no hw (by omega)) (adj_no hw (by omega)), walk2]
  have r1 : List.range 1 = [0] := rfl
  cases h01 : adj W 0 1 <;> dsimp only
  · rw [ring_no (fun a ha x hx => ?_), if_neg Bool.false_ne_true]
    · simp [runF, sget, joinL, Kl, tl_append, tl_empty]
    · have ha' : a < 2 := ha
      have : a = 0 ∨ a = 1 := by omega
      rcases this with rfl | rfl
      · simp at hx
      · have : x = 0 := by simpa using hx
        subst this
        exact .inl (bt_nil.mpr h01)
  · rw [ring_no (fun a ha x hx => ?_), if_pos rfl]
    · simp [runF, sget, joinL, Kl, Ml, tl_append, tl_empty, r1, sonText, g]
    · have ha' : a < 2 := ha
      have : a = 0 ∨ a = 1 := by omega
      rcases this with rfl | rfl
      · simp at hx
      · have : x = 0 := by simpa using hx
        subst this
        exact .inr (by decide)
theorem txt1 {W : Wb} (hw : WOk W) (h : W.n = 1) : tl (txt W) = Kl W 0 := by
  rw [txt_eq hw h (by omega) (adj_no hw (by omega)) (adj_no hw (by omega)) (adj_no hw (by omega)), walk1]
  dsimp only
  rw [ring_no (fun a ha x hx => ?_)]
  · simp [runF, sget, joinL, Kl, tl_append, tl_empty]
  · have ha' : a < 1 := ha
    have : a = 0 := by omega
    subst this
    simp at hx
/-! ### signs -/
def isL (c : Nat) : Bool := decide (97 ≤ c) && decide (c ≤ 122)
def isM (c : Nat) : Bool := c == 126 || c == 62 || c == 60 || (decide (48 ≤ c) && decide (c ≤ 57))
theorem span_app {p : Nat → Bool} {a r : List Nat} (ha : ∀ x ∈ a, p x = true) (hr : ∀ x, r.head? = some x → p x = false) : (a ++ r).takeWhile p = a ∧ (a ++ r).dropWhile p = r := by
  induction a with
  | nil =>
    cases r with
    | nil => exact ⟨rfl, rfl⟩
    | cons c r =>
      have := hr c rfl
      simp [List.takeWhile_cons, List.dropWhile_cons, this]
  | cons c a ih =>
    have h1 := ha c List.mem_cons_self
    have h2 := ih fun x hx => ha x (List.mem_cons_of_mem _ hx)
    simp [List.takeWhile_cons, List.dropWhile_cons, h1, h2.1, h2.2]
def tW (p : Nat → Bool) (l : List Nat) : List Nat := l.takeWhile p
def dW (p : Nat → Bool) (l : List Nat) : List Nat := l.dropWhile p
abbrev Row3 := List (List Nat) × List (List Nat)
def pDot (k0 k1 r1 : List Nat) : Row3 := match r1 with
  | [] => ([k0, k1], [[], [], []])
  | c :: r2 => if c = 46 then ([k0, k1, r2], [[], [], []]) else ([k0, k1, dW isM (c :: r2)], [[], [], tW isM (c :: r2)])
def pMk (k0 m k1 r1 : List Nat) : Row3 := match r1 with
  | [] => ([k0, k1], [m, [], []])
  | c :: r2 => if c = 46 then ([k0, k1, r2], [m, [], []]) else ([k0, k1, dW isM (c :: r2)], [m, [], tW isM (c :: r2)])
def pPar (k0 r : List Nat) : Row3 := ([k0, tW isL (dW isM r), dW isM ((dW isL (dW isM r)).drop 1)], [tW isM r, tW isM ((dW isL (dW isM r)).drop 1), []])
def pRing (k0 s : List Nat) : Row3 := ([k0, tW isL (dW isM s), tW isL (dW isM (dW isL (dW isM s)))], [tW isM s, tW isM ((dW isL (dW isM (dW isL (dW isM s)))).drop 3), tW isM (dW isL (dW isM s))])
def pRest (k0 r0 : List Nat) : Row3 := match r0 with
  | [] => ([k0], [[], [], []])
  | c :: r => if c = 46 then pDot k0 (tW isL r) (dW isL r) else if c = 40 then pPar k0 r else if c = 123 then pRing k0 (r.drop 2) else pMk k0 (tW isM (c :: r)) (tW isL (dW isM (c :: r))) (dW isL (dW isM (c :: r)))
/-- reading a text back: the kinds in its own order, the marks between the first and second, first and third, second and third -/
def parse (l : List Nat) : Row3 := pRest (tW isL l) (dW isL l)
structure LW (k : List Nat) : Prop where
  ne : k ≠ []
  all : ∀ x ∈ k, isL x = true
structure MW (m : List Nat) : Prop where
  hd : ∃ c r, m = c :: r ∧ (c = 126 ∨ c = 62 ∨ c = 60)
  all : ∀ x ∈ m, isM x = true
section
variable {k0 k1 k2 m m2 m3 r : List Nat}
theorem LW.hd (h : LW k0) : ∃ c q, k0 = c :: q ∧ isL c = true := by
  cases k0 with
  | nil => exact absurd rfl h.ne
  | cons c q => exact ⟨c, q, rfl, h.all c List.mem_cons_self⟩
theorem lm {c : Nat} (h : isL c = true) : isM c = false := by
  simp only [isL, Bool.and_eq_true, decide_eq_true_eq] at h
  simp only [isM, Bool.or_eq_false_iff, Bool.and_eq_false_iff, beq_eq_false_iff_ne, decide_eq_false_iff_not]
  omega
theorem ml {c : Nat} (h : c = 126 ∨ c = 62 ∨ c = 60) : isL c = false := by
  simp only [isL, Bool.and_eq_false_iff, decide_eq_false_iff_not]
  omega
/-- a letter's word, then what starts with no letter -/
theorem sL (h : LW k0) {r : List Nat} (hr : ∀ x, r.head? = some x → isL x = false) : tW isL (k0 ++ r) = k0 ∧ dW isL (k0 ++ r) = r := span_app h.all hr
theorem sM (h : MW m) {r : List Nat} (hr : ∀ x, r.head? = some x → isM x = false) : tW isM (m ++ r) = m ∧ dW isM (m ++ r) = r := span_app h.all hr
theorem hL (h : LW k0) (r : List Nat) : ∀ x, (k0 ++ r).head? = some x → isM x = false := fun x hx => by
  obtain ⟨c, q, rfl, hc⟩ := h.hd
  have : c = x := by simpa using hx
  exact this ▸ lm hc
theorem hM (h : MW m) (r : List Nat) : ∀ x, (m ++ r).head? = some x → isL x = false := fun x hx => by
  obtain ⟨c, q, rfl, hc⟩ := h.hd
  have : c = x := by simpa using hx
  exact this ▸ ml hc
theorem hC {c : Nat} {p : Nat → Bool} (h : p c = false) (r : List Nat) : ∀ x, (c :: r).head? = some x → p x = false := fun x hx => by
  have : c = x := by simpa using hx
  exact this ▸ h
theorem hN (p : Nat → Bool) : ∀ x, ([] : List Nat).head? = some x → p x = false := fun x hx => by cases hx
theorem tL (h : LW k0) : tW isL k0 = k0 ∧ dW isL k0 = [] := by
  have := sL h (hN isL)
  rwa [List.append_nil] at this
theorem p_one (h0 : LW k0) : parse k0 = ([k0], [[], [], []]) := by
  unfold parse
  rw [(tL h0).1, (tL h0).2]
  rfl
theorem p_dot (h0 : LW k0) (h1 : LW k1) (hr : ∀ x, r.head? = some x → isL x = false) : parse (k0 ++ 46 :: (k1 ++ r)) = pDot k0 k1 r := by
  unfold parse
  rw [(sL h0 (hC rfl _)).1, (sL h0 (hC rfl _)).2]
  show pDot k0 (tW isL (k1 ++ r)) (dW isL (k1 ++ r)) = _
  rw [(sL h1 hr).1, (sL h1 hr).2]
theorem p_two (h0 : LW k0) (h1 : LW k1) : parse (k0 ++ 46 :: k1) = ([k0, k1], [[], [], []]) := by
  have := p_dot (r := []) h0 h1 (hN isL)
  rwa [List.append_nil] at this
theorem p_A (h0 : LW k0) (h1 : LW k1) : parse (k0 ++ 46 :: (k1 ++ 46 :: k2)) = ([k0, k1, k2], [[], [], []]) := p_dot (r := 46 :: k2) h0 h1 (hC rfl _)
theorem p_C (h0 : LW k0) (h1 : LW k1) (h2 : LW k2) (hm : MW m) : parse (k0 ++ 46 :: (k1 ++ (m ++ k2))) = ([k0, k1, k2], [[], [], m]) := by
  rw [p_dot h0 h1 (hM hm _)]
  have e := sM hm (r := k2) (by have := hL h2 []; rwa [List.append_nil] at this)
  obtain ⟨c, q, hq, hc⟩ := hm.hd
  have hz' : m ++ k2 = c :: (q ++ k2) := by rw [hq]; rfl
  rw [hz'] at e ⊢
  unfold pDot
  dsimp only
  rw [if_neg (by omega), e.1, e.2]
theorem p_D (h0 : LW k0) (h1 : LW k1) (h2 : LW k2) (hm : MW m) (hm2 : MW m2) : parse (k0 ++ 40 :: (m ++ (k1 ++ 41 :: (m2 ++ k2)))) = ([k0, k1, k2], [m, m2, []]) := by
  unfold parse
  rw [(sL h0 (hC rfl _)).1, (sL h0 (hC rfl _)).2]
  show pPar k0 _ = _
  unfold pPar
  rw [(sM hm (hL h1 _)).1, (sM hm (hL h1 _)).2, (sL h1 (hC rfl _)).1, (sL h1 (hC rfl _)).2]
  have e := sM hm2 (r := k2) (by have := hL h2 []; rwa [List.append_nil] at this)
  rw [List.drop_succ_cons, List.drop_zero, e.1, e.2]
theorem p_F (h0 : LW k0) (h1 : LW k1) (h2 : LW k2) (hm : MW m) (hm2 : MW m2) (hm3 : MW m3) : parse (k0 ++ 123 :: 49 :: 125 :: (m ++ (k1 ++ (m2 ++ (k2 ++ 123 :: 49 :: 58 :: (m3 ++ [125])))))) = ([k0, k1, k2], [m, m3, m2]) := by
  unfold parse
  rw [(sL h0 (hC rfl _)).1, (sL h0 (hC rfl _)).2]
  show pRing k0 _ = _
  unfold pRing
  rw [List.drop_succ_cons, List.drop_succ_cons, List.drop_zero, (sM hm (hL h1 _)).1, (sM hm (hL h1 _)).2, (sL h1 (hM hm2 _)).1, (sL h1 (hM hm2 _)).2, (sM hm2 (hL h2 _)).1, (sM hm2 (hL h2 _)).2, (sL h2 (hC rfl _)).1, (sL h2 (hC rfl _)).2]
  rw [List.drop_succ_cons, List.drop_succ_cons, List.drop_succ_cons, List.drop_zero, (sM hm3 (hC rfl _)).1]
theorem p_mk (h0 : LW k0) (hm : MW m) (h1 : LW k1) (hr : ∀ x, r.head? = some x → isL x = false) : parse (k0 ++ (m ++ (k1 ++ r))) = pMk k0 m k1 r := by
  unfold parse
  rw [(sL h0 (hM hm _)).1, (sL h0 (hM hm _)).2]
  have e := sM hm (hL h1 r)
  have e2 := sL h1 hr
  obtain ⟨c, q, hq, hc⟩ := hm.hd
  have hz' : m ++ (k1 ++ r) = c :: (q ++ (k1 ++ r)) := by rw [hq]; rfl
  rw [hz'] at e ⊢
  unfold pRest
  dsimp only
  rw [if_neg (by omega), if_neg (by omega), if_neg (by omega), e.1, e.2, e2.1, e2.2]
theorem p_two' (h0 : LW k0) (hm : MW m) (h1 : LW k1) : parse (k0 ++ (m ++ k1)) = ([k0, k1], [m, [], []]) := by
  have := p_mk (r := []) h0 hm h1 (hN isL)
  rwa [List.append_nil] at this
theorem p_B (h0 : LW k0) (hm : MW m) (h1 : LW k1) : parse (k0 ++ (m ++ (k1 ++ 46 :: k2))) = ([k0, k1, k2], [m, [], []]) := p_mk (r := 46 :: k2) h0 hm h1 (hC rfl _)
theorem p_E (h0 : LW k0) (hm : MW m) (h1 : LW k1) (hm2 : MW m2) (h2 : LW k2) : parse (k0 ++ (m ++ (k1 ++ (m2 ++ k2)))) = ([k0, k1, k2], [m, [], m2]) := by
  rw [p_mk (r := m2 ++ k2) h0 hm h1 (hM hm2 _)]
  have e := sM hm2 (r := k2) (by have := hL h2 []; rwa [List.append_nil] at this)
  obtain ⟨c, q, hq, hc⟩ := hm2.hd
  have hz' : m2 ++ k2 = c :: (q ++ k2) := by rw [hq]; rfl
  rw [hz'] at e ⊢
  unfold pMk
  dsimp only
  rw [if_neg (by omega), e.1, e.2]
end
/-! ### marks -/
def PairOk (p : Pair) : Prop := 0 ≤ p.1 ∧ (p.2 = 0 ∨ p.2 = 1 ∨ p.2 = 2)
def markL (p : Pair) : List Nat := leadC p.2 :: numL p.1.toNat
theorem tl_mark {p : Pair} (h : PairOk p) : tl (markS p) = markL p := by
  have e : p.1 = ((p.1.toNat : Nat) : Int) := by have := h.1; omega
  unfold markS markL numS
  rw [tl_append]
  conv => lhs; rw [e]
  rw [tl_num]
  rfl
theorem tl_marks {ps : List Pair} (h : ∀ p ∈ ps, PairOk p) : tl (marksS ps) = ps.flatMap markL := by
  have gen : ∀ (ps : List Pair) (t : Str), (∀ p ∈ ps, PairOk p) → tl (ps.foldl (fun t p => t ++ markS p) t) = tl t ++ ps.flatMap markL := by
    intro ps
    induction ps with
    | nil => intro t _; simp
    | cons p ps ih =>
      intro t h
      rw [List.foldl_cons, ih _ fun q hq => h q (List.mem_cons_of_mem _ hq), tl_append, tl_mark (h p List.mem_cons_self), List.flatMap_cons, List.append_assoc]
  have := gen ps Str.empty h
  rwa [tl_empty, List.nil_append] at this
theorem lead_in (p : Int) : leadC p = 126 ∨ leadC p = 62 ∨ leadC p = 60 := by
  unfold leadC
  split
  · exact .inl rfl
  · split
    · exact .inr (.inl rfl)
    · exact .inr (.inr rfl)
theorem lead_inj {p q : Pair} (h : PairOk p) (h' : PairOk q) (e : leadC p.2 = leadC q.2) : p.2 = q.2 := by
  obtain ⟨_, h⟩ := h
  obtain ⟨_, h'⟩ := h'
  unfold leadC at e
  rcases h with h | h | h <;> rcases h' with h' | h' | h' <;> rw [h, h'] at e ⊢ <;> simp at e
theorem num_head {l : List Nat} (hl : l = [] ∨ ∃ c r, l = c :: r ∧ (c = 126 ∨ c = 62 ∨ c = 60)) : ∀ x, l.head? = some x → (fun c => decide (48 ≤ c) && decide (c ≤ 57)) x = false := fun x hx => by
  rcases hl with rfl | ⟨c, r, rfl, hc⟩
  · cases hx
  · have : c = x := by simpa using hx
    subst this
    simp only [Bool.and_eq_false_iff, decide_eq_false_iff_not]
    omega
theorem flat_head (ps : List Pair) : ps.flatMap markL = [] ∨ ∃ c r, ps.flatMap markL = c :: r ∧ (c = 126 ∨ c = 62 ∨ c = 60) := by
  cases ps with
  | nil => exact .inl rfl
  | cons p ps => exact .inr ⟨leadC p.2, _, by rw [List.flatMap_cons]; rfl, lead_in _⟩
theorem marks_inj : ∀ {ps qs : List Pair}, (∀ p ∈ ps, PairOk p) → (∀ p ∈ qs, PairOk p) → ps.flatMap markL = qs.flatMap markL → ps = qs
  | [], [], _, _, _ => rfl
  | [], q :: qs, _, _, e => by
    rw [List.flatMap_cons] at e
    cases e
  | p :: ps, [], _, _, e => by
    rw [List.flatMap_cons] at e
    cases e
  | p :: ps, q :: qs, hp, hq, e => by
    rw [List.flatMap_cons, List.flatMap_cons] at e
    have e' : leadC p.2 :: (numL p.1.toNat ++ ps.flatMap markL) = leadC q.2 :: (numL q.1.toNat ++ qs.flatMap markL) := e
    rw [List.cons.injEq] at e'
    have hp0 := hp p List.mem_cons_self
    have hq0 := hq q List.mem_cons_self
    have dg : ∀ n, ∀ x ∈ numL n, (fun c => decide (48 ≤ c) && decide (c ≤ 57)) x = true := fun n x hx => by
      have := numL_digits n x hx
      simp only [Bool.and_eq_true, decide_eq_true_eq]
      exact this
    have s1 := span_app (dg p.1.toNat) (num_head (flat_head ps))
    have s2 := span_app (dg q.1.toNat) (num_head (flat_head qs))
    have h1 : numL p.1.toNat = numL q.1.toNat := by rw [← s1.1, e'.2, s2.1]
    have h2 : ps.flatMap markL = qs.flatMap markL := by rw [← s1.2, e'.2, s2.2]
    have h3 := numL_inj h1
    have h4 := lead_inj hp0 hq0 e'.1
    have h5 : p = q := Prod.ext (by have := hp0.1; have := hq0.1; omega) h4
    rw [h5, marks_inj (fun p h => hp p (List.mem_cons_of_mem _ h)) (fun p h => hq p (List.mem_cons_of_mem _ h)) h2]
theorem bt_ok {W : Wb} (hw : WOk W) (i j : Nat) : ∀ p ∈ bt W i j, PairOk p := fun p hp => by
  have hp' := (sortBy_perm pairD (raw W i j)).mem_iff.mp hp
  obtain ⟨t, ht, e⟩ := List.mem_filterMap.mp hp'
  have q := (hw.t t ht).k
  unfold tieAt at e
  split at e
  · cases e
    exact ⟨q.1, by cases t.o <;> simp⟩
  · split at e
    · cases e
      exact ⟨q.1, by cases t.o <;> simp⟩
    · cases e
theorem ml_mw {W : Wb} (hw : WOk W) {i j : Nat} (h : adj W i j = true) : MW (Ml W i j) := by
  unfold Ml
  rw [tl_marks (bt_ok hw i j)]
  refine ⟨?_, fun x hx => ?_⟩
  · rcases flat_head (bt W i j) with e | e
    · have : bt W i j = [] := by
        cases hb : bt W i j with
        | nil => rfl
        | cons p ps =>
          rw [hb, List.flatMap_cons] at e
          cases e
      rw [bt_nil.mp this] at h
      cases h
    · exact e
  · obtain ⟨p, hp, hx⟩ := List.mem_flatMap.mp hx
    rcases List.mem_cons.mp hx with hx | hx
    · rcases lead_in p.2 with h | h | h <;> rw [hx, h] <;> rfl
    · have := numL_digits _ x hx
      simp only [isM, Bool.or_eq_true, Bool.and_eq_true, decide_eq_true_eq]
      exact .inr this
theorem ml_nil {W : Wb} {i j : Nat} (h : adj W i j = false) : Ml W i j = [] := by
  unfold Ml
  rw [bt_nil.mpr h]
  rfl
theorem letters_is {c : Nat} (h : c ∈ letters.cps.toList) : isL c = true := by
  have : ∀ c ∈ letters.cps.toList, isL c = true := by decide
  exact this c h
theorem kl_lw {W : Wb} (hw : WOk W) {i : Nat} (h : i < W.n) : LW (Kl W i) := by
  have q := hw.w _ (List.mem_of_getElem? (kindOf_get h))
  refine ⟨fun e => ?_, fun x hx => letters_is (q.sg x hx)⟩
  have h1 := q.len.1
  have h2 : (kindOf W i).length = (tl (kindOf W i)).length := by simp [tl, Str.length]
  have h3 : tl (kindOf W i) = [] := e
  rw [h2, h3] at h1
  simp at h1
def cm (W : Wb) (o : List Nat) (i j : Nat) : List Nat := if j < o.length then Ml W (g o i) (g o j) else []
def code (W : Wb) (o : List Nat) : Row3 := (o.map (Kl W), [cm W o 0 1, cm W o 0 2, cm W o 1 2])
theorem parse_txt {W : Wb} (hw : WOk W) (h3 : W.n ≤ 3) : ∃ o, Ord W.n o ∧ parse (tl (txt W)) = code W o := by
  have h1 := hw.n.1
  have h1' : 1 ≤ W.n := h1
  have : W.n = 1 ∨ W.n = 2 ∨ W.n = 3 := by omega
  rcases this with h | h | h
  · refine ⟨[0], by rw [h]; exact List.Perm.refl _, ?_⟩
    rw [txt1 hw h, p_one (kl_lw hw (by omega))]
    rfl
  · refine ⟨[0, 1], by rw [h]; exact List.Perm.refl _, ?_⟩
    rw [txt2 hw h]
    cases e : adj W 0 1 with
    | true =>
      rw [if_pos rfl, p_two' (kl_lw hw (by omega)) (ml_mw hw e) (kl_lw hw (by omega))]
      rfl
    | false =>
      rw [if_neg Bool.false_ne_true, p_two (kl_lw hw (by omega)) (kl_lw hw (by omega))]
      show _ = ([Kl W 0, Kl W 1], [Ml W 0 1, [], []])
      rw [ml_nil e]
  · have k0 := kl_lw hw (i := 0) (by omega)
    have k1 := kl_lw hw (i := 1) (by omega)
    have k2 := kl_lw hw (i := 2) (by omega)
    have o12 : Ord W.n [0, 1, 2] := by rw [h]; exact List.Perm.refl _
    have o21 : Ord W.n [0, 2, 1] := by rw [h]; exact (List.Perm.swap 1 2 []).cons 0
    have cd : code W [0, 1, 2] = ([Kl W 0, Kl W 1, Kl W 2], [Ml W 0 1, Ml W 0 2, Ml W 1 2]) := rfl
    have cd' : code W [0, 2, 1] = ([Kl W 0, Kl W 2, Kl W 1], [Ml W 0 2, Ml W 0 1, Ml W 2 1]) := rfl
    have m01 := ml_mw hw (i := 0) (j := 1)
    have m02 := ml_mw hw (i := 0) (j := 2)
    have m12 := ml_mw hw (i := 1) (j := 2)
    have m21 := ml_mw hw (i := 2) (j := 1)
    have n01 := ml_nil (W := W) (i := 0) (j := 1)
    have n02 := ml_nil (W := W) (i := 0) (j := 2)
    have n12 := ml_nil (W := W) (i := 1) (j := 2)
    have n21 := ml_nil (W := W) (i := 2) (j := 1)
    rw [adj_comm W 2 1] at m21 n21
    rw [txt3 hw h]
    cases h01 : adj W 0 1 <;> cases h02 : adj W 0 2 <;> cases h12 : adj W 1 2
    · exact ⟨_, o12, by rw [cd, n01 h01, n02 h02, n12 h12]; exact p_A k0 k1⟩
    · exact ⟨_, o12, by rw [cd, n01 h01, n02 h02]; exact p_C k0 k1 k2 (m12 h12)⟩
    · exact ⟨_, o21, by rw [cd', n01 h01, n21 h12]; exact p_B k0 (m02 h02) k2⟩
    · exact ⟨_, o21, by rw [cd', n01 h01]; exact p_E k0 (m02 h02) k2 (m21 h12) k1⟩
    · exact ⟨_, o12, by rw [cd, n02 h02, n12 h12]; exact p_B k0 (m01 h01) k1⟩
    · exact ⟨_, o12, by rw [cd, n02 h02]; exact p_E k0 (m01 h01) k1 (m12 h12) k2⟩
    · exact ⟨_, o12, by rw [cd, n12 h12]; exact p_D k0 k1 k2 (m01 h01) (m02 h02)⟩
    · exact ⟨_, o12, by rw [cd]; exact p_F k0 k1 k2 (m01 h01) (m12 h12) (m02 h02)⟩
theorem ml_inj {W W' : Wb} (hw : WOk W) (hw' : WOk W') {i j i' j' : Nat} (h : Ml W i j = Ml W' i' j') : bt W i j = bt W' i' j' := by
  unfold Ml at h
  rw [tl_marks (bt_ok hw i j), tl_marks (bt_ok hw' i' j')] at h
  exact marks_inj (bt_ok hw i j) (bt_ok hw' i' j') h
theorem kl_inj {W W' : Wb} {i j : Nat} (h : Kl W i = Kl W' j) : kindOf W i = kindOf W' j := ext_tl h
/-- the writing tells the web, up to its order -/
theorem txt_inj {W W' : Wb} (hw : WOk W) (hw' : WOk W') (h3 : W.n ≤ 3) (h3' : W'.n ≤ 3) (e : txt W = txt W') : ∃ o o', Ord W.n o ∧ Ord W'.n o' ∧ RowEq W o W' o' := by
  obtain ⟨o, ho, h1⟩ := parse_txt hw h3
  obtain ⟨o', ho', h2⟩ := parse_txt hw' h3'
  rw [e, h2] at h1
  obtain ⟨e1, e2⟩ := Prod.mk.inj h1
  have hl : o.length = o'.length := by
    have := congrArg List.length e1
    rw [List.length_map, List.length_map] at this
    exact this.symm
  simp only [List.cons.injEq, and_true] at e2
  obtain ⟨c01, c02, c12⟩ := e2
  have hn : o.length ≤ 3 := by rw [ho.len]; exact h3
  have mm : ∀ {i j : Nat}, j < o.length → cm W' o' i j = cm W o i j → bt W (g o i) (g o j) = bt W' (g o' i) (g o' j) := fun {i j} hj hc => by
    unfold cm at hc
    rw [if_pos hj, if_pos (by omega)] at hc
    exact (ml_inj hw' hw hc).symm
  refine ⟨o, o', ho, ho', hl, fun i hi => ?_, fun i j hij hj => ?_⟩
  · have := congrArg (fun l => l[i]?) e1
    rw [List.getElem?_map, List.getElem?_map, get_g' (by omega), get_g' hi] at this
    exact (kl_inj (Option.some.inj this)).symm
  · have : (i = 0 ∧ j = 1) ∨ (i = 0 ∧ j = 2) ∨ (i = 1 ∧ j = 2) := by omega
    rcases this with ⟨rfl, rfl⟩ | ⟨rfl, rfl⟩ | ⟨rfl, rfl⟩
    · exact mm hj c01
    · exact mm hj c02
    · exact mm hj c12
end L2.Tw
set_option Elab.async false
set_option linter.all false
set_option maxRecDepth 100000
set_option maxHeartbeats 4000000
set_option autoImplicit false
namespace L2.Tw
open PySem PySem.Spec PyProof.Rows L2
theorem tieAt_plain (i j : Nat) (t : Tie) : tieAt i j (plainT t) = tieAt i j t := by
  unfold plainT
  split
  · next h =>
    obtain ⟨ho, _⟩ := h
    unfold tieAt
    dsimp only
    rw [ho]
    by_cases c1 : t.a = i ∧ t.b = j <;> by_cases c2 : t.b = i ∧ t.a = j <;> simp [c1, c2]
  · rfl
theorem raw_mk (ks : List Str) (ts : List Tie) (i j : Nat) : (raw (mkW ks ts) i j).Perm (ts.filterMap (tieAt i j)) := by
  have h : (raw (mkW ks ts) i j).Perm ((ts.map plainT).filterMap (tieAt i j)) := (sortBy_perm tieD (ts.map plainT)).filterMap _
  rw [List.filterMap_map] at h
  have e : (tieAt i j ∘ plainT) = tieAt i j := funext fun t => tieAt_plain i j t
  rw [e] at h
  exact h
theorem bt_mk (ks : List Str) (ts : List Tie) (i j : Nat) : bt (mkW ks ts) i j = sortP (ts.filterMap (tieAt i j)) := sortP_of_perm (raw_mk ks ts i j)
theorem g_stand {o : List Nat} {n x i : Nat} (h : Ord n o) (hx : x < n) (hi : i < n) : stand o x = i ↔ x = g o i := by
  have hl := h.len
  constructor
  · intro e
    have := (stand_lt h hx).2
    rw [e, get_g' (by omega)] at this
    exact (Option.some.inj this).symm
  · intro e
    exact stand_at h (by rw [get_g' (by omega), e])
theorem tieAt_led {o : List Nat} {n i j : Nat} (h : Ord n o) (hi : i < n) (hj : j < n) {t : Tie} (ht : TieOk n t) : tieAt i j (ledT o t) = tieAt (g o i) (g o j) t := by
  unfold tieAt ledT
  dsimp only
  have h1 : (stand o t.a = i ∧ stand o t.b = j) ↔ (t.a = g o i ∧ t.b = g o j) := by rw [g_stand h ht.a hi, g_stand h ht.b hj]
  have h2 : (stand o t.b = i ∧ stand o t.a = j) ↔ (t.b = g o i ∧ t.a = g o j) := by rw [g_stand h ht.b hi, g_stand h ht.a hj]
  by_cases c1 : t.a = g o i ∧ t.b = g o j
  · rw [if_pos (h1.mpr c1), if_pos c1]
  · rw [if_neg (fun z => c1 (h1.mp z)), if_neg c1]
    by_cases c2 : t.b = g o i ∧ t.a = g o j
    · rw [if_pos (h2.mpr c2), if_pos c2]
    · rw [if_neg (fun z => c2 (h2.mp z)), if_neg c2]
theorem bt_turn {W : Wb} {o : List Nat} (hw : WOk W) (h : Ord W.n o) {i j : Nat} (hi : i < W.n) (hj : j < W.n) : bt (turnW W o) i j = bt W (g o i) (g o j) := by
  unfold turnW
  rw [bt_mk, List.filterMap_map]
  unfold bt raw
  congr 1
  refine filterMap_congr' fun t ht => ?_
  exact tieAt_led h hi hj (hw.t t ht)
where
  filterMap_congr' {α β : Type} {f f' : α → Option β} : ∀ {l : List α}, (∀ a ∈ l, f a = f' a) → l.filterMap f = l.filterMap f'
    | [], _ => rfl
    | a :: l, h => by
      rw [List.filterMap_cons, List.filterMap_cons, h a List.mem_cons_self, filterMap_congr' fun b hb => h b (List.mem_cons_of_mem _ hb)]
theorem turn_n {W : Wb} {o : List Nat} (h : Ord W.n o) : (turnW W o).n = W.n := by
  show (o.map (kindOf W)).length = W.n
  rw [List.length_map, h.len]
theorem kind_turn {W : Wb} {o : List Nat} (h : Ord W.n o) {i : Nat} (hi : i < W.n) : kindOf (turnW W o) i = kindOf W (g o i) := by
  have hl := h.len
  show (o.map (kindOf W)).getD i Str.empty = _
  rw [List.getD_eq_getElem?_getD, List.getElem?_map, get_g' (by omega)]
  rfl
theorem iso_turn {W : Wb} {o : List Nat} (hw : WOk W) (h : Ord W.n o) : Iso o W (turnW W o) := ⟨h, turn_n h, fun i hi => kind_turn h hi, fun i j hi hj _ => bt_turn hw h hi hj⟩
/-- the same rows, the same text -/
theorem txt_rows {W W' : Wb} (hw : WOk W) (hw' : WOk W') (hk : W.kinds = W'.kinds) (hb : ∀ i j, i < j → j < W.n → bt W i j = bt W' i j) : txt W = txt W' := by
  have hn : W.n = W'.n := by
    show W.kinds.length = W'.kinds.length
    rw [hk]
  have e1 : kindOf W = kindOf W' := by
    funext i
    unfold kindOf
    rw [hk]
  have e2 : bt W = bt W' := by
    funext i j
    by_cases h : i < W.n ∧ j < W.n ∧ i ≠ j
    · obtain ⟨h1, h2, h3⟩ := h
      rcases Nat.lt_or_gt_of_ne h3 with c | c
      · exact hb i j c h2
      · exact bt_of_flip (Ne.symm h3) (Ne.symm h3) (hb j i c h1)
    · have n1 : adj W i j = false := by
        cases e : adj W i j with
        | false => rfl
        | true => exact absurd (adj_out hw e) h
      have n2 : adj W' i j = false := by
        cases e : adj W' i j with
        | false => rfl
        | true =>
          have := adj_out hw' e
          rw [← hn] at this
          exact absurd this h
      rw [bt_nil.mpr n1, bt_nil.mpr n2]
  have e3 : nearL W = nearL W' := by
    funext i
    unfold nearL
    rw [hn]
    refine List.filter_congr fun j _ => ?_
    show adj W i j = adj W' i j
    cases e : adj W i j with
    | false =>
      have := bt_nil.mpr e
      rw [e2] at this
      exact (bt_nil.mp this).symm
    | true =>
      cases e' : adj W' i j with
      | true => rfl
      | false =>
        have := bt_nil.mpr e'
        rw [← e2] at this
        rw [bt_nil.mp this] at e
        cases e
  unfold txt
  rw [e1, e2, e3, hn]
theorem txt_same {W W' : Wb} {o o' : List Nat} (hw : WOk W) (hw' : WOk W') (ho : Ord W.n o) (ho' : Ord W'.n o') (r : RowEq W o W' o') : txt (turnW W o) = txt (turnW W' o') := by
  have hl := ho.len
  have hl' := ho'.len
  have hr := r.len
  refine txt_rows (turn_ok hw ho) (turn_ok hw' ho') ?_ fun i j hij hj => ?_
  · show o.map (kindOf W) = o'.map (kindOf W')
    rw [map_eq_range o rfl, map_eq_range o' rfl, ← hr]
    exact List.map_congr_left fun i hi => r.kd i (List.mem_range.mp hi)
  · rw [turn_n ho] at hj
    rw [bt_turn hw ho (by omega) hj, bt_turn hw' ho' (by omega) (by omega)]
    exact r.bt i j hij (by omega)
theorem ord_comp {n : Nat} {a o : List Nat} (ha : Ord n a) (ho : Ord n o) : Ord n (a.map (g o)) := by
  have e : (List.range n).map (g o) = o := by rw [← ho.len]; exact range_map_g o
  have h : (a.map (g o)).Perm ((List.range n).map (g o)) := ha.map (g o)
  rw [e] at h
  exact h.trans ho
theorem g_comp {n : Nat} {a o : List Nat} (ha : Ord n a) {i : Nat} (hi : i < n) : g (a.map (g o)) i = g o (g a i) := by
  have hl := ha.len
  have : (a.map (g o))[i]? = some (g o (g a i)) := by rw [List.getElem?_map, get_g' (by omega)]; rfl
  rw [get_g' (by rw [List.length_map]; omega)] at this
  exact Option.some.inj this
/-- the same text, alike -/
theorem txt_iso {W W' : Wb} {o o' : List Nat} (hw : WOk W) (hw' : WOk W') (h3 : W.n ≤ 3) (h3' : W'.n ≤ 3) (ho : Ord W.n o) (ho' : Ord W'.n o') (e : txt (turnW W o) = txt (turnW W' o')) : ∃ τ, Iso τ W W' := by
  obtain ⟨a, b, ha, hb, r⟩ := txt_inj (turn_ok hw ho) (turn_ok hw' ho') (by rw [turn_n ho]; exact h3) (by rw [turn_n ho']; exact h3') e
  rw [turn_n ho] at ha
  rw [turn_n ho'] at hb
  have hla := ha.len
  have hlb := hb.len
  have hr := r.len
  have rr : RowEq W (a.map (g o)) W' (b.map (g o')) := by
    refine ⟨by rw [List.length_map, List.length_map]; exact hr, fun i hi => ?_, fun i j hij hj => ?_⟩
    · rw [List.length_map] at hi
      rw [g_comp ha (by omega), g_comp hb (by omega), ← kind_turn ho (ha.lt (by omega)), ← kind_turn ho' (hb.lt (by omega))]
      exact r.kd i hi
    · rw [List.length_map] at hj
      rw [g_comp ha (by omega), g_comp ha (by omega), g_comp hb (by omega), g_comp hb (by omega), ← bt_turn hw ho (ha.lt (by omega)) (ha.lt (by omega)), ← bt_turn hw' ho' (hb.lt (by omega)) (hb.lt (by omega))]
      exact r.bt i j hij hj
  obtain ⟨τ, h1, _⟩ := iso_of_rows (ord_comp ha ho) (ord_comp hb ho') rr
  exact ⟨τ, h1⟩
/-! ### the ties are told by what lies between -/
theorem count_fm {α β : Type} [BEq β] [LawfulBEq β] (f : α → Option β) (p : β) : ∀ l : List α, (l.filterMap f).count p = l.countP fun x => f x == some p
  | [] => rfl
  | a :: l => by
    rw [List.filterMap_cons, List.countP_cons, ← count_fm f p l]
    cases h : f a with
    | none => simp
    | some b =>
      rw [List.count_cons]
      by_cases e : b = p
      · simp [e]
      · simp [e]
def IsPlain (t : Tie) : Prop := ¬ (t.o = false ∧ t.b < t.a)
theorem plain_is {t : Tie} (h : t.a ≠ t.b) : IsPlain (plainT t) := by
  unfold plainT IsPlain
  split
  · next h => rintro ⟨_, h2⟩; dsimp only at h2; omega
  · next h => exact h
theorem tie_at {t x : Tie} (ht : IsPlain t) (hx : IsPlain x) (hne : t.a ≠ t.b) (hnx : x.a ≠ x.b) : tieAt t.a t.b x = some (t.k, if t.o then 1 else 0) ↔ x = t := by
  obtain ⟨a, b, k, o⟩ := t
  obtain ⟨c, d, l, u⟩ := x
  unfold tieAt
  unfold IsPlain at ht hx
  dsimp only at ht hx hne hnx ⊢
  by_cases c1 : c = a ∧ d = b
  · obtain ⟨rfl, rfl⟩ := c1
    rw [if_pos ⟨rfl, rfl⟩]
    cases o <;> cases u <;> simp
  · rw [if_neg c1]
    by_cases c2 : d = a ∧ c = b
    · obtain ⟨rfl, rfl⟩ := c2
      rw [if_pos ⟨rfl, rfl⟩]
      cases o <;> cases u <;> simp <;> simp at ht hx <;> omega
    · rw [if_neg c2]
      simp
      intro e1 e2
      exact absurd ⟨e1, e2⟩ c1
theorem ties_perm {ts us : List Tie} (ht : ∀ t ∈ ts, IsPlain t ∧ t.a ≠ t.b) (hu : ∀ t ∈ us, IsPlain t ∧ t.a ≠ t.b) (h : ∀ i j, i ≠ j → (ts.filterMap (tieAt i j)).Perm (us.filterMap (tieAt i j))) : ts.Perm us := by
  rw [List.perm_iff_count]
  intro t
  have key : ∀ vs : List Tie, (∀ t ∈ vs, IsPlain t ∧ t.a ≠ t.b) → IsPlain t ∧ t.a ≠ t.b → vs.count t = (vs.filterMap (tieAt t.a t.b)).count (t.k, if t.o then 1 else 0) := fun vs hv hp => by
    rw [count_fm]
    show vs.countP (fun x => x == t) = _
    refine List.countP_congr fun x hx => ?_
    obtain ⟨h1, h2⟩ := hv x hx
    rw [beq_iff_eq, beq_iff_eq, tie_at hp.1 h1 hp.2 h2]
  by_cases hp : IsPlain t ∧ t.a ≠ t.b
  · rw [key ts ht hp, key us hu hp]
    exact (h _ _ hp.2).count_eq _
  · rw [List.count_eq_zero.mpr fun m => hp (ht t m), List.count_eq_zero.mpr fun m => hp (hu t m)]
/-- what is between tells the kept ties -/
theorem ties_eq {ks ks' : List Str} {ts us : List Tie} (ht : ∀ t ∈ ts, t.a ≠ t.b) (hu : ∀ t ∈ us, t.a ≠ t.b) (h : ∀ i j, i ≠ j → bt (mkW ks ts) i j = bt (mkW ks' us) i j) : (mkW ks ts).ties = (mkW ks' us).ties := by
  refine sortBy_of_perm (fun _ _ => tieD_inj) al_tie ?_
  refine ties_perm (fun t h => ?_) (fun t h => ?_) fun i j hij => ?_
  · obtain ⟨x, hx, rfl⟩ := List.mem_map.mp h
    exact ⟨plain_is (ht x hx), plainT_ne (ht x hx)⟩
  · obtain ⟨x, hx, rfl⟩ := List.mem_map.mp h
    exact ⟨plain_is (hu x hx), plainT_ne (hu x hx)⟩
  · have p1 : ((ts.map plainT).filterMap (tieAt i j)).Perm (bt (mkW ks ts) i j) := (((sortBy_perm tieD (ts.map plainT)).filterMap (tieAt i j)).symm.trans (sortBy_perm pairD _).symm)
    have p2 : ((us.map plainT).filterMap (tieAt i j)).Perm (bt (mkW ks' us) i j) := (((sortBy_perm tieD (us.map plainT)).filterMap (tieAt i j)).symm.trans (sortBy_perm pairD _).symm)
    rw [h i j hij] at p1
    exact p1.trans p2.symm
end L2.Tw
set_option Elab.async false
set_option linter.all false
set_option maxRecDepth 100000
set_option maxHeartbeats 4000000
set_option autoImplicit false
namespace L2.Tw
open PySem PySem.Spec PyProof.Rows L2
/-! ### colours, plain -/
def cellD (ps : List Pair) : PyData := .list (ps.map pairD)
def colL (W : Wb) (k : Nat) : List PyData := (List.range W.n).map fun j => cellD (bt W k j)
def colD (W : Wb) (k : Nat) : PyData := .tuple [.str (kindOf W k), .list (sortD (colL W k))]
def colsL (W : Wb) : List PyData := (List.range W.n).map (colD W)
theorem al_cell (p q : List Pair) : PySem.W.alike (cellD p) (cellD q) = true := by
  rw [cellD, cellD, PySem.W.alike]
  exact al_map al_pair p q
theorem pd_cell (ps : List Pair) : Pd 2 (cellD ps) := pd_list (pd_map pd_pair ps)
theorem al_colL (W : Wb) (k : Nat) : PySem.W.AllAlike (colL W k) := allAlike_map (fun _ _ => al_cell _ _) _
theorem al_col (W : Wb) (i : Nat) (W' : Wb) (j : Nat) : PySem.W.alike (colD W i) (colD W' j) = true := by
  rw [colD, colD, PySem.W.alike, PySem.W.alikeAll, PySem.W.alikeAll, PySem.W.alikeAll, Bool.and_true]
  show (true && PySem.W.alike _ _) = true
  rw [Bool.true_and, PySem.W.alike]
  refine alikeAll_of fun d hd e he => ?_
  obtain ⟨a, _, rfl⟩ := List.mem_map.mp ((sortD_perm _).mem_iff.mp hd)
  obtain ⟨b, _, rfl⟩ := List.mem_map.mp ((sortD_perm _).mem_iff.mp he)
  exact al_cell _ _
theorem pd_col (W : Wb) (k : Nat) : Pd 4 (colD W k) := by
  refine pd_tuple fun d hd => ?_
  rcases List.mem_cons.mp hd with e | hd
  · subst e
    exact (pd_str _).up
  · have e : d = .list (sortD (colL W k)) := by simpa using hd
    subst e
    refine pd_list fun d hd => ?_
    obtain ⟨a, _, rfl⟩ := List.mem_map.mp ((sortD_perm _).mem_iff.mp hd)
    exact pd_cell _
theorem sortOk_colL (W : Wb) (k : Nat) (h : W.n ≤ 7) : SortOk (colL W k) :=
  ⟨al_colL W k, .inr fun d hd => by
    obtain ⟨a, _, rfl⟩ := List.mem_map.mp hd
    exact ⟨fun z => (by cases z), fun xs z => (by cases z)⟩, fun d hd => by
    obtain ⟨a, _, rfl⟩ := List.mem_map.mp hd
    exact Nat.le_trans (pd_cell _).2 (by decide), by simp [colL]; omega⟩
theorem sortOk_cols (W : Wb) (h : W.n ≤ 7) : SortOk (colsL W) :=
  sortOk_tup (n := 4) (allAlike_map (fun _ _ => al_col _ _ _ _) _) (pd_map (pd_col W) _) (by omega) (fun d hd => by
    obtain ⟨a, _, rfl⟩ := List.mem_map.mp hd
    exact ⟨_, _, rfl⟩) (by simp [colsL]; omega)
theorem pd_sortCols (W : Wb) : Pd 5 (.list (sortD (colsL W))) := pd_list fun d hd => by
  obtain ⟨a, _, rfl⟩ := List.mem_map.mp ((sortD_perm _).mem_iff.mp hd)
  exact pd_col W a
theorem al_sortCols (W W' : Wb) : PySem.W.alike (.list (sortD (colsL W))) (.list (sortD (colsL W'))) = true := by
  rw [PySem.W.alike]
  refine alikeAll_of fun d hd e he => ?_
  obtain ⟨a, _, rfl⟩ := List.mem_map.mp ((sortD_perm _).mem_iff.mp hd)
  obtain ⟨b, _, rfl⟩ := List.mem_map.mp ((sortD_perm _).mem_iff.mp he)
  exact al_col _ _ _ _
theorem bt_self {W : Wb} (hw : WOk W) (i : Nat) : bt W i i = [] := by
  have : raw W i i = [] := by
    unfold raw
    rw [List.filterMap_eq_nil_iff]
    intro t ht
    have := (hw.t t ht).ne
    unfold tieAt
    rw [if_neg (fun h => this (h.1.trans h.2.symm)), if_neg (fun h => this (h.2.trans h.1.symm))]
  unfold bt
  rw [this]
  exact List.Perm.eq_nil (sortBy_perm pairD [])
section
variable {τ o : List Nat} {W W' : Wb}
theorem col_iso (hw : WOk W) (hw' : WOk W') (I : Iso τ W W') {i : Nat} (hi : i < W.n) : colD W' i = colD W (g τ i) := by
  unfold colD
  rw [I.kd i hi]
  have e : colL W' i = (τ.map fun j => cellD (bt W (g τ i) j)) := by
    unfold colL
    rw [map_eq_range τ I.ord.len, I.n]
    refine List.map_congr_left fun j hj => ?_
    have hj := List.mem_range.mp hj
    by_cases c : i = j
    · subst c
      rw [bt_self hw, bt_self hw']
    · rw [I.bt i j hi hj c]
  have p : (colL W' i).Perm (colL W (g τ i)) := by
    rw [e]
    exact I.ord.map _
  rw [sortD_of_perm p (al_colL W' i)]
theorem cols_iso (hw : WOk W) (hw' : WOk W') (I : Iso τ W W') : sortD (colsL W) = sortD (colsL W') := by
  have e : colsL W' = τ.map (colD W) := by
    unfold colsL
    rw [map_eq_range τ I.ord.len, I.n]
    exact List.map_congr_left fun i hi => col_iso hw hw' I (List.mem_range.mp hi)
  have p : (colsL W').Perm (colsL W) := by
    rw [e]
    exact I.ord.map _
  exact (sortD_of_perm p (allAlike_map (fun _ _ => al_col _ _ _ _) _)).symm
theorem cols_len (h : sortD (colsL W) = sortD (colsL W')) : W'.n = W.n := by
  have := congrArg List.length h
  rw [sortD_length, sortD_length] at this
  simp [colsL] at this
  exact this.symm
/-! the orders by which W is W', from o on -/
structure ExtO (W W' : Wb) (o τ : List Nat) : Prop where
  ord : Ord W.n τ
  pre : ∀ i, i < o.length → g τ i = g o i
  col : ∀ i, o.length ≤ i → i < W.n → colD W (g τ i) = colD W' i
  bt : ∀ k i, k < i → o.length ≤ i → i < W.n → bt W (g τ k) (g τ i) = bt W' k i
theorem colD_kind {i : Nat} {j : Nat} (h : colD W i = colD W' j) : kindOf W i = kindOf W' j := by
  unfold colD at h
  simp only [PyData.tuple.injEq, List.cons.injEq, PyData.str.injEq] at h
  exact h.1
theorem ext_iso (hw : WOk W) (hw' : WOk W') (hn : W'.n = W.n) : (∃ τ, ExtO W W' [] τ) ↔ ∃ τ, Iso τ W W' := by
  constructor
  · rintro ⟨τ, E⟩
    refine ⟨τ, E.ord, hn, fun i hi => (colD_kind (E.col i (Nat.zero_le _) hi)).symm, fun i j hi hj hij => ?_⟩
    rcases Nat.lt_or_gt_of_ne hij with h | h
    · exact (E.bt i j h (Nat.zero_le _) hj).symm
    · refine (bt_of_flip (fun z => ?_) (Ne.symm hij) (E.bt j i h (Nat.zero_le _) hi)).symm
      exact hij (E.ord.inj hi hj z.symm)
  · rintro ⟨τ, I⟩
    refine ⟨τ, I.ord, fun i hi => absurd hi (Nat.not_lt_zero _), fun i _ hi => (col_iso hw hw' I hi).symm, fun k i hk _ hi => (I.bt k i (by omega) hi (by omega)).symm⟩
theorem ext_full (ho : Ord W.n o) : ExtO W W' o o := by
  have hl := ho.len
  exact ⟨ho, fun _ _ => rfl, fun i h1 h2 => by omega, fun k i _ h1 h2 => by omega⟩
theorem g_snoc {o : List Nat} {p i : Nat} (h : i < o.length) : g (o ++ [p]) i = g o i := by
  rw [g_get (by simp; omega), g_get h, List.getElem_append_left h]
theorem g_snoc' {o : List Nat} {p : Nat} : g (o ++ [p]) o.length = p := by
  rw [g_get (by simp)]
  simp
theorem ext_snoc {p : Nat} (E : ExtO W W' (o ++ [p]) τ) (hc : colD W p = colD W' o.length) (hb : ∀ k, k < o.length → bt W (g o k) p = bt W' k o.length) : ExtO W W' o τ := by
  have hp : g τ o.length = p := by rw [E.pre _ (by simp), g_snoc']
  have hpre : ∀ i, i < o.length → g τ i = g o i := fun i hi => by rw [E.pre i (by simp; omega), g_snoc hi]
  refine ⟨E.ord, hpre, fun i h1 h2 => ?_, fun k i h0 h1 h2 => ?_⟩
  · by_cases c : i = o.length
    · rw [c, hp, hc]
    · exact E.col i (by simp; omega) h2
  · by_cases c : i = o.length
    · rw [c, hp, hpre k (by omega), hb k (by omega)]
    · exact E.bt k i h0 (by simp; omega) h2
theorem ext_next (E : ExtO W W' o τ) (hl : o.length < W.n) : g τ o.length < W.n ∧ g τ o.length ∉ o ∧ colD W (g τ o.length) = colD W' o.length ∧ (∀ k, k < o.length → bt W (g o k) (g τ o.length) = bt W' k o.length) ∧ ExtO W W' (o ++ [g τ o.length]) τ := by
  refine ⟨E.ord.lt hl, fun hm => ?_, E.col _ (Nat.le_refl _) hl, fun k hk => ?_, E.ord, fun i hi => ?_, fun i h1 h2 => E.col i ?_ h2, fun k i h0 h1 h2 => E.bt k i h0 ?_ h2⟩
  · obtain ⟨k, hk, e⟩ := List.mem_iff_getElem.mp hm
    have e2 : g τ k = g τ o.length := by rw [E.pre k hk, g_get hk, e]
    have := E.ord.inj (by omega) hl e2
    omega
  · rw [← E.pre k hk]
    exact E.bt k _ hk (Nat.le_refl _) hl
  · simp at hi
    by_cases c : i = o.length
    · rw [c, g_snoc']
    · rw [g_snoc (by omega)]
      exact E.pre i (by omega)
  · simp at h1
    omega
  · simp at h1
    omega
theorem ord_snoc {n : Nat} (h : o.length = n) (hnd : o.Nodup) (hlt : ∀ i ∈ o, i < n) : Ord n o := by
  refine ord_of h (fun i hi => hlt _ ?_) fun i j hi hj e => ?_
  · rw [g_get (by omega)]
    exact List.getElem_mem _
  · rw [g_get (by omega), g_get (by omega)] at e
    exact (List.getElem_inj hnd).mp e
/-- a made web, as the law has it -/
def rawW (ks : List Str) (ts : List Tie) : Wb := ⟨ks, ts⟩
theorem bt_raw (ks : List Str) (ts : List Tie) (i j : Nat) : bt (mkW ks ts) i j = bt (rawW ks ts) i j := bt_mk ks ts i j
theorem iso_same {W1 W2 W1' W2' : Wb} (n1 : W1'.n = W1.n) (k1 : ∀ i, kindOf W1' i = kindOf W1 i) (b1 : ∀ i j, bt W1' i j = bt W1 i j) (n2 : W2'.n = W2.n) (k2 : ∀ i, kindOf W2' i = kindOf W2 i) (b2 : ∀ i j, bt W2' i j = bt W2 i j) (I : Iso τ W1 W2) : Iso τ W1' W2' :=
  ⟨by rw [n1]; exact I.ord, by rw [n1, n2]; exact I.n, fun i hi => by rw [k1, k2]; exact I.kd i (by rw [← n1]; exact hi), fun i j hi hj h => by rw [b1, b2]; exact I.bt i j (by rw [← n1]; exact hi) (by rw [← n1]; exact hj) h⟩
theorem iso_raw {ks ks' : List Str} {ts ts' : List Tie} : Iso τ (rawW ks ts) (rawW ks' ts') ↔ Iso τ (mkW ks ts) (mkW ks' ts') :=
  ⟨iso_same rfl (fun _ => rfl) (bt_raw _ _) rfl (fun _ => rfl) (bt_raw _ _), iso_same rfl (fun _ => rfl) (fun i j => (bt_raw _ _ i j).symm) rfl (fun _ => rfl) (fun i j => (bt_raw _ _ i j).symm)⟩
end
end L2.Tw
set_option Elab.async false
set_option linter.all false
set_option maxRecDepth 100000
set_option maxHeartbeats 4000000
set_option autoImplicit false
namespace L2.Tw
open PySem PySem.Spec PyProof.Rows L2
open C8 (Cal Met Mak pe_c pe_mk pe_mt pe_mt0 pe_gc InsC)
open Evl (Ex Ev EvT EvA fresh_back ex_l ex_t ex_rd sq_of st_of sz_of sz_lt ev_var ev_c ev_op rv_I0 rv_I rv_eq rv_ne et_test et_or et_and et_not et_B s_if ea_nil ea_cons q_asg q_when)
open _root_.TL (tl numL tl_append len_tl)
/-! ### how long the marks are -/
def PairLt (p : Pair) : Prop := PairOk p ∧ p.1 < 10 ^ 30
theorem bt_lt {W : Wb} (hw : WOk W) (i j : Nat) : ∀ p ∈ bt W i j, PairLt p := fun p hp => by
  refine ⟨bt_ok hw i j p hp, ?_⟩
  have hp' := (sortBy_perm pairD (raw W i j)).mem_iff.mp hp
  obtain ⟨t, ht, e⟩ := List.mem_filterMap.mp hp'
  have q := (hw.t t ht).k
  unfold tieAt at e
  split at e
  · cases e
    exact q.2
  · split at e
    · cases e
      exact q.2
    · cases e
theorem bt_len {W : Wb} (hw : WOk W) (i j : Nat) : (bt W i j).length ≤ 12 := by
  have h1 : (bt W i j).length = (raw W i j).length := (sortBy_perm pairD (raw W i j)).length_eq
  have h2 : (raw W i j).length ≤ W.ties.length := List.length_filterMap_le _ _
  have h3 := hw.m
  omega
theorem mark_len {p : Pair} (h : PairLt p) : (markS p).length ≤ 31 := by
  rw [len_tl, tl_mark h.1]
  show (numL p.1.toNat).length + 1 ≤ 31
  have : (numL p.1.toNat).length ≤ 30 := _root_.TL.numL_len (by decide) (by have h1 := h.2; have h2 := h.1.1; omega)
  omega
theorem str_len (a b : Str) : (a ++ b).length = a.length + b.length := by
  rw [len_tl, len_tl, len_tl, tl_append, List.length_append]
theorem marks_snoc (ps : List Pair) (p : Pair) : marksS (ps ++ [p]) = marksS ps ++ markS p := by
  unfold marksS
  rw [List.foldl_append]
  rfl
theorem marks_len : ∀ {ps : List Pair}, (∀ p ∈ ps, PairLt p) → (marksS ps).length ≤ 31 * ps.length := fun {ps} h => by
  have gen : ∀ n, n ≤ ps.length → (marksS (ps.take n)).length ≤ 31 * n := by
    intro n
    induction n with
    | zero =>
      intro _
      rw [List.take_zero]
      exact Nat.le_refl _
    | succ n ih =>
      intro hn
      have := ih (by omega)
      rw [List.take_add_one, List.getElem?_eq_getElem (by omega)]
      show (marksS (ps.take n ++ [ps[n]])).length ≤ _
      rw [marks_snoc, str_len]
      have := mark_len (h ps[n] (List.getElem_mem _))
      omega
  have := gen ps.length (Nat.le_refl _)
  rwa [List.take_length] at this
theorem log_small {k : Int} (h0 : 0 ≤ k) (h : k < 10 ^ 30) : k.natAbs.log2 < 1920 := by
  by_cases hz : k.natAbs = 0
  · rw [hz]
    decide
  · have h1 : k.natAbs < 10 ^ 30 := by omega
    have h2 : k.natAbs.log2 < 100 := (Nat.log2_lt hz).mpr (Nat.lt_trans h1 (by decide))
    omega
section
variable {P : Program} {w : World} {K : PySem.W.Frag} {mg : Str → Option Value} {base : Heap}
theorem s_augSt {σ : L2.St} {H : Hp} {te : TE} {D : Ends} {i : Nat} {a b : Str} (hx : σ[i]? = some (some (.str a))) (h : Ev te σ H (.str b)) (hz : a.length + b.length ≤ 100000) (k : ∀ H1, Ex H H1 → D.nx (σ.set i (some (.str (a ++ b)))) H1) :
    tAug i te (fun x y H Q => ∃ i j, x = .str i ∧ y = .str j ∧ i.length + j.length ≤ sizeLine ∧ Q (.str (i ++ j)) H) D σ H := ⟨.str a, hx, h H (Evl.Ex.refl H) _ fun H1 e => ⟨a, b, rfl, rfl, sz_of hz, k H1 e⟩⟩
theorem ev_strI {σ : L2.St} {H : Hp} {te : TE} {i : Int} (h : Ev te σ H (.int i)) (hz : i.natAbs.log2 < 1920) : Ev (tCB (fun xs H Q => ∃ i : Int, xs = [V.int i] ∧ i.natAbs.log2 < 1920 ∧ Q (V.str (Str.ofString (toString i))) H) (tCons te tNil)) σ H (.str (numS i)) := fun H1 e Q q =>
  h H1 e _ fun H2 e2 => ⟨i, rfl, hz, q H2 e2⟩
/-! ### marks_text -/
def spMarks (K : PySem.W.Frag) : Sp := spP (fun (ps : List Pair) vs H => ∃ v, vs = [v] ∧ Dp K H v (pairsD ps) ∧ (∀ p ∈ ps, PairLt p) ∧ ps.length ≤ 12) (fun ps _ v _ => v = .str (marksS ps))
theorem cal_marks_text (T : TX K mg) : Cal P w K mg base 1 "marks_text" (spMarks K) [] := by
  refine T.cal d_marks_text (N := ["pairs", "text", "kind", "lead"]) (ps := ["pairs"]) (List.mem_of_getElem? (i := 32) rfl) rfl (by decide +kernel) sc_marks_text (fun _ _ _ _ _ _ us hl => match us, hl with | [_], _ => rfl) (fun vs H Q E h => ?_) (fun cdv A outer s H vs Q E f hr h => ?_)
  · obtain ⟨x, ⟨v, rfl, _⟩, _⟩ := h
    rfl
  · obtain ⟨ps, ⟨v, rfl, hd, hp, hl⟩, k⟩ := h
    have sc := sc_marks_text
    refine ⟨_, pss_cons (ps_set (i := 1) sc.nd rfl (by first | exact Or.inl rfl | exact Or.inr rfl) (pe_str))
    (pss_cons (ps_for PassesOwn.never rfl (pi_tup (pv 0)) (pg_tup rfl (pgs_cons (pg_name (i := 2) sc.nd rfl (by first | exact Or.inl rfl | exact Or.inr rfl)) (pgs_cons (pg_name (i := 3) sc.nd rfl (by first | exact Or.inl rfl | exact Or.inr rfl)) (pgs_nil))))
    (pss_one (ps_aug (i := 1) sc.nd rfl (by first | exact Or.inl rfl | exact Or.inr rfl) (pe_op op_add_str (pe_ix ix_str (pe_str) (pv 3) (fun _ _ => rfl)) (pe_callTy call_str_int (by rfl) (T.free "str") (by decide +kernel) (pa_cons (pv 2) pa_nil))) ip_addS)))
    (pss_one (ps_ret (pv 1)))), ?_⟩
    refine q_asg ev_c fun H1 e1 => ?_
    refine q_forNU (ep_varD rfl (dp_ex e1 hd)) fun a xs H2 e2 hs hA => ⟨fun m σ' H' => (∃ o2 o3, σ' = [some v, some (.str (marksS (ps.take m))), o2, o3]) ∧ Ex H2 H', ⟨⟨_, _, rfl⟩, Evl.Ex.refl _⟩, fun i σ' H' q => ⟨ex_t q.2 hs, dpAll_ex q.2 hA⟩, fun m d x σ' H' hd hx q => ?_, fun σ' H' q => ?_⟩
    · obtain ⟨⟨o2, o3, rfl⟩, e3⟩ := q
      rw [List.getElem?_map] at hd
      obtain ⟨p, hpm, rfl⟩ := Option.map_eq_some_iff.mp hd
      have hpl := hp p (List.mem_of_getElem? hpm)
      have hml : m < ps.length := (List.getElem?_eq_some_iff.mp hpm).1
      refine g_tup2 hx fun v1 v2 d1 d2 => ?_
      cases d1
      cases d2
      have hlead : atI (Str.ofString "~><").cps.toList p.2 = some (leadC p.2) := by
        rcases hpl.1.2 with h | h | h <;> rw [h] <;> decide
      have htk : ps.take (m + 1) = ps.take m ++ [p] := by
        rw [List.take_add_one, hpm]
        rfl
      have hlen : (marksS (ps.take m)).length ≤ 31 * (ps.take m).length := marks_len fun q hq => hp q (List.mem_of_mem_take hq)
      have htl : (ps.take m).length ≤ 12 := by rw [List.length_take]; omega
      have hmk := mark_len hpl
      have hmk' : (⟨#[leadC p.2]⟩ : Str).length + (numS p.1).length ≤ 31 := by
        rw [← str_len]
        exact hmk
      refine s_augSt (a := marksS (ps.take m)) (b := markS p) rfl (ev_op (ev_op ev_c (ev_var rfl) (Evl.rv_ixS (by decide) hlead)) (ev_strI (ev_var rfl) (log_small hpl.1.1 hpl.2)) (rv_addS (by omega))) (by omega) fun H4 e4 => ⟨⟨some (.int p.1), some (.int p.2), by rw [htk, marks_snoc]; rfl⟩, e3.trans e4⟩
    · obtain ⟨⟨o2, o3, rfl⟩, e3⟩ := q
      rw [List.length_map, List.take_length]
      exact s_retE (ev_var rfl) fun H4 e4 => k _ _ ((e1.trans e2).trans (e3.trans e4)) rfl
/-! ### gone_from -/
def kvOf : Sons → List Addr → List (L2.Key × V)
  | s :: r, a :: q => (Sum.inl (s.1 : Int), V.ref a) :: kvOf r q
  | _, _ => []
theorem kvOf_len : ∀ {s : Sons} {as : List Addr}, as.length = s.length → (kvOf s as).length = s.length
  | [], [], _ => rfl
  | [], _ :: _, h => by cases h
  | _ :: _, [], h => by cases h
  | s :: r, a :: q, h => by
    show (kvOf r q).length + 1 = r.length + 1
    rw [kvOf_len (by simpa using h)]
theorem kvOf_snoc : ∀ {s : Sons} {as : List Addr} (p : Nat) (l : List Nat) (a : Addr), as.length = s.length → kvOf (s ++ [(p, l)]) (as ++ [a]) = kvOf s as ++ [(Sum.inl (p : Int), V.ref a)]
  | [], [], _, _, _, _ => rfl
  | [], _ :: _, _, _, _, h => by cases h
  | _ :: _, [], _, _, _, h => by cases h
  | s :: r, a :: q, p, l, b, h => by
    show _ :: kvOf (r ++ [(p, l)]) (q ++ [b]) = _ :: (kvOf r q ++ _)
    rw [kvOf_snoc p l b (by simpa using h)]
theorem kvOf_none : ∀ {s : Sons} {as : List Addr} {p : Nat}, p ∉ s.map (·.1) → valV (kvOf s as) (Sum.inl (p : Int)) = none
  | [], _, _, _ => rfl
  | _ :: _, [], _, _ => rfl
  | s :: r, a :: q, p, h => by
    have h1 : ¬ (Sum.inl (s.1 : Int) : L2.Key) = Sum.inl (p : Int) := fun e => h (by
      have := Sum.inl.inj e
      have e' : p = s.1 := by omega
      rw [e']
      exact List.mem_cons_self)
    show valV ((Sum.inl (s.1 : Int), V.ref a) :: kvOf r q) _ = none
    rw [valV_neg h1]
    exact kvOf_none fun hm => h (List.mem_cons_of_mem _ hm)
theorem kvOf_some : ∀ {s : Sons} {as : List Addr} {p : Nat}, as.length = s.length → p ∈ s.map (·.1) → ∃ (i : Nat) (a : Addr) (l : List Nat), s[i]? = some (p, l) ∧ as[i]? = some a ∧ valV (kvOf s as) (Sum.inl (p : Int)) = some (.ref a) ∧ sget s p = l
  | [], _, _, _, h => by simp at h
  | _ :: _, [], _, h, _ => by cases h
  | (k, l) :: r, a :: q, p, hl, h => by
    by_cases e : k = p
    · subst e
      exact ⟨0, a, l, rfl, rfl, valV_pos rfl, by simp [sget]⟩
    · have hm : p ∈ r.map (·.1) := by
        rcases List.mem_cons.mp h with h | h
        · exact absurd h.symm e
        · exact h
      obtain ⟨i, a', l', h1, h2, h3, h4⟩ := kvOf_some (s := r) (as := q) (by simpa using hl) hm
      refine ⟨i + 1, a', l', by simpa using h1, by simpa using h2, ?_, ?_⟩
      · show valV ((Sum.inl (k : Int), V.ref a) :: kvOf r q) _ = _
        rw [valV_neg fun e' => e (by have := Sum.inl.inj e'; omega)]
        exact h3
      · have hne : (k == p) = false := by simp [e]
        rw [← h4]
        simp [sget, List.find?_cons, hne]
theorem addSon_keys (s : Sons) (p o : Nat) : (addSon s p o).map (·.1) = s.map (·.1) := by
  unfold addSon
  rw [List.map_map]
  refine List.map_congr_left fun x _ => ?_
  show (if x.1 = p then (x.1, x.2 ++ [o]) else x).1 = x.1
  split <;> rfl
theorem kvOf_keys : ∀ {s t : Sons} {as : List Addr}, s.map (·.1) = t.map (·.1) → kvOf s as = kvOf t as
  | [], [], _, _ => rfl
  | [], _ :: _, _, h => by simp at h
  | _ :: _, [], _, h => by simp at h
  | s :: r, t :: q, [], _ => rfl
  | s :: r, t :: q, a :: as, h => by
    rw [List.map_cons, List.map_cons, List.cons.injEq] at h
    show (Sum.inl (s.1 : Int), V.ref a) :: kvOf r as = (Sum.inl (t.1 : Int), V.ref a) :: kvOf q as
    rw [h.1, kvOf_keys h.2]
/-- the walk so far -/
structure SonsAt (n : Nat) (H0 H : Hp) (la sd : Addr) (st : WSt) (as : List Addr) : Prop where
  ex : Ex H0 H
  la0 : H0 la = none
  sd0 : H0 sd = none
  hla : H la = some (.lst (natsV st.1))
  hsd : H sd = some (.dK (kvOf st.2 as))
  len : as.length = st.2.length
  ll : st.1.length = st.2.length
  lst : ∀ (i : Nat) (s : Nat × List Nat) (a : Addr), st.2[i]? = some s → as[i]? = some a → H a = some (.lst (natsV s.2)) ∧ H0 a = none
  nd : as.Nodup
  kd : (st.2.map (·.1)).Nodup
  lt : ∀ k ∈ st.2.map (·.1), k < n
  la : la ∉ as
theorem SonsAt.more {n : Nat} {H0 H H' : Hp} {la sd : Addr} {st : WSt} {as : List Addr} (S : SonsAt n H0 H la sd st as) (e : Ex H H') : SonsAt n H0 H' la sd st as :=
  ⟨S.ex.trans e, S.la0, S.sd0, e _ _ S.hla, e _ _ S.hsd, S.len, S.ll, fun i s a h1 h2 => ⟨e _ _ (S.lst i s a h1 h2).1, (S.lst i s a h1 h2).2⟩, S.nd, S.kd, S.lt, S.la⟩
theorem SonsAt.le {n : Nat} {H0 H : Hp} {la sd : Addr} {st : WSt} {as : List Addr} (S : SonsAt n H0 H la sd st as) : st.2.length ≤ n := by
  have := nodup_len (m := List.range n) S.kd fun x hx => List.mem_range.mpr (S.lt x hx)
  rwa [List.length_map, List.length_range] at this
theorem SonsAt.asd {n : Nat} {H0 H : Hp} {la sd : Addr} {st : WSt} {as : List Addr} (S : SonsAt n H0 H la sd st as) : sd ∉ as := fun h => by
  obtain ⟨i, hi⟩ := List.getElem?_of_mem h
  have hil := (List.getElem?_eq_some_iff.mp hi).1
  have := (S.lst i _ sd (List.getElem?_eq_getElem (by have := S.len; omega)) hi).1
  rw [S.hsd] at this
  cases this
/-- what a walk changes -/
def Wk (la sd : Addr) (as : List Addr) (H H' : Hp) : Prop := ∀ q o, H q = some o → q ≠ la → q ≠ sd → q ∉ as → H' q = some o
theorem s_dputK_q {σ : L2.St} {H : Hp} {td ty tv : TE} {tz : TS} {D : Ends} {P : VP} {a : Addr} {kvs : List (L2.Key × V)} {k : L2.Key} (hv : EvP tv σ H P) (hd : Ev td σ H (.ref a)) (hk : Ev ty σ H (kV k)) (ha : H a = some (.dK kvs)) (hl : kvs.length < 100000) (mo : ∀ v H1 H2, Ex H1 H2 → P v H1 → P v H2)
    (q : ∀ v H1, Ex H H1 → P v H1 → tz D σ (upd H1 a (.dK (putK kvs k v)))) : tSeq (sDPut td ty tv) tz D σ H := q_dputK hv hd hk ha hl mo q
theorem s_callX {σ : L2.St} {H : Hp} {tA : TA} {sp : Sp} {E : XK} {PA : List V → Hp → Prop} {D : Ends} (h : EvAP tA σ H PA) (k : ∀ vs H1, Ex H H1 → PA vs H1 → sp vs H1 (fun _ H2 => D.nx σ H2) E) : tDrop (tCall sp [] E tA) D σ H := callX h k
/-- what has the same keys -/
theorem goneF_keys (nr : Nat → List Nat) : ∀ (f p : Nat) (st : WSt), ∀ k ∈ st.2.map (·.1), k ∈ (goneF nr f p st).2.map (·.1)
  | 0, _, _, k, h => h
  | f + 1, p, st, k, h => by
    have gen : ∀ (l : List Nat) (st : WSt), k ∈ st.2.map (·.1) → k ∈ (l.foldl (fun st o => if o ∈ st.2.map (·.1) then st else goneF nr f o (st.1, addSon st.2 p o)) st).2.map (·.1) := by
      intro l
      induction l with
      | nil => intro st h; exact h
      | cons o l ih =>
        intro st h
        refine ih _ ?_
        show k ∈ (if o ∈ st.2.map (·.1) then st else goneF nr f o (st.1, addSon st.2 p o)).2.map (·.1)
        by_cases c : o ∈ st.2.map (·.1)
        · rw [if_pos c]
          exact h
        · rw [if_neg c]
          refine goneF_keys nr f o _ k ?_
          show k ∈ (addSon st.2 p o).map (·.1)
          rw [addSon_keys]
          exact h
    refine gen _ _ ?_
    rw [List.map_append]
    exact List.mem_append_left _ h
def gStep (nr : Nat → List Nat) (f p : Nat) (st : WSt) (o : Nat) : WSt := if o ∈ st.2.map (·.1) then st else goneF nr f o (st.1, addSon st.2 p o)
def spGone (K : PySem.W.Frag) (f : Nat) : Sp := fun vs H Q _ => ∃ W wp H0 la sd st as p, vs = [.ref wp, .int ((p : Nat) : Int), .ref la, .ref sd] ∧ WebAt K H0 wp W ∧ W.n ≤ 7 ∧ SonsAt W.n H0 H la sd st as ∧ p ∉ st.2.map (·.1) ∧ p < W.n ∧ W.n ≤ st.2.length + f ∧
  ∀ H' as', Wk la sd as H H' → SonsAt W.n H0 H' la sd (goneF (nearL W) f p st) as' → (∀ a ∈ as', a ∈ as ∨ H a = none) → (∀ a ∈ as, a ∈ as') → Q .non H'
theorem sget_new {s : Sons} {p k : Nat} (h : k ∈ s.map (·.1)) : sget (s ++ [(p, [])]) k = sget s k := by
  unfold sget
  rw [List.find?_append]
  obtain ⟨x, hx, e⟩ := List.mem_map.mp h
  cases hf : s.find? fun x => x.1 == k with
  | some y => rfl
  | none =>
    have := List.find?_eq_none.mp hf x hx
    simp [e] at this
theorem sget_nil {s : Sons} {p : Nat} (h : p ∉ s.map (·.1)) : sget (s ++ [(p, [])]) p = [] := by
  unfold sget
  rw [List.find?_append]
  cases hf : s.find? fun x => x.1 == p with
  | some y =>
    have h1 := List.find?_some hf
    have h2 := List.mem_of_find?_eq_some hf
    rw [beq_iff_eq] at h1
    exact absurd (List.mem_map.mpr ⟨y, h2, h1⟩) h
  | none => simp
theorem sget_add : ∀ {s : Sons} {p o k : Nat}, k ≠ p → sget (addSon s p o) k = sget s k
  | [], _, _, _, _ => rfl
  | (a, l) :: r, p, o, k, h => by
    have ih := sget_add (s := r) (o := o) h
    unfold sget addSon at *
    rw [List.map_cons, List.find?_cons, List.find?_cons]
    by_cases e : a = k
    · subst e
      rw [if_neg h]
      simp
    · have h1 : ((if a = p then (a, l ++ [o]) else (a, l)).1 == k) = false := by
        split <;> simp [e]
      have h2 : (a == k) = false := by simp [e]
      have h1' : ((if (a, l).1 = p then ((a, l).1, (a, l).2 ++ [o]) else (a, l)).1 == k) = false := h1
      rw [h1', h2]
      exact ih
theorem sget_own : ∀ {s : Sons} {p o : Nat}, p ∈ s.map (·.1) → sget (addSon s p o) p = sget s p ++ [o]
  | [], _, _, h => by simp at h
  | (a, l) :: r, p, o, h => by
    by_cases e : a = p
    · subst e
      simp [sget, addSon]
    · have hm : p ∈ r.map (·.1) := by
        rcases List.mem_cons.mp h with h | h
        · exact absurd h.symm e
        · exact h
      have ih := sget_own (s := r) (o := o) hm
      have h2 : (a == p) = false := by simp [e]
      unfold sget addSon at *
      rw [List.map_cons, List.find?_cons, List.find?_cons, if_neg e]
      rw [h2]
      exact ih
theorem goneF_sget (nr : Nat → List Nat) : ∀ (f p : Nat) (st : WSt) (k : Nat), k ∈ st.2.map (·.1) → p ∉ st.2.map (·.1) → sget (goneF nr f p st).2 k = sget st.2 k
  | 0, _, _, _, _, _ => rfl
  | f + 1, p, st, k, h, hp => by
    have hkp : k ≠ p := fun e => hp (e ▸ h)
    have gen : ∀ (l : List Nat) (st : WSt), k ∈ st.2.map (·.1) → sget (l.foldl (fun st o => if o ∈ st.2.map (·.1) then st else goneF nr f o (st.1, addSon st.2 p o)) st).2 k = sget st.2 k := by
      intro l
      induction l with
      | nil => intro st _; rfl
      | cons o l ih =>
        intro st h
        rw [List.foldl_cons]
        by_cases c : o ∈ st.2.map (·.1)
        · rw [if_pos c]
          exact ih st h
        · rw [if_neg c]
          have hk' : k ∈ (addSon st.2 p o).map (·.1) := by rw [addSon_keys]; exact h
          rw [ih _ (goneF_keys nr f o _ k hk'), goneF_sget nr f o (st.1, addSon st.2 p o) k hk' (by show o ∉ (addSon st.2 p o).map (·.1); rw [addSon_keys]; exact c)]
          exact sget_add hkp
    have h0 : k ∈ ((st.2 ++ [(p, [])] : Sons)).map (·.1) := by
      rw [List.map_append]
      exact List.mem_append_left _ h
    exact (gen (nr p) (st.1 ++ [p], st.2 ++ [(p, [])]) h0).trans (sget_new h)
theorem nd_idx {α : Type} : ∀ {l : List α}, l.Nodup → ∀ {i j : Nat} {x : α}, l[i]? = some x → l[j]? = some x → i = j
  | [], _, i, j, x, h, _ => by simp at h
  | a :: l, nd, 0, 0, x, _, _ => rfl
  | a :: l, nd, 0, j + 1, x, h1, h2 => by
    rw [List.nodup_cons] at nd
    have e : a = x := by simpa using h1
    have m : x ∈ l := List.mem_of_getElem? (by simpa using h2)
    exact absurd (e ▸ m) nd.1
  | a :: l, nd, i + 1, 0, x, h1, h2 => by
    rw [List.nodup_cons] at nd
    have e : a = x := by simpa using h2
    have m : x ∈ l := List.mem_of_getElem? (by simpa using h1)
    exact absurd (e ▸ m) nd.1
  | a :: l, nd, i + 1, j + 1, x, h1, h2 => by
    rw [List.nodup_cons] at nd
    exact congrArg Nat.succ (nd_idx nd.2 (x := x) (i := i) (j := j) (by simpa using h1) (by simpa using h2))
theorem dpAll_nats {K : PySem.W.Frag} {H : Hp} (l : List Nat) : DpAll K H (natsV l) (natsL l) := by
  have e : natsL l = (l.map fun (j : Nat) => (j : Int)).map PyData.int := by
    unfold natsL
    rw [List.map_map]
    rfl
  rw [e, show natsV l = (l.map fun (j : Nat) => (j : Int)).map V.int by unfold natsV; rw [List.map_map]; rfl]
  exact dpAll_ints _
/-- append to the son list of p -/
theorem sons_app {n : Nat} {H0 H H1 : Hp} {la sd : Addr} {st : WSt} {as : List Addr} {i p o : Nat} {a : Addr} {l : List Nat} (S : SonsAt n H0 H la sd st as) (e : Ex H H1) (h1 : st.2[i]? = some (p, l)) (h2 : as[i]? = some a) :
    SonsAt n H0 (upd H1 a (.lst (natsV (l ++ [o])))) la sd (st.1, addSon st.2 p o) as := by
  have S1 := S.more e
  have hm : a ∈ as := List.mem_of_getElem? h2
  have hla : la ≠ a := fun z => S.la (z ▸ hm)
  have hsd : sd ≠ a := fun z => S.asd (z ▸ hm)
  have ha := S1.lst i _ a h1 h2
  refine ⟨Evl.Ex.mut S1.ex ha.2, S.la0, S.sd0, by rw [upd_ne hla]; exact S1.hla, ?_, ?_, ?_, fun j s b h3 h4 => ?_, S.nd, ?_, ?_, S.la⟩
  · rw [upd_ne hsd]
    show H1 sd = some (.dK (kvOf (addSon st.2 p o) as))
    rw [kvOf_keys (addSon_keys st.2 p o)]
    exact S1.hsd
  · show as.length = (addSon st.2 p o).length
    unfold addSon
    rw [List.length_map]
    exact S.len
  · show st.1.length = (addSon st.2 p o).length
    unfold addSon
    rw [List.length_map]
    exact S.ll
  · have h3' : (addSon st.2 p o)[j]? = some s := h3
    unfold addSon at h3'
    rw [List.getElem?_map] at h3'
    obtain ⟨s0, h5, rfl⟩ := Option.map_eq_some_iff.mp h3'
    obtain ⟨q1, q2⟩ := S1.lst j s0 b h5 h4
    by_cases c : j = i
    · subst c
      rw [h1] at h5
      cases h5
      rw [h2] at h4
      cases h4
      refine ⟨?_, q2⟩
      rw [upd_same, if_pos rfl]
    · have hba : b ≠ a := fun z => c (nd_idx S.nd h4 (by rw [h2, z]))
      have hne : s0.1 ≠ p := fun z => c (nd_idx S.kd (x := p) (by rw [List.getElem?_map, h5, ← z]; rfl) (by rw [List.getElem?_map, h1]; rfl))
      rw [if_neg hne, upd_ne hba]
      exact ⟨q1, q2⟩
  · show ((addSon st.2 p o).map (·.1)).Nodup
    rw [addSon_keys]
    exact S.kd
  · show ∀ k ∈ (addSon st.2 p o).map (·.1), k < n
    rw [addSon_keys]
    exact S.lt
theorem natsV_snoc (l : List Nat) (x : Nat) : natsV l ++ [V.int (x : Int)] = natsV (l ++ [x]) := by
  unfold natsV
  rw [List.map_append]
  rfl
theorem natsV_len (l : List Nat) : (natsV l).length = l.length := by unfold natsV; rw [List.length_map]
theorem ev_dnot {σ : L2.St} {H : Hp} {td ty : TE} {a : Addr} {kvs : List (L2.Key × V)} {k : L2.Key} (hk : Ev ty σ H (kV k)) (hd : Ev td σ H (.ref a)) (ha : H a = some (.dK kvs)) : Ev (tDNotIn ty td) σ H (.bl (!(valV kvs k).isSome)) := fun H1 e1 Q q =>
  hk H1 e1 _ fun H2 e2 => hd H2 (e1.trans e2) _ fun H3 e3 => ⟨a, valV kvs k, rfl, DGet.k (((e1.trans e2).trans e3) _ _ ha), q H3 (e2.trans e3)⟩
theorem cal_gone_from (T : TX K mg) : ∀ fu, Cal P w K mg base (fu + 5) "gone_from" (spGone K fu) [] := by
  intro fu
  induction fu with
  | zero =>
    refine T.cal d_gone_from (N := ["web", "place", "line", "sons", "other"]) (ps := ["web", "place", "line", "sons"]) (List.mem_of_getElem? (i := 30) rfl) rfl (by decide +kernel) sc_gone_from (fun _ _ _ _ _ _ us hl => match us, hl with | [_, _, _, _], _ => rfl) (fun vs H Q E h => ?_) (fun cdv A outer s H vs Q E f hr h => ?_)
    · obtain ⟨W, wp, H0, la, sd, st, as, p, rfl, _⟩ := h
      rfl
    · obtain ⟨W, wp, H0, la, sd, st, as, p, rfl, hw, h7, S, hp, hpn, hf, _⟩ := h
      have nd : (p :: st.2.map (·.1)).Nodup := List.nodup_cons.mpr ⟨hp, S.kd⟩
      have := nodup_len (m := List.range W.n) nd fun x hx => by
        rcases List.mem_cons.mp hx with e | hx
        · rw [e]
          exact List.mem_range.mpr hpn
        · exact List.mem_range.mpr (S.lt x hx)
      rw [List.length_cons, List.length_map, List.length_range] at this
      omega
  | succ fu ih =>
    refine T.cal d_gone_from (N := ["web", "place", "line", "sons", "other"]) (ps := ["web", "place", "line", "sons"]) (List.mem_of_getElem? (i := 30) rfl) rfl (by decide +kernel) sc_gone_from (fun _ _ _ _ _ _ us hl => match us, hl with | [_, _, _, _], _ => rfl) (fun vs H Q E h => ?_) (fun cdv A outer s H vs Q E f hr h => ?_)
    · obtain ⟨W, wp, H0, la, sd, st, as, p, rfl, _⟩ := h
      rfl
    · obtain ⟨W, wp, H0, la, sd, st, as, p, rfl, hw, h7, S, hp, hpn, hf, k⟩ := h
      have sc := sc_gone_from
      have c_gone_from := ih
      have m_Web_near := m_near (P := P) (w := w) (base := base) T
      refine ⟨_, pss_cons (ps_expr (pe_bm PySem.F.plainAttrs_list PySem.F.slot_list_append PySem.F.type_list_append mt_append (pv 2) (pa_cons (pv 1) pa_nil)))
    (pss_cons (ps_dput (hu_of hr) (pv 3) (pv 1) (pe_lst (pa_nil)) rfl)
    (pss_one (ps_for PassesOwn.never rfl (pi_list (pe_mt m_Web_near hr (by omega) (pv 0) (pa_cons (pv 1) pa_nil))) (pg_name (i := 4) sc.nd rfl (by first | exact Or.inl rfl | exact Or.inr rfl))
    (pss_one (ps_if (pt_cmp (pc_dnotin (hu_of hr) (pv 4) (pv 3)))
      (pss_cons (ps_expr (pe_bm PySem.F.plainAttrs_list PySem.F.slot_list_append PySem.F.type_list_append mt_append (pe_dget (hu_of hr) (pv 3) (pv 1) (fun _ _ => rfl)) (pa_cons (pv 4) pa_nil)))
        (pss_one (ps_expr (pe_c c_gone_from hr (by omega) rfl (pa_cons (pv 0) (pa_cons (pv 4) (pa_cons (pv 2) (pa_cons (pv 3) pa_nil))))))))
      (pss_nil)))))), ?_⟩
      have hle := S.le
      have hll := S.ll
      have hlen := S.len
      refine Evl.q_app (v := .int (p : Int)) S.hla (ev_var rfl) (ev_var rfl) (by rw [natsV_len]; omega) fun H1 e1 => ?_
      rw [natsV_snoc]
      have lasd : sd ≠ la := ne_of S.hsd S.hla (by intro z; cases z)
      have hsd1 : (upd H1 la (.lst (natsV (st.1 ++ [p])))) sd = some (.dK (kvOf st.2 as)) := by
        rw [upd_ne lasd]
        exact e1 _ _ S.hsd
      refine s_dputK_q (k := Sum.inl (p : Int)) (P := NewL K (upd H1 la (.lst (natsV (st.1 ++ [p])))) []) (ep_lstD (K := K) ea_nilD) (ev_var rfl) (ev_var rfl) hsd1 (by rw [kvOf_len S.len]; omega) (fun _ _ _ e h => h.ex e) fun v H2 e2 hv => ?_
      obtain ⟨a, ys, rfl, a0, a1, hys⟩ := hv
      have eys : ys = [] := by cases hys; rfl
      subst eys
      have ala : a ≠ la := fun z => by
        rw [z, upd_same] at a0
        cases a0
      have asd : a ≠ sd := fun z => by
        rw [z, hsd1] at a0
        cases a0
      have aH1 : H1 a = none := by rwa [upd_ne ala] at a0
      have aH : H a = none := fresh_back e1 aH1
      have S2 : SonsAt W.n H0 (upd H2 sd (.dK (putK (kvOf st.2 as) (Sum.inl (p : Int)) (.ref a)))) la sd (st.1 ++ [p], st.2 ++ [(p, [])]) (as ++ [a]) := by
        have ex2 : Ex H0 H2 := fun q o hq => e2 _ _ (by
          rw [upd_ne (fun z => by rw [z, S.la0] at hq; cases hq)]
          exact e1 _ _ (S.ex _ _ hq))
        refine ⟨Evl.Ex.mut ex2 S.sd0, S.la0, S.sd0, ?_, ?_, ?_, ?_, fun i s b h1 h2 => ?_, ?_, ?_, fun k hk => ?_, fun h => ?_⟩
        · rw [upd_ne (Ne.symm lasd)]
          exact e2 _ _ upd_same
        · rw [upd_same, putK_new _ (kvOf_none hp)]
          show _ = some (HO.dK (kvOf (st.2 ++ [(p, [])]) (as ++ [a])))
          rw [kvOf_snoc p [] a S.len]
        · simp [S.len]
        · simp [S.ll]
        · have h1' : (st.2 ++ [(p, [])])[i]? = some s := h1
          by_cases c : i < st.2.length
          · rw [List.getElem?_append_left c] at h1'
            rw [List.getElem?_append_left (by omega)] at h2
            obtain ⟨q1, q2⟩ := S.lst i s b h1' h2
            have hb : b ∈ as := List.mem_of_getElem? h2
            have b1 : b ≠ sd := fun z => S.asd (z ▸ hb)
            have b2 : b ≠ la := fun z => S.la (z ▸ hb)
            refine ⟨?_, q2⟩
            rw [upd_ne b1]
            exact e2 _ _ (by rw [upd_ne b2]; exact e1 _ _ q1)
          · have hi : i = st.2.length := by
              have := (List.getElem?_eq_some_iff.mp h1').1
              simp at this
              omega
            subst hi
            rw [List.getElem?_append_right (Nat.le_refl _), Nat.sub_self] at h1'
            rw [← hlen, List.getElem?_append_right (Nat.le_refl _), Nat.sub_self] at h2
            cases h1'
            cases h2
            refine ⟨?_, fresh_back S.ex aH⟩
            rw [upd_ne asd]
            exact a1
        · rw [List.nodup_append]
          refine ⟨S.nd, by simp, fun x hx y hy e => ?_⟩
          have hy' : y = a := by simpa using hy
          obtain ⟨i, hi⟩ := List.getElem?_of_mem hx
          have hil := (List.getElem?_eq_some_iff.mp hi).1
          have := (S.lst i _ x (List.getElem?_eq_getElem (by omega)) hi).1
          rw [e, hy', aH] at this
          cases this
        · show ((st.2 ++ [(p, [])] : Sons).map (·.1)).Nodup
          rw [List.map_append, List.nodup_append]
          refine ⟨S.kd, by simp, fun x hx y hy e => ?_⟩
          have hy' : y = p := by simpa using hy
          exact hp (hy' ▸ e ▸ hx)
        · have hk' : k ∈ (st.2 ++ [(p, [])] : Sons).map (·.1) := hk
          rw [List.map_append] at hk'
          rcases List.mem_append.mp hk' with h | h
          · exact S.lt k h
          · rw [show k = p by simpa using h]
            exact hpn
        · rcases List.mem_append.mp h with h | h
          · exact S.la h
          · have h' : la = a := by simpa using h
            exact ala h'.symm
      have wk2 : Wk la sd as H (upd H2 sd (.dK (putK (kvOf st.2 as) (Sum.inl (p : Int)) (.ref a)))) := fun q o hq h1 h2 _ => by
        rw [upd_ne h2]
        exact e2 _ _ (by rw [upd_ne h1]; exact e1 _ _ hq)
      generalize upd H2 sd (.dK (putK (kvOf st.2 as) (Sum.inl (p : Int)) (.ref a))) = H3 at S2 wk2 ⊢
      refine s_forNN (ep_near (web_ex S2.ex hw) h7 (ev_var rfl) (ev_var rfl)) fun nl xs H4 e4 nl0 nl1 hA => ?_
      have hxs := ints_of hA
      subst hxs
      have S4 := S2.more e4
      refine ⟨fun m σ' H' => (∃ o4, σ' = [some (.ref wp), some (.int (p : Int)), some (.ref la), some (.ref sd), o4]) ∧ ∃ as', SonsAt W.n H0 H' la sd (((nearL W p).take m).foldl (gStep (nearL W) fu p) (st.1 ++ [p], st.2 ++ [(p, [])])) as' ∧ Wk la sd as H H' ∧ (∀ b ∈ as', b ∈ as ∨ H b = none) ∧ (∀ b ∈ as, b ∈ as') ∧ nl ∉ as' ∧ H' nl = some (.lst (natsV (nearL W p))) ∧ p ∈ (((nearL W p).take m).foldl (gStep (nearL W) fu p) (st.1 ++ [p], st.2 ++ [(p, [])])).2.map (·.1) ∧ W.n ≤ (((nearL W p).take m).foldl (gStep (nearL W) fu p) (st.1 ++ [p], st.2 ++ [(p, [])])).2.length + fu ∧ (sget (((nearL W p).take m).foldl (gStep (nearL W) fu p) (st.1 ++ [p], st.2 ++ [(p, [])])).2 p).length ≤ m, ?_, fun i σ' H' q => ?_, fun m d x σ' H' hd hx q => ?_, fun σ' H' q => ?_⟩
      · have stand3 : ∀ b ∈ as ++ [a], ∃ o, H3 b = some o := fun b hb => by
          obtain ⟨i, hi⟩ := List.getElem?_of_mem hb
          have hil := (List.getElem?_eq_some_iff.mp hi).1
          have l2 := S2.len
          exact ⟨_, (S2.lst i _ b (List.getElem?_eq_getElem (by omega)) hi).1⟩
        refine ⟨⟨_, rfl⟩, as ++ [a], S4, fun q o hq h1 h2 h3 => e4 _ _ (wk2 q o hq h1 h2 h3), fun b hb => ?_, fun b hb => List.mem_append_left _ hb, fun h => ?_, nl1, ?_, ?_, ?_⟩
        · rcases List.mem_append.mp hb with h | h
          · exact .inl h
          · rw [show b = a by simpa using h]
            exact .inr aH
        · obtain ⟨o, ho⟩ := stand3 nl h
          rw [ho] at nl0
          cases nl0
        · show p ∈ (st.2 ++ [(p, [])] : Sons).map (·.1)
          simp
        · show W.n ≤ (st.2 ++ [(p, [])] : Sons).length + fu
          rw [List.length_append, List.length_singleton]
          omega
        · show (sget (st.2 ++ [(p, [])]) p).length ≤ 0
          rw [sget_nil hp]
          exact Nat.le_refl _
      · obtain ⟨_, as', _, _, _, _, _, h, _⟩ := q
        exact ⟨sq_of h, dpAll_nats _⟩
      · obtain ⟨⟨o4, rfl⟩, as', S5, wk5, new5, sub5, nl5, hnl5, hp5, hf5, hs5⟩ := q
        rw [List.getElem?_map] at hd
        obtain ⟨o, ho, rfl⟩ := Option.map_eq_some_iff.mp hd
        cases hx
        have htk : (nearL W p).take (m + 1) = (nearL W p).take m ++ [o] := by
          rw [List.take_add_one, ho]
          rfl
        obtain ⟨sm, hsm⟩ : ∃ sm, sm = ((nearL W p).take m).foldl (gStep (nearL W) fu p) (st.1 ++ [p], st.2 ++ [(p, [])]) := ⟨_, rfl⟩
        rw [← hsm] at S5 hp5 hf5 hs5
        have es0 : ((nearL W p).take (m + 1)).foldl (gStep (nearL W) fu p) (st.1 ++ [p], st.2 ++ [(p, [])]) = gStep (nearL W) fu p sm o := by
          rw [htk, List.foldl_append, ← hsm]
          rfl
        have hon : o < W.n := by
          have := List.mem_of_getElem? ho
          unfold nearL at this
          exact List.mem_range.mp (List.mem_filter.mp this).1
        have nlla : nl ≠ la := fun z => by
          rw [z, S2.hla] at nl0
          cases nl0
        have nlsd : nl ≠ sd := fun z => by
          rw [z, S2.hsd] at nl0
          cases nl0
        show tIfS _ _ _ _ [some (.ref wp), some (.int (p : Int)), some (.ref la), some (.ref sd), some (.int (o : Int))] H'
        by_cases c : o ∈ sm.2.map (·.1)
        · obtain ⟨i, a', l', h1, h2, h3, h4⟩ := kvOf_some S5.len c
          have tst := et_B (ev_dnot (k := Sum.inl (o : Int)) (σ := [some (.ref wp), some (.int (p : Int)), some (.ref la), some (.ref sd), some (.int (o : Int))]) (ty := tVar 4) (td := tVar 3) (ev_var rfl) (ev_var rfl) S5.hsd)
          rw [h3] at tst
          refine s_if tst (fun hb => by cases hb) fun _ H6 e6 => ?_
          have es := es0.trans (show gStep (nearL W) fu p sm o = sm from if_pos c)
          refine ⟨⟨_, rfl⟩, as', by rw [es]; exact S5.more e6, fun q o hq h1 h2 h3 => e6 _ _ (wk5 q o hq h1 h2 h3), new5, sub5, nl5, e6 _ _ hnl5, by rw [es]; exact hp5, by rw [es]; exact hf5, by rw [es]; omega⟩
        · have tst := et_B (ev_dnot (k := Sum.inl (o : Int)) (σ := [some (.ref wp), some (.int (p : Int)), some (.ref la), some (.ref sd), some (.int (o : Int))]) (ty := tVar 4) (td := tVar 3) (ev_var rfl) (ev_var rfl) S5.hsd)
          rw [kvOf_none c] at tst
          refine s_if tst (fun _ H6 e6 => ?_) (fun hb => by cases hb)
          obtain ⟨i, a', l', h1, h2, h3, h4⟩ := kvOf_some S5.len hp5
          have S6 := S5.more e6
          have l5 := S5.le
          have hl' := S6.lst i _ a' h1 h2
          have ha' : a' ∈ as' := List.mem_of_getElem? h2
          refine Evl.q_app (v := .int (o : Int)) (xs := natsV l') hl'.1 (ev_dgetK (k := Sum.inl (p : Int)) (ev_var rfl) (ev_var rfl) S6.hsd h3) (ev_var rfl) ?_ fun H7 e7 => ?_
          · rw [natsV_len, ← h4]
            have hmn : m < (nearL W p).length := (List.getElem?_eq_some_iff.mp ho).1
            have : (nearL W p).length ≤ W.n := by
              unfold nearL
              have := List.length_filter_le (fun j => !(raw W p j).isEmpty) (List.range W.n)
              rwa [List.length_range] at this
            omega
          · rw [natsV_snoc]
            have S7 := sons_app (o := o) S6 e7 h1 h2
            have nlH7 : (upd H7 a' (.lst (natsV (l' ++ [o])))) nl = some (.lst (natsV (nearL W p))) := by
              rw [upd_ne (fun z => nl5 (by rw [z]; exact ha'))]
              exact e7 _ _ (e6 _ _ hnl5)
            have up : ∀ q o2, H q = some o2 → q ≠ la → q ≠ sd → q ∉ as → (upd H7 a' (.lst (natsV (l' ++ [o])))) q = some o2 ∧ q ∉ as' := fun q o2 hq g1 g2 g3 => by
              have g4 : q ∉ as' := fun z => by
                rcases new5 q z with g | g
                · exact g3 g
                · rw [g] at hq
                  cases hq
              refine ⟨?_, g4⟩
              rw [upd_ne (fun z => g4 (by rw [z]; exact ha'))]
              exact e7 _ _ (e6 _ _ (wk5 q o2 hq g1 g2 g3))
            have fr : ∀ b, (upd H7 a' (.lst (natsV (l' ++ [o])))) b = none → H b = none ∨ b ∈ as := fun b hb => by
              cases hq : H b with
              | none => exact .inl rfl
              | some o2 =>
                by_cases g3 : b ∈ as
                · exact .inr g3
                · by_cases g1 : b = la
                  · rw [g1, S7.hla] at hb
                    cases hb
                  · by_cases g2 : b = sd
                    · rw [g2, S7.hsd] at hb
                      cases hb
                    · rw [(up b o2 hq g1 g2 g3).1] at hb
                      cases hb
            generalize upd H7 a' (.lst (natsV (l' ++ [o]))) = H8 at S7 nlH7 up fr ⊢
            refine s_callX (eap_of (vs := [.ref wp, .int (o : Int), .ref la, .ref sd]) (ea_cons (ev_var rfl) (ea_cons (ev_var rfl) (ea_cons (ev_var rfl) (ea_cons (ev_var rfl) ea_nil))))) fun vs H9 e9 h => ?_
            subst h
            have S9 := S7.more e9
            have ck : o ∉ (addSon sm.2 p o).map (·.1) := by rw [addSon_keys]; exact c
            have hal : (addSon sm.2 p o).length = sm.2.length := by unfold addSon; rw [List.length_map]
            refine ⟨W, wp, H0, la, sd, (sm.1, addSon sm.2 p o), as', o, rfl, hw, h7, S9, ck, hon, by show W.n ≤ (addSon sm.2 p o).length + fu; omega, fun H10 as10 wk10 S10 new10 sub10 => ?_⟩
            have es := es0.trans (show gStep (nearL W) fu p sm o = goneF (nearL W) fu o (sm.1, addSon sm.2 p o) from if_neg c)
            have mono := goneF_keys (nearL W) fu o (sm.1, addSon sm.2 p o)
            have mono' : ∀ k ∈ sm.2.map (·.1), k ∈ (goneF (nearL W) fu o (sm.1, addSon sm.2 p o)).2.map (·.1) := fun k hk => mono k (by
              show k ∈ (addSon sm.2 p o).map (·.1)
              rw [addSon_keys]
              exact hk)
            refine ⟨⟨_, rfl⟩, as10, by rw [es]; exact S10, fun q o2 hq g1 g2 g3 => ?_, fun b hb => ?_, fun b hb => sub10 b (sub5 b hb), fun z => ?_, wk10 _ _ (e9 _ _ nlH7) nlla nlsd nl5, by rw [es]; exact mono' p hp5, ?_, ?_⟩
            · obtain ⟨u1, u2⟩ := up q o2 hq g1 g2 g3
              exact wk10 _ _ (e9 _ _ u1) g1 g2 u2
            · rcases new10 b hb with g | g
              · exact new5 b g
              · rcases fr b (fresh_back e9 g) with g | g
                · exact .inr g
                · exact .inl g
            · rcases new10 nl z with g | g
              · exact nl5 g
              · rw [e9 _ _ nlH7] at g
                cases g
            · rw [es]
              have := nodup_len S5.kd mono'
              rw [List.length_map, List.length_map] at this
              omega
            · rw [es, goneF_sget (nearL W) fu o (sm.1, addSon sm.2 p o) p (by show p ∈ (addSon sm.2 p o).map (·.1); rw [addSon_keys]; exact hp5) ck]
              show (sget (addSon sm.2 p o) p).length ≤ m + 1
              rw [sget_own hp5, List.length_append, List.length_singleton]
              omega
      · obtain ⟨⟨o4, rfl⟩, as', S5, wk5, new5, sub5, nl5, hnl5, hp5, hf5, hs5⟩ := q
        rw [List.length_map, List.take_length] at S5
        exact k H' as' wk5 S5 new5 sub5
end
end L2.Tw
set_option Elab.async false
set_option linter.all false
set_option maxRecDepth 100000
set_option maxHeartbeats 4000000
set_option autoImplicit false
namespace L2.Tw
open PySem PySem.Spec PyProof.Rows L2
open C8 (Cal Met Mak pe_c pe_mk pe_mt pe_mt0 pe_gc InsC)
open Evl (Ex Ev EvT EvA fresh_back ex_l ex_t ex_rd sq_of st_of sz_of sz_lt ev_var ev_c ev_op rv_I0 rv_I rv_eq rv_ne et_test et_or et_and et_not et_B s_if ea_nil ea_cons q_asg q_when)
open _root_.TL (tl numL tl_append len_tl)
section
variable {P : Program} {w : World} {K : PySem.W.Frag} {mg : Str → Option Value} {base : Heap}
/-! ### walked -/
def spWalked (K : PySem.W.Frag) : Sp := spP (fun (W : Wb) vs H => ∃ wp, vs = [.ref wp] ∧ WebAt K H wp W ∧ WOk W ∧ W.n ≤ 3)
  (fun W H v H' => ∃ t la sd bg as, v = .ref t ∧ H' t = some (.tup [.ref la, .ref sd, .ref bg]) ∧ SonsAt W.n H H' la sd (walkF (nearL W) W.n).1 as ∧ H' bg = some (.lst (natsV (walkF (nearL W) W.n).2)) ∧ H bg = none)
theorem cal_walked (T : TX K mg) : Cal P w K mg base 9 "walked" (spWalked K) [] := by
  refine T.cal d_walked (N := ["web", "line", "sons", "begins", "place"]) (ps := ["web"]) (List.mem_of_getElem? (i := 31) rfl) rfl (by decide +kernel) sc_walked (fun _ _ _ _ _ _ us hl => match us, hl with | [_], _ => rfl) (fun vs H Q E h => ?_) (fun cdv A outer s H vs Q E f hr h => ?_)
  · obtain ⟨x, ⟨p, rfl, _⟩, _⟩ := h
    rfl
  · obtain ⟨W, ⟨wp, rfl, hw, hok, h3⟩, k⟩ := h
    have sc := sc_walked
    have m_Web_size := m_size (P := P) (w := w) (base := base) T
    have c_gone_from := cal_gone_from (P := P) (w := w) (base := base) T 3
    refine ⟨_, pss_cons (ps_set (i := 1) sc.nd rfl (by first | exact Or.inl rfl | exact Or.inr rfl) (pe_lst (pa_nil)))
    (pss_cons (ps_set (i := 2) sc.nd rfl (by first | exact Or.inl rfl | exact Or.inr rfl) (pe_dnewK))
    (pss_cons (ps_set (i := 3) sc.nd rfl (by first | exact Or.inl rfl | exact Or.inr rfl) (pe_lst (pa_nil)))
    (pss_cons (ps_for PassesOwn.never rfl (pi_range1 rfl (T.free "range") (pa_cons (pe_mt0 m_Web_size hr (by decide) (pv 0)) pa_nil)) (pg_name (i := 4) sc.nd rfl (by first | exact Or.inl rfl | exact Or.inr rfl))
    (pss_one (ps_if (pt_cmp (pc_dnotin (hu_of hr) (pv 4) (pv 2)))
      (pss_cons (ps_expr (pe_bm PySem.F.plainAttrs_list PySem.F.slot_list_append PySem.F.type_list_append mt_append (pv 3) (pa_cons (pv 4) pa_nil)))
        (pss_one (ps_expr (pe_c c_gone_from hr (by decide) rfl (pa_cons (pv 0) (pa_cons (pv 4) (pa_cons (pv 1) (pa_cons (pv 2) pa_nil))))))))
      (pss_nil))))
    (pss_one (ps_ret (pe_tup (pa_cons (pv 1) (pa_cons (pv 2) (pa_cons (pv 3) pa_nil))))))))), ?_⟩
    refine q_asgP (ep_lstD (K := K) ea_nilD) fun v1 H1 e1 hv1 => ?_
    obtain ⟨la, ys, rfl, la0, la1, hys⟩ := hv1
    have eys : ys = [] := by cases hys; rfl
    subst eys
    intro sd hsd
    have e2 : Ex H1 (upd H1 sd (.dK [])) := Evl.Ex.new hsd
    have lasd : la ≠ sd := ne_none la1 hsd
    refine q_asgP (ep_lstD (K := K) ea_nilD) fun v3 H3 e3 hv3 => ?_
    obtain ⟨bg, ys, rfl, bg0, bg1, hys⟩ := hv3
    have eys : ys = [] := by cases hys; rfl
    subst eys
    have e13 := e2.trans e3
    have e03 := e1.trans e13
    have sd0 : H sd = none := fresh_back e1 hsd
    have bgla : bg ≠ la := fun z => by
      rw [z, e2 _ _ la1] at bg0
      cases bg0
    have bgsd : bg ≠ sd := fun z => by
      rw [z, upd_same] at bg0
      cases bg0
    have bgH : H bg = none := fresh_back (e1.trans e2) bg0
    refine q_forR (n := W.n) (ea_cons (ev_size (web_ex e03 hw) (ev_var rfl)) ea_nil) (by omega) (fun m σ' H' => (∃ o4, σ' = [some (.ref wp), some (.ref la), some (.ref sd), some (.ref bg), o4]) ∧ ∃ as, SonsAt W.n H H' la sd ((List.range m).foldl (walkStep (nearL W)) (([], []), [])).1 as ∧ H' bg = some (.lst (natsV ((List.range m).foldl (walkStep (nearL W)) (([], []), [])).2)) ∧ bg ∉ as ∧ ((List.range m).foldl (walkStep (nearL W)) (([], []), [])).2.length ≤ m)
      (fun H4 e4 => ⟨⟨_, rfl⟩, [], ⟨e03.trans e4, la0, sd0, e4 _ _ (e13 _ _ la1), e4 _ _ (e3 _ _ upd_same), rfl, rfl, fun i s a h => by simp at h, List.nodup_nil, List.nodup_nil, fun k hk => by simp at hk, by simp⟩, e4 _ _ bg1, by simp, Nat.le_refl _⟩) (fun m σ' H' hm q => ?_) (fun σ' H' q => ?_)
    · obtain ⟨⟨o4, rfl⟩, as, S, hbg, hbas, hbl⟩ := q
      have es0 : (List.range (m + 1)).foldl (walkStep (nearL W)) (([], []), []) = walkStep (nearL W) ((List.range m).foldl (walkStep (nearL W)) (([], []), [])) m := by
        rw [List.range_succ, List.foldl_append]
        rfl
      rw [es0]
      obtain ⟨sm, hsm⟩ : ∃ sm, sm = (List.range m).foldl (walkStep (nearL W)) (([], []), []) := ⟨_, rfl⟩
      rw [← hsm] at S hbg hbl ⊢
      show tIfS _ _ _ _ [some (.ref wp), some (.ref la), some (.ref sd), some (.ref bg), some (.int (m : Int))] H'
      by_cases c : m ∈ sm.1.2.map (·.1)
      · obtain ⟨i, a', l', h1, h2, h3', h4⟩ := kvOf_some S.len c
        have tst := et_B (ev_dnot (k := Sum.inl (m : Int)) (σ := [some (.ref wp), some (.ref la), some (.ref sd), some (.ref bg), some (.int (m : Int))]) (ty := tVar 4) (td := tVar 2) (ev_var rfl) (ev_var rfl) S.hsd)
        rw [h3'] at tst
        refine s_if tst (fun hb => by cases hb) fun _ H6 e6 => ?_
        have es : walkStep (nearL W) sm m = sm := if_pos c
        rw [es]
        exact ⟨⟨_, rfl⟩, as, S.more e6, e6 _ _ hbg, hbas, by omega⟩
      · have tst := et_B (ev_dnot (k := Sum.inl (m : Int)) (σ := [some (.ref wp), some (.ref la), some (.ref sd), some (.ref bg), some (.int (m : Int))]) (ty := tVar 4) (td := tVar 2) (ev_var rfl) (ev_var rfl) S.hsd)
        rw [kvOf_none c] at tst
        refine s_if tst (fun _ H6 e6 => ?_) (fun hb => by cases hb)
        refine Evl.q_app (v := .int (m : Int)) (e6 _ _ hbg) (ev_var rfl) (ev_var rfl) (by rw [natsV_len]; omega) fun H7 e7 => ?_
        rw [natsV_snoc]
        have e67 := e6.trans e7
        have S7 := S.more e67
        have S8 : SonsAt W.n H (upd H7 bg (.lst (natsV (sm.2 ++ [m])))) la sd sm.1 as := by
          refine ⟨Evl.Ex.mut S7.ex bgH, S7.la0, S7.sd0, by rw [upd_ne (Ne.symm bgla)]; exact S7.hla, by rw [upd_ne (Ne.symm bgsd)]; exact S7.hsd, S7.len, S7.ll, fun i s a h1 h2 => ?_, S7.nd, S7.kd, S7.lt, S7.la⟩
          have hne : a ≠ bg := fun z => hbas (z ▸ List.mem_of_getElem? h2)
          rw [upd_ne hne]
          exact S7.lst i s a h1 h2
        have hb8 : (upd H7 bg (.lst (natsV (sm.2 ++ [m])))) bg = some (.lst (natsV (sm.2 ++ [m]))) := upd_same
        generalize upd H7 bg (.lst (natsV (sm.2 ++ [m]))) = H8 at S8 hb8 ⊢
        refine s_callX (eap_of (vs := [.ref wp, .int (m : Int), .ref la, .ref sd]) (ea_cons (ev_var rfl) (ea_cons (ev_var rfl) (ea_cons (ev_var rfl) (ea_cons (ev_var rfl) ea_nil))))) fun vs H9 e9 h => ?_
        subst h
        have S9 := S8.more e9
        refine ⟨W, wp, H, la, sd, sm.1, as, m, rfl, hw, by omega, S9, c, hm, by omega, fun H10 as10 wk10 S10 new10 sub10 => ?_⟩
        have es : walkStep (nearL W) sm m = (goneF (nearL W) 3 m sm.1, sm.2 ++ [m]) := if_neg c
        rw [es]
        refine ⟨⟨_, rfl⟩, as10, S10, wk10 _ _ (e9 _ _ hb8) bgla bgsd hbas, fun z => ?_, ?_⟩
        · rcases new10 bg z with g | g
          · exact hbas g
          · rw [e9 _ _ hb8] at g
            cases g
        · rw [List.length_append, List.length_singleton]
          omega
    · obtain ⟨⟨o4, rfl⟩, as, S, hbg, hbas, hbl⟩ := q
      refine s_retP (ep_tupA (eap_of (vs := [.ref la, .ref sd, .ref bg]) (ea_cons (ev_var rfl) (ea_cons (ev_var rfl) (ea_cons (ev_var rfl) ea_nil)))) fun vs H1 h => by subst h; simp) fun v H4 e4 h => ?_
      obtain ⟨t, vs, H5, rfl, t0, t1, t2, e5, rfl, e6⟩ := h
      exact k _ _ (S.ex.trans e4) ⟨t, la, sd, bg, as, rfl, t2, S.more e4, e4 _ _ hbg, bgH⟩
/-! ### ring_signs -/
structure RgB (st : Int × Sg) (k : Nat) : Prop where
  lo : 0 ≤ st.1
  hi : st.1 ≤ k
  len : ∀ x, (st.2 x).length ≤ 800 * k
theorem num_len {n : Int} (h0 : 0 ≤ n) (h1 : n ≤ 99) : (numS n).length ≤ 2 := by
  have e : n = ((n.toNat : Nat) : Int) := by omega
  unfold numS
  rw [e, len_tl, _root_.TL.tl_num]
  exact _root_.TL.numL_len (by decide) (by omega)
theorem ringO_len {n : Int} (h0 : 0 ≤ n) (h1 : n ≤ 99) : (ringO n).length ≤ 4 := by
  unfold ringO
  rw [str_len, str_len, str_len]
  have := num_len h0 h1
  have a1 : (Str.ofString "{").length = 1 := by decide
  have a2 : (Str.ofString "}").length = 1 := by decide
  have a3 : Str.empty.length = 0 := rfl
  omega
theorem ringC_len {n : Int} {m : Str} (h0 : 0 ≤ n) (h1 : n ≤ 99) : (ringC n m).length ≤ 5 + m.length := by
  unfold ringC
  rw [str_len, str_len, str_len, str_len, str_len]
  have := num_len h0 h1
  have a1 : (Str.ofString "{").length = 1 := by decide
  have a2 : (Str.ofString "}").length = 1 := by decide
  have a4 : (Str.ofString ":").length = 1 := by decide
  have a3 : Str.empty.length = 0 := rfl
  omega
theorem ringStep_B {W : Wb} (hw : WOk W) {sons : Sons} {cl bn k : Nat} {st : Int × Sg} (h : RgB st k) (hk : k ≤ 50) : RgB (ringStep (bt W) sons cl st bn) (k + 1) := by
  unfold ringStep
  split
  · obtain ⟨h1, h2, h3⟩ := h
    refine ⟨by show 0 ≤ st.1 + 1; omega, by show st.1 + 1 ≤ _; omega, fun x => ?_⟩
    have m1 := marks_len (bt_lt hw bn cl)
    have m2 := bt_len hw bn cl
    have l1 := ringO_len (n := st.1 + 1) (by omega) (by omega)
    have l2 := ringC_len (n := st.1 + 1) (m := marksS (bt W bn cl)) (by omega) (by omega)
    have l3 := h3 x
    show (putSg (putSg st.2 bn (ringO (st.1 + 1))) cl (ringC (st.1 + 1) (marksS (bt W bn cl))) x).length ≤ _
    unfold putSg
    split <;> split <;> (try rw [str_len]) <;> (try rw [str_len]) <;> omega
  · exact ⟨h.lo, by have := h.hi; omega, fun x => by have := h.len x; omega⟩
/-- the parts of an f-string -/
def EvJ (ts : List TE) (acc : Str) (σ : L2.St) (H : Hp) (out : Str) : Prop := ∀ H1, Ex H H1 → ∀ Q : Str → Hp → Prop, (∀ H2, Ex H1 H2 → Q out H2) → tJs ts acc σ H1 Q
theorem ej_nil {acc : Str} {σ : L2.St} {H : Hp} : EvJ [] acc σ H acc := fun H1 _ Q q => q H1 (Evl.Ex.refl H1)
theorem ej_cons {t : TE} {ts : List TE} {acc y out : Str} {σ : L2.St} {H : Hp} (h : Ev t σ H (.str y)) (hl : (acc ++ y).length ≤ 100000) (r : EvJ ts (acc ++ y) σ H out) : EvJ (t :: ts) acc σ H out := fun H1 e Q q =>
  h H1 e _ fun H2 e2 => ⟨y, rfl, sz_of hl, r H2 (e.trans e2) Q fun H3 e3 => q H3 (e2.trans e3)⟩
theorem ev_js {ts : List TE} {σ : L2.St} {H : Hp} {out : Str} (h : EvJ ts Str.empty σ H out) : Ev (fun σ H Q => tJs ts Str.empty σ H fun out H1 => Q (.str out) H1) σ H (.str out) := fun H1 e Q q => h H1 e _ fun H2 e2 => q H2 e2
theorem ev_fmtI {te : TE} {σ : L2.St} {H : Hp} {i : Int} (h : Ev te σ H (.int i)) (hz : i.natAbs.log2 < 1920) : Ev (tFmt te) σ H (.str (numS i)) := fun H1 e Q q => h H1 e _ fun H2 e2 => .inr ⟨i, rfl, hz, q H2 e2⟩
theorem ev_fmtS {te : TE} {σ : L2.St} {H : Hp} {s : Str} (h : Ev te σ H (.str s)) (hz : s.length ≤ 100000) : Ev (tFmt te) σ H (.str s) := fun H1 e Q q => h H1 e _ fun H2 e2 => .inl ⟨s, rfl, sz_of hz, q H2 e2⟩
/-- d[k] += t -/
theorem s_daugS {σ : L2.St} {H : Hp} {td ty tv : TE} {D : Ends} {a : Addr} {kvs : List (L2.Key × V)} {k : L2.Key} {s t : Str} (hd : Ev td σ H (.ref a)) (hk : Ev ty σ H (kV k)) (ha : H a = some (.dK kvs)) (hv : valV kvs k = some (.str s)) (ht : Ev tv σ H (.str t)) (hz : s.length + t.length ≤ 100000) (hl : kvs.length < 100000)
    (q : ∀ H1, Ex H H1 → D.nx σ (upd H1 a (.dK (putK kvs k (.str (s ++ t)))))) : sDAug td ty tv rAddS D σ H :=
  hd H (Evl.Ex.refl H) _ fun H1 e1 => hk H1 e1 _ fun H2 e2 => ⟨a, .str s, rfl, hv ▸ DGet.k ((e1.trans e2) _ _ ha), ht H2 (e1.trans e2) _ fun H3 e3 => ⟨s, t, rfl, rfl, sz_of hz, _, DPut.k (((e1.trans e2).trans e3) _ _ ha) (sz_lt hl), q H3 ((e1.trans e2).trans e3)⟩⟩
theorem q_daugS {σ : L2.St} {H : Hp} {td ty tv : TE} {tz : TS} {D : Ends} {a : Addr} {kvs : List (L2.Key × V)} {k : L2.Key} {s t : Str} (hd : Ev td σ H (.ref a)) (hk : Ev ty σ H (kV k)) (ha : H a = some (.dK kvs)) (hv : valV kvs k = some (.str s)) (ht : Ev tv σ H (.str t)) (hz : s.length + t.length ≤ 100000) (hl : kvs.length < 100000)
    (q : ∀ H1, Ex H H1 → tz D σ (upd H1 a (.dK (putK kvs k (.str (s ++ t)))))) : tSeq (sDAug td ty tv rAddS) tz D σ H := s_daugS (D := { D with nx := tz D }) hd hk ha hv ht hz hl q
theorem cut_nats (l : List Nat) (m : Nat) : cutV (natsV l) none (some (m : Int)) = natsV (l.take m) := by
  unfold cutV natsV
  rw [_root_.HT.sIx_none, _root_.HT.sIx_nat, List.drop_zero, Nat.sub_zero, List.length_map, List.map_take]
  by_cases h : m ≤ l.length
  · rw [Nat.min_eq_left h]
  · rw [Nat.min_eq_right (by omega), List.take_of_length_le (by rw [List.length_map]; omega), List.take_of_length_le (by rw [List.length_map]; omega)]
/-- the signs dict -/
def SgAt (H : Hp) (sg : Addr) (line : List Nat) (f : Sg) (n : Nat) : Prop := ∃ kvs, H sg = some (.dK kvs) ∧ kvs.length ≤ n ∧ ∀ x ∈ line, valV kvs (Sum.inl (x : Int)) = some (.str (f x))
theorem sgAt_put {H : Hp} {sg : Addr} {line : List Nat} {f : Sg} {n x : Nat} {t : Str} {kvs : List (L2.Key × V)} (hl : kvs.length ≤ n) (h : ∀ x ∈ line, valV kvs (Sum.inl (x : Int)) = some (.str (f x))) : SgAt (upd H sg (.dK (putK kvs (Sum.inl (x : Int)) (.str (f x ++ t))))) sg line (putSg f x t) (n + 1) := by
  refine ⟨_, upd_same, ?_, fun y hy => ?_⟩
  · have := length_putK kvs (Sum.inl (x : Int)) (.str (f x ++ t))
    omega
  · rw [valV_put]
    unfold putSg
    by_cases c : y = x
    · subst c
      rw [if_pos rfl, if_pos rfl]
    · rw [if_neg (fun z => c (by have := Sum.inl.inj z; omega)), if_neg c]
      exact h y hy
def spRing (K : PySem.W.Frag) : Sp := spP (fun (x : Wb × WSt × Hp × Addr × Addr × List Addr) vs H => ∃ wp, vs = [.ref wp, .ref x.2.2.2.1, .ref x.2.2.2.2.1] ∧ WebAt K H wp x.1 ∧ WOk x.1 ∧ x.1.n ≤ 3 ∧ SonsAt x.1.n x.2.2.1 H x.2.2.2.1 x.2.2.2.2.1 x.2.1 x.2.2.2.2.2 ∧ x.2.1.1 = x.2.1.2.map (·.1))
  (fun x H v H' => ∃ sg, v = .ref sg ∧ SgAt H' sg x.2.1.1 (ringF (bt x.1) x.2.1.1 x.2.1.2).2 100 ∧ RgB (ringF (bt x.1) x.2.1.1 x.2.1.2) 9)
theorem cal_ring_signs (T : TX K mg) : Cal P w K mg base 2 "ring_signs" (spRing K) [] := by
  refine T.cal d_ring_signs (N := ["web", "line", "sons", "signs", "place", "number", "at", "close", "begin", "pairs", "marks"]) (ps := ["web", "line", "sons"]) (List.mem_of_getElem? (i := 33) rfl) rfl (by decide +kernel) sc_ring_signs (fun _ _ _ _ _ _ us hl => match us, hl with | [_, _, _], _ => rfl) (fun vs H Q E h => ?_) (fun cdv A outer s H vs Q E f hr h => ?_)
  · obtain ⟨x, ⟨p, rfl, _⟩, _⟩ := h
    rfl
  · obtain ⟨⟨W, st, H0, la, sd, as⟩, ⟨wp, rfl, hw, hok, h3, S, hk⟩, k⟩ := h
    dsimp only at hw hok h3 S hk k ⊢
    have sc := sc_ring_signs
    have m_Web_between := m_between (P := P) (w := w) (base := base) T
    have c_marks_text := cal_marks_text (P := P) (w := w) (base := base) T
    refine ⟨_, pss_cons (ps_set (i := 3) sc.nd rfl (by first | exact Or.inl rfl | exact Or.inr rfl) (pe_dnewK))
    (pss_cons (ps_for PassesOwn.never rfl (pi_list (pv 1)) (pg_name (i := 4) sc.nd rfl (by first | exact Or.inl rfl | exact Or.inr rfl))
    (pss_one (ps_dput (hu_of hr) (pv 3) (pv 4) (pe_str) rfl)))
    (pss_cons (ps_set (i := 5) sc.nd rfl (by first | exact Or.inl rfl | exact Or.inr rfl) (pe_int))
    (pss_cons (ps_for PassesOwn.never rfl (pi_enum (by rfl) (T.free "enumerate") (pa_cons (pv 1) pa_nil)) (pg_tup rfl (pgs_cons (pg_name (i := 6) sc.nd rfl (by first | exact Or.inl rfl | exact Or.inr rfl)) (pgs_cons (pg_name (i := 7) sc.nd rfl (by first | exact Or.inl rfl | exact Or.inr rfl)) (pgs_nil))))
    (pss_one (ps_for PassesOwn.never rfl (pi_list (pe_slice sl_list (pv 1) po_none (po_some (pv 6)))) (pg_name (i := 8) sc.nd rfl (by first | exact Or.inl rfl | exact Or.inr rfl))
      (pss_cons (ps_set (i := 9) sc.nd rfl (by first | exact Or.inl rfl | exact Or.inr rfl) (pe_mt m_Web_between hr (by decide) (pv 0) (pa_cons (pv 8) (pa_cons (pv 7) pa_nil))))
        (pss_one (ps_if (PW.pt (pw_and (pt_cmpR op_gt (pe_callB call_len_seq (by rfl) (T.free "len") (by decide +kernel) (pa_cons (pv 9) pa_nil)) (pe_int) (by rfl)) (pw_and1 (pt_cmpR op_notIn_seq (pv 7) (pe_dget (hu_of hr) (pv 2) (pv 8) (fun _ _ => rfl)) (by rfl)))))
        (pss_cons (ps_aug (i := 5) sc.nd rfl (by first | exact Or.inl rfl | exact Or.inr rfl) (pe_int) ip_add)
          (pss_cons (ps_set (i := 10) sc.nd rfl (by first | exact Or.inl rfl | exact Or.inr rfl) (pe_c c_marks_text hr (by decide) rfl (pa_cons (pv 9) pa_nil)))
          (pss_cons (ps_daug (hu_of hr) (pv 3) (pv 8) (pe_joined (PJ.cons (pe_str) (PJ.cons (pe_fmt (pv 5)) (PJ.cons (pe_str) (PJ.nil))))) in_addS (fun _ _ _ => rfl))
          (pss_one (ps_daug (hu_of hr) (pv 3) (pv 7) (pe_joined (PJ.cons (pe_str) (PJ.cons (pe_fmt (pv 5)) (PJ.cons (pe_str) (PJ.cons (pe_fmt (pv 10)) (PJ.cons (pe_str) (PJ.nil))))))) in_addS (fun _ _ _ => rfl))))))
        (pss_nil)))))))
    (pss_one (ps_ret (pv 3)))))), ?_⟩
    have hle := S.le
    have hll := S.ll
    intro sg hsg
    have e1 : Ex H (upd H sg (.dK [])) := Evl.Ex.new hsg
    have sg1 : (upd H sg (.dK [])) sg = some (.dK []) := upd_same
    generalize upd H sg (.dK []) = H1 at e1 sg1 ⊢
    have toH : ∀ {H'}, But sg H1 H' → Ex H H' := fun b => But.fresh e1 b hsg
    refine q_forDX (ev_var rfl) (sq_of (e1 _ _ S.hla)) (dpAll_nats st.1) (fun m σ' H' => (∃ o4, σ' = [some (.ref wp), some (.ref la), some (.ref sd), some (.ref sg), o4, none, none, none, none, none, none]) ∧ But sg H1 H' ∧ SgAt H' sg (st.1.take m) (fun _ => Str.empty) m) (fun H2 e2 => ⟨⟨_, rfl⟩, (But.refl _ _).ex e2, [], e2 _ _ sg1, Nat.zero_le _, fun x hx => by simp at hx⟩) (fun m σ' H' q => ⟨sq_of (toH q.2.1 _ _ S.hla), dpAll_nats _⟩) (fun m d x σ' H' hd hx q => ?_) (fun σ' H' q => ?_)
    · obtain ⟨⟨o4, rfl⟩, b, kvs, q1, q2, q3⟩ := q
      rw [List.getElem?_map] at hd
      obtain ⟨y, hy, rfl⟩ := Option.map_eq_some_iff.mp hd
      cases hx
      have hml := (List.getElem?_eq_some_iff.mp hy).1
      refine s_dputK (k := Sum.inl (y : Int)) (P := fun v _ => v = .str Str.empty) (ep_ev ev_c fun _ _ => rfl) (ev_var rfl) (ev_var rfl) q1 (by omega) (fun _ _ _ _ h => h) fun v H2 e2 hv => ?_
      subst hv
      refine ⟨⟨_, rfl⟩, (b.ex e2).trans But.upd, _, upd_same, ?_, fun z hz => ?_⟩
      · have := length_putK kvs (Sum.inl (y : Int)) (.str Str.empty)
        omega
      · rw [valV_put]
        by_cases c : z = y
        · subst c
          rw [if_pos rfl]
        · rw [if_neg (fun e => c (by have := Sum.inl.inj e; omega))]
          rw [List.take_add_one, hy] at hz
          rcases List.mem_append.mp hz with h | h
          · exact q3 z h
          · exact absurd (by simpa using h) c
    · obtain ⟨⟨o4, rfl⟩, b1, kvs1, q1, q2, q3⟩ := q
      rw [List.length_map] at q2 q3
      rw [List.take_length] at q3
      refine q_asg ev_c fun H2 e2 => ?_
      have b2 := b1.ex e2
      have I0 : RgB ((List.range 0).foldl (ringRow (bt W) st.1 st.2) (0, fun _ => Str.empty)) 0 := ⟨Int.le_refl _, Int.le_refl _, fun x => Nat.le_refl _⟩
      refine q_forE (ev_var rfl) (sq_of (toH b2 _ _ S.hla)) (fun m σ' H' => (∃ o4 o6 o7 o8 o9 o10, σ' = [some (.ref wp), some (.ref la), some (.ref sd), some (.ref sg), o4, some (.int ((List.range m).foldl (ringRow (bt W) st.1 st.2) (0, fun _ => Str.empty)).1), o6, o7, o8, o9, o10]) ∧ But sg H1 H' ∧ SgAt H' sg st.1 ((List.range m).foldl (ringRow (bt W) st.1 st.2) (0, fun _ => Str.empty)).2 (3 + 2 * (3 * m)) ∧ RgB ((List.range m).foldl (ringRow (bt W) st.1 st.2) (0, fun _ => Str.empty)) (3 * m)) (fun H3 e3 => ⟨⟨_, _, _, _, _, _, rfl⟩, b2.ex e3, ⟨kvs1, e3 _ _ (e2 _ _ q1), by omega, q3⟩, I0⟩) (fun m σ' H' q => sq_of (toH q.2.1 _ _ S.hla)) (fun m x σ' H' H3 hx q e3 => ?_) (fun σ' H' q => ?_)
      · obtain ⟨⟨o4, o6, o7, o8, o9, o10, rfl⟩, b, sgm, B⟩ := q
        rw [natsV, List.getElem?_map] at hx
        obtain ⟨y, hy, rfl⟩ := Option.map_eq_some_iff.mp hx
        have hml : m < st.1.length := (List.getElem?_eq_some_iff.mp hy).1
        have hyg : g st.1 m = y := by
          rw [get_g' hml] at hy
          exact Option.some.inj hy
        obtain ⟨sm, hsm⟩ : ∃ sm, sm = (List.range m).foldl (ringRow (bt W) st.1 st.2) (0, fun _ => Str.empty) := ⟨_, rfl⟩
        have es0 : (List.range (m + 1)).foldl (ringRow (bt W) st.1 st.2) (0, fun _ => Str.empty) = (st.1.take m).foldl (ringStep (bt W) st.2 y) sm := by
          rw [List.range_succ, List.foldl_append, ← hsm, ← hyg]
          rfl
        rw [es0]
        rw [← hsm] at sgm B ⊢
        have b3 := b.ex e3
        have hsl := Evl.el_sl (K := K) (σ := [some (.ref wp), some (.ref la), some (.ref sd), some (.ref sg), o4, some (.int sm.1), some (.int ((m : Nat) : Int)), some (.int (y : Int)), o8, o9, o10]) (te := tVar 1) (ev_var rfl) Evl.eo_none (Evl.eo_some (ev_var (i := 6) rfl)) (sq_of (toH b3 _ _ S.hla))
        rw [cut_nats] at hsl
        have hyl : y ∈ st.1 := List.mem_of_getElem? hy
        refine Evl.s_forNL (σ := [some (.ref wp), some (.ref la), some (.ref sd), some (.ref sg), o4, some (.int sm.1), some (.int ((m : Nat) : Int)), some (.int (y : Int)), o8, o9, o10]) hsl (fun p j σ' H' => (∃ o8 o9 o10, σ' = [some (.ref wp), some (.ref la), some (.ref sd), some (.ref sg), o4, some (.int (((st.1.take m).take j).foldl (ringStep (bt W) st.2 y) sm).1), some (.int ((m : Nat) : Int)), some (.int (y : Int)), o8, o9, o10]) ∧ But sg H1 H' ∧ H' p = some (.lst (natsV (st.1.take m))) ∧ p ≠ sg ∧ SgAt H' sg st.1 (((st.1.take m).take j).foldl (ringStep (bt W) st.2 y) sm).2 (3 + 2 * (3 * m + j)) ∧ RgB (((st.1.take m).take j).foldl (ringStep (bt W) st.2 y) sm) (3 * m + j))
          (fun p H4 p0 e4 p1 => ⟨⟨_, _, _, rfl⟩, b3.ex e4, p1, fun z => ?_, ?_, B⟩) (fun p j σ' H' _ q => sq_of q.2.2.1) (fun p j x σ' H' hxj q => ?_) (fun p σ' H' q => ?_)
        · obtain ⟨kvs, r1, _⟩ := sgm
          rw [z, e3 _ _ r1] at p0
          cases p0
        · obtain ⟨kvs, r1, r2, r3⟩ := sgm
          exact ⟨kvs, e4 _ _ (e3 _ _ r1), r2, r3⟩
        · obtain ⟨⟨o8, o9, o10, rfl⟩, b4, hp, hpsg, ⟨kvs, r1, r2, r3⟩, B4⟩ := q
          rw [natsV, List.getElem?_map] at hxj
          obtain ⟨bn, hbn, rfl⟩ := Option.map_eq_some_iff.mp hxj
          have hjl : j < (st.1.take m).length := (List.getElem?_eq_some_iff.mp hbn).1
          have hjm : j < 3 := by
            rw [List.length_take] at hjl
            omega
          have hm3 : m < 3 := by omega
          have hbl : bn ∈ st.1 := List.mem_of_mem_take (List.mem_of_getElem? hbn)
          obtain ⟨sj, hsj⟩ : ∃ sj, sj = ((st.1.take m).take j).foldl (ringStep (bt W) st.2 y) sm := ⟨_, rfl⟩
          have es1 : ((st.1.take m).take (j + 1)).foldl (ringStep (bt W) st.2 y) sm = ringStep (bt W) st.2 y sj bn := by
            rw [List.take_add_one, hbn, List.foldl_append, ← hsj]
            rfl
          rw [← hsj] at r3 B4 ⊢
          rw [es1]
          have BN := ringStep_B (cl := y) (bn := bn) (sons := st.2) hok B4 (by omega)
          show tSeq _ _ _ [some (.ref wp), some (.ref la), some (.ref sd), some (.ref sg), o4, some (.int sj.1), some (.int ((m : Nat) : Int)), some (.int (y : Int)), some (.int (bn : Int)), o9, o10] H'
          refine q_asgP (ep_between (web_ex (toH b4) hw) (ev_var rfl) (ev_var rfl) (ev_var rfl)) fun v9 H5 e5 hv9 => ?_
          have b5 := b4.ex e5
          have S5 := S.more (toH b5)
          obtain ⟨i, a', l', h1, h2, h3', h4⟩ := kvOf_some S5.len (show bn ∈ st.2.map (·.1) by rw [← hk]; exact hbl)
          have hl' := (S5.lst i _ a' h1 h2).1
          have t1 := et_test (ev_op (tb := tC (.int 0)) (ev_lenT (K := K) (te := tVar 9) (σ := [some (.ref wp), some (.ref la), some (.ref sd), some (.ref sg), o4, some (.int sj.1), some (.int ((m : Nat) : Int)), some (.int (y : Int)), some (.int (bn : Int)), some v9, o10]) (ep_varD rfl hv9)) ev_c (rv_I0 (g := fun i j => .bl (decide (j < i)))))
          have t2 := et_test (ev_op (ta := tVar 7) (tb := tDGet (tVar 2) (tVar 8)) (σ := [some (.ref wp), some (.ref la), some (.ref sd), some (.ref sg), o4, some (.int sj.1), some (.int ((m : Nat) : Int)), some (.int (y : Int)), some (.int (bn : Int)), some v9, o10]) (ev_var rfl) (ev_dgetK (k := Sum.inl (bn : Int)) (ev_var rfl) (ev_var rfl) S5.hsd h3') (Evl.rv_niL (K := K) (sq_of hl') rfl (flat_nats _)))
          rw [inV_nats] at t2
          rw [List.length_map] at t1
          rw [← h4] at t2
          have bnd1 := B4.lo
          have bnd2 := B4.hi
          refine s_if (et_and t1 fun _ => t2) (fun hb H6 e6 => ?_) fun hb H6 e6 => ?_
          · rw [Bool.and_eq_true, Bool.not_eq_true', decide_eq_true_eq, decide_eq_false_iff_not] at hb
            have cond : bt W bn y ≠ [] ∧ y ∉ sget st.2 bn := ⟨fun z => by rw [z] at hb; simp at hb, hb.2⟩
            have es2 : ringStep (bt W) st.2 y sj bn = (sj.1 + 1, putSg (putSg sj.2 bn (ringO (sj.1 + 1))) y (ringC (sj.1 + 1) (marksS (bt W bn y)))) := if_pos cond
            have hmk := marks_len (bt_lt hok bn y)
            have hbl12 := bt_len hok bn y
            refine Evl.q_aug rfl ev_c fun H7 e7 => ?_
            refine q_asg (v := .str (marksS (bt W bn y))) (ev_ofP (ep_call (bt W bn y) (ea_consD (d := pairsD (bt W bn y)) (ep_varD rfl (dp_ex (e6.trans e7) hv9)) ea_nilD) (fun vs H8 e8 h => by
              cases h with
              | cons h1 h2 =>
                cases h2
                exact ⟨_, rfl, h1, bt_lt hok bn y, hbl12⟩) fun _ _ _ _ _ h => h)) fun H8 e8 => ?_
            have e58 := (e6.trans e7).trans e8
            have l1 := ringO_len (n := sj.1 + 1) (by omega) (by omega)
            have l2 := ringC_len (n := sj.1 + 1) (m := marksS (bt W bn y)) (by omega) (by omega)
            have nl2 := num_len (n := sj.1 + 1) (by omega) (by omega)
            have log1 : (sj.1 + 1).natAbs.log2 < 1920 := log_small (by omega) (by omega)
            have sl1 := B4.len bn
            have o1 : (Str.ofString "{").length = 1 := by decide
            have o2 : (Str.ofString "}").length = 1 := by decide
            have o3 : (Str.ofString ":").length = 1 := by decide
            have o0 : Str.empty.length = 0 := rfl
            refine q_daugS (s := sj.2 bn) (t := ringO (sj.1 + 1)) (k := Sum.inl (bn : Int)) (ev_var rfl) (ev_var rfl) (e58 _ _ (e5 _ _ r1)) (r3 bn hbl) (ev_js (ej_cons (y := Str.ofString "{") ev_c (by rw [str_len]; omega) (ej_cons (y := numS (sj.1 + 1)) (ev_fmtI (ev_var rfl) log1) (by rw [str_len, str_len]; omega) (ej_cons (y := Str.ofString "}") ev_c (by rw [str_len, str_len, str_len]; omega) ej_nil)))) (by omega) (by omega) fun H9 e9 => ?_
            have sg9 := sgAt_put (H := H9) (sg := sg) (x := bn) (t := ringO (sj.1 + 1)) r2 r3
            have b9 : But sg H1 (upd H9 sg (.dK (putK kvs (Sum.inl (bn : Int)) (.str (sj.2 bn ++ ringO (sj.1 + 1)))))) := ((b5.ex e58).ex e9).trans But.upd
            have p9 : (upd H9 sg (.dK (putK kvs (Sum.inl (bn : Int)) (.str (sj.2 bn ++ ringO (sj.1 + 1)))))) p = some (.lst (natsV (st.1.take m))) := by
              rw [upd_ne hpsg]
              exact e9 _ _ (e58 _ _ (e5 _ _ hp))
            generalize upd H9 sg (.dK (putK kvs (Sum.inl (bn : Int)) (.str (sj.2 bn ++ ringO (sj.1 + 1))))) = H10 at sg9 b9 p9 ⊢
            obtain ⟨kvs9, u1, u2, u3⟩ := sg9
            have sl2 : (putSg sj.2 bn (ringO (sj.1 + 1)) y).length ≤ 800 * (3 * m + j) + 4 := by
              have := B4.len y
              unfold putSg
              split
              · rw [str_len]
                omega
              · omega
            refine s_daugS (s := putSg sj.2 bn (ringO (sj.1 + 1)) y) (t := ringC (sj.1 + 1) (marksS (bt W bn y))) (k := Sum.inl (y : Int)) (ev_var rfl) (ev_var rfl) u1 (u3 y hyl) (ev_js (ej_cons (y := Str.ofString "{") ev_c (by rw [str_len]; omega) (ej_cons (y := numS (sj.1 + 1)) (ev_fmtI (ev_var rfl) log1) (by rw [str_len, str_len]; omega) (ej_cons (y := Str.ofString ":") ev_c (by rw [str_len, str_len, str_len]; omega) (ej_cons (y := marksS (bt W bn y)) (ev_fmtS (ev_var rfl) (by omega)) (by rw [str_len, str_len, str_len, str_len]; omega) (ej_cons (y := Str.ofString "}") ev_c (by rw [str_len, str_len, str_len, str_len, str_len]; omega) ej_nil)))))) (by omega) (by omega) fun H11 e11 => ?_
            rw [es2] at BN ⊢
            have sg11 := sgAt_put (H := H11) (sg := sg) (x := y) (t := ringC (sj.1 + 1) (marksS (bt W bn y))) u2 u3
            refine ⟨⟨_, _, _, rfl⟩, (b9.ex e11).trans But.upd, by rw [upd_ne hpsg]; exact e11 _ _ p9, hpsg, ?_, BN⟩
            obtain ⟨kvs11, w1, w2, w3⟩ := sg11
            exact ⟨kvs11, w1, by omega, w3⟩
          · have ncond : ¬ (bt W bn y ≠ [] ∧ y ∉ sget st.2 bn) := fun ⟨z1, z2⟩ => by
              rw [decide_eq_false z2] at hb
              have : decide ((0 : Int) < ((bt W bn y).length : Int)) = true := decide_eq_true (by
                have := List.length_pos_iff.mpr z1
                omega)
              rw [this] at hb
              cases hb
            have es2 : ringStep (bt W) st.2 y sj bn = sj := if_neg ncond
            rw [es2] at BN ⊢
            exact ⟨⟨_, _, _, rfl⟩, b5.ex e6, e6 _ _ (e5 _ _ hp), hpsg, ⟨kvs, e6 _ _ (e5 _ _ r1), by omega, r3⟩, BN⟩
        · obtain ⟨⟨o8, o9, o10, rfl⟩, b4, hp, hpsg, ⟨kvs, r1, r2, r3⟩, B4⟩ := q
          have htm : (natsV (st.1.take m)).length = m := by
            rw [natsV_len, List.length_take]
            omega
          have htt : (st.1.take m).take m = st.1.take m := by rw [List.take_take, Nat.min_self]
          rw [htm, htt] at r3 B4
          rw [htm, htt]
          rw [htm] at r2
          refine ⟨⟨_, _, _, _, _, _, rfl⟩, b4, ⟨kvs, r1, by omega, r3⟩, B4.lo, ?_, fun x => ?_⟩
          · have := B4.hi
            omega
          · have := B4.len x
            omega
      · obtain ⟨⟨o4, o6, o7, o8, o9, o10, rfl⟩, b, ⟨kvs, r1, r2, r3⟩, B⟩ := q
        rw [natsV_len] at r2 r3 B
        refine s_retE (ev_var rfl) fun H4 e4 => k _ _ ((toH b).trans e4) ⟨sg, rfl, ⟨kvs, e4 _ _ r1, by omega, r3⟩, B.lo, ?_, fun x => ?_⟩
        · have := B.hi
          have hb : ((List.range st.1.length).foldl (ringRow (bt W) st.1 st.2) (0, fun _ => Str.empty)).1 ≤ ((3 * st.1.length : Nat) : Int) := this
          show ((List.range st.1.length).foldl (ringRow (bt W) st.1 st.2) (0, fun _ => Str.empty)).1 ≤ 9
          omega
        · have := B.len x
          show (((List.range st.1.length).foldl (ringRow (bt W) st.1 st.2) (0, fun _ => Str.empty)).2 x).length ≤ _
          omega
end
end L2.Tw
set_option Elab.async false
set_option linter.all false
set_option maxRecDepth 100000
set_option maxHeartbeats 4000000
set_option autoImplicit false
namespace L2.Tw
open PySem PySem.Spec PyProof.Rows L2
open C8 (Cal Met Mak pe_c pe_mk pe_mt pe_mt0 pe_gc InsC)
open Evl (Ex Ev EvT EvA fresh_back ex_l ex_t ex_rd sq_of st_of sz_of sz_lt ev_var ev_c ev_op rv_I0 rv_I rv_eq rv_ne et_test et_or et_and et_not et_B s_if ea_nil ea_cons q_asg q_when)
open _root_.TL (tl numL tl_append len_tl)
def depB (s : Sons) : Nat → Nat → Bool
  | 0, _ => false
  | f + 1, p => decide (p ∈ s.map (·.1)) && (decide ((sget s p).length ≤ 2) && (sget s p).all (depB s f))
def lb : Nat → Nat
  | 0 => 0
  | f + 1 => 7203 + 2 * (374 + lb f)
theorem depB_in {s : Sons} {f p : Nat} (h : depB s (f + 1) p = true) : p ∈ s.map (·.1) ∧ (sget s p).length ≤ 2 ∧ ∀ q ∈ sget s p, depB s f q = true := by
  rw [depB, Bool.and_eq_true, Bool.and_eq_true, decide_eq_true_eq, decide_eq_true_eq, List.all_eq_true] at h
  exact ⟨h.1, h.2.1, h.2.2⟩
theorem walk_ok3 : ∀ x y z : Bool, (walkF (nrOf 3 (adj3 x y z)) 3).1.1 = (walkF (nrOf 3 (adj3 x y z)) 3).1.2.map (·.1) ∧ ((walkF (nrOf 3 (adj3 x y z)) 3).2.all fun p => depB (walkF (nrOf 3 (adj3 x y z)) 3).1.2 3 p) = true ∧ (walkF (nrOf 3 (adj3 x y z)) 3).2.length ≤ 3 := by decide
theorem walk_ok2 : ∀ x y z : Bool, (walkF (nrOf 2 (adj3 x y z)) 2).1.1 = (walkF (nrOf 2 (adj3 x y z)) 2).1.2.map (·.1) ∧ ((walkF (nrOf 2 (adj3 x y z)) 2).2.all fun p => depB (walkF (nrOf 2 (adj3 x y z)) 2).1.2 3 p) = true ∧ (walkF (nrOf 2 (adj3 x y z)) 2).2.length ≤ 3 := by decide
theorem walk_ok1 : ∀ x y z : Bool, (walkF (nrOf 1 (adj3 x y z)) 1).1.1 = (walkF (nrOf 1 (adj3 x y z)) 1).1.2.map (·.1) ∧ ((walkF (nrOf 1 (adj3 x y z)) 1).2.all fun p => depB (walkF (nrOf 1 (adj3 x y z)) 1).1.2 3 p) = true ∧ (walkF (nrOf 1 (adj3 x y z)) 1).2.length ≤ 3 := by decide
theorem walk_ok {W : Wb} (hw : WOk W) (h3 : W.n ≤ 3) : (walkF (nearL W) W.n).1.1 = (walkF (nearL W) W.n).1.2.map (·.1) ∧ (∀ p ∈ (walkF (nearL W) W.n).2, depB (walkF (nearL W) W.n).1.2 3 p = true) ∧ (walkF (nearL W) W.n).2.length ≤ 3 := by
  rw [near_eq hw h3 rfl rfl rfl]
  have h1 : 1 ≤ W.n := hw.n.1
  have : W.n = 1 ∨ W.n = 2 ∨ W.n = 3 := by omega
  rcases this with h | h | h <;> rw [h]
  · have := walk_ok1 (adj W 0 1) (adj W 0 2) (adj W 1 2)
    exact ⟨this.1, List.all_eq_true.mp this.2.1, this.2.2⟩
  · have := walk_ok2 (adj W 0 1) (adj W 0 2) (adj W 1 2)
    exact ⟨this.1, List.all_eq_true.mp this.2.1, this.2.2⟩
  · have := walk_ok3 (adj W 0 1) (adj W 0 2) (adj W 1 2)
    exact ⟨this.1, List.all_eq_true.mp this.2.1, this.2.2⟩
theorem sonText_eq {b : Nat → Nat → List Pair} {ss : List Nat} {p k y : Nat} {run : Nat → Str} {t : Str} (h : g ss k = y) : sonText b ss p run t k = t ++ (if k + 1 < ss.length then ("(" : Str) ++ (marksS (b p y) ++ run y) ++ (")" : Str) else marksS (b p y) ++ run y) := by
  unfold sonText
  rw [h]
theorem sonText_len {b : Nat → Nat → List Pair} {ss : List Nat} {p k B : Nat} {run : Nat → Str} {t : Str} (h1 : (marksS (b p (g ss k))).length ≤ 372) (h2 : (run (g ss k)).length ≤ B) : (sonText b ss p run t k).length ≤ t.length + (374 + B) := by
  rw [sonText_eq rfl, str_len]
  have o1 : (Str.ofString "(").length = 1 := by decide
  have o2 : (Str.ofString ")").length = 1 := by decide
  split
  · rw [str_len, str_len, str_len]
    omega
  · rw [str_len]
    omega
section
variable {P : Program} {w : World} {K : PySem.W.Frag} {mg : Str → Option Value} {base : Heap}
theorem ep_callE {σ : L2.St} {H : Hp} {tA : TA} {E : XK} {PA : List V → Hp → Prop} {P : VP} {α : Type} {Pre : α → List V → Hp → Prop} {Post : α → Hp → V → Hp → Prop} (h : EvAP tA σ H PA) (k : ∀ vs H1, Ex H H1 → PA vs H1 → ∃ a, Pre a vs H1 ∧ ∀ v H2, Ex H1 H2 → Post a H1 v H2 → P v H2) : EvP (tCall (spP Pre Post) [] E tA) σ H P := fun H1 e Q q =>
  h H1 e _ fun vs H2 e2 hv => by
    show spP Pre Post (vs ++ []) H2 Q E
    rw [List.append_nil]
    obtain ⟨a, h1, h2⟩ := k vs H2 (e.trans e2) hv
    exact ⟨a, h1, fun v H3 e3 h3 => q v H3 (e2.trans e3) (h2 v H3 e3 h3)⟩
structure RunIn where
  W : Wb
  st : WSt
  H0 : Hp
  la : Addr
  sd : Addr
  as : List Addr
  sg : Sg
  p : Nat
theorem run_len {x : RunIn} (hok : WOk x.W) (hlt : ∀ k ∈ x.st.2.map (·.1), k < x.W.n) (hsg : ∀ y, (x.sg y).length ≤ 7200) : ∀ (f p : Nat), depB x.st.2 f p = true → (runF (kindOf x.W) (bt x.W) x.st.2 x.sg f p).length ≤ lb f
  | 0, _, h => by cases h
  | f + 1, p, h => by
    obtain ⟨h1, h2, h3⟩ := depB_in h
    have hk : (kindOf x.W p).length ≤ 3 := (hok.w _ (List.mem_of_getElem? (kindOf_get (hlt p h1)))).len.2
    have gen : ∀ m, m ≤ (sget x.st.2 p).length → ((List.range m).foldl (sonText (bt x.W) (sget x.st.2 p) p (runF (kindOf x.W) (bt x.W) x.st.2 x.sg f)) (kindOf x.W p ++ x.sg p)).length ≤ 7203 + m * (374 + lb f) := by
      intro m
      induction m with
      | zero =>
        intro _
        show (kindOf x.W p ++ x.sg p).length ≤ _
        rw [str_len]
        have := hsg p
        omega
      | succ m ih =>
        intro hm
        have i1 := ih (by omega)
        rw [List.range_succ, List.foldl_append]
        have q1 := run_len hok hlt hsg f (g (sget x.st.2 p) m) (h3 _ (by rw [g_get (by omega)]; exact List.getElem_mem _))
        have q2 := marks_len (bt_lt hok p (g (sget x.st.2 p) m))
        have q3 := bt_len hok p (g (sget x.st.2 p) m)
        have q4 := sonText_len (t := (List.range m).foldl (sonText (bt x.W) (sget x.st.2 p) p (runF (kindOf x.W) (bt x.W) x.st.2 x.sg f)) (kindOf x.W p ++ x.sg p)) (b := bt x.W) (ss := sget x.st.2 p) (p := p) (k := m) (run := runF (kindOf x.W) (bt x.W) x.st.2 x.sg f) (B := lb f) (by omega) q1
        rw [Nat.succ_mul]
        exact Nat.le_trans q4 (by omega)
    have := gen _ (Nat.le_refl _)
    have h4 : (sget x.st.2 p).length * (374 + lb f) ≤ 2 * (374 + lb f) := Nat.mul_le_mul_right _ h2
    have e : runF (kindOf x.W) (bt x.W) x.st.2 x.sg (f + 1) p = (List.range (sget x.st.2 p).length).foldl (sonText (bt x.W) (sget x.st.2 p) p (runF (kindOf x.W) (bt x.W) x.st.2 x.sg f)) (kindOf x.W p ++ x.sg p) := rfl
    rw [e]
    show _ ≤ 7203 + 2 * (374 + lb f)
    omega
theorem lb_le : ∀ {f : Nat}, f ≤ 3 → lb f ≤ 60000
  | 0, _ => by decide
  | 1, _ => by decide
  | 2, _ => by decide
  | 3, _ => by decide
def spRun (K : PySem.W.Frag) (f : Nat) : Sp := spP (fun (x : RunIn) vs H => ∃ wp sg, vs = [.ref wp, .int ((x.p : Nat) : Int), .ref x.sd, .ref sg] ∧ WebAt K H wp x.W ∧ WOk x.W ∧ SonsAt x.W.n x.H0 H x.la x.sd x.st x.as ∧ SgAt H sg (x.st.2.map (·.1)) x.sg 100 ∧ (∀ y, (x.sg y).length ≤ 7200) ∧ depB x.st.2 f x.p = true ∧ f ≤ 3) (fun x _ v _ => v = .str (runF (kindOf x.W) (bt x.W) x.st.2 x.sg f x.p))
theorem SgAt.ex {H H' : Hp} {sg : Addr} {l : List Nat} {f : Sg} {n : Nat} (e : Ex H H') (h : SgAt H sg l f n) : SgAt H' sg l f n := by
  obtain ⟨kvs, h1, h2, h3⟩ := h
  exact ⟨kvs, e _ _ h1, h2, h3⟩
theorem cal_run_text (T : TX K mg) : ∀ fu, Cal P w K mg base (fu + 5) "run_text" (spRun K fu) [] := by
  intro fu
  induction fu with
  | zero =>
    refine T.cal d_run_text (N := ["web", "place", "sons", "signs", "text", "k", "son", "behind"]) (ps := ["web", "place", "sons", "signs"]) (List.mem_of_getElem? (i := 34) rfl) rfl (by decide +kernel) sc_run_text (fun _ _ _ _ _ _ us hl => match us, hl with | [_, _, _, _], _ => rfl) (fun vs H Q E h => ?_) (fun cdv A outer s H vs Q E f hr h => ?_)
    · obtain ⟨x, ⟨wp, sg, rfl, _⟩, _⟩ := h
      rfl
    · obtain ⟨x, ⟨wp, sg, rfl, hw, hok, S, hsg, hs7, hd, h3⟩, k⟩ := h
      cases hd
  | succ fu ih =>
    refine T.cal d_run_text (N := ["web", "place", "sons", "signs", "text", "k", "son", "behind"]) (ps := ["web", "place", "sons", "signs"]) (List.mem_of_getElem? (i := 34) rfl) rfl (by decide +kernel) sc_run_text (fun _ _ _ _ _ _ us hl => match us, hl with | [_, _, _, _], _ => rfl) (fun vs H Q E h => ?_) (fun cdv A outer s H vs Q E f hr h => ?_)
    · obtain ⟨x, ⟨wp, sg, rfl, _⟩, _⟩ := h
      rfl
    · obtain ⟨x, ⟨wp, sg, rfl, hw, hok, S, hsg, hs7, hd, h3⟩, k⟩ := h
      have sc := sc_run_text
      have c_run_text := ih
      have c_marks_text := cal_marks_text (P := P) (w := w) (base := base) T
      have m_Web_between := m_between (P := P) (w := w) (base := base) T
      refine ⟨_, pss_cons (ps_set (i := 4) sc.nd rfl (by first | exact Or.inl rfl | exact Or.inr rfl) (pe_op op_add_str (pe_ix ix_list (pe_fld (pv 0) rfl) (pv 1) (fun _ _ => rfl)) (pe_dget (hu_of hr) (pv 3) (pv 1) (fun _ _ => rfl))))
    (pss_cons (ps_for PassesOwn.never rfl (pi_enum (by rfl) (T.free "enumerate") (pa_cons (pe_dget (hu_of hr) (pv 2) (pv 1) (fun _ _ => rfl)) pa_nil)) (pg_tup rfl (pgs_cons (pg_name (i := 5) sc.nd rfl (by first | exact Or.inl rfl | exact Or.inr rfl)) (pgs_cons (pg_name (i := 6) sc.nd rfl (by first | exact Or.inl rfl | exact Or.inr rfl)) (pgs_nil))))
    (pss_cons (ps_set (i := 7) sc.nd rfl (by first | exact Or.inl rfl | exact Or.inr rfl) (pe_op op_add_str (pe_c c_marks_text hr (by omega) rfl (pa_cons (pe_mt m_Web_between hr (by omega) (pv 0) (pa_cons (pv 1) (pa_cons (pv 6) pa_nil))) pa_nil)) (pe_c c_run_text hr (by omega) rfl (pa_cons (pv 0) (pa_cons (pv 6) (pa_cons (pv 2) (pa_cons (pv 3) pa_nil)))))))
      (pss_cons (ps_if (pt_cmpR op_lt (pv 5) (pe_op op_sub (pe_callB call_len_seq (by rfl) (T.free "len") (by decide +kernel) (pa_cons (pe_dget (hu_of hr) (pv 2) (pv 1) (fun _ _ => rfl)) pa_nil)) (pe_int)) (by rfl))
      (pss_one (ps_set (i := 7) sc.nd rfl (by first | exact Or.inl rfl | exact Or.inr rfl) (pe_op op_add_str (pe_op op_add_str (pe_str) (pv 7)) (pe_str))))
      (pss_nil))
      (pss_one (ps_aug (i := 4) sc.nd rfl (by first | exact Or.inl rfl | exact Or.inr rfl) (pv 7) ip_addS)))))
    (pss_one (ps_ret (pv 4)))), ?_⟩
      have rl := run_len hok S.lt hs7
      obtain ⟨W, st, H0, la, sd, as, sgf, p⟩ := x
      dsimp only at hw hok S hsg hs7 hd k rl ⊢
      obtain ⟨hp, hl2, hds⟩ := depB_in hd
      obtain ⟨i, a', l', h1, h2, h3', h4⟩ := kvOf_some S.len hp
      have hl' := (S.lst i _ a' h1 h2).1
      have hpn := S.lt p hp
      have hkl : (kindOf W p).length ≤ 3 := (hok.w _ (List.mem_of_getElem? (kindOf_get hpn))).len.2
      obtain ⟨kvs, g1, g2, g3⟩ := hsg
      obtain ⟨dx, vk, vt, gg, w1, w2, w3, w4⟩ := hw.out
      have hs7p := hs7 p
      have lbf := lb_le (f := fu) (by omega)
      refine q_asg (ev_op (ev_strD (ep_ixL (ds := W.kinds.map .str) (ep_fld (ev_var rfl) w1 (T.cls "Web") (T.noat "Web" "kinds") rfl fun H1 e1 => dp_ex e1 w2) (ev_var rfl) (by rw [List.getElem?_map, kindOf_get hpn]; rfl))) (ev_dgetK (k := Sum.inl (p : Int)) (ev_var rfl) (ev_var rfl) g1 (g3 p hp)) (rv_addS (by omega))) fun H1 e1 => ?_
      refine q_forE (ev_dgetK (k := Sum.inl (p : Int)) (ev_var rfl) (ev_var rfl) (e1 _ _ S.hsd) h3') (sq_of (e1 _ _ hl')) (fun m σ' H' => (∃ o5 o6 o7, σ' = [some (.ref wp), some (.int (p : Int)), some (.ref sd), some (.ref sg), some (.str ((List.range m).foldl (sonText (bt W) l' p (runF (kindOf W) (bt W) st.2 sgf fu)) (kindOf W p ++ sgf p))), o5, o6, o7]) ∧ Ex H H' ∧ ((List.range m).foldl (sonText (bt W) l' p (runF (kindOf W) (bt W) st.2 sgf fu)) (kindOf W p ++ sgf p)).length ≤ 7203 + m * (374 + lb fu))
        (fun H2 e2 => ⟨⟨_, _, _, rfl⟩, e1.trans e2, by show (kindOf W p ++ sgf p).length ≤ _; rw [str_len]; omega⟩) (fun m σ' H' q => sq_of (q.2.1 _ _ hl')) (fun m x σ' H' H2 hx q e2 => ?_) (fun σ' H' q => ?_)
      · obtain ⟨⟨o5, o6, o7, rfl⟩, e3, hlen⟩ := q
        rw [natsV, List.getElem?_map] at hx
        obtain ⟨y, hy, rfl⟩ := Option.map_eq_some_iff.mp hx
        have hml : m < l'.length := (List.getElem?_eq_some_iff.mp hy).1
        have hyg : g l' m = y := by
          rw [get_g' hml] at hy
          exact Option.some.inj hy
        have hyd : depB st.2 fu y = true := hds y (by rw [h4]; exact List.mem_of_getElem? hy)
        have e32 := e3.trans e2
        have q1 : (runF (kindOf W) (bt W) st.2 sgf fu y).length ≤ lb fu := rl fu y hyd
        have q2 := marks_len (bt_lt hok p y)
        have q3 := bt_len hok p y
        have hl2' : l'.length ≤ 2 := by rw [← h4]; exact hl2
        have hm1 : m ≤ 1 := by omega
        have hmk : m * (374 + lb fu) ≤ 1 * (374 + lb fu) := Nat.mul_le_mul_right _ hm1
        have lb2 : 7203 + 2 * (374 + lb fu) ≤ 60000 := lb_le (f := fu + 1) h3
        refine q_asg (v := .str (marksS (bt W p y) ++ runF (kindOf W) (bt W) st.2 sgf fu y)) (ev_op (ev_ofP (ep_call (bt W p y) (ea_consD (d := pairsD (bt W p y)) (ep_between (web_ex e32 hw) (ev_var rfl) (ev_var rfl) (ev_var rfl)) ea_nilD) (fun vs H8 e8 h => by
          cases h with
          | cons h1 h2 =>
            cases h2
            exact ⟨_, rfl, h1, bt_lt hok p y, q3⟩) fun _ _ _ _ _ h => h)) (ev_ofP (v := .str (runF (kindOf W) (bt W) st.2 sgf fu y)) (ep_call (⟨W, st, H0, la, sd, as, sgf, y⟩ : RunIn) (eap_of (vs := [.ref wp, .int (y : Int), .ref sd, .ref sg]) (ea_cons (ev_var rfl) (ea_cons (ev_var rfl) (ea_cons (ev_var rfl) (ea_cons (ev_var rfl) ea_nil))))) (fun vs H8 e8 h => by
          subst h
          exact ⟨wp, sg, rfl, web_ex (e32.trans e8) hw, hok, S.more (e32.trans e8), ⟨kvs, e8 _ _ (e32 _ _ g1), g2, g3⟩, hs7, hyd, show fu ≤ 3 by omega⟩) fun _ _ _ _ _ h => h)) (rv_addS (by omega))) fun H5 e5 => ?_
        have e35 := e32.trans e5
        have lenL := Evl.ev_len (K := K) (σ := [some (.ref wp), some (.int (p : Int)), some (.ref sd), some (.ref sg), some (.str ((List.range m).foldl (sonText (bt W) l' p (runF (kindOf W) (bt W) st.2 sgf fu)) (kindOf W p ++ sgf p))), some (.int ((m : Nat) : Int)), some (.int (y : Int)), some (.str (marksS (bt W p y) ++ runF (kindOf W) (bt W) st.2 sgf fu y))]) (H := H5) (ta := tDGet (tVar 2) (tVar 1)) (ev_dgetK (k := Sum.inl (p : Int)) (ev_var rfl) (ev_var rfl) (e35 _ _ S.hsd) h3') (sq_of (e35 _ _ hl'))
        rw [natsV_len] at lenL
        have o1 : (Str.ofString "(").length = 1 := by decide
        have o2 : (Str.ofString ")").length = 1 := by decide
        have hbl : (marksS (bt W p y) ++ runF (kindOf W) (bt W) st.2 sgf fu y).length ≤ 372 + lb fu := by
          rw [str_len]
          omega
        refine Evl.q_ifAsg (b := decide ((m : Int) < (l'.length : Int) - 1)) (v := .str (if m + 1 < l'.length then ("(" : Str) ++ (marksS (bt W p y) ++ runF (kindOf W) (bt W) st.2 sgf fu y) ++ (")" : Str) else marksS (bt W p y) ++ runF (kindOf W) (bt W) st.2 sgf fu y)) (et_test (ev_op (ev_var rfl) (ev_op lenL ev_c rv_I0) rv_I0)) (fun hb => ?_) (fun hb => ?_) fun H6 e6 => ?_
        · rw [if_pos (by have := of_decide_eq_true hb; omega)]
          exact ev_op (ev_op ev_c (ev_var rfl) (rv_addS (by omega))) ev_c (rv_addS (by rw [str_len]; omega))
        · rw [if_neg (by have := of_decide_eq_false hb; omega)]
          rfl
        · have hsl : (if m + 1 < l'.length then ("(" : Str) ++ (marksS (bt W p y) ++ runF (kindOf W) (bt W) st.2 sgf fu y) ++ (")" : Str) else marksS (bt W p y) ++ runF (kindOf W) (bt W) st.2 sgf fu y).length ≤ 374 + lb fu := by
            split
            · rw [str_len, str_len]
              omega
            · omega
          have est : (List.range (m + 1)).foldl (sonText (bt W) l' p (runF (kindOf W) (bt W) st.2 sgf fu)) (kindOf W p ++ sgf p) = (List.range m).foldl (sonText (bt W) l' p (runF (kindOf W) (bt W) st.2 sgf fu)) (kindOf W p ++ sgf p) ++ (if m + 1 < l'.length then ("(" : Str) ++ (marksS (bt W p y) ++ runF (kindOf W) (bt W) st.2 sgf fu y) ++ (")" : Str) else marksS (bt W p y) ++ runF (kindOf W) (bt W) st.2 sgf fu y) := by
            rw [List.range_succ, List.foldl_append]
            exact sonText_eq hyg
          refine s_augSt rfl (ev_var rfl) (by omega) fun H7 e7 => ⟨⟨_, _, _, by rw [est]; rfl⟩, (e35.trans e6).trans e7, ?_⟩
          rw [est, str_len, Nat.succ_mul]
          omega
      · obtain ⟨⟨o5, o6, o7, rfl⟩, e3, hlen⟩ := q
        rw [natsV_len] at hlen ⊢
        refine s_retE (ev_var rfl) fun H4 e4 => k _ _ (e3.trans e4) ?_
        show _ = V.str ((List.range (sget st.2 p).length).foldl (sonText (bt W) (sget st.2 p) p (runF (kindOf W) (bt W) st.2 sgf fu)) (kindOf W p ++ sgf p))
        rw [h4]
/-! ### written -/
def spWritten (K : PySem.W.Frag) : Sp := spP (fun (W : Wb) vs H => ∃ wp, vs = [.ref wp] ∧ WebAt K H wp W ∧ WOk W ∧ W.n ≤ 3) (fun W _ v _ => ∃ o, Can W o ∧ v = .str (txt (turnW W o)))
theorem cal_written (T : TX K mg) : Cal P w K mg base 22 "written" (spWritten K) [] := by
  refine T.cal d_written (N := ["web", "least", "line", "sons", "begins", "signs", "place"]) (ps := ["web"]) (List.mem_of_getElem? (i := 35) rfl) rfl (by decide +kernel) sc_written (fun _ _ _ _ _ _ us hl => match us, hl with | [_], _ => rfl) (fun vs H Q E h => ?_) (fun cdv A outer s H vs Q E f hr h => ?_)
  · obtain ⟨x, ⟨p, rfl, _⟩, _⟩ := h
    rfl
  · obtain ⟨W, ⟨wp, rfl, hw, hok, h3⟩, k⟩ := h
    have sc := sc_written
    have c_turned := cal_turned (P := P) (w := w) (base := base) T
    have c_least_order := cal_least_order (P := P) (w := w) (base := base) T
    have c_walked := cal_walked (P := P) (w := w) (base := base) T
    have c_ring_signs := cal_ring_signs (P := P) (w := w) (base := base) T
    have c_run_text := cal_run_text (P := P) (w := w) (base := base) T 3
    refine ⟨_, pss_cons (ps_set (i := 1) sc.nd rfl (by first | exact Or.inl rfl | exact Or.inr rfl) (pe_c c_turned hr (by decide) rfl (pa_cons (pv 0) (pa_cons (pe_c c_least_order hr (by decide) rfl (pa_cons (pv 0) pa_nil)) pa_nil))))
    (pss_cons (ps_asg (pe_c c_walked hr (by decide) rfl (pa_cons (pv 1) pa_nil)) (pg_tup rfl (pgs_cons (pg_name (i := 2) sc.nd rfl (by first | exact Or.inl rfl | exact Or.inr rfl)) (pgs_cons (pg_name (i := 3) sc.nd rfl (by first | exact Or.inl rfl | exact Or.inr rfl)) (pgs_cons (pg_name (i := 4) sc.nd rfl (by first | exact Or.inl rfl | exact Or.inr rfl)) (pgs_nil))))))
    (pss_cons (ps_set (i := 5) sc.nd rfl (by first | exact Or.inl rfl | exact Or.inr rfl) (pe_c c_ring_signs hr (by decide) rfl (pa_cons (pv 1) (pa_cons (pv 2) (pa_cons (pv 3) pa_nil)))))
    (pss_one (ps_ret (pe_join (pe_str) (pe_lc (own := [("place", 6)]) (g := gName 6) (tt := tYes) (te := _) rfl sc.nd (pi_list (pv 4)) (blkOk_by (own := [("place", 6)]) rfl) (fun _ _ _ _ _ => pg_name (i := 6) sc.nd rfl (by first | exact Or.inl rfl | exact Or.inr rfl)) (fun _ _ _ _ _ => pts_nil) (fun _ _ _ _ _ => pe_c c_run_text hr (by decide) rfl (pa_cons (pv 1) (pa_cons (pv 6) (pa_cons (pv 3) (pa_cons (pv 5) pa_nil))))))))))), ?_⟩
    refine q_asgP (P := fun v H' => ∃ o lp, Can W o ∧ v = .ref lp ∧ WebAt K H' lp (turnW W o)) (ep_callE (ea_consV (v := .ref wp) (ev_var rfl) (ea_consP (P := fun v H' => ∃ o, Can W o ∧ NewL K H (natsL o) v H') (ep_call W (eap_of (vs := [.ref wp]) (ea_cons (ev_var rfl) ea_nil)) (fun vs H2 e2 h => by
      subst h
      exact ⟨wp, rfl, web_ex e2 hw, hok, h3⟩) fun H2 v H3 e2 e3 h => ?_) (fun v H1 H2 e h => ?_) ea_nilP)) fun vs H2 e2 h => ?_) fun v1 H1 e1 hv1 => ?_
    · obtain ⟨o, h1, h2⟩ := h
      exact ⟨o, h1, NewL.up e2 h2⟩
    · obtain ⟨o, h1, h2⟩ := h
      exact ⟨o, h1, h2.ex e⟩
    · obtain ⟨r, rfl, x, r2, rfl, ⟨o, h1, h2⟩, rfl⟩ := h
      refine ⟨(W, o), ⟨wp, x, rfl, web_ex e2 hw, hok, h2.dp, h1.ord⟩, fun v H3 e3 h4 => ?_⟩
      obtain ⟨p', h5, h6, h7⟩ := h4
      exact ⟨o, p', h1, h5, h7⟩
    obtain ⟨o, lp, hcan, rfl, hwt⟩ := hv1
    have okT := turn_ok hok hcan.ord
    have n3 : (turnW W o).n ≤ 3 := by rw [turn_n hcan.ord]; exact h3
    obtain ⟨L, hL⟩ : ∃ L, L = turnW W o := ⟨_, rfl⟩
    rw [← hL] at hwt okT n3
    obtain ⟨wk1, wk2, wk3⟩ := walk_ok okT n3
    refine q_asgG (P := fun v H3 => ∃ H2, Ex H1 H2 ∧ ∃ t la sd bg as, v = .ref t ∧ H3 t = some (.tup [.ref la, .ref sd, .ref bg]) ∧ SonsAt L.n H2 H3 la sd (walkF (nearL L) L.n).1 as ∧ H3 bg = some (.lst (natsV (walkF (nearL L) L.n).2))) (ep_call L (eap_of (vs := [.ref lp]) (ea_cons (ev_var rfl) ea_nil)) (fun vs H2 e2 h => by
      subst h
      exact ⟨lp, rfl, web_ex e2 hwt, okT, n3⟩) fun H2 v H3 e2 e3 h => ?_) fun v2 H2 e2 hv2 => ?_
    · obtain ⟨t, la, sd, bg, as, h1, h2, h4, h5, _⟩ := h
      exact ⟨H2, e2, t, la, sd, bg, as, h1, h2, h4, h5⟩
    obtain ⟨H0, e0, t, la, sd, bg, as, rfl, ht, S, hbg⟩ := hv2
    refine ⟨_, _, rfl, st_of ht, rfl, _, _, rfl, _, _, rfl, _, _, rfl, rfl, ?_⟩
    show tSeq _ _ _ [some (.ref wp), some (.ref lp), some (.ref la), some (.ref sd), some (.ref bg), none, none] H2
    obtain ⟨st, hst⟩ : ∃ st, st = walkF (nearL L) L.n := ⟨_, rfl⟩
    rw [← hst] at S hbg wk1 wk2 wk3
    refine q_asgP (P := fun v H' => ∃ sg, v = .ref sg ∧ SgAt H' sg st.1.1 (ringF (bt L) st.1.1 st.1.2).2 100 ∧ RgB (ringF (bt L) st.1.1 st.1.2) 9) (ep_call (L, st.1, H0, la, sd, as) (eap_of (vs := [.ref lp, .ref la, .ref sd]) (ea_cons (ev_var rfl) (ea_cons (ev_var rfl) (ea_cons (ev_var rfl) ea_nil)))) (fun vs H3 e3 h => by
      subst h
      exact ⟨lp, rfl, web_ex (e2.trans e3) hwt, okT, n3, S.more e3, wk1⟩) fun _ _ _ _ _ h => h) fun v3 H3 e3 hv3 => ?_
    obtain ⟨sg, rfl, hsg, B⟩ := hv3
    have hsg : SgAt H3 sg (st.1.2.map (·.1)) (ringF (bt L) st.1.1 st.1.2).2 100 := by
      obtain ⟨kvs, a1, a2, a3⟩ := hsg
      exact ⟨kvs, a1, a2, fun x hx => a3 x (by rw [wk1]; exact hx)⟩
    have e23 := e2.trans e3
    have sg72 : ∀ y, ((ringF (bt L) st.1.1 st.1.2).2 y).length ≤ 7200 := fun y => by
      have := B.len y
      omega
    have rl : ∀ p ∈ st.2, (runF (kindOf L) (bt L) st.1.2 (ringF (bt L) st.1.1 st.1.2).2 3 p).length ≤ 60000 := fun p hp =>
      Nat.le_trans (run_len (x := ⟨L, st.1, H0, la, sd, as, (ringF (bt L) st.1.1 st.1.2).2, p⟩) okT S.lt sg72 3 p (wk2 p hp)) (lb_le (Nat.le_refl 3))
    have comp := ep_lcM (K := K) (l := st.2) (f := fun (j : Nat) => .int (j : Int)) (h := fun p => .str (runF (kindOf L) (bt L) st.1.2 (ringF (bt L) st.1.1 st.1.2).2 3 p)) (tl := tVar 4) (te := tCall (spRun K 3) [] C8.E0 (tCons (tVar 1) (tCons (tVar 6) (tCons (tVar 3) (tCons (tVar 5) tNil))))) (σ := [some (.ref wp), some (.ref lp), some (.ref la), some (.ref sd), some (.ref bg), some (.ref sg), none]) (H := H3) (vs := [6]) (j := 6) (ep_evD (ev_var rfl) (dp_natsV (e3 _ _ hbg))) (by omega) (fun _ _ => rfl) (fun x => rfl) (fun p x H4 hp e4 hx => by
      cases hx
      refine ep_str (ev_ofP (ep_call (⟨L, st.1, H0, la, sd, as, (ringF (bt L) st.1.1 st.1.2).2, p⟩ : RunIn) (eap_of (vs := [.ref lp, .int (p : Int), .ref sd, .ref sg]) (ea_cons (ev_var rfl) (ea_cons (ev_var rfl) (ea_cons (ev_var rfl) (ea_cons (ev_var rfl) ea_nil))))) (fun vs H5 e5 h => ?_) fun _ _ _ _ _ h => h))
      subst h
      exact ⟨lp, sg, rfl, web_ex (e23.trans (e4.trans e5)) hwt, okT, S.more (e3.trans (e4.trans e5)), hsg.ex (e4.trans e5), sg72, wk2 p hp, Nat.le_refl 3⟩)
    refine s_retP (P := fun v _ => v = .str (Txt.join ("." : Str) (st.2.map (runF (kindOf L) (bt L) st.1.2 (ringF (bt L) st.1.1 st.1.2).2 3)))) (fun H4 e4 Q q => ⟨⟨_, rfl⟩, ?_⟩) fun v H4 e4 h => k _ _ (e1.trans (e23.trans e4)) ⟨o, hcan, ?_⟩
    · refine comp H4 e4 _ fun v H5 e5 hv => ?_
      obtain ⟨p, xs, rfl, _, hp, hA⟩ := hv
      rw [← show ((st.2.map (runF (kindOf L) (bt L) st.1.2 (ringF (bt L) st.1.1 st.1.2).2 3)).map PyData.str) = st.2.map (fun p => PyData.str (runF (kindOf L) (bt L) st.1.2 (ringF (bt L) st.1.1 st.1.2).2 3 p)) from List.map_map ..] at hA
      have hxs := dpAll_strs' hA
      subst hxs
      refine ⟨_, p, _, rfl, rfl, .inl (sq_of hp), ?_, q _ _ e5 rfl⟩
      have b1 := sum_le (f := fun s : Str => s.length) (b := 60000) (st.2.map (runF (kindOf L) (bt L) st.1.2 (ringF (bt L) st.1.1 st.1.2).2 3)) fun s hs => by
        obtain ⟨p, hp, rfl⟩ := List.mem_map.mp hs
        exact rl p hp
      have b2 : (Str.ofString ".").length = 1 := by decide
      rw [b2]
      rw [List.length_map] at b1 ⊢
      omega
    · rw [h, ← hL]
      unfold txt txtF
      rw [← hst]
end
end L2.Tw
set_option Elab.async false
set_option linter.all false
set_option maxRecDepth 100000
set_option maxHeartbeats 4000000
set_option autoImplicit false
namespace L2.Tw
open PySem PySem.Spec PyProof.Rows L2
open C8 (Cal Met Mak pe_c pe_mk pe_mt pe_mt0 pe_gc InsC)
open Evl (Ex Ev EvT EvA fresh_back ex_l ex_t ex_rd sq_of st_of sz_of sz_lt ev_var ev_c ev_op rv_I0 rv_I rv_eq rv_ne et_test et_or et_and et_not et_B s_if ea_nil ea_cons q_asg q_when)
/-- T writes W -/
def TextOf (W : Wb) (T : Str) : Prop := ∃ o, Can W o ∧ T = txt (turnW W o)
theorem text_iso {W W' : Wb} {T T' : Str} (hw : WOk W) (hw' : WOk W') (h3 : W.n ≤ 3) (h3' : W'.n ≤ 3) (h : TextOf W T) (h' : TextOf W' T') : T = T' ↔ ∃ τ, Iso τ W W' := by
  obtain ⟨o, c, rfl⟩ := h
  obtain ⟨o', c', rfl⟩ := h'
  constructor
  · exact txt_iso hw hw' h3 h3' c.ord c'.ord
  · rintro ⟨τ, I⟩
    exact txt_same hw hw' c.ord c'.ord (canon h3 I c c')
theorem text_uniq {W : Wb} {T T' : Str} (hw : WOk W) (h3 : W.n ≤ 3) (h : TextOf W T) (h' : TextOf W T') : T = T' := (text_iso hw hw h3 h3 h h').mpr ⟨_, iso_refl W⟩
section
variable {P : Program} {w : World} {K : PySem.W.Frag} {mg : Str → Option Value} {base : Heap}
/-! ### pairing -/
def spPairing (K : PySem.W.Frag) : Sp := spP (fun (x : Wb × Wb) vs H => ∃ p q, vs = [.ref p, .ref q] ∧ WebAt K H p x.1 ∧ WebAt K H q x.2 ∧ WOk x.1 ∧ WOk x.2 ∧ x.1.n ≤ 3 ∧ ∃ τ, Iso τ x.1 x.2) (fun x H v H' => ∃ τ, Iso τ x.1 x.2 ∧ NewL K H (natsL τ) v H')
theorem cal_pairing (T : TX K mg) : Cal P w K mg base 22 "pairing" (spPairing K) [] := by
  refine T.cal d_pairing (N := ["one", "other", "mine", "theirs", "order", "place", "there"]) (ps := ["one", "other"]) (List.mem_of_getElem? (i := 36) rfl) rfl (by decide +kernel) sc_pairing (fun _ _ _ _ _ _ us hl => match us, hl with | [_, _], _ => rfl) (fun vs H Q E h => ?_) (fun cdv A outer s H vs Q E f hr h => ?_)
  · obtain ⟨x, ⟨p, q, rfl, _⟩, _⟩ := h
    rfl
  · obtain ⟨⟨W, W'⟩, ⟨p, q, rfl, hw, hw', hok, hok', h3, τ0, I0⟩, k⟩ := h
    dsimp only at hw hw' hok hok' h3 I0 k ⊢
    have sc := sc_pairing
    have c_least_order := cal_least_order (P := P) (w := w) (base := base) T
    have c_row_of := cal_row_of (P := P) (w := w) (base := base) T
    refine ⟨_, pss_cons (ps_set (i := 2) sc.nd rfl (by first | exact Or.inl rfl | exact Or.inr rfl) (pe_c c_least_order hr (by decide) rfl (pa_cons (pv 0) pa_nil)))
    (pss_cons (ps_set (i := 3) sc.nd rfl (by first | exact Or.inl rfl | exact Or.inr rfl) (pe_c c_least_order hr (by decide) rfl (pa_cons (pv 1) pa_nil)))
    (pss_cons (ps_if (pt_cmpR (op_neP hr.units) (pe_c c_row_of hr (by decide) rfl (pa_cons (pv 0) (pa_cons (pv 2) pa_nil))) (pe_c c_row_of hr (by decide) rfl (pa_cons (pv 1) (pa_cons (pv 3) pa_nil))) (by rfl))
    (pss_one (ps_ret (pe_non)))
    (pss_nil))
    (pss_cons (ps_set (i := 4) sc.nd rfl (by first | exact Or.inl rfl | exact Or.inr rfl) (pe_callTy call_list_of (by rfl) (T.free "list") (by decide +kernel) (pa_cons (pv 2) pa_nil)))
    (pss_cons (ps_for PassesOwn.never rfl (pi_zip (by rfl) (T.free "zip") (pa_cons (pv 2) (pa_cons (pv 3) pa_nil))) (pg_tup rfl (pgs_cons (pg_name (i := 5) sc.nd rfl (by first | exact Or.inl rfl | exact Or.inr rfl)) (pgs_cons (pg_name (i := 6) sc.nd rfl (by first | exact Or.inl rfl | exact Or.inr rfl)) (pgs_nil))))
    (pss_one (ps_asg (pv 5) (pg_sub (pv 4) (pv 6) set_list))))
    (pss_one (ps_ret (pv 4))))))), ?_⟩
    have h3' : W'.n ≤ 3 := by rw [I0.n]; exact h3
    refine q_asgP (P := fun v H' => ∃ o, Can W o ∧ NewL K H (natsL o) v H') (ep_call W (eap_of (vs := [.ref p]) (ea_cons (ev_var rfl) ea_nil)) (fun vs H2 e2 h => by
      subst h
      exact ⟨p, rfl, web_ex e2 hw, hok, h3⟩) fun H2 v H3 e2 e3 h => by
      obtain ⟨o, h1, h2⟩ := h
      exact ⟨o, h1, NewL.up e2 h2⟩) fun v1 H1 e1 hv1 => ?_
    obtain ⟨o, hc, hv1⟩ := hv1
    obtain ⟨m1, rfl, m10, m11⟩ := newL_nats hv1
    refine q_asgP (P := fun v H' => ∃ o, Can W' o ∧ NewL K H1 (natsL o) v H') (ep_call W' (eap_of (vs := [.ref q]) (ea_cons (ev_var rfl) ea_nil)) (fun vs H2 e2 h => by
      subst h
      exact ⟨q, rfl, web_ex (e1.trans e2) hw', hok', h3'⟩) fun H2 v H3 e2 e3 h => by
      obtain ⟨o, h1, h2⟩ := h
      exact ⟨o, h1, NewL.up e2 h2⟩) fun v2 H2 e2 hv2 => ?_
    obtain ⟨o', hc', hv2⟩ := hv2
    obtain ⟨m2, rfl, m20, m21⟩ := newL_nats hv2
    have e02 := e1.trans e2
    have hr := canon h3 I0 hc hc'
    have hre := row_eq hr
    have pl := (pd_row W o).pl
    have row : ∀ {σ : L2.St} {Wx : Wb} {px mx : Addr} {ox : List Nat} {ta tb : TE}, WebAt K H2 px Wx → Wx.n ≤ 3 → H2 mx = some (.lst (natsV ox)) → Ord Wx.n ox → Ev ta σ H2 (.ref px) → Ev tb σ H2 (.ref mx) → EvP (tCall (spRow K) [] C8.E0 (tCons ta (tCons tb tNil))) σ H2 (DP K (rowD Wx ox)) := fun {σ Wx px mx ox ta tb} g1 g2 g3 g4 g5 g6 =>
      ep_call (Wx, ox) (eap_of (ea_cons g5 (ea_cons g6 ea_nil))) (fun vs H3 e3 h => by
        subst h
        exact ⟨px, .ref mx, rfl, web_ex e3 g1, show Wx.n ≤ 7 by omega, dp_ex e3 (dp_natsV g3), g4⟩) fun _ _ _ _ _ h => h
    refine q_when (et_test (rv_neP (d := rowD W o) (e := rowD W' o') pl (pd_row W' o').pl (row (web_ex e02 hw) h3 (e2 _ _ m11) hc.ord (ev_var rfl) (ev_var rfl)) (row (web_ex e02 hw') h3' m21 hc'.ord (ev_var rfl) (ev_var rfl)))) (fun hb => ?_) fun _ H3 e3 => ?_
    · rw [← hre, (eqv_iff (alike_self _ pl.pl) pl.pl).mpr rfl] at hb
      cases hb
    have e03 := e02.trans e3
    refine q_asgP (ep_listOf (K := K) (ds := natsL o) (ep_evD (ev_var rfl) (dp_natsV (e3 _ _ (e2 _ _ m11))))) fun v4 H4 e4 hv4 => ?_
    obtain ⟨ol, rfl, ol0, ol1⟩ := newL_nats hv4
    have e04 := e03.trans e4
    have olH : H ol = none := fresh_back e03 ol0
    have hol := hc.ord.len
    have hol' := hc'.ord.len
    have hn := I0.n
    have m1H4 := e4 _ _ (e3 _ _ (e2 _ _ m11))
    have m2H4 := e4 _ _ (e3 _ _ m21)
    have m1ol : m1 ≠ ol := ne_none (e3 _ _ (e2 _ _ m11)) ol0
    have m2ol : m2 ≠ ol := ne_none (e3 _ _ m21) ol0
    refine q_forZ (xs := natsV o) (ys := natsV o') (ev_var rfl) (sq_of m1H4) (ev_var rfl) (sq_of m2H4) (by rw [natsV_len, natsV_len]; omega) (fun m σ' H' => (∃ o5 o6, σ' = [some (.ref p), some (.ref q), some (.ref m1), some (.ref m2), some (.ref ol), o5, o6]) ∧ But ol H4 H' ∧ ∃ l, H' ol = some (.lst (natsV l)) ∧ l.length = W.n ∧ ∀ i, i < m → g l (g o' i) = g o i) (fun H5 e5 => ⟨⟨_, _, rfl⟩, (But.refl _ _).ex e5, o, e5 _ _ ol1, hol, fun i hi => by omega⟩) (fun m σ' H' r => ⟨sq_of (r.2.1 _ _ m1H4 m1ol), sq_of (r.2.1 _ _ m2H4 m2ol)⟩) (fun m x y σ' H' H5 hx hy r e5 => ?_) (fun σ' H' r => ?_)
    · obtain ⟨⟨o5, o6, rfl⟩, b, l, r1, r2, r3⟩ := r
      rw [natsV, List.getElem?_map] at hx hy
      obtain ⟨x', hx', rfl⟩ := Option.map_eq_some_iff.mp hx
      obtain ⟨y', hy', rfl⟩ := Option.map_eq_some_iff.mp hy
      have hm : m < o.length := (List.getElem?_eq_some_iff.mp hx').1
      have hyl : y' < W.n := by rw [← hn]; exact order_lt hc'.ord hy'
      have gx : g o m = x' := by rw [get_g' hm] at hx'; exact Option.some.inj hx'
      have gy : g o' m = y' := by rw [get_g' (by omega)] at hy'; exact Option.some.inj hy'
      refine Evl.s_setL (v := .int (x' : Int)) (j := y') (e5 _ _ r1) (ev_var rfl) (ev_var rfl) (ev_var rfl) (by rw [natsV_len]; omega) fun H6 e6 => ⟨⟨_, _, rfl⟩, (b.ex (e5.trans e6)).trans But.upd, l.set y' x', by rw [upd_same, natsV_set], by rw [List.length_set]; exact r2, fun i hi => ?_⟩
      rcases Nat.lt_succ_iff_lt_or_eq.mp hi with h | h
      · have hne : g o' i ≠ y' := fun z => by
          have := hc'.ord.inj (i := i) (j := m) (by omega) (by omega) (by rw [z, gy])
          omega
        have hlt : g o' i < l.length := by rw [r2, ← hn]; exact hc'.ord.lt (by omega)
        have := r3 i h
        rw [g_get (by rw [List.length_set]; exact hlt), List.getElem_set_ne (Ne.symm hne), ← g_get hlt]
        exact this
      · subst h
        rw [gy, gx, g_get (by rw [List.length_set]; omega), List.getElem_set_self]
    · obtain ⟨⟨o5, o6, rfl⟩, b, l, r1, r2, r3⟩ := r
      rw [natsV_len] at r3
      have eH : Ex H H' := But.fresh e04 b olH
      refine s_retE (ev_var rfl) fun H6 e6 => ?_
      obtain ⟨τ, hI, ht⟩ := iso_of_rows hc.ord hc'.ord hr
      have hl : l = τ := by
        refine ext_g (by rw [r2, hI.ord.len]) fun i hi => ?_
        obtain ⟨j, hj, rfl⟩ := hc'.ord.surj (x := i) (by omega)
        rw [r3 j (by omega), ht j (by omega)]
      subst hl
      exact k _ _ (eH.trans e6) ⟨l, hI, nats_newL olH (e6 _ _ r1)⟩
/-! ### is_book_name -/
def signs36 : Str := "abcdefghijklmnopqrstuvwxyz0123456789"
def nameOk (s : Str) : Bool := s.cps.toList.all (fun c => decide (c ∈ signs36.cps.toList)) && (decide (1 ≤ s.length) && decide (s.length ≤ 20))
def spIsName : Sp := spP (fun (s : Str) vs H => vs = [.str s] ∧ s.length ≤ 1000) (fun s _ v _ => v = .bl (nameOk s))
theorem cal_is_book_name (T : TX K mg) : Cal P w K mg base 1 "is_book_name" spIsName [] := by
  refine T.cal d_is_book_name (N := ["name", "sign"]) (ps := ["name"]) (List.mem_of_getElem? (i := 37) rfl) rfl (by decide +kernel) sc_is_book_name (fun _ _ _ _ _ _ us hl => match us, hl with | [_], _ => rfl) (fun vs H Q E h => ?_) (fun cdv A outer s H vs Q E f hr h => ?_)
  · obtain ⟨z, ⟨rfl, _⟩, _⟩ := h
    rfl
  · obtain ⟨z, ⟨rfl, hz⟩, k⟩ := h
    have sc := sc_is_book_name
    refine ⟨_, pss_cons (ps_for PassesOwn.never rfl (pi_str (pv 0)) (pg_name (i := 1) sc.nd rfl (by first | exact Or.inl rfl | exact Or.inr rfl))
    (pss_one (ps_if (pt_cmpR op_notIn_sign (pv 1) (pe_gc rfl T.gNAME_SIGNS) (by rfl))
      (pss_one (ps_ret (pe_bl)))
      (pss_nil))))
    (pss_one (ps_ret (pe_chain op_le op_le (pe_int) (pe_callB call_len_str (by rfl) (T.free "len") (by decide +kernel) (pa_cons (pv 0) pa_nil)) (pe_int)))), ?_⟩
    refine q_forS (s := z) (ev_var rfl) (fun m σ' H' => (∃ v, σ' = [some (.str z), v]) ∧ Ex H H' ∧ ∀ i c, i < m → z.cps[i]? = some c → c ∈ signs36.cps.toList) (fun H2 e2 => ⟨⟨_, rfl⟩, e2, fun i c hi => by omega⟩) (fun i c σ' H' hc q => ?_) (fun σ' H' q => ?_)
    · obtain ⟨⟨v, rfl⟩, e2, q⟩ := q
      refine s_if (et_test (ev_op (ev_var rfl) ev_c rv_niS)) (fun hb H3 e3 => ?_) fun hb H3 e3 => ?_
      · refine s_retE ev_c fun H4 e4 => k _ _ ((e2.trans e3).trans e4) ?_
        rw [Bool.not_eq_true', decide_eq_false_iff_not] at hb
        have : nameOk z = false := by
          unfold nameOk
          rw [Bool.and_eq_false_iff]
          refine .inl ?_
          rw [List.all_eq_false]
          exact ⟨c, by rw [Array.mem_toList_iff]; exact Array.mem_of_getElem? hc, by rw [decide_eq_true_eq]; exact hb⟩
        rw [this]
      · refine ⟨⟨_, rfl⟩, e2.trans e3, fun j d hj hd => ?_⟩
        rcases Nat.lt_succ_iff_lt_or_eq.mp hj with h | h
        · exact q j d h hd
        · subst h
          rw [hc] at hd
          cases hd
          rw [Bool.not_eq_false', decide_eq_true_eq] at hb
          exact hb
    · obtain ⟨⟨v, rfl⟩, e2, q⟩ := q
      refine s_retE (ev_chain ev_c (ev_lenS (ev_var rfl) (by omega)) rv_I0 (fun _ => ev_c) fun _ => rv_I0) fun H3 e3 => k _ _ (e2.trans e3) ?_
      have hall : z.cps.toList.all (fun c => decide (c ∈ signs36.cps.toList)) = true := List.all_eq_true.mpr fun c hc => by
        rw [Array.mem_toList_iff] at hc
        obtain ⟨i, hi, e⟩ := Array.mem_iff_getElem.mp hc
        rw [decide_eq_true_eq]
        exact q i c hi (by rw [Array.getElem?_eq_getElem hi, e])
      show V.bl _ = V.bl (nameOk z)
      unfold nameOk
      rw [hall, Bool.true_and]
      have e1 : decide ((1 : Int) ≤ (z.length : Int)) = decide (1 ≤ z.length) := decide_eq_decide.mpr (by omega)
      have e3 : decide ((z.length : Int) ≤ 20) = decide (z.length ≤ 20) := decide_eq_decide.mpr (by omega)
      rw [e1, e3]
end
end L2.Tw
set_option Elab.async false
set_option linter.all false
set_option maxRecDepth 100000
set_option maxHeartbeats 4000000
set_option autoImplicit false
namespace L2.Tw
open PySem PySem.Spec PyProof.Rows L2
open C8 (Cal Met Mak pe_c pe_mk pe_mt pe_mt0 pe_gc InsC)
/-! ### a raise out of a loop over a locked dict -/
def NFz (X : Cx) (d : Addr) : Prop := ∀ o' u', X.H_0 d ≠ some (.frz o' u')
def WLk (X : Cx) (W : WX) : WX := fun cls d σ H => ∃ d0 od u, H d0 = some (.frz od u) ∧ NFz X d0 ∧ W cls d σ (upd H d0 u)
def tLockX (NF : Addr → Prop) (t : TS) : TS := fun D σ H => ∃ d u, H d = some u ∧ Mut (some u) ∧ ∀ od, NF d → t ⟨fun σ' H' => H' d = some (.frz od u) ∧ D.nx σ' (upd H' d u), fun v H' => H' d = some (.frz od u) ∧ D.rt v (upd H' d u), fun σ' H' => H' d = some (.frz od u) ∧ D.bk σ' (upd H' d u), fun σ' H' => H' d = some (.frz od u) ∧ D.ct σ' (upd H' d u)⟩ σ (upd H d (.frz od u))
section
variable {X : Cx}
theorem takes_lk {W : WX} (tk : Takes X W) : Takes X (WLk X W) := fun u s' ⟨a, B, sI, pins, σ, H, cls, d, e, I, nb, up, sky, na, os, ag, d0, od, u0, h0, nf, w⟩ =>
  tk u s' ⟨a, B, sI, pins, σ, upd H d0 u0, cls, d, e, I.unlock h0 nf, nb, up, sky, by
    rw [upd_ne (fun z => by rw [z, h0] at na; cases na)]
    exact na, os, ag, w⟩
theorem ps_lockX {st : Stmt} {t : TS} (h : PS X st t) : PS X st (tLockX (NFz X) t) := by
  refine ⟨fun pins s σ H D I hw => ?_⟩
  obtain ⟨d, u, hd, mu, hw⟩ := hw
  obtain ⟨od, I1⟩ := I.lock hd mu
  refine thn (h.run pins s σ _ _ I1 (hw od (I.nofrz hd mu))) fun f s1 q => ?_
  cases f with
  | next => obtain ⟨σ', H', I2, e, q⟩ := q; exact ⟨σ', _, I2.unlock e (I.nofrz hd mu), q⟩
  | brk => obtain ⟨σ', H', I2, e, q⟩ := q; exact ⟨σ', _, I2.unlock e (I.nofrz hd mu), q⟩
  | cont => obtain ⟨σ', H', I2, e, q⟩ := q; exact ⟨σ', _, I2.unlock e (I.nofrz hd mu), q⟩
  | ret v => obtain ⟨x, σ', H', I2, r, e, q⟩ := q; exact ⟨x, σ', _, I2.unlock e (I.nofrz hd mu), r, q⟩
end
/-! ### a method that may raise -/
def tMethS (C : Addr) (m : Str) (sp : Sp) (E : L2.St → XK) (ta : TE) (t : TA) : TE := fun σ H Q => ta σ H fun x H1 => ∃ a dx fs, x = .ref a ∧ H1 a = some (.ins C dx fs) ∧ fs.lookup m = none ∧ t σ H1 fun vs H2 => sp (.ref a :: vs) H2 Q (E σ)
section
variable {X : Cx} {CX : CXT} {k : Nat} {f C : Addr} {fd : FuncData} {ps : List Str} {sp : Sp} {E : L2.St → XK} {m : Str} {pos apos : Pos} {e o : Expr} {es : List Expr} {ta : TE} {t : TA}
theorem pe_methX {pl : Sem Bool} (he : PE X o ta) (c : Cls X.K C) (hm : Meth X.K C m f) (F : FnOk X.prog X.w X.K X.mg X.base CX k f fd ps sp) (hr : Room k X.A) (hb : Binds X.K fd ps []) (hx : ∀ σ, PassesAt CX X σ (E σ)) (ha : PA X (e :: es) t)
    (hst : starEach (e :: es) X.env = (false, eval e X.env) :: starEach es X.env := by rfl) (hpl : (backTo pos (starEach es X.env)).any (·.1) = false := by rfl)
    (ht : eval (.Call (.Attribute o m apos) (e :: es) [] pos) X.env = (do
      let ov ← eval o X.env
      standAt apos.atName
      let (f, first) ← holding [ov] (getMethod ov m pl)
      callWith pos f first (backTo pos (starEach (e :: es) X.env)) (backToKw pos (keywordEach [] X.env))) := by rfl) :
    PE X (.Call (.Attribute o m apos) (e :: es) [] pos) (tMethS C m sp E ta t) := by
  refine ⟨fun pins s σ H Q I h => ?_⟩
  refine PySem.W.methodCall_KW (pl := pl) (thn (he.run pins s σ H _ I h) fun u s1 ⟨x, H1, I1, rx, a, dx, fs, ex, ea, l, q⟩ => ?_) ht
  subst ex
  obtain rfl : u = Value.ref a := rx
  refine getmeth_ok I1 ea c hm l ?_
  refine PySem.W.callWith_K (first := [.ref a]) (h₀ := X.base) I.ok.mod.kin hm.kp (thn (ha.run pos pins s1 σ H1 _ I1 q) fun us s2 ⟨vs, H2, I2, r, q2⟩ => ⟨I2.kIn, ?_⟩) hst hpl
  exact run_fnS (us := .ref a :: us) (vs := .ref a :: vs) F hr hb (hx σ) I2 (.cons rfl r) q2
end
/-! ### an exception that was caught, held as a value -/
def ExT (cls : Value) (d : Option Addr) (a : Addr) : HO := .ext fun h => ∃ (oe : Obj) (vs : Array Value), h.get? a = some oe ∧ Zc cls d oe ∧ oe.data = .fields vs
section
variable {X : Cx} {pins : List (Addr × Obj)} {σ : L2.St} {H : Hp} {s : Shared}
theorem exT_ok {P : Program} {w : World} {H : Hp} {h : Heap} {a : Addr} {cls : Value} {d : Option Addr} {oe : Obj} (e : h.get? a = some oe) (z : Zc cls d oe) (hd : ∃ vs, oe.data = .fields vs) : ObjOk P w H h a (ExT cls d a) := by
  obtain ⟨vs, hd⟩ := hd
  exact ⟨⟨oe, vs, e, z, hd⟩, ⟨oe, e⟩, fun _ _ ⟨o, v, q, r⟩ k => ⟨o, v, k o q, r⟩⟩
/-- an object that is there and is not tracked may be tracked from now on, if it was not there at the entry -/
theorem Inv.track {a : Addr} {o : HO} (I : Inv X pins σ H s) (hn : H a = none) (n0 : X.s_0.heap.get? a = none) (hloc : a ≠ X.env.locals) (hc : ∀ x c, X.env.cells.lookup x = some c → c ≠ a) (hp : ∀ p ∈ X.pn ++ pins, p.1 ≠ a) (new : ObjOk X.prog X.w (upd H a o) s.heap a o) :
    Inv X pins σ (upd H a o) s := by
  have ne : ∀ {b : Addr} {u : HO}, H b = some u → b ≠ a := fun h z => by rw [z, hn] at h; cases h
  have ne0 : ∀ {b : Addr} {u : Obj}, X.s_0.heap.get? b = some u → b ≠ a := fun h z => by rw [z, n0] at h; cases h
  refine ⟨I.ok, I.os, I.bare, ⟨I.base.keep, I.base.slot, fun b u e n hx => ?_, I.base.there, fun b xs e => ?_, fun b u x e => ?_, fun b ps e => ?_⟩, I.loc, I.cell, ?_, fun x c e => ?_, fun p hpm => ?_, fun b u e => ?_, I.len⟩
  · rw [upd_ne (ne0 e)]
    exact I.base.free b u e n hx
  · have q := I.base.tups b xs e
    rw [upd_ne (ne q)]
    exact q
  · have q := I.base.frzs b u x e
    rw [upd_ne (ne q)]
    exact q
  · obtain ⟨m, q⟩ := I.base.tbls b ps e
    exact ⟨m, by rw [upd_ne (ne q)]; exact q⟩
  · rw [upd_ne (Ne.symm hloc)]
    exact I.free
  · rw [upd_ne (hc x c e)]
    exact I.freeC x c e
  · obtain ⟨h1, h2, h3⟩ := I.pin p hpm
    exact ⟨h1, by rw [upd_ne (hp p hpm)]; exact h2, h3⟩
  · by_cases hb : b = a
    · subst hb
      rw [upd_same] at e
      cases e
      exact new
    · rw [upd_ne hb] at e
      exact (I.hok b u e).stay (fun c v _ q => q) (fun c q => by rw [upd_ne (ne q)]; exact q) fun c xs q => by rw [upd_ne (ne q)]; exact q
end
/-- what the clause 'except x as n' wishes of an exception of the body: slot i is n's; behind the suite the exception is held -/
def wAsT (K : PySem.W.Frag) (c : Value) (i : Nat) (ts : Addr → Value → Option Addr → TS) (Wout : WX) (D : Ends) : WX := fun cls d σ H =>
  ∃ b, PySem.W.exmOne K cls c = some b ∧ (b = true → ∀ a, H a = none → ts a cls d { nx := fun σ' H' => H' a = none → D.nx (σ'.set i none) (upd H' a (ExT cls d a)), rt := fun _ _ => False, bk := fun _ _ => False, ct := fun _ _ => False } (σ.set i (some (.ref a))) H) ∧
    (b = false → Wout cls d σ H)
section
variable {X : Cx} {x n : Str} {c : Value} {i : Nat} {body suite : List Stmt} {b₀ : Stmt} {np pos pos' : Pos} {tb : WX → TS} {ts : Addr → Value → Option Addr → TS} {Wout : WX}
theorem ps_try_asT (hex : X.ex = []) (hs : X.stack = X.env :: X.outer) (hf : X.env.frame = some X.env.locals) (hN : X.N.Nodup) (hi : X.N[i]? = some n) (hln : X.env.kindOf n = some .local) (hc : Names X x c) (tk : Takes X Wout)
    (hb : ∀ (W : WX) (pn : List (Addr × Obj)) (xe : Value → Shared → Prop), Takes (X.tr pn xe) W → PassesOwn (model X.prog X.w) X.A X.env xe → PSs (X.tr pn xe) body (tb W))
    (hsu : ∀ (a : Addr) (oe : Obj) (cls : Value) (d : Option Addr) (pn : List (Addr × Obj)), Zc cls d oe → (∃ vs, oe.data = .fields vs) → PSs (X.suite a ((a, oe) :: pn)) (b₀ :: suite) (ts a cls d)) :
    PS X (.Try body [.ExceptHandler (some (.Name x np)) (some n) (b₀ :: suite) pos'] [] [] pos) (fun D σ H => tb (wAsT X.K c i ts Wout D) D σ H) := by
  refine ⟨fun pins s σ H D I h => ?_⟩
  have ok := I.ok
  have hfr : X.A.frames = some (X.env :: X.outer) := by rw [ok.frames, hs]
  have hloc : Loc X.env.scope n := .inl hln
  refine wpAny_Try_except ?_
  refine wpAny_mono ((hb (wAsT X.K c i ts Wout D) (X.pn ++ pins) (fun e s₁ => wpAny (model X.prog X.w) X.A (noteFrame e X.env) (fun _ s₂ => wpAny (model X.prog X.w) X.A (setFlight e none) (fun _ s₃ =>
    wpAny (model X.prog X.w) X.A (handleBy e X.env [.ExceptHandler (some (.Name x np)) (some n) (b₀ :: suite) pos']) (SP X pins D) X.xe s₃) X.xe s₂) X.xe s₁) (fun u s' xx => ?_) PassesOwn.looking).run [] s σ H D (I.toTry _) h) (fun f s1 hsp => ?_) (fun e s1 he => he)
  · -- the catch
    obtain ⟨a, B, sI, pins', σ', H', cls, d, rfl, J', nb, up, sky, na, os, ag, b, hb1, hyes, hno⟩ := xx
    have J : Inv X pins σ' H' sI := J'.ofTry ok
    have sky' : Sky B (X.env :: X.outer) a (Zc cls d) X.env.locals s'.heap := by rw [← hs]; exact sky
    show wpAny (model X.prog X.w) X.A (noteFrame (.ref a) X.env) _ _ _
    refine Sky.land Zc.steady hfr hf sky' fun h3 fl3 up3 => ?_
    have J3 : Inv X pins σ' H' { s' with heap := h3 } := J.landed nb fl3.1 (up.trans up3) os ag
    obtain ⟨oe3, vs3, he3, hz3, hd3⟩ := fl3.there
    have notFr : ∀ {h : Heap} {o : Obj} {vs : Array Value}, h.FunFrames B (X.env :: X.outer) → h.get? a = some o → o.data = .fields vs → a ∉ frs (X.env :: X.outer) := fun {h o vs} ff e dd hm => by
      obtain ⟨_, o', e', hnf⟩ := ff.mem hm
      rw [e] at e'; cases e'
      exact hnf _ dd
    have nfr := notFr fl3.2.2.1 he3 hd3
    have nL : a ≠ X.env.locals := fun z => nfr (List.mem_filterMap.mpr ⟨X.env, List.mem_cons_self, by rw [hf, z]⟩)
    have nF : a ∉ X.fs := fun hm => by
      obtain ⟨e, he, q⟩ := List.mem_filterMap.mp hm
      exact nfr (List.mem_filterMap.mpr ⟨e, List.mem_cons_of_mem _ he, q⟩)
    have S3 := J3.suite he3 hd3 na nL nF
    refine wpAny_handleBy_cons (codeAny_handlers_test ?_) (by intro q; cases q)
    have LT : PySem.W.Looks (model X.prog X.w) h3 (typeOf (.ref a)) cls := fun A Q E s k q => wpAny_typeOf_ref (k _ _ he3) (by rw [hz3.1]; exact q)
    have LM := PySem.W.exm_one (M := model X.prog X.w) (J3.kIn) LT hb1
    have test : ∀ {Q : Value → Shared → Prop} {E : Value → Shared → Prop}, Q c { s' with heap := h3 } → wpAny (model X.prog X.w) (X.A.mark (some (.ref a))) (eval (.Name x np) X.env) Q E { s' with heap := h3 } := fun {Q E} q => by
      obtain ⟨hg, hdbg, hm | ⟨hm, hv, hnn⟩⟩ := hc
      · exact ld_glob (X := X.suite a ((a, oe3) :: (X.pn ++ pins))) S3 hg hm q hdbg
      · exact ld_blt (X := X.suite a ((a, oe3) :: (X.pn ++ pins))) S3 hg hm hv q hnn hdbg
    refine test (LM.here ?_)
    cases b with
    | true =>
      refine codeAny_handlers_suite_as ?_
      refine HandSPX.lands_againZ fl3 fun h4 fl4 up4 => ?_
      have J4 : Inv X pins σ' H' { s' with heap := h4 } := J.landed nb fl4.1 ((up.trans up3).trans up4) os ag
      obtain ⟨oe4, vs4, he4, hz4, hd4⟩ := fl4.there
      have S4 := J4.suite he4 hd4 na nL nF
      refine store_ok (X := X.suite a ((a, oe4) :: (X.pn ++ pins))) (v := .ref a) S4 hN hi hloc rfl (fun s5 S5 => ?_) (.inr hln)
      refine wpAny_mono ((hsu a oe4 cls d (X.pn ++ pins) hz4 ⟨_, hd4⟩).run [] s5 _ H' _ S5 (hyes rfl a na)) (fun f s6 hsp => ?_) (fun _ _ z => False.elim z)
      cases f with
      | next =>
        obtain ⟨σ6, H6, S6, q6⟩ := hsp
        have S6' : Inv X ((a, oe4) :: pins) σ6 H6 s6 := ⟨ok, S6.os, S6.bare, S6.base, S6.loc, S6.cell, S6.free, S6.freeC, fun p hp => S6.pin p (by
          show p ∈ ((a, oe4) :: (X.pn ++ pins)) ++ []
          rw [List.append_nil]
          rcases List.mem_append.mp hp with h | h
          · exact List.mem_cons_of_mem _ (List.mem_append_left _ h)
          · rcases List.mem_cons.mp h with h | h
            · rw [h]
              exact List.mem_cons_self
            · exact List.mem_cons_of_mem _ (List.mem_append_right _ h)), S6.hok, S6.len⟩
        refine gone_ok S6' hN hi hln fun s7 J7 => ?_
        obtain ⟨p1, p2, p3, p4, p5⟩ := J7.pin (a, oe4) (List.mem_append_right _ List.mem_cons_self)
        have J8 : Inv X pins (σ6.set i none) H6 s7 := ⟨ok, J7.os, J7.bare, J7.base, J7.loc, J7.cell, J7.free, J7.freeC, fun p hp => J7.pin p (by
          rcases List.mem_append.mp hp with h | h
          · exact List.mem_append_left _ h
          · exact List.mem_append_right _ (List.mem_cons_of_mem _ h)), J7.hok, J7.len⟩
        have aI : sI.heap.get? a = none := by
          cases e : sI.heap.get? a with
          | none => rfl
          | some o =>
            have := nb a o e (by rw [hs]; exact nfr)
            rw [fl3.2.1] at this
            cases this
        have a0 : X.s_0.heap.get? a = none := by
          cases e : X.s_0.heap.get? a with
          | none => rfl
          | some o =>
            obtain ⟨o', h⟩ := J.base.there a o e (by rw [hex]; exact fun z => nomatch z)
            rw [aI] at h
            cases h
        refine ⟨_, _, Inv.track J8 p2 a0 p3 (fun x c ec z => ?_) (fun p hp z => ?_) (exT_ok p1 hz4 ⟨_, hd4⟩), q6 p2⟩
        · obtain ⟨v, o, ho, hv⟩ := J8.cell x c ec
          rw [z, p1] at ho
          cases ho
          exact p5 v hv
        · have := (J.pin p hp).1
          rw [z, aI] at this
          cases this
      | brk =>
        obtain ⟨σ6, H6, S6, q6⟩ := hsp
        exact q6.elim
      | cont =>
        obtain ⟨σ6, H6, S6, q6⟩ := hsp
        exact q6.elim
      | ret u =>
        obtain ⟨v6, σ6, H6, S6, r6, q6⟩ := hsp
        exact q6.elim
    | false =>
      show wpAny _ X.A (handleBy (.ref a) X.env []) _ _ _
      refine wpAny_handleBy_nil ?_
      obtain ⟨k1, k2, k3, oe, vs, T, oT, ts', he, hz, hd, h1, hr⟩ := id fl3
      unfold PySem.passOn
      refine wpAny_bind (wpAny_field he hd h1 ?_)
      rw [if_neg (show ¬ ((Value.ref T == Value.none) = true) from by simp)]
      have fin : wpAny (model X.prog X.w) X.A (setFlight (.ref a) X.env.frame) (fun _ s4 => wpAny (model X.prog X.w) X.A (throw (.ref a) : Sem Flow) (SP X pins D) X.xe s4) X.xe { s' with heap := h3 } := by
        rw [hf]
        refine HandSPX.setFlight_upZ fl3 fun h4 hh4 up4 => wpAny_throw (tk _ _ ?_)
        exact ⟨a, B, sI, pins, σ', H', cls, d, rfl, J, nb, (up.trans up3).trans up4, .inr (.inr (by rw [hs]; exact hh4)), na, os, ag, hno rfl⟩
      first
        | exact wpAny_bind (wpAny_pure (wpAny_bind fin))
        | exact wpAny_bind fin
  · cases f with
    | next =>
      obtain ⟨σ', H', J', q⟩ := hsp
      exact wpAny_execs_nil ⟨σ', H', J'.ofTry ok, q⟩
    | brk =>
      obtain ⟨σ', H', J', q⟩ := hsp
      exact ⟨σ', H', J'.ofTry ok, q⟩
    | cont =>
      obtain ⟨σ', H', J', q⟩ := hsp
      exact ⟨σ', H', J'.ofTry ok, q⟩
    | ret u =>
      obtain ⟨v, σ', H', J', r, q⟩ := hsp
      exact ⟨v, σ', H', J'.ofTry ok, r, q⟩
end
/-! ### isinstance, an exception among them -/
def TyE (K : PySem.W.Frag) (H : Hp) (x : V) (t : Value) : Prop := TyX K H x t ∨ ∃ D a, t = .ref D ∧ x = .ref a ∧ H a = some (ExT (.ref D) none a) ∧ ExcC K D
section
variable {X : Cx} {pins : List (Addr × Obj)} {σ : L2.St} {H : Hp} {s : Shared}
theorem kit_ofE {x : V} {u t : Value} (I : Inv X pins σ H s) (rx : RelV x u) (ty : TyE X.K H x t) : ∃ P : Heap → Prop, PySem.W.KitX X.K u t P ∧ P s.heap ∧ u ≠ .builtin "__main__.__loader__#opaque" := by
  rcases ty with ty | ⟨D, a, rfl, rfl, ha, C⟩
  · exact kit_of I rx ty
  · cases (show u = Value.ref a from rx)
    obtain ⟨⟨oe, vs, e, hz, hv⟩, _, _⟩ := I.hok a _ ha
    have J : PySem.W.InstAt s.heap a oe D none := by
      obtain ⟨oc, od, oda, osl⟩ := oe
      obtain ⟨h1, h2⟩ := hz
      dsimp only at h1 h2 hv
      subst h1 h2 hv
      exact ⟨e, rfl, rfl, trivial⟩
    exact ⟨_, PySem.W.handS_kitx_exc C.hg C.hk C.hs C.hd C.ha C.hn C.ht C.hm, J, fun z => nomatch z⟩
def rIsiE (K : PySem.W.Frag) : List V → Hp → VK → Prop := fun xs H Q => ∃ (x c : V) (t u : Value) (b : Bool), xs = [x, c] ∧ ClsV c u ∧ TyE K H x t ∧ PySem.W.kitOne K t u = some b ∧ Q (.bl b) H
def rIsiTE (K : PySem.W.Frag) : List V → Hp → VK → Prop := fun xs H Q => ∃ (x : V) (tp : Addr) (cs : List V) (t : Value) (us : List Value) (b : Bool), xs = [x, .ref tp] ∧ H tp = some (.tup cs) ∧ Paired ClsV cs us ∧ TyE K H x t ∧ PySem.W.kitAny K t us = some b ∧ Q (.bl b) H
theorem call_isiE : CallR X (.builtin "isinstance") (rIsiE X.K) := by
  intro pins s σ H xs us Q I r h
  obtain ⟨x, c, t, u, b, rfl, k, ty, e, q⟩ := h
  obtain ⟨u1, u2, rfl, r1, r2⟩ := vals2 r
  have e2 := k.eq r2
  subst e2
  obtain ⟨P, Z, p, hx⟩ := kit_ofE I r1 ty
  exact PySem.W.kia_one Z I.kIn p e hx fun tk => ⟨.bl b, H, I.tok tk, rfl, q⟩
theorem call_isiTE : CallR X (.builtin "isinstance") (rIsiTE X.K) := by
  intro pins s σ H xs us Q I r h
  obtain ⟨x, tp, cs, t, ws, b, rfl, hT, k, ty, e, q⟩ := h
  obtain ⟨u1, u2, rfl, r1, r2⟩ := vals2 r
  cases (show u2 = Value.ref tp from r2)
  obtain ⟨P, Z, p, hx⟩ := kit_ofE I r1 ty
  obtain ⟨_, its, rv, o, h1, h2, n, h3⟩ := (show ObjOk X.prog X.w H s.heap tp (.tup cs) from I.hok tp _ hT)
  have e3 := ClsV.all k rv
  subst e3
  obtain ⟨oc, od, dt, sl⟩ := o
  simp only at h2 h3
  subst h2 h3
  exact PySem.W.kia_tup Z I.kIn p h1 e hx fun tk => ⟨.bl b, H, I.tok tk, rfl, q⟩
end
/-! ### facts of the own exceptions -/
theorem isB_ok {o : Option (Option Value)} {b : String} (h : isB o b = true) : o = some (some (.builtin b)) := by
  unfold isB at h
  split at h
  · rw [beq_iff_eq] at h
    rw [h]
  · cases h
theorem tyB_ok {o : Option Value} (h : tyB o = true) : o = some (.type "type") := by
  unfold tyB at h
  split at h
  · rw [beq_iff_eq] at h
    rw [h]
  · cases h
theorem noB_ok {o : Option (Option Value)} (h : noB o = true) : o = some none := by
  unfold noB at h
  split at h
  · rfl
  · cases h
structure ExF (K : PySem.W.Frag) (x : Str) : Prop where
  ex : PySem.W.excIn K (He.ga K x) veB "ValueError.__new__" = true
  kp : PySem.W.keepIn K (.ref (He.ga K x)) = true
  sb : PySem.W.subIn K (.ref (He.ga K x)) (.type "BaseException") = some true
  ty : PySem.W.typeIn K (.ref (He.ga K x)) = some (.type "type")
  em : PySem.W.exmOne K (.ref (He.ga K x)) (.ref (He.ga K "WebError")) = some true
  kv : PySem.W.kitOne K (.ref (He.ga K x)) (.type "ValueError") = some true
  ko : ∀ y ∈ exN, PySem.W.kitOne K (.ref (He.ga K x)) (.ref (He.ga K y)) = some (decide (x = y))
  ka : PySem.W.kitAny K (.ref (He.ga K x)) (exO.map fun y => .ref (He.ga K y)) = some false
  cc : ExcC K (He.ga K x)
theorem exF_of {K : PySem.W.Frag} {x : Str} (h : excB K x = true) : ExF K x := by
  have q := List.all_eq_true.mp h
  have m : ∀ {i : Nat} {b : Bool}, (bitsB K x)[i]? = some b → b = true := fun e => q _ (List.mem_of_getElem? e)
  exact ⟨m (i := 0) rfl, m (i := 1) rfl, of_decide_eq_true (m (i := 2) rfl), tyB_ok (m (i := 3) rfl), of_decide_eq_true (m (i := 4) rfl), of_decide_eq_true (m (i := 5) rfl),
    fun y hy => of_decide_eq_true (List.all_eq_true.mp (m (i := 6) rfl) y hy), of_decide_eq_true (m (i := 7) rfl), ⟨isB_ok (m (i := 8) rfl), noB_ok (m (i := 9) rfl), of_decide_eq_true (m (i := 2) rfl), m (i := 10) rfl, isB_ok (m (i := 11) rfl), isB_ok (m (i := 12) rfl), of_decide_eq_true (m (i := 13) rfl), of_decide_eq_true (m (i := 14) rfl)⟩⟩
/-! ### the promise of a method that may raise -/
structure MetX (P : Program) (w : World) (K : PySem.W.Frag) (mg : Str → Option Value) (base : Heap) (k : Nat) (C : Addr) (m : Str) (sp : Sp) : Prop where
  ex : ∃ (f : Addr) (fd : FuncData) (ps : List Str), Cls K C ∧ Meth K C m f ∧ FnOk P w K mg base (L2.CX P w) k f fd ps sp ∧ Binds K fd ps []
section
variable {K : PySem.W.Frag} {mg : Str → Option Value} {P : Program} {w : World} {base : Heap}
theorem TX.metX (T : TX K mg) (d : He.DefD) (C m : Str) {N ps : List Str} {k : Nat} {sp : Sp} (hd : d ∈ fnL) (h0 : d.at_ = (C, some m)) (hc : C ∈ clsL) (hm : (C, m) ∈ mthL) (S : FnScope N ps d.scope)
    (hb : ∀ (kV doc pm : Value) (an : Option Addr) (cdv ct : Value) (us : List Value), us.length = ps.length → bindArgs (PySem.W.fnOf d.name d.qual d.params d.body d.scope .none kV doc pm an cdv ct) ⟨us, []⟩ = pure (ps.zip us))
    (len : ∀ vs H Q E, sp vs H Q E → vs.length = ps.length)
    (hbody : ∀ (cdv : Value) (A : Around) (outer : List Env) (s : Shared) (H : Hp) (vs : List V) (Q : VK) (E : XK) (f : Addr), Room k (A.deeper (envOfC d.qual d.scope s.heap.objs.size f cdv)) → sp vs H Q E →
      ∃ t, PSs (cxOf (L2.CX P w) P w K mg base N d.qual d.scope f cdv A outer s H E) d.body t ∧ t { nx := fun _ H' => Q .non H', rt := Q } (start N vs) H) : MetX P w K mg base (k + 1) (He.ga K C) m sp := by
  obtain ⟨fd, F⟩ := T.defs d hd
  rw [h0] at F
  refine ⟨_, fd, ps, T.cls C hc, T.meth C m hm, F.ok S len fun cdv A outer s H vs Q E hr h => ?_, F.bindsN hb⟩
  exact hbody cdv A outer s H vs Q E _ hr h
end
section
variable {X : Cx} {k j : Nat} {C : Addr} {sp : Sp} {E : L2.St → XK} {m : Str} {pos apos : Pos} {e o : Expr} {es : List Expr} {ta : TE} {t : TA}
theorem pe_mtX {pl : Sem Bool} (c : MetX X.prog X.w X.K X.mg X.base k C m sp) (hr : Room j X.A) (hk : k ≤ j) (hx : ∀ σ, PassesAt (L2.CX X.prog X.w) X σ (E σ)) (he : PE X o ta) (ha : PA X (e :: es) t)
    (hst : starEach (e :: es) X.env = (false, eval e X.env) :: starEach es X.env := by rfl) (hpl : (backTo pos (starEach es X.env)).any (·.1) = false := by rfl)
    (ht : eval (.Call (.Attribute o m apos) (e :: es) [] pos) X.env = (do
      let ov ← eval o X.env
      standAt apos.atName
      let (f, first) ← holding [ov] (getMethod ov m pl)
      callWith pos f first (backTo pos (starEach (e :: es) X.env)) (backToKw pos (keywordEach [] X.env))) := by rfl) :
    PE X (.Call (.Attribute o m apos) (e :: es) [] pos) (tMethS C m sp E ta t) := by
  obtain ⟨f, fd, ps, hc, hm, F, b⟩ := c.ex
  exact pe_methX he hc hm F (hr.mono hk) b hx ha hst hpl ht
end
end L2.Tw
set_option Elab.async false
set_option linter.all false
set_option maxRecDepth 100000
set_option maxHeartbeats 4000000
set_option autoImplicit false
namespace L2.Tw
open PySem PySem.Spec PyProof.Rows L2
open C8 (Cal Met Mak pe_c pe_mk pe_mt pe_mt0 pe_gc InsC)
open Evl (Ex Ev EvT EvA fresh_back ex_l ex_t ex_rd sq_of st_of sz_of sz_lt ev_var ev_c ev_op rv_I0 rv_I rv_eq rv_ne et_test et_or et_and et_not et_B s_if ea_nil ea_cons q_asg q_when)
/-! ### a copy of a web -/
def copyW (W : Wb) : Wb := mkW W.kinds W.ties
theorem bt_copy (W : Wb) (i j : Nat) : bt (copyW W) i j = bt W i j := bt_mk W.kinds W.ties i j
theorem copy_ok {W : Wb} (h : WOk W) : WOk (copyW W) := mkW_ok h
theorem iso_copy (W : Wb) : Iso (List.range W.n) W (copyW W) := by
  have I := iso_refl W
  exact ⟨I.ord, rfl, fun i hi => I.kd i hi, fun i j hi hj hne => by rw [bt_copy]; exact I.bt i j hi hj hne⟩
theorem can_iso {τ : List Nat} {W W' : Wb} {o : List Nat} (I : Iso τ W W') (c : Can W o) : ∃ o', Can W' o' := by
  obtain ⟨q, s, e⟩ := c
  obtain ⟨o', h1, _⟩ := e.rel I (s.part (part_first W))
  have s2 := s.rel I
  rw [← first_rel I] at s2
  exact ⟨o', rel τ q, s2, h1⟩
theorem textOf_iso {τ : List Nat} {W W' : Wb} {T : Str} (hw : WOk W) (hw' : WOk W') (h3 : W.n ≤ 3) (I : Iso τ W W') (h : TextOf W T) : TextOf W' T := by
  obtain ⟨o, c, e⟩ := h
  obtain ⟨o', c'⟩ := can_iso I c
  have : T = txt (turnW W' o') := (text_iso hw hw' h3 (by rw [I.n]; exact h3) ⟨o, c, e⟩ ⟨o', c', rfl⟩).mpr ⟨τ, I⟩
  exact ⟨o', c', this⟩
/-! ### the book -/
structure BRow where
  text : Str
  name : Str
  W : Wb
def BRowAt (K : PySem.W.Frag) (H : Hp) (kv : L2.Key × V) (r : BRow) : Prop := kv.1 = Sum.inr r.text ∧ ∃ a wp, kv.2 = .ref a ∧ H a = some (.tup [.str r.name, .ref wp]) ∧ WebAt K H wp r.W ∧ WOk r.W ∧ r.W.n ≤ 3 ∧ TextOf r.W r.text
structure BookAt (K : PySem.W.Frag) (H : Hp) (bp hd : Addr) (rows : List BRow) : Prop where
  out : ∃ dx kvs, H bp = some (.ins (He.ga K "Webbook") dx [("held", .ref hd)]) ∧ H hd = some (.dK kvs) ∧ Paired (BRowAt K H) kvs rows
  nd : (rows.map (·.text)).Nodup
  len : rows.length ≤ 60
theorem web_but {K : PySem.W.Frag} {H H' : Hp} {p x : Addr} {kvs : List (L2.Key × V)} {W : Wb} (hx : H x = some (.dK kvs)) (b : But x H H') (h : WebAt K H p W) : WebAt K H' p W := by
  obtain ⟨dx, vk, vt, g, h1, h2, h3, kv, h4, h5⟩ := h.out
  refine ⟨dx, vk, vt, g, b _ _ h1 (ne_of h1 hx (by intro z; cases z)), dp_but hx rfl b h2, dp_but hx rfl b h3, kv, b _ _ h4 (ne_of h4 hx (by intro z; cases z)), fun i j => ⟨(h5 i j).1, fun hn => ?_⟩⟩
  obtain ⟨v, h6, h7⟩ := (h5 i j).2 hn
  exact ⟨v, h6, dp_but hx rfl b h7⟩
theorem brow_ex {K : PySem.W.Frag} {H H' : Hp} {kv : L2.Key × V} {r : BRow} (e : Ex H H') (h : BRowAt K H kv r) : BRowAt K H' kv r := by
  obtain ⟨h1, a, wp, h2, h3, h4, h5⟩ := h
  exact ⟨h1, a, wp, h2, e _ _ h3, web_ex e h4, h5⟩
theorem brow_but {K : PySem.W.Frag} {H H' : Hp} {x : Addr} {kvs : List (L2.Key × V)} {kv : L2.Key × V} {r : BRow} (hx : H x = some (.dK kvs)) (b : But x H H') (h : BRowAt K H kv r) : BRowAt K H' kv r := by
  obtain ⟨h1, a, wp, h2, h3, h4, h5⟩ := h
  exact ⟨h1, a, wp, h2, b _ _ h3 (ne_of h3 hx (by intro z; cases z)), web_but hx b h4, h5⟩
theorem paired_mono {α β : Type} {F G : α → β → Prop} : ∀ {l : List α} {m : List β}, Paired F l m → (∀ a b, F a b → G a b) → Paired G l m
  | _, _, .nil, _ => .nil
  | _, _, .cons r t, f => .cons (f _ _ r) (paired_mono t f)
theorem paired_snoc {α β : Type} {F : α → β → Prop} {a : α} {b : β} : ∀ {l : List α} {m : List β}, Paired F l m → F a b → Paired F (l ++ [a]) (m ++ [b])
  | _, _, .nil, h => .cons h .nil
  | _, _, .cons r t, h => .cons r (paired_snoc t h)
theorem paired_len {α β : Type} {F : α → β → Prop} : ∀ {l : List α} {m : List β}, Paired F l m → l.length = m.length
  | _, _, .nil => rfl
  | _, _, .cons _ t => by rw [List.length_cons, List.length_cons, paired_len t]
theorem paired_at {α β : Type} {F : α → β → Prop} : ∀ {l : List α} {m : List β}, Paired F l m → ∀ {i : Nat} {a : α}, l[i]? = some a → ∃ b, m[i]? = some b ∧ F a b
  | _, _, .nil, i, a, h => by simp at h
  | x :: _, _, .cons r t, 0, a, h => ⟨_, rfl, by
    have e : x = a := by simpa using h
    subst e
    exact r⟩
  | _, _, .cons r t, i + 1, a, h => by
    obtain ⟨b, h1, h2⟩ := paired_at t (i := i) (a := a) (by simpa using h)
    exact ⟨b, by simpa using h1, h2⟩
theorem BookAt.more {K : PySem.W.Frag} {H H' : Hp} {bp hd : Addr} {rows : List BRow} (B : BookAt K H bp hd rows) (e : Ex H H') : BookAt K H' bp hd rows := by
  obtain ⟨dx, kvs, h1, h2, h3⟩ := B.out
  exact ⟨⟨dx, kvs, e _ _ h1, e _ _ h2, paired_mono h3 fun _ _ => brow_ex e⟩, B.nd, B.len⟩
/-- what stands at a text -/
theorem book_look {K : PySem.W.Frag} {H : Hp} {T : Str} : ∀ {kvs : List (L2.Key × V)} {rows : List BRow}, Paired (BRowAt K H) kvs rows →
    ((∀ r ∈ rows, r.text ≠ T) ∧ valV kvs (Sum.inr T) = none) ∨ ∃ r v, r ∈ rows ∧ r.text = T ∧ valV kvs (Sum.inr T) = some v ∧ BRowAt K H (Sum.inr T, v) r
  | _, _, .nil => .inl ⟨fun r h => (by cases h), rfl⟩
  | (k, v) :: kvs, r :: rows, .cons h t => by
    obtain ⟨h1, h2⟩ := h
    by_cases c : r.text = T
    · subst c
      have h1' : k = Sum.inr r.text := h1
      subst h1'
      exact .inr ⟨r, v, List.mem_cons_self, rfl, valV_pos rfl, rfl, h2⟩
    · have hne : ¬ (k, v).1 = (Sum.inr T : L2.Key) := fun z => c (by
        have h1' : k = Sum.inr r.text := h1
        rw [h1'] at z
        exact Sum.inr.inj z)
      rcases book_look (T := T) t with ⟨q1, q2⟩ | ⟨r', v', q1, q2, q3, q4⟩
      · refine .inl ⟨fun x hx => ?_, by rw [valV_neg hne]; exact q2⟩
        rcases List.mem_cons.mp hx with e | hx
        · rw [e]
          exact c
        · exact q1 x hx
      · exact .inr ⟨r', v', List.mem_cons_of_mem _ q1, q2, by rw [valV_neg hne]; exact q3, q4⟩
theorem book_keys {K : PySem.W.Frag} {H : Hp} : ∀ {kvs : List (L2.Key × V)} {rows : List BRow}, Paired (BRowAt K H) kvs rows → kvs.map (·.1) = (rows.map (·.text)).map Sum.inr
  | _, _, .nil => rfl
  | (k, v) :: kvs, r :: rows, .cons h t => by
    rw [List.map_cons, List.map_cons, List.map_cons, book_keys t]
    exact congrArg (· :: _) h.1
theorem row_uniq {rows : List BRow} (nd : (rows.map (·.text)).Nodup) {r r' : BRow} (h : r ∈ rows) (h' : r' ∈ rows) (e : r.text = r'.text) : r = r' := by
  obtain ⟨i, hi⟩ := List.getElem?_of_mem h
  obtain ⟨j, hj⟩ := List.getElem?_of_mem h'
  have : i = j := nd_idx nd (x := r.text) (by rw [List.getElem?_map, hi]; rfl) (by rw [List.getElem?_map, hj, e]; rfl)
  subst this
  rw [hi] at hj
  exact Option.some.inj hj
section
variable {P : Program} {w : World} {K : PySem.W.Frag} {mg : Str → Option Value} {base : Heap}
theorem ep_written {σ : L2.St} {H : Hp} {te : TE} {E : XK} {wp : Addr} {W : Wb} (hw : WebAt K H wp W) (hok : WOk W) (h3 : W.n ≤ 3) (h : Ev te σ H (.ref wp)) : EvP (tCall (spWritten K) [] E (tCons te tNil)) σ H (fun v _ => ∃ T, TextOf W T ∧ v = .str T) :=
  ep_call W (eap_of (vs := [.ref wp]) (ea_cons h ea_nil)) (fun vs H2 e2 h => by
    subst h
    exact ⟨wp, rfl, web_ex e2 hw, hok, h3⟩) fun H2 v H3 e2 e3 h => by
    obtain ⟨o, h1, h2⟩ := h
    exact ⟨_, ⟨o, h1, rfl⟩, h2⟩
/-! ### Webbook() -/
def spBook (K : PySem.W.Frag) : Sp := fun vs H Q _ => ∃ x dx, vs = [.ref x] ∧ H x = some (.ins (He.ga K "Webbook") dx []) ∧ ∀ H' hd, But x H H' → H hd = none → BookAt K H' x hd [] → Q .non H'
theorem k_Webbook_ok (T : TX K mg) : Mak P w K mg base 1 "Webbook" (He.ga K "Webbook") (spBook K) [] := by
  refine T.mak d_Webbook_init "Webbook" (N := ["self"]) (ps := ["self"]) (List.mem_of_getElem? (i := 38) rfl) rfl (by decide +kernel) (by decide +kernel) sc_Webbook_init (fun _ _ _ _ _ _ us hl => match us, hl with | [_], _ => rfl) (fun vs H Q E h => ?_) (fun cdv A outer s H vs Q E f hr h => ?_)
  · obtain ⟨x, dx, rfl, _⟩ := h
    rfl
  · obtain ⟨x, dx, rfl, hx, k⟩ := h
    have sc := sc_Webbook_init
    refine ⟨_, pss_one (ps_fld (pv 0) (pe_dnewK) rfl), ?_⟩
    intro hd h0
    refine ⟨_, rfl, x, _, dx, [], rfl, (Evl.Ex.new h0) _ _ hx, T.cls "Webbook", T.noat "Webbook" "held", by decide, ?_⟩
    have hne : hd ≠ x := fun z => by
      rw [z, hx] at h0
      cases h0
    exact k _ hd (ex_but (Evl.Ex.new h0) But.upd) h0 ⟨⟨dx, [], upd_same, by rw [upd_ne hne, upd_same], .nil⟩, List.nodup_nil, Nat.zero_le _⟩
/-! ### name_of -/
def spNameOf (K : PySem.W.Frag) : Sp := spP (fun (x : Wb × Addr × Addr × List BRow) vs H => ∃ wp, vs = [.ref x.2.1, .ref wp] ∧ BookAt K H x.2.1 x.2.2.1 x.2.2.2 ∧ WebAt K H wp x.1 ∧ WOk x.1 ∧ x.1.n ≤ 3)
  (fun x _ v _ => ∃ T, TextOf x.1 T ∧ (((∀ r ∈ x.2.2.2, r.text ≠ T) ∧ v = .non) ∨ ∃ r ∈ x.2.2.2, r.text = T ∧ v = .str r.name))
/-- self.held.get(written(web)) -/
theorem ep_held {σ : L2.St} {H : Hp} {E : XK} {ts tw : TE} {bp hd wp : Addr} {rows : List BRow} {W : Wb} (T : TX K mg) (B : BookAt K H bp hd rows) (hw : WebAt K H wp W) (hok : WOk W) (h3 : W.n ≤ 3) (hs : Ev ts σ H (.ref bp)) (h : Ev tw σ H (.ref wp)) :
    EvP (tDGet1 (tFld K ts "held") (tCall (spWritten K) [] E (tCons tw tNil))) σ H (fun v H' => ∃ T, TextOf W T ∧ (((∀ r ∈ rows, r.text ≠ T) ∧ v = .non) ∨ ∃ r ∈ rows, r.text = T ∧ BRowAt K H' (Sum.inr T, v) r)) := fun H1 e1 Q q => by
  obtain ⟨dx, kvs, h1, h2, h3'⟩ := B.out
  refine ev_fld (v := .ref hd) hs h1 (T.cls "Webbook") (T.noat "Webbook" "held") rfl H1 e1 _ fun H2 e2 => ⟨hd, rfl, .inl ⟨kvs, .inl (e2 _ _ (e1 _ _ h2))⟩, ?_⟩
  refine ep_written hw hok h3 h H2 (e1.trans e2) _ fun v H3 e3 hv => ?_
  obtain ⟨T, hT, rfl⟩ := hv
  have e13 := e1.trans (e2.trans e3)
  refine ⟨valV kvs (Sum.inr T), DGet.k (k := Sum.inr T) (e13 _ _ h2), ?_⟩
  rcases book_look (T := T) h3' with ⟨q1, q2⟩ | ⟨r, v, q1, q2, q3, q4⟩
  · rw [q2]
    exact q _ _ (e2.trans e3) ⟨T, hT, .inl ⟨q1, rfl⟩⟩
  · rw [q3]
    exact q _ _ (e2.trans e3) ⟨T, hT, .inr ⟨r, q1, q2, brow_ex e13 q4⟩⟩
theorem m_name_of (T : TX K mg) : Met P w K mg base 23 (He.ga K "Webbook") "name_of" (spNameOf K) [] := by
  refine T.met d_Webbook_name_of "Webbook" "name_of" (N := ["self", "web", "found"]) (ps := ["self", "web"]) (List.mem_of_getElem? (i := 40) rfl) rfl (by decide +kernel) (by decide +kernel) sc_Webbook_name_of (fun _ _ _ _ _ _ us hl => match us, hl with | [_, _], _ => rfl) (fun vs H Q E h => ?_) (fun cdv A outer s H vs Q E f hr h => ?_)
  · obtain ⟨x, ⟨p, rfl, _⟩, _⟩ := h
    rfl
  · obtain ⟨⟨W, bp, hd, rows⟩, ⟨wp, rfl, B, hw, hok, h3⟩, k⟩ := h
    dsimp only at B hw hok h3 k ⊢
    have sc := sc_Webbook_name_of
    have c_written := cal_written (P := P) (w := w) (base := base) T
    refine ⟨_, pss_cons (ps_set (i := 2) sc.nd rfl (by first | exact Or.inl rfl | exact Or.inr rfl) (pe_dget1 (hu_of hr) (pe_fld (pv 0) rfl) (pe_c c_written hr (by decide) rfl (pa_cons (pv 1) pa_nil)) ⟨rfl, rfl, rfl, rfl⟩))
    (pss_cons (ps_if (pt_cmpR op_isN (pv 2) (pe_non) (by rfl))
    (pss_one (ps_ret (pe_non)))
    (pss_nil))
    (pss_one (ps_ret (pe_ix ix_tup (pv 2) (pe_int) (fun _ _ => rfl))))), ?_⟩
    refine q_asgP (ep_held T B hw hok h3 (ev_var rfl) (ev_var rfl)) fun v H1 e1 hv => ?_
    obtain ⟨Tx, hT, hv⟩ := hv
    refine q_when (et_test (ev_op (ev_var rfl) ev_c rv_isN)) (fun hb H2 e2 => ?_) fun hb H2 e2 => ?_
    · refine s_retE ev_c fun H3 e3 => k _ _ ((e1.trans e2).trans e3) ⟨Tx, hT, ?_⟩
      have hn := of_decide_eq_true hb
      rcases hv with ⟨q1, q2⟩ | ⟨r, q1, q2, _, a, wp', q3, _⟩
      · exact .inl ⟨q1, rfl⟩
      · have q3' : v = .ref a := q3
        rw [hn] at q3'
        cases q3'
    · have hn := of_decide_eq_false hb
      rcases hv with ⟨q1, q2⟩ | ⟨r, q1, q2, _, a, wp', q3, q4, _⟩
      · exact absurd q2 hn
      · have q3' : v = .ref a := q3
        subst q3'
        refine s_retE (ev_op (ev_var rfl) ev_c (Evl.rv_ixT (st_of (e2 _ _ q4)) (atI_nat (j := 0) rfl))) fun H3 e3 => k _ _ ((e1.trans e2).trans e3) ⟨Tx, hT, .inr ⟨r, q1, q2, rfl⟩⟩
/-! ### shown -/
def spShown (K : PySem.W.Frag) : Sp := spP (fun (x : Wb × Addr × Addr × List BRow) vs H => ∃ wp, vs = [.ref x.2.1, .ref wp] ∧ BookAt K H x.2.1 x.2.2.1 x.2.2.2 ∧ WebAt K H wp x.1 ∧ WOk x.1 ∧ x.1.n ≤ 3)
  (fun x _ v H' => ∃ T, TextOf x.1 T ∧ (((∀ r ∈ x.2.2.2, r.text ≠ T) ∧ v = .non) ∨ ∃ r ∈ x.2.2.2, r.text = T ∧ ∃ t a τ, v = .ref t ∧ H' t = some (.tup [.str r.name, .ref a]) ∧ H' a = some (.lst (natsV τ)) ∧ Iso τ r.W x.1))
theorem m_shown (T : TX K mg) : Met P w K mg base 23 (He.ga K "Webbook") "shown" (spShown K) [] := by
  refine T.met d_Webbook_shown "Webbook" "shown" (N := ["self", "web", "found"]) (ps := ["self", "web"]) (List.mem_of_getElem? (i := 41) rfl) rfl (by decide +kernel) (by decide +kernel) sc_Webbook_shown (fun _ _ _ _ _ _ us hl => match us, hl with | [_, _], _ => rfl) (fun vs H Q E h => ?_) (fun cdv A outer s H vs Q E f hr h => ?_)
  · obtain ⟨x, ⟨p, rfl, _⟩, _⟩ := h
    rfl
  · obtain ⟨⟨W, bp, hd, rows⟩, ⟨wp, rfl, B, hw, hok, h3⟩, k⟩ := h
    dsimp only at B hw hok h3 k ⊢
    have sc := sc_Webbook_shown
    have c_written := cal_written (P := P) (w := w) (base := base) T
    have c_pairing := cal_pairing (P := P) (w := w) (base := base) T
    refine ⟨_, pss_cons (ps_set (i := 2) sc.nd rfl (by first | exact Or.inl rfl | exact Or.inr rfl) (pe_dget1 (hu_of hr) (pe_fld (pv 0) rfl) (pe_c c_written hr (by decide) rfl (pa_cons (pv 1) pa_nil)) ⟨rfl, rfl, rfl, rfl⟩))
    (pss_cons (ps_if (pt_cmpR op_isN (pv 2) (pe_non) (by rfl))
    (pss_one (ps_ret (pe_non)))
    (pss_nil))
    (pss_one (ps_ret (pe_tup (pa_cons (pe_ix ix_tup (pv 2) (pe_int) (fun _ _ => rfl)) (pa_cons (pe_c c_pairing hr (by decide) rfl (pa_cons (pe_ix ix_tup (pv 2) (pe_int) (fun _ _ => rfl)) (pa_cons (pv 1) pa_nil))) pa_nil)))))), ?_⟩
    refine q_asgP (ep_held T B hw hok h3 (ev_var rfl) (ev_var rfl)) fun v H1 e1 hv => ?_
    obtain ⟨Tx, hT, hv⟩ := hv
    refine q_when (et_test (ev_op (ev_var rfl) ev_c rv_isN)) (fun hb H2 e2 => ?_) fun hb H2 e2 => ?_
    · refine s_retE ev_c fun H3 e3 => k _ _ ((e1.trans e2).trans e3) ⟨Tx, hT, ?_⟩
      have hn := of_decide_eq_true hb
      rcases hv with ⟨q1, q2⟩ | ⟨r, q1, q2, _, a, wp', q3, _⟩
      · exact .inl ⟨q1, rfl⟩
      · have q3' : v = .ref a := q3
        rw [hn] at q3'
        cases q3'
    · have hn := of_decide_eq_false hb
      rcases hv with ⟨q1, q2⟩ | ⟨r, q1, q2, _, a, wp', q3, q4, q5, q6, q7, q8⟩
      · exact absurd q2 hn
      · have q3' : v = .ref a := q3
        subst q3'
        obtain ⟨τ0, I0⟩ := (text_iso q6 hok q7 h3 q8 (q2 ▸ hT)).mp rfl
        have ix : ∀ {H3 : Hp} {n : Nat} {y : V}, Ex H2 H3 → [V.str r.name, V.ref wp'][n]? = some y → Ev (tOp (rIxT K) (tVar 2) (tC (.int (n : Int)))) [some (.ref bp), some (.ref wp), some (.ref a)] H3 y := fun e3 hy => ev_op (ev_var rfl) ev_c (Evl.rv_ixT (st_of (e3 _ _ (e2 _ _ q4))) (atI_nat hy))
        refine s_retP (ep_tupA (ea_consV (v := .str r.name) (ix (n := 0) (Evl.Ex.refl _) rfl) (ea_consP (P := fun v H' => ∃ τ, Iso τ r.W W ∧ NewL K H2 (natsL τ) v H') (ep_call (r.W, W) (eap_of (vs := [.ref wp', .ref wp]) (ea_cons (ix (n := 1) (Evl.Ex.refl _) rfl) (ea_cons (ev_var rfl) ea_nil))) (fun vs H3 e3 h => by
          subst h
          exact ⟨wp', wp, rfl, web_ex (e2.trans e3) q5, web_ex (e1.trans (e2.trans e3)) hw, q6, hok, q7, τ0, I0⟩) fun H3 v H4 e3 e4 h => by
          obtain ⟨τ, g1, g2⟩ := h
          exact ⟨τ, g1, NewL.up e3 g2⟩) (fun v H1 H2 e h => by
          obtain ⟨τ, g1, g2⟩ := h
          exact ⟨τ, g1, g2.ex e⟩) ea_nilP)) fun vs H3 h => ?_) fun v H3 e3 h => ?_
        · obtain ⟨r1, rfl, x, r2, rfl, _, rfl⟩ := h
          simp
        · obtain ⟨t, vs, H4, rfl, t0, t1, t2, e4, ⟨r1, rfl, y, r2, rfl, ⟨τ, g1, g2⟩, rfl⟩, e5⟩ := h
          obtain ⟨ol, rfl, ol0, ol1⟩ := newL_nats g2
          exact k _ _ ((e1.trans e2).trans e3) ⟨Tx, hT, .inr ⟨r, q1, q2, t, ol, τ, rfl, t2, e5 _ _ ol1, g1⟩⟩
end
end L2.Tw
set_option Elab.async false
set_option linter.all false
set_option maxRecDepth 100000
set_option maxHeartbeats 4000000
set_option autoImplicit false
namespace L2.Tw
open PySem PySem.Spec PyProof.Rows L2
open C8 (Cal Met Mak pe_c pe_mk pe_mt pe_mt0 pe_gc InsC)
open Evl (Ex Ev EvT EvA fresh_back ex_l ex_t ex_rd sq_of st_of sz_of sz_lt ev_var ev_c ev_op rv_I0 rv_I rv_eq rv_ne et_test et_or et_and et_not et_B s_if ea_nil ea_cons q_asg q_when)
section
variable {P : Program} {w : World} {K : PySem.W.Frag} {mg : Str → Option Value} {base : Heap}
/-! ### many -/
def spMany (K : PySem.W.Frag) : Sp := spP (fun (x : Addr × Addr × List BRow) vs H => vs = [.ref x.1] ∧ BookAt K H x.1 x.2.1 x.2.2) (fun x _ v _ => v = .int (x.2.2.length : Int))
theorem ev_lenDK {σ : L2.St} {H : Hp} {te : TE} {a : Addr} {kvs : List (L2.Key × V)} (h : Ev te σ H (.ref a)) (ha : H a = some (.dK kvs)) : Ev (tCB (fun xs H Q => ∃ a kvs, xs = [V.ref a] ∧ H a = some (.dK kvs) ∧ Q (.int kvs.length) H) (tCons te tNil)) σ H (.int (kvs.length : Int)) := fun H1 e Q q =>
  h H1 e _ fun H2 e2 => ⟨a, kvs, rfl, (e.trans e2) _ _ ha, q H2 e2⟩
theorem m_many (T : TX K mg) : Met P w K mg base 1 (He.ga K "Webbook") "many" (spMany K) [] := by
  refine T.met d_Webbook_many "Webbook" "many" (N := ["self"]) (ps := ["self"]) (List.mem_of_getElem? (i := 44) rfl) rfl (by decide +kernel) (by decide +kernel) sc_Webbook_many (fun _ _ _ _ _ _ us hl => match us, hl with | [_], _ => rfl) (fun vs H Q E h => ?_) (fun cdv A outer s H vs Q E f hr h => ?_)
  · obtain ⟨x, ⟨rfl, _⟩, _⟩ := h
    rfl
  · obtain ⟨⟨bp, hd, rows⟩, ⟨rfl, B⟩, k⟩ := h
    dsimp only at B k ⊢
    have sc := sc_Webbook_many
    refine ⟨_, pss_one (ps_ret (pe_callB call_lenD (by rfl) (T.free "len") (by decide +kernel) (pa_cons (pe_fld (pv 0) rfl) pa_nil))), ?_⟩
    obtain ⟨dx, kvs, h1, h2, h3⟩ := B.out
    refine s_retE (ev_lenDK (ev_fld (ev_var rfl) h1 (T.cls "Webbook") (T.noat "Webbook" "held") rfl) h2) fun H1 e1 => k _ _ e1 ?_
    rw [paired_len h3]
/-! ### names -/
def nameOf (rows : List BRow) (t : Str) : Str := ((rows.find? fun r => decide (r.text = t)).map (·.name)).getD Str.empty
theorem nameOf_eq {rows : List BRow} (nd : (rows.map (·.text)).Nodup) {r : BRow} (h : r ∈ rows) : nameOf rows r.text = r.name := by
  unfold nameOf
  cases e : rows.find? fun x => decide (x.text = r.text) with
  | none =>
    have := List.find?_eq_none.mp e r h
    simp at this
  | some x =>
    have h1 := List.find?_some e
    have h2 := List.mem_of_find?_eq_some e
    rw [decide_eq_true_eq] at h1
    rw [row_uniq nd h2 h h1]
    rfl
theorem ep_lcNX {σ : L2.St} {H : Hp} {tl te : TE} {g : TG} {t : TT} {vs : List Nat} {P P' : VP} (h : EvP tl σ H P) (k : ∀ v H1, Ex H H1 → P v H1 → EvP (tLc (iList K (tC v)) g t te vs) σ H1 P') : EvP (tLc (iList K tl) g t te vs) σ H P' := fun H1 e Q q =>
  h H1 e (fun x H2 => tLc (iList K (tC x)) g t te vs σ H2 Q) fun v H2 e2 hv => k v H2 (e.trans e2) hv H2 (Evl.Ex.refl _) Q fun v' H3 e3 => q v' H3 (e2.trans e3)
def spNames (K : PySem.W.Frag) : Sp := spP (fun (x : Addr × Addr × List BRow) vs H => vs = [.ref x.1] ∧ BookAt K H x.1 x.2.1 x.2.2) (fun x H v H' => ∃ ys : List Str, ys.Perm (x.2.2.map (·.text)) ∧ sortedS ys = true ∧ NewL K H (ys.map fun t => .str (nameOf x.2.2 t)) v H')
theorem m_names (T : TX K mg) : Met P w K mg base 1 (He.ga K "Webbook") "names" (spNames K) [] := by
  refine T.met d_Webbook_names "Webbook" "names" (N := ["self", "text"]) (ps := ["self"]) (List.mem_of_getElem? (i := 43) rfl) rfl (by decide +kernel) (by decide +kernel) sc_Webbook_names (fun _ _ _ _ _ _ us hl => match us, hl with | [_], _ => rfl) (fun vs H Q E h => ?_) (fun cdv A outer s H vs Q E f hr h => ?_)
  · obtain ⟨x, ⟨rfl, _⟩, _⟩ := h
    rfl
  · obtain ⟨⟨bp, hd, rows⟩, ⟨rfl, B⟩, k⟩ := h
    dsimp only at B k ⊢
    have sc := sc_Webbook_names
    refine ⟨_, pss_one (ps_ret (pe_lc (own := [("text", 1)]) (g := gName 1) (tt := tYes) (te := tOp (rIxT K) (tDGet (tFld K (_) _) (_)) (_)) rfl sc.nd (pi_list (pe_callB (call_sortedD rfl) (by rfl) (T.free "sorted") (by decide +kernel) (pa_cons (pe_fld (pv 0) rfl) pa_nil))) (blkOk_by (own := [("text", 1)]) rfl) (fun _ _ _ _ _ => pg_name (i := 1) sc.nd rfl (by first | exact Or.inl rfl | exact Or.inr rfl)) (fun _ _ _ _ _ => pts_nil) (fun _ _ _ _ _ => pe_ix ix_tup (pe_dget (hu_of hr) (pe_fld (pv 0) rfl) (pv 1) (fun _ _ => rfl)) (pe_int) (fun _ _ => rfl)))), ?_⟩
    obtain ⟨dx, kvs, h1, h2, h3⟩ := B.out
    have hC := T.cls "Webbook"
    have hN := T.noat "Webbook" "held"
    have hlen := B.len
    refine s_retP (P := fun v H' => ∃ ys : List Str, ys.Perm (rows.map (·.text)) ∧ sortedS ys = true ∧ NewL K H (ys.map fun t => .str (nameOf rows t)) v H') (ep_lcNX (P := fun v H' => ∃ ys : List Str, ys.Perm (rows.map (·.text)) ∧ sortedS ys = true ∧ Dp K H' v (.list (ys.map .str))) (fun H1 e1 Q q => ?_) fun v H1 e1 hv => ?_) fun v H1 e1 h => k _ _ e1 h
    · refine ev_fld (K := K) (σ := [some (.ref bp), none]) (ta := tVar 0) (ev_var rfl) h1 hC hN rfl H1 e1 _ fun H2 e2 => ⟨hd, kvs, rows.map (·.text), rfl, .inl (e2 _ _ (e1 _ _ h2)), book_keys h3, by rw [List.length_map]; omega, fun ys p hp hs hp0 => q _ _ (e2.trans (Evl.Ex.new hp0)) ⟨ys, hp, hs, .lst (sq_of upd_same) (dpAll_strs ys)⟩⟩
    · obtain ⟨ys, hp, hs, hv⟩ := hv
      have hl : ys.length = rows.length := by rw [hp.length_eq, List.length_map]
      refine EvP.imp (ep_lcM (K := K) (l := ys) (f := .str) (h := fun t => .str (nameOf rows t)) (ep_evD ev_c hv) (by omega) (fun _ _ => rfl) (fun x => rfl) fun t x H2 ht e2 hx => ?_) fun v H2 e2 h => ⟨ys, hp, hs, NewL.up e1 h⟩
      cases hx
      have hm : t ∈ rows.map (·.text) := hp.mem_iff.mp ht
      obtain ⟨r, hr1, rfl⟩ := List.mem_map.mp hm
      rw [nameOf_eq B.nd hr1]
      rcases book_look (T := r.text) h3 with ⟨q1, _⟩ | ⟨r', v', q1, q2, q3, _, a, wp, q4, q5, _⟩
      · exact absurd rfl (q1 r hr1)
      · have e : r' = r := row_uniq B.nd q1 hr1 q2
        subst e
        have q4' : v' = .ref a := q4
        subst q4'
        exact ep_str (ev_op (ev_dgetK (k := Sum.inr r'.text) (ev_fld (ev_var rfl) ((e1.trans e2) _ _ h1) hC hN rfl) (ev_var rfl) ((e1.trans e2) _ _ h2) q3) ev_c (Evl.rv_ixT (st_of ((e1.trans e2) _ _ q5)) (atI_nat (j := 0) rfl)))
/-! ### strike -/
theorem paired_drop {H : Hp} {T : Str} : ∀ {kvs : List (L2.Key × V)} {rows : List BRow}, Paired (BRowAt K H) kvs rows → Paired (BRowAt K H) (dropK kvs (Sum.inr T)) (rows.filter fun r => decide (r.text ≠ T))
  | _, _, .nil => .nil
  | (k, v) :: kvs, r :: rows, .cons h t => by
    have h1 : k = Sum.inr r.text := h.1
    have ih := paired_drop (T := T) t
    unfold dropK at *
    rw [List.filter_cons, List.filter_cons]
    by_cases c : r.text = T
    · rw [if_neg (by simp [h1, c]), if_neg (by simp [c])]
      exact ih
    · rw [if_pos (by simp [h1, c]), if_pos (by simp [c])]
      exact .cons h ih
theorem s_retPop {σ : L2.St} {H : Hp} {td ty : TE} {D : Ends} {hd a : Addr} {kvs : List (L2.Key × V)} {k : L2.Key} {x : V} {xs : List V} (hs : Ev td σ H (.ref hd)) (hk : Ev ty σ H (kV k)) (hH : H hd = some (.dK kvs)) (hv : valV kvs k = some (.ref a)) (ha : H a = some (.tup xs)) (hx : xs[0]? = some x) (q : ∀ H1, Ex H H1 → D.rt x (upd H1 hd (.dK (dropK kvs k)))) :
    tRet (tOp (rIxT K) (tDPop1 td ty) (tC (.int 0))) D σ H :=
  hs H (Evl.Ex.refl H) _ fun H1 e1 => ⟨hd, rfl, .inl ⟨kvs, .inl (e1 _ _ hH)⟩, hk H1 e1 _ fun H2 e2 => ⟨kvs, k, .ref a, (e1.trans e2) _ _ hH, rfl, hv,
    a, xs, 0, x, rfl, rfl, st_of (by
      rw [upd_ne (ne_of ha hH (by intro z; cases z))]
      exact (e1.trans e2) _ _ ha), atI_nat (j := 0) hx, q H2 (e1.trans e2)⟩⟩
def spStrike (K : PySem.W.Frag) : Sp := fun vs H Q E => ∃ bp wp W rows hd S, vs = [.ref bp, .ref wp] ∧ BookAt K (cut S H) bp hd rows ∧ Own H S ∧ WebAt K H wp W ∧ WOk W ∧ W.n ≤ 3 ∧
  ∀ T, TextOf W T → ((∀ r ∈ rows, r.text ≠ T) → ∀ H', Ex H H' → E (.ref (He.ga K "NoWeb")) none H') ∧ (∀ r ∈ rows, r.text = T → ∀ H', But hd H H' → BookAt K (cut S H') bp hd (rows.filter fun r => decide (r.text ≠ T)) → Q (.str r.name) H')
theorem m_strike (T : TX K mg) (X3 : ∀ x ∈ exN, ExF K x) : MetX P w K mg base 23 (He.ga K "Webbook") "strike" (spStrike K) := by
  refine T.metX d_Webbook_strike "Webbook" "strike" (N := ["self", "web", "text"]) (ps := ["self", "web"]) (List.mem_of_getElem? (i := 42) rfl) rfl (by decide +kernel) (by decide +kernel) sc_Webbook_strike (fun _ _ _ _ _ _ us hl => match us, hl with | [_, _], _ => rfl) (fun vs H Q E h => ?_) (fun cdv A outer s H vs Q E f hr h => ?_)
  · obtain ⟨bp, wp, W, rows, hd, S, rfl, _⟩ := h
    rfl
  · obtain ⟨bp, wp, W, rows, hd, S, rfl, B', own, hw, hok, h3, k⟩ := h
    have B := B'.more cut_ex
    have sc := sc_Webbook_strike
    have c_written := cal_written (P := P) (w := w) (base := base) T
    refine ⟨_, pss_cons (ps_set (i := 2) sc.nd rfl (by first | exact Or.inl rfl | exact Or.inr rfl) (pe_c c_written hr (by decide) rfl (pa_cons (pv 1) pa_nil)))
    (pss_cons (ps_if (pt_cmp (pc_dnotin (hu_of hr) (pv 2) (pe_fld (pv 0) rfl)))
    (pss_one (ps_raise rfl (takes_of rfl rfl rfl rfl) (pmk_own PySem.F.excBase_ValueError (X3 "NoWeb" (by decide)).ex (T.glo "NoWeb") (X3 "NoWeb" (by decide)).kp (raises_own (X3 "NoWeb" (by decide)).sb (X3 "NoWeb" (by decide)).ty) rfl)))
    (pss_nil))
    (pss_one (ps_ret (pe_ix ix_tup (pe_dpop1 (pe_fld (pv 0) rfl) (pv 2) ⟨rfl, rfl, rfl, rfl⟩) (pe_int) (fun _ _ => rfl))))), ?_⟩
    have hC := T.cls "Webbook"
    have hN := T.noat "Webbook" "held"
    refine q_asgP (ep_written hw hok h3 (ev_var rfl)) fun v H1 e1 hv => ?_
    obtain ⟨Tx, hT, rfl⟩ := hv
    obtain ⟨k1, k2⟩ := k Tx hT
    obtain ⟨dx, kvs, h1', h2', hp'⟩ := B'.out
    have h1 := cut_ex _ _ h1'
    have h2 := cut_ex _ _ h2'
    have hp : Paired (BRowAt K H) kvs rows := paired_mono hp' fun _ _ => brow_ex cut_ex
    have tst := et_B (ev_dnot (k := Sum.inr Tx) (σ := [some (.ref bp), some (.ref wp), some (.str Tx)]) (ty := tVar 2) (td := tFld K (tVar 0) "held") (ev_var rfl) (ev_fld (ev_var rfl) (e1 _ _ h1) hC hN rfl) (e1 _ _ h2))
    rcases book_look (T := Tx) hp with ⟨q1, q2⟩ | ⟨r, v, q1, q2, q3, _, a, wp', q4, q5, _⟩
    · rw [q2] at tst
      exact q_when tst (fun _ H2 e2 => k1 q1 _ (e1.trans e2)) (fun hb => by cases hb)
    · rw [q3] at tst
      have q4' : v = .ref a := q4
      subst q4'
      refine q_when tst (fun hb => by cases hb) fun _ H2 e2 => ?_
      have e12 := e1.trans e2
      refine s_retPop (k := Sum.inr Tx) (ev_fld (ev_var rfl) (e12 _ _ h1) hC hN rfl) (ev_var rfl) (e12 _ _ h2) q3 (e12 _ _ q5) rfl fun H3 e3 => ?_
      have e13 := e12.trans e3
      have b : But hd H (upd H3 hd (.dK (dropK kvs (Sum.inr Tx)))) := ex_but e13 But.upd
      refine k2 r q1 q2 _ b ⟨⟨dx, dropK kvs (Sum.inr Tx), cut_but b _ _ h1' (ne_of h1 h2 (by intro z; cases z)), cut_at upd_same (cut_not h2'), paired_mono (paired_drop hp') fun _ _ h => brow_but h2' (cut_but b) h⟩, ?_, ?_⟩
      · exact B.nd.sublist ((List.filter_sublist).map _)
      · have := List.length_filter_le (fun r : BRow => decide (r.text ≠ Tx)) rows
        have := B.len
        omega
/-! ### note -/
theorem s_forVals {σ : L2.St} {H : Hp} {td : TE} {g : TG} {tbd : TS} {D : Ends} {d : Addr} {o : Obj} {kvs : List (L2.Key × V)} (h : Ev td σ H (.ref d)) (hd : H d = some (.frz o (.dK kvs))) (Pv : Nat → L2.St → Hp → Prop) (h0 : ∀ H1, Ex H H1 → Pv 0 σ H1) (hl : ∀ i σ' H', Pv i σ' H' → H' d = some (.frz o (.dK kvs)))
    (hs : ∀ i k x σ' H', kvs[i]? = some (k, x) → Pv i σ' H' → g x σ' H' fun σ2 H2 => tbd { D with nx := Pv (i + 1), ct := Pv (i + 1), bk := D.nx } σ2 H2) (he : ∀ σ' H', Pv kvs.length σ' H' → D.nx σ' H') : tFor (iVals td) g tbd D σ H :=
  h H (Evl.Ex.refl H) _ fun H1 e => ⟨d, o, kvs, rfl, e _ _ hd, for_it walk_values Pv (h0 H1 e) (fun i σ' H' _ p => hl i σ' H' p) (fun i x σ' H' H2 _ p ⟨eH, k, hk⟩ => by
    subst eH
    exact hs i k x σ' _ hk p) he⟩
theorem ev_din {σ : L2.St} {H : Hp} {td ty : TE} {a : Addr} {kvs : List (L2.Key × V)} {k : L2.Key} (hk : Ev ty σ H (kV k)) (hd : Ev td σ H (.ref a)) (ha : H a = some (.dK kvs)) : Ev (tDIn ty td) σ H (.bl (valV kvs k).isSome) := fun H1 e1 Q q =>
  hk H1 e1 _ fun H2 e2 => hd H2 (e1.trans e2) _ fun H3 e3 => ⟨a, valV kvs k, rfl, DGet.k (((e1.trans e2).trans e3) _ _ ha), q H3 (e2.trans e3)⟩
def spNote (K : PySem.W.Frag) : Sp := fun vs H Q E => ∃ bp wp nm W rows hd S, vs = [.ref bp, .ref wp, .str nm] ∧ BookAt K (cut S H) bp hd rows ∧ Own H S ∧ WebAt K H wp W ∧ WOk W ∧ W.n ≤ 3 ∧ nm.length ≤ 1000 ∧ rows.length ≤ 50 ∧
  (nameOk nm = false → ∀ H', Ex H H' → E (.ref (He.ga K "BadName")) none H') ∧
  (nameOk nm = true → ∀ T, TextOf W T → (((∃ r ∈ rows, r.text = T) ∨ ∃ r ∈ rows, r.name = nm) → ∀ H', Ex H H' → E (.ref (He.ga K "Twice")) none H') ∧
    ((∀ r ∈ rows, r.text ≠ T) → (∀ r ∈ rows, r.name ≠ nm) → ∀ H', But hd H H' → BookAt K (cut S H') bp hd (rows ++ [⟨T, nm, copyW W⟩]) → Q (.str T) H'))
theorem m_note (T : TX K mg) (X3 : ∀ x ∈ exN, ExF K x) : MetX P w K mg base 23 (He.ga K "Webbook") "note" (spNote K) := by
  refine T.metX d_Webbook_note "Webbook" "note" (N := ["self", "web", "name", "text", "other", "kept_web"]) (ps := ["self", "web", "name"]) (List.mem_of_getElem? (i := 39) rfl) rfl (by decide +kernel) (by decide +kernel) sc_Webbook_note (fun _ _ _ _ _ _ us hl => match us, hl with | [_, _, _], _ => rfl) (fun vs H Q E h => ?_) (fun cdv A outer s H vs Q E f hr h => ?_)
  · obtain ⟨bp, wp, nm, W, rows, hd, S, rfl, _⟩ := h
    rfl
  · obtain ⟨bp, wp, nm, W, rows, hd, S, rfl, B', own, hw, hok, h3, hnm, hrl, kb, k⟩ := h
    have B := B'.more cut_ex
    have sc := sc_Webbook_note
    have c_written := cal_written (P := P) (w := w) (base := base) T
    have c_is_book_name := cal_is_book_name (P := P) (w := w) (base := base) T
    have k_Web := k_Web_ok (P := P) (w := w) (base := base) T
    refine ⟨_, pss_cons (ps_if (pt_not (pt_val (pe_c c_is_book_name hr (by decide) rfl (pa_cons (pv 2) pa_nil))))
    (pss_one (ps_raise rfl (takes_of rfl rfl rfl rfl) (pmk_own PySem.F.excBase_ValueError (X3 "BadName" (by decide)).ex (T.glo "BadName") (X3 "BadName" (by decide)).kp (raises_own (X3 "BadName" (by decide)).sb (X3 "BadName" (by decide)).ty) rfl)))
    (pss_nil))
    (pss_cons (ps_set (i := 3) sc.nd rfl (by first | exact Or.inl rfl | exact Or.inr rfl) (pe_c c_written hr (by decide) rfl (pa_cons (pv 1) pa_nil)))
    (pss_cons (ps_if (pt_cmp (pc_din (hu_of hr) (pv 3) (pe_fld (pv 0) rfl)))
    (pss_one (ps_raise rfl (takes_of rfl rfl rfl rfl) (pmk_own PySem.F.excBase_ValueError (X3 "Twice" (by decide)).ex (T.glo "Twice") (X3 "Twice" (by decide)).kp (raises_own (X3 "Twice" (by decide)).sb (X3 "Twice" (by decide)).ty) rfl)))
    (pss_nil))
    (pss_cons (ps_lockX (ps_for (passes_of rfl) rfl (pi_values (pe_fld (pv 0) rfl)) (pg_tup rfl (pgs_cons (pg_name (i := 4) sc.nd rfl (by first | exact Or.inl rfl | exact Or.inr rfl)) (pgs_cons (pg_name (i := 5) sc.nd rfl (by first | exact Or.inl rfl | exact Or.inr rfl)) (pgs_nil))))
    (pss_one (ps_if (pt_cmpR op_eq (pv 4) (pv 2) (by rfl))
      (pss_one (ps_raise rfl (takes_lk (takes_of rfl rfl rfl rfl)) (pmk_own PySem.F.excBase_ValueError (X3 "Twice" (by decide)).ex (T.glo "Twice") (X3 "Twice" (by decide)).kp (raises_own (X3 "Twice" (by decide)).sb (X3 "Twice" (by decide)).ty) rfl)))
      (pss_nil)))))
    (pss_cons (ps_dput (hu_of hr) (pe_fld (pv 0) rfl) (pv 3) (pe_tup (pa_cons (pv 2) (pa_cons (pe_mk k_Web hr (by decide) rfl (pa_cons (pe_fld (pv 1) rfl) (pa_cons (pe_fld (pv 1) rfl) pa_nil))) pa_nil))) rfl)
    (pss_one (ps_ret (pv 3))))))), ?_⟩
    have hC := T.cls "Webbook"
    have hN := T.noat "Webbook" "held"
    refine q_when (et_not (et_B (ev_ofP (v := .bl (nameOk nm)) (ep_call nm (eap_of (vs := [.str nm]) (ea_cons (ev_var rfl) ea_nil)) (fun vs H1 e1 h => ⟨h, hnm⟩) fun _ _ _ _ _ h => h)))) (fun hb H1 e1 => ?_) fun hb H1 e1 => ?_
    · rw [Bool.not_eq_true'] at hb
      exact kb hb _ e1
    · rw [Bool.not_eq_false'] at hb
      refine q_asgP (ep_written (web_ex e1 hw) hok h3 (ev_var rfl)) fun v H2 e2 hv => ?_
      obtain ⟨Tx, hT, rfl⟩ := hv
      obtain ⟨k1, k2⟩ := k hb Tx hT
      have e12 := e1.trans e2
      obtain ⟨dx, kvs, h1', h2', hp'⟩ := B'.out
      have h1 := cut_ex _ _ h1'
      have h2 := cut_ex _ _ h2'
      have hp : Paired (BRowAt K H) kvs rows := paired_mono hp' fun _ _ => brow_ex cut_ex
      have bpd : bp ≠ hd := ne_of h1 h2 (by intro z; cases z)
      have tst := et_B (ev_din (k := Sum.inr Tx) (σ := [some (.ref bp), some (.ref wp), some (.str nm), some (.str Tx), none, none]) (ty := tVar 3) (td := tFld K (tVar 0) "held") (ev_var rfl) (ev_fld (ev_var rfl) (e12 _ _ h1) hC hN rfl) (e12 _ _ h2))
      rcases book_look (T := Tx) hp with ⟨q1, q2⟩ | ⟨r, v, q1, q2, q3, _⟩
      · rw [q2] at tst
        refine q_when tst (fun hb => by cases hb) fun _ H3 e3 => ?_
        have e13 := e12.trans e3
        have hd3 := e13 _ _ h2
        refine ⟨hd, .dK kvs, hd3, True.intro, fun od nf => ?_⟩
        have bf : But hd H3 (upd H3 hd (.frz od (.dK kvs))) := But.upd
        have toF : ∀ {H'}, Ex (upd H3 hd (.frz od (.dK kvs))) H' → But hd H H' := fun e => ex_but e13 (bf.ex e)
        have toU : ∀ {H'}, But hd H H' → Ex H (upd H' hd (.dK kvs)) := fun b q o hq => by
          by_cases c : q = hd
          · subst c
            rw [upd_same, ← h2, hq]
          · rw [upd_ne c]
            exact b q o hq c
        refine s_forVals (d := hd) (o := od) (kvs := kvs) (ev_fld (ev_var rfl) (bf _ _ (e13 _ _ h1) bpd) hC hN rfl) upd_same (fun m σ' H' => (∃ o4 o5, σ' = [some (.ref bp), some (.ref wp), some (.str nm), some (.str Tx), o4, o5]) ∧ But hd H H' ∧ H' hd = some (.frz od (.dK kvs)) ∧ ∀ i r, i < m → rows[i]? = some r → r.name ≠ nm) (fun H4 e4 => ⟨⟨_, _, rfl⟩, toF e4, e4 _ _ upd_same, fun i r hi => by omega⟩) (fun i σ' H' q => q.2.2.1) (fun m kk x σ' H' hk q => ?_) (fun σ' H' q => ?_)
        · obtain ⟨⟨o4, o5, rfl⟩, b4, f4, n4⟩ := q
          obtain ⟨r, hr1, hr2⟩ := paired_at hp hk
          obtain ⟨_, a, wp', g1, g2, _⟩ := hr2
          have g1' : x = .ref a := g1
          subst g1'
          have g3 := b4 _ _ g2 (ne_of g2 h2 (by intro z; cases z))
          refine ⟨_, _, rfl, st_of g3, rfl, _, _, rfl, _, _, rfl, rfl, ?_⟩
          show tIfS _ _ _ _ [some (.ref bp), some (.ref wp), some (.str nm), some (.str Tx), some (.str r.name), some (.ref wp')] H'
          refine s_if (et_test (ev_op (ev_var rfl) (ev_var rfl) (rv_eq rfl))) (fun hb2 H5 e5 => ?_) fun hb2 H5 e5 => ?_
          · have hn : r.name = nm := V.str.inj (of_decide_eq_true hb2)
            exact ⟨hd, od, .dK kvs, e5 _ _ f4, nf, k1 (.inr ⟨r, List.mem_of_getElem? hr1, hn⟩) _ (toU (b4.ex e5))⟩
          · have hn : r.name ≠ nm := fun z => (of_decide_eq_false hb2) (by rw [z])
            refine ⟨⟨_, _, rfl⟩, b4.ex e5, e5 _ _ f4, fun i r' hi hr' => ?_⟩
            rcases Nat.lt_succ_iff_lt_or_eq.mp hi with h | h
            · exact n4 i r' h hr'
            · subst h
              rw [hr1] at hr'
              cases hr'
              exact hn
        · obtain ⟨⟨o4, o5, rfl⟩, b4, f4, n4⟩ := q
          refine ⟨f4, ?_⟩
          have e6 := toU b4
          have hd6 : (upd H' hd (.dK kvs)) hd = some (.dK kvs) := upd_same
          generalize upd H' hd (.dK kvs) = H6 at e6 hd6 ⊢
          have hw6 := web_ex e6 hw
          obtain ⟨wdx, vk, vt, wg, w1, w2, w3, w4⟩ := hw6.out
          have hnn : ∀ r ∈ rows, r.name ≠ nm := fun r hr => by
            obtain ⟨i, hi⟩ := List.getElem?_of_mem hr
            exact n4 i r (by rw [paired_len hp]; exact (List.getElem?_eq_some_iff.mp hi).1) hi
          have hCW := T.cls "Web"
          have hlen := B.len
          refine q_dputK (k := Sum.inr Tx) (P := fun v H' => ∃ a wp', v = .ref a ∧ H' a = some (.tup [.str nm, .ref wp']) ∧ WebAt K (cut S H') wp' (copyW W)) (EvP.imp (ep_tupA (ea_consV (v := .str nm) (ev_var rfl) (ea_consP (P := fun v H' => ∃ p, v = .ref p ∧ H6 p = none ∧ WebAt K (cut S H') p (mkW W.kinds W.ties)) (EvP.imp (ep_web W.kinds W.ties hok (ea_consD (ds := [.list (W.ties.map tieD)]) (ep_fld (ev_var rfl) w1 hCW (T.noat "Web" "kinds") rfl fun H7 e7 => dp_ex e7 w2) (ea_consD (ep_fld (ev_var rfl) w1 hCW (T.noat "Web" "ties") rfl fun H7 e7 => dp_ex e7 w3) ea_nilD)) fun vs H7 e7 h => ?_) fun v H7 e7 h => ?_) (fun v H1 H2 e h => ?_) ea_nilP)) fun vs H7 h => ?_) fun v H7 e7 h => ?_) (ev_fld (ev_var rfl) (e6 _ _ h1) hC hN rfl) (ev_var rfl) hd6 (by rw [paired_len hp]; omega) (fun v H1 H2 e h => ?_) fun v H7 e7 hv => ?_
          · cases h with
            | cons h1 h2 =>
              cases h2 with
              | cons h2 h3 =>
                cases h3
                exact ⟨_, _, rfl, h1, h2⟩
          · obtain ⟨p, g1, g2, g3, g4⟩ := h
            exact ⟨p, g1, g2, g4 S (own.ex e6)⟩
          · obtain ⟨p, g1, g2, g3⟩ := h
            exact ⟨p, g1, g2, web_ex (cut_mono e) g3⟩
          · obtain ⟨r, rfl, x, r2, rfl, _, rfl⟩ := h
            simp
          · obtain ⟨t, vs, H8, rfl, t0, t1, t2, e8, ⟨r, rfl, y, r2, rfl, ⟨p, rfl, _, g3⟩, rfl⟩, e9⟩ := h
            exact ⟨t, p, rfl, t2, web_ex (cut_mono e9) g3⟩
          · obtain ⟨a, p, g1, g2, g3⟩ := h
            exact ⟨a, p, g1, e _ _ g2, web_ex (cut_mono e) g3⟩
          · obtain ⟨a, wp', rfl, g1, g2⟩ := hv
            have e67 := e6.trans e7
            have hd7 := e7 _ _ hd6
            have b7 : But hd H7 (upd H7 hd (.dK (putK kvs (Sum.inr Tx) (.ref a)))) := But.upd
            have hdx : (upd H7 hd (.dK (putK kvs (Sum.inr Tx) (.ref a)))) hd = some (.dK (putK kvs (Sum.inr Tx) (.ref a))) := upd_same
            generalize upd H7 hd (.dK (putK kvs (Sum.inr Tx) (.ref a))) = Hx at b7 hdx ⊢
            refine s_retE (ev_var rfl) fun H8 e8 => ?_
            have own7 := own.ex e67
            have nhd := cut_not h2'
            have na : ¬ S a := own7.kind g1 (fun _ z => by cases z)
            refine k2 q1 hnn _ ((ex_but e67 b7).ex e8) (BookAt.more ⟨⟨dx, putK kvs (Sum.inr Tx) (.ref a), cut_at (b7 _ _ (e67 _ _ h1) bpd) (cut_not h1'), cut_at hdx nhd, ?_⟩, ?_, ?_⟩ (cut_mono e8))
            · rw [putK_new _ q2]
              refine paired_snoc (paired_mono hp' fun _ _ h => brow_but h2' (cut_but (ex_but e67 b7)) h) ⟨rfl, a, wp', rfl, cut_at (b7 _ _ g1 (ne_of g1 hd7 (by intro z; cases z))) na, web_but (cut_at hd7 nhd) (cut_but b7) g2, copy_ok hok, h3, textOf_iso hok (copy_ok hok) h3 (iso_copy W) hT⟩
            · rw [List.map_append, List.nodup_append]
              refine ⟨B.nd, by simp, fun x hx y hy e => ?_⟩
              obtain ⟨r, hr, rfl⟩ := List.mem_map.mp hx
              have hy' : y = Tx := by simpa using hy
              exact q1 r hr (e.trans hy')
            · rw [List.length_append, List.length_singleton]
              omega
      · rw [q3] at tst
        exact q_when tst (fun _ H3 e3 => k1 (.inl ⟨r, q1, q2⟩) _ (e12.trans e3)) (fun hb => by cases hb)
end
end L2.Tw
set_option Elab.async false
set_option linter.all false
set_option maxRecDepth 100000
set_option maxHeartbeats 4000000
set_option autoImplicit false
namespace L2.Tw
open PySem PySem.Spec PyProof.Rows L2
open C8 (Cal Met Mak pe_c pe_mk pe_mt pe_mt0 pe_gc InsC)
open Evl (Ex Ev EvT EvA fresh_back ex_l ex_t ex_rd sq_of st_of sz_of sz_lt ev_var ev_c ev_op rv_I0 rv_I rv_eq rv_ne et_test et_or et_and et_not et_B s_if ea_nil ea_cons q_asg q_when)
/-! ### the state of the law: the script, the place and the number -/
structure LIn where
  H0 : Hp
  sa : Addr
  at_ : Addr
  ns : List Int
structure LS (K : PySem.W.Frag) (x : LIn) (H : Hp) (C : Int) : Prop where
  scr : SqL K x.H0 x.sa (x.ns.map V.int)
  ex : Ex x.H0 H
  a0 : x.H0 x.at_ = none
  nl : x.ns.length ≤ 1000
  at_ : ∃ c n : Int, H x.at_ = some (.lst [.int c, .int n]) ∧ 0 ≤ c ∧ c ≤ C ∧ 0 ≤ n ∧ n < 2147483647
  cb : C ≤ 1000000000
theorem LS.more {K : PySem.W.Frag} {x : LIn} {H H' : Hp} {C : Int} (L : LS K x H C) (e : Ex H H') : LS K x H' C := by
  obtain ⟨c, n, h1, h2⟩ := L.at_
  exact ⟨L.scr, L.ex.trans e, L.a0, L.nl, ⟨c, n, e _ _ h1, h2⟩, L.cb⟩
theorem LS.up {K : PySem.W.Frag} {x : LIn} {H : Hp} {C C' : Int} (L : LS K x H C) (h : C ≤ C') (h' : C' ≤ 1000000000) : LS K x H C' := by
  obtain ⟨c, n, h1, h2, h3, h4⟩ := L.at_
  exact ⟨L.scr, L.ex, L.a0, L.nl, ⟨c, n, h1, h2, by omega, h4⟩, h'⟩
/-- an object of the law's own changes -/
theorem LS.but {K : PySem.W.Frag} {x : LIn} {H H' : Hp} {C : Int} {y : Addr} (L : LS K x H C) (b : But y H H') (h0 : x.H0 y = none) (hn : y ≠ x.at_) : LS K x H' C := by
  obtain ⟨c, n, h1, h2⟩ := L.at_
  exact ⟨L.scr, But.fresh L.ex b h0, L.a0, L.nl, ⟨c, n, b _ _ h1 (Ne.symm hn), h2⟩, L.cb⟩
section
variable {P : Program} {w : World} {K : PySem.W.Frag} {mg : Str → Option Value} {base : Heap}
variable {σ : L2.St} {H : Hp} {ta tb te : TE} {tA tr : TA} {D : Ends} {tz : TS} {Q : VK} {r : R2}
/-! unfolding, step by step -/
theorem w_ev {v : V} (h : Ev te σ H v) (q : ∀ H1, Ex H H1 → Q v H1) : te σ H Q := h H (Evl.Ex.refl H) _ q
theorem w_evP {P : VP} (h : EvP te σ H P) (q : ∀ v H1, Ex H H1 → P v H1 → Q v H1) : te σ H Q := h H (Evl.Ex.refl H) _ q
theorem w_op (h : ta σ H (fun x H1 => tb σ H1 fun y H2 => r x y H2 Q)) : tOp r ta tb σ H Q := h
theorem w_cons {Qa : List V → Hp → Prop} (h : te σ H (fun x H1 => tr σ H1 fun xs H2 => Qa (x :: xs) H2)) : tCons te tr σ H Qa := h
theorem w_nil {Qa : List V → Hp → Prop} (h : Qa [] H) : tNil σ H Qa := h
theorem w_call {sp : Sp} {E : XK} (h : tA σ H (fun vs H1 => sp vs H1 Q E)) : tCall sp [] E tA σ H Q := by
  show tA σ H (fun vs H1 => sp (vs ++ []) H1 Q E)
  have : (fun vs H1 => sp (vs ++ []) H1 Q E) = fun vs H1 => sp vs H1 Q E := by
    funext vs H1
    rw [List.append_nil]
  rw [this]
  exact h
theorem w_asg {i : Nat} (h : te σ H (fun v H1 => tz D (σ.set i (some v)) H1)) : tSeq (tAsg te (gName i)) tz D σ H := h
theorem w_ret (h : te σ H D.rt) : tRet te D σ H := h
theorem w_tup (h : tA σ H (fun vs H1 => vs.length ≤ sizeLine ∧ ∀ p, H1 p = none → Q (.ref p) (upd H1 p (.tup vs)))) : tTup tA σ H Q := h
theorem w_lst (h : tA σ H (fun vs H1 => vs.length ≤ sizeLine ∧ ∀ p, H1 p = none → Q (.ref p) (upd H1 p (.lst vs)))) : tLst tA σ H Q := h
theorem w_rv {x y z : V} (h : Evl.RV r x y H z) (q : ∀ H1, Ex H H1 → Q z H1) : r x y H Q := h H (Evl.Ex.refl H) _ q
/-! ### _law_begin -/
def spBegin (K : PySem.W.Frag) : Sp := spP (fun (ns : List Int) vs H => ∃ sa, vs = [.ref sa] ∧ SqL K H sa (ns.map V.int)) (fun _ H v H' => ∃ a n, v = .ref a ∧ H a = none ∧ H' a = some (.lst [.int 0, .int n]) ∧ 0 ≤ n ∧ n < 2147483647)
theorem mod_in {a m : Int} (h : 0 < m) : 0 ≤ a % m ∧ a % m < m := ⟨Int.emod_nonneg a (by omega), Int.emod_lt_of_pos a h⟩
theorem cal_law_begin (T : TX K mg) : Cal P w K mg base 1 "_law_begin" (spBegin K) [] := by
  refine T.cal d_law_begin (N := ["_law_script", "_law_number", "_law_cell"]) (ps := ["_law_script"]) (List.mem_of_getElem? (i := 45) rfl) rfl (by decide +kernel) sc_law_begin (fun _ _ _ _ _ _ us hl => match us, hl with | [_], _ => rfl) (fun vs H Q E h => ?_) (fun cdv A outer s H vs Q E f hr h => ?_)
  · obtain ⟨x, ⟨v, rfl, _⟩, _⟩ := h
    rfl
  · obtain ⟨ns, ⟨sa, rfl, hs⟩, k⟩ := h
    have sc := sc_law_begin
    refine ⟨_, pss_cons (ps_set (i := 1) sc.nd rfl (by first | exact Or.inl rfl | exact Or.inr rfl) (pe_int))
    (pss_cons (ps_for PassesOwn.never rfl (pi_list (pv 0)) (pg_name (i := 2) sc.nd rfl (by first | exact Or.inl rfl | exact Or.inr rfl))
    (pss_one (ps_set (i := 1) sc.nd rfl (by first | exact Or.inl rfl | exact Or.inr rfl) (pe_op op_mod (pe_op op_add (pe_op op_add (pe_op op_mul (pv 1) (pe_int)) (pe_op op_mod (pv 2) (pe_int))) (pe_int)) (pe_int)))))
    (pss_one (ps_ret (pe_lst (pa_cons (pe_int) (pa_cons (pv 1) pa_nil)))))), ?_⟩
    refine q_asg ev_c fun H1 e1 => ?_
    refine Evl.q_forL (ev_var rfl) (ex_l e1 hs) (fun _ σ' H' => (∃ n o2, σ' = [some (.ref sa), some (.int n), o2] ∧ 0 ≤ n ∧ n < 2147483647) ∧ Ex H H') (fun H2 e2 => ⟨⟨7, _, rfl, by omega, by omega⟩, e1.trans e2⟩) (fun i σ' H' _ q => ex_l q.2 hs) (fun i x σ' H' hx q => ?_) (fun σ' H' q => ?_)
    · obtain ⟨⟨n, o2, rfl, h1, h2⟩, e2⟩ := q
      rw [List.getElem?_map] at hx
      obtain ⟨y, hy, rfl⟩ := Option.map_eq_some_iff.mp hx
      refine s_asgE (ev_op (ev_op (ev_op (ev_op (ev_var rfl) ev_c (rv_I (by unfold CMul; omega))) (ev_op (ev_var rfl) ev_c (rv_I (by decide))) rv_I0) ev_c rv_I0) ev_c (rv_I (by decide))) fun H3 e3 => ⟨⟨_, _, rfl, ?_⟩, e2.trans e3⟩
      exact mod_in (by omega)
    · obtain ⟨⟨n, o2, rfl, h1, h2⟩, e2⟩ := q
      refine Evl.s_retL (Evl.el_lst (vs := [.int 0, .int n]) (ea_cons ev_c (ea_cons (ev_var rfl) ea_nil)) (by simp)) fun p H3 hp e3 h3 => k _ _ (e2.trans e3) ⟨p, n, rfl, fresh_back e2 hp, h3, h1, h2⟩
/-! ### _law_next -/
def spNext (K : PySem.W.Frag) : Sp := fun vs H Q _ => ∃ x C, vs = [.ref x.sa, .ref x.at_] ∧ LS K x H C ∧ C ≤ 999999999 ∧ ∀ (r : Int) H', But x.at_ H H' → LS K x H' (C + 1) → 0 ≤ r → r < 1000000000 → Q (.int r) H'
theorem q_setLv {l : Addr} {xs : List V} {j : Nat} {v : V} (hl : H l = some (.lst xs)) (h : Ev te σ H v) (ho : Ev ta σ H (.ref l)) (hi : Ev tb σ H (.int (j : Int))) (hj : j < xs.length) (k : ∀ H1, Ex H H1 → tz D σ (upd H1 l (.lst (xs.set j v)))) :
    tSeq (tAsg te (gSub ta tb rSetL)) tz D σ H := Evl.s_setL (D := { D with nx := tz D }) hl h ho hi hj k
theorem cal_law_next (T : TX K mg) : Cal P w K mg base 1 "_law_next" (spNext K) [] := by
  refine T.cal d_law_next (N := ["_law_script", "_law_at", "_law_cell"]) (ps := ["_law_script", "_law_at"]) (List.mem_of_getElem? (i := 46) rfl) rfl (by decide +kernel) sc_law_next (fun _ _ _ _ _ _ us hl => match us, hl with | [_, _], _ => rfl) (fun vs H Q E h => ?_) (fun cdv A outer s H vs Q E f hr h => ?_)
  · obtain ⟨x, C, rfl, _⟩ := h
    rfl
  · obtain ⟨⟨H0, sa, at_, ns⟩, C, rfl, L, hC, k⟩ := h
    dsimp only at L k ⊢
    have sc := sc_law_next
    refine ⟨_, pss_cons (ps_asg (pe_op op_add (pe_ix ix_list (pv 1) (pe_int) (fun _ _ => rfl)) (pe_int)) (pg_sub (pv 1) (pe_int) set_list))
    (pss_cons (ps_set (i := 2) sc.nd rfl (by first | exact Or.inl rfl | exact Or.inr rfl) (pe_int))
    (pss_cons (ps_if (pt_cmpR op_gt (pe_callB call_len_seq (by rfl) (T.free "len") (by decide +kernel) (pa_cons (pv 0) pa_nil)) (pe_int) (by rfl))
    (pss_one (ps_set (i := 2) sc.nd rfl (by first | exact Or.inl rfl | exact Or.inr rfl) (pe_ix ix_list (pv 0) (pe_op op_mod (pe_ix ix_list (pv 1) (pe_int) (fun _ _ => rfl)) (pe_callB call_len_seq (by rfl) (T.free "len") (by decide +kernel) (pa_cons (pv 0) pa_nil))) (fun _ _ => rfl))))
    (pss_nil))
    (pss_cons (ps_asg (pe_op op_mod (pe_op op_mul (pe_op op_add (pe_op op_add (pe_ix ix_list (pv 1) (pe_int) (fun _ _ => rfl)) (pe_op op_mod (pv 2) (pe_int))) (pe_op op_mul (pe_ix ix_list (pv 1) (pe_int) (fun _ _ => rfl)) (pe_ix ix_list (pv 1) (pe_int) (fun _ _ => rfl)))) (pe_int)) (pe_int)) (pg_sub (pv 1) (pe_int) set_list))
    (pss_one (ps_ret (pe_op op_fdiv (pe_ix ix_list (pv 1) (pe_int) (fun _ _ => rfl)) (pe_int))))))), ?_⟩
    obtain ⟨c, n, h1, h2, h3, h4, h5⟩ := L.at_
    dsimp only at h1
    refine q_setLv (j := 0) (v := .int (c + 1)) h1 (ev_op (ev_op (ev_var rfl) ev_c (Evl.rv_ixL (sq_of h1) (atI_nat (j := 0) rfl))) ev_c rv_I0) (ev_var rfl) ev_c (by simp) fun H1 e1 => ?_
    have b1 : But at_ H (upd H1 at_ (.lst [.int (c + 1), .int n])) := ex_but e1 But.upd
    show tSeq _ _ _ _ (upd H1 at_ (.lst [.int (c + 1), .int n]))
    have a1 : (upd H1 at_ (.lst [.int (c + 1), .int n])) at_ = some (.lst [.int (c + 1), .int n]) := upd_same
    generalize upd H1 at_ (.lst [.int (c + 1), .int n]) = H2 at b1 a1 ⊢
    have e02 : Ex H0 H2 := But.fresh L.ex b1 L.a0
    have scr2 : SqL K H2 sa (ns.map V.int) := ex_l e02 L.scr
    refine q_asg ev_c fun H3 e3 => ?_
    have len3 := Evl.ev_len (K := K) (σ := [some (.ref sa), some (.ref at_), some (.int 0)]) (H := H3) (ta := tVar 0) (ev_var rfl) (ex_l e3 scr2)
    rw [List.length_map] at len3
    have fin : ∀ {H4 : Hp} {cell : Int}, Ex H2 H4 → tSeq (tAsg (tOp (rI (fun _ j => 0 < j) fun i j => .int (i % j)) (tOp (rI CMul fun i j => .int (i * j)) (tOp (rI0 fun i j => .int (i + j)) (tOp (rI0 fun i j => .int (i + j)) (tOp (rIxL K) (tVar 1) (tC (.int 1))) (tOp (rI (fun _ j => 0 < j) fun i j => .int (i % j)) (tVar 2) (tC (.int 2147483647)))) (tOp (rI CMul fun i j => .int (i * j)) (tOp (rIxL K) (tVar 1) (tC (.int 0))) (tOp (rIxL K) (tVar 1) (tC (.int 0))))) (tC (.int 48271))) (tC (.int 2147483629))) (gSub (tVar 1) (tC (.int 1)) rSetL)) (tRet (tOp (rI CDiv fun i j => .int (i / j)) (tOp (rIxL K) (tVar 1) (tC (.int 1))) (tC (.int 3)))) { nx := fun _ H' => Q .non H', rt := Q } [some (.ref sa), some (.ref at_), some (.int cell)] H4 := fun {H4 cell} e4 => by
      have a4 := e4 _ _ a1
      refine q_setLv (j := 1) a4 (ev_op (ev_op (ev_op (ev_op (ev_op (ev_var rfl) ev_c (Evl.rv_ixL (sq_of a4) (atI_nat (j := 1) rfl))) (ev_op (ev_var rfl) ev_c (rv_I (by decide))) rv_I0) (ev_op (ev_op (ev_var rfl) ev_c (Evl.rv_ixL (sq_of a4) (atI_nat (j := 0) rfl))) (ev_op (ev_var rfl) ev_c (Evl.rv_ixL (sq_of a4) (atI_nat (j := 0) rfl))) (rv_I (by unfold CMul; omega))) rv_I0) ev_c (rv_I (by unfold CMul; omega))) ev_c (rv_I (by decide))) (ev_var rfl) ev_c (by simp) fun H5 e5 => ?_
      have hm := mod_in (a := (n + cell % 2147483647 + (c + 1) * (c + 1)) * 48271) (m := 2147483629) (by omega)
      generalize hn' : (n + cell % 2147483647 + (c + 1) * (c + 1)) * 48271 % 2147483629 = n' at hm ⊢
      show tRet _ _ _ (upd H5 at_ (.lst [.int (c + 1), .int n']))
      have b6 : But at_ H (upd H5 at_ (.lst [.int (c + 1), .int n'])) := (b1.ex (e4.trans e5)).trans But.upd
      have a6 : (upd H5 at_ (.lst [.int (c + 1), .int n'])) at_ = some (.lst [.int (c + 1), .int n']) := upd_same
      generalize upd H5 at_ (.lst [.int (c + 1), .int n']) = H6 at b6 a6 ⊢
      refine s_retE (ev_op (ev_op (ev_var rfl) ev_c (Evl.rv_ixL (sq_of a6) (atI_nat (j := 1) rfl))) ev_c (rv_I ⟨by decide, by decide⟩)) fun H7 e7 => ?_
      refine k _ _ (b6.ex e7) ⟨L.scr, (But.fresh L.ex b6 L.a0).trans e7, L.a0, L.nl, ⟨c + 1, n', e7 _ _ a6, by omega, by omega, hm.1, by omega⟩, by omega⟩ ?_ ?_
      · exact Int.ediv_nonneg hm.1 (by omega)
      · have := Int.ediv_lt_of_lt_mul (a := n') (b := 1000000000) (c := 3) (by omega) (by omega)
        exact this
    refine Evl.q_if (et_test (ev_op len3 ev_c rv_I0)) (fun hb H4 e4 => ?_) fun hb H4 e4 => ?_
    · have hl : 0 < ns.length := by
        have := of_decide_eq_true hb
        omega
      have hpos : (0 : Int) < (ns.length : Int) := by omega
      have hm := mod_in (a := c + 1) (m := (ns.length : Int)) hpos
      obtain ⟨j, hj⟩ : ∃ j : Nat, (c + 1) % (ns.length : Int) = (j : Int) := ⟨((c + 1) % (ns.length : Int)).toNat, by omega⟩
      have hjl : j < ns.length := by omega
      have e34 := e3.trans e4
      have len4 := Evl.ev_len (K := K) (σ := [some (.ref sa), some (.ref at_), some (.int 0)]) (H := H4) (ta := tVar 0) (ev_var rfl) (ex_l e34 scr2)
      rw [List.length_map] at len4
      refine s_asgE (ev_op (ev_var rfl) (ev_op (z := .int (j : Int)) (ev_op (ev_var rfl) ev_c (Evl.rv_ixL (sq_of (e34 _ _ a1)) (atI_nat (j := 0) rfl))) len4 (by rw [← hj]; exact rv_I hpos)) (Evl.rv_ixL (v := .int ns[j]) (ex_l e34 scr2) (atI_nat (by rw [List.getElem?_map, List.getElem?_eq_getElem hjl]; rfl)))) fun H5 e5 => ?_
      exact fin (e34.trans e5)
    · exact fin (e3.trans e4)
/-- next(script, at) -/
theorem w_next {i j : Nat} {E : XK} {x : LIn} {C : Int} (L : LS K x H C) (hC : C ≤ 999999999) (hi : σ[i]? = some (some (.ref x.sa))) (hj : σ[j]? = some (some (.ref x.at_))) (k : ∀ (r : Int) H', But x.at_ H H' → LS K x H' (C + 1) → 0 ≤ r → r < 1000000000 → Q (.int r) H') :
    tCall (spNext K) [] E (tCons (tVar i) (tCons (tVar j) tNil)) σ H Q := w_call ⟨_, hi, _, hj, x, C, rfl, L, hC, k⟩
end
end L2.Tw
set_option Elab.async false
set_option linter.all false
set_option maxRecDepth 100000
set_option maxHeartbeats 4000000
set_option autoImplicit false
namespace L2.Tw
open PySem PySem.Spec PyProof.Rows L2
open C8 (Cal Met Mak pe_c pe_mk pe_mt pe_mt0 pe_gc InsC)
open Evl (Ex Ev EvT EvA fresh_back ex_l ex_t ex_rd sq_of st_of sz_of sz_lt ev_var ev_c ev_op rv_I0 rv_I rv_eq rv_ne et_test et_or et_and et_not et_B s_if ea_nil ea_cons q_asg q_when)
open _root_.TL (tl tl_append len_tl)
section
variable {P : Program} {w : World} {K : PySem.W.Frag} {mg : Str → Option Value} {base : Heap}
variable {σ : L2.St} {H : Hp} {ta tb te : TE} {tA tr : TA} {D : Ends} {tz : TS} {Q : VK} {r : R2}
/-- a promise of a def that draws at most cost numbers -/
def spAt (K : PySem.W.Frag) (cost : Int) {α : Type} (Pre : α → LIn → List V → Hp → Prop) (Post : α → LIn → Hp → V → Hp → Prop) : Sp := fun vs H Q _ => ∃ a x C, Pre a x vs H ∧ LS K x H C ∧ C + cost ≤ 1000000000 ∧ ∀ v H', But x.at_ H H' → LS K x H' (C + cost) → Post a x H v H' → Q v H'
theorem w_at {cost : Int} {α : Type} {Pre : α → LIn → List V → Hp → Prop} {Post : α → LIn → Hp → V → Hp → Prop} {E : XK} {vs : List V} {x : LIn} {C : Int} (a : α) (h : EvA tA σ H vs) (L : LS K x H C) (hC : C + cost ≤ 1000000000) (hp : ∀ H1, Ex H H1 → Pre a x vs H1) (k : ∀ v H1 H', Ex H H1 → But x.at_ H1 H' → LS K x H' (C + cost) → Post a x H1 v H' → Q v H') :
    tCall (spAt K cost Pre Post) [] E tA σ H Q := w_call (h H (Evl.Ex.refl H) _ fun H1 e1 => ⟨a, x, C, hp H1 e1, L.more e1, hC, fun v H' b L' p => k v H1 H' e1 b L' p⟩)
/-! ### _law_great -/
def spGreat (K : PySem.W.Frag) : Sp := spAt K 1 (fun (_ : Unit) x vs _ => vs = [.ref x.sa, .ref x.at_]) (fun _ _ _ v _ => ∃ r : Int, v = .int r ∧ 0 ≤ r ∧ r < 10 ^ 30)
theorem cal_law_great (T : TX K mg) : Cal P w K mg base 2 "_law_great" (spGreat K) [] := by
  refine T.cal d_law_great (N := ["_law_script", "_law_at", "_law_number"]) (ps := ["_law_script", "_law_at"]) (List.mem_of_getElem? (i := 47) rfl) rfl (by decide +kernel) sc_law_great (fun _ _ _ _ _ _ us hl => match us, hl with | [_, _], _ => rfl) (fun vs H Q E h => ?_) (fun cdv A outer s H vs Q E f hr h => ?_)
  · obtain ⟨a, x, C, rfl, _⟩ := h
    rfl
  · obtain ⟨a, x, C, rfl, L, hC, k⟩ := h
    have sc := sc_law_great
    have c_law_next := cal_law_next (P := P) (w := w) (base := base) T
    refine ⟨_, pss_cons (ps_set (i := 2) sc.nd rfl (by first | exact Or.inl rfl | exact Or.inr rfl) (pe_c c_law_next hr (by decide) rfl (pa_cons (pv 0) (pa_cons (pv 1) pa_nil))))
    (pss_cons (ps_if (pt_cmpR op_eq (pe_op op_mod (pv 2) (pe_int)) (pe_int) (by rfl))
    (pss_one (ps_ret (pe_int)))
    (pss_nil))
    (pss_cons (ps_if (pt_cmpR op_eq (pe_op op_mod (pv 2) (pe_int)) (pe_int) (by rfl))
    (pss_one (ps_ret (pe_op op_sub (pe_op op_pow (pe_int) (pe_int)) (pe_int))))
    (pss_nil))
    (pss_one (ps_ret (pe_op op_mod (pe_op op_mul (pe_op op_mul (pe_op op_mul (pe_op op_mul (pv 2) (pv 2)) (pv 2)) (pv 2)) (pe_int)) (pe_ix ix_list (pe_lst (pa_cons (pe_int) (pa_cons (pe_op op_pow (pe_int) (pe_int)) (pa_cons (pe_op op_pow (pe_int) (pe_int)) pa_nil)))) (pe_op op_mod (pv 2) (pe_int)) (fun _ _ => rfl))))))), ?_⟩
    refine w_asg (w_next L (by omega) rfl rfl fun r H1 b1 L1 h0 h1 => ?_)
    have fin : ∀ {v : Int} {H2 : Hp}, Ex H1 H2 → 0 ≤ v → v < 10 ^ 30 → Q (.int v) H2 := fun e2 g1 g2 => k _ _ (b1.ex e2) (L1.more e2) ⟨_, rfl, g1, g2⟩
    refine q_when (et_test (ev_op (ev_op (ev_var rfl) ev_c (rv_I (by decide))) ev_c (rv_eq rfl))) (fun _ H2 e2 => s_retE ev_c fun H3 e3 => fin (e2.trans e3) (by omega) (by omega)) fun _ H2 e2 => ?_
    refine q_when (et_test (ev_op (ev_op (ev_var rfl) ev_c (rv_I (by decide))) ev_c (rv_eq rfl))) (fun _ H3 e3 => s_retE (ev_op (ev_op ev_c ev_c (rv_I ⟨by decide, by decide, by decide⟩)) ev_c rv_I0) fun H4 e4 => fin (e2.trans (e3.trans e4)) (by decide) (by decide)) fun _ H3 e3 => ?_
    have hm := mod_in (a := r) (m := 3) (by omega)
    have lst := ep_lstD (K := K) (σ := [some (.ref x.sa), some (.ref x.at_), some (.int r)]) (H := H3) (tA := tCons (tC (.int 10)) (tCons (tOp (rI CPow fun i j => .int (i ^ j.toNat)) (tC (.int 10)) (tC (.int 6))) (tCons (tOp (rI CPow fun i j => .int (i ^ j.toNat)) (tC (.int 10)) (tC (.int 30))) tNil))) (ds := [.int 10, .int (10 ^ (6 : Int).toNat), .int (10 ^ (30 : Int).toNat)]) (ea_consD (ep_int ev_c) (ea_consD (ep_int (ev_op ev_c ev_c (rv_I ⟨by decide, by decide, by decide⟩))) (ea_consD (ep_int (ev_op ev_c ev_c (rv_I ⟨by decide, by decide, by decide⟩))) ea_nilD)))
    have ix : ∃ M : Int, 0 < M ∧ M ≤ 10 ^ 30 ∧ Ev (tOp (rIxL K) (tLst (tCons (tC (.int 10)) (tCons (tOp (rI CPow fun i j => .int (i ^ j.toNat)) (tC (.int 10)) (tC (.int 6))) (tCons (tOp (rI CPow fun i j => .int (i ^ j.toNat)) (tC (.int 10)) (tC (.int 30))) tNil)))) (tOp (rI (fun _ j => 0 < j) fun i j => .int (i % j)) (tVar 2) (tC (.int 3)))) [some (.ref x.sa), some (.ref x.at_), some (.int r)] H3 (.int M) := by
      have ev := ev_op (H := H3) (ta := tVar 2) (tb := tC (.int 3)) (σ := [some (.ref x.sa), some (.ref x.at_), some (.int r)]) (x := .int r) (ev_var rfl) ev_c (rv_I (C := fun _ j => 0 < j) (g := fun i j => V.int (i % j)) (by decide))
      have : r % 3 = 0 ∨ r % 3 = 1 ∨ r % 3 = 2 := by omega
      rcases this with h | h | h <;> rw [h] at ev
      · exact ⟨10, by decide, by decide, ev_intD (ep_ixL (n := 0) lst.newDp ev rfl)⟩
      · exact ⟨10 ^ (6 : Int).toNat, by decide, by decide, ev_intD (ep_ixL (n := 1) lst.newDp ev rfl)⟩
      · exact ⟨10 ^ (30 : Int).toNat, by decide, by decide, ev_intD (ep_ixL (n := 2) lst.newDp ev rfl)⟩
    obtain ⟨M, hM0, hM1, hM⟩ := ix
    refine s_retE (ev_op (ev_op (ev_op (ev_op (ev_op (ev_var rfl) (ev_var rfl) (rv_I (by unfold CMul; omega))) (ev_var rfl) (rv_I (by unfold CMul; omega))) (ev_var rfl) (rv_I (by unfold CMul; omega))) ev_c (rv_I (by unfold CMul; omega))) hM (rv_I hM0)) fun H4 e4 => ?_
    have hmod := mod_in (a := r * r * r * r * 7919) hM0
    exact fin (e2.trans (e3.trans e4)) hmod.1 (by omega)
/-! ### _law_pool -/
theorem sg_let {j : Nat} (h : j < 26) : ∃ c, letters.cps.toList[j]? = some c ∧ c ∈ letters.cps.toList := by
  have hl : letters.cps.toList.length = 26 := by decide
  exact ⟨_, List.getElem?_eq_getElem (by omega), List.getElem_mem _⟩
theorem word_of {z : Str} (h1 : 1 ≤ z.length) (h2 : z.length ≤ 3) (h : ∀ c ∈ tl z, c ∈ letters.cps.toList) : Word z := ⟨⟨h1, h2⟩, h⟩
theorem tl_sign (c : Nat) : tl (⟨#[c]⟩ : Str) = [c] := rfl
theorem join_empty : ∀ (parts : List Str), tl (Txt.join Str.empty parts) = parts.flatMap tl := fun parts => by
  rw [_root_.TL.join_eq, _root_.TL.tl_join]
  have gen : ∀ l : List (List Nat), _root_.TL.joinL [] l = l.flatten := by
    intro l
    induction l with
    | nil => rfl
    | cons a l ih =>
      cases l with
      | nil => simp [_root_.TL.joinL]
      | cons b l =>
        show a ++ ([] ++ _root_.TL.joinL [] (b :: l)) = _
        rw [List.nil_append, ih]
        rfl
  show _root_.TL.joinL [] _ = _
  rw [gen, List.flatMap_def]
theorem tl_cut (z : Str) (lo hi : Option Int) : tl (cutS z lo hi) = (tl z |>.drop (_root_.HT.sIx z.length 0 lo)).take (_root_.HT.sIx z.length z.length hi - _root_.HT.sIx z.length 0 lo) := rfl
theorem ev_slS {z : Str} {tlo thi : TO} {lo hi : Option Int} (h : Ev te σ H (.str z)) (h1 : Evl.EvO tlo σ H lo) (h2 : Evl.EvO thi σ H hi) (hz : z.length ≤ 100000) : Ev (tSl rSlS te tlo thi) σ H (.str (cutS z lo hi)) := fun H1 e Q q =>
  h H1 e _ fun H2 e2 => h1 H2 (e.trans e2) _ fun H3 e3 => h2 H3 (e.trans (e2.trans e3)) _ fun H4 e4 => ⟨z, rfl, sz_of hz, q H4 (e2.trans (e3.trans e4))⟩
theorem ev_find {a b : Str} (ha : Ev ta σ H (.str a)) (hb : Ev tb σ H (.str b)) : Ev (tM1 (fun x xs H Q => ∃ a b, x = .str a ∧ xs = [.str b] ∧ Q (.int (Txt.find a b)) H) ta tb) σ H (.int (Txt.find a b)) := fun H1 e Q q =>
  ha H1 e _ fun H2 e2 => ⟨⟨a, rfl⟩, hb H2 (e.trans e2) _ fun H3 e3 => ⟨a, b, rfl, rfl, q H3 (e2.trans e3)⟩⟩
def lc (i : Int) : Nat := letters.cps.toList.getD i.toNat 97
theorem lc_mem (i : Int) : lc i ∈ letters.cps.toList := by
  unfold lc
  rw [List.getD_eq_getElem?_getD]
  cases h : letters.cps.toList[i.toNat]? with
  | none => decide
  | some c => exact List.mem_of_getElem? h
theorem ev_letter {ix : Int} (hl : Ev ta σ H (.str letters)) (hi : Ev tb σ H (.int ix)) (h0 : 0 ≤ ix) (h26 : ix < 26) : Ev (tOp rIxS ta tb) σ H (.str ⟨#[lc ix]⟩) := by
  refine ev_op hl hi (Evl.rv_ixS (by decide) ?_)
  obtain ⟨j, rfl⟩ : ∃ j : Nat, ix = (j : Int) := ⟨ix.toNat, by omega⟩
  refine atI_nat ?_
  have hll : letters.cps.toList.length = 26 := by decide
  unfold lc
  rw [List.getD_eq_getElem?_getD, Int.toNat_natCast, List.getElem?_eq_getElem (by omega)]
  rfl
def rJoin (K : PySem.W.Frag) : V → List V → Hp → VK → Prop := fun x xs H Q => ∃ a p, ∃ ys : List Str, x = .str a ∧ xs = [.ref p] ∧ (SqL K H p (ys.map V.str) ∨ SqT K H p (ys.map V.str)) ∧ (ys.map (·.length)).sum + ys.length * a.length ≤ 16777216 ∧ Q (.str (Txt.join a ys)) H
theorem ev_join {a : Str} {ys : List Str} {H0 : Hp} (hx : Ev ta σ H (.str a)) (hc : EvP te σ H (NewL K H0 (ys.map .str))) (hb : (ys.map (·.length)).sum + ys.length * a.length ≤ 16777216) : Ev (tM1 (rJoin K) ta te) σ H (.str (Txt.join a ys)) := fun H1 e Q q =>
  hx H1 e _ fun H2 e2 => ⟨⟨a, rfl⟩, hc H2 (e.trans e2) _ fun v H3 e3 hv => by
    obtain ⟨p, xs, rfl, _, hp, hA⟩ := hv
    have hxs := dpAll_strs' hA
    subst hxs
    exact ⟨a, p, ys, rfl, rfl, .inl (sq_of hp), hb, q H3 (e2.trans e3)⟩⟩
theorem empty_eq : (Str.ofString "" : Str) = Str.empty := by decide
def spPool (K : PySem.W.Frag) : Sp := spAt K 1 (fun (_ : Unit) x vs _ => vs = [.ref x.sa, .ref x.at_]) (fun _ x H v H' => ∃ p a b c, v = .ref p ∧ H p = none ∧ H' p = some (.lst [.str a, .str b, .str c]) ∧ Word a ∧ Word b ∧ Word c)
theorem cal_law_pool (T : TX K mg) : Cal P w K mg base 2 "_law_pool" (spPool K) [] := by
  refine T.cal d_law_pool (N := ["_law_script", "_law_at", "_law_letters", "_law_n", "_law_size", "_law_base", "_law_k", "_law_spot", "_law_step", "_law_other", "_law_last"]) (ps := ["_law_script", "_law_at"]) (List.mem_of_getElem? (i := 48) rfl) rfl (by decide +kernel) sc_law_pool (fun _ _ _ _ _ _ us hl => match us, hl with | [_, _], _ => rfl) (fun vs H Q E h => ?_) (fun cdv A outer s H vs Q E f hr h => ?_)
  · obtain ⟨a, x, C, rfl, _⟩ := h
    rfl
  · obtain ⟨a, x, C, rfl, L, hC, k⟩ := h
    have sc := sc_law_pool
    have c_law_next := cal_law_next (P := P) (w := w) (base := base) T
    refine ⟨_, pss_cons (ps_set (i := 2) sc.nd rfl (by first | exact Or.inl rfl | exact Or.inr rfl) (pe_str))
    (pss_cons (ps_set (i := 3) sc.nd rfl (by first | exact Or.inl rfl | exact Or.inr rfl) (pe_c c_law_next hr (by decide) rfl (pa_cons (pv 0) (pa_cons (pv 1) pa_nil))))
    (pss_cons (ps_set (i := 4) sc.nd rfl (by first | exact Or.inl rfl | exact Or.inr rfl) (pe_op op_add (pe_int) (pe_op op_mod (pv 3) (pe_int))))
    (pss_cons (ps_set (i := 5) sc.nd rfl (by first | exact Or.inl rfl | exact Or.inr rfl) (pe_join (pe_str) (pe_lc (own := [("_law_k", 6)]) (g := gName 6) (tt := tYes) (te := _) rfl sc.nd (pi_range1 rfl (T.free "range") (pa_cons (pv 4) pa_nil)) (blkOk_by (own := [("_law_k", 6)]) rfl) (fun _ _ _ _ _ => pg_name (i := 6) sc.nd rfl (by first | exact Or.inl rfl | exact Or.inr rfl)) (fun _ _ _ _ _ => pts_nil) (fun _ _ _ _ _ => pe_ix ix_str (pv 2) (pe_op op_mod (pe_op op_add (pe_op op_fdiv (pv 3) (pe_int)) (pe_op op_mul (pv 6) (pe_op op_fdiv (pv 3) (pe_int)))) (pe_int)) (fun _ _ => rfl)))))
    (pss_cons (ps_set (i := 7) sc.nd rfl (by first | exact Or.inl rfl | exact Or.inr rfl) (pe_op op_mod (pe_op op_fdiv (pv 3) (pe_int)) (pv 4)))
    (pss_cons (ps_set (i := 8) sc.nd rfl (by first | exact Or.inl rfl | exact Or.inr rfl) (pe_op op_add (pe_op op_add (pe_m1 PySem.F.slot_str_find PySem.F.type_str_find mt_find (pv 2) (pe_ix ix_str (pv 5) (pv 7) (fun _ _ => rfl))) (pe_int)) (pe_op op_mod (pe_op op_fdiv (pv 3) (pe_int)) (pe_int))))
    (pss_cons (ps_set (i := 9) sc.nd rfl (by first | exact Or.inl rfl | exact Or.inr rfl) (pe_op op_add_str (pe_op op_add_str (pe_slice sl_str (pv 5) po_none (po_some (pv 7))) (pe_ix ix_str (pv 2) (pe_op op_mod (pv 8) (pe_int)) (fun _ _ => rfl))) (pe_slice sl_str (pv 5) (po_some (pe_op op_add (pv 7) (pe_int))) po_none)))
    (pss_cons (ps_set (i := 10) sc.nd rfl (by first | exact Or.inl rfl | exact Or.inr rfl) (pe_slice sl_str (pv 5) po_none (po_some (pe_int))))
    (pss_cons (ps_if (pt_cmpR op_lt (pv 4) (pe_int) (by rfl))
    (pss_one (ps_set (i := 10) sc.nd rfl (by first | exact Or.inl rfl | exact Or.inr rfl) (pe_op op_add_str (pv 5) (pe_ix ix_str (pv 2) (pe_op op_mod (pe_op op_fdiv (pv 3) (pe_int)) (pe_int)) (fun _ _ => rfl)))))
    (pss_nil))
    (pss_one (ps_ret (pe_lst (pa_cons (pv 5) (pa_cons (pv 9) (pa_cons (pv 10) pa_nil)))))))))))))), ?_⟩
    refine q_asg ev_c fun H0 e0 => ?_
    refine w_asg (w_next (L.more e0) (by omega) rfl rfl fun n H1 b1 L1 h0 h1 => ?_)
    have hm3 := mod_in (a := n) (m := 3) (by omega)
    obtain ⟨m, hm⟩ : ∃ m : Nat, 1 + n % 3 = (m : Int) := ⟨(1 + n % 3).toNat, by omega⟩
    have m1 : 1 ≤ m := by omega
    have m3 : m ≤ 3 := by omega
    refine q_asg (v := .int (m : Int)) (by rw [← hm]; exact ev_op ev_c (ev_op (ev_var rfl) ev_c (rv_I (by decide))) rv_I0) fun H2 e2 => ?_
    have d3 : CDiv n 3 := ⟨by decide, by decide⟩
    have evB : ∀ {σ' : L2.St} {H' : Hp}, σ'[2]? = some (some (.str letters)) → σ'[3]? = some (some (.int n)) → ∀ k : Nat, σ'[6]? = some (some (.int (k : Int))) → Ev (tOp rIxS (tVar 2) (tOp (rI (fun _ j => 0 < j) fun i j => .int (i % j)) (tOp (rI0 fun i j => .int (i + j)) (tOp (rI CDiv fun i j => .int (i / j)) (tVar 3) (tC (.int 3))) (tOp (rI CMul fun i j => .int (i * j)) (tVar 6) (tOp (rI CDiv fun i j => .int (i / j)) (tVar 3) (tC (.int 7))))) (tC (.int 26)))) σ' H' (.str ⟨#[lc ((n / 3 + (k : Int) * (n / 7)) % 26)]⟩) := fun {σ' H'} s2 s3 k s6 => by
      have hm := mod_in (a := n / 3 + (k : Int) * (n / 7)) (m := 26) (by omega)
      refine ev_letter (ev_var s2) (ev_op (ev_op (ev_op (ev_var s3) ev_c (rv_I ⟨by decide, by decide⟩)) (ev_op (ev_var s6) (ev_op (ev_var s3) ev_c (rv_I ⟨by decide, by decide⟩)) (rv_I (.inr ?_))) rv_I0) ev_c (rv_I (by decide))) hm.1 hm.2
      have g1 : 0 ≤ n / 7 := Int.ediv_nonneg h0 (by omega)
      have g2 : n / 7 ≤ n := Int.ediv_le_self 7 h0
      omega
    obtain ⟨ys, hys⟩ : ∃ ys : List Str, ys = (List.range m).map fun (k : Nat) => (⟨#[lc ((n / 3 + (k : Int) * (n / 7)) % 26)]⟩ : Str) := ⟨_, rfl⟩
    have ylen : ys.length = m := by rw [hys, List.length_map, List.length_range]
    have yone : ∀ s ∈ ys, s.length = 1 ∧ ∀ c ∈ tl s, c ∈ letters.cps.toList := fun s hs => by
      rw [hys] at hs
      obtain ⟨k, _, rfl⟩ := List.mem_map.mp hs
      refine ⟨rfl, fun c hc => ?_⟩
      have : c = lc ((n / 3 + (k : Int) * (n / 7)) % 26) := by simpa [tl] using hc
      rw [this]
      exact lc_mem _
    have ysum := sum_le (f := fun s : Str => s.length) (b := 1) ys fun s hs => Nat.le_of_eq (yone s hs).1
    obtain ⟨Bs, hBs⟩ : ∃ Bs, Bs = Txt.join (Str.ofString "") ys := ⟨_, rfl⟩
    have tlB : tl Bs = ys.flatMap tl := by rw [hBs, empty_eq]; exact join_empty ys
    have lenB : Bs.length = m := by
      rw [len_tl, tlB, ← ylen]
      clear hys ysum hBs tlB ylen
      induction ys with
      | nil => rfl
      | cons s ys ih =>
        rw [List.flatMap_cons, List.length_append, ih fun s hs => yone s (List.mem_cons_of_mem _ hs), ← len_tl, (yone s List.mem_cons_self).1, List.length_cons]
        omega
    have memB : ∀ c ∈ tl Bs, c ∈ letters.cps.toList := fun c hc => by
      rw [tlB] at hc
      obtain ⟨s, hs, hc⟩ := List.mem_flatMap.mp hc
      exact (yone s hs).2 c hc
    refine q_asg (v := .str Bs) (by
      rw [hBs]
      refine ev_join (H0 := H2) ev_c (EvP.imp (P := NewL K H2 (outs m (fun _ => true) fun (k : Nat) => .str ⟨#[lc ((n / 3 + (k : Int) * (n / 7)) % 26)]⟩)) (ep_lcR (K := K) (n := m) (fun _ => true) (fun (k : Nat) => .str ⟨#[lc ((n / 3 + (k : Int) * (n / 7)) % 26)]⟩) (ea_cons (ev_var rfl) ea_nil) (by omega) (fun _ _ _ => rfl) (fun x => rfl) (fun _ _ _ _ => et_yes) fun k H3 e3 hk _ => ep_str (evB rfl rfl k rfl)) fun v H3 _ h => ?_) ?_
      · rw [outs_all] at h
        rw [hys, List.map_map]
        exact h
      · have : (Str.ofString "").length = 0 := by decide
        rw [this]
        omega) fun H3 e3 => ?_
    have hms := mod_in (a := n / 11) (m := (m : Int)) (by omega)
    obtain ⟨s, hs⟩ : ∃ s : Nat, n / 11 % (m : Int) = (s : Int) := ⟨(n / 11 % (m : Int)).toNat, by omega⟩
    have hsm : s < m := by omega
    have hmpos : (0 : Int) < (m : Int) := by omega
    refine q_asg (v := .int (s : Int)) (by rw [← hs]; exact ev_op (ev_op (ev_var rfl) ev_c (rv_I ⟨by decide, by decide⟩)) (ev_var rfl) (rv_I hmpos)) fun H4 e4 => ?_
    obtain ⟨cs, hcs⟩ : ∃ cs, Bs.cps.toList[s]? = some cs := ⟨_, List.getElem?_eq_getElem (by
      have : (tl Bs).length = m := by rw [← len_tl]; exact lenB
      show s < (tl Bs).length
      omega)⟩
    obtain ⟨st, hst⟩ : ∃ st, st = Txt.find letters ⟨#[cs]⟩ + 1 + n / 13 % 25 := ⟨_, rfl⟩
    refine q_asg (v := .int st) (by rw [hst]; exact ev_op (ev_op (ev_find (ev_var rfl) (ev_op (ev_var rfl) (ev_var rfl) (Evl.rv_ixS (by omega) (atI_nat hcs)))) ev_c rv_I0) (ev_op (ev_op (ev_var rfl) ev_c (rv_I ⟨by decide, by decide⟩)) ev_c (rv_I (by decide))) rv_I0) fun H5 e5 => ?_
    clear hst
    have hmst := mod_in (a := st) (m := 26) (by omega)
    have lB : (tl Bs).length = m := by rw [← len_tl]; exact lenB
    have c1 : tl (cutS Bs none (some (s : Int))) = (tl Bs).take s := by
      rw [tl_cut, _root_.HT.sIx_none, _root_.HT.sIx_nat, List.drop_zero, Nat.sub_zero, Nat.min_eq_left (by omega)]
    have c2 : tl (cutS Bs (some ((s : Int) + 1)) none) = (tl Bs).drop (s + 1) := by
      have e : ((s : Int) + 1) = ((s + 1 : Nat) : Int) := by omega
      rw [tl_cut, _root_.HT.sIx_none, e, _root_.HT.sIx_nat, Nat.min_eq_left (by omega), List.take_of_length_le (by rw [List.length_drop]; omega)]
    have c3 : tl (cutS Bs none (some 2)) = (tl Bs).take 2 := by
      have e : (2 : Int) = ((2 : Nat) : Int) := rfl
      rw [tl_cut, _root_.HT.sIx_none, e, _root_.HT.sIx_nat, List.drop_zero, Nat.sub_zero]
      by_cases h : 2 ≤ Bs.length
      · rw [Nat.min_eq_left h]
      · rw [Nat.min_eq_right (by omega), List.take_of_length_le (by omega), List.take_of_length_le (by omega)]
    have cl1 := congrArg List.length c1
    have cl2 := congrArg List.length c2
    have cl3 := congrArg List.length c3
    rw [← len_tl, List.length_take, lB] at cl1 cl3
    rw [← len_tl, List.length_drop, lB] at cl2
    have lone : ∀ c : Nat, (⟨#[c]⟩ : Str).length = 1 := fun c => rfl
    have wB : Word Bs := word_of (by omega) (by omega) memB
    have wO : Word (cutS Bs none (some (s : Int)) ++ ⟨#[lc (st % 26)]⟩ ++ cutS Bs (some ((s : Int) + 1)) none) := by
      refine word_of ?_ ?_ fun c hc => ?_
      · rw [str_len, str_len, lone]
        omega
      · rw [str_len, str_len, lone]
        omega
      · rw [tl_append, tl_append, c1, c2, List.mem_append, List.mem_append] at hc
        rcases hc with (hc | hc) | hc
        · exact memB c (List.mem_of_mem_take hc)
        · have : c = lc (st % 26) := by simpa [tl] using hc
          rw [this]
          exact lc_mem _
        · exact memB c (List.mem_of_mem_drop hc)
    refine q_asg (ev_op (ev_op (ev_slS (ev_var rfl) Evl.eo_none (Evl.eo_some (ev_var rfl)) (by omega)) (ev_letter (ev_var rfl) (ev_op (ev_var rfl) ev_c (rv_I (by decide))) hmst.1 hmst.2) (rv_addS (by rw [lone]; omega))) (ev_slS (ev_var rfl) (Evl.eo_some (ev_op (ev_var rfl) ev_c rv_I0)) Evl.eo_none (by omega)) (rv_addS (by rw [str_len, lone]; omega))) fun H6 e6 => ?_
    refine q_asg (ev_slS (ev_var rfl) Evl.eo_none (Evl.eo_some ev_c) (by omega)) fun H7 e7 => ?_
    have e17 : Ex H1 H7 := e2.trans (e3.trans (e4.trans (e5.trans (e6.trans e7))))
    have fin : ∀ {H8 : Hp} {ls : Str}, Ex H7 H8 → Word ls → tRet (tLst (tCons (tVar 5) (tCons (tVar 9) (tCons (tVar 10) tNil)))) { nx := fun _ H' => Q .non H', rt := Q } [some (.ref x.sa), some (.ref x.at_), some (.str letters), some (.int n), some (.int (m : Int)), some (.str Bs), none, some (.int (s : Int)), some (.int st), some (.str (cutS Bs none (some (s : Int)) ++ ⟨#[lc (st % 26)]⟩ ++ cutS Bs (some ((s : Int) + 1)) none)), some (.str ls)] H8 := fun {H8 ls} e8 hw => by
      refine Evl.s_retL (Evl.el_lst (ea_cons (ev_var rfl) (ea_cons (ev_var rfl) (ea_cons (ev_var rfl) ea_nil))) (by simp)) fun p H9 hp e9 h9 => ?_
      have bH : But x.at_ H H9 := ((ex_but e0 b1).ex e17).ex (e8.trans e9)
      have hpH : H p = none := by
        cases hq : H p with
        | none => rfl
        | some o =>
          by_cases c : p = x.at_
          · obtain ⟨c', n', g1, _⟩ := (L1.more (e17.trans e8)).at_
            rw [c, g1] at hp
            cases hp
          · have := ((ex_but e0 b1).ex (e17.trans e8)) _ _ hq c
            rw [hp] at this
            cases this
      exact k _ _ bH (L1.more (e17.trans (e8.trans e9))) ⟨p, _, _, _, rfl, hpH, h9, wB, wO, hw⟩
    have hm17 := mod_in (a := n / 17) (m := 26) (by omega)
    refine Evl.q_if (et_test (ev_op (ev_var rfl) ev_c rv_I0)) (fun hb H8 e8 => ?_) fun hb H8 e8 => ?_
    · have hlt : m < 3 := by have := of_decide_eq_true hb; omega
      refine s_asgE (v := .str (Bs ++ ⟨#[lc (n / 17 % 26)]⟩)) (ev_op (ev_var rfl) (ev_letter (ev_var rfl) (ev_op (ev_op (ev_var rfl) ev_c (rv_I ⟨by decide, by decide⟩)) ev_c (rv_I (by decide))) hm17.1 hm17.2) (rv_addS (by rw [lone]; omega))) fun H9 e9 => fin (e8.trans e9) (word_of (by rw [str_len, lone]; omega) (by rw [str_len, lone]; omega) fun c hc => ?_)
      rw [tl_append, List.mem_append] at hc
      rcases hc with hc | hc
      · exact memB c hc
      · have : c = lc (n / 17 % 26) := by simpa [tl] using hc
        rw [this]
        exact lc_mem _
    · have hge : 3 ≤ m := by have := of_decide_eq_false hb; omega
      exact fin e8 (word_of (by omega) (by omega) fun c hc => memB c (by rw [c3] at hc; exact List.mem_of_mem_take hc))
end
end L2.Tw
set_option Elab.async false
set_option linter.all false
set_option maxRecDepth 100000
set_option maxHeartbeats 4000000
set_option autoImplicit false
namespace L2.Tw
open PySem PySem.Spec PyProof.Rows L2
open C8 (Cal Met Mak pe_c pe_mk pe_mt pe_mt0 pe_gc InsC)
open Evl (Ex Ev EvT EvA fresh_back ex_l ex_t ex_rd sq_of st_of sz_of sz_lt ev_var ev_c ev_op rv_I0 rv_I rv_eq rv_ne et_test et_or et_and et_not et_B s_if ea_nil ea_cons q_asg q_when)
open _root_.TL (tl tl_append len_tl)
section
variable {P : Program} {w : World} {K : PySem.W.Frag} {mg : Str → Option Value} {base : Heap}
variable {σ : L2.St} {H : Hp} {ta tb te : TE} {tA tr : TA} {D : Ends} {tz : TS} {Q : VK} {r : R2}
theorem LS.ne {x : LIn} {C : Int} {p : Addr} (L : LS K x H C) (hp : H p = none) : p ≠ x.at_ := fun z => by
  obtain ⟨c, n, h, _⟩ := L.at_
  rw [z, h] at hp
  cases hp
theorem LS.f0 {x : LIn} {C : Int} {p : Addr} (L : LS K x H C) (hp : H p = none) : x.H0 p = none := fresh_back L.ex hp
theorem LS.f0' {x : LIn} {C C' : Int} {p : Addr} {H' : Hp} (_ : LS K x H' C') (_ : But x.at_ H H') (L : LS K x H C) (hp : H p = none) : x.H0 p = none := L.f0 hp
theorem LS.back {x : LIn} {C' : Int} {p : Addr} {H' : Hp} (L' : LS K x H' C') (b : But x.at_ H H') (hp : H' p = none) : H p = none := by
  cases hq : H p with
  | none => rfl
  | some o =>
    have := b _ _ hq (L'.ne hp)
    rw [hp] at this
    cases this
theorem LS.tup {x : LIn} {C : Int} {H' : Hp} (L : LS K x H C) (b : But x.at_ H H') : TupEx K H H' := by
  obtain ⟨c, n, h, _⟩ := L.at_
  exact tupEx_but h rfl b
theorem But.mut {x p : Addr} {H H' : Hp} {o : HO} (b : But x H H') (hp : H p = none) : But x H (L2.upd H' p o) := fun q u h n => by
  rw [upd_ne fun z => by rw [z, hp] at h; cases h]
  exact b q u h n
/-- [e for i in range(n)], the rest told by the invariant -/
theorem w_lcR {j : Nat} {vs : List Nat} {n : Nat} (h : EvA tA σ H [.int (n : Int)]) (hn : n ≤ 40000) (hw : ∀ x, wipe ((wipe σ vs).set j (some x)) vs = wipe σ vs) (Pv : Addr → Nat → List V → Hp → Prop)
    (h0 : ∀ Dl H1, Ex H H1 → H1 Dl = none → Pv Dl 0 [] (upd H1 Dl (.lst [])))
    (hs : ∀ Dl i acc H', i < n → Pv Dl i acc H' → H' Dl = some (.lst acc) → ∀ Q' : VK, (∀ y H4, H4 Dl = some (.lst acc) → Pv Dl (i + 1) (acc ++ [y]) (upd H4 Dl (.lst (acc ++ [y]))) → Q' y H4) → te ((wipe σ vs).set j (some (.int (i : Int)))) H' Q')
    (hq : ∀ Dl acc H', Pv Dl n acc H' → acc.length = n → H' Dl = some (.lst acc) → Q (.ref Dl) H') : tLc (iRng1 tA) (gName j) tYes te vs σ H Q :=
  h H (Evl.Ex.refl H) _ fun H1 e1 => ⟨(n : Int), rfl, by omega, by omega, fun Dl hD => by
    have en : ((n : Int)).toNat = n := by omega
    rw [en]
    exact lc_range (lo := 0) (n := n) (fun i H' => ∃ acc, acc.length = i ∧ H' Dl = some (.lst acc) ∧ Pv Dl i acc H') ⟨[], rfl, upd_same, h0 Dl H1 e1 hD⟩ (fun i H' hi ⟨acc, ha, hd, p⟩ => by
      have e0 : (0 : Int) + (i : Int) = (i : Int) := Int.zero_add _
      show wipe ((wipe σ vs).set j (some (.int ((0 : Int) + (i : Int))))) vs = wipe σ vs ∧ te ((wipe σ vs).set j (some (.int ((0 : Int) + (i : Int))))) H' fun y H4 => ∃ acc, H4 Dl = some (.lst acc) ∧ acc.length < sizeLine ∧ ∃ acc', acc'.length = i + 1 ∧ (upd H4 Dl (.lst (acc ++ [y]))) Dl = some (.lst acc') ∧ Pv Dl (i + 1) acc' (upd H4 Dl (.lst (acc ++ [y])))
      rw [e0]
      refine ⟨hw _, hs Dl i acc H' hi p hd _ fun y H4 q1 q2 => ⟨acc, q1, sz_lt (by omega), _, ?_, upd_same, q2⟩⟩
      rw [List.length_append, ha]
      rfl) (fun H' ⟨acc, ha, hd, p⟩ => hq Dl acc H' p ha hd)⟩
/-! ### _law_kinds -/
def spKinds (K : PySem.W.Frag) : Sp := spAt K 5 (fun (n : Nat) x vs _ => vs = [.ref x.sa, .ref x.at_, .int (n : Int)] ∧ 1 ≤ n ∧ n ≤ 3) (fun n _ H v H' => ∃ p, ∃ ks : List Str, v = .ref p ∧ H p = none ∧ H' p = some (.lst (ks.map .str)) ∧ ks.length = n ∧ ∀ k ∈ ks, Word k)
theorem s_retR (h : te σ H D.rt) : tRet te D σ H := h
theorem cal_law_kinds (T : TX K mg) : Cal P w K mg base 3 "_law_kinds" (spKinds K) [] := by
  refine T.cal d_law_kinds (N := ["_law_script", "_law_at", "_law_size", "_law_pool_here", "_law_many", "_law_k"]) (ps := ["_law_script", "_law_at", "_law_size"]) (List.mem_of_getElem? (i := 49) rfl) rfl (by decide +kernel) sc_law_kinds (fun _ _ _ _ _ _ us hl => match us, hl with | [_, _, _], _ => rfl) (fun vs H Q E h => ?_) (fun cdv A outer s H vs Q E f hr h => ?_)
  · obtain ⟨a, x, C, ⟨rfl, _⟩, _⟩ := h
    rfl
  · obtain ⟨n, x, C, ⟨rfl, n1, n3⟩, L, hC, k⟩ := h
    have sc := sc_law_kinds
    have c_law_next := cal_law_next (P := P) (w := w) (base := base) T
    have c_law_pool := cal_law_pool (P := P) (w := w) (base := base) T
    refine ⟨_, pss_cons (ps_set (i := 3) sc.nd rfl (by first | exact Or.inl rfl | exact Or.inr rfl) (pe_c c_law_pool hr (by decide) rfl (pa_cons (pv 0) (pa_cons (pv 1) pa_nil))))
    (pss_cons (ps_set (i := 4) sc.nd rfl (by first | exact Or.inl rfl | exact Or.inr rfl) (pe_op op_add (pe_int) (pe_op op_mod (pe_c c_law_next hr (by decide) rfl (pa_cons (pv 0) (pa_cons (pv 1) pa_nil))) (pe_int))))
    (pss_one (ps_ret (pe_lc (own := [("_law_k", 5)]) (g := gName 5) (tt := tYes) (te := tOp (rIxL K) (_) (_)) rfl sc.nd (pi_range1 rfl (T.free "range") (pa_cons (pv 2) pa_nil)) (blkOk_by (own := [("_law_k", 5)]) rfl) (fun _ _ _ _ _ => pg_name (i := 5) sc.nd rfl (by first | exact Or.inl rfl | exact Or.inr rfl)) (fun _ _ _ _ _ => pts_nil) (fun _ _ _ _ _ => pe_ix ix_list (pv 3) (pe_op op_mod (pe_c c_law_next hr (by decide) rfl (pa_cons (pv 0) (pa_cons (pv 1) pa_nil))) (pv 4)) (fun _ _ => rfl)))))), ?_⟩
    refine w_asg (w_at (K := K) () (ea_cons (ev_var rfl) (ea_cons (ev_var rfl) ea_nil)) L (by omega) (fun _ _ => rfl) fun v H1 H2 e1 b2 L2 hv => ?_)
    obtain ⟨p, a, b, c, rfl, p0, hp, wa, wb, wc⟩ := hv
    refine w_asg (w_op (w_ev ev_c fun H3 e3 => w_op (w_next (L2.more e3) (by omega) rfl rfl fun m H4 b4 L4 m0 m1 => w_ev ev_c fun H5 e5 => w_rv (rv_I (by decide)) fun H6 e6 => w_rv rv_I0 fun H7 e7 => ?_)))
    have hpm : p ≠ x.at_ := (L.more e1).ne p0
    have e47 := (e5.trans e6).trans e7
    have L7 := L4.more e47
    have hp7 : H7 p = some (.lst [.str a, .str b, .str c]) := e47 _ _ (b4 _ _ (e3 _ _ hp) hpm)
    have b7 : But x.at_ H H7 := ((((ex_but e1 b2).ex e3).trans b4).ex e47)
    have hm3 := mod_in (a := m) (m := 3) (by omega)
    obtain ⟨mm, hmm⟩ : ∃ mm : Nat, 1 + m % 3 = (mm : Int) := ⟨(1 + m % 3).toNat, by omega⟩
    rw [hmm]
    have mm3 : 1 ≤ mm ∧ mm ≤ 3 := by omega
    have mmpos : (0 : Int) < (mm : Int) := by omega
    refine s_retR (w_lcR (n := n) (ea_cons (ev_var rfl) ea_nil) (by omega) (fun y => rfl) (fun Dl i acc H' => H7 Dl = none ∧ But x.at_ H7 H' ∧ LS K x H' (C + 1 + 1 + i) ∧ ∃ ks : List Str, acc = ks.map .str ∧ ∀ k ∈ ks, Word k) (fun Dl H8 e8 h8 => ?_) (fun Dl i acc H' hi ⟨d1, d2, d3, ks, d4, d5⟩ hD Q' q => ?_) fun Dl acc H' ⟨d1, d2, d3, ks, d4, d5⟩ hl hD => ?_)
    · have d0 : H7 Dl = none := fresh_back e8 h8
      exact ⟨d0, (ex_but e8 (ex_but (Evl.Ex.new h8) (But.refl _ _))), L7.more (e8.trans (Evl.Ex.new h8)) |>.up (by omega) (by omega), [], rfl, fun _ h => by cases h⟩
    · refine w_op (w_ev (ev_var rfl) fun H8 e8 => w_op (w_next (d3.more e8) (by omega) rfl rfl fun s H9 b9 L9 s0 s1 => w_ev (ev_var rfl) fun H10 e10 => w_rv (rv_I mmpos) fun H11 e11 => ?_))
      have hs := mod_in (a := s) (m := (mm : Int)) mmpos
      obtain ⟨t, ht⟩ : ∃ t : Nat, s % (mm : Int) = (t : Int) := ⟨(s % (mm : Int)).toNat, by omega⟩
      rw [ht]
      have b11 : But x.at_ H7 H11 := (((d2.ex e8).trans b9).ex (e10.trans e11))
      have hp11 := b11 _ _ hp7 hpm
      have hDm : Dl ≠ x.at_ := L7.ne d1
      have fin : ∀ z : Str, Word z → atI [V.str a, V.str b, V.str c] (t : Int) = some (.str z) → rIxL K (.ref p) (.int (t : Int)) H11 Q' := fun z hz hat => by
        refine w_rv (Evl.rv_ixL (sq_of hp11) hat) fun H12 e12 => ?_
        have L12 := L9.more ((e10.trans e11).trans e12)
        have hD12 := e12 _ _ (e11 _ _ (e10 _ _ (b9 _ _ (e8 _ _ hD) hDm)))
        refine q _ _ hD12 ⟨d1, (b11.ex e12).mut d1, ?_, ks ++ [z], by rw [d4, List.map_append]; rfl, fun k hk => ?_⟩
        · refine (L12.but But.upd (L7.f0 d1) hDm).up (by omega) (by omega)
        · rcases List.mem_append.mp hk with hk | hk
          · exact d5 k hk
          · rw [show k = z by simpa using hk]
            exact hz
      have : t = 0 ∨ t = 1 ∨ t = 2 := by omega
      rcases this with rfl | rfl | rfl
      · exact fin a wa (atI_nat rfl)
      · exact fin b wb (atI_nat rfl)
      · exact fin c wc (atI_nat rfl)
    · subst d4
      rw [List.length_map] at hl
      exact k _ _ (b7.trans d2) (d3.up (by omega) (by omega)) ⟨Dl, ks, rfl, L7.back b7 d1, hD, hl, d5⟩
/-! ### _law_ties -/
theorem and_true {a b : Bool} (h : (a && b) = true) : a = true ∧ b = true := by
  cases a <;> cases b <;> first | exact ⟨rfl, rfl⟩ | cases h
theorem q_whenI {b : Bool} {t : TT} {tu : TS} (Pv : L2.St → Hp → Prop) (h : EvT t σ H b) (h1 : b = true → ∀ H1, Ex H H1 → ∀ D' : Ends, (∀ σ' H', Pv σ' H' → D'.nx σ' H') → tu D' σ H1) (h2 : b = false → ∀ H1, Ex H H1 → Pv σ H1) (k : ∀ σ' H', Pv σ' H' → tz D σ' H') : tSeq (tIfS t tu tNext) tz D σ H :=
  q_when h (fun hb H1 e1 => h1 hb H1 e1 _ k) fun hb H1 e1 => k _ _ (h2 hb H1 e1)
def forK (g : TG) (tbd : TS) (D : Ends) (σ : L2.St) : List V → Hp → Prop := fun vs H1 => ∃ j : Int, vs = [.int j] ∧ -(2 ^ 62) ≤ j ∧ j < 2 ^ 62 ∧ ∃ W : Nat → Nat → L2.St → Hp → Prop, (∃ m, W 0 m σ H1) ∧ ∀ i m σ H, W i m σ H →
  ((Itr 0 j.toNat).stop i H ∧ D.nx σ H) ∨ ((Itr 0 j.toNat).go i H ∧ ∃ N : L2.St → Hp → Prop, (∀ σ' H', N σ' H' → ∃ m', m' < m ∧ W (i + 1) m' σ' H') ∧ ∀ x H', (Itr 0 j.toNat).yld i H x H' → g x σ H' fun σ2 H2 => tbd { D with nx := N, ct := N, bk := D.nx } σ2 H2)
theorem q_forW {tbd : TS} {g : TG} (h : tA σ H (forK g tbd { D with nx := tz D } σ)) : tSeq (tFor (iRng1 tA) g tbd) tz D σ H := h
theorem forK_by {tbd : TS} {j n : Nat} (hn : n ≤ 100000) (Pv : Nat → L2.St → Hp → Prop) (h0 : Pv 0 σ H)
    (hs : ∀ (i : Nat) σ' H', i < n → Pv i σ' H' → tbd { D with nx := Pv (i + 1), ct := Pv (i + 1), bk := D.nx } (σ'.set j (some (.int (i : Int)))) H') (hd : ∀ σ' H', Pv n σ' H' → D.nx σ' H') : forK (gName j) tbd D σ [.int (n : Int)] H :=
  ⟨(n : Int), rfl, by omega, by omega, for_range (lo := 0) (n := (n : Int).toNat) Pv h0 (fun i σ' H' hi p => by
    have e0 : (0 : Int) + (i : Int) = (i : Int) := Int.zero_add _
    show tbd { D with nx := Pv (i + 1), ct := Pv (i + 1), bk := D.nx } (σ'.set j (some (.int ((0 : Int) + (i : Int))))) H'
    rw [e0]
    exact hs i σ' H' (by omega) p) hd⟩
/-- an empty range -/
theorem ep_lc0 {g : TG} {vs : List Nat} {z : Int} (h : EvA tA σ H [.int z]) (hz : -1000 ≤ z ∧ z ≤ 0) : EvP (tLc (iRng1 tA) g tYes te vs) σ H (NewL K H []) := fun H0 e Q q => h H0 e _ fun H1 e1 => ⟨z, rfl, by omega, by omega, fun Dl hD => by
  have en : z.toNat = 0 := by omega
  rw [en]
  exact lc_range (lo := 0) (n := 0) (fun i H' => H' = upd H1 Dl (.lst [])) rfl (fun i H' hi p => by omega) fun H' p => by
    subst p
    exact q _ _ (e1.trans (Evl.Ex.new hD)) ⟨Dl, [], rfl, fresh_back (e.trans e1) hD, upd_same, .nil⟩⟩
def tiesD (ts : List Tie) : List PyData := ts.map tieD
theorem noL_ties (ts : List Tie) : noLs (ts.map tieD) = true := noLs_iff.mpr fun d hd => by
  obtain ⟨t, _, rfl⟩ := List.mem_map.mp hd
  rfl
structure TSt (K : PySem.W.Frag) (at_ : Addr) (n : Nat) (Hs : Hp) (tp : Addr) (ts : List Tie) (H : Hp) : Prop where
  f : Hs tp = none
  b : But at_ Hs H
  l : ∃ xs, H tp = some (.lst xs) ∧ DpAll K H xs (ts.map tieD)
  m : ts.length ≤ 12
  ok : ∀ t ∈ ts, TieOk n t
theorem TSt.more {at_ tp : Addr} {n : Nat} {Hs H' : Hp} {ts : List Tie} (t : TSt K at_ n Hs tp ts H) (e : Ex H H') : TSt K at_ n Hs tp ts H' := by
  obtain ⟨xs, h1, h2⟩ := t.l
  exact ⟨t.f, t.b.ex e, ⟨xs, e _ _ h1, dpAll_ex e h2⟩, t.m, t.ok⟩
theorem TSt.draw {x : LIn} {C C' : Int} {tp : Addr} {n : Nat} {Hs H' : Hp} {ts : List Tie} (t : TSt K x.at_ n Hs tp ts H) (L0 : LS K x Hs C') (L : LS K x H C) (b : But x.at_ H H') : TSt K x.at_ n Hs tp ts H' := by
  obtain ⟨xs, h1, h2⟩ := t.l
  exact ⟨t.f, t.b.trans b, ⟨xs, b _ _ h1 (L0.ne t.f), dpAll_tup (L.tup b) (noL_ties ts) h2⟩, t.m, t.ok⟩
theorem TSt.new {x : LIn} {C : Int} {v : V} {n : Nat} {Hs H' : Hp} {ts : List Tie} (b : But x.at_ Hs H) (L : LS K x H C) (h : NewL K H (ts.map tieD) v H') (e : Ex H H') (m : ts.length ≤ 12) (ok : ∀ t ∈ ts, TieOk n t) : ∃ tp, v = .ref tp ∧ TSt K x.at_ n Hs tp ts H' := by
  obtain ⟨p, xs, rfl, h1, h2, h3⟩ := h
  exact ⟨p, rfl, L.back b h1, b.ex e, ⟨xs, h2, h3⟩, m, ok⟩
theorem dpAll_app : ∀ {xs ys : List V} {ds es : List PyData}, DpAll K H xs ds → DpAll K H ys es → DpAll K H (xs ++ ys) (ds ++ es)
  | [], ys, _, _, h, g => by cases h; exact g
  | x :: xs, ys, _, _, h, g => by
    cases h with
    | cons h1 h2 => exact .cons h1 (dpAll_app h2 g)
theorem s_extT {at_ tp : Addr} {n : Nat} {Hs : Hp} {ts us : List Tie} (t : TSt K at_ n Hs tp ts H) (ha : Ev ta σ H (.ref tp)) (h : EvP te σ H (NewL K H (us.map tieD))) (hm : ts.length + us.length ≤ 12) (ok : ∀ t ∈ us, TieOk n t) (k : ∀ H', TSt K at_ n Hs tp (ts ++ us) H' → (Ex Hs H → Ex Hs H') → D.nx σ H') :
    tDrop (tBM K "list" rExtend ta (tCons te tNil)) D σ H := ha H (Evl.Ex.refl H) _ fun H1 e1 => by
  obtain ⟨xs, h1, h2⟩ := (t.more e1).l
  refine ⟨Or.inl ⟨rfl, xs, sq_of h1⟩, h H1 e1 _ fun v H2 e2 hv => ?_⟩
  obtain ⟨p, ys, rfl, p0, p1, p2⟩ := hv
  have t2 := (t.more e1).more e2
  have h3 := e2 _ _ h1
  have l1 := DpAll.length h2
  have l2 := DpAll.length p2
  rw [List.length_map] at l1 l2
  have tx : TupEx K H2 (upd H2 tp (.lst (xs ++ ys))) := tupEx_upd h3 rfl
  refine ⟨tp, p, xs, ys, rfl, rfl, h3, p1, sz_of (by omega), k _ ⟨t.f, t2.b.mut t.f, ⟨_, upd_same, ?_⟩, by rw [List.length_append]; omega, fun u hu => ?_⟩ fun e => Evl.Ex.mut (e.trans (e1.trans e2)) t.f⟩
  · rw [List.map_append]
    exact dpAll_app (dpAll_tup tx (noL_ties ts) (dpAll_ex e2 h2)) (dpAll_tup tx (noL_ties us) p2)
  · rcases List.mem_append.mp hu with hu | hu
    · exact t.ok u hu
    · exact ok u hu
/-- comprehensions of ties -/
theorem map_tie (n : Nat) (f : Nat → Tie) : outs n (fun _ => true) (fun i => tieD (f i)) = ((List.range n).map f).map tieD := by
  rw [outs_all, List.map_map]
  rfl
theorem ep_lcT {j : Nat} {vs : List Nat} {n : Nat} (f : Nat → Tie) (h : EvA tA σ H [.int (n : Int)]) (hn : n ≤ 40000) (hw : ∀ x, wipe ((wipe σ vs).set j (some x)) vs = wipe σ vs)
    (he : ∀ (i : Nat) H1, Ex H H1 → i < n → EvP te ((wipe σ vs).set j (some (.int (i : Int)))) H1 (DP K (tieD (f i)))) :
    EvP (tLc (iRng1 tA) (gName j) tYes te vs) σ H (NewL K H (((List.range n).map f).map tieD)) := by
  rw [← map_tie]
  exact ep_lcR (K := K) (fun _ => true) (fun i => tieD (f i)) h hn (fun _ _ _ => rfl) hw (fun _ _ _ _ => et_yes) fun i H1 e1 hi _ => he i H1 e1 hi
theorem ep_lcT2 {j : Nat} {vs : List Nat} {lo n : Nat} (f : Nat → Tie) (h : EvA tA σ H [.int (lo : Int), .int (n : Int)]) (hn : n ≤ 40000 ∧ lo ≤ 40000) (hw : ∀ x, wipe ((wipe σ vs).set j (some x)) vs = wipe σ vs)
    (he : ∀ (i : Nat) H1, Ex H H1 → i < n - lo → EvP te ((wipe σ vs).set j (some (.int ((lo + i : Nat) : Int)))) H1 (DP K (tieD (f i)))) :
    EvP (tLc (iRng2 tA) (gName j) tYes te vs) σ H (NewL K H (((List.range (n - lo)).map f).map tieD)) := by
  rw [← map_tie]
  exact ep_lcR2 (K := K) (fun i => tieD (f i)) h hn (fun _ _ => rfl) hw fun i H1 e1 hi => he i H1 e1 hi
theorem ev_int1 {b : Bool} (h : Ev te σ H (.bl b)) : Ev (tCB (fun xs H Q => (∃ i, xs = [.int i] ∧ Q (.int i) H) ∨ ∃ k, xs = [.bl k] ∧ Q (.int (if k then 1 else 0)) H) (tCons te tNil)) σ H (.int (if b then 1 else 0)) := fun H1 e Q q =>
  h H1 e _ fun H2 e2 => Or.inr ⟨b, rfl, q H2 e2⟩
theorem w_drop (h : te σ H fun _ H1 => D.nx σ H1) : tDrop te D σ H := h
theorem w_bm {T : String} {rm : V → List V → Hp → VK → Prop} (h : te σ H fun x H1 => tyV K T x H1 ∧ tA σ H1 fun vs H2 => rm x vs H2 Q) : tBM K T rm te tA σ H Q := h
def FamI (K : PySem.W.Frag) (x : LIn) (n : Nat) (sp : Addr) (fm : Int) (ld : Bool) (Hs : Hp) (c : Prop) (σ' : L2.St) (H' : Hp) : Prop :=
  ∃ tp ts o7 o8 o9, σ' = [some (.ref x.sa), some (.ref x.at_), some (.int (n : Int)), some (.ref sp), some (.int fm), some (.bl ld), some (.ref tp), o7, o8, o9, none, none] ∧ TSt K x.at_ n Hs tp ts H' ∧ Ex Hs H' ∧ (c → ts = [])
theorem FamI.more {x : LIn} {n : Nat} {sp : Addr} {fm : Int} {ld : Bool} {Hs H' : Hp} {c c' : Prop} {σ' : L2.St} (f : FamI K x n sp fm ld Hs c σ' H) (e : Ex H H') (hc : c' → c) : FamI K x n sp fm ld Hs c' σ' H' := by
  obtain ⟨tp, ts, o7, o8, o9, h1, h2, h3, h4⟩ := f
  exact ⟨tp, ts, o7, o8, o9, h1, h2.more e, h3.trans e, fun h => h4 (hc h)⟩
theorem w_asgG {g : TG} (h : te σ H fun v H1 => g v σ H1 (tz D)) : tSeq (tAsg te g) tz D σ H := h
theorem w_setL {l : Addr} {xs : List V} {j : Nat} {v : V} {Qs : L2.St → Hp → Prop} (hl : H l = some (.lst xs)) (ho : Ev ta σ H (.ref l)) (hi : Ev tb σ H (.int (j : Int))) (hj : j < xs.length) (k : ∀ H1, Ex H H1 → Qs σ (upd H1 l (.lst (xs.set j v)))) : gSub ta tb rSetL v σ H Qs :=
  ho H (Evl.Ex.refl H) _ fun H2 e2 => hi H2 e2 _ fun H3 e3 => ⟨l, xs, (j : Int), j, rfl, rfl, (e2.trans e3) l _ hl, Evl.ixN_nat hj, k H3 (e2.trans e3)⟩
def spTies (K : PySem.W.Frag) : Sp := spAt K 100 (fun (n : Nat) x vs _ => vs = [.ref x.sa, .ref x.at_, .int (n : Int)] ∧ 1 ≤ n ∧ n ≤ 3) (fun n _ H v H' => ∃ p xs, ∃ ts : List Tie, v = .ref p ∧ H p = none ∧ H' p = some (.lst xs) ∧ DpAll K H' xs (ts.map tieD) ∧ ts.length ≤ 12 ∧ ∀ t ∈ ts, TieOk n t)
theorem cal_law_ties (T : TX K mg) : Cal P w K mg base 3 "_law_ties" (spTies K) [] := by
  refine T.cal d_law_ties (N := ["_law_script", "_law_at", "_law_size", "_law_some", "_law_family", "_law_lead", "_law_ties_here", "_law_k", "_law_j", "_law_half", "_law_one", "_law_other"]) (ps := ["_law_script", "_law_at", "_law_size"]) (List.mem_of_getElem? (i := 50) rfl) rfl (by decide +kernel) sc_law_ties (fun _ _ _ _ _ _ us hl => match us, hl with | [_, _, _], _ => rfl) (fun vs H Q E h => ?_) (fun cdv A outer s H vs Q E f hr h => ?_)
  · obtain ⟨a, x, C, ⟨rfl, _⟩, _⟩ := h
    rfl
  · obtain ⟨n, x, C, ⟨rfl, n1, n3⟩, L, hC, k⟩ := h
    have sc := sc_law_ties
    have c_law_next := cal_law_next (P := P) (w := w) (base := base) T
    have c_law_great := cal_law_great (P := P) (w := w) (base := base) T
    refine ⟨_, pss_cons (ps_set (i := 3) sc.nd rfl (by first | exact Or.inl rfl | exact Or.inr rfl) (pe_lst (pa_cons (pe_c c_law_great hr (by decide) rfl (pa_cons (pv 0) (pa_cons (pv 1) pa_nil))) (pa_cons (pe_c c_law_great hr (by decide) rfl (pa_cons (pv 0) (pa_cons (pv 1) pa_nil))) (pa_cons (pe_int) pa_nil)))))
    (pss_cons (ps_asg (pe_ix ix_list (pv 3) (pe_op op_mod (pe_c c_law_next hr (by decide) rfl (pa_cons (pv 0) (pa_cons (pv 1) pa_nil))) (pe_int)) (fun _ _ => rfl)) (pg_sub (pv 3) (pe_int) set_list))
    (pss_cons (ps_set (i := 4) sc.nd rfl (by first | exact Or.inl rfl | exact Or.inr rfl) (pe_op op_mod (pe_c c_law_next hr (by decide) rfl (pa_cons (pv 0) (pa_cons (pv 1) pa_nil))) (pe_int)))
    (pss_cons (ps_set (i := 5) sc.nd rfl (by first | exact Or.inl rfl | exact Or.inr rfl) (pe_cmpR op_eq (pe_op op_mod (pe_c c_law_next hr (by decide) rfl (pa_cons (pv 0) (pa_cons (pv 1) pa_nil))) (pe_int)) (pe_int) (by rfl)))
    (pss_cons (ps_set (i := 6) sc.nd rfl (by first | exact Or.inl rfl | exact Or.inr rfl) (pe_lst (pa_nil)))
    (pss_cons (ps_if (PW.pt (pw_and (pt_cmpR op_gt (pv 2) (pe_int) (by rfl)) (pw_and1 (pt_cmpR op_eq (pv 4) (pe_int) (by rfl)))))
    (pss_one (ps_setLc (i := 6) (own := [("_law_k", 7)]) (g := gName 7) (tt := tYes) (te := tTup (tCons (_) (tCons (_) (tCons (tOp (rIxL K) (_) (_)) (tCons (_) (tNil)))))) rfl sc.nd rfl rfl (sw_true rfl rfl rfl (by decide +kernel)) (pi_range1 rfl (T.free "range") (pa_cons (pv 2) pa_nil)) (blkOk_by (own := [("_law_k", 7)]) rfl) (fun _ _ _ _ _ => pg_name (i := 7) sc.nd rfl (by first | exact Or.inl rfl | exact Or.inr rfl)) (fun _ _ _ _ _ => pts_nil) (fun _ _ _ _ _ => pe_tup (pa_cons (pv 7) (pa_cons (pe_op op_mod (pe_op op_add (pv 7) (pe_int)) (pv 2)) (pa_cons (pe_ix ix_list (pv 3) (pe_int) (fun _ _ => rfl)) (pa_cons (pv 5) pa_nil)))))))
    (pss_nil))
    (pss_cons (ps_if (PW.pt (pw_and (pt_cmpR op_gt (pv 2) (pe_int) (by rfl)) (pw_and1 (pt_cmpR op_eq (pv 4) (pe_int) (by rfl)))))
    (pss_one (ps_setLc (i := 6) (own := [("_law_k", 7)]) (g := gName 7) (tt := tYes) (te := tTup (tCons (_) (tCons (_) (tCons (tOp (rIxL K) (_) (_)) (tCons (_) (tNil)))))) rfl sc.nd rfl rfl (sw_true rfl rfl rfl (by decide +kernel)) (pi_range2 (by rfl) (T.free "range") (pa_cons (pe_int) (pa_cons (pv 2) pa_nil))) (blkOk_by (own := [("_law_k", 7)]) rfl) (fun _ _ _ _ _ => pg_name (i := 7) sc.nd rfl (by first | exact Or.inl rfl | exact Or.inr rfl)) (fun _ _ _ _ _ => pts_nil) (fun _ _ _ _ _ => pe_tup (pa_cons (pe_int) (pa_cons (pv 7) (pa_cons (pe_ix ix_list (pv 3) (pe_int) (fun _ _ => rfl)) (pa_cons (pv 5) pa_nil)))))))
    (pss_nil))
    (pss_cons (ps_if (PW.pt (pw_and (pt_cmpR op_lt (pv 2) (pe_int) (by rfl)) (pw_and1 (pt_cmpR op_eq (pv 4) (pe_int) (by rfl)))))
    (pss_one (ps_for PassesOwn.never rfl (pi_range1 rfl (T.free "range") (pa_cons (pv 2) pa_nil)) (pg_name (i := 7) sc.nd rfl (by first | exact Or.inl rfl | exact Or.inr rfl))
      (pss_one (ps_expr (pe_bm PySem.F.plainAttrs_list PySem.F.slot_list_extend PySem.F.type_list_extend mt_extend (pv 6) (pa_cons (pe_lc (own := [("_law_j", 8)]) (g := gName 8) (tt := tYes) (te := tTup (tCons (_) (tCons (_) (tCons (tOp (rIxL K) (_) (_)) (tCons (_) (tNil)))))) rfl sc.nd (pi_range2 (by rfl) (T.free "range") (pa_cons (pe_op op_add (pv 7) (pe_int)) (pa_cons (pv 2) pa_nil))) (blkOk_by (own := [("_law_j", 8)]) rfl) (fun _ _ _ _ _ => pg_name (i := 8) sc.nd rfl (by first | exact Or.inl rfl | exact Or.inr rfl)) (fun _ _ _ _ _ => pts_nil) (fun _ _ _ _ _ => pe_tup (pa_cons (pv 7) (pa_cons (pv 8) (pa_cons (pe_ix ix_list (pv 3) (pe_int) (fun _ _ => rfl)) (pa_cons (pe_bl) pa_nil)))))) pa_nil))))))
    (pss_nil))
    (pss_cons (ps_if (pt_cmpR op_eq (pv 4) (pe_int) (by rfl))
    (pss_cons (ps_set (i := 9) sc.nd rfl (by first | exact Or.inl rfl | exact Or.inr rfl) (pe_op op_fdiv (pv 2) (pe_int)))
      (pss_cons (ps_setLc (i := 6) (own := [("_law_k", 7)]) (g := gName 7) (tt := tYes) (te := tTup (tCons (_) (tCons (_) (tCons (tOp (rIxL K) (_) (_)) (tCons (_) (tNil)))))) rfl sc.nd rfl rfl (sw_true rfl rfl rfl (by decide +kernel)) (pi_range1 rfl (T.free "range") (pa_cons (pe_op op_sub (pv 9) (pe_int)) pa_nil)) (blkOk_by (own := [("_law_k", 7)]) rfl) (fun _ _ _ _ _ => pg_name (i := 7) sc.nd rfl (by first | exact Or.inl rfl | exact Or.inr rfl)) (fun _ _ _ _ _ => pts_nil) (fun _ _ _ _ _ => pe_tup (pa_cons (pv 7) (pa_cons (pe_op op_add (pv 7) (pe_int)) (pa_cons (pe_ix ix_list (pv 3) (pe_int) (fun _ _ => rfl)) (pa_cons (pv 5) pa_nil))))))
      (pss_one (ps_expr (pe_bm PySem.F.plainAttrs_list PySem.F.slot_list_extend PySem.F.type_list_extend mt_extend (pv 6) (pa_cons (pe_lc (own := [("_law_k", 7)]) (g := gName 7) (tt := tYes) (te := tTup (tCons (_) (tCons (_) (tCons (tOp (rIxL K) (_) (_)) (tCons (_) (tNil)))))) rfl sc.nd (pi_range1 rfl (T.free "range") (pa_cons (pe_op op_sub (pv 9) (pe_int)) pa_nil)) (blkOk_by (own := [("_law_k", 7)]) rfl) (fun _ _ _ _ _ => pg_name (i := 7) sc.nd rfl (by first | exact Or.inl rfl | exact Or.inr rfl)) (fun _ _ _ _ _ => pts_nil) (fun _ _ _ _ _ => pe_tup (pa_cons (pe_op op_add (pv 9) (pv 7)) (pa_cons (pe_op op_add (pe_op op_add (pv 9) (pv 7)) (pe_int)) (pa_cons (pe_ix ix_list (pv 3) (pe_int) (fun _ _ => rfl)) (pa_cons (pv 5) pa_nil)))))) pa_nil))))))
    (pss_nil))
    (pss_cons (ps_for PassesOwn.never rfl (pi_range1 rfl (T.free "range") (pa_cons (pe_op op_mod (pe_c c_law_next hr (by decide) rfl (pa_cons (pv 0) (pa_cons (pv 1) pa_nil))) (pe_ix ix_list (pe_lst (pa_cons (pe_int) (pa_cons (pe_int) pa_nil))) (pe_callTy call_int1 (by rfl) (T.free "int") (by decide +kernel) (pa_cons (pe_chain op_le op_le (pe_int) (pv 4) (pe_int)) pa_nil)) (fun _ _ => rfl))) pa_nil)) (pg_name (i := 7) sc.nd rfl (by first | exact Or.inl rfl | exact Or.inr rfl))
    (pss_one (ps_if (PW.pt (pw_and (pt_cmpR op_gt (pv 2) (pe_int) (by rfl)) (pw_and1 (pt_cmpR op_lt (pe_callB call_len_seq (by rfl) (T.free "len") (by decide +kernel) (pa_cons (pv 6) pa_nil)) (pe_int) (by rfl)))))
      (pss_cons (ps_set (i := 10) sc.nd rfl (by first | exact Or.inl rfl | exact Or.inr rfl) (pe_op op_mod (pe_c c_law_next hr (by decide) rfl (pa_cons (pv 0) (pa_cons (pv 1) pa_nil))) (pv 2)))
        (pss_cons (ps_set (i := 11) sc.nd rfl (by first | exact Or.inl rfl | exact Or.inr rfl) (pe_op op_mod (pe_op op_add (pe_op op_add (pv 10) (pe_int)) (pe_op op_mod (pe_c c_law_next hr (by decide) rfl (pa_cons (pv 0) (pa_cons (pv 1) pa_nil))) (pe_op op_sub (pv 2) (pe_int)))) (pv 2)))
        (pss_one (ps_expr (pe_bm PySem.F.plainAttrs_list PySem.F.slot_list_append PySem.F.type_list_append mt_append (pv 6) (pa_cons (pe_tup (pa_cons (pv 10) (pa_cons (pv 11) (pa_cons (pe_ix ix_list (pv 3) (pe_op op_mod (pe_c c_law_next hr (by decide) rfl (pa_cons (pv 0) (pa_cons (pv 1) pa_nil))) (pe_int)) (fun _ _ => rfl)) (pa_cons (pe_cmpR op_eq (pe_op op_mod (pe_c c_law_next hr (by decide) rfl (pa_cons (pv 0) (pa_cons (pv 1) pa_nil))) (pe_int)) (pe_int) (by rfl)) pa_nil))))) pa_nil))))))
      (pss_nil))))
    (pss_one (ps_ret (pv 6)))))))))))), ?_⟩
    refine w_asg (w_lst (w_cons (w_at (K := K) () (ea_cons (ev_var rfl) (ea_cons (ev_var rfl) ea_nil)) L (by omega) (fun _ _ => rfl) fun v H1 H2 e1 b2 L2 hv => ?_)))
    obtain ⟨s0, rfl, s0a, s0b⟩ := hv
    refine w_cons (w_at (K := K) () (ea_cons (ev_var rfl) (ea_cons (ev_var rfl) ea_nil)) L2 (by omega) (fun _ _ => rfl) fun v H3 H4 e3 b4 L4 hv => ?_)
    obtain ⟨s1, rfl, s1a, s1b⟩ := hv
    refine w_cons (w_ev ev_c fun H5 e5 => w_nil ⟨by show 3 ≤ sizeLine; decide, fun sp hsp => ?_⟩)
    have b5 : But x.at_ H H5 := ((ex_but e1 b2).ex e3).trans b4 |>.ex e5
    have L5 := L4.more e5
    have spH : H sp = none := L5.back b5 hsp
    have spn : sp ≠ x.at_ := L5.ne hsp
    have sp6 : (upd H5 sp (.lst [.int s0, .int s1, .int 5])) sp = some (.lst [.int s0, .int s1, .int 5]) := upd_same
    have L6 := L5.more (Evl.Ex.new (o := .lst [.int s0, .int s1, .int 5]) hsp)
    have b6 : But x.at_ H (upd H5 sp (.lst [.int s0, .int s1, .int 5])) := b5.ex (Evl.Ex.new hsp)
    dsimp only
    generalize upd H5 sp (.lst [.int s0, .int s1, .int 5]) = H6 at sp6 L6 b6 ⊢
    clear L5 b5 hsp e5 L4 b4 e3 b2 e1 L2
    -- some[1] = some[next % 2]
    refine w_asgG (w_op (w_ev (ev_var rfl) fun H7 e7 => w_op (w_next (L6.more e7) (by omega) rfl rfl fun m H8 b8 L8 m0 m1 => w_ev ev_c fun H9 e9 => w_rv (rv_I (by decide)) fun H10 e10 => ?_)))
    have hm2 := mod_in (a := m) (m := 2) (by omega)
    have sp10 := e10 _ _ (e9 _ _ (b8 _ _ (e7 _ _ sp6) spn))
    have ix : ∃ z, 0 ≤ z ∧ z < 10 ^ 30 ∧ Evl.RV (rIxL K) (.ref sp) (.int (m % 2)) H10 (.int z) := by
      have : m % 2 = 0 ∨ m % 2 = 1 := by omega
      rcases this with h | h <;> rw [h]
      · exact ⟨s0, s0a, s0b, Evl.rv_ixL (sq_of sp10) (atI_nat (j := 0) rfl)⟩
      · exact ⟨s1, s1a, s1b, Evl.rv_ixL (sq_of sp10) (atI_nat (j := 1) rfl)⟩
    obtain ⟨z, z0, z1, hz⟩ := ix
    refine w_rv hz fun H11 e11 => w_setL (j := 1) (e11 _ _ sp10) (ev_var rfl) ev_c (by simp) fun H12 e12 => ?_
    have L12 := (L8.more (((e9.trans e10).trans e11).trans e12)).but (But.upd (o := .lst [.int s0, .int z, .int 5])) (L6.f0' b6 L spH) spn
    have b12 : But x.at_ H (upd H12 sp (.lst [.int s0, .int z, .int 5])) := (((b6.ex e7).trans b8).ex (((e9.trans e10).trans e11).trans e12)).mut spH
    have sp12 : (upd H12 sp (.lst [.int s0, .int z, .int 5])) sp = some (.lst [.int s0, .int z, .int 5]) := upd_same
    show tSeq _ _ _ _ (upd H12 sp (.lst [.int s0, .int z, .int 5]))
    generalize upd H12 sp (.lst [.int s0, .int z, .int 5]) = H13 at sp12 L12 b12 ⊢
    clear hz sp10 e12 e11 e10 e9 L8 b8 e7 sp6 L6 b6
    -- family, lead
    refine w_asg (w_op (w_next L12 (by omega) rfl rfl fun f H14 b14 L14 f0 f1 => w_ev ev_c fun H15 e15 => w_rv (rv_I (by decide)) fun H16 e16 => ?_))
    refine w_asg (w_op (w_op (w_next (L14.more (e15.trans e16)) (by omega) rfl rfl fun g H17 b17 L17 g0 g1 => w_ev ev_c fun H18 e18 => w_rv (rv_I (by decide)) fun H19 e19 => w_ev ev_c fun H20 e20 => w_rv (rv_eq rfl) fun H21 e21 => ?_)))
    have ef := e15.trans e16
    have eg := ((e18.trans e19).trans e20).trans e21
    have Ls := L17.more eg
    have bs : But x.at_ H H21 := (((b12.trans b14).ex ef).trans b17).ex eg
    have sps := eg _ _ (b17 _ _ (ef _ _ (b14 _ _ sp12 spn)) spn)
    have hfm := mod_in (a := f) (m := 7) (by omega)
    generalize f % 7 = fm at hfm ⊢
    generalize decide (V.int (g % 2) = V.int 1) = ld
    generalize H21 = Hs at Ls bs sps ⊢
    clear eg e21 e20 e19 e18 b17 L17 ef e15 e16 b14 L14 sp12 L12 b12 c_law_great
    have tieP : ∀ {te1 te2 te4 : TE} {σ' : L2.St} {H' : Hp} {i j : Nat} {b : Bool}, Ex Hs H' → σ'[3]? = some (some (.ref sp)) → Ev te1 σ' H' (.int (i : Int)) → Ev te2 σ' H' (.int (j : Int)) → Ev te4 σ' H' (.bl b) → EvP (tTup (tCons te1 (tCons te2 (tCons (tOp (rIxL K) (tVar 3) (tC (.int 0))) (tCons te4 tNil))))) σ' H' (DP K (tieD ⟨i, j, s0, b⟩)) := fun e hs h1 h2 h4 =>
      ep_tupD (ea_consD (ep_int h1) (ea_consD (ep_int h2) (ea_consD (ep_int (ev_op (ev_var hs) ev_c (Evl.rv_ixL (sq_of (e _ _ sps)) (atI_nat (j := 0) rfl)))) (ea_consD (ep_bl h4) ea_nilD))))
    -- ties = []
    refine q_asgP (ep_lstD (K := K) ea_nilD) fun v H1 e1 hv => ?_
    obtain ⟨tp, rfl, t1⟩ := TSt.new (ts := []) (n := n) (But.refl x.at_ _) Ls hv e1 (by simp) (fun _ h => (by cases h))
    have f1 : FamI K x n sp fm ld Hs True [some (.ref x.sa), some (.ref x.at_), some (.int (n : Int)), some (.ref sp), some (.int fm), some (.bl ld), some (.ref tp), none, none, none, none, none] H1 := ⟨_, _, _, _, _, rfl, t1, e1, fun _ => rfl⟩
    -- family 1
    refine q_whenI (FamI K x n sp fm ld Hs (fm ≠ 1)) (et_and (et_test (ev_op (ev_var rfl) ev_c rv_I0)) fun _ => et_test (ev_op (ev_var rfl) ev_c (rv_eq rfl))) (fun hb H2 e2 D' kD => ?_) (fun _ H2 e2 => f1.more e2 fun _ => True.intro) fun σ2 H2 f2 => ?_
    · obtain ⟨g1, g2⟩ := and_true hb
      have g1 : (1 : Int) < (n : Int) := of_decide_eq_true g1
      have g2 : fm = 1 := by have := of_decide_eq_true g2; injection this
      have hnp : (0 : Int) < (n : Int) := by omega
      refine s_asgP (ep_lcT (fun i => ⟨i, (i + 1) % n, s0, ld⟩) (ea_cons (ev_var rfl) ea_nil) (by omega) (fun _ => rfl) fun i H3 e3 hi => tieP ((e1.trans e2).trans e3) rfl (ev_var rfl) (by
        have h := ev_op (H := H3) (σ := [some (.ref x.sa), some (.ref x.at_), some (.int (n : Int)), some (.ref sp), some (.int fm), some (.bl ld), some (.ref tp), some (.int (i : Int)), none, none, none, none]) (ta := tOp (rI0 fun i j => .int (i + j)) (tVar 7) (tC (.int 1))) (tb := tVar 2) (ev_op (ev_var (i := 7) rfl) ev_c rv_I0) (ev_var rfl) (rv_I (C := fun _ j => 0 < j) (g := fun i j => V.int (i % j)) hnp)
        have e : ((i : Int) + 1) % (n : Int) = (((i + 1) % n : Nat) : Int) := by
          rw [Int.natCast_emod]
          rfl
        rw [e] at h
        exact h) (ev_var rfl)) fun v H3 e3 hv => kD _ _ ?_
      obtain ⟨tp2, rfl, t3⟩ := TSt.new (n := n) (ex_but (e1.trans e2) (But.refl x.at_ _)) (Ls.more (e1.trans e2)) hv e3 (by simp; omega) (fun t h => by
        obtain ⟨i, hi, rfl⟩ := List.mem_map.mp h
        have hi := List.mem_range.mp hi
        exact ⟨hi, Nat.mod_lt _ (by omega), by
          show i ≠ (i + 1) % n
          by_cases c : i + 1 = n
          · rw [c, Nat.mod_self]
            omega
          · rw [Nat.mod_eq_of_lt (by omega)]
            omega, s0a, s0b⟩)
      exact ⟨tp2, _, _, _, _, rfl, t3, (e1.trans e2).trans e3, fun h => absurd g2 h⟩
    obtain ⟨tp, ts, o7, o8, o9, rfl, t2, e2, c2⟩ := f2
    have f2 : FamI K x n sp fm ld Hs (fm ≠ 1 ∧ fm ≠ 2) [some (.ref x.sa), some (.ref x.at_), some (.int (n : Int)), some (.ref sp), some (.int fm), some (.bl ld), some (.ref tp), o7, o8, o9, none, none] H2 := ⟨_, _, _, _, _, rfl, t2, e2, fun h => c2 h.1⟩
    -- family 2
    refine q_whenI (FamI K x n sp fm ld Hs (fm ≠ 1 ∧ fm ≠ 2)) (et_and (et_test (ev_op (ev_var rfl) ev_c rv_I0)) fun _ => et_test (ev_op (ev_var rfl) ev_c (rv_eq rfl))) (fun hb H3 e3 D' kD => ?_) (fun _ H3 e3 => f2.more e3 fun h => h) fun σ3 H3 f3 => ?_
    · obtain ⟨g1, g2⟩ := and_true hb
      have g1 : (1 : Int) < (n : Int) := of_decide_eq_true g1
      have g2 : fm = 2 := by have := of_decide_eq_true g2; injection this
      refine s_asgP (ep_lcT2 (lo := 1) (n := n) (fun i => ⟨0, 1 + i, s0, ld⟩) (ea_cons ev_c (ea_cons (ev_var rfl) ea_nil)) ⟨by omega, by omega⟩ (fun _ => rfl) fun i H4 e4 hi => tieP ((e2.trans e3).trans e4) rfl ev_c (ev_var rfl) (ev_var rfl)) fun v H4 e4 hv => kD _ _ ?_
      obtain ⟨tp2, rfl, t3⟩ := TSt.new (n := n) (ex_but (e2.trans e3) (But.refl x.at_ _)) (Ls.more (e2.trans e3)) hv e4 (by simp; omega) (fun t h => by
        obtain ⟨i, hi, rfl⟩ := List.mem_map.mp h
        have hi := List.mem_range.mp hi
        exact ⟨by show 0 < n; omega, by show 1 + i < n; omega, by show 0 ≠ 1 + i; omega, s0a, s0b⟩)
      exact ⟨tp2, _, _, _, _, rfl, t3, (e2.trans e3).trans e4, fun h => absurd g2 h.2⟩
    clear f2 t2 c2 f1 t1 hv
    obtain ⟨tp, ts, o7, o8, o9, rfl, t3, e3, c3⟩ := f3
    have f3 : FamI K x n sp fm ld Hs (fm = 4) [some (.ref x.sa), some (.ref x.at_), some (.int (n : Int)), some (.ref sp), some (.int fm), some (.bl ld), some (.ref tp), o7, o8, o9, none, none] H3 := ⟨_, _, _, _, _, rfl, t3, e3, fun h => c3 ⟨by omega, by omega⟩⟩
    -- family 3
    refine q_whenI (FamI K x n sp fm ld Hs (fm = 4)) (et_and (et_test (ev_op (ev_var rfl) ev_c rv_I0)) fun _ => et_test (ev_op (ev_var rfl) ev_c (rv_eq rfl))) (fun hb H4 e4 D' kD => ?_) (fun _ H4 e4 => f3.more e4 fun h => h) fun σ4 H4 f4 => ?_
    · obtain ⟨_, g2⟩ := and_true hb
      have g2 : fm = 3 := by have := of_decide_eq_true g2; injection this
      obtain rfl : ts = [] := c3 ⟨by omega, by omega⟩
      refine s_forR (n := n) (ea_cons (ev_var rfl) ea_nil) (by omega) (fun i σ' H' => ∃ us o7 o8 o9, σ' = [some (.ref x.sa), some (.ref x.at_), some (.int (n : Int)), some (.ref sp), some (.int fm), some (.bl ld), some (.ref tp), o7, o8, o9, none, none] ∧ TSt K x.at_ n Hs tp us H' ∧ Ex Hs H' ∧ us.length ≤ 3 * i) (fun H5 e5 => ⟨_, _, _, _, rfl, (t3.more e4).more e5, (e3.trans e4).trans e5, Nat.zero_le _⟩) (fun i σ' H' hi q => ?_) fun σ' H' q => ?_
      · obtain ⟨us, o7, o8, o9, rfl, tt, ee, hl⟩ := q
        refine s_extT (us := (List.range (n - (i + 1))).map fun j => ⟨i, i + 1 + j, s0, false⟩) tt (ev_var rfl) (ep_lcT2 (lo := i + 1) (n := n) _ (ea_cons (x := .int ((i + 1 : Nat) : Int)) (ev_op (ev_var rfl) ev_c rv_I0) (ea_cons (ev_var rfl) ea_nil)) ⟨by omega, by omega⟩ (fun _ => rfl) fun j H4 e4 hi => tieP (ee.trans e4) rfl (ev_var rfl) (ev_var rfl) ev_c) (by simp; omega) (fun t h => ?_) fun H'' t'' ee' => ⟨_, _, _, _, rfl, t'', ee' ee, ?_⟩
        · obtain ⟨j, hj, rfl⟩ := List.mem_map.mp h
          have hj := List.mem_range.mp hj
          exact ⟨hi, by show i + 1 + j < n; omega, by show i ≠ i + 1 + j; omega, s0a, s0b⟩
        · simp
          omega
      · obtain ⟨us, o7, o8, o9, rfl, tt, ee, hl⟩ := q
        exact kD _ _ ⟨_, _, _, _, _, rfl, tt, ee, fun h => by omega⟩
    clear f3 t3 c3
    -- family 4
    have hh : -1 ≤ (n : Int) / 2 - 1 ∧ (n : Int) / 2 - 1 ≤ 0 := by omega
    refine q_whenI (FamI K x n sp fm ld Hs False) (et_test (ev_op (ev_var (by obtain ⟨_, _, _, _, _, rfl, _⟩ := f4; rfl)) ev_c (rv_eq rfl))) (fun hb H5 e5 D' kD => ?_) (fun _ H5 e5 => f4.more e5 fun h => h.elim) fun σ5 H5 f5 => ?_
    · obtain ⟨tp, ts, o7, o8, o9, rfl, t4, e4, c4⟩ := f4
      refine q_asg (ev_op (ev_var rfl) ev_c (rv_I ⟨by decide, by decide⟩)) fun H6 e6 => ?_
      refine q_asgP (ep_lc0 (K := K) (z := (n : Int) / 2 - 1) (ea_cons (ev_op (ev_var rfl) ev_c rv_I0) ea_nil) (by omega)) fun v H7 e7 hv => ?_
      obtain ⟨tp2, rfl, t7⟩ := TSt.new (ts := []) (n := n) (ex_but ((e4.trans e5).trans e6) (But.refl x.at_ _)) (Ls.more ((e4.trans e5).trans e6)) hv e7 (by simp) (fun t h => (by cases h))
      refine s_extT (us := []) t7 (ev_var rfl) (ep_lc0 (z := (n : Int) / 2 - 1) (ea_cons (ev_op (ev_var rfl) ev_c rv_I0) ea_nil) (by omega)) (by simp) (fun t h => (by cases h)) fun H8 t8 e8 => kD _ _ ⟨_, _, _, _, _, rfl, t8, e8 (((e4.trans e5).trans e6).trans e7), fun h => h.elim⟩
    obtain ⟨tp, ts, o7, o8, o9, rfl, t5, e5, c5⟩ := f5
    -- the rest by chance
    refine q_forW (w_cons (w_op (w_next (Ls.more e5) (by omega) rfl rfl fun q H6 b6 L6 q0 q1 => ?_)))
    have t6 := t5.draw Ls (Ls.more e5) b6
    have chain : ∃ b, Ev (tChain (rI0 fun i j => .bl (decide (i ≤ j))) (rI0 fun i j => .bl (decide (i ≤ j))) (tC (.int 1)) (tVar 4) (tC (.int 4))) [some (.ref x.sa), some (.ref x.at_), some (.int (n : Int)), some (.ref sp), some (.int fm), some (.bl ld), some (.ref tp), o7, o8, o9, none, none] H6 (.bl b) := ⟨_, ev_chain ev_c (ev_var rfl) rv_I0 (fun _ => ev_c) (fun _ => rv_I0)⟩
    obtain ⟨cb, hcb⟩ := chain
    have lst := ep_lstD (K := K) (σ := [some (.ref x.sa), some (.ref x.at_), some (.int (n : Int)), some (.ref sp), some (.int fm), some (.bl ld), some (.ref tp), o7, o8, o9, none, none]) (H := H6) (tA := tCons (tC (.int 13)) (tCons (tC (.int 3)) tNil)) (ds := [.int 13, .int 3]) (ea_consD (ep_int ev_c) (ea_consD (ep_int ev_c) ea_nilD))
    have ix : ∃ M : Int, 0 < M ∧ M ≤ 13 ∧ Ev (tOp (rIxL K) (tLst (tCons (tC (.int 13)) (tCons (tC (.int 3)) tNil))) (tCB (fun xs H Q => (∃ i, xs = [.int i] ∧ Q (.int i) H) ∨ ∃ k, xs = [.bl k] ∧ Q (.int (if k then 1 else 0)) H) (tCons (tChain (rI0 fun i j => .bl (decide (i ≤ j))) (rI0 fun i j => .bl (decide (i ≤ j))) (tC (.int 1)) (tVar 4) (tC (.int 4))) tNil))) [some (.ref x.sa), some (.ref x.at_), some (.int (n : Int)), some (.ref sp), some (.int fm), some (.bl ld), some (.ref tp), o7, o8, o9, none, none] H6 (.int M) := by
      cases cb with
      | false => exact ⟨13, by decide, by decide, ev_intD (ep_ixL (n := 0) lst.newDp (ev_int1 hcb) rfl)⟩
      | true => exact ⟨3, by decide, by decide, ev_intD (ep_ixL (n := 1) lst.newDp (ev_int1 hcb) rfl)⟩
    obtain ⟨M, M0, M1, hM⟩ := ix
    refine w_ev hM fun H7 e7 => w_rv (rv_I M0) fun H8 e8 => w_nil ?_
    have hq := mod_in (a := q) (m := M) M0
    obtain ⟨kk, hkk⟩ : ∃ kk : Nat, q % M = (kk : Int) := ⟨(q % M).toNat, by omega⟩
    rw [hkk]
    have sp8 := e8 _ _ (e7 _ _ (b6 _ _ (e5 _ _ sps) spn))
    clear hcb hM lst
    refine forK_by (n := kk) (by omega) (fun i σ' H' => ∃ ts o7 o8 o9 o10 o11, σ' = [some (.ref x.sa), some (.ref x.at_), some (.int (n : Int)), some (.ref sp), some (.int fm), some (.bl ld), some (.ref tp), o7, o8, o9, o10, o11] ∧ TSt K x.at_ n Hs tp ts H' ∧ LS K x H' (C + 6 + 4 * i) ∧ H' sp = some (.lst [.int s0, .int z, .int 5])) ⟨_, _, _, _, _, _, rfl, (t6.more e7).more e8, (L6.more (e7.trans e8)).up (by omega) (by omega), sp8⟩ (fun i σ' H' hi qq => ?_) fun σ' H' qq => ?_
    · obtain ⟨us, o7, o8, o9, o10, o11, rfl, tt, LL, sp9⟩ := qq
      obtain ⟨xs, hx1, hx2⟩ := tt.l
      have hlen := DpAll.length hx2
      rw [List.length_map] at hlen
      refine Evl.s_when (et_and (et_test (ev_op (ev_var rfl) ev_c rv_I0)) fun _ => et_test (ev_op (Evl.ev_len (ev_var rfl) (sq_of hx1)) ev_c rv_I0)) (fun hb H9 e9 => ?_) fun _ H9 e9 => ⟨_, _, _, _, _, _, rfl, tt.more e9, (LL.more e9).up (by omega) (by omega), e9 _ _ sp9⟩
      obtain ⟨g1, g2⟩ := and_true hb
      have g1 : (1 : Int) < (n : Int) := of_decide_eq_true g1
      have g2 : (xs.length : Int) < 12 := of_decide_eq_true g2
      have np : (0 : Int) < (n : Int) := by omega
      have np1 : (0 : Int) < (n : Int) - 1 := by omega
      refine w_asg (w_op (w_next (LL.more e9) (by omega) rfl rfl fun u H10 b10 L10 u0 u1 => w_ev (ev_var rfl) fun H11 e11 => w_rv (rv_I np) fun H12 e12 => ?_))
      have hu := mod_in (a := u) (m := (n : Int)) np
      obtain ⟨ou, hou⟩ : ∃ ou : Nat, u % (n : Int) = (ou : Int) := ⟨(u % (n : Int)).toNat, by omega⟩
      rw [hou]
      have t12 := ((tt.more e9).draw Ls (LL.more e9) b10).more (e11.trans e12)
      have L12 := L10.more (e11.trans e12)
      have sp12 := e12 _ _ (e11 _ _ (b10 _ _ (e9 _ _ sp9) spn))
      refine w_asg (w_op (w_op (w_ev (ev_op (ev_var rfl) ev_c rv_I0) fun H13 e13 => w_op (w_next (L12.more e13) (by omega) rfl rfl fun y H14 b14 L14 y0 y1 => w_ev (ev_op (ev_var rfl) ev_c rv_I0) fun H15 e15 => w_rv (rv_I np1) fun H16 e16 => w_rv rv_I0 fun H17 e17 => w_ev (ev_var rfl) fun H18 e18 => w_rv (rv_I np) fun H19 e19 => ?_))))
      have hy := mod_in (a := y) (m := (n : Int) - 1) np1
      obtain ⟨oy, hoy⟩ : ∃ oy : Nat, ((ou : Int) + 1 + y % ((n : Int) - 1)) % (n : Int) = (oy : Int) := ⟨_, (Int.toNat_of_nonneg (mod_in np).1).symm⟩
      have hoy1 : oy < n := by
        have := (mod_in (a := (ou : Int) + 1 + y % ((n : Int) - 1)) (m := (n : Int)) np).2
        omega
      have hoy2 : ou ≠ oy := by
        intro e
        have hn : n = 2 ∨ n = 3 := by omega
        rcases hn with rfl | rfl <;> omega
      rw [hoy]
      have e19 := (((e15.trans e16).trans e17).trans e18).trans e19
      have t19 := ((t12.more e13).draw Ls (L12.more e13) b14).more e19
      have L19 := L14.more e19
      have sp19 := e19 _ _ (b14 _ _ (e13 _ _ sp12) spn)
      obtain ⟨xs', hy1, hy2⟩ := t19.l
      refine w_drop (w_bm (w_ev (ev_var rfl) fun H20 e20 => ⟨Or.inl ⟨rfl, _, sq_of (e20 _ _ hy1)⟩, w_cons (w_tup (w_cons (w_ev (ev_var rfl) fun H21 e21 => w_cons (w_ev (ev_var rfl) fun H22 e22 => w_cons (w_op (w_ev (ev_var rfl) fun H23 e23 => w_op (w_next (L19.more (((e20.trans e21).trans e22).trans e23)) (by omega) rfl rfl fun d H24 b24 L24 d0 d1 => w_ev ev_c fun H25 e25 => w_rv (rv_I (by decide)) fun H26 e26 => ?_)))))))⟩))
      have hd := mod_in (a := d) (m := 3) (by omega)
      have sp26 := e26 _ _ (e25 _ _ (b24 _ _ (((e20.trans e21).trans e22).trans e23 _ _ sp19) spn))
      have t26 := ((t19.more (((e20.trans e21).trans e22).trans e23)).draw Ls (L19.more (((e20.trans e21).trans e22).trans e23)) b24).more (e25.trans e26)
      have L26 := L24.more (e25.trans e26)
      have ixk : ∃ kd : Int, 0 ≤ kd ∧ kd < 10 ^ 30 ∧ Evl.RV (rIxL K) (.ref sp) (.int (d % 3)) H26 (.int kd) := by
        have : d % 3 = 0 ∨ d % 3 = 1 ∨ d % 3 = 2 := by omega
        rcases this with h | h | h <;> rw [h]
        · exact ⟨s0, s0a, s0b, Evl.rv_ixL (sq_of sp26) (atI_nat (j := 0) rfl)⟩
        · exact ⟨z, z0, z1, Evl.rv_ixL (sq_of sp26) (atI_nat (j := 1) rfl)⟩
        · exact ⟨5, by decide, by decide, Evl.rv_ixL (sq_of sp26) (atI_nat (j := 2) rfl)⟩
      obtain ⟨kd, kd0, kd1, hkd⟩ := ixk
      refine w_rv hkd fun H27 e27 => w_cons (w_op (w_op (w_next (L26.more e27) (by omega) rfl rfl fun c H28 b28 L28 c0 c1 => w_ev ev_c fun H29 e29 => w_rv (rv_I (by decide)) fun H30 e30 => w_ev ev_c fun H31 e31 => w_rv (rv_eq rfl) fun H32 e32 => w_nil ⟨by show 4 ≤ sizeLine; decide, fun q4 hq4 => w_nil ?_⟩)))
      have ez := ((e29.trans e30).trans e31).trans e32
      have t32 := ((t26.more e27).draw Ls (L26.more e27) b28).more ez
      have L32 := L28.more ez
      have sp32 := ez _ _ (b28 _ _ (e27 _ _ sp26) spn)
      have en := Evl.Ex.new (o := .tup [.int (ou : Int), .int (oy : Int), .int kd, .bl (decide (V.int (c % 2) = V.int 1))]) hq4
      have tq := t32.more en
      have Lq := L32.more en
      have spq := en _ _ sp32
      have dq : Dp K (upd H32 q4 (.tup [.int (ou : Int), .int (oy : Int), .int kd, .bl (decide (V.int (c % 2) = V.int 1))])) (.ref q4) (tieD ⟨ou, oy, kd, decide (V.int (c % 2) = V.int 1)⟩) := .tup (st_of upd_same) (.cons (.int _) (.cons (.int _) (.cons (.int _) (.cons (.bl _) .nil))))
      generalize decide (V.int (c % 2) = V.int 1) = bb at tq Lq spq dq ⊢
      generalize upd H32 q4 (.tup [.int (ou : Int), .int (oy : Int), .int kd, .bl bb]) = H33 at tq Lq spq dq ⊢
      obtain ⟨ys, hz1, hz2⟩ := tq.l
      have hzl := DpAll.length hz2
      rw [List.length_map] at hzl
      have tpn : tp ≠ x.at_ := Ls.ne tq.f
      have tx : TupEx K H33 (upd H33 tp (.lst (ys ++ [.ref q4]))) := tupEx_upd hz1 rfl
      refine ⟨tp, ys, .ref q4, rfl, rfl, hz1, sz_lt (by omega), us ++ [⟨ou, oy, kd, bb⟩], _, _, _, _, _, rfl, ⟨tq.f, tq.b.mut tq.f, ⟨_, upd_same, ?_⟩, by rw [List.length_append]; show us.length + 1 ≤ 12; omega, fun t ht => ?_⟩, (Lq.but But.upd (Ls.f0 tq.f) tpn).up (by omega) (by omega), ?_⟩
      · rw [List.map_append]
        exact dpAll_snoc (dpAll_tup tx (noL_ties us) hz2) (dp_tup tx rfl dq)
      · rcases List.mem_append.mp ht with ht | ht
        · exact tq.ok t ht
        · rw [show t = ⟨ou, oy, kd, bb⟩ by simpa using ht]
          exact ⟨by show ou < n; omega, hoy1, hoy2, kd0, kd1⟩
      · rw [upd_ne fun e => by rw [e, tq.f] at sps; cases sps]
        exact spq
    · obtain ⟨us, o7, o8, o9, o10, o11, rfl, tt, LL, _⟩ := qq
      refine s_retE (ev_var rfl) fun H9 e9 => ?_
      have t9 := tt.more e9
      obtain ⟨xs, h1, h2⟩ := t9.l
      exact k _ _ (bs.trans t9.b) ((LL.more e9).up (by omega) (by omega)) ⟨tp, xs, us, rfl, Ls.back bs tt.f, h1, h2, tt.m, tt.ok⟩
/-! ### _law_web, _law_order -/
structure MadeAt (K : PySem.W.Frag) (H : Hp) (p ka ta : Addr) (ks : List Str) (ts : List Tie) : Prop where
  p : H p = some (.tup [.ref ka, .ref ta])
  k : H ka = some (.lst (ks.map .str))
  t : ∃ xs, H ta = some (.lst xs) ∧ DpAll K H xs (ts.map tieD)
theorem MadeAt.more {H' : Hp} {p ka ta : Addr} {ks : List Str} {ts : List Tie} (m : MadeAt K H p ka ta ks ts) (e : Ex H H') : MadeAt K H' p ka ta ks ts := by
  obtain ⟨h1, h2, xs, h3, h4⟩ := m
  exact ⟨e _ _ h1, e _ _ h2, xs, e _ _ h3, dpAll_ex e h4⟩
/-- what changes is not of the made data, and no tuple -/
theorem MadeAt.butS {H' : Hp} {S : List Addr} {p ka ta : Addr} {ks : List Str} {ts : List Tie} (m : MadeAt K H p ka ta ks ts) (b : ButS S H H') (tx : TupEx K H H') (hp : p ∉ S) (hk : ka ∉ S) (ht : ta ∉ S) : MadeAt K H' p ka ta ks ts := by
  obtain ⟨h1, h2, xs, h3, h4⟩ := m
  exact ⟨b _ _ h1 hp, b _ _ h2 hk, xs, b _ _ h3 ht, dpAll_tup tx (noL_ties ts) h4⟩
theorem MadeAt.but {H' : Hp} {q p ka ta : Addr} {o : HO} {ks : List Str} {ts : List Tie} (m : MadeAt K H p ka ta ks ts) (b : But q H H') (hq : H q = some o) (hm : Mutb o = true) (hp : p ≠ q) (hk : ka ≠ q) (ht : ta ≠ q) : MadeAt K H' p ka ta ks ts :=
  m.butS (S := [q]) (ButS.of_but b (by simp)) (tupEx_but hq hm b) (by simpa using hp) (by simpa using hk) (by simpa using ht)
def Raw3 (ks : List Str) (ts : List Tie) : Prop := Raw ks ts ∧ ks.length ≤ 3
def spMade (K : PySem.W.Frag) : Sp := spAt K 106 (fun (_ : Unit) x vs _ => vs = [.ref x.sa, .ref x.at_, .int 3]) (fun _ x H v H' => ∃ p ka ta ks ts, v = .ref p ∧ MadeAt K H' p ka ta ks ts ∧ H p = none ∧ H ka = none ∧ H ta = none ∧ Raw3 ks ts)
theorem cal_law_web (T : TX K mg) : Cal P w K mg base 4 "_law_web" (spMade K) [] := by
  refine T.cal d_law_web (N := ["_law_script", "_law_at", "_law_most", "_law_size", "_law_kinds_here", "_law_ties_here", "_law_kind", "_law_k", "_law_turn", "_law_one", "_law_other", "_law_oneway"]) (ps := ["_law_script", "_law_at", "_law_most"]) (List.mem_of_getElem? (i := 51) rfl) rfl (by decide +kernel) sc_law_web (fun _ _ _ _ _ _ us hl => match us, hl with | [_, _, _], _ => rfl) (fun vs H Q E h => ?_) (fun cdv A outer s H vs Q E f hr h => ?_)
  · obtain ⟨a, x, C, rfl, _⟩ := h
    rfl
  · obtain ⟨a, x, C, rfl, L, hC, k⟩ := h
    have sc := sc_law_web
    have c_law_next := cal_law_next (P := P) (w := w) (base := base) T
    have c_law_great := cal_law_great (P := P) (w := w) (base := base) T
    have c_law_kinds := cal_law_kinds (P := P) (w := w) (base := base) T
    have c_law_ties := cal_law_ties (P := P) (w := w) (base := base) T
    refine ⟨_, pss_cons (ps_set (i := 3) sc.nd rfl (by first | exact Or.inl rfl | exact Or.inr rfl) (pe_op op_add (pe_int) (pe_op op_mod (pe_c c_law_next hr (by decide) rfl (pa_cons (pv 0) (pa_cons (pv 1) pa_nil))) (pv 2))))
    (pss_cons (ps_set (i := 4) sc.nd rfl (by first | exact Or.inl rfl | exact Or.inr rfl) (pe_c c_law_kinds hr (by decide) rfl (pa_cons (pv 0) (pa_cons (pv 1) (pa_cons (pv 3) pa_nil)))))
    (pss_cons (ps_set (i := 5) sc.nd rfl (by first | exact Or.inl rfl | exact Or.inr rfl) (pe_c c_law_ties hr (by decide) rfl (pa_cons (pv 0) (pa_cons (pv 1) (pa_cons (pv 3) pa_nil)))))
    (pss_cons (ps_if (PW.pt (pw_and (pt_cmpR op_eq (pv 2) (pe_int) (by rfl)) (pw_and1 (pt_cmpR op_eq (pe_op op_mod (pe_c c_law_next hr (by decide) rfl (pa_cons (pv 0) (pa_cons (pv 1) pa_nil))) (pe_int)) (pe_int) (by rfl)))))
    (pss_cons (ps_set (i := 4) sc.nd rfl (by first | exact Or.inl rfl | exact Or.inr rfl) (pe_op op_rep (pe_lst (pa_cons (pe_ix ix_list (pv 4) (pe_int) (fun _ _ => rfl)) pa_nil)) (pe_int)))
      (pss_cons (ps_set (i := 6) sc.nd rfl (by first | exact Or.inl rfl | exact Or.inr rfl) (pe_c c_law_great hr (by decide) rfl (pa_cons (pv 0) (pa_cons (pv 1) pa_nil))))
      (pss_cons (ps_setLc (i := 5) (own := [("_law_k", 7)]) (g := gName 7) (tt := tYes) (te := _) rfl sc.nd rfl rfl (sw_true rfl rfl rfl (by decide +kernel)) (pi_range1 rfl (T.free "range") (pa_cons (pe_int) pa_nil)) (blkOk_by (own := [("_law_k", 7)]) rfl) (fun _ _ _ _ _ => pg_name (i := 7) sc.nd rfl (by first | exact Or.inl rfl | exact Or.inr rfl)) (fun _ _ _ _ _ => pts_nil) (fun _ _ _ _ _ => pe_tup (pa_cons (pv 7) (pa_cons (pe_op op_mod (pe_op op_add (pv 7) (pe_int)) (pe_int)) (pa_cons (pv 6) (pa_cons (pe_bl) pa_nil))))))
      (pss_cons (ps_expr (pe_bm PySem.F.plainAttrs_list PySem.F.slot_list_extend PySem.F.type_list_extend mt_extend (pv 5) (pa_cons (pe_lc (own := [("_law_k", 7)]) (g := gName 7) (tt := tYes) (te := _) rfl sc.nd (pi_range1 rfl (T.free "range") (pa_cons (pe_int) pa_nil)) (blkOk_by (own := [("_law_k", 7)]) rfl) (fun _ _ _ _ _ => pg_name (i := 7) sc.nd rfl (by first | exact Or.inl rfl | exact Or.inr rfl)) (fun _ _ _ _ _ => pts_nil) (fun _ _ _ _ _ => pe_tup (pa_cons (pe_op op_add (pe_int) (pv 7)) (pa_cons (pe_op op_add (pe_int) (pe_op op_mod (pe_op op_add (pv 7) (pe_int)) (pe_int))) (pa_cons (pv 6) (pa_cons (pe_bl) pa_nil)))))) pa_nil)))
      (pss_cons (ps_set (i := 8) sc.nd rfl (by first | exact Or.inl rfl | exact Or.inr rfl) (pe_op op_mod (pe_c c_law_next hr (by decide) rfl (pa_cons (pv 0) (pa_cons (pv 1) pa_nil))) (pe_int)))
      (pss_one (ps_setLc (i := 5) (own := [("_law_one", 9), ("_law_other", 10), ("_law_kind", 6), ("_law_oneway", 11)]) (g := gTup K 4 (gCons (gName 9) (gCons (gName 10) (gCons (gName 6) (gCons (gName 11) (gNil)))))) (tt := tYes) (te := _) rfl sc.nd rfl rfl (sw_true rfl rfl rfl (by decide +kernel)) (pi_list (pv 5)) (blkOk_by (own := [("_law_one", 9), ("_law_other", 10), ("_law_kind", 6), ("_law_oneway", 11)]) rfl) (fun _ _ _ _ _ => pg_tup rfl (pgs_cons (pg_name (i := 9) sc.nd rfl (by first | exact Or.inl rfl | exact Or.inr rfl)) (pgs_cons (pg_name (i := 10) sc.nd rfl (by first | exact Or.inl rfl | exact Or.inr rfl)) (pgs_cons (pg_name (i := 6) sc.nd rfl (by first | exact Or.inl rfl | exact Or.inr rfl)) (pgs_cons (pg_name (i := 11) sc.nd rfl (by first | exact Or.inl rfl | exact Or.inr rfl)) (pgs_nil)))))) (fun _ _ _ _ _ => pts_nil) (fun _ _ _ _ _ => pe_tup (pa_cons (pe_op op_mod (pe_op op_add (pv 9) (pv 8)) (pe_int)) (pa_cons (pe_op op_mod (pe_op op_add (pv 10) (pv 8)) (pe_int)) (pa_cons (pv 6) (pa_cons (pe_bl) pa_nil))))))))))))
    (pss_nil))
    (pss_one (ps_ret (pe_tup (pa_cons (pv 4) (pa_cons (pv 5) pa_nil)))))))), ?_⟩
    refine w_asg (w_op (w_ev ev_c fun H1 e1 => w_op (w_next (L.more e1) (by omega) rfl rfl fun m H2 b2 L2 m0 m1 => w_ev (ev_var rfl) fun H3 e3 => w_rv (rv_I (by decide)) fun H4 e4 => w_rv rv_I0 fun H5 e5 => ?_)))
    have hm := mod_in (a := m) (m := 3) (by omega)
    obtain ⟨n, hn⟩ : ∃ n : Nat, 1 + m % 3 = (n : Int) := ⟨(1 + m % 3).toNat, by omega⟩
    rw [hn]
    have L5 := L2.more ((e3.trans e4).trans e5)
    have b5 : But x.at_ H H5 := (ex_but e1 b2).ex ((e3.trans e4).trans e5)
    refine w_asg (w_at (K := K) n (ea_cons (ev_var rfl) (ea_cons (ev_var rfl) (ea_cons (ev_var rfl) ea_nil))) L5 (by omega) (fun _ _ => ⟨rfl, by omega, by omega⟩) fun v H6 H7 e6 b7 L7 hv => ?_)
    obtain ⟨ka, ks, rfl, k0, hk, kl, kw⟩ := hv
    refine w_asg (w_at (K := K) n (ea_cons (ev_var rfl) (ea_cons (ev_var rfl) (ea_cons (ev_var rfl) ea_nil))) L7 (by omega) (fun _ _ => ⟨rfl, by omega, by omega⟩) fun v H8 H9 e8 b9 L9 hv => ?_)
    obtain ⟨ta, xs, ts, rfl, t0, ht1, ht2, tm, tok⟩ := hv
    refine q_when (et_and (b := false) (et_test (ev_op (ev_var rfl) ev_c (rv_eq rfl))) (fun h => by
      have := of_decide_eq_true h
      injection this with this
      cases this)) (fun hb => ?_) fun _ H10 e10 => ?_
    · rw [Bool.and_false] at hb
      cases hb
    · refine s_retP (ep_tupA (eap_of (vs := [.ref ka, .ref ta]) (ea_cons (ev_var rfl) (ea_cons (ev_var rfl) ea_nil))) (fun vs H1 h => by rw [h]; simp)) fun v H11 e11 hv => ?_
      obtain ⟨p, vs, H12, rfl, p0, p12, p1, e12, rfl, e13⟩ := hv
      have L10 := L9.more e10
      have b10 : But x.at_ H H10 := ((((b5.ex e6).trans b7).ex e8).trans b9).ex e10
      have b8 : But x.at_ H H8 := ((b5.ex e6).trans b7).ex e8
      have kn : ka ≠ x.at_ := (L5.more e6).ne k0
      refine k _ _ (b10.ex e11) ((L10.more e11).up (by omega) (by omega)) ⟨p, ka, ta, ks, ts, rfl, ⟨p1, e11 _ _ (e10 _ _ (b9 _ _ (e8 _ _ hk) kn)), xs, e11 _ _ (e10 _ _ ht1), dpAll_ex e11 (dpAll_ex e10 ht2)⟩, L10.back b10 p0, (L5.more e6).back (b5.ex e6) k0, (L7.more e8).back b8 t0, ⟨⟨by omega, by omega⟩, tm, kw, by rw [kl]; exact tok⟩, by omega⟩
end
end L2.Tw
set_option Elab.async false
set_option linter.all false
set_option maxRecDepth 100000
set_option maxHeartbeats 4000000
set_option autoImplicit false
namespace L2.Tw
open PySem PySem.Spec PyProof.Rows L2
open C8 (Cal Met Mak pe_c pe_mk pe_mt pe_mt0 pe_gc InsC)
open Evl (Ex Ev EvT EvA fresh_back ex_l ex_t ex_rd sq_of st_of sz_of sz_lt ev_var ev_c ev_op rv_I0 rv_I rv_eq rv_ne et_test et_or et_and et_not et_B s_if ea_nil ea_cons q_asg q_when)
open _root_.TL (tl tl_append len_tl)
section
variable {P : Program} {w : World} {K : PySem.W.Frag} {mg : Str → Option Value} {base : Heap}
variable {σ : L2.St} {H : Hp} {ta tb te : TE} {tA tr : TA} {D : Ends} {tz : TS} {Q : VK} {r : R2}
/-! ### _law_order -/
theorem eraseIdx_map {α β : Type} (f : α → β) : ∀ (l : List α) (k : Nat), (l.map f).eraseIdx k = (l.eraseIdx k).map f
  | [], k => by simp
  | a :: l, 0 => by simp
  | a :: l, k + 1 => by simp [eraseIdx_map f l k]
theorem erase_perm {α : Type} : ∀ (l : List α) (k : Nat) (y : α), l[k]? = some y → (y :: l.eraseIdx k).Perm l
  | [], k, y, h => by simp at h
  | a :: l, 0, y, h => by
    simp at h
    subst h
    simp
  | a :: l, k + 1, y, h => by
    have := erase_perm l k y (by simpa using h)
    exact (List.Perm.swap a y _).trans (this.cons a)
theorem rgV_nats (n : Nat) : rgV 0 (n : Int) = natsV (List.range n) := by
  unfold rgV natsV
  have e : ((n : Int) - 0).toNat = n := by omega
  rw [e]
  refine List.map_congr_left fun i _ => ?_
  rw [Int.zero_add]
def spOrder (K : PySem.W.Frag) : Sp := spAt K 3 (fun (n : Nat) x vs _ => vs = [.ref x.sa, .ref x.at_, .int (n : Int)] ∧ n ≤ 3) (fun n x H v H' => ∃ p o, v = .ref p ∧ H p = none ∧ H' p = some (.lst (natsV o)) ∧ Ord n o)
theorem cal_law_order (T : TX K mg) : Cal P w K mg base 2 "_law_order" (spOrder K) [] := by
  refine T.cal d_law_order (N := ["_law_script", "_law_at", "_law_size", "_law_left", "_law_order_here"]) (ps := ["_law_script", "_law_at", "_law_size"]) (List.mem_of_getElem? (i := 52) rfl) rfl (by decide +kernel) sc_law_order (fun _ _ _ _ _ _ us hl => match us, hl with | [_, _, _], _ => rfl) (fun vs H Q E h => ?_) (fun cdv A outer s H vs Q E f hr h => ?_)
  · obtain ⟨a, x, C, ⟨rfl, _⟩, _⟩ := h
    rfl
  · obtain ⟨n, x, C, ⟨rfl, n3⟩, L, hC, k⟩ := h
    have sc := sc_law_order
    have c_law_next := cal_law_next (P := P) (w := w) (base := base) T
    refine ⟨_, pss_cons (ps_set (i := 3) sc.nd rfl (by first | exact Or.inl rfl | exact Or.inr rfl) (pe_listRg rfl rfl (T.free "list") (prg_1 rfl (T.free "range") (pv 2))))
    (pss_cons (ps_set (i := 4) sc.nd rfl (by first | exact Or.inl rfl | exact Or.inr rfl) (pe_lst (pa_nil)))
    (pss_cons (ps_while PassesOwn.never (pt_cmpR op_gt (pe_callB call_len_seq (by rfl) (T.free "len") (by decide +kernel) (pa_cons (pv 3) pa_nil)) (pe_int) (by rfl))
    (pss_one (ps_expr (pe_bm PySem.F.plainAttrs_list PySem.F.slot_list_append PySem.F.type_list_append mt_append (pv 4) (pa_cons (pe_bm PySem.F.plainAttrs_list PySem.F.slot_list_pop PySem.F.type_list_pop mt_popAt (pv 3) (pa_cons (pe_op op_mod (pe_c c_law_next hr (by decide) rfl (pa_cons (pv 0) (pa_cons (pv 1) pa_nil))) (pe_callB call_len_seq (by rfl) (T.free "len") (by decide +kernel) (pa_cons (pv 3) pa_nil))) pa_nil)) pa_nil)))))
    (pss_one (ps_ret (pv 4))))), ?_⟩
    refine q_asgP (P := fun v H' => ∃ p, v = .ref p ∧ H p = none ∧ H' p = some (.lst (natsV (List.range n)))) (fun H1 e1 Q q => ⟨_, rfl, (n : Int), rfl, ⟨by omega, by omega, by omega, by omega, by omega⟩, fun p hp => q _ _ (Evl.Ex.new hp) ⟨p, rfl, fresh_back e1 hp, by rw [← rgV_nats]; exact upd_same⟩⟩) fun v H1 e1 hv => ?_
    obtain ⟨lp, rfl, l0, l1⟩ := hv
    refine q_asgP (ep_lstD (K := K) ea_nilD) fun v H2 e2 hv => ?_
    obtain ⟨op, xs, rfl, o0, o1, hA⟩ := hv
    cases hA
    have L2' := L.more (e1.trans e2)
    have o0' := fresh_back e1 o0
    have lo : lp ≠ op := fun e => by rw [e, o0] at l1; cases l1
    have ln : lp ≠ x.at_ := L.ne l0
    have on : op ≠ x.at_ := L.ne o0'
    refine Evl.q_while (fun m σ' H' => ∃ l o, σ' = [some (.ref x.sa), some (.ref x.at_), some (.int (n : Int)), some (.ref lp), some (.ref op)] ∧ H' lp = some (.lst (natsV l)) ∧ H' op = some (.lst (natsV o)) ∧ (o ++ l).Perm (List.range n) ∧ m = l.length ∧ LS K x H' (C + (n - m : Nat)) ∧ But x.at_ H H') n ⟨List.range n, [], rfl, e2 _ _ l1, o1, List.Perm.refl _, by simp, L2'.up (by omega) (by omega), ex_but (e1.trans e2) (But.refl _ _)⟩ (fun m σ' H' hw => ?_)
    obtain ⟨l, o, rfl, h1, h2, h3, rfl, LL, bb⟩ := hw
    have hlen := h3.length_eq
    rw [List.length_append, List.length_range] at hlen
    have nl : (natsV l).length = l.length := by unfold natsV; rw [List.length_map]
    have no : (natsV o).length = o.length := by unfold natsV; rw [List.length_map]
    refine ⟨_, et_test (ev_op (Evl.ev_len (ev_var rfl) (sq_of h1)) ev_c rv_I0), fun hb H3 e3 => ⟨_, fun σ2 H2 h => h, ?_⟩, fun hb H3 e3 => ?_⟩
    · have hpos : (0 : Int) < (l.length : Int) := by
        have := of_decide_eq_true hb
        rw [nl] at this
        exact this
      refine w_drop (w_bm (w_ev (ev_var rfl) fun H4 e4 => ⟨Or.inl ⟨rfl, _, sq_of (e4 _ _ (e3 _ _ h2))⟩, w_cons (w_bm (w_ev (ev_var rfl) fun H5 e5 => ⟨Or.inl ⟨rfl, _, sq_of (e5 _ _ (e4 _ _ (e3 _ _ h1)))⟩, w_cons (w_op (w_next (LL.more ((e3.trans e4).trans e5)) (by omega) rfl rfl fun q H6 b6 L6 q0 q1 => ?_))⟩))⟩))
      have h1' := b6 _ _ (((e3.trans e4).trans e5) _ _ h1) ln
      have h2' := b6 _ _ (((e3.trans e4).trans e5) _ _ h2) on
      have len6 := Evl.ev_len (K := K) (σ := [some (.ref x.sa), some (.ref x.at_), some (.int (n : Int)), some (.ref lp), some (.ref op)]) (H := H6) (ta := tVar 3) (ev_var rfl) (sq_of h1')
      rw [nl] at len6
      refine w_ev len6 fun H7 e7 => w_rv (rv_I hpos) fun H8 e8 => w_nil ?_
      have hq := mod_in (a := q) (m := (l.length : Int)) hpos
      obtain ⟨j, hj⟩ : ∃ j : Nat, q % (l.length : Int) = (j : Int) := ⟨(q % (l.length : Int)).toNat, by omega⟩
      have hjl : j < l.length := by omega
      rw [hj]
      have h1'' := e8 _ _ (e7 _ _ h1')
      have h2'' := e8 _ _ (e7 _ _ h2')
      have hget : l[j]? = some l[j] := List.getElem?_eq_getElem hjl
      have ep := erase_perm l j _ hget
      refine ⟨lp, natsV l, (j : Int), j, .int ((l[j] : Nat) : Int), rfl, rfl, h1'', by omega, by omega, ?_, ?_, w_nil ?_⟩
      · have := PySem.StrLaws.seqIndex_nonneg (i := (j : Int)) (n := (natsV l).length) (by omega) (by omega)
        rw [this, Int.toNat_natCast]
      · unfold natsV
        rw [List.getElem?_map, hget]
        rfl
      · have h2z : (upd H8 lp (.lst ((natsV l).eraseIdx j))) op = some (.lst (natsV o)) := by rw [upd_ne (Ne.symm lo)]; exact h2''
        refine ⟨op, natsV o, _, rfl, rfl, h2z, sz_lt (by omega), l.length - 1, by omega, l.eraseIdx j, o ++ [l[j]], rfl, ?_, ?_, ?_, ?_, ?_, ?_⟩
        · rw [upd_ne lo, upd_same]
          unfold natsV
          rw [eraseIdx_map]
        · rw [upd_same]
          unfold natsV
          rw [List.map_append]
          rfl
        · rw [List.append_assoc]
          exact (List.Perm.append_left o (by exact ep)).trans h3
        · rw [List.length_eraseIdx, if_pos hjl]
        · refine (((L6.more (e7.trans e8)).but But.upd (L.f0 l0) ln).but But.upd (L.f0 o0') on).up (by omega) (by omega)
        · exact ((((bb.ex ((e3.trans e4).trans e5)).trans b6).ex (e7.trans e8)).mut l0).mut o0'
    · have hz : l.length = 0 := by
        have := of_decide_eq_false hb
        rw [nl] at this
        omega
      have hl : l = [] := List.length_eq_zero_iff.mp hz
      subst hl
      rw [List.append_nil] at h3
      refine s_retE (ev_var rfl) fun H4 e4 => k _ _ (bb.ex (e3.trans e4)) ((LL.more (e3.trans e4)).up (by simp; omega) (by omega)) ⟨op, o, rfl, o0', e4 _ _ (e3 _ _ h2), h3⟩
/-! ### _law_turned -/
def madeD (ks : List Str) (ts : List Tie) : PyData := .tuple [.list (ks.map .str), .list (ts.map tieD)]
theorem MadeAt.dp {p ka ta : Addr} {ks : List Str} {ts : List Tie} (m : MadeAt K H p ka ta ks ts) : Dp K H (.ref p) (madeD ks ts) := by
  obtain ⟨h1, h2, xs, h3, h4⟩ := m
  refine .tup (st_of h1) (.cons (.lst (sq_of h2) ?_) (.cons (.lst (sq_of h3) h4) .nil))
  have := dpAll_strs (K := K) (H := H) ks
  exact this
/-- turned as the law does it -/
def turnK (ks : List Str) (o : List Nat) : List Str := o.map fun i => ks.getD i Str.empty
def turnT (ts : List Tie) (o : List Nat) : List Tie := ts.map (ledT o)
def spLTurned (K : PySem.W.Frag) : Sp := spP (fun (a : List Str × List Tie × List Nat) vs H => ∃ v vo, vs = [v, vo] ∧ Dp K H v (madeD a.1 a.2.1) ∧ Dp K H vo (natsD a.2.2) ∧ Raw3 a.1 a.2.1 ∧ Ord a.1.length a.2.2) (fun a H v H' => ∃ p ka ta, v = .ref p ∧ MadeAt K H' p ka ta (turnK a.1 a.2.2) (turnT a.2.1 a.2.2) ∧ H p = none ∧ H ka = none ∧ H ta = none)
theorem cal_law_turned (T : TX K mg) : Cal P w K mg base 1 "_law_turned" (spLTurned K) [] := by
  refine T.cal d_law_turned (N := ["_law_made", "_law_order_here", "_law_stands", "_law_place", "_law_ties_here", "_law_one", "_law_other", "_law_kind", "_law_oneway", "_law_old"]) (ps := ["_law_made", "_law_order_here"]) (List.mem_of_getElem? (i := 53) rfl) rfl (by decide +kernel) sc_law_turned (fun _ _ _ _ _ _ us hl => match us, hl with | [_, _], _ => rfl) (fun vs H Q E h => ?_) (fun cdv A outer s H vs Q E f hr h => ?_)
  · obtain ⟨a, ⟨v, vo, rfl, _⟩, _⟩ := h
    rfl
  · obtain ⟨⟨ks, ts, o⟩, ⟨v, vo, rfl, hm, ho, hraw, hp⟩, k⟩ := h
    dsimp only at hm ho hraw hp k ⊢
    have sc := sc_law_turned
    refine ⟨_, pss_cons (ps_set (i := 2) sc.nd rfl (by first | exact Or.inl rfl | exact Or.inr rfl) (pe_dnewK))
    (pss_cons (ps_for PassesOwn.never rfl (pi_range1 rfl (T.free "range") (pa_cons (pe_callB call_len_seq (by rfl) (T.free "len") (by decide +kernel) (pa_cons (pv 1) pa_nil)) pa_nil)) (pg_name (i := 3) sc.nd rfl (by first | exact Or.inl rfl | exact Or.inr rfl))
    (pss_one (ps_dput (hu_of hr) (pv 2) (pe_ix ix_list (pv 1) (pv 3) (fun _ _ => rfl)) (pv 3) rfl)))
    (pss_cons (ps_setLc (i := 4) (own := [("_law_one", 5), ("_law_other", 6), ("_law_kind", 7), ("_law_oneway", 8)]) (g := gTup K 4 (gCons (gName 5) (gCons (gName 6) (gCons (gName 7) (gCons (gName 8) (gNil)))))) (tt := tYes) (te := _) rfl sc.nd rfl rfl (sw_true rfl rfl rfl (by decide +kernel)) (pi_list (pe_ix ix_tup (pv 0) (pe_int) (fun _ _ => rfl))) (blkOk_by (own := [("_law_one", 5), ("_law_other", 6), ("_law_kind", 7), ("_law_oneway", 8)]) rfl) (fun _ _ _ _ _ => pg_tup rfl (pgs_cons (pg_name (i := 5) sc.nd rfl (by first | exact Or.inl rfl | exact Or.inr rfl)) (pgs_cons (pg_name (i := 6) sc.nd rfl (by first | exact Or.inl rfl | exact Or.inr rfl)) (pgs_cons (pg_name (i := 7) sc.nd rfl (by first | exact Or.inl rfl | exact Or.inr rfl)) (pgs_cons (pg_name (i := 8) sc.nd rfl (by first | exact Or.inl rfl | exact Or.inr rfl)) (pgs_nil)))))) (fun _ _ _ _ _ => pts_nil) (fun _ _ _ _ _ => pe_tup (pa_cons (pe_dget (hu_of hr) (pv 2) (pv 5) (fun _ _ => rfl)) (pa_cons (pe_dget (hu_of hr) (pv 2) (pv 6) (fun _ _ => rfl)) (pa_cons (pv 7) (pa_cons (pv 8) pa_nil))))))
    (pss_one (ps_ret (pe_tup (pa_cons (pe_lc (own := [("_law_old", 9)]) (g := gName 9) (tt := tYes) (te := tOp (rIxL K) (tOp (rIxT K) (_) (_)) (_)) rfl sc.nd (pi_list (pv 1)) (blkOk_by (own := [("_law_old", 9)]) rfl) (fun _ _ _ _ _ => pg_name (i := 9) sc.nd rfl (by first | exact Or.inl rfl | exact Or.inr rfl)) (fun _ _ _ _ _ => pts_nil) (fun _ _ _ _ _ => pe_ix ix_list (pe_ix ix_tup (pv 0) (pe_int) (fun _ _ => rfl)) (pv 9) (fun _ _ => rfl))) (pa_cons (pv 4) pa_nil))))))), ?_⟩
    have hlen := hp.len
    have hol : o.length ≤ 3 := by rw [hlen]; exact hraw.2
    obtain ⟨la, xs, rfl, sl, dl⟩ : ∃ la xs, vo = .ref la ∧ SqL K H la xs ∧ DpAll K H xs (o.map fun (j : Nat) => .int (j : Int)) := by
      cases ho with
      | lst h1 h2 => exact ⟨_, _, rfl, h1, h2⟩
    have hxs : xs = o.map fun (j : Nat) => V.int (j : Int) := by
      have e : (o.map fun (j : Nat) => PyData.int (j : Int)) = (o.map fun (j : Nat) => (j : Int)).map PyData.int := by rw [List.map_map]; rfl
      rw [e] at dl
      rw [dpAll_ints' dl, List.map_map]
      rfl
    subst hxs
    refine q_set fun sd hsd => ?_
    have sd1 : (upd H sd (.dK [])) sd = some (.dK []) := upd_same
    have e1 : Ex H (upd H sd (.dK [])) := Evl.Ex.new hsd
    show tSeq _ _ _ _ (upd H sd (.dK []))
    generalize upd H sd (.dK []) = H1 at sd1 e1 ⊢
    have len1 := Evl.ev_len (K := K) (σ := [some v, some (.ref la), some (.ref sd), none, none, none, none, none, none, none]) (H := H1) (ta := tVar 1) (ev_var rfl) (ex_l e1 sl)
    refine q_forR (n := o.length) (by rw [List.length_map] at len1; exact ea_cons len1 ea_nil) (by omega) (fun m σ' H' => (∃ o3, σ' = [some v, some (.ref la), some (.ref sd), o3, none, none, none, none, none, none]) ∧ Ex H H' ∧ ∃ kv, H' sd = some (.dK kv) ∧ kv.length ≤ m ∧ ∀ i x, i < m → o[i]? = some x → valV kv (Sum.inl (x : Int)) = some (.int (i : Int)))
      (fun H2 e2 => ⟨⟨_, rfl⟩, e1.trans e2, [], e2 _ _ sd1, Nat.zero_le _, fun i x hi => by omega⟩) (fun m σ' H' hm p => ?_) (fun σ' H' p => ?_)
    · obtain ⟨⟨o3, rfl⟩, e3, kv, h5, h6, h7⟩ := p
      have hy : o[m]? = some o[m] := List.getElem?_eq_getElem hm
      generalize o[m] = y at hy
      refine s_dputK (k := Sum.inl (y : Int)) (P := fun v _ => v = .int (m : Int)) (ep_ev (ev_var rfl) fun _ _ => rfl) (ev_var rfl) (ev_op (z := .int (y : Int)) (ev_var rfl) (ev_var rfl) (Evl.rv_ixL (ex_l e3 sl) (atI_nat (by rw [List.getElem?_map, hy]; rfl)))) h5 (by omega) (fun _ _ _ _ h => h) fun v H3 e4 hv => ?_
      subst hv
      refine ⟨⟨_, rfl⟩, Evl.Ex.mut (e3.trans e4) hsd, _, upd_same, ?_, fun i x hi hxi => ?_⟩
      · have := length_putK kv (Sum.inl (y : Int)) (.int (m : Int))
        omega
      · rw [valV_put]
        by_cases c : (Sum.inl (x : Int) : L2.Key) = Sum.inl (y : Int)
        · rw [if_pos c]
          have exy : x = y := by
            have := Sum.inl.inj c
            omega
          subst exy
          rw [← stand_at hp hxi, stand_at hp hy]
        · rw [if_neg c]
          refine h7 i x ?_ hxi
          rcases Nat.lt_succ_iff_lt_or_eq.mp hi with h | h
          · exact h
          · subst h
            rw [hy] at hxi
            cases hxi
            exact absurd rfl c
    · obtain ⟨⟨o3, rfl⟩, e3, kv, h5, h6, h7⟩ := p
      have hst : ∀ x, x < ks.length → valV kv (Sum.inl (x : Int)) = some (.int (stand o x : Int)) := fun x hx => h7 _ x (stand_lt hp hx).1 (stand_lt hp hx).2
      refine q_asgP (P := NewL K H ((turnT ts o).map tieD)) (EvP.imp (P := NewL K H' (ts.map fun t => tieD (ledT o t))) (ep_lcG (f := tieD) (ep_ixT (n := 1) (d := .list (ts.map tieD)) (ep_varD (d := madeD ks ts) rfl (dp_ex e3 hm)) ev_c rfl) (by have := hraw.1.m; omega) (fun t ht => by simp [tieD, noL, noLs]) fun t x H3 ht e5 hx => ?_) fun v H3 e h => ?_) fun v2 H3 e5 hv2 => ?_
      · refine ⟨[some v, some (.ref la), some (.ref sd), o3, none, some (.int t.a), some (.int t.b), some (.int t.k), some (.bl t.o), none], rfl, fun H4 Q e6 q => ?_, ?_⟩
        · refine g_tup4 (dp_ex e6 hx) fun v1 v2 v3 v4 d1 d2 d3 d4 => ?_
          cases d1
          cases d2
          cases d3
          cases d4
          exact q
        · have q := hraw.1.t t ht
          exact ep_tupD (ds := [.int (stand o t.a : Int), .int (stand o t.b : Int), .int t.k, .bool t.o]) (ea_consD (ep_int (ev_dgetK (k := Sum.inl (t.a : Int)) (ev_var rfl) (ev_var rfl) (e5 _ _ h5) (hst _ q.a))) (ea_consD (ep_int (ev_dgetK (k := Sum.inl (t.b : Int)) (ev_var rfl) (ev_var rfl) (e5 _ _ h5) (hst _ q.b))) (ea_consD (ep_int (ev_var rfl)) (ea_consD (ep_bl (ev_var rfl)) ea_nilD))))
      · have e' : (turnT ts o).map tieD = ts.map fun t => tieD (ledT o t) := by
          unfold turnT
          rw [List.map_map]
          rfl
        rw [e']
        exact h.up e3
      · obtain ⟨ta, xs, rfl, t0, t1, t2⟩ := hv2
        refine s_retP (ep_tupA (PA := fun vs H' => ∃ x r, vs = x :: r ∧ NewL K H ((turnK ks o).map .str) x H' ∧ ∃ r', r = .ref ta :: r' ∧ r' = []) (ea_consP (P := NewL K H ((turnK ks o).map .str)) (EvP.imp (P := NewL K H3 (o.map fun j => .str (ks.getD j Str.empty))) (ep_lcM (f := fun (j : Nat) => .int (j : Int)) (ep_varD rfl (dp_ex (e3.trans e5) (show Dp K H (.ref la) (.list (o.map fun (j : Nat) => .int (j : Int))) from .lst sl dl))) (by omega) (fun _ _ => rfl) (fun x => rfl) fun a x H2 ha e2 hx => ?_) fun v H2 e h => ?_) (fun v H1 H2 e h => h.ex e) (ea_consV (ev_var rfl) ea_nilP)) (fun vs H1 h => ?_)) fun v H4 e4 hv => ?_
        · cases hx
          have hlt : a < ks.length := List.mem_range.mp (hp.mem_iff.mp ha)
          refine ep_ixL (ds := ks.map .str) (n := a) (ep_ixT (n := 0) (ep_varD (d := madeD ks ts) rfl (dp_ex ((e3.trans e5).trans e2) hm)) ev_c rfl) (ev_var rfl) ?_
          rw [List.getElem?_map, List.getD_eq_getElem?_getD, List.getElem?_eq_getElem hlt]
          rfl
        · have e' : (turnK ks o).map PyData.str = o.map fun j => .str (ks.getD j Str.empty) := by
            unfold turnK
            rw [List.map_map]
            rfl
          rw [e']
          exact h.up (e3.trans e5)
        · obtain ⟨x, r, rfl, _, r', rfl, rfl⟩ := h
          simp
        · obtain ⟨p, vs, H5, rfl, p0, p5, p1, e45, ⟨x, r, rfl, ⟨ka, ys, rfl, k0, k1, k2⟩, r', rfl, rfl⟩, e56⟩ := hv
          have := dpAll_strs' k2
          subst this
          exact k _ _ ((e3.trans e5).trans e4) ⟨p, ka, ta, rfl, ⟨p1, e56 _ _ k1, xs, e4 _ _ t1, dpAll_ex e4 t2⟩, fresh_back (e3.trans e5) p0, k0, t0⟩
/-! ### _law_plain -/
def spLPlain (K : PySem.W.Frag) : Sp := spP (fun (ts : List Tie) vs H => ∃ v, vs = [v] ∧ Dp K H v (.list (ts.map tieD)) ∧ ts.length ≤ 12) (fun ts H v H' => NewL K H ((sortBy tieD (ts.map plainT)).map tieD) v H')
theorem cal_law_plain (T : TX K mg) : Cal P w K mg base 1 "_law_plain" (spLPlain K) [] := by
  refine T.cal d_law_plain (N := ["_law_ties_here", "_law_found", "_law_one", "_law_other", "_law_kind", "_law_oneway"]) (ps := ["_law_ties_here"]) (List.mem_of_getElem? (i := 54) rfl) rfl (by decide +kernel) sc_law_plain (fun _ _ _ _ _ _ us hl => match us, hl with | [_], _ => rfl) (fun vs H Q E h => ?_) (fun cdv A outer s H vs Q E f hr h => ?_)
  · obtain ⟨a, ⟨v, rfl, _⟩, _⟩ := h
    rfl
  · obtain ⟨ts, ⟨v, rfl, hd, hz⟩, k⟩ := h
    have sc := sc_law_plain
    refine ⟨_, pss_cons (ps_set (i := 1) sc.nd rfl (by first | exact Or.inl rfl | exact Or.inr rfl) (pe_lst (pa_nil)))
    (pss_cons (ps_for PassesOwn.never rfl (pi_list (pv 0)) (pg_tup rfl (pgs_cons (pg_name (i := 2) sc.nd rfl (by first | exact Or.inl rfl | exact Or.inr rfl)) (pgs_cons (pg_name (i := 3) sc.nd rfl (by first | exact Or.inl rfl | exact Or.inr rfl)) (pgs_cons (pg_name (i := 4) sc.nd rfl (by first | exact Or.inl rfl | exact Or.inr rfl)) (pgs_cons (pg_name (i := 5) sc.nd rfl (by first | exact Or.inl rfl | exact Or.inr rfl)) (pgs_nil))))))
    (pss_one (ps_if (PW.pt (pw_and (pt_not (pt_val (pv 5))) (pw_and1 (pt_cmpR op_gt (pv 2) (pv 3) (by rfl)))))
      (pss_one (ps_expr (pe_bm PySem.F.plainAttrs_list PySem.F.slot_list_append PySem.F.type_list_append mt_append (pv 1) (pa_cons (pe_tup (pa_cons (pv 3) (pa_cons (pv 2) (pa_cons (pv 4) (pa_cons (pv 5) pa_nil))))) pa_nil))))
      (pss_one (ps_expr (pe_bm PySem.F.plainAttrs_list PySem.F.slot_list_append PySem.F.type_list_append mt_append (pv 1) (pa_cons (pe_tup (pa_cons (pv 2) (pa_cons (pv 3) (pa_cons (pv 4) (pa_cons (pv 5) pa_nil))))) pa_nil)))))))
    (pss_one (ps_ret (pe_callB (cr_sortD hr.units) (by rfl) (T.free "sorted") (by decide +kernel) (pa_cons (pv 1) pa_nil))))), ?_⟩
    obtain ⟨la, xs, rfl, sl, dl⟩ : ∃ la xs, v = .ref la ∧ SqL K H la xs ∧ DpAll K H xs (ts.map tieD) := by
      cases hd with
      | lst h1 h2 => exact ⟨_, _, rfl, h1, h2⟩
    refine q_asgP (ep_lstD (K := K) ea_nilD) fun v H1 e1 hv => ?_
    obtain ⟨p, ys, rfl, p0, p1, hA⟩ := hv
    cases hA
    refine q_forDX (ev_var rfl) (ex_l e1 sl) (dpAll_ex e1 dl) (fun i σ' H' => (∃ o2 o3 o4 o5, σ' = [some (.ref la), some (.ref p), o2, o3, o4, o5]) ∧ AccB K p H1 (((ts.take i).map plainT).map tieD) H') (fun H2 e2 => ⟨⟨_, _, _, _, rfl⟩, (accB_new p1 .nil).ex e2⟩) (fun i σ' H' q => ⟨ex_l (But.fresh e1 q.2.1 p0) sl, dpAll_ex (But.fresh e1 q.2.1 p0) dl⟩) (fun i d x σ' H' hdi hx q => ?_) (fun σ' H' q => ?_)
    · obtain ⟨⟨o2, o3, o4, o5, rfl⟩, ac⟩ := q
      rw [List.getElem?_map] at hdi
      obtain ⟨t, ht, rfl⟩ := Option.map_eq_some_iff.mp hdi
      have til : i < ts.length := (List.getElem?_eq_some_iff.mp ht).1
      have nx : ((ts.take i).map plainT).map tieD ++ [tieD (plainT t)] = ((ts.take (i + 1)).map plainT).map tieD := by
        rw [List.take_add_one, ht, List.map_append, List.map_append]
        rfl
      have tl1 : (((ts.take i).map plainT).map tieD).length < 100000 := by
        rw [List.length_map, List.length_map, List.length_take]
        omega
      refine g_tup4 hx fun v1 v2 v3 v4 d1 d2 d3 d4 => ?_
      cases d1
      cases d2
      cases d3
      cases d4
      refine s_if (et_and (et_not (et_B (ev_var rfl))) fun _ => et_test (ev_op (ev_var rfl) (ev_var rfl) rv_I0)) (fun hb H3 e3 => ?_) fun hb H3 e3 => ?_
      · obtain ⟨g1, g2⟩ := and_true hb
        have g2 : (t.b : Int) < (t.a : Int) := of_decide_eq_true g2
        have hpt : plainT t = ⟨t.b, t.a, t.k, t.o⟩ := by
          unfold plainT
          rw [if_pos ⟨by simpa using g1, by omega⟩]
        refine s_accB (d := tieD (plainT t)) (ac.ex e3) (ev_var rfl) (by
          rw [hpt]
          exact ep_tupD (ds := [.int (t.b : Int), .int (t.a : Int), .int t.k, .bool t.o]) (ea_consD (ep_int (ev_var rfl)) (ea_consD (ep_int (ev_var rfl)) (ea_consD (ep_int (ev_var rfl)) (ea_consD (ep_bl (ev_var rfl)) ea_nilD))))) (noL_ties _) rfl tl1 fun H4 ac4 => ⟨⟨_, _, _, _, rfl⟩, ?_⟩
        rw [← nx]
        exact ac4
      · have hpt : plainT t = t := by
          unfold plainT
          rw [if_neg]
          rintro ⟨h1, h2⟩
          rw [h1] at hb
          have : decide ((t.b : Int) < (t.a : Int)) = true := decide_eq_true (by omega)
          rw [this] at hb
          cases hb
        refine s_accB (d := tieD (plainT t)) (ac.ex e3) (ev_var rfl) (by
          rw [hpt]
          exact ep_tupD (ds := [.int (t.a : Int), .int (t.b : Int), .int t.k, .bool t.o]) (ea_consD (ep_int (ev_var rfl)) (ea_consD (ep_int (ev_var rfl)) (ea_consD (ep_int (ev_var rfl)) (ea_consD (ep_bl (ev_var rfl)) ea_nilD))))) (noL_ties _) rfl tl1 fun H4 ac4 => ⟨⟨_, _, _, _, rfl⟩, ?_⟩
        rw [← nx]
        exact ac4
    · obtain ⟨⟨o2, o3, o4, o5, rfl⟩, ac⟩ := q
      rw [List.take_of_length_le (by rw [List.length_map]; omega)] at ac
      have e0 : Ex H H' := But.fresh e1 ac.1 p0
      refine s_retP (ep_sortM (ep_varD rfl ac.dp) (sortOk_ties _ (by rw [List.length_map]; omega))) fun v H4 e4 hv => k _ _ (e0.trans e4) (hv.up e0)
end
end L2.Tw
set_option Elab.async false
set_option linter.all false
set_option maxRecDepth 100000
set_option maxHeartbeats 4000000
set_option autoImplicit false
namespace L2.Tw
open PySem PySem.Spec PyProof.Rows L2
open C8 (Cal Met Mak pe_c pe_mk pe_mt pe_mt0 pe_gc InsC)
open Evl (Ex Ev EvT EvA fresh_back ex_l ex_t ex_rd sq_of st_of sz_of sz_lt ev_var ev_c ev_op rv_I0 rv_I rv_eq rv_ne et_test et_or et_and et_not et_B s_if ea_nil ea_cons q_asg q_when)
open _root_.TL (tl tl_append len_tl)
section
variable {P : Program} {w : World} {K : PySem.W.Frag} {mg : Str → Option Value} {base : Heap}
variable {σ : L2.St} {H : Hp} {ta tb te td ti tj ty tv : TE} {tA tr : TA} {D : Ends} {tz : TS} {Q : VK} {r : R2}
/-! ### the table of the law -/
theorem putK_old {κ : Type} [DecidableEq κ] {kv : List (κ × V)} {k : κ} {v : V} (y : V) (h : (k, v) ∈ kv) : putK kv k y = kv.map fun p => if p.1 = k then (p.1, y) else p := by
  unfold putK
  rw [if_pos]
  exact List.any_eq_true.mpr ⟨_, h, by simp⟩
/-- d[i, j] = [], a new key -/
theorem fo_put {H0 H : Hp} {f : Addr} {g : Nat → Nat → List Pair} {m : Nat} {S : Nat → Nat → Prop} {kv : List (List L2.Key × V)} {i j : Nat} (F : FO K H0 H f g m S kv) (hd : Ev td σ H (.ref f)) (hi : Ev ti σ H (.int (i : Int))) (hj : Ev tj σ H (.int (j : Int))) (hm : m ≤ 1000)
    (hS : ¬ S i j) (hg : g i j = [])
    (k : ∀ a H' kv', FO K H0 H' f g (m + 1) (fun x y => S x y ∨ (x = i ∧ y = j)) kv' → (∀ p ∈ kv, p ∈ kv') → (kk i j, V.ref a) ∈ kv' → D.nx σ H') :
    sDPut td (tTup (tCons ti (tCons tj tNil))) (tLst tNil) D σ H := by
  refine ⟨Nat.zero_le _, fun p hp => ?_⟩
  have e1 : Ex H (upd H p (.lst [])) := Evl.Ex.new hp
  refine hd _ e1 _ fun H2 e2 => hi _ (e1.trans e2) _ fun H3 e3 => hj _ ((e1.trans e2).trans e3) _ fun H4 e4 => ⟨by show 2 ≤ sizeLine; decide, fun q hq => ?_⟩
  have e14 : Ex H H4 := ((e1.trans e2).trans e3).trans e4
  have e5 : Ex H4 (upd H4 q (.tup [.int (i : Int), .int (j : Int)])) := Evl.Ex.new hq
  have p4 : H4 p = some (.lst []) := e4 _ _ (e3 _ _ (e2 _ _ upd_same))
  have e05 := e14.trans e5
  have hfp : f ≠ p := ne_of_none F.at_ hp
  have f5 := e05 f _ F.at_
  have hl := F.len
  have hn : valV kv (kk i j) = none := by
    cases hv : valV kv (kk i j) with
    | none => rfl
    | some v =>
      obtain ⟨i', j', a, xs, ek, ev, a0, ha, hx, hne⟩ := F.ent _ _ (valV_mem hv)
      obtain ⟨rfl, rfl⟩ := kk_inj ek
      rcases hne with hne | hne
      · exact absurd hg hne
      · exact absurd hne hS
  have ek : putK kv (kk i j) (V.ref p) = kv ++ [(kk i j, V.ref p)] := putK_new _ hn
  refine ⟨f, _, rfl, DPut.t (k := kk i j) f5 upd_same (sz_lt (by omega)), ?_⟩
  rw [ek]
  have tx : TupEx K (upd H4 q (.tup [.int (i : Int), .int (j : Int)])) (upd (upd H4 q (.tup [.int (i : Int), .int (j : Int)])) f (.dT (kv ++ [(kk i j, V.ref p)]))) := tupEx_upd f5 rfl
  have p5 := e5 _ _ p4
  refine k p _ (kv ++ [(kk i j, V.ref p)]) ⟨upd_same, F.f0, ex_upd (F.ex.trans e05) F.f0, ?_, ?_, fun k v hk => ?_, fun k k' a h1 h2 => ?_, fun x y hxy => ?_⟩ (fun p hp => List.mem_append_left _ hp) (List.mem_append_right _ (by simp))
  · simp only [List.length_append, List.length_singleton]
    omega
  · rw [List.map_append, List.nodup_append]
    refine ⟨F.nd, by simp, fun a ha b hb e => ?_⟩
    have hb' : b = kk i j := by simpa using hb
    obtain ⟨pr, hp1, hp2⟩ := List.mem_map.mp ha
    obtain ⟨pk, pw⟩ := pr
    have hp3 : pk = kk i j := by
      have := hp2
      simp only at this
      rw [this, e, hb']
    rw [hp3] at hp1
    exact valV_none hn pw hp1
  · rcases List.mem_append.mp hk with hk | hk
    · obtain ⟨i', j', a, xs, ek, ev, a0, ha, hx, hne⟩ := F.ent k v hk
      have haf : a ≠ f := ne_of ha F.at_ (by intro z; cases z)
      exact ⟨i', j', a, xs, ek, ev, a0, by rw [upd_ne haf]; exact e05 a _ ha, dpAll_tup tx (noLs_pairs _) (dpAll_ex e05 hx), hne.imp id .inl⟩
    · have e7 : (k, v) = (kk i j, V.ref p) := by simpa using hk
      obtain ⟨e8, e9⟩ := Prod.mk.inj e7
      refine ⟨i, j, p, [], e8, e9, fresh_back F.ex hp, by rw [upd_ne (Ne.symm hfp)]; exact p5, ?_, .inr (.inr ⟨rfl, rfl⟩)⟩
      rw [hg]
      exact .nil
  · have old : ∀ {k}, (k, V.ref p) ∉ kv := fun {k} m => by
      obtain ⟨i', j', a, xs, ek, ev, a0, ha, hx, hne⟩ := F.ent _ _ m
      have : p = a := by simpa using ev
      rw [← this, hp] at ha
      cases ha
    rcases List.mem_append.mp h1 with h1 | h1 <;> rcases List.mem_append.mp h2 with h2 | h2
    · exact F.inj k k' a h1 h2
    · have : (k', V.ref a) = (kk i j, V.ref p) := by simpa using h2
      have e9 : a = p := by simpa using (Prod.mk.inj this).2
      rw [e9] at h1
      exact absurd h1 old
    · have : (k, V.ref a) = (kk i j, V.ref p) := by simpa using h1
      have e9 : a = p := by simpa using (Prod.mk.inj this).2
      rw [e9] at h2
      exact absurd h2 old
    · have g1 : (k, V.ref a) = (kk i j, V.ref p) := by simpa using h1
      have g2 : (k', V.ref a) = (kk i j, V.ref p) := by simpa using h2
      rw [(Prod.mk.inj g1).1, (Prod.mk.inj g2).1]
  · obtain ⟨v, hv⟩ := F.tot x y hxy
    exact ⟨v, List.mem_append_left _ hv⟩
def seG (g : Nat → Nat → List Pair) (i j : Nat) (l : List Pair) : Nat → Nat → List Pair := fun x y => if x = i ∧ y = j then l else g x y
/-- d[i, j] = l, l a new list, the key there -/
theorem fo_rep {H0 H H1 : Hp} {f p : Addr} {v : V} {g : Nat → Nat → List Pair} {m : Nat} {S : Nat → Nat → Prop} {kv : List (List L2.Key × V)} {i j : Nat} {l : List Pair} {ys : List V} (F : FO K H0 H f g m S kv) (hv : (kk i j, v) ∈ kv) (e : Ex H H1) (p0 : H p = none) (p1 : H1 p = some (.lst ys)) (hd : DpAll K H1 ys (l.map pairD)) (hl : S i j) :
    FO K H0 (upd H1 f (.dT (putK kv (kk i j) (.ref p)))) f (seG g i j l) m S (putK kv (kk i j) (.ref p)) ∧ ∀ x y, (∃ a, (kk x y, V.ref a) ∈ kv) → ∃ a, (kk x y, V.ref a) ∈ putK kv (kk i j) (.ref p) := by
  have mem : ∀ k u, (k, u) ∈ putK kv (kk i j) (.ref p) → (k = kk i j ∧ u = .ref p) ∨ ((k, u) ∈ kv ∧ k ≠ kk i j) := fun k u h => by
    rw [putK_old _ hv] at h
    obtain ⟨q, h1, h2⟩ := List.mem_map.mp h
    by_cases c : q.1 = kk i j
    · rw [if_pos c] at h2
      obtain ⟨rfl, rfl⟩ := Prod.mk.inj h2
      exact .inl ⟨c, rfl⟩
    · rw [if_neg c] at h2
      subst h2
      exact .inr ⟨h1, c⟩
  have has : ∀ k u, (k, u) ∈ kv → k ≠ kk i j → (k, u) ∈ putK kv (kk i j) (.ref p) := fun k u h c => by
    rw [putK_old _ hv]
    exact List.mem_map.mpr ⟨_, h, by rw [if_neg c]⟩
  have hit : (kk i j, V.ref p) ∈ putK kv (kk i j) (.ref p) := by
    rw [putK_old _ hv]
    exact List.mem_map.mpr ⟨_, hv, by rw [if_pos rfl]⟩
  have f1 := e _ _ F.at_
  have hfp : f ≠ p := ne_of_none F.at_ p0
  have tx : TupEx K H1 (upd H1 f (.dT (putK kv (kk i j) (.ref p)))) := tupEx_upd f1 rfl
  refine ⟨⟨upd_same, F.f0, ex_upd (F.ex.trans e) F.f0, ?_, ?_, fun k u hk => ?_, fun k k' a h1 h2 => ?_, fun x y hxy => ?_⟩, fun x y ⟨a, ha⟩ => ?_⟩
  · rw [putK_old _ hv, List.length_map]
    exact F.len
  · rw [putK_old _ hv, List.map_map]
    have : ((fun x : List L2.Key × V => x.1) ∘ fun p_1 : List L2.Key × V => if p_1.1 = kk i j then (p_1.1, V.ref p) else p_1) = fun x => x.1 := by
      funext q
      show (if q.1 = kk i j then (q.1, V.ref p) else q).1 = q.1
      by_cases c : q.1 = kk i j
      · rw [if_pos c]
      · rw [if_neg c]
    rw [this]
    exact F.nd
  · rcases mem _ _ hk with ⟨rfl, rfl⟩ | ⟨hk, c⟩
    · refine ⟨i, j, p, ys, rfl, rfl, fresh_back F.ex p0, by rw [upd_ne (Ne.symm hfp)]; exact p1, ?_, .inr hl⟩
      have : seG g i j l i j = l := if_pos ⟨rfl, rfl⟩
      rw [this]
      exact dpAll_tup tx (noLs_pairs _) hd
    · obtain ⟨i', j', a, xs, ek, ev, a0, ha, hx, hne⟩ := F.ent k u hk
      have haf : a ≠ f := ne_of ha F.at_ (by intro z; cases z)
      have : seG g i j l i' j' = g i' j' := if_neg fun ⟨z1, z2⟩ => c (by rw [ek, z1, z2])
      refine ⟨i', j', a, xs, ek, ev, a0, by rw [upd_ne haf]; exact e a _ ha, ?_, by rw [this]; exact hne⟩
      rw [this]
      exact dpAll_tup tx (noLs_pairs _) (dpAll_ex e hx)
  · have old : ∀ {k}, (k, V.ref p) ∉ kv := fun {k} m => by
      obtain ⟨i', j', a, xs, ek, ev, a0, ha, hx, hne⟩ := F.ent _ _ m
      have : p = a := by simpa using ev
      rw [← this, p0] at ha
      cases ha
    rcases mem _ _ h1 with ⟨rfl, z1⟩ | ⟨h1, c1⟩ <;> rcases mem _ _ h2 with ⟨rfl, z2⟩ | ⟨h2, c2⟩
    · rfl
    · cases z1
      exact absurd h2 old
    · cases z2
      exact absurd h1 old
    · exact F.inj _ _ _ h1 h2
  · by_cases c : x = i ∧ y = j
    · rw [c.1, c.2]
      exact ⟨_, hit⟩
    · have : seG g i j l x y = g x y := if_neg c
      rw [this] at hxy
      obtain ⟨u, hu⟩ := F.tot x y hxy
      exact ⟨u, has _ _ hu fun z => c (kk_inj z)⟩
  · by_cases c : x = i ∧ y = j
    · rw [c.1, c.2]
      exact ⟨_, hit⟩
    · exact ⟨a, has _ _ ha fun z => c (kk_inj z)⟩
theorem FO.mono {H0 : Hp} {f : Addr} {g : Nat → Nat → List Pair} {m m' : Nat} {S S' : Nat → Nat → Prop} {kv : List (List L2.Key × V)} (F : FO K H0 H f g m S kv) (hm : m ≤ m') (h : ∀ x y, S x y → S' x y) : FO K H0 H f g m' S' kv :=
  ⟨F.at_, F.f0, F.ex, Nat.le_trans F.len hm, F.nd, fun k v hk => by
    obtain ⟨i', j', a, xs, ek, ev, a0, ha, hx, hne⟩ := F.ent k v hk
    exact ⟨i', j', a, xs, ek, ev, a0, ha, hx, hne.imp id (h _ _)⟩, F.inj, F.tot⟩
theorem FO.more {H0 H' : Hp} {f : Addr} {g : Nat → Nat → List Pair} {m : Nat} {S : Nat → Nat → Prop} {kv : List (List L2.Key × V)} (F : FO K H0 H f g m S kv) (e : Ex H H') : FO K H0 H' f g m S kv :=
  ⟨e _ _ F.at_, F.f0, F.ex.trans e, F.len, F.nd, fun k v hk => by
    obtain ⟨i', j', a, xs, ek, ev, a0, ha, hx, hne⟩ := F.ent k v hk
    exact ⟨i', j', a, xs, ek, ev, a0, e _ _ ha, dpAll_ex e hx, hne⟩, F.inj, F.tot⟩
theorem FO.val {H0 : Hp} {f : Addr} {g : Nat → Nat → List Pair} {m : Nat} {S : Nat → Nat → Prop} {kv : List (List L2.Key × V)} (F : FO K H0 H f g m S kv) {k : List L2.Key} {v : V} (h : (k, v) ∈ kv) : valV kv k = some v := by
  cases hv : valV kv k with
  | none => exact absurd h (valV_none hv v)
  | some u => rw [nodup_val F.nd (valV_mem hv) h]
/-- d[i, j] -/
theorem ev_dgetT2 {f : Addr} {kv : List (List L2.Key × V)} {i j : Nat} {v : V} (hd : Ev td σ H (.ref f)) (hi : Ev ti σ H (.int (i : Int))) (hj : Ev tj σ H (.int (j : Int))) (ha : H f = some (.dT kv)) (hv : valV kv (kk i j) = some v) : Ev (tDGet td (tTup (tCons ti (tCons tj tNil)))) σ H v := fun H1 e1 Q q =>
  hd H1 e1 _ fun H2 e2 => hi H2 (e1.trans e2) _ fun H3 e3 => hj H3 ((e1.trans e2).trans e3) _ fun H4 e4 => ⟨by show 2 ≤ sizeLine; decide, fun b hb => by
    have e5 : Ex H4 (upd H4 b (.tup [.int (i : Int), .int (j : Int)])) := Evl.Ex.new hb
    refine ⟨f, v, rfl, ?_, q _ (((e2.trans e3).trans e4).trans e5)⟩
    rw [← hv]
    exact DGet.t (k := kk i j) (e5 _ _ (e4 _ _ (e3 _ _ (e2 _ _ (e1 _ _ ha))))) upd_same⟩
theorem ev_dgetT {f b : Addr} {kv : List (List L2.Key × V)} {k : List L2.Key} {v : V} (hd : Ev td σ H (.ref f)) (hk : Ev ty σ H (.ref b)) (hb : H b = some (.tup (k.map kV))) (ha : H f = some (.dT kv)) (hv : valV kv k = some v) : Ev (tDGet td ty) σ H v := fun H1 e1 Q q =>
  hd H1 e1 _ fun H2 e2 => hk H2 (e1.trans e2) _ fun H3 e3 => by
    have e := (e1.trans e2).trans e3
    refine ⟨f, v, rfl, ?_, q _ (e2.trans e3)⟩
    rw [← hv]
    exact DGet.t (e _ _ ha) (e _ _ hb)
theorem q_forNP {P : VP} {tl : TE} {g : TG} {tbd : TS} (h : EvP tl σ H P) (k : ∀ v H1, Ex H H1 → P v H1 → ∃ a xs, v = .ref a ∧ SqL K H1 a xs ∧ ∃ Pv : Nat → L2.St → Hp → Prop, Pv 0 σ H1 ∧ (∀ i σ' H', Pv i σ' H' → SqL K H' a xs) ∧
      (∀ i x σ' H', xs[i]? = some x → Pv i σ' H' → g x σ' H' fun σ2 H2 => tbd { nx := Pv (i + 1), rt := D.rt, ct := Pv (i + 1), bk := tz D } σ2 H2) ∧ (∀ σ' H', Pv xs.length σ' H' → tz D σ' H')) : tSeq (tFor (iList K tl) g tbd) tz D σ H :=
  h H (Evl.Ex.refl H) _ fun v H1 e hv => by
    obtain ⟨a, xs, rfl, hs, Pv, k1, k2, k3, k4⟩ := k v H1 e hv
    exact ⟨a, rfl, ⟨xs, hs⟩, for_list (D := { D with nx := tz D }) Pv k1 (fun i σ' H' _ p => k2 i σ' H' p) k3 k4⟩
theorem rawL_lt {ks : List Str} {ts : List Tie} (hr : Raw ks ts) {i j : Nat} (h : rawL ts i j ≠ []) : i < ks.length ∧ j < ks.length := by
  obtain ⟨p, hp⟩ := List.exists_mem_of_ne_nil _ h
  obtain ⟨t, ht, h2⟩ := List.mem_filterMap.mp hp
  have q := hr.t t ht
  unfold tieAt at h2
  split at h2
  · next c => exact ⟨c.1 ▸ q.a, c.2 ▸ q.b⟩
  · split at h2
    · next c => exact ⟨c.1 ▸ q.b, c.2 ▸ q.a⟩
    · cases h2
theorem isKeys_ex {H' : Hp} {kv : List (List L2.Key × V)} {bs : List Addr} (e : Ex H H') (h : IsKeys H kv bs) : IsKeys H' kv bs := by
  unfold IsKeys at h ⊢
  induction h with
  | nil => exact .nil
  | cons h t ih => exact .cons (e _ _ h) ih
theorem isKeys_len {kv : List (List L2.Key × V)} {bs : List Addr} (h : IsKeys H kv bs) : kv.length = bs.length := by
  unfold IsKeys at h
  induction h with
  | nil => rfl
  | cons h t ih => rw [List.length_cons, List.length_cons, ih]
theorem isKeys_get {kv : List (List L2.Key × V)} {bs : List Addr} (h : IsKeys H kv bs) : ∀ {m : Nat} {b : Addr}, bs[m]? = some b → ∃ p, kv[m]? = some p ∧ H b = some (.tup (p.1.map kV)) := by
  unfold IsKeys at h
  induction h with
  | nil => intro m b e; simp at e
  | cons h t ih =>
    intro m b e
    cases m with
    | zero =>
      simp at e
      subst e
      exact ⟨_, rfl, h⟩
    | succ m =>
      obtain ⟨p, q1, q2⟩ := ih (m := m) (b := b) (by simpa using e)
      exact ⟨p, by simpa using q1, q2⟩
structure TabAt (K : PySem.W.Frag) (H : Hp) (d : Addr) (n : Nat) (f : Nat → Nat → List Pair) : Prop where
  out : ∃ kv, H d = some (.dT kv) ∧ ∀ i j, i < n → j < n → ∃ a xs, valV kv (kk i j) = some (.ref a) ∧ H a = some (.lst xs) ∧ DpAll K H xs ((f i j).map pairD)
theorem TabAt.more {H' : Hp} {d : Addr} {n : Nat} {f : Nat → Nat → List Pair} (t : TabAt K H d n f) (e : Ex H H') : TabAt K H' d n f := by
  obtain ⟨kv, h1, h2⟩ := t.out
  refine ⟨kv, e _ _ h1, fun i j hi hj => ?_⟩
  obtain ⟨a, xs, h3, h4, h5⟩ := h2 i j hi hj
  exact ⟨a, xs, h3, e _ _ h4, dpAll_ex e h5⟩
theorem sortP_idem (l : List Pair) : sortP (sortP l) = sortP l := sortP_of_perm (sortBy_perm _ _)
def spTable (K : PySem.W.Frag) : Sp := spP (fun (a : List Str × List Tie) vs H => ∃ v, vs = [v] ∧ Dp K H v (madeD a.1 a.2) ∧ Raw3 a.1 a.2) (fun a H v H' => ∃ d, v = .ref d ∧ TabAt K H' d a.1.length fun i j => sortP (rawL a.2 i j))
theorem cal_law_table (T : TX K mg) : Cal P w K mg base 1 "_law_table" (spTable K) [] := by
  refine T.cal d_law_table (N := ["_law_made", "_law_table_here", "_law_k", "_law_j", "_law_one", "_law_other", "_law_kind", "_law_oneway", "_law_ends"]) (ps := ["_law_made"]) (List.mem_of_getElem? (i := 56) rfl) rfl (by decide +kernel) sc_law_table (fun _ _ _ _ _ _ us hl => match us, hl with | [_], _ => rfl) (fun vs H Q E h => ?_) (fun cdv A outer s H vs Q E f hr h => ?_)
  · obtain ⟨a, ⟨v, rfl, _⟩, _⟩ := h
    rfl
  · obtain ⟨⟨ks, ts⟩, ⟨v, rfl, hm, hraw⟩, k⟩ := h
    dsimp only at hm hraw k ⊢
    have sc := sc_law_table
    refine ⟨_, pss_cons (ps_set (i := 1) sc.nd rfl (by first | exact Or.inl rfl | exact Or.inr rfl) (pe_dnewT))
    (pss_cons (ps_for PassesOwn.never rfl (pi_range1 rfl (T.free "range") (pa_cons (pe_callB call_len_seq (by rfl) (T.free "len") (by decide +kernel) (pa_cons (pe_ix ix_tup (pv 0) (pe_int) (fun _ _ => rfl)) pa_nil)) pa_nil)) (pg_name (i := 2) sc.nd rfl (by first | exact Or.inl rfl | exact Or.inr rfl))
    (pss_one (ps_for PassesOwn.never rfl (pi_range1 rfl (T.free "range") (pa_cons (pe_callB call_len_seq (by rfl) (T.free "len") (by decide +kernel) (pa_cons (pe_ix ix_tup (pv 0) (pe_int) (fun _ _ => rfl)) pa_nil)) pa_nil)) (pg_name (i := 3) sc.nd rfl (by first | exact Or.inl rfl | exact Or.inr rfl))
      (pss_one (ps_dput (hu_of hr) (pv 1) (pe_tup (pa_cons (pv 2) (pa_cons (pv 3) pa_nil))) (pe_lst (pa_nil)) rfl)))))
    (pss_cons (ps_for PassesOwn.never rfl (pi_list (pe_ix ix_tup (pv 0) (pe_int) (fun _ _ => rfl))) (pg_tup rfl (pgs_cons (pg_name (i := 4) sc.nd rfl (by first | exact Or.inl rfl | exact Or.inr rfl)) (pgs_cons (pg_name (i := 5) sc.nd rfl (by first | exact Or.inl rfl | exact Or.inr rfl)) (pgs_cons (pg_name (i := 6) sc.nd rfl (by first | exact Or.inl rfl | exact Or.inr rfl)) (pgs_cons (pg_name (i := 7) sc.nd rfl (by first | exact Or.inl rfl | exact Or.inr rfl)) (pgs_nil))))))
    (pss_cons (ps_expr (pe_bm PySem.F.plainAttrs_list PySem.F.slot_list_append PySem.F.type_list_append mt_append (pe_dget (hu_of hr) (pv 1) (pe_tup (pa_cons (pv 4) (pa_cons (pv 5) pa_nil))) (fun _ _ => rfl)) (pa_cons (pe_tup (pa_cons (pv 6) (pa_cons (pe_callTy call_int1 (by rfl) (T.free "int") (by decide +kernel) (pa_cons (pv 7) pa_nil)) pa_nil))) pa_nil)))
      (pss_one (ps_expr (pe_bm PySem.F.plainAttrs_list PySem.F.slot_list_append PySem.F.type_list_append mt_append (pe_dget (hu_of hr) (pv 1) (pe_tup (pa_cons (pv 5) (pa_cons (pv 4) pa_nil))) (fun _ _ => rfl)) (pa_cons (pe_tup (pa_cons (pv 6) (pa_cons (pe_op op_mul (pe_int) (pe_callTy call_int1 (by rfl) (T.free "int") (by decide +kernel) (pa_cons (pv 7) pa_nil))) pa_nil))) pa_nil))))))
    (pss_cons (ps_for PassesOwn.never rfl (pi_list (pe_callTy (call_list_dT rfl) (by rfl) (T.free "list") (by decide +kernel) (pa_cons (pv 1) pa_nil))) (pg_name (i := 8) sc.nd rfl (by first | exact Or.inl rfl | exact Or.inr rfl))
    (pss_one (ps_dput (hu_of hr) (pv 1) (pv 8) (pe_callB (cr_sortD hr.units) (by rfl) (T.free "sorted") (by decide +kernel) (pa_cons (pe_dget (hu_of hr) (pv 1) (pv 8) (fun _ _ => rfl)) pa_nil)) rfl)))
    (pss_one (ps_ret (pv 1)))))), ?_⟩
    have n3 := hraw.2
    have hd0 := hm
    obtain ⟨mp, va, ta, xs, rfl, st, sl, dl⟩ : ∃ mp va ta xs, v = .ref mp ∧ SqT K H mp [va, .ref ta] ∧ SqL K H ta xs ∧ DpAll K H xs (ts.map tieD) := by
      cases hm with
      | tup h1 h2 =>
        cases h2 with
        | cons h2 h3 =>
          cases h3 with
          | cons h3 h4 =>
            cases h4
            cases h3 with
            | lst h5 h6 => exact ⟨_, _, _, _, rfl, h1, h5, h6⟩
    refine q_set fun fd hfd => ?_
    have e0 : Ex H (upd H fd (.dT [])) := Evl.Ex.new hfd
    have f1 : (upd H fd (.dT [])) fd = some (.dT []) := upd_same
    show tSeq _ _ _ _ (upd H fd (.dT []))
    generalize upd H fd (.dT []) = H1 at e0 f1 ⊢
    have len : ∀ {σ' : L2.St} {H' : Hp}, Ex H H' → σ'[0]? = some (some (.ref mp)) → EvA (tCons (tCB (Evl.rLenS K) (tCons (tOp (rIxT K) (tVar 0) (tC (.int 0))) tNil)) tNil) σ' H' [.int (ks.length : Int)] := fun {σ' H'} e h => by
      have q := ev_lenL (K := K) (σ := σ') (H := H') (ep_ixT (n := 0) (d := .list (ks.map .str)) (ep_varD (d := madeD ks ts) h (dp_ex e hd0)) ev_c rfl)
      rw [List.length_map] at q
      exact ea_cons q ea_nil
    refine q_forR (n := ks.length) (len e0 rfl) (by omega) (fun i σ' H' => (∃ o2 o3, σ' = [some (.ref mp), some (.ref fd), o2, o3, none, none, none, none, none]) ∧ ∃ kv, FO K H H' fd (fun _ _ => []) (3 * i) (fun x y => x < i ∧ y < ks.length) kv ∧ ∀ x y, x < i → y < ks.length → ∃ a, (kk x y, V.ref a) ∈ kv)
      (fun H2 e2 => ⟨⟨_, _, rfl⟩, [], ⟨e2 _ _ f1, hfd, e0.trans e2, Nat.zero_le _, List.nodup_nil, fun _ _ h => by simp at h, fun _ _ _ h => by simp at h, fun i j h => by simp at h⟩, fun x y hx => by omega⟩) (fun i σ' H' hi p => ?_) (fun σ' H' p => ?_)
    · obtain ⟨⟨o2, o3, rfl⟩, kv, F, al⟩ := p
      refine s_forR (n := ks.length) (len F.ex rfl) (by omega) (fun j σ' H' => (∃ o3, σ' = [some (.ref mp), some (.ref fd), some (.int (i : Int)), o3, none, none, none, none, none]) ∧ ∃ kv, FO K H H' fd (fun _ _ => []) (3 * i + j) (fun x y => (x < i ∧ y < ks.length) ∨ (x = i ∧ y < j)) kv ∧ ∀ x y, (x < i ∧ y < ks.length) ∨ (x = i ∧ y < j) → ∃ a, (kk x y, V.ref a) ∈ kv)
        (fun H2 e2 => ⟨⟨_, rfl⟩, kv, (F.more e2).mono (by omega) (fun x y h => .inl h), fun x y h => by
          rcases h with h | h
          · exact al x y h.1 h.2
          · omega⟩) (fun j σ' H' hj p => ?_) (fun σ' H' p => ?_)
      · obtain ⟨⟨o3, rfl⟩, kv, F, al⟩ := p
        refine fo_put F (ev_var rfl) (ev_var rfl) (ev_var rfl) (by omega) (by omega) rfl fun a H2 kv2 F2 sub mem => ⟨⟨_, rfl⟩, kv2, F2.mono (by omega) (fun x y h => by omega), fun x y h => ?_⟩
        by_cases c : x = i ∧ y = j
        · obtain ⟨rfl, rfl⟩ := c
          exact ⟨_, mem⟩
        · obtain ⟨b, hb⟩ := al x y (by omega)
          exact ⟨b, sub _ hb⟩
      · obtain ⟨⟨o3, rfl⟩, kv, F, al⟩ := p
        exact ⟨⟨_, _, rfl⟩, kv, F.mono (by omega) (fun x y h => by omega), fun x y hx hy => al x y (by omega)⟩
    · obtain ⟨⟨o2, o3, rfl⟩, kv, F, al⟩ := p
      -- the ties
      refine q_forDX (a := ta) (xs := xs) (ds := ts.map tieD) (ev_op (ev_var rfl) ev_c (Evl.rv_ixT (ex_t F.ex st) (atI_nat (j := 1) rfl))) (ex_l F.ex sl) (dpAll_ex F.ex dl)
        (fun m σ' H' => (∃ o4 o5 o6 o7, σ' = [some (.ref mp), some (.ref fd), o2, o3, o4, o5, o6, o7, none]) ∧ FO K H H' fd (rawL (ts.take m)) 9 (fun x y => x < ks.length ∧ y < ks.length) kv)
        (fun H2 e2 => ⟨⟨_, _, _, _, rfl⟩, (F.more e2).mono (by omega) fun x y h => h⟩) (fun m σ' H' p => ⟨ex_l p.2.ex sl, dpAll_ex p.2.ex dl⟩) (fun m d x σ' H' hd hx p => ?_) (fun σ' H' p => ?_)
      · obtain ⟨⟨o4, o5, o6, o7, rfl⟩, F⟩ := p
        rw [List.getElem?_map] at hd
        obtain ⟨t, ht, rfl⟩ := Option.map_eq_some_iff.mp hd
        have tok := hraw.1.t t (List.mem_of_getElem? ht)
        have hab := tok.ne
        have htk : ts.take (m + 1) = ts.take m ++ [t] := by
          rw [List.take_add_one, ht]
          rfl
        have hrl : ∀ i j, (rawL (ts.take m) i j).length ≤ 12 := fun i j => by
          have h1 : (rawL (ts.take m) i j).length ≤ (ts.take m).length := List.length_filterMap_le _ _
          have h2 : (ts.take m).length ≤ ts.length := by rw [List.length_take]; omega
          have h3 := hraw.1.m
          omega
        obtain ⟨a1, m1⟩ := al t.a t.b tok.a tok.b
        obtain ⟨a2, m2⟩ := al t.b t.a tok.b tok.a
        have hk12 : kk t.a t.b ≠ kk t.b t.a := fun e => hab (kk_inj e).1
        have ha12 : a1 ≠ a2 := fun e => by
          subst e
          exact hk12 (F.inj _ _ _ m1 m2)
        refine g_tup4 hx fun v1 v2 v3 v4 d1 d2 d3 d4 => ?_
        cases d1
        cases d2
        cases d3
        cases d4
        obtain ⟨xs1, h1, l1, u1⟩ := fo_app (p := (t.k, if t.o then 1 else 0)) F m1
        have lx1 : xs1.length ≤ 12 := by
          rw [l1]
          exact hrl _ _
        refine q_appP (P := DP K (pairD (t.k, if t.o then 1 else 0))) h1 (ev_dgetT2 (ev_var rfl) (ev_var rfl) (ev_var rfl) F.at_ (F.val m1)) (ep_tupD (ds := [.int t.k, .int (if t.o then 1 else 0)]) (ea_consD (ep_int (ev_var rfl)) (ea_consD (ep_int (ev_int1 (ev_var rfl))) ea_nilD))) (by omega) fun v H2 e2 hv => ?_
        have F2 := u1 H2 v e2 hv
        obtain ⟨xs2, h2, l2, u2⟩ := fo_app (p := (t.k, if t.o then 2 else 0)) F2 m2
        have lx2 : xs2.length ≤ 12 := by
          rw [l2]
          unfold upG
          rw [if_neg (fun z => hab z.2)]
          exact hrl _ _
        have e21 : (2 : Int) * (if t.o = true then 1 else 0) = if t.o = true then 2 else 0 := by cases t.o <;> rfl
        refine s_appP (P := DP K (pairD (t.k, if t.o then 2 else 0))) h2 (ev_dgetT2 (ev_var rfl) (ev_var rfl) (ev_var rfl) F2.at_ (F2.val m2)) (ep_tupD (ds := [.int t.k, .int (if t.o then 2 else 0)]) (ea_consD (ep_int (ev_var rfl)) (ea_consD (ep_int (by rw [← e21]; exact ev_op ev_c (ev_int1 (ev_var rfl)) (rv_I (.inl (by cases t.o <;> decide))))) ea_nilD))) (by omega) fun v' H3 e3 hv' => ?_
        have F3 := u2 H3 v' e3 hv'
        rw [← rawL_snoc _ _ hab, ← htk] at F3
        exact ⟨⟨_, _, _, _, rfl⟩, F3⟩
      · obtain ⟨⟨o4, o5, o6, o7, rfl⟩, F⟩ := p
        rw [List.take_of_length_le (by rw [List.length_map]; omega)] at F
        -- sorted
        refine q_forNP (P := fun v H2 => ∃ p bs, v = .ref p ∧ H' p = none ∧ H2 p = some (.lst (bs.map V.ref)) ∧ IsKeys H2 kv bs) (fun H2 e2 Q q => ev_var rfl H2 (Evl.Ex.refl _) _ fun H3 e3 => ?_) fun v H2 e2 hv => ?_
        · refine ⟨fd, kv, rfl, .inl (e3 _ _ (e2 _ _ F.at_)), fun p bs hp hb => q _ _ (e3.trans (Evl.Ex.new hp)) ⟨p, bs, rfl, fresh_back (e2.trans e3) hp, upd_same, isKeys_ex (Evl.Ex.new hp) hb⟩⟩
        · obtain ⟨p, bs, rfl, p0, p1, hb⟩ := hv
          refine ⟨p, _, rfl, sq_of p1, fun m σ' H3 => (∃ o8, σ' = [some (.ref mp), some (.ref fd), o2, o3, o4, o5, o6, o7, o8]) ∧ But fd H2 H3 ∧ ∃ kvm gm, FO K H H3 fd gm 9 (fun x y => x < ks.length ∧ y < ks.length) kvm ∧ (∀ i j, gm i j = rawL ts i j ∨ gm i j = sortP (rawL ts i j)) ∧ (∀ q i j v, q < m → kv[q]? = some (kk i j, v) → gm i j = sortP (rawL ts i j)) ∧ ∀ x y, x < ks.length → y < ks.length → ∃ a, (kk x y, V.ref a) ∈ kvm, ?_, ?_, ?_, ?_⟩
          · exact ⟨⟨_, rfl⟩, But.refl _ _, kv, rawL ts, F.more e2, fun _ _ => .inl rfl, fun q i j v hq => by omega, al⟩
          · intro m σ' H3 q
            have : p ≠ fd := fun z => by rw [z, F.at_] at p0; cases p0
            exact sqL_but' q.2.1 this (sq_of p1)
          · intro m x σ' H3 hx q
            obtain ⟨⟨o8, rfl⟩, b3, kvm, gm, Fm, c1, c2, c3⟩ := q
            rw [List.getElem?_map] at hx
            obtain ⟨b, hbm, rfl⟩ := Option.map_eq_some_iff.mp hx
            obtain ⟨⟨key, v0⟩, hkv, hkb⟩ := isKeys_get hb hbm
            obtain ⟨i, j, a0, ys0, rfl, _, _, _, _, hne⟩ := F.ent _ _ (List.mem_of_getElem? hkv)
            have hij : i < ks.length ∧ j < ks.length := hne.elim (rawL_lt hraw.1) id
            obtain ⟨a, ha⟩ := c3 i j hij.1 hij.2
            obtain ⟨i', j', a', ys, ek, ev, _, h4, h5, _⟩ := Fm.ent _ _ ha
            obtain ⟨rfl, rfl⟩ := kk_inj ek
            cases ev
            have bfd : b ≠ fd := fun z => by rw [z, e2 _ _ F.at_] at hkb; cases hkb
            have hkb3 := b3 _ _ hkb bfd
            have hrl : (gm i j).length ≤ 12 := by
              have h1 : (rawL ts i j).length ≤ ts.length := List.length_filterMap_le _ _
              have h3 := hraw.1.m
              rcases c1 i j with h | h
              · rw [h]; omega
              · have h6 : (sortP (rawL ts i j)).length = (rawL ts i j).length := (sortBy_perm pairD (rawL ts i j)).length_eq
                rw [h, h6]; omega
            have hgs : sortP (gm i j) = sortP (rawL ts i j) := by
              rcases c1 i j with h | h
              · rw [h]
              · rw [h, sortP_idem]
            have evd : Ev (tDGet (tVar 1) (tVar 8)) [some (.ref mp), some (.ref fd), o2, o3, o4, o5, o6, o7, some (.ref b)] H3 (.ref a) := ev_dgetT (ev_var rfl) (ev_var rfl) hkb3 Fm.at_ (Fm.val ha)
            have es := ep_sortM (K := K) (ep_evD evd (.lst (sq_of h4) h5)) (sortOk_pairs _ (by omega))
            refine es H3 (Evl.Ex.refl _) _ fun v H4 e4 hv => ev_var rfl H4 e4 _ fun H5 e5 => ev_var rfl H5 (e4.trans e5) _ fun H6 e6 => ?_
            obtain ⟨pp, zs, rfl, q0, q1, q2⟩ := hv
            have e46 := e5.trans e6
            have e36 := e4.trans e46
            have hlen := Fm.len
            obtain ⟨G, hG⟩ := fo_rep (l := sortP (gm i j)) Fm ha e36 q0 (e46 _ _ q1) (dpAll_ex e46 q2) hij
            refine ⟨fd, _, rfl, DPut.t (e36 _ _ Fm.at_) (e36 _ _ hkb3) (sz_lt (by omega)), ⟨_, rfl⟩, (b3.ex e36).trans But.upd, _, _, G, fun x y => ?_, fun q x y v hq hqv => ?_, fun x y hx hy => hG x y (c3 x y hx hy)⟩
            · unfold seG
              by_cases c : x = i ∧ y = j
              · rw [if_pos c, c.1, c.2, hgs]
                exact .inr rfl
              · rw [if_neg c]
                exact c1 x y
            · unfold seG
              by_cases c : x = i ∧ y = j
              · rw [if_pos c, c.1, c.2, hgs]
              · rw [if_neg c]
                refine c2 q x y v ?_ hqv
                rcases Nat.lt_succ_iff_lt_or_eq.mp hq with h | h
                · exact h
                · subst h
                  rw [hkv] at hqv
                  cases hqv
                  exact absurd ⟨rfl, rfl⟩ c
          · intro σ' H3 q
            obtain ⟨⟨o8, rfl⟩, b3, kvm, gm, Fm, c1, c2, c3⟩ := q
            have hbl := isKeys_len hb
            rw [List.length_map, ← hbl] at c2
            refine s_retE (ev_var rfl) fun H4 e4 => k _ _ (Fm.ex.trans e4) ⟨fd, rfl, kvm, e4 _ _ Fm.at_, fun i j hi hj => ?_⟩
            obtain ⟨a, ha⟩ := c3 i j hi hj
            obtain ⟨i', j', a', ys, ek, ev, _, h4, h5, _⟩ := Fm.ent _ _ ha
            obtain ⟨rfl, rfl⟩ := kk_inj ek
            cases ev
            refine ⟨a, ys, Fm.val ha, e4 _ _ h4, ?_⟩
            obtain ⟨a0, ha0⟩ := al i j hi hj
            obtain ⟨q, hq⟩ := List.getElem?_of_mem ha0
            have := c2 q i j _ (List.getElem?_eq_some_iff.mp hq).1 hq
            rw [← this]
            exact dpAll_ex e4 h5
end
end L2.Tw
set_option Elab.async false
set_option linter.all false
set_option maxRecDepth 100000
set_option maxHeartbeats 4000000
set_option autoImplicit false
namespace L2.Tw
open PySem PySem.Spec PyProof.Rows L2
open C8 (Cal Met Mak pe_c pe_mk pe_mt pe_mt0 pe_gc InsC)
open Evl (Ex Ev EvT EvA fresh_back ex_l ex_t ex_rd sq_of st_of sz_of sz_lt ev_var ev_c ev_op rv_I0 rv_I rv_eq rv_ne et_test et_or et_and et_not et_B s_if ea_nil ea_cons q_asg q_when)
/-! ### sorted: the items are told by any word -/
def rSortR (K : PySem.W.Frag) : List V → Hp → VK → Prop := fun vs H Q => ∃ (a : Addr) (xs : List V) (ds : List PyData), vs = [.ref a] ∧ SqL K H a xs ∧ DpAll K H xs ds ∧ SortOk ds ∧
  ∀ (p : Addr) (ys : List V), H p = none → (∀ R : V → PyData → Prop, Paired R xs ds → Paired R ys (sortD ds)) → Q (.ref p) (upd H p (.lst ys))
theorem each_valsZ {K : PySem.W.Frag} {H : Hp} : ∀ {xs : List V} {us : List Value} {ds : List PyData}, Vals xs us → DpAll K H xs ds → PySem.W.EachIs (fun (u : Value) (d : PyData) => ∃ x, (x, d) ∈ xs.zip ds ∧ RelV x u ∧ Dp K H x d) us ds
  | [], _, _, r, h => by
    cases r
    cases h
    exact .nil
  | x :: xs, _, _, r, h => by
    cases r with
    | cons r1 r2 =>
      cases h with
      | cons h1 h2 => exact .cons ⟨x, List.mem_cons_self, r1, h1⟩ ((each_valsZ r2 h2).mono fun u d ⟨y, hy, q⟩ => ⟨y, List.mem_cons_of_mem _ hy, q⟩)
theorem vals_eachZ {K : PySem.W.Frag} {H : Hp} {all : List (V × PyData)} : ∀ {us : List Value} {ds : List PyData}, PySem.W.EachIs (fun (u : Value) (d : PyData) => ∃ x, (x, d) ∈ all ∧ RelV x u ∧ Dp K H x d) us ds → ∃ ys, Vals ys us ∧ Paired (fun y d => (y, d) ∈ all) ys ds
  | _, _, .nil => ⟨[], .nil, .nil⟩
  | _, _, .cons ⟨x, hx, r, h⟩ t => by
    obtain ⟨ys, h1, h2⟩ := vals_eachZ t
    exact ⟨x :: ys, .cons r h1, .cons hx h2⟩
theorem paired_zip {α β : Type} {R : α → β → Prop} : ∀ {l : List α} {m : List β}, Paired R l m → ∀ a b, (a, b) ∈ l.zip m → R a b
  | _, _, .nil, a, b, h => by simp at h
  | _, _, .cons r t, a, b, h => by
    rw [List.zip_cons_cons] at h
    rcases List.mem_cons.mp h with e | h
    · cases e
      exact r
    · exact paired_zip t a b h
theorem dpAll_paired {K : PySem.W.Frag} {H : Hp} : ∀ {vs : List V} {ds : List PyData}, DpAll K H vs ds → Paired (Dp K H) vs ds
  | _, _, .nil => .nil
  | _, _, .cons h t => .cons h (dpAll_paired t)
theorem paired_dpAll {K : PySem.W.Frag} {H : Hp} : ∀ {vs : List V} {ds : List PyData}, Paired (Dp K H) vs ds → DpAll K H vs ds
  | _, _, .nil => .nil
  | _, _, .cons h t => .cons h (paired_dpAll t)
theorem cr_sortR {X : Cx} (hu : X.A.units + 64 < cLine) : CallR X (.builtin "sorted") (rSortR X.K) := by
  intro pins s σ H vs us Q I r h
  obtain ⟨a, xs, ds, rfl, hs, hd, ⟨hal, hk, hdp, hL⟩, q⟩ := h
  obtain ⟨its, rv, hl, _⟩ := I.list hs
  rw [Vals.ref1 r]
  have e := each_valsZ rv hd
  have er : PySem.W.EachIs (fun v (d : PyData) => ∃ as, Reads s.heap v d as) its ds := e.mono fun u d ⟨x, _, r1, h1⟩ => Dp.reads I d x u h1 r1
  have hL' : ds.length ≤ sizeLine := Nat.le_trans hL (by decide)
  refine PySem.W.sorted_data (enc := fun d => d) hl.isList e er (by rw [List.map_id']; exact hal) (by rw [List.map_id']; exact hk) hL' (fun d hm => by have := hdp d hm; omega) fun out ho eo => ?_
  obtain ⟨ys, h1, h2⟩ := vals_eachZ eo
  obtain ⟨ep, he'⟩ := PyProof.Rows.sortedAll_at s.heap its out.toArray
  have hlen : ys.length ≤ sizeLine := by rw [h1.length, ho]; exact hL'
  exact ⟨.ref _, upd H (s.heap.objs.size + 1) (.lst ys), I.laid (t' := s.toks) (fun _ _ => PyProof.Rows.sortedAll_old) (Nat.le_succ _) ⟨hlen, out, ep, h1, he'⟩, rfl, q _ ys (I.hok.fresh (Nat.le_succ _)) fun R hR => paired_mono h2 fun y d hm => paired_zip hR y d hm⟩
/-! ### the heap without one object -/
def cut1 (p : Addr) (H : Hp) : Hp := fun a => if a = p then none else H a
theorem cut1_ex {p : Addr} {H : Hp} : Ex (cut1 p H) H := fun a o h => by
  unfold cut1 at h
  split at h
  · cases h
  · exact h
theorem ex_cut1 {p : Addr} {H0 H : Hp} (e : Ex H0 H) (h : H0 p = none) : Ex H0 (cut1 p H) := fun a o ha => by
  unfold cut1
  rw [if_neg fun z => by rw [z, h] at ha; cases ha]
  exact e a o ha
theorem cut1_mono {p : Addr} {H H' : Hp} (e : Ex H H') : Ex (cut1 p H) (cut1 p H') := fun a o h => by
  unfold cut1 at h ⊢
  split at h
  · cases h
  · next c => rw [if_neg c]; exact e a o h
theorem cut1_upd {p : Addr} {H : Hp} {o : HO} : cut1 p (upd H p o) = cut1 p H := by
  funext a
  unfold cut1
  by_cases c : a = p
  · rw [if_pos c, if_pos c]
  · rw [if_neg c, if_neg c, upd_ne c]
theorem cut1_at {p a : Addr} {H : Hp} {o : HO} (h : H a = some o) (n : a ≠ p) : cut1 p H a = some o := by
  unfold cut1
  rw [if_neg n]
  exact h
section
variable {P : Program} {w : World} {K : PySem.W.Frag} {mg : Str → Option Value} {base : Heap}
variable {σ : L2.St} {H : Hp} {ta tb te td ti tj ty tv : TE} {tA tr : TA} {D : Ends} {tz : TS} {Q : VK} {r : R2}
theorem w_cb {r : List V → Hp → VK → Prop} (h : tA σ H (fun vs H1 => r vs H1 Q)) : tCB r tA σ H Q := h
/-! ### _law_colours -/
def spColours (K : PySem.W.Frag) : Sp := spP (fun (a : List Str × List Tie) vs H => ∃ v d, vs = [v, .ref d] ∧ Dp K H v (madeD a.1 a.2) ∧ TabAt K H d a.1.length (bt (rawW a.1 a.2)) ∧ Raw3 a.1 a.2) (fun a H v H' => NewL K H (colsL (rawW a.1 a.2)) v H')
theorem cal_law_colours (T : TX K mg) : Cal P w K mg base 1 "_law_colours" (spColours K) [] := by
  refine T.cal d_law_colours (N := ["_law_made", "_law_table_here", "_law_size", "_law_j", "_law_k"]) (ps := ["_law_made", "_law_table_here"]) (List.mem_of_getElem? (i := 57) rfl) rfl (by decide +kernel) sc_law_colours (fun _ _ _ _ _ _ us hl => match us, hl with | [_, _], _ => rfl) (fun vs H Q E h => ?_) (fun cdv A outer s H vs Q E f hr h => ?_)
  · obtain ⟨a, ⟨v, d, rfl, _⟩, _⟩ := h
    rfl
  · obtain ⟨⟨ks, ts⟩, ⟨v, d, rfl, hm, ht, hraw⟩, k⟩ := h
    dsimp only at hm ht hraw k ⊢
    have sc := sc_law_colours
    refine ⟨_, pss_cons (ps_set (i := 2) sc.nd rfl (by first | exact Or.inl rfl | exact Or.inr rfl) (pe_callB call_len_seq (by rfl) (T.free "len") (by decide +kernel) (pa_cons (pe_ix ix_tup (pv 0) (pe_int) (fun _ _ => rfl)) pa_nil)))
    (pss_one (ps_ret (pe_lc (own := [("_law_k", 4)]) (g := gName 4) (tt := tYes) (te := tTup (tCons (tOp (rIxL K) (tOp (rIxT K) (_) (_)) (_)) (tCons (tCB (rSortR K) (_)) (tNil)))) rfl sc.nd (pi_range1 rfl (T.free "range") (pa_cons (pv 2) pa_nil)) (blkOk_by (own := [("_law_k", 4)]) rfl) (fun _ _ _ _ _ => pg_name (i := 4) sc.nd rfl (by first | exact Or.inl rfl | exact Or.inr rfl)) (fun _ _ _ _ _ => pts_nil) (fun _ _ _ _ _ => pe_tup (pa_cons (pe_ix ix_list (pe_ix ix_tup (pv 0) (pe_int) (fun _ _ => rfl)) (pv 4) (fun _ _ => rfl)) (pa_cons (pe_callB (cr_sortR hr.units) (by rfl) (T.free "sorted") (by decide +kernel) (pa_cons (pe_lc (own := [("_law_j", 3)]) (g := gName 3) (tt := tYes) (te := _) rfl sc.nd (pi_range1 rfl (T.free "range") (pa_cons (pv 2) pa_nil)) (blkOk_by (own := [("_law_j", 3)]) rfl) (fun _ _ _ _ _ => pg_name (i := 3) sc.nd rfl (by first | exact Or.inl rfl | exact Or.inr rfl)) (fun _ _ _ _ _ => pts_nil) (fun _ _ _ _ _ => pe_dget (hu_of hr) (pv 1) (pe_tup (pa_cons (pv 4) (pa_cons (pv 3) pa_nil))) (fun _ _ => rfl))) pa_nil)) pa_nil)))))), ?_⟩
    have n3 := hraw.2
    have len : Ev (tCB (Evl.rLenS K) (tCons (tOp (rIxT K) (tVar 0) (tC (.int 0))) tNil)) [some v, some (.ref d), none, none, none] H (.int (ks.length : Int)) := by
      have q := ev_lenL (K := K) (te := tOp (rIxT K) (tVar 0) (tC (.int 0))) (σ := [some v, some (.ref d), none, none, none]) (H := H) (ep_ixT (n := 0) (d := .list (ks.map .str)) (ep_varD (d := madeD ks ts) rfl hm) ev_c rfl)
      rwa [List.length_map] at q
    refine q_asg len fun H1 e1 => ?_
    have hm1 := dp_ex e1 hm
    obtain ⟨kv, hkv, hent⟩ := (ht.more e1).out
    refine s_retR (w_lcR (n := ks.length) (ea_cons (ev_var rfl) ea_nil) (by omega) (fun y => rfl) (fun Dl i acc H' => H1 Dl = none ∧ Ex H1 H' ∧ DpAll K (cut1 Dl H') acc ((List.range i).map (colD (rawW ks ts)))) (fun Dl H2 e2 h2 => ?_) (fun Dl i acc H2 hi ⟨d1, d2, d3⟩ hD Q' q => ?_) fun Dl acc H2 ⟨d1, d2, d3⟩ hl hD => ?_)
    · exact ⟨fresh_back e2 h2, e2.trans (Evl.Ex.new h2), .nil⟩
    · have kget : (ks.map PyData.str)[i]? = some (.str (kindOf (rawW ks ts) i)) := by
        rw [List.getElem?_map, List.getElem?_eq_getElem hi]
        show some (PyData.str ks[i]) = some (.str (ks.getD i Str.empty))
        rw [List.getD_eq_getElem?_getD, List.getElem?_eq_getElem hi]
        rfl
      refine w_tup (w_cons (w_ev (ev_strD (ep_ixL (K := K) (n := i) (ep_ixT (n := 0) (d := .list (ks.map .str)) (ep_varD (d := madeD ks ts) rfl (dp_ex d2 hm1)) ev_c rfl) (ev_var rfl) kget)) fun H3 e3 => w_cons (w_cb (w_cons ?_))))
      have e13 := d2.trans e3
      refine w_lcR (n := ks.length) (ea_cons (ev_var rfl) ea_nil) (by omega) (fun y => rfl) (fun D2 j acc2 H' => H3 D2 = none ∧ Ex H3 H' ∧ DpAll K H1 acc2 ((List.range j).map fun j => cellD (bt (rawW ks ts) i j))) (fun D2 H4 e4 h4 => ?_) (fun D2 j acc2 H4 hj ⟨g1, g2, g3⟩ hD2 Q2 q2 => ?_) fun D2 acc2 H4 ⟨g1, g2, g3⟩ hl2 hD2 => ?_
      · exact ⟨fresh_back e4 h4, e4.trans (Evl.Ex.new h4), .nil⟩
      · obtain ⟨a, xs, h5, h6, h7⟩ := hent i j hi hj
        refine w_ev (ev_dgetT2 (v := .ref a) (ev_var rfl) (ev_var rfl) (ev_var rfl) ((e13.trans g2) _ _ hkv) h5) fun H5 e5 => q2 _ _ (e5 _ _ hD2) ⟨g1, Evl.Ex.mut (g2.trans e5) g1, ?_⟩
        rw [range_snoc]
        exact dpAll_snoc g3 (.lst (sq_of h6) h7)
      · refine ⟨D2, acc2, colL (rawW ks ts) i, rfl, sq_of hD2, dpAll_ex (e13.trans g2) g3, sortOk_colL _ _ (by show ks.length ≤ 7; omega), fun p ys hp hR => ?_⟩
        have hys := paired_dpAll (hR _ (dpAll_paired g3))
        have ep : Ex H4 (upd H4 p (.lst ys)) := Evl.Ex.new hp
        refine ⟨by show 2 ≤ sizeLine; decide, fun t htn => ?_⟩
        have et : Ex (upd H4 p (.lst ys)) (upd (upd H4 p (.lst ys)) t (.tup [.str (kindOf (rawW ks ts) i), .ref p])) := Evl.Ex.new htn
        have e2t : Ex H2 (upd (upd H4 p (.lst ys)) t (.tup [.str (kindOf (rawW ks ts) i), .ref p])) := ((e3.trans g2).trans ep).trans et
        have hDt := e2t _ _ hD
        have pD : p ≠ Dl := fun z => by
          rw [z, (e3.trans g2) _ _ hD] at hp
          cases hp
        have tD : t ≠ Dl := fun z => by
          rw [z, ep _ _ ((e3.trans g2) _ _ hD)] at htn
          cases htn
        refine q _ _ hDt ⟨d1, Evl.Ex.mut (d2.trans e2t) d1, ?_⟩
        rw [cut1_upd, range_snoc]
        refine dpAll_snoc (dpAll_ex (cut1_mono e2t) d3) (.tup (st_of (cut1_at upd_same tD)) (.cons (.str _) (.cons (.lst (sq_of (cut1_at (et _ _ upd_same) pD)) (dpAll_ex (ex_cut1 (d2.trans e2t) d1) hys)) .nil)))
    · exact k _ _ (e1.trans d2) ⟨Dl, acc, rfl, fresh_back e1 d1, hD, dpAll_ex cut1_ex d3⟩
end
end L2.Tw
set_option Elab.async false
set_option linter.all false
set_option maxRecDepth 100000
set_option maxHeartbeats 4000000
set_option autoImplicit false
namespace L2.Tw
open PySem PySem.Spec PyProof.Rows L2
open C8 (Cal Met Mak pe_c pe_mk pe_mt pe_mt0 pe_gc InsC)
open Evl (Ex Ev EvT EvA fresh_back ex_l ex_t ex_rd sq_of st_of sz_of sz_lt ev_var ev_c ev_op rv_I0 rv_I rv_eq rv_ne et_test et_or et_and et_not et_B s_if ea_nil ea_cons q_asg q_when)
section
variable {P : Program} {w : World} {K : PySem.W.Frag} {mg : Str → Option Value} {base : Heap}
variable {σ : L2.St} {H : Hp} {ta tb te td ti tj ty tv : TE} {tA tr : TA} {D : Ends} {tz : TS} {Q : VK} {r : R2}
theorem rv_eqI {a b : Int} (ha : Ev ta σ H (.int a)) (hb : Ev tb σ H (.int b)) : Ev (tOp (rEqP K) ta tb) σ H (.bl (decide (a = b))) := by
  have q := rv_eqP (K := K) (pd_int a).pl (pd_int b).pl (ep_int ha) (ep_int hb)
  have e : PyData.eqv (.int a) (.int b) = decide (a = b) := by
    rw [Bool.eq_iff_iff, eqv_iff (by simp [PySem.W.alike]) rfl]
    simp
  rw [e] at q
  exact q
theorem ev_all {bs : List Bool} {H0 : Hp} (h : EvP te σ H (NewL K H0 (bs.map .bool))) : Ev (tCB (rAll K) (tCons te tNil)) σ H (.bl (bs.all id)) := fun H1 e Q q =>
  h H1 e _ fun v H2 e2 hv => by
    obtain ⟨p, xs, rfl, _, h1, h2⟩ := hv
    have hb : ∀ {ns : List Bool} {vs : List V}, DpAll K H2 vs (ns.map PyData.bool) → vs = ns.map V.bl := fun {ns} => by
      induction ns with
      | nil => intro vs h; cases h; rfl
      | cons n ns ih =>
        intro vs h
        cases h with
        | cons h1 h2 =>
          cases h1
          rw [ih h2]
          rfl
    rw [hb h2] at h1
    exact ⟨p, bs, rfl, sq_of h1, q H2 e2⟩
theorem TabAt.ent {d : Addr} {n : Nat} {f : Nat → Nat → List Pair} (t : TabAt K H d n f) {i j : Nat} (hi : i < n) (hj : j < n) (hd : Ev td σ H (.ref d)) (h1 : Ev ti σ H (.int (i : Int))) (h2 : Ev tj σ H (.int (j : Int))) : EvP (tDGet td (tTup (tCons ti (tCons tj tNil)))) σ H (DP K (cellD (f i j))) := by
  obtain ⟨kv, g1, g2⟩ := t.out
  obtain ⟨a, xs, g3, g4, g5⟩ := g2 i j hi hj
  exact ep_evD (ev_dgetT2 hd h1 h2 g1 g3) (.lst (sq_of g4) g5)
theorem cell_eqv (p q : List Pair) : PyData.eqv (cellD p) (cellD q) = decide (p = q) := by
  rw [Bool.eq_iff_iff, eqv_iff (al_cell p q) (pd_cell p).1, decide_eq_true_eq]
  constructor
  · intro h
    simp only [cellD, PyData.list.injEq] at h
    exact map_inj (fun _ _ => pairD_inj) h
  · intro h
    rw [h]
theorem col_eqv (W : Wb) (i : Nat) (W' : Wb) (j : Nat) : PyData.eqv (colD W i) (colD W' j) = true ↔ colD W i = colD W' j := eqv_iff (al_col W i W' j) (pd_col W i).1
theorem rv_notN {x : V} : Evl.RV (fun x y H Q => y = .non ∧ Q (.bl (!decide (x = .non))) H) x .non H (.bl (!decide (x = .non))) := fun H1 _ _ q => ⟨rfl, q H1 (Evl.Ex.refl H1)⟩
/-! ### _law_go_on -/
structure GoIn where
  W : Wb
  W' : Wb
  o : List Nat
def TripAt (K : PySem.W.Frag) (H : Hp) (u : Addr) (W : Wb) : Prop := ∃ d c, SqT K H u [.ref d, .ref c] ∧ TabAt K H d W.n (bt W) ∧ Dp K H (.ref c) (.list (colsL W))
theorem TripAt.more {H' : Hp} {u : Addr} {W : Wb} (t : TripAt K H u W) (e : Ex H H') : TripAt K H' u W := by
  obtain ⟨d, c, h1, h2, h3⟩ := t
  exact ⟨d, c, ex_t e h1, h2.more e, dp_ex e h3⟩
def spLGo (K : PySem.W.Frag) (k : Nat) : Sp := spP (fun (x : GoIn) vs H => ∃ u u' l, vs = [.ref u, .ref u', .ref l] ∧ TripAt K H u x.W ∧ TripAt K H u' x.W' ∧ x.W'.n = x.W.n ∧ x.W.n ≤ 3 ∧ H l = some (.lst (natsV x.o)) ∧ x.o.Nodup ∧ (∀ i ∈ x.o, i < x.W.n) ∧ x.o.length ≤ x.W.n ∧ x.W.n < x.o.length + k)
  (fun x _ v _ => (v = .non ∧ ¬ ∃ τ, ExtO x.W x.W' x.o τ) ∨ ((∃ p, v = .ref p) ∧ ∃ τ, ExtO x.W x.W' x.o τ))
theorem cal_law_go_on (T : TX K mg) : ∀ k, Cal P w K mg base (k + 1) "_law_go_on" (spLGo K k) [] := by
  intro k
  induction k with
  | zero =>
    refine T.cal d_law_go_on (N := ["_law_one", "_law_other", "_law_order_here", "_law_at", "_law_place", "_law_k", "_law_found"]) (ps := ["_law_one", "_law_other", "_law_order_here"]) (List.mem_of_getElem? (i := 58) rfl) rfl (by decide +kernel) sc_law_go_on (fun _ _ _ _ _ _ us hl => match us, hl with | [_, _, _], _ => rfl) (fun vs H Q E h => ?_) (fun cdv A outer s H vs Q E f hr h => ?_)
    · obtain ⟨x, ⟨u, u', l, rfl, _⟩, _⟩ := h
      rfl
    · obtain ⟨x, ⟨u, u', l, rfl, _, _, _, _, _, _, _, h1, h2⟩, _⟩ := h
      omega
  | succ k ih =>
    refine T.cal d_law_go_on (N := ["_law_one", "_law_other", "_law_order_here", "_law_at", "_law_place", "_law_k", "_law_found"]) (ps := ["_law_one", "_law_other", "_law_order_here"]) (List.mem_of_getElem? (i := 58) rfl) rfl (by decide +kernel) sc_law_go_on (fun _ _ _ _ _ _ us hl => match us, hl with | [_, _, _], _ => rfl) (fun vs H Q E h => ?_) (fun cdv A outer s H vs Q E f hr h => ?_)
    · obtain ⟨x, ⟨u, u', l, rfl, _⟩, _⟩ := h
      rfl
    · obtain ⟨⟨W, W', o⟩, ⟨u, u', l, rfl, t1, t2, hn, n3, hl, hnd, hlt, hol, hk⟩, kq⟩ := h
      dsimp only at t1 t2 hn n3 hl hnd hlt hol hk kq
      have sc := sc_law_go_on
      have c_law_go_on := ih
      refine ⟨_, pss_cons (ps_set (i := 3) sc.nd rfl (by first | exact Or.inl rfl | exact Or.inr rfl) (pe_callB call_len_seq (by rfl) (T.free "len") (by decide +kernel) (pa_cons (pv 2) pa_nil)))
    (pss_cons (ps_if (pt_cmpR (op_eqP hr.units) (pv 3) (pe_callB call_len_seq (by rfl) (T.free "len") (by decide +kernel) (pa_cons (pe_ix ix_tup (pv 1) (pe_int) (fun _ _ => rfl)) pa_nil)) (by rfl))
    (pss_one (ps_ret (pv 2)))
    (pss_nil))
    (pss_cons (ps_for PassesOwn.never rfl (pi_range1 rfl (T.free "range") (pa_cons (pe_callB call_len_seq (by rfl) (T.free "len") (by decide +kernel) (pa_cons (pe_ix ix_tup (pv 0) (pe_int) (fun _ _ => rfl)) pa_nil)) pa_nil)) (pg_name (i := 4) sc.nd rfl (by first | exact Or.inl rfl | exact Or.inr rfl))
    (pss_one (ps_if (PW.pt (pw_and (pt_cmpR op_notIn_seq (pv 4) (pv 2) (by rfl)) (pw_and1 (pt_cmpR (op_eqP hr.units) (pe_ix ix_list (pe_ix ix_tup (pv 0) (pe_int) (fun _ _ => rfl)) (pv 4) (fun _ _ => rfl)) (pe_ix ix_list (pe_ix ix_tup (pv 1) (pe_int) (fun _ _ => rfl)) (pv 3) (fun _ _ => rfl)) (by rfl)))))
      (pss_one (ps_if (pt_val (pe_callB (cr_all rfl) (by rfl) (T.free "all") (by decide +kernel) (pa_cons (pe_lc (own := [("_law_k", 5)]) (g := gName 5) (tt := tYes) (te := tOp (rEqP K) (tDGet (tOp (rIxT K) (_) (_)) (tTup (tCons (tOp (rIxL K) (_) (_)) (tCons (_) (tNil))))) (tDGet (tOp (rIxT K) (_) (_)) (_))) rfl sc.nd (pi_range1 rfl (T.free "range") (pa_cons (pv 3) pa_nil)) (blkOk_by (own := [("_law_k", 5)]) rfl) (fun _ _ _ _ _ => pg_name (i := 5) sc.nd rfl (by first | exact Or.inl rfl | exact Or.inr rfl)) (fun _ _ _ _ _ => pts_nil) (fun _ _ _ _ _ => pe_cmpR (op_eqP hr.units) (pe_dget (hu_of hr) (pe_ix ix_tup (pv 0) (pe_int) (fun _ _ => rfl)) (pe_tup (pa_cons (pe_ix ix_list (pv 2) (pv 5) (fun _ _ => rfl)) (pa_cons (pv 4) pa_nil))) (fun _ _ => rfl)) (pe_dget (hu_of hr) (pe_ix ix_tup (pv 1) (pe_int) (fun _ _ => rfl)) (pe_tup (pa_cons (pv 5) (pa_cons (pv 3) pa_nil))) (fun _ _ => rfl)) (by rfl))) pa_nil)))
        (pss_cons (ps_set (i := 6) sc.nd rfl (by first | exact Or.inl rfl | exact Or.inr rfl) (pe_c c_law_go_on hr (by omega) rfl (pa_cons (pv 0) (pa_cons (pv 1) (pa_cons (pe_op op_cat (pv 2) (pe_lst (pa_cons (pv 4) pa_nil))) pa_nil)))))
          (pss_one (ps_if (pt_cmpR op_notN (pv 6) (pe_non) (by rfl))
          (pss_one (ps_ret (pv 6)))
          (pss_nil))))
        (pss_nil)))
      (pss_nil))))
    (pss_one (ps_ret (pe_non))))), ?_⟩
      obtain ⟨d1, c1, s1, b1, l1⟩ := t1
      obtain ⟨d2, c2, s2, b2, l2⟩ := t2
      have lenO := Evl.ev_len (K := K) (σ := [some (.ref u), some (.ref u'), some (.ref l), none, none, none, none]) (H := H) (ta := tVar 2) (ev_var rfl) (sq_of hl)
      rw [natsV_len] at lenO
      refine q_asg lenO fun H1 e1 => ?_
      have ixu : ∀ {σ' : L2.St} {H' : Hp} {n : Nat} {y : V}, Ex H H' → σ'[0]? = some (some (.ref u)) → [V.ref d1, V.ref c1][n]? = some y → Ev (tOp (rIxT K) (tVar 0) (tC (.int (n : Int)))) σ' H' y := fun e h hy => ev_op (ev_var h) ev_c (Evl.rv_ixT (ex_t e s1) (atI_nat hy))
      have ixv : ∀ {σ' : L2.St} {H' : Hp} {n : Nat} {y : V}, Ex H H' → σ'[1]? = some (some (.ref u')) → [V.ref d2, V.ref c2][n]? = some y → Ev (tOp (rIxT K) (tVar 1) (tC (.int (n : Int)))) σ' H' y := fun e h hy => ev_op (ev_var h) ev_c (Evl.rv_ixT (ex_t e s2) (atI_nat hy))
      have lenC : ∀ {σ' : L2.St} {H' : Hp}, Ex H H' → σ'[1]? = some (some (.ref u')) → Ev (tCB (Evl.rLenS K) (tCons (tOp (rIxT K) (tVar 1) (tC (.int 1))) tNil)) σ' H' (.int (W.n : Int)) := fun {σ' H'} e h => by
        have q := ev_lenL (K := K) (te := tOp (rIxT K) (tVar 1) (tC (.int 1))) (σ := σ') (H := H') (ep_evD (ixv (n := 1) e h rfl) (dp_ex e l2))
        rwa [show (colsL W').length = W.n by simp [colsL, hn]] at q
      have lenD : ∀ {σ' : L2.St} {H' : Hp}, Ex H H' → σ'[0]? = some (some (.ref u)) → Ev (tCB (Evl.rLenS K) (tCons (tOp (rIxT K) (tVar 0) (tC (.int 1))) tNil)) σ' H' (.int (W.n : Int)) := fun {σ' H'} e h => by
        have q := ev_lenL (K := K) (te := tOp (rIxT K) (tVar 0) (tC (.int 1))) (σ := σ') (H := H') (ep_evD (ixu (n := 1) e h rfl) (dp_ex e l1))
        rwa [show (colsL W).length = W.n by simp [colsL]] at q
      refine q_when (et_test (rv_eqI (ev_var rfl) (lenC e1 rfl))) (fun hb H2 e2 => ?_) fun hb H2 e2 => ?_
      · have hb := of_decide_eq_true hb
        exact s_retE (ev_var rfl) fun H3 e3 => kq _ _ ((e1.trans e2).trans e3) (.inr ⟨⟨_, rfl⟩, o, ext_full (ord_snoc (by omega) hnd hlt)⟩)
      · have hb := of_decide_eq_false hb
        have hlo : o.length < W.n := by omega
        refine q_forR (n := W.n) (ea_cons (lenD (e1.trans e2) rfl) ea_nil) (by omega) (fun m σ' H' => (∃ o4 o5 o6, σ' = [some (.ref u), some (.ref u'), some (.ref l), some (.int (o.length : Int)), o4, o5, o6]) ∧ Ex H H' ∧ ∀ τ, ExtO W W' o τ → m ≤ g τ o.length)
          (fun H3 e3 => ⟨⟨_, _, _, rfl⟩, (e1.trans e2).trans e3, fun _ _ => Nat.zero_le _⟩) (fun m σ' H' hm p => ?_) (fun σ' H' p => ?_)
        · obtain ⟨⟨o4, o5, o6, rfl⟩, e3, hno⟩ := p
          have stay : ∀ {H2 : Hp} {o5' o6' : Option V}, Ex H' H2 → (∀ τ, ExtO W W' o τ → g τ o.length ≠ m) → (∃ o4 o5 o6, [some (V.ref u), some (V.ref u'), some (V.ref l), some (V.int (o.length : Int)), some (V.int (m : Int)), o5', o6'] = [some (.ref u), some (.ref u'), some (.ref l), some (.int (o.length : Int)), o4, o5, o6]) ∧ Ex H H2 ∧ ∀ τ, ExtO W W' o τ → m + 1 ≤ g τ o.length := fun {H2 o5' o6'} e h => ⟨⟨_, _, _, rfl⟩, e3.trans e, fun τ E => by
            have h1 := hno τ E
            have h2 := h τ E
            omega⟩
          have nin := ev_op (r := rIn K true) (σ := [some (.ref u), some (.ref u'), some (.ref l), some (.int (o.length : Int)), some (.int (m : Int)), o5, o6]) (H := H') (ta := tVar 4) (tb := tVar 2) (x := .int (m : Int)) (y := .ref l) (ev_var rfl) (ev_var rfl) (Evl.rv_niL (sq_of (e3 _ _ hl)) rfl (flat_nats o))
          rw [inV_nats] at nin
          have ceq := rv_eqP (K := K) (σ := [some (.ref u), some (.ref u'), some (.ref l), some (.int (o.length : Int)), some (.int (m : Int)), o5, o6]) (H := H') (ta := tOp (rIxL K) (tOp (rIxT K) (tVar 0) (tC (.int 1))) (tVar 4)) (tb := tOp (rIxL K) (tOp (rIxT K) (tVar 1) (tC (.int 1))) (tVar 3)) (d := colD W m) (e := colD W' o.length) (pd_col _ _).pl (pd_col _ _).pl
            (ep_ixL (n := m) (ds := colsL W) (ep_evD (ixu (n := 1) e3 rfl rfl) (dp_ex e3 l1)) (ev_var rfl) (by simp [colsL, hm])) (ep_ixL (n := o.length) (ds := colsL W') (ep_evD (ixv (n := 1) e3 rfl rfl) (dp_ex e3 l2)) (ev_var rfl) (by simp [colsL, hn, hlo]))
          refine s_if (et_and (et_test nin) fun _ => et_test ceq) (fun hb2 H4 e4 => ?_) fun hb2 H4 e4 => ?_
          · obtain ⟨g1, g2⟩ := and_true hb2
            have hmo : m ∉ o := by
              rw [Bool.not_eq_true', decide_eq_false_iff_not] at g1
              exact g1
            have hcol := (col_eqv _ _ _ _).mp g2
            have e34 := e3.trans e4
            have all := ev_all (K := K) (σ := [some (.ref u), some (.ref u'), some (.ref l), some (.int (o.length : Int)), some (.int (m : Int)), o5, o6]) (H := H4) (H0 := H4)
              (bs := (List.range o.length).map fun k => decide (bt W (g o k) m = bt W' k o.length))
              (EvP.imp (ep_lcR (K := K) (j := 5) (vs := [5]) (n := o.length) (fun _ => true) (fun k => .bool (decide (bt W (g o k) m = bt W' k o.length))) (tA := tCons (tVar 3) tNil) (t := tYes)
                (te := tOp (rEqP K) (tDGet (tOp (rIxT K) (tVar 0) (tC (.int 0))) (tTup (tCons (tOp (rIxL K) (tVar 2) (tVar 5)) (tCons (tVar 4) tNil)))) (tDGet (tOp (rIxT K) (tVar 1) (tC (.int 0))) (tTup (tCons (tVar 5) (tCons (tVar 3) tNil)))))
                (ea_cons (ev_var rfl) ea_nil) (by omega) (fun _ _ _ => rfl) (fun x => rfl) (fun _ _ _ _ => et_yes) fun k H5 e5 hk _ => ?_) fun v H5 _ h => ?_)
            · refine s_if (et_B all) (fun hb3 H5 e5 => ?_) fun hb3 H5 e5 => ?_
              · have hbt : ∀ k, k < o.length → bt W (g o k) m = bt W' k o.length := fun k hk => by
                  have := List.all_eq_true.mp hb3 _ (List.mem_map.mpr ⟨k, List.mem_range.mpr hk, rfl⟩)
                  exact of_decide_eq_true this
                have e35 := e34.trans e5
                refine q_asgP (P := fun v _ => (v = .non ∧ ¬ ∃ τ, ExtO W W' (o ++ [m]) τ) ∨ ((∃ p, v = .ref p) ∧ ∃ τ, ExtO W W' (o ++ [m]) τ)) (ep_call (⟨W, W', o ++ [m]⟩ : GoIn) (ea_consV (v := .ref u) (ev_var rfl) (ea_consV (v := .ref u') (ev_var rfl) (ea_consP (P := fun v H' => ∃ c, v = .ref c ∧ H5 c = none ∧ H' c = some (.lst (natsV (o ++ [m])))) (ep_cat1 (ev_var rfl) (e35 _ _ hl) (ev_var rfl) (by omega)) (fun v H1 H2 e h => ?_) ea_nilP))) (fun vs H6 e6 h => ?_) fun _ _ _ _ _ h => h) fun v H6 e6 hv => ?_
                · obtain ⟨c, h1, h2, h3⟩ := h
                  exact ⟨c, h1, h2, e _ _ h3⟩
                · obtain ⟨r0, rfl, r1, rfl, x, r2, rfl, ⟨c, rfl, _, h3⟩, rfl⟩ := h
                  refine ⟨u, u', c, rfl, ⟨d1, c1, ex_t (e35.trans e6) s1, b1.more (e35.trans e6), dp_ex (e35.trans e6) l1⟩, ⟨d2, c2, ex_t (e35.trans e6) s2, b2.more (e35.trans e6), dp_ex (e35.trans e6) l2⟩, hn, n3, h3, ?_, fun i hi => ?_, ?_, ?_⟩
                  · rw [List.nodup_append]
                    refine ⟨hnd, by simp, fun a ha b hb e => ?_⟩
                    have : b = m := by simpa using hb
                    exact hmo (by rw [← this, ← e]; exact ha)
                  · rcases List.mem_append.mp hi with hi | hi
                    · exact hlt i hi
                    · rw [show i = m by simpa using hi]
                      exact hm
                  · simp only [List.length_append, List.length_singleton]
                    omega
                  · simp only [List.length_append, List.length_singleton]
                    omega
                · refine s_if (et_test (ev_op (ev_var rfl) ev_c rv_notN)) (fun hb4 H7 e7 => ?_) fun hb4 H7 e7 => ?_
                  · rcases hv with ⟨rfl, _⟩ | ⟨⟨p, rfl⟩, τ, E⟩
                    · cases hb4
                    · exact s_retE (ev_var rfl) fun H8 e8 => kq _ _ (((e35.trans e6).trans e7).trans e8) (.inr ⟨⟨_, rfl⟩, τ, ext_snoc E hcol hbt⟩)
                  · rcases hv with ⟨rfl, no⟩ | ⟨⟨p, rfl⟩, _⟩
                    · refine stay ((e4.trans e5).trans (e6.trans e7)) fun τ E hg => no ⟨τ, ?_⟩
                      have := (ext_next E hlo).2.2.2.2
                      rw [hg] at this
                      exact this
                    · cases hb4
              · refine stay (e4.trans e5) fun τ E hg => ?_
                have hx := (ext_next E hlo).2.2.2.1
                rw [hg] at hx
                have : (((List.range o.length).map fun k => decide (bt W (g o k) m = bt W' k o.length)).all id) = true := List.all_eq_true.mpr fun b hb => by
                  obtain ⟨k, hk, rfl⟩ := List.mem_map.mp hb
                  exact decide_eq_true (hx k (List.mem_range.mp hk))
                rw [this] at hb3
                cases hb3
            · have hgo : g o k < W.n := hlt _ (by rw [g_get hk]; exact List.getElem_mem _)
              have q := rv_eqP (K := K) (σ := (wipe [some (.ref u), some (.ref u'), some (.ref l), some (.int (o.length : Int)), some (.int (m : Int)), o5, o6] [5]).set 5 (some (.int (k : Int)))) (H := H5) (ta := tDGet (tOp (rIxT K) (tVar 0) (tC (.int 0))) (tTup (tCons (tOp (rIxL K) (tVar 2) (tVar 5)) (tCons (tVar 4) tNil)))) (tb := tDGet (tOp (rIxT K) (tVar 1) (tC (.int 0))) (tTup (tCons (tVar 5) (tCons (tVar 3) tNil)))) (pd_cell (bt W (g o k) m)).pl (pd_cell (bt W' k o.length)).pl ((b1.more (e34.trans e5)).ent hgo hm (ixu (σ' := (wipe [some (.ref u), some (.ref u'), some (.ref l), some (.int (o.length : Int)), some (.int (m : Int)), o5, o6] [5]).set 5 (some (.int (k : Int)))) (n := 0) (e34.trans e5) rfl rfl) (ev_ixN (l := o) (i := k) (y := g o k) (ep_evD (ev_var rfl) (dp_natsV ((e34.trans e5) _ _ hl))) (ev_var rfl) (by rw [g_get hk, List.getElem?_eq_getElem hk])) (ev_var rfl))
                ((b2.more (e34.trans e5)).ent (by omega) (by omega) (ixv (n := 0) (e34.trans e5) rfl rfl) (ev_var rfl) (ev_var rfl))
              rw [cell_eqv] at q
              exact ep_bl q
            · rw [outs_all] at h
              rw [List.map_map]
              exact h
          · refine stay e4 fun τ E hg => ?_
            obtain ⟨h1, h2, h3, _, _⟩ := ext_next E hlo
            rw [hg] at h2 h3
            have : (!decide (m ∈ o) && PyData.eqv (colD W m) (colD W' o.length)) = true := by
              rw [(col_eqv _ _ _ _).mpr h3, decide_eq_false h2]
              rfl
            rw [this] at hb2
            cases hb2
        · obtain ⟨⟨o4, o5, o6, rfl⟩, e3, hno⟩ := p
          refine s_retE ev_c fun H4 e4 => kq _ _ (e3.trans e4) (.inl ⟨rfl, fun ⟨τ, E⟩ => ?_⟩)
          have h1 := hno τ E
          have h2 := (ext_next E hlo).1
          omega
end
end L2.Tw
set_option Elab.async false
set_option linter.all false
set_option maxRecDepth 100000
set_option maxHeartbeats 4000000
set_option autoImplicit false
namespace L2.Tw
open PySem PySem.Spec PyProof.Rows L2
open C8 (Cal Met Mak pe_c pe_mk pe_mt pe_mt0 pe_gc InsC)
open Evl (Ex Ev EvT EvA fresh_back ex_l ex_t ex_rd sq_of st_of sz_of sz_lt ev_var ev_c ev_op rv_I0 rv_I rv_eq rv_ne et_test et_or et_and et_not et_B s_if ea_nil ea_cons q_asg q_when)
abbrev Mad := List Str × List Tie
def isoM (a b : Mad) : Prop := ∃ τ, Iso τ (rawW a.1 a.2) (rawW b.1 b.2)
abbrev madD (m : Mad) : PyData := madeD m.1 m.2
abbrev Raw3m (m : Mad) : Prop := Raw3 m.1 m.2
section
variable {P : Program} {w : World} {K : PySem.W.Frag} {mg : Str → Option Value} {base : Heap}
variable {σ : L2.St} {H : Hp} {ta tb te td ti tj ty tv : TE} {tA tr : TA} {D : Ends} {tz : TS} {Q : VK} {r : R2}
/-! ### _law_paired -/
def spPaired (K : PySem.W.Frag) : Sp := spP (fun (x : Mad × Mad) vs H => ∃ v v', vs = [v, v'] ∧ Dp K H v (madD x.1) ∧ Dp K H v' (madD x.2) ∧ Raw3m x.1 ∧ Raw3m x.2) (fun x _ v _ => (v = .non ∧ ¬ isoM x.1 x.2) ∨ ((∃ p, v = .ref p) ∧ isoM x.1 x.2))
theorem cal_law_paired (T : TX K mg) : Cal P w K mg base 6 "_law_paired" (spPaired K) [] := by
  refine T.cal d_law_paired (N := ["_law_one", "_law_other", "_law_first", "_law_second", "_law_mine", "_law_theirs"]) (ps := ["_law_one", "_law_other"]) (List.mem_of_getElem? (i := 59) rfl) rfl (by decide +kernel) sc_law_paired (fun _ _ _ _ _ _ us hl => match us, hl with | [_, _], _ => rfl) (fun vs H Q E h => ?_) (fun cdv A outer s H vs Q E f hr h => ?_)
  · obtain ⟨x, ⟨v, v', rfl, _⟩, _⟩ := h
    rfl
  · obtain ⟨⟨⟨ks, ts⟩, ⟨ks', ts'⟩⟩, ⟨v, v', rfl, hm, hm', hr3, hr3'⟩, k⟩ := h
    dsimp only at hm hm' hr3 hr3' k
    have sc := sc_law_paired
    have c_law_table := cal_law_table (P := P) (w := w) (base := base) T
    have c_law_colours := cal_law_colours (P := P) (w := w) (base := base) T
    have c_law_go_on := cal_law_go_on (P := P) (w := w) (base := base) T 4
    refine ⟨_, pss_cons (ps_set (i := 2) sc.nd rfl (by first | exact Or.inl rfl | exact Or.inr rfl) (pe_c c_law_table hr (by decide) rfl (pa_cons (pv 0) pa_nil)))
    (pss_cons (ps_set (i := 3) sc.nd rfl (by first | exact Or.inl rfl | exact Or.inr rfl) (pe_c c_law_table hr (by decide) rfl (pa_cons (pv 1) pa_nil)))
    (pss_cons (ps_set (i := 4) sc.nd rfl (by first | exact Or.inl rfl | exact Or.inr rfl) (pe_c c_law_colours hr (by decide) rfl (pa_cons (pv 0) (pa_cons (pv 2) pa_nil))))
    (pss_cons (ps_set (i := 5) sc.nd rfl (by first | exact Or.inl rfl | exact Or.inr rfl) (pe_c c_law_colours hr (by decide) rfl (pa_cons (pv 1) (pa_cons (pv 3) pa_nil))))
    (pss_cons (ps_if (pt_cmpR (op_neP hr.units) (pe_callB (cr_sortD hr.units) (by rfl) (T.free "sorted") (by decide +kernel) (pa_cons (pv 4) pa_nil)) (pe_callB (cr_sortD hr.units) (by rfl) (T.free "sorted") (by decide +kernel) (pa_cons (pv 5) pa_nil)) (by rfl))
    (pss_one (ps_ret (pe_non)))
    (pss_nil))
    (pss_one (ps_ret (pe_c c_law_go_on hr (by decide) rfl (pa_cons (pe_tup (pa_cons (pv 2) (pa_cons (pv 4) pa_nil))) (pa_cons (pe_tup (pa_cons (pv 3) (pa_cons (pv 5) pa_nil))) (pa_cons (pe_lst (pa_nil)) pa_nil)))))))))), ?_⟩
    refine q_asgP (P := fun v H' => ∃ d, v = .ref d ∧ TabAt K H' d ks.length (bt (rawW ks ts))) (ep_call (ks, ts) (eap_of (ea_cons (ev_var rfl) ea_nil)) (fun vs H2 e2 h => by
      subst h
      exact ⟨v, rfl, dp_ex e2 hm, hr3⟩) fun _ _ _ _ _ h => h) fun v1 H1 e1 hv1 => ?_
    obtain ⟨d1, rfl, t1⟩ := hv1
    refine q_asgP (P := fun v H' => ∃ d, v = .ref d ∧ TabAt K H' d ks'.length (bt (rawW ks' ts'))) (ep_call (ks', ts') (eap_of (ea_cons (ev_var rfl) ea_nil)) (fun vs H2 e2 h => by
      subst h
      exact ⟨v', rfl, dp_ex (e1.trans e2) hm', hr3'⟩) fun _ _ _ _ _ h => h) fun v2 H2 e2 hv2 => ?_
    obtain ⟨d2, rfl, t2⟩ := hv2
    have e12 := e1.trans e2
    refine q_asgP (P := fun v H' => NewL K H2 (colsL (rawW ks ts)) v H') (ep_call (ks, ts) (eap_of (ea_cons (ev_var rfl) (ea_cons (ev_var rfl) ea_nil))) (fun vs H3 e3 h => by
      subst h
      exact ⟨v, d1, rfl, dp_ex (e12.trans e3) hm, t1.more (e2.trans e3), hr3⟩) fun H1 v H2 e1 e2 h => NewL.up e1 h) fun v3 H3 e3 hv3 => ?_
    have dc1 := hv3.dp
    obtain ⟨c1, x1, rfl, _⟩ := hv3
    refine q_asgP (P := fun v H' => NewL K H3 (colsL (rawW ks' ts')) v H') (ep_call (ks', ts') (eap_of (ea_cons (ev_var rfl) (ea_cons (ev_var rfl) ea_nil))) (fun vs H4 e4 h => by
      subst h
      exact ⟨v', d2, rfl, dp_ex ((e12.trans e3).trans e4) hm', t2.more (e3.trans e4), hr3'⟩) fun H1 v H2 e1 e2 h => NewL.up e1 h) fun v4 H4 e4 hv4 => ?_
    have dc2 := hv4.dp
    obtain ⟨c2, x2, rfl, _⟩ := hv4
    have e24 := e3.trans e4
    have e04 := e12.trans e24
    have n3 : ks.length ≤ 3 := hr3.2
    have n3' : ks'.length ≤ 3 := hr3'.2
    have n7 : (rawW ks ts).n ≤ 7 := by show ks.length ≤ 7; omega
    have n7' : (rawW ks' ts').n ≤ 7 := by show ks'.length ≤ 7; omega
    have tst := rv_neP (K := K) (σ := [some v, some v', some (.ref d1), some (.ref d2), some (.ref c1), some (.ref c2)]) (H := H4) (ta := tCB (rSortD K) (tCons (tVar 4) tNil)) (tb := tCB (rSortD K) (tCons (tVar 5) tNil)) (pd_sortCols (rawW ks ts)).pl (pd_sortCols (rawW ks' ts')).pl
      (EvP.newDp (ep_sortD (ep_varD rfl (dp_ex e4 dc1)) (sortOk_cols _ n7))) (EvP.newDp (ep_sortD (ep_varD rfl dc2) (sortOk_cols _ n7')))
    have heq := eqv_iff (al_sortCols (rawW ks ts) (rawW ks' ts')) (pd_sortCols (rawW ks ts)).1
    refine q_when (et_test tst) (fun hb H5 e5 => ?_) fun hb H5 e5 => ?_
    · refine s_retE ev_c fun H6 e6 => k _ _ ((e04.trans e5).trans e6) (.inl ⟨rfl, fun ⟨τ, I⟩ => ?_⟩)
      have := heq.mpr (congrArg PyData.list (cols_iso hr3.1 hr3'.1 I))
      rw [this] at hb
      cases hb
    · have hb' : PyData.eqv (.list (sortD (colsL (rawW ks ts)))) (.list (sortD (colsL (rawW ks' ts')))) = true := by
        rw [Bool.not_eq_false'] at hb
        exact hb
      have hs := heq.mp hb'
      simp only [PyData.list.injEq] at hs
      have hn := cols_len hs
      have tup : ∀ {i j : Nat} {a b : Addr}, ([some v, some v', some (V.ref d1), some (V.ref d2), some (V.ref c1), some (V.ref c2)] : L2.St)[i]? = some (some (.ref a)) → ([some v, some v', some (V.ref d1), some (V.ref d2), some (V.ref c1), some (V.ref c2)] : L2.St)[j]? = some (some (.ref b)) → EvP (tTup (tCons (tVar i) (tCons (tVar j) tNil))) [some v, some v', some (V.ref d1), some (V.ref d2), some (V.ref c1), some (V.ref c2)] H5 (fun v H' => ∃ p, v = .ref p ∧ H' p = some (.tup [.ref a, .ref b])) := fun h1 h2 =>
        EvP.imp (ep_tupA (eap_of (ea_cons (ev_var h1) (ea_cons (ev_var h2) ea_nil))) (fun vs H1 h => by rw [h]; simp)) fun v H6 e6 h => by
          obtain ⟨p, vs, H7, rfl, _, _, h3, _, rfl, _⟩ := h
          exact ⟨p, rfl, h3⟩
      have mo : ∀ {a b : Addr} (v : V) (H1 H2 : Hp), Ex H1 H2 → (∃ p, v = .ref p ∧ H1 p = some (.tup [.ref a, .ref b])) → ∃ p, v = .ref p ∧ H2 p = some (.tup [.ref a, .ref b]) := fun v H1 H2 e ⟨p, h1, h2⟩ => ⟨p, h1, e _ _ h2⟩
      refine s_retP (ep_call (⟨rawW ks ts, rawW ks' ts', []⟩ : GoIn) (ea_consP (tup (a := d1) (b := c1) rfl rfl) mo (ea_consP (tup (a := d2) (b := c2) rfl rfl) mo (ea_consP (ep_lstD (K := K) ea_nilD) (fun v H1 H2 e h => h.ex e) ea_nilP))) (fun vs H6 e6 h => ?_) fun _ _ _ _ _ h => h) fun v5 H6 e6 hv => k _ _ ((e04.trans e5).trans e6) ?_
      · obtain ⟨y1, r1, rfl, ⟨p1, rfl, g1⟩, y2, r2, rfl, ⟨p2, rfl, g2⟩, y3, r3, rfl, ⟨p3, zs, rfl, _, g3, g4⟩, rfl⟩ := h
        cases g4
        refine ⟨p1, p2, p3, rfl, ⟨d1, c1, st_of g1, t1.more ((e2.trans e24).trans (e5.trans e6)), dp_ex (e4.trans (e5.trans e6)) dc1⟩, ⟨d2, c2, st_of g2, t2.more (e24.trans (e5.trans e6)), dp_ex (e5.trans e6) dc2⟩, hn, hr3.2, g3, List.nodup_nil, fun i hi => (by cases hi), Nat.zero_le _, ?_⟩
        show ks.length < 0 + 4
        omega
      · rw [← show (∃ τ, ExtO (rawW ks ts) (rawW ks' ts') [] τ) = isoM (ks, ts) (ks', ts') from propext (ext_iso hr3.1 hr3'.1 hn)]
        exact hv
/-! ### _law_row_of -/
structure LRow where
  m : Mad
  name : Str
  text : Str
def rowDt (r : LRow) : PyData := .tuple [madD r.m, .str r.name, .str r.text]
def spRowOf (K : PySem.W.Frag) : Sp := spP (fun (x : List V × List LRow × Mad) vs H => ∃ hl v, vs = [.ref hl, v] ∧ SqL K H hl x.1 ∧ DpAll K H x.1 (x.2.1.map rowDt) ∧ Dp K H v (madD x.2.2) ∧ Raw3m x.2.2 ∧ ∀ r ∈ x.2.1, Raw3m r.m)
  (fun x _ v _ => (v = .non ∧ ∀ r ∈ x.2.1, ¬ isoM r.m x.2.2) ∨ ∃ (i : Nat) (r : LRow) (p : Addr), v = .ref p ∧ x.1[i]? = some v ∧ x.2.1[i]? = some r ∧ isoM r.m x.2.2)
theorem ev_notN (h : EvP te σ H (fun v _ => v ≠ .non)) : Ev (tOp (fun x y H Q => y = .non ∧ Q (.bl (!decide (x = .non))) H) te (tC .non)) σ H (.bl true) := fun H1 e Q q =>
  h H1 e _ fun v H2 e2 hv => ⟨rfl, by
    rw [decide_eq_false hv]
    exact q H2 e2⟩
theorem ev_notN' (h : EvP te σ H (fun v _ => v = .non)) : Ev (tOp (fun x y H Q => y = .non ∧ Q (.bl (!decide (x = .non))) H) te (tC .non)) σ H (.bl false) := fun H1 e Q q =>
  h H1 e _ fun v H2 e2 hv => ⟨rfl, by
    rw [decide_eq_true hv]
    exact q H2 e2⟩
theorem row_tup {v : V} {r : LRow} (h : Dp K H v (rowDt r)) : ∃ t x, v = .ref t ∧ SqT K H t [x, .str r.name, .str r.text] ∧ Dp K H x (madD r.m) := by
  cases h with
  | tup h1 h2 =>
    cases h2 with
    | cons h2 h3 =>
      cases h3 with
      | cons h3 h4 =>
        cases h4 with
        | cons h4 h5 =>
          cases h5
          cases h3
          cases h4
          exact ⟨_, _, rfl, h1, h2⟩
theorem cal_law_row_of (T : TX K mg) : Cal P w K mg base 7 "_law_row_of" (spRowOf K) [] := by
  refine T.cal d_law_row_of (N := ["_law_held", "_law_made", "_law_row"]) (ps := ["_law_held", "_law_made"]) (List.mem_of_getElem? (i := 60) rfl) rfl (by decide +kernel) sc_law_row_of (fun _ _ _ _ _ _ us hl => match us, hl with | [_, _], _ => rfl) (fun vs H Q E h => ?_) (fun cdv A outer s H vs Q E f hr h => ?_)
  · obtain ⟨x, ⟨hl, v, rfl, _⟩, _⟩ := h
    rfl
  · obtain ⟨⟨xs, rows, m⟩, ⟨hl, v, rfl, hs, hd, hm, hr3, hrs⟩, k⟩ := h
    dsimp only at hs hd hm hr3 hrs k
    have sc := sc_law_row_of
    have c_law_paired := cal_law_paired (P := P) (w := w) (base := base) T
    refine ⟨_, pss_cons (ps_for PassesOwn.never rfl (pi_list (pv 0)) (pg_name (i := 2) sc.nd rfl (by first | exact Or.inl rfl | exact Or.inr rfl))
    (pss_one (ps_if (pt_cmpR op_notN (pe_c c_law_paired hr (by decide) rfl (pa_cons (pe_ix ix_tup (pv 2) (pe_int) (fun _ _ => rfl)) (pa_cons (pv 1) pa_nil))) (pe_non) (by rfl))
      (pss_one (ps_ret (pv 2)))
      (pss_nil))))
    (pss_one (ps_ret (pe_non))), ?_⟩
    have hlen := DpAll.length hd
    rw [List.length_map] at hlen
    refine Evl.q_forL (xs := xs) (ev_var rfl) hs (fun i σ' H' => (∃ o2, σ' = [some (.ref hl), some v, o2]) ∧ Ex H H' ∧ ∀ j r, j < i → rows[j]? = some r → ¬ isoM r.m m) (fun H1 e1 => ⟨⟨_, rfl⟩, e1, fun j r hj => by omega⟩) (fun i σ' H' _ q => ex_l q.2.1 hs) (fun i x σ' H' hx q => ?_) (fun σ' H' q => ?_)
    · obtain ⟨⟨o2, rfl⟩, e1, hno⟩ := q
      obtain ⟨d, hd1, hd2⟩ := dpAll_get hd hx
      rw [List.getElem?_map] at hd1
      obtain ⟨r, hri, rfl⟩ := Option.map_eq_some_iff.mp hd1
      obtain ⟨t, x0, rfl, ht, hx0⟩ := row_tup hd2
      have call : EvP (tCall (spPaired K) [] C8.E0 (tCons (tOp (rIxT K) (tVar 2) (tC (.int 0))) (tCons (tVar 1) tNil))) [some (.ref hl), some v, some (.ref t)] H' (fun v _ => (v = .non ∧ ¬ isoM r.m m) ∨ ((∃ p, v = .ref p) ∧ isoM r.m m)) :=
        ep_call (r.m, m) (eap_of (vs := [x0, v]) (ea_cons (ev_op (ev_var rfl) ev_c (Evl.rv_ixT (ex_t e1 ht) (atI_nat (j := 0) rfl))) (ea_cons (ev_var rfl) ea_nil))) (fun vs H2 e2 h => by
          subst h
          exact ⟨x0, v, rfl, dp_ex (e1.trans e2) hx0, dp_ex (e1.trans e2) hm, hrs r (List.mem_of_getElem? hri), hr3⟩) fun _ _ _ _ _ h => h
      by_cases c : isoM r.m m
      · refine s_if (et_test (ev_notN (call.imp fun v H2 _ h => ?_))) (fun _ H2 e2 => ?_) (fun hb => by cases hb)
        · rcases h with ⟨_, h⟩ | ⟨⟨p, rfl⟩, _⟩
          · exact absurd c h
          · intro z
            cases z
        · exact s_retE (ev_var rfl) fun H3 e3 => k _ _ ((e1.trans e2).trans e3) (.inr ⟨i, r, t, rfl, hx, hri, c⟩)
      · refine s_if (et_test (ev_notN' (call.imp fun v H2 _ h => ?_))) (fun hb => by cases hb) fun _ H2 e2 => ?_
        · rcases h with ⟨h, _⟩ | ⟨_, h⟩
          · exact h
          · exact absurd h c
        · refine ⟨⟨_, rfl⟩, e1.trans e2, fun j r' hj hr' => ?_⟩
          rcases Nat.lt_succ_iff_lt_or_eq.mp hj with h | h
          · exact hno j r' h hr'
          · subst h
            rw [hri] at hr'
            cases hr'
            exact c
    · obtain ⟨⟨o2, rfl⟩, e1, hno⟩ := q
      refine s_retE ev_c fun H2 e2 => k _ _ (e1.trans e2) (.inl ⟨rfl, fun r hr => ?_⟩)
      obtain ⟨j, hj⟩ := List.getElem?_of_mem hr
      exact hno j r (by rw [hlen]; exact (List.getElem?_eq_some_iff.mp hj).1) hj
/-! ### isinstance -/
theorem ev_isiB {x : V} {t c : String} {b : Bool} (h : Ev te σ H x) (ty : ∀ H1, Ex H H1 → TyOf K H1 x (.type t)) (hk : kitB t c = some b) : Ev (tCB (rIsiE K) (tCons te (tCons (tC (.ty c)) tNil))) σ H (.bl b) := fun H1 e Q q =>
  h H1 e _ fun H2 e2 => ⟨x, .ty c, .type t, .type c, b, rfl, .ty c, .inl (.base (ty H2 (e.trans e2))), kit_ty hk, q H2 e2⟩
/-! ### _law_whole -/
def spWhole : Sp := spP (fun (i : Int) vs _ => vs = [.int i]) (fun _ _ v _ => v = .bl true)
theorem cal_law_whole (T : TX K mg) : Cal P w K mg base 1 "_law_whole" spWhole [] := by
  refine T.cal d_law_whole (N := ["_law_found"]) (ps := ["_law_found"]) (List.mem_of_getElem? (i := 55) rfl) rfl (by decide +kernel) sc_law_whole (fun _ _ _ _ _ _ us hl => match us, hl with | [_], _ => rfl) (fun vs H Q E h => ?_) (fun cdv A outer s H vs Q E f hr h => ?_)
  · obtain ⟨i, rfl, _⟩ := h
    rfl
  · obtain ⟨i, rfl, k⟩ := h
    have sc := sc_law_whole
    refine ⟨_, pss_one (ps_ret (pe_and (pe_callB call_isiE (by rfl) (T.free "isinstance") (by decide +kernel) (pa_cons (pv 0) (pa_cons (pe_bltn (v := .ty "int") (by rfl) (T.free "int") (by decide +kernel) rfl) pa_nil))) (pe_one (pe_not (pe_callB call_isiE (by rfl) (T.free "isinstance") (by decide +kernel) (pa_cons (pv 0) (pa_cons (pe_bltn (v := .ty "bool") (by rfl) (T.free "bool") (by decide +kernel) rfl) pa_nil))))))), ?_⟩
    exact s_retE (Evl.ev_andV (ev_isiB (t := "int") (b := true) (ev_var rfl) (fun _ _ => .int i) (by decide +kernel)) fun _ => Evl.ev_notV (ev_isiB (t := "int") (b := false) (ev_var rfl) (fun _ _ => .int i) (by decide +kernel))) fun H1 e1 => k _ _ e1 rfl
/-! ### _law_name_told -/
def Told (r : Option LRow) (K : PySem.W.Frag) (H : Hp) (rv : V) : Prop := match r with
  | none => rv = .non
  | some r => Dp K H rv (rowDt r)
theorem Told.ex {o : Option LRow} {rv : V} {H' : Hp} (t : Told o K H rv) (e : Ex H H') : Told o K H' rv := by
  cases o with
  | none => exact t
  | some r => exact dp_ex e t
def spNameTold (K : PySem.W.Frag) : Sp := spP (fun (x : Option LRow) vs H => ∃ v rv, vs = [v, rv] ∧ Told x K H rv ∧ v = (match x with | none => .non | some r => .str r.name)) (fun _ _ v _ => v = .bl true)
theorem cal_law_name_told (T : TX K mg) : Cal P w K mg base 1 "_law_name_told" (spNameTold K) [] := by
  refine T.cal d_law_name_told (N := ["_law_found", "_law_row"]) (ps := ["_law_found", "_law_row"]) (List.mem_of_getElem? (i := 62) rfl) rfl (by decide +kernel) sc_law_name_told (fun _ _ _ _ _ _ us hl => match us, hl with | [_, _], _ => rfl) (fun vs H Q E h => ?_) (fun cdv A outer s H vs Q E f hr h => ?_)
  · obtain ⟨i, ⟨v, rv, rfl, _⟩, _⟩ := h
    rfl
  · obtain ⟨o, ⟨v, rv, rfl, ht, rfl⟩, k⟩ := h
    have sc := sc_law_name_told
    refine ⟨_, pss_cons (ps_if (pt_cmpR op_isN (pv 1) (pe_non) (by rfl))
    (pss_one (ps_ret (pe_cmpR op_isN (pv 0) (pe_non) (by rfl))))
    (pss_nil))
    (pss_one (ps_ret (pe_and (pe_callB call_isiE (by rfl) (T.free "isinstance") (by decide +kernel) (pa_cons (pv 0) (pa_cons (pe_bltn (v := .ty "str") (by rfl) (T.free "str") (by decide +kernel) rfl) pa_nil))) (pe_one (pe_cmpR (op_eqP hr.units) (pv 0) (pe_ix ix_tup (pv 1) (pe_int) (fun _ _ => rfl)) (by rfl)))))), ?_⟩
    cases o with
    | none =>
      have ht' : rv = .non := ht
      subst ht'
      refine q_when (et_test (ev_op (ev_var rfl) ev_c rv_isN)) (fun _ H1 e1 => ?_) (fun hb => by cases hb)
      exact s_retE (ev_op (ev_var rfl) ev_c rv_isN) fun H2 e2 => k _ _ (e1.trans e2) rfl
    | some r =>
      obtain ⟨t, x, rfl, h1, h2⟩ := row_tup (show Dp K H rv (rowDt r) from ht)
      refine q_when (et_test (ev_op (ev_var rfl) ev_c rv_isN)) (fun hb => by cases hb) fun _ H1 e1 => ?_
      have q := rv_eqP (K := K) (σ := [some (.str r.name), some (.ref t)]) (H := H1) (ta := tVar 0) (tb := tOp (rIxT K) (tVar 1) (tC (.int 1))) (pd_str r.name).pl (pd_str r.name).pl (ep_str (ev_var rfl)) (ep_str (ev_op (ev_var rfl) ev_c (Evl.rv_ixT (ex_t e1 h1) (atI_nat (j := 1) rfl))))
      rw [(eqv_iff (alike_self _ rfl) rfl).mpr rfl] at q
      exact s_retE (Evl.ev_andV (ev_isiB (t := "str") (b := true) (ev_var rfl) (fun _ _ => .str _) (by decide +kernel)) fun _ => q) fun H2 e2 => k _ _ (e1.trans e2) rfl
end
end L2.Tw
set_option Elab.async false
set_option linter.all false
set_option maxRecDepth 100000
set_option maxHeartbeats 4000000
set_option autoImplicit false
namespace L2.Tw
open PySem PySem.Spec PyProof.Rows L2
open C8 (Cal Met Mak pe_c pe_mk pe_mt pe_mt0 pe_gc InsC)
open Evl (Ex Ev EvT EvA fresh_back ex_l ex_t ex_rd sq_of st_of sz_of sz_lt ev_var ev_c ev_op rv_I0 rv_I rv_eq rv_ne et_test et_or et_and et_not et_B s_if ea_nil ea_cons q_asg q_when)
section
variable {P : Program} {w : World} {K : PySem.W.Frag} {mg : Str → Option Value} {base : Heap}
variable {σ : L2.St} {H : Hp} {ta tb te td ti tj ty tv : TE} {tA tr : TA} {D : Ends} {tz : TS} {Q : VK} {r : R2}
/-! ### _law_is_name -/
theorem cal_law_is_name (T : TX K mg) : Cal P w K mg base 1 "_law_is_name" spIsName [] := by
  refine T.cal d_law_is_name (N := ["_law_name_here", "_law_sign"]) (ps := ["_law_name_here"]) (List.mem_of_getElem? (i := 68) rfl) rfl (by decide +kernel) sc_law_is_name (fun _ _ _ _ _ _ us hl => match us, hl with | [_], _ => rfl) (fun vs H Q E h => ?_) (fun cdv A outer s H vs Q E f hr h => ?_)
  · obtain ⟨z, ⟨rfl, _⟩, _⟩ := h
    rfl
  · obtain ⟨z, ⟨rfl, hz⟩, k⟩ := h
    have sc := sc_law_is_name
    refine ⟨_, pss_cons (ps_for PassesOwn.never rfl (pi_str (pv 0)) (pg_name (i := 1) sc.nd rfl (by first | exact Or.inl rfl | exact Or.inr rfl))
    (pss_one (ps_if (pt_cmpR op_notIn_sign (pv 1) (pe_str) (by rfl))
      (pss_one (ps_ret (pe_bl)))
      (pss_nil))))
    (pss_one (ps_ret (pe_chain op_le op_le (pe_int) (pe_callB call_len_str (by rfl) (T.free "len") (by decide +kernel) (pa_cons (pv 0) pa_nil)) (pe_int)))), ?_⟩
    refine q_forS (s := z) (ev_var rfl) (fun m σ' H' => (∃ v, σ' = [some (.str z), v]) ∧ Ex H H' ∧ ∀ i c, i < m → z.cps[i]? = some c → c ∈ signs36.cps.toList) (fun H2 e2 => ⟨⟨_, rfl⟩, e2, fun i c hi => by omega⟩) (fun i c σ' H' hc q => ?_) (fun σ' H' q => ?_)
    · obtain ⟨⟨v, rfl⟩, e2, q⟩ := q
      refine s_if (et_test (ev_op (ev_var rfl) ev_c rv_niS)) (fun hb H3 e3 => ?_) fun hb H3 e3 => ?_
      · refine s_retE ev_c fun H4 e4 => k _ _ ((e2.trans e3).trans e4) ?_
        rw [Bool.not_eq_true', decide_eq_false_iff_not] at hb
        have : nameOk z = false := by
          unfold nameOk
          rw [Bool.and_eq_false_iff]
          refine .inl ?_
          rw [List.all_eq_false]
          exact ⟨c, by rw [Array.mem_toList_iff]; exact Array.mem_of_getElem? hc, by rw [decide_eq_true_eq]; exact hb⟩
        rw [this]
      · refine ⟨⟨_, rfl⟩, e2.trans e3, fun j d hj hd => ?_⟩
        rcases Nat.lt_succ_iff_lt_or_eq.mp hj with h | h
        · exact q j d h hd
        · subst h
          rw [hc] at hd
          cases hd
          rw [Bool.not_eq_false', decide_eq_true_eq] at hb
          exact hb
    · obtain ⟨⟨v, rfl⟩, e2, q⟩ := q
      refine s_retE (ev_chain ev_c (ev_lenS (ev_var rfl) (by omega)) rv_I0 (fun _ => ev_c) fun _ => rv_I0) fun H3 e3 => k _ _ (e2.trans e3) ?_
      have hall : z.cps.toList.all (fun c => decide (c ∈ signs36.cps.toList)) = true := List.all_eq_true.mpr fun c hc => by
        rw [Array.mem_toList_iff] at hc
        obtain ⟨i, hi, e⟩ := Array.mem_iff_getElem.mp hc
        rw [decide_eq_true_eq]
        exact q i c hi (by rw [Array.getElem?_eq_getElem hi, e])
      show V.bl _ = V.bl (nameOk z)
      unfold nameOk
      rw [hall, Bool.true_and]
      have e1 : decide ((1 : Int) ≤ (z.length : Int)) = decide (1 ≤ z.length) := decide_eq_decide.mpr (by omega)
      have e3 : decide ((z.length : Int) ≤ 20) = decide (z.length ≤ 20) := decide_eq_decide.mpr (by omega)
      rw [e1, e3]
/-! ### _law_which -/
def whichS : Option Str → Str
  | none => "none"
  | some n => if n = "BadName" then "name" else if n = "Twice" then "twice" else "noweb"
def CaughtAt (K : PySem.W.Frag) (H : Hp) (v : V) : Option Str → Prop
  | none => v = .non
  | some n => n ∈ exN ∧ ∃ a, v = .ref a ∧ H a = some (ExT (.ref (He.ga K n)) none a)
theorem CaughtAt.ex {H' : Hp} {v : V} {o : Option Str} (c : CaughtAt K H v o) (e : Ex H H') : CaughtAt K H' v o := by
  cases o with
  | none => exact c
  | some n =>
    obtain ⟨h1, a, h2, h3⟩ := c
    exact ⟨h1, a, h2, e _ _ h3⟩
theorem ev_isiE {a D : Addr} {c : V} {u : Value} {b : Bool} (h : Ev te σ H (.ref a)) (ha : H a = some (ExT (.ref D) none a)) (C : ExcC K D) (hc : ClsV c u) (hk : PySem.W.kitOne K (.ref D) u = some b) : Ev (tCB (rIsiE K) (tCons te (tCons (tC c) tNil))) σ H (.bl b) := fun H1 e Q q =>
  h H1 e _ fun H2 e2 => ⟨.ref a, c, .ref D, u, b, rfl, hc, .inr ⟨D, a, rfl, rfl, (e.trans e2) _ _ ha, C⟩, hk, q H2 e2⟩
theorem ev_isiTE {a D : Addr} {cs : List V} {us : List Value} {b : Bool} (h : Ev te σ H (.ref a)) (hA : EvA tA σ H cs) (hl : cs.length ≤ 100) (ha : H a = some (ExT (.ref D) none a)) (C : ExcC K D) (hc : Paired ClsV cs us) (hk : PySem.W.kitAny K (.ref D) us = some b) : Ev (tCB (rIsiTE K) (tCons te (tCons (tTup tA) tNil))) σ H (.bl b) := fun H1 e Q q =>
  h H1 e _ fun H2 e2 => hA H2 (e.trans e2) _ fun H3 e3 => ⟨sz_of (by omega), fun p hp => by
    have e4 : Ex H3 (upd H3 p (.tup cs)) := Evl.Ex.new hp
    exact ⟨.ref a, p, cs, .ref D, us, b, rfl, upd_same, hc, .inr ⟨D, a, rfl, rfl, (((e.trans e2).trans e3).trans e4) _ _ ha, C⟩, hk, q _ ((e2.trans e3).trans e4)⟩⟩
theorem ev_sum {ns : List Int} {H0 : Hp} (h : EvP te σ H (NewL K H0 (ns.map .int))) : Ev (tCB (rSum K) (tCons te tNil)) σ H (.int ns.sum) := fun H1 e Q q =>
  h H1 e _ fun v H2 e2 hv => by
    obtain ⟨p, xs, rfl, _, h1, h2⟩ := hv
    rw [dpAll_ints' h2] at h1
    exact ⟨p, ns, rfl, sq_of h1, q H2 e2⟩
theorem ev_indexV {a : Addr} {ys : List V} {y z : V} {j : Nat} (h : Ev ta σ H (.ref a)) (ha : H a = some (.lst ys)) (hy : Ev te σ H y) (f1 : flatV y = true) (f2 : ys.all flatV = true) (hj : ys[j]? = some z) (hz : eqV z y = true) (hn : ∀ (m : Nat) (z' : V), m < j → ys[m]? = some z' → eqV z' y = false) : Ev (tBM K "list" (rIndex K) ta (tCons te tNil)) σ H (.int (j : Int)) := fun H1 e Q q =>
  h H1 e _ fun H2 e2 => ⟨Or.inl ⟨rfl, ys, sq_of ((e.trans e2) _ _ ha)⟩, hy H2 (e.trans e2) _ fun H3 e3 => ⟨a, ys, y, j, z, rfl, rfl, sq_of ((e.trans (e2.trans e3)) _ _ ha), f1, f2, hj, hz, hn, q H3 (e2.trans e3)⟩⟩
def spWhich (K : PySem.W.Frag) : Sp := spP (fun (x : Option Str) vs H => ∃ v, vs = [v] ∧ CaughtAt K H v x) (fun x _ v _ => v = .str (whichS x))
theorem cal_law_which (T : TX K mg) (X3 : ∀ x ∈ exN, ExF K x) : Cal P w K mg base 1 "_law_which" (spWhich K) [] := by
  refine T.cal d_law_which (N := ["_law_caught", "_law_some", "_law_one"]) (ps := ["_law_caught"]) (List.mem_of_getElem? (i := 64) rfl) rfl (by decide +kernel) sc_law_which (fun _ _ _ _ _ _ us hl => match us, hl with | [_], _ => rfl) (fun vs H Q E h => ?_) (fun cdv A outer s H vs Q E f hr h => ?_)
  · obtain ⟨z, ⟨v, rfl, _⟩, _⟩ := h
    rfl
  · obtain ⟨o, ⟨v, rfl, hc⟩, k⟩ := h
    have sc := sc_law_which
    refine ⟨_, pss_cons (ps_if (pt_cmpR op_isN (pv 0) (pe_non) (by rfl))
    (pss_one (ps_ret (pe_str)))
    (pss_nil))
    (pss_cons (ps_if (pt_not (pt_val (pe_callB call_isiE (by rfl) (T.free "isinstance") (by decide +kernel) (pa_cons (pv 0) (pa_cons (pe_bltn (v := .ty "ValueError") (by rfl) (T.free "ValueError") (by decide +kernel) rfl) pa_nil)))))
    (pss_one (ps_ret (pe_str)))
    (pss_nil))
    (pss_cons (ps_set (i := 1) sc.nd rfl (by first | exact Or.inl rfl | exact Or.inr rfl) (pe_lst (pa_cons (pe_callB call_isiE (by rfl) (T.free "isinstance") (by decide +kernel) (pa_cons (pv 0) (pa_cons (pe_gc (v := .ref (He.ga K "BadName")) rfl ⟨_, T.glo "BadName", rfl⟩) pa_nil))) (pa_cons (pe_callB call_isiE (by rfl) (T.free "isinstance") (by decide +kernel) (pa_cons (pv 0) (pa_cons (pe_gc (v := .ref (He.ga K "Twice")) rfl ⟨_, T.glo "Twice", rfl⟩) pa_nil))) (pa_cons (pe_callB call_isiE (by rfl) (T.free "isinstance") (by decide +kernel) (pa_cons (pv 0) (pa_cons (pe_gc (v := .ref (He.ga K "NoWeb")) rfl ⟨_, T.glo "NoWeb", rfl⟩) pa_nil))) pa_nil)))))
    (pss_cons (ps_if (pt_cmpR op_ne (pe_callB (cr_sum rfl) (by rfl) (T.free "sum") (by decide +kernel) (pa_cons (pe_lc (own := [("_law_one", 2)]) (g := gName 2) (tt := tYes) (te := _) rfl sc.nd (pi_list (pv 1)) (blkOk_by (own := [("_law_one", 2)]) rfl) (fun _ _ _ _ _ => pg_name (i := 2) sc.nd rfl (by first | exact Or.inl rfl | exact Or.inr rfl)) (fun _ _ _ _ _ => pts_nil) (fun _ _ _ _ _ => pe_callTy call_int1 (by rfl) (T.free "int") (by decide +kernel) (pa_cons (pv 2) pa_nil))) pa_nil)) (pe_int) (by rfl))
    (pss_one (ps_ret (pe_str)))
    (pss_nil))
    (pss_cons (ps_if (pt_val (pe_callB call_isiTE (by rfl) (T.free "isinstance") (by decide +kernel) (pa_cons (pv 0) (pa_cons (pe_tup (pa_cons (pe_gc (v := .ref (He.ga K "BadOrder")) rfl ⟨_, T.glo "BadOrder", rfl⟩) (pa_cons (pe_gc (v := .ref (He.ga K "BadPlace")) rfl ⟨_, T.glo "BadPlace", rfl⟩) (pa_cons (pe_gc (v := .ref (He.ga K "BadRule")) rfl ⟨_, T.glo "BadRule", rfl⟩) (pa_cons (pe_gc (v := .ref (He.ga K "BadText")) rfl ⟨_, T.glo "BadText", rfl⟩) (pa_cons (pe_gc (v := .ref (He.ga K "BadTie")) rfl ⟨_, T.glo "BadTie", rfl⟩) (pa_cons (pe_gc (v := .ref (He.ga K "NoWay")) rfl ⟨_, T.glo "NoWay", rfl⟩) (pa_cons (pe_gc (v := .ref (He.ga K "TooGreat")) rfl ⟨_, T.glo "TooGreat", rfl⟩) (pa_cons (pe_gc (v := .ref (He.ga K "TooMany")) rfl ⟨_, T.glo "TooMany", rfl⟩) (pa_nil)))))))))) pa_nil))))
    (pss_one (ps_ret (pe_str)))
    (pss_nil))
    (pss_one (ps_ret (pe_ix ix_list (pe_lst (pa_cons (pe_str) (pa_cons (pe_str) (pa_cons (pe_str) pa_nil)))) (pe_bm PySem.F.plainAttrs_list PySem.F.slot_list_index PySem.F.type_list_index mt_index (pv 1) (pa_cons (pe_bl) pa_nil)) (fun _ _ => rfl)))))))), ?_⟩
    cases o with
    | none =>
      have hc' : v = .non := hc
      subst hc'
      exact q_when (et_test (ev_op (ev_var rfl) ev_c rv_isN)) (fun _ H1 e1 => s_retE ev_c fun H2 e2 => k _ _ (e1.trans e2) rfl) (fun hb => by cases hb)
    | some n =>
      obtain ⟨hn, a, rfl, ha⟩ := hc
      have F := X3 n hn
      have C := F.cc
      refine q_when (et_test (ev_op (ev_var rfl) ev_c rv_isN)) (fun hb => by cases hb) fun _ H1 e1 => ?_
      refine q_when (et_not (et_B (ev_isiE (b := true) (ev_var rfl) (e1 _ _ ha) C (.ty _) F.kv))) (fun hb => by cases hb) fun _ H2 e2 => ?_
      have e12 := e1.trans e2
      have own : ∀ {σ' : L2.St} {H' : Hp} {y : Str}, Ex H H' → σ'[0]? = some (some (.ref a)) → y ∈ exN → Ev (tCB (rIsiE K) (tCons (tVar 0) (tCons (tC (.ref (He.ga K y))) tNil))) σ' H' (.bl (decide (n = y))) := fun e h hy => ev_isiE (ev_var h) (e _ _ ha) C (.own _) (F.ko _ hy)
      refine q_asgP (ep_lstD (K := K) (ds := [.bool (decide (n = "BadName")), .bool (decide (n = "Twice")), .bool (decide (n = "NoWeb"))]) (ea_consD (ep_bl (own e12 rfl (by decide))) (ea_consD (ep_bl (own e12 rfl (by decide))) (ea_consD (ep_bl (own e12 rfl (by decide))) ea_nilD)))) fun v H3 e3 hv => ?_
      obtain ⟨p, xs, rfl, p0, p1, p2⟩ := hv
      have hx : xs = [.bl (decide (n = "BadName")), .bl (decide (n = "Twice")), .bl (decide (n = "NoWeb"))] := by
        cases p2 with
        | cons h1 p2 =>
          cases p2 with
          | cons h2 p2 =>
            cases p2 with
            | cons h3 p2 =>
              cases p2
              cases h1
              cases h2
              cases h3
              rfl
      subst hx
      have e13 := e12.trans e3
      have dp : ∀ {H' : Hp}, Ex H3 H' → Dp K H' (.ref p) (.list ([decide (n = "BadName"), decide (n = "Twice"), decide (n = "NoWeb")].map .bool)) := fun e => .lst (sq_of (e _ _ p1)) (.cons (.bl _) (.cons (.bl _) (.cons (.bl _) .nil)))
      have sm := ev_sum (K := K) (σ := [some (.ref a), some (.ref p), none]) (H := H3) (H0 := H3) (ns := [decide (n = "BadName"), decide (n = "Twice"), decide (n = "NoWeb")].map fun b => if b then 1 else 0) (te := tLc (iList K (tVar 1)) (gName 2) tYes (tCB (fun xs H Q => (∃ i, xs = [.int i] ∧ Q (.int i) H) ∨ ∃ k, xs = [.bl k] ∧ Q (.int (if k then 1 else 0)) H) (tCons (tVar 2) tNil)) [2])
        (by
          rw [List.map_map]
          refine ep_lcM (f := .bool) (ep_varD rfl (dp (Evl.Ex.refl _))) (by simp) (fun _ _ => rfl) (fun x => rfl) fun b x H4 _ e4 hx => ?_
          cases hx
          exact ep_int (ev_int1 (ev_var rfl)))
      have hs : ([decide (n = "BadName"), decide (n = "Twice"), decide (n = "NoWeb")].map fun b => if b then (1 : Int) else 0).sum = 1 := by
        have : n = "BadName" ∨ n = "Twice" ∨ n = "NoWeb" := by simpa [exN] using hn
        rcases this with rfl | rfl | rfl <;> decide
      rw [hs] at sm
      refine q_when (et_test (ev_op sm ev_c (rv_ne rfl))) (fun hb => by cases hb) fun _ H4 e4 => ?_
      have gl : ∀ {σ' : L2.St} {H' : Hp} {y : Str}, Ev (tC (.ref (He.ga K y))) σ' H' (.ref (He.ga K y)) := ev_c
      refine q_when (et_B (ev_isiTE (b := false) (us := exO.map fun y => .ref (He.ga K y)) (ev_var rfl) (ea_cons ev_c (ea_cons ev_c (ea_cons ev_c (ea_cons ev_c (ea_cons ev_c (ea_cons ev_c (ea_cons ev_c (ea_cons ev_c ea_nil)))))))) (by simp) ((e13.trans e4) _ _ ha) C (.cons (.own _) (.cons (.own _) (.cons (.own _) (.cons (.own _) (.cons (.own _) (.cons (.own _) (.cons (.own _) (.cons (.own _) .nil)))))))) F.ka)) (fun hb => by cases hb) fun _ H5 e5 => ?_
      have e15 := (e13.trans e4).trans e5
      have p5 := e5 _ _ (e4 _ _ p1)
      have ix : ∃ j : Nat, ([PyData.str "name", .str "twice", .str "noweb"] : List PyData)[j]? = some (.str (whichS (some n))) ∧ Ev (tBM K "list" (rIndex K) (tVar 1) (tCons (tC (.bl true)) tNil)) [some (.ref a), some (.ref p), none] H5 (.int (j : Int)) := by
        have : n = "BadName" ∨ n = "Twice" ∨ n = "NoWeb" := by simpa [exN] using hn
        rcases this with rfl | rfl | rfl
        · exact ⟨0, rfl, ev_indexV (z := .bl true) (ev_var rfl) p5 ev_c rfl (by decide) (by decide) rfl fun m z' hm => by omega⟩
        · refine ⟨1, rfl, ev_indexV (z := .bl true) (ev_var rfl) p5 ev_c rfl (by decide) (by decide) rfl fun m z' hm hz => ?_⟩
          have : m = 0 := by omega
          subst this
          have : z' = .bl false := by
            have h2 : (V.bl (decide (("Twice" : Str) = "BadName"))) = z' := Option.some.inj hz
            rw [← h2]
            decide
          rw [this]
          rfl
        · refine ⟨2, rfl, ev_indexV (z := .bl true) (ev_var rfl) p5 ev_c rfl (by decide) (by decide) rfl fun m z' hm hz => ?_⟩
          have : z' = .bl false := by
            have : m = 0 ∨ m = 1 := by omega
            rcases this with rfl | rfl
            · have h2 : (V.bl (decide (("NoWeb" : Str) = "BadName"))) = z' := Option.some.inj hz
              rw [← h2]
              decide
            · have h2 : (V.bl (decide (("NoWeb" : Str) = "Twice"))) = z' := Option.some.inj hz
              rw [← h2]
              decide
          rw [this]
          rfl
      obtain ⟨j, hj, ev⟩ := ix
      exact s_retE (ev_strD (ep_ixL (K := K) (n := j) (EvP.newDp (ep_lstD (K := K) (ds := [.str "name", .str "twice", .str "noweb"]) (ea_consD (ep_str ev_c) (ea_consD (ep_str ev_c) (ea_consD (ep_str ev_c) ea_nilD))))) ev hj)) fun H6 e6 => k _ _ (e15.trans e6) rfl
/-! ### _law_shown -/
theorem turned_same {τ : List Nat} {m m' : Mad} (hr : Raw3m m) (hr' : Raw3m m') (I : Iso τ (rawW m.1 m.2) (rawW m'.1 m'.2)) : turnK m.1 τ = m'.1 ∧ sortBy tieD ((turnT m.2 τ).map plainT) = sortBy tieD (m'.2.map plainT) := by
  obtain ⟨ks, ts⟩ := m
  obtain ⟨ks', ts'⟩ := m'
  have hw : WOk (rawW ks ts) := hr.1
  have ord : Ord (rawW ks ts).n τ := I.ord
  have hl : τ.length = ks.length := ord.len
  have hn : ks'.length = ks.length := I.n
  constructor
  · show τ.map (fun i => ks.getD i Str.empty) = ks'
    refine List.ext_getElem ?_ fun i h1 h2 => ?_
    · rw [List.length_map, hl]
      exact hn.symm
    · have hi : i < ks.length := by omega
      have := I.kd i hi
      rw [List.getElem_map]
      have e1 : kindOf (rawW ks' ts') i = ks'[i] := by
        show ks'.getD i Str.empty = _
        rw [List.getD_eq_getElem?_getD, List.getElem?_eq_getElem h2]
        rfl
      rw [← e1, this, g_get (by omega)]
      rfl
  · have hR := turn_raw hw ord
    refine ties_eq (ks := turnK ks τ) (ks' := ks') (fun t ht => (hR.t t ht).ne) (fun t ht => (hr'.1.t t ht).ne) fun i j hij => ?_
    have b1 : bt (mkW (turnK ks τ) (turnT ts τ)) i j = bt (turnW (rawW ks ts) τ) i j := rfl
    by_cases c : i < ks.length ∧ j < ks.length
    · rw [b1, bt_turn hw ord c.1 c.2, bt_raw]
      exact (I.bt i j c.1 c.2 hij).symm
    · have z1 : bt (mkW (turnK ks τ) (turnT ts τ)) i j = [] := by
        rw [bt_raw]
        have : rawL (turnT ts τ) i j = [] := by
          cases h : rawL (turnT ts τ) i j with
          | nil => rfl
          | cons p l =>
            have q := rawL_lt (i := i) (j := j) hR (by
              show rawL (turnT ts τ) i j ≠ []
              rw [h]
              simp)
            rw [List.length_map, hl] at q
            exact absurd q c
        show sortP (rawL (turnT ts τ) i j) = []
        rw [this]
        exact List.Perm.eq_nil (sortBy_perm pairD [])
      have z2 : bt (mkW ks' ts') i j = [] := by
        rw [bt_raw]
        have : rawL ts' i j = [] := by
          cases h : rawL ts' i j with
          | nil => rfl
          | cons p l =>
            have q := rawL_lt (i := i) (j := j) hr'.1 (by rw [h]; simp)
            have hn' : (ks', ts').1.length = ks.length := hn
            rw [hn'] at q
            exact absurd q c
        show sortP (rawL ts' i j) = []
        rw [this]
        exact List.Perm.eq_nil (sortBy_perm pairD [])
      rw [z1, z2]
def spLShown (K : PySem.W.Frag) : Sp := spP (fun (x : Option (LRow × List Nat) × Mad) vs H => ∃ v rv mv, vs = [v, rv, mv] ∧ Dp K H mv (madD x.2) ∧ Raw3m x.2 ∧ (match x.1 with
    | none => v = .non ∧ rv = .non
    | some (r, τ) => Dp K H rv (rowDt r) ∧ Raw3m r.m ∧ Iso τ (rawW r.m.1 r.m.2) (rawW x.2.1 x.2.2) ∧ ∃ t a, v = .ref t ∧ H t = some (.tup [.str r.name, .ref a]) ∧ H a = some (.lst (natsV τ)))) (fun _ _ v _ => v = .bl true)
theorem cal_law_shown (T : TX K mg) : Cal P w K mg base 2 "_law_shown" (spLShown K) [] := by
  refine T.cal d_law_shown (N := ["_law_found", "_law_row", "_law_made", "_law_order_here", "_law_place", "_law_due"]) (ps := ["_law_found", "_law_row", "_law_made"]) (List.mem_of_getElem? (i := 61) rfl) rfl (by decide +kernel) sc_law_shown (fun _ _ _ _ _ _ us hl => match us, hl with | [_, _, _], _ => rfl) (fun vs H Q E h => ?_) (fun cdv A outer s H vs Q E f hr h => ?_)
  · obtain ⟨z, ⟨v, rv, mv, rfl, _⟩, _⟩ := h
    rfl
  · obtain ⟨⟨o, m⟩, ⟨v, rv, mv, rfl, hm, hr3, ho⟩, k⟩ := h
    dsimp only at hm hr3 ho k
    have sc := sc_law_shown
    have c_law_whole := cal_law_whole (P := P) (w := w) (base := base) T
    have c_law_turned := cal_law_turned (P := P) (w := w) (base := base) T
    have c_law_plain := cal_law_plain (P := P) (w := w) (base := base) T
    refine ⟨_, pss_cons (ps_if (pt_cmpR op_isN (pv 1) (pe_non) (by rfl))
    (pss_one (ps_ret (pe_cmpR op_isN (pv 0) (pe_non) (by rfl))))
    (pss_nil))
    (pss_cons (ps_if (PW.pt (pw_or (pt_not (pt_val (pe_callB call_isiE (by rfl) (T.free "isinstance") (by decide +kernel) (pa_cons (pv 0) (pa_cons (pe_bltn (v := .ty "tuple") (by rfl) (T.free "tuple") (by decide +kernel) rfl) pa_nil))))) (pw_or (pt_cmpR op_ne (pe_callB call_len_seq (by rfl) (T.free "len") (by decide +kernel) (pa_cons (pv 0) pa_nil)) (pe_int) (by rfl)) (pw_or (pt_not (pt_val (pe_callB call_isiE (by rfl) (T.free "isinstance") (by decide +kernel) (pa_cons (pe_ix ix_tup (pv 0) (pe_int) (fun _ _ => rfl)) (pa_cons (pe_bltn (v := .ty "str") (by rfl) (T.free "str") (by decide +kernel) rfl) pa_nil))))) (pw_or1 (pt_cmpR op_ne (pe_ix ix_tup (pv 0) (pe_int) (fun _ _ => rfl)) (pe_ix ix_tup (pv 1) (pe_int) (fun _ _ => rfl)) (by rfl)))))))
    (pss_one (ps_ret (pe_bl)))
    (pss_nil))
    (pss_cons (ps_set (i := 3) sc.nd rfl (by first | exact Or.inl rfl | exact Or.inr rfl) (pe_ix ix_tup (pv 0) (pe_int) (fun _ _ => rfl)))
    (pss_cons (ps_if (PW.pt (pw_or (pt_not (pt_val (pe_callB call_isiE (by rfl) (T.free "isinstance") (by decide +kernel) (pa_cons (pv 3) (pa_cons (pe_bltn (v := .ty "list") (by rfl) (T.free "list") (by decide +kernel) rfl) pa_nil))))) (pw_or1 (pt_not (pt_val (pe_callB (cr_all rfl) (by rfl) (T.free "all") (by decide +kernel) (pa_cons (pe_lc (own := [("_law_place", 4)]) (g := gName 4) (tt := tYes) (te := _) rfl sc.nd (pi_list (pv 3)) (blkOk_by (own := [("_law_place", 4)]) rfl) (fun _ _ _ _ _ => pg_name (i := 4) sc.nd rfl (by first | exact Or.inl rfl | exact Or.inr rfl)) (fun _ _ _ _ _ => pts_nil) (fun _ _ _ _ _ => pe_c c_law_whole hr (by decide) rfl (pa_cons (pv 4) pa_nil))) pa_nil)))))))
    (pss_one (ps_ret (pe_bl)))
    (pss_nil))
    (pss_cons (ps_if (pt_cmpR (op_neP hr.units) (pe_callB (cr_sortD hr.units) (by rfl) (T.free "sorted") (by decide +kernel) (pa_cons (pv 3) pa_nil)) (pe_listRg rfl rfl (T.free "list") (prg_1 rfl (T.free "range") (pe_callB call_len_seq (by rfl) (T.free "len") (by decide +kernel) (pa_cons (pe_ix ix_tup (pv 2) (pe_int) (fun _ _ => rfl)) pa_nil)))) (by rfl))
    (pss_one (ps_ret (pe_bl)))
    (pss_nil))
    (pss_cons (ps_set (i := 5) sc.nd rfl (by first | exact Or.inl rfl | exact Or.inr rfl) (pe_c c_law_turned hr (by decide) rfl (pa_cons (pe_ix ix_tup (pv 1) (pe_int) (fun _ _ => rfl)) (pa_cons (pv 3) pa_nil))))
    (pss_one (ps_ret (pe_and (pe_cmpR (op_eqP hr.units) (pe_ix ix_tup (pv 5) (pe_int) (fun _ _ => rfl)) (pe_ix ix_tup (pv 2) (pe_int) (fun _ _ => rfl)) (by rfl)) (pe_one (pe_cmpR (op_eqP hr.units) (pe_c c_law_plain hr (by decide) rfl (pa_cons (pe_ix ix_tup (pv 5) (pe_int) (fun _ _ => rfl)) pa_nil)) (pe_c c_law_plain hr (by decide) rfl (pa_cons (pe_ix ix_tup (pv 2) (pe_int) (fun _ _ => rfl)) pa_nil)) (by rfl))))))))))), ?_⟩
    cases o with
    | none =>
      obtain ⟨rfl, rfl⟩ := ho
      refine q_when (et_test (ev_op (ev_var rfl) ev_c rv_isN)) (fun _ H1 e1 => ?_) (fun hb => by cases hb)
      exact s_retE (ev_op (ev_var rfl) ev_c rv_isN) fun H2 e2 => k _ _ (e1.trans e2) rfl
    | some rτ =>
      obtain ⟨r, τ⟩ := rτ
      obtain ⟨hrow, hrr, I, t, a, rfl, ht, ha⟩ := ho
      obtain ⟨rt, x0, rfl, hrt, hx0⟩ := row_tup hrow
      have hn3 := hr3.2
      have hord : Ord r.m.1.length τ := I.ord
      have hτ : τ.length = m.1.length := by rw [hord.len]; exact I.n.symm
      refine q_when (et_test (ev_op (ev_var rfl) ev_c rv_isN)) (fun hb => by cases hb) fun _ H1 e1 => ?_
      have ixf : ∀ {σ' : L2.St} {H' : Hp} {n : Nat} {y : V}, Ex H H' → σ'[0]? = some (some (.ref t)) → [V.str r.name, V.ref a][n]? = some y → Ev (tOp (rIxT K) (tVar 0) (tC (.int (n : Int)))) σ' H' y := fun e h hy => ev_op (ev_var h) ev_c (Evl.rv_ixT (st_of (e _ _ ht)) (atI_nat hy))
      have ixr : ∀ {σ' : L2.St} {H' : Hp} {n : Nat} {y : V}, Ex H H' → σ'[1]? = some (some (.ref rt)) → [x0, V.str r.name, V.str r.text][n]? = some y → Ev (tOp (rIxT K) (tVar 1) (tC (.int (n : Int)))) σ' H' y := fun e h hy => ev_op (ev_var h) ev_c (Evl.rv_ixT (ex_t e hrt) (atI_nat hy))
      have dt : ∀ {H' : Hp}, Ex H H' → Dp K H' (.ref t) (.tuple [.str r.name, natsD τ]) := fun e => .tup (st_of (e _ _ ht)) (.cons (.str _) (.cons (dp_natsV (e _ _ ha)) .nil))
      have ln := ev_lenT (K := K) (te := tVar 0) (σ := [some (.ref t), some (.ref rt), some mv, none, none, none]) (H := H1) (ep_varD rfl (dt e1))
      refine q_when (b := false) (et_or (a := false) (b := false) (et_not (et_B (ev_isiB (t := "tuple") (b := true) (ev_var rfl) (fun H2 e2 => .tup ((e1.trans e2) _ _ ht)) (by decide +kernel)))) fun _ => et_or (a := false) (b := false) (et_test (ev_op ln ev_c (rv_ne rfl))) fun _ => et_or (a := false) (b := false) (et_not (et_B (ev_isiB (t := "str") (b := true) (ixf (n := 0) e1 rfl rfl) (fun _ _ => .str _) (by decide +kernel)))) fun _ => ?_) (fun hb => by cases hb) fun _ H2 e2 => ?_
      · have q := et_test (ev_op (σ := [some (.ref t), some (.ref rt), some mv, none, none, none]) (H := H1) (ixf (n := 0) e1 rfl rfl) (ixr (n := 1) e1 rfl rfl) (rv_ne (x := .str r.name) (y := .str r.name) rfl))
        rwa [show (!decide (V.str r.name = V.str r.name)) = false by rw [decide_eq_true rfl]; rfl] at q
      · have e12 := e1.trans e2
        refine q_asg (ixf (n := 1) e12 rfl rfl) fun H3 e3 => ?_
        have e13 := e12.trans e3
        have all := ev_all (K := K) (σ := [some (.ref t), some (.ref rt), some mv, some (.ref a), none, none]) (H := H3) (H0 := H3) (bs := τ.map fun _ => true) (te := tLc (iList K (tVar 3)) (gName 4) tYes (tCall spWhole [] C8.E0 (tCons (tVar 4) tNil)) [4])
          (by
            rw [List.map_map]
            refine ep_lcM (f := fun (j : Nat) => .int (j : Int)) (ep_varD rfl (dp_natsV (e13 _ _ ha))) (by omega) (fun _ _ => rfl) (fun x => rfl) fun i x H4 _ e4 hx => ?_
            cases hx
            exact ep_bl (ev_ofP (v := .bl true) (ep_call (i : Int) (eap_of (ea_cons (ev_var rfl) ea_nil)) (fun vs H5 e5 h => h) fun _ _ _ _ _ h => h)))
        have hall : ((τ.map fun _ => true).all id) = true := by simp
        rw [hall] at all
        refine q_when (b := false) (et_or (a := false) (b := false) (et_not (et_B (ev_isiB (t := "list") (b := true) (ev_var rfl) (fun H4 e4 => .lst ((e13.trans e4) _ _ ha)) (by decide +kernel)))) fun _ => et_not (et_B all)) (fun hb => by cases hb) fun _ H4 e4 => ?_
        have e14 := e13.trans e4
        have mk : ∀ {σ' : L2.St} {H' : Hp}, Ex H H' → σ'[2]? = some (some mv) → EvP (tOp (rIxT K) (tVar 2) (tC (.int 0))) σ' H' (DP K (.list (m.1.map .str))) := fun e h => ep_ixT (n := 0) (ep_varD (d := madD m) h (dp_ex e hm)) ev_c rfl
        have lnm : Ev (tCB (Evl.rLenS K) (tCons (tOp (rIxT K) (tVar 2) (tC (.int 0))) tNil)) [some (.ref t), some (.ref rt), some mv, some (.ref a), none, none] H4 (.int (m.1.length : Int)) := by
          have q := ev_lenL (mk (σ' := [some (.ref t), some (.ref rt), some mv, some (.ref a), none, none]) e14 rfl)
          rwa [List.length_map] at q
        have srt := ep_sortD (K := K) (σ := [some (.ref t), some (.ref rt), some mv, some (.ref a), none, none]) (H := H4) (te := tVar 3) (ds := natsL τ) (ep_varD rfl (dp_natsV (e14 _ _ ha))) (sortOk_ints τ (by omega))
        rw [show sortD (natsL τ) = natsL (List.range m.1.length) by rw [← hτ, hord.len]; exact sort_range hord] at srt
        have tst := rv_neP (K := K) (σ := [some (.ref t), some (.ref rt), some mv, some (.ref a), none, none]) (H := H4) (ta := tCB (rSortD K) (tCons (tVar 3) tNil)) (tb := tLstRg (tRg1 (tCB (Evl.rLenS K) (tCons (tOp (rIxT K) (tVar 2) (tC (.int 0))) tNil)))) (d := natsD (List.range m.1.length)) (e := natsD (List.range m.1.length)) (pd_nats _).pl (pd_nats _).pl (EvP.newDp srt) (EvP.newDp (ep_rangeL lnm (by omega)))
        rw [eqv_nats, decide_eq_true rfl] at tst
        refine q_when (et_test tst) (fun hb => by cases hb) fun _ H5 e5 => ?_
        have e15 := e14.trans e5
        obtain ⟨tk, tt⟩ := turned_same hrr hr3 I
        refine q_asgP (P := fun v H' => ∃ p ka ta, v = .ref p ∧ MadeAt K H' p ka ta (turnK r.m.1 τ) (turnT r.m.2 τ)) (ep_call (r.m.1, r.m.2, τ) (eap_of (vs := [x0, .ref a]) (ea_cons (ixr (n := 0) e15 rfl rfl) (ea_cons (ev_var rfl) ea_nil))) (fun vs H6 e6 h => by
          subst h
          exact ⟨x0, .ref a, rfl, dp_ex (e15.trans e6) hx0, dp_natsV ((e15.trans e6) _ _ ha), hrr, hord⟩) fun _ _ _ _ _ ⟨p, ka, ta, h1, h2, _⟩ => ⟨p, ka, ta, h1, h2⟩) fun v6 H6 e6 hv6 => ?_
        obtain ⟨p, ka, ta, rfl, mA⟩ := hv6
        rw [tk] at mA
        have e16 := e15.trans e6
        have dm := mA.dp
        have q1 := rv_eqP (K := K) (σ := [some (.ref t), some (.ref rt), some mv, some (.ref a), none, some (.ref p)]) (H := H6) (ta := tOp (rIxT K) (tVar 5) (tC (.int 0))) (tb := tOp (rIxT K) (tVar 2) (tC (.int 0))) (d := .list (m.1.map .str)) (e := .list (m.1.map .str)) (Pd.pl (pd_list (pd_map (fun _ => pd_str _) _))) (Pd.pl (pd_list (pd_map (fun _ => pd_str _) _))) (ep_ixT (n := 0) (ep_varD rfl dm) ev_c rfl) (mk e16 rfl)
        have refl1 : ∀ d : PyData, d.plain = true → PyData.eqv d d = true := fun d h => (eqv_iff (alike_self d h) h).mpr rfl
        rw [refl1 _ (pd_list (pd_map (fun _ => pd_str _) _)).1] at q1
        have pln : ∀ {te : TE} {us : List Tie}, us.length ≤ 12 → EvP te [some (.ref t), some (.ref rt), some mv, some (.ref a), none, some (.ref p)] H6 (DP K (.list (us.map tieD))) → EvP (tCall (spLPlain K) [] C8.E0 (tCons te tNil)) [some (.ref t), some (.ref rt), some mv, some (.ref a), none, some (.ref p)] H6 (DP K (.list ((sortBy tieD (us.map plainT)).map tieD))) := fun {te us} hu h => EvP.newDp (H0 := H6) (ep_call us (ea_consP (P := DP K (.list (us.map tieD))) h mo_dp ea_nilP) (fun vs H7 e7 g => by
          obtain ⟨x, r, rfl, g1, rfl⟩ := g
          exact ⟨x, rfl, g1, hu⟩) fun H7 v H8 e7 e8 g => NewL.up e7 g)
        have q2 := rv_eqP (K := K) (Pd.pl (pd_list (pd_map pd_tie (sortBy tieD ((turnT r.m.2 τ).map plainT))))) (Pd.pl (pd_list (pd_map pd_tie (sortBy tieD (m.2.map plainT))))) (pln (te := tOp (rIxT K) (tVar 5) (tC (.int 1))) (us := turnT r.m.2 τ) (by
            have := hrr.1.m
            unfold turnT
            rw [List.length_map]
            exact this) (ep_ixT (n := 1) (ep_varD rfl dm) ev_c rfl)) (pln (te := tOp (rIxT K) (tVar 2) (tC (.int 1))) (us := m.2) hr3.1.m (ep_ixT (n := 1) (ep_varD (d := madD m) rfl (dp_ex e16 hm)) ev_c rfl))
        rw [tt, refl1 _ (pd_list (pd_map pd_tie _)).1] at q2
        exact s_retE (Evl.ev_andV q1 fun _ => q2) fun H7 e7 => k _ _ (e16.trans e7) rfl
end
end L2.Tw
set_option Elab.async false
set_option linter.all false
set_option maxRecDepth 100000
set_option maxHeartbeats 4000000
set_option autoImplicit false
namespace L2.Tw
open PySem PySem.Spec PyProof.Rows L2
open C8 (Cal Met Mak pe_c pe_mk pe_mt pe_mt0 pe_gc InsC)
open Evl (Ex Ev EvT EvA fresh_back ex_l ex_t ex_rd sq_of st_of sz_of sz_lt ev_var ev_c ev_op rv_I0 rv_I rv_eq rv_ne et_test et_or et_and et_not et_B s_if ea_nil ea_cons q_asg q_when)
open _root_.TL (tl tl_append len_tl)
section
variable {P : Program} {w : World} {K : PySem.W.Frag} {mg : Str → Option Value} {base : Heap}
variable {σ : L2.St} {H : Hp} {ta tb te td ti tj ty tv : TE} {tA tr : TA} {D : Ends} {tz : TS} {Q : VK} {r : R2}
/-! ### _law_name -/
theorem cut_len (z : Str) (lo hi : Option Int) : (cutS z lo hi).length ≤ z.length := by
  rw [len_tl, tl_cut, List.length_take, List.length_drop, ← len_tl]
  omega
theorem rv_sign {s : Str} {ix : Int} (h0 : 0 ≤ ix) (h1 : ix < (s.length : Int)) (hs : s.length ≤ 1000) : ∃ c, Evl.RV rIxS (.str s) (.int ix) H (.str ⟨#[c]⟩) := by
  obtain ⟨j, rfl⟩ : ∃ j : Nat, ix = (j : Int) := ⟨ix.toNat, by omega⟩
  have hj : j < s.cps.toList.length := by
    have : s.cps.toList.length = s.length := (len_tl s).symm
    omega
  exact ⟨_, Evl.rv_ixS (by omega) (atI_nat (List.getElem?_eq_getElem hj))⟩
theorem ev_sign {s : Str} {ix : Int} (hl : Ev ta σ H (.str s)) (hi : Ev tb σ H (.int ix)) (h0 : 0 ≤ ix) (h1 : ix < (s.length : Int)) (hs : s.length ≤ 1000) : ∃ c, Ev (tOp rIxS ta tb) σ H (.str ⟨#[c]⟩) := by
  obtain ⟨c, hc⟩ := rv_sign (H := H) h0 h1 hs
  exact ⟨c, ev_op hl hi hc⟩
theorem rv_mulS {z : Str} {n : Int} (h : MulOk z n) : Evl.RV (fun x y H Q => ∃ (z : Str) (n : Int), x = .str z ∧ y = .int n ∧ MulOk z n ∧ Q (.str (Txt.mul z n)) H) (.str z) (.int n) H (.str (Txt.mul z n)) := fun H1 _ _ q => ⟨z, n, rfl, rfl, h, q H1 (Evl.Ex.refl H1)⟩
theorem ep_ix3 {H0 : Hp} {d0 d1 d2 : PyData} {i : Int} {P : PyData → Prop} (ha : EvP ta σ H (NewL K H0 [d0, d1, d2])) (hb : Ev tb σ H (.int i)) (h0 : 0 ≤ i) (h3 : i < 3) (p0 : P d0) (p1 : P d1) (p2 : P d2) : ∃ d, P d ∧ EvP (tOp (rIxL K) ta tb) σ H (DP K d) := by
  have : i = 0 ∨ i = 1 ∨ i = 2 := by omega
  rcases this with rfl | rfl | rfl
  · exact ⟨d0, p0, ep_ixL (n := 0) ha.newDp hb rfl⟩
  · exact ⟨d1, p1, ep_ixL (n := 1) ha.newDp hb rfl⟩
  · exact ⟨d2, p2, ep_ixL (n := 2) ha.newDp hb rfl⟩
theorem sg_len : (signs36 : Str).length = 36 := by decide
def spLName (K : PySem.W.Frag) : Sp := spAt K 2 (fun (_ : Unit) x vs _ => vs = [.ref x.sa, .ref x.at_]) (fun _ _ _ v _ => ∃ z : Str, v = .str z ∧ z.length ≤ 100)
theorem cal_law_name (T : TX K mg) : Cal P w K mg base 2 "_law_name" (spLName K) [] := by
  refine T.cal d_law_name (N := ["_law_script", "_law_at", "_law_signs", "_law_n", "_law_size", "_law_spot", "_law_stem", "_law_name_here", "_law_strange"]) (ps := ["_law_script", "_law_at"]) (List.mem_of_getElem? (i := 67) rfl) rfl (by decide +kernel) sc_law_name (fun _ _ _ _ _ _ us hl => match us, hl with | [_, _], _ => rfl) (fun vs H Q E h => ?_) (fun cdv A outer s H vs Q E f hr h => ?_)
  · obtain ⟨a, x, C, rfl, _⟩ := h
    rfl
  · obtain ⟨a, x, C, rfl, L, hC, k⟩ := h
    have sc := sc_law_name
    have c_law_next := cal_law_next (P := P) (w := w) (base := base) T
    refine ⟨_, pss_cons (ps_set (i := 2) sc.nd rfl (by first | exact Or.inl rfl | exact Or.inr rfl) (pe_str))
    (pss_cons (ps_set (i := 3) sc.nd rfl (by first | exact Or.inl rfl | exact Or.inr rfl) (pe_c c_law_next hr (by decide) rfl (pa_cons (pv 0) (pa_cons (pv 1) pa_nil))))
    (pss_cons (ps_set (i := 4) sc.nd rfl (by first | exact Or.inl rfl | exact Or.inr rfl) (pe_ix ix_list (pe_lst (pa_cons (pe_op op_mod (pe_op op_fdiv (pv 3) (pe_int)) (pe_int)) (pa_cons (pe_op op_mod (pe_op op_fdiv (pv 3) (pe_int)) (pe_int)) (pa_cons (pe_int) pa_nil)))) (pe_op op_mod (pv 3) (pe_int)) (fun _ _ => rfl)))
    (pss_cons (ps_set (i := 5) sc.nd rfl (by first | exact Or.inl rfl | exact Or.inr rfl) (pe_op op_mod (pe_op op_fdiv (pv 3) (pe_int)) (pe_op op_add (pv 4) (pe_int))))
    (pss_cons (ps_set (i := 6) sc.nd rfl (by first | exact Or.inl rfl | exact Or.inr rfl) (pe_op op_mul_str (pe_ix ix_str (pv 2) (pe_op op_mod (pe_op op_fdiv (pv 3) (pe_int)) (pe_int)) (fun _ _ => rfl)) (pv 4)))
    (pss_cons (ps_set (i := 7) sc.nd rfl (by first | exact Or.inl rfl | exact Or.inr rfl) (pe_op op_add_str (pe_op op_add_str (pe_slice sl_str (pv 6) po_none (po_some (pv 5))) (pe_ix ix_str (pv 2) (pe_op op_mul (pe_op op_mod (pe_c c_law_next hr (by decide) rfl (pa_cons (pv 0) (pa_cons (pv 1) pa_nil))) (pe_int)) (pe_int)) (fun _ _ => rfl))) (pe_slice sl_str (pv 6) (po_some (pv 5)) po_none)))
    (pss_cons (ps_if (pt_cmpR op_eq (pe_op op_mod (pe_op op_fdiv (pv 3) (pe_int)) (pe_int)) (pe_int) (by rfl))
    (pss_cons (ps_set (i := 8) sc.nd rfl (by first | exact Or.inl rfl | exact Or.inr rfl) (pe_str))
      (pss_one (ps_ret (pe_op op_add_str (pe_op op_add_str (pe_slice sl_str (pv 6) po_none (po_some (pv 5))) (pe_ix ix_str (pv 8) (pe_op op_mod (pe_op op_fdiv (pv 3) (pe_int)) (pe_int)) (fun _ _ => rfl))) (pe_slice sl_str (pv 6) (po_some (pv 5)) po_none)))))
    (pss_nil))
    (pss_cons (ps_if (pt_cmpR op_eq (pe_op op_mod (pe_op op_fdiv (pv 3) (pe_int)) (pe_int)) (pe_int) (by rfl))
    (pss_one (ps_ret (pe_ix ix_list (pe_lst (pa_cons (pe_str) (pa_cons (pe_op op_add_str (pv 7) (pe_op op_mul_str (pe_str) (pe_op op_sub (pe_int) (pv 4)))) (pa_cons (pe_op op_add_str (pv 7) (pe_op op_mul_str (pe_str) (pe_int))) pa_nil)))) (pe_op op_mod (pe_op op_fdiv (pv 3) (pe_int)) (pe_int)) (fun _ _ => rfl))))
    (pss_nil))
    (pss_one (ps_ret (pv 7)))))))))), ?_⟩
    refine q_asg (v := .str signs36) ev_c fun H0 e0 => ?_
    refine w_asg (w_next (L.more e0) (by omega) rfl rfl fun n H1 b1 L1 h0 h1 => ?_)
    have d7 : 0 ≤ n / 7 := Int.ediv_nonneg h0 (by omega)
    have m3 := mod_in (a := n) (m := 3) (by omega)
    have m73 := mod_in (a := n / 7) (m := 3) (by omega)
    have m720 := mod_in (a := n / 7) (m := 20) (by omega)
    obtain ⟨d, ⟨sz, rfl, z0, z19⟩, hd⟩ := ep_ix3 (K := K) (σ := [some (.ref x.sa), some (.ref x.at_), some (.str signs36), some (.int n), none, none, none, none, none]) (H := H1) (H0 := H1) (P := fun d => ∃ s : Int, d = .int s ∧ 0 ≤ s ∧ s ≤ 19)
      (ep_lstD (K := K) (ds := [.int (n / 7 % 3), .int (n / 7 % 20), .int 19]) (ea_consD (ep_int (ev_op (ev_op (ev_var (i := 3) rfl) ev_c (rv_I (C := CDiv) (g := fun i j => .int (i / j)) ⟨by decide, by decide⟩)) ev_c (rv_I (C := fun _ j => 0 < j) (g := fun i j => .int (i % j)) (by decide)))) (ea_consD (ep_int (ev_op (ev_op (ev_var (i := 3) rfl) ev_c (rv_I (C := CDiv) (g := fun i j => .int (i / j)) ⟨by decide, by decide⟩)) ev_c (rv_I (C := fun _ j => 0 < j) (g := fun i j => .int (i % j)) (by decide)))) (ea_consD (ep_int ev_c) ea_nilD))))
      (ev_op (ev_var (i := 3) rfl) ev_c (rv_I (C := fun _ j => 0 < j) (g := fun i j => .int (i % j)) (by decide))) m3.1 m3.2 ⟨_, rfl, by omega, by omega⟩ ⟨_, rfl, by omega, by omega⟩ ⟨_, rfl, by omega, by omega⟩
    refine q_asg (ev_intD hd) fun H2 e2 => ?_
    have mpos : (0 : Int) < sz + 1 := by omega
    have msp := mod_in (a := n / 420) (m := sz + 1) mpos
    obtain ⟨sp, hsp⟩ : ∃ sp : Int, sp = n / 420 % (sz + 1) := ⟨_, rfl⟩
    refine q_asg (v := .int sp) (by rw [hsp]; exact ev_op (ev_op (ev_var rfl) ev_c (rv_I ⟨by decide, by decide⟩)) (ev_op (ev_var rfl) ev_c rv_I0) (rv_I mpos)) fun H3 e3 => ?_
    have m36 := mod_in (a := n / 9) (m := 36) (by omega)
    obtain ⟨c1, hc1⟩ := ev_sign (σ := [some (.ref x.sa), some (.ref x.at_), some (.str signs36), some (.int n), some (.int sz), some (.int sp), none, none, none]) (H := H3) (ta := tVar 2) (tb := tOp (rI (fun _ j => 0 < j) fun i j => .int (i % j)) (tOp (rI CDiv fun i j => .int (i / j)) (tVar 3) (tC (.int 9))) (tC (.int 36))) (s := signs36) (ev_var rfl) (ev_op (ev_op (ev_var rfl) ev_c (rv_I ⟨by decide, by decide⟩)) ev_c (rv_I (by decide))) m36.1 (by rw [sg_len]; omega) (by rw [sg_len]; omega)
    have one : ∀ c : Nat, (⟨#[c]⟩ : Str).length = 1 := fun c => rfl
    obtain ⟨st, hst⟩ : ∃ st, st = Txt.mul ⟨#[c1]⟩ sz := ⟨_, rfl⟩
    have lst : st.length ≤ 19 := by
      rw [hst]
      exact len_mul_one (N := 19) rfl (by omega)
    refine q_asg (v := .str st) (by rw [hst]; exact ev_op hc1 (ev_var rfl) (rv_mulS (mulOk_of 1 19 (by rw [one]; omega) (by omega) (by omega) (by omega) (by omega)))) fun H4 e4 => ?_
    have e14 := e2.trans (e3.trans e4)
    have L4 := L1.more e14
    have cl1 : (cutS st none (some sp)).length ≤ 19 := Nat.le_trans (cut_len _ _ _) lst
    have cl2 : (cutS st (some sp) none).length ≤ 19 := Nat.le_trans (cut_len _ _ _) lst
    refine w_asg (w_op (w_op (w_ev (ev_slS (z := st) (ev_var rfl) Evl.eo_none (Evl.eo_some (ev_var rfl)) (by omega)) fun H5 e5 => w_op (w_ev (ev_var rfl) fun H6 e6 => w_op (w_op (w_next ((L4.more e5).more e6) (by omega) rfl rfl fun q H7 b7 L7 q0 q1 => w_ev ev_c fun H8 e8 => w_rv (rv_I (by decide)) fun H9 e9 => w_ev ev_c fun H10 e10 => w_rv (rv_I (by unfold CMul; omega)) fun H11 e11 => ?_))))))
    have mq := mod_in (a := q) (m := 4) (by omega)
    obtain ⟨c2, hc2⟩ := rv_sign (H := H11) (ix := q % 4 * 9) (s := signs36) (by omega) (by rw [sg_len]; omega) (by rw [sg_len]; omega)
    refine w_rv hc2 fun H12 e12 => ⟨_, _, rfl, rfl, sz_of (by rw [one]; omega), w_ev (ev_slS (z := st) (ev_var rfl) (Evl.eo_some (ev_var rfl)) Evl.eo_none (by omega)) fun H15 e15 => ⟨_, _, rfl, rfl, sz_of (by rw [str_len, one]; omega), ?_⟩⟩
    have e715 : Ex H7 H15 := e8.trans (e9.trans (e10.trans (e11.trans (e12.trans e15))))
    have L15 := L7.more e715
    have bH : But x.at_ H H15 := (((((ex_but e0 b1).ex (e2.trans (e3.trans e4))).ex (e5.trans e6)).trans b7).ex e715)
    obtain ⟨nm, hnm⟩ : ∃ nm, nm = cutS st none (some sp) ++ ⟨#[c2]⟩ ++ cutS st (some sp) none := ⟨_, rfl⟩
    have lnm : nm.length ≤ 39 := by
      rw [hnm, str_len, str_len, one]
      omega
    rw [← hnm]
    have fin : ∀ {z : Str} {H' : Hp}, Ex H15 H' → z.length ≤ 100 → Q (.str z) H' := fun e hz => k _ _ (bH.ex e) ((L15.more e).up (by omega) (by omega)) ⟨_, rfl, hz⟩
    refine q_when (et_test (ev_op (ev_op (ev_op (ev_var rfl) ev_c (rv_I ⟨by decide, by decide⟩)) ev_c (rv_I (by decide))) ev_c (rv_eq rfl))) (fun _ H16 e16 => ?_) fun _ H16 e16 => ?_
    · refine q_asg ev_c fun H17 e17 => ?_
      have m10 := mod_in (a := n / 6720) (m := 10) (by omega)
      have sl : (Str.ofString " ABZ_-.{}~").length = 10 := by decide
      obtain ⟨c3, hc3⟩ := ev_sign (σ := [some (.ref x.sa), some (.ref x.at_), some (.str signs36), some (.int n), some (.int sz), some (.int sp), some (.str st), some (.str nm), some (.str (Str.ofString " ABZ_-.{}~"))]) (H := H17) (ta := tVar 8) (tb := tOp (rI (fun _ j => 0 < j) fun i j => .int (i % j)) (tOp (rI CDiv fun i j => .int (i / j)) (tVar 3) (tC (.int 6720))) (tC (.int 10))) (s := Str.ofString " ABZ_-.{}~") (ev_var rfl) (ev_op (ev_op (ev_var rfl) ev_c (rv_I ⟨by decide, by decide⟩)) ev_c (rv_I (by decide))) m10.1 (by rw [sl]; omega) (by rw [sl]; omega)
      refine s_retE (ev_op (ev_op (ev_slS (z := st) (ev_var rfl) Evl.eo_none (Evl.eo_some (ev_var rfl)) (by omega)) hc3 (rv_addS (a := cutS st none (some sp)) (b := ⟨#[c3]⟩) (by rw [one]; omega))) (ev_slS (z := st) (ev_var rfl) (Evl.eo_some (ev_var rfl)) Evl.eo_none (by omega)) (rv_addS (a := cutS st none (some sp) ++ ⟨#[c3]⟩) (b := cutS st (some sp) none) (by rw [str_len, one]; omega))) fun H18 e18 => fin ((e16.trans e17).trans e18) ?_
      rw [str_len, str_len, one]
      omega
    · refine q_when (et_test (ev_op (ev_op (ev_op (ev_var rfl) ev_c (rv_I ⟨by decide, by decide⟩)) ev_c (rv_I (by decide))) ev_c (rv_eq rfl))) (fun _ H17 e17 => ?_) fun _ H17 e17 => ?_
      · have ml3 := mod_in (a := n / 6720) (m := 3) (by omega)
        have la : (Str.ofString "a").length = 1 := by decide
        have lz : (Str.ofString "0").length = 1 := by decide
        have k1 : (Txt.mul (Str.ofString "a") (20 - sz)).length ≤ 20 := by
          have := len_mul_leN (x := Str.ofString "a") (n := 20 - sz) (L := 1) (N := 20) (by omega) (by omega)
          omega
        have k2 : (Txt.mul (Str.ofString "0") 20).length ≤ 20 := by
          have := len_mul_leN (x := Str.ofString "0") (n := 20) (L := 1) (N := 20) (by omega) (by omega)
          omega
        obtain ⟨d, ⟨z, rfl, hz⟩, hd⟩ := ep_ix3 (K := K) (σ := [some (.ref x.sa), some (.ref x.at_), some (.str signs36), some (.int n), some (.int sz), some (.int sp), some (.str st), some (.str nm), none]) (H := H17) (H0 := H17) (P := fun d => ∃ s : Str, d = .str s ∧ s.length ≤ 100)
          (ep_lstD (K := K) (ds := [.str (Str.ofString ""), .str (nm ++ Txt.mul (Str.ofString "a") (20 - sz)), .str (nm ++ Txt.mul (Str.ofString "0") 20)]) (ea_consD (ep_str ev_c) (ea_consD (ep_str (ev_op (ev_var (i := 7) rfl) (ev_op ev_c (ev_op ev_c (ev_var (i := 4) rfl) (rv_I0 (g := fun i j => .int (i - j)))) (rv_mulS (mulOk_of 1 20 (by omega) (by omega) (by omega) (by omega) (by omega)))) (rv_addS (by omega)))) (ea_consD (ep_str (ev_op (ev_var (i := 7) rfl) (ev_op ev_c ev_c (rv_mulS (mulOk_of 1 20 (by omega) (by omega) (by omega) (by omega) (by omega)))) (rv_addS (by omega)))) ea_nilD))))
          (ev_op (ev_op (ev_var (i := 3) rfl) ev_c (rv_I (C := CDiv) (g := fun i j => .int (i / j)) (j := 6720) ⟨by decide, by decide⟩)) ev_c (rv_I (C := fun _ j => 0 < j) (g := fun i j => .int (i % j)) (j := 3) (by decide))) ml3.1 ml3.2 ⟨_, rfl, by decide⟩ ⟨_, rfl, by rw [str_len]; omega⟩ ⟨_, rfl, by rw [str_len]; omega⟩
        exact s_retE (ev_strD hd) fun H18 e18 => fin ((e16.trans e17).trans e18) hz
      · exact s_retE (ev_var rfl) fun H18 e18 => fin ((e16.trans e17).trans e18) (by omega)
end
end L2.Tw
set_option Elab.async false
set_option linter.all false
set_option maxRecDepth 100000
set_option maxHeartbeats 4000000
set_option autoImplicit false
namespace L2.Tw
open PySem PySem.Spec PyProof.Rows L2
open C8 (Cal Met Mak pe_c pe_mk pe_mt pe_mt0 pe_gc InsC)
open Evl (Ex Ev EvT EvA fresh_back ex_l ex_t ex_rd sq_of st_of sz_of sz_lt ev_var ev_c ev_op rv_I0 rv_I rv_eq rv_ne et_test et_or et_and et_not et_B s_if ea_nil ea_cons q_asg q_when)
section
variable {P : Program} {w : World} {K : PySem.W.Frag} {mg : Str → Option Value} {base : Heap}
variable {σ : L2.St} {H : Hp} {ta tb te td ti tj ty tv : TE} {tA tr : TA} {D : Ends} {tz : TS} {Q : VK} {r : R2}
/-- what both defs end with: (told, which(caught)) -/
theorem ret_pair {i j : Nat} {v : V} {o : Option Str} {vc : V} {E : XK} (hi : σ[i]? = some (some v)) (hj : σ[j]? = some (some vc)) (hc : CaughtAt K H vc o) (k : ∀ t H', Ex H H' → H' t = some (.tup [v, .str (whichS o)]) → D.rt (.ref t) H') :
    tRet (tTup (tCons (tVar i) (tCons (tCall (spWhich K) [] E (tCons (tVar j) tNil)) tNil))) D σ H := by
  refine s_retP (ep_tupA (ea_consV (v := v) (ev_var hi) (ea_consV (v := .str (whichS o)) (ev_ofP (ep_call o (eap_of (vs := [vc]) (ea_cons (ev_var hj) ea_nil)) (fun vs H1 e1 h => by
    subst h
    exact ⟨vc, rfl, hc.ex e1⟩) fun _ _ _ _ _ h => h)) ea_nilP)) (fun vs H1 h => ?_)) fun v1 H1 e1 hv => ?_
  · obtain ⟨r, rfl, r2, rfl, rfl⟩ := h
    simp
  · obtain ⟨t, vs, H2, rfl, _, _, h1, _, ⟨r, rfl, r2, rfl, rfl⟩, _⟩ := hv
    exact k t H1 e1 h1
def spLNote (K : PySem.W.Frag) : Sp := fun vs H Q _ => ∃ bp wp nm W rows hd S, vs = [.ref bp, .ref wp, .str nm] ∧ BookAt K (cut S H) bp hd rows ∧ Own H S ∧ WebAt K H wp W ∧ WOk W ∧ W.n ≤ 3 ∧ nm.length ≤ 1000 ∧ rows.length ≤ 50 ∧
  (nameOk nm = false → ∀ t H', Ex H H' → H' t = some (.tup [.non, .str "name"]) → Q (.ref t) H') ∧
  (nameOk nm = true → ∀ T, TextOf W T → (((∃ r ∈ rows, r.text = T) ∨ ∃ r ∈ rows, r.name = nm) → ∀ t H', Ex H H' → H' t = some (.tup [.non, .str "twice"]) → Q (.ref t) H') ∧
    ((∀ r ∈ rows, r.text ≠ T) → (∀ r ∈ rows, r.name ≠ nm) → ∀ t H', But hd H H' → BookAt K (cut S H') bp hd (rows ++ [⟨T, nm, copyW W⟩]) → H' t = some (.tup [.str T, .str "none"]) → Q (.ref t) H'))
theorem cal_law_note (T : TX K mg) (X3 : ∀ x ∈ exN, ExF K x) : Cal P w K mg base 24 "_law_note" (spLNote K) [] := by
  refine T.cal d_law_note (N := ["_law_book", "_law_web_here", "_law_name_here", "_law_told", "_law_caught", "error"]) (ps := ["_law_book", "_law_web_here", "_law_name_here"]) (List.mem_of_getElem? (i := 65) rfl) rfl (by decide +kernel) sc_law_note (fun _ _ _ _ _ _ us hl => match us, hl with | [_, _, _], _ => rfl) (fun vs H Q E h => ?_) (fun cdv A outer s H vs Q E f hr h => ?_)
  · obtain ⟨bp, wp, nm, W, rows, hd, S, rfl, _⟩ := h
    rfl
  · obtain ⟨bp, wp, nm, W, rows, hd, S, rfl, B, own, hw, hok, h3, hnm, hrl, kb, k⟩ := h
    have sc := sc_law_note
    have c_law_which := cal_law_which (P := P) (w := w) (base := base) T X3
    have m_Webbook_note := m_note (P := P) (w := w) (base := base) T X3
    refine ⟨_, pss_cons (ps_set (i := 3) sc.nd rfl (by first | exact Or.inl rfl | exact Or.inr rfl) (pe_non))
    (pss_cons (ps_set (i := 4) sc.nd rfl (by first | exact Or.inl rfl | exact Or.inr rfl) (pe_non))
    (pss_cons (ps_try_asT (i := 5) rfl rfl rfl sc.nd rfl rfl ⟨rfl, by decide, .inl (T.glo "WebError")⟩ takes0
    (fun W pn xe tk _ => pss_one (ps_set (i := 3) sc.nd rfl (by first | exact Or.inl rfl | exact Or.inr rfl) (pe_mtX m_Webbook_note hr (by decide) (fun σ => passAt tk σ) (pv 0) (pa_cons (pv 1) (pa_cons (pv 2) pa_nil)))))
    (fun a oe cls d pn hz hf => pss_one (ps_set (i := 4) sc.nd rfl (by first | exact Or.inl rfl | exact Or.inr rfl) (pv 5))))
    (pss_one (ps_ret (pe_tup (pa_cons (pv 3) (pa_cons (pe_c c_law_which hr (by decide) rfl (pa_cons (pv 4) pa_nil)) pa_nil))))))), ?_⟩
    refine q_asg ev_c fun H1 e1 => q_asg ev_c fun H2 e2 => ?_
    have e12 := e1.trans e2
    obtain ⟨dx, kvs, h1, h2, _⟩ := (B.more cut_ex).out
    have cat : ∀ {n : Str} {H' : Hp}, n ∈ exN → Ex H2 H' → (∀ t H'', Ex H' H'' → H'' t = some (.tup [.non, .str (whichS (some n))]) → Q (.ref t) H'') →
        WE (wAsT K (.ref (He.ga K "WebError")) 5 (fun a cls d => tAsg (tVar 5) (gName 4)) (fun _ _ _ _ => False) { nx := (fun σ H => tRet (tTup (tCons (tVar 3) (tCons (tCall (spWhich K) [] C8.E0 (tCons (tVar 4) tNil)) tNil))) { nx := fun _ H' => Q .non H', rt := Q } σ H), rt := Q }) [some (.ref bp), some (.ref wp), some (.str nm), some .non, some .non, none] (.ref (He.ga K n)) none H' := fun {n H'} hn e kq => by
      refine ⟨true, (X3 n hn).em, fun _ a ha => ?_, fun hb => by cases hb⟩
      refine ⟨_, rfl, fun hx => ?_⟩
      have ea : Ex H' (upd H' a (ExT (.ref (He.ga K n)) none a)) := Evl.Ex.new ha
      exact ret_pair (i := 3) (j := 4) (v := .non) (vc := .ref a) (o := some n) rfl rfl ⟨hn, a, rfl, upd_same⟩ fun t H'' e2 h => kq t H'' (ea.trans e2) h
    refine ⟨_, rfl, bp, dx, _, rfl, e12 _ _ h1, rfl, ⟨_, rfl, _, rfl, ?_⟩⟩
    refine ⟨bp, wp, nm, W, rows, hd, S, rfl, B.more (cut_mono e12), own.ex e12, web_ex e12 hw, hok, h3, hnm, hrl, fun hb H' e' => ?_, fun hb Tx hT => ⟨fun hx H' e' => ?_, fun q1 q2 H' b' B' => ?_⟩⟩
    · exact cat (n := "BadName") (by decide) e' fun t H'' e2 h => kb hb t H'' (e12.trans (e'.trans e2)) h
    · exact cat (n := "Twice") (by decide) e' fun t H'' e2 h => (k hb Tx hT).1 hx t H'' (e12.trans (e'.trans e2)) h
    · exact ret_pair (i := 3) (j := 4) (v := .str Tx) (vc := .non) (o := none) rfl rfl rfl fun t H'' e2 h => (k hb Tx hT).2 q1 q2 t H'' ((ex_but e12 b').ex e2) (B'.more (cut_mono e2)) h
def spLStrike (K : PySem.W.Frag) : Sp := fun vs H Q _ => ∃ bp wp W rows hd S, vs = [.ref bp, .ref wp] ∧ BookAt K (cut S H) bp hd rows ∧ Own H S ∧ WebAt K H wp W ∧ WOk W ∧ W.n ≤ 3 ∧
  ∀ T, TextOf W T → ((∀ r ∈ rows, r.text ≠ T) → ∀ t H', Ex H H' → H' t = some (.tup [.non, .str "noweb"]) → Q (.ref t) H') ∧
    (∀ r ∈ rows, r.text = T → ∀ t H', But hd H H' → BookAt K (cut S H') bp hd (rows.filter fun r => decide (r.text ≠ T)) → H' t = some (.tup [.str r.name, .str "none"]) → Q (.ref t) H')
theorem cal_law_strike (T : TX K mg) (X3 : ∀ x ∈ exN, ExF K x) : Cal P w K mg base 24 "_law_strike" (spLStrike K) [] := by
  refine T.cal d_law_strike (N := ["_law_book", "_law_web_here", "_law_told", "_law_caught", "error"]) (ps := ["_law_book", "_law_web_here"]) (List.mem_of_getElem? (i := 66) rfl) rfl (by decide +kernel) sc_law_strike (fun _ _ _ _ _ _ us hl => match us, hl with | [_, _], _ => rfl) (fun vs H Q E h => ?_) (fun cdv A outer s H vs Q E f hr h => ?_)
  · obtain ⟨bp, wp, W, rows, hd, S, rfl, _⟩ := h
    rfl
  · obtain ⟨bp, wp, W, rows, hd, S, rfl, B, own, hw, hok, h3, k⟩ := h
    have sc := sc_law_strike
    have c_law_which := cal_law_which (P := P) (w := w) (base := base) T X3
    have m_Webbook_strike := m_strike (P := P) (w := w) (base := base) T X3
    refine ⟨_, pss_cons (ps_set (i := 2) sc.nd rfl (by first | exact Or.inl rfl | exact Or.inr rfl) (pe_non))
    (pss_cons (ps_set (i := 3) sc.nd rfl (by first | exact Or.inl rfl | exact Or.inr rfl) (pe_non))
    (pss_cons (ps_try_asT (i := 4) rfl rfl rfl sc.nd rfl rfl ⟨rfl, by decide, .inl (T.glo "WebError")⟩ takes0
    (fun W pn xe tk _ => pss_one (ps_set (i := 2) sc.nd rfl (by first | exact Or.inl rfl | exact Or.inr rfl) (pe_mtX m_Webbook_strike hr (by decide) (fun σ => passAt tk σ) (pv 0) (pa_cons (pv 1) pa_nil))))
    (fun a oe cls d pn hz hf => pss_one (ps_set (i := 3) sc.nd rfl (by first | exact Or.inl rfl | exact Or.inr rfl) (pv 4))))
    (pss_one (ps_ret (pe_tup (pa_cons (pv 2) (pa_cons (pe_c c_law_which hr (by decide) rfl (pa_cons (pv 3) pa_nil)) pa_nil))))))), ?_⟩
    refine q_asg ev_c fun H1 e1 => q_asg ev_c fun H2 e2 => ?_
    have e12 := e1.trans e2
    obtain ⟨dx, kvs, h1, h2, _⟩ := (B.more cut_ex).out
    refine ⟨_, rfl, bp, dx, _, rfl, e12 _ _ h1, rfl, ⟨_, rfl, ?_⟩⟩
    refine ⟨bp, wp, W, rows, hd, S, rfl, B.more (cut_mono e12), own.ex e12, web_ex e12 hw, hok, h3, fun Tx hT => ⟨fun hx H' e' => ?_, fun r hr1 hr2 H' b' B' => ?_⟩⟩
    · refine ⟨true, (X3 "NoWeb" (by decide)).em, fun _ a ha => ?_, fun hb => by cases hb⟩
      refine ⟨_, rfl, fun hx2 => ?_⟩
      have ea : Ex H' (upd H' a (ExT (.ref (He.ga K "NoWeb")) none a)) := Evl.Ex.new ha
      exact ret_pair (i := 2) (j := 3) (v := .non) (vc := .ref a) (o := some "NoWeb") rfl rfl ⟨by decide, a, rfl, upd_same⟩ fun t H'' e2 h => (k Tx hT).1 hx t H'' (e12.trans (e'.trans (ea.trans e2))) h
    · exact ret_pair (i := 2) (j := 3) (v := .str r.name) (vc := .non) (o := none) rfl rfl rfl fun t H'' e2 h => (k Tx hT).2 r hr1 hr2 t H'' ((ex_but e12 b').ex e2) (B'.more (cut_mono e2)) h
end
end L2.Tw
set_option Elab.async false
set_option linter.all false
set_option maxRecDepth 100000
set_option maxHeartbeats 4000000
set_option autoImplicit false
namespace L2.Tw
open PySem PySem.Spec PyProof.Rows L2
open LamX (CodeO TabS Tabs ExtN TabB lam_make2)
/-! ### sorted(l, key=lambda y: y[2]), y a tuple of three, its last a text -/
section
variable {P : Program} {w : World} {A : Around} {s : Shared}
theorem lam_key {q y : Str} {params : Arguments} {scope : Scope} {j : Nat} {p1 p2 p3 : Pos} {pm ctv : Value} {c' f t : Addr} {its : Array Value} {k : Str} {tk0 : Tok}
    (hd : A.depth < recursionLimit) (hl : s.heap.NoLimit) (hf : s.heap.get? f = some (PySem.W.kla_obj "<lambda>" q params (.Subscript (.Name y p1) (.Constant (.int 2) j p2) p3) scope [] pm c' ctv))
    (hco : ∃ (oc : Obj) (vs : Array Value) (t : Tok), s.heap.get? c' = some oc ∧ oc.data = .fields vs ∧ vs[1]? = some (.str q t))
    (S1 : scope.isCoroutine = false) (S2 : scope.isGenerator = false) (S3 : scope.kind = .function) (S4 : ∀ x ∈ scope.names, x.2 ≠ .cell) (S5 : scope.names.lookup y = some .local)
    (hb : ∀ (cv v : Value), bindArgs (PySem.W.kla_fn "<lambda>" q params (.Subscript (.Name y p1) (.Constant (.int 2) j p2) p3) scope [] pm cv ctv) ⟨[v], []⟩ = pure [(y, v)])
    (ht : IsTup s.heap t its) (h3 : its.size = 3) (hi : its[2]? = some (.str k tk0)) (hy : (y == ("__debug__" : Str)) = false) :
    wpAny (model P w) A (call (.ref f) [.ref t]) (PySem.W.KeyPure (.str k) s) (fun _ _ => False) s := by
  obtain ⟨oc, vs, tq, hoc, hdc, hvq⟩ := hco
  refine wpAny_call (codeAny_mono (PySem.W.kla_callFunE (R := fun r s2 => ∃ v, r = .ok (.ret v) ∧ PySem.W.KeyPure (.str k) s v s2) hd hf rfl S1 S2 rfl ⟨c', oc, vs, tq, rfl, hoc, hdc, hvq⟩ ?_) fun r s2 hq => ?_)
  · rw [hb]
    refine wpAny_pure (wpAny_newFunctionEnv S4 (fun x hx => ?_) (fun h₁ hns hsb => ⟨hl.fresh _ hsb, ?_⟩) S3)
    · have : x = (y, Value.ref t) := by simpa using hx
      rw [this]
      exact S5
    · have kp : ∀ b o, s.heap.get? b = some o → h₁.get? b = some o := fun b o e => hsb.extBut b o (Nat.ne_of_lt (Heap.lt_size e)) (Heap.get?_push_of_some _ e)
      show codeAny _ _ (.expr (.Subscript (.Name y p1) (.Constant (.int 2) j p2) p3) (PySem.W.envX q scope s.heap.objs.size f (.ref c') [])) _ _
      refine PySem.W.kla_codeExpr ?_
      refine Subscript_ (wpAny_Name (wpAny_loadName_local (m := fun x => [(y, Value.ref t)].reverse.lookup x) (v := .ref t) S3 S5 hns (by simp) ?_) hy)
      refine wpAny_Constant_int ?_
      have ht1 : IsTup h₁ t its := by
        obtain ⟨o, e1, e2⟩ := ht
        exact ⟨o, kp _ _ e1, e2⟩
      refine subscriptTail_builtinR (s := { s with heap := h₁, toks := s.toks + [(y, Value.ref t)].length + 1 }) (x := .str k tk0) ht1.typeIs slot_tuple_getitem.lookup (getItem_tuple (j := 2) ht1 (by decide) (by decide) (by rw [h3]; rfl) hi ⟨rfl, ?_⟩)
      exact ⟨_, rfl, h₁, _, rfl, kp, .str k tk0⟩
  · obtain ⟨v, rfl, hp⟩ := hq
    exact hp
end
def tSortKL (K : PySem.W.Frag) (T : List (Addr × Str)) (te : TE) : TE := fun σ H Q => te σ H fun v H1 => ∃ (a : Addr) (xs : List V) (ks : List Str), v = .ref a ∧ SqL K H1 a xs ∧ Paired (fun x k => ∃ t u z, x = V.ref t ∧ SqT K H1 t [u, z, .str k]) xs ks ∧ xs.length ≤ 100000 ∧ Tabs T H1 ∧
  ∀ H2, ExtN H1 H2 → Tabs T H2 → ∀ p, H2 p = none → Q (.ref p) (upd H2 p (.lst (((xs.zip ks).mergeSort (PySem.W.dataLe false fun b => .str b.2)).map (·.1))))
section
variable {X : Cx}
theorem each_keysZ {K : PySem.W.Frag} {H : Hp} : ∀ {xs : List V} {us : List Value} {ks : List Str}, Vals xs us → Paired (fun x k => ∃ t u z, x = V.ref t ∧ SqT K H t [u, z, .str k]) xs ks → PySem.W.EachIs (fun (u : Value) (b : V × Str) => RelV b.1 u ∧ ∃ t z y, b.1 = V.ref t ∧ SqT K H t [z, y, .str b.2]) us (xs.zip ks)
  | [], _, _, r, h => by
    cases r
    cases h
    exact .nil
  | x :: xs, _, _, r, h => by
    cases r with
    | cons r1 r2 =>
      cases h with
      | cons h1 h2 => exact .cons ⟨r1, h1⟩ (each_keysZ r2 h2)
theorem each_valsF {Pb : V × Str → Prop} : ∀ {us : List Value} {bs : List (V × Str)}, PySem.W.EachIs (fun (u : Value) (b : V × Str) => RelV b.1 u ∧ Pb b) us bs → Vals (bs.map (·.1)) us
  | _, _, .nil => .nil
  | _, _, .cons h t => .cons h.1 (each_valsF t)
theorem sqT_extN {K : PySem.W.Frag} {H H' : Hp} {a : Addr} {xs : List V} (e : ExtN H H') (h : SqT K H a xs) : SqT K H' a xs := by
  rcases h with (h | ⟨u, h⟩) | h
  · exact Or.inl (Or.inl (e _ _ h fun ps z => by cases z))
  · exact Or.inl (Or.inr ⟨u, e _ _ h fun ps z => by cases z⟩)
  · exact Or.inr h
theorem sqL_extN {K : PySem.W.Frag} {H H' : Hp} {a : Addr} {xs : List V} (e : ExtN H H') (h : SqL K H a xs) : SqL K H' a xs := by
  rcases h with (h | ⟨u, h⟩) | h
  · exact Or.inl (Or.inl (e _ _ h fun ps z => by cases z))
  · exact Or.inl (Or.inr ⟨u, e _ _ h fun ps z => by cases z⟩)
  · exact Or.inr h
theorem pe_sortKL {T : List (Addr × Str)} {c Pt : Addr} {x y : Str} {params : Arguments} {scope : Scope} {j k : Nat} {p p1 p2 p3 lpos kpos pos np : Pos} {n : Str} {te : TE}
    (hg : Gl X x) (hm : X.mg x = none) (ha : PE X (.Name n np) te) (TB : TabB X.base X.mg c Pt) (hcode : X.env.code = .ref c) (hmT : (Pt, X.env.qual ++ "<lambda>") ∈ T) (hu : ∀ p ∈ T, p.1 = Pt → p.2 = X.env.qual ++ "<lambda>") (hr : Room k X.A)
    (hdef : defaultsOf params X.env = ([], [])) (S1 : scope.isCoroutine = false) (S2 : scope.isGenerator = false) (S3 : scope.kind = .function) (S4 : ∀ z ∈ scope.names, z.2 ≠ .cell) (S5 : scope.names.lookup y = some .local) (S6 : ∀ z ∈ scope.names, z.2 ≠ .free)
    (hb : ∀ (q : Str) (pm cv ctv v : Value), bindArgs (PySem.W.kla_fn "<lambda>" q params (.Subscript (.Name y p1) (.Constant (.int 2) j p2) p3) scope [] pm cv ctv) ⟨[v], []⟩ = pure [(y, v)])
    (hcl : cloFrom X.env.cells scope.names [] = []) (hv : bootBuiltins x = some (.builtin "sorted") := by decide +kernel) (hy : (y == ("__debug__" : Str)) = false := by decide) (hne : x ≠ "__name__" := by decide) (hdb : (x == ("__debug__" : Str)) = false := by decide) :
    PE X (.Call (.Name x p) [.Name n np] [⟨some "key", .Lambda params (.Subscript (.Name y p1) (.Constant (.int 2) j p2) p3) scope lpos, kpos⟩] pos) (tSortKL X.K T te) := by
  refine ⟨fun pins s σ H Q I h => ?_⟩
  refine wpAny_Call_Name_kw (ld_blt I hg hm hv ?_ hne hdb)
  refine PyProof.Rows.callWith_kw (thn ((pa_cons ha pa_nil).run pos pins s σ H (fun vs H1 => ∃ v, vs = [v] ∧ ∃ (a : Addr) (xs : List V) (ks : List Str), v = .ref a ∧ SqL X.K H1 a xs ∧ Paired (fun x k => ∃ t u z, x = V.ref t ∧ SqT X.K H1 t [u, z, .str k]) xs ks ∧ xs.length ≤ 100000 ∧ Tabs T H1 ∧
    ∀ H2, ExtN H1 H2 → Tabs T H2 → ∀ p, H2 p = none → Q (.ref p) (upd H2 p (.lst (((xs.zip ks).mergeSort (PySem.W.dataLe false fun b => .str b.2)).map (·.1))))) I ?_) fun us s1 ⟨vs, H1, I1, r1, q1⟩ => ?_)
  · have h' : te σ H fun v H1 => ∃ (a : Addr) (xs : List V) (ks : List Str), v = .ref a ∧ SqL X.K H1 a xs ∧ Paired (fun x k => ∃ t u z, x = V.ref t ∧ SqT X.K H1 t [u, z, .str k]) xs ks ∧ xs.length ≤ 100000 ∧ Tabs T H1 ∧
        ∀ H2, ExtN H1 H2 → Tabs T H2 → ∀ p, H2 p = none → Q (.ref p) (upd H2 p (.lst (((xs.zip ks).mergeSort (PySem.W.dataLe false fun b => .str b.2)).map (·.1)))) := h
    show te σ H fun v H1 => ∃ v', [v] = [v'] ∧ _
    have e : (fun (v : V) (H1 : Hp) => ∃ v', [v] = [v'] ∧ ∃ (a : Addr) (xs : List V) (ks : List Str), v' = .ref a ∧ SqL X.K H1 a xs ∧ Paired (fun x k => ∃ t u z, x = V.ref t ∧ SqT X.K H1 t [u, z, .str k]) xs ks ∧ xs.length ≤ 100000 ∧ Tabs T H1 ∧
        ∀ H2, ExtN H1 H2 → Tabs T H2 → ∀ p, H2 p = none → Q (.ref p) (upd H2 p (.lst (((xs.zip ks).mergeSort (PySem.W.dataLe false fun b => .str b.2)).map (·.1))))) = fun v H1 => ∃ (a : Addr) (xs : List V) (ks : List Str), v = .ref a ∧ SqL X.K H1 a xs ∧ Paired (fun x k => ∃ t u z, x = V.ref t ∧ SqT X.K H1 t [u, z, .str k]) xs ks ∧ xs.length ≤ 100000 ∧ Tabs T H1 ∧
        ∀ H2, ExtN H1 H2 → Tabs T H2 → ∀ p, H2 p = none → Q (.ref p) (upd H2 p (.lst (((xs.zip ks).mergeSort (PySem.W.dataLe false fun b => .str b.2)).map (·.1)))) := by
      funext v H1
      refine propext ⟨fun ⟨v', e, h⟩ => ?_, fun h => ⟨v, rfl, h⟩⟩
      have : v = v' := by simpa using e
      rw [this]
      exact h
    exact e ▸ h'
  · obtain ⟨v, rfl, a, xs, ks, rfl, hs, hp, hz, hT, hQ⟩ := q1
    rw [Vals.ref1 r1]
    show wpAny _ _ (evalAll ((do let v ← eval (.Lambda params (.Subscript (.Name y p1) (.Constant (.int 2) j p2) p3) scope lpos) X.env; standAt pos; pure v) :: [])) _ _ s1
    refine wpAny_evalAll_cons (wpAny_bind (lam_make2 I1 TB hcode hmT hu hT hdef (fun z hz e => absurd e (S6 z hz)) fun f c' pm ctv H2 s2 I2 eN T2 hf hfn hfr hco => wpAny_bind (wpAny_standAt (wpAny_pure (wpAny_evalAll_nil ?_)))))
    rw [hcl] at hf
    show wpAny _ _ (call (.builtin "sorted") [.ref a] [(Str.ofString "key", .ref f)]) _ _ s2
    have T1 := T2
    have hpx : Paired (fun x k => ∃ t u z, x = V.ref t ∧ SqT X.K H2 t [u, z, .str k]) xs ks := paired_mono hp fun x k ⟨t, u, z, h1, h2⟩ => ⟨t, u, z, h1, sqT_extN eN h2⟩
    obtain ⟨its, rv, hl, _⟩ := I2.list (sqL_extN eN hs)
    have en := each_keysZ rv hpx
    have hlen : (xs.zip ks).length = xs.length := by rw [List.length_zip, ← paired_len hp]; omega
    obtain ⟨⟨oc, vs, tq, hoc, hdc, hvq⟩, _, _⟩ := I2.hok c' _ hco
    refine PySem.W.sorted_key_data (b := false) (fun b : V × Str => PyData.str b.2) hl.isList en (PySem.W.AllAlike.of fun _ _ => rfl) (PySem.W.Sortable.others fun _ => ⟨fun z => (by cases z), fun xs z => (by cases z)⟩) (by rw [hlen]; exact Nat.le_trans hz (by decide)) (fun b _ => ?_) (PyProof.Rows.ksk_s1 _ _) (fun _ => PyProof.Rows.ksk_l1 _ _) (fun z => PyProof.Rows.ksk_t1 f z) (fun v b ⟨rb, t, z1, z2, hb1, ht⟩ _ h tk kp => ?_) fun out cc h' tk kp h0 hout ho eo => ?_
    · have := hr.units65
      have e0 : (PyData.str b.2).depth = 0 := by simp [PyData.depth]
      rw [e0]
      omega
    · obtain rfl : v = Value.ref t := by
        have rb' : RelV b.1 v := rb
        rw [hb1] at rb'
        exact rb'
      obtain ⟨ts, r', pl, _⟩ := I2.tuple ht
      cases r' with
      | cons q1 r' =>
        cases r' with
        | cons q2 r' =>
          cases r' with
          | cons q3 r' =>
            cases r'
            obtain ⟨tk0, rfl⟩ := q3
            have plh : ∀ {items : Array Value}, IsTup s2.heap t items → IsTup h t items := fun ⟨o, e1, e2⟩ => ⟨o, kp _ _ e1, e2⟩
            exact lam_key (s := { s2 with heap := h, toks := tk }) hr.depth (I2.nolimit.keeps kp) (kp _ _ hf) ⟨oc, vs, tq, kp _ _ hoc, hdc, hvq⟩ S1 S2 S3 S4 S5 (fun cv v => hb _ pm cv ctv v) (plh pl) rfl rfl hy
    · have va := each_valsF eo
      exact ⟨.ref _, upd H2 (s2.heap.objs.size + 1) (.lst (((xs.zip ks).mergeSort (PySem.W.dataLe false fun b => .str b.2)).map (·.1))), I2.laid kp (Nat.le_succ _) ⟨by rw [va.length, ho, hlen]; exact Nat.le_trans hz (by decide), out, cc, va, hout⟩, rfl, hQ H2 eN T2 _ (I2.hok.fresh (Nat.le_succ _))⟩
end
end L2.Tw
set_option Elab.async false
set_option linter.all false
set_option maxRecDepth 100000
set_option maxHeartbeats 4000000
set_option autoImplicit false
namespace L2.Tw
open PySem PySem.Spec PyProof.Rows L2
open C8 (Cal Met Mak pe_c pe_mk pe_mt pe_mt0 pe_gc InsC)
open Evl (Ex Ev EvT EvA fresh_back ex_l ex_t ex_rd sq_of st_of sz_of sz_lt ev_var ev_c ev_op rv_I0 rv_I rv_eq rv_ne et_test et_or et_and et_not et_B s_if ea_nil ea_cons q_asg q_when)
open LamX (CodeO TabS Tabs ExtN TabB)
/-! ### the order of the texts -/
theorem dle_str (a b : Str) : dle (.str a) (.str b) = !ltCps b.cps.toList a.cps.toList := by
  rw [dle_eq, PySem.W.dataLt_str, lt_meets]
theorem rising_pw : ∀ (p : Str) (l : List Str), risingS p l = true → (p :: l).Pairwise (fun a b => dle (.str a) (.str b) = true)
  | p, [], _ => by simp
  | p, x :: r, h => by
    have h' : (!ltCps x.cps.toList p.cps.toList && risingS x r) = true := h
    rw [Bool.and_eq_true] at h'
    have ih := rising_pw x r h'.2
    have hpx : dle (.str p) (.str x) = true := by rw [dle_str]; exact h'.1
    refine List.pairwise_cons.mpr ⟨fun y hy => ?_, ih⟩
    rcases List.mem_cons.mp hy with e | hy
    · rw [e]
      exact hpx
    · exact dle_total.trans _ _ _ hpx ((List.pairwise_cons.mp ih).1 y hy)
theorem sortedS_pw {l : List Str} (h : sortedS l = true) : l.Pairwise (fun a b => dle (.str a) (.str b) = true) := by
  cases l with
  | nil => exact List.Pairwise.nil
  | cons p l => exact rising_pw p l h
def sortR (rows : List LRow) : List LRow := rows.mergeSort (PySem.W.dataLe false fun r => .str r.text)
theorem sortR_texts {rows : List LRow} {ys : List Str} (hp : ys.Perm (rows.map (·.text))) (hs : sortedS ys = true) : ys = (sortR rows).map (·.text) := by
  refine List.Perm.eq_of_pairwise (le := fun a b => dle (.str a) (.str b) = true) (fun a b _ _ h1 h2 => ?_) (sortedS_pw hs) ?_ (hp.trans ((List.mergeSort_perm rows _).map _).symm)
  · have := dle_anti (by rfl) h1 h2
    exact PyData.str.inj this
  · rw [List.pairwise_map]
    exact PySem.W.sort_pairwise (PySem.W.sortLe_total _ false _) rows
theorem sort_zip {K : PySem.W.Frag} {H : Hp} {xs : List V} {rows : List LRow} (h : DpAll K H xs (rows.map rowDt)) : DpAll K H (((xs.zip (rows.map (·.text))).mergeSort (PySem.W.dataLe false fun b => .str b.2)).map (·.1)) ((sortR rows).map rowDt) := by
  have hl := DpAll.length h
  rw [List.length_map] at hl
  have e1 : (xs.zip rows).map (fun p => (p.1, p.2.text)) = xs.zip (rows.map (·.text)) := by
    rw [List.zip_map_right]
    exact List.map_congr_left fun p _ => rfl
  have s1 := PySem.W.sort_maps (r := fun a b : V × LRow => dle (.str a.2.text) (.str b.2.text)) (s := PySem.W.dataLe false fun b : V × Str => .str b.2) (fun p : V × LRow => (p.1, p.2.text)) (l := xs.zip rows) fun _ _ _ _ => rfl
  have s2 := PySem.W.sort_maps (r := fun a b : V × LRow => dle (.str a.2.text) (.str b.2.text)) (s := PySem.W.dataLe false fun r : LRow => .str r.text) (fun p : V × LRow => p.2) (l := xs.zip rows) fun _ _ _ _ => rfl
  rw [e1] at s1
  have e2 : (xs.zip rows).map (fun p : V × LRow => p.2) = rows := List.map_snd_zip (by omega)
  rw [e2] at s2
  rw [← s1, List.map_map]
  unfold sortR
  rw [← s2, List.map_map]
  have mem : ∀ p ∈ (xs.zip rows).mergeSort (fun a b : V × LRow => dle (.str a.2.text) (.str b.2.text)), Dp K H p.1 (rowDt p.2) := fun p hp => by
    have hz := (List.mergeSort_perm _ _).mem_iff.mp hp
    refine paired_zip (dpAll_paired h) p.1 (rowDt p.2) ?_
    rw [List.zip_map_right]
    exact List.mem_map.mpr ⟨p, hz, rfl⟩
  generalize (xs.zip rows).mergeSort (fun a b : V × LRow => dle (.str a.2.text) (.str b.2.text)) = l at mem ⊢
  induction l with
  | nil => exact .nil
  | cons p l ih => exact .cons (mem p List.mem_cons_self) (ih fun q hq => mem q (List.mem_cons_of_mem _ hq))
theorem row_keys {K : PySem.W.Frag} {H : Hp} : ∀ {xs : List V} {rows : List LRow}, DpAll K H xs (rows.map rowDt) → Paired (fun x k => ∃ t u z, x = V.ref t ∧ SqT K H t [u, z, .str k]) xs (rows.map (·.text))
  | [], [], _ => .nil
  | [], r :: rows, h => by cases h
  | x :: xs, [], h => by cases h
  | x :: xs, r :: rows, h => by
    cases h with
    | cons h1 h2 =>
      obtain ⟨t, x0, h3, h4, _⟩ := row_tup h1
      exact .cons ⟨t, x0, _, h3, h4⟩ (row_keys h2)
/-! ### all but the tables stays -/
section
variable {K : PySem.W.Frag} {H H' : Hp}
theorem dp_extN (e : ExtN H H') {v : V} {d : PyData} (h : Dp K H v d) : Dp K H' v d := dp_gen (fun _ _ => sqL_extN e) (fun _ _ => sqT_extN e) h
theorem dpAll_extN (e : ExtN H H') {vs : List V} {ds : List PyData} (h : DpAll K H vs ds) : DpAll K H' vs ds := dpAll_gen (fun _ _ => sqL_extN e) (fun _ _ => sqT_extN e) h
theorem links_extN {g : Addr} {f : Nat → Nat → List Pair} (e : ExtN H H') (h : LinksAt K H g f) : LinksAt K H' g f := by
  obtain ⟨kv, h1, h2⟩ := h
  exact ⟨kv, e _ _ h1 (fun ps z => by cases z), fun i j => ⟨(h2 i j).1, fun hn => by
    obtain ⟨v, h3, h4⟩ := (h2 i j).2 hn
    exact ⟨v, h3, dp_extN e h4⟩⟩⟩
theorem web_extN {p : Addr} {W : Wb} (e : ExtN H H') (h : WebAt K H p W) : WebAt K H' p W := by
  obtain ⟨dx, vk, vt, g, h1, h2, h3, h4⟩ := h.out
  exact ⟨dx, vk, vt, g, e _ _ h1 (fun ps z => by cases z), dp_extN e h2, dp_extN e h3, links_extN e h4⟩
theorem BookAt.extN {bp hd : Addr} {rows : List BRow} (B : BookAt K H bp hd rows) (e : ExtN H H') : BookAt K H' bp hd rows := by
  obtain ⟨dx, kvs, h1, h2, h3⟩ := B.out
  refine ⟨⟨dx, kvs, e _ _ h1 (fun ps z => by cases z), e _ _ h2 (fun ps z => by cases z), paired_mono h3 fun kv r ⟨g1, a, wp, g2, g3, g4, g5⟩ => ⟨g1, a, wp, g2, e _ _ g3 (fun ps z => by cases z), web_extN e g4, g5⟩⟩, B.nd, B.len⟩
theorem extN_ex {H'' : Hp} (e : ExtN H H') (e2 : Ex H' H'') : ExtN H H'' := fun b o h n => e2 _ _ (e b o h n)
end
section
variable {P : Program} {w : World} {K : PySem.W.Frag} {mg : Str → Option Value} {base : Heap}
variable {σ : L2.St} {H : Hp} {ta tb te td ti tj ty tv : TE} {tA tr : TA} {D : Ends} {tz : TS} {Q : VK} {r : R2}
/-- a def, its code object told -/
theorem TX.calC (T : TX K mg) (d : He.DefD) {N ps : List Str} {k : Nat} {sp : Sp} (hd : d ∈ fnL) (h0 : d.at_ = (d.name, none)) (gx : d.name ∈ gloL) (S : FnScope N ps d.scope)
    (hb : ∀ (kV doc pm : Value) (an : Option Addr) (cdv ct : Value) (us : List Value), us.length = ps.length → bindArgs (PySem.W.fnOf d.name d.qual d.params d.body d.scope .none kV doc pm an cdv ct) ⟨us, []⟩ = pure (ps.zip us))
    (len : ∀ vs H Q E, sp vs H Q E → vs.length = ps.length)
    (hbody : ∀ (A : Around) (outer : List Env) (s : Shared) (H : Hp) (vs : List V) (Q : VK) (E : XK) (f : Addr), Room k (A.deeper (envOfC d.qual d.scope s.heap.objs.size f (.ref (He.codeOf K d.at_)))) → sp vs H Q E →
      ∃ t, PSs (cxOf CX0 P w K mg base N d.qual d.scope f (.ref (He.codeOf K d.at_)) A outer s H E).nox d.body t ∧ t { nx := fun _ H' => Q .non H', rt := Q } (start N vs) H) : Cal P w K mg base (k + 1) d.name sp [] := by
  obtain ⟨fd, F⟩ := T.defs d hd
  refine ⟨_, fd, ps, [], ?_, ?_, F.kp, F.bindsN hb, .nil⟩
  · obtain ⟨oc, od, dV, kV, doc, pm, an, cdv, ct, osl, rfl, lk, hcd, _, _⟩ := F.ex
    obtain ⟨c, rfl⟩ := He.codeIn_ref hcd
    have ec := He.codeOf_eq lk rfl
    refine fn_of lk hcd S len fun A outer s H vs Q E hr hsp => ?_
    subst ec
    obtain ⟨t, h1, h2⟩ := hbody A outer s H vs Q E _ hr hsp
    exact ⟨t, h1.nox, h2⟩
  · rw [h0]
    exact T.glo d.name gx
theorem w_lcT {tl : TE} {g : TG} {t : TT} {vs : List Nat} (h : tl σ H (fun x H2 => tLc (iList K (tC x)) g t te vs σ H2 Q)) : tLc (iList K tl) g t te vs σ H Q := h
/-! ### _law_names_told -/
def lamQ : Str := ("_law_names_told" ++ ".<locals>.") ++ "<lambda>"
def lamT (Pt : Addr) : List (Addr × Str) := [(Pt, lamQ)]
structure Same (rows : List LRow) (brows : List BRow) : Prop where
  eq : brows.map (fun b => (b.text, b.name)) = rows.map (fun r => (r.text, r.name))
theorem Same.texts {rows : List LRow} {brows : List BRow} (s : Same rows brows) : brows.map (·.text) = rows.map (·.text) := by
  have := congrArg (List.map Prod.fst) s.eq
  rw [List.map_map, List.map_map] at this
  exact this
theorem Same.len {rows : List LRow} {brows : List BRow} (s : Same rows brows) : brows.length = rows.length := by
  have := congrArg List.length s.eq
  simpa using this
theorem Same.name {rows : List LRow} {brows : List BRow} (s : Same rows brows) (nd : (brows.map (·.text)).Nodup) {r : LRow} (h : r ∈ rows) : nameOf brows r.text = r.name := by
  have : (r.text, r.name) ∈ brows.map (fun b => (b.text, b.name)) := by
    rw [s.eq]
    exact List.mem_map.mpr ⟨r, h, rfl⟩
  obtain ⟨b, hb, e⟩ := List.mem_map.mp this
  obtain ⟨e1, e2⟩ := Prod.mk.inj e
  rw [← e1, nameOf_eq nd hb, e2]
theorem names_data {rows : List LRow} {brows : List BRow} {ys : List Str} (s : Same rows brows) (nd : (brows.map (·.text)).Nodup) (hp : ys.Perm (brows.map (·.text))) (hs : sortedS ys = true) : ys.map (fun t => PyData.str (nameOf brows t)) = (sortR rows).map fun r => .str r.name := by
  rw [s.texts] at hp
  rw [sortR_texts hp hs, List.map_map]
  refine List.map_congr_left fun r hr => ?_
  show PyData.str (nameOf brows r.text) = _
  rw [s.name nd ((List.mergeSort_perm _ _).mem_iff.mp hr)]
def spNamesTold (K : PySem.W.Frag) (Pt : Addr) : Sp := fun vs H Q _ => ∃ bp hd hl xs rows brows, vs = [.ref bp, .ref hl] ∧ BookAt K H bp hd brows ∧ SqL K H hl xs ∧ DpAll K H xs (rows.map rowDt) ∧ Same rows brows ∧ Tabs (lamT Pt) H ∧ ∀ H', ExtN H H' → Tabs (lamT Pt) H' → Q (.bl true) H'
theorem cal_law_names_told {Pt : Addr} (T : TX K mg) (TB : TabB base mg (He.codeOf K ("_law_names_told", none)) Pt) : Cal P w K mg base 2 "_law_names_told" (spNamesTold K Pt) [] := by
  refine T.calC d_law_names_told (N := ["_law_book", "_law_held", "_law_due", "_law_row", "_law_found"]) (ps := ["_law_book", "_law_held"]) (List.mem_of_getElem? (i := 63) rfl) rfl (by decide +kernel) sc_law_names_told (fun _ _ _ _ _ _ us hl => match us, hl with | [_, _], _ => rfl) (fun vs H Q E h => ?_) (fun A outer s H vs Q E f hr h => ?_)
  · obtain ⟨bp, hd, hl, xs, rows, brows, rfl, _⟩ := h
    rfl
  · obtain ⟨bp, hd, hl, xs, rows, brows, rfl, B, hs, hd', sm, hT, k⟩ := h
    have sc := sc_law_names_told
    have c_law_whole := cal_law_whole (P := P) (w := w) (base := base) T
    have m_Webbook_names := m_names (P := P) (w := w) (base := base) T
    have m_Webbook_many := m_many (P := P) (w := w) (base := base) T
    refine ⟨_, pss_cons (ps_setLc (i := 2) (own := [("_law_row", 3)]) (g := gName 3) (tt := tYes) (te := tOp (rIxT K) (_) (_)) rfl sc.nd rfl rfl (sw_true rfl rfl rfl (by decide +kernel)) (pi_list (pe_sortKL (T := lamT Pt) (by rfl) (T.free "sorted") (pv 1) TB rfl (List.mem_singleton.mpr rfl) (fun p hp _ => by rw [List.mem_singleton.mp hp] <;> rfl) hr rfl rfl rfl rfl (by decide +kernel) (by decide +kernel) (by decide +kernel) (fun _ _ _ _ _ => rfl) rfl)) (blkOk_by (own := [("_law_row", 3)]) rfl) (fun _ _ _ _ _ => pg_name (i := 3) sc.nd rfl (by first | exact Or.inl rfl | exact Or.inr rfl)) (fun _ _ _ _ _ => pts_nil) (fun _ _ _ _ _ => pe_ix ix_tup (pv 3) (pe_int) (fun _ _ => rfl)))
    (pss_cons (ps_set (i := 4) sc.nd rfl (by first | exact Or.inl rfl | exact Or.inr rfl) (pe_mt0 m_Webbook_names hr (by decide) (pv 0)))
    (pss_cons (ps_if (PW.pt (pw_or (pt_not (pt_val (pe_callB call_isiE (by rfl) (T.free "isinstance") (by decide +kernel) (pa_cons (pv 4) (pa_cons (pe_bltn (v := .ty "list") (by rfl) (T.free "list") (by decide +kernel) rfl) pa_nil))))) (pw_or (pt_cmpR (op_neP hr.units) (pv 4) (pv 2) (by rfl)) (pw_or1 (pt_not (pt_val (pe_c c_law_whole hr (by decide) rfl (pa_cons (pe_mt0 m_Webbook_many hr (by decide) (pv 0)) pa_nil))))))))
    (pss_one (ps_ret (pe_bl)))
    (pss_nil))
    (pss_cons (ps_expr (pe_bm PySem.F.plainAttrs_list PySem.F.slot_list_append PySem.F.type_list_append mt_append (pv 4) (pa_cons (pe_str) pa_nil)))
    (pss_one (ps_ret (pe_and (pe_cmpR (op_eqP hr.units) (pe_mt0 m_Webbook_names hr (by decide) (pv 0)) (pv 2) (by rfl)) (pe_one (pe_cmpR op_eq (pe_mt0 m_Webbook_many hr (by decide) (pv 0)) (pe_callB call_len_seq (by rfl) (T.free "len") (by decide +kernel) (pa_cons (pv 1) pa_nil)) (by rfl))))))))), ?_⟩
    have hlen := DpAll.length hd'
    rw [List.length_map] at hlen
    have sl := sm.len
    have bl := B.len
    have hk := row_keys hd'
    generalize hks : rows.map (·.text) = ks at hk
    refine q_set (w_lcT ⟨_, rfl, hl, xs, ks, rfl, hs, hk, by omega, hT, fun H2 eN T2 p hp => ?_⟩)
    subst hks
    have dS := sort_zip (dpAll_extN eN hd')
    generalize ((xs.zip (rows.map (·.text))).mergeSort (PySem.W.dataLe false fun b => .str b.2)).map (·.1) = L at dS ⊢
    have e3 : Ex H2 (upd H2 p (.lst L)) := Evl.Ex.new hp
    have p3 : (upd H2 p (.lst L)) p = some (.lst L) := upd_same
    have dS3 := dpAll_ex e3 dS
    generalize upd H2 p (.lst L) = H3 at e3 p3 dS3 ⊢
    have lS : (sortR rows).length = rows.length := (List.mergeSort_perm rows _).length_eq
    refine w_evP (ep_lcM (K := K) (l := sortR rows) (f := rowDt) (h := fun r => .str r.name) (ep_evD ev_c (.lst (sq_of p3) dS3)) (by omega) (fun _ _ => rfl) (fun x => rfl) fun r x H4 _ e4 hx => ?_) fun v H4 e4 hv => ?_
    · obtain ⟨t, x0, rfl, ht, _⟩ := row_tup hx
      exact ep_str (ev_op (ev_var rfl) ev_c (Evl.rv_ixT ht (atI_nat (j := 1) rfl)))
    have hv := hv.dp
    obtain ⟨due, rfl⟩ : ∃ due, v = .ref due := by
      cases hv with
      | lst _ _ => exact ⟨_, rfl⟩
    have e24 := e3.trans e4
    have B4 := (B.extN eN).more e24
    have hs4 := ex_l e24 (sqL_extN eN hs)
    obtain ⟨dx, kvs, h1, h2, _⟩ := B4.out
    have nms : ∀ {σ' : L2.St} {H5 : Hp}, Ex H4 H5 → σ'[0]? = some (some (.ref bp)) → EvP (tMeth (He.ga K "Webbook") "names" (spNames K) [] C8.E0 (tVar 0) tNil) σ' H5 (NewL K H5 ((sortR rows).map fun r => .str r.name)) := fun {σ' H5} e h =>
      ep_meth (bp, hd, brows) (ev_var h) (e _ _ h1) rfl ea_nilP (fun vs H6 e6 h => by
        subst h
        exact ⟨rfl, B4.more (e.trans e6)⟩) fun H6 v H7 e6 e7 ⟨ys, g1, g2, g3⟩ => by
        rw [names_data sm B.nd g1 g2] at g3
        exact NewL.up e6 g3
    have mny : ∀ {σ' : L2.St} {H5 : Hp}, Ex H4 H5 → σ'[0]? = some (some (.ref bp)) → Ev (tMeth (He.ga K "Webbook") "many" (spMany K) [] C8.E0 (tVar 0) tNil) σ' H5 (.int (brows.length : Int)) := fun {σ' H5} e h =>
      ev_ofP (ep_meth (bp, hd, brows) (ev_var h) (e _ _ h1) rfl ea_nilP (fun vs H6 e6 h => by
        subst h
        exact ⟨rfl, B4.more (e.trans e6)⟩) fun _ _ _ _ _ h => h)
    have pdN := Pd.pl (pd_list (pd_map (f := fun r : LRow => PyData.str r.name) (fun _ => pd_str _) (sortR rows)))
    have selfN : PyData.eqv (.list ((sortR rows).map fun r => .str r.name)) (.list ((sortR rows).map fun r => .str r.name)) = true := (eqv_iff (alike_self _ pdN.pl) pdN.pl).mpr rfl
    refine q_asgP (nms (Evl.Ex.refl _) rfl) fun v5 H5 e5 hv5 => ?_
    obtain ⟨fp, fxs, rfl, f0, f1, f2⟩ := hv5
    have tst := rv_neP (K := K) (σ := [some (.ref bp), some (.ref hl), some (.ref due), none, some (.ref fp)]) (H := H5) (ta := tVar 4) (tb := tVar 2) pdN pdN (ep_varD rfl (.lst (sq_of f1) f2)) (ep_varD rfl (dp_ex e5 hv))
    rw [selfN] at tst
    have who : Ev (tCall spWhole [] C8.E0 (tCons (tMeth (He.ga K "Webbook") "many" (spMany K) [] C8.E0 (tVar 0) tNil) tNil)) [some (.ref bp), some (.ref hl), some (.ref due), none, some (.ref fp)] H5 (.bl true) :=
      ev_ofP (ep_call ((brows.length : Nat) : Int) (eap_of (vs := [.int (brows.length : Int)]) (ea_cons (mny e5 rfl) ea_nil)) (fun vs H6 e6 h => h) fun _ _ _ _ _ h => h)
    refine q_when (b := false) (et_or (a := false) (b := false) (et_not (et_B (ev_isiB (t := "list") (b := true) (ev_var rfl) (fun H6 e6 => .lst (e6 _ _ f1)) (by decide +kernel)))) fun _ => et_or (a := false) (b := false) (et_test tst) fun _ => et_not (et_B who)) (fun hb => by cases hb) fun _ H6 e6 => ?_
    have fl := DpAll.length f2
    rw [List.length_map] at fl
    refine q_appP (P := DP K (.str "more")) (e6 _ _ f1) (ev_var rfl) (ep_str ev_c) (by omega) fun v7 H7 e7 _ => ?_
    have e4u : Ex H4 (upd H7 fp (.lst (fxs ++ [v7]))) := ex_upd (e5.trans (e6.trans e7)) f0
    generalize upd H7 fp (.lst (fxs ++ [v7])) = H8 at e4u ⊢
    have q1 := rv_eqP (K := K) (σ := [some (.ref bp), some (.ref hl), some (.ref due), none, some (.ref fp)]) (H := H8) (ta := tMeth (He.ga K "Webbook") "names" (spNames K) [] C8.E0 (tVar 0) tNil) (tb := tVar 2) pdN pdN (EvP.newDp (nms e4u rfl)) (ep_varD rfl (dp_ex e4u hv))
    rw [selfN] at q1
    have ln := Evl.ev_len (K := K) (σ := [some (.ref bp), some (.ref hl), some (.ref due), none, some (.ref fp)]) (H := H8) (ta := tVar 1) (ev_var rfl) (ex_l e4u hs4)
    rw [show (xs.length : Int) = (brows.length : Int) by omega] at ln
    have q2 := ev_op (mny (σ' := [some (.ref bp), some (.ref hl), some (.ref due), none, some (.ref fp)]) e4u rfl) ln (rv_eq rfl)
    refine s_retE (Evl.ev_andV q1 fun _ => q2) fun H9 e9 => ?_
    have e29 : Ex H2 H9 := e24.trans (e4u.trans e9)
    rw [decide_eq_true rfl]
    exact k _ (extN_ex eN e29) (T2.ext e29)
end
end L2.Tw
set_option Elab.async false
set_option linter.all false
set_option maxRecDepth 100000
set_option maxHeartbeats 4000000
set_option autoImplicit false
namespace L2.Tw
open PySem PySem.Spec PyProof.Rows L2
open C8 (Cal Met Mak pe_c pe_mk pe_mt pe_mt0 pe_gc InsC)
open Evl (Ex Ev EvT EvA fresh_back ex_l ex_t ex_rd sq_of st_of sz_of sz_lt ev_var ev_c ev_op rv_I0 rv_I rv_eq rv_ne et_test et_or et_and et_not et_B s_if ea_nil ea_cons q_asg q_when)
open LamX (CodeO TabS Tabs ExtN TabB)
/-! ### the state of the law's deeds -/
structure Bk where
  x : LIn
  Pt : Addr
  bp : Addr
  hd : Addr
  hl : Addr
  gl : Addr
def Bk.S (b : Bk) : Addr → Prop := fun a => a = b.x.at_ ∨ a = b.hl ∨ a = b.gl
def toB (r : LRow) : BRow := ⟨r.text, r.name, copyW (mkW r.m.1 r.m.2)⟩
structure RowOk (r : LRow) : Prop where
  m : Raw3m r.m
  t : TextOf (mkW r.m.1 r.m.2) r.text
  n : r.name.length ≤ 1000
structure DS (K : PySem.W.Frag) (b : Bk) (rows : List LRow) (gone : List Str) (H : Hp) (C : Int) : Prop where
  L : LS K b.x H C
  nt : ∀ a ps, b.x.H0 a ≠ some (.tbl ps)
  hl0 : b.x.H0 b.hl = none
  gl0 : b.x.H0 b.gl = none
  hd0 : b.x.H0 b.hd = none
  n1 : b.hl ≠ b.gl
  n2 : b.hl ≠ b.x.at_
  n3 : b.gl ≠ b.x.at_
  held : ∃ xs, H b.hl = some (.lst xs) ∧ DpAll K (cut b.S H) xs (rows.map rowDt)
  gst : H b.gl = some (.lst (gone.map .str))
  book : BookAt K (cut b.S H) b.bp b.hd (rows.map toB)
  tabs : Tabs (lamT b.Pt) H
  ok : ∀ r ∈ rows, RowOk r
  gok : ∀ g ∈ gone, g.length ≤ 1000
  glen : gone.length ≤ 1000
/-- what stands stays, but for the law's own lists, the book's dict, the tables -/
def Keep (b : Bk) (H H' : Hp) : Prop := ∀ q o, H q = some o → ¬ b.S q → q ≠ b.hd → (∀ ps, o ≠ .tbl ps) → H' q = some o
section
variable {K : PySem.W.Frag} {b : Bk} {rows : List LRow} {gone : List Str} {H H' H'' : Hp} {C C' : Int}
theorem Keep.of_ex (e : Ex H H') : Keep b H H' := fun q o h _ _ _ => e q o h
theorem Keep.trans (k : Keep b H H') (k' : Keep b H' H'') : Keep b H H'' := fun q o h n1 n2 n3 => k' q o (k q o h n1 n2 n3) n1 n2 n3
theorem Keep.of_S {y : Addr} (h : But y H H') (hy : b.S y) : Keep b H H' := fun q o hq n1 _ _ => h q o hq fun z => n1 (z ▸ hy)
theorem Keep.of_hd (h : But b.hd H H') : Keep b H H' := fun q o hq _ n2 _ => h q o hq n2
theorem Keep.of_extN (h : ExtN H H') : Keep b H H' := fun q o hq _ _ n3 => h q o hq n3
theorem Bk.S_at : b.S b.x.at_ := .inl rfl
theorem Bk.S_hl : b.S b.hl := .inr (.inl rfl)
theorem Bk.S_gl : b.S b.gl := .inr (.inr rfl)
theorem keep_l {kvs : List (L2.Key × V)} (hh : H b.hd = some (.dK kvs)) (k : Keep b H H') {a : Addr} {xs : List V} (h : SqL K (cut b.S H) a xs) : SqL K (cut b.S H') a xs := by
  have one : ∀ {o : HO}, cut b.S H a = some o → (∀ z, o ≠ .dK z) → (∀ z, o ≠ .tbl z) → cut b.S H' a = some o := fun {o} h1 h2 h3 =>
    cut_at (k a o (cut_ex _ _ h1) (cut_not h1) (fun z => by
      have := cut_ex _ _ h1
      rw [z, hh] at this
      exact h2 _ (Option.some.inj this).symm) h3) (cut_not h1)
  rcases h with (h | ⟨u, h⟩) | h
  · exact Or.inl (Or.inl (one h (fun z e => by cases e) fun z e => by cases e))
  · exact Or.inl (Or.inr ⟨u, one h (fun z e => by cases e) fun z e => by cases e⟩)
  · exact Or.inr h
theorem keep_t {kvs : List (L2.Key × V)} (hh : H b.hd = some (.dK kvs)) (k : Keep b H H') {a : Addr} {xs : List V} (h : SqT K (cut b.S H) a xs) : SqT K (cut b.S H') a xs := by
  have one : ∀ {o : HO}, cut b.S H a = some o → (∀ z, o ≠ .dK z) → (∀ z, o ≠ .tbl z) → cut b.S H' a = some o := fun {o} h1 h2 h3 =>
    cut_at (k a o (cut_ex _ _ h1) (cut_not h1) (fun z => by
      have := cut_ex _ _ h1
      rw [z, hh] at this
      exact h2 _ (Option.some.inj this).symm) h3) (cut_not h1)
  rcases h with (h | ⟨u, h⟩) | h
  · exact Or.inl (Or.inl (one h (fun z e => by cases e) fun z e => by cases e))
  · exact Or.inl (Or.inr ⟨u, one h (fun z e => by cases e) fun z e => by cases e⟩)
  · exact Or.inr h
theorem DS.hdK (s : DS K b rows gone H C) : ∃ kvs, H b.hd = some (.dK kvs) := by
  obtain ⟨dx, kvs, h1, h2, h3⟩ := s.book.out
  exact ⟨kvs, cut_ex _ _ h2⟩
theorem DS.keepD (s : DS K b rows gone H C) (k : Keep b H H') {v : V} {d : PyData} (h : Dp K (cut b.S H) v d) : Dp K (cut b.S H') v d := by
  obtain ⟨kvs, hh⟩ := s.hdK
  exact dp_gen (fun _ _ => keep_l hh k) (fun _ _ => keep_t hh k) h
theorem DS.keepA (s : DS K b rows gone H C) (k : Keep b H H') {vs : List V} {ds : List PyData} (h : DpAll K (cut b.S H) vs ds) : DpAll K (cut b.S H') vs ds := by
  obtain ⟨kvs, hh⟩ := s.hdK
  exact dpAll_gen (fun _ _ => keep_l hh k) (fun _ _ => keep_t hh k) h
theorem DS.own (s : DS K b rows gone H C) : Own H b.S := fun a h => by
  rcases h with rfl | rfl | rfl
  · obtain ⟨c, n, h, _⟩ := s.L.at_
    exact ⟨_, h⟩
  · obtain ⟨xs, h, _⟩ := s.held
    exact ⟨_, h⟩
  · exact ⟨_, s.gst⟩
theorem DS.ex (s : DS K b rows gone H C) (e : Ex H H') : DS K b rows gone H' C := by
  obtain ⟨xs, h1, h2⟩ := s.held
  exact ⟨s.L.more e, s.nt, s.hl0, s.gl0, s.hd0, s.n1, s.n2, s.n3, ⟨xs, e _ _ h1, dpAll_ex (cut_mono e) h2⟩, e _ _ s.gst, s.book.more (cut_mono e), s.tabs.ext e, s.ok, s.gok, s.glen⟩
theorem DS.up (s : DS K b rows gone H C) (h : C ≤ C') (h' : C' ≤ 1000000000) : DS K b rows gone H C' :=
  ⟨s.L.up h h', s.nt, s.hl0, s.gl0, s.hd0, s.n1, s.n2, s.n3, s.held, s.gst, s.book, s.tabs, s.ok, s.gok, s.glen⟩
theorem tabs_but {T : List (Addr × Str)} {y : Addr} {o : HO} (t : Tabs T H) (b : But y H H') (hy : H y = some o) (h1 : ∀ ps, o ≠ .tbl ps) (h2 : ∀ φ, o ≠ .ext φ) : Tabs T H' := fun p hp => by
  obtain ⟨ps, g1, g2, g3⟩ := t p hp
  have np : p.1 ≠ y := fun z => by
    rw [z, hy] at g1
    exact h1 _ (Option.some.inj g1)
  refine ⟨ps, b _ _ g1 np, g2, fun pos cv hc => ?_⟩
  obtain ⟨c, e1, e2⟩ := g3 pos cv hc
  have nc : c ≠ y := fun z => by
    rw [z, hy] at e2
    exact h2 _ (Option.some.inj e2)
  exact ⟨c, e1, b _ _ e2 nc⟩
/-- a number is drawn -/
theorem DS.draw (s : DS K b rows gone H C) (h : But b.x.at_ H H') (L' : LS K b.x H' C') : DS K b rows gone H' C' := by
  obtain ⟨xs, h1, h2⟩ := s.held
  obtain ⟨c, n, ha, _⟩ := s.L.at_
  have e : Ex (cut b.S H) (cut b.S H') := cut_butIn h Bk.S_at
  exact ⟨L', s.nt, s.hl0, s.gl0, s.hd0, s.n1, s.n2, s.n3, ⟨xs, h _ _ h1 s.n2, dpAll_ex e h2⟩, h _ _ s.gst s.n3, s.book.more e, tabs_but s.tabs h ha (fun _ z => by cases z) (fun _ z => by cases z), s.ok, s.gok, s.glen⟩
/-- the tables grow -/
theorem extN_cut {S : Addr → Prop} (e : ExtN H H') : ExtN (cut S H) (cut S H') := fun a o h n => cut_at (e a o (cut_ex _ _ h) n) (cut_not h)
theorem DS.tab (s : DS K b rows gone H C) (e : ExtN H H') (t : Tabs (lamT b.Pt) H') : DS K b rows gone H' C := by
  obtain ⟨xs, h1, h2⟩ := s.held
  obtain ⟨c, n, ha, hc⟩ := s.L.at_
  exact ⟨⟨s.L.scr, fun a o h => e _ _ (s.L.ex _ _ h) fun ps z => s.nt a ps (by rw [h, z]), s.L.a0, s.L.nl, ⟨c, n, e _ _ ha (fun _ z => by cases z), hc⟩, s.L.cb⟩, s.nt, s.hl0, s.gl0, s.hd0, s.n1, s.n2, s.n3,
    ⟨xs, e _ _ h1 (fun _ z => by cases z), dpAll_extN (extN_cut e) h2⟩, e _ _ s.gst (fun _ z => by cases z), s.book.extN (extN_cut e), t, s.ok, s.gok, s.glen⟩
/-- one list of the law's own changes: the held rows -/
theorem DS.setHeld {rows' : List LRow} {xs' : List V} (s : DS K b rows gone H C) (B : BookAt K (cut b.S H) b.bp b.hd (rows'.map toB)) (hx : DpAll K (cut b.S H) xs' (rows'.map rowDt)) (ok : ∀ r ∈ rows', RowOk r) : DS K b rows' gone (upd H b.hl (.lst xs')) C := by
  obtain ⟨xs, h1, h2⟩ := s.held
  have bt : But b.hl H (upd H b.hl (.lst xs')) := But.upd
  have e : Ex (cut b.S H) (cut b.S (upd H b.hl (.lst xs'))) := cut_butIn bt Bk.S_hl
  exact ⟨s.L.but bt s.hl0 s.n2, s.nt, s.hl0, s.gl0, s.hd0, s.n1, s.n2, s.n3, ⟨xs', upd_same, dpAll_ex e hx⟩, bt _ _ s.gst (Ne.symm s.n1), B.more e, tabs_but s.tabs bt h1 (fun _ z => by cases z) (fun _ z => by cases z), ok, s.gok, s.glen⟩
theorem DS.setGone {g : Str} (s : DS K b rows gone H C) (hg : g.length ≤ 1000) (hl : gone.length < 1000) : DS K b rows (gone ++ [g]) (upd H b.gl (.lst (gone.map .str ++ [.str g]))) C := by
  obtain ⟨xs, h1, h2⟩ := s.held
  have bt : But b.gl H (upd H b.gl (.lst (gone.map .str ++ [.str g]))) := But.upd
  have e : Ex (cut b.S H) (cut b.S (upd H b.gl (.lst (gone.map .str ++ [.str g])))) := cut_butIn bt Bk.S_gl
  refine ⟨s.L.but bt s.gl0 s.n3, s.nt, s.hl0, s.gl0, s.hd0, s.n1, s.n2, s.n3, ⟨xs, bt _ _ h1 s.n1, dpAll_ex e h2⟩, by rw [upd_same, List.map_append]; rfl, s.book.more e, tabs_but s.tabs bt s.gst (fun _ z => by cases z) (fun _ z => by cases z), s.ok, fun x hx => ?_, ?_⟩
  · rcases List.mem_append.mp hx with hx | hx
    · exact s.gok x hx
    · rw [show x = g by simpa using hx]
      exact hg
  · simp only [List.length_append, List.length_singleton]
    omega
/-- the book's dict changes; the rows are told anew -/
theorem DS.setBook {rows' : List LRow} {xs' : List V} (s : DS K b rows gone H C) (bt : But b.hd H H') (B : BookAt K (cut b.S H') b.bp b.hd (rows'.map toB)) (hx : DpAll K (cut b.S H') xs' (rows'.map rowDt)) (ok : ∀ r ∈ rows', RowOk r) : DS K b rows' gone (upd H' b.hl (.lst xs')) C := by
  obtain ⟨xs, h1, h2⟩ := s.held
  obtain ⟨kvs, hh⟩ := s.hdK
  obtain ⟨c, n, ha, hc⟩ := s.L.at_
  have nh : ∀ {a : Addr} {o : HO}, H a = some o → (∀ z, o ≠ .dK z) → a ≠ b.hd := fun h n z => by
    rw [z, hh] at h
    exact n _ (Option.some.inj h).symm
  have L' : LS K b.x H' C := ⟨s.L.scr, But.fresh s.L.ex bt s.hd0, s.L.a0, s.L.nl, ⟨c, n, bt _ _ ha (nh ha fun _ z => by cases z), hc⟩, s.L.cb⟩
  have b2 : But b.hl H' (upd H' b.hl (.lst xs')) := But.upd
  have e : Ex (cut b.S H') (cut b.S (upd H' b.hl (.lst xs'))) := cut_butIn b2 Bk.S_hl
  have t' := tabs_but s.tabs bt hh (fun _ z => by cases z) (fun _ z => by cases z)
  have h1' := bt _ _ h1 (nh h1 fun _ z => by cases z)
  exact ⟨L'.but b2 s.hl0 s.n2, s.nt, s.hl0, s.gl0, s.hd0, s.n1, s.n2, s.n3, ⟨xs', upd_same, dpAll_ex e hx⟩, b2 _ _ (bt _ _ s.gst (nh s.gst fun _ z => by cases z)) (Ne.symm s.n1), B.more e, tabs_but t' b2 h1' (fun _ z => by cases z) (fun _ z => by cases z), ok, s.gok, s.glen⟩
theorem DS.same (s : DS K b rows gone H C) : Same rows (rows.map toB) := ⟨by rw [List.map_map]; rfl⟩
theorem DS.texts (s : DS K b rows gone H C) : (rows.map (·.text)).Nodup := by
  have := s.book.nd
  rw [s.same.texts] at this
  exact this
theorem DS.len (s : DS K b rows gone H C) : rows.length ≤ 60 := by
  have := s.book.len
  rw [List.length_map] at this
  exact this
/-- a row's text is the web's if the webs are alike -/
theorem DS.look (s : DS K b rows gone H C) {m : Mad} {T : Str} (hm : Raw3m m) (hT : TextOf (mkW m.1 m.2) T) {r : LRow} (hr : r ∈ rows) : r.text = T ↔ isoM r.m m := by
  have o := s.ok r hr
  have := text_iso (mkW_ok o.m.1) (mkW_ok hm.1) o.m.2 hm.2 o.t hT
  rw [this]
  unfold isoM
  constructor
  · rintro ⟨τ, I⟩
    exact ⟨τ, iso_raw.mpr I⟩
  · rintro ⟨τ, I⟩
    exact ⟨τ, iso_raw.mp I⟩
theorem none_b {T : Str} (h : ∀ r ∈ rows, r.text ≠ T) : ∀ r ∈ rows.map toB, r.text ≠ T := fun r hr => by
  obtain ⟨x, hx, rfl⟩ := List.mem_map.mp hr
  exact h x hx
end
/-! ### rows taken out, rows found by their data -/
theorem erase_filter {rows : List LRow} (nd : (rows.map (·.text)).Nodup) {i : Nat} {r : LRow} (h : rows[i]? = some r) : (rows.map toB).filter (fun q => decide (q.text ≠ r.text)) = (rows.eraseIdx i).map toB := by
  induction rows generalizing i with
  | nil => simp at h
  | cons a rows ih =>
    rw [List.map_cons, List.nodup_cons] at nd
    cases i with
    | zero =>
      have : a = r := by simpa using h
      subst this
      rw [List.map_cons, List.filter_cons_of_neg (by simp [toB]), List.eraseIdx_cons_zero]
      refine List.filter_eq_self.mpr fun q hq => ?_
      obtain ⟨x, hx, rfl⟩ := List.mem_map.mp hq
      refine decide_eq_true fun z => nd.1 ?_
      exact List.mem_map.mpr ⟨x, hx, z⟩
    | succ i =>
      have h' : rows[i]? = some r := by simpa using h
      have : (toB a).text ≠ r.text := fun z => nd.1 (List.mem_map.mpr ⟨r, List.mem_of_getElem? h', z.symm⟩)
      rw [List.map_cons, List.filter_cons, if_pos (by simpa using this), List.eraseIdx_cons_succ, List.map_cons, ih nd.2 h']
theorem al_strs (l m : List Str) : PySem.W.alikeAll (l.map .str) (m.map .str) = true := al_map (fun _ _ => rfl) l m
theorem al_row (r q : LRow) : PySem.W.alike (rowDt r) (rowDt q) = true := by
  have h1 : PySem.W.alike (madD r.m) (madD q.m) = true := by
    show PySem.W.alike (.tuple [.list (r.m.1.map .str), .list (r.m.2.map tieD)]) (.tuple [.list (q.m.1.map .str), .list (q.m.2.map tieD)]) = true
    simp only [PySem.W.alike, PySem.W.alikeAll, al_strs, al_map al_tie, Bool.and_self]
  unfold rowDt
  simp only [PySem.W.alike, PySem.W.alikeAll, h1, Bool.and_self]
theorem pd_made (m : Mad) : Pd 3 (madD m) := pd_tuple fun d hd => by
  rcases List.mem_cons.mp hd with e | hd
  · subst e
    exact (pd_list (pd_map (fun _ => pd_str _) _)).up
  · have e : d = .list (m.2.map tieD) := by simpa using hd
    subst e
    exact pd_list (pd_map pd_tie _)
theorem pd_row' (r : LRow) : Pd 4 (rowDt r) := pd_tuple fun d hd => by
  rcases List.mem_cons.mp hd with e | hd
  · subst e
    exact pd_made r.m
  · rcases List.mem_cons.mp hd with e | hd
    · subst e
      exact (pd_str _).up
    · have e : d = .str r.text := by simpa using hd
      subst e
      exact (pd_str _).up
theorem row_eqv (r q : LRow) : PyData.eqv (rowDt q) (rowDt r) = true → q.text = r.text := fun h => by
  have := (eqv_iff (al_row q r) (pd_row' q).1).mp h
  unfold rowDt at this
  simp only [PyData.tuple.injEq, List.cons.injEq, PyData.str.injEq] at this
  exact this.2.2.1
theorem row_place {rows : List LRow} (nd : (rows.map (·.text)).Nodup) {i : Nat} {r : LRow} (h : rows[i]? = some r) : SeqAt.dataPlace (rows.map rowDt) (rowDt r) = some i := by
  unfold SeqAt.dataPlace
  obtain ⟨hi, e⟩ := List.getElem?_eq_some_iff.mp h
  refine List.findIdx?_eq_some_iff_getElem.mpr ⟨by rw [List.length_map]; exact hi, ?_, fun j hj => ?_⟩
  · rw [List.getElem_map, e]
    exact (eqv_iff (al_row r r) (pd_row' r).1).mpr rfl
  · rw [List.getElem_map]
    intro hz
    have ht := row_eqv _ _ hz
    have hj' : j < rows.length := Nat.lt_trans hj hi
    have := (List.getElem_inj nd (i := j) (j := i) (h₀ := by rw [List.length_map]; exact hj') (h₁ := by rw [List.length_map]; exact hi)).mp (by rw [List.getElem_map, List.getElem_map, ht, e])
    omega
theorem dpAll_erase {K : PySem.W.Frag} {H : Hp} : ∀ {vs : List V} {ds : List PyData} (i : Nat), DpAll K H vs ds → DpAll K H (vs.eraseIdx i) (ds.eraseIdx i)
  | _, _, i, .nil => by
    cases i <;> exact .nil
  | _, _, 0, .cons h t => t
  | _, _, i + 1, .cons h t => by
    rw [List.eraseIdx_cons_succ, List.eraseIdx_cons_succ]
    exact .cons h (dpAll_erase i t)
theorem inV_strs (l : List Str) (x : Str) : inV (.str x) (l.map .str) = decide (x ∈ l) := by
  unfold inV
  rw [List.any_map, Bool.eq_iff_iff, List.any_eq_true, decide_eq_true_eq]
  constructor
  · rintro ⟨y, hy, e⟩
    have e' : (y == x) = true := e
    rw [beq_iff_eq] at e'
    exact e' ▸ hy
  · intro h
    exact ⟨x, h, show (x == x) = true from beq_self_eq_true _⟩
theorem flat_strs (l : List Str) : (l.map V.str).all flatV = true := by
  rw [List.all_eq_true]
  intro v hv
  obtain ⟨a, _, rfl⟩ := List.mem_map.mp hv
  rfl
end L2.Tw
set_option Elab.async false
set_option linter.all false
set_option maxRecDepth 100000
set_option maxHeartbeats 4000000
set_option autoImplicit false
namespace L2.Tw
open PySem PySem.Spec PyProof.Rows L2
open C8 (Cal Met Mak pe_c pe_mk pe_mt pe_mt0 pe_gc InsC)
open Evl (Ex Ev EvT EvA fresh_back ex_l ex_t ex_rd sq_of st_of sz_of sz_lt ev_var ev_c ev_op rv_I0 rv_I rv_eq rv_ne et_test et_or et_and et_not et_B s_if ea_nil ea_cons q_asg q_when)
open LamX (CodeO TabS Tabs ExtN TabB)
section
variable {P : Program} {w : World} {K : PySem.W.Frag} {mg : Str → Option Value} {base : Heap}
variable {σ : L2.St} {H : Hp} {ta tb te td ti tj ty tv : TE} {tA tr : TA} {D : Ends} {tz : TS} {Q : VK} {r : R2}
/-- Web(list(made[0]), list(made[1])) -/
theorem ep_lweb {i : Nat} {mv : V} {m : Mad} {E : XK} (h : σ[i]? = some (some mv)) (hd : Dp K H mv (madD m)) (hr : Raw3m m) :
    EvP (tMake (He.ga K "Web") (spWeb K) [] E (tCons (tCB (Evl.rListS K) (tCons (tOp (rIxT K) (tVar i) (tC (.int 0))) tNil)) (tCons (tCB (Evl.rListS K) (tCons (tOp (rIxT K) (tVar i) (tC (.int 1))) tNil)) tNil))) σ H (fun v H' => ∃ p, v = .ref p ∧ H p = none ∧ WebAt K H' p (mkW m.1 m.2) ∧ ∀ S, Own H S → WebAt K (cut S H') p (mkW m.1 m.2)) :=
  ep_web m.1 m.2 hr.1 (ea_consD (ds := [.list (m.2.map tieD)]) (EvP.newDp (ep_listOf (K := K) (ds := m.1.map .str) (ep_ixT (n := 0) (ep_varD (d := madD m) h hd) ev_c rfl))) (ea_consD (EvP.newDp (ep_listOf (K := K) (ds := m.2.map tieD) (ep_ixT (n := 1) (ep_varD (d := madD m) h hd) ev_c rfl))) ea_nilD)) fun vs H1 e h => by
    cases h with
    | cons h1 h2 =>
      cases h2 with
      | cons h2 h3 =>
        cases h3
        exact ⟨_, _, rfl, h1, h2⟩
def RowIs (K : PySem.W.Frag) (Hc : Hp) (rows : List LRow) (m : Mad) (v : V) : Prop := (v = .non ∧ ∀ r ∈ rows, ¬ isoM r.m m) ∨ ∃ (i : Nat) (r : LRow) (p : Addr), v = .ref p ∧ rows[i]? = some r ∧ isoM r.m m ∧ Dp K Hc v (rowDt r)
theorem RowIs.ex {Hc Hc' : Hp} {rows : List LRow} {m : Mad} {v : V} (h : RowIs K Hc rows m v) (e : Ex Hc Hc') : RowIs K Hc' rows m v := by
  rcases h with h | ⟨i, r, p, h1, h2, h3, h4⟩
  · exact .inl h
  · exact .inr ⟨i, r, p, h1, h2, h3, dp_ex e h4⟩
theorem ep_lrow {b : Bk} {rows : List LRow} {gone : List Str} {C : Int} {i j : Nat} {mv : V} {m : Mad} {E : XK} (s : DS K b rows gone H C) (hi : σ[i]? = some (some (.ref b.hl))) (hj : σ[j]? = some (some mv)) (hm : Dp K H mv (madD m)) (hr : Raw3m m) :
    EvP (tCall (spRowOf K) [] E (tCons (tVar i) (tCons (tVar j) tNil))) σ H (fun v _ => RowIs K (cut b.S H) rows m v) := by
  obtain ⟨xs, h1, h2⟩ := s.held
  refine ep_call (xs, rows, m) (eap_of (vs := [.ref b.hl, mv]) (ea_cons (ev_var hi) (ea_cons (ev_var hj) ea_nil))) (fun vs H1 e1 h => by
    subst h
    exact ⟨b.hl, mv, rfl, sq_of (e1 _ _ h1), dpAll_ex (cut_ex.trans e1) h2, dp_ex e1 hm, hr, fun r hr => (s.ok r hr).m⟩) fun H1 v H2 e1 e2 h => ?_
  rcases h with h | ⟨k, r, p, g1, g2, g3, g4⟩
  · exact .inl h
  · obtain ⟨d, q1, q2⟩ := dpAll_get h2 g2
    rw [List.getElem?_map, g3] at q1
    cases q1
    exact .inr ⟨k, r, p, g1, g3, g4, q2⟩
theorem w_qdrop (h : te σ H fun _ H1 => tz D σ H1) : tSeq (tDrop te) tz D σ H := h
theorem names_of {rows : List LRow} {xs : List V} {i : Nat} (hl : SqL K H i xs) (hd : DpAll K H xs (rows.map rowDt)) (hz : rows.length ≤ 1000) {tl : TE} {j : Nat} {vs : List Nat} (h : Ev tl σ H (.ref i)) (hw : ∀ x, wipe ((wipe σ vs).set j (some x)) vs = wipe σ vs) (hj : ∀ x : V, ((wipe σ vs).set j (some x))[j]? = some (some x)) :
    EvP (tLc (iList K tl) (gName j) tYes (tOp (rIxT K) (tVar j) (tC (.int 1))) vs) σ H (NewL K H ((rows.map LRow.name).map .str)) := by
  rw [List.map_map]
  refine ep_lcM (K := K) (l := rows) (f := rowDt) (h := PyData.str ∘ LRow.name) (ep_evD h (.lst hl hd)) (by omega) (fun _ _ => rfl) hw fun r x H4 _ e4 hx => ?_
  obtain ⟨t, x0, rfl, ht, _⟩ := row_tup hx
  exact ep_str (ev_op (ev_var (hj _)) ev_c (Evl.rv_ixT ht (atI_nat (j := 1) rfl)))
theorem ev_inNames {nm : Str} {ns : List Str} {H0 : Hp} (ha : Ev ta σ H (.str nm)) (hb : EvP tb σ H (NewL K H0 (ns.map .str))) : Ev (tOp (rIn K false) ta tb) σ H (.bl (decide (nm ∈ ns))) := fun H1 e Q q =>
  ha H1 e _ fun H2 e2 => hb H2 (e.trans e2) _ fun v H3 e3 hv => by
    obtain ⟨p, xs, rfl, _, hp, hA⟩ := hv
    have hxs := dpAll_strs' hA
    subst hxs
    refine ⟨p, _, rfl, .inl (sq_of hp), rfl, flat_strs ns, ?_⟩
    show Q (.bl (inV (.str nm) (ns.map .str))) H3
    rw [inV_strs]
    exact q _ (e2.trans e3)
def spDeed (K : PySem.W.Frag) (Pt : Addr) : Sp := fun vs H Q _ => ∃ (b : Bk) (rows : List LRow) (gone : List Str) (C : Int) (mv : V) (m : Mad), b.Pt = Pt ∧ vs = [.ref b.x.sa, .ref b.x.at_, .ref b.bp, .ref b.hl, .ref b.gl, mv] ∧ DS K b rows gone H C ∧ C + 4 ≤ 1000000000 ∧ rows.length ≤ 45 ∧ gone.length ≤ 900 ∧ Dp K (cut b.S H) mv (madD m) ∧ Raw3m m ∧
  ∀ H' rows' gone', Keep b H H' → DS K b rows' gone' H' (C + 4) → rows'.length ≤ rows.length + 1 → gone'.length ≤ gone.length + 1 → Q (.bl true) H'
theorem cal_law_deed {Pt : Addr} (T : TX K mg) (X3 : ∀ x ∈ exN, ExF K x) : Cal P w K mg base 25 "_law_deed" (spDeed K Pt) [] := by
  refine T.cal d_law_deed (N := ["_law_script", "_law_at", "_law_book", "_law_held", "_law_gone", "_law_made", "_law_web_here", "_law_row", "_law_n", "_law_told", "_law_which_here", "_law_name_here", "_law_other"]) (ps := ["_law_script", "_law_at", "_law_book", "_law_held", "_law_gone", "_law_made"]) (List.mem_of_getElem? (i := 69) rfl) rfl (by decide +kernel) sc_law_deed (fun _ _ _ _ _ _ us hl => match us, hl with | [_, _, _, _, _, _], _ => rfl) (fun vs H Q E h => ?_) (fun cdv A outer s H vs Q E f hr h => ?_)
  · obtain ⟨b, rows, gone, C, mv, m, _, rfl, _⟩ := h
    rfl
  · obtain ⟨b, rows, gone, C, mv, m, rfl, rfl, s0, hC, hrl, hgl, hmv, hr3, kq⟩ := h
    have sc := sc_law_deed
    have k_Web := k_Web_ok (P := P) (w := w) (base := base) T
    have c_law_row_of := cal_law_row_of (P := P) (w := w) (base := base) T
    have c_law_next := cal_law_next (P := P) (w := w) (base := base) T
    have c_law_strike := cal_law_strike (P := P) (w := w) (base := base) T X3
    have c_law_note := cal_law_note (P := P) (w := w) (base := base) T X3
    have c_law_name := cal_law_name (P := P) (w := w) (base := base) T
    have c_law_is_name := cal_law_is_name (P := P) (w := w) (base := base) T
    have c_written := cal_written (P := P) (w := w) (base := base) T
    refine ⟨_, pss_cons (ps_set (i := 6) sc.nd rfl (by first | exact Or.inl rfl | exact Or.inr rfl) (pe_mk k_Web hr (by decide) rfl (pa_cons (pe_callTy call_list_of (by rfl) (T.free "list") (by decide +kernel) (pa_cons (pe_ix ix_tup (pv 5) (pe_int) (fun _ _ => rfl)) pa_nil)) (pa_cons (pe_callTy call_list_of (by rfl) (T.free "list") (by decide +kernel) (pa_cons (pe_ix ix_tup (pv 5) (pe_int) (fun _ _ => rfl)) pa_nil)) pa_nil))))
    (pss_cons (ps_set (i := 7) sc.nd rfl (by first | exact Or.inl rfl | exact Or.inr rfl) (pe_c c_law_row_of hr (by decide) rfl (pa_cons (pv 3) (pa_cons (pv 5) pa_nil))))
    (pss_cons (ps_set (i := 8) sc.nd rfl (by first | exact Or.inl rfl | exact Or.inr rfl) (pe_c c_law_next hr (by decide) rfl (pa_cons (pv 0) (pa_cons (pv 1) pa_nil))))
    (pss_cons (ps_if (pt_cmpR op_eq (pe_op op_mod (pv 8) (pe_int)) (pe_int) (by rfl))
    (pss_cons (ps_asg (pe_c c_law_strike hr (by decide) rfl (pa_cons (pv 2) (pa_cons (pv 6) pa_nil))) (pg_tup rfl (pgs_cons (pg_name (i := 9) sc.nd rfl (by first | exact Or.inl rfl | exact Or.inr rfl)) (pgs_cons (pg_name (i := 10) sc.nd rfl (by first | exact Or.inl rfl | exact Or.inr rfl)) (pgs_nil)))))
      (pss_cons (ps_if (pt_cmpR op_isN (pv 7) (pe_non) (by rfl))
      (pss_one (ps_ret (pe_cmpR op_eq (pv 10) (pe_str) (by rfl))))
      (pss_nil))
      (pss_cons (ps_expr (pe_bm PySem.F.plainAttrs_list PySem.F.slot_list_remove PySem.F.type_list_remove (mt_removeP hr.units65) (pv 3) (pa_cons (pv 7) pa_nil)))
      (pss_cons (ps_expr (pe_bm PySem.F.plainAttrs_list PySem.F.slot_list_append PySem.F.type_list_append mt_append (pv 4) (pa_cons (pe_ix ix_tup (pv 7) (pe_int) (fun _ _ => rfl)) pa_nil)))
      (pss_one (ps_ret (pe_and (pe_cmpR op_eq (pv 10) (pe_str) (by rfl)) (pe_and (pe_callB call_isiE (by rfl) (T.free "isinstance") (by decide +kernel) (pa_cons (pv 9) (pa_cons (pe_bltn (v := .ty "str") (by rfl) (T.free "str") (by decide +kernel) rfl) pa_nil))) (pe_one (pe_cmpR (op_eqP hr.units) (pv 9) (pe_ix ix_tup (pv 7) (pe_int) (fun _ _ => rfl)) (by rfl)))))))))))
    (pss_nil))
    (pss_cons (ps_set (i := 11) sc.nd rfl (by first | exact Or.inl rfl | exact Or.inr rfl) (pe_c c_law_name hr (by decide) rfl (pa_cons (pv 0) (pa_cons (pv 1) pa_nil))))
    (pss_cons (ps_if (PW.pt (pw_and (pt_cmpR op_eq (pe_op op_mod (pv 8) (pe_int)) (pe_int) (by rfl)) (pw_and1 (pt_cmpR op_gt (pe_callB call_len_seq (by rfl) (T.free "len") (by decide +kernel) (pa_cons (pv 3) pa_nil)) (pe_int) (by rfl)))))
    (pss_one (ps_set (i := 11) sc.nd rfl (by first | exact Or.inl rfl | exact Or.inr rfl) (pe_ix ix_tup (pe_ix ix_list (pv 3) (pe_op op_mod (pe_op op_fdiv (pv 8) (pe_int)) (pe_callB call_len_seq (by rfl) (T.free "len") (by decide +kernel) (pa_cons (pv 3) pa_nil))) (fun _ _ => rfl)) (pe_int) (fun _ _ => rfl))))
    (pss_nil))
    (pss_cons (ps_if (PW.pt (pw_and (pt_cmpR op_eq (pe_op op_mod (pv 8) (pe_int)) (pe_int) (by rfl)) (pw_and1 (pt_cmpR op_gt (pe_callB call_len_seq (by rfl) (T.free "len") (by decide +kernel) (pa_cons (pv 4) pa_nil)) (pe_int) (by rfl)))))
    (pss_one (ps_set (i := 11) sc.nd rfl (by first | exact Or.inl rfl | exact Or.inr rfl) (pe_ix ix_list (pv 4) (pe_un un_neg (pe_int)) (fun _ _ => rfl))))
    (pss_nil))
    (pss_cons (ps_asg (pe_c c_law_note hr (by decide) rfl (pa_cons (pv 2) (pa_cons (pv 6) (pa_cons (pv 11) pa_nil)))) (pg_tup rfl (pgs_cons (pg_name (i := 9) sc.nd rfl (by first | exact Or.inl rfl | exact Or.inr rfl)) (pgs_cons (pg_name (i := 10) sc.nd rfl (by first | exact Or.inl rfl | exact Or.inr rfl)) (pgs_nil)))))
    (pss_cons (ps_if (pt_not (pt_val (pe_c c_law_is_name hr (by decide) rfl (pa_cons (pv 11) pa_nil))))
    (pss_one (ps_ret (pe_cmpR op_eq (pv 10) (pe_str) (by rfl))))
    (pss_nil))
    (pss_cons (ps_if (PW.pt (pw_or (pt_cmpR op_notN (pv 7) (pe_non) (by rfl)) (pw_or1 (pt_cmpR op_in_seq (pv 11) (pe_lc (own := [("_law_other", 12)]) (g := gName 12) (tt := tYes) (te := tOp (rIxT K) (_) (_)) rfl sc.nd (pi_list (pv 3)) (blkOk_by (own := [("_law_other", 12)]) rfl) (fun _ _ _ _ _ => pg_name (i := 12) sc.nd rfl (by first | exact Or.inl rfl | exact Or.inr rfl)) (fun _ _ _ _ _ => pts_nil) (fun _ _ _ _ _ => pe_ix ix_tup (pv 12) (pe_int) (fun _ _ => rfl))) (by rfl)))))
    (pss_one (ps_ret (pe_cmpR op_eq (pv 10) (pe_str) (by rfl))))
    (pss_nil))
    (pss_cons (ps_expr (pe_bm PySem.F.plainAttrs_list PySem.F.slot_list_append PySem.F.type_list_append mt_append (pv 3) (pa_cons (pe_tup (pa_cons (pv 5) (pa_cons (pv 11) (pa_cons (pv 9) pa_nil)))) pa_nil)))
    (pss_one (ps_ret (pe_and (pe_cmpR op_eq (pv 10) (pe_str) (by rfl)) (pe_and (pe_callB call_isiE (by rfl) (T.free "isinstance") (by decide +kernel) (pa_cons (pv 9) (pa_cons (pe_bltn (v := .ty "str") (by rfl) (T.free "str") (by decide +kernel) rfl) pa_nil))) (pe_one (pe_cmpR (op_eqP hr.units) (pv 9) (pe_c c_written hr (by decide) rfl (pa_cons (pv 6) pa_nil)) (by rfl))))))))))))))))), ?_⟩
    obtain ⟨W, hW⟩ : ∃ W, W = mkW m.1 m.2 := ⟨_, rfl⟩
    have hok : WOk W := by rw [hW]; exact mkW_ok hr3.1
    have h3 : W.n ≤ 3 := by rw [hW]; exact hr3.2
    refine q_asgP (ep_lweb rfl (dp_ex cut_ex hmv) hr3) fun v1 H1 e1 hv1 => ?_
    obtain ⟨wp, rfl, _, _, hw⟩ := hv1
    have w1 := hw b.S s0.own
    rw [← hW] at w1
    have s1 := s0.ex e1
    refine q_asgP (ep_lrow s1 rfl rfl (dp_ex (cut_ex.trans e1) hmv) hr3) fun rv H2 e2 hrv => ?_
    have s2 := s1.ex e2
    have r2 := hrv.ex (cut_mono e2)
    refine w_asg (w_next s2.L (by omega) rfl rfl fun n H3 b3 L3 n0 n1 => ?_)
    have s3 := s2.draw b3 L3
    have c23 : Ex (cut b.S H2) (cut b.S H3) := cut_butIn b3 Bk.S_at
    have w3 := web_ex c23 (web_ex (cut_mono e2) w1)
    have r3 := r2.ex c23
    have k03 : Keep b H H3 := (Keep.of_ex (e1.trans e2)).trans (Keep.of_S b3 Bk.S_at)
    have look : ∀ {Tx : Str}, TextOf W Tx → ∀ r ∈ rows, r.text = Tx ↔ isoM r.m m := fun hT r hr => by
      rw [hW] at hT
      exact s0.look hr3 hT hr
    refine q_when (et_test (ev_op (ev_op (ev_var rfl) ev_c (rv_I (by decide))) ev_c (rv_eq rfl))) (fun _ H4 e4 => ?_) fun _ H4 e4 => ?_
    · -- strike
      have s4 := s3.ex e4
      have w4 := web_ex (cut_mono e4) w3
      have r4 := r3.ex (cut_mono e4)
      refine w_asgG (w_call ⟨_, rfl, _, rfl, ?_⟩)
      refine ⟨b.bp, wp, W, rows.map toB, b.hd, b.S, rfl, s4.book, s4.own, web_ex cut_ex w4, hok, h3, fun Tx hT => ⟨fun hno t H5 e5 ht => ?_, fun q hq1 hq2 t H5 b5 B5 ht => ?_⟩⟩
      · rcases r4 with ⟨rfl, _⟩ | ⟨i, r, p, rfl, hri, iso, _⟩
        · refine ⟨_, _, rfl, st_of ht, rfl, _, _, rfl, _, _, rfl, rfl, ?_⟩
          refine q_when (et_test (ev_op (ev_var rfl) ev_c rv_isN)) (fun _ H6 e6 => ?_) (fun hb => by cases hb)
          refine s_retE (ev_op (ev_var rfl) ev_c (rv_eq rfl)) fun H7 e7 => ?_
          have e47 := (e5.trans e6).trans e7
          rw [decide_eq_true rfl]
          exact kq _ rows gone (k03.trans (Keep.of_ex (e4.trans e47))) ((s4.ex e47).up (by omega) (by omega)) (by omega) (by omega)
        · have hr := List.mem_of_getElem? hri
          exact absurd ((look hT r hr).mpr iso) (hno (toB r) (List.mem_map.mpr ⟨r, hr, rfl⟩))
      · obtain ⟨r0, hr0, rfl⟩ := List.mem_map.mp hq1
        have hq2 : r0.text = Tx := hq2
        rcases r4 with ⟨_, hno⟩ | ⟨i, r, p, rfl, hri, iso, hdp⟩
        · exact absurd ((look hT r0 hr0).mp hq2) (hno r0 hr0)
        · have hr := List.mem_of_getElem? hri
          have ht1 : r.text = Tx := (look hT r hr).mpr iso
          have e0 : r0 = r := by
            obtain ⟨i0, hi0⟩ := List.getElem?_of_mem hr0
            have : i0 = i := nd_idx s0.texts (x := Tx) (by rw [List.getElem?_map, hi0]; show some r0.text = _; rw [hq2]) (by rw [List.getElem?_map, hri]; show some r.text = _; rw [ht1])
            subst this
            rw [hri] at hi0
            exact (Option.some.inj hi0).symm
          subst e0
          refine ⟨_, _, rfl, st_of ht, rfl, _, _, rfl, _, _, rfl, rfl, ?_⟩
          refine q_when (et_test (ev_op (ev_var rfl) ev_c rv_isN)) (fun hb => by cases hb) fun _ H6 e6 => ?_
          obtain ⟨xs, h1, h2⟩ := s4.held
          obtain ⟨kvs, hh⟩ := s4.hdK
          have hlhd : b.hl ≠ b.hd := ne_of h1 hh (by intro z; cases z)
          have h6 := e6 _ _ (b5 _ _ h1 hlhd)
          have d6 : DpAll K (cut b.S H6) xs (rows.map rowDt) := dpAll_ex (cut_mono e6) (s4.keepA (Keep.of_hd b5) h2)
          have p6 : Dp K (cut b.S H6) (.ref p) (rowDt r0) := dp_ex (cut_mono e6) (s4.keepD (Keep.of_hd b5) hdp)
          have hxl := DpAll.length h2
          rw [List.length_map] at hxl
          refine w_qdrop (w_bm ⟨_, rfl, Or.inl ⟨rfl, _, sq_of h6⟩, ⟨_, rfl, ?_⟩⟩)
          refine ⟨b.hl, .ref p, xs, rowDt r0, rows.map rowDt, i, rfl, rfl, h6, dpAll_ex cut_ex d6, dp_ex cut_ex p6, allPl (pd_map pd_row' rows), (pd_row' r0).pl, row_place s0.texts hri, ?_⟩
          have B6 : BookAt K (cut b.S H6) b.bp b.hd ((rows.eraseIdx i).map toB) := by
            rw [← ht1, erase_filter s0.texts hri] at B5
            exact B5.more (cut_mono e6)
          have s7 := s4.setBook (rows' := rows.eraseIdx i) (xs' := xs.eraseIdx i) (b5.ex e6) B6 (by rw [← eraseIdx_map]; exact dpAll_erase i d6) fun q hq => s0.ok q (List.mem_of_mem_eraseIdx hq)
          have p7 : Dp K (cut b.S (upd H6 b.hl (.lst (xs.eraseIdx i)))) (.ref p) (rowDt r0) := dp_ex (cut_butIn But.upd Bk.S_hl) p6
          have k67 : Keep b H6 (upd H6 b.hl (.lst (xs.eraseIdx i))) := Keep.of_S But.upd Bk.S_hl
          generalize upd H6 b.hl (.lst (xs.eraseIdx i)) = H7 at s7 p7 k67 ⊢
          obtain ⟨tt, x0, e00, ht0, _⟩ := row_tup p7
          cases e00
          refine q_appP (P := DP K (.str r0.name)) s7.gst (ev_var rfl) (ep_str (ev_op (ev_var rfl) ev_c (Evl.rv_ixT (ex_t cut_ex ht0) (atI_nat (j := 1) rfl)))) (by rw [List.length_map]; omega) fun v8 H8 e8 hv8 => ?_
          cases hv8
          have s8 := (s7.ex e8).setGone (g := r0.name) (s0.ok r0 hr0).n (by omega)
          have t8 : SqT K (upd H8 b.gl (.lst (gone.map .str ++ [.str r0.name]))) p [x0, .str r0.name, .str r0.text] := ex_t cut_ex (ex_t (cut_butIn But.upd Bk.S_gl) (ex_t (cut_mono e8) ht0))
          have k78 : Keep b H7 (upd H8 b.gl (.lst (gone.map .str ++ [.str r0.name]))) := (Keep.of_ex e8).trans (Keep.of_S But.upd Bk.S_gl)
          generalize upd H8 b.gl (.lst (gone.map .str ++ [.str r0.name])) = H9 at s8 t8 k78 ⊢
          have q := rv_eqP (K := K) (σ := [some (.ref b.x.sa), some (.ref b.x.at_), some (.ref b.bp), some (.ref b.hl), some (.ref b.gl), some mv, some (.ref wp), some (.ref p), some (.int n), some (.str r0.name), some (.str "none"), none, none]) (H := H9) (ta := tVar 9) (tb := tOp (rIxT K) (tVar 7) (tC (.int 1))) (pd_str r0.name).pl (pd_str r0.name).pl (ep_str (ev_var rfl)) (ep_str (ev_op (ev_var rfl) ev_c (Evl.rv_ixT t8 (atI_nat (j := 1) rfl))))
          rw [(eqv_iff (alike_self _ rfl) rfl).mpr rfl] at q
          refine s_retE (Evl.ev_andV (ev_op (ev_var rfl) ev_c (rv_eq rfl)) fun _ => Evl.ev_andV (ev_isiB (t := "str") (b := true) (ev_var rfl) (fun _ _ => .str _) (by decide +kernel)) fun _ => q) fun H10 e10 => ?_
          rw [decide_eq_true rfl]
          have hle : (rows.eraseIdx i).length ≤ rows.length := List.length_eraseIdx_le _ _
          refine kq _ (rows.eraseIdx i) (gone ++ [r0.name]) (k03.trans ((Keep.of_ex e4).trans ((Keep.of_hd b5).trans ((Keep.of_ex e6).trans (k67.trans (k78.trans (Keep.of_ex e10))))))) ((s8.ex e10).up (by omega) (by omega)) (by omega) ?_
          simp
    · -- note
      have s4 := s3.ex e4
      refine w_asg (w_at (K := K) () (ea_cons (ev_var rfl) (ea_cons (ev_var rfl) ea_nil)) s4.L (by omega) (fun _ _ => rfl) fun v H5 H6 e5 b6 L6 hv => ?_)
      obtain ⟨z0, rfl, hz0⟩ := hv
      have s6 := (s4.ex e5).draw b6 L6
      have c36 : Ex (cut b.S H3) (cut b.S H6) := (cut_mono (e4.trans e5)).trans (cut_butIn b6 Bk.S_at)
      have w6 := web_ex c36 w3
      have r6 := r3.ex c36
      have k06 : Keep b H H6 := k03.trans ((Keep.of_ex (e4.trans e5)).trans (Keep.of_S b6 Bk.S_at))
      have hm4 := mod_in (a := n) (m := 4) (by omega)
      obtain ⟨xs6, h6, d6⟩ := s6.held
      have hxl := DpAll.length d6
      rw [List.length_map] at hxl
      have len6 : ∀ {σ' : L2.St} {H' : Hp}, Ex H6 H' → σ'[3]? = some (some (.ref b.hl)) → Ev (tCB (Evl.rLenS K) (tCons (tVar 3) tNil)) σ' H' (.int (rows.length : Int)) := fun {σ' H'} e h => by
        have q := Evl.ev_len (K := K) (σ := σ') (H := H') (ta := tVar 3) (ev_var h) (sq_of (e _ _ h6))
        rwa [hxl] at q
      have lenG : ∀ {σ' : L2.St} {H' : Hp}, Ex H6 H' → σ'[4]? = some (some (.ref b.gl)) → Ev (tCB (Evl.rLenS K) (tCons (tVar 4) tNil)) σ' H' (.int (gone.length : Int)) := fun {σ' H'} e h => by
        have q := Evl.ev_len (K := K) (σ := σ') (H := H') (ta := tVar 4) (ev_var h) (sq_of (e _ _ s6.gst))
        rwa [List.length_map] at q
      refine q_whenI (fun σ' H' => ∃ nm : Str, σ' = [some (.ref b.x.sa), some (.ref b.x.at_), some (.ref b.bp), some (.ref b.hl), some (.ref b.gl), some mv, some (.ref wp), some rv, some (.int n), none, none, some (.str nm), none] ∧ nm.length ≤ 1000 ∧ Ex H6 H') (et_and (et_test (ev_op (ev_op (ev_var rfl) ev_c (rv_I (by decide))) ev_c (rv_eq rfl))) fun _ => et_test (ev_op (len6 (Evl.Ex.refl _) rfl) ev_c rv_I0)) (fun hb H7 e7 D' hk => ?_) (fun _ H7 e7 => ⟨z0, rfl, by omega, e7⟩) fun σ' H7 hP => ?_
      · obtain ⟨_, hb⟩ := and_true hb
        have hpos : (0 : Int) < (rows.length : Int) := of_decide_eq_true hb
        have hmq := mod_in (a := n / 4) (m := (rows.length : Int)) hpos
        obtain ⟨j, hj⟩ : ∃ j : Nat, n / 4 % (rows.length : Int) = (j : Int) := ⟨(n / 4 % (rows.length : Int)).toNat, by omega⟩
        have hjl : j < rows.length := by omega
        have hrj : rows[j]? = some rows[j] := List.getElem?_eq_getElem hjl
        obtain ⟨y, hy, dy⟩ := dpAll_get' d6 (i := j) (d := rowDt rows[j]) (by rw [List.getElem?_map, hrj]; rfl)
        obtain ⟨t, x0, rfl, ht, _⟩ := row_tup dy
        have lnq := len6 (σ' := [some (.ref b.x.sa), some (.ref b.x.at_), some (.ref b.bp), some (.ref b.hl), some (.ref b.gl), some mv, some (.ref wp), some rv, some (.int n), none, none, some (.str z0), none]) e7 rfl
        refine s_asgE (v := .str rows[j].name) (ev_op (ev_op (ev_var rfl) (ev_op (z := .int (j : Int)) (ev_op (ev_var rfl) ev_c (rv_I ⟨by decide, by decide⟩)) lnq (by rw [← hj]; exact rv_I (C := fun i j => 0 < j) (g := fun i j => .int (i % j)) hpos)) (Evl.rv_ixL (sq_of (e7 _ _ h6)) (atI_nat hy))) ev_c (Evl.rv_ixT (ex_t (cut_ex.trans e7) ht) (atI_nat (j := 1) rfl))) fun H8 e8 => hk _ _ ⟨_, rfl, (s0.ok _ (List.getElem_mem hjl)).n, e7.trans e8⟩
      · obtain ⟨z1, rfl, hz1, e67⟩ := hP
        refine q_whenI (fun σ' H' => ∃ nm : Str, σ' = [some (.ref b.x.sa), some (.ref b.x.at_), some (.ref b.bp), some (.ref b.hl), some (.ref b.gl), some mv, some (.ref wp), some rv, some (.int n), none, none, some (.str nm), none] ∧ nm.length ≤ 1000 ∧ Ex H6 H') (et_and (et_test (ev_op (ev_op (ev_var rfl) ev_c (rv_I (by decide))) ev_c (rv_eq rfl))) fun _ => et_test (ev_op (lenG e67 rfl) ev_c rv_I0)) (fun hb H8 e8 D' hk => ?_) (fun _ H8 e8 => ⟨z1, rfl, hz1, e67.trans e8⟩) fun σ' H8 hP => ?_
        · obtain ⟨_, hb⟩ := and_true hb
          have hpos : (0 : Int) < (gone.length : Int) := of_decide_eq_true hb
          obtain ⟨gz, hgz⟩ : ∃ gz, gone.getLast? = some gz := by
            cases e : gone.getLast? with
            | some gz => exact ⟨gz, rfl⟩
            | none =>
              rw [List.getLast?_eq_none_iff] at e
              rw [e] at hpos
              cases hpos
          have hlast : (gone.map V.str).getLast? = some (.str gz) := by
            rw [List.getLast?_map, hgz]
            rfl
          refine s_asgE (v := .str gz) (ev_op (ev_var rfl) (ev_neg ev_c) (Evl.rv_ixL (sq_of ((e67.trans e8) _ _ s6.gst)) (atI_neg1 hlast))) fun H9 e9 => hk _ _ ⟨_, rfl, s0.gok _ (List.mem_of_getLast? hgz), (e67.trans e8).trans e9⟩
        · obtain ⟨nm, rfl, hnm, e68⟩ := hP
          have s8 := s6.ex e68
          have w8 := web_ex (cut_mono e68) w6
          have r8 := r6.ex (cut_mono e68)
          have k08 := k06.trans (Keep.of_ex e68)
          -- what follows the note
          have isN : ∀ {told : V} {wh : Str} {H' : Hp}, EvT (tNot (tB (tCall spIsName [] C8.E0 (tCons (tVar 11) tNil)))) [some (.ref b.x.sa), some (.ref b.x.at_), some (.ref b.bp), some (.ref b.hl), some (.ref b.gl), some mv, some (.ref wp), some rv, some (.int n), some told, some (.str wh), some (.str nm), none] H' (!nameOk nm) := fun {told wh H'} =>
            et_not (et_B (ev_ofP (ep_call nm (eap_of (vs := [.str nm]) (ea_cons (ev_var rfl) ea_nil)) (fun vs H1 e1 h => ⟨h, hnm⟩) fun _ _ _ _ _ h => h)))
          have cond : ∀ {told : V} {wh : Str} {H' : Hp} {xs : List V}, SqL K H' b.hl xs → DpAll K H' xs (rows.map rowDt) → EvT (tOr (tTest (tOp (fun x y H Q => y = .non ∧ Q (.bl (!decide (x = .non))) H) (tVar 7) (tC .non))) (tTest (tOp (rIn K false) (tVar 11) (tLc (iList K (tVar 3)) (gName 12) tYes (tOp (rIxT K) (tVar 12) (tC (.int 1))) [12])))) [some (.ref b.x.sa), some (.ref b.x.at_), some (.ref b.bp), some (.ref b.hl), some (.ref b.gl), some mv, some (.ref wp), some rv, some (.int n), some told, some (.str wh), some (.str nm), none] H' (!decide (rv = .non) || decide (nm ∈ rows.map LRow.name)) := fun {told wh H' xs} h1 h2 =>
            et_or (et_test (ev_op (ev_var rfl) ev_c rv_notN)) fun _ => et_test (ev_inNames (ev_var rfl) (names_of h1 h2 (by omega) (ev_var rfl) (fun _ => rfl) fun _ => rfl))
          refine w_asgG (w_call ⟨_, rfl, _, rfl, _, rfl, ?_⟩)
          obtain ⟨kvs, hh⟩ := s8.hdK
          obtain ⟨xs8, h8, d8⟩ := s8.held
          have hlhd : b.hl ≠ b.hd := ne_of h8 hh (by intro z; cases z)
          refine ⟨b.bp, wp, nm, W, rows.map toB, b.hd, b.S, rfl, s8.book, s8.own, web_ex cut_ex w8, hok, h3, hnm, by rw [List.length_map]; omega, fun hb t H9 e9 ht => ?_, fun hb Tx hT => ⟨fun hx t H9 e9 ht => ?_, fun q1 q2 t H9 b9 B9 ht => ?_⟩⟩
          · refine ⟨_, _, rfl, st_of ht, rfl, _, _, rfl, _, _, rfl, rfl, ?_⟩
            refine q_when isN (fun _ H10 e10 => ?_) (fun h => by rw [hb] at h; cases h)
            refine s_retE (ev_op (ev_var rfl) ev_c (rv_eq rfl)) fun H11 e11 => ?_
            rw [decide_eq_true rfl]
            have e := (e9.trans e10).trans e11
            exact kq _ rows gone (k08.trans (Keep.of_ex e)) ((s8.ex e).up (by omega) (by omega)) (by omega) (by omega)
          · refine ⟨_, _, rfl, st_of ht, rfl, _, _, rfl, _, _, rfl, rfl, ?_⟩
            refine q_when isN (fun h => by rw [hb] at h; cases h) fun _ H10 e10 => ?_
            have e810 := e9.trans e10
            have hc : (!decide (rv = .non) || decide (nm ∈ rows.map LRow.name)) = true := by
              rcases hx with ⟨q, hq1, hq2⟩ | ⟨q, hq1, hq2⟩
              · obtain ⟨r0, hr0, rfl⟩ := List.mem_map.mp hq1
                rcases r8 with ⟨_, hno⟩ | ⟨i, r, p, rfl, _⟩
                · exact absurd ((look hT r0 hr0).mp hq2) (hno r0 hr0)
                · rfl
              · obtain ⟨r0, hr0, rfl⟩ := List.mem_map.mp hq1
                rw [Bool.or_eq_true]
                exact .inr (decide_eq_true (List.mem_map.mpr ⟨r0, hr0, hq2⟩))
            refine q_when (cond (sq_of (e810 _ _ h8)) (dpAll_ex (cut_ex.trans e810) d8)) (fun _ H11 e11 => ?_) (fun h => by rw [hc] at h; cases h)
            refine s_retE (ev_op (ev_var rfl) ev_c (rv_eq rfl)) fun H12 e12 => ?_
            rw [decide_eq_true rfl]
            have e := (e810.trans e11).trans e12
            exact kq _ rows gone (k08.trans (Keep.of_ex e)) ((s8.ex e).up (by omega) (by omega)) (by omega) (by omega)
          · refine ⟨_, _, rfl, st_of ht, rfl, _, _, rfl, _, _, rfl, rfl, ?_⟩
            refine q_when isN (fun h => by rw [hb] at h; cases h) fun _ H10 e10 => ?_
            have h10 := e10 _ _ (b9 _ _ h8 hlhd)
            have d10 : DpAll K (cut b.S H10) xs8 (rows.map rowDt) := dpAll_ex (cut_mono e10) (s8.keepA (Keep.of_hd b9) d8)
            have hnm2 : nm ∉ rows.map LRow.name := fun h => by
              obtain ⟨r0, hr0, e0⟩ := List.mem_map.mp h
              exact q2 (toB r0) (List.mem_map.mpr ⟨r0, hr0, rfl⟩) e0
            rcases r8 with ⟨rfl, hno⟩ | ⟨i, r, p, rfl, hri, iso, _⟩
            · refine q_when (cond (sq_of h10) (dpAll_ex cut_ex d10)) (fun h => ?_) fun _ H11 e11 => ?_
              · rw [decide_eq_false hnm2] at h
                cases h
              · have h11 := e11 _ _ h10
                have d11 := dpAll_ex (cut_mono e11) d10
                have m11 : Dp K (cut b.S H11) mv (madD m) := dp_ex (cut_mono (e10.trans e11)) (s8.keepD (Keep.of_hd b9) (s0.keepD k08 hmv))
                have B11 : BookAt K (cut b.S H11) b.bp b.hd ((rows ++ [(⟨m, nm, Tx⟩ : LRow)]).map toB) := by
                  rw [List.map_append]
                  have : [(⟨m, nm, Tx⟩ : LRow)].map toB = [⟨Tx, nm, copyW W⟩] := by rw [hW]; rfl
                  rw [this]
                  exact B9.more (cut_mono (e10.trans e11))
                have hxl8 := DpAll.length d8
                rw [List.length_map] at hxl8
                refine q_appP (P := fun v H' => Dp K (cut b.S H') v (rowDt ⟨m, nm, Tx⟩)) h11 (ev_var rfl) (EvP.imp (ep_tupA (eap_of (vs := [mv, .str nm, .str Tx]) (ea_cons (ev_var rfl) (ea_cons (ev_var rfl) (ea_cons (ev_var rfl) ea_nil)))) (fun vs H1 h => by rw [h]; simp)) fun v H12 e12 hv => ?_) (by omega) fun v H12 e12 hv => ?_
                · obtain ⟨p, vs, H13, rfl, p0, p13, p12, e13, rfl, _⟩ := hv
                  have np : ¬ b.S p := fun z => by
                    have ow := s8.own p z
                    obtain ⟨zs, hz⟩ := ow
                    rcases z with z | z | z
                    · obtain ⟨c, nn, ha, _⟩ := s8.L.at_
                      have := e11 _ _ (e10 _ _ (b9 _ _ ha (ne_of ha hh (by intro z; cases z))))
                      rw [← z, p0] at this
                      cases this
                    · rw [z, h11] at p0
                      cases p0
                    · have := e11 _ _ (e10 _ _ (b9 _ _ s8.gst (ne_of s8.gst hh (by intro z; cases z))))
                      rw [← z, p0] at this
                      cases this
                  exact .tup (st_of (cut_at p12 np)) (.cons (dp_ex (cut_mono e12) m11) (.cons (.str _) (.cons (.str _) .nil)))
                · have okn : ∀ q ∈ rows ++ [(⟨m, nm, Tx⟩ : LRow)], RowOk q := fun q hq => by
                    rcases List.mem_append.mp hq with hq | hq
                    · exact s0.ok q hq
                    · rw [show q = (⟨m, nm, Tx⟩ : LRow) by simpa using hq]
                      exact ⟨hr3, by rw [← hW]; exact hT, hnm⟩
                  have s13 := s8.setBook (rows' := rows ++ [(⟨m, nm, Tx⟩ : LRow)]) (xs' := xs8 ++ [v]) ((b9.ex (e10.trans e11)).ex e12) (B11.more (cut_mono e12)) (by
                    rw [List.map_append]
                    exact dpAll_snoc (dpAll_ex (cut_mono e12) d11) hv) okn
                  have w12 : WebAt K (cut b.S H12) wp W := web_ex (cut_mono ((e10.trans e11).trans e12)) (web_but (cut_at hh fun z => by
                    obtain ⟨zs, hz⟩ := s8.own _ z
                    rw [hh] at hz
                    cases hz) (cut_but b9) w8)
                  have w13 : WebAt K (upd H12 b.hl (.lst (xs8 ++ [v]))) wp W := web_ex cut_ex (web_ex (cut_butIn But.upd Bk.S_hl) w12)
                  have k1213 : Keep b H12 (upd H12 b.hl (.lst (xs8 ++ [v]))) := Keep.of_S But.upd Bk.S_hl
                  generalize upd H12 b.hl (.lst (xs8 ++ [v])) = H13 at s13 w13 k1213 ⊢
                  have ew : EvP (tCall (spWritten K) [] C8.E0 (tCons (tVar 6) tNil)) [some (.ref b.x.sa), some (.ref b.x.at_), some (.ref b.bp), some (.ref b.hl), some (.ref b.gl), some mv, some (.ref wp), some .non, some (.int n), some (.str Tx), some (.str "none"), some (.str nm), none] H13 (DP K (.str Tx)) := EvP.imp (ep_written w13 hok h3 (ev_var rfl)) fun v H14 e14 h => by
                    obtain ⟨T', hT', rfl⟩ := h
                    rw [text_uniq hok h3 hT hT']
                    exact .str _
                  have q := rv_eqP (K := K) (pd_str Tx).pl (pd_str Tx).pl (ep_str (ev_var (i := 9) rfl)) ew
                  rw [(eqv_iff (alike_self _ rfl) rfl).mpr rfl] at q
                  refine s_retE (Evl.ev_andV (ev_op (ev_var rfl) ev_c (rv_eq rfl)) fun _ => Evl.ev_andV (ev_isiB (t := "str") (b := true) (ev_var rfl) (fun _ _ => .str _) (by decide +kernel)) fun _ => q) fun H14 e14 => ?_
                  rw [decide_eq_true rfl]
                  refine kq _ (rows ++ [⟨m, nm, Tx⟩]) gone (k08.trans ((Keep.of_hd b9).trans ((Keep.of_ex ((e10.trans e11).trans e12)).trans (k1213.trans (Keep.of_ex e14))))) ((s13.ex e14).up (by omega) (by omega)) ?_ (by omega)
                  simp
            · have hr := List.mem_of_getElem? hri
              exact absurd ((look hT r hr).mpr iso) (q1 (toB r) (List.mem_map.mpr ⟨r, hr, rfl⟩))
end
end L2.Tw
set_option Elab.async false
set_option linter.all false
set_option maxRecDepth 100000
set_option maxHeartbeats 4000000
set_option autoImplicit false
namespace L2.Tw
open PySem PySem.Spec PyProof.Rows L2
open C8 (Cal Met Mak pe_c pe_mk pe_mt pe_mt0 pe_gc InsC)
open Evl (Ex Ev EvT EvA fresh_back ex_l ex_t ex_rd sq_of st_of sz_of sz_lt ev_var ev_c ev_op rv_I0 rv_I rv_eq rv_ne et_test et_or et_and et_not et_B s_if ea_nil ea_cons q_asg q_when)
open LamX (CodeO TabS Tabs ExtN TabB)
section
variable {P : Program} {w : World} {K : PySem.W.Frag} {mg : Str → Option Value} {base : Heap}
variable {σ : L2.St} {H : Hp} {ta tb te td ti tj ty tv : TE} {tA tr : TA} {D : Ends} {tz : TS} {Q : VK} {r : R2}
/-- for i, x in enumerate(e), e a new list -/
theorem q_forEN {tl : TE} {tbd : TS} {i j : Nat} {xs : List V} (h : Evl.EvL tl σ H xs) (k : ∀ a H1, H a = none → Ex H H1 → H1 a = some (.lst xs) → ∃ Pv : Nat → L2.St → Hp → Prop, Pv 0 σ H1 ∧ (∀ m σ' H', Pv m σ' H' → SqL K H' a xs) ∧
      (∀ m x σ' H' H2, xs[m]? = some x → Pv m σ' H' → Ex H' H2 → tbd { nx := Pv (m + 1), rt := D.rt, ct := Pv (m + 1), bk := tz D } ((σ'.set i (some (.int (m : Nat)))).set j (some x)) H2) ∧ ∀ σ' H', Pv xs.length σ' H' → tz D σ' H') :
    tSeq (tFor (iEnum K (tCons tl tNil)) (gTup K 2 (gCons (gName i) (gCons (gName j) gNil))) tbd) tz D σ H :=
  h H (Evl.Ex.refl H) _ fun a H1 ha e h1 => by
    obtain ⟨Pv, k1, k2, k3, k4⟩ := k a H1 ha e h1
    exact ⟨a, xs, rfl, sq_of h1, for_it (D := { D with nx := tz D }) walk_enum Pv k1 (fun m σ' H' _ p => k2 m σ' H' p) (fun m x σ' H' H2 hm p ⟨T, x1, x2, ex, hT, eH, e1, e2⟩ => by
      subst ex eH
      cases e1
      exact ⟨T, _, rfl, st_of upd_same, rfl, _, _, rfl, _, _, rfl, rfl, k3 m x2 σ' H' _ e2 p (Evl.Ex.new hT)⟩) k4⟩
theorem cut10 (xs : List V) : cutV xs none (some 10) = xs.take 10 := by
  have e : (10 : Int) = ((10 : Nat) : Int) := rfl
  unfold cutV
  rw [_root_.HT.sIx_none, e, _root_.HT.sIx_nat, List.drop_zero, Nat.sub_zero]
  by_cases h : 10 ≤ xs.length
  · rw [Nat.min_eq_left h]
  · rw [Nat.min_eq_right (by omega), List.take_of_length_le (by omega), List.take_of_length_le (by omega)]
def nmS : Str := "mabcdefghi"
theorem nm_at {k : Nat} (h : k < 10) : ∃ c, nmS.cps.toList[k]? = some c ∧ c ∈ signs36.cps.toList := by
  have hl : nmS.cps.toList.length = 10 := by decide
  have ha : ∀ c ∈ nmS.cps.toList, c ∈ signs36.cps.toList := by decide
  exact ⟨_, List.getElem?_eq_getElem (by omega), ha _ (List.getElem_mem _)⟩
theorem nm_ok {c k : Nat} (hc : c ∈ signs36.cps.toList) (h : k < 10) : nameOk (Txt.mul ⟨#[c]⟩ (10 - (k : Int))) = true ∧ (Txt.mul ⟨#[c]⟩ (10 - (k : Int))).length = 10 - k := by
  have e := mul_one_list c (10 - (k : Int))
  have en : (10 - (k : Int)).toNat = 10 - k := by omega
  rw [en] at e
  have hl : (Txt.mul ⟨#[c]⟩ (10 - (k : Int))).length = 10 - k := by
    rw [_root_.TL.len_tl]
    show (Txt.mul ⟨#[c]⟩ (10 - (k : Int))).cps.toList.length = _
    rw [e, List.length_replicate]
  refine ⟨?_, hl⟩
  unfold nameOk
  rw [Bool.and_eq_true, Bool.and_eq_true]
  refine ⟨List.all_eq_true.mpr fun x hx => ?_, decide_eq_true (by omega), decide_eq_true (by omega)⟩
  rw [e] at hx
  rw [(List.mem_replicate.mp hx).2]
  exact decide_eq_true hc
/-! ### _law_filled -/
def spFilled (K : PySem.W.Frag) (Pt : Addr) : Sp := fun vs H Q _ => ∃ (b : Bk) (C : Int) (pl : Addr) (pvs : List V) (pool : List Mad), b.Pt = Pt ∧ vs = [.ref b.bp, .ref b.hl, .ref pl] ∧ DS K b [] [] H C ∧ SqL K H pl pvs ∧ DpAll K (cut b.S H) pvs (pool.map madD) ∧ (∀ m ∈ pool, Raw3m m) ∧
  ∀ H' rows', Keep b H H' → DS K b rows' [] H' C → rows'.length ≤ 10 → Q (.bl true) H'
theorem cal_law_filled {Pt : Addr} (T : TX K mg) (X3 : ∀ x ∈ exN, ExF K x) (TB : TabB base mg (He.codeOf K ("_law_names_told", none)) Pt) : Cal P w K mg base 25 "_law_filled" (spFilled K Pt) [] := by
  refine T.cal d_law_filled (N := ["_law_book", "_law_held", "_law_pool_here", "_law_k", "_law_made", "_law_web_here", "_law_row", "_law_name_here", "_law_told", "_law_which_here"]) (ps := ["_law_book", "_law_held", "_law_pool_here"]) (List.mem_of_getElem? (i := 70) rfl) rfl (by decide +kernel) sc_law_filled (fun _ _ _ _ _ _ us hl => match us, hl with | [_, _, _], _ => rfl) (fun vs H Q E h => ?_) (fun cdv A outer s H vs Q E f hr h => ?_)
  · obtain ⟨b, C, pl, pvs, pool, _, rfl, _⟩ := h
    rfl
  · obtain ⟨b, C, pl, pvs, pool, rfl, rfl, s0, hpl, hpd, hraw, kq⟩ := h
    have sc := sc_law_filled
    have k_Web := k_Web_ok (P := P) (w := w) (base := base) T
    have c_law_row_of := cal_law_row_of (P := P) (w := w) (base := base) T
    have c_law_note := cal_law_note (P := P) (w := w) (base := base) T X3
    have c_written := cal_written (P := P) (w := w) (base := base) T
    have c_law_names_told := cal_law_names_told (P := P) (w := w) (base := base) T TB
    refine ⟨_, pss_cons (ps_for PassesOwn.never rfl (pi_enum (by rfl) (T.free "enumerate") (pa_cons (pe_slice sl_list (pv 2) po_none (po_some (pe_int))) pa_nil)) (pg_tup rfl (pgs_cons (pg_name (i := 3) sc.nd rfl (by first | exact Or.inl rfl | exact Or.inr rfl)) (pgs_cons (pg_name (i := 4) sc.nd rfl (by first | exact Or.inl rfl | exact Or.inr rfl)) (pgs_nil))))
    (pss_cons (ps_set (i := 5) sc.nd rfl (by first | exact Or.inl rfl | exact Or.inr rfl) (pe_mk k_Web hr (by decide) rfl (pa_cons (pe_callTy call_list_of (by rfl) (T.free "list") (by decide +kernel) (pa_cons (pe_ix ix_tup (pv 4) (pe_int) (fun _ _ => rfl)) pa_nil)) (pa_cons (pe_callTy call_list_of (by rfl) (T.free "list") (by decide +kernel) (pa_cons (pe_ix ix_tup (pv 4) (pe_int) (fun _ _ => rfl)) pa_nil)) pa_nil))))
      (pss_cons (ps_set (i := 6) sc.nd rfl (by first | exact Or.inl rfl | exact Or.inr rfl) (pe_c c_law_row_of hr (by decide) rfl (pa_cons (pv 1) (pa_cons (pv 4) pa_nil))))
      (pss_cons (ps_set (i := 7) sc.nd rfl (by first | exact Or.inl rfl | exact Or.inr rfl) (pe_op op_mul_str (pe_ix ix_str (pe_str) (pv 3) (fun _ _ => rfl)) (pe_op op_sub (pe_int) (pv 3))))
      (pss_cons (ps_asg (pe_c c_law_note hr (by decide) rfl (pa_cons (pv 0) (pa_cons (pv 5) (pa_cons (pv 7) pa_nil)))) (pg_tup rfl (pgs_cons (pg_name (i := 8) sc.nd rfl (by first | exact Or.inl rfl | exact Or.inr rfl)) (pgs_cons (pg_name (i := 9) sc.nd rfl (by first | exact Or.inl rfl | exact Or.inr rfl)) (pgs_nil)))))
      (pss_cons (ps_if (pt_cmpR op_ne (pv 9) (pe_ix ix_list (pe_lst (pa_cons (pe_str) (pa_cons (pe_str) pa_nil))) (pe_callTy call_int1 (by rfl) (T.free "int") (by decide +kernel) (pa_cons (pe_cmpR op_notN (pv 6) (pe_non) (by rfl)) pa_nil)) (fun _ _ => rfl)) (by rfl))
      (pss_one (ps_ret (pe_bl)))
      (pss_nil))
      (pss_one (ps_if (pt_cmpR op_isN (pv 6) (pe_non) (by rfl))
      (pss_cons (ps_if (pt_cmpR (op_neP hr.units) (pv 8) (pe_c c_written hr (by decide) rfl (pa_cons (pv 5) pa_nil)) (by rfl))
        (pss_one (ps_ret (pe_bl)))
        (pss_nil))
        (pss_one (ps_expr (pe_bm PySem.F.plainAttrs_list PySem.F.slot_list_append PySem.F.type_list_append mt_append (pv 1) (pa_cons (pe_tup (pa_cons (pv 4) (pa_cons (pv 7) (pa_cons (pv 8) pa_nil)))) pa_nil)))))
      (pss_nil)))))))))
    (pss_one (ps_ret (pe_c c_law_names_told hr (by decide) rfl (pa_cons (pv 0) (pa_cons (pv 1) pa_nil))))), ?_⟩
    have hC := s0.L.cb
    refine q_forEN (Evl.el_sl (K := K) (xs := pvs) (lo := none) (hi := some 10) (ev_var rfl) Evl.eo_none (Evl.eo_some ev_c) hpl) fun a H1 ha e1 h1 => ?_
    rw [cut10] at h1 ⊢
    have s1 := s0.ex e1
    have na : ¬ b.S a := s0.own.not ha
    have hah : a ≠ b.hd := fun z => by
      obtain ⟨kvs, hh⟩ := s0.hdK
      rw [← z, ha] at hh
      cases hh
    have hlt : (pvs.take 10).length ≤ 10 := by rw [List.length_take]; omega
    refine ⟨fun i σ' H' => (∃ o3 o4 o5 o6 o7 o8 o9, σ' = [some (.ref b.bp), some (.ref b.hl), some (.ref pl), o3, o4, o5, o6, o7, o8, o9]) ∧ Keep b H1 H' ∧ ∃ rows, DS K b rows [] H' C ∧ rows.length ≤ i ∧ ∀ r ∈ rows, 10 < r.name.length + i, ⟨⟨_, _, _, _, _, _, _, rfl⟩, Keep.of_ex (Evl.Ex.refl _), [], s1, Nat.le_refl _, fun r hr => by cases hr⟩, fun i σ' H' q => ?_, fun i mv σ' H' H2 hx q e2 => ?_, fun σ' H' q => ?_⟩
    · exact sq_of (q.2.1 _ _ h1 na hah (fun _ z => by cases z))
    · obtain ⟨⟨o3, o4, o5, o6, o7, o8, o9, rfl⟩, kp, rows, sI, hrl, hnl⟩ := q
      have hi10 : i < 10 := by
        have := (List.getElem?_eq_some_iff.mp hx).1
        omega
      have hx' : pvs[i]? = some mv := by
        rw [List.getElem?_take] at hx
        rwa [if_pos hi10] at hx
      obtain ⟨d, hd1, hd2⟩ := dpAll_get hpd hx'
      rw [List.getElem?_map] at hd1
      obtain ⟨m, hm1, rfl⟩ := Option.map_eq_some_iff.mp hd1
      have hr3 := hraw m (List.mem_of_getElem? hm1)
      have k02 : Keep b H H2 := (Keep.of_ex e1).trans (kp.trans (Keep.of_ex e2))
      have hmv : Dp K (cut b.S H2) mv (madD m) := s0.keepD k02 hd2
      have s2 := sI.ex e2
      obtain ⟨W, hW⟩ : ∃ W, W = mkW m.1 m.2 := ⟨_, rfl⟩
      have hok : WOk W := by rw [hW]; exact mkW_ok hr3.1
      have h3 : W.n ≤ 3 := by rw [hW]; exact hr3.2
      have look : ∀ {Tx : Str}, TextOf W Tx → ∀ r ∈ rows, r.text = Tx ↔ isoM r.m m := fun hT r hr => by
        rw [hW] at hT
        exact sI.look hr3 hT hr
      show tSeq _ _ _ [some (.ref b.bp), some (.ref b.hl), some (.ref pl), some (.int (i : Int)), some mv, o5, o6, o7, o8, o9] H2
      refine q_asgP (ep_lweb rfl (dp_ex cut_ex hmv) hr3) fun v3 H3 e3 hv3 => ?_
      obtain ⟨wp, rfl, _, _, hw⟩ := hv3
      have w3 := hw b.S s2.own
      rw [← hW] at w3
      have s3 := s2.ex e3
      refine q_asgP (ep_lrow s3 rfl rfl (dp_ex (cut_ex.trans e3) hmv) hr3) fun rv H4 e4 hrv => ?_
      have s4 := s3.ex e4
      have r4 := hrv.ex (cut_mono e4)
      have w4 := web_ex (cut_mono e4) w3
      obtain ⟨c, hc, hcs⟩ := nm_at hi10
      obtain ⟨hnk, hnlen⟩ := nm_ok hcs hi10
      obtain ⟨nm, hnm⟩ : ∃ nm, nm = Txt.mul ⟨#[c]⟩ (10 - (i : Int)) := ⟨_, rfl⟩
      have one : (⟨#[c]⟩ : Str).length = 1 := rfl
      refine q_asg (v := .str nm) (by rw [hnm]; exact ev_op (ev_op ev_c (ev_var rfl) (Evl.rv_ixS (by decide) (atI_nat hc))) (ev_op ev_c (ev_var rfl) rv_I0) (rv_mulS (mulOk_of 1 10 (by rw [one]; omega) (by omega) (by omega) (by omega) (by omega)))) fun H5 e5 => ?_
      rw [← hnm] at hnk hnlen
      have s5 := s4.ex e5
      have r5 := r4.ex (cut_mono e5)
      have w5 := web_ex (cut_mono e5) w4
      have k25 : Keep b H2 H5 := Keep.of_ex (e3.trans (e4.trans e5))
      have m5 : Dp K (cut b.S H5) mv (madD m) := dp_ex (cut_mono (e3.trans (e4.trans e5))) hmv
      have hnn : ∀ r ∈ rows, r.name ≠ nm := fun r hr z => by
        have := hnl r hr
        rw [z] at this
        omega
      refine w_asgG (w_call ⟨_, rfl, _, rfl, _, rfl, ?_⟩)
      obtain ⟨kvs, hh⟩ := s5.hdK
      obtain ⟨xs5, h5, d5⟩ := s5.held
      have hlhd : b.hl ≠ b.hd := ne_of h5 hh (by intro z; cases z)
      have lst2 : ∀ {σ' : L2.St} {H' : Hp} {x : Bool} {j : Nat} {z : Str}, ([PyData.str "none", .str "twice"] : List PyData)[j]? = some (.str z) → Ev (tOp (fun x y H Q => y = .non ∧ Q (.bl (!decide (x = .non))) H) (tVar 6) (tC .non)) σ' H' (.bl x) → (if x then (1 : Int) else 0) = (j : Int) → Ev (tOp (rIxL K) (tLst (tCons (tC (.str "none")) (tCons (tC (.str "twice")) tNil))) (tCB (fun xs H Q => (∃ i, xs = [.int i] ∧ Q (.int i) H) ∨ ∃ k, xs = [.bl k] ∧ Q (.int (if k then 1 else 0)) H) (tCons (tOp (fun x y H Q => y = .non ∧ Q (.bl (!decide (x = .non))) H) (tVar 6) (tC .non)) tNil))) σ' H' (.str z) := fun {σ' H' x j z} hj hx he => by
        have q := ev_int1 hx
        rw [he] at q
        exact ev_strD (ep_ixL (K := K) (n := j) (EvP.newDp (ep_lstD (K := K) (ds := [.str "none", .str "twice"]) (ea_consD (ep_str ev_c) (ea_consD (ep_str ev_c) ea_nilD)))) q hj)
      refine ⟨b.bp, wp, nm, W, rows.map toB, b.hd, b.S, rfl, s5.book, s5.own, web_ex cut_ex w5, hok, h3, by omega, by rw [List.length_map]; omega, fun hb => (by rw [hnk] at hb; cases hb), fun hb Tx hT => ⟨fun hx t H6 e6 ht => ?_, fun q1 q2 t H6 b6 B6 ht => ?_⟩⟩
      · -- twice
        rcases r5 with ⟨_, hno⟩ | ⟨i', r, p, rfl, hri, iso, _⟩
        · rcases hx with ⟨q, hq1, hq2⟩ | ⟨q, hq1, hq2⟩
          · obtain ⟨r0, hr0, rfl⟩ := List.mem_map.mp hq1
            exact absurd ((look hT r0 hr0).mp hq2) (hno r0 hr0)
          · obtain ⟨r0, hr0, rfl⟩ := List.mem_map.mp hq1
            exact absurd hq2 (hnn r0 hr0)
        · refine ⟨_, _, rfl, st_of ht, rfl, _, _, rfl, _, _, rfl, rfl, ?_⟩
          refine q_when (et_test (ev_op (ev_var rfl) (lst2 (j := 1) rfl (ev_notN (ep_ev (ev_var rfl) fun _ _ z => by cases z)) rfl) (rv_ne rfl))) (fun hb => by cases hb) fun _ H7 e7 => ?_
          refine s_if (et_test (ev_op (ev_var rfl) ev_c rv_isN)) (fun hb => by cases hb) fun _ H8 e8 => ?_
          have e58 := (e6.trans e7).trans e8
          exact ⟨⟨_, _, _, _, _, _, _, rfl⟩, kp.trans ((Keep.of_ex e2).trans (k25.trans (Keep.of_ex e58))), rows, s5.ex e58, by omega, fun r hr => by have := hnl r hr; omega⟩
      · -- noted
        rcases r5 with ⟨rfl, hno⟩ | ⟨i', r, p, rfl, hri, iso, _⟩
        · refine ⟨_, _, rfl, st_of ht, rfl, _, _, rfl, _, _, rfl, rfl, ?_⟩
          refine q_when (et_test (ev_op (ev_var rfl) (lst2 (j := 0) rfl (ev_notN' (ep_ev (ev_var rfl) fun _ _ => rfl)) rfl) (rv_ne rfl))) (fun hb => by cases hb) fun _ H7 e7 => ?_
          refine s_if (et_test (ev_op (ev_var rfl) ev_c rv_isN)) (fun _ H8 e8 => ?_) (fun hb => by cases hb)
          have e68 := e7.trans e8
          have w6 : WebAt K (cut b.S H6) wp W := web_but (cut_at hh fun z => by
            obtain ⟨zs, hz⟩ := s5.own _ z
            rw [hh] at hz
            cases hz) (cut_but b6) w5
          have w8 : WebAt K H8 wp W := web_ex (cut_ex.trans e68) w6
          have ew : EvP (tCall (spWritten K) [] C8.E0 (tCons (tVar 5) tNil)) [some (.ref b.bp), some (.ref b.hl), some (.ref pl), some (.int (i : Int)), some mv, some (.ref wp), some .non, some (.str nm), some (.str Tx), some (.str "none")] H8 (DP K (.str Tx)) := EvP.imp (ep_written w8 hok h3 (ev_var rfl)) fun v H14 e14 h => by
            obtain ⟨T', hT', rfl⟩ := h
            rw [text_uniq hok h3 hT hT']
            exact .str _
          have q := rv_neP (K := K) (pd_str Tx).pl (pd_str Tx).pl (ep_str (ev_var (i := 8) rfl)) ew
          rw [(eqv_iff (alike_self _ rfl) rfl).mpr rfl] at q
          refine q_when (et_test q) (fun hb => by cases hb) fun _ H9 e9 => ?_
          have e69 := e68.trans e9
          have h9 := e69 _ _ (b6 _ _ h5 hlhd)
          have d9 : DpAll K (cut b.S H9) xs5 (rows.map rowDt) := dpAll_ex (cut_mono e69) (s5.keepA (Keep.of_hd b6) d5)
          have m9 : Dp K (cut b.S H9) mv (madD m) := dp_ex (cut_mono e69) (s5.keepD (Keep.of_hd b6) m5)
          have hxl := DpAll.length d5
          rw [List.length_map] at hxl
          obtain ⟨nr, hnr⟩ : ∃ nr : LRow, nr = ⟨m, nm, Tx⟩ := ⟨_, rfl⟩
          refine s_appP (P := fun v H' => Dp K (cut b.S H') v (rowDt nr)) h9 (ev_var rfl) (EvP.imp (ep_tupA (eap_of (vs := [mv, .str nm, .str Tx]) (ea_cons (ev_var rfl) (ea_cons (ev_var rfl) (ea_cons (ev_var rfl) ea_nil)))) (fun vs H1 h => by rw [h]; simp)) fun v H10 e10 hv => ?_) (by omega) fun v H10 e10 hv => ?_
          · obtain ⟨p, vs, H11, rfl, p0, p11, p10, e11, rfl, _⟩ := hv
            have np : ¬ b.S p := fun z => by
              obtain ⟨zs, hz⟩ := s5.own p z
              rcases z with z | z | z
              · obtain ⟨cc, nn, hat, _⟩ := s5.L.at_
                have := e69 _ _ (b6 _ _ hat (ne_of hat hh (by intro z; cases z)))
                rw [← z, p0] at this
                cases this
              · rw [z, h9] at p0
                cases p0
              · have := e69 _ _ (b6 _ _ s5.gst (ne_of s5.gst hh (by intro z; cases z)))
                rw [← z, p0] at this
                cases this
            rw [hnr]
            exact .tup (st_of (cut_at p10 np)) (.cons (dp_ex (cut_mono e10) m9) (.cons (.str _) (.cons (.str _) .nil)))
          · have okn : ∀ q ∈ rows ++ [nr], RowOk q := fun q hq => by
              rcases List.mem_append.mp hq with hq | hq
              · exact sI.ok q hq
              · rw [show q = nr by simpa using hq, hnr]
                exact ⟨hr3, by rw [← hW]; exact hT, by show nm.length ≤ 1000; omega⟩
            have B9 : BookAt K (cut b.S H9) b.bp b.hd ((rows ++ [nr]).map toB) := by
              rw [List.map_append]
              have : [nr].map toB = [⟨Tx, nm, copyW W⟩] := by rw [hW, hnr]; rfl
              rw [this]
              exact B6.more (cut_mono e69)
            have s11 := s5.setBook (rows' := rows ++ [nr]) (xs' := xs5 ++ [v]) ((b6.ex e69).ex e10) (B9.more (cut_mono e10)) (by
              rw [List.map_append]
              exact dpAll_snoc (dpAll_ex (cut_mono e10) d9) hv) okn
            refine ⟨⟨_, _, _, _, _, _, _, rfl⟩, kp.trans ((Keep.of_ex e2).trans (k25.trans ((Keep.of_hd b6).trans ((Keep.of_ex (e69.trans e10)).trans (Keep.of_S But.upd Bk.S_hl))))), rows ++ [nr], s11, ?_, fun r hr => ?_⟩
            · simp
              omega
            · rcases List.mem_append.mp hr with hr | hr
              · have := hnl r hr
                omega
              · rw [show r = nr by simpa using hr, hnr]
                show 10 < nm.length + (i + 1)
                omega
        · have hr := List.mem_of_getElem? hri
          exact absurd ((look hT r hr).mpr iso) (q1 (toB r) (List.mem_map.mpr ⟨r, hr, rfl⟩))
    · obtain ⟨⟨o3, o4, o5, o6, o7, o8, o9, rfl⟩, kp, rows, sI, hrl, hnl⟩ := q
      obtain ⟨xs, hx, hd⟩ := sI.held
      refine s_retR (w_call ⟨_, rfl, _, rfl, ?_⟩)
      exact ⟨b.bp, b.hd, b.hl, xs, rows, rows.map toB, rfl, sI.book.more cut_ex, sq_of hx, dpAll_ex cut_ex hd, sI.same, sI.tabs, fun H' e t => kq H' rows ((Keep.of_ex e1).trans (kp.trans (Keep.of_extN e))) (sI.tab e t) (by omega)⟩
end
end L2.Tw
set_option Elab.async false
set_option linter.all false
set_option maxRecDepth 100000
set_option maxHeartbeats 4000000
set_option autoImplicit false
namespace L2.Tw
open PySem PySem.Spec PyProof.Rows L2
open C8 (Cal Met Mak pe_c pe_mk pe_mt pe_mt0 pe_gc InsC)
open Evl (Ex Ev EvT EvA fresh_back ex_l ex_t ex_rd sq_of st_of sz_of sz_lt ev_var ev_c ev_op rv_I0 rv_I rv_eq rv_ne et_test et_or et_and et_not et_B s_if ea_nil ea_cons q_asg q_when)
open LamX (CodeO TabS Tabs ExtN TabB)
/-! ### the heap without its tables -/
def noT (H : Hp) : Hp := fun a => match H a with
  | some (.tbl _) => none
  | o => o
theorem noT_at {H : Hp} {a : Addr} {o : HO} (h : H a = some o) (n : ∀ ps, o ≠ .tbl ps) : noT H a = some o := by
  unfold noT
  rw [h]
  cases o with
  | tbl ps => exact absurd rfl (n ps)
  | _ => rfl
theorem noT_get {H : Hp} {a : Addr} {o : HO} (h : noT H a = some o) : H a = some o ∧ ∀ ps, o ≠ .tbl ps := by
  unfold noT at h
  cases e : H a with
  | none =>
    rw [e] at h
    cases h
  | some u =>
    rw [e] at h
    cases u with
    | tbl ps => cases h
    | _ =>
      cases h
      exact ⟨rfl, fun ps z => by cases z⟩
theorem noT_ex {H : Hp} : Ex (noT H) H := fun a o h => (noT_get h).1
theorem noT_none {H : Hp} {a : Addr} (h : H a = none) : noT H a = none := by
  unfold noT
  rw [h]
theorem noT_l {K : PySem.W.Frag} {H : Hp} {a : Addr} {xs : List V} (h : SqL K H a xs) : SqL K (noT H) a xs := by
  rcases h with (h | ⟨u, h⟩) | h
  · exact Or.inl (Or.inl (noT_at h fun ps z => by cases z))
  · exact Or.inl (Or.inr ⟨u, noT_at h fun ps z => by cases z⟩)
  · exact Or.inr h
section
variable {P : Program} {w : World} {K : PySem.W.Frag} {mg : Str → Option Value} {base : Heap}
variable {σ : L2.St} {H : Hp} {ta tb te td ti tj ty tv : TE} {tA tr : TA} {D : Ends} {tz tu : TS} {t1 : TT} {Q : VK} {r : R2}
theorem made_cut {H' : Hp} {S : Addr → Prop} {p ka ta : Addr} {ks : List Str} {ts : List Tie} (m : MadeAt K H' p ka ta ks ts) (o : Own H' S) (n1 : ¬ S p) (n2 : ¬ S ka) (n3 : ¬ S ta) : Dp K (cut S H') (.ref p) (madeD ks ts) := by
  obtain ⟨h1, h2, xs, h3, h4⟩ := m
  exact .tup (st_of (cut_at h1 n1)) (.cons (.lst (sq_of (cut_at h2 n2)) (dpAll_strs ks)) (.cons (.lst (sq_of (cut_at h3 n3)) (dpAll_tup (tupEx_cut o) (noL_ties ts) h4)) .nil))
/-- Webbook() -/
theorem pe_mk0 {X : Cx} {k j : Nat} {C : Addr} {x : Str} {sp : Sp} {p pos : Pos} (c : Mak X.prog X.w X.K X.mg X.base k x C sp []) (hr : Room j X.A) (hk : k + 1 ≤ j) (hg : Gl X x) (hdb : (x == ("__debug__" : Str)) = false := by decide) : PE X (.Call (.Name x p) [] [] pos) (tMake C sp [] C8.E0 tNil) := by
  obtain ⟨f, fd, ps, ds, M, F, hm, b, d⟩ := c.ex
  exact pe_make0 M F (hr.mono hk) hg hm b d C8.pass0 hdb
theorem q_notT (h : te σ H (fun v H1 => ∃ c, v = .bl c ∧ if (!c) = true then tu { D with nx := tz D } σ H1 else tz D σ H1)) : tSeq (tIfS (tNot (tB te)) tu tNext) tz D σ H := h
theorem not_true {A B : Prop} (h : B) : ∃ c, V.bl true = .bl c ∧ if (!c) = true then A else B := ⟨true, rfl, by simpa using h⟩
theorem q_andT {a : Bool} (h1 : EvT t1 σ H a) (h2 : a = true → ∀ H1, Ex H H1 → te σ H1 (fun v H2 => ∃ c, v = .bl c ∧ if (!c) = true then tu { D with nx := tz D } σ H2 else tz D σ H2)) (h3 : a = false → ∀ H1, Ex H H1 → tz D σ H1) : tSeq (tIfS (tAnd t1 (tNot (tB te))) tu tNext) tz D σ H :=
  h1 H (Evl.Ex.refl H) _ fun H1 e => by
    cases a with
    | true => exact iteT (h2 rfl H1 e)
    | false => exact iteF (show (if false = true then _ else _) from iteF (h3 rfl H1 e))
theorem s_andT {a : Bool} (h1 : EvT t1 σ H a) (h2 : a = true → ∀ H1, Ex H H1 → te σ H1 (fun v H2 => ∃ c, v = .bl c ∧ if (!c) = true then tu D σ H2 else D.nx σ H2)) (h3 : a = false → ∀ H1, Ex H H1 → D.nx σ H1) : tIfS (tAnd t1 (tNot (tB te))) tu tNext D σ H :=
  h1 H (Evl.Ex.refl H) _ fun H1 e => by
    cases a with
    | true => exact iteT (h2 rfl H1 e)
    | false => exact iteF (show (if false = true then _ else _) from iteF (h3 rfl H1 e))
theorem q_andR {a : Bool} {R : Hp → Prop} (h1 : EvT t1 σ H a) (h2 : a = true → ∀ H1, Ex H H1 → ∀ Qk : VK, (∀ H2, R H2 → Qk (.bl true) H2) → te σ H1 Qk) (h3 : a = false → ∀ H1, Ex H H1 → R H1) (k : ∀ H2, R H2 → tz D σ H2) : tSeq (tIfS (tAnd t1 (tNot (tB te))) tu tNext) tz D σ H :=
  q_andT h1 (fun ha H1 e => h2 ha H1 e _ fun H2 r => not_true (k H2 r)) fun ha H1 e => k H1 (h3 ha H1 e)
theorem s_andR {a : Bool} {R : Hp → Prop} (h1 : EvT t1 σ H a) (h2 : a = true → ∀ H1, Ex H H1 → ∀ Qk : VK, (∀ H2, R H2 → Qk (.bl true) H2) → te σ H1 Qk) (h3 : a = false → ∀ H1, Ex H H1 → R H1) (k : ∀ H2, R H2 → D.nx σ H2) : tIfS (tAnd t1 (tNot (tB te))) tu tNext D σ H :=
  s_andT h1 (fun ha H1 e => h2 ha H1 e _ fun H2 r => not_true (k H2 r)) fun ha H1 e => k H1 (h3 ha H1 e)
theorem cut_none {S : Addr → Prop} {q : Addr} (h : S q ∨ H q = none) : cut S H q = none := by
  cases e : cut S H q with
  | none => rfl
  | some o =>
    rcases h with h | h
    · exact absurd h (cut_not e)
    · rw [cut_ex _ _ e] at h
      cases h
theorem el_cat {xs ys : List V} (ha : Evl.EvL ta σ H xs) (hb : Evl.EvL tb σ H ys) (hz : xs.length + ys.length ≤ 100000) : Evl.EvL (tOp rCat ta tb) σ H (xs ++ ys) := fun H1 e Q q =>
  ha H1 e _ fun a H2 ha0 e2 h2 => hb H2 (e.trans e2) _ fun b H3 hb0 e3 h3 => ⟨a, b, xs, ys, rfl, rfl, e3 _ _ h2, h3, sz_of hz, fun p hp => q p _ (fresh_back (e2.trans e3) hp) ((e2.trans e3).trans (Evl.Ex.new hp)) upd_same⟩
/-- names_told(book, held) -/
theorem w_names {b : Bk} {rows : List LRow} {gone : List Str} {C : Int} {i j : Nat} {E : XK} (s : DS K b rows gone H C) (hi : σ[i]? = some (some (.ref b.bp))) (hj : σ[j]? = some (some (.ref b.hl))) (k : ∀ H', Keep b H H' → DS K b rows gone H' C → Q (.bl true) H') : tCall (spNamesTold K b.Pt) [] E (tCons (tVar i) (tCons (tVar j) tNil)) σ H Q := by
  obtain ⟨xs, hx, hd⟩ := s.held
  exact w_call ⟨_, hi, _, hj, ⟨b.bp, b.hd, b.hl, xs, rows, rows.map toB, rfl, s.book.more cut_ex, sq_of hx, dpAll_ex cut_ex hd, s.same, s.tabs, fun H' e t => k H' (Keep.of_extN e) (s.tab e t)⟩⟩
/-- name_told(book.name_of(Web(..)), row) -/
theorem ev_nameTold {b : Bk} {rows : List LRow} {gone : List Str} {C : Int} {i j l : Nat} {mv rv : V} {m : Mad} {E1 E2 E3 : XK} (T : TX K mg) (s : DS K b rows gone H C) (hi : σ[i]? = some (some (.ref b.bp))) (hj : σ[j]? = some (some mv)) (hl : σ[l]? = some (some rv)) (hm : Dp K H mv (madD m)) (hr3 : Raw3m m) (hrv : RowIs K (cut b.S H) rows m rv) :
    Ev (tCall (spNameTold K) [] E1 (tCons (tMeth (He.ga K "Webbook") "name_of" (spNameOf K) [] E2 (tVar i) (tCons (tMake (He.ga K "Web") (spWeb K) [] E3 (tCons (tCB (Evl.rListS K) (tCons (tOp (rIxT K) (tVar j) (tC (.int 0))) tNil)) (tCons (tCB (Evl.rListS K) (tCons (tOp (rIxT K) (tVar j) (tC (.int 1))) tNil)) tNil))) tNil)) (tCons (tVar l) tNil))) σ H (.bl true) := by
  have hok := mkW_ok hr3.1
  obtain ⟨dx, kvs, h1, h2, _⟩ := (s.book.more cut_ex).out
  have nm : EvP (tMeth (He.ga K "Webbook") "name_of" (spNameOf K) [] E2 (tVar i) (tCons (tMake (He.ga K "Web") (spWeb K) [] E3 (tCons (tCB (Evl.rListS K) (tCons (tOp (rIxT K) (tVar j) (tC (.int 0))) tNil)) (tCons (tCB (Evl.rListS K) (tCons (tOp (rIxT K) (tVar j) (tC (.int 1))) tNil)) tNil))) tNil)) σ H (fun v _ => ∃ T, TextOf (mkW m.1 m.2) T ∧ (((∀ r ∈ rows.map toB, r.text ≠ T) ∧ v = .non) ∨ ∃ r ∈ rows.map toB, r.text = T ∧ v = .str r.name)) :=
    ep_meth (mkW m.1 m.2, b.bp, b.hd, rows.map toB) (ev_var hi) h1 rfl (ea_consP (ep_lweb hj hm hr3) (fun v H1 H2 e ⟨p, g1, g2, g3, g4⟩ => (⟨p, g1, g2, web_ex e g3, fun S o => web_ex (cut_mono e) (g4 S o)⟩ : ∃ p, v = .ref p ∧ H p = none ∧ WebAt K H2 p (mkW m.1 m.2) ∧ ∀ S, Own H S → WebAt K (cut S H2) p (mkW m.1 m.2))) ea_nilP) (fun vs H1 e1 h => by
      obtain ⟨x, r, rfl, ⟨p, rfl, _, g3, _⟩, rfl⟩ := h
      exact ⟨p, rfl, (s.book.more cut_ex).more e1, g3, hok, hr3.2⟩) fun _ _ _ _ _ h => h
  refine ev_ofP (fun H1 e1 Q q => ?_)
  refine nm H1 e1 _ fun v H2 e2 hv => ?_
  refine ⟨_, hl, ?_⟩
  obtain ⟨T', hT, hv⟩ := hv
  have r2 := hrv.ex ((cut_ex (S := b.S)).trans (e1.trans e2))
  show spNameTold K ([v, rv] ++ []) H2 Q E1
  rw [List.append_nil]
  rcases hrv with ⟨rfl, hno⟩ | ⟨i', r, p, rfl, hri, iso, hdp⟩
  · have hv' : v = .non := by
      rcases hv with ⟨_, h⟩ | ⟨q, hq1, hq2, _⟩
      · exact h
      · obtain ⟨r0, hr0, rfl⟩ := List.mem_map.mp hq1
        exact absurd ((s.look hr3 hT hr0).mp hq2) (hno r0 hr0)
    exact ⟨none, ⟨v, .non, rfl, rfl, hv'⟩, fun v' H3 e3 h => q v' H3 (e2.trans e3) h⟩
  · have hr := List.mem_of_getElem? hri
    have hv' : v = .str r.name := by
      rcases hv with ⟨h, _⟩ | ⟨q, hq1, hq2, hq3⟩
      · exact absurd ((s.look hr3 hT hr).mpr iso) (h (toB r) (List.mem_map.mpr ⟨r, hr, rfl⟩))
      · obtain ⟨r0, hr0, rfl⟩ := List.mem_map.mp hq1
        obtain ⟨i0, hi0⟩ := List.getElem?_of_mem hr0
        have : i0 = i' := nd_idx s.texts (x := T') (by rw [List.getElem?_map, hi0]; show some r0.text = _; rw [show r0.text = T' from hq2]) (by rw [List.getElem?_map, hri]; show some r.text = _; rw [(s.look hr3 hT hr).mpr iso])
        subst this
        rw [hri] at hi0
        rw [Option.some.inj hi0]
        exact hq3
    exact ⟨some r, ⟨v, .ref p, rfl, dp_ex (cut_ex.trans (e1.trans e2)) hdp, hv'⟩, fun v' H3 e3 h => q v' H3 (e2.trans e3) h⟩
theorem iso_book {τ : List Nat} {m m' : Mad} (I : Iso τ (copyW (mkW m.1 m.2)) (mkW m'.1 m'.2)) : Iso τ (rawW m.1 m.2) (rawW m'.1 m'.2) :=
  iso_same (W1 := copyW (mkW m.1 m.2)) (W2 := mkW m'.1 m'.2) (W1' := rawW m.1 m.2) (W2' := rawW m'.1 m'.2) rfl (fun _ => rfl) (fun i j => by rw [bt_copy, bt_raw]) rfl (fun _ => rfl) (fun i j => (bt_raw _ _ i j).symm) I
/-- shown(book.shown(Web(..)), row, made) -/
theorem ev_shownTold {b : Bk} {rows : List LRow} {gone : List Str} {C : Int} {i j l : Nat} {mv rv : V} {m : Mad} {E1 E2 E3 : XK} (T : TX K mg) (s : DS K b rows gone H C) (hi : σ[i]? = some (some (.ref b.bp))) (hj : σ[j]? = some (some mv)) (hl : σ[l]? = some (some rv)) (hm : Dp K H mv (madD m)) (hr3 : Raw3m m) (hrv : RowIs K (cut b.S H) rows m rv) :
    Ev (tCall (spLShown K) [] E1 (tCons (tMeth (He.ga K "Webbook") "shown" (spShown K) [] E2 (tVar i) (tCons (tMake (He.ga K "Web") (spWeb K) [] E3 (tCons (tCB (Evl.rListS K) (tCons (tOp (rIxT K) (tVar j) (tC (.int 0))) tNil)) (tCons (tCB (Evl.rListS K) (tCons (tOp (rIxT K) (tVar j) (tC (.int 1))) tNil)) tNil))) tNil)) (tCons (tVar l) (tCons (tVar j) tNil)))) σ H (.bl true) := by
  have hok := mkW_ok hr3.1
  obtain ⟨dx, kvs, h1, h2, _⟩ := (s.book.more cut_ex).out
  have nm : EvP (tMeth (He.ga K "Webbook") "shown" (spShown K) [] E2 (tVar i) (tCons (tMake (He.ga K "Web") (spWeb K) [] E3 (tCons (tCB (Evl.rListS K) (tCons (tOp (rIxT K) (tVar j) (tC (.int 0))) tNil)) (tCons (tCB (Evl.rListS K) (tCons (tOp (rIxT K) (tVar j) (tC (.int 1))) tNil)) tNil))) tNil)) σ H
      (fun v H' => ∃ T, TextOf (mkW m.1 m.2) T ∧ (((∀ r ∈ rows.map toB, r.text ≠ T) ∧ v = .non) ∨ ∃ r ∈ rows.map toB, r.text = T ∧ ∃ t a τ, v = .ref t ∧ H' t = some (.tup [.str r.name, .ref a]) ∧ H' a = some (.lst (natsV τ)) ∧ Iso τ r.W (mkW m.1 m.2))) :=
    ep_meth (mkW m.1 m.2, b.bp, b.hd, rows.map toB) (ev_var hi) h1 rfl (ea_consP (ep_lweb hj hm hr3) (fun v H1 H2 e ⟨p, g1, g2, g3, g4⟩ => (⟨p, g1, g2, web_ex e g3, fun S o => web_ex (cut_mono e) (g4 S o)⟩ : ∃ p, v = .ref p ∧ H p = none ∧ WebAt K H2 p (mkW m.1 m.2) ∧ ∀ S, Own H S → WebAt K (cut S H2) p (mkW m.1 m.2))) ea_nilP) (fun vs H1 e1 h => by
      obtain ⟨x, r, rfl, ⟨p, rfl, _, g3, _⟩, rfl⟩ := h
      exact ⟨p, rfl, (s.book.more cut_ex).more e1, g3, hok, hr3.2⟩) fun _ _ _ _ _ h => h
  refine ev_ofP (fun H1 e1 Q q => ?_)
  refine nm H1 e1 _ fun v H2 e2 hv => ?_
  refine ⟨_, hl, _, hj, ?_⟩
  obtain ⟨T', hT, hv⟩ := hv
  show spLShown K ([v, rv, mv] ++ []) H2 Q E1
  rw [List.append_nil]
  have m2 := dp_ex (e1.trans e2) hm
  rcases hrv with ⟨rfl, hno⟩ | ⟨i', r, p, rfl, hri, iso, hdp⟩
  · have hv' : v = .non := by
      rcases hv with ⟨_, h⟩ | ⟨q, hq1, hq2, _⟩
      · exact h
      · obtain ⟨r0, hr0, rfl⟩ := List.mem_map.mp hq1
        exact absurd ((s.look hr3 hT hr0).mp hq2) (hno r0 hr0)
    exact ⟨(none, m), ⟨v, .non, mv, rfl, m2, hr3, hv', rfl⟩, fun v' H3 e3 h => q v' H3 (e2.trans e3) h⟩
  · have hr := List.mem_of_getElem? hri
    rcases hv with ⟨h, _⟩ | ⟨q', hq1, hq2, t, a, τ, g1, g2, g3, g4⟩
    · exact absurd ((s.look hr3 hT hr).mpr iso) (h (toB r) (List.mem_map.mpr ⟨r, hr, rfl⟩))
    · obtain ⟨r0, hr0, rfl⟩ := List.mem_map.mp hq1
      obtain ⟨i0, hi0⟩ := List.getElem?_of_mem hr0
      have : i0 = i' := nd_idx s.texts (x := T') (by rw [List.getElem?_map, hi0]; show some r0.text = _; rw [show r0.text = T' from hq2]) (by rw [List.getElem?_map, hri]; show some r.text = _; rw [(s.look hr3 hT hr).mpr iso])
      subst this
      rw [hri] at hi0
      have er := Option.some.inj hi0
      subst er
      exact ⟨(some (r, τ), m), ⟨v, .ref p, mv, rfl, m2, hr3, dp_ex (cut_ex.trans (e1.trans e2)) hdp, (s.ok r hr).m, iso_book g4, t, a, g1, g2, g3⟩, fun v' H3 e3 h => q v' H3 (e2.trans e3) h⟩
/-- a def's body, its promise kept -/
theorem fn_ok {d : He.DefD} {N ps : List Str} {k : Nat} {sp : Sp} {fd : FuncData} (F : FunD K d.name d.qual d.params d.body d.scope [] [] (He.fAd K d.at_) fd) (S : FnScope N ps d.scope) (len : ∀ vs H Q E, sp vs H Q E → vs.length = ps.length)
    (hbody : ∀ (cdv : Value) (A : Around) (outer : List Env) (s : Shared) (H : Hp) (vs : List V) (Q : VK) (E : XK) (f : Addr), Room k (A.deeper (envOfC d.qual d.scope s.heap.objs.size f cdv)) → sp vs H Q E →
      ∃ t, PSs (cxOf CX0 P w K mg base N d.qual d.scope f cdv A outer s H E).nox d.body t ∧ t { nx := fun _ H' => Q .non H', rt := Q } (start N vs) H) : FnOk P w K mg base CX0 (k + 1) (He.fAd K d.at_) fd ps sp :=
  F.ok S len fun cdv A outer s H vs Q E hr h => by
    obtain ⟨t, h1, h2⟩ := hbody cdv A outer s H vs Q E _ hr h
    exact ⟨t, h1.nox, h2⟩
end
end L2.Tw
set_option Elab.async false
set_option linter.all false
set_option maxRecDepth 100000
set_option maxHeartbeats 4000000
set_option autoImplicit false
namespace L2.Tw
open PySem PySem.Spec PyProof.Rows L2
open C8 (Cal Met Mak pe_c pe_mk pe_mt pe_mt0 pe_gc InsC)
open Evl (Ex Ev EvT EvA fresh_back ex_l ex_t ex_rd sq_of st_of sz_of sz_lt ev_var ev_c ev_op rv_I0 rv_I rv_eq rv_ne et_test et_or et_and et_not et_B s_if ea_nil ea_cons q_asg q_when)
open LamX (CodeO TabS Tabs ExtN TabB)
def S0 (a p : Addr) : Addr → Prop := fun q => q = a ∨ q = p
theorem turn_raw3 {m : Mad} {o : List Nat} (h : Raw3m m) (ho : Ord m.1.length o) : Raw3m (turnK m.1 o, turnT m.2 o) := by
  have q := turn_raw (W := rawW m.1 m.2) h.1 ho
  refine ⟨q, ?_⟩
  show (turnK m.1 o).length ≤ 3
  unfold turnK
  rw [List.length_map, ho.len]
  exact h.2
section
variable {P : Program} {w : World} {K : PySem.W.Frag} {mg : Str → Option Value} {base : Heap}
def spLaw (K : PySem.W.Frag) (Pt : Addr) : Sp := fun vs H Q _ => ∃ (sa : Addr) (ns : List Int), vs = [.ref sa] ∧ SqL K H sa (ns.map V.int) ∧ ns.length ≤ 63 ∧ H Pt = some (.tbl #[]) ∧ ∀ H', Q (.bl true) H'
theorem law_ok {Pt : Addr} {fd : FuncData} (T : TX K mg) (X3 : ∀ x ∈ exN, ExF K x) (TB : TabB base mg (He.codeOf K ("_law_names_told", none)) Pt) (F : FunD K d_law.name d_law.qual d_law.params d_law.body d_law.scope [] [] (He.fAd K d_law.at_) fd) : FnOk P w K mg base CX0 26 (He.fAd K d_law.at_) fd ["_law_script"] (spLaw K Pt) := by
  refine fn_ok F sc_law (fun vs H Q E h => ?_) (fun cdv A outer s H vs Q E f hr h => ?_)
  · obtain ⟨sa, ns, rfl, _⟩ := h
    rfl
  · obtain ⟨sa, ns, rfl, hs, hns, hPt, k⟩ := h
    have sc := sc_law
    have c_law_begin := cal_law_begin (P := P) (w := w) (base := base) T
    have c_law_next := cal_law_next (P := P) (w := w) (base := base) T
    have c_law_web := cal_law_web (P := P) (w := w) (base := base) T
    have c_law_order := cal_law_order (P := P) (w := w) (base := base) T
    have c_law_turned := cal_law_turned (P := P) (w := w) (base := base) T
    have c_law_filled := cal_law_filled (P := P) (w := w) (base := base) T X3 TB
    have c_law_deed := cal_law_deed (P := P) (w := w) (base := base) (Pt := Pt) T X3
    have c_law_names_told := cal_law_names_told (P := P) (w := w) (base := base) T TB
    have c_law_row_of := cal_law_row_of (P := P) (w := w) (base := base) T
    have c_law_name_told := cal_law_name_told (P := P) (w := w) (base := base) T
    have c_law_shown := cal_law_shown (P := P) (w := w) (base := base) T
    have k_Webbook := k_Webbook_ok (P := P) (w := w) (base := base) T
    have k_Web := k_Web_ok (P := P) (w := w) (base := base) T
    have m_Webbook_name_of := m_name_of (P := P) (w := w) (base := base) T
    have m_Webbook_shown := m_shown (P := P) (w := w) (base := base) T
    refine ⟨_, pss_cons (ps_set (i := 1) sc.nd rfl (by first | exact Or.inl rfl | exact Or.inr rfl) (pe_c c_law_begin hr (by decide) rfl (pa_cons (pv 0) pa_nil)))
    (pss_cons (ps_set (i := 2) sc.nd rfl (by first | exact Or.inl rfl | exact Or.inr rfl) (pe_ix ix_list (pe_lst (pa_cons (pe_int) (pa_cons (pe_int) pa_nil))) (pe_callTy call_int1 (by rfl) (T.free "int") (by decide +kernel) (pa_cons (pe_cmpR op_eq (pe_op op_mod (pe_ix ix_list (pv 1) (pe_int) (fun _ _ => rfl)) (pe_int)) (pe_int) (by rfl)) pa_nil)) (fun _ _ => rfl)))
    (pss_cons (ps_setLc (i := 3) (own := [("_law_k", 4)]) (g := gName 4) (tt := tYes) (te := _) rfl sc.nd rfl rfl (sw_true rfl rfl rfl (by decide +kernel)) (pi_range1 rfl (T.free "range") (pa_cons (pv 2) pa_nil)) (blkOk_by (own := [("_law_k", 4)]) rfl) (fun _ _ _ _ _ => pg_name (i := 4) sc.nd rfl (by first | exact Or.inl rfl | exact Or.inr rfl)) (fun _ _ _ _ _ => pts_nil) (fun _ _ _ _ _ => pe_c c_law_web hr (by decide) rfl (pa_cons (pv 0) (pa_cons (pv 1) (pa_cons (pe_int) pa_nil)))))
    (pss_cons (ps_for PassesOwn.never rfl (pi_range1 rfl (T.free "range") (pa_cons (pe_int) pa_nil)) (pg_name (i := 4) sc.nd rfl (by first | exact Or.inl rfl | exact Or.inr rfl))
    (pss_cons (ps_set (i := 5) sc.nd rfl (by first | exact Or.inl rfl | exact Or.inr rfl) (pe_ix ix_list (pv 3) (pe_op op_mod (pe_c c_law_next hr (by decide) rfl (pa_cons (pv 0) (pa_cons (pv 1) pa_nil))) (pv 2)) (fun _ _ => rfl)))
      (pss_one (ps_expr (pe_bm PySem.F.plainAttrs_list PySem.F.slot_list_append PySem.F.type_list_append mt_append (pv 3) (pa_cons (pe_c c_law_turned hr (by decide) rfl (pa_cons (pv 5) (pa_cons (pe_c c_law_order hr (by decide) rfl (pa_cons (pv 0) (pa_cons (pv 1) (pa_cons (pe_callB call_len_seq (by rfl) (T.free "len") (by decide +kernel) (pa_cons (pe_ix ix_tup (pv 5) (pe_int) (fun _ _ => rfl)) pa_nil)) pa_nil)))) pa_nil))) pa_nil))))))
    (pss_cons (ps_set (i := 6) sc.nd rfl (by first | exact Or.inl rfl | exact Or.inr rfl) (pe_mk0 k_Webbook hr (by decide) rfl))
    (pss_cons (ps_set (i := 7) sc.nd rfl (by first | exact Or.inl rfl | exact Or.inr rfl) (pe_lst (pa_nil)))
    (pss_cons (ps_set (i := 8) sc.nd rfl (by first | exact Or.inl rfl | exact Or.inr rfl) (pe_lst (pa_nil)))
    (pss_cons (ps_if (PW.pt (pw_and (pt_cmpR op_gt (pv 2) (pe_int) (by rfl)) (pw_and1 (pt_not (pt_val (pe_c c_law_filled hr (by decide) rfl (pa_cons (pv 6) (pa_cons (pv 7) (pa_cons (pv 3) pa_nil)))))))))
    (pss_one (ps_ret (pe_bl)))
    (pss_nil))
    (pss_cons (ps_for PassesOwn.never rfl (pi_list (pe_op op_cat (pe_slice sl_list (pv 0) po_none (po_some (pe_int))) (pe_lst (pa_cons (pe_int) pa_nil)))) (pg_name (i := 9) sc.nd rfl (by first | exact Or.inl rfl | exact Or.inr rfl))
    (pss_cons (ps_if (pt_not (pt_val (pe_c c_law_deed hr (by decide) rfl (pa_cons (pv 0) (pa_cons (pv 1) (pa_cons (pv 6) (pa_cons (pv 7) (pa_cons (pv 8) (pa_cons (pe_ix ix_list (pv 3) (pe_op op_mod (pe_c c_law_next hr (by decide) rfl (pa_cons (pv 0) (pa_cons (pv 1) pa_nil))) (pe_callB call_len_seq (by rfl) (T.free "len") (by decide +kernel) (pa_cons (pv 3) pa_nil))) (fun _ _ => rfl)) pa_nil)))))))))
      (pss_one (ps_ret (pe_bl)))
      (pss_nil))
      (pss_cons (ps_set (i := 10) sc.nd rfl (by first | exact Or.inl rfl | exact Or.inr rfl) (pe_c c_law_next hr (by decide) rfl (pa_cons (pv 0) (pa_cons (pv 1) pa_nil))))
      (pss_cons (ps_set (i := 5) sc.nd rfl (by first | exact Or.inl rfl | exact Or.inr rfl) (pe_ix ix_list (pv 3) (pe_op op_mod (pe_op op_fdiv (pv 10) (pe_int)) (pe_callB call_len_seq (by rfl) (T.free "len") (by decide +kernel) (pa_cons (pv 3) pa_nil))) (fun _ _ => rfl)))
      (pss_cons (ps_if (PW.pt (pw_and (pt_cmpR op_eq (pe_op op_mod (pv 10) (pe_int)) (pe_int) (by rfl)) (pw_and1 (pt_not (pt_val (pe_c c_law_names_told hr (by decide) rfl (pa_cons (pv 6) (pa_cons (pv 7) pa_nil))))))))
      (pss_one (ps_ret (pe_bl)))
      (pss_nil))
      (pss_cons (ps_set (i := 11) sc.nd rfl (by first | exact Or.inl rfl | exact Or.inr rfl) (pe_c c_law_row_of hr (by decide) rfl (pa_cons (pv 7) (pa_cons (pv 5) pa_nil))))
      (pss_cons (ps_if (pt_not (pt_val (pe_c c_law_name_told hr (by decide) rfl (pa_cons (pe_mt m_Webbook_name_of hr (by decide) (pv 6) (pa_cons (pe_mk k_Web hr (by decide) rfl (pa_cons (pe_callTy call_list_of (by rfl) (T.free "list") (by decide +kernel) (pa_cons (pe_ix ix_tup (pv 5) (pe_int) (fun _ _ => rfl)) pa_nil)) (pa_cons (pe_callTy call_list_of (by rfl) (T.free "list") (by decide +kernel) (pa_cons (pe_ix ix_tup (pv 5) (pe_int) (fun _ _ => rfl)) pa_nil)) pa_nil))) pa_nil)) (pa_cons (pv 11) pa_nil)))))
      (pss_one (ps_ret (pe_bl)))
      (pss_nil))
      (pss_cons (ps_if (pt_not (pt_val (pe_c c_law_shown hr (by decide) rfl (pa_cons (pe_mt m_Webbook_shown hr (by decide) (pv 6) (pa_cons (pe_mk k_Web hr (by decide) rfl (pa_cons (pe_callTy call_list_of (by rfl) (T.free "list") (by decide +kernel) (pa_cons (pe_ix ix_tup (pv 5) (pe_int) (fun _ _ => rfl)) pa_nil)) (pa_cons (pe_callTy call_list_of (by rfl) (T.free "list") (by decide +kernel) (pa_cons (pe_ix ix_tup (pv 5) (pe_int) (fun _ _ => rfl)) pa_nil)) pa_nil))) pa_nil)) (pa_cons (pv 11) (pa_cons (pv 5) pa_nil))))))
      (pss_one (ps_ret (pe_bl)))
      (pss_nil))
      (pss_one (ps_if (PW.pt (pw_and (pt_cmpR op_eq (pe_op op_mod (pv 10) (pe_int)) (pe_int) (by rfl)) (pw_and1 (pt_not (pt_val (pe_c c_law_names_told hr (by decide) rfl (pa_cons (pv 6) (pa_cons (pv 7) pa_nil))))))))
      (pss_one (ps_ret (pe_bl)))
      (pss_nil)))))))))))
    (pss_one (ps_ret (pe_bl))))))))))), ?_⟩
    have tb0 : Tabs (lamT Pt) H := fun p hp => by
      rw [List.mem_singleton.mp hp]
      exact TabS.nil hPt
    -- the number
    refine q_asgP (P := fun v H' => ∃ a n, v = .ref a ∧ H a = none ∧ H' a = some (.lst [.int 0, .int n]) ∧ 0 ≤ n ∧ n < 2147483647) (ep_call ns (eap_of (vs := [.ref sa]) (ea_cons (ev_var rfl) ea_nil)) (fun vs H1 e1 h => by
      subst h
      exact ⟨sa, rfl, ex_l e1 hs⟩) fun H1 v H2 e1 e2 ⟨a, n, h1, h2, h3⟩ => ⟨a, n, h1, fresh_back e1 h2, h3⟩) fun v H1 e1 hv => ?_
    obtain ⟨a, n0, rfl, a0, a1, hn0, hn1⟩ := hv
    obtain ⟨x, hx⟩ : ∃ x : LIn, x = ⟨noT H, sa, a, ns⟩ := ⟨_, rfl⟩
    have L1 : LS K x H1 0 := by
      rw [hx]
      exact ⟨noT_l hs, noT_ex.trans e1, noT_none a0, by show ns.length ≤ 1000; omega, ⟨0, n0, a1, by omega, by omega, hn0, hn1⟩, by omega⟩
    have xa : x.at_ = a := by rw [hx]
    have xs : x.sa = sa := by rw [hx]
    have xH : x.H0 = noT H := by rw [hx]
    have xn : ∀ q ps, x.H0 q ≠ some (.tbl ps) := fun q ps h => by
      rw [xH] at h
      exact (noT_get h).2 ps rfl
    -- how many
    have hm8 := mod_in (a := n0) (m := 8) (by omega)
    obtain ⟨many, hmany, evm⟩ : ∃ many : Nat, (many = 3 ∨ many = 10) ∧ Ev (tOp (rIxL K) (tLst (tCons (tC (.int 3)) (tCons (tC (.int 10)) tNil))) (tCB (fun xs H Q => (∃ i, xs = [.int i] ∧ Q (.int i) H) ∨ ∃ k, xs = [.bl k] ∧ Q (.int (if k then 1 else 0)) H) (tCons (tOp rEq (tOp (rI (fun _ j => 0 < j) fun i j => .int (i % j)) (tOp (rIxL K) (tVar 1) (tC (.int 1))) (tC (.int 8))) (tC (.int 3))) tNil)))
        [some (.ref sa), some (.ref a), none, none, none, none, none, none, none, none, none, none] H1 (.int (many : Int)) := by
      have q1 := ev_int1 (ev_op (σ := [some (.ref sa), some (.ref a), none, none, none, none, none, none, none, none, none, none]) (H := H1) (r := rEq) (ev_op (ev_op (ev_var (i := 1) rfl) ev_c (Evl.rv_ixL (K := K) (sq_of a1) (atI_nat (j := 1) rfl))) ev_c (rv_I (C := fun _ j => 0 < j) (g := fun i j => .int (i % j)) (j := 8) (by decide))) (ev_c (v := .int 3)) (rv_eq rfl))
      have lst := ep_lstD (K := K) (σ := [some (.ref sa), some (.ref a), none, none, none, none, none, none, none, none, none, none]) (H := H1) (tA := tCons (tC (.int 3)) (tCons (tC (.int 10)) tNil)) (ds := [.int 3, .int 10]) (ea_consD (ep_int ev_c) (ea_consD (ep_int ev_c) ea_nilD))
      by_cases c : V.int (n0 % 8) = V.int 3
      · rw [decide_eq_true c] at q1
        exact ⟨10, .inr rfl, ev_intD (ep_ixL (n := 1) lst.newDp q1 rfl)⟩
      · rw [decide_eq_false c] at q1
        exact ⟨3, .inl rfl, ev_intD (ep_ixL (n := 0) lst.newDp q1 rfl)⟩
    refine q_asg evm fun H2 e2 => ?_
    have L2' := L1.more e2
    have a2 := e2 _ _ a1
    have mn : 3 ≤ many ∧ many ≤ 10 := by omega
    have mpos : (0 : Int) < (many : Int) := by omega
    -- the pool
    refine q_set (w_lcR (n := many) (ea_cons (ev_var rfl) ea_nil) (by omega) (fun y => rfl) (fun Dl i acc H' => H2 Dl = none ∧ But a H2 H' ∧ LS K x H' (106 * (i : Int)) ∧ ∃ pool : List Mad, pool.length = i ∧ DpAll K (cut (S0 a Dl) H') acc (pool.map madD) ∧ ∀ m ∈ pool, Raw3m m) (fun Dl H3 e3 h3 => ?_) (fun Dl i acc H3 hi ⟨d1, d2, d3, pool, d4, d5, d6⟩ hD Q' q => ?_) fun Dl acc H3 ⟨d1, d2, d3, pool, d4, d5, d6⟩ hl hD => ?_)
    · exact ⟨fresh_back e3 h3, ex_but (e3.trans (Evl.Ex.new h3)) (But.refl _ _), (L2'.more (e3.trans (Evl.Ex.new h3))).up (by omega) (by omega), [], rfl, .nil, fun m hm => by cases hm⟩
    · have na : Dl ≠ a := fun z => by
        rw [z, a2] at d1
        cases d1
      refine w_at (K := K) () (ea_cons (ev_var (v := .ref sa) rfl) (ea_cons (ev_var (v := .ref a) rfl) (ea_cons ev_c ea_nil))) d3 (by omega) (fun _ _ => by rw [xs, xa]) fun v H4 H5 e4 b5 L5 hv => ?_
      rw [xa] at b5
      obtain ⟨p, ka, ta, ks, ts, rfl, hma, p0, ka0, ta0, hr3⟩ := hv
      have hD5 := b5 _ _ (e4 _ _ hD) na
      obtain ⟨cc, nn, h5a, _⟩ := L5.at_
      rw [xa] at h5a
      have own5 : Own H5 (S0 a Dl) := fun q hq => by
        rcases hq with rfl | rfl
        · exact ⟨_, h5a⟩
        · exact ⟨_, hD5⟩
      have nS : ∀ {q : Addr}, H4 q = none → ¬ S0 a Dl q := fun hq z => by
        rcases z with rfl | rfl
        · obtain ⟨_, _, h3a, _⟩ := d3.at_
          rw [xa] at h3a
          rw [e4 _ _ h3a] at hq
          cases hq
        · rw [e4 _ _ hD] at hq
          cases hq
      have dm := made_cut hma own5 (nS p0) (nS ka0) (nS ta0)
      have e35 : Ex (cut (S0 a Dl) H3) (cut (S0 a Dl) H5) := (cut_mono e4).trans (cut_butIn b5 (.inl rfl))
      have bu : But Dl H5 (upd H5 Dl (.lst (acc ++ [.ref p]))) := But.upd
      have e5u : Ex (cut (S0 a Dl) H5) (cut (S0 a Dl) (upd H5 Dl (.lst (acc ++ [.ref p])))) := cut_butIn bu (.inr rfl)
      have x0 : x.H0 Dl = none := L2'.f0 d1
      refine q _ _ hD5 ⟨d1, ((d2.ex e4).trans b5).mut d1, (L5.but bu x0 (by rw [xa]; exact na)).up (by omega) (by omega), pool ++ [(ks, ts)], by simp [d4], ?_, fun m hm => ?_⟩
      · rw [List.map_append]
        exact dpAll_snoc (dpAll_ex (e35.trans e5u) d5) (dp_ex e5u dm)
      · rcases List.mem_append.mp hm with hm | hm
        · exact d6 m hm
        · rw [show m = (ks, ts) by simpa using hm]
          exact hr3
    have na : Dl ≠ a := fun z => by
      rw [z, a2] at d1
      cases d1
    have x0 : x.H0 Dl = none := L2'.f0 d1
    have hc1 : 106 * (many : Int) ≤ 1100 := by omega
    -- two more, turned
    refine q_forR (n := 2) (ea_cons ev_c ea_nil) (by omega) (fun i σ' H' => (∃ o4 o5, σ' = [some (.ref sa), some (.ref a), some (.int (many : Int)), some (.ref Dl), o4, o5, none, none, none, none, none, none]) ∧ But a H2 H' ∧ LS K x H' (1100 + 4 * (i : Int)) ∧ ∃ pvs, ∃ pool : List Mad, H' Dl = some (.lst pvs) ∧ DpAll K (cut (S0 a Dl) H') pvs (pool.map madD) ∧ pool.length = many + i ∧ ∀ m ∈ pool, Raw3m m)
      (fun H4 e4 => ⟨⟨_, _, rfl⟩, d2.ex e4, (d3.more e4).up (by omega) (by omega), acc, pool, e4 _ _ hD, dpAll_ex (cut_mono e4) d5, by omega, d6⟩) (fun i σ' H4 hi p => ?_) (fun σ' H4 p => ?_)
    · obtain ⟨⟨o4, o5, rfl⟩, b4, L4, pvs, pool4, h4, d4', l4, r4⟩ := p
      have hlen := DpAll.length d4'
      rw [List.length_map] at hlen
      refine w_asg (w_op (w_ev (ev_var (v := .ref Dl) rfl) fun H5 e5 => w_op (w_next (x := x) (L4.more e5) (by omega) (by rw [xs]; rfl) (by rw [xa]; rfl) fun q H6 b6 L6 q0 q1 => w_ev (ev_var (v := .int (many : Int)) rfl) fun H7 e7 => w_rv (rv_I mpos) fun H8 e8 => ?_)))
      rw [xa] at b6
      have hmq := mod_in (a := q) (m := (many : Int)) mpos
      obtain ⟨j, hj⟩ : ∃ j : Nat, q % (many : Int) = (j : Int) := ⟨(q % (many : Int)).toNat, by omega⟩
      have hjl : j < pool4.length := by omega
      have e68 := e7.trans e8
      have h8 := e68 _ _ (b6 _ _ (e5 _ _ h4) na)
      have c48 : Ex (cut (S0 a Dl) H4) (cut (S0 a Dl) H8) := ((cut_mono e5).trans (cut_butIn b6 (.inl rfl))).trans (cut_mono e68)
      have L8 := L6.more e68
      have b8 : But a H2 H8 := ((b4.ex e5).trans b6).ex e68
      obtain ⟨m, hm⟩ : ∃ m, pool4[j]? = some m := ⟨_, List.getElem?_eq_getElem hjl⟩
      obtain ⟨mv, hmv, dmv⟩ := dpAll_get' (dpAll_ex c48 d4') (i := j) (d := madD m) (by rw [List.getElem?_map, hm]; rfl)
      have hr3 := r4 m (List.mem_of_getElem? hm)
      rw [hj]
      refine w_rv (Evl.rv_ixL (sq_of h8) (atI_nat hmv)) fun H9 e9 => ?_
      have lm := ev_lenL (K := K) (te := tOp (rIxT K) (tVar 5) (tC (.int 0))) (σ := [some (.ref sa), some (.ref a), some (.int (many : Int)), some (.ref Dl), some (.int (i : Int)), some mv, none, none, none, none, none, none]) (H := H9) (ep_ixT (n := 0) (d := .list (m.1.map .str)) (ep_varD (d := madD m) rfl (dp_ex (cut_ex.trans e9) dmv)) ev_c rfl)
      rw [List.length_map] at lm
      have m3 : m.1.length ≤ 3 := hr3.2
      refine w_drop (w_bm ⟨_, rfl, Or.inl ⟨rfl, _, sq_of (e9 _ _ h8)⟩, w_cons (w_call ⟨_, rfl, w_cons (w_at (K := K) m.1.length (ea_cons (ev_var (v := .ref sa) rfl) (ea_cons (ev_var (v := .ref a) rfl) (ea_cons lm ea_nil))) (L8.more e9) (by omega) (fun _ _ => by rw [xs, xa]; exact ⟨rfl, m3⟩) fun v H10 H11 e10 b11 L11 hv => w_nil ?_)⟩)⟩)
      rw [xa] at b11
      obtain ⟨op, o, rfl, op0, op1, hord⟩ := hv
      have e810 := e9.trans e10
      have c811 : Ex (cut (S0 a Dl) H8) (cut (S0 a Dl) H11) := (cut_mono e810).trans (cut_butIn b11 (.inl rfl))
      refine ⟨(m.1, m.2, o), ⟨mv, .ref op, rfl, dp_ex (c811.trans cut_ex) dmv, dp_natsV op1, hr3, hord⟩, fun v H12 e12 ⟨p, ka, ta, hv, hma, p0, ka0, ta0⟩ => ?_⟩
      subst hv
      have h12 := e12 _ _ (b11 _ _ (e810 _ _ h8) na)
      have L12 := L11.more e12
      obtain ⟨cc, nn, h12a, _⟩ := L12.at_
      rw [xa] at h12a
      have own12 : Own H12 (S0 a Dl) := fun q hq => by
        rcases hq with rfl | rfl
        · exact ⟨_, h12a⟩
        · exact ⟨_, h12⟩
      have nS : ∀ {q : Addr}, H11 q = none → ¬ S0 a Dl q := fun hq z => by
        rcases z with rfl | rfl
        · obtain ⟨_, _, h3a, _⟩ := L11.at_
          rw [xa] at h3a
          rw [h3a] at hq
          cases hq
        · rw [b11 _ _ (e810 _ _ h8) na] at hq
          cases hq
      have dm := made_cut hma own12 (nS p0) (nS ka0) (nS ta0)
      have bu : But Dl H12 (upd H12 Dl (.lst (pvs ++ [.ref p]))) := But.upd
      have eu : Ex (cut (S0 a Dl) H12) (cut (S0 a Dl) (upd H12 Dl (.lst (pvs ++ [.ref p])))) := cut_butIn bu (.inr rfl)
      refine w_nil ⟨Dl, pvs, .ref p, rfl, rfl, h12, sz_lt (by omega), ⟨_, _, rfl⟩, ((((b8.ex e810).trans b11).ex e12).mut d1), (L12.but bu x0 (by rw [xa]; exact na)).up (by omega) (by omega), pvs ++ [.ref p], pool4 ++ [(turnK m.1 o, turnT m.2 o)], upd_same, ?_, by simp; omega, fun m' hm' => ?_⟩
      · rw [List.map_append]
        exact dpAll_snoc (dpAll_ex (((c48.trans c811).trans (cut_mono e12)).trans eu) d4') (dp_ex eu dm)
      · rcases List.mem_append.mp hm' with hm' | hm'
        · exact r4 m' hm'
        · rw [show m' = (turnK m.1 o, turnT m.2 o) by simpa using hm']
          exact turn_raw3 hr3 hord
    · obtain ⟨⟨o4, o5, rfl⟩, b4, L4, pvs, pool4, h4, d4', l4, r4⟩ := p
      -- the book
      refine q_asgP (P := fun v H' => ∃ bp hd, v = .ref bp ∧ H4 bp = none ∧ H4 hd = none ∧ BookAt K H' bp hd []) (ep_make (α := Unit) (PA := fun vs _ => vs = []) ea_nilP fun vs H5 e5 hv x' dx hx' hdx hne Q' kQ => ?_) fun v H6 e6 hv => ?_
      · subst hv
        have eI : Ex H5 (upd (upd H5 dx (.own x')) x' (.ins (He.ga K "Webbook") dx [])) := Evl.Ex.mut (Evl.Ex.new hdx) hx'
        exact ⟨x', dx, rfl, upd_same, fun H' hd b' h0 B => kQ H' (But.fresh eI b' hx') ⟨x', hd, rfl, fresh_back e5 hx', fresh_back (e5.trans eI) h0, B⟩⟩
      obtain ⟨bp, hd, rfl, bp0, hd0, B6⟩ := hv
      refine q_asgP (ep_lstD (K := K) ea_nilD) fun v H7 e7 hv => ?_
      obtain ⟨hl, ys, rfl, hl0, hl1, hA⟩ := hv
      cases hA
      refine q_asgP (ep_lstD (K := K) ea_nilD) fun v H8 e8 hv => ?_
      obtain ⟨gl, ys, rfl, gl0, gl1, hA⟩ := hv
      cases hA
      have e48 : Ex H4 H8 := e6.trans (e7.trans e8)
      obtain ⟨b, hb⟩ : ∃ b : Bk, b = ⟨x, Pt, bp, hd, hl, gl⟩ := ⟨_, rfl⟩
      have hl4 : H4 hl = none := fresh_back e6 hl0
      have gl4 : H4 gl = none := fresh_back (e6.trans e7) gl0
      have n1 : hl ≠ gl := fun z => by
        rw [z, gl0] at hl1
        cases hl1
      have n2 : hl ≠ x.at_ := L4.ne hl4
      have n3 : gl ≠ x.at_ := L4.ne gl4
      have own8 : Own H8 b.S := fun q hq => by
        rw [hb] at hq
        rcases hq with rfl | rfl | rfl
        · obtain ⟨_, _, h, _⟩ := L4.at_
          exact ⟨_, e48 _ _ h⟩
        · exact ⟨_, e8 _ _ hl1⟩
        · exact ⟨_, gl1⟩
      have s8 : DS K b [] [] H8 1108 := by
        obtain ⟨dx, kvs, g1, g2, g3⟩ := (B6.more (e7.trans e8)).out
        have nb := own8.kind g1 (fun _ z => by cases z)
        have nh := own8.kind g2 (fun _ z => by cases z)
        have tb8 : Tabs (lamT Pt) H8 := (tabs_but ((tb0.ext e1).ext e2) b4 a2 (fun _ z => by cases z) (fun _ z => by cases z)).ext e48
        rw [hb] at nb nh ⊢
        exact ⟨(L4.more e48).up (by omega) (by omega), xn, L4.f0 hl4, L4.f0 gl4, L4.f0 hd0, n1, n2, n3, ⟨[], e8 _ _ hl1, .nil⟩, gl1, ⟨⟨dx, kvs, cut_at g1 nb, cut_at g2 nh, by cases g3; exact .nil⟩, List.nodup_nil, Nat.zero_le _⟩, tb8, fun r hr => (by cases hr), fun r hr => (by cases hr), Nat.zero_le _⟩
      have h8 := e48 _ _ h4
      have nD : ¬ b.S Dl := fun z => by
        rw [hb] at z
        rcases z with z | z | z
        · exact na (z.trans xa)
        · rw [← show Dl = hl from z, h4] at hl4
          cases hl4
        · rw [← show Dl = gl from z, h4] at gl4
          cases gl4
      have p8 : SqL K (cut b.S H8) Dl pvs := sq_of (cut_at h8 nD)
      have d8 : DpAll K (cut b.S H8) pvs (pool4.map madD) := dpAll_ex (ex_cut ((cut_ex (S := S0 a Dl)).trans e48) fun q hq => cut_none (by
        rw [hb] at hq
        rcases hq with z | z | z
        · exact .inl (.inl (z.trans xa))
        · rw [show q = hl from z]
          exact .inr hl4
        · rw [show q = gl from z]
          exact .inr gl4)) d4'
      have hbx : b.x = x := by rw [hb]
      have hbbp : b.bp = bp := by rw [hb]
      have hbhl : b.hl = hl := by rw [hb]
      have hbgl : b.gl = gl := by rw [hb]
      have hbPt : b.Pt = Pt := by rw [hb]
      have hbsa : b.x.sa = sa := by rw [hbx, xs]
      have hbat : b.x.at_ = a := by rw [hbx, xa]
      subst hbbp hbhl hbgl hbPt hbsa hbat
      have lpool : (pvs.length : Int) = (many : Int) + 2 := by
        have := DpAll.length d4'
        rw [List.length_map] at this
        omega
      -- ten webs ahead
      refine q_andR (R := fun H9 => ∃ rows, DS K b rows [] H9 1108 ∧ Keep b H8 H9 ∧ rows.length ≤ 10) (et_test (ev_op (ev_var rfl) ev_c rv_I0)) (fun _ H9 e9 Qk hQ => ?_) (fun _ H9 e9 => ⟨[], s8.ex e9, Keep.of_ex e9, Nat.zero_le _⟩) fun H9 ⟨rows9, s9, k89, l9⟩ => ?_
      · exact w_call ⟨_, rfl, _, rfl, _, rfl, ⟨b, 1108, Dl, pvs, pool4, rfl, rfl, s8.ex e9, ex_l (cut_ex.trans e9) p8, dpAll_ex (cut_mono e9) d8, r4, fun H' rows' kp s' hl' => hQ H' ⟨rows', s', (Keep.of_ex e9).trans kp, hl'⟩⟩⟩
      obtain ⟨kvs8, hh8⟩ := s8.hdK
      have p9 := keep_l hh8 k89 p8
      have d9 := s8.keepA k89 d8
      have hs9 : SqL K H9 b.x.sa (ns.map V.int) := by
        have q := ex_l s9.L.ex s9.L.scr
        rw [hbx] at q ⊢
        rw [hx] at q ⊢
        exact q
      have lcut : (cutV (ns.map V.int) none (some 29)).length ≤ 29 := by
        have e : (29 : Int) = ((29 : Nat) : Int) := rfl
        unfold cutV
        rw [_root_.HT.sIx_none, e, _root_.HT.sIx_nat, List.drop_zero, Nat.sub_zero, List.length_take]
        omega
      refine Evl.q_forNLn (K := K) (xs := cutV (ns.map V.int) none (some 29) ++ [.int 0]) (el_cat (Evl.el_sl (ev_var rfl) Evl.eo_none (Evl.eo_some ev_c) hs9) (Evl.el_lst (ea_cons ev_c ea_nil) (by simp)) (by simp; omega))
        (fun p i σ' H' => (∃ o4 o5 o9 o10 o11, σ' = [some (.ref b.x.sa), some (.ref b.x.at_), some (.int (many : Int)), some (.ref Dl), o4, o5, some (.ref b.bp), some (.ref b.hl), some (.ref b.gl), o9, o10, o11]) ∧ SqL K (cut b.S H') p (cutV (ns.map V.int) none (some 29) ++ [.int 0]) ∧ SqL K (cut b.S H') Dl pvs ∧ DpAll K (cut b.S H') pvs (pool4.map madD) ∧ ∃ rows gone, DS K b rows gone H' (1108 + 10 * (i : Int)) ∧ rows.length ≤ 10 + i ∧ gone.length ≤ i)
        (fun p H10 hp e10 h10 => ⟨⟨_, _, _, _, _, rfl⟩, sq_of (cut_at h10 (s9.own.not hp)), ex_l (cut_mono e10) p9, dpAll_ex (cut_mono e10) d9, rows9, [], (s9.ex e10).up (by omega) (by omega), by omega, Nat.zero_le _⟩) (fun p i σ' H' _ q => ex_l cut_ex q.2.1) (fun p i xv σ' H10 hxi q => ?_) (fun p σ' H10 q => ?_)
      · obtain ⟨⟨o4, o5, o9, o10, o11, rfl⟩, l10, p10, d10, rows, gone, s10, lr, lg⟩ := q
        have hi30 : i < 30 := by
          have := (List.getElem?_eq_some_iff.mp hxi).1
          simp at this
          omega
        have lnp : ∀ {σ' : L2.St} {H' : Hp}, SqL K H' Dl pvs → σ'[3]? = some (some (.ref Dl)) → Ev (tCB (Evl.rLenS K) (tCons (tVar 3) tNil)) σ' H' (.int ((many : Int) + 2)) := fun {σ' H'} hp h => by
          have q := Evl.ev_len (K := K) (σ := σ') (H := H') (ta := tVar 3) (ev_var h) hp
          rwa [lpool] at q
        have ppos : (0 : Int) < (many : Int) + 2 := by omega
        have pick : ∀ {H' : Hp} (q : Int), DpAll K (cut b.S H') pvs (pool4.map madD) → ∃ (j : Nat) (mv : V) (m : Mad), q % ((many : Int) + 2) = (j : Int) ∧ pvs[j]? = some mv ∧ Dp K (cut b.S H') mv (madD m) ∧ Raw3m m := fun {H'} q hd => by
          have hmq := mod_in (a := q) (m := (many : Int) + 2) ppos
          have hjl : (q % ((many : Int) + 2)).toNat < pool4.length := by omega
          obtain ⟨mv, h1, h2⟩ := dpAll_get' hd (i := (q % ((many : Int) + 2)).toNat) (d := madD pool4[(q % ((many : Int) + 2)).toNat]) (by rw [List.getElem?_map, List.getElem?_eq_getElem hjl]; rfl)
          exact ⟨_, mv, _, by omega, h1, h2, r4 _ (List.getElem_mem hjl)⟩
        obtain ⟨kvs10, hh10⟩ := s10.hdK
        -- the deed
        refine q_notT (w_call ⟨_, rfl, _, rfl, _, rfl, _, rfl, _, rfl, w_cons (w_op (w_ev (ev_var (v := .ref Dl) rfl) fun H11 e11 => w_op (w_next (x := b.x) ((s10.ex e11).L) (by omega) rfl rfl fun q H12 b12 L12 q0 q1 => ?_)))⟩)
        have s12 := (s10.ex e11).draw b12 L12
        have c12 : Ex (cut b.S H10) (cut b.S H12) := (cut_mono e11).trans (cut_butIn b12 Bk.S_at)
        refine w_ev (lnp (ex_l (c12.trans cut_ex) p10) rfl) fun H13 e13 => w_rv (rv_I ppos) fun H14 e14 => ?_
        have e24 := e13.trans e14
        have c14 : Ex (cut b.S H10) (cut b.S H14) := c12.trans (cut_mono e24)
        obtain ⟨j, mv, m, hj, hmv, dmv, hr3⟩ := pick q (dpAll_ex c14 d10)
        rw [hj]
        refine w_rv (Evl.rv_ixL (ex_l (c14.trans cut_ex) p10) (atI_nat hmv)) fun H15 e15 => w_nil ?_
        have s15 := s12.ex (e24.trans e15)
        have k15 : Keep b H10 H15 := (Keep.of_ex e11).trans ((Keep.of_S b12 Bk.S_at).trans (Keep.of_ex (e24.trans e15)))
        refine ⟨b, rows, gone, _, mv, m, rfl, rfl, s15, by omega, by omega, by omega, dp_ex (cut_mono e15) dmv, hr3, fun H16 rows' gone' k16 s16 lr' lg' => not_true ?_⟩
        have k1016 := k15.trans k16
        -- what is asked behind it
        refine w_asg (w_next (x := b.x) s16.L (by omega) rfl rfl fun n H17 b17 L17 n0 n1 => ?_)
        have s17 := s16.draw b17 L17
        have k17 := k1016.trans (Keep.of_S b17 Bk.S_at)
        have p17 := keep_l hh10 k17 p10
        have d17 := s10.keepA k17 d10
        obtain ⟨j2, mv2, m2, hj2, hmv2, dmv2, hr32⟩ := pick (n / 2) d17
        refine q_asg (v := mv2) (ev_op (ev_var rfl) (ev_op (z := .int (j2 : Int)) (ev_op (ev_var rfl) ev_c (rv_I ⟨by decide, by decide⟩)) (lnp (ex_l cut_ex p17) rfl) (by rw [← hj2]; exact rv_I (C := fun i j => 0 < j) (g := fun i j => .int (i % j)) ppos)) (Evl.rv_ixL (ex_l cut_ex p17) (atI_nat hmv2))) fun H18 e18 => ?_
        have s18 := s17.ex e18
        refine q_andR (R := fun H' => Keep b H18 H' ∧ DS K b rows' gone' H' (1108 + 10 * (i : Int) + 1 + 4 + 1)) (et_test (ev_op (ev_op (ev_var rfl) ev_c (rv_I (by decide))) ev_c (rv_eq rfl))) (fun _ H19 e19 Qk hQ => w_names (s18.ex e19) rfl rfl fun H' kk ss => hQ H' ⟨(Keep.of_ex e19).trans kk, ss⟩) (fun _ H19 e19 => ⟨Keep.of_ex e19, s18.ex e19⟩) fun H19 ⟨k19, s19⟩ => ?_
        have k1019 := (k17.trans (Keep.of_ex e18)).trans k19
        have dm19 : Dp K (cut b.S H19) mv2 (madD m2) := s17.keepD ((Keep.of_ex e18).trans k19) dmv2
        refine q_asgP (ep_lrow s19 rfl rfl (dp_ex cut_ex dm19) hr32) fun rv H20 e20 hrv => ?_
        have s20 := s19.ex e20
        refine q_when (et_not (et_B (ev_nameTold T s20 rfl rfl rfl (dp_ex (cut_ex.trans e20) dm19) hr32 (hrv.ex (cut_mono e20))))) (fun hb => by cases hb) fun _ H21 e21 => ?_
        have s21 := s20.ex e21
        refine q_when (et_not (et_B (ev_shownTold T s21 rfl rfl rfl (dp_ex (cut_ex.trans (e20.trans e21)) dm19) hr32 (hrv.ex (cut_mono (e20.trans e21)))))) (fun hb => by cases hb) fun _ H22 e22 => ?_
        have s22 := s21.ex e22
        refine s_andR (R := fun H' => Keep b H22 H' ∧ DS K b rows' gone' H' (1108 + 10 * (i : Int) + 1 + 4 + 1)) (et_test (ev_op (ev_op (ev_var rfl) ev_c (rv_I (by decide))) ev_c (rv_eq rfl))) (fun _ H23 e23 Qk hQ => w_names (s22.ex e23) rfl rfl fun H' kk ss => hQ H' ⟨(Keep.of_ex e23).trans kk, ss⟩) (fun _ H23 e23 => ⟨Keep.of_ex e23, s22.ex e23⟩) fun H23 ⟨k23, s23⟩ => ?_
        have kF := (k1019.trans (Keep.of_ex (e20.trans (e21.trans e22)))).trans k23
        exact ⟨⟨_, _, _, _, _, rfl⟩, keep_l hh10 kF l10, keep_l hh10 kF p10, s10.keepA kF d10, rows', gone', s23.up (by omega) (by omega), by omega, by omega⟩
      · obtain ⟨⟨o4, o5, o9, o10, o11, rfl⟩, _⟩ := q
        exact s_retE ev_c fun H11 e11 => k H11
end
end L2.Tw
set_option Elab.async false
set_option linter.all false
set_option maxRecDepth 100000
set_option maxHeartbeats 0
set_option autoImplicit false
namespace L2.Tw
open PySem PySem.Spec PyProof.Rows L2
open LamX (CodeO TabS Tabs ExtN TabB)
theorem no_dfl : (fnL.all fun d => d.dfl.isEmpty && d.kwd.isEmpty) = true := by decide +kernel
theorem tx_of {w : World} {h : Heap} {K : PySem.W.Frag} {mg : Str → Option Value} (KX : K.In h) (G : h.Ns mainGlobals mg) (c : He.SaysX faL fnL [] tfL exAll w h K) : TX K mg := by
  refine ⟨fun f hf => c.t.d.facts hf, fun d hd => ?_, ⟨h, KX, G⟩⟩
  obtain ⟨fd, F⟩ := c.t.d.defs hd
  have q := List.all_eq_true.mp no_dfl d hd
  obtain ⟨h1, h2⟩ := He.ba q
  have e1 : d.dvs K = [] := by
    unfold He.DefD.dvs
    rw [List.isEmpty_iff.mp h1]
    rfl
  have e2 : d.kws K = [] := by
    unfold He.DefD.kws
    rw [List.isEmpty_iff.mp h2]
    rfl
  rw [e1, e2] at F
  exact ⟨fd, F⟩
theorem at_law {w : World} {h : Heap} {mg : Str → Option Value} {fa : Addr} (Y : hk.says w h) (G : h.Ns mainGlobals mg) (hfa : mg ("law" : Str) = some (.ref fa)) : ∃ K : PySem.W.Frag, K.In h ∧ LamX.LawAtS PySem.Challenge.rw_tieword_k28_a_book w K CX0 26 63 "_law_script" mg fa h := by
  obtain ⟨K, KX, c⟩ := Y
  have T := tx_of KX G c
  have X3 : ∀ x ∈ exN, ExF K x := fun x hx => exF_of (List.all_eq_true.mp c.more x hx)
  obtain ⟨fd, F⟩ := T.defs d_law (List.mem_of_getElem? (i := 71) rfl)
  have e : fa = He.fAd K d_law.at_ := by
    have g := T.glo "law"
    rw [hfa] at g
    injection g with g
    injection g with g
  subst e
  have b := FunD.bindsA (ps := ["_law_script"]) F fun _ _ _ _ _ _ us hl => match us, hl with | [_], _ => rfl
  refine ⟨K, KX, fd, [He.cT K ("_law_names_told", none)], spLaw K (He.cT K ("_law_names_told", none)).2, fun p hp => ?_, fun p hp => ?_, fun p hp => ?_, fun s v => b s [v] rfl, fun H a ns hl _ hT hS => ?_, fun base _ _ hT => ?_⟩
  · rw [List.mem_singleton.mp hp]
    exact c.empty _ (List.mem_singleton.mpr rfl)
  · rw [List.mem_singleton.mp hp]
    exact c.out _ (List.mem_singleton.mpr rfl)
  · rw [List.mem_singleton.mp hp]
    exact PySem.W.codeHd_of_K KX (c.hd _ (List.mem_singleton.mpr rfl))
  · exact ⟨a, ns, rfl, hS, hl, hT _ (List.mem_singleton.mpr rfl), fun _ => rfl⟩
  · exact law_ok T X3 (hT _ (List.mem_singleton.mpr rfl)) F
end L2.Tw
open PySem PySem.W PySem.Calls PyProof.Rows
theorem PySem.Challenge.cw_tieword_k28_a_book_holds : PySem.Challenge.rw_tieword_k28_a_book.Holds := by
  w_on; o_law
  refine HandSHeadRun.head_any (r := OpenLaw.row PySem.Challenge.rw_tieword_k28_a_book) (q := L2.Tw.qv) (H := L2.Tw.hk) (ob := L2.Tw.ob) (M := 6000) (loose := L2.Tw.names) (d := HandSHeadRun.topDef (OpenLaw.row PySem.Challenge.rw_tieword_k28_a_book).prog 85) (kwd := []) L2.Tw.ob_eq
    (by kernel_rfl) (fun s => by kernel_rfl) L2.Tw.run (by kernel_rfl) (by kernel_rfl) (by kernel_rfl) (by rfl) (by first | assumption | decide +kernel) (by decide +kernel) ⟨rfl, rfl, rfl, rfl, rfl, by decide +kernel⟩ ?hw ?hc
  case hw => w_witness2
  case hc =>
    refine LamX.walk_ofTsE (l := PySem.Challenge.rw_tieword_k28_a_book) (n := 63) (k := 26) (x := "_law_script") (CX := fun _ => L2.CX0) rfl (by decide) (by kernel_rfl) ⟨rfl, by decide, by decide⟩ ?F (fun _ _ _ _ _ z => z)
    intro w mg fa h Y G hmg0
    have hmg : mg ("law" : PySem.Str) = some (.ref fa) := by
      have e : (HandSHeadRun.topDef (OpenLaw.row PySem.Challenge.rw_tieword_k28_a_book).prog 85).name = ("law" : PySem.Str) := by kernel_rfl
      rw [← e]
      exact hmg0
    exact L2.Tw.at_law Y G hmg
