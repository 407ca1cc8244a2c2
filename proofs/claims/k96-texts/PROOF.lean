import PyProof.Rows.All
import Wide.All
import OpenK.AllK
import Wide.FinOn
import HandS.ForMost
import HandS.ForExc
import HandS.Defaults
import HandS.HeadHook1
import HandS.HeadHook2
import HandS.IsInst
import HandS.Codes
import PySem.Challenge.RW_lastcall_k96_texts_of_papers_and_questio
import HandS.Evl
import HandS.Walk
import PyProof.NeKinds
import HandS.Star
import KE.KSuper
import PyProof.RulesMatch
import KE.GoesComp
import HandS.ExcInit
import HandS.Text
import KE.IntTextLaws
import HandS.DictComp
import KE.KDictCopyH
import KE.KDictSum
import PyProof.Rows.StrItems
import PyProof.Rows.StrSplitAre
import HandS.Zip
import HandS.TupAny
import HandS.SetFor
import HandS.Strs
import HandS.Wide
import HandS.Style
import HandS.More
import KE.IntTextText
import HandS.ExcField
import HandS.CallSlots
import HandS.WordsExc
import HandS.SlotsOwn
import HandS.OwnEq
import PyProof.InstEq
import KE.KTypeName
import PyProof.StrLawsChain
import PyProof.StrLawsTight
import PyProof.Rows.StrSplitCount
import PyProof.Rows.StrSplitJoin
import HandS.Ends
import PyProof.ReprRoads
import PyProof.ReprLen
import HandS.HeadEnd
import KE.KStateDown
import HandS.Head0
import HandS.Head1
import HandS.Head2
set_option Elab.async false
set_option linter.all false
set_option maxRecDepth 100000
set_option maxHeartbeats 4000000
namespace K96
open PySem PySem.Spec PyProof.Rows L2
abbrev prog : Program := PySem.Challenge.pw_lastcall_k96_texts_of_papers_and_questio
def top (i : Nat) : Stmt := prog.main.body.getD i (.Pass ⟨0, 0, 0, 0⟩)
abbrev s_is_integer : Stmt := top 5
abbrev s_is_within : Stmt := top 6
abbrev s_is_name : Stmt := top 7
abbrev s_is_value : Stmt := top 8
abbrev s_is_ascending : Stmt := top 9
abbrev s_is_stamp : Stmt := top 10
abbrev s_fixed : Stmt := top 11
abbrev s_BadValue_init : Stmt := inClass (top 14) 0
abbrev s_BadText_init : Stmt := inClass (top 15) 0
abbrev s_is_digits : Stmt := top 19
abbrev s_Scan_init : Stmt := inClass (top 20) 0
abbrev s_Scan_ahead : Stmt := inClass (top 20) 1
abbrev s_Scan_refuse : Stmt := inClass (top 20) 2
abbrev s_Scan_take : Stmt := inClass (top 20) 3
abbrev s_Scan_take_just : Stmt := inClass (top 20) 4
abbrev s_Scan_take_signed : Stmt := inClass (top 20) 8
abbrev s_Scan_finish : Stmt := inClass (top 20) 10
abbrev s_Paper_init : Stmt := inClass (top 22) 0
abbrev s_Paper_bool : Stmt := inClass (top 22) 1
abbrev s_Paper_eq : Stmt := inClass (top 22) 2
abbrev s_Denial_bool : Stmt := inClass (top 23) 0
abbrev s_is_mark : Stmt := top 48
abbrev s_is_single : Stmt := top 49
abbrev s_can_be_told : Stmt := top 50
abbrev s_words_of : Stmt := top 51
abbrev s_take_single : Stmt := top 52
abbrev s_take_told : Stmt := top 53
abbrev s_take_end : Stmt := top 54
abbrev s_Lines_init : Stmt := inClass (top 55) 0
abbrev s_Lines_ahead : Stmt := inClass (top 55) 1
abbrev s_Lines_take : Stmt := inClass (top 55) 2
abbrev s_Lines_finish : Stmt := inClass (top 55) 3
abbrev s_is_one_of_first : Stmt := top 65
abbrev s_is_one_of_last : Stmt := top 66
abbrev s_is_told_paper : Stmt := top 67
abbrev s_made_first : Stmt := top 68
abbrev s_made_last : Stmt := top 69
abbrev s_take_paper : Stmt := top 70
abbrev s_paper_words : Stmt := top 71
abbrev s_paper_text : Stmt := top 72
abbrev s_read_paper : Stmt := top 73
abbrev s_is_lot_form : Stmt := top 76
abbrev s_is_of_form : Stmt := top 77
abbrev s_is_question : Stmt := top 78
abbrev s_need_question : Stmt := top 79
abbrev s_take_question : Stmt := top 80
abbrev s_question_words : Stmt := top 81
abbrev s_question_text : Stmt := top 82
abbrev s_read_question : Stmt := top 83
abbrev s_law_rope : Stmt := top 85
abbrev s_law_knot : Stmt := top 86
abbrev s_law_one : Stmt := top 87
abbrev s_law_is_name : Stmt := top 88
abbrev s_law_is_digits : Stmt := top 89
abbrev s_law_bent : Stmt := top 90
abbrev s_law_text : Stmt := top 91
abbrev s_law_many : Stmt := top 92
abbrev s_law_made : Stmt := top 93
abbrev s_law_value : Stmt := top 94
abbrev s_law_words : Stmt := top 95
abbrev s_law_single : Stmt := top 96
abbrev s_law_taken : Stmt := top 97
abbrev s_law_paper_due : Stmt := top 98
abbrev s_law_forms : Stmt := top 99
abbrev s_law_asks : Stmt := top 100
abbrev s_law_asked : Stmt := top 101
abbrev s_law_is_of : Stmt := top 102
abbrev s_law_question_due : Stmt := top 103
abbrev s_law_by_lines : Stmt := top 104
abbrev s_law_answered : Stmt := top 105
abbrev s_law_refused : Stmt := top 106
abbrev s_law_right : Stmt := top 107
abbrev s_law : Stmt := top 108
abbrev s_Bears_init : Stmt := inClass (top 25) 0
abbrev s_Loses_init : Stmt := inClass (top 26) 0
abbrev s_Settled_init : Stmt := inClass (top 28) 0
abbrev s_Comes_init : Stmt := inClass (top 29) 0
abbrev s_Acts_init : Stmt := inClass (top 31) 0
abbrev s_Idle_init : Stmt := inClass (top 32) 0
abbrev s_Stays_init : Stmt := inClass (top 34) 0
abbrev s_Shaken_init : Stmt := inClass (top 35) 0
abbrev s_Firm_init : Stmt := inClass (top 37) 0
abbrev s_Shaky_init : Stmt := inClass (top 38) 0
abbrev s_Frozen_init : Stmt := inClass (top 40) 0
abbrev s_Thaws_init : Stmt := inClass (top 41) 0
abbrev s_Pledges_init : Stmt := inClass (top 57) 0
abbrev s_Holds_init : Stmt := inClass (top 59) 0
abbrev s_Covered_init : Stmt := inClass (top 60) 0
abbrev s_Waits_init : Stmt := inClass (top 62) 0
theorem sc_is_integer : FnScope ["value"] ["value"] (defScope s_is_integer) := ⟨rfl, rfl, rfl, by decide +kernel, rfl, by decide +kernel, by decide +kernel⟩
theorem sc_is_within : FnScope ["value", "least", "most"] ["value", "least", "most"] (defScope s_is_within) := ⟨rfl, rfl, rfl, by decide +kernel, rfl, by decide +kernel, by decide +kernel⟩
theorem sc_is_name : FnScope ["value", "letter"] ["value"] (defScope s_is_name) := ⟨rfl, rfl, rfl, by decide +kernel, rfl, by decide +kernel, by decide +kernel⟩
theorem sc_is_value : FnScope ["value"] ["value"] (defScope s_is_value) := ⟨rfl, rfl, rfl, by decide +kernel, rfl, by decide +kernel, by decide +kernel⟩
theorem sc_is_ascending : FnScope ["values", "one", "other"] ["values"] (defScope s_is_ascending) := ⟨rfl, rfl, rfl, by decide +kernel, rfl, by decide +kernel, by decide +kernel⟩
theorem sc_is_stamp : FnScope ["value"] ["value"] (defScope s_is_stamp) := ⟨rfl, rfl, rfl, by decide +kernel, rfl, by decide +kernel, by decide +kernel⟩
theorem sc_fixed : FnScope ["value", "key", "part"] ["value"] (defScope s_fixed) := ⟨rfl, rfl, rfl, by decide +kernel, rfl, by decide +kernel, by decide +kernel⟩
theorem sc_BadValue_init : FnScope ["self", "part"] ["self", "part"] (defScope s_BadValue_init) := ⟨rfl, rfl, rfl, by decide +kernel, rfl, by decide +kernel, by decide +kernel⟩
theorem sc_BadText_init : FnScope ["self", "line", "word"] ["self", "line", "word"] (defScope s_BadText_init) := ⟨rfl, rfl, rfl, by decide +kernel, rfl, by decide +kernel, by decide +kernel⟩
theorem sc_is_digits : FnScope ["word", "sign"] ["word"] (defScope s_is_digits) := ⟨rfl, rfl, rfl, by decide +kernel, rfl, by decide +kernel, by decide +kernel⟩
theorem sc_Scan_init : FnScope ["self", "text", "line"] ["self", "text", "line"] (defScope s_Scan_init) := ⟨rfl, rfl, rfl, by decide +kernel, rfl, by decide +kernel, by decide +kernel⟩
theorem sc_Scan_ahead : FnScope ["self"] ["self"] (defScope s_Scan_ahead) := ⟨rfl, rfl, rfl, by decide +kernel, rfl, by decide +kernel, by decide +kernel⟩
theorem sc_Scan_refuse : FnScope ["self"] ["self"] (defScope s_Scan_refuse) := ⟨rfl, rfl, rfl, by decide +kernel, rfl, by decide +kernel, by decide +kernel⟩
theorem sc_Scan_take : FnScope ["self"] ["self"] (defScope s_Scan_take) := ⟨rfl, rfl, rfl, by decide +kernel, rfl, by decide +kernel, by decide +kernel⟩
theorem sc_Scan_take_just : FnScope ["self", "words"] ["self", "words"] (defScope s_Scan_take_just) := ⟨rfl, rfl, rfl, by decide +kernel, rfl, by decide +kernel, by decide +kernel⟩
theorem sc_Scan_take_signed : FnScope ["self", "word"] ["self"] (defScope s_Scan_take_signed) := ⟨rfl, rfl, rfl, by decide +kernel, rfl, by decide +kernel, by decide +kernel⟩
theorem sc_Scan_finish : FnScope ["self"] ["self"] (defScope s_Scan_finish) := ⟨rfl, rfl, rfl, by decide +kernel, rfl, by decide +kernel, by decide +kernel⟩
theorem sc_Paper_init : FnScope ["self", "word", "parts"] ["self", "word", "parts"] (defScope s_Paper_init) := ⟨rfl, rfl, rfl, by decide +kernel, rfl, by decide +kernel, by decide +kernel⟩
theorem sc_Paper_bool : FnScope ["self"] ["self"] (defScope s_Paper_bool) := ⟨rfl, rfl, rfl, by decide +kernel, rfl, by decide +kernel, by decide +kernel⟩
theorem sc_Paper_eq : FnScope ["self", "other"] ["self", "other"] (defScope s_Paper_eq) := ⟨rfl, rfl, rfl, by decide +kernel, rfl, by decide +kernel, by decide +kernel⟩
theorem sc_Denial_bool : FnScope ["self"] ["self"] (defScope s_Denial_bool) := ⟨rfl, rfl, rfl, by decide +kernel, rfl, by decide +kernel, by decide +kernel⟩
theorem sc_is_mark : FnScope ["value"] ["value"] (defScope s_is_mark) := ⟨rfl, rfl, rfl, by decide +kernel, rfl, by decide +kernel, by decide +kernel⟩
theorem sc_is_single : FnScope ["value"] ["value"] (defScope s_is_single) := ⟨rfl, rfl, rfl, by decide +kernel, rfl, by decide +kernel, by decide +kernel⟩
theorem sc_can_be_told : FnScope ["value", "line", "one", "deep", "part"] ["value"] (defScope s_can_be_told) := ⟨rfl, rfl, rfl, by decide +kernel, rfl, by decide +kernel, by decide +kernel⟩
theorem sc_words_of : FnScope ["value", "part", "word"] ["value"] (defScope s_words_of) := ⟨rfl, rfl, rfl, by decide +kernel, rfl, by decide +kernel, by decide +kernel⟩
theorem sc_take_single : FnScope ["scan", "word"] ["scan"] (defScope s_take_single) := ⟨rfl, rfl, rfl, by decide +kernel, rfl, by decide +kernel, by decide +kernel⟩
theorem sc_take_told : FnScope ["scan", "open_ones", "found"] ["scan"] (defScope s_take_told) := ⟨rfl, rfl, rfl, by decide +kernel, rfl, by decide +kernel, by decide +kernel⟩
theorem sc_take_end : FnScope ["scan", "open_ones"] ["scan", "open_ones"] (defScope s_take_end) := ⟨rfl, rfl, rfl, by decide +kernel, rfl, by decide +kernel, by decide +kernel⟩
theorem sc_Lines_init : FnScope ["self", "text"] ["self", "text"] (defScope s_Lines_init) := ⟨rfl, rfl, rfl, by decide +kernel, rfl, by decide +kernel, by decide +kernel⟩
theorem sc_Lines_ahead : FnScope ["self"] ["self"] (defScope s_Lines_ahead) := ⟨rfl, rfl, rfl, by decide +kernel, rfl, by decide +kernel, by decide +kernel⟩
theorem sc_Lines_take : FnScope ["self"] ["self"] (defScope s_Lines_take) := ⟨rfl, rfl, rfl, by decide +kernel, rfl, by decide +kernel, by decide +kernel⟩
theorem sc_Lines_finish : FnScope ["self"] ["self"] (defScope s_Lines_finish) := ⟨rfl, rfl, rfl, by decide +kernel, rfl, by decide +kernel, by decide +kernel⟩
theorem sc_is_one_of_first : FnScope ["value"] ["value"] (defScope s_is_one_of_first) := ⟨rfl, rfl, rfl, by decide +kernel, rfl, by decide +kernel, by decide +kernel⟩
theorem sc_is_one_of_last : FnScope ["value"] ["value"] (defScope s_is_one_of_last) := ⟨rfl, rfl, rfl, by decide +kernel, rfl, by decide +kernel, by decide +kernel⟩
theorem sc_is_told_paper : FnScope ["value", "part"] ["value"] (defScope s_is_told_paper) := ⟨rfl, rfl, rfl, by decide +kernel, rfl, by decide +kernel, by decide +kernel⟩
theorem sc_made_first : FnScope ["word", "parts"] ["word", "parts"] (defScope s_made_first) := ⟨rfl, rfl, rfl, by decide +kernel, rfl, by decide +kernel, by decide +kernel⟩
theorem sc_made_last : FnScope ["word", "parts"] ["word", "parts"] (defScope s_made_last) := ⟨rfl, rfl, rfl, by decide +kernel, rfl, by decide +kernel, by decide +kernel⟩
theorem sc_take_paper : FnScope ["scan", "word", "parts", "found", "_"] ["scan"] (defScope s_take_paper) := ⟨rfl, rfl, rfl, by decide +kernel, rfl, by decide +kernel, by decide +kernel⟩
theorem sc_paper_words : FnScope ["paper", "part", "word"] ["paper"] (defScope s_paper_words) := ⟨rfl, rfl, rfl, by decide +kernel, rfl, by decide +kernel, by decide +kernel⟩
theorem sc_paper_text : FnScope ["paper"] ["paper"] (defScope s_paper_text) := ⟨rfl, rfl, rfl, by decide +kernel, rfl, by decide +kernel, by decide +kernel⟩
theorem sc_read_paper : FnScope ["text", "lines", "scan", "found"] ["text"] (defScope s_read_paper) := ⟨rfl, rfl, rfl, by decide +kernel, rfl, by decide +kernel, by decide +kernel⟩
theorem sc_is_lot_form : FnScope ["value", "one"] ["value"] (defScope s_is_lot_form) := ⟨rfl, rfl, rfl, by decide +kernel, rfl, by decide +kernel, by decide +kernel⟩
theorem sc_is_of_form : FnScope ["value", "form", "hand"] ["value", "form"] (defScope s_is_of_form) := ⟨rfl, rfl, rfl, by decide +kernel, rfl, by decide +kernel, by decide +kernel⟩
theorem sc_is_question : FnScope ["value", "forms", "one", "form"] ["value"] (defScope s_is_question) := ⟨rfl, rfl, rfl, by decide +kernel, rfl, by decide +kernel, by decide +kernel⟩
theorem sc_need_question : FnScope ["value"] ["value"] (defScope s_need_question) := ⟨rfl, rfl, rfl, by decide +kernel, rfl, by decide +kernel, by decide +kernel⟩
theorem sc_take_question : FnScope ["scan", "word", "found", "form", "at", "one"] ["scan"] (defScope s_take_question) := ⟨rfl, rfl, rfl, by decide +kernel, rfl, by decide +kernel, by decide +kernel⟩
theorem sc_question_words : FnScope ["question", "one", "word"] ["question"] (defScope s_question_words) := ⟨rfl, rfl, rfl, by decide +kernel, rfl, by decide +kernel, by decide +kernel⟩
theorem sc_question_text : FnScope ["question"] ["question"] (defScope s_question_text) := ⟨rfl, rfl, rfl, by decide +kernel, rfl, by decide +kernel, by decide +kernel⟩
theorem sc_read_question : FnScope ["text", "lines", "scan", "found"] ["text"] (defScope s_read_question) := ⟨rfl, rfl, rfl, by decide +kernel, rfl, by decide +kernel, by decide +kernel⟩
theorem sc_law_rope : FnScope ["script", "cell"] ["script"] (defScope s_law_rope) := ⟨rfl, rfl, rfl, by decide +kernel, rfl, by decide +kernel, by decide +kernel⟩
theorem sc_law_knot : FnScope ["rope", "many", "rest", "at", "cell", "mixed"] ["rope", "many"] (defScope s_law_knot) := ⟨rfl, rfl, rfl, by decide +kernel, rfl, by decide +kernel, by decide +kernel⟩
theorem sc_law_one : FnScope ["rope", "some"] ["rope", "some"] (defScope s_law_one) := ⟨rfl, rfl, rfl, by decide +kernel, rfl, by decide +kernel, by decide +kernel⟩
theorem sc_law_is_name : FnScope ["word", "sign"] ["word"] (defScope s_law_is_name) := ⟨rfl, rfl, rfl, by decide +kernel, rfl, by decide +kernel, by decide +kernel⟩
theorem sc_law_is_digits : FnScope ["word", "sign"] ["word"] (defScope s_law_is_digits) := ⟨rfl, rfl, rfl, by decide +kernel, rfl, by decide +kernel, by decide +kernel⟩
theorem sc_law_bent : FnScope ["rope", "lines", "words", "way", "at", "line", "spot", "word", "other"] ["rope", "lines", "words"] (defScope s_law_bent) := ⟨rfl, rfl, rfl, by decide +kernel, rfl, by decide +kernel, by decide +kernel⟩
theorem sc_law_text : FnScope ["lines", "line"] ["lines"] (defScope s_law_text) := ⟨rfl, rfl, rfl, by decide +kernel, rfl, by decide +kernel, by decide +kernel⟩
theorem sc_law_many : FnScope ["found", "word"] [] (defScope s_law_many) := ⟨rfl, rfl, rfl, by decide +kernel, rfl, by decide +kernel, by decide +kernel⟩
theorem sc_law_made : FnScope ["word", "parts", "one"] ["word", "parts"] (defScope s_law_made) := ⟨rfl, rfl, rfl, by decide +kernel, rfl, by decide +kernel, by decide +kernel⟩
theorem sc_law_value : FnScope ["rope", "deep", "turn"] ["rope", "deep"] (defScope s_law_value) := ⟨rfl, rfl, rfl, by decide +kernel, rfl, by decide +kernel, by decide +kernel⟩
theorem sc_law_words : FnScope ["value", "found", "part"] ["value"] (defScope s_law_words) := ⟨rfl, rfl, rfl, by decide +kernel, rfl, by decide +kernel, by decide +kernel⟩
theorem sc_law_single : FnScope ["word"] ["word"] (defScope s_law_single) := ⟨rfl, rfl, rfl, by decide +kernel, rfl, by decide +kernel, by decide +kernel⟩
theorem sc_law_taken : FnScope ["words", "at", "open_ones", "word", "done"] ["words", "at"] (defScope s_law_taken) := ⟨rfl, rfl, rfl, by decide +kernel, rfl, by decide +kernel, by decide +kernel⟩
theorem sc_law_paper_due : FnScope ["words", "parts", "at", "turn", "told"] ["words"] (defScope s_law_paper_due) := ⟨rfl, rfl, rfl, by decide +kernel, rfl, by decide +kernel, by decide +kernel⟩
theorem sc_law_forms : FnScope ["word", "facts"] ["word"] (defScope s_law_forms) := ⟨rfl, rfl, rfl, by decide +kernel, rfl, by decide +kernel, by decide +kernel⟩
theorem sc_law_asks : FnScope [] [] (defScope s_law_asks) := ⟨rfl, rfl, rfl, by decide +kernel, rfl, by decide +kernel, by decide +kernel⟩
theorem sc_law_asked : FnScope ["rope", "word", "found", "form", "state"] ["rope", "word"] (defScope s_law_asked) := ⟨rfl, rfl, rfl, by decide +kernel, rfl, by decide +kernel, by decide +kernel⟩
theorem sc_law_is_of : FnScope ["value", "form", "one"] ["value", "form"] (defScope s_law_is_of) := ⟨rfl, rfl, rfl, by decide +kernel, rfl, by decide +kernel, by decide +kernel⟩
theorem sc_law_question_due : FnScope ["words", "found", "at", "form", "told"] ["words"] (defScope s_law_question_due) := ⟨rfl, rfl, rfl, by decide +kernel, rfl, by decide +kernel, by decide +kernel⟩
theorem sc_law_by_lines : FnScope ["text", "due"] ["text", "due"] (defScope s_law_by_lines) := ⟨rfl, rfl, rfl, by decide +kernel, rfl, by decide +kernel, by decide +kernel⟩
theorem sc_law_answered : FnScope ["read", "text", "caught", "error"] ["read", "text"] (defScope s_law_answered) := ⟨rfl, rfl, rfl, by decide +kernel, rfl, by decide +kernel, by decide +kernel⟩
theorem sc_law_refused : FnScope ["write", "value", "caught", "error"] ["write", "value"] (defScope s_law_refused) := ⟨rfl, rfl, rfl, by decide +kernel, rfl, by decide +kernel, by decide +kernel⟩
theorem sc_law_right : FnScope ["rope", "word", "ask", "parts", "paper", "words", "lines", "part", "spare", "turn", "bent", "told", "due"] ["rope"] (defScope s_law_right) := ⟨rfl, rfl, rfl, by decide +kernel, rfl, by decide +kernel, by decide +kernel⟩
theorem sc_law : FnScope ["script", "rope", "turn", "odd", "deep", "ask", "none", "one"] ["script"] (defScope s_law) := ⟨rfl, rfl, rfl, by decide +kernel, rfl, by decide +kernel, by decide +kernel⟩
/-- the defs by names -/
def d_is_integer : He.DefD := ⟨("is_integer", none), "is_integer", "is_integer", defArgs s_is_integer, defBody s_is_integer, defScope s_is_integer, [], []⟩
def d_is_within : He.DefD := ⟨("is_within", none), "is_within", "is_within", defArgs s_is_within, defBody s_is_within, defScope s_is_within, [], []⟩
def d_is_name : He.DefD := ⟨("is_name", none), "is_name", "is_name", defArgs s_is_name, defBody s_is_name, defScope s_is_name, [], []⟩
def d_is_value : He.DefD := ⟨("is_value", none), "is_value", "is_value", defArgs s_is_value, defBody s_is_value, defScope s_is_value, [], []⟩
def d_is_ascending : He.DefD := ⟨("is_ascending", none), "is_ascending", "is_ascending", defArgs s_is_ascending, defBody s_is_ascending, defScope s_is_ascending, [], []⟩
def d_is_stamp : He.DefD := ⟨("is_stamp", none), "is_stamp", "is_stamp", defArgs s_is_stamp, defBody s_is_stamp, defScope s_is_stamp, [], []⟩
def d_fixed : He.DefD := ⟨("fixed", none), "fixed", "fixed", defArgs s_fixed, defBody s_fixed, defScope s_fixed, [], []⟩
def d_BadValue_init : He.DefD := ⟨("BadValue", some "__init__"), "__init__", "BadValue.__init__", defArgs s_BadValue_init, defBody s_BadValue_init, defScope s_BadValue_init, [], []⟩
def d_BadText_init : He.DefD := ⟨("BadText", some "__init__"), "__init__", "BadText.__init__", defArgs s_BadText_init, defBody s_BadText_init, defScope s_BadText_init, [], []⟩
def d_is_digits : He.DefD := ⟨("is_digits", none), "is_digits", "is_digits", defArgs s_is_digits, defBody s_is_digits, defScope s_is_digits, [], []⟩
def d_Scan_init : He.DefD := ⟨("Scan", some "__init__"), "__init__", "Scan.__init__", defArgs s_Scan_init, defBody s_Scan_init, defScope s_Scan_init, [.int 0], []⟩
def d_Scan_ahead : He.DefD := ⟨("Scan", some "ahead"), "ahead", "Scan.ahead", defArgs s_Scan_ahead, defBody s_Scan_ahead, defScope s_Scan_ahead, [], []⟩
def d_Scan_refuse : He.DefD := ⟨("Scan", some "refuse"), "refuse", "Scan.refuse", defArgs s_Scan_refuse, defBody s_Scan_refuse, defScope s_Scan_refuse, [], []⟩
def d_Scan_take : He.DefD := ⟨("Scan", some "take"), "take", "Scan.take", defArgs s_Scan_take, defBody s_Scan_take, defScope s_Scan_take, [], []⟩
def d_Scan_take_just : He.DefD := ⟨("Scan", some "take_just"), "take_just", "Scan.take_just", defArgs s_Scan_take_just, defBody s_Scan_take_just, defScope s_Scan_take_just, [], []⟩
def d_Scan_take_signed : He.DefD := ⟨("Scan", some "take_signed"), "take_signed", "Scan.take_signed", defArgs s_Scan_take_signed, defBody s_Scan_take_signed, defScope s_Scan_take_signed, [], []⟩
def d_Scan_finish : He.DefD := ⟨("Scan", some "finish"), "finish", "Scan.finish", defArgs s_Scan_finish, defBody s_Scan_finish, defScope s_Scan_finish, [], []⟩
def d_Paper_init : He.DefD := ⟨("Paper", some "__init__"), "__init__", "Paper.__init__", defArgs s_Paper_init, defBody s_Paper_init, defScope s_Paper_init, [], []⟩
def d_Paper_bool : He.DefD := ⟨("Paper", some "__bool__"), "__bool__", "Paper.__bool__", defArgs s_Paper_bool, defBody s_Paper_bool, defScope s_Paper_bool, [], []⟩
def d_Paper_eq : He.DefD := ⟨("Paper", some "__eq__"), "__eq__", "Paper.__eq__", defArgs s_Paper_eq, defBody s_Paper_eq, defScope s_Paper_eq, [], []⟩
def d_Denial_bool : He.DefD := ⟨("Denial", some "__bool__"), "__bool__", "Denial.__bool__", defArgs s_Denial_bool, defBody s_Denial_bool, defScope s_Denial_bool, [], []⟩
def d_is_mark : He.DefD := ⟨("is_mark", none), "is_mark", "is_mark", defArgs s_is_mark, defBody s_is_mark, defScope s_is_mark, [], []⟩
def d_is_single : He.DefD := ⟨("is_single", none), "is_single", "is_single", defArgs s_is_single, defBody s_is_single, defScope s_is_single, [], []⟩
def d_can_be_told : He.DefD := ⟨("can_be_told", none), "can_be_told", "can_be_told", defArgs s_can_be_told, defBody s_can_be_told, defScope s_can_be_told, [], []⟩
def d_words_of : He.DefD := ⟨("words_of", none), "words_of", "words_of", defArgs s_words_of, defBody s_words_of, defScope s_words_of, [], []⟩
def d_take_single : He.DefD := ⟨("take_single", none), "take_single", "take_single", defArgs s_take_single, defBody s_take_single, defScope s_take_single, [], []⟩
def d_take_told : He.DefD := ⟨("take_told", none), "take_told", "take_told", defArgs s_take_told, defBody s_take_told, defScope s_take_told, [], []⟩
def d_take_end : He.DefD := ⟨("take_end", none), "take_end", "take_end", defArgs s_take_end, defBody s_take_end, defScope s_take_end, [], []⟩
def d_Lines_init : He.DefD := ⟨("Lines", some "__init__"), "__init__", "Lines.__init__", defArgs s_Lines_init, defBody s_Lines_init, defScope s_Lines_init, [], []⟩
def d_Lines_ahead : He.DefD := ⟨("Lines", some "ahead"), "ahead", "Lines.ahead", defArgs s_Lines_ahead, defBody s_Lines_ahead, defScope s_Lines_ahead, [], []⟩
def d_Lines_take : He.DefD := ⟨("Lines", some "take"), "take", "Lines.take", defArgs s_Lines_take, defBody s_Lines_take, defScope s_Lines_take, [], []⟩
def d_Lines_finish : He.DefD := ⟨("Lines", some "finish"), "finish", "Lines.finish", defArgs s_Lines_finish, defBody s_Lines_finish, defScope s_Lines_finish, [], []⟩
def d_is_one_of_first : He.DefD := ⟨("is_one_of_first", none), "is_one_of_first", "is_one_of_first", defArgs s_is_one_of_first, defBody s_is_one_of_first, defScope s_is_one_of_first, [], []⟩
def d_is_one_of_last : He.DefD := ⟨("is_one_of_last", none), "is_one_of_last", "is_one_of_last", defArgs s_is_one_of_last, defBody s_is_one_of_last, defScope s_is_one_of_last, [], []⟩
def d_is_told_paper : He.DefD := ⟨("is_told_paper", none), "is_told_paper", "is_told_paper", defArgs s_is_told_paper, defBody s_is_told_paper, defScope s_is_told_paper, [], []⟩
def d_made_first : He.DefD := ⟨("made_first", none), "made_first", "made_first", defArgs s_made_first, defBody s_made_first, defScope s_made_first, [], []⟩
def d_made_last : He.DefD := ⟨("made_last", none), "made_last", "made_last", defArgs s_made_last, defBody s_made_last, defScope s_made_last, [], []⟩
def d_take_paper : He.DefD := ⟨("take_paper", none), "take_paper", "take_paper", defArgs s_take_paper, defBody s_take_paper, defScope s_take_paper, [], []⟩
def d_paper_words : He.DefD := ⟨("paper_words", none), "paper_words", "paper_words", defArgs s_paper_words, defBody s_paper_words, defScope s_paper_words, [], []⟩
def d_paper_text : He.DefD := ⟨("paper_text", none), "paper_text", "paper_text", defArgs s_paper_text, defBody s_paper_text, defScope s_paper_text, [], []⟩
def d_read_paper : He.DefD := ⟨("read_paper", none), "read_paper", "read_paper", defArgs s_read_paper, defBody s_read_paper, defScope s_read_paper, [], []⟩
def d_is_lot_form : He.DefD := ⟨("is_lot_form", none), "is_lot_form", "is_lot_form", defArgs s_is_lot_form, defBody s_is_lot_form, defScope s_is_lot_form, [], []⟩
def d_is_of_form : He.DefD := ⟨("is_of_form", none), "is_of_form", "is_of_form", defArgs s_is_of_form, defBody s_is_of_form, defScope s_is_of_form, [], []⟩
def d_is_question : He.DefD := ⟨("is_question", none), "is_question", "is_question", defArgs s_is_question, defBody s_is_question, defScope s_is_question, [], []⟩
def d_need_question : He.DefD := ⟨("need_question", none), "need_question", "need_question", defArgs s_need_question, defBody s_need_question, defScope s_need_question, [], []⟩
def d_take_question : He.DefD := ⟨("take_question", none), "take_question", "take_question", defArgs s_take_question, defBody s_take_question, defScope s_take_question, [], []⟩
def d_question_words : He.DefD := ⟨("question_words", none), "question_words", "question_words", defArgs s_question_words, defBody s_question_words, defScope s_question_words, [], []⟩
def d_question_text : He.DefD := ⟨("question_text", none), "question_text", "question_text", defArgs s_question_text, defBody s_question_text, defScope s_question_text, [], []⟩
def d_read_question : He.DefD := ⟨("read_question", none), "read_question", "read_question", defArgs s_read_question, defBody s_read_question, defScope s_read_question, [], []⟩
def d_law_rope : He.DefD := ⟨("_law_rope", none), "_law_rope", "_law_rope", defArgs s_law_rope, defBody s_law_rope, defScope s_law_rope, [], []⟩
def d_law_knot : He.DefD := ⟨("_law_knot", none), "_law_knot", "_law_knot", defArgs s_law_knot, defBody s_law_knot, defScope s_law_knot, [], []⟩
def d_law_one : He.DefD := ⟨("_law_one", none), "_law_one", "_law_one", defArgs s_law_one, defBody s_law_one, defScope s_law_one, [], []⟩
def d_law_is_name : He.DefD := ⟨("_law_is_name", none), "_law_is_name", "_law_is_name", defArgs s_law_is_name, defBody s_law_is_name, defScope s_law_is_name, [], []⟩
def d_law_is_digits : He.DefD := ⟨("_law_is_digits", none), "_law_is_digits", "_law_is_digits", defArgs s_law_is_digits, defBody s_law_is_digits, defScope s_law_is_digits, [], []⟩
def d_law_bent : He.DefD := ⟨("_law_bent", none), "_law_bent", "_law_bent", defArgs s_law_bent, defBody s_law_bent, defScope s_law_bent, [], []⟩
def d_law_text : He.DefD := ⟨("_law_text", none), "_law_text", "_law_text", defArgs s_law_text, defBody s_law_text, defScope s_law_text, [], []⟩
def d_law_many : He.DefD := ⟨("_law_many", none), "_law_many", "_law_many", defArgs s_law_many, defBody s_law_many, defScope s_law_many, [], []⟩
def d_law_made : He.DefD := ⟨("_law_made", none), "_law_made", "_law_made", defArgs s_law_made, defBody s_law_made, defScope s_law_made, [], []⟩
def d_law_value : He.DefD := ⟨("_law_value", none), "_law_value", "_law_value", defArgs s_law_value, defBody s_law_value, defScope s_law_value, [], []⟩
def d_law_words : He.DefD := ⟨("_law_words", none), "_law_words", "_law_words", defArgs s_law_words, defBody s_law_words, defScope s_law_words, [], []⟩
def d_law_single : He.DefD := ⟨("_law_single", none), "_law_single", "_law_single", defArgs s_law_single, defBody s_law_single, defScope s_law_single, [], []⟩
def d_law_taken : He.DefD := ⟨("_law_taken", none), "_law_taken", "_law_taken", defArgs s_law_taken, defBody s_law_taken, defScope s_law_taken, [], []⟩
def d_law_paper_due : He.DefD := ⟨("_law_paper_due", none), "_law_paper_due", "_law_paper_due", defArgs s_law_paper_due, defBody s_law_paper_due, defScope s_law_paper_due, [], []⟩
def d_law_forms : He.DefD := ⟨("_law_forms", none), "_law_forms", "_law_forms", defArgs s_law_forms, defBody s_law_forms, defScope s_law_forms, [], []⟩
def d_law_asks : He.DefD := ⟨("_law_asks", none), "_law_asks", "_law_asks", defArgs s_law_asks, defBody s_law_asks, defScope s_law_asks, [], []⟩
def d_law_asked : He.DefD := ⟨("_law_asked", none), "_law_asked", "_law_asked", defArgs s_law_asked, defBody s_law_asked, defScope s_law_asked, [], []⟩
def d_law_is_of : He.DefD := ⟨("_law_is_of", none), "_law_is_of", "_law_is_of", defArgs s_law_is_of, defBody s_law_is_of, defScope s_law_is_of, [], []⟩
def d_law_question_due : He.DefD := ⟨("_law_question_due", none), "_law_question_due", "_law_question_due", defArgs s_law_question_due, defBody s_law_question_due, defScope s_law_question_due, [], []⟩
def d_law_by_lines : He.DefD := ⟨("_law_by_lines", none), "_law_by_lines", "_law_by_lines", defArgs s_law_by_lines, defBody s_law_by_lines, defScope s_law_by_lines, [], []⟩
def d_law_answered : He.DefD := ⟨("_law_answered", none), "_law_answered", "_law_answered", defArgs s_law_answered, defBody s_law_answered, defScope s_law_answered, [], []⟩
def d_law_refused : He.DefD := ⟨("_law_refused", none), "_law_refused", "_law_refused", defArgs s_law_refused, defBody s_law_refused, defScope s_law_refused, [], []⟩
def d_law_right : He.DefD := ⟨("_law_right", none), "_law_right", "_law_right", defArgs s_law_right, defBody s_law_right, defScope s_law_right, [], []⟩
def d_law : He.DefD := ⟨("law", none), "law", "law", defArgs s_law, defBody s_law, defScope s_law, [], []⟩
end K96

namespace K96
section
open PySem PySem.Spec PyProof.Rows L2
open He (ga ma Fa)
open PySem.W (findIn specialIn takesIn mroIn readsIn findCls typeIn isClsIn isFn kitOne kitAny exmOne subIn keepIn clsIn nsIn codeIn fnIn ks_superIn ksFn)
abbrev Fr := PySem.W.Frag
/-- built-in classes that values are asked for -/
def kitN : List String := ["int", "bool", "str", "tuple", "list", "dict"]
/-- the classes' places -/
structure Adr where
  scan : Addr
  lines : Addr
  bt : Addr
  bv : Addr
  paper : Addr
  denial : Addr
  pap : Str → Addr
def scanF : List Str := ["words", "line", "at"]
/-- the names of attributes of papers -/
def papF : List Str := ["word", "parts", "rows", "kind", "ahead", "unseen", "behind", "lost", "cases", "future", "hand", "last", "fate", "entries", "call", "lots", "pledges", "silences"]
/-- the words of papers, with their classes and numbers of parts -/
def papTab : List (Str × Str × Nat) := [("Bears", "bears", 1), ("Loses", "loses", 5), ("Settled", "settled", 1), ("Comes", "comes", 1), ("Stays", "stays", 2), ("Shaken", "shaken", 2), ("Holds", "holds", 1), ("Covered", "covered", 1), ("Waits", "waits", 2), ("Pledges", "pledges", 2), ("Frozen", "frozen", 1), ("Thaws", "thaws", 1), ("Acts", "acts", 3), ("Idle", "idle", 2), ("Firm", "firm", 1), ("Shaky", "shaky", 3)]
def firstW : List Str := ["bears", "loses", "settled", "comes", "stays", "shaken", "holds", "covered"]
def lastW : List Str := ["waits", "pledges", "frozen", "thaws", "acts", "idle", "firm", "shaky"]
def partsTab : List (Str × Nat) := papTab.map fun q => (q.2.1, q.2.2)
def linesF : List Str := ["rows", "at"]
def clsOf (A : Adr) (ws : List Str) : List Value := ws.map fun w => .ref (A.pap w)
/-- the forms of questions -/
def formsTab : List (Str × List Str) := [("bears", []), ("firm", ["name", "name"]), ("settled", ["stamp", "stamp", "lot", "hands"]), ("waits", ["stamp", "stamp", "lot", "hands"]), ("pledges", ["stamp", "stamp", "lot", "hands"]), ("acts", ["stamp", "stamp", "name", "hands"]), ("frozen", ["stamp", "stamp", "number", "hands"]), ("stays", ["stamp", "stamp", "hands"]), ("value", ["stamp", "stamp", "name", "worth", "hands"])]
/-- an exception class over ValueError -/
def oexB (K : Fr) (C : Addr) : Bool := (match K.lookup C with
  | some ⟨.type "type", _, .cls cd, sl⟩ => (match cd.mro, sl.toList with
    | .ref C' :: bm, [_, _, _, _, some (.builtin n), _] => C' == C && (n == "ValueError.__new__" && (!cd.hasDel && (cd.hasDict && PySem.HandSPX.refsVE bm)))
    | _, _ => false)
  | _ => false) && (decide (findIn K (.ref C) "__setattr__" = some (some (.builtin "object.__setattr__"))) && (decide (subIn K (.ref C) (.type "BaseException") = some true) && (decide (typeIn K (.ref C) = some (.type "type")) && keepIn K (.ref C))))
/-- a caught exception class -/
def excB (K : Fr) (C : Addr) (fs : List Str) : Bool := decide (exmOne K (.ref C) (.ref C) = some true) && (xfB K C && fs.all fun f => decide (findIn K (.ref C) f = some none))
def obxB (K : Fr) (C fI : Addr) (fs : List Str) : Bool := oexB K C && (decide (findIn K (.ref C) "__init__" = some (some (.ref fI))) && (decide (typeIn K (.ref fI) = some (.type "function")) && fs.all fun f => decide (findIn K (.ref C) f = some none)))
def clsB (K : Fr) (C : Addr) : Bool := PySem.W.plainGet K C Str.empty && (PySem.W.hasDictIn K C && (PySem.W.plainOver K C && decide (findIn K (.ref C) "__setattr__" = some (some (.builtin "object.__setattr__")))))
def noB (K : Fr) (C : Addr) (fs : List Str) : Bool := fs.all fun f => decide (findIn K (.ref C) f = some none)
def kokB (K : Fr) (C : Addr) : Bool := clsB K C && noB K C papF
/-- the type of a class's instances is told -/
def instB (K : Fr) (C : Addr) : Bool := clsB K C && (decide (findIn K (.ref C) "__class__" = some (some (.builtin "object.__class__"))) && (decide (specialIn K (.builtin "object.__class__") "__get__" = some (some (.builtin "getset_descriptor.__get__"))) && (decide (takesIn K (.builtin "object.__class__") = some true) && decide (mroIn K C (.type "object") = some true))))
def slotStr (o : Obj) : Bool := match o.slots[2]? with
  | some (some (Value.str _ _)) => true
  | _ => false
def fcB (K : Fr) (C : Addr) : Bool := match findCls K (.ref C) (.type "type") "__name__" with
  | some (.get a b c d) => decide (a = .builtin "getset_descriptor.__get__") && (decide (b = .builtin "type.__name__") && (decide (c = .ref C) && decide (d = .type "type")))
  | _ => false
def nmB (K : Fr) (C fe : Addr) : Bool := instB K C && (isClsIn K C && (readsIn K C (.type "type") && (decide (typeIn K (.ref C) = some (.type "type")) && ((match K.lookup C with
  | some o => slotStr o
  | _ => false) && (fcB K C && (decide (findIn K (.ref C) "__eq__" = some (some (.ref fe))) && (isFn K (.ref fe) && decide (findIn K (.ref C) "__ne__" = some (some (.builtin "object.__ne__"))))))))))
/-- types against papers -/
def noPapB (K : Fr) (A : Adr) (t : Value) : Bool := decide (kitOne K t (.ref A.paper) = some false) && ((kitAny K t (clsOf A firstW)).isSome && (kitAny K t (clsOf A lastW)).isSome)
def barePapB (K : Fr) (A : Adr) (C : Addr) : Bool := decide (kitOne K (.ref C) (.ref A.paper) = some true) && (decide (kitAny K (.ref C) (clsOf A firstW) = some false) && decide (kitAny K (.ref C) (clsOf A lastW) = some false))
def papTB (K : Fr) (A : Adr) (C : Addr) : Bool := decide (kitOne K (.ref C) (.ref A.paper) = some true) && (match kitAny K (.ref C) (clsOf A firstW), kitAny K (.ref C) (clsOf A lastW) with
  | some b1, some b2 => b1 || b2
  | _, _ => false)
def methB (K : Fr) (C : Addr) (m : Str) : Bool := decide (findIn K (.ref C) m = some (some (.ref (He.ma K C m)))) && (isFn K (.ref (He.ma K C m)) && keepIn K (.ref (He.ma K C m)))
def bmethB (K : Fr) (C : Addr) (m : Str) : Bool := methB K C m && (decide (specialIn K (.ref (He.ma K C m)) "__get__" = some (some (.builtin "function.__get__"))) && (decide (takesIn K (.ref (He.ma K C m)) = some false) && (!PySem.W.copiedNames.contains m && fnIn K (He.ma K C m))))
def mkB (K : Fr) (C : Addr) : Bool := PySem.W.makesIn K C && (decide (findIn K (.ref C) "__init__" = some (some (.ref (He.ma K C "__init__")))) && (isFn K (.ref (He.ma K C "__init__")) && keepIn K (.ref C)))
def keysB : List Str → List DictEntry → Bool
  | [], [] => true
  | k :: ks, e :: es => (match e.key with
    | .str x _ => decide (x = k)
    | _ => false) && keysB ks es
  | _, _ => false
def wdB (K : Fr) (d : Addr) (ks : List Str) : Bool := match K.lookup d with
  | some ⟨.type "dict", none, .dict es _, sl⟩ => decide (sl.size = 0) && (!(d == sysModules) && (keysB ks es.toList && decide (es.size ≤ 100000)))
  | _ => false
def wdH (K : Fr) (d : Addr) : List Int := match K.lookup d with
  | some ⟨_, _, .dict es _, _⟩ => es.toList.map (·.hash)
  | _ => []
def intAt (K : Fr) (d : Addr) (z : Str) (c : Int) : Bool := match nsIn K d z with
  | some (some (.int j _)) => decide (j = c)
  | _ => false
def tupAt (K : Fr) (d : Addr) (z : Str) (vs : List Str) : Bool := match nsIn K d z with
  | some (some (.ref t)) => (match K.lookup t with
    | some ⟨.type c, _, .seq its _, _⟩ => decide (c = "tuple") && (decide (its.size ≤ sizeLine) && He.relAll (vs.map V.str) its.toList)
    | _ => false)
  | _ => false
def partsB (K : Fr) : Bool := wdB K (He.ga K "PARTS") (partsTab.map (·.1)) && partsTab.all fun q => intAt K (He.ga K "PARTS") q.1 (q.2 : Nat)
def formsB (K : Fr) : Bool := wdB K (He.ga K "FORMS") (formsTab.map (·.1)) && formsTab.all fun q => tupAt K (He.ga K "FORMS") q.1 q.2
abbrev SupV : Type := Option (Str × Str × Arguments × FuncBody × Scope × Addr × List Str × Addr)
def supV (K : Fr) (C : Addr) : SupV := match K.lookup (He.ma K C "__init__") with
  | some ⟨_, _, .func fd, _⟩ => some (fd.name, fd.qualname, fd.params, fd.body, fd.scope, fd.globals, fd.closure.map (·.1), fd.builtins)
  | _ => none
def fileB (K : Fr) (cda : Addr) (file : Str) : Bool := match K.lookup cda with
  | some ⟨_, _, .fields vs, _⟩ => (match vs[2]? with
    | some (Value.str x _) => decide (file = x)
    | _ => false)
  | _ => false
def cellB (K : Fr) (cc D : Addr) : Bool := match K.lookup cc with
  | some ⟨_, _, .cell (some (.ref a)), _⟩ => decide (a = D)
  | _ => false
def supFd (K : Fr) (fd : FuncData) (C : Addr) (file qual : Str) : Bool := (match fd.defaults with
  | .none => true
  | _ => false) && (match fd.closure, fd.code with
  | [(_, cc)], .ref cda => codeIn K (.ref cda) qual && (fileB K cda file && cellB K cc C)
  | _, _ => false)
def supB (K : Fr) (C f2 : Addr) (file qual : Str) : Bool := (match K.lookup (He.ma K C "__init__") with
  | some ⟨_, _, .func fd, _⟩ => supFd K fd C file qual
  | _ => false) && ((clsIn K C).isSome && (decide (mroIn K C (.ref C) = some true) && (decide (nsIn K cStatics "thirdparty.any" = some none) && (decide (ks_superIn K C C "__init__" = some (some (.ref f2))) && (decide (typeIn K (.ref f2) = some (.type "function")) && fnIn K f2)))))
def glos0 : List Str := ["is_integer", "is_within", "is_name", "is_value", "is_ascending", "is_stamp", "fixed", "is_digits", "is_mark", "is_single", "can_be_told", "words_of", "take_single", "take_told", "take_end", "is_one_of_first", "is_one_of_last", "is_told_paper", "made_first", "made_last", "take_paper", "paper_words", "paper_text", "read_paper", "is_lot_form", "is_of_form", "is_question", "need_question", "take_question", "question_words"]
def glos1 : List Str := ["question_text", "read_question", "_law_rope", "_law_knot", "_law_one", "_law_is_name", "_law_is_digits", "_law_bent", "_law_text", "_law_many", "_law_made", "_law_value", "_law_words", "_law_single", "_law_taken", "_law_paper_due", "_law_forms", "_law_asks", "_law_asked", "_law_is_of", "_law_question_due", "_law_by_lines", "_law_answered", "_law_refused", "_law_right", "law", "Scan", "Lines", "BadText", "BadValue"]
def glos2 : List Str := ["Paper", "Denial", "Bears", "Loses", "Settled", "Comes", "Stays", "Shaken", "Holds", "Covered", "Waits", "Pledges", "Frozen", "Thaws", "Acts", "Idle", "Firm", "Shaky", "PARTS", "FORMS"]
def glos : List Str := glos0 ++ glos1 ++ glos2
def fnL0 : List He.DefD := [d_is_integer, d_is_within, d_is_name, d_is_value, d_is_ascending, d_is_stamp, d_fixed, d_BadValue_init, d_BadText_init, d_is_digits, d_Scan_init, d_Scan_ahead, d_Scan_refuse, d_Scan_take, d_Scan_take_just, d_Scan_take_signed, d_Scan_finish, d_Paper_init, d_Paper_bool, d_Paper_eq, d_Denial_bool, d_is_mark, d_is_single, d_can_be_told, d_words_of, d_take_single, d_take_told, d_take_end, d_Lines_init, d_Lines_ahead]
def fnL1 : List He.DefD := [d_Lines_take, d_Lines_finish, d_is_one_of_first, d_is_one_of_last, d_is_told_paper, d_made_first, d_made_last, d_take_paper, d_paper_words, d_paper_text, d_read_paper, d_is_lot_form, d_is_of_form, d_is_question, d_need_question, d_take_question, d_question_words, d_question_text, d_read_question, d_law_rope, d_law_knot, d_law_one, d_law_is_name, d_law_is_digits, d_law_bent, d_law_text, d_law_many, d_law_made, d_law_value, d_law_words]
def fnL2 : List He.DefD := [d_law_single, d_law_taken, d_law_paper_due, d_law_forms, d_law_asks, d_law_asked, d_law_is_of, d_law_question_due, d_law_by_lines, d_law_answered, d_law_refused, d_law_right, d_law]
def fnL : List He.DefD := fnL0 ++ fnL1 ++ fnL2
def freeL : List Str := ["isinstance", "all", "len", "zip", "tuple", "int", "str", "set", "bool", "range", "list", "dict", "sorted", "repr", "abs", "sum", "super"]
def intL : List (Str × Int) := [("MOST_SIGNS", 8), ("MOST_VALUE", 999999999999), ("MOST_DIGITS", 12), ("MOST_DEEP", 10)]
def strL : List (Str × Str) := [("LETTERS", "abcdefghijklmnopqrstuvwxyz"), ("DIGITS", "0123456789"), ("NONE", "-"), ("MARK", "="), ("BEGIN", "("), ("END", ")")]
def clsNm (z : Str) : Str := match papTab.find? fun q => decide (q.2.1 = z) with
  | some q => q.1
  | none => ""
def adrK (K : Fr) : Adr := { scan := ga K "Scan", lines := ga K "Lines", bt := ga K "BadText", bv := ga K "BadValue", paper := ga K "Paper", denial := ga K "Denial", pap := fun z => ga K (clsNm z) }
def eqAd (K : Fr) : Addr := ma K (ga K "Paper") "__eq__"
def excsB (K : Fr) : Bool := obxB K (ga K "BadText") (ma K (ga K "BadText") "__init__") ["line", "word"] && (obxB K (ga K "BadValue") (ma K (ga K "BadValue") "__init__") ["part"] && (excB K (ga K "BadText") ["line", "word"] && excB K (ga K "BadValue") ["part"]))
def scansB (K : Fr) : Bool := (clsB K (ga K "Scan") && noB K (ga K "Scan") scanF) && ((clsB K (ga K "Lines") && noB K (ga K "Lines") linesF) && ((["ahead", "refuse", "take", "take_signed", "finish"] : List Str).all (methB K (ga K "Scan")) && ((["take", "finish"] : List Str).all (methB K (ga K "Lines")) && (bmethB K (ga K "Scan") "take_just" && (mkB K (ga K "Scan") && mkB K (ga K "Lines"))))))
def bareB (K : Fr) (C : Addr) : Bool := kokB K C && (instB K C && (barePapB K (adrK K) C && mkB K C))
def papB (K : Fr) (C : Addr) : Bool := kokB K C && (nmB K C (eqAd K) && (papTB K (adrK K) C && mkB K C))
def papsB (K : Fr) : Bool := papTab.all (fun q => papB K (ga K q.1)) && (bareB K (ga K "Paper") && (bareB K (ga K "Denial") && (noPapB K (adrK K) (.type "NoneType") && (noPapB K (adrK K) (.type "list") && kitN.all fun m => decide (PySem.W.kitOne K (.ref (ga K "Comes")) (.type m) = some false)))))
def supL : List (Str × Str × Stmt) := [("Bears", "Bears.__init__", s_Bears_init), ("Loses", "Loses.__init__", s_Loses_init), ("Settled", "Settled.__init__", s_Settled_init), ("Comes", "Comes.__init__", s_Comes_init), ("Stays", "Stays.__init__", s_Stays_init), ("Shaken", "Shaken.__init__", s_Shaken_init), ("Holds", "Holds.__init__", s_Holds_init), ("Covered", "Covered.__init__", s_Covered_init), ("Waits", "Waits.__init__", s_Waits_init), ("Pledges", "Pledges.__init__", s_Pledges_init), ("Frozen", "Frozen.__init__", s_Frozen_init), ("Thaws", "Thaws.__init__", s_Thaws_init), ("Acts", "Acts.__init__", s_Acts_init), ("Idle", "Idle.__init__", s_Idle_init), ("Firm", "Firm.__init__", s_Firm_init), ("Shaky", "Shaky.__init__", s_Shaky_init)]
def supVal (q : Str × Str × Stmt) : SupV := some (("__init__" : Str), q.2.1, defArgs q.2.2, FuncBody.stmts (defBody q.2.2), defScope q.2.2, mainGlobals, [("__class__" : Str)], builtinsNs)
def supsB (file : Str) (K : Fr) : Bool := supL.all fun q => supB K (ga K q.1) (ma K (ga K "Paper") "__init__") file q.2.1
end
end K96
set_option Elab.async false
set_option linter.all false
set_option maxRecDepth 100000
set_option maxHeartbeats 0
/-! The head: the run of the top. -/
namespace K96
open PySem PySem.Spec PyProof.Rows L2
open He (ga ma Fa)
abbrev R : PySem.W.OpenRow := PySem.W.OpenLaw.row PySem.Challenge.rw_lastcall_k96_texts_of_papers_and_questio
def file0 : PySem.Str := R.prog.main.file
/-- what is looked at, in two parts: each is reckoned in a theorem of its own, for the memory's sake -/
abbrev AlA : Type := List Bool × List Int × List Int
abbrev AlC : Type := Bool × List He.FnW × List SupV
abbrev AlB : Type := AlA × AlC
def obsA (K : Fr) : AlA := ([glos.all (fun x => (Fa.glo x).ok K), freeL.all (fun x => (Fa.free x).ok K), intL.all (fun q => (Fa.int q.1 q.2).ok K), strL.all (fun q => (Fa.str q.1 q.2).ok K), excsB K, scansB K, papsB K, supsB file0 K, partsB K && formsB K, decide (ma K (ga K "Denial") "__init__" = ma K (ga K "Paper") "__init__")], wdH K (ga K "PARTS"), wdH K (ga K "FORMS"))
def obsC (K : Fr) : AlC := (fnL.all fun d => d.ok K, fnL.map (fun d => He.fnW K d.at_), supL.map (fun q => supV K (ga K q.1)))
def obsB (K : Fr) : AlB := (obsA K, obsC K)
def valA (w : World) : AlA := ([true, true, true, true, true, true, true, true, true, true], (partsTab.map (·.1)).map (PyData.keyHash w.params), (formsTab.map (·.1)).map (PyData.keyHash w.params))
def valC : AlC := (true, fnL.map He.DefD.val, supL.map supVal)
def valB (w : World) : AlB := (valA w, valC)
/-- what is asked of an object's own: a def's code, defaults, cells; a class's dict; what a dict holds -/
def toldBy (o : Obj) : List Addr := match o.data with
  | .dict es _ => es.toList.flatMap fun e => He.refV e.val
  | .func fd => He.refV fd.code ++ He.refV fd.defaults ++ He.refV fd.kwdefaults ++ fd.closure.map (·.2)
  | .cls cd => [cd.ns]
  | _ => []
def isCl (g : Addr → Option Obj) (a : Addr) : Bool := match g a with
  | some o => (match o.data with
    | .cls _ => true
    | _ => false)
  | none => false
def nextB (g : Addr → Option Obj) (as : List Addr) : List Addr := as.flatMap fun a => match g a with
  | some o => toldBy o
  | none => []
/-- a list of places, each of them reckoned, handed on -/
def forcedL {α : Type} : List Addr → (List Addr → α) → α
  | [], k => k []
  | a :: r, k => HandSHeadRun.frNat a fun a => forcedL r fun r => k (a :: r)
theorem forcedL_eq {α : Type} : ∀ (l : List Addr) (k : List Addr → α), forcedL l k = k l
  | [], _ => rfl
  | a :: r, k => by
    show HandSHeadRun.frNat a (fun a => forcedL r fun r => k (a :: r)) = _
    rw [HandSHeadRun.frNat_eq, forcedL_eq r]
/-- the written part at these places, each object looked up once -/
def forcedK {α : Type} (g : Addr → Option Obj) : List Addr → (Fr → α) → α
  | [], k => k []
  | a :: r, k => match g a with
    | some o => forcedK g r fun K => k ((a, o) :: K)
    | none => forcedK g r k
theorem forcedK_eq {α : Type} (g : Addr → Option Obj) : ∀ (l : List Addr) (k : Fr → α), forcedK g l k = k (He.frG g l)
  | [], _ => rfl
  | a :: r, k => by
    unfold forcedK He.frG
    rw [List.filterMap_cons]
    cases g a with
    | none => exact forcedK_eq g r k
    | some o => exact forcedK_eq g r _
/-- the places that are asked: classes and what they hold ahead -/
def placesB {α : Type} (g : Addr → Option Obj) (k : List Addr → α) : α :=
  forcedL (nextB g [mainGlobals]) fun L => forcedL (L.filter (isCl g)) fun C => forcedL (nextB g C) fun N => forcedL (nextB g N) fun F => forcedL (L.filter fun a => !(isCl g a)) fun D => forcedL (nextB g F) fun F2 => forcedL (nextB g D) fun D2 => k ([mainGlobals, cStatics] ++ (C ++ (N ++ (D ++ (F ++ (F2 ++ D2))))))
theorem placesB_eq (g : Addr → Option Obj) : ∃ as : List Addr, ∀ {α : Type} (k : List Addr → α), placesB g k = k as :=
  ⟨placesB g id, fun k => by
    unfold placesB
    simp only [forcedL_eq]
    rfl⟩
def seenBy {β : Type} (g : Addr → Option Obj) (f : Fr → β) : β := placesB g fun as => forcedK g as f
theorem seenBy_eq (g : Addr → Option Obj) : ∃ as : List Addr, ∀ {β : Type} (f : Fr → β), seenBy g f = f (He.frG g as) := by
  obtain ⟨as, q⟩ := placesB_eq g
  exact ⟨as, fun f => by
    unfold seenBy
    rw [q, forcedK_eq]⟩
theorem seenBy_two {β γ : Type} (g : Addr → Option Obj) (f : Fr → β) (h : Fr → γ) : seenBy g (fun K => (f K, h K)) = (seenBy g f, seenBy g h) := by
  obtain ⟨as, q⟩ := seenBy_eq g
  rw [q, q, q]
def hk : PySem.W.Hook where
  α := AlB
  obs := fun s => seenBy s.heap.get? obsB
  val := valB
  says := fun w h => ∃ K : Fr, K.In h ∧ obsB K = valB w
  of := fun _ s e => by
    obtain ⟨as, q⟩ := seenBy_eq s.heap.get?
    have e1 : seenBy s.heap.get? obsB = valB _ := e
    rw [q] at e1
    exact ⟨_, He.frG_in, e1⟩
  keeps := fun _ _ _ ⟨K, hK, c⟩ k => ⟨K, PySem.W.Frag.In.keeps hK k, c⟩
def ob (s : PySem.W.SharedT) : AlB := seenBy (HandSHeadRun.getT s) obsB
theorem ob_eq (s : PySem.W.SharedT) : ob s = hk.obs s.abs := by
  have e : HandSHeadRun.getT s = s.abs.heap.get? := funext (HandSHeadRun.getT_eq s)
  unfold ob
  rw [e] <;> rfl
def nm0 : List PySem.Str := ["_wall", "__name__", "LETTERS", "MOST_SIGNS", "MOST_VALUE", "is_integer", "is_within", "is_name", "is_value", "is_ascending", "is_stamp", "fixed"]
def nm1 : List PySem.Str := ["CallError", "BadValue", "BadText", "DIGITS", "MOST_DIGITS", "is_digits", "Scan", "Paper", "Denial", "Bears", "Loses", "Settled"]
def nm2 : List PySem.Str := ["Comes", "Acts", "Idle", "Stays", "Shaken", "Firm", "Shaky", "Frozen", "Thaws", "MOST_DEEP", "NONE", "MARK"]
def nm3 : List PySem.Str := ["BEGIN", "END", "is_mark", "is_single", "can_be_told", "words_of", "take_single", "take_told", "take_end", "Lines", "Pledges", "Holds"]
def nm4 : List PySem.Str := ["Covered", "Waits", "PARTS", "is_one_of_first", "is_one_of_last", "is_told_paper", "made_first", "made_last", "take_paper", "paper_words", "paper_text", "read_paper"]
def nm5 : List PySem.Str := ["FORMS", "is_lot_form", "is_of_form", "is_question", "need_question", "take_question", "question_words", "question_text", "read_question", "_law_rope", "_law_knot", "_law_one"]
def nm6 : List PySem.Str := ["_law_is_name", "_law_is_digits", "_law_bent", "_law_text", "_law_many", "_law_made", "_law_value", "_law_words", "_law_single", "_law_taken", "_law_paper_due", "_law_forms"]
def nm7 : List PySem.Str := ["_law_asks", "_law_asked", "_law_is_of", "_law_question_due", "_law_by_lines", "_law_answered", "_law_refused", "_law_right"]
def names : List PySem.Str := nm0 ++ nm1 ++ nm2 ++ nm3 ++ nm4 ++ nm5 ++ nm6 ++ nm7
/-- the end of the top, the library's looks and one look more -/
def RunA {β : Type} (r : PySem.W.OpenRow) (q : Program) (M : Nat) (loose : List PySem.Str) (w : World) (f : PySem.W.SharedT → β) (a : β) : Prop := ∀ os : PySem.OsState, (HandSHeadRun.endF (HandSHeadRun.stepQ (HandSHeadRun.denQ HandSHeadRun.tabQ) r.prog w) M r.prog w os).map (fun s => (HandSHeadRun.looksF r.prog (PySem.W.boot_heap w.params) s.abs, HandSHeadRun.seenQ q loose (PySem.importedModules r.prog.main.body) (fun s => PySem.W.xlAt q [] s && PySem.W.recOk r.toRowW.records s) s.abs, f s)) = some (true, PySem.W.openGood q loose, a)
/-- the end of the top, one look alone -/
def RunC {β : Type} (r : PySem.W.OpenRow) (M : Nat) (w : World) (f : PySem.W.SharedT → β) (a : β) : Prop := ∀ os : PySem.OsState, (HandSHeadRun.endF (HandSHeadRun.stepQ (HandSHeadRun.denQ HandSHeadRun.tabQ) r.prog w) M r.prog w os).map f = some a
theorem run_both {r : PySem.W.OpenRow} {q : Program} {H : PySem.W.Hook} {ob : PySem.W.SharedT → H.α} {M : Nat} {loose : List PySem.Str} {w : World} {β γ : Type} {f : PySem.W.SharedT → β} {g : PySem.W.SharedT → γ} {a : β} {c : γ} (mk : β → γ → H.α) (ho : ∀ s, ob s = mk (f s) (g s)) (hv : H.val w = mk a c) (hA : RunA r q M loose w f a) (hC : RunC r M w g c) : HandSHeadRun.RunEq r q H ob M loose w := by
  intro os
  have h1 := hA os
  have h2 := hC os
  generalize HandSHeadRun.endF (HandSHeadRun.stepQ (HandSHeadRun.denQ HandSHeadRun.tabQ) r.prog w) M r.prog w os = o at h1 h2 ⊢
  cases o with
  | none => cases h1
  | some s =>
    have q1 := Option.some.inj h1
    have q2 : g s = c := Option.some.inj h2
    obtain ⟨r1, q1⟩ := Prod.mk.inj q1
    obtain ⟨r2, r3⟩ := Prod.mk.inj q1
    rw [Option.map_some, ho, hv, r1, r2, r3, q2]
theorem runA0 (w : World) : RunA R (PySem.W.view R.prog [108]) 20000 names (w.withFollow "special-get-raises" false) (fun s => seenBy (HandSHeadRun.getT s) obsA) (valA (w.withFollow "special-get-raises" false)) := by
  intro os
  kernel_rfl
theorem runA1 (w : World) : RunA R (PySem.W.view R.prog [108]) 20000 names (w.withFollow "special-get-raises" true) (fun s => seenBy (HandSHeadRun.getT s) obsA) (valA (w.withFollow "special-get-raises" true)) := by
  intro os
  kernel_rfl
theorem runC0 (w : World) : RunC R 20000 (w.withFollow "special-get-raises" false) (fun s => seenBy (HandSHeadRun.getT s) obsC) valC := by
  intro os
  kernel_rfl
theorem runC1 (w : World) : RunC R 20000 (w.withFollow "special-get-raises" true) (fun s => seenBy (HandSHeadRun.getT s) obsC) valC := by
  intro os
  kernel_rfl
theorem ob_two (s : PySem.W.SharedT) : ob s = (seenBy (HandSHeadRun.getT s) obsA, seenBy (HandSHeadRun.getT s) obsC) := seenBy_two _ _ _
theorem run0 (w : World) : HandSHeadRun.RunEq R (PySem.W.view R.prog [108]) hk ob 20000 names (w.withFollow "special-get-raises" false) := run_both (H := hk) Prod.mk ob_two rfl (runA0 w) (runC0 w)
theorem run1 (w : World) : HandSHeadRun.RunEq R (PySem.W.view R.prog [108]) hk ob 20000 names (w.withFollow "special-get-raises" true) := run_both (H := hk) Prod.mk ob_two rfl (runA1 w) (runC1 w)
theorem run (w : World) : HandSHeadRun.RunEq R (PySem.W.view R.prog [108]) hk ob 20000 names w := PySem.W.byRow2 "special-get-raises" (P := fun w => HandSHeadRun.RunEq R (PySem.W.view R.prog [108]) hk ob 20000 names w) run0 run1 w
end K96

set_option Elab.async false
set_option linter.all false
set_option maxRecDepth 100000
set_option maxHeartbeats 4000000
namespace K96
open PySem PySem.Spec PyProof.Rows L2
/-- a def's promise, told by the name under which it is called -/
structure Cl (P : Program) (w : World) (K : Fr) (mg : Str → Option Value) (base : Heap) (CX : CXT) (k : Nat) (x : Str) (sp : Sp) : Prop where
  ex : ∃ (f : Addr) (fd : FuncData) (ps : List Str), FnOk P w K mg base CX k f fd ps sp ∧ mg x = some (.ref f) ∧ PySem.W.keepIn K (.ref f) = true ∧ Binds K fd ps []
theorem pe_cl {X : Cx} {CX : CXT} {E : XK} {k j : Nat} {x : Str} {sp : Sp} {p pos : Pos} {e : Expr} {es : List Expr} {t : TA} (c : Cl X.prog X.w X.K X.mg X.base CX k x sp) (hr : Room j X.A) (hk : k ≤ j) (hx : Passes CX X E) (hg : Gl X x) (ha : PA X (e :: es) t)
    (hdb : (x == ("__debug__" : Str)) = false := by decide) (he : starEach (e :: es) X.env = (false, eval e X.env) :: starEach es X.env := by rfl) (hpl : (backTo pos (starEach es X.env)).any (·.1) = false := by rfl) :
    PE X (.Call (.Name x p) (e :: es) [] pos) (tCall sp [] E t) := by
  obtain ⟨f, fd, ps, F, hm, kp, b⟩ := c.ex
  exact pe_call F (hr.mono hk) hg hm kp b .nil hx ha hdb he hpl
/-- a def of the module, as the top has left it -/
structure Df (K : Fr) (mg : Str → Option Value) (d : He.DefD) : Prop where
  ex : ∃ (f : Addr) (fd : FuncData), FunD K d.name d.qual d.params d.body d.scope [] [] f fd ∧ mg d.name = some (.ref f)
/-- the rule for a def without defaults -/
theorem Df.cl {P : Program} {w : World} {K : Fr} {mg : Str → Option Value} {base : Heap} {CX : CXT} {d : He.DefD} {N ps : List Str} {k : Nat} {sp : Sp} (D : Df K mg d) (S : FnScope N ps d.scope) (len : ∀ vs H Q E, sp vs H Q E → vs.length = ps.length)
    (hb : ∀ (kV doc pm : Value) (an : Option Addr) (cdv ct : Value) (us : List Value), us.length = ps.length → bindArgs (PySem.W.fnOf d.name d.qual d.params d.body d.scope .none kV doc pm an cdv ct) ⟨us, []⟩ = pure (ps.zip us))
    (hbody : ∀ (f : Addr) (cdv : Value) (A : Around) (outer : List Env) (s : Shared) (H : Hp) (vs : List V) (Q : VK) (E : XK), Room k (A.deeper (envOfC d.qual d.scope s.heap.objs.size f cdv)) → sp vs H Q E →
      ∃ t, PSs (cxOf CX P w K mg base N d.qual d.scope f cdv A outer s H E) d.body t ∧ t { nx := fun _ H' => Q .non H', rt := Q } (start N vs) H) : Cl P w K mg base CX (k + 1) d.name sp := by
  obtain ⟨f, fd, F, g⟩ := D.ex
  exact ⟨f, fd, ps, F.ok S len (hbody f), g, F.kp, F.bindsN hb⟩

/-- what the classes of values are, as isinstance tells it; of an int, a text, None, a tuple what it is, too -/
structure VT (K : Fr) (H : Hp) (v : V) (n : String) : Prop where
  ty : ∃ t, TyX K H v t ∧ ∀ m ∈ kitN, PySem.W.kitOne K t (.type m) = some (n == m || (n == "bool" && m == "int"))
  int : n = "int" → ∃ i, v = .int i
  str : n = "str" → ∃ x, v = .str x ∧ x.length ≤ 100000
  non : v = .non ↔ n = "NoneType"
  tup : n = "tuple" → ∃ a xs, v = .ref a ∧ SqT K H a xs
/-- the module's names -/
structure Txt (K : Fr) (mg : Str → Option Value) : Prop where
  fr : ∀ x ∈ (["isinstance", "all", "len", "zip", "tuple", "int", "str", "set", "bool", "range", "list", "dict", "sorted", "repr", "abs", "sum"] : List Str), mg x = none
  gI : ∀ q ∈ ([("MOST_SIGNS", 8), ("MOST_VALUE", 999999999999), ("MOST_DIGITS", 12), ("MOST_DEEP", 10)] : List (Str × Int)), ∃ t, mg q.1 = some (.int q.2 t)
  gS : ∀ q ∈ ([("LETTERS", "abcdefghijklmnopqrstuvwxyz"), ("DIGITS", "0123456789"), ("NONE", "-"), ("MARK", "="), ("BEGIN", "("), ("END", ")")] : List (Str × Str)), ∃ t, mg q.1 = some (.str q.2 t)
end K96

set_option Elab.async false
set_option linter.all false
set_option maxRecDepth 100000
set_option maxHeartbeats 4000000
/-! Reading straight from the text: what a piece of text asks, without a term beside it. -/
namespace K96
open PySem PySem.Spec PyProof.Rows L2 Evl
abbrev Sg := L2.St
/-- what an expression, a test, arguments, a block ask -/
def eX (X : Cx) (e : Expr) : TE := fun σ H Q => ∀ (pins : List (Addr × Obj)) (s : Shared), Inv X pins σ H s → wpAny (model X.prog X.w) X.A (eval e X.env) (EP X pins σ Q) X.xe s
def tX (X : Cx) (e : Expr) : TT := fun σ H Q => ∀ (pins : List (Addr × Obj)) (s : Shared), Inv X pins σ H s → wpAny (model X.prog X.w) X.A (isTrue e X.env (eval e X.env)) (TP X pins σ Q) X.xe s
def wX (X : Cx) (e : Expr) : TT := fun σ H Q => ∀ (whole : Sem Value) (pins : List (Addr × Obj)) (s : Shared), Inv X pins σ H s → wpAny (model X.prog X.w) X.A (isTrue e X.env whole) (TP X pins σ Q) X.xe s
def aX (X : Cx) (es : List Expr) : TA := fun σ H Q => ∀ (pos : Pos) (pins : List (Addr × Obj)) (s : Shared), Inv X pins σ H s → wpAny (model X.prog X.w) X.A (spliced (backTo pos (starEach es X.env))) (AP X pins σ Q) X.xe s
def sX (X : Cx) (st : Stmt) : TS := fun D σ H => ∀ (pins : List (Addr × Obj)) (s : Shared), Inv X pins σ H s → wpAny (model X.prog X.w) X.A (exec st X.env) (SP X pins D) X.xe s
def bX (X : Cx) (st : List Stmt) : TS := fun D σ H => ∀ (pins : List (Addr × Obj)) (s : Shared), Inv X pins σ H s → wpAny (model X.prog X.w) X.A (execs st X.env) (SP X pins D) X.xe s
section
variable {X : Cx} {e a b c o : Expr} {es : List Expr} {st : Stmt} {ss rest : List Stmt} {pos : Pos} {σ : Sg} {H H' : Hp} {Q : VK} {D : Ends} {v x y z : V} {t : TE}
theorem pe_X : PE X e (eX X e) := ⟨fun pins s _ _ _ I h => h pins s I⟩
theorem pt_X : PT X e (tX X e) := ⟨fun pins s _ _ _ I h => h pins s I⟩
theorem pw_X : PW X e (wX X e) := ⟨fun wh pins s _ _ _ I h => h wh pins s I⟩
theorem pa_X : PA X es (aX X es) := ⟨fun ps pins s _ _ _ I h => h ps pins s I⟩
theorem ps_X : PS X st (sX X st) := ⟨fun pins s _ _ _ I h => h pins s I⟩
theorem pb_X : PSs X ss (bX X ss) := ⟨fun pins s _ _ _ I h => h pins s I⟩
theorem eX_of (h : PE X e t) (q : t σ H Q) : eX X e σ H Q := fun pins s I => h.run pins s σ H Q I q
theorem tX_of {t : TT} {Q : Bool → Hp → Prop} (h : PT X e t) (q : t σ H Q) : tX X e σ H Q := fun pins s I => h.run pins s σ H Q I q
theorem wX_of {t : TT} {Q : Bool → Hp → Prop} (h : PW X e t) (q : t σ H Q) : wX X e σ H Q := fun wh pins s I => h.run wh pins s σ H Q I q
theorem aX_of {t : TA} {Q : List V → Hp → Prop} (h : PA X es t) (q : t σ H Q) : aX X es σ H Q := fun ps pins s I => h.run ps pins s σ H Q I q
theorem sX_of {t : TS} (h : PS X st t) (q : t D σ H) : sX X st D σ H := fun pins s I => h.run pins s σ H D I q
theorem bX_of {t : TS} (h : PSs X ss t) (q : t D σ H) : bX X ss D σ H := fun pins s I => h.run pins s σ H D I q
theorem eX_mono {Q' : VK} (h : eX X e σ H Q) (k : ∀ v H', Q v H' → Q' v H') : eX X e σ H Q' := fun pins s I => thn (h pins s I) fun u s' ⟨v, H', J, r, q⟩ => ⟨v, H', J, r, k v H' q⟩

/-! ### values: e gives v, whatever stands besides -/
/-- e gives v from H on, and nothing that stands changes -/
abbrev EV (X : Cx) (e : Expr) (σ : Sg) (H : Hp) (v : V) : Prop := Ev (eX X e) σ H v
abbrev EVL (X : Cx) (e : Expr) (σ : Sg) (H : Hp) (xs : List V) : Prop := EvL (eX X e) σ H xs
abbrev EVU (X : Cx) (e : Expr) (σ : Sg) (H : Hp) (xs : List V) : Prop := EvU (eX X e) σ H xs
abbrev ET (X : Cx) (e : Expr) (σ : Sg) (H : Hp) (k : Bool) : Prop := EvT (tX X e) σ H k
abbrev EW (X : Cx) (e : Expr) (σ : Sg) (H : Hp) (k : Bool) : Prop := EvT (wX X e) σ H k
abbrev EA (X : Cx) (es : List Expr) (σ : Sg) (H : Hp) (vs : List V) : Prop := EvA (aX X es) σ H vs
theorem ev_of (h : PE X e t) (q : Ev t σ H v) : EV X e σ H v := fun H1 e1 Q k => eX_of h (q H1 e1 Q k)
theorem evl_of {xs : List V} (h : PE X e t) (q : EvL t σ H xs) : EVL X e σ H xs := fun H1 e1 Q k => eX_of h (q H1 e1 Q k)
theorem evu_of {xs : List V} (h : PE X e t) (q : EvU t σ H xs) : EVU X e σ H xs := fun H1 e1 Q k => eX_of h (q H1 e1 Q k)
theorem et_of {t : TT} {k : Bool} (h : PT X e t) (q : EvT t σ H k) : ET X e σ H k := fun H1 e1 Q r => tX_of h (q H1 e1 Q r)
theorem ew_of {t : TT} {k : Bool} (h : PW X e t) (q : EvT t σ H k) : EW X e σ H k := fun H1 e1 Q r => wX_of h (q H1 e1 Q r)
theorem ea_of {t : TA} {vs : List V} (h : PA X es t) (q : EvA t σ H vs) : EA X es σ H vs := fun H1 e1 Q r => aX_of h (q H1 e1 Q r)

theorem ev_name (i : Nat) {n : Str} (h : σ[i]? = some (some v)) (hN : X.N[i]? = some n := by rfl) (hv : Vis X.env.scope n := by first | exact Or.inl rfl | exact Or.inr (Or.inl rfl) | exact Or.inr (Or.inr rfl)) (hd : (n == ("__debug__" : Str)) = false := by decide)
    (hcd : (n == ("__classdict__" : Str)) = false := by decide) : EV X (.Name n pos) σ H v := ev_of (pe_var hN hv hd hcd) (ev_var h)
theorem ev_int {i : Int} {j} : EV X (.Constant (.int i) j pos) σ H (.int i) := ev_of pe_int ev_c
theorem ev_str {i : Str} {j} : EV X (.Constant (.str i) j pos) σ H (.str i) := ev_of pe_str ev_c
theorem ev_bl {k : Bool} {j} : EV X (.Constant (.bool k) j pos) σ H (.bl k) := ev_of pe_bl ev_c
theorem ev_non {j} : EV X (.Constant .none j pos) σ H .non := ev_of pe_non ev_c
theorem ev_gl {n : Str} (h : ∃ u, X.mg n = some u ∧ RelV v u) (hg : Gl X n := by rfl) (hd : (n == ("__debug__" : Str)) = false := by decide) : EV X (.Name n pos) σ H v := by
  obtain ⟨u, hm, r⟩ := h
  exact ev_of (pe_glob hg hm r hd) ev_c
theorem ev_ty {n : Str} {T : String} (hm : X.mg n = none) (hv : bootBuiltins n = some (.type T) := by decide +kernel) (hg : Gl X n := by rfl) (hn : n ≠ "__name__" := by decide) (hd : (n == ("__debug__" : Str)) = false := by decide) : EV X (.Name n pos) σ H (.ty T) := ev_of (pe_bltn (v := V.ty T) hg hm hv rfl hn hd) ev_c
theorem ev_bin {op : Operator} {r : R2} (ho : OpR X (binaryOp op) r) (ha : EV X a σ H x) (hb : EV X b σ H y) (hr : RV r x y H z) : EV X (.BinOp a op b pos) σ H z := ev_of (pe_op ho pe_X pe_X) (ev_op ha hb hr)
theorem ev_cmp {op : CmpOp} {r : R2} (ho : OpR X (compareOp op) r) (ha : EV X a σ H x) (hb : EV X b σ H y) (hr : RV r x y H z) (hm : behindInMarks op b = false := by first | rfl | exact nomark _) : EV X (.Compare a [op] [b] pos) σ H z := ev_of (pe_cmpR ho pe_X pe_X hm) (ev_op ha hb hr)
theorem et_cmp {op : CmpOp} {r : R2} {k : Bool} (ho : OpR X (compareOp op) r) (ha : EV X a σ H x) (hb : EV X b σ H y) (hr : RV r x y H (.bl k)) (hm : behindInMarks op b = false := by first | rfl | exact nomark _) : ET X (.Compare a [op] [b] pos) σ H k := et_of (pt_cmpR ho pe_X pe_X hm) (et_test (ev_op ha hb hr))
theorem et_val {k : Bool} (h : EV X e σ H (.bl k)) (he : ∀ whole, isTrue e X.env whole = (do let v ← whole; standAt e.pos; holding [v] (truthy v)) := by intro _; rfl) : ET X e σ H k := et_of (pt_val pe_X he) (et_B h)
theorem et_not {k : Bool} (h : ET X a σ H k) : ET X (.UnaryOp .Not a pos) σ H (!k) := et_of (pt_not pt_X) (Evl.et_not h)
theorem ew_and {k l : Bool} (h1 : ET X a σ H k) (h2 : k = true → EW X (.BoolOp .And (b :: es) pos) σ H l) : EW X (.BoolOp .And (a :: b :: es) pos) σ H (k && l) := ew_of (pw_and pt_X pw_X) (Evl.et_and h1 h2)
theorem ew_and1 {k : Bool} (h1 : ET X a σ H k) : EW X (.BoolOp .And [a] pos) σ H k := ew_of (pw_and1 pt_X) h1
theorem ew_or {k l : Bool} (h1 : ET X a σ H k) (h2 : k = false → EW X (.BoolOp .Or (b :: es) pos) σ H l) : EW X (.BoolOp .Or (a :: b :: es) pos) σ H (k || l) := ew_of (pw_or pt_X pw_X) (Evl.et_or h1 h2)
theorem ew_or1 {k : Bool} (h1 : ET X a σ H k) : EW X (.BoolOp .Or [a] pos) σ H k := ew_of (pw_or1 pt_X) h1
theorem et_w {k : Bool} (h : EW X e σ H k) : ET X e σ H k := fun H1 e1 Q r => tX_of pw_X.pt (h H1 e1 Q r)
theorem ev_and {k l : Bool} (h1 : EV X a σ H (.bl k)) (h2 : k = true → EV X (.BoolOp .And (b :: es) pos) σ H (.bl l)) : EV X (.BoolOp .And (a :: b :: es) pos) σ H (.bl (k && l)) := ev_of (pe_and pe_X pe_X) (ev_andV h1 h2)
theorem ev_or {k l : Bool} (h1 : EV X a σ H (.bl k)) (h2 : k = false → EV X (.BoolOp .Or (b :: es) pos) σ H (.bl l)) : EV X (.BoolOp .Or (a :: b :: es) pos) σ H (.bl (k || l)) := ev_of (pe_or pe_X pe_X) (ev_orV h1 h2)
theorem ev_one {op} (h : EV X a σ H v) : EV X (.BoolOp op [a] pos) σ H v := ev_of (pe_one pe_X) h
theorem ev_not {k : Bool} (h1 : EV X a σ H (.bl k)) : EV X (.UnaryOp .Not a pos) σ H (.bl (!k)) := ev_of (pe_not pe_X) (ev_notV h1)
theorem ev_ife {k : Bool} (h : ET X c σ H k) (h1 : k = true → EV X a σ H v) (h2 : k = false → EV X b σ H v) : EV X (.IfExp c a b pos) σ H v := ev_of (pe_ifExp pt_X pe_X pe_X) (ev_if h h1 h2)
theorem ea_nil : EA X [] σ H [] := ea_of pa_nil Evl.ea_nil
theorem ea_cons {vs : List V} (h : EV X e σ H x) (hr : EA X es σ H vs) (hs : starEach (e :: es) X.env = (false, eval e X.env) :: starEach es X.env := by rfl) : EA X (e :: es) σ H (x :: vs) := ea_of (pa_cons pe_X pa_X hs) (Evl.ea_cons h hr)
theorem evl_lst {vs : List V} (h : EA X es σ H vs) (hl : vs.length ≤ 100000) : EVL X (.List es pos) σ H vs := evl_of (pe_lst pa_X) (el_lst h hl)
theorem evu_tup {vs : List V} {x1} (h : EA X es σ H vs) (hl : vs.length ≤ 100000) : EVU X (.Tuple es x1 pos) σ H vs := evu_of (pe_tup pa_X) (eu_tup h hl)
/-- a chain of two comparisons of ints -/
theorem ev_chain {op op' : CmpOp} {r r' : R2} {k l : Bool} (ho : OpR X (compareOp op) r) (ho' : OpR X (compareOp op') r') (ha : EV X a σ H x) (hb : EV X b σ H y) (hr : RV r x y H (.bl k)) (hc : k = true → EV X c σ H z ∧ RV r' y z H (.bl l)) (hm : lastMarks [op, op'] [b, c] = false := by with_unfolding_all rfl) : EV X (.Compare a [op, op'] [b, c] pos) σ H (.bl (k && l)) := by
  refine ev_of (pe_chain ho ho' pe_X pe_X pe_X hm) fun H1 e1 Q q => ha H1 e1 _ fun H2 e2 => hb H2 (e1.trans e2) _ fun H3 e3 => hr H3 ((e1.trans e2).trans e3) _ fun H4 e4 => ⟨k, rfl, ?_⟩
  have E := e2.trans (e3.trans e4)
  cases k with
  | true =>
    obtain ⟨c1, c2⟩ := hc rfl
    refine iteT (c1 H4 (e1.trans E) _ fun H5 e5 => c2 H5 ((e1.trans E).trans e5) Q fun H6 e6 => q H6 ((E.trans e5).trans e6))
  | false => exact iteF (q H4 E)
theorem et_chain {op op' : CmpOp} {r r' : R2} {k l : Bool} (ho : OpR X (compareOp op) r) (ho' : OpR X (compareOp op') r') (ha : EV X a σ H x) (hb : EV X b σ H y) (hr : RV r x y H (.bl k)) (hc : k = true → EV X c σ H z ∧ RV r' y z H (.bl l)) (hm : lastMarks [op, op'] [b, c] = false := by with_unfolding_all rfl) : ET X (.Compare a [op, op'] [b, c] pos) σ H (k && l) := by
  refine et_of (pt_chain ho ho' pe_X pe_X pe_X hm) (et_test fun H1 e1 Q q => ha H1 e1 _ fun H2 e2 => hb H2 (e1.trans e2) _ fun H3 e3 => hr H3 ((e1.trans e2).trans e3) _ fun H4 e4 => ⟨k, rfl, ?_⟩)
  have E := e2.trans (e3.trans e4)
  cases k with
  | true =>
    obtain ⟨c1, c2⟩ := hc rfl
    refine iteT (c1 H4 (e1.trans E) _ fun H5 e5 => c2 H5 ((e1.trans E).trans e5) Q fun H6 e6 => q H6 ((E.trans e5).trans e6))
  | false => exact iteF (q H4 E)
/-- a call of a def that gives a value and changes nothing -/
theorem ev_call {CX : CXT} {E : XK} {k j : Nat} {n : Str} {sp : Sp} {p : Pos} {vs : List V} (cl : Cl X.prog X.w X.K X.mg X.base CX k n sp) (hr : Room j X.A) (hk : k ≤ j) (hx : Passes CX X E) (ha : EA X (e :: es) σ H vs) (h : ∀ H1, Ex H H1 → ∀ Q : VK, (∀ H2, Ex H1 H2 → Q v H2) → sp vs H1 Q E) (hg : Gl X n := by rfl)
    (hdb : (n == ("__debug__" : Str)) = false := by decide) (he : starEach (e :: es) X.env = (false, eval e X.env) :: starEach es X.env := by rfl) (hpl : (backTo pos (starEach es X.env)).any (·.1) = false := by rfl) : EV X (.Call (.Name n p) (e :: es) [] pos) σ H v :=
  ev_of (pe_cl cl hr hk hx hg pa_X hdb he hpl) fun H1 e1 Q q => ha H1 e1 _ fun H2 e2 => by
    show sp (vs ++ []) H2 Q E
    rw [List.append_nil]
    exact h H2 (e1.trans e2) Q fun H3 e3 => q H3 (e2.trans e3)
/-- a built-in function, a built-in type, called by its name -/
theorem ev_fun {r : List V → Hp → VK → Prop} {n : Str} {id : String} {p : Pos} {vs : List V} (hc : CallR X (.builtin id) r) (hm : X.mg n = none) (ha : EA X (e :: es) σ H vs) (hr : RC r vs H v) (hv : bootBuiltins n = some (.builtin id) := by decide +kernel) (hg : Gl X n := by rfl) (hn : n ≠ "__name__" := by decide) (hdb : (n == ("__debug__" : Str)) = false := by decide)
    (he : starEach (e :: es) X.env = (false, eval e X.env) :: starEach es X.env := by rfl) (hpl : (backTo pos (starEach es X.env)).any (·.1) = false := by rfl) : EV X (.Call (.Name n p) (e :: es) [] pos) σ H v :=
  ev_of (pe_callB hc hg hm hv pa_X hn hdb he hpl) fun H1 e1 Q q => ha H1 e1 _ fun H2 e2 => hr H2 (e1.trans e2) Q fun H3 e3 => q H3 (e2.trans e3)
theorem ev_tyc {r : List V → Hp → VK → Prop} {n : Str} {T : String} {p : Pos} {vs : List V} (hc : CallR X (.type T) r) (hm : X.mg n = none) (ha : EA X (e :: es) σ H vs) (hr : RC r vs H v) (hv : bootBuiltins n = some (.type T) := by decide +kernel) (hg : Gl X n := by rfl) (hn : n ≠ "__name__" := by decide) (hdb : (n == ("__debug__" : Str)) = false := by decide)
    (he : starEach (e :: es) X.env = (false, eval e X.env) :: starEach es X.env := by rfl) (hpl : (backTo pos (starEach es X.env)).any (·.1) = false := by rfl) : EV X (.Call (.Name n p) (e :: es) [] pos) σ H v :=
  ev_of (pe_callTy hc hg hm hv pa_X hn hdb he hpl) fun H1 e1 Q q => ha H1 e1 _ fun H2 e2 => hr H2 (e1.trans e2) Q fun H3 e3 => q H3 (e2.trans e3)

/-! ### statements -/
theorem b_nil (q : D.nx σ H) : bX X [] D σ H := bX_of pss_nil q
theorem b_cons (q : sX X st { D with nx := bX X rest D } σ H) : bX X (st :: rest) D σ H := bX_of (pss_cons ps_X pb_X) q
theorem b_one (q : sX X st D σ H) : bX X [st] D σ H := bX_of (pss_one ps_X) q
theorem s_ret (h : EV X e σ H v) (q : ∀ H1, Ex H H1 → D.rt v H1) : sX X (.Return (some e) pos) D σ H := sX_of (ps_ret pe_X) (h H (Ex.refl H) _ q)
theorem s_retX (h : eX X e σ H D.rt) : sX X (.Return (some e) pos) D σ H := sX_of (ps_ret pe_X) h
theorem s_if {ss : List Stmt} {k : Bool} (h : ET X c σ H k) (h1 : k = true → ∀ H1, Ex H H1 → bX X ss D σ H1) (h2 : k = false → ∀ H1, Ex H H1 → bX X rest D σ H1) : sX X (.If c ss rest pos) D σ H := sX_of (ps_if pt_X pb_X pb_X) (Evl.s_if h h1 h2)
end
end K96

set_option Elab.async false
set_option linter.all false
set_option maxRecDepth 100000
set_option maxHeartbeats 4000000
namespace K96
open PySem PySem.Spec PyProof.Rows L2 Evl
/-- isinstance's answer for a built-in class -/
def isK (n m : String) : Bool := n == m || (n == "bool" && m == "int")
section
variable {X : Cx} {e : Expr} {σ : Sg} {H : Hp} {v : V} {n : String} {p q r : Pos} {T : Str} {m : String}
theorem TyX.ext {K : Fr} {H H' : Hp} {v : V} {t : Value} (ty : TyX K H v t) (e : Ex H H') : TyX K H' v t := by
  cases ty with
  | base b =>
    cases b with
    | non => exact .base .non
    | bl x => exact .base (.bl x)
    | int i => exact .base (.int i)
    | str x => exact .base (.str x)
    | flt x => exact .base (.flt x)
    | lst h => exact .base (.lst (e _ _ h))
    | frz h => exact .base (.frz (e _ _ h))
    | tup h => exact .base (.tup (e _ _ h))
    | dK h => exact .base (.dK (e _ _ h))
    | dT h => exact .base (.dT (e _ _ h))
    | ins h cl a b c d => exact .base (.ins (e _ _ h) cl a b c d)
  | byt b => exact .byt b
  | set h => exact .set (e _ _ h)
  | kList h c => exact .kList h c
  | kTuple h c => exact .kTuple h c
  | kDict h c => exact .kDict h c
  | fTuple h => exact .fTuple (e _ _ h)
  | fDict h => exact .fDict (e _ _ h)
theorem VT.mono {K : Fr} {H H' : Hp} {v : V} {n : String} (h : VT K H v n) (e : Ex H H') : VT K H' v n := by
  obtain ⟨t, ty, k⟩ := h.ty
  exact ⟨⟨t, TyX.ext ty e, k⟩, h.int, h.str, h.non, fun q => by
    obtain ⟨a, xs, r, z⟩ := h.tup q
    exact ⟨a, xs, r, ex_t e z⟩⟩
theorem kit_all {n : String} {K : Fr} (h : ∀ m ∈ kitN, kitB n m = some (n == m || (n == "bool" && m == "int"))) : ∀ m ∈ kitN, PySem.W.kitOne K (.type n) (.type m) = some (n == m || (n == "bool" && m == "int")) := fun m hm => kit_ty (h m hm)
theorem VT.i {K : Fr} {H : Hp} (i : Int) : VT K H (.int i) "int" := ⟨⟨_, .base (.int i), kit_all (by decide +kernel)⟩, fun _ => ⟨i, rfl⟩, fun q => absurd q (by decide), ⟨fun q => (nomatch q), fun q => absurd q (by decide)⟩, fun q => absurd q (by decide)⟩
theorem VT.s {K : Fr} {H : Hp} (x : Str) (hx : x.length ≤ 100000) : VT K H (.str x) "str" := ⟨⟨_, .base (.str x), kit_all (by decide +kernel)⟩, fun q => absurd q (by decide), fun _ => ⟨x, rfl, hx⟩, ⟨fun q => (nomatch q), fun q => absurd q (by decide)⟩, fun q => absurd q (by decide)⟩
theorem VT.b {K : Fr} {H : Hp} (x : Bool) : VT K H (.bl x) "bool" := ⟨⟨_, .base (.bl x), kit_all (by decide +kernel)⟩, fun q => absurd q (by decide), fun q => absurd q (by decide), ⟨fun q => (nomatch q), fun q => absurd q (by decide)⟩, fun q => absurd q (by decide)⟩
theorem VT.nn {K : Fr} {H : Hp} : VT K H .non "NoneType" := ⟨⟨_, .base .non, kit_all (by decide +kernel)⟩, fun q => absurd q (by decide), fun q => absurd q (by decide), ⟨fun _ => rfl, fun _ => rfl⟩, fun q => absurd q (by decide)⟩
theorem tyx_t {K : Fr} {H : Hp} {a : Addr} {xs : List V} (h : SqT K H a xs) : TyX K H (.ref a) (.type "tuple") := by
  rcases h with (h | ⟨o, h⟩) | ⟨o, its, n, h, c, _⟩
  · exact .base (.tup h)
  · exact .fTuple h
  · exact .kTuple h c
theorem VT.t {K : Fr} {H : Hp} {a : Addr} {xs : List V} (h : SqT K H a xs) : VT K H (.ref a) "tuple" := ⟨⟨_, tyx_t h, kit_all (by decide +kernel)⟩, fun q => absurd q (by decide), fun q => absurd q (by decide), ⟨fun q => (nomatch q), fun q => absurd q (by decide)⟩, fun _ => ⟨a, xs, rfl, h⟩⟩
theorem tyx_l {K : Fr} {H : Hp} {a : Addr} {xs : List V} (h : SqL K H a xs) : TyX K H (.ref a) (.type "list") := by
  rcases h with (h | ⟨o, h⟩) | ⟨o, its, n, h, c, _⟩
  · exact .base (.lst h)
  · exact .base (.frz h)
  · exact .kList h c
theorem VT.l {K : Fr} {H : Hp} {a : Addr} {xs : List V} (h : SqL K H a xs) : VT K H (.ref a) "list" := ⟨⟨_, tyx_l h, kit_all (by decide +kernel)⟩, fun q => absurd q (by decide), fun q => absurd q (by decide), ⟨fun q => (nomatch q), fun q => absurd q (by decide)⟩, fun q => absurd q (by decide)⟩
theorem VT.d {K : Fr} {H : Hp} {a : Addr} {kvs : List (Key × V)} (h : H a = some (.dK kvs)) : VT K H (.ref a) "dict" := ⟨⟨_, .base (.dK h), kit_all (by decide +kernel)⟩, fun q => absurd q (by decide), fun q => absurd q (by decide), ⟨fun q => (nomatch q), fun q => absurd q (by decide)⟩, fun q => absurd q (by decide)⟩
theorem ev_isi (hi : X.mg "isinstance" = none) (hT : X.mg T = none) (he : EV X e σ H v) (h : VT X.K H v n) (hm : m ∈ kitN) (hv : bootBuiltins T = some (.type m) := by decide +kernel) (hg : Gl X T := by rfl) (hgi : Gl X ("isinstance" : Str) := by rfl) (hn : T ≠ "__name__" := by decide) (hd : (T == ("__debug__" : Str)) = false := by decide)
    (hs : starEach [e, .Name T r] X.env = (false, eval e X.env) :: starEach [.Name T r] X.env := by rfl) (hs2 : starEach [.Name T r] X.env = (false, eval (.Name T r) X.env) :: starEach [] X.env := by rfl) (hpl : (backTo q (starEach [.Name T r] X.env)).any (·.1) = false := by rfl) :
    EV X (.Call (.Name "isinstance" p) [e, .Name T r] [] q) σ H (.bl (isK n m)) := by
  refine ev_fun call_isi hi (ea_cons he (ea_cons (ev_ty hT hv hg hn hd) ea_nil hs2) hs) (fun H1 e1 Q k => ?_) boot_isinstance hgi (by decide) (by decide) hs hpl
  obtain ⟨t, ty, kt⟩ := (h.mono e1).ty
  exact ⟨v, .ty m, t, .type m, isK n m, rfl, .ty m, ty, kt m hm, k H1 (Ex.refl H1)⟩
end
theorem isK_int (n : String) : (isK n "int" && !isK n "bool") = (n == "int") := by
  unfold isK
  by_cases h1 : n = "int"
  · subst h1
    decide
  · by_cases h2 : n = "bool"
    · subst h2
      decide
    · have e1 : (n == "int") = false := by simpa using h1
      have e2 : (n == "bool") = false := by simpa using h2
      rw [e1, e2]
      rfl
/-- a promise: the answer z, nothing that stood is changed -/
abbrev Gives (z : V) (H : Hp) (Q : VK) : Prop := ∀ H2, Ex H H2 → Q z H2
def spIsInteger (K : Fr) : Sp := fun vs H Q _ => ∃ v n, vs = [v] ∧ VT K H v n ∧ Gives (.bl (n == "int")) H Q
section
variable {P : Program} {w : World} {K : Fr} {mg : Str → Option Value} {base : Heap}
theorem ok_is_integer (T : Txt K mg) (D : Df K mg d_is_integer) : Cl P w K mg base CX0 1 "is_integer" (spIsInteger K) := by
  refine D.cl sc_is_integer (fun vs H Q E h => ?_) (fun _ _ _ _ _ _ us hl => match us, hl with | [_], _ => rfl) fun f cdv A outer s H vs Q E hr h => ⟨_, pb_X, ?_⟩
  · obtain ⟨v, n, rfl, _⟩ := h
    rfl
  obtain ⟨v, n, rfl, hv, k⟩ := h
  refine b_one (s_ret (v := .bl (n == "int")) ?_ k)
  rw [← isK_int n]
  exact ev_and (ev_isi (T.fr _ (by decide +kernel)) (T.fr _ (by decide +kernel)) (ev_name 0 rfl) hv (by decide)) fun _ => ev_one (ev_not (ev_isi (T.fr _ (by decide +kernel)) (T.fr _ (by decide +kernel)) (ev_name 0 rfl) hv (by decide)))
end
end K96

set_option Elab.async false
set_option linter.all false
set_option maxRecDepth 100000
set_option maxHeartbeats 4000000
/-! Comprehensions, read straight. -/
namespace K96
open PySem PySem.Spec PyProof.Rows L2 Evl
theorem Txt.f {K : Fr} {mg : Str → Option Value} (T : Txt K mg) (x : Str) (h : x ∈ (["isinstance", "all", "len", "zip", "tuple", "int", "str", "set", "bool", "range", "list", "dict", "sorted", "repr", "abs", "sum"] : List Str) := by decide +kernel) : mg x = none := T.fr x h
theorem Txt.i {K : Fr} {mg : Str → Option Value} (T : Txt K mg) (x : Str) {i : Int} (h : (x, i) ∈ ([("MOST_SIGNS", 8), ("MOST_VALUE", 999999999999), ("MOST_DIGITS", 12), ("MOST_DEEP", 10)] : List (Str × Int)) := by decide +kernel) : ∃ u, mg x = some u ∧ RelV (.int i) u := by
  obtain ⟨t, e⟩ := T.gI _ h
  exact ⟨_, e, t, rfl⟩
theorem Txt.s {K : Fr} {mg : Str → Option Value} (T : Txt K mg) (x : Str) {z : Str} (h : (x, z) ∈ ([("LETTERS", "abcdefghijklmnopqrstuvwxyz"), ("DIGITS", "0123456789"), ("NONE", "-"), ("MARK", "="), ("BEGIN", "("), ("END", ")")] : List (Str × Str)) := by decide +kernel) : ∃ u, mg x = some u ∧ RelV (.str z) u := by
  obtain ⟨t, e⟩ := T.gS _ h
  exact ⟨_, e, t, rfl⟩
/-- the block of a comprehension -/
abbrev blkX (X : Cx) (scope : Scope) (s : Shared) (H : Hp) (C : Addr) (cl : List (Str × Addr)) (fp : List Addr) : Cx := X.blk s H scope (compEnvC scope cl C X.env) fp
def eB (X : Cx) (scope : Scope) (e : Expr) : TE := fun σ H Q => ∀ (s : Shared) (H0 : Hp) (C : Addr) (cl : List (Str × Addr)) (fp : List Addr), eX (blkX X scope s H0 C cl fp) e σ H Q
def tB2 (X : Cx) (scope : Scope) (e : Expr) : TT := fun σ H Q => ∀ (s : Shared) (H0 : Hp) (C : Addr) (cl : List (Str × Addr)) (fp : List Addr), tX (blkX X scope s H0 C cl fp) e σ H Q
section
variable {X : Cx} {elt iter c : Expr} {n : Str} {px pos : Pos} {scope : Scope} {σ : Sg} {H : Hp} {i : Nat} {wi : TI}
/-- what a walked thing is: it gives the items of xs, as long as G stands -/
structure Its1 (X : Cx) (n : Str) (px : Pos) (iter : Expr) (σ : Sg) (H : Hp) (xs : List V) : Prop where
  ex : ∃ wi : TI, PI X (.Name n px) iter wi ∧ ∀ H1, Ex H H1 → ∀ R : It → Hp → Prop, (∀ (J : It) (H2 : Hp) (G : Hp → Prop), Ex H1 H2 → G H2 → (∀ A B, Ex A B → G A → G B) → Walk J xs.length G (YAt xs) → R J H2) → wi σ H1 R
theorem its_str {z : Str} (h : EV X iter σ H (.str z)) : Its1 X n px iter σ H (z.cps.toList.map fun c => V.str ⟨#[c]⟩) := by
  refine ⟨_, pi_str pe_X, fun H1 e1 R k => h H1 e1 _ fun H2 e2 => ⟨z, rfl, k (Its z) H2 (fun _ => True) e2 trivial (fun _ _ _ z => z) ?_⟩⟩
  have w := (walk_str (z := z)).mono (G' := fun _ => True) (Y' := YAt (z.cps.toList.map fun c => V.str ⟨#[c]⟩)) (fun _ h => h) fun i H x H' _ _ ⟨e, c, h1, h2⟩ => ⟨e, by
    rw [List.getElem?_map, Array.getElem?_toList, h1, h2]
    rfl⟩
  rw [List.length_map, Array.length_toList]
  exact w
theorem its_l {a : Addr} {xs : List V} (h : EV X iter σ H (.ref a)) (hl : SqL X.K H a xs) : Its1 X n px iter σ H xs :=
  ⟨_, pi_list pe_X, fun H1 e1 R k => h H1 e1 _ fun H2 e2 => ⟨a, rfl, ⟨xs, ex_l (e1.trans e2) hl⟩, k _ H2 (fun H => SqL X.K H a xs) e2 (ex_l (e1.trans e2) hl) (fun _ _ e z => ex_l e z) walk_list⟩⟩
theorem its_t {a : Addr} {xs : List V} (h : EV X iter σ H (.ref a)) (hl : SqT X.K H a xs) : Its1 X n px iter σ H xs :=
  ⟨_, pi_tup pe_X, fun H1 e1 R k => h H1 e1 _ fun H2 e2 => ⟨a, rfl, ⟨xs, ex_t (e1.trans e2) hl⟩, k _ H2 (fun H => SqT X.K H a xs) e2 (ex_t (e1.trans e2) hl) (fun _ _ e z => ex_t e z) walk_tup⟩⟩
/-- a new list walked at once -/
theorem its_ln {xs : List V} (h : EVL X iter σ H xs) : Its1 X n px iter σ H xs :=
  ⟨_, pi_list pe_X, fun H1 e1 R k => h H1 e1 _ fun p H2 _ e2 hp => ⟨p, rfl, ⟨xs, sq_of hp⟩, k _ H2 (fun H => SqL X.K H p xs) e2 (sq_of hp) (fun _ _ e z => ex_l e z) walk_list⟩⟩
/-- a heap without what stands at D -/
def hide (H : Hp) (D : Addr) : Hp := fun b => if b = D then none else H b
theorem hide_ne {H : Hp} {D b : Addr} (h : b ≠ D) : hide H D b = H b := if_neg h
theorem hide_ex {H : Hp} {D : Addr} : Ex (hide H D) H := fun b o e => by
  by_cases h : b = D
  · rw [hide, if_pos h] at e
    cases e
  · rw [hide, if_neg h] at e
    exact e
theorem hide_mono {H H' : Hp} {D : Addr} (e : Ex H H') : Ex (hide H D) (hide H' D) := fun b o h => by
  by_cases q : b = D
  · rw [hide, if_pos q] at h
    cases h
  · rw [hide, if_neg q] at h ⊢
    exact e b o h
theorem hide_upd {H : Hp} {D : Addr} {o : HO} : hide (upd H D o) D = hide H D := by
  funext b
  by_cases q : b = D
  · rw [hide, hide, if_pos q, if_pos q]
  · rw [hide, hide, if_neg q, if_neg q, upd_ne q]
/-- [elt for n in iter]: what the elements are, by a word that stays as the heap grows -/
theorem evR_lc {xs : List V} (R : Nat → V → Hp → Prop) (mono : ∀ k y A B, Ex A B → R k y A → R k y B) (hi : Its1 X n px iter σ H xs) (hN : X.N.Nodup) (ok : BlkOk X.N X.env.scope scope [(n, i)])
    (hg : ∀ (s : Shared) (H : Hp) (C : Addr) (cl : List (Str × Addr)) (fp : List Addr), PG (blkX X scope s H C cl fp) (.Name n px) (gName i)) (hl : xs.length < 1000000)
    (he : ∀ k x H1, xs[k]? = some x → Ex H H1 → ∀ Q : VK, (∀ y H2, Ex H1 H2 → (∀ D o, H1 D = some (.lst o) → H D = none → R k y (hide H2 D)) → Q y H2) → eB X scope elt (σ.set i (some x)) H1 Q)
    (hc : X.calm = true := by rfl) (hs : ∀ x, foldedSetIterable iter X.env x = pure x := by intro _; rfl) : ∀ H1, Ex H H1 → ∀ Q : VK, (∀ p ys H2, H1 p = none → Ex H1 H2 → H2 p = some (.lst ys) → ys.length = xs.length → (∀ k y, ys[k]? = some y → R k y (hide H2 p)) → Q (.ref p) H2) →
      eX X (.ListComp elt [⟨.Name n px, iter, [], 0⟩] scope pos) σ H1 Q := by
  intro H1 e1 Q q
  obtain ⟨wi, hpi, hw⟩ := hi.ex
  refine eX_of (pe_lc (own := [(n, i)]) (tt := tYes) (te := eB X scope elt) (g := gName i) hc hN hpi ok hg (fun _ _ _ _ _ => pts_nil) (fun s H C cl fp => ⟨fun pins s1 σ1 H2 Q1 I h => h s H C cl fp pins s1 I⟩) hs) ?_
  refine hw H1 e1 _ fun J H2 G e2 g2 gm W Dl hD => ?_
  have hw1 : ∀ x : V, wipe ((wipe σ [i]).set i (some x)) [i] = wipe σ [i] := fun x => by
    show ((σ.set i none).set i (some x)).set i none = σ.set i none
    rw [List.set_set, List.set_set]
  have hw2 : ∀ x : V, (wipe σ [i]).set i (some x) = σ.set i (some x) := fun x => by
    show (σ.set i none).set i (some x) = σ.set i (some x)
    rw [List.set_set]
  refine lc_it W (fun k H' => H2 Dl = none ∧ Ex H2 H' ∧ ∃ ys, H' Dl = some (.lst ys) ∧ ys.length = k ∧ k ≤ xs.length ∧ ∀ j y, ys[j]? = some y → R j y (hide H' Dl)) ⟨hD, Ex.new hD, [], upd_same, rfl, Nat.zero_le _, fun j y z => by simp at z⟩ (fun k H' hk p => gm _ _ p.2.1 g2) (fun k x H3 H4 hk p y => ?_) fun H' p => ?_
  · obtain ⟨rfl, hx⟩ := y
    obtain ⟨p1, p2, ys, p3, p4, p5, p6⟩ := p
    show wipe ((wipe σ [i]).set i (some x)) [i] = wipe σ [i] ∧ tYes ((wipe σ [i]).set i (some x)) _ _
    refine ⟨hw1 x, ?_⟩
    unfold tYes
    refine iteT ?_
    show eB X scope elt ((wipe σ [i]).set i (some x)) _ _
    rw [hw2 x]
    refine he k x _ hx (e1.trans (e2.trans p2)) _ fun y H5 e5 hR => ⟨ys, e5 _ _ p3, Nat.lt_of_lt_of_le (by omega : ys.length < 1000000) (by decide), p1, Ex.mut (p2.trans e5) p1, ys ++ [y], upd_same, by simp [p4], hk, fun j z hz => ?_⟩
    rw [hide_upd]
    by_cases hj : j < ys.length
    · rw [List.getElem?_append_left hj] at hz
      exact mono _ _ _ _ (hide_mono e5) (p6 j z hz)
    · rw [List.getElem?_append_right (by omega)] at hz
      have hj2 : j - ys.length = 0 := by
        cases q : j - ys.length with
        | zero => rfl
        | succ m =>
          rw [q] at hz
          simp at hz
      rw [hj2] at hz
      simp at hz
      subst hz
      have e6 : j = k := by omega
      rw [e6]
      exact hR Dl _ p3 (fresh_back (e1.trans e2) p1)
  · obtain ⟨p1, p2, ys, p3, p4, p5, p6⟩ := p
    exact q Dl ys H' (fresh_back e2 p1) (e2.trans p2) p3 (by omega) p6
/-- [elt for n in iter], each element a value told by the item -/
theorem evl_lc {xs : List V} (f : V → V) (hi : Its1 X n px iter σ H xs) (hN : X.N.Nodup) (ok : BlkOk X.N X.env.scope scope [(n, i)])
    (hg : ∀ (s : Shared) (H : Hp) (C : Addr) (cl : List (Str × Addr)) (fp : List Addr), PG (blkX X scope s H C cl fp) (.Name n px) (gName i)) (hl : xs.length < 1000000)
    (he : ∀ x, x ∈ xs → ∀ H1, Ex H H1 → ∀ (s : Shared) (H0 : Hp) (C : Addr) (cl : List (Str × Addr)) (fp : List Addr), EV (blkX X scope s H0 C cl fp) elt (σ.set i (some x)) H1 (f x))
    (hc : X.calm = true := by rfl) (hs : ∀ x, foldedSetIterable iter X.env x = pure x := by intro _; rfl) : EVL X (.ListComp elt [⟨.Name n px, iter, [], 0⟩] scope pos) σ H (xs.map f) := by
  intro H1 e1 Q q
  refine evR_lc (fun k y _ => ∃ x, xs[k]? = some x ∧ y = f x) (fun _ _ _ _ _ h => h) hi hN ok hg hl (fun k x H2 hx e2 Q k2 s H0 C cl fp => ?_) hc hs H1 e1 Q fun p ys H2 hp e2 hy hl2 hR => ?_
  · exact he x (List.mem_of_getElem? hx) H2 e2 s H0 C cl fp H2 (Ex.refl H2) _ fun H3 e3 => k2 _ H3 e3 fun _ _ _ _ => ⟨x, hx, rfl⟩
  · have e : ys = xs.map f := by
      apply List.ext_getElem?
      intro k
      cases hk : ys[k]? with
      | none =>
        have h1 := List.getElem?_eq_none_iff.mp hk
        rw [List.getElem?_map, List.getElem?_eq_none_iff.mpr (by omega)]
        rfl
      | some y =>
        obtain ⟨x, hx, rfl⟩ := hR k y hk
        rw [List.getElem?_map, hx]
        rfl
    subst e
    exact q p H2 hp e2 hy
/-- all([..]) of truths -/
theorem ev_all {p : Pos} {q : Pos} {a : Expr} {ys : List Bool} (hm : X.mg "all" = none) (h : EVL X a σ H (ys.map V.bl)) (hc : X.calm = true := by rfl) (hg : Gl X ("all" : Str) := by rfl) (hs : starEach [a] X.env = (false, eval a X.env) :: starEach [] X.env := by rfl) (hpl : (backTo q (starEach [] X.env)).any (·.1) = false := by rfl) : EV X (.Call (.Name "all" p) [a] [] q) σ H (.bl (ys.all id)) :=
  ev_of (pe_callB (cr_all hc) hg hm PyProof.Rows.boot_all (pa_cons pe_X pa_nil hs) (by decide) (by decide) hs hpl) fun H1 e1 Q k => h H1 e1 _ fun P H2 _ e2 h2 => ⟨P, ys, rfl, sq_of h2, k H2 e2⟩
end
end K96

set_option Elab.async false
set_option linter.all false
set_option maxRecDepth 100000
set_option maxHeartbeats 4000000
namespace K96
open PySem PySem.Spec PyProof.Rows L2 Evl
/-! ### what the small defs say -/
/-- within two bounds -/
def inB (lo hi : Int) : V → Bool
  | .int i => decide (lo ≤ i) && decide (i ≤ hi)
  | _ => false
def mostV : Int := 999999999999
def isVal (v : V) : Bool := decide (v = .non) || inB (0 - mostV) mostV v
def letters : Str := "abcdefghijklmnopqrstuvwxyz"
def isName (s : Str) : Bool := (decide (1 ≤ s.length) && decide (s.length ≤ 8)) && s.cps.toList.all fun c => decide (c ∈ letters.cps.toList)
def isNameV : V → Bool
  | .str s => isName s
  | _ => false
def digits : Str := "0123456789"
def isDigs (s : Str) : Bool := (decide (1 ≤ s.length) && decide (s.length ≤ 12)) && (s.cps.toList.all fun c => decide (c ∈ digits.cps.toList)) && (decide (s = "0") || !decide (s.cps.toList[0]? = some 48))
def spWithin (K : Fr) : Sp := fun vs H Q _ => ∃ v n lo hi, vs = [v, .int lo, .int hi] ∧ VT K H v n ∧ Gives (.bl (inB lo hi v)) H Q
def spVal (f : V → Bool) (K : Fr) : Sp := fun vs H Q _ => ∃ v n, vs = [v] ∧ VT K H v n ∧ Gives (.bl (f v)) H Q
section
variable {P : Program} {w : World} {K : Fr} {mg : Str → Option Value} {base : Heap}
theorem VT.inB {H : Hp} {v : V} {n : String} (h : VT K H v n) {lo hi : Int} (hn : ¬ n = "int") : inB lo hi v = false := by
  cases v with
  | int i =>
    obtain ⟨t, ty, k⟩ := h.ty
    exfalso
    have e : t = .type "int" := by
      cases ty with
      | base b => cases b; rfl
    subst e
    have k1 := k "int" (by decide)
    have k2 := kit_ty (K := K) (a := "int") (b := "int") (r := true) (by decide +kernel)
    rw [k2] at k1
    have k3 := k "bool" (by decide)
    have k4 := kit_ty (K := K) (a := "int") (b := "bool") (r := false) (by decide +kernel)
    rw [k4] at k3
    have a1 : (n == "int" || (n == "bool" && "int" == "int")) = true := (Option.some.inj k1).symm
    have a2 : (n == "bool" || (n == "bool" && "bool" == "int")) = false := (Option.some.inj k3).symm
    by_cases q : n = "bool"
    · subst q
      exact absurd a2 (by decide)
    · have z1 : (n == "int") = false := by simpa using hn
      have z2 : (n == "bool") = false := by simpa using q
      rw [z1, z2] at a1
      exact absurd a1 (by decide)
  | _ => rfl
theorem ok_is_within (T : Txt K mg) (D : Df K mg d_is_within) (c1 : Cl P w K mg base CX0 1 "is_integer" (spIsInteger K)) : Cl P w K mg base CX0 2 "is_within" (spWithin K) := by
  refine D.cl sc_is_within (fun vs H Q E h => ?_) (fun _ _ _ _ _ _ us hl => match us, hl with | [_, _, _], _ => rfl) fun f cdv A outer s H vs Q E hr h => ⟨_, pb_X, ?_⟩
  · obtain ⟨v, n, lo, hi, rfl, _⟩ := h
    rfl
  obtain ⟨v, n, lo, hi, rfl, hv, k⟩ := h
  refine b_one (s_ret (v := .bl (inB lo hi v)) ?_ k)
  by_cases hn : n = "int"
  · obtain ⟨i, rfl⟩ := hv.int hn
    have e : inB lo hi (.int i) = ((n == "int") && (decide (lo ≤ i) && decide (i ≤ hi))) := by
      subst hn
      rfl
    rw [e]
    refine ev_and (ev_call c1 hr (by decide) pass0 (ea_cons (ev_name 0 rfl) ea_nil) (fun H1 e1 Q q => ⟨_, n, rfl, hv.mono e1, q⟩)) fun _ => ev_one (ev_chain op_le op_le (ev_name 1 rfl) (ev_name 0 rfl) rv_I0 fun _ => ⟨ev_name 2 rfl, rv_I0⟩)
  · have e : inB lo hi v = ((n == "int") && false) := by
      rw [hv.inB hn, Bool.and_false]
    rw [e]
    have hf : (n == "int") = false := by simpa using hn
    refine ev_and (ev_call c1 hr (by decide) pass0 (ea_cons (ev_name 0 rfl) ea_nil) (fun H1 e1 Q q => ⟨_, n, rfl, hv.mono e1, q⟩)) fun q => ?_
    rw [hf] at q
    cases q
theorem ok_is_value (T : Txt K mg) (D : Df K mg d_is_value) (c1 : Cl P w K mg base CX0 2 "is_within" (spWithin K)) : Cl P w K mg base CX0 3 "is_value" (spVal isVal K) := by
  refine D.cl sc_is_value (fun vs H Q E h => ?_) (fun _ _ _ _ _ _ us hl => match us, hl with | [_], _ => rfl) fun f cdv A outer s H vs Q E hr h => ⟨_, pb_X, ?_⟩
  · obtain ⟨v, n, rfl, _⟩ := h
    rfl
  obtain ⟨v, n, rfl, hv, k⟩ := h
  refine b_one (s_ret (v := .bl (isVal v)) ?_ k)
  refine ev_or (ev_cmp op_isN (ev_name 0 rfl) ev_non fun H1 _ Q q => ⟨rfl, q H1 (Ex.refl H1)⟩) fun _ => ev_one ?_
  exact ev_call c1 hr (by decide) pass0 (ea_cons (ev_name 0 rfl) (ea_cons (ev_bin op_sub ev_int (ev_gl (T.i "MOST_VALUE")) rv_I0) (ea_cons (ev_gl (T.i "MOST_VALUE")) ea_nil))) (fun H1 e1 Q q => ⟨v, n, _, _, rfl, hv.mono e1, q⟩)
end
end K96

set_option Elab.async false
set_option linter.all false
set_option maxRecDepth 100000
set_option maxHeartbeats 4000000
namespace K96
open PySem PySem.Spec PyProof.Rows L2 Evl
def signV (c : Nat) : V := .str ⟨#[c]⟩
def codeOf : V → Nat
  | .str s => s.cps.getD 0 0
  | _ => 0
theorem codeOf_sign (c : Nat) : codeOf (signV c) = c := rfl
theorem map_signs (g : Nat → Bool) (l : List Nat) : (l.map fun c => V.str ⟨#[c]⟩).map (fun v => V.bl (g (codeOf v))) = (l.map g).map V.bl := by
  rw [List.map_map, List.map_map]
  rfl
theorem all_map_id {α : Type} (g : α → Bool) (l : List α) : (l.map g).all id = l.all g := by
  rw [List.all_map]
  rfl
section
variable {P : Program} {w : World} {K : Fr} {mg : Str → Option Value} {base : Heap}
/-- [sign in TABLE for sign in text], all of it -/
theorem ok_is_name (T : Txt K mg) (D : Df K mg d_is_name) : Cl P w K mg base CX0 1 "is_name" (spVal isNameV K) := by
  refine D.cl sc_is_name (fun vs H Q E h => ?_) (fun _ _ _ _ _ _ us hl => match us, hl with | [_], _ => rfl) fun f cdv A outer s H vs Q E hr h => ⟨_, pb_X, ?_⟩
  · obtain ⟨v, n, rfl, _⟩ := h
    rfl
  obtain ⟨v, n, rfl, hv, k⟩ := h
  by_cases hn : n = "str"
  · obtain ⟨z, rfl, hz⟩ := hv.str hn
    have hz2 : z.length ≤ sizeLine := Nat.le_trans hz (by decide)
    refine b_cons (s_if (k := !(isK n "str") || !(decide ((1 : Int) ≤ (z.length : Int)) && decide ((z.length : Int) ≤ 8))) (et_w (ew_or (et_not (et_val (ev_isi (T.f "isinstance") (T.f "str") (ev_name 0 rfl) hv (by decide)))) fun _ => ew_or1 (et_not (et_chain op_le op_le ev_int (ev_fun call_len (T.f "len") (ea_cons (ev_name 0 rfl) ea_nil) (fun H1 _ Q q => ⟨_, z.length, rfl, ⟨hz2, rfl⟩, q H1 (Ex.refl H1)⟩)) rv_I0 fun _ => ⟨ev_gl (T.i "MOST_SIGNS"), rv_I0⟩)))) (fun hb H1 e1 => ?_) fun hb H1 e1 => b_nil ?_)
    · have e : isNameV (.str z) = false := by
        subst hn
        show isName z = false
        unfold isName
        have h1 : isK "str" "str" = true := by decide
        rw [h1] at hb
        have h2 : (decide ((1 : Int) ≤ (z.length : Int)) && decide ((z.length : Int) ≤ 8)) = (decide (1 ≤ z.length) && decide (z.length ≤ 8)) := by
          congr 1 <;> exact decide_eq_decide.mpr (by omega)
        rw [h2] at hb
        cases q : (decide (1 ≤ z.length) && decide (z.length ≤ 8)) with
        | false => rfl
        | true =>
          rw [q] at hb
          exact absurd hb (by decide)
      refine b_one (s_ret (v := .bl false) ev_bl fun H2 e2 => ?_)
      rw [e] at k
      exact k _ (e1.trans e2)
    · refine b_one (s_ret (v := .bl (isNameV (.str z))) ?_ fun H2 e2 => k _ (e1.trans e2))
      have e : isNameV (.str z) = ((z.cps.toList.map fun c => decide (c ∈ letters.cps.toList)).all id) := by
        rw [all_map_id]
        show isName z = _
        unfold isName
        have h1 : isK n "str" = true := by
          subst hn
          decide
        rw [h1] at hb
        have h2 : (decide ((1 : Int) ≤ (z.length : Int)) && decide ((z.length : Int) ≤ 8)) = (decide (1 ≤ z.length) && decide (z.length ≤ 8)) := by
          congr 1 <;> exact decide_eq_decide.mpr (by omega)
        rw [h2] at hb
        cases q : (decide (1 ≤ z.length) && decide (z.length ≤ 8)) with
        | true => rfl
        | false =>
          rw [q] at hb
          exact absurd hb (by decide)
      rw [e]
      refine ev_all (T.f "all") ?_
      rw [← map_signs (fun c => decide (c ∈ letters.cps.toList))]
      refine evl_lc (i := 1) (fun v => V.bl (decide (codeOf v ∈ letters.cps.toList))) (its_str (ev_name 0 rfl)) sc_is_name.nd (blkOk_by (N := ["value", "letter"]) (sc := defScope s_is_name) (by decide +kernel)) (fun _ _ _ _ _ => pg_name sc_is_name.nd rfl (Or.inl rfl)) (by rw [List.length_map, Array.length_toList]; exact Nat.lt_of_le_of_lt hz (by decide : 100000 < 1000000)) fun x hx H2 e2 s2 H0 C cl fp => ?_
      obtain ⟨c, hc, rfl⟩ := List.mem_map.mp hx
      exact ev_cmp op_in_sign (ev_name 1 rfl) (ev_gl (T.s "LETTERS")) fun H3 _ Q q => ⟨c, _, rfl, rfl, q H3 (Ex.refl H3)⟩
  · have h0 : isK n "str" = false := by
      unfold isK
      have z1 : (n == "str") = false := by simpa using hn
      rw [z1]
      have z2 : ("str" == "int") = false := by decide
      rw [z2, Bool.and_false]
      rfl
    have e : isNameV v = false := by
      cases v with
      | str z =>
        exfalso
        obtain ⟨t, ty, kt⟩ := hv.ty
        have e : t = .type "str" := by
          cases ty with
          | base b => cases b; rfl
        subst e
        have k1 := kt "str" (by decide)
        have k2 := kit_ty (K := K) (a := "str") (b := "str") (r := true) (by decide +kernel)
        rw [k2] at k1
        have a1 : isK n "str" = true := (Option.some.inj k1).symm
        rw [h0] at a1
        cases a1
      | _ => rfl
    refine b_cons (s_if (k := !(isK n "str") || !false) (et_w (ew_or (et_not (et_val (ev_isi (T.f "isinstance") (T.f "str") (ev_name 0 rfl) hv (by decide)))) fun q => ?_)) (fun hb H1 e1 => ?_) fun hb H1 e1 => ?_)
    · rw [h0] at q
      cases q
    · refine b_one (s_ret (v := .bl false) ev_bl fun H2 e2 => ?_)
      rw [e] at k
      exact k _ (e1.trans e2)
    · rw [h0] at hb
      cases hb
end
end K96

set_option Elab.async false
set_option linter.all false
set_option maxRecDepth 100000
set_option maxHeartbeats 4000000
namespace K96
open PySem PySem.Spec PyProof.Rows L2 Evl
section
variable {X : Cx}
/-- a list against an empty one -/
def rNeNil (K : Fr) : R2 := fun x y H Q => ∃ a b xs ys, x = .ref a ∧ y = .ref b ∧ SqL K H a xs ∧ SqL K H b ys ∧ (xs = [] ∨ ys = []) ∧ Q (.bl (!decide (xs.length = ys.length))) H
def rEqNil (K : Fr) : R2 := fun x y H Q => ∃ a b xs ys, x = .ref a ∧ y = .ref b ∧ SqL K H a xs ∧ SqL K H b ys ∧ (xs = [] ∨ ys = []) ∧ Q (.bl (decide (xs.length = ys.length))) H
theorem op_neNil (hu : X.A.units + 64 < cLine) : OpR X (compareOp .NotEq) (rNeNil X.K) := by
  intro pins s σ H x y v u Q I rx ry h
  obtain ⟨a, b, xs, ys, rfl, rfl, ha, hb, hn, q⟩ := h
  cases rx
  cases ry
  obtain ⟨its, r1, ⟨o1, n1, e1, c1, _, d1⟩, _⟩ := I.list ha
  obtain ⟨its2, r2, ⟨o2, n2, e2, c2, _, d2⟩, _⟩ := I.list hb
  have l1 := r1.length
  have l2 := r2.length
  have hu2 : X.A.units < cLine := by omega
  by_cases e : xs.length = ys.length
  · rw [decide_eq_true e] at q
    have z : its.toArray.size = 0 := by
      rcases hn with rfl | rfl
      · simp at l1
        simp [l1]
      · simp at e
        subst e
        simp at l1
        simp [l1]
    have z2 : its2.toArray.size = 0 := by
      have : its2.length = its.length := by omega
      simpa [this] using z
    have hr := SeqAt.RcNeAt.lists (A := X.A) (s := s) (e := fun _ => true) ⟨o1, e1, c1, n1, d1⟩ ⟨o2, e2, c2, n2, d2⟩ (by rw [z, z2]) hu2 (fun j h1 _ => by rw [z] at h1; exact absurd h1 (Nat.not_lt_zero _))
    exact hr X.prog X.w X.xe _ ⟨.bl _, H, I, by rw [z]; rfl, q⟩
  · rw [decide_eq_false e] at q
    have hz : (its.toArray.size != its2.toArray.size) = true := by
      simp
      omega
    exact SeqAt.RcNeAt.lists_lengths (A := X.A) (s := s) ⟨o1, e1, c1, n1, d1⟩ ⟨o2, e2, c2, n2, d2⟩ hz hu2 X.prog X.w X.xe _ ⟨.bl _, H, I, rfl, q⟩
theorem op_eqNil (hu : X.A.units + 64 < cLine) : OpR X (compareOp .Eq) (rEqNil X.K) := by
  intro pins s σ H x y v u Q I rx ry h
  obtain ⟨a, b, xs, ys, rfl, rfl, ha, hb, hn, q⟩ := h
  cases rx
  cases ry
  obtain ⟨its, r1, ⟨o1, n1, e1, c1, _, d1⟩, _⟩ := I.list ha
  obtain ⟨its2, r2, ⟨o2, n2, e2, c2, _, d2⟩, _⟩ := I.list hb
  have l1 := r1.length
  have l2 := r2.length
  have hu2 : X.A.units < cLine := by omega
  by_cases e : xs.length = ys.length
  · rw [decide_eq_true e] at q
    have z : its.toArray.size = 0 := by
      rcases hn with rfl | rfl
      · simp at l1
        simp [l1]
      · simp at e
        subst e
        simp at l1
        simp [l1]
    have z2 : its2.toArray.size = 0 := by
      have : its2.length = its.length := by omega
      simpa [this] using z
    have hr := SeqAt.RcAt.lists (A := X.A) (s := s) (e := fun _ => true) ⟨o1, e1, c1, n1, d1⟩ ⟨o2, e2, c2, n2, d2⟩ (by rw [z, z2]) hu2 (fun j h1 _ => by rw [z] at h1; exact absurd h1 (Nat.not_lt_zero _))
    exact hr X.prog X.w X.xe _ ⟨.bl _, H, I, by rw [z]; rfl, q⟩
  · rw [decide_eq_false e] at q
    have hz : (its.toArray.size != its2.toArray.size) = true := by
      simp
      omega
    exact SeqAt.RcAt.lists_lengths (A := X.A) (s := s) ⟨o1, e1, c1, n1, d1⟩ ⟨o2, e2, c2, n2, d2⟩ hz hu2 X.prog X.w X.xe _ ⟨.bl _, H, I, rfl, q⟩
/-- xs != [], xs == [] -/
theorem ev_neNil {a : Expr} {p2 pos : Pos} {σ : Sg} {H : Hp} {l : Addr} {xs : List V} (hu : X.A.units + 64 < cLine) (ha : EV X a σ H (.ref l)) (hx : SqL X.K H l xs) (hm : behindInMarks .NotEq (.List [] p2) = false := by rfl) : EV X (.Compare a [.NotEq] [.List [] p2] pos) σ H (.bl (!decide (xs.length = 0))) :=
  ev_of (pe_cmpR (op_neNil hu) pe_X pe_X hm) (ev_opL ha (evl_lst ea_nil (Nat.zero_le _)) fun p H1 hp e1 => rv_val fun H2 e2 Q q => ⟨l, p, xs, [], rfl, rfl, ex_l (e1.trans e2) hx, sq_of (e2 _ _ hp), .inr rfl, q⟩)
theorem et_neNil {a : Expr} {p2 pos : Pos} {σ : Sg} {H : Hp} {l : Addr} {xs : List V} (hu : X.A.units + 64 < cLine) (ha : EV X a σ H (.ref l)) (hx : SqL X.K H l xs) (hm : behindInMarks .NotEq (.List [] p2) = false := by rfl) : ET X (.Compare a [.NotEq] [.List [] p2] pos) σ H (!decide (xs.length = 0)) :=
  et_of (pt_cmpR (op_neNil hu) pe_X pe_X hm) (et_test (ev_opL ha (evl_lst ea_nil (Nat.zero_le _)) fun p H1 hp e1 => rv_val fun H2 e2 Q q => ⟨l, p, xs, [], rfl, rfl, ex_l (e1.trans e2) hx, sq_of (e2 _ _ hp), .inr rfl, q⟩))
theorem ev_eqNil {a : Expr} {p2 pos : Pos} {σ : Sg} {H : Hp} {l : Addr} {xs : List V} (hu : X.A.units + 64 < cLine) (ha : EV X a σ H (.ref l)) (hx : SqL X.K H l xs) (hm : behindInMarks .Eq (.List [] p2) = false := by rfl) : EV X (.Compare a [.Eq] [.List [] p2] pos) σ H (.bl (decide (xs.length = 0))) :=
  ev_of (pe_cmpR (op_eqNil hu) pe_X pe_X hm) (ev_opL ha (evl_lst ea_nil (Nat.zero_le _)) fun p H1 hp e1 => rv_val fun H2 e2 Q q => ⟨l, p, xs, [], rfl, rfl, ex_l (e1.trans e2) hx, sq_of (e2 _ _ hp), .inr rfl, q⟩)
theorem et_eqNil {a : Expr} {p2 pos : Pos} {σ : Sg} {H : Hp} {l : Addr} {xs : List V} (hu : X.A.units + 64 < cLine) (ha : EV X a σ H (.ref l)) (hx : SqL X.K H l xs) (hm : behindInMarks .Eq (.List [] p2) = false := by rfl) : ET X (.Compare a [.Eq] [.List [] p2] pos) σ H (decide (xs.length = 0)) :=
  et_of (pt_cmpR (op_eqNil hu) pe_X pe_X hm) (et_test (ev_opL ha (evl_lst ea_nil (Nat.zero_le _)) fun p H1 hp e1 => rv_val fun H2 e2 Q q => ⟨l, p, xs, [], rfl, rfl, ex_l (e1.trans e2) hx, sq_of (e2 _ _ hp), .inr rfl, q⟩))
end
end K96

set_option Elab.async false
set_option linter.all false
set_option maxRecDepth 100000
set_option maxHeartbeats 4000000
namespace K96
open PySem PySem.Spec PyProof.Rows L2 Evl
section
variable {X : Cx} {a b e : Expr} {σ : Sg} {H : Hp} {x v : V} {xs : List V} {pos : Pos}
theorem ev_inT (ha : EV X a σ H x) (hb : EVU X b σ H xs) (hx : flatV x = true) (hf : xs.all flatV = true) (hm : behindInMarks .In b = false := by rfl) : EV X (.Compare a [.In] [b] pos) σ H (.bl (inV x xs)) := ev_of (pe_cmpR op_in_seq pe_X pe_X hm) (ev_inU ha hb hx hf)
theorem et_inT (ha : EV X a σ H x) (hb : EVU X b σ H xs) (hx : flatV x = true) (hf : xs.all flatV = true) (hm : behindInMarks .In b = false := by rfl) : ET X (.Compare a [.In] [b] pos) σ H (inV x xs) := et_of (pt_cmpR op_in_seq pe_X pe_X hm) (et_test (ev_inU ha hb hx hf))
/-- text[i], a place written -/
theorem ev_sign {z : Str} {i : Int} {c : Nat} (h0 : 0 ≤ i) (h1 : i < z.length) (h2 : i < 2 ^ 63) (h3 : z.cps[i.toNat]? = some c) (ha : EV X a σ H (.str z)) (hb : EV X b σ H (.int i)) (hs : PlainIxT b := by intro _ _; rfl) : EV X (.Subscript a b pos) σ H (.str ⟨#[c]⟩) :=
  ev_of (pe_item_str pe_X pe_X hs) fun H1 e1 Q q => ha H1 e1 _ fun H2 e2 => hb H2 (e1.trans e2) _ fun H3 e3 => ⟨z, i, c, rfl, rfl, h0, h2, h1, h3, q H3 (e2.trans e3)⟩
end
def spStr (f : Str → Bool) : Sp := fun vs H Q _ => ∃ z, vs = [.str z] ∧ z.length ≤ 100000 ∧ Gives (.bl (f z)) H Q
def digV (z : Str) : Bool := (decide (1 ≤ z.length) && decide (z.length ≤ 12)) && z.cps.toList.all fun c => decide (c ∈ digits.cps.toList)
def zeroV (z : Str) : Bool := decide (V.str z = V.str "0") || !decide (V.str ⟨#[z.cps.getD 0 0]⟩ = V.str "0")
def isDg (z : Str) : Bool := digV z && zeroV z
def isMark (z : Str) : Bool := inV (.str z) [.str "", .str "-"] || isName z
def isMarkV : V → Bool
  | .str z => isMark z
  | _ => false
def isSingle (v : V) : Bool := decide (v = .non) || (inB (0 - mostV) mostV v || isMarkV v)
theorem VT.notStr {K : Fr} {H : Hp} {v : V} {n : String} (h : VT K H v n) (hn : ¬ n = "str") : isK n "str" = false ∧ ∀ z, v ≠ .str z := by
  have h0 : isK n "str" = false := by
    unfold isK
    have z1 : (n == "str") = false := by simpa using hn
    rw [z1]
    have z2 : ("str" == "int") = false := by decide
    rw [z2, Bool.and_false]
    rfl
  refine ⟨h0, fun z q => ?_⟩
  subst q
  obtain ⟨t, ty, kt⟩ := h.ty
  have e : t = .type "str" := by
    cases ty with
    | base b => cases b; rfl
  subst e
  have k1 := kt "str" (by decide)
  have k2 := kit_ty (K := K) (a := "str") (b := "str") (r := true) (by decide +kernel)
  rw [k2] at k1
  have a1 : isK n "str" = true := (Option.some.inj k1).symm
  rw [h0] at a1
  cases a1
theorem VT.isStr {K : Fr} {H : Hp} {z : Str} {n : String} (h : VT K H (.str z) n) : n = "str" := by
  by_cases q : n = "str"
  · exact q
  · exact absurd rfl ((h.notStr q).2 z)
section
variable {P : Program} {w : World} {K : Fr} {mg : Str → Option Value} {base : Heap}
theorem ok_is_digits (T : Txt K mg) (D : Df K mg d_is_digits) : Cl P w K mg base CX0 1 "is_digits" (spStr isDg) := by
  refine D.cl sc_is_digits (fun vs H Q E h => ?_) (fun _ _ _ _ _ _ us hl => match us, hl with | [_], _ => rfl) fun f cdv A outer s H vs Q E hr h => ⟨_, pb_X, ?_⟩
  · obtain ⟨z, rfl, _⟩ := h
    rfl
  obtain ⟨z, rfl, hz, k⟩ := h
  have hz2 : z.length ≤ sizeLine := Nat.le_trans hz (by decide)
  have h2 : (decide ((1 : Int) ≤ (z.length : Int)) && decide ((z.length : Int) ≤ 12)) = (decide (1 ≤ z.length) && decide (z.length ≤ 12)) := by
    congr 1 <;> exact decide_eq_decide.mpr (by omega)
  refine b_cons (s_if (k := !(decide ((1 : Int) ≤ (z.length : Int)) && decide ((z.length : Int) ≤ 12)) || !((z.cps.toList.map fun c => decide (c ∈ digits.cps.toList)).all id))
    (et_w (ew_or (et_not (et_chain op_le op_le ev_int (ev_fun call_len (T.f "len") (ea_cons (ev_name 0 rfl) ea_nil) (fun H1 _ Q q => ⟨_, z.length, rfl, ⟨hz2, rfl⟩, q H1 (Ex.refl H1)⟩)) rv_I0 fun _ => ⟨ev_gl (T.i "MOST_DIGITS"), rv_I0⟩)) fun _ => ew_or1 (et_not (et_val (ev_all (T.f "all") ?_))))) (fun hb H1 e1 => ?_) fun hb H1 e1 => b_nil ?_)
  · rw [← map_signs (fun c => decide (c ∈ digits.cps.toList))]
    refine evl_lc (i := 1) (fun v => V.bl (decide (codeOf v ∈ digits.cps.toList))) (its_str (ev_name 0 rfl)) sc_is_digits.nd (blkOk_by (N := ["word", "sign"]) (sc := defScope s_is_digits) (by decide +kernel)) (fun _ _ _ _ _ => pg_name sc_is_digits.nd rfl (Or.inl rfl)) (by rw [List.length_map, Array.length_toList]; exact Nat.lt_of_le_of_lt hz (by decide : 100000 < 1000000)) fun x hx H2 e2 s2 H0 C cl fp => ?_
    obtain ⟨c, hc, rfl⟩ := List.mem_map.mp hx
    exact ev_cmp op_in_sign (ev_name 1 rfl) (ev_gl (T.s "DIGITS")) fun H3 _ Q q => ⟨c, _, rfl, rfl, q H3 (Ex.refl H3)⟩
  · refine b_one (s_ret (v := .bl false) ev_bl fun H2 e2 => ?_)
    have e : isDg z = false := by
      rw [h2, all_map_id] at hb
      unfold isDg digV
      cases q : (decide (1 ≤ z.length) && decide (z.length ≤ 12)) with
      | false => rfl
      | true =>
        rw [q] at hb
        have q2 : (z.cps.toList.all fun c => decide (c ∈ digits.cps.toList)) = false := by simpa using hb
        rw [q2]
        rfl
    rw [e] at k
    exact k _ (e1.trans e2)
  · rw [h2, all_map_id] at hb
    have hd : digV z = true := by
      unfold digV
      cases q : (decide (1 ≤ z.length) && decide (z.length ≤ 12)) with
      | false =>
        rw [q] at hb
        exact absurd hb (by simp)
      | true =>
        rw [q] at hb
        simpa using hb
    have hl : 1 ≤ z.length := by
      have : (decide (1 ≤ z.length) && decide (z.length ≤ 12)) = true := by
        cases q : (decide (1 ≤ z.length) && decide (z.length ≤ 12)) with
        | true => rfl
        | false =>
          rw [q] at hb
          exact absurd hb (by simp)
      simp at this
      exact this.1
    have hg : z.cps[(0 : Int).toNat]? = some (z.cps.getD 0 0) := by
      have h3 : 0 < z.cps.size := hl
      show z.cps[0]? = _
      rw [Array.getElem?_eq_getElem h3]
      simp [Array.getD, h3]
    refine b_one (s_ret (v := .bl (isDg z)) ?_ fun H2 e2 => k _ (e1.trans e2))
    have e : isDg z = zeroV z := by
      unfold isDg
      rw [hd, Bool.true_and]
    rw [e]
    exact ev_or (ev_cmp op_eq (ev_name 0 rfl) ev_str (rv_eq rfl)) fun _ => ev_one (ev_cmp op_ne (ev_sign (by decide) (by omega) (by decide) hg (ev_name 0 rfl) ev_int) ev_str (rv_ne rfl))
theorem ok_is_mark (T : Txt K mg) (D : Df K mg d_is_mark) (c1 : Cl P w K mg base CX0 1 "is_name" (spVal isNameV K)) : Cl P w K mg base CX0 2 "is_mark" (spVal isMarkV K) := by
  refine D.cl sc_is_mark (fun vs H Q E h => ?_) (fun _ _ _ _ _ _ us hl => match us, hl with | [_], _ => rfl) fun f cdv A outer s H vs Q E hr h => ⟨_, pb_X, ?_⟩
  · obtain ⟨v, n, rfl, _⟩ := h
    rfl
  obtain ⟨v, n, rfl, hv, k⟩ := h
  refine b_one (s_ret (v := .bl (isMarkV v)) ?_ k)
  by_cases hn : n = "str"
  · obtain ⟨z, rfl, hz⟩ := hv.str hn
    have e : isMarkV (.str z) = (isK n "str" && (inV (.str z) [.str "", .str "-"] || isNameV (.str z))) := by
      subst hn
      have h1 : isK "str" "str" = true := by decide
      rw [h1]
      rfl
    rw [e]
    refine ev_and (ev_isi (T.f "isinstance") (T.f "str") (ev_name 0 rfl) hv (by decide)) fun _ => ev_one (ev_or (ev_inT (ev_name 0 rfl) (evu_tup (ea_cons ev_str (ea_cons (ev_gl (T.s "NONE")) ea_nil)) (by show 2 ≤ 100000; decide)) rfl rfl) fun _ => ev_one ?_)
    exact ev_call c1 hr (by decide) pass0 (ea_cons (ev_name 0 rfl) ea_nil) (fun H1 e1 Q q => ⟨_, n, rfl, hv.mono e1, q⟩)
  · obtain ⟨h0, h1⟩ := hv.notStr hn
    have e : isMarkV v = (isK n "str" && false) := by
      rw [Bool.and_false]
      cases v with
      | str z => exact absurd rfl (h1 z)
      | _ => rfl
    rw [e]
    refine ev_and (ev_isi (T.f "isinstance") (T.f "str") (ev_name 0 rfl) hv (by decide)) fun q => ?_
    rw [h0] at q
    cases q
theorem ok_is_single (T : Txt K mg) (D : Df K mg d_is_single) (c1 : Cl P w K mg base CX0 2 "is_within" (spWithin K)) (c2 : Cl P w K mg base CX0 2 "is_mark" (spVal isMarkV K)) : Cl P w K mg base CX0 3 "is_single" (spVal isSingle K) := by
  refine D.cl sc_is_single (fun vs H Q E h => ?_) (fun _ _ _ _ _ _ us hl => match us, hl with | [_], _ => rfl) fun f cdv A outer s H vs Q E hr h => ⟨_, pb_X, ?_⟩
  · obtain ⟨v, n, rfl, _⟩ := h
    rfl
  obtain ⟨v, n, rfl, hv, k⟩ := h
  refine b_one (s_ret (v := .bl (isSingle v)) ?_ k)
  refine ev_or (ev_cmp op_isN (ev_name 0 rfl) ev_non fun H1 _ Q q => ⟨rfl, q H1 (Ex.refl H1)⟩) fun _ => ev_or ?_ fun _ => ev_one ?_
  · exact ev_call c1 hr (by decide) pass0 (ea_cons (ev_name 0 rfl) (ea_cons (ev_bin op_sub ev_int (ev_gl (T.i "MOST_VALUE")) rv_I0) (ea_cons (ev_gl (T.i "MOST_VALUE")) ea_nil))) (fun H1 e1 Q q => ⟨v, n, _, _, rfl, hv.mono e1, q⟩)
  · exact ev_call c2 hr (by decide) pass0 (ea_cons (ev_name 0 rfl) ea_nil) (fun H1 e1 Q q => ⟨v, n, rfl, hv.mono e1, q⟩)
end
end K96

set_option Elab.async false
set_option linter.all false
set_option maxRecDepth 100000
set_option maxHeartbeats 4000000
/-! Statements, loops, methods of lists, read straight. -/
namespace K96
open PySem PySem.Spec PyProof.Rows L2 Evl
section
variable {X : Cx} {e a b c o : Expr} {es : List Expr} {st : Stmt} {ss rest : List Stmt} {pos px py apos cpos : Pos} {σ : Sg} {H H' : Hp} {Q : VK} {D : Ends} {v x y z : V} {t : TE} {n m : Str} {i j : Nat}
theorem eX_ev (h : EV X e σ H v) (q : ∀ H1, Ex H H1 → Q v H1) : eX X e σ H Q := h H (Ex.refl H) Q q
theorem eX_evl {xs : List V} (h : EVL X e σ H xs) (q : ∀ p H1, H p = none → Ex H H1 → H1 p = some (.lst xs) → Q (.ref p) H1) : eX X e σ H Q := h H (Ex.refl H) Q q
theorem eX_evu {xs : List V} (h : EVU X e σ H xs) (q : ∀ p H1, H p = none → Ex H H1 → H1 p = some (.tup xs) → Q (.ref p) H1) : eX X e σ H Q := h H (Ex.refl H) Q q
theorem tX_et {k : Bool} {Q : Bool → Hp → Prop} (h : ET X e σ H k) (q : ∀ H1, Ex H H1 → Q k H1) : tX X e σ H Q := h H (Ex.refl H) Q q
theorem a_nil {Q : List V → Hp → Prop} (h : Q [] H) : aX X [] σ H Q := aX_of pa_nil h
theorem a_cons {Q : List V → Hp → Prop} (h : eX X e σ H fun v H1 => aX X es σ H1 fun vs H2 => Q (v :: vs) H2) (hs : starEach (e :: es) X.env = (false, eval e X.env) :: starEach es X.env := by rfl) : aX X (e :: es) σ H Q := aX_of (pa_cons pe_X pa_X hs) h
theorem a_one {Q : List V → Hp → Prop} (h : eX X e σ H fun v H1 => Q [v] H1) (hs : starEach [e] X.env = (false, eval e X.env) :: starEach [] X.env := by rfl) : aX X [e] σ H Q := aX_of (pa_cons pe_X pa_nil hs) h
theorem e_lst (h : aX X es σ H fun xs H1 => xs.length ≤ sizeLine ∧ ∀ p, H1 p = none → Q (.ref p) (upd H1 p (.lst xs))) : eX X (.List es pos) σ H Q := eX_of (pe_lst pa_X) h
theorem e_tup {x1} (h : aX X es σ H fun xs H1 => xs.length ≤ sizeLine ∧ ∀ p, H1 p = none → Q (.ref p) (upd H1 p (.tup xs))) : eX X (.Tuple es x1 pos) σ H Q := eX_of (pe_tup pa_X) h
/-! ### a name stored, two names, an expression alone -/
theorem s_set (i : Nat) (h : eX X e σ H fun v H1 => D.nx (σ.set i (some v)) H1) (hN : X.N.Nodup) (hi : X.N[i]? = some n := by rfl) (hx : Loc X.env.scope n := by first | exact Or.inl rfl | exact Or.inr rfl) (hf : X.fn n = true ∨ X.env.scope.names.lookup n = some .local := by first | exact .inl rfl | exact .inr rfl)
    (hs : swapsWithSole [.Name n px] e pos.line X.env = pure false := by rfl) (hw : swappedStores [.Name n px] e X.env = pure none := by rfl) (h1 : (assignEach [.Name n px] X.env).map (·.2) = [assign (.Name n px) X.env] := by rfl) : sX X (.Assign [.Name n px] e pos) D σ H :=
  sX_of (ps_asg pe_X (pg_name hN hi hx hf) hs hw h1) h
theorem s_set2 (i j : Nat) {k : Nat} {pt : Pos} (h : eX X e σ H fun v H1 => ∃ p x y, v = .ref p ∧ SqT X.K H1 p [x, y] ∧ D.nx ((σ.set i (some x)).set j (some y)) H1) (hN : X.N.Nodup) (hc : X.calm = true := by rfl) (hi : X.N[i]? = some n := by rfl) (hj : X.N[j]? = some m := by rfl)
    (hx : Loc X.env.scope n := by first | exact Or.inl rfl | exact Or.inr rfl) (hf : X.fn n = true ∨ X.env.scope.names.lookup n = some .local := by first | exact .inl rfl | exact .inr rfl) (hy : Loc X.env.scope m := by first | exact Or.inl rfl | exact Or.inr rfl) (hg : X.fn m = true ∨ X.env.scope.names.lookup m = some .local := by first | exact .inl rfl | exact .inr rfl)
    (hs : swapsWithSole [.Tuple [.Name n px, .Name m py] k pt] e pos.line X.env = pure false := by rfl) (hw : swappedStores [.Tuple [.Name n px, .Name m py] k pt] e X.env = pure none := by rfl) (h1 : (assignEach [.Tuple [.Name n px, .Name m py] k pt] X.env).map (·.2) = [assign (.Tuple [.Name n px, .Name m py] k pt) X.env] := by rfl)
    (q1 : (assignEach [.Name n px, .Name m py] X.env).map (·.2) = assign (.Name n px) X.env :: (assignEach [.Name m py] X.env).map (·.2) := by rfl) (q2 : (assignEach [.Name m py] X.env).map (·.2) = assign (.Name m py) X.env :: (assignEach [] X.env).map (·.2) := by rfl)
    (q3 : (assignEach [.Name n px, .Name m py] X.env).length = 2 := by rfl) (q4 : (assignEach [.Name n px, .Name m py] X.env).findIdx? (·.1) = none := by rfl) : sX X (.Assign [.Tuple [.Name n px, .Name m py] k pt] e pos) D σ H := by
  refine sX_of (ps_asg pe_X (pg_tup hc (pgs_cons (pg_name hN hi hx hf) (pgs_cons (pg_name hN hj hy hg) pgs_nil q2) q1) q3 q4) hs hw h1) (eX_mono h fun v H1 q => ?_)
  obtain ⟨p, x, y, rfl, hq, k2⟩ := q
  exact ⟨p, [x, y], rfl, hq, rfl, x, [y], rfl, y, [], rfl, rfl, k2⟩
theorem s_expr (h : eX X e σ H fun _ H1 => D.nx σ H1) (hs : swapsWith e none pos.line X.env = pure false := by rfl) : sX X (.Expr e pos) D σ H := sX_of (ps_expr pe_X hs) h
theorem s_ifX {ss : List Stmt} (h : tX X c σ H fun k H1 => if k = true then bX X ss D σ H1 else bX X rest D σ H1) : sX X (.If c ss rest pos) D σ H := sX_of (ps_if pt_X pb_X pb_X) h
/-- while, by a word that falls -/
theorem s_while (W : Nat → Sg → Hp → Prop) (m0 : Nat) (h0 : W m0 σ H) (hp : PassesOwn (model X.prog X.w) X.A X.env X.xe)
    (hs : ∀ m σ' H', W m σ' H' → tX X c σ' H' fun k H1 => if k = true then ∃ N : Sg → Hp → Prop, (∀ σ2 H2, N σ2 H2 → ∃ m', m' < m ∧ W m' σ2 H2) ∧ bX X ss { D with nx := N, ct := N, bk := D.nx } σ' H1 else D.nx σ' H1) : sX X (.While c ss [] pos) D σ H :=
  sX_of (ps_while hp pt_X pb_X) ⟨W, ⟨m0, h0⟩, fun m σ' H' hw => hs m σ' H' hw⟩

/-! ### methods of lists -/
theorem e_pop {l : Addr} {xs : List V} {y : V} (ho : EV X o σ H (.ref l)) (hl : H l = some (.lst (xs ++ [y]))) (q : ∀ H1, Ex H H1 → Q y (upd H1 l (.lst xs))) (hbase : attributeBase o "pop" X.env (eval o X.env) = eval o X.env := by rfl) (hline : (apos.endLine == cpos.line) = true := by rfl) : eX X (.Call (.Attribute o "pop" apos) [] [] cpos) σ H Q :=
  eX_of (pe_bm0 PySem.F.plainAttrs_list PySem.F.slot_list_pop PySem.F.type_list_pop mt_pop pe_X hbase hline) (eX_ev ho fun H1 e1 => ⟨Or.inl ⟨rfl, _, sq_of (e1 _ _ hl)⟩, l, _, y, rfl, rfl, e1 _ _ hl, by simp, by
    rw [List.dropLast_concat]
    exact q H1 e1⟩)
theorem e_append {l : Addr} (ho : EV X o σ H (.ref l)) (hl : ∃ xs, H l = some (.lst xs)) (he : ∀ H1, Ex H H1 → eX X e σ H1 fun v H2 => ∃ xs, H2 l = some (.lst xs) ∧ xs.length < 1000000 ∧ Q .non (upd H2 l (.lst (xs ++ [v])))) (hbase : attributeBase o "append" X.env (eval o X.env) = eval o X.env := by rfl)
    (hfew : ((backTo cpos (starEach [e] X.env)).all (fun x => !x.1) && (backToKw cpos (keywordEach [] X.env)).all (fun x => x.1.isSome) && decide (([e] : List Expr).length + ([] : List Keyword).length + (if ([] : List Keyword).isEmpty then 0 else 1) < 30)) = true := by rfl)
    (hline : (apos.endLine == cpos.line) = true := by rfl) (hs : starEach [e] X.env = (false, eval e X.env) :: starEach [] X.env := by rfl) (hplain : (backTo cpos (starEach [] X.env)).any (·.1) = false := by rfl) : eX X (.Call (.Attribute o "append" apos) [e] [] cpos) σ H Q :=
  eX_of (pe_bm PySem.F.plainAttrs_list PySem.F.slot_list_append PySem.F.type_list_append mt_append pe_X pa_X hbase hfew hline hs hplain) (eX_ev ho fun H1 e1 => by
    obtain ⟨xs, hx⟩ := hl
    refine ⟨Or.inl ⟨rfl, _, sq_of (e1 _ _ hx)⟩, a_one (eX_mono (he H1 e1) fun v H2 q => ?_) hs⟩
    obtain ⟨ys, h1, h2, h3⟩ := q
    exact ⟨l, ys, v, rfl, rfl, h1, Nat.lt_of_lt_of_le h2 (by decide), h3⟩)
theorem e_extend {l : Addr} (ho : EV X o σ H (.ref l)) (hl : ∃ xs, H l = some (.lst xs)) (he : ∀ H1, Ex H H1 → eX X e σ H1 fun v H2 => ∃ r xs zs, v = .ref r ∧ H2 l = some (.lst xs) ∧ H2 r = some (.lst zs) ∧ xs.length + zs.length < 1000000 ∧ Q .non (upd H2 l (.lst (xs ++ zs)))) (hbase : attributeBase o "extend" X.env (eval o X.env) = eval o X.env := by rfl)
    (hfew : ((backTo cpos (starEach [e] X.env)).all (fun x => !x.1) && (backToKw cpos (keywordEach [] X.env)).all (fun x => x.1.isSome) && decide (([e] : List Expr).length + ([] : List Keyword).length + (if ([] : List Keyword).isEmpty then 0 else 1) < 30)) = true := by rfl)
    (hline : (apos.endLine == cpos.line) = true := by rfl) (hs : starEach [e] X.env = (false, eval e X.env) :: starEach [] X.env := by rfl) (hplain : (backTo cpos (starEach [] X.env)).any (·.1) = false := by rfl) : eX X (.Call (.Attribute o "extend" apos) [e] [] cpos) σ H Q :=
  eX_of (pe_bm PySem.F.plainAttrs_list PySem.F.slot_list_extend PySem.F.type_list_extend mt_extend pe_X pa_X hbase hfew hline hs hplain) (eX_ev ho fun H1 e1 => by
    obtain ⟨xs, hx⟩ := hl
    refine ⟨Or.inl ⟨rfl, _, sq_of (e1 _ _ hx)⟩, a_one (eX_mono (he H1 e1) fun v H2 q => ?_) hs⟩
    obtain ⟨r, ys, zs, rfl, h1, h2, h3, h4⟩ := q
    exact ⟨l, r, ys, zs, rfl, rfl, h1, h2, Nat.le_trans (Nat.le_of_lt h3) (by decide), h4⟩)
end
end K96

set_option Elab.async false
set_option linter.all false
set_option maxRecDepth 100000
set_option maxHeartbeats 4000000
namespace K96
open PySem PySem.Spec PyProof.Rows L2 Evl
/-! ### data: what a value tells, all the way in -/
mutual
inductive Ur (K : Fr) (H : Hp) : V → PyData → Prop
  | non : Ur K H .non .none
  | bl (b : Bool) : Ur K H (.bl b) (.bool b)
  | int (i : Int) : Ur K H (.int i) (.int i)
  | str (x : Str) (hx : x.length ≤ 100000) : Ur K H (.str x) (.str x)
  | lst {a : Addr} {xs : List V} {ds : List PyData} : SqL K H a xs → UrAll K H xs ds → Ur K H (.ref a) (.list ds)
  | tup {a : Addr} {xs : List V} {ds : List PyData} : SqT K H a xs → UrAll K H xs ds → Ur K H (.ref a) (.tuple ds)
  | emp {a : Addr} : H a = some (.dK []) → Ur K H (.ref a) (.dict [])
  | obj {a C dx : Addr} {fs : List (Str × V)} : H a = some (.ins C dx fs) → (fs.lookup ("parts" : Str)).isSome = true → VT K H (.ref a) "obj" → Ur K H (.ref a) (.dict [(.none, .none)])
inductive UrAll (K : Fr) (H : Hp) : List V → List PyData → Prop
  | nil : UrAll K H [] []
  | cons {v : V} {vs : List V} {d : PyData} {ds : List PyData} : Ur K H v d → UrAll K H vs ds → UrAll K H (v :: vs) (d :: ds)
end
mutual
theorem Ur.ext {K : Fr} {H H' : Hp} (e : Ex H H') : ∀ {v : V} {d : PyData}, Ur K H v d → Ur K H' v d
  | _, _, .non => .non
  | _, _, .bl b => .bl b
  | _, _, .int i => .int i
  | _, _, .str x h => .str x h
  | _, _, .lst h a => .lst (ex_l e h) (UrAll.ext e a)
  | _, _, .tup h a => .tup (ex_t e h) (UrAll.ext e a)
  | _, _, .emp h => .emp (e _ _ h)
  | _, _, .obj h q v => .obj (e _ _ h) q (v.mono e)
theorem UrAll.ext {K : Fr} {H H' : Hp} (e : Ex H H') : ∀ {vs : List V} {ds : List PyData}, UrAll K H vs ds → UrAll K H' vs ds
  | _, _, .nil => .nil
  | _, _, .cons h a => .cons (Ur.ext e h) (UrAll.ext e a)
end
theorem UrAll.len {K : Fr} {H : Hp} : ∀ {vs : List V} {ds : List PyData}, UrAll K H vs ds → vs.length = ds.length
  | _, _, .nil => rfl
  | _, _, .cons _ a => congrArg Nat.succ (UrAll.len a)
theorem UrAll.at {K : Fr} {H : Hp} : ∀ {vs : List V} {ds : List PyData} {i : Nat} {v : V}, UrAll K H vs ds → vs[i]? = some v → ∃ d, ds[i]? = some d ∧ Ur K H v d
  | _, _, i, v, .nil, h => by simp at h
  | _, _, 0, v, .cons r _, h => by
    simp at h
    subst h
    exact ⟨_, rfl, r⟩
  | _, _, i + 1, v, .cons _ a, h => by
    obtain ⟨d, h1, h2⟩ := UrAll.at (i := i) a (by simpa using h)
    exact ⟨d, by simpa using h1, h2⟩
theorem UrAll.app {K : Fr} {H : Hp} : ∀ {vs us : List V} {ds es : List PyData}, UrAll K H vs ds → UrAll K H us es → UrAll K H (vs ++ us) (ds ++ es)
  | _, _, _, _, .nil, s => s
  | _, _, _, _, .cons r a, s => .cons r (UrAll.app a s)
def tagD : PyData → String
  | .none => "NoneType"
  | .bool _ => "bool"
  | .int _ => "int"
  | .str _ => "str"
  | .list _ => "list"
  | .tuple _ => "tuple"
  | .dict [] => "dict"
  | .dict _ => "obj"
theorem Ur.vt {K : Fr} {H : Hp} {v : V} {d : PyData} (h : Ur K H v d) : VT K H v (tagD d) := by
  cases h with
  | non => exact .nn
  | bl b => exact .b b
  | int i => exact .i i
  | str x hx => exact .s x hx
  | lst h _ => exact .l h
  | tup h _ => exact .t h
  | emp h => exact .d h
  | obj h q v => exact v
def isTupD : PyData → Bool
  | .tuple _ => true
  | _ => false
theorem tupK (d : PyData) : isK (tagD d) "tuple" = isTupD d := by
  cases d with
  | none => show isK "NoneType" "tuple" = false; decide
  | bool b => show isK "bool" "tuple" = false; decide
  | int i => show isK "int" "tuple" = false; decide
  | str x => show isK "str" "tuple" = false; decide
  | list x => show isK "list" "tuple" = false; decide
  | tuple x => show isK "tuple" "tuple" = true; decide
  | dict x =>
    cases x with
    | nil => show isK "dict" "tuple" = false; decide
    | cons a b => show isK "obj" "tuple" = false; decide
def singleD : PyData → Bool
  | .none => true
  | .int i => decide (0 - mostV ≤ i) && decide (i ≤ mostV)
  | .str s => isMark s
  | _ => false
theorem Ur.single {K : Fr} {H : Hp} {v : V} {d : PyData} (h : Ur K H v d) : isSingle v = singleD d := by
  cases h with
  | non => rfl
  | bl b => rfl
  | int i =>
    show (false || ((decide (0 - mostV ≤ i) && decide (i ≤ mostV)) || false)) = _
    rw [Bool.false_or, Bool.or_false]
    rfl
  | str x hx => rfl
  | _ => rfl
def toldAt : Nat → PyData → Bool
  | 0, .tuple _ => false
  | n + 1, .tuple xs => xs.all (toldAt n)
  | _, d => singleD d
mutual
def szD : PyData → Nat
  | .list xs => 1 + szL xs
  | .tuple xs => 1 + szL xs
  | _ => 1
def szL : List PyData → Nat
  | [] => 0
  | x :: xs => szD x + szL xs
end
theorem szD_pos : ∀ d : PyData, 1 ≤ szD d
  | .none => Nat.le_refl _
  | .bool _ => Nat.le_refl _
  | .int _ => Nat.le_refl _
  | .str _ => Nat.le_refl _
  | .list xs => by
    show 1 ≤ 1 + szL xs
    omega
  | .tuple xs => by
    show 1 ≤ 1 + szL xs
    omega
  | .dict _ => Nat.le_refl _
theorem szL_len : ∀ l : List PyData, l.length ≤ szL l
  | [] => Nat.le_refl _
  | x :: xs => by
    have h1 := szD_pos x
    have h2 := szL_len xs
    show xs.length + 1 ≤ szD x + szL xs
    omega
theorem szL_app : ∀ a b : List PyData, szL (a ++ b) = szL a + szL b
  | [], b => by
    show szL b = 0 + szL b
    omega
  | x :: a, b => by
    have h := szL_app a b
    show szD x + szL (a ++ b) = szD x + szL a + szL b
    omega
/-- what lies on the pile: the pairs (a value, how deep); the values stand in H0, the pairs in H -/
inductive Pile (K : Fr) (H0 H : Hp) : List V → List (PyData × Nat) → Prop
  | nil : Pile K H0 H [] []
  | cons {p : Addr} {v : V} {d : PyData} {k : Nat} {vs : List V} {ds : List (PyData × Nat)} : H p = some (.tup [v, .int (k : Int)]) → Ur K H0 v d → k ≤ 10 → Pile K H0 H vs ds → Pile K H0 H (.ref p :: vs) ((d, k) :: ds)
theorem Pile.keep {K : Fr} {H0 H H' : Hp} (e : ∀ p xs, H p = some (.tup xs) → H' p = some (.tup xs)) : ∀ {vs : List V} {ds : List (PyData × Nat)}, Pile K H0 H vs ds → Pile K H0 H' vs ds
  | _, _, .nil => .nil
  | _, _, .cons h u k a => .cons (e _ _ h) u k (Pile.keep e a)
theorem Pile.len {K : Fr} {H0 H : Hp} : ∀ {vs : List V} {ds : List (PyData × Nat)}, Pile K H0 H vs ds → vs.length = ds.length
  | _, _, .nil => rfl
  | _, _, .cons _ _ _ a => congrArg Nat.succ (Pile.len a)
theorem Pile.app {K : Fr} {H0 H : Hp} : ∀ {vs us : List V} {ds es : List (PyData × Nat)}, Pile K H0 H vs ds → Pile K H0 H us es → Pile K H0 H (vs ++ us) (ds ++ es)
  | _, _, _, _, .nil, s => s
  | _, _, _, _, .cons h u k a, s => .cons h u k (Pile.app a s)
theorem Pile.last {K : Fr} {H0 H : Hp} : ∀ {vs : List V} {ds : List (PyData × Nat)}, Pile K H0 H vs ds → vs ≠ [] → ∃ (us : List V) (es : List (PyData × Nat)) (p : Addr) (v : V) (d : PyData) (k : Nat), vs = us ++ [V.ref p] ∧ ds = es ++ [(d, k)] ∧ Pile K H0 H us es ∧ H p = some (.tup [v, .int (k : Int)]) ∧ Ur K H0 v d ∧ k ≤ 10
  | _, _, .nil, h => absurd rfl h
  | _, _, .cons (p := p) (v := v) (d := d) (k := k) (vs := []) h u hk .nil, _ => ⟨[], [], p, v, d, k, rfl, rfl, .nil, h, u, hk⟩
  | _, _, .cons (vs := x :: vs) h u hk a, _ => by
    obtain ⟨us, es, p, v, d, k, e1, e2, a1, h1, u1, k1⟩ := Pile.last a (List.cons_ne_nil _ _)
    rw [e1, e2]
    exact ⟨_ :: us, _ :: es, p, v, d, k, rfl, rfl, .cons h u hk a1, h1, u1, k1⟩
def szP : List (PyData × Nat) → Nat
  | [] => 0
  | x :: xs => szD x.1 + szP xs
theorem szP_app : ∀ a b : List (PyData × Nat), szP (a ++ b) = szP a + szP b
  | [], b => by
    show szP b = 0 + szP b
    omega
  | x :: a, b => by
    have h := szP_app a b
    show szD x.1 + szP (a ++ b) = szD x.1 + szP a + szP b
    omega
theorem szP_len : ∀ l : List (PyData × Nat), l.length ≤ szP l
  | [] => Nat.le_refl _
  | x :: xs => by
    have h1 := szD_pos x.1
    have h2 := szP_len xs
    show xs.length + 1 ≤ szD x.1 + szP xs
    omega
theorem szP_map (k : Nat) : ∀ l : List PyData, szP (l.map fun d => (d, k)) = szL l
  | [] => rfl
  | x :: xs => by
    have h := szP_map k xs
    show szD x + szP (xs.map fun d => (d, k)) = szD x + szL xs
    omega
def toldP (l : List (PyData × Nat)) : Bool := l.all fun x => toldAt (10 - x.2) x.1
theorem toldP_app (a b : List (PyData × Nat)) : toldP (a ++ b) = (toldP a && toldP b) := List.all_append
theorem toldP_map (k : Nat) (l : List PyData) : toldP (l.map fun d => (d, k)) = l.all (toldAt (10 - k)) := by
  unfold toldP
  rw [List.all_map]
  rfl
/-- the parts of a tuple on the pile -/
theorem pile_of {K : Fr} {H0 H : Hp} {k : Nat} (hk : k ≤ 10) : ∀ {xs : List V} {ds : List PyData} {ys : List V}, UrAll K H0 xs ds → ys.length = xs.length → (∀ (j : Nat) (y : V), ys[j]? = some y → ∃ p x, y = .ref p ∧ xs[j]? = some x ∧ H p = some (.tup [x, .int (k : Int)])) → Pile K H0 H ys (ds.map fun d => (d, k))
  | [], _, [], .nil, _, _ => .nil
  | _ :: _, _, [], _, h, _ => by simp at h
  | [], _, _ :: _, _, h, _ => by simp at h
  | x :: xs, _, y :: ys, .cons u a, h, f => by
    obtain ⟨p, z, rfl, e, hp⟩ := f 0 y rfl
    simp at e
    subst e
    exact .cons hp u hk (pile_of hk a (by simpa using h) fun j y hy => by
      obtain ⟨p, x, e1, e2, e3⟩ := f (j + 1) y (by simpa using hy)
      exact ⟨p, x, e1, by simpa using e2, e3⟩)
end K96

set_option Elab.async false
set_option linter.all false
set_option maxRecDepth 100000
set_option maxHeartbeats 4000000
namespace K96
open PySem PySem.Spec PyProof.Rows L2 Evl
/-- a def that asks of data: the answer b d -/
def spData (f : PyData → Bool) (K : Fr) : Sp := fun vs H Q _ => ∃ v d, vs = [v] ∧ Ur K H v d ∧ szD d ≤ 100000 ∧ Gives (.bl (f d)) H Q
section
variable {P : Program} {w : World} {K : Fr} {mg : Str → Option Value} {base : Heap}
theorem ok_can_be_told (T : Txt K mg) (D : Df K mg d_can_be_told) (c1 : Cl P w K mg base CX0 3 "is_single" (spVal isSingle K)) : Cl P w K mg base CX0 4 "can_be_told" (spData (toldAt 10) K) := by
  refine D.cl sc_can_be_told (fun vs H Q E h => ?_) (fun _ _ _ _ _ _ us hl => match us, hl with | [_], _ => rfl) fun f cdv A outer s H vs Q E hr h => ⟨_, pb_X, ?_⟩
  · obtain ⟨v, d, rfl, _⟩ := h
    rfl
  obtain ⟨v, d0, rfl, hu, hz, k⟩ := h
  -- line = [(value, 0)]
  refine b_cons (s_set 1 (e_lst (a_one (e_tup (aX_of (pa_cons pe_X (pa_cons pe_X pa_nil)) (eX_ev (ev_name 0 rfl) fun H1 e1 => eX_ev ev_int fun H2 e2 => ⟨by show 2 ≤ sizeLine; decide, fun p hp => ⟨by show 1 ≤ sizeLine; decide, fun l hl => ?_⟩⟩))))) sc_can_be_told.nd)
  have E2 : Ex H H2 := e1.trans e2
  have E3 : Ex H (upd H2 p (.tup [v, .int 0])) := E2.trans (Ex.new hp)
  have hl0 : H l = none := fresh_back E3 hl
  have hl2 : (upd H2 p (.tup [v, .int 0])) l = none := hl
  have hpl : p ≠ l := by
    rintro rfl
    rw [upd_same] at hl2
    cases hl2
  -- while line != []
  refine b_cons (s_while (fun m σ' H' => ∃ (xs : List V) (ps : List (PyData × Nat)) (o2 o3 : Option V), σ' = [some v, some (.ref l), o2, o3, none] ∧ Ex H H' ∧ H' l = some (.lst xs) ∧ Pile K H H' xs ps ∧ m = szP ps ∧ m ≤ 100000 ∧ toldP ps = toldAt 10 d0)
    (szD d0) ⟨[.ref p], [(d0, 0)], none, none, rfl, E3.trans (Ex.new hl), upd_same, .cons (by rw [upd_ne hpl, upd_same]; rfl) hu (by decide) .nil, rfl, hz, by simp [toldP]⟩ (passes_of rfl) fun m σ' H' hw => ?_)
  · obtain ⟨xs, ps, o2, o3, rfl, e4, hx, hp, rfl, hm, ht⟩ := hw
    refine tX_et (et_neNil hr.units (ev_name 1 rfl) (sq_of hx)) fun H5 e5 => ?_
    by_cases hn : xs.length = 0
    · rw [decide_eq_true hn]
      refine iteF ?_
      -- return True
      have hps : ps = [] := List.eq_nil_of_length_eq_zero (by rw [← hp.len]; exact hn)
      subst hps
      refine b_one (s_ret ev_bl fun H6 e6 => ?_)
      have e : toldAt 10 d0 = true := ht.symm
      rw [e] at k
      exact k _ ((e4.trans e5).trans e6)
    · rw [decide_eq_false hn]
      refine iteT ?_
      obtain ⟨us, es, p, v1, d, kk, rfl, rfl, hp1, hpp, hu1, hkk⟩ := hp.last fun q => hn (by rw [q]; rfl)
      have hpl5 : p ≠ l := fun q => by
        rw [q, hx] at hpp
        cases hpp
      have hx5 := e5 _ _ hx
      have E5 := e4.trans e5
      -- one, deep = line.pop()
      refine ⟨fun σ2 H7 => ∃ m', m' < szP (es ++ [(d, kk)]) ∧ ∃ (xs : List V) (ps : List (PyData × Nat)) (o2 o3 : Option V), σ2 = [some v, some (.ref l), o2, o3, none] ∧ Ex H H7 ∧ H7 l = some (.lst xs) ∧ Pile K H H7 xs ps ∧ m' = szP ps ∧ m' ≤ 100000 ∧ toldP ps = toldAt 10 d0, fun σ2 H7 h => h, ?_⟩
      refine b_cons (s_set2 2 3 (e_pop (ev_name 1 rfl) hx5 fun H6 e6 => ?_) sc_can_be_told.nd)
      have hpp6 : (upd H6 l (.lst us)) p = some (.tup [v1, .int (kk : Int)]) := by
        rw [upd_ne hpl5]
        exact e6 _ _ (e5 _ _ hpp)
      refine ⟨p, v1, .int (kk : Int), rfl, st_of hpp6, ?_⟩
      have E6 : Ex H (upd H6 l (.lst us)) := (E5.trans e6).mut hl0
      have P6 : Pile K H (upd H6 l (.lst us)) us es := hp1.keep fun q ys hq => by
        rw [upd_ne (fun z => by rw [z, hx] at hq; cases hq)]
        exact e6 _ _ (e5 _ _ hq)
      have hm2 := szP_app es [(d, kk)]
      have hm3 : szP [(d, kk)] = szD d := Nat.add_zero _
      have hd1 := szD_pos d
      have ht2 : (toldP es && toldAt (10 - kk) d) = toldAt 10 d0 := by
        rw [← ht, toldP_app]
        simp [toldP]
      show bX _ _ _ [some v, some (.ref l), some v1, some (.int (kk : Int)), none] _
      -- if isinstance(one, tuple)
      refine b_one (s_if (et_val (ev_isi (m := "tuple") (T.f "isinstance") (T.f "tuple") (ev_name 2 rfl) (hu1.vt.mono E6) (by decide))) (fun hb H7 e7 => ?_) fun hb H7 e7 => ?_)
      · obtain ⟨a, ws, ds, rfl, hw, hall, rfl⟩ : ∃ a ws ds, v1 = .ref a ∧ SqT K H a ws ∧ UrAll K H ws ds ∧ d = .tuple ds := by
          rw [tupK] at hb
          cases hu1 with
          | tup h a => exact ⟨_, _, _, rfl, h, a, rfl⟩
          | _ => cases hb
        -- if deep == MOST_DEEP: return False
        refine b_cons (s_if (k := decide (V.int (kk : Int) = V.int 10)) (et_cmp op_eq (ev_name 3 rfl) (ev_gl (T.i "MOST_DEEP")) (rv_eq rfl)) (fun hd H8 e8 => ?_) fun hd H8 e8 => b_nil ?_)
        · have hk10 : kk = 10 := by
            have := of_decide_eq_true hd
            injection this with q
            omega
          refine b_one (s_ret ev_bl fun H9 e9 => ?_)
          have e : toldAt 10 d0 = false := by
            rw [← ht2, hk10]
            show (toldP es && toldAt 0 (.tuple ds)) = false
            exact Bool.and_false _
          rw [e] at k
          exact k _ (((E6.trans e7).trans e8).trans e9)
        · have hk10 : kk < 10 := by
            rcases Nat.lt_or_ge kk 10 with q | q
            · exact q
            · have : kk = 10 := by omega
              subst this
              exact absurd hd (by decide)
          have E8 := (E6.trans e7).trans e8
          have hl8 : H8 l = some (.lst us) := e8 _ _ (e7 _ _ upd_same)
          have hsz : szD (.tuple ds) = 1 + szL ds := rfl
          have hwl := hall.len
          have hdl := szL_len ds
          -- line.extend([(part, deep + 1) for part in one])
          refine b_one (s_expr (e_extend (ev_name 1 rfl) ⟨us, hl8⟩ fun H9 e9 => ?_))
          refine evR_lc (i := 4) (fun j y H => ∃ q x, y = .ref q ∧ ws[j]? = some x ∧ H q = some (.tup [x, .int ((kk + 1 : Nat) : Int)])) (fun j y A B e ⟨q, x, h1, h2, h3⟩ => ⟨q, x, h1, h2, e _ _ h3⟩) (its_t (ev_name 2 rfl) (ex_t (E8.trans e9) hw)) sc_can_be_told.nd (blkOk_by (N := ["value", "line", "one", "deep", "part"]) (sc := defScope s_can_be_told) (by decide +kernel))
            (fun _ _ _ _ _ => pg_name sc_can_be_told.nd rfl (Or.inl rfl)) (by omega) (fun j x H10 hj e10 Q10 k10 s2 H0 C cl fp => ?_) rfl (fun _ => rfl) H9 (Ex.refl H9) _ fun r ys H10 hr10 e10 hy hyl hR => ?_
          · refine e_tup (aX_of (pa_cons pe_X (pa_cons pe_X pa_nil)) (eX_ev (ev_name 4 rfl) fun H11 e11 => eX_ev (ev_bin op_add (ev_name 3 rfl) ev_int rv_I0) fun H12 e12 => ⟨by show 2 ≤ sizeLine; decide, fun q hq => k10 _ _ ((e11.trans e12).trans (Ex.new hq)) fun D o hD hDn => ⟨q, x, rfl, hj, ?_⟩⟩))
            have hqD : q ≠ D := fun z => by
              rw [z, (e11.trans e12) _ _ hD] at hq
              cases hq
            rw [hide_ne hqD, upd_same]
            simp
          · have hl10 : H10 l = some (.lst us) := e10 _ _ (e9 _ _ hl8)
            have hE10 : Ex H H10 := (E8.trans e9).trans e10
            refine ⟨r, us, ys, rfl, hl10, hy, ?_, ?_⟩
            · have h1 := hp1.len
              have h2 := szP_len es
              omega
            · refine ⟨szP (es ++ ds.map fun d => (d, kk + 1)), ?_, us ++ ys, es ++ ds.map fun d => (d, kk + 1), _, _, rfl, hE10.mut hl0, upd_same, ?_, rfl, ?_, ?_⟩
              · rw [szP_app, szP_map, hm2, hm3, hsz]
                omega
              · have P10 : Pile K H H10 us es := P6.keep fun q zs hq => (((e7.trans e8).trans e9).trans e10) _ _ hq
                have P11 : Pile K H H10 ys (ds.map fun d => (d, kk + 1)) := pile_of (by omega) hall hyl fun j y hj => by
                  obtain ⟨q, x, h1, h2, h3⟩ := hR j y hj
                  exact ⟨q, x, h1, h2, hide_ex _ _ h3⟩
                refine (P10.app P11).keep fun q zs hq => ?_
                rw [upd_ne (fun z => by rw [z, hl10] at hq; cases hq)]
                exact hq
              · rw [szP_app, szP_map]
                omega
              · rw [toldP_app, toldP_map, ← ht2]
                have : 10 - kk = (10 - (kk + 1)) + 1 := by omega
                rw [this]
                rfl
      · -- elif not is_single(one): return False
        have hns : toldAt (10 - kk) d = singleD d := by
          rw [tupK] at hb
          cases hu1 with
          | tup _ _ => cases hb
          | _ => cases 10 - kk <;> rfl
        refine b_one (s_if (k := !(isSingle v1)) (et_not (et_val (ev_call c1 hr (by decide) pass0 (ea_cons (ev_name 2 rfl) ea_nil) (fun H8 e8 Q q => ⟨_, _, rfl, hu1.vt.mono ((E6.trans e7).trans e8), q⟩)))) (fun hd H8 e8 => ?_) fun hd H8 e8 => b_nil ?_)
        · refine b_one (s_ret ev_bl fun H9 e9 => ?_)
          have e : toldAt 10 d0 = false := by
            rw [← ht2, hns, ← hu1.single]
            have : isSingle v1 = false := by simpa using hd
            rw [this]
            exact Bool.and_false _
          rw [e] at k
          exact k _ (((E6.trans e7).trans e8).trans e9)
        · refine ⟨szP es, by omega, us, es, _, _, rfl, (E6.trans e7).trans e8, e8 _ _ (e7 _ _ upd_same), P6.keep fun q zs hq => e8 _ _ (e7 _ _ hq), rfl, by omega, ?_⟩
          rw [← ht2, hns, ← hu1.single]
          have : isSingle v1 = true := by simpa using hd
          rw [this]
          exact (Bool.and_true _).symm
end
end K96

set_option Elab.async false
set_option linter.all false
set_option maxRecDepth 100000
set_option maxHeartbeats 4000000
/-! [y for x in xs for y in f(x)], f(x) a new list each time. -/
namespace K96
open PySem PySem.Spec PyProof.Rows L2 Evl
section
variable {X : Cx} {iter iter1 : Expr} {n m : Str} {px px1 py pos : Pos} {scope : Scope} {σ : Sg} {H : Hp} {i j : Nat}
/-- a walk, whatever is done at a turn -/
theorem w_it {J : It} {N : Nat} {G : Hp → Prop} {Y : Nat → Hp → V → Hp → Prop} (w : Walk J N G Y) {A0 : Hp} {Qd : Hp → Prop} {B : (Hp → Prop) → V → Hp → Prop} (Pv : Nat → Hp → Prop) (h0 : Pv 0 A0) (hG : ∀ i H, i ≤ N → Pv i H → G H)
    (hs : ∀ i x H H', i < N → Pv i H → Y i H x H' → B (Pv (i + 1)) x H') (hd : ∀ H, Pv N H → Qd H) : ∃ W : Nat → Nat → Hp → Prop, (∃ m, W 0 m A0) ∧ ∀ i m H, W i m H →
      (J.stop i H ∧ Qd H) ∨ (J.go i H ∧ ∃ Nx : Hp → Prop, (∀ H', Nx H' → ∃ m', m' < m ∧ W (i + 1) m' H') ∧ ∀ x H', J.yld i H x H' → B Nx x H') := by
  refine ⟨fun i m H => m = N - i ∧ i ≤ N ∧ Pv i H, ⟨N, by simp, Nat.zero_le _, h0⟩, ?_⟩
  rintro i m H ⟨rfl, hi, p⟩
  have q := hG i H hi p
  by_cases hlt : i < N
  · exact .inr ⟨w.goes i H hlt q, Pv (i + 1), fun H' p' => ⟨N - (i + 1), by omega, rfl, hlt, p'⟩, fun x H' y => hs i x H H' hlt p (w.yields i H x H' hlt q y)⟩
  · have e : i = N := by omega
    subst e
    exact .inl ⟨w.stops H q, hd H p⟩
theorem take_flat {L : List (List V)} {k : Nat} {x : List V} (h : L[k]? = some x) : (L.take (k + 1)).flatten = (L.take k).flatten ++ x := by
  have : L.take (k + 1) = L.take k ++ [x] := by
    rw [List.take_add_one, h]
    rfl
  rw [this, List.flatten_append]
  simp
theorem flat_len : ∀ {L : List (List V)} {k : Nat}, ((L.take k).flatten).length ≤ L.flatten.length
  | [], k => by simp
  | x :: L, 0 => by simp
  | x :: L, k + 1 => by
    have h := flat_len (L := L) (k := k)
    simp only [List.take_succ_cons, List.flatten_cons, List.length_append]
    omega
theorem evl_lc2 {xs : List V} (L : List (List V)) (hL : L.length = xs.length) (hij : i ≠ j) (hi : Its1 X n px iter σ H xs) (hN : X.N.Nodup) (ok : BlkOk X.N X.env.scope scope [(n, i), (m, j)])
    (hg : ∀ (s : Shared) (H : Hp) (C : Addr) (cl : List (Str × Addr)) (fp : List Addr), PG (blkX X scope s H C cl fp) (.Name n px) (gName i)) (hg1 : ∀ (s : Shared) (H : Hp) (C : Addr) (cl : List (Str × Addr)) (fp : List Addr), PG (blkX X scope s H C cl fp) (.Name m px1) (gName j))
    (hv : ∀ (s : Shared) (H : Hp) (C : Addr) (cl : List (Str × Addr)) (fp : List Addr), PE (blkX X scope s H C cl fp) (.Name m py) (tVar j)) (hl : L.flatten.length < 1000000) (hj : j < σ.length)
    (he : ∀ (k : Nat) (x : V) (ws : List V), xs[k]? = some x → L[k]? = some ws → ∀ H1, Ex H H1 → ∀ (s : Shared) (H0 : Hp) (C : Addr) (cl : List (Str × Addr)) (fp : List Addr), EVL (blkX X scope s H0 C cl fp) iter1 ((σ.set j none).set i (some x)) H1 ws)
    (hc : X.calm = true := by rfl) (hs : ∀ x, foldedSetIterable iter X.env x = pure x := by intro _; rfl) (hs1 : ∀ env x, foldedSetIterable iter1 env x = pure x := by intro _ _; rfl) :
    EVL X (.ListComp (.Name m py) [⟨.Name n px, iter, [], 0⟩, ⟨.Name m px1, iter1, [], 0⟩] scope pos) σ H L.flatten := by
  intro H1 e1 Q q
  obtain ⟨wi, hpi, hw⟩ := hi.ex
  refine eX_of (pe_lc2 (own := [(n, i), (m, j)]) (vs1 := [j]) (tt := tYes) (tt1 := tYes) (te := tVar j) (g := gName i) (g1 := gName j) (wi1 := iList X.K (eB X scope iter1)) hc hN hpi ok (by simp) hg (fun _ _ _ _ _ => pts_nil)
    (fun s H C cl fp => pi_list (X := blkX X scope s H C cl fp) ⟨fun pins s1 σ1 H2 Q1 I h => h s H C cl fp pins s1 I⟩) hg1 (fun _ _ _ _ _ => pts_nil) hv hs hs1) ?_
  refine hw H1 e1 _ fun J H2 G e2 g2 gm W Dl hD => ?_
  have w0 : wipe σ [i, j] = (σ.set j none).set i none := rfl
  have hw2 : ∀ x : V, (wipe σ [i, j]).set i (some x) = (σ.set j none).set i (some x) := fun x => by
    rw [w0, List.set_set]
  have hw1 : ∀ x : V, wipe ((wipe σ [i, j]).set i (some x)) [i, j] = wipe σ [i, j] := fun x => by
    rw [hw2]
    show (((σ.set j none).set i (some x)).set j none).set i none = (σ.set j none).set i none
    rw [List.set_comm _ _ hij, List.set_set, List.set_set]
  refine w_it W (B := fun Nx x H' => gName i x (wipe σ [i, j]) H' fun σ2 H2 => wipe σ2 [i, j] = wipe σ [i, j] ∧ tYes σ2 H2 fun b H3 => if b = true then iList X.K (eB X scope iter1) σ2 H3 fun J1 H4 => ∃ W1 : Nat → Nat → Hp → Prop, (∃ m, W1 0 m H4) ∧ ∀ j1 k H, W1 j1 k H →
      (J1.stop j1 H ∧ Nx H) ∨ (J1.go j1 H ∧ ∃ Nx1 : Hp → Prop, (∀ H', Nx1 H' → ∃ k', k' < k ∧ W1 (j1 + 1) k' H') ∧ ∀ x H', J1.yld j1 H x H' → gName j x (wipe σ2 [j]) H' fun σ3 H5 => wipe σ3 [j] = wipe σ2 [j] ∧ tYes σ3 H5 fun b H6 =>
        if b = true then tVar j σ3 H6 fun y H7 => ∃ acc, H7 Dl = some (.lst acc) ∧ acc.length < sizeLine ∧ Nx1 (upd H7 Dl (.lst (acc ++ [y]))) else Nx1 H6) else Nx H3)
    (fun k H' => H2 Dl = none ∧ Ex H2 H' ∧ H' Dl = some (.lst ((L.take k).flatten)) ∧ k ≤ xs.length) ⟨hD, Ex.new hD, upd_same, Nat.zero_le _⟩ (fun k H' hk p => gm _ _ p.2.1 g2) (fun k x H3 H4 hk p y => ?_) fun H' p => ?_
  · obtain ⟨rfl, hx⟩ := y
    obtain ⟨p1, p2, p3, p4⟩ := p
    obtain ⟨ws, hws⟩ : ∃ ws, L[k]? = some ws := ⟨L[k]'(by omega), List.getElem?_eq_getElem _⟩
    refine ⟨hw1 x, ?_⟩
    unfold tYes
    refine iteT ?_
    rw [hw2 x]
    refine fun s H0 C cl fp => he k x ws hx hws _ (e1.trans (e2.trans p2)) s H0 C cl fp _ (Ex.refl _) _ fun a H5 ha e5 h5 => ⟨a, rfl, ⟨ws, sq_of h5⟩, ?_⟩
    have had : a ≠ Dl := fun z => by
      rw [z, p3] at ha
      cases ha
    refine w_it (walk_list (K := X.K) (a := a) (xs := ws)) (B := fun Nx1 x H' => gName j x (wipe ((σ.set j none).set i (some _)) [j]) H' fun σ3 H5 => wipe σ3 [j] = wipe ((σ.set j none).set i (some _)) [j] ∧ (if true = true then tVar j σ3 H5 fun y H7 => ∃ acc, H7 Dl = some (.lst acc) ∧ acc.length < sizeLine ∧ Nx1 (upd H7 Dl (.lst (acc ++ [y]))) else Nx1 H5))
      (fun r H' => Ex H2 H' ∧ H' Dl = some (.lst ((L.take k).flatten ++ ws.take r)) ∧ H' a = some (.lst ws)) ⟨p2.trans e5, by simpa using e5 _ _ p3, h5⟩ (fun r H' _ p => sq_of p.2.2) (fun r y H6 H7 hr p yy => ?_) fun H' p => ⟨p1, p.1, by
        rw [take_flat hws, p.2.1, List.take_length], by
        have := (List.getElem?_eq_some_iff.mp hx).1
        omega⟩
    obtain ⟨rfl, hy⟩ := yy
    obtain ⟨r1, r2, r3⟩ := p
    have hset : (wipe ((σ.set j none).set i (some x)) [j]).set j (some y) = ((σ.set j none).set i (some x)).set j (some y) := by
      show (((σ.set j none).set i (some x)).set j none).set j (some y) = _
      rw [List.set_set]
    show wipe ((wipe ((σ.set j none).set i (some x)) [j]).set j (some y)) [j] = wipe ((σ.set j none).set i (some x)) [j] ∧ _
    refine ⟨by
      show ((((σ.set j none).set i (some x)).set j none).set j (some y)).set j none = (((σ.set j none).set i (some x)).set j none)
      rw [List.set_set, List.set_set], iteT ⟨y, ?_, ?_⟩⟩
    · rw [hset]
      rw [List.getElem?_set_self (by simp; exact hj)]
    · have hl1 := flat_len (L := L) (k := k + 1)
      rw [take_flat hws, List.length_append] at hl1
      have hr2 := (List.getElem?_eq_some_iff.mp hy).1
      refine ⟨_, r2, ?_, r1.mut p1, ?_, ?_⟩
      · rw [List.length_append, List.length_take]
        exact Nat.lt_of_lt_of_le (by omega : _ < 1000000) (by decide)
      · rw [upd_same, List.append_assoc, List.take_add_one, hy]
        rfl
      · rw [upd_ne had]
        exact r3
  · obtain ⟨p1, p2, p3, p4⟩ := p
    rw [← hL, List.take_length] at p3
    exact q Dl H' (fresh_back e2 p1) (e2.trans p2) p3
end
end K96

set_option Elab.async false
set_option linter.all false
set_option maxRecDepth 100000
set_option maxHeartbeats 4000000
namespace K96
open PySem PySem.Spec PyProof.Rows L2 Evl
section
variable {X : Cx} {e a b c : Expr} {es : List Expr} {p pos : Pos} {σ : Sg} {H : Hp} {Q : VK}
theorem a_star {Q : List V → Hp → Prop} (h : eX X e σ H fun x H1 => ∃ q xs, x = V.ref q ∧ (SqT X.K H1 q xs ∨ SqL X.K H1 q xs) ∧ aX X es σ H1 fun ys H2 => Q (xs ++ ys) H2) (hs : starEach (.Starred e p :: es) X.env = (true, eval e X.env) :: starEach es X.env := by rfl) : aX X (.Starred e p :: es) σ H Q :=
  aX_of (StX.pa_star pe_X pa_X hs) h
theorem e_ife (h : tX X c σ H fun k H1 => if k = true then eX X a σ H1 Q else eX X b σ H1 Q) : eX X (.IfExp c a b pos) σ H Q := eX_of (pe_ifExp pt_X pe_X pe_X) h
end
def markS (s : Str) : Str := ("=" : Str) ++ s
mutual
def wordsD : PyData → List Str
  | .tuple xs => ("(" : Str) :: (wordsL xs ++ [(")" : Str)])
  | .none => [("-" : Str)]
  | .str s => [markS s]
  | .int i => [(toString i : Str)]
  | _ => []
def wordsL : List PyData → List Str
  | [] => []
  | x :: xs => wordsD x ++ wordsL xs
end
mutual
theorem wordsD_len : ∀ d : PyData, (wordsD d).length ≤ 2 * szD d
  | .tuple xs => by
    have h := wordsL_len xs
    show (("(" : Str) :: (wordsL xs ++ [(")" : Str)])).length ≤ 2 * (1 + szL xs)
    simp only [List.length_cons, List.length_append, List.length_nil]
    omega
  | .none => by show 1 ≤ 2 * 1; omega
  | .str s => by show 1 ≤ 2 * 1; omega
  | .int i => by show 1 ≤ 2 * 1; omega
  | .bool b => by show 0 ≤ 2 * 1; omega
  | .list xs => by show 0 ≤ _; omega
  | .dict xs => by show 0 ≤ _; omega
theorem wordsL_len : ∀ l : List PyData, (wordsL l).length ≤ 2 * szL l
  | [] => by show 0 ≤ _; omega
  | x :: xs => by
    have h1 := wordsD_len x
    have h2 := wordsL_len xs
    show (wordsD x ++ wordsL xs).length ≤ 2 * (szD x + szL xs)
    rw [List.length_append]
    omega
end
theorem szD_mem {d : PyData} : ∀ {l : List PyData}, d ∈ l → szD d ≤ szL l
  | x :: xs, h => by
    rcases List.mem_cons.mp h with rfl | h
    · show szD d ≤ szD d + szL xs
      omega
    · have := szD_mem h
      show szD d ≤ szD x + szL xs
      omega
theorem log2_small {i : Int} (h : i.natAbs ≤ 999999999999) : i.natAbs.log2 < 1920 := by
  by_cases h0 : i.natAbs = 0
  · rw [h0]; decide
  · exact (Nat.log2_lt h0).mpr (Nat.lt_of_le_of_lt h (by decide +kernel))
/-- a def that writes data as words -/
def spWords (n : Nat) (K : Fr) : Sp := fun vs H Q _ => ∃ v d, vs = [v] ∧ Ur K H v d ∧ toldAt n d = true ∧ szD d ≤ 100000 ∧ ∀ p H2, H p = none → Ex H H2 → H2 p = some (.lst ((wordsD d).map V.str)) → Q (.ref p) H2
theorem wordsL_flat : ∀ ds : List PyData, ((ds.map fun d => (wordsD d).map V.str).flatten) = (wordsL ds).map V.str
  | [] => rfl
  | d :: ds => by
    have h := wordsL_flat ds
    simp only [List.map_cons, List.flatten_cons, h]
    show _ = (wordsD d ++ wordsL ds).map V.str
    rw [List.map_append]
section
variable {P : Program} {w : World} {K : Fr} {mg : Str → Option Value} {base : Heap}
theorem words_step (T : Txt K mg) (D : Df K mg d_words_of) (n : Nat) (ih : ∀ m, n = m + 1 → Cl P w K mg base CX0 (m + 1) "words_of" (spWords m K)) : Cl P w K mg base CX0 (n + 1) "words_of" (spWords n K) := by
  refine D.cl sc_words_of (fun vs H Q E h => ?_) (fun _ _ _ _ _ _ us hl => match us, hl with | [_], _ => rfl) fun f cdv A outer s H vs Q E hr h => ⟨_, pb_X, ?_⟩
  · obtain ⟨v, d, rfl, _⟩ := h
    rfl
  obtain ⟨v, d, rfl, hu, ht, hz, k⟩ := h
  have hwl := wordsD_len d
  refine b_cons (s_if (et_val (ev_isi (m := "tuple") (T.f "isinstance") (T.f "tuple") (ev_name 0 rfl) hu.vt (by decide))) (fun hb H1 e1 => ?_) fun hb H1 e1 => b_nil ?_)
  · rw [tupK] at hb
    obtain ⟨a, ws, ds, rfl, hw, hall, rfl⟩ : ∃ a ws ds, v = .ref a ∧ SqT K H a ws ∧ UrAll K H ws ds ∧ d = .tuple ds := by
      cases hu with
      | tup h a => exact ⟨_, _, _, rfl, h, a, rfl⟩
      | _ => cases hb
    obtain ⟨m, rfl⟩ : ∃ m, n = m + 1 := by
      cases n with
      | zero => cases ht
      | succ m => exact ⟨m, rfl⟩
    have c1 := ih m rfl
    have hta : ds.all (toldAt m) = true := ht
    have hsz : szD (.tuple ds) = 1 + szL ds := rfl
    refine b_one (s_retX (e_lst (a_cons (eX_ev (ev_gl (T.s "BEGIN" (z := "("))) fun H2 e2 => a_star (eX_evl (xs := (ds.map fun d => (wordsD d).map V.str).flatten) ?_ fun q H3 hq e3 h3 => ⟨q, _, rfl, .inr (sq_of h3), a_one (eX_ev (ev_gl (T.s "END" (z := ")"))) fun H4 e4 => ?_)⟩)))))
    · refine evl_lc2 (i := 1) (j := 2) (ds.map fun d => (wordsD d).map V.str) (by rw [List.length_map, hall.len]) (by decide) (its_t (ev_name 0 rfl) (ex_t (e1.trans e2) hw)) sc_words_of.nd (blkOk_by (N := ["value", "part", "word"]) (sc := defScope s_words_of) (by decide +kernel)) (fun _ _ _ _ _ => pg_name sc_words_of.nd rfl (Or.inl rfl)) (fun _ _ _ _ _ => pg_name sc_words_of.nd rfl (Or.inl rfl)) (fun _ _ _ _ _ => pv 2) ?_ (by show 2 < 3; decide) fun j x zs hj hj2 H5 e5 s5 H0 C cl fp => ?_
      · rw [wordsL_flat, List.length_map]
        have := wordsL_len ds
        omega
      · obtain ⟨dj, hdj, huj⟩ := hall.at hj
        rw [List.getElem?_map, hdj] at hj2
        have e6 : zs = (wordsD dj).map V.str := (Option.some.inj hj2).symm
        subst e6
        intro H6 e6 Q6 k6
        refine eX_of (pe_cl (E := E0) c1 hr (by omega) pass0 rfl (pa_cons pe_X pa_nil)) (eX_ev (ev_name 1 rfl) fun H7 e7 => ?_)
        have hm := List.mem_of_getElem? hdj
        exact ⟨x, dj, rfl, huj.ext ((e1.trans e2).trans ((e5.trans e6).trans e7)), List.all_eq_true.mp hta dj hm, by have := szD_mem hm; omega, fun p H8 hp e8 h8 => k6 p H8 (fresh_back e7 hp) (e7.trans e8) h8⟩
    · rw [wordsL_flat]
      have hw2 : (wordsD (.tuple ds)).map V.str = V.str ("(" : Str) :: ((wordsL ds).map V.str ++ [V.str (")" : Str)]) := by
        show ((("(" : Str) :: (wordsL ds ++ [(")" : Str)])).map V.str) = _
        rw [List.map_cons, List.map_append]
        rfl
      have hle := wordsL_len ds
      refine ⟨?_, fun p hp => k p _ ?_ ?_ ?_⟩
      · simp only [List.length_cons, List.length_append, List.length_map, List.length_nil]
        exact Nat.le_trans (by omega : _ ≤ 1000000) (by decide)
      · exact fresh_back (((e1.trans e2).trans e3).trans e4) hp
      · exact (((e1.trans e2).trans e3).trans e4).trans (Ex.new hp)
      · rw [upd_same, hw2]
  · rw [tupK] at hb
    -- if value is None: return [NONE]
    refine b_cons (s_if (k := decide (v = .non)) (et_cmp op_isN (ev_name 0 rfl) ev_non fun H1 _ Q q => ⟨rfl, q H1 (Ex.refl H1)⟩) (fun hd H2 e2 => ?_) fun hd H2 e2 => b_nil ?_)
    · have hv := of_decide_eq_true hd
      subst hv
      cases hu
      refine b_one (s_retX (eX_evl (evl_lst (ea_cons (ev_gl (T.s "NONE" (z := "-"))) ea_nil) (by show 1 ≤ 100000; decide)) fun p H3 hp e3 h3 => k p H3 (fresh_back (e1.trans e2) hp) ((e1.trans e2).trans e3) h3))
    · have hv := of_decide_eq_false hd
      have hsd : singleD d = true := by
        cases hu with
        | tup _ _ => cases hb
        | _ => cases n <;> exact ht
      refine b_one (s_retX (e_ife (tX_et (et_val (ev_isi (m := "str") (T.f "isinstance") (T.f "str") (ev_name 0 rfl) (hu.vt.mono (e1.trans e2)) (by decide))) fun H3 e3 => ?_)))
      cases hu with
      | non => exact absurd rfl hv
      | tup _ _ => cases hb
      | str x hx =>
        refine (show if isK "str" "str" = true then _ else _ from ?_)
        rw [if_pos (by decide)]
        refine eX_evl (evl_lst (ea_cons (ev_bin op_add_str (ev_gl (T.s "MARK" (z := "="))) (ev_name 0 rfl) fun H4 e4 Q q => ⟨_, _, rfl, rfl, ?_, q H4 (Ex.refl H4)⟩) ea_nil) (by show 1 ≤ 100000; decide)) fun p H4 hp e4 h4 => k p H4 (fresh_back ((e1.trans e2).trans e3) hp) (((e1.trans e2).trans e3).trans e4) h4
        have : ("=" : Str).length = 1 := by decide +kernel
        rw [this]
        exact Nat.le_trans (by omega : _ ≤ 100001) (by decide)
      | int i =>
        refine (show if isK "int" "str" = true then _ else _ from ?_)
        rw [if_neg (by decide)]
        refine eX_evl (evl_lst (ea_cons (ev_tyc call_str_int (T.f "str") (ea_cons (ev_name 0 rfl) ea_nil) fun H4 e4 Q q => ⟨i, rfl, ?_, q H4 (Ex.refl H4)⟩) ea_nil) (by show 1 ≤ 100000; decide)) fun p H4 hp e4 h4 => k p H4 (fresh_back ((e1.trans e2).trans e3) hp) (((e1.trans e2).trans e3).trans e4) h4
        have hi : (decide (0 - mostV ≤ i) && decide (i ≤ mostV)) = true := hsd
        rw [Bool.and_eq_true, decide_eq_true_eq, decide_eq_true_eq] at hi
        have hm : mostV = 999999999999 := by decide +kernel
        rw [hm] at hi
        exact log2_small (by omega)
      | bl b => cases hsd
      | lst _ _ => cases hsd
      | emp _ => cases hsd
      | obj _ _ _ => cases hsd
theorem ok_words_of (T : Txt K mg) (D : Df K mg d_words_of) : ∀ n : Nat, Cl P w K mg base CX0 (n + 1) "words_of" (spWords n K)
  | 0 => words_step T D 0 fun _ h => (nomatch h)
  | n + 1 => words_step T D (n + 1) fun m h => by
    cases h
    exact ok_words_of T D n
end
end K96

set_option Elab.async false
set_option linter.all false
set_option maxRecDepth 100000
set_option maxHeartbeats 4000000
/-! A def whose first statement is super().__init__(..): it closes over the cell __class__. -/
namespace K96
open PySem PySem.Spec PyProof.Rows L2 Evl
open PySem.W (ksEnv ksFn ks_superObj ks_superIn methodObj)
def cxS (CX : CXT) (P : Program) (w : World) (K : Fr) (mg : Str → Option Value) (base : Heap) (N : List Str) (qual : Str) (scope : Scope) (f cda cc : Addr) (A : Around) (outer : List Env) (s : Shared) (H : Hp) (E : XK) : Cx where
  prog := P
  w := w
  K := K
  mg := mg
  base := base
  A := A.deeper (ksEnv qual scope s.heap.objs.size f (.ref cda) cc)
  N := N
  s_0 := s
  H_0 := H
  env := ksEnv qual scope s.heap.objs.size f (.ref cda) cc
  outer := outer
  stack := ksEnv qual scope s.heap.objs.size f (.ref cda) cc :: outer
  ex := []
  calm := true
  fn := fun _ => false
  pn := []
  xe := fun e s' => wpAny (model P w) (A.deeper (ksEnv qual scope s.heap.objs.size f (.ref cda) cc)) (leaving (ksEnv qual scope s.heap.objs.size f (.ref cda) cc) e) (fun _ s'' => CX outer H s E e s'') (fun e' s'' => CX outer H s E e' s'') s'
structure ScS (N P : List Str) (sc : Scope) : Prop where
  kind : sc.kind = .function
  co : sc.isCoroutine = false
  gen : sc.isGenerator = false
  nd : N.Nodup
  pre : N.take P.length = P
  par : ∀ x ∈ P, sc.names.lookup x = some .local
  nocell : ∀ y ∈ sc.names, y.2 ≠ .cell
  free : ∀ y ∈ sc.names, y.2 = .free → y.1 = "__class__"
  sup : sc.names.lookup ("super" : Str) = some .globalImplicit
  cls : sc.names.lookup ("__class__" : Str) = some .free
theorem zip_nd {α : Type} : ∀ {ps : List Str} {us : List α}, ps.Nodup → ((ps.zip us).map (·.1)).Nodup
  | [], _, _ => List.nodup_nil
  | _ :: _, [], _ => List.nodup_nil
  | p :: ps, u :: us, nd => by
    have nd' := List.nodup_cons.mp nd
    refine List.nodup_cons.mpr ⟨fun hm => ?_, zip_nd nd'.2⟩
    obtain ⟨q, hq, e⟩ := List.mem_map.mp hm
    obtain ⟨q1, q2⟩ := q
    have := (List.of_mem_zip hq).1
    have e : q1 = p := e
    subst e
    exact nd'.1 this
theorem lookup_rev_zip {α : Type} {x : Str} {u : α} : ∀ {ps : List Str} {us : List α} {i : Nat}, ps.Nodup → ps[i]? = some x → us[i]? = some u → (ps.zip us).reverse.lookup x = some u := by
  intro ps us i nd h1 h2
  have hm : (x, u) ∈ (ps.zip us).reverse := by
    rw [List.mem_reverse]
    refine List.mem_of_getElem? (i := i) ?_
    rw [List.getElem?_zip_eq_some]
    exact ⟨h1, h2⟩
  have hn : ((ps.zip us).reverse.map (·.1)).Nodup := by
    rw [List.map_reverse]
    refine List.pairwise_reverse.mpr (List.Pairwise.imp (fun h => Ne.symm h) ?_)
    show List.Nodup _
    exact zip_nd nd
  have key : ∀ l : List (Str × α), (l.map (·.1)).Nodup → (x, u) ∈ l → l.lookup x = some u := by
    intro l
    induction l with
    | nil => intro _ h; cases h
    | cons q l ih =>
      intro nd h
      obtain ⟨y, v⟩ := q
      rcases List.mem_cons.mp h with e | h'
      · cases e
        exact List.lookup_cons_self
      · have nd' := List.nodup_cons.mp nd
        have hne : (x == y) = false := by
          refine beq_eq_false_iff_ne.mpr fun e => ?_
          subst e
          exact nd'.1 (List.mem_map.mpr ⟨(x, u), h', rfl⟩)
        rw [List.lookup_cons, hne]
        exact ih nd'.2 h'
  exact key _ hn hm
section
variable {CX : CXT} {P : Program} {w : World} {K : Fr} {mg : Str → Option Value} {base : Heap} {N ps : List Str} {qual : Str} {scope : Scope} {f cda cc D : Addr} {A : Around} {outer : List Env} {s : Shared} {H : Hp} {E : XK} {us : List Value} {vs : List V}
theorem inv_startS {h1 : Heap} {tk : Nat} {oc : Value} {od : Option Addr} {osl : Array (Option Value)} (S : ScS N ps scope) (hd : A.handled = none) (e0 : Env0 P w K mg base A outer s H) (hl : vs.length = ps.length) (r : Vals vs us)
    (hc : K.lookup cc = some ⟨oc, od, .cell (some (.ref D)), osl⟩) (hns : h1.Ns s.heap.objs.size (fun x => (ps.zip us).reverse.lookup x)) (hk : ∀ b o, s.heap.get? b = some o → h1.get? b = some o) :
    Inv (cxS CX P w K mg base N qual scope f cda cc A outer s H E) [] (start N vs) H { s with heap := h1, toks := tk } := by
  have hpl : ps.length ≤ N.length := by have := congrArg List.length S.pre; rw [List.length_take] at this; omega
  have noA : ∀ b : Addr, b ∉ (cxS CX P w K mg base N qual scope f cda cc A outer s H E).ex := fun b z => absurd (show b ∈ ([] : List Addr) from z) (by simp)
  have KX : K.In s.heap := e0.mod.kin.keeps fun b o e => (e0.bs b o e).1
  have cellc : ∀ y c, (cxS CX P w K mg base N qual scope f cda cc A outer s H E).env.cells.lookup y = some c → y = "__class__" ∧ c = cc := fun y c h => by
    have h : List.lookup y [(("__class__" : Str), cc)] = some c := h
    rw [List.lookup_cons] at h
    by_cases z : y = "__class__"
    · rw [beq_iff_eq.mpr z] at h
      exact ⟨z, (Option.some.inj h).symm⟩
    · rw [beq_eq_false_iff_ne.mpr z] at h
      cases h
  have hcH : H cc = none := (e0.bs _ _ (e0.mod.kin _ _ hc)).2
  refine ⟨⟨e0.mod, S.kind, rfl, rfl, Nat.le_refl _, fun y z c h1 h2 => ?_, fun y hy => ?_, fun y c h _ => (nomatch h), fun _ => hd, Around.frames_deeper e0.frames, .inr ⟨rfl, rfl⟩, fun b z => absurd z (noA b), e0.bs, e0.bsz, fun b _ _ => noA b, fun b z => absurd z (noA b), e0.funs, e0.frf⟩,
    rfl, e0.bare, Un.kept hk, ⟨_, hns, fun i y v h1 h2 h3 => ?_⟩, fun y c h => ?_, e0.hok.fresh (Nat.le_refl _), fun y c h => ?_, fun p hp => absurd (show p ∈ ([] : List (Addr × Obj)) from hp) (by simp), e0.hok.kept hk, ?_⟩
  · exact (cellc y c h1).1.trans (cellc z c h2).1.symm
  · have hy : scope.names.lookup y = some .cell ∨ scope.names.lookup y = some .free := hy
    rcases hy with hy | hy
    · exact absurd rfl (S.nocell _ (PySem.mem_of_lookup hy))
    · have z : y = "__class__" := S.free _ (PySem.mem_of_lookup hy) rfl
      subst z
      exact ⟨cc, rfl⟩
  · have hi : i < vs.length := by
      unfold L2.start at h2
      by_cases hi : i < vs.length
      · exact hi
      · rw [List.getElem?_append_right (by simpa using hi)] at h2
        rw [List.getElem?_replicate] at h2
        split at h2 <;> cases h2
    have ha : vs[i]? = some v := by
      unfold L2.start at h2
      rw [List.getElem?_append_left (by simpa using hi), List.getElem?_map] at h2
      cases e : vs[i]? with
      | none => rw [e] at h2; cases h2
      | some a => rw [e] at h2; cases h2; rfl
    obtain ⟨u, hu, rv⟩ := r.get ha
    have hp : ps[i]? = some y := by
      rw [← S.pre, List.getElem?_take_of_lt (by omega)]; exact h1
    have ndP : ps.Nodup := by rw [← S.pre]; exact S.nd.sublist (List.take_sublist _ _)
    exact ⟨u, rv, .inl ⟨S.par y (List.mem_of_getElem? hp), lookup_rev_zip ndP hp hu⟩⟩
  · obtain ⟨_, rfl⟩ := cellc y c h
    exact ⟨_, _, hk _ _ (KX _ _ hc), rfl⟩
  · obtain ⟨_, rfl⟩ := cellc y c h
    exact hcH
  · unfold L2.start
    show _ = N.length
    rw [List.length_append, List.length_map, List.length_replicate]
    omega
end

/-- what the top has of a def that calls super().__init__ in the class at D -/
structure SupF (P : Program) (K : Fr) (mg : Str → Option Value) (name qual : Str) (params : Arguments) (body : List Stmt) (scope : Scope) (f cda cc D f2 : Addr) : Prop where
  fn : ∃ (oc : Value) (od : Option Addr) (kV doc pm : Value) (an : Option Addr) (ct : Value) (osl : Array (Option Value)), K.lookup f = some ⟨oc, od, .func (ksFn name qual params body scope .none kV doc pm an (.ref cda) ct cc), osl⟩
  code : PySem.W.codeIn K (.ref cda) qual = true
  file : ∃ (oc : Value) (od : Option Addr) (vs : Array Value) (osl : Array (Option Value)) (file : Str) (tf : Tok), K.lookup cda = some ⟨oc, od, .fields vs, osl⟩ ∧ vs[2]? = some (.str file tf) ∧ ((P.main.file : Str) == file) = true
  cell : ∃ (oc : Value) (od : Option Addr) (osl : Array (Option Value)), K.lookup cc = some ⟨oc, od, .cell (some (.ref D)), osl⟩
  cls : ∃ cd, PySem.W.clsIn K D = some cd
  sub : PySem.W.mroIn K D (.ref D) = some true
  opq : PySem.W.nsIn K cStatics "thirdparty.any" = some none
  mg : mg "super" = none
  top : (P.main.scope.names.lookup ("super" : Str)).isSome = false
  up : ks_superIn K D D "__init__" = some (some (.ref f2))
  ty : PySem.W.typeIn K (.ref f2) = some (.type "function")
  is : PySem.W.fnIn K f2 = true
section
variable {P : Program} {w : World} {K : Fr} {mg : Str → Option Value} {base : Heap} {N ps : List Str} {name qual : Str} {params : Arguments} {scope : Scope} {f f2 cda cc D : Addr} {e : Expr} {es : List Expr} {rest : List Stmt} {p0 p1 apos cpos epos : Pos} {k : Nat} {sp sp2 : Sp}
theorem super_fn (F : SupF P K mg name qual params (.Expr (.Call (.Attribute (.Call (.Name "super" p0) [] [] p1) "__init__" apos) (e :: es) [] cpos) epos :: rest) scope f cda cc D f2) (S : ScS N ps scope) (F2 : FnR P w K mg base CX0 k f2 sp2)
    (hhd : ∃ ar : Arg, (params.posonlyargs ++ params.args).head? = some ar ∧ ps[0]? = some ar.arg) (len : ∀ vs H Q E, sp vs H Q E → vs.length = ps.length)
    (hbind : ∀ (kV doc pm : Value) (an : Option Addr) (ct : Value) (us : List Value), us.length = ps.length → bindArgs (ksFn name qual params (.Expr (.Call (.Attribute (.Call (.Name "super" p0) [] [] p1) "__init__" apos) (e :: es) [] cpos) epos :: rest) scope .none kV doc pm an (.ref cda) ct cc) ⟨us, []⟩ = pure (ps.zip us))
    (hsw : ∀ env, swapsWith (.Call (.Attribute (.Call (.Name "super" p0) [] [] p1) "__init__" apos) (e :: es) [] cpos) none epos.line env = pure false)
    (hbody : ∀ (A : Around) (outer : List Env) (s : Shared) (H : Hp) (vs : List V) (Q : VK) (E : XK), Room k (A.deeper (ksEnv qual scope s.heap.objs.size f (.ref cda) cc)) → sp vs H Q E →
      ∃ x dx fs vs', vs = .ref x :: vs' ∧ H x = some (.ins D dx fs) ∧ aX (cxS CX0 P w K mg base N qual scope f cda cc A outer s H E) (e :: es) (L2.start N vs) H fun us H1 => sp2 (.ref x :: us) H1 (fun _ H2 => bX (cxS CX0 P w K mg base N qual scope f cda cc A outer s H E) rest { nx := fun _ H' => Q .non H', rt := Q } (L2.start N vs) H2) E)
    (hint : ∀ L f, interactive (ksEnv qual scope L f (.ref cda) cc) = false) (hst : ∀ L f, starEach (e :: es) (ksEnv qual scope L f (.ref cda) cc) = (false, eval e (ksEnv qual scope L f (.ref cda) cc)) :: starEach es (ksEnv qual scope L f (.ref cda) cc))
    (hpl : ∀ L f, (backTo cpos (starEach es (ksEnv qual scope L f (.ref cda) cc))).any (·.1) = false)
    (hev : ∀ L f, ∃ pl : Sem Bool, eval (.Call (.Attribute (.Call (.Name "super" p0) [] [] p1) "__init__" apos) (e :: es) [] cpos) (ksEnv qual scope L f (.ref cda) cc) = (do
      let ov ← attributeBase (.Call (.Name "super" p0) [] [] p1) "__init__" (ksEnv qual scope L f (.ref cda) cc) (eval (.Call (.Name "super" p0) [] [] p1) (ksEnv qual scope L f (.ref cda) cc))
      standAt apos.atName
      let (g, first) ← holding [ov] (getMethod ov "__init__" pl)
      callWith cpos g first (backTo cpos (starEach (e :: es) (ksEnv qual scope L f (.ref cda) cc))) [])) : FnR P w K mg base CX0 (k + 1) f sp := by
  intro A outer s H us vs Q E hr e0 r hsp
  have hl := len _ _ _ _ hsp
  have hul : us.length = ps.length := by rw [← r.length, hl]
  have KX : K.In s.heap := e0.mod.kin.keeps fun b o e => (e0.bs b o e).1
  have lim : s.heap.NoLimit := e0.mod.nolimit.keeps fun b o e => (e0.bs b o e).1
  obtain ⟨oc, od, kV, doc, pm, an, ct, osl, lk⟩ := F.fn
  obtain ⟨c1, c2, c3, hcell⟩ := F.cell
  have ndP : ps.Nodup := by rw [← S.pre]; exact S.nd.sublist (List.take_sublist _ _)
  refine ks_codeAny_call_defAt (fd := ksFn name qual params (.Expr (.Call (.Attribute (.Call (.Name "super" p0) [] [] p1) "__init__" apos) (e :: es) [] cpos) epos :: rest) scope .none kV doc pm an (.ref cda) ct cc) (binds := ps.zip us) hr.depth (KX _ _ lk) rfl lim (PySem.W.codeRec_of KX F.code) rfl (.of_eq (hbind _ _ _ _ _ us hul)) S.nocell
    (fun x hx => S.par x.1 (List.of_mem_zip hx).1) (fun h0 hns hk => ?_) S.co S.gen S.kind
  have I := inv_startS (CX := CX0) (N := N) (qual := qual) (f := f) (cda := cda) (E := E) (tk := s.toks + (ps.zip us).length) S hr.hd e0 hl r hcell hns hk
  have hrD := hr.deeper (ksEnv qual scope s.heap.objs.size f (.ref cda) cc)
  obtain ⟨x, dx, fs, vs', hvs, hx, hq⟩ := hbody A outer s H vs Q E hrD hsp
  obtain ⟨pl, hev⟩ := hev s.heap.objs.size f
  obtain ⟨oc2, od2, fvs, osl2, file, tf, hcode, hvs2, hfile⟩ := F.file
  obtain ⟨cdD, hclsD⟩ := F.cls
  obtain ⟨ar, hp, hpar⟩ := hhd
  have KX1 : K.In h0 := I.kIn
  obtain ⟨oD, hD1, hD2⟩ : ∃ oD, h0.get? D = some oD ∧ oD.data = .cls cdD := by
    have hD := hclsD
    unfold PySem.W.clsIn at hD
    split at hD
    · rename_i c d cd' sl ho
      cases hD
      exact ⟨_, KX1 _ _ ho, rfl⟩
    · cases hD
  obtain ⟨mA, O, _⟩ := ins_get I.hok hx
  obtain ⟨odx, IA, _⟩ := O.look
  have hself : (ps.zip us).reverse.lookup ar.arg = some (.ref x) := by
    obtain ⟨u, hu, rv⟩ := r.get (i := 0) (x := .ref x) (by rw [hvs]; rfl)
    cases (show u = Value.ref x from rv)
    exact lookup_rev_zip ndP hpar hu
  have hxD : x ≠ D := PySem.W.ks_ne KX1 IA hclsD
  have hen : Heap.Ns h0 (cxS CX0 P w K mg base N qual scope f cda cc A outer s H E).env.locals fun x => (ps.zip us).reverse.lookup x := hns
  refine ks_wpAt_execs_cons (ks_wpAt_mono (Q := fun fl s' => fl = .next ∧ ∃ H2, Inv (cxS CX0 P w K mg base N qual scope f cda cc A outer s H E) [] (L2.start N vs) H2 s' ∧ bX (cxS CX0 P w K mg base N qual scope f cda cc A outer s H E) rest { nx := fun _ H' => Q .non H', rt := Q } (L2.start N vs) H2) (E := (cxS CX0 P w K mg base N qual scope f cda cc A outer s H E).xe) ?_ ?_ fun e s' he => he)
  · refine ks_wpAt_Expr_any (ks_wpAt_MethodCall (pl := pl) ?_ hev) (hint _ _) (hsw _)
    refine ks_wpAt_super_base S.sup S.cls (by decide) rfl (KX1 _ _ lk) rfl hp rfl (KX1 _ _ hcode) rfl hvs2 hfile F.top ?_
    obtain ⟨mb, hb1, hb2⟩ := I.mod.blt
    refine PySem.W.ks_loadName_global S.kind S.sup (Calls.loadGlobal_builtin (I.mod.glob.keeps I.bk) F.mg (hb1.keeps I.bk) ((hb2 _ (by decide)).trans (show bootBuiltins "super" = some (.type "super") by decide +kernel)) ⟨rfl, ?_⟩)
    refine wpAny_loadName_free S.kind S.cls rfl ⟨_, KX1 _ _ hcell, rfl⟩ ?_
    refine wpAny_loadName_local S.kind (S.par _ (List.mem_of_getElem? hpar)) hns hself ?_
    refine ks_wpAny_isType_cls hD1 hD2 ⟨rfl, ?_⟩
    refine ks_wpAny_call_super hD1 hD2 IA.at_ IA.cls (fun c e => ?_) (PySem.W.looks_mroIn KX1 F.sub) (fun h' es ks => ?_)
    · have := IA.no
      unfold PySem.W.notCls at this
      rw [e] at this
      exact Bool.noConfusion this
    · have I2 : Inv (cxS CX0 P w K mg base N qual scope f cda cc A outer s H E) [] (L2.start N vs) H { s with heap := h', toks := s.toks + (ps.zip us).length } := I.kept ks
      have KX2 : K.In h' := I2.kIn
      obtain ⟨of, hof, hofc⟩ : ∃ of, h'.get? f2 = some of ∧ of.cls = .type "function" := by
        have ht' : (K.lookup f2).map (·.cls) = some (.type "function") := F.ty
        cases z : K.lookup f2 with
        | none => rw [z] at ht'; cases ht'
        | some of => rw [z] at ht'; exact ⟨of, KX2 _ _ z, Option.some.inj ht'⟩
      have hup := F.up
      unfold ks_superIn at hup
      rw [hclsD] at hup
      refine PySem.ks_wpAny_getMethod_super es (PySem.W.looks_opaque KX2 F.opq) (l₀ := cdD.mro) (fun A Q E s k q => wpAny_bind ((PySem.W.looks_clsIn KX2 hclsD) A _ E s k (wpAny_pure q))) rfl KX2 hup hof hofc hxD (by decide) ?_
      have I3 : Inv (cxS CX0 P w K mg base N qual scope f cda cc A outer s H E) [(h'.objs.size, methodObj (.ref f2) (.ref x))] (L2.start N vs) H { s with heap := h'.push { cls := .type "method", data := .fields #[.ref f2, .ref x] }, toks := s.toks + (ps.zip us).length + 1 } := by
        refine Inv.pins_of (I2.kept fun b o e => Heap.get?_push_of_some _ e) fun p hp => ?_
        rw [List.mem_singleton] at hp
        subst hp
        refine ⟨Heap.get?_push_at rfl rfl, I2.hok.fresh (Nat.le_refl _), fun e => ?_, I2.nofs (Nat.le_refl _), fun v e => (nomatch e)⟩
        exact absurd e (Nat.ne_of_gt I2.lt)
      refine PySem.W.callWith_M (q := h'.objs.size) (g := f2) (self := .ref x) KX2 (L := s.heap.objs.size) (news := [(h'.objs.size, methodObj (.ref f2) (.ref x))]) ?_ List.mem_cons_self F.is (thn (hq cpos _ _ I3) fun us2 s2 ⟨vs2, H2, J2, r2, q2⟩ => ?_) (hst _ _) (hpl _ _)
      · intro p hp
        rw [List.mem_singleton] at hp
        subst hp
        exact ⟨Heap.get?_push_at rfl rfl, Nat.ne_of_gt I2.lt, by
          cases z : h'.get? h'.objs.size with
          | none => rfl
          | some o => exact absurd (Heap.lt_size z) (Nat.lt_irrefl _)⟩
      · have hb := (J2.pin (h'.objs.size, methodObj (.ref f2) (.ref x)) List.mem_cons_self).1
        refine ⟨⟨hb, J2.kIn⟩, ?_⟩
        refine wpAny_call (ks_codeAny_call_bound hb ?_)
        refine codeAny_mono (F2 _ _ s2 H2 (.ref x :: us2) (.ref x :: vs2) _ E hrD J2.env0 (.cons rfl r2) q2) fun rs s3 hq3 => ?_
        cases rs with
        | error e => exact (pass0 (X := cxS CX0 P w K mg base N qual scope f cda cc A outer s H E)) _ _ _ _ _ _ J2 hq3
        | ok fl =>
          cases fl with
          | ret u =>
            obtain ⟨v, H3, J3, _, q3⟩ := J2.after hq3
            exact ⟨rfl, H3, J3.pins_of fun p hp => absurd hp (by simp), q3⟩
          | next => exact False.elim hq3
          | brk => exact False.elim hq3
          | cont => exact False.elim hq3
  · rintro fl s' ⟨rfl, H2, J, hb⟩
    refine PySem.wpAt_of_wpAny (wpAny_mono (hb [] s' J) (fun fl s' hs => ?_) fun e s' he => he)
    have fin : ∀ {σ' : Sg} {H' : Hp} {v : V} {u : Value}, Inv (cxS CX0 P w K mg base N qual scope f cda cc A outer s H E) [] σ' H' s' → RelV v u → Q v H' → CE outer P w H s Q u s' :=
      fun {σ' H' v u} J rv q => ⟨v, H', J.os, J.bare, J.base, J.hok, rv, q⟩
    cases fl with
    | ret u =>
      obtain ⟨v, σ', H', J, rv, q⟩ := hs
      exact fin J rv q
    | next =>
      obtain ⟨σ', H', J, q⟩ := hs
      exact fin (v := V.non) (u := Value.none) J rfl q
    | brk =>
      obtain ⟨_, _, _, q⟩ := hs
      exact False.elim q
    | cont =>
      obtain ⟨_, _, _, q⟩ := hs
      exact False.elim q
end
end K96

set_option Elab.async false
set_option linter.all false
set_option maxRecDepth 100000
set_option maxHeartbeats 4000000
/-! match on written texts. -/
namespace K96
open PySem PySem.Spec PyProof.Rows L2 Evl
def mX (X : Cx) (cs : List MatchCase) (x : V) : TS := fun D σ H => ∀ (pins : List (Addr × Obj)) (s : Shared) (u : Value) (first : Bool), Inv X pins σ H s → RelV x u → wpAny (model X.prog X.w) X.A (matchCases cs X.env u first) (SP X pins D) X.xe s
section
variable {X : Cx} {e : Expr} {σ : Sg} {H : Hp} {D : Ends} {pos p q : Pos} {x : V} {cs : List MatchCase} {body : List Stmt}
theorem m_nil (h : D.nx σ H) : mX X [] x D σ H := fun pins s u first I r => wpAny_matchCases_nil ⟨σ, H, I, h⟩
theorem m_str {z t : Str} {j : Nat} (h1 : z = t → bX X body D σ H) (h2 : z ≠ t → mX X cs (.str z) D σ H) : mX X (⟨.MatchValue (.Constant (.str t) j p) q, none, body⟩ :: cs) (.str z) D σ H := by
  intro pins s u first I r
  refine wpAny_matchCases_cons (wpAny_matchPattern_Value (thn ((pe_str (X := X) (x := t)).run pins s σ H (fun v H1 => v = .str t ∧ H1 = H) I ⟨rfl, rfl⟩) fun uy s1 ⟨y, H1, I1, ry, hy, hH⟩ => ?_))
  subst hy hH
  refine thn (op_eq pins s1 σ H1 (.str z) (.str t) u uy (fun v H2 => v = .bl (decide (z = t)) ∧ H2 = H1) I1 r ry ⟨rfl, ?_, rfl⟩) fun uc s2 ⟨vc, H2, I2, rc, hv, hH⟩ => ?_
  · congr 1
    simp
  subst hv hH
  cases (show uc = Value.bool (decide (z = t)) from rc)
  refine wpAny_truthy_bool ?_
  by_cases e : z = t
  · rw [decide_eq_true e]
    exact wpAny_assignInOrder_none (h1 e pins s2 I2)
  · rw [decide_eq_false e]
    exact h2 e pins s2 u false I2 r
theorem s_match (h : eX X e σ H fun v H1 => mX X cs v D σ H1) : sX X (.Match e cs pos) D σ H := by
  intro pins s I
  exact wpAny_Match (thn (h pins s I) fun u s1 ⟨v, H1, I1, r, q⟩ => q pins s1 u true I1 r)
end
end K96

set_option Elab.async false
set_option linter.all false
set_option maxRecDepth 100000
set_option maxHeartbeats 4000000
/-! A comprehension whose step may raise. -/
namespace K96
open PySem PySem.Spec PyProof.Rows L2 Evl
theorem funFrames_off {B B' h h' : Heap} {C : Addr} (hn : ∀ b, B.get? b = none → B'.get? b = none) (hk : ∀ b, b ≠ C → h'.get? b = h.get? b) : ∀ {l : List Env}, (∀ L ∈ frs l, L ≠ C) → h.FunFrames B l → h'.FunFrames B' l
  | [], _, _ => trivial
  | env :: l, hc, x => by
    obtain ⟨hkd, ⟨L, o, hf, hb, ho, hd⟩, hr⟩ := x
    have hL : L ≠ C := hc L (List.mem_filterMap.mpr ⟨env, List.mem_cons_self, hf⟩)
    exact ⟨hkd, ⟨L, o, hf, hn L hb, (hk L hL).trans ho, hd⟩, funFrames_off hn hk (fun b hb => by
      obtain ⟨e, he, q⟩ := List.mem_filterMap.mp hb
      exact hc b (List.mem_filterMap.mpr ⟨e, List.mem_cons_of_mem _ he, q⟩)) hr⟩
section
variable {X : Cx} {pins : List (Addr × Obj)} {σ : Sg} {H : Hp} {s s' : Shared} {W : WX} {E : XK} {C : Addr}
/-- a call's exception in a comprehension's block: noted, the block let go, then on in the def's frame -/
theorem xe_comp (I : Inv X pins σ H s) (F : FpOk X pins H C) (hCs : C ∉ frs X.stack) {m : Str → Option Value} (hm : s.heap.Ns C m) (hs : X.stack = X.env :: X.outer) (hf : X.env.frame = some X.env.locals) (hW : ∀ cls d H', E cls d H' → W cls d σ H') (tk : Takes X W) {u : Value} (c : L2.CX X.prog X.w X.stack H s E u s') :
    notedBy (model X.prog X.w) X.A X.env (fun e s2 => CompFails (model X.prog X.w) X.A X.xe { X.env with locals := C } e s2) u s' := by
  obtain ⟨a, B, H', cls, d, rfl, fl, hok, ub, na, os, ag, hE⟩ := c
  obtain ⟨hCn, hCL, hCf, hCx, hCc, hCp⟩ := F
  obtain ⟨oC, es, ep, hoC, hrC⟩ := hm
  have hBC : B.get? C = some oC := ub.keep C oC hoC hCn hCs
  have hC' : H' C = none := ub.free C oC hoC hCn
  have haC : a ≠ C := fun e => by
    have := fl.2.1
    rw [e, hBC] at this
    cases this
  have hfr : X.A.frames = some (X.env :: X.outer) := by rw [I.ok.frames, hs]
  have flS : HandSPX.FlyingZ B (X.env :: X.outer) a (Zc cls d) s'.heap := by rw [← hs]; exact fl
  refine HandSPX.looks_onZ (L := X.env.locals) Zc.steady hfr hf flS fun h2 held up => ?_
  obtain ⟨st2, hBa, ff2, tr2⟩ := held
  refine ⟨m, ⟨oC, es, ep, st2 _ _ hBC, hrC⟩, fun h3 m' hn' sb => ?_⟩
  obtain ⟨B', b1, b2⟩ := restrict B fun b => decide (b ≠ C)
  have b1' : ∀ b, b ≠ C → B'.get? b = B.get? b := fun b hb => b1 b (decide_eq_true hb)
  have b2' : B'.get? C = none := b2 C (by simp)
  have b3 : ∀ b o, B'.get? b = some o → b ≠ C ∧ B.get? b = some o := fun b o e => by
    by_cases z : b = C
    · rw [z, b2'] at e
      cases e
    · exact ⟨z, (b1' b z).symm.trans e⟩
  have b4 : ∀ b, B.get? b = none → B'.get? b = none := fun b e => by
    by_cases z : b = C
    · rw [z]; exact b2'
    · rw [b1' b z]; exact e
  have st3 : B'.StaysIn h3 := fun b o e => (sb.2 b (b3 b o e).1).trans (st2 b o (b3 b o e).2)
  have hfs : ∀ L ∈ frs (X.env :: X.outer), L ≠ C := fun L hL e => hCs (by rw [hs, ← e]; exact hL)
  have ff3 : h3.FunFrames B' (X.env :: X.outer) := funFrames_off b4 sb.2 hfs ff2
  have tr3 : HandSPX.TracedZ h3 B' a (Zc cls d) (rawInt X.env.locals) := by
    obtain ⟨oe, vs, T, oT, ts, he, hz, hd, h1, hnT, hTe, hT, hdT, h3'⟩ := tr2
    have hTC : T ≠ C := fun e => by rw [e, hBC] at hnT; cases hnT
    exact ⟨oe, vs, T, oT, ts, (sb.2 a haC).trans he, hz, hd, h1, b4 T hnT, hTe, (sb.2 T hTC).trans hT, hdT, h3'⟩
  have held3 : HandSPX.HeldZ B' (X.env :: X.outer) a (Zc cls d) X.env.locals h3 := ⟨st3, b4 a hBa, ff3, tr3⟩
  unfold PySem.passOn
  obtain ⟨oe, vs, T, oT, ts, he, hz, hd, h1, hnT, hTe, hT, hdT, h3'⟩ := id tr3
  refine wpAny_bind (wpAny_field he hd h1 ?_)
  rw [if_neg (show ¬ ((Value.ref T == Value.none) = true) from by simp)]
  refine wpAny_bind ?_
  show wpAny _ _ (setFlight (.ref a) X.env.frame) _ _ _
  rw [hf]
  refine HandSPX.setFlight_onZ held3 fun h4 held4 up4 => wpAny_throw ?_
  -- back in the def's air
  obtain ⟨G, g1, g2⟩ := restrict s'.heap fun b => (B'.get? b).isSome || decide (b ∈ frs X.stack)
  have st : B.StaysIn s'.heap := fl.1
  have gB : ∀ b o, B'.get? b = some o → G.get? b = some o := fun b o e => by
    rw [g1 b (by simp [e])]
    exact st b o (b3 b o e).2
  have gF : ∀ b, b ∈ frs X.stack → G.get? b = s'.heap.get? b := fun b hb => g1 b (by simp [hb])
  have og : ∀ b o, G.get? b = some o → s'.heap.get? b = some o ∧ ((B'.get? b).isSome = true ∨ b ∈ frs X.stack) := fun b o e => by
    cases q : ((B'.get? b).isSome || decide (b ∈ frs X.stack)) with
    | false => rw [g2 b q] at e; cases e
    | true =>
      rw [g1 b q] at e
      exact ⟨e, by simpa [Bool.or_eq_true] using q⟩
  have gC : G.get? C = none := g2 C (by rw [b2']; simp [hCs])
  have hok' : HOk X.prog X.w H' B' := fun b o q => (hok b o q).stay (fun c u hc r => by
    have hc' : c ≠ C := fun z => by
      rcases hc with hc | hc
      · rw [← hc, z, hC'] at q; cases q
      · rw [z, hC'] at hc; cases hc
    rw [b1' c hc']
    exact r) (fun _ r => r) fun _ _ r => r
  refine tk _ _ ⟨a, B', { s with heap := G, gens := s'.gens, drawn := s'.drawn, toks := s'.toks }, pins, σ, H', cls, d, rfl, ?_, fun b o e hb => ?_, ?_, .inr (.inr ?_), na, os, ag, hW _ _ _ hE⟩
  · refine I.call (ch := [C]) ⟨fun b o e n hb hc => gB b o ?_, fun b o e n hb hc => ?_, fun b o e n _ => ub.free b o e n, fun b o e hc => ?_, ub.tups, ub.frzs, ub.tbls⟩ (hok'.kept gB) ag fun b hb => ?_
    · rw [b1' b (fun z => hc (by simp [z]))]
      exact ub.keep b o e n hb
    · obtain ⟨sl, q⟩ := ub.slot b o e hb
      exact ⟨sl, by rw [gF b hb]; exact q⟩
    · by_cases hb : b ∈ frs X.stack
      · obtain ⟨sl, q⟩ := ub.slot b o e hb
        exact ⟨_, by rw [gF b hb]; exact q⟩
      · obtain ⟨o', q⟩ := ub.there b o e hb
        exact ⟨o', gB b o' (by rw [b1' b (fun z => hc (by simp [z]))]; exact q)⟩
    · rw [List.mem_singleton] at hb
      subst hb
      exact ⟨hCx, hCL, hCc, hCp⟩
  · obtain ⟨e', h⟩ := og b o e
    rcases h with h | h
    · obtain ⟨o', q⟩ := Option.isSome_iff_exists.mp h
      have z := st b o' (b3 b o' q).2
      rw [e'] at z
      cases z
      exact q
    · exact absurd h hb
  · intro b o e hd
    obtain ⟨e', _⟩ := og b o e
    have hbC : b ≠ C := fun z => by rw [z, gC] at e; cases e
    obtain ⟨sl, q⟩ := up b o e' hd
    obtain ⟨sl2, q2⟩ := up4 b _ ((sb.2 b hbC).trans q) hd
    exact ⟨sl2, q2⟩
  · rw [hs]
    exact held4
end

/-- what a raise out of the block owes -/
def xeB (X : Cx) (cenv : Env) : Value → Shared → Prop := notedBy (model X.prog X.w) X.A cenv (CompFails (model X.prog X.w) X.A X.xe cenv)
theorem noteFrame_of {u : Value} {env env' : Env} (h : env.frame = env'.frame) : noteFrame u env = noteFrame u env' := by
  unfold noteFrame PySem.frameOf
  rw [h]
theorem compFails_of {M : Model} {A : Around} {E : Value → Shared → Prop} {env env' : Env} {u : Value} {s : Shared} (h : env.frame = env'.frame) (hl : env.locals = env'.locals) (x : CompFails M A E env u s) : CompFails M A E env' u s := by
  unfold CompFails PySem.passOn at x ⊢
  rw [h, hl] at x
  exact x
theorem xeB_of {X : Cx} {C : Addr} {cenv : Env} {u : Value} {s : Shared} (hf : cenv.frame = X.env.frame) (hl : cenv.locals = C) (h : notedBy (model X.prog X.w) X.A X.env (fun e s2 => CompFails (model X.prog X.w) X.A X.xe { X.env with locals := C } e s2) u s) : xeB X cenv u s := by
  unfold xeB notedBy at *
  rw [noteFrame_of hf]
  exact wpAny_mono h (fun _ s' h => compFails_of (env := { X.env with locals := C }) hf.symm hl.symm h) fun _ s' h => compFails_of (env := { X.env with locals := C }) hf.symm hl.symm h
/-- the block, with its wish about exceptions -/
abbrev blkR (X : Cx) (scope : Scope) (s : Shared) (H : Hp) (C : Addr) (cl : List (Str × Addr)) (fp : List Addr) : Cx := (blkX X scope s H C cl fp).wish (xeB X (compEnvC scope cl C X.env))
/-- an element that may raise, by a def's call that lets out what W takes -/
def eBR (X : Cx) (W : WX) (scope : Scope) (elt : Expr) : TE := fun σ H Q => ∀ (s : Shared) (H0 : Hp) (C : Addr) (cl : List (Str × Addr)) (fp : List Addr), (∀ E : XK, (∀ cls d σ' H', E cls d H' → W cls d σ' H') → Passes (L2.CX X.prog X.w) (blkR X scope s H0 C cl fp) E) → eX (blkR X scope s H0 C cl fp) elt σ H Q
section
variable {X : Cx}
theorem lc_coreR {W0 : WX} {pins : List (Addr × Obj)} {s : Shared} {σ : Sg} {H : Hp} {Q : VK} {elt tg iter : Expr} {scope : Scope} {own : List (Str × Nat)} {pos pos' : Pos} {wi : TI} {g : TG} {use : Option (Value → Sem Unit)} {Qf : Value → Shared → Prop}
    (hst : X.stack = X.env :: X.outer) (hfr : X.env.frame = some X.env.locals) (tk : Takes X W0)
    (hc : X.calm = true) (hN : X.N.Nodup) (I : Inv X pins σ H s) (hi : PI X tg iter wi) (ok : BlkOk X.N X.env.scope scope own)
    (hg : ∀ (s : Shared) (H : Hp) (C : Addr) (cl : List (Str × Addr)) (fp : List Addr), PG (blkX X scope s H C cl fp) tg g) (hs : ∀ x, foldedSetIterable iter X.env x = pure x)
    (h : tLc wi g tYes (eBR X W0 scope elt) (own.map (·.2)) σ H Q)
    (hRR : ∀ D (cenv : Env) s' m H', Inv X pins σ H' s' → Q (.ref D) H' → s'.heap.Ns cenv.locals m → FpOk X pins H' cenv.locals → compEnds (model X.prog X.w) X.A X.xe use Qf (.ref D) cenv (.ok .next) s') :
    wpAny (model X.prog X.w) X.A (comprehension (.ListComp elt [⟨tg, iter, [], 0⟩] scope pos) scope X.env pos' (newList []) false (eval iter X.env) use) Qf X.xe s := by
  have hfree : ∀ y ∈ scope.names, y.2 = .free → ∃ c, X.env.cells.lookup y.1 = some c := fun y hy e => by
    rcases ok.free y hy e with k | k
    · exact I.ok.has _ (.inl k)
    · exact I.ok.has _ (.inr k)
  refine comprehension_at (use := use) rfl hs (closure_ok hfree) ok.kind (fun y hy e => by rw [ok.uniq y hy, e])
    (thn (hi.run pins s σ H _ I h) fun xv s1 hx => thn hx fun itv s2 h2 => ?_)
  obtain ⟨it, fp, tn, J, H2, e, I2, T, st2, f2, q⟩ := h2
  subst e
  refine wpAny_newObj_type (newEnv_comp ?_) (by show 0 ≤ sizeLine; decide)
  generalize hD : s2.heap.objs.size = D
  have hDn : H2 D = none := I2.hok.fresh (Nat.le_of_eq hD)
  obtain ⟨W, ⟨m0, w0⟩, turn⟩ := q D hDn
  generalize hs3 : ({ s2 with heap := s2.heap.push { cls := .type "list", data := .seq ([] : List Value).toArray } } : Shared) = s3
  have I3 : Inv X pins σ (upd H2 D (.lst [])) s3 := by
    rw [← hs3]
    refine I2.laid (t' := s2.toks) (fun b o e => Heap.get?_push_of_some _ e) (Nat.le_of_eq hD) ⟨Nat.zero_le _, [], 0, .nil, ?_⟩
    rw [← hD]
    exact Heap.get?_push_size _ rfl
  have h3 : s3.heap = s2.heap.push { cls := .type "list", data := .seq ([] : List Value).toArray } := by rw [← hs3]
  have sz : ∀ b ∈ fp, b < s2.heap.objs.size := fun b hb => by
    obtain ⟨o, e, _⟩ := T.obj _ _ st2 b hb
    exact Heap.lt_size e
  have f3 : ∀ b ∈ fp, FpOk X pins (upd H2 D (.lst [])) b ∧ b < s3.heap.objs.size := fun b hb => by
    have hlt := sz b hb
    refine ⟨⟨?_, (f2 b hb).2⟩, by rw [h3, Heap.size_push]; exact Nat.lt_succ_of_lt hlt⟩
    rw [upd_ne (by rw [← hD]; exact Nat.ne_of_lt hlt)]
    exact (f2 b hb).1
  have st3 : tn 0 s3.heap := T.keep _ _ _ st2 fun b _ o e => by rw [h3]; exact Heap.get?_push_of_some _ e
  have I4 := block_start I3 ok hN f3
  have pg := hg s3 (upd H2 D (.lst [])) s3.heap.objs.size (cellsFrom (s3.heap.objs.size + 1) scope.names (cloFrom X.env.cells scope.names [])) fp
  show codeAny _ _ (.compStart (.ListComp elt [⟨tg, iter, [], 0⟩] scope pos) 0 (.ref it) (.ref D) (compEnvC scope (cellsFrom (s3.heap.objs.size + 1) scope.names (cloFrom X.env.cells scope.names [])) s3.heap.objs.size X.env)) (compEnds (model X.prog X.w) X.A X.xe use Qf (.ref D) (compEnvC scope (cellsFrom (s3.heap.objs.size + 1) scope.names (cloFrom X.env.cells scope.names [])) s3.heap.objs.size X.env)) { s3 with heap := pushCells (s3.heap.push { cls := .type "dict", data := .dict #[] }) scope.names }
  have nfp : ∀ b ∈ fp, (upd H2 D (.lst [])) b = none := fun b hb => (f3 b hb).1.1
  generalize hcl : cellsFrom (s3.heap.objs.size + 1) scope.names (cloFrom X.env.cells scope.names []) = clx at I4 pg ⊢
  generalize hH3 : upd H2 D (.lst []) = H3 at I3 I4 pg w0 nfp f3
  generalize hs4 : ({ s3 with heap := pushCells (s3.heap.push { cls := .type "dict", data := .dict #[] }) scope.names } : Shared) = s4 at I4 ⊢
  have st4 : tn 0 s4.heap := T.keep _ _ _ st3 fun b _ o e => by rw [← hs4]; exact pushCells_keeps _ _ _ _ (Heap.get?_push_of_some _ e)
  have stat : ∀ {σ' : Sg} {H' : Hp} {s' : Shared}, Inv (blkX X scope s3 H3 s3.heap.objs.size clx fp) [] σ' H' s' → (∀ b ∈ fp, H' b = none) → ∀ b ∈ fp, FpOk (blkX X scope s3 H3 s3.heap.objs.size clx fp) [] H' b := fun {σ' H' s'} I' hn b hb =>
    ⟨hn b hb, (I'.ok.exf b hb).1, I'.ok.exfs b hb, .inl hb, fun x c e => (I'.ok.exf b hb).2 x c e, fun p hp => absurd (show p ∈ ([] : List (Addr × Obj)) ++ [] from hp) (by simp)⟩
  -- back in the def's context
  have back : ∀ {pn : List (Addr × Obj)} {σ' : Sg} {H' : Hp} {s' : Shared}, Inv (blkX X scope s3 H3 s3.heap.objs.size clx fp) pn σ' H' s' → Inv X pins σ H' s' ∧ FpOk X pins H' s3.heap.objs.size ∧ ∃ m, s'.heap.Ns s3.heap.objs.size m := fun {pn σ' H' s'} I' => by
    have nC : H' s3.heap.objs.size = none := I'.free
    obtain ⟨m, hn, _⟩ := I'.loc
    exact ⟨I3.call' (ch := fp) I'.os I'.base I'.hok I'.bare fun b hb => ⟨(f3 b hb).1.2.2.2.1, (f3 b hb).1.2.1, (f3 b hb).1.2.2.2.2.1, (f3 b hb).1.2.2.2.2.2⟩, I3.fpOk (Nat.le_refl _) nC, m, hn⟩
  have pass : ∀ E : XK, (∀ cls d σ' H', E cls d H' → W0 cls d σ' H') → Passes (L2.CX X.prog X.w) (blkR X scope s3 H3 s3.heap.objs.size clx fp) E := fun E hE pn σ' H' s' u s'' I' c => by
    obtain ⟨J, F, m, hn⟩ := back I'.unwish
    refine xeB_of (C := s3.heap.objs.size) rfl rfl (xe_comp J F (fun hm => ?_) hn hst hfr (fun cls d H'' q => hE cls d σ H'' q) tk c)
    rcases List.mem_cons.mp (J.stkSub _ hm) with z | z
    · exact F.2.1 z
    · exact F.2.2.1 z
  have loop : codeAny (model X.prog X.w) X.A (.compLoop (.ListComp elt [⟨tg, iter, [], 0⟩] scope pos) 0 (.ref it) (.ref D) (compEnvC scope clx s3.heap.objs.size X.env)) (compEnds (model X.prog X.w) X.A X.xe use Qf (.ref D) (compEnvC scope clx s3.heap.objs.size X.env)) s4 := by
    refine compLoop_any (fun n s' => ∃ i H', Inv (blkX X scope s3 H3 s3.heap.objs.size clx fp) [] (wipe σ (own.map (·.2))) H' s' ∧ tn i s'.heap ∧ (∀ b ∈ fp, H' b = none) ∧ W i n H') ?_ m0 ⟨0, H3, I4, st4, nfp, w0⟩
    rintro n s5 ⟨i, H5, I5, st5, n5, w5⟩
    rcases turn i n H5 w5 with ⟨stop, qq⟩ | ⟨go, Nx, hNx, step⟩
    · have td := T.done (blkX X scope s3 H3 s3.heap.objs.size clx fp) rfl rfl rfl hc i [] s5 _ H5 (fun _ _ => False) I5 (stat I5 n5) st5 stop
      refine thnF td fun r s6 ⟨hr, I6⟩ => ?_
      subst hr
      obtain ⟨I7, F7, m, hn⟩ := back I6
      exact hRR D (compEnvC scope clx s3.heap.objs.size X.env) s6 m H5 I7 qq hn F7
    · have ti := T.item (blkX X scope s3 H3 s3.heap.objs.size clx fp) rfl rfl rfl hc i [] s5 _ H5 (fun _ _ => False) I5 (stat I5 n5) st5 go
      refine thnF ti fun r s6 ⟨u, hr, h6⟩ => ?_
      subst hr
      refine thnF h6 fun _ s7 ⟨x, H7, I7, r7, y7, st7, n7⟩ => ?_
      have I7' := I7.pinned (stat I7 n7) (T.obj _ _ st7)
      refine thnF (pg.run _ s7 _ H7 x u _ I7' r7 (step x H7 y7)) fun _ s8 ⟨σ8, H8, I8, hw8, q8⟩ => ?_
      rw [List.forIn_nil]
      refine wpAny_pure ?_
      unfold tYes at q8
      simp only [if_true] at q8 ⊢
      -- the turn's end
      have fin : ∀ {s' : Shared} {H' : Hp}, Inv (blkX X scope s3 H3 s3.heap.objs.size clx fp) ([] ++ pinsAt fp s7.heap) σ8 H' s' → Nx H' → ∃ m, m < n ∧ ∃ i H', Inv (blkX X scope s3 H3 s3.heap.objs.size clx fp) [] (wipe σ (own.map (·.2))) H' s' ∧ tn i s'.heap ∧ (∀ b ∈ fp, H' b = none) ∧ W i m H' := fun {s' H'} I' nx => by
        obtain ⟨m', hm, w'⟩ := hNx H' nx
        have pin' : ∀ b ∈ fp, ∀ o, s7.heap.get? b = some o → s'.heap.get? b = some o ∧ H' b = none := fun b hb o e =>
          let z := I'.pin (b, o) (List.mem_append_right _ (List.mem_append_right _ (mem_pinsAt hb e)))
          ⟨z.1, z.2.1⟩
        have hl : (wipe σ (own.map (·.2))).length = σ8.length := by rw [← hw8, wipe_length]
        refine ⟨m', hm, i + 1, H', (I'.unpinned (pins := [])).weak hl (fun j v e => ?_), T.keep _ _ _ st7 fun b hb o e => (pin' b hb o e).1, fun b hb => ?_, w'⟩
        · rw [← hw8] at e
          exact (wipe_some e).1
        · obtain ⟨o, e, _⟩ := T.obj _ _ st7 b hb
          exact (pin' b hb o e).2
      refine wpAny_mono (q8 s3 H3 s3.heap.objs.size clx fp pass _ s8 (I8.wish _)) (fun z s10 ⟨yv, H10, I10, r10, acc, hD10, hz10, nx⟩ => ?_) fun _ _ z => z
      exact app_ok (X := blkX X scope s3 H3 s3.heap.objs.size clx fp) I10.unwish hD10 hz10 r10 fun s11 I11 => fin I11 nx
  exact codeAny_compStart_list loop (T.self X.A 0 _ _ _ st4 loop)
/-- name = [..] on one line, the name a local, the element may raise -/
theorem s_lcR {W0 : WX} {i : Nat} {y : Str} {py : Pos} {elt tg iter : Expr} {scope : Scope} {own : List (Str × Nat)} {pos spos : Pos} {wi : TI} {g : TG} {σ : Sg} {H : Hp} {D : Ends} (hst : X.stack = X.env :: X.outer) (hfr : X.env.frame = some X.env.locals) (tk : Takes X W0) (hN : X.N.Nodup) (hi : PI X tg iter wi) (ok : BlkOk X.N X.env.scope scope own)
    (hg : ∀ (s : Shared) (H : Hp) (C : Addr) (cl : List (Str × Addr)) (fp : List Addr), PG (blkX X scope s H C cl fp) tg g) (h : tLc wi g tYes (eBR X W0 scope elt) (own.map (·.2)) σ H fun v H1 => D.nx (σ.set i (some v)) H1)
    (hc : X.calm = true := by rfl) (hy : X.N[i]? = some y := by rfl) (hyl : X.env.scope.names.lookup y = some .local := by rfl) (hsw : swapsWith (.ListComp elt [⟨tg, iter, [], 0⟩] scope pos) (some (.Name y py)) spos.line X.env = pure true := by rfl) (hs : ∀ x, foldedSetIterable iter X.env x = pure x := by intro _; rfl) :
    sX X (.Assign [.Name y py] (.ListComp elt [⟨tg, iter, [], 0⟩] scope pos) spos) D σ H := by
  intro pins s I
  rw [exec_Assign_Name_used _ _ _ _ hsw]
  refine wpAny_bind (wpAny_standAt (wpAny_bind ?_))
  show wpAny _ X.A (do let _ ← comprehension (.ListComp elt [⟨tg, iter, [], 0⟩] scope pos) scope X.env (firstIterPos [⟨tg, iter, [], 0⟩] pos) (newList []) false (eval iter X.env) (some (assign (.Name y py) X.env))) _ _ s
  refine wpAny_bind (thn (lc_coreR (Qf := fun _ s' => SP X pins D .next s') hst hfr tk hc hN I hi ok hg hs h fun L cenv s' m H' I' q hn f => ?_) fun _ s' hq => wpAny_pure (wpAny_pure hq))
  show wpAny _ _ (assign (.Name y py) X.env (.ref L)) _ _ _
  refine wpAny_assign_Name (store_ok2 (v := V.ref L) I' hN hy (.inl hyl) rfl (fun s2 I2 ⟨a, sb, ha⟩ => ?_) (.inr hyl))
  obtain ⟨f0, f1, f2, f3, f4, f5⟩ := f
  have haC : cenv.locals ≠ a := by
    rcases ha with z | z
    · rw [z]; exact f1
    · exact fun e => f4 y a z e.symm
  refine ⟨m, hn.sameBut sb haC, fun h3 sb3 => ?_⟩
  exact ⟨_, H', I2.turned (t' := s2.toks) (fun b o hb e => (sb3.2 b hb).trans e) f0 f1 f3 f4 f5, q⟩
end
end K96

set_option Elab.async false
set_option linter.all false
set_option maxRecDepth 100000
set_option maxHeartbeats 4000000
/-! Classes: what the module has of them; fields, methods, making, raising, read straight. -/
namespace K96
open PySem PySem.Spec PyProof.Rows L2 Evl
/-- a class of the module -/
structure Obc (K : Fr) (mg : Str → Option Value) (nm : Str) (C : Addr) (fs : List Str) : Prop where
  g : mg nm = some (.ref C)
  cl : Cls K C
  no : ∀ f ∈ fs, NoAttr K C f
/-- an exception class of the module, over ValueError, with an __init__ -/
structure Obx (K : Fr) (mg : Str → Option Value) (nm : Str) (C fI : Addr) (fs : List Str) : Prop where
  g : mg nm = some (.ref C)
  ox : OexC K C
  ini : PySem.W.findIn K (.ref C) "__init__" = some (some (.ref fI))
  ty : PySem.W.typeIn K (.ref fI) = some (.type "function")
  no : ∀ f ∈ fs, PySem.W.findIn K (.ref C) f = some none
/-- a def at an address -/
structure DfA (K : Fr) (d : He.DefD) (f : Addr) : Prop where
  ex : ∃ (fd : FuncData), FunD K d.name d.qual d.params d.body d.scope [] [] f fd
theorem DfA.ok {P : Program} {w : World} {K : Fr} {mg : Str → Option Value} {base : Heap} {CX : CXT} {d : He.DefD} {f : Addr} {N ps : List Str} {k : Nat} {sp : Sp} (D : DfA K d f) (S : FnScope N ps d.scope) (len : ∀ vs H Q E, sp vs H Q E → vs.length = ps.length)
    (hb : ∀ (kV doc pm : Value) (an : Option Addr) (cdv ct : Value) (us : List Value), us.length = ps.length → bindArgs (PySem.W.fnOf d.name d.qual d.params d.body d.scope .none kV doc pm an cdv ct) ⟨us, []⟩ = pure (ps.zip us))
    (hbody : ∀ (cdv : Value) (A : Around) (outer : List Env) (s : Shared) (H : Hp) (vs : List V) (Q : VK) (E : XK), Room k (A.deeper (envOfC d.qual d.scope s.heap.objs.size f cdv)) → sp vs H Q E →
      bX (cxOf CX P w K mg base N d.qual d.scope f cdv A outer s H E) d.body { nx := fun _ H' => Q .non H', rt := Q } (L2.start N vs) H) : ∃ fd, FnOk P w K mg base CX (k + 1) f fd ps sp ∧ Binds K fd ps [] := by
  obtain ⟨fd, F⟩ := D.ex
  exact ⟨fd, F.ok S len fun cdv A outer s H vs Q E hr h => ⟨_, pb_X, hbody cdv A outer s H vs Q E hr h⟩, F.bindsN hb⟩
theorem DfA.fn {P : Program} {w : World} {K : Fr} {mg : Str → Option Value} {base : Heap} {CX : CXT} {d : He.DefD} {f : Addr} {N ps : List Str} {k : Nat} {sp : Sp} (D : DfA K d f) (S : FnScope N ps d.scope) (len : ∀ vs H Q E, sp vs H Q E → vs.length = ps.length)
    (hb : ∀ (kV doc pm : Value) (an : Option Addr) (cdv ct : Value) (us : List Value), us.length = ps.length → bindArgs (PySem.W.fnOf d.name d.qual d.params d.body d.scope .none kV doc pm an cdv ct) ⟨us, []⟩ = pure (ps.zip us))
    (hbody : ∀ (cdv : Value) (A : Around) (outer : List Env) (s : Shared) (H : Hp) (vs : List V) (Q : VK) (E : XK), Room k (A.deeper (envOfC d.qual d.scope s.heap.objs.size f cdv)) → sp vs H Q E →
      bX (cxOf CX P w K mg base N d.qual d.scope f cdv A outer s H E) d.body { nx := fun _ H' => Q .non H', rt := Q } (L2.start N vs) H) : FnR P w K mg base CX (k + 1) f sp := by
  obtain ⟨fd, F, b⟩ := D.ok (P := P) (w := w) (mg := mg) (base := base) (CX := CX) S len hb hbody
  refine (F.raw b .nil).imp fun vs H Q E h => ?_
  rw [List.append_nil]
  exact h
/-- a method's promise -/
structure Mt (P : Program) (w : World) (K : Fr) (mg : Str → Option Value) (base : Heap) (CX : CXT) (k : Nat) (C : Addr) (m : Str) (sp : Sp) : Prop where
  ex : ∃ f, Meth K C m f ∧ FnR P w K mg base CX k f sp
/-- a class's making -/
structure Ini (P : Program) (w : World) (K : Fr) (mg : Str → Option Value) (base : Heap) (CX : CXT) (k : Nat) (nm : Str) (C : Addr) (sp : Sp) : Prop where
  ex : ∃ f, Mk K C f ∧ mg nm = some (.ref C) ∧ FnR P w K mg base CX k f sp
/-- an exception's making -/
structure Exi (P : Program) (w : World) (K : Fr) (mg : Str → Option Value) (base : Heap) (k : Nat) (nm : Str) (C : Addr) (sp : Sp) : Prop where
  ex : ∃ (fI : Addr) (fs : List Str) (fd : FuncData) (ps : List Str), Obx K mg nm C fI fs ∧ FnOk P w K mg base CX0 k fI fd ps sp ∧ Binds K fd ps []
section
variable {X : Cx} {e o a b : Expr} {es : List Expr} {pos apos p : Pos} {σ : Sg} {H : Hp} {Q : VK} {D : Ends} {f m nm : Str} {C x dx : Addr} {fs : List (Str × V)} {v y : V}
/-- o.f -/
theorem ev_fld (ho : EV X o σ H (.ref x)) (hx : H x = some (.ins C dx fs)) (c : Cls X.K C) (n : NoAttr X.K C f) (hl : fs.lookup f = some v) (hb : attributeBase o f X.env (eval o X.env) = eval o X.env := by rfl) : EV X (.Attribute o f pos) σ H v :=
  ev_of (pe_fld pe_X hb) fun H1 e1 Q q => ho H1 e1 _ fun H2 e2 => ⟨x, C, dx, fs, v, rfl, e2 _ _ (e1 _ _ hx), c, n, hl, q H2 e2⟩
/-- o.f = e -/
theorem s_fld (hv : eX X e σ H fun y H1 => ∃ fs, EV X o σ H1 (.ref x) ∧ H1 x = some (.ins C dx fs) ∧ fs.length < 1000 ∧ ∀ H2, Ex H1 H2 → D.nx σ (upd H2 x (.ins C dx (putF f y fs)))) (c : Cls X.K C) (n : NoAttr X.K C f) (hs : swapsWith e (some (.Attribute o f apos)) pos.line X.env = pure false := by rfl) :
    sX X (.Assign [.Attribute o f apos] e pos) D σ H :=
  sX_of (ps_fld pe_X pe_X hs) (eX_mono hv fun y H1 ⟨fs, ho, hx, hl, k⟩ => ho H1 (Ex.refl H1) _ fun H2 e2 => ⟨x, C, dx, fs, rfl, e2 _ _ hx, c, n, hl, k H2 e2⟩)
/-- o.m(e, ..) -/
theorem e_meth {CX : CXT} {E : XK} {k j : Nat} {sp : Sp} {pl : Sem Bool} (M : Mt X.prog X.w X.K X.mg X.base CX k C m sp) (c : Cls X.K C) (hr : Room j X.A) (hk : k ≤ j) (hx : Passes CX X E) (ho : EV X o σ H (.ref x)) (h0 : H x = some (.ins C dx fs)) (hn : fs.lookup m = none)
    (ha : ∀ H1, Ex H H1 → aX X (e :: es) σ H1 fun vs H2 => sp (.ref x :: vs) H2 Q E) (hst : starEach (e :: es) X.env = (false, eval e X.env) :: starEach es X.env := by rfl) (hpl : (backTo pos (starEach es X.env)).any (·.1) = false := by rfl)
    (ht : eval (.Call (.Attribute o m apos) (e :: es) [] pos) X.env = (do
      let ov ← eval o X.env
      standAt apos.atName
      let (f, first) ← holding [ov] (getMethod ov m pl)
      callWith pos f first (backTo pos (starEach (e :: es) X.env)) (backToKw pos (keywordEach [] X.env))) := by rfl) : eX X (.Call (.Attribute o m apos) (e :: es) [] pos) σ H Q := by
  obtain ⟨f, hm, F⟩ := M.ex
  exact eX_of (pe_methR pe_X c hm F (hr.mono hk) hx pa_X hst hpl ht) (ho H (Ex.refl H) _ fun H1 e1 => ⟨x, dx, fs, rfl, e1 _ _ h0, hn, ha H1 e1⟩)
/-- o.m() -/
theorem pe_methR0 {CX : CXT} {k : Nat} {g : Addr} {sp : Sp} {E : XK} {ta : TE} {pl : Sem Bool} (he : PE X o ta) (c : Cls X.K C) (hm : Meth X.K C m g) (F : FnR X.prog X.w X.K X.mg X.base CX k g sp) (hr : Room k X.A) (hx : Passes CX X E)
    (ht : eval (.Call (.Attribute o m apos) [] [] pos) X.env = (do
      let ov ← eval o X.env
      standAt apos.atName
      let (f, first) ← holding [ov] (getMethod ov m pl)
      callWith pos f first (backTo pos (starEach [] X.env)) (backToKw pos (keywordEach [] X.env))) := by rfl) :
    PE X (.Call (.Attribute o m apos) [] [] pos) (tMethR C m sp E ta tNil) := by
  refine ⟨fun pins s σ H Q I h => ?_⟩
  refine PySem.W.methodCall_KW (pl := pl) (thn (he.run pins s σ H _ I h) fun u s1 ⟨x, H1, I1, rx, a, dx, fs, ex, ea, l, q⟩ => ?_) ht
  subst ex
  obtain rfl : u = Value.ref a := rx
  refine getmeth_ok I1 ea c hm l ?_
  exact PySem.W.callWith_K0 (first := [.ref a]) I1.kIn hm.kp (wpAny_call (run_fnR (us := [.ref a]) (vs := [.ref a]) F hr hx I1 (.cons rfl .nil) q))
theorem e_meth0 {CX : CXT} {E : XK} {k j : Nat} {sp : Sp} {pl : Sem Bool} (M : Mt X.prog X.w X.K X.mg X.base CX k C m sp) (c : Cls X.K C) (hr : Room j X.A) (hk : k ≤ j) (hx : Passes CX X E) (ho : EV X o σ H (.ref x)) (h0 : H x = some (.ins C dx fs)) (hn : fs.lookup m = none)
    (ha : ∀ H1, Ex H H1 → sp [.ref x] H1 Q E)
    (ht : eval (.Call (.Attribute o m apos) [] [] pos) X.env = (do
      let ov ← eval o X.env
      standAt apos.atName
      let (f, first) ← holding [ov] (getMethod ov m pl)
      callWith pos f first (backTo pos (starEach [] X.env)) (backToKw pos (keywordEach [] X.env))) := by rfl) : eX X (.Call (.Attribute o m apos) [] [] pos) σ H Q := by
  obtain ⟨f, hm, F⟩ := M.ex
  exact eX_of (pe_methR0 pe_X c hm F (hr.mono hk) hx ht) (ho H (Ex.refl H) _ fun H1 e1 => ⟨x, dx, fs, rfl, e1 _ _ h0, hn, ha H1 e1⟩)
/-- C(e, ..) -/
theorem e_make {CX : CXT} {E : XK} {k j : Nat} {sp : Sp} (M : Ini X.prog X.w X.K X.mg X.base CX k nm C sp) (hr : Room j X.A) (hk : k + 1 ≤ j) (hx : Passes CX X E)
    (ha : aX X (e :: es) σ H fun vs H1 => ∀ x dx, H1 x = none → H1 dx = none → dx ≠ x → sp (.ref x :: vs) (upd (upd H1 dx (.own x)) x (.ins C dx [])) (fun v H2 => v = .non ∧ Q (.ref x) H2) E)
    (hg : Gl X nm := by rfl) (hdb : (nm == ("__debug__" : Str)) = false := by decide) (he : starEach (e :: es) X.env = (false, eval e X.env) :: starEach es X.env := by rfl) (hpl : (backTo pos (starEach es X.env)).any (·.1) = false := by rfl) :
    eX X (.Call (.Name nm p) (e :: es) [] pos) σ H Q := by
  obtain ⟨f, M, g, F⟩ := M.ex
  exact eX_of (StX.pe_makeR M F (hr.mono hk) hg g hx pa_X hdb he hpl) ha
/-- raise C(e, ..) -/
theorem s_raise {W : WX} {k j : Nat} {sp : Sp} {rpos : Pos} (M : Exi X.prog X.w X.K X.mg X.base k nm C sp) (hr : Room j X.A) (hk : k + 1 ≤ j) (tk : Takes X W)
    (ha : aX X (e :: es) σ H fun vs H1 => vs.length ≤ 1000 ∧ ∀ a, H1 a = none → sp (.ref a :: vs) (upd H1 a (exo a C none)) (fun v H2 => v = .non ∧ ∃ (d : Addr) (fs : List (Str × V)), H2 a = some (exo a C (some d)) ∧ H2 d = some (exd d fs) ∧ H1 d = none ∧ W (.ref C) (some d) σ (upd (del H2 a) d (.xd fs))) fun _ _ _ => False)
    (hc : X.calm = true := by rfl) (hg : Gl X nm := by rfl) (hdb : (nm == ("__debug__" : Str)) = false := by decide) (he : starEach (e :: es) X.env = (false, eval e X.env) :: starEach es X.env := by rfl) (hpl : (backTo pos (starEach es X.env)).any (·.1) = false := by rfl) :
    sX X (.Raise (some (.Call (.Name nm p) (e :: es) [] pos)) none rpos) D σ H := by
  obtain ⟨fI, fn, fd, ps, O, F, b⟩ := M.ex
  refine sX_of (ps_raise hc tk (pmk_oex O.ox O.ini O.ty F (hr.mono hk) b .nil pass0 hg O.g pa_X hdb he hpl)) ?_
  refine (show aX X (e :: es) σ H _ from ?_)
  intro ps pins s I
  refine thn (ha ps pins s I) fun us s' ⟨vs, H', J, r, hl, q⟩ => ⟨vs, H', J, r, hl, fun a hn => ?_⟩
  rw [List.append_nil]
  exact q a hn
end
end K96

set_option Elab.async false
set_option linter.all false
set_option maxRecDepth 100000
set_option maxHeartbeats 4000000
/-! BadText, BadValue, Scan. -/
namespace K96
open PySem PySem.Spec PyProof.Rows L2 Evl
section
variable {X : Cx} {e o a b : Expr} {es : List Expr} {pos apos p : Pos} {σ : Sg} {H : Hp} {Q : VK} {D : Ends} {f m nm : Str} {C x dx : Addr} {fs : List (Str × V)} {v y : V}
theorem s_ost1 (T : OexC X.K C) (n : PySem.W.findIn X.K (.ref C) f = some none) (hv : EV X e σ H y) (ho : EV X o σ H (.ref x)) (hx : H x = some (exo x C none)) (k : ∀ dx H1, Ex H H1 → H1 dx = none → dx ≠ x → D.nx σ (upd (upd H1 dx (exd dx [(f, y)])) x (exo x C (some dx))))
    (hs : swapsWith e (some (.Attribute o f apos)) pos.line X.env = pure false := by rfl) : sX X (.Assign [.Attribute o f apos] e pos) D σ H :=
  sX_of (ps_ost pe_X pe_X hs) (hv H (Ex.refl H) _ fun H1 e1 => ho H1 e1 _ fun H2 e2 => ⟨x, C, rfl, T, n, .inl ⟨e2 _ _ (e1 _ _ hx), fun dx hn hne => k dx H2 (e1.trans e2) hn hne⟩⟩)
theorem s_ost2 (T : OexC X.K C) (n : PySem.W.findIn X.K (.ref C) f = some none) (hv : EV X e σ H y) (ho : EV X o σ H (.ref x)) (hx : H x = some (exo x C (some dx))) (hd : H dx = some (exd dx fs)) (hl : fs.length ≤ 900) (k : ∀ H1, Ex H H1 → D.nx σ (upd H1 dx (exd dx ((f, y) :: fs))))
    (hs : swapsWith e (some (.Attribute o f apos)) pos.line X.env = pure false := by rfl) : sX X (.Assign [.Attribute o f apos] e pos) D σ H :=
  sX_of (ps_ost pe_X pe_X hs) (hv H (Ex.refl H) _ fun H1 e1 => ho H1 e1 _ fun H2 e2 => ⟨x, C, rfl, T, n, .inr ⟨dx, fs, e2 _ _ (e1 _ _ hx), e2 _ _ (e1 _ _ hd), hl, k H2 (e1.trans e2)⟩⟩)
/-- xs[i], xs a list -/
theorem ev_ixL {d : Addr} {xs : List V} {i : Int} (ha : EV X a σ H (.ref d)) (hb : EV X b σ H (.int i)) (hd : SqL X.K H d xs) (hi : atI xs i = some v) (hs : PlainIx b := by intro _ _; rfl) : EV X (.Subscript a b pos) σ H v :=
  ev_of (pe_ix ix_list pe_X pe_X hs) (ev_op ha hb (rv_ixL hd hi))
theorem ev_lenL {d : Addr} {xs : List V} (hm : X.mg "len" = none) (ha : EV X a σ H (.ref d)) (hd : SqL X.K H d xs ∨ SqT X.K H d xs) (hg : Gl X ("len" : Str) := by rfl) (he : starEach [a] X.env = (false, eval a X.env) :: starEach [] X.env := by rfl) (hpl : (backTo pos (starEach [] X.env)).any (·.1) = false := by rfl) : EV X (.Call (.Name "len" p) [a] [] pos) σ H (.int xs.length) :=
  ev_fun call_len_seq hm (ea_cons ha ea_nil he) (fun H1 e1 Q q => ⟨d, xs, rfl, hd.imp (ex_l e1) (ex_t e1), q H1 (Ex.refl H1)⟩) (by decide +kernel) hg (by decide) (by decide) he hpl
end
theorem atI_nat {α : Type} {xs : List α} {i : Nat} (h : i < xs.length) : atI xs (i : Int) = xs[i]? := by
  unfold atI
  rw [ixN_nat h]
  rfl
/-- all stands but what is at p -/
def But (p : Addr) (H H' : Hp) : Prop := ∀ b o, b ≠ p → H b = some o → H' b = some o
theorem ebut {p : Addr} {H H' : Hp} (e : Ex H H') : But p H H' := fun b o _ h => e b o h
theorem But.trans {p : Addr} {H H1 H2 : Hp} (a : But p H H1) (b : But p H1 H2) : But p H H2 := fun x o n h => b x o n (a x o n h)
theorem But.upd {p : Addr} {H : Hp} {o : HO} : But p H (L2.upd H p o) := fun b u n h => by
  rw [upd_ne n]
  exact h
/-- the error's dict -/
def btD (l i : Int) : HO := .xd [("word", .int i), ("line", .int l)]
/-- BadText(l, i), with nothing changed but at p -/
def Bad (A : Adr) (p : Addr) (H : Hp) (E : XK) (l i : Int) : Prop := ∀ d H', H d = none → But p H H' → H' d = some (btD l i) → E (.ref A.bt) (some d) H'
theorem Bad.of {A : Adr} {p : Addr} {H H1 : Hp} {E : XK} {l i : Int} (h : Bad A p H E l i) (b : But p H H1) (hp : ∃ o, H1 p = some o) : Bad A p H1 E l i := fun d H' hn hb hd => by
  refine h d H' ?_ (b.trans hb) hd
  cases z : H d with
  | none => rfl
  | some o =>
    by_cases hdp : d = p
    · obtain ⟨o', ho⟩ := hp
      rw [← hdp, hn] at ho
      cases ho
    · rw [b d o hdp z] at hn
      cases hn
/-- a Scan -/
structure ScanO (A : Adr) (H : Hp) (p d : Addr) (ws : List Str) (l : Int) (i : Nat) : Prop where
  ob : ∃ dx, H p = some (.ins A.scan dx [("words", .ref d), ("line", .int l), ("at", .int (i : Int))])
  ls : H d = some (.lst (ws.map V.str))
  hi : i ≤ ws.length
  hn : ws.length ≤ 100000
  hw : ∀ w ∈ ws, w.length ≤ 100000
theorem ScanO.ex {A : Adr} {H H' : Hp} {p d : Addr} {ws : List Str} {l : Int} {i : Nat} (S : ScanO A H p d ws l i) (e : Ex H H') : ScanO A H' p d ws l i :=
  ⟨S.ob.imp fun _ h => e _ _ h, e _ _ S.ls, S.hi, S.hn, S.hw⟩
theorem ScanO.ne {A : Adr} {H : Hp} {p d : Addr} {ws : List Str} {l : Int} {i : Nat} (S : ScanO A H p d ws l i) : d ≠ p := fun e => by
  obtain ⟨dx, h⟩ := S.ob
  have := S.ls
  rw [e, h] at this
  cases this
theorem putAt {d : Addr} {l i j : Int} : putF "at" (.int j) ([("words", V.ref d), ("line", .int l), ("at", .int i)] : List (Str × V)) = ([("words", V.ref d), ("line", .int l), ("at", .int j)] : List (Str × V)) := by
  have h1 : ¬ (("words" : Str) = "at") := by decide +kernel
  have h2 : ¬ (("line" : Str) = "at") := by decide +kernel
  show (if ("words" : Str) = "at" then _ else (("words" : Str), V.ref d) :: (if ("line" : Str) = "at" then _ else (("line" : Str), V.int l) :: (if ("at" : Str) = "at" then [(("at" : Str), V.int j)] else [(("at" : Str), V.int i)]))) = _
  rw [if_neg h1, if_neg h2, if_pos rfl]
def aheadV (ws : List Str) (i : Nat) : V := match ws[i]? with
  | some w => .str w
  | none => .non
def spBT (A : Adr) : Sp := fun vs H Q _ => ∃ a l i, vs = [.ref a, .int l, .int i] ∧ H a = some (exo a A.bt none) ∧ ∀ d H', H d = none → d ≠ a → (∀ b o, b ≠ a → H b = some o → H' b = some o) → H' a = some (exo a A.bt (some d)) → H' d = some (exd d [("word", .int i), ("line", .int l)]) → Q .non H'
def spAhead (A : Adr) : Sp := fun vs H Q _ => ∃ p d ws l i, vs = [.ref p] ∧ ScanO A H p d ws l i ∧ Gives (aheadV ws i) H Q
def spRefuse (A : Adr) : Sp := fun vs H _ E => ∃ p d ws l i, vs = [.ref p] ∧ ScanO A H p d ws l i ∧ Bad A p H E l i
def spTake (A : Adr) : Sp := fun vs H Q E => ∃ p d ws l i, vs = [.ref p] ∧ ScanO A H p d ws l i ∧ (∀ w H', ws[i]? = some w → But p H H' → ScanO A H' p d ws l (i + 1) → Q (.str w) H') ∧ (i = ws.length → Bad A p H E l i)
def spFinish (A : Adr) : Sp := fun vs H Q E => ∃ p d ws l i, vs = [.ref p] ∧ ScanO A H p d ws l i ∧ (i = ws.length → Gives .non H Q) ∧ (i < ws.length → Bad A p H E l i)
section
variable {P : Program} {w : World} {K : Fr} {mg : Str → Option Value} {base : Heap} {A : Adr}
theorem ok_BT {fI : Addr} {fs : List Str} (O : Obx K mg "BadText" A.bt fI fs) (hl : ("line" : Str) ∈ fs) (hw : ("word" : Str) ∈ fs) (D : DfA K d_BadText_init fI) : Exi P w K mg base 1 "BadText" A.bt (spBT A) := by
  have key : ∃ fd, FnOk P w K mg base CX0 1 fI fd ["self", "line", "word"] (spBT A) ∧ Binds K fd ["self", "line", "word"] [] := by
    refine D.ok sc_BadText_init (fun vs H Q E h => ?_) (fun _ _ _ _ _ _ us hl => match us, hl with | [_, _, _], _ => rfl) fun cdv Ar outer s H vs Q E hr h => ?_
    · obtain ⟨a, l, i, rfl, _⟩ := h
      rfl
    obtain ⟨a, l, i, rfl, ha, k⟩ := h
    refine b_cons (s_ost1 O.ox (O.no _ hl) (ev_name 1 rfl) (ev_name 0 rfl) ha fun dx H1 e1 hn hne => ?_)
    refine b_one (s_ost2 (dx := dx) O.ox (O.no _ hw) (ev_name 2 rfl) (ev_name 0 rfl) upd_same (by rw [upd_ne hne]; exact upd_same) (by show 1 ≤ 900; decide) fun H2 e2 => ?_)
    have h2a : H2 a = some (exo a A.bt (some dx)) := e2 _ _ upd_same
    refine k dx _ (fresh_back e1 hn) hne (fun b o hb ho => ?_) (by rw [upd_ne (Ne.symm hne)]; exact h2a) upd_same
    have hbd : b ≠ dx := fun z => by
      rw [z, fresh_back e1 hn] at ho
      cases ho
    rw [upd_ne hbd]
    refine e2 _ _ ?_
    rw [upd_ne hb, upd_ne hbd]
    exact e1 _ _ ho
  obtain ⟨fd, F, b⟩ := key
  exact ⟨fI, fs, fd, _, O, F, b⟩
theorem ok_ahead (T : Txt K mg) (O : Obc K mg "Scan" A.scan scanF) {f : Addr} (M : Meth K A.scan "ahead" f) (D : DfA K d_Scan_ahead f) : Mt P w K mg base CX0 1 A.scan "ahead" (spAhead A) := by
  refine ⟨f, M, D.fn sc_Scan_ahead (fun vs H Q E h => ?_) (fun _ _ _ _ _ _ us hl => match us, hl with | [_], _ => rfl) fun cdv Ar outer s H vs Q E hr h => ?_⟩
  · obtain ⟨p, d, ws, l, i, rfl, _⟩ := h
    rfl
  obtain ⟨p, d, ws, l, i, rfl, S, k⟩ := h
  obtain ⟨dx, hp⟩ := S.ob
  refine b_one (s_ret (v := aheadV ws i) (ev_ife (k := decide ((i : Int) < ((ws.map V.str).length : Int))) (et_cmp op_lt (ev_fld (ev_name 0 rfl) hp O.cl (O.no "at" (by decide)) rfl) (ev_lenL (T.f "len") (ev_fld (ev_name 0 rfl) hp O.cl (O.no "words" (by decide)) rfl) (.inl (sq_of S.ls))) rv_I0) (fun hb => ?_) fun hb => ?_) k)
  · have hi : i < ws.length := by
      have := of_decide_eq_true hb
      rw [List.length_map] at this
      omega
    refine ev_ixL (ev_fld (ev_name 0 rfl) hp O.cl (O.no "words" (by decide)) rfl) (ev_fld (ev_name 0 rfl) hp O.cl (O.no "at" (by decide)) rfl) (sq_of S.ls) ?_
    rw [atI_nat (by rw [List.length_map]; exact hi), List.getElem?_map]
    unfold aheadV
    rw [List.getElem?_eq_getElem hi]
    rfl
  · have hi : ws.length ≤ i := by
      have := of_decide_eq_false hb
      rw [List.length_map] at this
      omega
    have e : aheadV ws i = .non := by
      unfold aheadV
      rw [List.getElem?_eq_none_iff.mpr hi]
    rw [e]
    exact ev_non
/-- a raise of BadText: what its way out is -/
theorem s_refused {X : Cx} {W : WX} {j : Nat} {e1 e2 : Expr} {pos p rpos : Pos} {σ : Sg} {H : Hp} {D : Ends} {l i : Int} (M : Exi X.prog X.w X.K X.mg X.base 1 "BadText" A.bt (spBT A)) (hr : Room j X.A) (hk : 2 ≤ j) (tk : Takes X W) (h1 : EV X e1 σ H (.int l)) (h2 : EV X e2 σ H (.int i)) (k : ∀ d H', H d = none → Ex H H' → H' d = some (btD l i) → W (.ref A.bt) (some d) σ H')
    (hc : X.calm = true := by rfl) (hg : Gl X ("BadText" : Str) := by rfl) (s1 : starEach [e1, e2] X.env = (false, eval e1 X.env) :: starEach [e2] X.env := by rfl) (s2 : starEach [e2] X.env = (false, eval e2 X.env) :: starEach [] X.env := by rfl) (hpl : (backTo pos (starEach [e2] X.env)).any (·.1) = false := by rfl) :
    sX X (.Raise (some (.Call (.Name "BadText" p) [e1, e2] [] pos)) none rpos) D σ H := by
  refine s_raise M hr hk tk (a_cons (eX_ev h1 fun H1 e1 => a_cons (eX_ev (fun H2 e2 => h2 H2 (e1.trans e2)) fun H2 e2 => a_nil ⟨by show 2 ≤ 1000; decide, fun a hn => ?_⟩) s2) s1) hc hg (by decide) s1 hpl
  refine ⟨a, l, i, rfl, upd_same, fun d H' hd hda kp ha' hd' => ⟨rfl, d, _, ha', hd', ?_, ?_⟩⟩
  · rw [upd_ne hda] at hd
    exact hd
  · rw [upd_ne hda] at hd
    refine k d _ (fresh_back (e1.trans e2) hd) (fun b o hb => ?_) upd_same
    have h0 := e2 _ _ (e1 _ _ hb)
    have hba : b ≠ a := fun z => by rw [z, hn] at h0; cases h0
    have hbd : b ≠ d := fun z => by rw [z, hd] at h0; cases h0
    rw [upd_ne hbd, del_ne hba]
    exact kp b o hba (by rw [upd_ne hba]; exact h0)
theorem ok_refuse (O : Obc K mg "Scan" A.scan scanF) (B : Exi P w K mg base 1 "BadText" A.bt (spBT A)) {f : Addr} (M : Meth K A.scan "refuse" f) (D : DfA K d_Scan_refuse f) : Mt P w K mg base (L2.CX P w) 3 A.scan "refuse" (spRefuse A) := by
  refine ⟨f, M, D.fn sc_Scan_refuse (fun vs H Q E h => ?_) (fun _ _ _ _ _ _ us hl => match us, hl with | [_], _ => rfl) fun cdv Ar outer s H vs Q E hr h => ?_⟩
  · obtain ⟨p, d, ws, l, i, rfl, _⟩ := h
    rfl
  obtain ⟨p, d, ws, l, i, rfl, S, k⟩ := h
  obtain ⟨dx, hp⟩ := S.ob
  refine b_one (s_refused B hr (by decide) (takes_of rfl rfl rfl rfl) (ev_fld (ev_name 0 rfl) hp O.cl (O.no "line" (by decide)) rfl) (ev_fld (ev_name 0 rfl) hp O.cl (O.no "at" (by decide)) rfl) fun e H' hn ex he => k e H' hn (ebut ex) he)
theorem scanNo : (m : Str) → m ∈ (["ahead", "refuse", "take", "take_just", "take_signed", "finish"] : List Str) → ∀ (d : Addr) (l i : Int), ([("words", V.ref d), ("line", .int l), ("at", .int i)] : List (Str × V)).lookup m = none := fun m h d l i => by
  have h1 : ¬ m = "words" := fun e => by subst e; revert h; decide +kernel
  have h2 : ¬ m = "line" := fun e => by subst e; revert h; decide +kernel
  have h3 : ¬ m = "at" := fun e => by subst e; revert h; decide +kernel
  rw [lookup_put, if_neg h1, lookup_put, if_neg h2, lookup_put, if_neg h3]
  rfl
theorem ok_take (T : Txt K mg) (O : Obc K mg "Scan" A.scan scanF) (R : Mt P w K mg base (L2.CX P w) 3 A.scan "refuse" (spRefuse A)) {f : Addr} (M : Meth K A.scan "take" f) (D : DfA K d_Scan_take f) : Mt P w K mg base (L2.CX P w) 4 A.scan "take" (spTake A) := by
  refine ⟨f, M, D.fn sc_Scan_take (fun vs H Q E h => ?_) (fun _ _ _ _ _ _ us hl => match us, hl with | [_], _ => rfl) fun cdv Ar outer s H vs Q E hr h => ?_⟩
  · obtain ⟨p, d, ws, l, i, rfl, _⟩ := h
    rfl
  obtain ⟨p, d, ws, l, i, rfl, S, k1, k2⟩ := h
  obtain ⟨dx, hp⟩ := S.ob
  have nn := scanNo "refuse" (by decide +kernel) d l i
  -- if self.at == len(self.words): self.refuse()
  refine b_cons (s_if (k := decide (V.int (i : Int) = V.int ((ws.map V.str).length : Int))) (et_cmp op_eq (ev_fld (ev_name 0 rfl) hp O.cl (O.no "at" (by decide)) rfl) (ev_lenL (T.f "len") (ev_fld (ev_name 0 rfl) hp O.cl (O.no "words" (by decide)) rfl) (.inl (sq_of S.ls))) (rv_eq rfl)) (fun hb H1 e1 => ?_) fun hb H1 e1 => b_nil ?_)
  · have hi : i = ws.length := by
      have := V.int.inj (of_decide_eq_true hb)
      rw [List.length_map] at this
      omega
    refine b_one (s_expr (e_meth0 R O.cl hr (by decide) (passes_call (takes_of rfl rfl rfl rfl) fun _ _ _ _ h => h) (ev_name 0 rfl) (e1 _ _ hp) nn fun H2 e2 => ?_))
    exact ⟨p, d, ws, l, i, rfl, S.ex (e1.trans e2), (k2 hi).of (ebut (e1.trans e2)) ⟨_, (e1.trans e2) _ _ hp⟩⟩
  · have hi : i < ws.length := by
      have h0 := of_decide_eq_false hb
      have h1 := S.hi
      rcases Nat.lt_or_ge i ws.length with q | q
      · exact q
      · have : i = ws.length := by omega
        exact absurd (by rw [this, List.length_map]) h0
    -- self.at = self.at + 1
    refine b_cons (s_fld (x := p) (C := A.scan) (dx := dx) (eX_ev (ev_bin op_add (ev_fld (ev_name 0 rfl) (e1 _ _ hp) O.cl (O.no "at" (by decide)) rfl) ev_int rv_I0) fun H2 e2 => ⟨_, ev_name 0 rfl, e2 _ _ (e1 _ _ hp), by show 3 < 1000; decide, fun H3 e3 => ?_⟩) O.cl (O.no "at" (by decide)))
    rw [putAt]
    have E3 := (e1.trans e2).trans e3
    have hp4 : upd H3 p (.ins A.scan dx [("words", V.ref d), ("line", .int l), ("at", .int ((i : Int) + 1))]) p = some (.ins A.scan dx [("words", V.ref d), ("line", .int l), ("at", .int ((i : Int) + 1))]) := upd_same
    have hd4 : upd H3 p (.ins A.scan dx [("words", V.ref d), ("line", .int l), ("at", .int ((i : Int) + 1))]) d = some (.lst (ws.map V.str)) := by
      rw [upd_ne S.ne]
      exact E3 _ _ S.ls
    -- return self.words[self.at - 1]
    refine b_one (s_ret (v := .str ws[i]) (ev_ixL (i := ((i : Int) + 1) - 1) (ev_fld (ev_name 0 rfl) hp4 O.cl (O.no "words" (by decide)) rfl) (ev_bin op_sub (ev_fld (ev_name 0 rfl) hp4 O.cl (O.no "at" (by decide)) rfl) ev_int rv_I0) (sq_of hd4) ?_) fun H5 e5 => ?_)
    · have : ((i : Int) + 1) - 1 = (i : Int) := by omega
      rw [this, atI_nat (by rw [List.length_map]; exact hi), List.getElem?_map, List.getElem?_eq_getElem hi]
      rfl
    · refine k1 _ H5 (List.getElem?_eq_getElem hi) (((ebut E3).trans But.upd).trans (ebut e5)) ⟨⟨dx, ?_⟩, e5 _ _ hd4, hi, S.hn, S.hw⟩
      have := e5 _ _ hp4
      rw [this]
      rfl
theorem ok_finish (T : Txt K mg) (O : Obc K mg "Scan" A.scan scanF) (R : Mt P w K mg base (L2.CX P w) 3 A.scan "refuse" (spRefuse A)) {f : Addr} (M : Meth K A.scan "finish" f) (D : DfA K d_Scan_finish f) : Mt P w K mg base (L2.CX P w) 4 A.scan "finish" (spFinish A) := by
  refine ⟨f, M, D.fn sc_Scan_finish (fun vs H Q E h => ?_) (fun _ _ _ _ _ _ us hl => match us, hl with | [_], _ => rfl) fun cdv Ar outer s H vs Q E hr h => ?_⟩
  · obtain ⟨p, d, ws, l, i, rfl, _⟩ := h
    rfl
  obtain ⟨p, d, ws, l, i, rfl, S, k1, k2⟩ := h
  obtain ⟨dx, hp⟩ := S.ob
  have nn := scanNo "refuse" (by decide +kernel) d l i
  refine b_one (s_if (k := decide ((i : Int) < ((ws.map V.str).length : Int))) (et_cmp op_lt (ev_fld (ev_name 0 rfl) hp O.cl (O.no "at" (by decide)) rfl) (ev_lenL (T.f "len") (ev_fld (ev_name 0 rfl) hp O.cl (O.no "words" (by decide)) rfl) (.inl (sq_of S.ls))) rv_I0) (fun hb H1 e1 => ?_) fun hb H1 e1 => b_nil ?_)
  · have hi : i < ws.length := by
      have := of_decide_eq_true hb
      rw [List.length_map] at this
      omega
    refine b_one (s_expr (e_meth0 R O.cl hr (by decide) (passes_call (takes_of rfl rfl rfl rfl) fun _ _ _ _ h => h) (ev_name 0 rfl) (e1 _ _ hp) nn fun H2 e2 => ?_))
    exact ⟨p, d, ws, l, i, rfl, S.ex (e1.trans e2), (k2 hi).of (ebut (e1.trans e2)) ⟨_, (e1.trans e2) _ _ hp⟩⟩
  · have hi : i = ws.length := by
      have := of_decide_eq_false hb
      rw [List.length_map] at this
      have := S.hi
      omega
    exact k1 hi H1 e1
end
end K96

set_option Elab.async false
set_option linter.all false
set_option maxRecDepth 100000
set_option maxHeartbeats 4000000
/-! take_signed, take_single. -/
namespace K96
open PySem PySem.Spec PyProof.Rows L2 Evl
section
variable {X : Cx} {a : Expr} {pos p2 : Pos} {σ : Sg} {H : Hp} {z : Str}
theorem ev_slS {lo hi : Option Expr} {tl th : TO} {i j : Option Int} (ha : EV X a σ H (.str z)) (hz : z.length ≤ 100000) (pl : PO X lo tl) (ph : PO X hi th) (hl : EvO tl σ H i) (hh : EvO th σ H j) : EV X (.Subscript a (.Slice lo hi none p2) pos) σ H (.str (cutS z i j)) :=
  ev_of (pe_slice sl_str pe_X pl ph) fun H1 e1 Q q => ha H1 e1 _ fun H2 e2 => hl H2 (e1.trans e2) _ fun H3 e3 => hh H3 ((e1.trans e2).trans e3) _ fun H4 e4 => ⟨z, rfl, sz_of hz, q H4 ((e2.trans e3).trans e4)⟩
/-- z[i:] -/
theorem ev_from {i : Int} {j : Nat} {px : Pos} (ha : EV X a σ H (.str z)) (hz : z.length ≤ 100000) : EV X (.Subscript a (.Slice (some (.Constant (.int i) j px)) none none p2) pos) σ H (.str (cutS z (some i) none)) :=
  ev_slS ha hz (po_some pe_int) po_none (eo_some ev_c) eo_none
/-- z[:i] -/
theorem ev_upto {i : Int} {j : Nat} {px : Pos} (ha : EV X a σ H (.str z)) (hz : z.length ≤ 100000) : EV X (.Subscript a (.Slice none (some (.Constant (.int i) j px)) none p2) pos) σ H (.str (cutS z none (some i))) :=
  ev_slS ha hz po_none (po_some pe_int) eo_none (eo_some ev_c)
end
def head1 (z : Str) : Str := cutS z none (some 1)
def tail1 (z : Str) : Str := cutS z (some 1) none
theorem cut_len (z : Str) (i j : Option Int) : (cutS z i j).length ≤ z.length := by
  show ((List.take _ (z.cps.toList.drop _)).toArray).size ≤ _
  rw [List.size_toArray, List.length_take, List.length_drop, Array.length_toList]
  show _ ≤ z.cps.size
  omega
def unsigned (z : Str) : Str := if decide (V.str (head1 z) = V.str "-") = true then tail1 z else z
def signed (z : Str) : Option Int := if (decide (V.str z = V.str "-0") || !isDg (unsigned z)) = true then none else intText? z
theorem dg_all {z : Str} (h : isDg z = true) : NumText.AllDigits z.cps.toList ∧ z.cps.toList ≠ [] ∧ z.length ≤ 12 := by
  have h1 := (Bool.and_eq_true_iff.mp h).1
  obtain ⟨h2, h3⟩ := Bool.and_eq_true_iff.mp h1
  obtain ⟨h4, h5⟩ := Bool.and_eq_true_iff.mp h2
  have h4 := of_decide_eq_true h4
  have h5 := of_decide_eq_true h5
  refine ⟨fun c hc => ?_, fun e => ?_, h5⟩
  · have := of_decide_eq_true (List.all_eq_true.mp h3 c hc)
    have key : ∀ c ∈ digits.cps.toList, 48 ≤ c ∧ c ≤ 57 := by decide +kernel
    exact key c this
  · have : z.length = z.cps.toList.length := (Array.length_toList).symm
    rw [this, e] at h4
    exact absurd h4 (by decide)
theorem head_minus {z : Str} (h : V.str (head1 z) = V.str "-") : z.cps.toList = 45 :: (tail1 z).cps.toList := by
  have h := V.str.inj h
  have h1 : (head1 z).cps.toList = [45] := by rw [h]; decide +kernel
  have h2 : (head1 z).cps.toList = (z.cps.toList.drop 0).take (HT.sIx z.length z.length (some (1 : Nat)) - 0) := rfl
  have h3 : (tail1 z).cps.toList = (z.cps.toList.drop (HT.sIx z.length 0 (some (1 : Nat)))).take (z.length - HT.sIx z.length 0 (some (1 : Nat))) := rfl
  rw [HT.sIx_nat] at h2 h3
  have hl : z.length = z.cps.toList.length := (Array.length_toList).symm
  cases e : z.cps.toList with
  | nil =>
    rw [e] at h2
    rw [h2] at h1
    simp at h1
  | cons c cs =>
    rw [hl, e] at h2 h3
    have hm : min 1 (c :: cs).length = 1 := by simp
    rw [hm] at h2 h3
    have h2' : (head1 z).cps.toList = [c] := h2
    rw [h1] at h2'
    have h4 : (c :: cs).length - 1 = cs.length := rfl
    rw [h4] at h3
    have h5 : (tail1 z).cps.toList = cs := h3.trans (by show cs.take cs.length = cs; exact List.take_length)
    rw [h5]
    exact congrArg (· :: cs) (List.cons.inj h2').1.symm
theorem signed_some {z : Str} (h : (decide (V.str z = V.str "-0") || !isDg (unsigned z)) = false) : ∃ n, intText? z = some n ∧ z.length ≤ 640 := by
  have h1 := (Bool.or_eq_false_iff.mp h).2
  have h2 : isDg (unsigned z) = true := by simpa using h1
  by_cases q : V.str (head1 z) = V.str "-"
  · have e : unsigned z = tail1 z := if_pos (decide_eq_true q)
    rw [e] at h2
    obtain ⟨a1, a2, a3⟩ := dg_all h2
    have hz := head_minus q
    have hl : z.length = (tail1 z).length + 1 := by
      have h1 : z.length = z.cps.toList.length := (Array.length_toList).symm
      have h2 : (tail1 z).length = (tail1 z).cps.toList.length := (Array.length_toList).symm
      rw [h1, hz, h2]
      rfl
    exact ⟨_, intText_neg hz a1 a2 (by omega), by omega⟩
  · have e : unsigned z = z := if_neg (fun z => q (of_decide_eq_true z))
    rw [e] at h2
    obtain ⟨a1, a2, a3⟩ := dg_all h2
    exact ⟨_, intText_digits a1 a2 (by omega), by omega⟩
def singleW (z : Str) : Option PyData := if decide (V.str z = V.str "-") = true then some .none else if decide (V.str (head1 z) = V.str "=") = true then (if isMark (tail1 z) = true then some (.str (tail1 z)) else none) else (signed z).map .int
def spTaken (A : Adr) (f : Str → Option PyData) (K : Fr) : Sp := fun vs H Q E => ∃ p d ws l i, vs = [.ref p] ∧ ScanO A H p d ws l i ∧ (∀ w x v H', ws[i]? = some w → f w = some x → But p H H' → ScanO A H' p d ws l (i + 1) → Ur K H' v x → Q v H') ∧ (((ws[i]?).bind f) = none → Bad A p H E l i)
section
variable {P : Program} {w : World} {K : Fr} {mg : Str → Option Value} {base : Heap} {A : Adr}
theorem ok_take_signed (T : Txt K mg) (O : Obc K mg "Scan" A.scan scanF) (R : Mt P w K mg base (L2.CX P w) 3 A.scan "refuse" (spRefuse A)) (Ah : Mt P w K mg base CX0 1 A.scan "ahead" (spAhead A)) (Tk : Mt P w K mg base (L2.CX P w) 4 A.scan "take" (spTake A)) (cd : Cl P w K mg base CX0 1 "is_digits" (spStr isDg))
    {f : Addr} (M : Meth K A.scan "take_signed" f) (D : DfA K d_Scan_take_signed f) : Mt P w K mg base (L2.CX P w) 5 A.scan "take_signed" (spTaken A (fun z => (signed z).map .int) K) := by
  refine ⟨f, M, D.fn sc_Scan_take_signed (fun vs H Q E h => ?_) (fun _ _ _ _ _ _ us hl => match us, hl with | [_], _ => rfl) fun cdv Ar outer s H vs Q E hr h => ?_⟩
  · obtain ⟨p, d, ws, l, i, rfl, _⟩ := h
    rfl
  obtain ⟨p, d, ws, l, i, rfl, S, k1, k2⟩ := h
  obtain ⟨dx, hp⟩ := S.ob
  -- word = self.ahead()
  refine b_cons (s_set 1 (e_meth0 Ah O.cl hr (by decide) pass0 (ev_name 0 rfl) hp (scanNo "ahead" (by decide +kernel) d l i) fun H1 e1 => ⟨p, d, ws, l, i, rfl, S.ex e1, fun H2 e2 => ?_⟩) sc_Scan_take_signed.nd)
  have E2 := e1.trans e2
  have S2 := S.ex E2
  have tk := takes_of (X := cxOf (L2.CX P w) P w K mg base ["self", "word"] d_Scan_take_signed.qual d_Scan_take_signed.scope f cdv Ar outer s H E) (E := E) rfl rfl rfl rfl
  have ps := passes_call tk (E := E) fun _ _ _ _ h => h
  -- if word is None or word == '-0' or not is_digits(..): self.refuse()
  refine b_cons (s_if (k := ((ws[i]?).bind signed).isNone) ?_ (fun hb H3 e3 => ?_) fun hb H3 e3 => b_nil ?_)
  · unfold aheadV
    cases hw : ws[i]? with
    | none => exact et_w (ew_or (k := true) (l := false) (et_cmp op_isN (ev_name 1 rfl) ev_non fun H1 _ Q q => ⟨rfl, q H1 (Ex.refl H1)⟩) fun z => (nomatch z))
    | some z =>
      have hz : z.length ≤ 100000 := S.hw z (List.mem_of_getElem? hw)
      have e : ((some z : Option Str).bind signed).isNone = (false || (decide (V.str z = V.str "-0") || !isDg (unsigned z))) := by
        show (signed z).isNone = _
        unfold signed
        cases q : (decide (V.str z = V.str "-0") || !isDg (unsigned z)) with
        | true => rfl
        | false =>
          obtain ⟨n, h1, _⟩ := signed_some q
          simp only [Bool.false_eq_true, if_false, h1]
          rfl
      rw [e]
      refine et_w (ew_or (et_cmp op_isN (ev_name 1 rfl) ev_non fun H1 _ Q q => ⟨rfl, q H1 (Ex.refl H1)⟩) fun _ => ew_or (et_cmp op_eq (ev_name 1 rfl) ev_str (rv_eq rfl)) fun _ => ew_or1 (et_not (et_val (ev_call cd hr (by decide) pass0 (ea_cons (x := .str (unsigned z)) ?_ ea_nil) fun H1 _ Q q => ⟨_, rfl, ?_, q⟩))))
      · refine ev_ife (k := decide (V.str (head1 z) = V.str "-")) (et_cmp op_eq (ev_upto (ev_name 1 rfl) hz) ev_str (rv_eq rfl)) (fun q => ?_) fun q => ?_
        · unfold unsigned
          rw [if_pos q]
          exact ev_from (ev_name 1 rfl) hz
        · unfold unsigned
          rw [if_neg (by rw [q]; decide)]
          exact ev_name 1 rfl
      · unfold unsigned
        split
        · exact Nat.le_trans (cut_len _ _ _) hz
        · exact hz
  · have hb2 : ((ws[i]?).bind fun z => (signed z).map PyData.int) = none := by
      cases hw : ws[i]? with
      | none => rfl
      | some z =>
        rw [hw] at hb
        have h1 : (signed z).isNone = true := hb
        show (signed z).map PyData.int = none
        cases q : signed z with
        | none => rfl
        | some n => rw [q] at h1; cases h1
    have E3 := E2.trans e3
    refine b_one (s_expr (e_meth0 R O.cl hr (by decide) ps (ev_name 0 rfl) (E3 _ _ hp) (scanNo "refuse" (by decide +kernel) d l i) fun H4 e4 => ?_))
    exact ⟨p, d, ws, l, i, rfl, S.ex (E3.trans e4), (k2 hb2).of (ebut (E3.trans e4)) ⟨_, (E3.trans e4) _ _ hp⟩⟩
  · -- return int(self.take())
    cases hw : ws[i]? with
    | none => rw [hw] at hb; cases hb
    | some z =>
      rw [hw] at hb
      have hb1 : (signed z).isNone = false := hb
      obtain ⟨n, hn⟩ : ∃ n, signed z = some n := by
        cases q : signed z with
        | none => rw [q] at hb1; cases hb1
        | some n => exact ⟨n, rfl⟩
      have hq : (decide (V.str z = V.str "-0") || !isDg (unsigned z)) = false := by
        cases q : (decide (V.str z = V.str "-0") || !isDg (unsigned z)) with
        | false => rfl
        | true =>
          unfold signed at hn
          rw [if_pos q] at hn
          cases hn
      obtain ⟨n', h1, h2⟩ := signed_some hq
      have E3 := E2.trans e3
      refine b_one (s_retX ?_)
      refine eX_of (pe_callTy call_int_str rfl (T.f "int") (by decide +kernel) (pa_cons pe_X pa_nil) (by decide) (by decide)) ?_
      refine e_meth0 Tk O.cl hr (by decide) ps (ev_name 0 rfl) (E3 _ _ hp) (scanNo "take" (by decide +kernel) d l i) fun H4 e4 => ?_
      refine ⟨p, d, ws, l, i, rfl, S.ex (E3.trans e4), fun w' H' hw' hb' S' => ?_, fun hl => ?_⟩
      · rw [hw] at hw'
        cases hw'
        refine ⟨z, n', rfl, h1, h2, ?_⟩
        refine k1 z (.int n') (.int n') H' hw ?_ ((ebut (E3.trans e4)).trans hb') S' (.int n')
        show (signed z).map PyData.int = _
        unfold signed
        rw [if_neg (by rw [hq]; decide), h1]
        rfl
      · rw [hl, List.getElem?_eq_none_iff.mpr (Nat.le_refl _)] at hw
        cases hw
end
end K96

set_option Elab.async false
set_option linter.all false
set_option maxRecDepth 100000
set_option maxHeartbeats 4000000
/-! take_single, take_end. -/
namespace K96
open PySem PySem.Spec PyProof.Rows L2 Evl
/-- what the module has of Scan's methods -/
structure ScanM (P : Program) (w : World) (K : Fr) (mg : Str → Option Value) (base : Heap) (A : Adr) : Prop where
  O : Obc K mg "Scan" A.scan scanF
  ahead : Mt P w K mg base CX0 1 A.scan "ahead" (spAhead A)
  refuse : Mt P w K mg base (L2.CX P w) 3 A.scan "refuse" (spRefuse A)
  take : Mt P w K mg base (L2.CX P w) 4 A.scan "take" (spTake A)
  signed : Mt P w K mg base (L2.CX P w) 5 A.scan "take_signed" (spTaken A (fun z => (signed z).map .int) K)
  finish : Mt P w K mg base (L2.CX P w) 4 A.scan "finish" (spFinish A)
theorem bind_none {α : Type} {o : Option Str} {f : Str → Option α} (h : ∀ z, o = some z → f z = none) : o.bind f = none := by
  cases o with
  | none => rfl
  | some z => exact h z rfl
section
variable {P : Program} {w : World} {K : Fr} {mg : Str → Option Value} {base : Heap} {A : Adr}
theorem ok_take_single (T : Txt K mg) (M : ScanM P w K mg base A) (cm : Cl P w K mg base CX0 2 "is_mark" (spVal isMarkV K)) (D : Df K mg d_take_single) : Cl P w K mg base (L2.CX P w) 6 "take_single" (spTaken A singleW K) := by
  refine D.cl sc_take_single (fun vs H Q E h => ?_) (fun _ _ _ _ _ _ us hl => match us, hl with | [_], _ => rfl) fun f cdv Ar outer s H vs Q E hr h => ⟨_, pb_X, ?_⟩
  · obtain ⟨p, d, ws, l, i, rfl, _⟩ := h
    rfl
  obtain ⟨p, d, ws, l, i, rfl, S, k1, k2⟩ := h
  obtain ⟨dx, hp⟩ := S.ob
  have O := M.O
  have ps : Passes (L2.CX P w) (cxOf (L2.CX P w) P w K mg base ["scan", "word"] d_take_single.qual d_take_single.scope f cdv Ar outer s H E) E := passes_call (takes_of rfl rfl rfl rfl) fun _ _ _ _ h => h
  -- word = scan.ahead()
  refine b_cons (s_set 1 (e_meth0 M.ahead O.cl hr (by decide) pass0 (ev_name 0 rfl) hp (scanNo "ahead" (by decide +kernel) d l i) fun H1 e1 => ⟨p, d, ws, l, i, rfl, S.ex e1, fun H2 e2 => ?_⟩) sc_take_single.nd)
  have E2 := e1.trans e2
  -- if word == NONE: scan.take(); return None
  refine b_cons (s_if (k := decide (aheadV ws i = V.str "-")) (et_cmp op_eq (ev_name 1 rfl) (ev_gl (T.s "NONE" (z := "-"))) (rv_eq (by unfold aheadV; cases ws[i]? <;> rfl))) (fun hb H3 e3 => ?_) fun hb H3 e3 => b_nil ?_)
  · have E3 := E2.trans e3
    obtain ⟨z, hw, hz⟩ : ∃ z, ws[i]? = some z ∧ V.str z = V.str "-" := by
      have hb := of_decide_eq_true hb
      unfold aheadV at hb
      cases hw : ws[i]? with
      | none => rw [hw] at hb; cases hb
      | some z => rw [hw] at hb; exact ⟨z, rfl, hb⟩
    refine b_cons (s_expr (e_meth0 M.take O.cl hr (by decide) ps (ev_name 0 rfl) (E3 _ _ hp) (scanNo "take" (by decide +kernel) d l i) fun H4 e4 => ⟨p, d, ws, l, i, rfl, S.ex (E3.trans e4), fun w' H' hw' hb' S' => ?_, fun hl => ?_⟩))
    · refine b_one (s_ret ev_non fun H5 e5 => k1 z .none .non H5 hw ?_ (((ebut (E3.trans e4)).trans hb').trans (ebut e5)) (S'.ex e5) .non)
      unfold singleW
      rw [if_pos (decide_eq_true hz)]
    · rw [hl, List.getElem?_eq_none_iff.mpr (Nat.le_refl _)] at hw
      cases hw
  · have hb := of_decide_eq_false hb
    have E3 := E2.trans e3
    have ne : ∀ z, ws[i]? = some z → decide (V.str z = V.str "-") = false := fun z hw => by
      unfold aheadV at hb
      rw [hw] at hb
      exact decide_eq_false hb
    have at_ : ∀ z, ws[i]? = some z → aheadV ws i = .str z := fun z hw => by
      unfold aheadV
      rw [hw]
    -- if word is not None and word[:1] == MARK
    refine b_cons (s_if (k := ((ws[i]?).map fun z => decide (V.str (head1 z) = V.str "=")).getD false) ?_ (fun hc H4 e4 => ?_) fun hc H4 e4 => b_nil ?_)
    · cases hw : ws[i]? with
      | none =>
        have e : aheadV ws i = .non := by unfold aheadV; rw [hw]
        refine et_w (ew_and (k := false) (l := false) (et_cmp op_notN (ev_name 1 rfl) ev_non fun H1 _ Q q => ⟨rfl, ?_⟩) fun z => (nomatch z))
        rw [e]
        exact q H1 (Ex.refl H1)
      | some z =>
        have e := at_ z hw
        refine et_w (ew_and (k := true) (l := decide (V.str (head1 z) = V.str "=")) (et_cmp op_notN (ev_name 1 rfl) ev_non fun H1 _ Q q => ⟨rfl, ?_⟩) fun _ => ew_and1 (et_cmp op_eq (ev_upto (z := z) (ev_name 1 (by rw [← e]; rfl)) (S.hw z (List.mem_of_getElem? hw))) (ev_gl (T.s "MARK" (z := "="))) (rv_eq rfl)))
        rw [e]
        exact q H1 (Ex.refl H1)
    · obtain ⟨z, hw, hz⟩ : ∃ z, ws[i]? = some z ∧ decide (V.str (head1 z) = V.str "=") = true := by
        cases hw : ws[i]? with
        | none => rw [hw] at hc; cases hc
        | some z => rw [hw] at hc; exact ⟨z, rfl, hc⟩
      have e := at_ z hw
      have hzl := S.hw z (List.mem_of_getElem? hw)
      have htl : (tail1 z).length ≤ 100000 := Nat.le_trans (cut_len _ _ _) hzl
      have E4 := E3.trans e4
      -- if not is_mark(word[1:]): scan.refuse()
      refine b_cons (s_if (k := !(isMark (tail1 z))) (et_not (et_val (ev_call cm hr (by decide) pass0 (ea_cons (x := .str (tail1 z)) (ev_from (ev_name 1 (by rw [← e]; rfl)) hzl) ea_nil) fun H1 _ Q q => ⟨_, _, rfl, VT.s _ htl, q⟩))) (fun hd H5 e5 => ?_) fun hd H5 e5 => b_nil ?_)
      · have E5 := E4.trans e5
        refine b_one (s_expr (e_meth0 M.refuse O.cl hr (by decide) ps (ev_name 0 rfl) (E5 _ _ hp) (scanNo "refuse" (by decide +kernel) d l i) fun H6 e6 => ?_))
        refine ⟨p, d, ws, l, i, rfl, S.ex (E5.trans e6), (k2 (bind_none fun z' hw' => ?_)).of (ebut (E5.trans e6)) ⟨_, (E5.trans e6) _ _ hp⟩⟩
        rw [hw] at hw'
        cases hw'
        have hm : isMark (tail1 z) = false := by simpa using hd
        unfold singleW
        rw [if_neg (by rw [ne z hw]; decide), if_pos hz, if_neg (by rw [hm]; decide)]
      · have E5 := E4.trans e5
        have hm : isMark (tail1 z) = true := by simpa using hd
        -- return scan.take()[1:]
        refine b_one (s_retX (eX_of (pe_slice sl_str pe_X (po_some pe_int) po_none) ?_))
        refine e_meth0 M.take O.cl hr (by decide) ps (ev_name 0 rfl) (E5 _ _ hp) (scanNo "take" (by decide +kernel) d l i) fun H6 e6 => ⟨p, d, ws, l, i, rfl, S.ex (E5.trans e6), fun w' H' hw' hb' S' => ?_, fun hl => ?_⟩
        · rw [hw] at hw'
          cases hw'
          refine ⟨1, rfl, z, rfl, sz_of hzl, ?_⟩
          refine k1 z (.str (tail1 z)) (.str (tail1 z)) H' hw ?_ ((ebut (E5.trans e6)).trans hb') S' (.str _ htl)
          unfold singleW
          rw [if_neg (by rw [ne z hw]; decide), if_pos hz, if_pos hm]
        · rw [hl, List.getElem?_eq_none_iff.mpr (Nat.le_refl _)] at hw
          cases hw
    · -- return scan.take_signed()
      have E4 := E3.trans e4
      have e : ∀ z, ws[i]? = some z → singleW z = (signed z).map .int := fun z hw => by
        rw [hw] at hc
        have hc : decide (V.str (head1 z) = V.str "=") = false := hc
        unfold singleW
        rw [if_neg (by rw [ne z hw]; decide), if_neg (by rw [hc]; decide)]
      refine b_one (s_retX (e_meth0 M.signed O.cl hr (by decide) ps (ev_name 0 rfl) (E4 _ _ hp) (scanNo "take_signed" (by decide +kernel) d l i) fun H5 e5 => ⟨p, d, ws, l, i, rfl, S.ex (E4.trans e5), fun w' x v H' hw' hx hb' S' u => ?_, fun hn => ?_⟩))
      · exact k1 w' x v H' hw' ((e w' hw').trans hx) ((ebut (E4.trans e5)).trans hb') S' u
      · refine (k2 (bind_none fun z hw => ?_)).of (ebut (E4.trans e5)) ⟨_, (E4.trans e5) _ _ hp⟩
        rw [e z hw]
        rw [hw] at hn
        exact hn
end
end K96

set_option Elab.async false
set_option linter.all false
set_option maxRecDepth 100000
set_option maxHeartbeats 4000000
/-! take_end, take_told. -/
namespace K96
open PySem PySem.Spec PyProof.Rows L2 Evl
mutual
def plainD : PyData → Bool
  | .tuple xs => plainL xs
  | .none => true
  | .int _ => true
  | .str _ => true
  | _ => false
def plainL : List PyData → Bool
  | [] => true
  | x :: xs => plainD x && plainL xs
end
theorem plainL_app : ∀ a b : List PyData, plainL (a ++ b) = (plainL a && plainL b)
  | [], b => by
    show plainL b = (true && plainL b)
    rw [Bool.true_and]
  | x :: a, b => by
    show (plainD x && plainL (a ++ b)) = ((plainD x && plainL a) && plainL b)
    rw [plainL_app a b, Bool.and_assoc]
/-- tuples stand -/
def TupK (K : Fr) (H H' : Hp) : Prop := ∀ a xs, SqT K H a xs → SqT K H' a xs
mutual
theorem Ur.keep {K : Fr} {H H' : Hp} (e : TupK K H H') : ∀ {v : V} {d : PyData}, plainD d = true → Ur K H v d → Ur K H' v d
  | _, _, _, .non => .non
  | _, _, _, .bl b => .bl b
  | _, _, _, .int i => .int i
  | _, _, _, .str x h => .str x h
  | _, _, p, .lst h a => absurd p (by intro z; cases z)
  | _, _, p, .tup h a => .tup (e _ _ h) (UrAll.keep e p a)
  | _, _, p, .emp h => absurd p (by intro z; cases z)
  | _, _, p, .obj h q v => absurd p (by intro z; cases z)
theorem UrAll.keep {K : Fr} {H H' : Hp} (e : TupK K H H') : ∀ {vs : List V} {ds : List PyData}, plainL ds = true → UrAll K H vs ds → UrAll K H' vs ds
  | _, _, _, .nil => .nil
  | _, _, p, .cons h a => .cons (Ur.keep e (Bool.and_eq_true_iff.mp p).1 h) (UrAll.keep e (Bool.and_eq_true_iff.mp p).2 a)
end
/-- an object that is no tuple -/
def notT : HO → Bool
  | .lst _ => true
  | .ins _ _ _ => true
  | .dK _ => true
  | _ => false
theorem tupK_of {K : Fr} {H H' : Hp} (h : ∀ b o, notT o = false → H b = some o → H' b = some o) : TupK K H H' := fun a xs s => by
  rcases s with (s | ⟨o, s⟩) | s
  · exact .inl (.inl (h _ _ rfl s))
  · exact .inl (.inr ⟨o, h _ _ rfl s⟩)
  · exact .inr s
theorem tupK_but {K : Fr} {H H' : Hp} {p : Addr} {o : HO} (h : But p H H') (hp : H p = some o) (ho : notT o = true) : TupK K H H' := tupK_of fun b u hu e => h b u (fun z => by
  rw [z, hp] at e
  cases e
  rw [ho] at hu
  cases hu) e
theorem tupK_ex {K : Fr} {H H' : Hp} (h : Ex H H') : TupK K H H' := fun _ _ s => ex_t h s
theorem tupK_upd {K : Fr} {H : Hp} {a : Addr} {o o' : HO} (ha : H a = some o) (ho : notT o = true) : TupK K H (L2.upd H a o') := tupK_of fun b u hu e => by
  rw [upd_ne (fun z => by
    rw [z, ha] at e
    cases e
    rw [ho] at hu
    cases hu)]
  exact e
theorem TupK.trans {K : Fr} {H H1 H2 : Hp} (a : TupK K H H1) (b : TupK K H1 H2) : TupK K H H2 := fun x xs s => b _ _ (a _ _ s)
theorem ScanO.upd {A : Adr} {H : Hp} {p d a : Addr} {ws : List Str} {l : Int} {i : Nat} {o : HO} (S : ScanO A H p d ws l i) (h1 : a ≠ p) (h2 : a ≠ d) : ScanO A (L2.upd H a o) p d ws l i :=
  ⟨S.ob.imp fun _ h => by rw [upd_ne (Ne.symm h1)]; exact h, by rw [upd_ne (Ne.symm h2)]; exact S.ls, S.hi, S.hn, S.hw⟩
theorem But.free {p q : Addr} {H H1 : Hp} (b : But p H H1) (hp : ∃ o, H1 p = some o) (h : H1 q = none) : H q = none := by
  cases z : H q with
  | none => rfl
  | some o =>
    by_cases e : q = p
    · obtain ⟨o', ho⟩ := hp
      rw [← e, h] at ho
      cases ho
    · rw [b _ _ e z] at h
      cases h
theorem But.mut {p a : Addr} {H H' : Hp} {o : HO} (h : But p H H') (ha : H a = none) : But p H (L2.upd H' a o) := fun b u n e => by
  rw [upd_ne (fun z => by rw [z, ha] at e; cases e)]
  exact h b u n e
def fin2 (go : Nat → List (List PyData) → Nat ⊕ (PyData × Nat)) (x : PyData) (i : Nat) : List (List PyData) → Nat ⊕ (PyData × Nat)
  | [] => .inr (x, i)
  | top :: rest => go i ((top ++ [x]) :: rest)
/-- what stands told from the word i on, st the tuples that are open -/
def toldGo (ws : List Str) : Nat → Nat → List (List PyData) → Nat ⊕ (PyData × Nat)
  | 0, i, _ => .inl i
  | n + 1, i, st => if decide (aheadV ws i = V.str "(") = true then (if decide (st.length = 10) = true then .inl i else toldGo ws n (i + 1) ([] :: st)) else
    if (!decide (st.length = 0) && decide (aheadV ws i = V.str ")")) = true then fin2 (toldGo ws n) (.tuple (st.headD [])) (i + 1) st.tail else
      match (ws[i]?).bind singleW with
      | none => .inl i
      | some x => fin2 (toldGo ws n) x (i + 1) st
def spEnd (A : Adr) : Sp := fun vs H Q _ => ∃ p d ws l i lo us a xs, vs = [.ref p, .ref lo] ∧ ScanO A H p d ws l i ∧ i < ws.length ∧ H lo = some (.lst (us ++ [.ref a])) ∧ H a = some (.lst xs) ∧ a ≠ lo ∧ xs.length ≤ 100000 ∧
  ∀ q H', (∀ b o, b ≠ p → b ≠ lo → H b = some o → H' b = some o) → ScanO A H' p d ws l (i + 1) → H' lo = some (.lst us) → H q = none → H' q = some (.tup xs) → Q (.ref q) H'
def spTold (A : Adr) (K : Fr) : Sp := fun vs H Q E => ∃ p d ws l i, vs = [.ref p] ∧ ScanO A H p d ws l i ∧ (∀ x j v H', toldGo ws (ws.length + 1 - i) i [] = .inr (x, j) → But p H H' → ScanO A H' p d ws l j → Ur K H' v x → plainD x = true → Q v H') ∧
  ∀ j : Nat, toldGo ws (ws.length + 1 - i) i [] = .inl j → Bad A p H E l j
section
variable {P : Program} {w : World} {K : Fr} {mg : Str → Option Value} {base : Heap} {A : Adr}
theorem ok_take_end (T : Txt K mg) (M : ScanM P w K mg base A) (D : Df K mg d_take_end) : Cl P w K mg base (L2.CX P w) 5 "take_end" (spEnd A) := by
  refine D.cl sc_take_end (fun vs H Q E h => ?_) (fun _ _ _ _ _ _ us hl => match us, hl with | [_, _], _ => rfl) fun f cdv Ar outer s H vs Q E hr h => ⟨_, pb_X, ?_⟩
  · obtain ⟨p, d, ws, l, i, lo, us, a, xs, rfl, _⟩ := h
    rfl
  obtain ⟨p, d, ws, l, i, lo, us, a, xs, rfl, S, hi, hlo, ha, nal, hx, k⟩ := h
  obtain ⟨dx, hp⟩ := S.ob
  have O := M.O
  have ps : Passes (L2.CX P w) (cxOf (L2.CX P w) P w K mg base ["scan", "open_ones"] d_take_end.qual d_take_end.scope f cdv Ar outer s H E) E := passes_call (takes_of rfl rfl rfl rfl) fun _ _ _ _ h => h
  have nlp : lo ≠ p := fun e => by rw [e, hp] at hlo; cases hlo
  have nap : a ≠ p := fun e => by rw [e, hp] at ha; cases ha
  have nld : lo ≠ d := fun e => by
    have h1 := S.ls
    rw [← e, hlo] at h1
    have h2 : us ++ [V.ref a] = ws.map V.str := HO.lst.inj (Option.some.inj h1)
    have h3 : V.ref a ∈ ws.map V.str := by
      rw [← h2]
      simp
    obtain ⟨z, _, hz⟩ := List.mem_map.mp h3
    cases hz
  refine b_cons (s_expr (e_meth0 M.take O.cl hr (by decide) ps (ev_name 0 rfl) hp (scanNo "take" (by decide +kernel) d l i) fun H1 e1 => ⟨p, d, ws, l, i, rfl, S.ex e1, fun w' H' hw' hb' S' => ?_, fun hl => absurd hl (by omega)⟩))
  have hlo' : H' lo = some (.lst (us ++ [.ref a])) := hb' _ _ nlp (e1 _ _ hlo)
  have ha' : H' a = some (.lst xs) := hb' _ _ nap (e1 _ _ ha)
  refine b_one (s_retX (eX_of (pe_callTy call_tuple_of rfl (T.f "tuple") (by decide +kernel) (pa_cons pe_X pa_nil) (by decide) (by decide)) ?_))
  refine e_pop (ev_name 1 rfl) hlo' fun H2 e2 => ?_
  have ha2 : L2.upd H2 lo (.lst us) a = some (.lst xs) := by
    rw [upd_ne nal]
    exact e2 _ _ ha'
  refine ⟨a, xs, rfl, .inl ⟨sq_of ha2, fun q hq => ?_⟩⟩
  have hql : q ≠ lo := fun z => by rw [z, upd_same] at hq; cases hq
  have hq2 : H2 q = none := by rw [upd_ne hql] at hq; exact hq
  have old : ∀ b o, H2 b = some o → b ≠ lo → L2.upd (L2.upd H2 lo (.lst us)) q (.tup xs) b = some o := fun b o e n => by
    rw [upd_ne (fun z => by rw [z, hq2] at e; cases e), upd_ne n]
    exact e
  have S2 := S'.ex e2
  refine k q _ (fun b o n1 n2 e => old _ _ (e2 _ _ (hb' _ _ n1 (e1 _ _ e))) n2) ⟨S2.ob.imp fun dx h => old _ _ h (Ne.symm nlp), old _ _ S2.ls (Ne.symm nld), S2.hi, S2.hn, S2.hw⟩ ?_ ?_ upd_same
  · rw [upd_ne (Ne.symm hql)]
    exact upd_same
  · cases z : H q with
    | none => rfl
    | some o =>
      by_cases hqp : q = p
      · obtain ⟨dx', h'⟩ := S2.ob
        rw [hqp, h'] at hq2
        cases hq2
      · rw [e2 _ _ (hb' _ _ hqp (e1 _ _ z))] at hq2
        cases hq2
/-- the open lists, the last one first -/
inductive StkO (K : Fr) (H : Hp) (i : Nat) : List Addr → List (List PyData) → Prop
  | nil : StkO K H i [] []
  | cons {a : Addr} {vs : List V} {ds : List PyData} {rs : List Addr} {st : List (List PyData)} : H a = some (.lst vs) → UrAll K H vs ds → plainL ds = true → ds.length ≤ i → a ∉ rs → StkO K H i rs st → StkO K H i (a :: rs) (ds :: st)
theorem StkO.len {H : Hp} {i : Nat} : ∀ {rs : List Addr} {st : List (List PyData)}, StkO K H i rs st → rs.length = st.length
  | _, _, .nil => rfl
  | _, _, .cons _ _ _ _ _ s => congrArg (· + 1) s.len
theorem StkO.mem {H : Hp} {i : Nat} {b : Addr} : ∀ {rs : List Addr} {st : List (List PyData)}, StkO K H i rs st → b ∈ rs → ∃ o, H b = some o
  | _, _, .cons h _ _ _ _ s, hb => by
    rcases List.mem_cons.mp hb with rfl | hb
    · exact ⟨_, h⟩
    · exact s.mem hb
theorem StkO.keep {H H' : Hp} {i j : Nat} (hij : i ≤ j) (ht : TupK K H H') : ∀ {rs : List Addr} {st : List (List PyData)}, (∀ a ∈ rs, ∀ o, H a = some o → H' a = some o) → StkO K H i rs st → StkO K H' j rs st
  | _, _, _, .nil => .nil
  | _, _, hk, .cons h u p l n s => .cons (hk _ List.mem_cons_self _ h) (UrAll.keep ht p u) p (Nat.le_trans l hij) n (s.keep hij ht fun a ha => hk a (List.mem_cons_of_mem _ ha))
theorem ev_ahead {X : Cx} {o : Expr} {apos pos : Pos} {σ : Sg} {H : Hp} {p d : Addr} {ws : List Str} {l : Int} {i j : Nat} {pl : Sem Bool} (M : Mt X.prog X.w X.K X.mg X.base CX0 1 A.scan "ahead" (spAhead A)) (c : Cls X.K A.scan) (hr : Room j X.A) (hk : 1 ≤ j) (ho : EV X o σ H (.ref p)) (S : ScanO A H p d ws l i)
    (ht : eval (.Call (.Attribute o "ahead" apos) [] [] pos) X.env = (do
      let ov ← eval o X.env
      standAt apos.atName
      let (f, first) ← holding [ov] (getMethod ov "ahead" pl)
      callWith pos f first (backTo pos (starEach [] X.env)) (backToKw pos (keywordEach [] X.env))) := by rfl) : EV X (.Call (.Attribute o "ahead" apos) [] [] pos) σ H (aheadV ws i) := fun H1 e1 Q q => by
  obtain ⟨dx, hp⟩ := S.ob
  exact e_meth0 (E := E0) M c hr hk pass0 (ho.mono e1) (e1 _ _ hp) (scanNo "ahead" (by decide +kernel) d l i) (fun H2 e2 => ⟨p, d, ws, l, i, rfl, (S.ex e1).ex e2, fun H3 e3 => q H3 (e2.trans e3)⟩) ht
/-- the state at a turn's start -/
def WTold (A : Adr) (K : Fr) (ws : List Str) (R : Nat ⊕ (PyData × Nat)) (p d lo : Addr) (l : Int) (H : Hp) (m : Nat) (σ' : Sg) (H' : Hp) : Prop :=
  ∃ i st rs fd, m = ws.length + 1 - i ∧ i ≤ ws.length ∧ st.length ≤ i ∧ σ' = [some (.ref p), some (.ref lo), fd] ∧ But p H H' ∧ ScanO A H' p d ws l i ∧ H' lo = some (.lst (rs.map V.ref).reverse) ∧ StkO K H' i rs st ∧ (∀ a ∈ rs, H a = none ∧ a ≠ lo) ∧ toldGo ws m i st = R
theorem singleW_plain {z : Str} {x : PyData} (h : singleW z = some x) : plainD x = true := by
  unfold singleW at h
  split at h
  · cases h
    rfl
  · split at h
    · split at h
      · cases h
        rfl
      · cases h
    · cases q : signed z with
      | none => rw [q] at h; cases h
      | some n => rw [q] at h; cases h; rfl
theorem atI_last {α : Type} (xs : List α) (y : α) : atI (xs ++ [y]) (-1) = some y := by
  have e : ixN (xs ++ [y]).length (-1) = some xs.length := by
    unfold ixN
    have hl : (xs ++ [y]).length = xs.length + 1 := by simp
    rw [hl, if_neg (by decide), if_pos (by omega)]
    congr 1
    omega
  unfold atI
  rw [e]
  simp
/-- behind found: what was told, and what is open -/
def PostT (A : Adr) (K : Fr) (ws : List Str) (R : Nat ⊕ (PyData × Nat)) (p d lo : Addr) (l : Int) (i : Nat) (H : Hp) : VK := fun v H5 => ∃ rs st x, But p H H5 ∧ ScanO A H5 p d ws l (i + 1) ∧ H5 lo = some (.lst (rs.map V.ref).reverse) ∧ StkO K H5 i rs st ∧ st.length ≤ i + 1 ∧ (∀ a ∈ rs, H a = none ∧ a ≠ lo) ∧ fin2 (toldGo ws (ws.length - i)) x (i + 1) st = R ∧ Ur K H5 v x ∧ plainD x = true
theorem ok_take_told (T : Txt K mg) (M : ScanM P w K mg base A) (ce : Cl P w K mg base (L2.CX P w) 5 "take_end" (spEnd A)) (cs : Cl P w K mg base (L2.CX P w) 6 "take_single" (spTaken A singleW K)) (D : Df K mg d_take_told) : Cl P w K mg base (L2.CX P w) 7 "take_told" (spTold A K) := by
  refine D.cl sc_take_told (fun vs H Q E h => ?_) (fun _ _ _ _ _ _ us hl => match us, hl with | [_], _ => rfl) fun f cdv Ar outer s H vs Q E hr h => ⟨_, pb_X, ?_⟩
  · obtain ⟨p, d, ws, l, i, rfl, _⟩ := h
    rfl
  obtain ⟨p, d, ws, l, i0, rfl, S0, k1, k2⟩ := h
  obtain ⟨dx0, hp0⟩ := S0.ob
  have O := M.O
  have hu := hu_of hr
  have tk := takes_of (X := cxOf (L2.CX P w) P w K mg base ["scan", "open_ones", "found"] d_take_told.qual d_take_told.scope f cdv Ar outer s H E) (E := E) rfl rfl rfl rfl
  have ps := passes_call tk (E := E) fun _ _ _ _ h => h
  generalize hR : toldGo ws (ws.length + 1 - i0) i0 [] = R at k1 k2
  -- open_ones = []
  refine b_cons (s_set 1 (e_lst (a_nil ⟨Nat.zero_le _, fun lo hlo => ?_⟩)) sc_take_told.nd)
  have npl : p ≠ lo := fun z => by rw [← z, hp0] at hlo; cases hlo
  refine b_one (s_while (WTold A K ws R p d lo l H) (ws.length + 1 - i0)
    ⟨i0, [], [], none, rfl, S0.hi, Nat.zero_le _, rfl, (ebut (Ex.new hlo)), S0.ex (Ex.new hlo), upd_same, .nil, fun a ha => (nomatch ha), hR⟩ (passes_of rfl) fun m σ' H' hW => ?_)
  obtain ⟨i, st, rs, fd, rfl, hi, hsi, rfl, bH, S, hl, stk, fr, hgo⟩ := hW
  obtain ⟨dx, hp⟩ := S.ob
  have hm : ws.length + 1 - i = (ws.length - i) + 1 := by omega
  rw [hm] at hgo
  refine tX_et (et_val ev_bl) fun H1 e1 => ?_
  rw [if_pos rfl]
  refine ⟨fun σ2 H2 => ∃ m', m' < ws.length + 1 - i ∧ WTold A K ws R p d lo l H m' σ2 H2, fun _ _ h => h, ?_⟩
  have hsl := stk.len
  have nap : ∀ a ∈ rs, a ≠ p := fun a ha z => by
    have := (fr a ha).1
    rw [z, hp0] at this
    cases this
  have nad : ∀ a ∈ rs, a ≠ d := fun a ha z => by
    have := (fr a ha).1
    rw [z, S0.ls] at this
    cases this
  have nld : lo ≠ d := fun z => by
    have := hlo
    rw [z, S0.ls] at this
    cases this
  -- if scan.ahead() == BEGIN
  refine b_one (s_if (k := decide (aheadV ws i = V.str "(")) (et_cmp op_eq (ev_ahead M.ahead O.cl hr (by decide) (ev_name 0 rfl) (S.ex e1)) (ev_gl (T.s "BEGIN" (z := "("))) (rv_eq (by unfold aheadV; cases ws[i]? <;> rfl))) (fun hb H3 e3 => ?_) fun hb H3 e3 => ?_)
  · have E3 := e1.trans e3
    unfold toldGo at hgo
    rw [if_pos hb] at hgo
    have hw : ∃ z, ws[i]? = some z := by
      have hb := of_decide_eq_true hb
      unfold aheadV at hb
      cases hw : ws[i]? with
      | none => rw [hw] at hb; cases hb
      | some z => exact ⟨z, rfl⟩
    obtain ⟨z, hw⟩ := hw
    have hil : i < ws.length := (List.getElem?_eq_some_iff.mp hw).1
    -- if len(open_ones) == MOST_DEEP: scan.refuse()
    refine b_cons (s_if (k := decide (st.length = 10)) ?_ (fun hd H4 e4 => ?_) fun hd H4 e4 => b_nil ?_)
    · have e : decide (st.length = 10) = decide (V.int ((rs.map V.ref).reverse.length : Int) = V.int 10) := by
        rw [List.length_reverse, List.length_map, hsl]
        by_cases q : st.length = 10
        · rw [decide_eq_true q, q]
          rfl
        · rw [decide_eq_false q, decide_eq_false]
          intro z
          have := V.int.inj z
          omega
      rw [e]
      exact et_cmp op_eq (ev_lenL (T.f "len") (ev_name 1 rfl) (.inl (sq_of (E3 _ _ hl)))) (ev_gl (T.i "MOST_DEEP")) (rv_eq rfl)
    · rw [if_pos hd] at hgo
      have E4 := E3.trans e4
      refine b_one (s_expr (e_meth0 M.refuse O.cl hr (by decide) ps (ev_name 0 rfl) (E4 _ _ hp) (scanNo "refuse" (by decide +kernel) d l i) fun H5 e5 => ?_))
      have bb := bH.trans (ebut (E4.trans e5))
      exact ⟨p, d, ws, l, i, rfl, S.ex (E4.trans e5), (k2 i hgo.symm).of bb ⟨_, (E4.trans e5) _ _ hp⟩⟩
    · rw [if_neg (by rw [hd]; decide)] at hgo
      have E4 := E3.trans e4
      -- scan.take()
      refine b_cons (s_expr (e_meth0 M.take O.cl hr (by decide) ps (ev_name 0 rfl) (E4 _ _ hp) (scanNo "take" (by decide +kernel) d l i) fun H5 e5 => ⟨p, d, ws, l, i, rfl, S.ex (E4.trans e5), fun w' H6 hw' b6 S6 => ?_, fun hl => absurd hl (by omega)⟩))
      have E5 := E4.trans e5
      have B6 : But p H' H6 := (ebut E5).trans b6
      have l6 := B6 lo _ (Ne.symm npl) hl
      -- open_ones.append([])
      refine b_one (s_expr (e_append (ev_name 1 rfl) ⟨_, l6⟩ fun H7 e7 => e_lst (a_nil ⟨Nat.zero_le _, fun q hq => ⟨(rs.map V.ref).reverse, ?_, ?_, ?_⟩⟩)))
      · rw [upd_ne (fun z => by rw [← z, e7 _ _ l6] at hq; cases hq)]
        exact e7 _ _ l6
      · rw [List.length_reverse, List.length_map, hsl]
        have := S0.hn
        omega
      · have S7 := S6.ex e7
        have B7 : But p H' H7 := B6.trans (ebut e7)
        have p7 : ∃ o, H7 p = some o := by
          obtain ⟨dx7, h7⟩ := S7.ob
          exact ⟨_, h7⟩
        have hq0 : H q = none := (bH.trans B7).free p7 hq
        have l7 := e7 _ _ l6
        have nqp : q ≠ p := fun z => by rw [z, hp0] at hq0; cases hq0
        have nqd : q ≠ d := fun z => by rw [z, S0.ls] at hq0; cases hq0
        have nql : q ≠ lo := fun z => by rw [z, l7] at hq; cases hq
        have nqr : q ∉ rs := fun z => by
          obtain ⟨o, ho⟩ := stk.mem z
          rw [B7 _ _ nqp ho] at hq
          cases hq
        refine ⟨ws.length - i, by omega, i + 1, [] :: st, q :: rs, fd, by omega, hil, by show st.length + 1 ≤ i + 1; omega, rfl, ((bH.trans B7).mut hq0).mut hlo, (S7.upd nqp nqd).upd (Ne.symm npl) nld, ?_, ?_, ?_, hgo⟩
        · rw [List.map_cons, List.reverse_cons]
          exact upd_same
        · refine .cons (by rw [upd_ne nql]; exact upd_same) .nil rfl (Nat.zero_le _) nqr (stk.keep (Nat.le_succ i) ?_ fun a ha o ho => ?_)
          · exact (((tupK_but B7 hp rfl).trans (tupK_ex (Ex.new hq))).trans (tupK_upd (o := .lst (rs.map V.ref).reverse) (by rw [upd_ne (Ne.symm nql)]; exact l7) rfl))
          · rw [upd_ne (fr a ha).2, upd_ne (fun z => nqr (by rw [← z]; exact ha))]
            exact B7 _ _ (nap a ha) ho
        · intro a ha
          rcases List.mem_cons.mp ha with rfl | ha
          · exact ⟨hq0, nql⟩
          · exact fr a ha
  · have E3 := e1.trans e3
    unfold toldGo at hgo
    rw [if_neg (by rw [hb]; decide)] at hgo
    -- found = take_end(scan, open_ones) if open_ones != [] and scan.ahead() == END else take_single(scan)
    refine b_cons (s_set 2 (eX_mono (Q := PostT A K ws R p d lo l i H) (e_ife (tX_et (k := !decide (st.length = 0) && decide (aheadV ws i = V.str ")")) (et_w (ew_and (et_is (et_neNil hr.units (ev_name 1 rfl) (sq_of (E3 _ _ hl))) (by rw [List.length_reverse, List.length_map, hsl])) fun _ => ew_and1 (et_cmp op_eq (ev_ahead M.ahead O.cl hr (by decide) (ev_name 0 rfl) (S.ex E3)) (ev_gl (T.s "END" (z := ")"))) (rv_eq (by unfold aheadV; cases ws[i]? <;> rfl))))) fun H4 e4 => ?_)) fun v H5 hq => ?_) sc_take_told.nd)
    · have E4 := E3.trans e4
      by_cases hc : (!decide (st.length = 0) && decide (aheadV ws i = V.str ")")) = true
      · rw [if_pos hc]
        rw [if_pos hc] at hgo
        obtain ⟨c1, c2⟩ := Bool.and_eq_true_iff.mp hc
        have hil : i < ws.length := by
          have c2 := of_decide_eq_true c2
          unfold aheadV at c2
          cases hw : ws[i]? with
          | none => rw [hw] at c2; cases c2
          | some z => exact (List.getElem?_eq_some_iff.mp hw).1
        cases stk with
        | nil => cases c1
        | @cons a vs top rs0 rest ha hu1 hpl hle hni stk0 =>
          refine eX_of (pe_cl (E := E) ce hr (by decide) ps rfl (pa_cons pe_X (pa_cons pe_X pa_nil))) (eX_ev (ev_name 0 rfl) fun H5 e5 => eX_ev (ev_name 1 rfl) fun H6 e6 => ?_)
          have E6 := (E4.trans e5).trans e6
          have hal := (fr a List.mem_cons_self)
          refine ⟨p, d, ws, l, i, lo, (rs0.map V.ref).reverse, a, vs, rfl, S.ex E6, hil, ?_, E6 _ _ ha, hal.2, ?_, fun q H7 kp S7 l7 hq0 hq7 => ?_⟩
          · rw [E6 _ _ hl, List.map_cons, List.reverse_cons]
          · have h1 := hu1.len
            have h2 := S0.hn
            omega
          · have tkp : TupK K H' H7 := (tupK_ex E6).trans (tupK_of fun b u hu e => kp b u (fun z => by
              rw [z, E6 _ _ hp] at e
              cases e
              cases hu) (fun z => by
              rw [z, E6 _ _ hl] at e
              cases e
              cases hu) e)
            have k7 : ∀ b o, b ≠ p → b ≠ lo → H' b = some o → H7 b = some o := fun b o n1 n2 e => kp b o n1 n2 (E6 _ _ e)
            refine ⟨rs0, rest, .tuple top, fun b o n e => k7 b o n (fun z => by rw [z, hlo] at e; cases e) (bH b o n e), S7, l7, stk0.keep (Nat.le_refl i) tkp fun b hb o ho => k7 b o (nap b (List.mem_cons_of_mem _ hb)) (fr b (List.mem_cons_of_mem _ hb)).2 ho, ?_, fun b hb => fr b (List.mem_cons_of_mem _ hb), hgo, .tup (st_of hq7) (UrAll.keep tkp hpl hu1), hpl⟩
            have : rest.length + 1 ≤ i := hsi
            omega
      · have hc' : (!decide (st.length = 0) && decide (aheadV ws i = V.str ")")) = false := by simpa using hc
        rw [if_neg hc]
        rw [if_neg hc] at hgo
        refine eX_of (pe_cl (E := E) cs hr (by decide) ps rfl (pa_cons pe_X pa_nil)) (eX_ev (ev_name 0 rfl) fun H5 e5 => ?_)
        have E5 := E4.trans e5
        refine ⟨p, d, ws, l, i, rfl, S.ex E5, fun w' x v H6 hw hx b6 S6 u6 => ?_, fun hn => ?_⟩
        · have hbx : (ws[i]?).bind singleW = some x := by rw [hw]; exact hx
          rw [hbx] at hgo
          have B6 : But p H' H6 := (ebut E5).trans b6
          exact ⟨rs, st, x, bH.trans B6, S6, B6 _ _ (Ne.symm npl) hl, stk.keep (Nat.le_refl i) (tupK_but B6 hp rfl) fun a ha o ho => B6 _ _ (nap a ha) ho, by omega, fr, hgo, u6, singleW_plain hx⟩
        · rw [hn] at hgo
          have bb := bH.trans (ebut E5)
          exact (k2 i hgo.symm).of bb ⟨_, E5 _ _ hp⟩
    · obtain ⟨rs', st', x, b5, S5, l5, stk5, hs5, fr5, go5, u5, p5⟩ := hq
      have hsl5 := stk5.len
      -- if open_ones == []: return found
      refine b_cons (s_if (k := decide (st'.length = 0)) (et_is (et_eqNil hr.units (ev_name 1 rfl) (sq_of l5)) (by rw [List.length_reverse, List.length_map, hsl5])) (fun hd H6 e6 => ?_) fun hd H6 e6 => b_nil ?_)
      · have h0 : st' = [] := List.eq_nil_of_length_eq_zero (of_decide_eq_true hd)
        subst h0
        refine b_one (s_ret (ev_name 2 rfl) fun H7 e7 => k1 x (i + 1) v H7 go5.symm (b5.trans (ebut (e6.trans e7))) (S5.ex (e6.trans e7)) (u5.ext (e6.trans e7)) p5)
      · cases stk5 with
        | nil => cases hd
        | @cons a vs top rs0 rest ha hu1 hpl hle hni stk0 =>
          have l6 := e6 _ _ l5
          rw [List.map_cons, List.reverse_cons] at l6
          have ha6 := e6 _ _ ha
          have hal := fr5 a List.mem_cons_self
          have nap' : a ≠ p := fun z => by
            have := hal.1
            rw [z, hp0] at this
            cases this
          have nad' : a ≠ d := fun z => by
            have := hal.1
            rw [z, S0.ls] at this
            cases this
          -- open_ones[-1].append(found)
          refine b_one (s_expr (e_append (l := a) (ev_ixL (i := -1) (ev_name 1 rfl) (ev_of (pe_un un_neg pe_int) (ev_un ev_c ru_neg)) (sq_of l6) (atI_last _ _)) ⟨vs, ha6⟩ fun H7 e7 => eX_ev (ev_name 2 rfl) fun H8 e8 => ⟨vs, e8 _ _ (e7 _ _ ha6), ?_, ?_⟩))
          · have h1 := hu1.len
            have h2 := S0.hn
            omega
          · have E8 := (e6.trans e7).trans e8
            have S8 := S5.ex E8
            have tkp : TupK K H5 (L2.upd H8 a (.lst (vs ++ [v]))) := (tupK_ex E8).trans (tupK_upd (E8 _ _ ha) rfl)
            have hil := S5.hi
            refine ⟨ws.length - i, by omega, i + 1, (top ++ [x]) :: rest, a :: rs0, some v, by omega, hil, hs5, rfl, (b5.trans (ebut E8)).mut hal.1, S8.upd nap' nad', ?_, ?_, fr5, go5⟩
            · rw [upd_ne (Ne.symm hal.2)]
              exact E8 _ _ l5
            · refine .cons upd_same ((UrAll.keep tkp hpl hu1).app (.cons (u5.keep tkp p5) .nil)) ?_ ?_ hni (stk0.keep (Nat.le_succ i) tkp fun b hb o ho => ?_)
              · rw [plainL_app, hpl]
                show (true && (plainD x && true)) = true
                rw [p5]
                rfl
              · rw [List.length_append]
                show top.length + 1 ≤ i + 1
                omega
              · rw [upd_ne (fun z => hni (by rw [← z]; exact hb))]
                exact E8 _ _ ho
end
end K96

set_option Elab.async false
set_option linter.all false
set_option maxRecDepth 100000
set_option maxHeartbeats 4000000
/-! fixed. -/
namespace K96
open PySem PySem.Spec PyProof.Rows L2 Evl
theorem TyX.at_ {K : Fr} {H H' : Hp} {a : Addr} {t : Value} (ty : TyX K H (.ref a) t) (e : ∀ o, H a = some o → H' a = some o) : TyX K H' (.ref a) t := by
  cases ty with
  | base b =>
    cases b with
    | lst h => exact .base (.lst (e _ h))
    | frz h => exact .base (.frz (e _ h))
    | tup h => exact .base (.tup (e _ h))
    | dK h => exact .base (.dK (e _ h))
    | dT h => exact .base (.dT (e _ h))
    | ins h cl a b c d => exact .base (.ins (e _ h) cl a b c d)
  | set h => exact .set (e _ h)
  | kList h c => exact .kList h c
  | kTuple h c => exact .kTuple h c
  | kDict h c => exact .kDict h c
  | fTuple h => exact .fTuple (e _ h)
  | fDict h => exact .fDict (e _ h)
theorem VT.objAt {K : Fr} {H H' : Hp} {a : Addr} (h : VT K H (.ref a) "obj") (e : ∀ o, H a = some o → H' a = some o) : VT K H' (.ref a) "obj" := by
  obtain ⟨t, ty, k⟩ := h.ty
  exact ⟨⟨t, TyX.at_ ty e, k⟩, h.int, h.str, h.non, fun q => absurd q (by decide)⟩
mutual
def noL : PyData → Bool
  | .tuple xs => noLL xs
  | .list _ => false
  | _ => true
def noLL : List PyData → Bool
  | [] => true
  | x :: xs => noL x && noLL xs
end
def isLst : HO → Bool
  | .lst _ => true
  | _ => false
/-- all but lists stand -/
def KeepN (H H' : Hp) : Prop := ∀ b o, isLst o = false → H b = some o → H' b = some o
theorem KeepN.tup {K : Fr} {H H' : Hp} (h : KeepN H H') : TupK K H H' := tupK_of fun b o ho e => h b o (by cases o <;> first | rfl | cases ho) e
mutual
theorem Ur.keepN {K : Fr} {H H' : Hp} (e : KeepN H H') : ∀ {v : V} {d : PyData}, noL d = true → Ur K H v d → Ur K H' v d
  | _, _, _, .non => .non
  | _, _, _, .bl b => .bl b
  | _, _, _, .int i => .int i
  | _, _, _, .str x h => .str x h
  | _, _, p, .lst h a => absurd p (by intro z; cases z)
  | _, _, p, .tup h a => .tup (e.tup _ _ h) (UrAll.keepN e p a)
  | _, _, p, .emp h => .emp (e _ _ rfl h)
  | _, _, p, .obj h q v => .obj (e _ _ rfl h) q (v.objAt fun o ho => by
    rw [h] at ho
    cases ho
    exact e _ _ rfl h)
theorem UrAll.keepN {K : Fr} {H H' : Hp} (e : KeepN H H') : ∀ {vs : List V} {ds : List PyData}, noLL ds = true → UrAll K H vs ds → UrAll K H' vs ds
  | _, _, _, .nil => .nil
  | _, _, p, .cons h a => .cons (Ur.keepN e (Bool.and_eq_true_iff.mp p).1 h) (UrAll.keepN e (Bool.and_eq_true_iff.mp p).2 a)
end
theorem sqT_hide {K : Fr} {H : Hp} {x a C dx : Addr} {fs : List (Str × V)} {xs : List V} (hx : H x = some (.ins C dx fs)) (h : SqT K H a xs) : SqT K (hide H x) a xs := by
  rcases h with (h | ⟨o, h⟩) | h
  · exact .inl (.inl (by rw [hide_ne (fun z => by rw [z, hx] at h; cases h)]; exact h))
  · exact .inl (.inr ⟨o, by rw [hide_ne (fun z => by rw [z, hx] at h; cases h)]; exact h⟩)
  · exact .inr h
theorem sqL_hide {K : Fr} {H : Hp} {x a C dx : Addr} {fs : List (Str × V)} {xs : List V} (hx : H x = some (.ins C dx fs)) (h : SqL K H a xs) : SqL K (hide H x) a xs := by
  rcases h with (h | ⟨o, h⟩) | h
  · exact .inl (.inl (by rw [hide_ne (fun z => by rw [z, hx] at h; cases h)]; exact h))
  · exact .inl (.inr ⟨o, by rw [hide_ne (fun z => by rw [z, hx] at h; cases h)]; exact h⟩)
  · exact .inr h
mutual
/-- an instance without its parts is in no data -/
theorem Ur.hideX {K : Fr} {H : Hp} {x C dx : Addr} {fs : List (Str × V)} (hx : H x = some (.ins C dx fs)) (hp : fs.lookup ("parts" : Str) = none) : ∀ {v : V} {d : PyData}, Ur K H v d → Ur K (hide H x) v d
  | _, _, .non => .non
  | _, _, .bl b => .bl b
  | _, _, .int i => .int i
  | _, _, .str x h => .str x h
  | _, _, .lst h a => .lst (sqL_hide hx h) (UrAll.hideX hx hp a)
  | _, _, .tup h a => .tup (sqT_hide hx h) (UrAll.hideX hx hp a)
  | _, _, .emp h => .emp (by rw [hide_ne (fun z => by rw [z, hx] at h; cases h)]; exact h)
  | _, _, .obj (a := a) h q v => by
    have ne : a ≠ x := fun z => by
      rw [z, hx] at h
      cases h
      rw [hp] at q
      cases q
    exact .obj (by rw [hide_ne ne]; exact h) q (v.objAt fun o ho => by rw [hide_ne ne]; exact ho)
theorem UrAll.hideX {K : Fr} {H : Hp} {x C dx : Addr} {fs : List (Str × V)} (hx : H x = some (.ins C dx fs)) (hp : fs.lookup ("parts" : Str) = none) : ∀ {vs : List V} {ds : List PyData}, UrAll K H vs ds → UrAll K (hide H x) vs ds
  | _, _, .nil => .nil
  | _, _, .cons h a => .cons (Ur.hideX hx hp h) (UrAll.hideX hx hp a)
end
mutual
/-- lists made tuples, all the way in -/
def fixedD : PyData → PyData
  | .tuple xs => .tuple (fixedL xs)
  | .list xs => .tuple (fixedL xs)
  | d => d
def fixedL : List PyData → List PyData
  | [] => []
  | x :: xs => fixedD x :: fixedL xs
end
theorem fixedL_len : ∀ xs : List PyData, (fixedL xs).length = xs.length
  | [] => rfl
  | x :: xs => congrArg (· + 1) (fixedL_len xs)
theorem fixedL_at : ∀ (xs : List PyData) (i : Nat), (fixedL xs)[i]? = (xs[i]?).map fixedD
  | [], i => by simp [fixedL]
  | x :: xs, 0 => by simp [fixedL]
  | x :: xs, i + 1 => by
    show (fixedL xs)[i]? = _
    rw [fixedL_at xs i]
    simp
mutual
theorem fixedD_noL : ∀ d : PyData, noL (fixedD d) = true
  | .tuple xs => fixedL_noL xs
  | .list xs => fixedL_noL xs
  | .none => rfl
  | .bool _ => rfl
  | .int _ => rfl
  | .str _ => rfl
  | .dict _ => rfl
theorem fixedL_noL : ∀ xs : List PyData, noLL (fixedL xs) = true
  | [] => rfl
  | x :: xs => by
    show (noL (fixedD x) && noLL (fixedL xs)) = true
    rw [fixedD_noL x, fixedL_noL xs]
    rfl
end
mutual
theorem fixedD_plain : ∀ d : PyData, plainD d = true → fixedD d = d
  | .tuple xs, h => congrArg PyData.tuple (fixedL_plain xs h)
  | .list xs, h => absurd h (by intro z; cases z)
  | .none, _ => rfl
  | .bool _, _ => rfl
  | .int _, _ => rfl
  | .str _, _ => rfl
  | .dict _, _ => rfl
theorem fixedL_plain : ∀ xs : List PyData, plainL xs = true → fixedL xs = xs
  | [], _ => rfl
  | x :: xs, h => by
    show fixedD x :: fixedL xs = x :: xs
    rw [fixedD_plain x (Bool.and_eq_true_iff.mp h).1, fixedL_plain xs (Bool.and_eq_true_iff.mp h).2]
end
/-- how deep lists and tuples lie -/
def deepAt : Nat → PyData → Bool
  | 0, .tuple _ => false
  | 0, .list _ => false
  | n + 1, .tuple xs => xs.all (deepAt n)
  | n + 1, .list xs => xs.all (deepAt n)
  | _, _ => true
theorem UrAll.of_at {K : Fr} {H : Hp} : ∀ {vs : List V} {ds : List PyData}, vs.length = ds.length → (∀ (i : Nat) (v : V), vs[i]? = some v → ∃ d, ds[i]? = some d ∧ Ur K H v d) → UrAll K H vs ds
  | [], [], _, _ => .nil
  | v :: vs, d :: ds, hl, h => by
    obtain ⟨d', h1, h2⟩ := h 0 v rfl
    have h1 : some d = some d' := h1
    cases h1
    exact .cons h2 (UrAll.of_at (Nat.succ.inj hl) fun i w hw => h (i + 1) w hw)
def seqD : PyData → Bool
  | .tuple _ => true
  | .list _ => true
  | _ => false
theorem seqK (d : PyData) : (isK (tagD d) "list" || isK (tagD d) "tuple") = seqD d := by
  cases d with
  | dict x =>
    cases x with
    | nil => show (isK "dict" "list" || isK "dict" "tuple") = false; decide
    | cons a b => show (isK "obj" "list" || isK "obj" "tuple") = false; decide
  | none => show (isK "NoneType" "list" || isK "NoneType" "tuple") = false; decide
  | bool b => show (isK "bool" "list" || isK "bool" "tuple") = false; decide
  | int i => show (isK "int" "list" || isK "int" "tuple") = false; decide
  | str s => show (isK "str" "list" || isK "str" "tuple") = false; decide
  | list x => show (isK "list" "list" || isK "list" "tuple") = true; decide
  | tuple x => show (isK "tuple" "list" || isK "tuple" "tuple") = true; decide
def spFixed (n : Nat) (K : Fr) : Sp := fun vs H Q _ => ∃ v d, vs = [v] ∧ Ur K H v d ∧ deepAt n d = true ∧ szD d ≤ 100000 ∧ ∀ v' H', Ex H H' → Ur K H' v' (fixedD d) → Q v' H'
section
variable {X : Cx} {e : Expr} {es : List Expr} {σ : Sg} {H : Hp} {v : V} {t : Value} {p p2 q : Pos}
/-- isinstance(e, (c1, c2, ..)) -/
theorem ev_isiU {cs : List V} {us : List Value} {b : Bool} {x1} (hi : X.mg "isinstance" = none) (he : EV X e σ H v) (hc : EA X es σ H cs) (hl : cs.length ≤ 100000) (hp : Paired ClsV cs us) (ty : TyX X.K H v t) (hk : PySem.W.kitAny X.K t us = some b) (hgi : Gl X ("isinstance" : Str) := by rfl)
    (hs : starEach [e, .Tuple es x1 p2] X.env = (false, eval e X.env) :: starEach [.Tuple es x1 p2] X.env := by rfl) (hs2 : starEach [.Tuple es x1 p2] X.env = (false, eval (.Tuple es x1 p2) X.env) :: starEach [] X.env := by rfl) (hpl : (backTo q (starEach [.Tuple es x1 p2] X.env)).any (·.1) = false := by rfl) :
    EV X (.Call (.Name "isinstance" p) [e, .Tuple es x1 p2] [] q) σ H (.bl b) :=
  ev_of (pe_callB call_isiT hgi hi boot_isinstance (pa_cons pe_X (pa_cons pe_X pa_nil hs2) hs) (by decide) (by decide) hs hpl) fun H1 e1 Q k => he H1 e1 _ fun H2 e2 => evu_tup hc hl H2 (e1.trans e2) _ fun r H3 hr e3 h3 => ⟨v, r, cs, t, us, b, rfl, h3, hp, TyX.ext ty ((e1.trans e2).trans e3), hk, k H3 (e2.trans e3)⟩
theorem et_isLT {d : PyData} (hi : X.mg "isinstance" = none) (h1 : X.mg "list" = none) (h2 : X.mg "tuple" = none) (he : EV X e σ H v) (u : Ur X.K H v d) (hgi : Gl X ("isinstance" : Str) := by rfl) (g1 : Gl X ("list" : Str) := by rfl) (g2 : Gl X ("tuple" : Str) := by rfl) {n1 n2 : Pos} {x1}
    (hs : starEach [e, .Tuple [.Name "list" n1, .Name "tuple" n2] x1 p2] X.env = (false, eval e X.env) :: starEach [.Tuple [.Name "list" n1, .Name "tuple" n2] x1 p2] X.env := by rfl) (hs2 : starEach [.Tuple [.Name "list" n1, .Name "tuple" n2] x1 p2] X.env = (false, eval (.Tuple [.Name "list" n1, .Name "tuple" n2] x1 p2) X.env) :: starEach [] X.env := by rfl) (hpl : (backTo q (starEach [.Tuple [.Name "list" n1, .Name "tuple" n2] x1 p2] X.env)).any (·.1) = false := by rfl)
    (hq : ∀ whole, isTrue (.Call (.Name "isinstance" p) [e, .Tuple [.Name "list" n1, .Name "tuple" n2] x1 p2] [] q) X.env whole = (do let v ← whole; standAt (Expr.Call (.Name "isinstance" p) [e, .Tuple [.Name "list" n1, .Name "tuple" n2] x1 p2] [] q).pos; holding [v] (truthy v)) := by intro _; rfl) :
    ET X (.Call (.Name "isinstance" p) [e, .Tuple [.Name "list" n1, .Name "tuple" n2] x1 p2] [] q) σ H (seqD d) := by
  obtain ⟨t, ty, kt⟩ := u.vt.ty
  refine et_val (ev_isiU (cs := [.ty "list", .ty "tuple"]) (us := [.type "list", .type "tuple"]) hi he (ea_cons (ev_ty h1 (by decide +kernel) g1) (ea_cons (ev_ty h2 (by decide +kernel) g2) ea_nil)) (by decide) (.cons (.ty _) (.cons (.ty _) .nil)) ty ?_ hgi hs hs2 hpl) hq
  refine kitAny_cons (kt "list" (by decide)) (fun hb => ?_) fun hb => ?_
  · refine kitAny_cons (kt "tuple" (by decide)) (fun hb2 => ?_) fun hb2 => ?_
    · rw [kitAny_nil]
      have := seqK d
      unfold isK at this
      rw [hb, hb2] at this
      exact congrArg some this
    · have := seqK d
      unfold isK at this
      rw [hb2, Bool.or_true] at this
      exact this.symm
  · have := seqK d
    unfold isK at this
    rw [hb, Bool.true_or] at this
    exact this.symm
end
end K96

set_option Elab.async false
set_option linter.all false
set_option maxRecDepth 100000
set_option maxHeartbeats 4000000
/-! fixed, by its depth. -/
namespace K96
open PySem PySem.Spec PyProof.Rows L2 Evl
theorem keepN_hide {H : Hp} {D : Addr} {ys : List V} (h : H D = some (.lst ys)) : KeepN H (hide H D) := fun b o ho e => by
  rw [hide_ne (fun z => by
    rw [z, h] at e
    cases e
    cases ho)]
  exact e
section
variable {P : Program} {w : World} {K : Fr} {mg : Str → Option Value} {base : Heap}
theorem fixed_step (T : Txt K mg) (D : Df K mg d_fixed) (n : Nat) (ih : ∀ m, n = m + 1 → Cl P w K mg base CX0 (m + 1) "fixed" (spFixed m K)) : Cl P w K mg base CX0 (n + 1) "fixed" (spFixed n K) := by
  refine D.cl sc_fixed (fun vs H Q E h => ?_) (fun _ _ _ _ _ _ us hl => match us, hl with | [_], _ => rfl) fun f cdv A outer s H vs Q E hr h => ⟨_, pb_X, ?_⟩
  · obtain ⟨v, d, rfl, _⟩ := h
    rfl
  obtain ⟨v, d, rfl, hu, ht, hz, k⟩ := h
  -- if isinstance(value, (list, tuple))
  refine b_cons (s_if (et_isLT (T.f "isinstance") (T.f "list") (T.f "tuple") (ev_name 0 rfl) hu) (fun hb H1 e1 => ?_) fun hb H1 e1 => b_nil ?_)
  · obtain ⟨a, xs, ds, rfl, hit, hall, hfx, hal, hzz⟩ : ∃ a xs ds, v = .ref a ∧ (SqT K H a xs ∨ SqL K H a xs) ∧ UrAll K H xs ds ∧ fixedD d = .tuple (fixedL ds) ∧ (∃ m, n = m + 1 ∧ ds.all (deepAt m) = true) ∧ szL ds < szD d := by
      cases hu with
      | @tup a xs ds h ua =>
        refine ⟨a, xs, ds, rfl, .inl h, ua, rfl, ?_, by show szL ds < 1 + szL ds; omega⟩
        cases n with
        | zero => cases ht
        | succ m => exact ⟨m, rfl, ht⟩
      | @lst a xs ds h ua =>
        refine ⟨a, xs, ds, rfl, .inr h, ua, rfl, ?_, by show szL ds < 1 + szL ds; omega⟩
        cases n with
        | zero => cases ht
        | succ m => exact ⟨m, rfl, ht⟩
      | _ => cases hb
    obtain ⟨m, rfl, hta⟩ := hal
    have c1 := ih m rfl
    have hxl := hall.len
    have hdl := szL_len ds
    refine b_one (s_retX (eX_of (pe_callTy call_tuple_of rfl (T.f "tuple") (by decide +kernel) (pa_cons pe_X pa_nil) (by decide) (by decide)) ?_))
    refine evR_lc (xs := xs) (i := 2) (fun j y H => ∃ dj, ds[j]? = some dj ∧ Ur K H y (fixedD dj)) (fun j y A B e ⟨dj, h1, h2⟩ => ⟨dj, h1, h2.ext e⟩) ?_ sc_fixed.nd (blkOk_by (N := ["value", "key", "part"]) (sc := defScope s_fixed) (by decide +kernel))
      (fun _ _ _ _ _ => pg_name sc_fixed.nd rfl (Or.inl rfl)) (by omega) (fun j x H2 hj e2 Q2 k2 s2 H0 C cl fp => ?_) rfl (fun _ => rfl) H1 (Ex.refl H1) _ fun r ys H2 hr2 e2 hy hyl hR => ?_
    · rcases hit with h | h
      · exact its_t (ev_name 0 rfl) (ex_t e1 h)
      · exact its_l (ev_name 0 rfl) (ex_l e1 h)
    · obtain ⟨dj, hdj, huj⟩ := hall.at hj
      have hm := List.mem_of_getElem? hdj
      refine eX_of (pe_cl (E := E0) c1 hr (by omega) pass0 rfl (pa_cons pe_X pa_nil)) (eX_ev (ev_name 2 rfl) fun H3 e3 => ?_)
      refine ⟨x, dj, rfl, huj.ext ((e1.trans e2).trans e3), List.all_eq_true.mp hta dj hm, by have := szD_mem hm; omega, fun v' H4 e4 u4 => k2 v' H4 (e3.trans e4) fun Dl o hD hDn => ⟨dj, hdj, u4.keepN (keepN_hide ((e3.trans e4) _ _ hD)) (fixedD_noL dj)⟩⟩
    · refine ⟨r, ys, rfl, .inl ⟨sq_of hy, fun q hq => ?_⟩⟩
      refine k (.ref q) _ ((e1.trans e2).trans (Ex.new hq)) ?_
      rw [hfx]
      refine .tup (st_of upd_same) (UrAll.of_at (by rw [fixedL_len]; omega) fun j y hj => ?_)
      obtain ⟨dj, h1, h2⟩ := hR j y hj
      exact ⟨fixedD dj, by rw [fixedL_at, h1]; rfl, (h2.ext hide_ex).ext (Ex.new hq)⟩
  · -- if isinstance(value, dict)
    have hE : ∀ {d'}, Ur K H v d' → Ur K H1 v d' := fun u => u.ext e1
    refine b_cons (s_if (et_val (ev_isi (m := "dict") (T.f "isinstance") (T.f "dict") (ev_name 0 rfl) (hu.vt.mono e1) (by decide))) (fun hc H2 e2 => ?_) fun hc H2 e2 => b_nil ?_)
    · obtain ⟨a, rfl, ha, rfl⟩ : ∃ a, v = .ref a ∧ H a = some (.dK []) ∧ d = .dict [] := by
        cases hu with
        | emp h => exact ⟨_, rfl, h, rfl⟩
        | obj h _ _ => exact absurd hc (by show ¬ isK "obj" "dict" = true; decide)
        | tup _ _ => cases hb
        | lst _ _ => cases hb
        | non => exact absurd hc (by show ¬ isK "NoneType" "dict" = true; decide)
        | bl _ => exact absurd hc (by show ¬ isK "bool" "dict" = true; decide)
        | int _ => exact absurd hc (by show ¬ isK "int" "dict" = true; decide)
        | str _ _ => exact absurd hc (by show ¬ isK "str" "dict" = true; decide)
      refine b_one (s_retX (eX_of (pe_lock (pe_dc (own := [("key", 1)]) (g := gName 1) (tt := tYes) (tk := fun _ _ _ => False) (tv := fun _ _ _ => False) rfl sc_fixed.nd (pi_keys pe_X) (blkOk_by (N := ["value", "key", "part"]) (sc := defScope s_fixed) (by decide +kernel))
        (fun _ _ _ _ _ => pg_name sc_fixed.nd rfl (Or.inl rfl)) (fun _ _ _ _ _ => pts_nil) (fun _ _ _ _ _ => ⟨fun _ _ _ _ _ _ h => h.elim⟩) (fun _ _ _ _ _ => ⟨fun _ _ _ _ _ _ h => h.elim⟩))) ?_))
      have ha2 := (e1.trans e2) _ _ ha
      refine ⟨a, .dK [], ha2, trivial, fun od => ?_⟩
      refine (show eX _ _ _ _ _ from eX_ev (ev_name 0 rfl) fun H3 e3 => ⟨a, od, rfl, .inl ⟨[], e3 _ _ upd_same, fun Dl hD => ?_⟩⟩)
      have ha3 := e3 _ _ upd_same
      have hDa : Dl ≠ a := fun z => by rw [z, ha3] at hD; cases hD
      refine ⟨fun i m H4 => H4 = L2.upd H3 Dl (.dK []), ⟨0, rfl⟩, fun i m H4 hW => ?_⟩
      subst hW
      have ha4 : L2.upd H3 Dl (.dK []) a = some (.frz od (.dK [])) := by
        rw [upd_ne (Ne.symm hDa)]
        exact ha3
      refine .inl ⟨⟨ha4, Nat.zero_le _⟩, ha4, k _ _ (fun b o hb => ?_) (.emp ?_)⟩
      · by_cases hba : b = a
        · subst hba
          rw [ha] at hb
          cases hb
          exact upd_same
        · have h3 : H3 b = some o := e3 _ _ (by rw [upd_ne hba]; exact (e1.trans e2) _ _ hb)
          rw [upd_ne hba, upd_ne (fun z => by rw [z, hD] at h3; cases h3)]
          exact h3
      · rw [upd_ne hDa]
        exact upd_same
    · refine b_one (s_ret (ev_name 0 rfl) fun H3 e3 => k v H3 ((e1.trans e2).trans e3) ?_)
      have : fixedD d = d := by
        cases hu with
        | tup _ _ => cases hb
        | lst _ _ => cases hb
        | _ => rfl
      rw [this]
      exact hu.ext ((e1.trans e2).trans e3)
theorem ok_fixed (T : Txt K mg) (D : Df K mg d_fixed) : ∀ n : Nat, Cl P w K mg base CX0 (n + 1) "fixed" (spFixed n K)
  | 0 => fixed_step T D 0 fun _ h => (nomatch h)
  | n + 1 => fixed_step T D (n + 1) fun m h => by
    cases h
    exact ok_fixed T D n
end
end K96

set_option Elab.async false
set_option linter.all false
set_option maxRecDepth 100000
set_option maxHeartbeats 4000000
/-! Paper.__init__, and the classes under it. -/
namespace K96
open PySem PySem.Spec PyProof.Rows L2 Evl
section
variable {X : Cx} {o : Expr} {pos : Pos} {f : Str} {to : TE}
def gFld (K : Fr) (to : TE) (f : Str) : TG := fun v σ H Q => to σ H fun x H1 => ∃ a C dx fs, x = .ref a ∧ H1 a = some (.ins C dx fs) ∧ Cls K C ∧ NoAttr K C f ∧ fs.length < 1000 ∧ Q σ (upd H1 a (.ins C dx (putF f v fs)))
theorem pg_fld (ho : PE X o to) : PG X (.Attribute o f pos) (gFld X.K to f) := by
  refine ⟨fun pins s σ H v u Q I r h => ?_⟩
  rw [assign_Attribute]
  refine wpAny_bind (wpAny_holding (thn (ho.run pins s σ H _ I h) fun uo s1 ⟨x, H1, I1, rx, a, C, dx, fs, ex, hx, c, n, hl, q⟩ => ?_))
  subst ex
  obtain rfl : uo = Value.ref a := rx
  refine wpAny_bind (wpAny_standAt (wpAny_bind (wpAny_holding (setattr_ok I1 hx c n hl r fun s2 I2 => ?_))))
  refine wpAny_release ?_
  exact ⟨σ, _, I2, q⟩
end
/-- an instance of the class at C with its word and parts -/
structure PapI (K : Fr) (H : Hp) (x C : Addr) (w : Str) (ds : List PyData) : Prop where
  ob : ∃ dx fs q ws, H x = some (.ins C dx fs) ∧ fs.lookup ("word" : Str) = some (.str w) ∧ fs.lookup ("parts" : Str) = some (.ref q) ∧ SqT K (hide H x) q ws ∧ UrAll K (hide H x) ws ds ∧ fs.length ≤ 20 ∧ ∀ m, m ∉ papF → fs.lookup m = none
def spPapIn (n : Nat) (K : Fr) : Sp := fun vs H Q _ => ∃ x C dx w p rest ds, vs = [.ref x, .str w, .ref p] ∧ H x = some (.ins C dx []) ∧ Cls K C ∧ NoAttr K C "word" ∧ NoAttr K C "parts" ∧ SqT K H p rest ∧ UrAll K H rest ds ∧ ds.all (deepAt n) = true ∧ szL ds < 100000 ∧
  ∀ q ws H', But x H H' → H' x = some (.ins C dx [("word", .str w), ("parts", .ref q)]) → SqT K (hide H' x) q ws → UrAll K (hide H' x) ws (fixedL ds) → Q .non H'
def spPap (n : Nat) (K : Fr) : Sp := fun vs H Q _ => ∃ x C dx w rest ds, vs = .ref x :: .str w :: rest ∧ H x = some (.ins C dx []) ∧ Cls K C ∧ NoAttr K C "word" ∧ NoAttr K C "parts" ∧ UrAll K H rest ds ∧ ds.all (deepAt n) = true ∧ szL ds < 100000 ∧
  ∀ q ws H', But x H H' → H' x = some (.ins C dx [("word", .str w), ("parts", .ref q)]) → SqT K (hide H' x) q ws → UrAll K (hide H' x) ws (fixedL ds) → Q .non H'
theorem wordNo {w : Str} : ([("word", V.str w)] : List (Str × V)).lookup ("parts" : Str) = none := by
  rw [lookup_put, if_neg (by decide +kernel)]
  rfl
theorem hide_to {H H' : Hp} {x : Addr} {o : HO} (e : Ex H H') : Ex (hide H x) (L2.upd H' x o) := fun b u h => by
  by_cases z : b = x
  · rw [z, hide, if_pos rfl] at h
    cases h
  · rw [hide_ne z] at h
    rw [upd_ne z]
    exact e _ _ h
theorem putParts {w : Str} {v : V} : putF "parts" v ([("word", V.str w)] : List (Str × V)) = ([("word", V.str w), ("parts", v)] : List (Str × V)) := by
  have h1 : ¬ (("word" : Str) = "parts") := by decide +kernel
  show (if ("word" : Str) = "parts" then _ else (("word" : Str), V.str w) :: [(("parts" : Str), v)]) = _
  rw [if_neg h1]
section
variable {P : Program} {w : World} {K : Fr} {mg : Str → Option Value} {base : Heap} {A : Adr}
theorem ok_Paper {f : Addr} (D : DfA K d_Paper_init f) (n : Nat) (cf : Cl P w K mg base CX0 (n + 2) "fixed" (spFixed (n + 1) K)) : FnR P w K mg base CX0 (n + 3) f (spPap n K) := by
  obtain ⟨fd, F⟩ := D.ex
  obtain ⟨oc, od, dV, kV, doc, pm, an, cdv, ct, osl, e, lk, hcd, hdf, hkw⟩ := F.ex
  subst e
  have hdV : dV = .none := by
    rcases hdf with ⟨_, h⟩ | ⟨h, _⟩
    · exact h
    · exact absurd rfl h
  subst hdV
  refine (StX.fn_star (ps := ["self", "word"]) (pv := "parts") (sp := spPapIn n K) lk hcd sc_Paper_init StX.cxUp_none (StX.bind_star2 (B := fun us => bindArgs (PySem.W.fnOf d_Paper_init.name d_Paper_init.qual d_Paper_init.params d_Paper_init.body d_Paper_init.scope .none kV doc pm an cdv ct) ⟨us, []⟩) (p1 := "self") (p2 := "word") (pv := "parts") (fun a b => rfl) fun a b r rs => rfl) fun Ar outer s H vs Q E hr h => ⟨_, pb_X, ?_⟩).imp fun vs H Q E h => ?_
  · obtain ⟨x, C, dx, w, p, rest, ds, rfl, hx, c, n1, n2, hp, hu, hd, hz, k⟩ := h
    -- self.word = word
    refine b_cons (s_fld (x := x) (C := C) (dx := dx) (eX_ev (ev_name 1 rfl) fun H1 e1 => ⟨[], ev_name 0 rfl, e1 _ _ hx, by show 0 < 1000; decide, fun H2 e2 => ?_⟩) c n1)
    have E2 := e1.trans e2
    have hx3 : L2.upd H2 x (.ins C dx (putF "word" (.str w) [])) x = some (.ins C dx [("word", .str w)]) := upd_same
    -- self.parts = fixed(parts)
    refine b_one (s_fld (x := x) (C := C) (dx := dx) (eX_of (pe_cl (E := E) cf hr (by omega) pass0 rfl (pa_cons pe_X pa_nil)) (eX_ev (ev_name 2 rfl) fun H4 e4 => ?_)) c n2)
    have ht : TupK K H (L2.upd H2 x (.ins C dx (putF "word" (.str w) []))) := (tupK_ex E2).trans (tupK_upd (E2 _ _ hx) rfl)
    have hx4 := e4 _ _ hx3
    refine ⟨.ref p, .tuple ds, rfl, ?_, hd, by show 1 + szL ds ≤ 100000; omega, fun v' H5 e5 u5 => ?_⟩
    · exact (Ur.tup (ht _ _ hp) ((hu.hideX hx rfl).ext (hide_to E2))).ext e4
    · have hx5 := e5 _ _ hx4
      refine ⟨_, ev_name 0 rfl, hx5, by show 1 < 1000; decide, fun H6 e6 => ?_⟩
      have hx6 := e6 _ _ hx5
      rw [putParts]
      have u6 := (u5.ext e6).hideX hx6 wordNo
      cases u6 with
      | @tup q ws _ hq uq =>
        refine k q ws _ (fun b u hb hu => ?_) upd_same ?_ ?_
        · rw [upd_ne hb]
          refine e6 _ _ (e5 _ _ (e4 _ _ ?_))
          rw [upd_ne hb]
          exact E2 _ _ hu
        · rw [hide_upd]
          exact hq
        · rw [hide_upd]
          exact uq
  · obtain ⟨x, C, dx, w, rest, ds, rfl, hx, c, n1, n2, hu, hd, hz, k⟩ := h
    have hl := hu.len
    have hdl := szL_len ds
    refine ⟨[.ref x, .str w], rest, rfl, rfl, sz_of (by omega), fun p hp => ?_⟩
    refine ⟨x, C, dx, w, p, rest, ds, rfl, Ex.new hp _ _ hx, c, n1, n2, st_of upd_same, hu.ext (Ex.new hp), hd, hz, fun q ws H' b hx' hq uq => k q ws H' ((ebut (Ex.new hp)).trans b) hx' hq uq⟩
end
end K96

set_option Elab.async false
set_option linter.all false
set_option maxRecDepth 100000
set_option maxHeartbeats 4000000
/-! The classes of papers: what their __init__ share. -/
namespace K96
open PySem PySem.Spec PyProof.Rows L2 Evl
theorem putF_le {f : Str} {v : V} : ∀ {fs : List (Str × V)}, (putF f v fs).length ≤ fs.length + 1
  | [] => Nat.le_refl _
  | (g, y) :: fs => by
    show (if g = f then _ else (g, y) :: putF f v fs).length ≤ _
    split
    · show _ ≤ fs.length + 1 + 1
      simp
    · show (putF f v fs).length + 1 ≤ fs.length + 1 + 1
      have := putF_le (f := f) (v := v) (fs := fs)
      omega
structure FldOk (fs : List (Str × V)) (w : Str) (q : Addr) (n : Nat) : Prop where
  w : fs.lookup ("word" : Str) = some (.str w)
  p : fs.lookup ("parts" : Str) = some (.ref q)
  no : ∀ m, m ∉ papF → fs.lookup m = none
  le : fs.length ≤ n
theorem FldOk.put {fs : List (Str × V)} {w : Str} {q : Addr} {n : Nat} {f : Str} {v : V} (h : FldOk fs w q n) (hf : f ∈ papF) (h1 : ¬ ("word" : Str) = f) (h2 : ¬ ("parts" : Str) = f) : FldOk (putF f v fs) w q (n + 1) :=
  ⟨by rw [lookup_putF, if_neg h1]; exact h.w, by rw [lookup_putF, if_neg h2]; exact h.p, fun m hm => by
    rw [lookup_putF, if_neg (fun e => hm (by rw [e]; exact hf))]
    exact h.no m hm, Nat.le_trans putF_le (Nat.succ_le_succ h.le)⟩
theorem FldOk.two {w : Str} {q : Addr} : FldOk ([("word", .str w), ("parts", .ref q)] : List (Str × V)) w q 2 := by
  have h : ¬ (("parts" : Str) = "word") := by decide +kernel
  have m1 : ("word" : Str) ∈ papF := by decide +kernel
  have m2 : ("parts" : Str) ∈ papF := by decide +kernel
  refine ⟨by rw [lookup_put, if_pos rfl], by rw [lookup_put, if_neg h, lookup_put, if_pos rfl], fun m hm => ?_, Nat.le_refl _⟩
  rw [lookup_put, if_neg (fun e => hm (by rw [e]; exact m1)), lookup_put, if_neg (fun e => hm (by rw [e]; exact m2))]
  rfl
theorem FldOk.pap {K : Fr} {H : Hp} {x D dx : Addr} {fs : List (Str × V)} {w : Str} {q : Addr} {n : Nat} {ws : List V} {ds : List PyData} (h : FldOk fs w q n) (hn : n ≤ 20) (hq : SqT K (hide H x) q ws) (hu : UrAll K (hide H x) ws ds) : PapI K (L2.upd H x (.ins D dx fs)) x D w ds :=
  ⟨dx, fs, q, ws, upd_same, h.w, h.p, by rw [hide_upd]; exact hq, by rw [hide_upd]; exact hu, Nat.le_trans h.le hn, h.no⟩
def spSub (D : Addr) (w : Str) (k n : Nat) (K : Fr) : Sp := fun vs H Q _ => ∃ x dx args ds, vs = .ref x :: args ∧ args.length = k ∧ H x = some (.ins D dx []) ∧ UrAll K H args ds ∧ ds.all (deepAt n) = true ∧ szL ds < 100000 ∧ ∀ H', But x H H' → PapI K H' x D w (fixedL ds) → Q .non H'
section
variable {X : Cx} {a b o e : Expr} {es : List Expr} {pos apos ppos tpos : Pos} {σ : Sg} {H : Hp} {D : Ends} {v : V} {f : Str} {C x dx q : Addr} {ws : List V} {w : Str} {ds : List PyData}
/-- xs[i], xs a tuple -/
theorem ev_ixT {d : Addr} {xs : List V} {i : Int} (ha : EV X a σ H (.ref d)) (hb : EV X b σ H (.int i)) (hd : SqT X.K H d xs) (hi : atI xs i = some v) (hs : PlainIx b := by intro _ _; rfl) : EV X (.Subscript a b pos) σ H v :=
  ev_of (pe_ix ix_tup pe_X pe_X hs) (ev_op ha hb (rv_ixT hd hi))
/-- what stands behind super().__init__ -/
structure SupS (K : Fr) (H0 H : Hp) (x C dx q : Addr) (w : Str) (ws : List V) (ds : List PyData) (fs : List (Str × V)) (n : Nat) : Prop where
  but : But x H0 H
  ob : H x = some (.ins C dx fs)
  fl : FldOk fs w q n
  sq : SqT K (hide H x) q ws
  ur : UrAll K (hide H x) ws ds
theorem SupS.ext {K : Fr} {H0 H H' : Hp} {fs : List (Str × V)} {n : Nat} (S : SupS K H0 H x C dx q w ws ds fs n) (e : Ex H H') : SupS K H0 H' x C dx q w ws ds fs n :=
  ⟨S.but.trans (ebut e), e _ _ S.ob, S.fl, ex_t (hide_mono e) S.sq, S.ur.ext (hide_mono e)⟩
theorem SupS.put {K : Fr} {H0 H : Hp} {fs : List (Str × V)} {n : Nat} (S : SupS K H0 H x C dx q w ws ds fs n) (hf : f ∈ papF) (h1 : ¬ ("word" : Str) = f := by decide +kernel) (h2 : ¬ ("parts" : Str) = f := by decide +kernel) : SupS K H0 (L2.upd H x (.ins C dx (putF f v fs))) x C dx q w ws ds (putF f v fs) (n + 1) :=
  ⟨S.but.trans But.upd, upd_same, S.fl.put hf h1 h2, by rw [hide_upd]; exact S.sq, by rw [hide_upd]; exact S.ur⟩
theorem SupS.pap {K : Fr} {H0 H : Hp} {fs : List (Str × V)} {n : Nat} (S : SupS K H0 H x C dx q w ws ds fs n) (hn : n ≤ 20) : PapI K H x C w ds :=
  ⟨dx, fs, q, ws, S.ob, S.fl.w, S.fl.p, S.sq, S.ur, Nat.le_trans S.fl.le hn, S.fl.no⟩
/-- self.parts -/
theorem ev_parts {H0 : Hp} {fs : List (Str × V)} {n : Nat} (S : SupS X.K H0 H x C dx q w ws ds fs n) (O : Cls X.K C) (N : NoAttr X.K C "parts") (ho : EV X o σ H (.ref x)) (hb : attributeBase o "parts" X.env (eval o X.env) = eval o X.env := by rfl) : EV X (.Attribute o "parts" apos) σ H (.ref q) :=
  ev_fld ho S.ob O N S.fl.p hb
/-- one attribute of a tuple's targets -/
theorem g_fld {H0 : Hp} {fs : List (Str × V)} {n : Nat} {Q : Sg → Hp → Prop} (S : SupS X.K H0 H x C dx q w ws ds fs n) (hn : n ≤ 20) (O : Cls X.K C) (N : NoAttr X.K C f) (hf : f ∈ papF) (h1 : ¬ ("word" : Str) = f) (h2 : ¬ ("parts" : Str) = f) (ho : EV X o σ H (.ref x)) (k : ∀ fs' H', SupS X.K H0 H' x C dx q w ws ds fs' (n + 1) → Q σ H') :
    gFld X.K (eX X o) f v σ H Q :=
  eX_ev ho fun H1 e1 => ⟨x, C, dx, fs, rfl, e1 _ _ S.ob, O, N, by have := S.fl.le; omega, k _ _ ((S.ext e1).put hf h1 h2)⟩
end
end K96

set_option Elab.async false
set_option linter.all false
set_option maxRecDepth 100000
set_option maxHeartbeats 4000000
/-! The sixteen classes of papers (printed by gen2.py). -/
namespace K96
open PySem PySem.Spec PyProof.Rows L2 Evl
section
variable {P : Program} {w : World} {K : Fr} {mg : Str → Option Value} {base : Heap} {f f2 cda cc D : Addr} {k n : Nat}
theorem sS_Bears : ScS ["self", "rows"] ["self", "rows"] (defScope s_Bears_init) := ⟨rfl, rfl, rfl, by decide +kernel, rfl, by decide +kernel, by decide +kernel, by decide +kernel, rfl, rfl⟩
theorem ok_Bears (F : SupF P K mg "__init__" "Bears.__init__" (defArgs s_Bears_init) (defBody s_Bears_init) (defScope s_Bears_init) f cda cc D f2) (O : Obc K mg "Bears" D papF) (F2 : FnR P w K mg base CX0 k f2 (spPap n K)) : FnR P w K mg base CX0 (k + 1) f (spSub D "bears" 1 n K) := by
  refine super_fn F sS_Bears F2 ⟨_, rfl, rfl⟩ (fun vs H Q E h => ?_) (fun _ _ _ _ _ us hl => match us, hl with | [_, _], _ => rfl) (fun _ => rfl) (fun Ar outer s H vs Q E hr h => ?_) (fun _ _ => rfl) (fun _ _ => rfl) (fun _ _ => rfl) (fun _ _ => ⟨_, rfl⟩)
  · obtain ⟨x, dx, args, ds, rfl, hal, _⟩ := h
    exact congrArg (· + 1) hal
  obtain ⟨x, dx, args, ds, rfl, hal, hx, hu, hd, hz, kk⟩ := h
  match args, hal with
  | [a1], _ =>
    refine ⟨x, dx, [], _, rfl, hx, a_cons (eX_ev ev_str fun H0 e0 => a_cons (eX_ev (ev_name 1 rfl) fun H1 e1 => a_nil ?_))⟩
    have E := (e0.trans e1)
    refine ⟨x, D, dx, _, [a1], ds, rfl, E _ _ hx, O.cl, O.no _ (by decide +kernel), O.no _ (by decide +kernel), hu.ext E, hd, hz, fun q ws H' b hx' hq uq => ?_⟩
    have S : SupS K H H' x D dx q "bears" ws (fixedL ds) _ 2 := ⟨(ebut E).trans b, hx', FldOk.two, hq, uq⟩
    have hl : ws.length = 1 := by
      have h1 := uq.len
      have h2 := hu.len
      rw [fixedL_len] at h1
      exact h1.trans h2.symm
    match ws, hl with
    | [w1], _ =>
      refine b_one (s_fld (x := x) (C := D) (dx := dx) (eX_ev (ev_ixT (v := w1) (i := 0) (ev_parts S O.cl (O.no _ (by decide +kernel)) (ev_name 0 rfl)) ev_int (ex_t hide_ex hq) rfl) fun H1 e1 => ⟨_, ev_name 0 rfl, (S.ext e1).ob, by have := S.fl.le; omega, fun H2 e2 => ?_⟩) O.cl (O.no _ (by decide +kernel)))
      have S2 := ((S.ext e1).ext e2).put (v := w1) (f := "rows") (by decide +kernel)
      exact kk _ S2.but (S2.pap (by decide))
theorem sS_Loses : ScS ["self", "kind", "ahead", "unseen", "behind", "lost"] ["self", "kind", "ahead", "unseen", "behind", "lost"] (defScope s_Loses_init) := ⟨rfl, rfl, rfl, by decide +kernel, rfl, by decide +kernel, by decide +kernel, by decide +kernel, rfl, rfl⟩
theorem ok_Loses (F : SupF P K mg "__init__" "Loses.__init__" (defArgs s_Loses_init) (defBody s_Loses_init) (defScope s_Loses_init) f cda cc D f2) (O : Obc K mg "Loses" D papF) (F2 : FnR P w K mg base CX0 k f2 (spPap n K)) : FnR P w K mg base CX0 (k + 1) f (spSub D "loses" 5 n K) := by
  refine super_fn F sS_Loses F2 ⟨_, rfl, rfl⟩ (fun vs H Q E h => ?_) (fun _ _ _ _ _ us hl => match us, hl with | [_, _, _, _, _, _], _ => rfl) (fun _ => rfl) (fun Ar outer s H vs Q E hr h => ?_) (fun _ _ => rfl) (fun _ _ => rfl) (fun _ _ => rfl) (fun _ _ => ⟨_, rfl⟩)
  · obtain ⟨x, dx, args, ds, rfl, hal, _⟩ := h
    exact congrArg (· + 1) hal
  obtain ⟨x, dx, args, ds, rfl, hal, hx, hu, hd, hz, kk⟩ := h
  match args, hal with
  | [a1, a2, a3, a4, a5], _ =>
    refine ⟨x, dx, [], _, rfl, hx, a_cons (eX_ev ev_str fun H0 e0 => a_cons (eX_ev (ev_name 1 rfl) fun H1 e1 => a_cons (eX_ev (ev_name 2 rfl) fun H2 e2 => a_cons (eX_ev (ev_name 3 rfl) fun H3 e3 => a_cons (eX_ev (ev_name 4 rfl) fun H4 e4 => a_cons (eX_ev (ev_name 5 rfl) fun H5 e5 => a_nil ?_))))))⟩
    have E := (((((e0.trans e1).trans e2).trans e3).trans e4).trans e5)
    refine ⟨x, D, dx, _, [a1, a2, a3, a4, a5], ds, rfl, E _ _ hx, O.cl, O.no _ (by decide +kernel), O.no _ (by decide +kernel), hu.ext E, hd, hz, fun q ws H' b hx' hq uq => ?_⟩
    have S : SupS K H H' x D dx q "loses" ws (fixedL ds) _ 2 := ⟨(ebut E).trans b, hx', FldOk.two, hq, uq⟩
    have hl : ws.length = 5 := by
      have h1 := uq.len
      have h2 := hu.len
      rw [fixedL_len] at h1
      exact h1.trans h2.symm
    match ws, hl with
    | [w1, w2, w3, w4, w5], _ =>
      refine b_one (sX_of (ps_asg pe_X (pg_tup rfl (pgs_cons (pg_fld pe_X) (pgs_cons (pg_fld pe_X) (pgs_cons (pg_fld pe_X) (pgs_cons (pg_fld pe_X) (pgs_cons (pg_fld pe_X) (pgs_nil))))))) rfl rfl rfl) (eX_ev (ev_parts S O.cl (O.no _ (by decide +kernel)) (ev_name 0 rfl)) fun G0 g0 => ⟨q, [w1, w2, w3, w4, w5], rfl, ex_t (hide_ex.trans g0) hq, rfl, ?_⟩))
      have S0 := S.ext g0
      refine ⟨w1, [w2, w3, w4, w5], rfl, ?_⟩
      refine g_fld (f := "kind") (n := 2) S0 (by decide) O.cl (O.no _ (by decide +kernel)) (by decide +kernel) (by decide +kernel) (by decide +kernel) (ev_name 0 rfl) fun fs1 G1 S1 => ?_
      refine ⟨w2, [w3, w4, w5], rfl, ?_⟩
      refine g_fld (f := "ahead") (n := 3) S1 (by decide) O.cl (O.no _ (by decide +kernel)) (by decide +kernel) (by decide +kernel) (by decide +kernel) (ev_name 0 rfl) fun fs2 G2 S2 => ?_
      refine ⟨w3, [w4, w5], rfl, ?_⟩
      refine g_fld (f := "unseen") (n := 4) S2 (by decide) O.cl (O.no _ (by decide +kernel)) (by decide +kernel) (by decide +kernel) (by decide +kernel) (ev_name 0 rfl) fun fs3 G3 S3 => ?_
      refine ⟨w4, [w5], rfl, ?_⟩
      refine g_fld (f := "behind") (n := 5) S3 (by decide) O.cl (O.no _ (by decide +kernel)) (by decide +kernel) (by decide +kernel) (by decide +kernel) (ev_name 0 rfl) fun fs4 G4 S4 => ?_
      refine ⟨w5, [], rfl, ?_⟩
      refine g_fld (f := "lost") (n := 6) S4 (by decide) O.cl (O.no _ (by decide +kernel)) (by decide +kernel) (by decide +kernel) (by decide +kernel) (ev_name 0 rfl) fun fs5 G5 S5 => ?_
      exact ⟨rfl, kk _ S5.but (S5.pap (by decide))⟩
theorem sS_Settled : ScS ["self", "cases"] ["self", "cases"] (defScope s_Settled_init) := ⟨rfl, rfl, rfl, by decide +kernel, rfl, by decide +kernel, by decide +kernel, by decide +kernel, rfl, rfl⟩
theorem ok_Settled (F : SupF P K mg "__init__" "Settled.__init__" (defArgs s_Settled_init) (defBody s_Settled_init) (defScope s_Settled_init) f cda cc D f2) (O : Obc K mg "Settled" D papF) (F2 : FnR P w K mg base CX0 k f2 (spPap n K)) : FnR P w K mg base CX0 (k + 1) f (spSub D "settled" 1 n K) := by
  refine super_fn F sS_Settled F2 ⟨_, rfl, rfl⟩ (fun vs H Q E h => ?_) (fun _ _ _ _ _ us hl => match us, hl with | [_, _], _ => rfl) (fun _ => rfl) (fun Ar outer s H vs Q E hr h => ?_) (fun _ _ => rfl) (fun _ _ => rfl) (fun _ _ => rfl) (fun _ _ => ⟨_, rfl⟩)
  · obtain ⟨x, dx, args, ds, rfl, hal, _⟩ := h
    exact congrArg (· + 1) hal
  obtain ⟨x, dx, args, ds, rfl, hal, hx, hu, hd, hz, kk⟩ := h
  match args, hal with
  | [a1], _ =>
    refine ⟨x, dx, [], _, rfl, hx, a_cons (eX_ev ev_str fun H0 e0 => a_cons (eX_ev (ev_name 1 rfl) fun H1 e1 => a_nil ?_))⟩
    have E := (e0.trans e1)
    refine ⟨x, D, dx, _, [a1], ds, rfl, E _ _ hx, O.cl, O.no _ (by decide +kernel), O.no _ (by decide +kernel), hu.ext E, hd, hz, fun q ws H' b hx' hq uq => ?_⟩
    have S : SupS K H H' x D dx q "settled" ws (fixedL ds) _ 2 := ⟨(ebut E).trans b, hx', FldOk.two, hq, uq⟩
    have hl : ws.length = 1 := by
      have h1 := uq.len
      have h2 := hu.len
      rw [fixedL_len] at h1
      exact h1.trans h2.symm
    match ws, hl with
    | [w1], _ =>
      refine b_one (s_fld (x := x) (C := D) (dx := dx) (eX_ev (ev_ixT (v := w1) (i := 0) (ev_parts S O.cl (O.no _ (by decide +kernel)) (ev_name 0 rfl)) ev_int (ex_t hide_ex hq) rfl) fun H1 e1 => ⟨_, ev_name 0 rfl, (S.ext e1).ob, by have := S.fl.le; omega, fun H2 e2 => ?_⟩) O.cl (O.no _ (by decide +kernel)))
      have S2 := ((S.ext e1).ext e2).put (v := w1) (f := "cases") (by decide +kernel)
      exact kk _ S2.but (S2.pap (by decide))
theorem sS_Comes : ScS ["self", "future"] ["self", "future"] (defScope s_Comes_init) := ⟨rfl, rfl, rfl, by decide +kernel, rfl, by decide +kernel, by decide +kernel, by decide +kernel, rfl, rfl⟩
theorem ok_Comes (F : SupF P K mg "__init__" "Comes.__init__" (defArgs s_Comes_init) (defBody s_Comes_init) (defScope s_Comes_init) f cda cc D f2) (O : Obc K mg "Comes" D papF) (F2 : FnR P w K mg base CX0 k f2 (spPap n K)) : FnR P w K mg base CX0 (k + 1) f (spSub D "comes" 1 n K) := by
  refine super_fn F sS_Comes F2 ⟨_, rfl, rfl⟩ (fun vs H Q E h => ?_) (fun _ _ _ _ _ us hl => match us, hl with | [_, _], _ => rfl) (fun _ => rfl) (fun Ar outer s H vs Q E hr h => ?_) (fun _ _ => rfl) (fun _ _ => rfl) (fun _ _ => rfl) (fun _ _ => ⟨_, rfl⟩)
  · obtain ⟨x, dx, args, ds, rfl, hal, _⟩ := h
    exact congrArg (· + 1) hal
  obtain ⟨x, dx, args, ds, rfl, hal, hx, hu, hd, hz, kk⟩ := h
  match args, hal with
  | [a1], _ =>
    refine ⟨x, dx, [], _, rfl, hx, a_cons (eX_ev ev_str fun H0 e0 => a_cons (eX_ev (ev_name 1 rfl) fun H1 e1 => a_nil ?_))⟩
    have E := (e0.trans e1)
    refine ⟨x, D, dx, _, [a1], ds, rfl, E _ _ hx, O.cl, O.no _ (by decide +kernel), O.no _ (by decide +kernel), hu.ext E, hd, hz, fun q ws H' b hx' hq uq => ?_⟩
    have S : SupS K H H' x D dx q "comes" ws (fixedL ds) _ 2 := ⟨(ebut E).trans b, hx', FldOk.two, hq, uq⟩
    have hl : ws.length = 1 := by
      have h1 := uq.len
      have h2 := hu.len
      rw [fixedL_len] at h1
      exact h1.trans h2.symm
    match ws, hl with
    | [w1], _ =>
      refine b_one (s_fld (x := x) (C := D) (dx := dx) (eX_ev (ev_ixT (v := w1) (i := 0) (ev_parts S O.cl (O.no _ (by decide +kernel)) (ev_name 0 rfl)) ev_int (ex_t hide_ex hq) rfl) fun H1 e1 => ⟨_, ev_name 0 rfl, (S.ext e1).ob, by have := S.fl.le; omega, fun H2 e2 => ?_⟩) O.cl (O.no _ (by decide +kernel)))
      have S2 := ((S.ext e1).ext e2).put (v := w1) (f := "future") (by decide +kernel)
      exact kk _ S2.but (S2.pap (by decide))
theorem sS_Acts : ScS ["self", "hand", "future", "last"] ["self", "hand", "future", "last"] (defScope s_Acts_init) := ⟨rfl, rfl, rfl, by decide +kernel, rfl, by decide +kernel, by decide +kernel, by decide +kernel, rfl, rfl⟩
theorem ok_Acts (F : SupF P K mg "__init__" "Acts.__init__" (defArgs s_Acts_init) (defBody s_Acts_init) (defScope s_Acts_init) f cda cc D f2) (O : Obc K mg "Acts" D papF) (F2 : FnR P w K mg base CX0 k f2 (spPap n K)) : FnR P w K mg base CX0 (k + 1) f (spSub D "acts" 3 n K) := by
  refine super_fn F sS_Acts F2 ⟨_, rfl, rfl⟩ (fun vs H Q E h => ?_) (fun _ _ _ _ _ us hl => match us, hl with | [_, _, _, _], _ => rfl) (fun _ => rfl) (fun Ar outer s H vs Q E hr h => ?_) (fun _ _ => rfl) (fun _ _ => rfl) (fun _ _ => rfl) (fun _ _ => ⟨_, rfl⟩)
  · obtain ⟨x, dx, args, ds, rfl, hal, _⟩ := h
    exact congrArg (· + 1) hal
  obtain ⟨x, dx, args, ds, rfl, hal, hx, hu, hd, hz, kk⟩ := h
  match args, hal with
  | [a1, a2, a3], _ =>
    refine ⟨x, dx, [], _, rfl, hx, a_cons (eX_ev ev_str fun H0 e0 => a_cons (eX_ev (ev_name 1 rfl) fun H1 e1 => a_cons (eX_ev (ev_name 2 rfl) fun H2 e2 => a_cons (eX_ev (ev_name 3 rfl) fun H3 e3 => a_nil ?_))))⟩
    have E := (((e0.trans e1).trans e2).trans e3)
    refine ⟨x, D, dx, _, [a1, a2, a3], ds, rfl, E _ _ hx, O.cl, O.no _ (by decide +kernel), O.no _ (by decide +kernel), hu.ext E, hd, hz, fun q ws H' b hx' hq uq => ?_⟩
    have S : SupS K H H' x D dx q "acts" ws (fixedL ds) _ 2 := ⟨(ebut E).trans b, hx', FldOk.two, hq, uq⟩
    have hl : ws.length = 3 := by
      have h1 := uq.len
      have h2 := hu.len
      rw [fixedL_len] at h1
      exact h1.trans h2.symm
    match ws, hl with
    | [w1, w2, w3], _ =>
      refine b_one (sX_of (ps_asg pe_X (pg_tup rfl (pgs_cons (pg_fld pe_X) (pgs_cons (pg_fld pe_X) (pgs_cons (pg_fld pe_X) (pgs_nil))))) rfl rfl rfl) (eX_ev (ev_parts S O.cl (O.no _ (by decide +kernel)) (ev_name 0 rfl)) fun G0 g0 => ⟨q, [w1, w2, w3], rfl, ex_t (hide_ex.trans g0) hq, rfl, ?_⟩))
      have S0 := S.ext g0
      refine ⟨w1, [w2, w3], rfl, ?_⟩
      refine g_fld (f := "hand") (n := 2) S0 (by decide) O.cl (O.no _ (by decide +kernel)) (by decide +kernel) (by decide +kernel) (by decide +kernel) (ev_name 0 rfl) fun fs1 G1 S1 => ?_
      refine ⟨w2, [w3], rfl, ?_⟩
      refine g_fld (f := "future") (n := 3) S1 (by decide) O.cl (O.no _ (by decide +kernel)) (by decide +kernel) (by decide +kernel) (by decide +kernel) (ev_name 0 rfl) fun fs2 G2 S2 => ?_
      refine ⟨w3, [], rfl, ?_⟩
      refine g_fld (f := "last") (n := 4) S2 (by decide) O.cl (O.no _ (by decide +kernel)) (by decide +kernel) (by decide +kernel) (by decide +kernel) (ev_name 0 rfl) fun fs3 G3 S3 => ?_
      exact ⟨rfl, kk _ S3.but (S3.pap (by decide))⟩
theorem sS_Idle : ScS ["self", "hand", "cases"] ["self", "hand", "cases"] (defScope s_Idle_init) := ⟨rfl, rfl, rfl, by decide +kernel, rfl, by decide +kernel, by decide +kernel, by decide +kernel, rfl, rfl⟩
theorem ok_Idle (F : SupF P K mg "__init__" "Idle.__init__" (defArgs s_Idle_init) (defBody s_Idle_init) (defScope s_Idle_init) f cda cc D f2) (O : Obc K mg "Idle" D papF) (F2 : FnR P w K mg base CX0 k f2 (spPap n K)) : FnR P w K mg base CX0 (k + 1) f (spSub D "idle" 2 n K) := by
  refine super_fn F sS_Idle F2 ⟨_, rfl, rfl⟩ (fun vs H Q E h => ?_) (fun _ _ _ _ _ us hl => match us, hl with | [_, _, _], _ => rfl) (fun _ => rfl) (fun Ar outer s H vs Q E hr h => ?_) (fun _ _ => rfl) (fun _ _ => rfl) (fun _ _ => rfl) (fun _ _ => ⟨_, rfl⟩)
  · obtain ⟨x, dx, args, ds, rfl, hal, _⟩ := h
    exact congrArg (· + 1) hal
  obtain ⟨x, dx, args, ds, rfl, hal, hx, hu, hd, hz, kk⟩ := h
  match args, hal with
  | [a1, a2], _ =>
    refine ⟨x, dx, [], _, rfl, hx, a_cons (eX_ev ev_str fun H0 e0 => a_cons (eX_ev (ev_name 1 rfl) fun H1 e1 => a_cons (eX_ev (ev_name 2 rfl) fun H2 e2 => a_nil ?_)))⟩
    have E := ((e0.trans e1).trans e2)
    refine ⟨x, D, dx, _, [a1, a2], ds, rfl, E _ _ hx, O.cl, O.no _ (by decide +kernel), O.no _ (by decide +kernel), hu.ext E, hd, hz, fun q ws H' b hx' hq uq => ?_⟩
    have S : SupS K H H' x D dx q "idle" ws (fixedL ds) _ 2 := ⟨(ebut E).trans b, hx', FldOk.two, hq, uq⟩
    have hl : ws.length = 2 := by
      have h1 := uq.len
      have h2 := hu.len
      rw [fixedL_len] at h1
      exact h1.trans h2.symm
    match ws, hl with
    | [w1, w2], _ =>
      refine b_one (sX_of (ps_asg pe_X (pg_tup rfl (pgs_cons (pg_fld pe_X) (pgs_cons (pg_fld pe_X) (pgs_nil)))) rfl rfl rfl) (eX_ev (ev_parts S O.cl (O.no _ (by decide +kernel)) (ev_name 0 rfl)) fun G0 g0 => ⟨q, [w1, w2], rfl, ex_t (hide_ex.trans g0) hq, rfl, ?_⟩))
      have S0 := S.ext g0
      refine ⟨w1, [w2], rfl, ?_⟩
      refine g_fld (f := "hand") (n := 2) S0 (by decide) O.cl (O.no _ (by decide +kernel)) (by decide +kernel) (by decide +kernel) (by decide +kernel) (ev_name 0 rfl) fun fs1 G1 S1 => ?_
      refine ⟨w2, [], rfl, ?_⟩
      refine g_fld (f := "cases") (n := 3) S1 (by decide) O.cl (O.no _ (by decide +kernel)) (by decide +kernel) (by decide +kernel) (by decide +kernel) (ev_name 0 rfl) fun fs2 G2 S2 => ?_
      exact ⟨rfl, kk _ S2.but (S2.pap (by decide))⟩
theorem sS_Stays : ScS ["self", "fate", "cases"] ["self", "fate", "cases"] (defScope s_Stays_init) := ⟨rfl, rfl, rfl, by decide +kernel, rfl, by decide +kernel, by decide +kernel, by decide +kernel, rfl, rfl⟩
theorem ok_Stays (F : SupF P K mg "__init__" "Stays.__init__" (defArgs s_Stays_init) (defBody s_Stays_init) (defScope s_Stays_init) f cda cc D f2) (O : Obc K mg "Stays" D papF) (F2 : FnR P w K mg base CX0 k f2 (spPap n K)) : FnR P w K mg base CX0 (k + 1) f (spSub D "stays" 2 n K) := by
  refine super_fn F sS_Stays F2 ⟨_, rfl, rfl⟩ (fun vs H Q E h => ?_) (fun _ _ _ _ _ us hl => match us, hl with | [_, _, _], _ => rfl) (fun _ => rfl) (fun Ar outer s H vs Q E hr h => ?_) (fun _ _ => rfl) (fun _ _ => rfl) (fun _ _ => rfl) (fun _ _ => ⟨_, rfl⟩)
  · obtain ⟨x, dx, args, ds, rfl, hal, _⟩ := h
    exact congrArg (· + 1) hal
  obtain ⟨x, dx, args, ds, rfl, hal, hx, hu, hd, hz, kk⟩ := h
  match args, hal with
  | [a1, a2], _ =>
    refine ⟨x, dx, [], _, rfl, hx, a_cons (eX_ev ev_str fun H0 e0 => a_cons (eX_ev (ev_name 1 rfl) fun H1 e1 => a_cons (eX_ev (ev_name 2 rfl) fun H2 e2 => a_nil ?_)))⟩
    have E := ((e0.trans e1).trans e2)
    refine ⟨x, D, dx, _, [a1, a2], ds, rfl, E _ _ hx, O.cl, O.no _ (by decide +kernel), O.no _ (by decide +kernel), hu.ext E, hd, hz, fun q ws H' b hx' hq uq => ?_⟩
    have S : SupS K H H' x D dx q "stays" ws (fixedL ds) _ 2 := ⟨(ebut E).trans b, hx', FldOk.two, hq, uq⟩
    have hl : ws.length = 2 := by
      have h1 := uq.len
      have h2 := hu.len
      rw [fixedL_len] at h1
      exact h1.trans h2.symm
    match ws, hl with
    | [w1, w2], _ =>
      refine b_one (sX_of (ps_asg pe_X (pg_tup rfl (pgs_cons (pg_fld pe_X) (pgs_cons (pg_fld pe_X) (pgs_nil)))) rfl rfl rfl) (eX_ev (ev_parts S O.cl (O.no _ (by decide +kernel)) (ev_name 0 rfl)) fun G0 g0 => ⟨q, [w1, w2], rfl, ex_t (hide_ex.trans g0) hq, rfl, ?_⟩))
      have S0 := S.ext g0
      refine ⟨w1, [w2], rfl, ?_⟩
      refine g_fld (f := "fate") (n := 2) S0 (by decide) O.cl (O.no _ (by decide +kernel)) (by decide +kernel) (by decide +kernel) (by decide +kernel) (ev_name 0 rfl) fun fs1 G1 S1 => ?_
      refine ⟨w2, [], rfl, ?_⟩
      refine g_fld (f := "cases") (n := 3) S1 (by decide) O.cl (O.no _ (by decide +kernel)) (by decide +kernel) (by decide +kernel) (by decide +kernel) (ev_name 0 rfl) fun fs2 G2 S2 => ?_
      exact ⟨rfl, kk _ S2.but (S2.pap (by decide))⟩
theorem sS_Shaken : ScS ["self", "fate", "future"] ["self", "fate", "future"] (defScope s_Shaken_init) := ⟨rfl, rfl, rfl, by decide +kernel, rfl, by decide +kernel, by decide +kernel, by decide +kernel, rfl, rfl⟩
theorem ok_Shaken (F : SupF P K mg "__init__" "Shaken.__init__" (defArgs s_Shaken_init) (defBody s_Shaken_init) (defScope s_Shaken_init) f cda cc D f2) (O : Obc K mg "Shaken" D papF) (F2 : FnR P w K mg base CX0 k f2 (spPap n K)) : FnR P w K mg base CX0 (k + 1) f (spSub D "shaken" 2 n K) := by
  refine super_fn F sS_Shaken F2 ⟨_, rfl, rfl⟩ (fun vs H Q E h => ?_) (fun _ _ _ _ _ us hl => match us, hl with | [_, _, _], _ => rfl) (fun _ => rfl) (fun Ar outer s H vs Q E hr h => ?_) (fun _ _ => rfl) (fun _ _ => rfl) (fun _ _ => rfl) (fun _ _ => ⟨_, rfl⟩)
  · obtain ⟨x, dx, args, ds, rfl, hal, _⟩ := h
    exact congrArg (· + 1) hal
  obtain ⟨x, dx, args, ds, rfl, hal, hx, hu, hd, hz, kk⟩ := h
  match args, hal with
  | [a1, a2], _ =>
    refine ⟨x, dx, [], _, rfl, hx, a_cons (eX_ev ev_str fun H0 e0 => a_cons (eX_ev (ev_name 1 rfl) fun H1 e1 => a_cons (eX_ev (ev_name 2 rfl) fun H2 e2 => a_nil ?_)))⟩
    have E := ((e0.trans e1).trans e2)
    refine ⟨x, D, dx, _, [a1, a2], ds, rfl, E _ _ hx, O.cl, O.no _ (by decide +kernel), O.no _ (by decide +kernel), hu.ext E, hd, hz, fun q ws H' b hx' hq uq => ?_⟩
    have S : SupS K H H' x D dx q "shaken" ws (fixedL ds) _ 2 := ⟨(ebut E).trans b, hx', FldOk.two, hq, uq⟩
    have hl : ws.length = 2 := by
      have h1 := uq.len
      have h2 := hu.len
      rw [fixedL_len] at h1
      exact h1.trans h2.symm
    match ws, hl with
    | [w1, w2], _ =>
      refine b_one (sX_of (ps_asg pe_X (pg_tup rfl (pgs_cons (pg_fld pe_X) (pgs_cons (pg_fld pe_X) (pgs_nil)))) rfl rfl rfl) (eX_ev (ev_parts S O.cl (O.no _ (by decide +kernel)) (ev_name 0 rfl)) fun G0 g0 => ⟨q, [w1, w2], rfl, ex_t (hide_ex.trans g0) hq, rfl, ?_⟩))
      have S0 := S.ext g0
      refine ⟨w1, [w2], rfl, ?_⟩
      refine g_fld (f := "fate") (n := 2) S0 (by decide) O.cl (O.no _ (by decide +kernel)) (by decide +kernel) (by decide +kernel) (by decide +kernel) (ev_name 0 rfl) fun fs1 G1 S1 => ?_
      refine ⟨w2, [], rfl, ?_⟩
      refine g_fld (f := "future") (n := 3) S1 (by decide) O.cl (O.no _ (by decide +kernel)) (by decide +kernel) (by decide +kernel) (by decide +kernel) (ev_name 0 rfl) fun fs2 G2 S2 => ?_
      exact ⟨rfl, kk _ S2.but (S2.pap (by decide))⟩
theorem sS_Firm : ScS ["self", "rows"] ["self", "rows"] (defScope s_Firm_init) := ⟨rfl, rfl, rfl, by decide +kernel, rfl, by decide +kernel, by decide +kernel, by decide +kernel, rfl, rfl⟩
theorem ok_Firm (F : SupF P K mg "__init__" "Firm.__init__" (defArgs s_Firm_init) (defBody s_Firm_init) (defScope s_Firm_init) f cda cc D f2) (O : Obc K mg "Firm" D papF) (F2 : FnR P w K mg base CX0 k f2 (spPap n K)) : FnR P w K mg base CX0 (k + 1) f (spSub D "firm" 1 n K) := by
  refine super_fn F sS_Firm F2 ⟨_, rfl, rfl⟩ (fun vs H Q E h => ?_) (fun _ _ _ _ _ us hl => match us, hl with | [_, _], _ => rfl) (fun _ => rfl) (fun Ar outer s H vs Q E hr h => ?_) (fun _ _ => rfl) (fun _ _ => rfl) (fun _ _ => rfl) (fun _ _ => ⟨_, rfl⟩)
  · obtain ⟨x, dx, args, ds, rfl, hal, _⟩ := h
    exact congrArg (· + 1) hal
  obtain ⟨x, dx, args, ds, rfl, hal, hx, hu, hd, hz, kk⟩ := h
  match args, hal with
  | [a1], _ =>
    refine ⟨x, dx, [], _, rfl, hx, a_cons (eX_ev ev_str fun H0 e0 => a_cons (eX_ev (ev_name 1 rfl) fun H1 e1 => a_nil ?_))⟩
    have E := (e0.trans e1)
    refine ⟨x, D, dx, _, [a1], ds, rfl, E _ _ hx, O.cl, O.no _ (by decide +kernel), O.no _ (by decide +kernel), hu.ext E, hd, hz, fun q ws H' b hx' hq uq => ?_⟩
    have S : SupS K H H' x D dx q "firm" ws (fixedL ds) _ 2 := ⟨(ebut E).trans b, hx', FldOk.two, hq, uq⟩
    have hl : ws.length = 1 := by
      have h1 := uq.len
      have h2 := hu.len
      rw [fixedL_len] at h1
      exact h1.trans h2.symm
    match ws, hl with
    | [w1], _ =>
      refine b_one (s_fld (x := x) (C := D) (dx := dx) (eX_ev (ev_ixT (v := w1) (i := 0) (ev_parts S O.cl (O.no _ (by decide +kernel)) (ev_name 0 rfl)) ev_int (ex_t hide_ex hq) rfl) fun H1 e1 => ⟨_, ev_name 0 rfl, (S.ext e1).ob, by have := S.fl.le; omega, fun H2 e2 => ?_⟩) O.cl (O.no _ (by decide +kernel)))
      have S2 := ((S.ext e1).ext e2).put (v := w1) (f := "rows") (by decide +kernel)
      exact kk _ S2.but (S2.pap (by decide))
theorem sS_Shaky : ScS ["self", "entries", "call", "future"] ["self", "entries", "call", "future"] (defScope s_Shaky_init) := ⟨rfl, rfl, rfl, by decide +kernel, rfl, by decide +kernel, by decide +kernel, by decide +kernel, rfl, rfl⟩
theorem ok_Shaky (F : SupF P K mg "__init__" "Shaky.__init__" (defArgs s_Shaky_init) (defBody s_Shaky_init) (defScope s_Shaky_init) f cda cc D f2) (O : Obc K mg "Shaky" D papF) (F2 : FnR P w K mg base CX0 k f2 (spPap n K)) : FnR P w K mg base CX0 (k + 1) f (spSub D "shaky" 3 n K) := by
  refine super_fn F sS_Shaky F2 ⟨_, rfl, rfl⟩ (fun vs H Q E h => ?_) (fun _ _ _ _ _ us hl => match us, hl with | [_, _, _, _], _ => rfl) (fun _ => rfl) (fun Ar outer s H vs Q E hr h => ?_) (fun _ _ => rfl) (fun _ _ => rfl) (fun _ _ => rfl) (fun _ _ => ⟨_, rfl⟩)
  · obtain ⟨x, dx, args, ds, rfl, hal, _⟩ := h
    exact congrArg (· + 1) hal
  obtain ⟨x, dx, args, ds, rfl, hal, hx, hu, hd, hz, kk⟩ := h
  match args, hal with
  | [a1, a2, a3], _ =>
    refine ⟨x, dx, [], _, rfl, hx, a_cons (eX_ev ev_str fun H0 e0 => a_cons (eX_ev (ev_name 1 rfl) fun H1 e1 => a_cons (eX_ev (ev_name 2 rfl) fun H2 e2 => a_cons (eX_ev (ev_name 3 rfl) fun H3 e3 => a_nil ?_))))⟩
    have E := (((e0.trans e1).trans e2).trans e3)
    refine ⟨x, D, dx, _, [a1, a2, a3], ds, rfl, E _ _ hx, O.cl, O.no _ (by decide +kernel), O.no _ (by decide +kernel), hu.ext E, hd, hz, fun q ws H' b hx' hq uq => ?_⟩
    have S : SupS K H H' x D dx q "shaky" ws (fixedL ds) _ 2 := ⟨(ebut E).trans b, hx', FldOk.two, hq, uq⟩
    have hl : ws.length = 3 := by
      have h1 := uq.len
      have h2 := hu.len
      rw [fixedL_len] at h1
      exact h1.trans h2.symm
    match ws, hl with
    | [w1, w2, w3], _ =>
      refine b_one (sX_of (ps_asg pe_X (pg_tup rfl (pgs_cons (pg_fld pe_X) (pgs_cons (pg_fld pe_X) (pgs_cons (pg_fld pe_X) (pgs_nil))))) rfl rfl rfl) (eX_ev (ev_parts S O.cl (O.no _ (by decide +kernel)) (ev_name 0 rfl)) fun G0 g0 => ⟨q, [w1, w2, w3], rfl, ex_t (hide_ex.trans g0) hq, rfl, ?_⟩))
      have S0 := S.ext g0
      refine ⟨w1, [w2, w3], rfl, ?_⟩
      refine g_fld (f := "entries") (n := 2) S0 (by decide) O.cl (O.no _ (by decide +kernel)) (by decide +kernel) (by decide +kernel) (by decide +kernel) (ev_name 0 rfl) fun fs1 G1 S1 => ?_
      refine ⟨w2, [w3], rfl, ?_⟩
      refine g_fld (f := "call") (n := 3) S1 (by decide) O.cl (O.no _ (by decide +kernel)) (by decide +kernel) (by decide +kernel) (by decide +kernel) (ev_name 0 rfl) fun fs2 G2 S2 => ?_
      refine ⟨w3, [], rfl, ?_⟩
      refine g_fld (f := "future") (n := 4) S2 (by decide) O.cl (O.no _ (by decide +kernel)) (by decide +kernel) (by decide +kernel) (by decide +kernel) (ev_name 0 rfl) fun fs3 G3 S3 => ?_
      exact ⟨rfl, kk _ S3.but (S3.pap (by decide))⟩
theorem sS_Frozen : ScS ["self", "cases"] ["self", "cases"] (defScope s_Frozen_init) := ⟨rfl, rfl, rfl, by decide +kernel, rfl, by decide +kernel, by decide +kernel, by decide +kernel, rfl, rfl⟩
theorem ok_Frozen (F : SupF P K mg "__init__" "Frozen.__init__" (defArgs s_Frozen_init) (defBody s_Frozen_init) (defScope s_Frozen_init) f cda cc D f2) (O : Obc K mg "Frozen" D papF) (F2 : FnR P w K mg base CX0 k f2 (spPap n K)) : FnR P w K mg base CX0 (k + 1) f (spSub D "frozen" 1 n K) := by
  refine super_fn F sS_Frozen F2 ⟨_, rfl, rfl⟩ (fun vs H Q E h => ?_) (fun _ _ _ _ _ us hl => match us, hl with | [_, _], _ => rfl) (fun _ => rfl) (fun Ar outer s H vs Q E hr h => ?_) (fun _ _ => rfl) (fun _ _ => rfl) (fun _ _ => rfl) (fun _ _ => ⟨_, rfl⟩)
  · obtain ⟨x, dx, args, ds, rfl, hal, _⟩ := h
    exact congrArg (· + 1) hal
  obtain ⟨x, dx, args, ds, rfl, hal, hx, hu, hd, hz, kk⟩ := h
  match args, hal with
  | [a1], _ =>
    refine ⟨x, dx, [], _, rfl, hx, a_cons (eX_ev ev_str fun H0 e0 => a_cons (eX_ev (ev_name 1 rfl) fun H1 e1 => a_nil ?_))⟩
    have E := (e0.trans e1)
    refine ⟨x, D, dx, _, [a1], ds, rfl, E _ _ hx, O.cl, O.no _ (by decide +kernel), O.no _ (by decide +kernel), hu.ext E, hd, hz, fun q ws H' b hx' hq uq => ?_⟩
    have S : SupS K H H' x D dx q "frozen" ws (fixedL ds) _ 2 := ⟨(ebut E).trans b, hx', FldOk.two, hq, uq⟩
    have hl : ws.length = 1 := by
      have h1 := uq.len
      have h2 := hu.len
      rw [fixedL_len] at h1
      exact h1.trans h2.symm
    match ws, hl with
    | [w1], _ =>
      refine b_one (s_fld (x := x) (C := D) (dx := dx) (eX_ev (ev_ixT (v := w1) (i := 0) (ev_parts S O.cl (O.no _ (by decide +kernel)) (ev_name 0 rfl)) ev_int (ex_t hide_ex hq) rfl) fun H1 e1 => ⟨_, ev_name 0 rfl, (S.ext e1).ob, by have := S.fl.le; omega, fun H2 e2 => ?_⟩) O.cl (O.no _ (by decide +kernel)))
      have S2 := ((S.ext e1).ext e2).put (v := w1) (f := "cases") (by decide +kernel)
      exact kk _ S2.but (S2.pap (by decide))
theorem sS_Thaws : ScS ["self", "future"] ["self", "future"] (defScope s_Thaws_init) := ⟨rfl, rfl, rfl, by decide +kernel, rfl, by decide +kernel, by decide +kernel, by decide +kernel, rfl, rfl⟩
theorem ok_Thaws (F : SupF P K mg "__init__" "Thaws.__init__" (defArgs s_Thaws_init) (defBody s_Thaws_init) (defScope s_Thaws_init) f cda cc D f2) (O : Obc K mg "Thaws" D papF) (F2 : FnR P w K mg base CX0 k f2 (spPap n K)) : FnR P w K mg base CX0 (k + 1) f (spSub D "thaws" 1 n K) := by
  refine super_fn F sS_Thaws F2 ⟨_, rfl, rfl⟩ (fun vs H Q E h => ?_) (fun _ _ _ _ _ us hl => match us, hl with | [_, _], _ => rfl) (fun _ => rfl) (fun Ar outer s H vs Q E hr h => ?_) (fun _ _ => rfl) (fun _ _ => rfl) (fun _ _ => rfl) (fun _ _ => ⟨_, rfl⟩)
  · obtain ⟨x, dx, args, ds, rfl, hal, _⟩ := h
    exact congrArg (· + 1) hal
  obtain ⟨x, dx, args, ds, rfl, hal, hx, hu, hd, hz, kk⟩ := h
  match args, hal with
  | [a1], _ =>
    refine ⟨x, dx, [], _, rfl, hx, a_cons (eX_ev ev_str fun H0 e0 => a_cons (eX_ev (ev_name 1 rfl) fun H1 e1 => a_nil ?_))⟩
    have E := (e0.trans e1)
    refine ⟨x, D, dx, _, [a1], ds, rfl, E _ _ hx, O.cl, O.no _ (by decide +kernel), O.no _ (by decide +kernel), hu.ext E, hd, hz, fun q ws H' b hx' hq uq => ?_⟩
    have S : SupS K H H' x D dx q "thaws" ws (fixedL ds) _ 2 := ⟨(ebut E).trans b, hx', FldOk.two, hq, uq⟩
    have hl : ws.length = 1 := by
      have h1 := uq.len
      have h2 := hu.len
      rw [fixedL_len] at h1
      exact h1.trans h2.symm
    match ws, hl with
    | [w1], _ =>
      refine b_one (s_fld (x := x) (C := D) (dx := dx) (eX_ev (ev_ixT (v := w1) (i := 0) (ev_parts S O.cl (O.no _ (by decide +kernel)) (ev_name 0 rfl)) ev_int (ex_t hide_ex hq) rfl) fun H1 e1 => ⟨_, ev_name 0 rfl, (S.ext e1).ob, by have := S.fl.le; omega, fun H2 e2 => ?_⟩) O.cl (O.no _ (by decide +kernel)))
      have S2 := ((S.ext e1).ext e2).put (v := w1) (f := "future") (by decide +kernel)
      exact kk _ S2.but (S2.pap (by decide))
theorem sS_Pledges : ScS ["self", "lots", "pledges"] ["self", "lots", "pledges"] (defScope s_Pledges_init) := ⟨rfl, rfl, rfl, by decide +kernel, rfl, by decide +kernel, by decide +kernel, by decide +kernel, rfl, rfl⟩
theorem ok_Pledges (F : SupF P K mg "__init__" "Pledges.__init__" (defArgs s_Pledges_init) (defBody s_Pledges_init) (defScope s_Pledges_init) f cda cc D f2) (O : Obc K mg "Pledges" D papF) (F2 : FnR P w K mg base CX0 k f2 (spPap n K)) : FnR P w K mg base CX0 (k + 1) f (spSub D "pledges" 2 n K) := by
  refine super_fn F sS_Pledges F2 ⟨_, rfl, rfl⟩ (fun vs H Q E h => ?_) (fun _ _ _ _ _ us hl => match us, hl with | [_, _, _], _ => rfl) (fun _ => rfl) (fun Ar outer s H vs Q E hr h => ?_) (fun _ _ => rfl) (fun _ _ => rfl) (fun _ _ => rfl) (fun _ _ => ⟨_, rfl⟩)
  · obtain ⟨x, dx, args, ds, rfl, hal, _⟩ := h
    exact congrArg (· + 1) hal
  obtain ⟨x, dx, args, ds, rfl, hal, hx, hu, hd, hz, kk⟩ := h
  match args, hal with
  | [a1, a2], _ =>
    refine ⟨x, dx, [], _, rfl, hx, a_cons (eX_ev ev_str fun H0 e0 => a_cons (eX_ev (ev_name 1 rfl) fun H1 e1 => a_cons (eX_ev (ev_name 2 rfl) fun H2 e2 => a_nil ?_)))⟩
    have E := ((e0.trans e1).trans e2)
    refine ⟨x, D, dx, _, [a1, a2], ds, rfl, E _ _ hx, O.cl, O.no _ (by decide +kernel), O.no _ (by decide +kernel), hu.ext E, hd, hz, fun q ws H' b hx' hq uq => ?_⟩
    have S : SupS K H H' x D dx q "pledges" ws (fixedL ds) _ 2 := ⟨(ebut E).trans b, hx', FldOk.two, hq, uq⟩
    have hl : ws.length = 2 := by
      have h1 := uq.len
      have h2 := hu.len
      rw [fixedL_len] at h1
      exact h1.trans h2.symm
    match ws, hl with
    | [w1, w2], _ =>
      refine b_one (sX_of (ps_asg pe_X (pg_tup rfl (pgs_cons (pg_fld pe_X) (pgs_cons (pg_fld pe_X) (pgs_nil)))) rfl rfl rfl) (eX_ev (ev_parts S O.cl (O.no _ (by decide +kernel)) (ev_name 0 rfl)) fun G0 g0 => ⟨q, [w1, w2], rfl, ex_t (hide_ex.trans g0) hq, rfl, ?_⟩))
      have S0 := S.ext g0
      refine ⟨w1, [w2], rfl, ?_⟩
      refine g_fld (f := "lots") (n := 2) S0 (by decide) O.cl (O.no _ (by decide +kernel)) (by decide +kernel) (by decide +kernel) (by decide +kernel) (ev_name 0 rfl) fun fs1 G1 S1 => ?_
      refine ⟨w2, [], rfl, ?_⟩
      refine g_fld (f := "pledges") (n := 3) S1 (by decide) O.cl (O.no _ (by decide +kernel)) (by decide +kernel) (by decide +kernel) (by decide +kernel) (ev_name 0 rfl) fun fs2 G2 S2 => ?_
      exact ⟨rfl, kk _ S2.but (S2.pap (by decide))⟩
theorem sS_Holds : ScS ["self", "cases"] ["self", "cases"] (defScope s_Holds_init) := ⟨rfl, rfl, rfl, by decide +kernel, rfl, by decide +kernel, by decide +kernel, by decide +kernel, rfl, rfl⟩
theorem ok_Holds (F : SupF P K mg "__init__" "Holds.__init__" (defArgs s_Holds_init) (defBody s_Holds_init) (defScope s_Holds_init) f cda cc D f2) (O : Obc K mg "Holds" D papF) (F2 : FnR P w K mg base CX0 k f2 (spPap n K)) : FnR P w K mg base CX0 (k + 1) f (spSub D "holds" 1 n K) := by
  refine super_fn F sS_Holds F2 ⟨_, rfl, rfl⟩ (fun vs H Q E h => ?_) (fun _ _ _ _ _ us hl => match us, hl with | [_, _], _ => rfl) (fun _ => rfl) (fun Ar outer s H vs Q E hr h => ?_) (fun _ _ => rfl) (fun _ _ => rfl) (fun _ _ => rfl) (fun _ _ => ⟨_, rfl⟩)
  · obtain ⟨x, dx, args, ds, rfl, hal, _⟩ := h
    exact congrArg (· + 1) hal
  obtain ⟨x, dx, args, ds, rfl, hal, hx, hu, hd, hz, kk⟩ := h
  match args, hal with
  | [a1], _ =>
    refine ⟨x, dx, [], _, rfl, hx, a_cons (eX_ev ev_str fun H0 e0 => a_cons (eX_ev (ev_name 1 rfl) fun H1 e1 => a_nil ?_))⟩
    have E := (e0.trans e1)
    refine ⟨x, D, dx, _, [a1], ds, rfl, E _ _ hx, O.cl, O.no _ (by decide +kernel), O.no _ (by decide +kernel), hu.ext E, hd, hz, fun q ws H' b hx' hq uq => ?_⟩
    have S : SupS K H H' x D dx q "holds" ws (fixedL ds) _ 2 := ⟨(ebut E).trans b, hx', FldOk.two, hq, uq⟩
    have hl : ws.length = 1 := by
      have h1 := uq.len
      have h2 := hu.len
      rw [fixedL_len] at h1
      exact h1.trans h2.symm
    match ws, hl with
    | [w1], _ =>
      refine b_one (s_fld (x := x) (C := D) (dx := dx) (eX_ev (ev_ixT (v := w1) (i := 0) (ev_parts S O.cl (O.no _ (by decide +kernel)) (ev_name 0 rfl)) ev_int (ex_t hide_ex hq) rfl) fun H1 e1 => ⟨_, ev_name 0 rfl, (S.ext e1).ob, by have := S.fl.le; omega, fun H2 e2 => ?_⟩) O.cl (O.no _ (by decide +kernel)))
      have S2 := ((S.ext e1).ext e2).put (v := w1) (f := "cases") (by decide +kernel)
      exact kk _ S2.but (S2.pap (by decide))
theorem sS_Covered : ScS ["self", "future"] ["self", "future"] (defScope s_Covered_init) := ⟨rfl, rfl, rfl, by decide +kernel, rfl, by decide +kernel, by decide +kernel, by decide +kernel, rfl, rfl⟩
theorem ok_Covered (F : SupF P K mg "__init__" "Covered.__init__" (defArgs s_Covered_init) (defBody s_Covered_init) (defScope s_Covered_init) f cda cc D f2) (O : Obc K mg "Covered" D papF) (F2 : FnR P w K mg base CX0 k f2 (spPap n K)) : FnR P w K mg base CX0 (k + 1) f (spSub D "covered" 1 n K) := by
  refine super_fn F sS_Covered F2 ⟨_, rfl, rfl⟩ (fun vs H Q E h => ?_) (fun _ _ _ _ _ us hl => match us, hl with | [_, _], _ => rfl) (fun _ => rfl) (fun Ar outer s H vs Q E hr h => ?_) (fun _ _ => rfl) (fun _ _ => rfl) (fun _ _ => rfl) (fun _ _ => ⟨_, rfl⟩)
  · obtain ⟨x, dx, args, ds, rfl, hal, _⟩ := h
    exact congrArg (· + 1) hal
  obtain ⟨x, dx, args, ds, rfl, hal, hx, hu, hd, hz, kk⟩ := h
  match args, hal with
  | [a1], _ =>
    refine ⟨x, dx, [], _, rfl, hx, a_cons (eX_ev ev_str fun H0 e0 => a_cons (eX_ev (ev_name 1 rfl) fun H1 e1 => a_nil ?_))⟩
    have E := (e0.trans e1)
    refine ⟨x, D, dx, _, [a1], ds, rfl, E _ _ hx, O.cl, O.no _ (by decide +kernel), O.no _ (by decide +kernel), hu.ext E, hd, hz, fun q ws H' b hx' hq uq => ?_⟩
    have S : SupS K H H' x D dx q "covered" ws (fixedL ds) _ 2 := ⟨(ebut E).trans b, hx', FldOk.two, hq, uq⟩
    have hl : ws.length = 1 := by
      have h1 := uq.len
      have h2 := hu.len
      rw [fixedL_len] at h1
      exact h1.trans h2.symm
    match ws, hl with
    | [w1], _ =>
      refine b_one (s_fld (x := x) (C := D) (dx := dx) (eX_ev (ev_ixT (v := w1) (i := 0) (ev_parts S O.cl (O.no _ (by decide +kernel)) (ev_name 0 rfl)) ev_int (ex_t hide_ex hq) rfl) fun H1 e1 => ⟨_, ev_name 0 rfl, (S.ext e1).ob, by have := S.fl.le; omega, fun H2 e2 => ?_⟩) O.cl (O.no _ (by decide +kernel)))
      have S2 := ((S.ext e1).ext e2).put (v := w1) (f := "future") (by decide +kernel)
      exact kk _ S2.but (S2.pap (by decide))
theorem sS_Waits : ScS ["self", "lots", "silences"] ["self", "lots", "silences"] (defScope s_Waits_init) := ⟨rfl, rfl, rfl, by decide +kernel, rfl, by decide +kernel, by decide +kernel, by decide +kernel, rfl, rfl⟩
theorem ok_Waits (F : SupF P K mg "__init__" "Waits.__init__" (defArgs s_Waits_init) (defBody s_Waits_init) (defScope s_Waits_init) f cda cc D f2) (O : Obc K mg "Waits" D papF) (F2 : FnR P w K mg base CX0 k f2 (spPap n K)) : FnR P w K mg base CX0 (k + 1) f (spSub D "waits" 2 n K) := by
  refine super_fn F sS_Waits F2 ⟨_, rfl, rfl⟩ (fun vs H Q E h => ?_) (fun _ _ _ _ _ us hl => match us, hl with | [_, _, _], _ => rfl) (fun _ => rfl) (fun Ar outer s H vs Q E hr h => ?_) (fun _ _ => rfl) (fun _ _ => rfl) (fun _ _ => rfl) (fun _ _ => ⟨_, rfl⟩)
  · obtain ⟨x, dx, args, ds, rfl, hal, _⟩ := h
    exact congrArg (· + 1) hal
  obtain ⟨x, dx, args, ds, rfl, hal, hx, hu, hd, hz, kk⟩ := h
  match args, hal with
  | [a1, a2], _ =>
    refine ⟨x, dx, [], _, rfl, hx, a_cons (eX_ev ev_str fun H0 e0 => a_cons (eX_ev (ev_name 1 rfl) fun H1 e1 => a_cons (eX_ev (ev_name 2 rfl) fun H2 e2 => a_nil ?_)))⟩
    have E := ((e0.trans e1).trans e2)
    refine ⟨x, D, dx, _, [a1, a2], ds, rfl, E _ _ hx, O.cl, O.no _ (by decide +kernel), O.no _ (by decide +kernel), hu.ext E, hd, hz, fun q ws H' b hx' hq uq => ?_⟩
    have S : SupS K H H' x D dx q "waits" ws (fixedL ds) _ 2 := ⟨(ebut E).trans b, hx', FldOk.two, hq, uq⟩
    have hl : ws.length = 2 := by
      have h1 := uq.len
      have h2 := hu.len
      rw [fixedL_len] at h1
      exact h1.trans h2.symm
    match ws, hl with
    | [w1, w2], _ =>
      refine b_one (sX_of (ps_asg pe_X (pg_tup rfl (pgs_cons (pg_fld pe_X) (pgs_cons (pg_fld pe_X) (pgs_nil)))) rfl rfl rfl) (eX_ev (ev_parts S O.cl (O.no _ (by decide +kernel)) (ev_name 0 rfl)) fun G0 g0 => ⟨q, [w1, w2], rfl, ex_t (hide_ex.trans g0) hq, rfl, ?_⟩))
      have S0 := S.ext g0
      refine ⟨w1, [w2], rfl, ?_⟩
      refine g_fld (f := "lots") (n := 2) S0 (by decide) O.cl (O.no _ (by decide +kernel)) (by decide +kernel) (by decide +kernel) (by decide +kernel) (ev_name 0 rfl) fun fs1 G1 S1 => ?_
      refine ⟨w2, [], rfl, ?_⟩
      refine g_fld (f := "silences") (n := 3) S1 (by decide) O.cl (O.no _ (by decide +kernel)) (by decide +kernel) (by decide +kernel) (by decide +kernel) (ev_name 0 rfl) fun fs2 G2 S2 => ?_
      exact ⟨rfl, kk _ S2.but (S2.pap (by decide))⟩
end
end K96

set_option Elab.async false
set_option linter.all false
set_option maxRecDepth 100000
set_option maxHeartbeats 4000000
/-! made_first, made_last (printed by gen3.py). -/
namespace K96
open PySem PySem.Spec PyProof.Rows L2 Evl
section
variable {X : Cx} {CX : CXT} {k j : Nat} {f C : Addr} {sp : Sp} {E : XK} {x nm : Str} {e : Expr} {te : TE} {p p2 pos : Pos} {σ : Sg} {H : Hp} {Q : VK} {a : Addr} {xs : List V}
/-- C( *e) -/
theorem pe_makeS (M : Mk X.K C f) (F : FnR X.prog X.w X.K X.mg X.base CX k f sp) (hr : Room (k + 1) X.A) (hg : Gl X x) (hm : X.mg x = some (.ref C)) (hx : Passes CX X E) (he : PE X e te) (hd : (x == ("__debug__" : Str)) = false := by decide) (hst : starEach [.Starred e p2] X.env = [(true, eval e X.env)] := by rfl) :
    PE X (.Call (.Name x p) [.Starred e p2] [] pos) (fun σ H Q => te σ H fun y H1 => ∃ a xs, y = V.ref a ∧ (SqT X.K H1 a xs ∨ SqL X.K H1 a xs) ∧ ∀ x dx, H1 x = none → H1 dx = none → dx ≠ x → sp (V.ref x :: xs) (upd (upd H1 dx (.own x)) x (.ins C dx [])) (fun v H2 => v = .non ∧ Q (.ref x) H2) E) := by
  refine ⟨fun pins s σ H Q I h => ?_⟩
  refine wpAny_Call_Name_kw (ld_glob I hg hm ?_ hd)
  refine PySem.W.callWith_S (h₀ := X.base) I.ok.mod.kin M.kp (thn (he.run pins s σ H _ I h) fun v s1 ⟨y, H1, I1, ry, a, xs, ey, hxs, q⟩ => ?_) hst
  subst ey
  obtain rfl : v = Value.ref a := ry
  exact StX.star_any I1 hxs fun us s2 I2 rv => ⟨I2.kIn, StX.run_makeR M F hr hx I2 rv q⟩
theorem e_makeS (M : Ini X.prog X.w X.K X.mg X.base CX k nm C sp) (hr : Room j X.A) (hk : k + 1 ≤ j) (hx : Passes CX X E) (he : EV X e σ H (.ref a)) (hs : SqT X.K H a xs ∨ SqL X.K H a xs)
    (q : ∀ H1, Ex H H1 → ∀ x dx, H1 x = none → H1 dx = none → dx ≠ x → sp (V.ref x :: xs) (upd (upd H1 dx (.own x)) x (.ins C dx [])) (fun v H2 => v = .non ∧ Q (.ref x) H2) E) (hg : Gl X nm := by rfl) (hd : (nm == ("__debug__" : Str)) = false := by decide) (hst : starEach [.Starred e p2] X.env = [(true, eval e X.env)] := by rfl) :
    eX X (.Call (.Name nm p) [.Starred e p2] [] pos) σ H Q := by
  obtain ⟨f, M, g, F⟩ := M.ex
  exact eX_of (pe_makeS M F (hr.mono hk) hg g hx pe_X hd hst) (eX_ev he fun H1 e1 => ⟨a, xs, rfl, hs.imp (ex_t e1) (ex_l e1), q H1 e1⟩)
end
/-- the classes of papers, made -/
def PapsM (P : Program) (w : World) (K : Fr) (mg : Str → Option Value) (base : Heap) (A : Adr) (k n : Nat) : Prop := ∀ q ∈ papTab, Ini P w K mg base CX0 k q.1 (A.pap q.2.1) (spSub (A.pap q.2.1) q.2.1 q.2.2 n K)
/-- what a maker gives: a paper of the word with the parts -/
def spMade (A : Adr) (ws : List Str) (n : Nat) (K : Fr) : Sp := fun vs H Q _ => ∃ z a args ds, vs = [.str z, .ref a] ∧ (SqT K H a args ∨ SqL K H a args) ∧ UrAll K H args ds ∧ ds.all (deepAt n) = true ∧ szL ds < 100000 ∧ (z ∈ ws → partsTab.lookup z = some ds.length ∧ ∀ x H', Ex H H' → PapI K H' x (A.pap z) z (fixedL ds) → Q (.ref x) H') ∧ (z ∉ ws → Gives .non H Q)
section
variable {P : Program} {w : World} {K : Fr} {mg : Str → Option Value} {base : Heap} {A : Adr} {k n : Nat}
theorem e_pap {X : Cx} {E : XK} {j : Nat} {nm z : Str} {c : Nat} {e : Expr} {p p2 pos : Pos} {σ : Sg} {H : Hp} {Q : VK} {a : Addr} {args : List V} {ds : List PyData} (M : PapsM X.prog X.w X.K X.mg X.base A k n) (hq : (nm, z, c) ∈ papTab) (hr : Room j X.A) (hk : k + 1 ≤ j) (he : EV X e σ H (.ref a)) (hs : SqT X.K H a args ∨ SqL X.K H a args) (hu : UrAll X.K H args ds) (hd : ds.all (deepAt n) = true) (hz : szL ds < 100000) (hc : ds.length = c)
    (q : ∀ x H', Ex H H' → PapI X.K H' x (A.pap z) z (fixedL ds) → Q (.ref x) H') (hg : Gl X nm := by rfl) (hdb : (nm == ("__debug__" : Str)) = false := by decide) (hst : starEach [.Starred e p2] X.env = [(true, eval e X.env)] := by rfl) :
    eX X (.Call (.Name nm p) [.Starred e p2] [] pos) σ H Q := by
  refine e_makeS (E := E) (M _ hq) hr hk pass0 he hs (fun H1 e1 x dx hx hdx hne => ?_) hg hdb hst
  have e2 : Ex H1 (upd (upd H1 dx (.own x)) x (.ins (A.pap z) dx [])) := (Ex.new hdx).trans (Ex.new (by rw [upd_ne (Ne.symm hne)]; exact hx))
  refine ⟨x, dx, args, ds, rfl, by rw [hu.len]; exact hc, upd_same, hu.ext (e1.trans e2), hd, hz, fun H' b I => ⟨rfl, q x H' (fun b' o ho => ?_) I⟩⟩
  have h1 := e1 _ _ ho
  exact b b' o (fun z => by rw [z, hx] at h1; cases h1) (e2 _ _ h1)
theorem ok_made_first (M : PapsM P w K mg base A k n) (D : Df K mg d_made_first) : Cl P w K mg base CX0 (k + 2) "made_first" (spMade A firstW n K) := by
  refine D.cl sc_made_first (fun vs H Q E h => ?_) (fun _ _ _ _ _ _ us hl => match us, hl with | [_, _], _ => rfl) fun f cdv Ar outer s H vs Q E hr h => ⟨_, pb_X, ?_⟩
  · obtain ⟨z, a, args, ds, rfl, _⟩ := h
    rfl
  obtain ⟨z, a, args, ds, rfl, hs, hu, hd, hz, k1, k2⟩ := h
  refine b_cons (s_match (eX_ev (ev_name 0 rfl) fun H1 e1 => ?_))
  refine m_str (fun hz1 => ?_) fun n_bears => ?_
  · subst hz1
    obtain ⟨c1, q⟩ := k1 (by decide +kernel)
    refine b_one (s_retX (e_pap (E := E) (c := 1) M (by decide +kernel) hr (by omega) (ev_name 1 rfl) (hs.imp (ex_t e1) (ex_l e1)) (hu.ext e1) hd hz (Option.some.inj (c1.symm.trans (by decide +kernel))) fun x H' e' I => q x H' (e1.trans e') I))
  refine m_str (fun hz1 => ?_) fun n_loses => ?_
  · subst hz1
    obtain ⟨c1, q⟩ := k1 (by decide +kernel)
    refine b_one (s_retX (e_pap (E := E) (c := 5) M (by decide +kernel) hr (by omega) (ev_name 1 rfl) (hs.imp (ex_t e1) (ex_l e1)) (hu.ext e1) hd hz (Option.some.inj (c1.symm.trans (by decide +kernel))) fun x H' e' I => q x H' (e1.trans e') I))
  refine m_str (fun hz1 => ?_) fun n_settled => ?_
  · subst hz1
    obtain ⟨c1, q⟩ := k1 (by decide +kernel)
    refine b_one (s_retX (e_pap (E := E) (c := 1) M (by decide +kernel) hr (by omega) (ev_name 1 rfl) (hs.imp (ex_t e1) (ex_l e1)) (hu.ext e1) hd hz (Option.some.inj (c1.symm.trans (by decide +kernel))) fun x H' e' I => q x H' (e1.trans e') I))
  refine m_str (fun hz1 => ?_) fun n_comes => ?_
  · subst hz1
    obtain ⟨c1, q⟩ := k1 (by decide +kernel)
    refine b_one (s_retX (e_pap (E := E) (c := 1) M (by decide +kernel) hr (by omega) (ev_name 1 rfl) (hs.imp (ex_t e1) (ex_l e1)) (hu.ext e1) hd hz (Option.some.inj (c1.symm.trans (by decide +kernel))) fun x H' e' I => q x H' (e1.trans e') I))
  refine m_str (fun hz1 => ?_) fun n_stays => ?_
  · subst hz1
    obtain ⟨c1, q⟩ := k1 (by decide +kernel)
    refine b_one (s_retX (e_pap (E := E) (c := 2) M (by decide +kernel) hr (by omega) (ev_name 1 rfl) (hs.imp (ex_t e1) (ex_l e1)) (hu.ext e1) hd hz (Option.some.inj (c1.symm.trans (by decide +kernel))) fun x H' e' I => q x H' (e1.trans e') I))
  refine m_str (fun hz1 => ?_) fun n_shaken => ?_
  · subst hz1
    obtain ⟨c1, q⟩ := k1 (by decide +kernel)
    refine b_one (s_retX (e_pap (E := E) (c := 2) M (by decide +kernel) hr (by omega) (ev_name 1 rfl) (hs.imp (ex_t e1) (ex_l e1)) (hu.ext e1) hd hz (Option.some.inj (c1.symm.trans (by decide +kernel))) fun x H' e' I => q x H' (e1.trans e') I))
  refine m_str (fun hz1 => ?_) fun n_holds => ?_
  · subst hz1
    obtain ⟨c1, q⟩ := k1 (by decide +kernel)
    refine b_one (s_retX (e_pap (E := E) (c := 1) M (by decide +kernel) hr (by omega) (ev_name 1 rfl) (hs.imp (ex_t e1) (ex_l e1)) (hu.ext e1) hd hz (Option.some.inj (c1.symm.trans (by decide +kernel))) fun x H' e' I => q x H' (e1.trans e') I))
  refine m_str (fun hz1 => ?_) fun n_covered => ?_
  · subst hz1
    obtain ⟨c1, q⟩ := k1 (by decide +kernel)
    refine b_one (s_retX (e_pap (E := E) (c := 1) M (by decide +kernel) hr (by omega) (ev_name 1 rfl) (hs.imp (ex_t e1) (ex_l e1)) (hu.ext e1) hd hz (Option.some.inj (c1.symm.trans (by decide +kernel))) fun x H' e' I => q x H' (e1.trans e') I))
  refine m_nil ?_
  have nz : z ∉ firstW := fun hm => by
    have hm : z ∈ (["bears", "loses", "settled", "comes", "stays", "shaken", "holds", "covered"] : List Str) := hm
    simp only [List.mem_cons, List.not_mem_nil, or_false] at hm
    rcases hm with h | h | h | h | h | h | h | h
    · exact n_bears h
    · exact n_loses h
    · exact n_settled h
    · exact n_comes h
    · exact n_stays h
    · exact n_shaken h
    · exact n_holds h
    · exact n_covered h
  exact b_one (s_ret ev_non fun H2 e2 => k2 nz H2 (e1.trans e2))
def spMadeL (A : Adr) (n : Nat) (K : Fr) : Sp := fun vs H Q _ => ∃ z a args ds, vs = [.str z, .ref a] ∧ (SqT K H a args ∨ SqL K H a args) ∧ UrAll K H args ds ∧ ds.all (deepAt n) = true ∧ szL ds < 100000 ∧ z ∈ lastW ∧ partsTab.lookup z = some ds.length ∧ ∀ x H', Ex H H' → PapI K H' x (A.pap z) z (fixedL ds) → Q (.ref x) H'
theorem ok_made_last (M : PapsM P w K mg base A k n) (D : Df K mg d_made_last) : Cl P w K mg base CX0 (k + 2) "made_last" (spMadeL A n K) := by
  refine D.cl sc_made_last (fun vs H Q E h => ?_) (fun _ _ _ _ _ _ us hl => match us, hl with | [_, _], _ => rfl) fun f cdv Ar outer s H vs Q E hr h => ⟨_, pb_X, ?_⟩
  · obtain ⟨z, a, args, ds, rfl, _⟩ := h
    rfl
  obtain ⟨z, a, args, ds, rfl, hs, hu, hd, hz, hlast, c1, q⟩ := h
  refine b_cons (s_match (eX_ev (ev_name 0 rfl) fun H1 e1 => ?_))
  refine m_str (fun hz1 => ?_) fun n_waits => ?_
  · subst hz1
    refine b_one (s_retX (e_pap (E := E) (c := 2) M (by decide +kernel) hr (by omega) (ev_name 1 rfl) (hs.imp (ex_t e1) (ex_l e1)) (hu.ext e1) hd hz (Option.some.inj (c1.symm.trans (by decide +kernel))) fun x H' e' I => q x H' (e1.trans e') I))
  refine m_str (fun hz1 => ?_) fun n_pledges => ?_
  · subst hz1
    refine b_one (s_retX (e_pap (E := E) (c := 2) M (by decide +kernel) hr (by omega) (ev_name 1 rfl) (hs.imp (ex_t e1) (ex_l e1)) (hu.ext e1) hd hz (Option.some.inj (c1.symm.trans (by decide +kernel))) fun x H' e' I => q x H' (e1.trans e') I))
  refine m_str (fun hz1 => ?_) fun n_frozen => ?_
  · subst hz1
    refine b_one (s_retX (e_pap (E := E) (c := 1) M (by decide +kernel) hr (by omega) (ev_name 1 rfl) (hs.imp (ex_t e1) (ex_l e1)) (hu.ext e1) hd hz (Option.some.inj (c1.symm.trans (by decide +kernel))) fun x H' e' I => q x H' (e1.trans e') I))
  refine m_str (fun hz1 => ?_) fun n_thaws => ?_
  · subst hz1
    refine b_one (s_retX (e_pap (E := E) (c := 1) M (by decide +kernel) hr (by omega) (ev_name 1 rfl) (hs.imp (ex_t e1) (ex_l e1)) (hu.ext e1) hd hz (Option.some.inj (c1.symm.trans (by decide +kernel))) fun x H' e' I => q x H' (e1.trans e') I))
  refine m_str (fun hz1 => ?_) fun n_acts => ?_
  · subst hz1
    refine b_one (s_retX (e_pap (E := E) (c := 3) M (by decide +kernel) hr (by omega) (ev_name 1 rfl) (hs.imp (ex_t e1) (ex_l e1)) (hu.ext e1) hd hz (Option.some.inj (c1.symm.trans (by decide +kernel))) fun x H' e' I => q x H' (e1.trans e') I))
  refine m_str (fun hz1 => ?_) fun n_idle => ?_
  · subst hz1
    refine b_one (s_retX (e_pap (E := E) (c := 2) M (by decide +kernel) hr (by omega) (ev_name 1 rfl) (hs.imp (ex_t e1) (ex_l e1)) (hu.ext e1) hd hz (Option.some.inj (c1.symm.trans (by decide +kernel))) fun x H' e' I => q x H' (e1.trans e') I))
  refine m_str (fun hz1 => ?_) fun n_firm => ?_
  · subst hz1
    refine b_one (s_retX (e_pap (E := E) (c := 1) M (by decide +kernel) hr (by omega) (ev_name 1 rfl) (hs.imp (ex_t e1) (ex_l e1)) (hu.ext e1) hd hz (Option.some.inj (c1.symm.trans (by decide +kernel))) fun x H' e' I => q x H' (e1.trans e') I))
  refine m_nil ?_
  by_cases hz1 : z = "shaky"
  · subst hz1
    exact b_one (s_retX (e_pap (E := E) (c := 3) M (by decide +kernel) hr (by omega) (ev_name 1 rfl) (hs.imp (ex_t e1) (ex_l e1)) (hu.ext e1) hd hz (Option.some.inj (c1.symm.trans (by decide +kernel))) fun x H' e' I => q x H' (e1.trans e') I))
  · exact absurd hlast (fun hm => by
    have hm : z ∈ (["waits", "pledges", "frozen", "thaws", "acts", "idle", "firm", "shaky"] : List Str) := hm
    simp only [List.mem_cons, List.not_mem_nil, or_false] at hm
    rcases hm with h | h | h | h | h | h | h | h
    · exact n_waits h
    · exact n_pledges h
    · exact n_frozen h
    · exact n_thaws h
    · exact n_acts h
    · exact n_idle h
    · exact n_firm h
    · exact hz1 h)
end
end K96

set_option Elab.async false
set_option linter.all false
set_option maxRecDepth 100000
set_option maxHeartbeats 4000000
/-! A written dict with a star; take_just. -/
namespace K96
open PySem PySem.Spec PyProof.Rows L2 Evl
/-- a dict of the module, by its keys -/
structure WD (K : Fr) (w : World) (mg : Str → Option Value) (nm : Str) (d : Addr) (es : Array DictEntry) (n : Nat) (ks : List Str) : Prop where
  g : mg nm = some (.ref d)
  D : KDict K w d es n
  ks : Paired (fun (x : Str) (en : DictEntry) => ∃ t, en.key = .str x t) ks es.toList
  hn : es.size ≤ 100000
theorem vals_keys : ∀ {ks : List Str} {es : List DictEntry}, Paired (fun (x : Str) (en : DictEntry) => ∃ t, en.key = .str x t) ks es → Vals (ks.map V.str) (es.map (·.key))
  | _, _, .nil => .nil
  | _, _, .cons h r => .cons h (vals_keys r)
section
variable {X : Cx} {pins : List (Addr × Obj)} {σ : Sg} {H : Hp} {s : Shared} {nm : Str} {d : Addr} {es : Array DictEntry} {n : Nat} {ks : List Str}
theorem star_wd (hc : X.calm = true) (W : WD X.K X.w X.mg nm d es n ks) {E : Value → Shared → Prop} {Q : List Value → Shared → Prop} (I : Inv X pins σ H s) (hQ : ∀ us s', Inv X pins σ H s' → Vals (ks.map V.str) us → Q us s') : PySem.W.StarOf (model X.prog X.w) X.A E (.ref d) Q s := by
  have hh : X.A.handled = none := I.ok.hd hc
  have hr : s.heap.DictRaw d es n := ⟨_, I.kIn _ _ W.D.at_, ⟨rfl, rfl, rfl⟩, rfl⟩
  have z : wpAny (model X.prog X.w) X.A (collect (.ref d)) Q E s := by
    refine PySem.W.kdu_collect (KdlSrc.rawDict W.D.low) hh hr (sz_of W.hn) fun h' tk acc hk ⟨ha, hv⟩ => hQ _ _ (I.kept hk) ?_
    have e : acc.toList = es.toList.map (·.key) := by
      apply List.ext_getElem?
      intro j
      cases q : acc[j]? with
      | none =>
        have h1 := Array.getElem?_eq_none_iff.mp q
        rw [Array.getElem?_toList, q, List.getElem?_map, List.getElem?_eq_none_iff.mpr (by rw [Array.length_toList]; omega)]
        rfl
      | some v =>
        obtain ⟨hi, rfl⟩ := hv j v q
        rw [Array.getElem?_toList, q, List.getElem?_map, Array.getElem?_toList, Array.getElem?_eq_getElem hi]
        rfl
    rw [e]
    exact vals_keys W.ks
  unfold PySem.W.StarOf notIterableAtAll
  exact wpAny_bind (wpAny_specialOf hr.typeIs PySem.F.slot_dict_iter.lookup (wpAny_pure ⟨rfl, z⟩))
/-- o.m( *D), D a dict of the module -/
theorem pe_methSD {CX : CXT} {k : Nat} {C g : Addr} {m : Str} {sp : Sp} {E : XK} {o : Expr} {ta : TE} {p p1 apos pos : Pos} (hc : X.calm = true) (W : WD X.K X.w X.mg nm d es n ks) (he : PE X o ta) (c : Cls X.K C) (b : BMeth X.K C m g) (F : FnR X.prog X.w X.K X.mg X.base CX k g sp) (hr : Room k X.A)
    (hx : Passes CX X E) (hg : Gl X nm) (hbase : attributeBase o m X.env (eval o X.env) = eval o X.env := by rfl) (hdb : (nm == ("__debug__" : Str)) = false := by decide) :
    PE X (.Call (.Attribute o m apos) [.Starred (.Name nm p1) p] [] pos) (fun σ H Q => ta σ H fun x H1 => ∃ a dx fs, x = .ref a ∧ H1 a = some (.ins C dx fs) ∧ fs.lookup m = none ∧ ∀ q, H1 q = none → sp (.ref a :: ks.map V.str) (upd H1 q (.met g a)) Q E) := by
  refine ⟨fun pins s σ H Q I h => ?_⟩
  refine starcall_of hbase (thn (he.run pins s σ H _ I h) fun u s1 ⟨x, H1, I1, rx, a, dx, fs, ex, ea, l, q⟩ => ?_)
  subst ex
  obtain rfl : u = Value.ref a := rx
  refine getbound_ok I1 ea c b l fun q1 s2 hq1 I2 => ?_
  refine PySem.W.ks_call (P := PySem.W.MethP X.K q1 g (.ref a)) rfl (PySem.W.keeps_M b.fi) (PySem.W.ks_lone ?_)
  refine ld_glob I2 hg W.g ?_ hdb
  refine star_wd hc W I2 fun us s4 I4 rv => ?_
  have hm : upd H1 q1 (.met g a) q1 = some (.met g a) := upd_same
  refine ⟨met_P I4 hm, ?_⟩
  exact wpAny_call (PySem.W.method_call (met_P I4 hm).1 (run_fnR (us := Value.ref a :: us) (vs := V.ref a :: _) F hr hx I4 (.cons rfl rv) (q q1 hq1)))
end
/-- a method that is called with a star -/
structure MtB (P : Program) (w : World) (K : Fr) (mg : Str → Option Value) (base : Heap) (CX : CXT) (k : Nat) (C : Addr) (m : Str) (sp : Sp) : Prop where
  ex : ∃ f, BMeth K C m f ∧ FnR P w K mg base CX k f sp
def spJust (A : Adr) : Sp := fun vs H Q E => ∃ (p d : Addr) (ws : List Str) (l : Int) (i : Nat) (ts : List Str), vs = .ref p :: ts.map V.str ∧ ts.length ≤ 100 ∧ ScanO A H p d ws l i ∧ (∀ z H', ws[i]? = some z → z ∈ ts → But p H H' → ScanO A H' p d ws l (i + 1) → Q (.str z) H') ∧ ((∀ z, ws[i]? = some z → z ∉ ts) → Bad A p H E l i)
def spJustIn (A : Adr) (K : Fr) : Sp := fun vs H Q E => ∃ (p d : Addr) (ws : List Str) (l : Int) (i : Nat) (ts : List Str) (q : Addr), vs = [.ref p, .ref q] ∧ SqT K H q (ts.map V.str) ∧ ScanO A H p d ws l i ∧ (∀ z H', ws[i]? = some z → z ∈ ts → But p H H' → ScanO A H' p d ws l (i + 1) → Q (.str z) H') ∧ ((∀ z, ws[i]? = some z → z ∉ ts) → Bad A p H E l i)
theorem inV_strs (z : Str) : ∀ ts : List Str, inV (.str z) (ts.map V.str) = decide (z ∈ ts)
  | [] => rfl
  | t :: ts => by
    have h := inV_strs z ts
    show (eqV (V.str t) (V.str z) || inV (.str z) (ts.map V.str)) = _
    rw [h]
    have e : eqV (V.str t) (V.str z) = decide (t = z) := by
      show (t == z) = _
      by_cases q : t = z
      · rw [decide_eq_true q, q]
        exact beq_self_eq_true z
      · rw [decide_eq_false q]
        exact beq_eq_false_iff_ne.mpr q
    rw [e]
    by_cases q : t = z
    · subst q
      simp
    · have q' : ¬ z = t := fun h => q h.symm
      rw [decide_eq_false q, Bool.false_or]
      exact decide_eq_decide.mpr ⟨fun h => List.mem_cons_of_mem _ h, fun h => (List.mem_cons.mp h).resolve_left q'⟩
theorem inV_non : ∀ ts : List Str, inV .non (ts.map V.str) = false
  | [] => rfl
  | t :: ts => by
    show (eqV (V.str t) .non || inV .non (ts.map V.str)) = _
    rw [inV_non ts]
    rfl
theorem flat_strs (ts : List Str) : (ts.map V.str).all flatV = true := by
  rw [List.all_map]
  exact List.all_eq_true.mpr fun _ _ => rfl
section
variable {P : Program} {w : World} {K : Fr} {mg : Str → Option Value} {base : Heap} {A : Adr}
theorem ok_take_just (T : Txt K mg) (M : ScanM P w K mg base A) {f : Addr} (B : BMeth K A.scan "take_just" f) (D : DfA K d_Scan_take_just f) : MtB P w K mg base (L2.CX P w) 5 A.scan "take_just" (spJust A) := by
  refine ⟨f, B, ?_⟩
  obtain ⟨fd, F⟩ := D.ex
  obtain ⟨oc, od, dV, kV, doc, pm, an, cdv, ct, osl, e, lk, hcd, hdf, hkw⟩ := F.ex
  subst e
  have hdV : dV = .none := by
    rcases hdf with ⟨_, h⟩ | ⟨h, _⟩
    · exact h
    · exact absurd rfl h
  subst hdV
  have O := M.O
  refine (StX.fn_star (ps := ["self"]) (pv := "words") (sp := spJustIn A K) lk hcd sc_Scan_take_just StX.cxUp (StX.bind_star1 (B := fun us => bindArgs (PySem.W.fnOf d_Scan_take_just.name d_Scan_take_just.qual d_Scan_take_just.params d_Scan_take_just.body d_Scan_take_just.scope .none kV doc pm an cdv ct) ⟨us, []⟩) (p1 := "self") (pv := "words") (fun a => rfl) fun a r rs => rfl) fun Ar outer s H vs Q E hr h => ⟨_, pb_X, ?_⟩).imp fun vs H Q E h => ?_
  · obtain ⟨p, d, ws, l, i, ts, q, rfl, hq, S, k1, k2⟩ := h
    obtain ⟨dx, hp⟩ := S.ob
    have ps : Passes (L2.CX P w) (cxOf (L2.CX P w) P w K mg base ["self", "words"] d_Scan_take_just.qual d_Scan_take_just.scope f cdv Ar outer s H E) E := passes_call (takes_of rfl rfl rfl rfl) fun _ _ _ _ h => h
    have hf : flatV (aheadV ws i) = true := by
      unfold aheadV
      cases ws[i]? <;> rfl
    refine b_cons (s_if (k := !inV (aheadV ws i) (ts.map V.str)) (et_cmp op_notIn_seq (ev_ahead M.ahead O.cl hr (by decide) (ev_name 0 rfl) S) (ev_name 1 rfl) (rv_niT hq hf (flat_strs ts))) (fun hb H1 e1 => ?_) fun hb H1 e1 => b_nil ?_)
    · refine b_one (s_expr (e_meth0 M.refuse O.cl hr (by decide) ps (ev_name 0 rfl) (e1 _ _ hp) (scanNo "refuse" (by decide +kernel) d l i) fun H2 e2 => ?_))
      refine ⟨p, d, ws, l, i, rfl, S.ex (e1.trans e2), (k2 fun z hz hm => ?_).of (ebut (e1.trans e2)) ⟨_, (e1.trans e2) _ _ hp⟩⟩
      have e : aheadV ws i = .str z := by unfold aheadV; rw [hz]
      rw [e, inV_strs, decide_eq_true hm] at hb
      cases hb
    · cases hw : ws[i]? with
      | none =>
        have e : aheadV ws i = .non := by unfold aheadV; rw [hw]
        rw [e, inV_non] at hb
        cases hb
      | some z =>
        have e : aheadV ws i = .str z := by unfold aheadV; rw [hw]
        rw [e, inV_strs] at hb
        have hm : z ∈ ts := by
          by_cases q : z ∈ ts
          · exact q
          · rw [decide_eq_false q] at hb
            cases hb
        refine b_one (s_retX (e_meth0 M.take O.cl hr (by decide) ps (ev_name 0 rfl) (e1 _ _ hp) (scanNo "take" (by decide +kernel) d l i) fun H2 e2 => ⟨p, d, ws, l, i, rfl, S.ex (e1.trans e2), fun w' H' hw' hb' S' => ?_, fun hl => ?_⟩))
        · rw [hw] at hw'
          cases hw'
          exact k1 z H' hw hm ((ebut (e1.trans e2)).trans hb') S'
        · rw [hl, List.getElem?_eq_none_iff.mpr (Nat.le_refl _)] at hw
          cases hw
  · obtain ⟨p, d, ws, l, i, ts, rfl, hts, S, k1, k2⟩ := h
    refine ⟨[.ref p], ts.map V.str, rfl, rfl, sz_of (by rw [List.length_map]; omega), fun q hq => ?_⟩
    obtain ⟨dx, hp⟩ := S.ob
    refine ⟨p, d, ws, l, i, ts, q, rfl, st_of upd_same, S.ex (Ex.new hq), fun z H' hz hm b S' => k1 z H' hz hm ((ebut (Ex.new hq)).trans b) S', fun hn => (k2 hn).of (ebut (Ex.new hq)) ⟨_, Ex.new hq _ _ hp⟩⟩
end
end K96

set_option Elab.async false
set_option linter.all false
set_option maxRecDepth 100000
set_option maxHeartbeats 4000000
/-! What is told from words: how deep, how large. take_paper. -/
namespace K96
open PySem PySem.Spec PyProof.Rows L2 Evl
theorem deepAt_mono : ∀ (n m : Nat) (d : PyData), n ≤ m → deepAt n d = true → deepAt m d = true
  | 0, m, d, _, h => by
    cases d with
    | tuple _ => cases h
    | list _ => cases h
    | _ => cases m <;> rfl
  | n + 1, 0, _, hl, _ => absurd hl (by omega)
  | n + 1, m + 1, d, hl, h => by
    cases d with
    | tuple xs => exact List.all_eq_true.mpr fun x hx => deepAt_mono n m x (by omega) (List.all_eq_true.mp h x hx)
    | list xs => exact List.all_eq_true.mpr fun x hx => deepAt_mono n m x (by omega) (List.all_eq_true.mp h x hx)
    | _ => rfl
/-- the open lists' depth, the last one first -/
def deepS : List (List PyData) → Bool
  | [] => true
  | ds :: rest => ds.all (deepAt (9 - rest.length)) && deepS rest
def szS : List (List PyData) → Nat
  | [] => 0
  | ds :: rest => (1 + szL ds) + szS rest
theorem single_deep {z : Str} {x : PyData} (h : singleW z = some x) (n : Nat) : deepAt n x = true ∧ szD x = 1 := by
  have key : ∀ y : PyData, (match y with | .tuple _ => False | .list _ => False | _ => True) → deepAt n y = true ∧ szD y = 1 := fun y hy => by
    cases y with
    | tuple _ => exact hy.elim
    | list _ => exact hy.elim
    | _ => cases n <;> exact ⟨rfl, rfl⟩
  refine key x ?_
  unfold singleW at h
  split at h
  · cases h
    trivial
  · split at h
    · split at h
      · cases h
        trivial
      · cases h
    · cases q : signed z with
      | none => rw [q] at h; cases h
      | some n => rw [q] at h; cases h; trivial
theorem szL_snoc (a : List PyData) (x : PyData) : szL (a ++ [x]) = szL a + szD x := by
  rw [szL_app]
  show szL a + (szD x + 0) = _
  omega
/-- what a told thing is: not deeper than ten, not larger than its words -/
theorem told_ok (ws : List Str) : ∀ (n i : Nat) (st : List (List PyData)) (x : PyData) (j : Nat), i ≤ ws.length → st.length ≤ 10 → deepS st = true → toldGo ws n i st = .inr (x, j) → deepAt 10 x = true ∧ szD x + i ≤ szS st + j ∧ i < j ∧ j ≤ ws.length
  | 0, i, st, x, j, _, _, _, h => by cases h
  | n + 1, i, st, x, j, hi, hs, hd, h => by
    unfold toldGo at h
    split at h
    · rename_i hb
      have hil : i < ws.length := by
        have hb := of_decide_eq_true hb
        unfold aheadV at hb
        cases hw : ws[i]? with
        | none => rw [hw] at hb; cases hb
        | some z => exact (List.getElem?_eq_some_iff.mp hw).1
      split at h
      · cases h
      · rename_i h10
        have h10 : ¬ st.length = 10 := fun e => h10 (decide_eq_true e)
        obtain ⟨a, b, c, d⟩ := told_ok ws n (i + 1) ([] :: st) x j hil (by show st.length + 1 ≤ 10; omega) (by show (([] : List PyData).all _ && deepS st) = true; rw [hd]; rfl) h
        have e : szS ([] :: st) = 1 + szS st := rfl
        exact ⟨a, by omega, by omega, d⟩
    · -- what is found, then on
      have fin : ∀ (y : PyData) (st' : List (List PyData)), i < ws.length → st'.length ≤ 10 → deepS st' = true → deepAt (10 - st'.length) y = true → fin2 (toldGo ws n) y (i + 1) st' = .inr (x, j) → szD y + szS st' ≤ 1 + szS st → deepAt 10 x = true ∧ szD x + i ≤ szS st + j ∧ i < j ∧ j ≤ ws.length := fun y st' hil hs' hd' hy hf hz => by
        cases st' with
        | nil =>
          cases hf
          refine ⟨hy, ?_, by omega, hil⟩
          have : szS ([] : List (List PyData)) = 0 := rfl
          omega
        | cons top rest =>
          obtain ⟨p1, p2⟩ := Bool.and_eq_true_iff.mp hd'
          have hl : rest.length + 1 ≤ 10 := hs'
          have hy' : deepAt (9 - rest.length) y = true := by
            have : 10 - (rest.length + 1) = 9 - rest.length := by omega
            rw [← this]
            exact hy
          obtain ⟨a, b, c, d⟩ := told_ok ws n (i + 1) ((top ++ [y]) :: rest) x j hil hs' (by
            show ((top ++ [y]).all (deepAt (9 - rest.length)) && deepS rest) = true
            rw [List.all_append, p1, p2]
            show ((true && (deepAt (9 - rest.length) y && true)) && true) = true
            rw [hy']
            rfl) hf
          have e1 : szS ((top ++ [y]) :: rest) = (1 + szL (top ++ [y])) + szS rest := rfl
          have e2 : szS (top :: rest) = (1 + szL top) + szS rest := rfl
          rw [szL_snoc] at e1
          exact ⟨a, by omega, by omega, d⟩
      split at h
      · rename_i hc
        obtain ⟨c1, c2⟩ := Bool.and_eq_true_iff.mp hc
        have hil : i < ws.length := by
          have hb := of_decide_eq_true c2
          unfold aheadV at hb
          cases hw : ws[i]? with
          | none => rw [hw] at hb; cases hb
          | some z => exact (List.getElem?_eq_some_iff.mp hw).1
        cases st with
        | nil => cases c1
        | cons top rest =>
          obtain ⟨p1, p2⟩ := Bool.and_eq_true_iff.mp hd
          have hl : rest.length + 1 ≤ 10 := hs
          refine fin (.tuple top) rest hil (by omega) p2 ?_ h ?_
          · have : 10 - rest.length = (9 - rest.length) + 1 := by omega
            rw [this]
            exact p1
          · show (1 + szL top) + szS rest ≤ 1 + ((1 + szL top) + szS rest)
            omega
      · cases hb : (ws[i]?).bind singleW with
        | none => rw [hb] at h; cases h
        | some y =>
          rw [hb] at h
          cases hw : ws[i]? with
          | none => rw [hw] at hb; cases hb
          | some z =>
            rw [hw] at hb
            obtain ⟨q1, q2⟩ := single_deep hb (10 - st.length)
            exact fin y st (List.getElem?_eq_some_iff.mp hw).1 hs hd q1 h (by omega)
/-- several told things, one behind another -/
def toldN (ws : List Str) : Nat → Nat → List PyData → Nat ⊕ (List PyData × Nat)
  | 0, i, acc => .inr (acc, i)
  | n + 1, i, acc => match toldGo ws (ws.length + 1 - i) i [] with
    | .inl j => .inl j
    | .inr (x, j) => toldN ws n j (acc ++ [x])
def tagP (z : Str) : Nat ⊕ (List PyData × Nat) → Nat ⊕ ((Str × List PyData) × Nat)
  | .inl j => .inl j
  | .inr (ds, j) => .inr ((z, ds), j)
/-- a paper told from the word i on -/
def paperGo (ws : List Str) (i : Nat) : Nat ⊕ ((Str × List PyData) × Nat) := match ws[i]? with
  | none => .inl i
  | some z => match partsTab.lookup z with
    | none => .inl i
    | some c => tagP z (toldN ws c (i + 1) [])
def spTPaper (A : Adr) (K : Fr) : Sp := fun vs H Q E => ∃ (p d : Addr) (ws : List Str) (l : Int) (i : Nat), vs = [.ref p] ∧ ScanO A H p d ws l i ∧ ws.length < 100000 ∧ (∀ z ds j x H', paperGo ws i = .inr ((z, ds), j) → But p H H' → ScanO A H' p d ws l j → PapI K H' x (A.pap z) z ds → plainL ds = true → Q (.ref x) H') ∧
  ∀ j : Nat, paperGo ws i = .inl j → Bad A p H E l j
end K96

set_option Elab.async false
set_option linter.all false
set_option maxRecDepth 100000
set_option maxHeartbeats 4000000
/-! take_paper. -/
namespace K96
open PySem PySem.Spec PyProof.Rows L2 Evl
/-- the dict PARTS -/
structure PartsD (K : Fr) (w : World) (mg : Str → Option Value) : Prop where
  ex : ∃ d es n, WD K w mg "PARTS" d es n (partsTab.map (·.1)) ∧ ∀ q ∈ partsTab, ∃ t, PySem.W.nsIn K d q.1 = some (some (.int (q.2 : Nat) t))
theorem parts_at {z : Str} {c : Nat} (h : partsTab.lookup z = some c) : (z, c) ∈ partsTab := by
  exact PySem.mem_of_lookup h
theorem parts_small {z : Str} {c : Nat} (h : partsTab.lookup z = some c) : c ≤ 5 := by
  have key : ∀ q ∈ partsTab, q.2 ≤ 5 := by decide +kernel
  exact key _ (parts_at h)
theorem parts_keys {z : Str} : z ∈ partsTab.map (·.1) ↔ ∃ c, partsTab.lookup z = some c := by
  constructor
  · intro h
    obtain ⟨q, hq, e⟩ := List.mem_map.mp h
    obtain ⟨z', c⟩ := q
    cases e
    exact mem_lookup hq
  · rintro ⟨c, h⟩
    exact List.mem_map.mpr ⟨_, parts_at h, rfl⟩
section
variable {P : Program} {w : World} {K : Fr} {mg : Str → Option Value} {base : Heap} {A : Adr}
theorem PapI.ext {H H' : Hp} {x C : Addr} {z : Str} {ds : List PyData} (I : PapI K H x C z ds) (e : Ex H H') : PapI K H' x C z ds := by
  obtain ⟨dx, fs, q, ws, h1, h2, h3, h4, h5, h6, h7⟩ := I.ob
  exact ⟨dx, fs, q, ws, e _ _ h1, h2, h3, ex_t (hide_mono e) h4, h5.ext (hide_mono e), h6, h7⟩
theorem first_last {z : Str} (h : z ∈ partsTab.map (·.1)) (hn : z ∉ firstW) : z ∈ lastW := by
  have key : ∀ y ∈ partsTab.map (·.1), y ∈ firstW ∨ y ∈ lastW := by decide +kernel
  exact (key z h).resolve_left hn
theorem toldN_len (ws : List Str) : ∀ (n i : Nat) (acc ds : List PyData) (j : Nat), toldN ws n i acc = .inr (ds, j) → ds.length = acc.length + n
  | 0, i, acc, ds, j, h => by
    cases h
    rfl
  | n + 1, i, acc, ds, j, h => by
    unfold toldN at h
    split at h
    · cases h
    · rename_i x j' _
      have := toldN_len ws n j' _ ds j h
      rw [this, List.length_append]
      show acc.length + 1 + n = _
      omega
/-- the state at a turn of the comprehension -/
def PvT (A : Adr) (K : Fr) (ws : List Str) (R : Nat ⊕ (List PyData × Nat)) (p d Dl : Addr) (l : Int) (c i0 : Nat) (H : Hp) (i : Nat) (H' : Hp) : Prop :=
  ∃ j ds vs, toldN ws (c - i) j ds = R ∧ But p H H' ∧ ScanO A H' p d ws l j ∧ H' Dl = some (.lst vs) ∧ UrAll K H' vs ds ∧ plainL ds = true ∧ ds.all (deepAt 10) = true ∧ szL ds + i0 ≤ j ∧ vs.length = i
theorem ok_take_paper (T : Txt K mg) (M : ScanM P w K mg base A) (PD : PartsD K w mg) (cj : MtB P w K mg base (L2.CX P w) 5 A.scan "take_just" (spJust A)) (ct : Cl P w K mg base (L2.CX P w) 7 "take_told" (spTold A K)) {kf : Nat} (hkf : 7 ≤ kf) (c1 : Cl P w K mg base CX0 kf "made_first" (spMade A firstW 10 K)) (c2 : Cl P w K mg base CX0 kf "made_last" (spMadeL A 10 K))
    (D : Df K mg d_take_paper) : Cl P w K mg base (L2.CX P w) (kf + 1) "take_paper" (spTPaper A K) := by
  refine D.cl sc_take_paper (fun vs H Q E h => ?_) (fun _ _ _ _ _ _ us hl => match us, hl with | [_], _ => rfl) fun f cdv Ar outer s H vs Q E hr h => ⟨_, pb_X, ?_⟩
  · obtain ⟨p, d, ws, l, i, rfl, _⟩ := h
    rfl
  obtain ⟨p, d, ws, l, i0, rfl, S0, hws, k1, k2⟩ := h
  obtain ⟨dx0, hp0⟩ := S0.ob
  obtain ⟨pd, es, pn, W, hval⟩ := PD.ex
  have O := M.O
  have tk := takes_of (X := cxOf (L2.CX P w) P w K mg base ["scan", "word", "parts", "found", "_"] d_take_paper.qual d_take_paper.scope f cdv Ar outer s H E) (E := E) rfl rfl rfl rfl
  have ps := passes_call tk (E := E) fun _ _ _ _ h => h
  obtain ⟨fj, bj, Fj⟩ := cj.ex
  -- word = scan.take_just( *PARTS)
  refine b_cons (s_set 1 (eX_of (pe_methSD rfl W pe_X O.cl bj Fj (hr.mono (by omega)) ps rfl) (eX_ev (ev_name 0 rfl) fun H1 e1 => ⟨p, dx0, _, rfl, e1 _ _ hp0, scanNo "take_just" (by decide +kernel) d l i0, fun q hq => ?_⟩)) sc_take_paper.nd)
  have eq1 : Ex H (L2.upd H1 q (.met fj p)) := e1.trans (Ex.new hq)
  refine ⟨p, d, ws, l, i0, _, rfl, by rw [List.length_map]; decide, S0.ex eq1, fun z H2 hw hz b2 S2 => ?_, fun hn => (k2 i0 ?_).of (ebut eq1) ⟨_, eq1 _ _ hp0⟩⟩
  case refine_2 =>
    unfold paperGo
    cases hw : ws[i0]? with
    | none => rfl
    | some z =>
      have : partsTab.lookup z = none := by
        cases q : partsTab.lookup z with
        | none => rfl
        | some c => exact absurd (parts_keys.mpr ⟨c, q⟩) (hn z hw)
      simp only [this]
  obtain ⟨c, hc⟩ := parts_keys.mp hz
  have hc5 := parts_small hc
  obtain ⟨tv, htv⟩ := hval _ (parts_at hc)
  have B2 : But p H H2 := (ebut eq1).trans b2
  have hgo : paperGo ws i0 = tagP z (toldN ws c (i0 + 1) []) := by
    unfold paperGo
    simp only [hw, hc]
  generalize hR : toldN ws c (i0 + 1) [] = R at hgo
  -- parts = [take_told(scan) for _ in range(PARTS[word])]
  refine b_cons (s_lcR (i := 2) (own := [("_", 4)]) (g := gName 4) rfl rfl tk sc_take_paper.nd (pi_range1 rfl (T.f "range") (pa_cons pe_X pa_nil)) (blkOk_by (N := ["scan", "word", "parts", "found", "_"]) (sc := defScope s_take_paper) (by decide +kernel)) (fun _ _ _ _ _ => pg_name sc_take_paper.nd rfl (Or.inl rfl)) ?_ rfl rfl rfl (sw_true rfl rfl rfl (by decide +kernel)))
  refine (show eX _ _ _ _ _ from eX_of (pe_ix ix_kdict pe_X pe_X (by intro _ _; rfl)) (eX_ev (v := .ref pd) (ev_gl ⟨_, W.g, rfl⟩) fun H3 e3 => eX_ev (v := .str z) (ev_name 1 rfl) fun H4 e4 => ⟨pd, z, .int (c : Nat), rfl, rfl, ⟨es, pn, _, W.D.at_, W.D.lit, htv, tv, rfl⟩, ?_⟩))
  refine ⟨(c : Int), rfl, by omega, by omega, fun Dl hDl => ?_⟩
  have E4 := e3.trans e4
  have S4 := S2.ex E4
  have p4 : ∃ o, H4 p = some o := by
    obtain ⟨dx4, h4⟩ := S4.ob
    exact ⟨_, h4⟩
  have B4 : But p H H4 := B2.trans (ebut E4)
  have hD0 : H Dl = none := B4.free p4 hDl
  have nDp : Dl ≠ p := fun e => by rw [e, hp0] at hD0; cases hD0
  have nDd : Dl ≠ d := fun e => by rw [e, S0.ls] at hD0; cases hD0
  have hcn : ((c : Nat) : Int).toNat = c := Int.toNat_natCast c
  rw [hcn]
  refine lc_range (lo := 0) (n := c) (PvT A K ws R p d Dl l c (i0 + 1) H) ⟨i0 + 1, [], [], hR, B4.mut hD0, S4.upd nDp nDd, upd_same, .nil, rfl, rfl, by show 0 + (i0 + 1) ≤ i0 + 1; omega, rfl⟩ (fun i H5 hi hv => ?_) fun H5 hv => ?_
  · obtain ⟨j, ds, vs, hgo5, b5, S5, l5, u5, p5, d5, z5, hvl⟩ := hv
    refine (show _ ∧ _ from ⟨rfl, ?_⟩)
    unfold tYes
    refine iteT ?_
    intro s' H0' C cl fp pass
    refine eX_of (pe_cl (E := E) ct hr (by omega) (pass E fun _ _ _ _ h => h) rfl (pa_cons pe_X pa_nil)) (eX_ev (ev_name 0 rfl) fun H6 e6 => ?_)
    have hci : c - i = (c - (i + 1)) + 1 := by omega
    rw [hci] at hgo5
    unfold toldN at hgo5
    refine ⟨p, d, ws, l, j, rfl, S5.ex e6, fun x j' v H7 hg b7 S7 u7 p7 => ?_, fun j' hg => ?_⟩
    · rw [hg] at hgo5
      obtain ⟨t1, t2, t3, t4⟩ := told_ok ws _ j [] x j' S5.hi (by decide) rfl hg
      have t2 : szD x + j ≤ 0 + j' := t2
      have B7 : But p H5 H7 := (ebut e6).trans b7
      obtain ⟨dx5, h5⟩ := S5.ob
      have tkp : TupK K H5 H7 := tupK_but B7 h5 rfl
      have l7 := B7 _ _ nDp l5
      have tk8 : TupK K H7 (L2.upd H7 Dl (.lst (vs ++ [v]))) := tupK_upd l7 rfl
      refine ⟨vs, l7, Nat.lt_of_lt_of_le (by omega : vs.length < 1000000) (by decide), j', ds ++ [x], vs ++ [v], hgo5, (b5.trans B7).mut hD0, S7.upd nDp nDd, upd_same, (UrAll.keep (tkp.trans tk8) p5 u5).app (.cons (u7.keep tk8 p7) .nil), ?_, ?_, ?_, by simp [hvl]⟩
      · rw [plainL_app, p5]
        show (true && (plainD x && true)) = true
        rw [p7]
        rfl
      · rw [List.all_append, d5]
        show (true && (deepAt 10 x && true)) = true
        rw [t1]
        rfl
      · rw [szL_snoc]
        omega
    · rw [hg] at hgo5
      have hbad : paperGo ws i0 = .inl j' := by rw [hgo, ← hgo5]; rfl
      have p6 : ∃ o, H6 p = some o := by
        obtain ⟨dx5, h5⟩ := S5.ob
        exact ⟨_, e6 _ _ h5⟩
      exact (k2 j' hbad).of (b5.trans (ebut e6)) p6
  · obtain ⟨j, ds, vs, hgo5, b5, S5, l5, u5, p5, d5, z5, hvl⟩ := hv
    rw [Nat.sub_self] at hgo5
    have hRv : R = .inr (ds, j) := hgo5.symm
    have hfin : paperGo ws i0 = .inr ((z, ds), j) := by rw [hgo, hRv]; rfl
    have hfx := fixedL_plain ds p5
    have hlen : partsTab.lookup z = some ds.length := by
      rw [hc, toldN_len ws c (i0 + 1) [] ds j (hR.trans hRv)]
      simp
    have hsz : szL ds < 100000 := by
      have := S5.hi
      omega
    -- found = made_first(word, parts)
    refine (show bX _ _ _ _ _ from b_cons (s_set 3 (eX_of (pe_cl (E := E) c1 hr (by omega) pass0 rfl (pa_cons pe_X (pa_cons pe_X pa_nil))) (eX_ev (ev_name 1 rfl) fun H6 e6 => eX_ev (ev_name 2 rfl) fun H7 e7 => ⟨z, Dl, vs, ds, rfl, .inr (sq_of ((e6.trans e7) _ _ l5)), u5.ext (e6.trans e7), d5, hsz, fun hzf => ⟨hlen, fun x H8 e8 I => ?_⟩, fun hzf => fun H8 e8 => ?_⟩)) sc_take_paper.nd))
    · have E8 := (e6.trans e7).trans e8
      rw [hfx] at I
      refine b_one (s_retX (e_ife (tX_et (k := false) (et_cmp op_isN (ev_name 3 rfl) ev_non fun H1 _ Q q => ⟨rfl, q H1 (Ex.refl H1)⟩) fun H9 e9 => ?_)))
      rw [if_neg (by decide)]
      refine eX_ev (ev_name 3 rfl) fun H10 e10 => ?_
      have E10 := (E8.trans e9).trans e10
      exact k1 z ds j x H10 hfin (b5.trans (ebut E10)) (S5.ex E10) (I.ext (e9.trans e10)) p5
    · have E8 := (e6.trans e7).trans e8
      refine b_one (s_retX (e_ife (tX_et (k := true) (et_cmp op_isN (ev_name 3 rfl) ev_non fun H1 _ Q q => ⟨rfl, q H1 (Ex.refl H1)⟩) fun H9 e9 => ?_)))
      rw [if_pos rfl]
      refine eX_of (pe_cl (E := E) c2 hr (by omega) pass0 rfl (pa_cons pe_X (pa_cons pe_X pa_nil))) (eX_ev (ev_name 1 rfl) fun H10 e10 => eX_ev (ev_name 2 rfl) fun H11 e11 => ?_)
      have E11 := ((E8.trans e9).trans e10).trans e11
      refine ⟨z, Dl, vs, ds, rfl, .inr (sq_of (E11 _ _ l5)), u5.ext E11, d5, hsz, first_last hz hzf, hlen, fun x H12 e12 I => ?_⟩
      rw [hfx] at I
      have E12 := E11.trans e12
      exact k1 z ds j x H12 hfin (b5.trans (ebut E12)) (S5.ex E12) I p5
end
end K96

set_option Elab.async false
set_option linter.all false
set_option maxRecDepth 100000
set_option maxHeartbeats 4000000
/-! Scan.__init__, Lines. -/
namespace K96
open PySem PySem.Spec PyProof.Rows L2 Evl
/-- Scan.__init__, as the top has left it -/
structure DfS (K : Fr) (f : Addr) : Prop where
  ex : ∃ (fd : FuncData), FunD K d_Scan_init.name d_Scan_init.qual d_Scan_init.params d_Scan_init.body d_Scan_init.scope [.int 0] [] f fd
def wordsOf (t : Str) : List Str := Txt.split t " "
def rowsOf (t : Str) : List Str := Txt.split t "\n"
def spScan (A : Adr) : Sp := fun vs H Q _ => ∃ (x dx : Addr) (t : Str) (l : Int), vs = [.ref x, .str t, .int l] ∧ H x = some (.ins A.scan dx []) ∧ t.length ≤ 90000 ∧ ∀ d H', But x H H' → ScanO A H' x d (wordsOf t) l 0 → H d = none → Q .non H'
theorem split_small (t b : Str) (hb : (b.length == 0) = false) : (Txt.split t b).length ≤ t.length + 2 ∧ ∀ z ∈ Txt.split t b, z.length ≤ t.length :=
  ⟨split_le t b, fun _ h => part_short h⟩
theorem scanPut1 {d : Addr} : putF "words" (.ref d) [] = ([("words", V.ref d)] : List (Str × V)) := rfl
theorem scanPut2 {d : Addr} {l : Int} : putF "line" (.int l) ([("words", V.ref d)] : List (Str × V)) = ([("words", V.ref d), ("line", .int l)] : List (Str × V)) := by
  have h1 : ¬ (("words" : Str) = "line") := by decide +kernel
  show (if ("words" : Str) = "line" then _ else (("words" : Str), V.ref d) :: [(("line" : Str), V.int l)]) = _
  rw [if_neg h1]
theorem scanPut3 {d : Addr} {l : Int} : putF "at" (.int 0) ([("words", V.ref d), ("line", .int l)] : List (Str × V)) = ([("words", V.ref d), ("line", .int l), ("at", .int 0)] : List (Str × V)) := by
  have h1 : ¬ (("words" : Str) = "at") := by decide +kernel
  have h2 : ¬ (("line" : Str) = "at") := by decide +kernel
  show (if ("words" : Str) = "at" then _ else (("words" : Str), V.ref d) :: (if ("line" : Str) = "at" then _ else (("line" : Str), V.int l) :: [(("at" : Str), V.int 0)])) = _
  rw [if_neg h1, if_neg h2]
section
variable {P : Program} {w : World} {K : Fr} {mg : Str → Option Value} {base : Heap} {A : Adr}
theorem e_split {X : Cx} {o : Expr} {b : Str} {t : Str} {j : Nat} {p0 apos pos : Pos} {σ : Sg} {H : Hp} {Q : VK} (ho : EV X o σ H (.str t)) (ht : t.length ≤ 90000) (hb : (b.length == 0) = false) (q : ∀ H1 p, Ex H H1 → H1 p = none → Q (.ref p) (L2.upd H1 p (.lst ((Txt.split t b).map V.str))))
    (hbase : attributeBase o "split" X.env (eval o X.env) = eval o X.env := by rfl) (hline : (apos.endLine == pos.line) = true := by rfl) : eX X (.Call (.Attribute o "split" apos) [.Constant (.str b) j p0] [] pos) σ H Q :=
  eX_of (pe_split pe_X pe_str rfl hbase hline) (eX_ev ho fun H1 e1 => ⟨⟨t, rfl⟩, t, b, rfl, rfl, hb, Nat.le_trans (by omega : _ ≤ 100000) (by decide), fun p hp => q H1 p e1 hp⟩)
theorem ok_Scan (O : Obc K mg "Scan" A.scan scanF) {f : Addr} (M : Mk K A.scan f) (D : DfS K f) : Ini P w K mg base CX0 1 "Scan" A.scan (spScan A) := by
  refine ⟨f, M, O.g, ?_⟩
  obtain ⟨fd, F⟩ := D.ex
  have hF : FnOk P w K mg base CX0 1 f fd ["self", "text", "line"] (spScan A) := F.ok sc_Scan_init (fun vs H Q E h => by
    obtain ⟨x, dx, t, l, rfl, _⟩ := h
    rfl) fun cdv Ar outer s H vs Q E hr h => ⟨_, pb_X, by
    obtain ⟨x, dx, t, l, rfl, hx, ht, k⟩ := h
    have hsm := split_small t " " (by decide +kernel)
    refine b_cons (s_fld (x := x) (C := A.scan) (dx := dx) (e_split (b := " ") (ev_name 1 rfl) ht (by decide +kernel) fun H1 p e1 hp => ⟨[], ev_name 0 rfl, Ex.new hp _ _ (e1 _ _ hx), by show 0 < 1000; decide, fun H2 e2 => ?_⟩) O.cl (O.no "words" (by decide)))
    have E2 : Ex H H2 := (e1.trans (Ex.new hp)).trans e2
    have hp0 : H p = none := fresh_back e1 hp
    have npx : p ≠ x := fun e => by rw [e, hx] at hp0; cases hp0
    have hp2 := e2 _ _ (upd_same (H := H1) (a := p) (o := .lst ((wordsOf t).map V.str)))
    refine b_cons (s_fld (x := x) (C := A.scan) (dx := dx) (eX_ev (ev_name 2 rfl) fun H3 e3 => ⟨_, ev_name 0 rfl, e3 _ _ upd_same, by show 1 < 1000; decide, fun H4 e4 => ?_⟩) O.cl (O.no "line" (by decide)))
    refine b_one (s_fld (x := x) (C := A.scan) (dx := dx) (eX_ev ev_int fun H5 e5 => ⟨_, ev_name 0 rfl, e5 _ _ upd_same, by rw [scanPut1, scanPut2]; show 2 < 1000; decide, fun H6 e6 => ?_⟩) O.cl (O.no "at" (by decide)))
    rw [scanPut1, scanPut2, scanPut3]
    refine k p _ (fun b o hb ho => ?_) ⟨⟨dx, upd_same⟩, ?_, Nat.zero_le _, by have := hsm.1; show (Txt.split t " ").length ≤ _; omega, fun z hz => Nat.le_trans (hsm.2 z hz) (by omega)⟩ hp0
    · rw [upd_ne hb]
      refine e6 _ _ (e5 _ _ ?_)
      rw [upd_ne hb]
      refine e4 _ _ (e3 _ _ ?_)
      rw [upd_ne hb]
      exact E2 _ _ ho
    · rw [upd_ne npx]
      refine e6 _ _ (e5 _ _ ?_)
      rw [upd_ne npx]
      refine e4 _ _ (e3 _ _ ?_)
      rw [upd_ne npx]
      exact hp2⟩
  obtain ⟨ds, hd, hb⟩ := F.binds1 (ps := ["self", "text", "line"]) 3 1 (fun z => (nomatch z)) rfl fun T kV doc pm an cdv ct us its h1 h2 => match us, its, h1, h2 with | [_, _, _], [_], _, _ => ⟨_, rfl, rfl⟩
  cases hd
  exact (hF.raw hb .nil).imp fun vs H Q E h => by rw [List.append_nil]; exact h
end
end K96

set_option Elab.async false
set_option linter.all false
set_option maxRecDepth 100000
set_option maxHeartbeats 4000000
/-! Lines. -/
namespace K96
open PySem PySem.Spec PyProof.Rows L2 Evl
structure LinesO (A : Adr) (H : Hp) (p d : Addr) (rows : List Str) (i : Nat) : Prop where
  ob : ∃ dx, H p = some (.ins A.lines dx [("rows", .ref d), ("at", .int (i : Int))])
  ls : H d = some (.lst (rows.map V.str))
  hw : ∀ w ∈ rows, w.length ≤ 90000
theorem LinesO.keep {A : Adr} {H H' : Hp} {p d : Addr} {rows : List Str} {i : Nat} (S : LinesO A H p d rows i) (h1 : ∀ o, H p = some o → H' p = some o) (h2 : ∀ o, H d = some o → H' d = some o) : LinesO A H' p d rows i :=
  ⟨S.ob.imp fun _ h => h1 _ h, h2 _ S.ls, S.hw⟩
theorem LinesO.ex {A : Adr} {H H' : Hp} {p d : Addr} {rows : List Str} {i : Nat} (S : LinesO A H p d rows i) (e : Ex H H') : LinesO A H' p d rows i := S.keep (e _) (e _)
theorem LinesO.ne {A : Adr} {H : Hp} {p d : Addr} {rows : List Str} {i : Nat} (S : LinesO A H p d rows i) : d ≠ p := fun e => by
  obtain ⟨dx, h⟩ := S.ob
  have := S.ls
  rw [e, h] at this
  cases this
theorem linesNo : (m : Str) → m ∈ (["take", "finish"] : List Str) → ∀ (d : Addr) (i : Int), ([("rows", V.ref d), ("at", .int i)] : List (Str × V)).lookup m = none := fun m h d i => by
  have h1 : ¬ m = "rows" := fun e => by subst e; revert h; decide +kernel
  have h3 : ¬ m = "at" := fun e => by subst e; revert h; decide +kernel
  rw [lookup_put, if_neg h1, lookup_put, if_neg h3]
  rfl
theorem linesPut1 {d : Addr} : putF "at" (.int 0) ([("rows", V.ref d)] : List (Str × V)) = ([("rows", V.ref d), ("at", .int 0)] : List (Str × V)) := by
  have h1 : ¬ (("rows" : Str) = "at") := by decide +kernel
  show (if ("rows" : Str) = "at" then _ else (("rows" : Str), V.ref d) :: [(("at" : Str), V.int 0)]) = _
  rw [if_neg h1]
theorem linesPut2 {d : Addr} {i j : Int} : putF "at" (.int j) ([("rows", V.ref d), ("at", .int i)] : List (Str × V)) = ([("rows", V.ref d), ("at", .int j)] : List (Str × V)) := by
  have h1 : ¬ (("rows" : Str) = "at") := by decide +kernel
  show (if ("rows" : Str) = "at" then _ else (("rows" : Str), V.ref d) :: (if ("at" : Str) = "at" then [(("at" : Str), V.int j)] else _)) = _
  rw [if_neg h1, if_pos rfl]
def spLines (A : Adr) (K : Fr) : Sp := fun vs H Q E => ∃ (x dx : Addr) (v : V) (n : String), vs = [.ref x, v] ∧ H x = some (.ins A.lines dx []) ∧ VT K H v n ∧ (∀ t, v = .str t → t.length ≤ 80000 ∧ ∀ d H', But x H H' → LinesO A H' x d (rowsOf t) 0 → Q .non H') ∧ (n ≠ "str" → Bad A x H E 0 0)
def spLTake (A : Adr) : Sp := fun vs H Q _ => ∃ (p d : Addr) (rows : List Str) (i : Nat) (t : Str), vs = [.ref p] ∧ LinesO A H p d rows i ∧ rows[i]? = some t ∧ ∀ s sd H', But p H H' → LinesO A H' p d rows (i + 1) → ScanO A H' s sd (wordsOf t) i 0 → H s = none → H sd = none → Q (.ref s) H'
def spLFinish (A : Adr) : Sp := fun vs H Q E => ∃ (p d : Addr) (rows : List Str) (i : Nat), vs = [.ref p] ∧ LinesO A H p d rows i ∧ (rows.length ≤ i → Gives .non H Q) ∧ (i < rows.length → Bad A p H E i 0)
section
variable {P : Program} {w : World} {K : Fr} {mg : Str → Option Value} {base : Heap} {A : Adr}
theorem ok_Lines (T : Txt K mg) (O : Obc K mg "Lines" A.lines linesF) (B : Exi P w K mg base 1 "BadText" A.bt (spBT A)) {f : Addr} (M : Mk K A.lines f) (D : DfA K d_Lines_init f) : Ini P w K mg base (L2.CX P w) 3 "Lines" A.lines (spLines A K) := by
  refine ⟨f, M, O.g, D.fn sc_Lines_init (fun vs H Q E h => ?_) (fun _ _ _ _ _ _ us hl => match us, hl with | [_, _], _ => rfl) fun cdv Ar outer s H vs Q E hr h => ?_⟩
  · obtain ⟨x, dx, v, n, rfl, _⟩ := h
    rfl
  obtain ⟨x, dx, v, n, rfl, hx, hv, k1, k2⟩ := h
  refine b_cons (s_if (et_not (et_val (ev_isi (m := "str") (T.f "isinstance") (T.f "str") (ev_name 1 rfl) hv (by decide)))) (fun hb H1 e1 => ?_) fun hb H1 e1 => b_nil ?_)
  · have hns : n ≠ "str" := fun e => by
      subst e
      exact absurd hb (by decide)
    exact b_one (s_refused B hr (by decide) (takes_of rfl rfl rfl rfl) ev_int ev_int fun e H' hn ex he => k2 hns e H' (fresh_back e1 hn) (ebut (e1.trans ex)) he)
  · have hns : n = "str" := by
      by_cases e : n = "str"
      · exact e
      · have := (VT.notStr hv e).1
        rw [this] at hb
        cases hb
    obtain ⟨t, rfl, _⟩ := hv.str hns
    obtain ⟨ht, k⟩ := k1 t rfl
    have hsm := split_small t "\n" (by decide +kernel)
    refine b_cons (s_fld (x := x) (C := A.lines) (dx := dx) (e_split (b := "\n") (ev_name 1 rfl) (by omega) (by decide +kernel) fun H2 p e2 hp => ⟨[], ev_name 0 rfl, Ex.new hp _ _ ((e1.trans e2) _ _ hx), by show 0 < 1000; decide, fun H3 e3 => ?_⟩) O.cl (O.no "rows" (by decide)))
    have E2 := e1.trans e2
    have hp0 : H p = none := fresh_back E2 hp
    have npx : p ≠ x := fun e => by rw [e, hx] at hp0; cases hp0
    have hp3 := e3 _ _ (upd_same (H := H2) (a := p) (o := .lst ((rowsOf t).map V.str)))
    refine b_one (s_fld (x := x) (C := A.lines) (dx := dx) (eX_ev ev_int fun H4 e4 => ⟨_, ev_name 0 rfl, e4 _ _ upd_same, by show 1 < 1000; decide, fun H5 e5 => ?_⟩) O.cl (O.no "at" (by decide)))
    rw [show putF "rows" (V.ref p) [] = ([("rows", V.ref p)] : List (Str × V)) from rfl, linesPut1]
    refine k p _ (fun b o hb ho => ?_) ⟨⟨dx, upd_same⟩, ?_, fun z hz => Nat.le_trans (hsm.2 z hz) (by omega)⟩
    · rw [upd_ne hb]
      refine e5 _ _ (e4 _ _ ?_)
      rw [upd_ne hb]
      exact e3 _ _ (Ex.new hp _ _ (E2 _ _ ho))
    · rw [upd_ne npx]
      refine e5 _ _ (e4 _ _ ?_)
      rw [upd_ne npx]
      exact hp3
theorem ok_LTake (T : Txt K mg) (O : Obc K mg "Lines" A.lines linesF) (B : Exi P w K mg base 1 "BadText" A.bt (spBT A)) (S : Ini P w K mg base CX0 1 "Scan" A.scan (spScan A)) {f : Addr} (M : Meth K A.lines "take" f) (D : DfA K d_Lines_take f) : Mt P w K mg base (L2.CX P w) 3 A.lines "take" (spLTake A) := by
  refine ⟨f, M, D.fn sc_Lines_take (fun vs H Q E h => ?_) (fun _ _ _ _ _ _ us hl => match us, hl with | [_], _ => rfl) fun cdv Ar outer s H vs Q E hr h => ?_⟩
  · obtain ⟨p, d, rows, i, t, rfl, _⟩ := h
    rfl
  obtain ⟨p, d, rows, i, t, rfl, L, hi, k⟩ := h
  obtain ⟨dx, hp⟩ := L.ob
  have hil : i < rows.length := (List.getElem?_eq_some_iff.mp hi).1
  have htl : t.length ≤ 90000 := L.hw t (List.mem_of_getElem? hi)
  refine b_cons (s_if (k := decide (V.int (i : Int) = V.int ((rows.map V.str).length : Int))) (et_cmp op_eq (ev_fld (ev_name 0 rfl) hp O.cl (O.no "at" (by decide)) rfl) (ev_lenL (T.f "len") (ev_fld (ev_name 0 rfl) hp O.cl (O.no "rows" (by decide)) rfl) (.inl (sq_of L.ls))) (rv_eq rfl)) (fun hb H1 e1 => ?_) fun hb H1 e1 => b_nil ?_)
  · have := V.int.inj (of_decide_eq_true hb)
    rw [List.length_map] at this
    omega
  · refine b_cons (s_fld (x := p) (C := A.lines) (dx := dx) (eX_ev (ev_bin op_add (ev_fld (ev_name 0 rfl) (e1 _ _ hp) O.cl (O.no "at" (by decide)) rfl) ev_int rv_I0) fun H2 e2 => ⟨_, ev_name 0 rfl, e2 _ _ (e1 _ _ hp), by show 2 < 1000; decide, fun H3 e3 => ?_⟩) O.cl (O.no "at" (by decide)))
    rw [linesPut2]
    have E3 := (e1.trans e2).trans e3
    have L4 : LinesO A (L2.upd H3 p (.ins A.lines dx [("rows", .ref d), ("at", .int ((i : Int) + 1))])) p d rows (i + 1) := ⟨⟨dx, upd_same⟩, by rw [upd_ne L.ne]; exact E3 _ _ L.ls, L.hw⟩
    have hp4 : L2.upd H3 p (.ins A.lines dx [("rows", .ref d), ("at", .int ((i : Int) + 1))]) p = some (.ins A.lines dx [("rows", .ref d), ("at", .int ((i : Int) + 1))]) := upd_same
    have h1 : ((i : Int) + 1) - 1 = (i : Int) := by omega
    have B4 : But p H (L2.upd H3 p (.ins A.lines dx [("rows", .ref d), ("at", .int ((i : Int) + 1))])) := (ebut E3).trans But.upd
    refine b_one (s_retX (e_make (E := E) S hr (by decide) pass0 (a_cons (eX_ev (ev_ixL (v := .str t) (i := ((i : Int) + 1) - 1) (ev_fld (ev_name 0 rfl) hp4 O.cl (O.no "rows" (by decide)) rfl) (ev_bin op_sub (ev_fld (ev_name 0 rfl) hp4 O.cl (O.no "at" (by decide)) rfl) ev_int rv_I0) (sq_of L4.ls) ?_) fun H5 e5 => a_cons (eX_ev (v := .int (((i : Int) + 1) - 1)) (ev_bin op_sub (ev_fld (ev_name 0 rfl) (e5 _ _ hp4) O.cl (O.no "at" (by decide)) rfl) ev_int rv_I0) fun H6 e6 => a_nil fun x dx' hx hdx hne => ?_)))))
    · rw [h1, atI_nat (by rw [List.length_map]; exact hil), List.getElem?_map, hi]
      rfl
    · have E6 := e5.trans e6
      have e7 : Ex H6 (L2.upd (L2.upd H6 dx' (.own x)) x (.ins A.scan dx' [])) := (Ex.new hdx).trans (Ex.new (by rw [upd_ne (Ne.symm hne)]; exact hx))
      refine ⟨x, dx', t, _, rfl, upd_same, htl, fun sd H7 b7 S7 hsd => ⟨rfl, ?_⟩⟩
      have L7 := (L4.ex E6).ex e7
      have p6 : ∃ o, H6 p = some o := ⟨_, E6 _ _ hp4⟩
      have nxp : p ≠ x := fun e => by
        obtain ⟨o, ho⟩ := p6
        rw [e, hx] at ho
        cases ho
      have hx0 : H x = none := (B4.trans (ebut E6)).free p6 hx
      have nxd : d ≠ x := fun e => by
        have := E6 _ _ L4.ls
        rw [e, hx] at this
        cases this
      rw [h1] at S7
      have hsd0 : H sd = none := by
        have h8 : H6 sd = none := fresh_back e7 hsd
        exact (B4.trans (ebut E6)).free p6 h8
      refine k x sd H7 (fun b o hb ho => ?_) (L7.keep (b7 p · nxp) (b7 d · nxd)) S7 hx0 hsd0
      exact b7 b o (fun z => by rw [z, hx0] at ho; cases ho) (e7 _ _ (E6 _ _ (B4 b o hb ho)))
theorem ok_LFinish (T : Txt K mg) (O : Obc K mg "Lines" A.lines linesF) (B : Exi P w K mg base 1 "BadText" A.bt (spBT A)) {f : Addr} (M : Meth K A.lines "finish" f) (D : DfA K d_Lines_finish f) : Mt P w K mg base (L2.CX P w) 3 A.lines "finish" (spLFinish A) := by
  refine ⟨f, M, D.fn sc_Lines_finish (fun vs H Q E h => ?_) (fun _ _ _ _ _ _ us hl => match us, hl with | [_], _ => rfl) fun cdv Ar outer s H vs Q E hr h => ?_⟩
  · obtain ⟨p, d, rows, i, rfl, _⟩ := h
    rfl
  obtain ⟨p, d, rows, i, rfl, L, k1, k2⟩ := h
  obtain ⟨dx, hp⟩ := L.ob
  refine b_one (s_if (k := decide ((i : Int) < ((rows.map V.str).length : Int))) (et_cmp op_lt (ev_fld (ev_name 0 rfl) hp O.cl (O.no "at" (by decide)) rfl) (ev_lenL (T.f "len") (ev_fld (ev_name 0 rfl) hp O.cl (O.no "rows" (by decide)) rfl) (.inl (sq_of L.ls))) rv_I0) (fun hb H1 e1 => ?_) fun hb H1 e1 => b_nil ?_)
  · have hi : i < rows.length := by
      have := of_decide_eq_true hb
      rw [List.length_map] at this
      omega
    exact b_one (s_refused B hr (by decide) (takes_of rfl rfl rfl rfl) (ev_fld (ev_name 0 rfl) (e1 _ _ hp) O.cl (O.no "at" (by decide)) rfl) ev_int fun e H' hn ex he => k2 hi e H' (fresh_back e1 hn) (ebut (e1.trans ex)) he)
  · have hi : rows.length ≤ i := by
      have := of_decide_eq_false hb
      rw [List.length_map] at this
      omega
    exact k1 hi H1 e1
end
end K96

set_option Elab.async false
set_option linter.all false
set_option maxRecDepth 100000
set_option maxHeartbeats 4000000
/-! read_paper. -/
namespace K96
open PySem PySem.Spec PyProof.Rows L2 Evl
/-- a def's promise, told by its name, when its one argument may be named -/
structure ClK (P : Program) (w : World) (K : Fr) (mg : Str → Option Value) (base : Heap) (CX : CXT) (k : Nat) (x p : Str) (sp : Sp) : Prop where
  ex : ∃ (f : Addr) (fd : FuncData), FnOk P w K mg base CX k f fd [p] sp ∧ mg x = some (.ref f) ∧ PySem.W.keepIn K (.ref f) = true ∧ Binds K fd [p] [] ∧ KBinds K fd [p] [p] (fun us ws => us ++ ws) (fun vs zs => vs ++ zs)
theorem ClK.cl {P : Program} {w : World} {K : Fr} {mg : Str → Option Value} {base : Heap} {CX : CXT} {k : Nat} {x p : Str} {sp : Sp} (c : ClK P w K mg base CX k x p sp) : Cl P w K mg base CX k x sp := by
  obtain ⟨f, fd, F, hm, kp, b, _⟩ := c.ex
  exact ⟨f, fd, [p], F, hm, kp, b⟩
theorem Df.clK {P : Program} {w : World} {K : Fr} {mg : Str → Option Value} {base : Heap} {CX : CXT} {d : He.DefD} {N : List Str} {p : Str} {k : Nat} {sp : Sp} (D : Df K mg d) (S : FnScope N [p] d.scope) (len : ∀ vs H Q E, sp vs H Q E → vs.length = 1)
    (hb : ∀ (kV doc pm : Value) (an : Option Addr) (cdv ct v : Value), bindArgs (PySem.W.fnOf d.name d.qual d.params d.body d.scope .none kV doc pm an cdv ct) ⟨[v], []⟩ = pure [(p, v)])
    (hk : ∀ (kV doc pm : Value) (an : Option Addr) (cdv ct v : Value), bindArgs (PySem.W.fnOf d.name d.qual d.params d.body d.scope .none kV doc pm an cdv ct) ⟨[], [(p, v)]⟩ = pure [(p, v)])
    (hbody : ∀ (f : Addr) (cdv : Value) (A : Around) (outer : List Env) (s : Shared) (H : Hp) (vs : List V) (Q : VK) (E : XK), Room k (A.deeper (envOfC d.qual d.scope s.heap.objs.size f cdv)) → sp vs H Q E →
      ∃ t, PSs (cxOf CX P w K mg base N d.qual d.scope f cdv A outer s H E) d.body t ∧ t { nx := fun _ H' => Q .non H', rt := Q } (start N vs) H) : ClK P w K mg base CX (k + 1) d.name p sp := by
  obtain ⟨f, fd, F, g⟩ := D.ex
  refine ⟨f, fd, F.ok S len (hbody f), g, F.kp, F.bindsN fun kV doc pm an cdv ct us hl => match us, hl with | [v], _ => hb kV doc pm an cdv ct v, ⟨?_, fun r rz => r.append rz⟩⟩
  intro s us ws X hl
  obtain ⟨oc, od, dV, kV, doc, pm, an, cdv, ct, osl, rfl, lk, hcd, hD, hK⟩ := F.ex
  rcases hD with ⟨_, rfl⟩ | ⟨e, _⟩
  · match us, ws, hl with
    | [v], [], _ => exact .of_eq (hb kV doc pm an cdv ct v)
    | [], [v], _ => exact .of_eq (hk kV doc pm an cdv ct v)
    | [], [], h => exact absurd h (by simp)
    | _ :: _ :: _, _, h => exact absurd h (by simp)
    | [_], _ :: _, h => exact absurd h (by simp)
    | [], _ :: _ :: _, h => exact absurd h (by simp)
  · exact absurd rfl e
theorem pe_clK {X : Cx} {CX : CXT} {E : XK} {k j : Nat} {x q : Str} {sp : Sp} {p pos kpos : Pos} {e : Expr} {te : TE} (c : ClK X.prog X.w X.K X.mg X.base CX k x q sp) (hr : Room j X.A) (hk : k ≤ j) (hx : Passes CX X E) (hg : Gl X x) (he : PE X e te)
    (hall : (backToKw pos (keywordEach [⟨some q, e, kpos⟩] X.env)).all (·.1.isSome) = true := by rfl) (hks : (backToKw pos (keywordEach [⟨some q, e, kpos⟩] X.env)).filterMap (·.1) = [q] := by rfl) (hdb : (x == ("__debug__" : Str)) = false := by decide)
    (hpl : ((backTo pos (starEach [] X.env)).any (·.1) || (backToKw pos (keywordEach [⟨some q, e, kpos⟩] X.env)).any (·.1.isNone)) = false := by rfl) :
    PE X (.Call (.Name x p) [] [⟨some q, e, kpos⟩] pos) (fun σ H Q => te σ H fun v H1 => sp [v] H1 Q E) := by
  obtain ⟨f, fd, F, hm, kp, _, b⟩ := c.ex
  refine ⟨fun pins s σ H Q I h => ?_⟩
  refine wpAny_Call_Name_kw (ld_glob I hg hm ?_ hdb)
  refine PySem.W.callWith_KW0 (h₀ := X.base) I.ok.mod.kin kp hall ?_ hpl
  have h2 : tCons te tNil σ H fun zs H2 => sp zs H2 Q E := h
  refine thn ((pk_cons he pk_nil).run pos pins s σ H _ I h2) fun ws s2 ⟨zs, H2, I2, rz, q2⟩ => ⟨I2.kIn, ?_⟩
  rw [hks]
  exact run_fnk (us := []) (vs := []) F (hr.mono hk) b hx I2 .nil rz q2
theorem e_clK {X : Cx} {CX : CXT} {E : XK} {k j : Nat} {x q : Str} {sp : Sp} {p pos kpos : Pos} {e : Expr} {σ : Sg} {H : Hp} {Q : VK} (c : ClK X.prog X.w X.K X.mg X.base CX k x q sp) (hr : Room j X.A) (hk : k ≤ j) (hx : Passes CX X E) (h : eX X e σ H fun v H1 => sp [v] H1 Q E) (hg : Gl X x := by rfl)
    (hall : (backToKw pos (keywordEach [⟨some q, e, kpos⟩] X.env)).all (·.1.isSome) = true := by rfl) (hks : (backToKw pos (keywordEach [⟨some q, e, kpos⟩] X.env)).filterMap (·.1) = [q] := by rfl) (hdb : (x == ("__debug__" : Str)) = false := by decide)
    (hpl : ((backTo pos (starEach [] X.env)).any (·.1) || (backToKw pos (keywordEach [⟨some q, e, kpos⟩] X.env)).any (·.1.isNone)) = false := by rfl) : eX X (.Call (.Name x p) [] [⟨some q, e, kpos⟩] pos) σ H Q :=
  eX_of (pe_clK c hr hk hx hg pe_X hall hks hdb hpl) h
def firstRow (t : Str) : Str := (rowsOf t).headD Str.empty
/-- behind what is told of the first line: is the line at its end, the text, too -/
def endOf {α : Type} (t : Str) : Nat ⊕ (α × Nat) → (Nat × Nat) ⊕ α
  | .inl j => .inl (0, j)
  | .inr (x, j) => if decide (j < (wordsOf (firstRow t)).length) = true then .inl (0, j) else if decide (1 < (rowsOf t).length) = true then .inl (1, 0) else .inr x
def readP (t : Str) : (Nat × Nat) ⊕ (Str × List PyData) := endOf t (paperGo (wordsOf (firstRow t)) 0)
/-- BadText(l, i), with nothing changed -/
def BadX (A : Adr) (H : Hp) (E : XK) (l i : Int) : Prop := ∀ d H', H d = none → Ex H H' → H' d = some (btD l i) → E (.ref A.bt) (some d) H'
theorem BadX.bad {A : Adr} {H H1 : Hp} {E : XK} {l i : Int} {p : Addr} (h : BadX A H E l i) (e : Ex H H1) (hp : H p = none) : Bad A p H1 E l i := fun d H' hn b hd =>
  h d H' (fresh_back e hn) (fun x o hx => b x o (fun z => by rw [z, hp] at hx; cases hx) (e _ _ hx)) hd
structure LinesM (P : Program) (w : World) (K : Fr) (mg : Str → Option Value) (base : Heap) (A : Adr) : Prop where
  O : Obc K mg "Lines" A.lines linesF
  ini : Ini P w K mg base (L2.CX P w) 3 "Lines" A.lines (spLines A K)
  take : Mt P w K mg base (L2.CX P w) 3 A.lines "take" (spLTake A)
  finish : Mt P w K mg base (L2.CX P w) 3 A.lines "finish" (spLFinish A)
theorem rows_pos (t : Str) : 1 ≤ (rowsOf t).length := split_pos t "\n"
theorem rows_head (t : Str) : (rowsOf t)[0]? = some (firstRow t) := by
  have h := rows_pos t
  unfold firstRow
  cases q : rowsOf t with
  | nil => rw [q] at h; exact absurd h (by decide)
  | cons a b => rfl
theorem first_len (t : Str) : (firstRow t).length ≤ t.length := part_short (List.mem_of_getElem? (rows_head t))
theorem words_len (t : Str) : (wordsOf t).length ≤ t.length + 2 := split_le t " "
def spReadP (A : Adr) (K : Fr) : Sp := fun vs H Q E => ∃ (v : V) (n : String), vs = [v] ∧ VT K H v n ∧ (∀ t, v = .str t → t.length ≤ 80000 ∧ (∀ z ds x H', readP t = .inr (z, ds) → Ex H H' → PapI K H' x (A.pap z) z ds → plainL ds = true → Q (.ref x) H') ∧ ∀ a b : Nat, readP t = .inl (a, b) → BadX A H E a b) ∧ (n ≠ "str" → BadX A H E 0 0)
section
variable {P : Program} {w : World} {K : Fr} {mg : Str → Option Value} {base : Heap} {A : Adr}
theorem ok_read_paper (T : Txt K mg) (M : ScanM P w K mg base A) (L : LinesM P w K mg base A) {kt : Nat} (hkt : 8 ≤ kt) (ct : Cl P w K mg base (L2.CX P w) kt "take_paper" (spTPaper A K)) (D : Df K mg d_read_paper) : ClK P w K mg base (L2.CX P w) (kt + 1) "read_paper" "text" (spReadP A K) := by
  refine D.clK sc_read_paper (fun vs H Q E h => ?_) (fun _ _ _ _ _ _ _ => rfl) (fun _ _ _ _ _ _ _ => rfl) fun f cdv Ar outer s H vs Q E hr h => ⟨_, pb_X, ?_⟩
  · obtain ⟨v, n, rfl, _⟩ := h
    rfl
  obtain ⟨v, n, rfl, hv, k1, k2⟩ := h
  have ps : Passes (L2.CX P w) (cxOf (L2.CX P w) P w K mg base ["text", "lines", "scan", "found"] d_read_paper.qual d_read_paper.scope f cdv Ar outer s H E) E := passes_call (takes_of rfl rfl rfl rfl) fun _ _ _ _ h => h
  -- lines = Lines(text)
  refine b_cons (s_set 1 (e_make L.ini hr (by omega) ps (a_cons (eX_ev (ev_name 0 rfl) fun H1 e1 => a_nil fun x dx hx hdx hne => ?_))) sc_read_paper.nd)
  have e2 : Ex H1 (L2.upd (L2.upd H1 dx (.own x)) x (.ins A.lines dx [])) := (Ex.new hdx).trans (Ex.new (by rw [upd_ne (Ne.symm hne)]; exact hx))
  have E2 := e1.trans e2
  have hx0 : H x = none := fresh_back e1 hx
  refine ⟨x, dx, v, n, rfl, upd_same, hv.mono E2, fun t ht => ?_, fun hn => (k2 hn).bad E2 hx0⟩
  obtain ⟨hl, g1, g2⟩ := k1 t ht
  refine ⟨hl, fun d H3 b3 L3 => ⟨rfl, ?_⟩⟩
  have E3 : Ex H H3 := fun b o hb => b3 b o (fun z => by rw [z, hx0] at hb; cases hb) (E2 _ _ hb)
  obtain ⟨dx3, hx3⟩ := L3.ob
  -- scan = lines.take()
  refine b_cons (s_set 2 (e_meth0 L.take L.O.cl hr (by omega) ps (ev_name 1 rfl) hx3 (linesNo "take" (by decide +kernel) d 0) fun H4 e4 => ⟨x, d, _, 0, firstRow t, rfl, L3.ex e4, rows_head t, fun sc sd H5 b5 L5 S5 hs hsd => ?_⟩) sc_read_paper.nd)
  have E4 := E3.trans e4
  have E5 : Ex H H5 := fun b o hb => b5 b o (fun z => by rw [z, hx0] at hb; cases hb) (E4 _ _ hb)
  have hs0 : H sc = none := fresh_back E4 hs
  obtain ⟨dx5, hx5⟩ := L5.ob
  have nxs : x ≠ sc := fun e => by
    have h4 := e4 _ _ hx3
    rw [e, hs] at h4
    cases h4
  have nds : d ≠ sc := fun e => by
    have h4 := e4 _ _ L3.ls
    rw [e, hs] at h4
    cases h4
  have hwl : (wordsOf (firstRow t)).length < 100000 := by
    have h1 := first_len t
    have h2 := words_len (firstRow t)
    omega
  -- found = take_paper(scan)
  refine b_cons (s_set 3 (eX_of (pe_cl ct hr (by omega) ps rfl (pa_cons pe_X pa_nil)) (eX_ev (ev_name 2 rfl) fun H6 e6 => ⟨sc, sd, _, _, 0, rfl, S5.ex e6, hwl, fun z ds j y H7 hg b7 S7 I7 p7 => ?_, fun j hg => ?_⟩)) sc_read_paper.nd)
  · have E6 := E5.trans e6
    have E7 : Ex H H7 := fun b o hb => b7 b o (fun z => by rw [z, hs0] at hb; cases hb) (E6 _ _ hb)
    obtain ⟨dx7, hs7⟩ := S7.ob
    have L7 : LinesO A H7 x d (rowsOf t) (0 + 1) := (L5.ex e6).keep (fun o h => b7 _ _ nxs h) fun o h => b7 _ _ nds h
    -- scan.finish()
    refine b_cons (s_expr (e_meth0 M.finish M.O.cl hr (by omega) ps (ev_name 2 rfl) hs7 (scanNo "finish" (by decide +kernel) sd 0 j) fun H8 e8 => ⟨sc, sd, _, _, j, rfl, S7.ex e8, fun hj H9 e9 => ?_, fun hj => ?_⟩))
    · have E9 := (E7.trans e8).trans e9
      have L9 := (L7.ex e8).ex e9
      obtain ⟨dx9, hx9⟩ := L9.ob
      have hnj : decide (j < (wordsOf (firstRow t)).length) = false := decide_eq_false (by omega)
      -- lines.finish()
      refine b_cons (s_expr (e_meth0 L.finish L.O.cl hr (by omega) ps (ev_name 1 rfl) hx9 (linesNo "finish" (by decide +kernel) d _) fun H10 e10 => ⟨x, d, _, _, rfl, L9.ex e10, fun hj1 H11 e11 => ?_, fun hj1 => ?_⟩))
      · have E11 := (E9.trans e10).trans e11
        have hn1 : decide (1 < (rowsOf t).length) = false := decide_eq_false (by omega)
        refine b_one (s_ret (ev_name 3 rfl) fun H12 e12 => g1 z ds y H12 ?_ (E11.trans e12) (((((I7.ext e8).ext e9).ext e10).ext e11).ext e12) p7)
        unfold readP
        rw [hg]
        show (if _ then _ else if _ then _ else _) = _
        rw [if_neg (by rw [hnj]; decide), if_neg (by rw [hn1]; decide)]
      · refine (g2 1 0 ?_).bad (E9.trans e10) hx0
        unfold readP
        rw [hg]
        show (if _ then _ else if _ then _ else _) = _
        rw [if_neg (by rw [hnj]; decide), if_pos (decide_eq_true hj1)]
    · refine (g2 0 j ?_).bad (E7.trans e8) hs0
      unfold readP
      rw [hg]
      show (if _ then _ else _) = _
      rw [if_pos (decide_eq_true hj)]
  · refine (g2 0 j ?_).bad (E5.trans e6) hs0
    unfold readP
    rw [hg]
    rfl
end
end K96

set_option Elab.async false
set_option linter.all false
set_option maxRecDepth 100000
set_option maxHeartbeats 4000000
/-! What isinstance tells of papers (printed by gen4.py). -/
namespace K96
open PySem PySem.Spec PyProof.Rows L2 Evl
/-- the type of a value: is it a Paper, one of the first, one of the last -/
structure PT (K : Fr) (A : Adr) (H : Hp) (v : V) (b0 b1 b2 : Bool) : Prop where
  ex : ∃ t, TyX K H v t ∧ PySem.W.kitOne K t (.ref A.paper) = some b0 ∧ PySem.W.kitAny K t (clsOf A firstW) = some b1 ∧ PySem.W.kitAny K t (clsOf A lastW) = some b2
theorem PT.ext {K : Fr} {A : Adr} {H H' : Hp} {v : V} {b0 b1 b2 : Bool} (h : PT K A H v b0 b1 b2) (e : Ex H H') : PT K A H' v b0 b1 b2 := by
  obtain ⟨t, a, b⟩ := h.ex
  exact ⟨t, TyX.ext a e, b⟩
/-- a class of papers, as its instances need it -/
structure KOk (K : Fr) (C : Addr) : Prop where
  cl : Cls K C
  no : ∀ f ∈ papF, NoAttr K C f
structure PapN (K : Fr) (mg : Str → Option Value) (A : Adr) : Prop where
  g : ∀ q ∈ papTab, mg q.1 = some (.ref (A.pap q.2.1))
  p : mg "Paper" = some (.ref A.paper)
def spCls (A : Adr) (i : Nat) (K : Fr) : Sp := fun vs H Q _ => ∃ v b0 b1 b2, vs = [v] ∧ PT K A H v b0 b1 b2 ∧ Gives (.bl (if i = 1 then b1 else b2)) H Q
section
variable {X : Cx} {elt iter : Expr} {n : Str} {px pos : Pos} {scope : Scope} {σ : Sg} {H : Hp} {i : Nat}
/-- [elt for n in iter], the elements by their places -/
theorem evl_lcP {xs ys : List V} (hyl : ys.length = xs.length) (hi : Its1 X n px iter σ H xs) (hN : X.N.Nodup) (ok : BlkOk X.N X.env.scope scope [(n, i)])
    (hg : ∀ (s : Shared) (H : Hp) (C : Addr) (cl : List (Str × Addr)) (fp : List Addr), PG (blkX X scope s H C cl fp) (.Name n px) (gName i)) (hl : xs.length < 1000000)
    (he : ∀ (k : Nat) x y H1, xs[k]? = some x → ys[k]? = some y → Ex H H1 → ∀ (s : Shared) (H0 : Hp) (C : Addr) (cl : List (Str × Addr)) (fp : List Addr), EV (blkX X scope s H0 C cl fp) elt (σ.set i (some x)) H1 y)
    (hc : X.calm = true := by rfl) (hs : ∀ x, foldedSetIterable iter X.env x = pure x := by intro _; rfl) : EVL X (.ListComp elt [⟨.Name n px, iter, [], 0⟩] scope pos) σ H ys := by
  intro H1 e1 Q q
  refine evR_lc (fun k y _ => ys[k]? = some y) (fun _ _ _ _ _ h => h) hi hN ok hg hl (fun k x H2 hx e2 Q k2 s H0 C cl fp => ?_) hc hs H1 e1 Q fun p zs H2 hp e2 hz hl2 hR => ?_
  · obtain ⟨y, hy⟩ : ∃ y, ys[k]? = some y := by
      have h1 := (List.getElem?_eq_some_iff.mp hx).1
      exact ⟨_, List.getElem?_eq_getElem (by omega)⟩
    exact he k x y H2 hx hy e2 s H0 C cl fp H2 (Ex.refl H2) _ fun H3 e3 => k2 y H3 e3 fun _ _ _ _ => hy
  · have e : zs = ys := by
      apply List.ext_getElem?
      intro k
      cases hk : zs[k]? with
      | none =>
        have h1 := List.getElem?_eq_none_iff.mp hk
        rw [List.getElem?_eq_none_iff.mpr (by omega)]
      | some y => exact (hR k y hk).symm
    subst e
    exact q p H2 hp e2 hz
end
section
variable {P : Program} {w : World} {K : Fr} {mg : Str → Option Value} {base : Heap} {A : Adr}
theorem ok_is_one_of_first (T : Txt K mg) (N : PapN K mg A) (D : Df K mg d_is_one_of_first) : Cl P w K mg base CX0 1 "is_one_of_first" (spCls A 1 K) := by
  refine D.cl sc_is_one_of_first (fun vs H Q E h => ?_) (fun _ _ _ _ _ _ us hl => match us, hl with | [_], _ => rfl) fun f cdv Ar outer s H vs Q E hr h => ⟨_, pb_X, ?_⟩
  · obtain ⟨v, b0, b1, b2, rfl, _⟩ := h
    rfl
  obtain ⟨v, b0, b1, b2, rfl, hv, k⟩ := h
  obtain ⟨t, ty, h0, h1, h2⟩ := hv.ex
  exact b_one (s_ret (ev_isiU (us := clsOf A firstW) (T.f "isinstance") (ev_name 0 rfl) (ea_cons (x := .ref (A.pap "bears")) (ev_gl ⟨_, N.g ("Bears", "bears", 1) (by decide +kernel), rfl⟩) (ea_cons (x := .ref (A.pap "loses")) (ev_gl ⟨_, N.g ("Loses", "loses", 5) (by decide +kernel), rfl⟩) (ea_cons (x := .ref (A.pap "settled")) (ev_gl ⟨_, N.g ("Settled", "settled", 1) (by decide +kernel), rfl⟩) (ea_cons (x := .ref (A.pap "comes")) (ev_gl ⟨_, N.g ("Comes", "comes", 1) (by decide +kernel), rfl⟩) (ea_cons (x := .ref (A.pap "stays")) (ev_gl ⟨_, N.g ("Stays", "stays", 2) (by decide +kernel), rfl⟩) (ea_cons (x := .ref (A.pap "shaken")) (ev_gl ⟨_, N.g ("Shaken", "shaken", 2) (by decide +kernel), rfl⟩) (ea_cons (x := .ref (A.pap "holds")) (ev_gl ⟨_, N.g ("Holds", "holds", 1) (by decide +kernel), rfl⟩) (ea_cons (x := .ref (A.pap "covered")) (ev_gl ⟨_, N.g ("Covered", "covered", 1) (by decide +kernel), rfl⟩) ea_nil)))))))) (by show 8 ≤ 100000; decide) (.cons (.own _) (.cons (.own _) (.cons (.own _) (.cons (.own _) (.cons (.own _) (.cons (.own _) (.cons (.own _) (.cons (.own _) .nil)))))))) ty h1) k)
theorem ok_is_one_of_last (T : Txt K mg) (N : PapN K mg A) (D : Df K mg d_is_one_of_last) : Cl P w K mg base CX0 1 "is_one_of_last" (spCls A 2 K) := by
  refine D.cl sc_is_one_of_last (fun vs H Q E h => ?_) (fun _ _ _ _ _ _ us hl => match us, hl with | [_], _ => rfl) fun f cdv Ar outer s H vs Q E hr h => ⟨_, pb_X, ?_⟩
  · obtain ⟨v, b0, b1, b2, rfl, _⟩ := h
    rfl
  obtain ⟨v, b0, b1, b2, rfl, hv, k⟩ := h
  obtain ⟨t, ty, h0, h1, h2⟩ := hv.ex
  exact b_one (s_ret (ev_isiU (us := clsOf A lastW) (T.f "isinstance") (ev_name 0 rfl) (ea_cons (x := .ref (A.pap "waits")) (ev_gl ⟨_, N.g ("Waits", "waits", 2) (by decide +kernel), rfl⟩) (ea_cons (x := .ref (A.pap "pledges")) (ev_gl ⟨_, N.g ("Pledges", "pledges", 2) (by decide +kernel), rfl⟩) (ea_cons (x := .ref (A.pap "frozen")) (ev_gl ⟨_, N.g ("Frozen", "frozen", 1) (by decide +kernel), rfl⟩) (ea_cons (x := .ref (A.pap "thaws")) (ev_gl ⟨_, N.g ("Thaws", "thaws", 1) (by decide +kernel), rfl⟩) (ea_cons (x := .ref (A.pap "acts")) (ev_gl ⟨_, N.g ("Acts", "acts", 3) (by decide +kernel), rfl⟩) (ea_cons (x := .ref (A.pap "idle")) (ev_gl ⟨_, N.g ("Idle", "idle", 2) (by decide +kernel), rfl⟩) (ea_cons (x := .ref (A.pap "firm")) (ev_gl ⟨_, N.g ("Firm", "firm", 1) (by decide +kernel), rfl⟩) (ea_cons (x := .ref (A.pap "shaky")) (ev_gl ⟨_, N.g ("Shaky", "shaky", 3) (by decide +kernel), rfl⟩) ea_nil)))))))) (by show 8 ≤ 100000; decide) (.cons (.own _) (.cons (.own _) (.cons (.own _) (.cons (.own _) (.cons (.own _) (.cons (.own _) (.cons (.own _) (.cons (.own _) .nil)))))))) ty h2) k)
/-- is it a paper that can be told -/
def spIsTold (A : Adr) (K : Fr) : Sp := fun vs H Q _ => ∃ v, vs = [v] ∧ ((∃ b1 b2, PT K A H v false b1 b2 ∧ Gives (.bl false) H Q) ∨ ∃ x C w ds b1 b2, v = .ref x ∧ KOk K C ∧ PapI K H x C w ds ∧ PT K A H v true b1 b2 ∧ szL ds ≤ 90000 ∧ Gives (.bl ((b1 || b2) && ds.all (toldAt 10))) H Q)
theorem ok_is_told_paper (T : Txt K mg) (N : PapN K mg A) (c1 : Cl P w K mg base CX0 1 "is_one_of_first" (spCls A 1 K)) (c2 : Cl P w K mg base CX0 1 "is_one_of_last" (spCls A 2 K)) (c3 : Cl P w K mg base CX0 4 "can_be_told" (spData (toldAt 10) K)) (D : Df K mg d_is_told_paper) : Cl P w K mg base CX0 5 "is_told_paper" (spIsTold A K) := by
  refine D.cl sc_is_told_paper (fun vs H Q E h => ?_) (fun _ _ _ _ _ _ us hl => match us, hl with | [_], _ => rfl) fun f cdv Ar outer s H vs Q E hr h => ⟨_, pb_X, ?_⟩
  · obtain ⟨v, rfl, _⟩ := h
    rfl
  obtain ⟨v, rfl, h⟩ := h
  have isP : ∀ {b0 b1 b2 : Bool}, PT K A H v b0 b1 b2 → ∃ t, TyX K H v t ∧ PySem.W.kitOne K t (.ref A.paper) = some b0 := fun hv => by
    obtain ⟨t, a, b, _⟩ := hv.ex
    exact ⟨t, a, b⟩
  rcases h with ⟨b1, b2, hv, k⟩ | ⟨x, C, w, ds, b1, b2, rfl, KO, I, hv, hz, k⟩
  · obtain ⟨t, ty, h0⟩ := isP hv
    refine b_cons (s_if (k := true) (et_w (ew_or (k := true) (l := false) (et_not (k := false) (et_val (ev_fun call_isi (T.f "isinstance") (ea_cons (ev_name 0 rfl) (ea_cons (x := .ref A.paper) (ev_gl ⟨_, N.p, rfl⟩) ea_nil)) (fun H1 e1 Q q => ⟨v, .ref A.paper, t, .ref A.paper, false, rfl, .own _, TyX.ext ty e1, h0, q H1 (Ex.refl H1)⟩)))) fun z => (nomatch z))) (fun _ H1 e1 => ?_) fun z => (nomatch z))
    exact b_one (s_ret ev_bl fun H2 e2 => k H2 (e1.trans e2))
  · obtain ⟨t, ty, h0⟩ := isP hv
    obtain ⟨dx, fs, q, ws, hx, hw, hp, hq, hu, hfl, hno⟩ := I.ob
    refine b_cons (s_if (k := !(b1 || b2)) (et_w (ew_or (k := false) (l := !(b1 || b2)) (et_not (k := true) (et_val (ev_fun call_isi (T.f "isinstance") (ea_cons (ev_name 0 rfl) (ea_cons (x := .ref A.paper) (ev_gl ⟨_, N.p, rfl⟩) ea_nil)) (fun H1 e1 Q q => ⟨.ref x, .ref A.paper, t, .ref A.paper, true, rfl, .own _, TyX.ext ty e1, h0, q H1 (Ex.refl H1)⟩)))) fun _ => ew_or1 (et_not (et_w (ew_or (k := b1) (l := b2)
      (et_val (ev_call c1 hr (by decide) pass0 (ea_cons (ev_name 0 rfl) ea_nil) fun H1 e1 Q q => ⟨_, true, b1, b2, rfl, hv.ext e1, q⟩)) fun _ => ew_or1 (et_val (ev_call c2 hr (by decide) pass0 (ea_cons (ev_name 0 rfl) ea_nil) fun H1 e1 Q q => ⟨_, true, b1, b2, rfl, hv.ext e1, q⟩))))))) (fun hb H1 e1 => ?_) fun hb H1 e1 => b_nil ?_)
    · have e : (b1 || b2) = false := by simpa using hb
      rw [e, Bool.false_and] at k
      exact b_one (s_ret ev_bl fun H2 e2 => k H2 (e1.trans e2))
    · have e : (b1 || b2) = true := by
        cases q : (b1 || b2) with
        | true => rfl
        | false =>
          rw [q] at hb
          cases hb
      rw [e, Bool.true_and] at k
      have hl := hu.len
      have hdl := szL_len ds
      have eh : (ds.map (toldAt 10)).all id = ds.all (toldAt 10) := all_map_id (toldAt 10) ds
      rw [← eh] at k
      refine b_one (s_ret (ev_all (ys := ds.map (toldAt 10)) (T.f "all") (evl_lcP (xs := ws) (i := 1) (by rw [List.length_map, List.length_map]; exact hl.symm) (its_t (ev_fld (ev_name 0 rfl) (e1 _ _ hx) KO.cl (KO.no _ (by decide +kernel)) hp) (ex_t (hide_ex.trans e1) hq)) sc_is_told_paper.nd (blkOk_by (N := ["value", "part"]) (sc := defScope s_is_told_paper) (by decide +kernel)) (fun _ _ _ _ _ => pg_name sc_is_told_paper.nd rfl (Or.inl rfl)) (by omega) fun j a y H2 ha hy e2 s2 H0 C2 cl fp => ?_)) fun H2 e2 => k H2 (e1.trans e2))
      obtain ⟨dj, hdj, huj⟩ := hu.at ha
      rw [List.getElem?_map, List.getElem?_map, hdj] at hy
      cases hy
      have hm := szD_mem (List.mem_of_getElem? hdj)
      exact ev_call c3 hr (by decide) pass0 (ea_cons (ev_name 1 rfl) ea_nil) fun H3 e3 Q q => ⟨a, dj, rfl, huj.ext (hide_ex.trans (e1.trans (e2.trans e3))), by omega, q⟩
end
end K96

set_option Elab.async false
set_option linter.all false
set_option maxRecDepth 100000
set_option maxHeartbeats 4000000
/-! BadValue; paper_words, paper_text. -/
namespace K96
open PySem PySem.Spec PyProof.Rows L2 Evl
def bvD (v : V) : HO := .xd [("part", v)]
/-- BadValue(v), with nothing changed -/
def BadV (A : Adr) (H : Hp) (E : XK) (v : V) : Prop := ∀ d H', H d = none → Ex H H' → H' d = some (bvD v) → E (.ref A.bv) (some d) H'
def spBV (A : Adr) : Sp := fun vs H Q _ => ∃ a v, vs = [.ref a, v] ∧ H a = some (exo a A.bv none) ∧ ∀ d H', H d = none → d ≠ a → (∀ b o, b ≠ a → H b = some o → H' b = some o) → H' a = some (exo a A.bv (some d)) → H' d = some (exd d [("part", v)]) → Q .non H'
theorem mark_len {s : Str} (h : isMark s = true) : s.length ≤ 8 := by
  rcases Bool.or_eq_true_iff.mp h with h | h
  · have h : inV (.str s) ((["", "-"] : List Str).map V.str) = true := h
    rw [inV_strs] at h
    have h := of_decide_eq_true h
    rcases List.mem_cons.mp h with e | h
    · rw [e]; decide
    · rcases List.mem_cons.mp h with e | h
      · rw [e]; decide
      · cases h
  · obtain ⟨h1, _⟩ := Bool.and_eq_true_iff.mp h
    exact of_decide_eq_true (Bool.and_eq_true_iff.mp h1).2
theorem int_len {i : Int} (h : (decide (0 - mostV ≤ i) && decide (i ≤ mostV)) = true) : (toString i : Str).length ≤ 20 := by
  rw [Bool.and_eq_true, decide_eq_true_eq, decide_eq_true_eq] at h
  have hm : mostV = 999999999999 := by decide +kernel
  rw [hm] at h
  have h1 := int_text_length_le10 (a := i) (k := 12) (by decide) (by omega)
  show (Str.ofString (toString i)).length ≤ 20
  rw [PySem.ofString_length]
  omega
mutual
theorem words_short : ∀ (n : Nat) (d : PyData), toldAt n d = true → ∀ z ∈ wordsD d, z.length ≤ 20
  | n, .tuple xs, h, z, hz => by
    cases n with
    | zero => cases h
    | succ m =>
      have hz : z ∈ ("(" : Str) :: (wordsL xs ++ [(")" : Str)]) := hz
      rcases List.mem_cons.mp hz with e | hz
      · rw [e]; decide
      · rcases List.mem_append.mp hz with hz | hz
        · exact wordsL_short m xs h z hz
        · rcases List.mem_cons.mp hz with e | hz
          · rw [e]; decide
          · cases hz
  | n, .none, _, z, hz => by
    have hz : z ∈ [("-" : Str)] := hz
    rcases List.mem_cons.mp hz with e | hz
    · rw [e]; decide
    · cases hz
  | n, .str s, h, z, hz => by
    have hm : isMark s = true := by cases n <;> exact h
    have hz : z ∈ [markS s] := hz
    rcases List.mem_cons.mp hz with e | hz
    · have h1 := mark_len hm
      have h2 : (markS s).length = ("=" : Str).length + s.length := by
        show (("=" : Str).cps ++ s.cps).size = _
        rw [Array.size_append]
        rfl
      have h3 : ("=" : Str).length = 1 := by decide +kernel
      rw [e, h2, h3]
      omega
    · cases hz
  | n, .int i, h, z, hz => by
    have hi : (decide (0 - mostV ≤ i) && decide (i ≤ mostV)) = true := by cases n <;> exact h
    have hz : z ∈ [(toString i : Str)] := hz
    rcases List.mem_cons.mp hz with e | hz
    · rw [e]
      exact int_len hi
    · cases hz
  | n, .bool b, h, z, hz => by
    have hz : z ∈ ([] : List Str) := hz
    cases hz
  | n, .list b, h, z, hz => by
    have hz : z ∈ ([] : List Str) := hz
    cases hz
  | n, .dict b, h, z, hz => by
    have hz : z ∈ ([] : List Str) := hz
    cases hz
theorem wordsL_short : ∀ (n : Nat) (ds : List PyData), ds.all (toldAt n) = true → ∀ z ∈ wordsL ds, z.length ≤ 20
  | n, [], _, z, hz => by
    have hz : z ∈ ([] : List Str) := hz
    cases hz
  | n, d :: ds, h, z, hz => by
    obtain ⟨h1, h2⟩ := Bool.and_eq_true_iff.mp h
    rcases List.mem_append.mp (show z ∈ wordsD d ++ wordsL ds from hz) with hz | hz
    · exact words_short n d h1 z hz
    · exact wordsL_short n ds h2 z hz
end
theorem sum_short : ∀ (l : List Str), (∀ z ∈ l, z.length ≤ 20) → (l.map (·.length)).sum ≤ 20 * l.length
  | [], _ => Nat.le_refl _
  | z :: l, h => by
    have h1 := h z List.mem_cons_self
    have h2 := sum_short l fun y hy => h y (List.mem_cons_of_mem _ hy)
    simp only [List.map_cons, List.sum_cons, List.length_cons]
    omega
def spPWords (A : Adr) (K : Fr) : Sp := fun vs H Q _ => ∃ x C w ds, vs = [.ref x] ∧ KOk K C ∧ PapI K H x C w ds ∧ ds.all (toldAt 10) = true ∧ szL ds ≤ 40000 ∧ ∀ p H', H p = none → Ex H H' → H' p = some (.lst ((w :: wordsL ds).map V.str)) → Q (.ref p) H'
/-- paper_text: a text, or what is no paper that can be told is refused -/
def spPText (A : Adr) (K : Fr) : Sp := fun vs H Q E => ∃ v, vs = [v] ∧ ((∃ b1 b2, PT K A H v false b1 b2 ∧ BadV A H E (.str "paper")) ∨ ∃ x C w ds b1 b2, v = .ref x ∧ KOk K C ∧ PapI K H x C w ds ∧ PT K A H v true b1 b2 ∧ szL ds ≤ 40000 ∧ w.length ≤ 20 ∧ (((b1 || b2) && ds.all (toldAt 10)) = true → Gives (.str (Txt.join " " (w :: wordsL ds))) H Q) ∧ (((b1 || b2) && ds.all (toldAt 10)) = false → BadV A H E (.str "paper")))
section
variable {P : Program} {w : World} {K : Fr} {mg : Str → Option Value} {base : Heap} {A : Adr}
theorem ok_BV {fI : Addr} {fs : List Str} (O : Obx K mg "BadValue" A.bv fI fs) (hl : ("part" : Str) ∈ fs) (D : DfA K d_BadValue_init fI) : Exi P w K mg base 1 "BadValue" A.bv (spBV A) := by
  have key : ∃ fd, FnOk P w K mg base CX0 1 fI fd ["self", "part"] (spBV A) ∧ Binds K fd ["self", "part"] [] := by
    refine D.ok sc_BadValue_init (fun vs H Q E h => ?_) (fun _ _ _ _ _ _ us hl => match us, hl with | [_, _], _ => rfl) fun cdv Ar outer s H vs Q E hr h => ?_
    · obtain ⟨a, v, rfl, _⟩ := h
      rfl
    obtain ⟨a, v, rfl, ha, k⟩ := h
    refine b_one (s_ost1 O.ox (O.no _ hl) (ev_name 1 rfl) (ev_name 0 rfl) ha fun dx H1 e1 hn hne => ?_)
    refine k dx _ (fresh_back e1 hn) hne (fun b o hb ho => ?_) upd_same (by rw [upd_ne hne]; exact upd_same)
    have hbd : b ≠ dx := fun z => by
      rw [z, fresh_back e1 hn] at ho
      cases ho
    rw [upd_ne hb, upd_ne hbd]
    exact e1 _ _ ho
  obtain ⟨fd, F, b⟩ := key
  exact ⟨fI, fs, fd, _, O, F, b⟩
/-- raise BadValue(e) -/
theorem s_badv {X : Cx} {W : WX} {j : Nat} {e1 : Expr} {pos p rpos : Pos} {σ : Sg} {H : Hp} {D : Ends} {v : V} (M : Exi X.prog X.w X.K X.mg X.base 1 "BadValue" A.bv (spBV A)) (hr : Room j X.A) (hk : 2 ≤ j) (tk : Takes X W) (h1 : EV X e1 σ H v) (k : ∀ d H', H d = none → Ex H H' → H' d = some (bvD v) → W (.ref A.bv) (some d) σ H')
    (hc : X.calm = true := by rfl) (hg : Gl X ("BadValue" : Str) := by rfl) (s1 : starEach [e1] X.env = (false, eval e1 X.env) :: starEach [] X.env := by rfl) (hpl : (backTo pos (starEach [] X.env)).any (·.1) = false := by rfl) :
    sX X (.Raise (some (.Call (.Name "BadValue" p) [e1] [] pos)) none rpos) D σ H := by
  refine s_raise M hr hk tk (a_cons (eX_ev h1 fun H1 e1 => a_nil ⟨by show 1 ≤ 1000; decide, fun a hn => ?_⟩) s1) hc hg (by decide) s1 hpl
  refine ⟨a, v, rfl, upd_same, fun d H' hd hda kp ha' hd' => ⟨rfl, d, _, ha', hd', ?_, ?_⟩⟩
  · rw [upd_ne hda] at hd
    exact hd
  · rw [upd_ne hda] at hd
    refine k d _ (fresh_back e1 hd) (fun b o hb => ?_) upd_same
    have h0 := e1 _ _ hb
    have hba : b ≠ a := fun z => by rw [z, hn] at h0; cases h0
    have hbd : b ≠ d := fun z => by rw [z, hd] at h0; cases h0
    rw [upd_ne hbd, del_ne hba]
    exact kp b o hba (by rw [upd_ne hba]; exact h0)
theorem ok_paper_words (T : Txt K mg) (cw : Cl P w K mg base CX0 11 "words_of" (spWords 10 K)) (D : Df K mg d_paper_words) : Cl P w K mg base CX0 12 "paper_words" (spPWords A K) := by
  refine D.cl sc_paper_words (fun vs H Q E h => ?_) (fun _ _ _ _ _ _ us hl => match us, hl with | [_], _ => rfl) fun f cdv Ar outer s H vs Q E hr h => ⟨_, pb_X, ?_⟩
  · obtain ⟨x, C, w, ds, rfl, _⟩ := h
    rfl
  obtain ⟨x, C, z, ds, rfl, KO, I, ht, hz, k⟩ := h
  obtain ⟨dx, fs, q, ws, hx, hw, hp, hq, hall, hfl, hno⟩ := I.ob
  have hwl := wordsL_len ds
  refine b_one (s_retX (e_lst (a_cons (eX_ev (ev_fld (ev_name 0 rfl) hx KO.cl (KO.no _ (by decide +kernel)) hw) fun H2 e2 => a_star (eX_evl (xs := (ds.map fun d => (wordsD d).map V.str).flatten) ?_ fun r H3 hr3 e3 h3 => ⟨r, _, rfl, .inr (sq_of h3), a_nil ?_⟩)))))
  · refine evl_lc2 (i := 1) (j := 2) (ds.map fun d => (wordsD d).map V.str) (by rw [List.length_map, hall.len]) (by decide) (its_t (ev_fld (ev_name 0 rfl) (e2 _ _ hx) KO.cl (KO.no _ (by decide +kernel)) hp) (ex_t (hide_ex.trans e2) hq)) sc_paper_words.nd (blkOk_by (N := ["paper", "part", "word"]) (sc := defScope s_paper_words) (by decide +kernel)) (fun _ _ _ _ _ => pg_name sc_paper_words.nd rfl (Or.inl rfl)) (fun _ _ _ _ _ => pg_name sc_paper_words.nd rfl (Or.inl rfl)) (fun _ _ _ _ _ => pv 2) ?_ (by show 2 < 3; decide) fun j x zs hj hj2 H5 e5 s5 H0 C cl fp => ?_
    · rw [wordsL_flat, List.length_map]
      omega
    · obtain ⟨dj, hdj, huj⟩ := hall.at hj
      rw [List.getElem?_map, hdj] at hj2
      have e6 : zs = (wordsD dj).map V.str := (Option.some.inj hj2).symm
      subst e6
      intro H6 e6 Q6 k6
      refine eX_of (pe_cl (E := E0) cw hr (by decide) pass0 rfl (pa_cons pe_X pa_nil)) (eX_ev (ev_name 1 rfl) fun H7 e7 => ?_)
      have hm := List.mem_of_getElem? hdj
      exact ⟨x, dj, rfl, huj.ext (hide_ex.trans (e2.trans ((e5.trans e6).trans e7))), List.all_eq_true.mp ht dj hm, by have := szD_mem hm; omega, fun p H8 hp e8 h8 => k6 p H8 (fresh_back e7 hp) (e7.trans e8) h8⟩
  · rw [wordsL_flat]
    refine ⟨?_, fun p hp => k p _ (fresh_back (e2.trans e3) hp) ((e2.trans e3).trans (Ex.new hp)) ?_⟩
    · rw [List.append_nil, List.length_cons, List.length_map]
      exact sz_of (by omega)
    · rw [upd_same, List.append_nil]
      rfl
theorem ok_paper_text (T : Txt K mg) (B : Exi P w K mg base 1 "BadValue" A.bv (spBV A)) (ci : Cl P w K mg base CX0 5 "is_told_paper" (spIsTold A K)) (cw : Cl P w K mg base CX0 12 "paper_words" (spPWords A K)) (D : Df K mg d_paper_text) : ClK P w K mg base (L2.CX P w) 13 "paper_text" "paper" (spPText A K) := by
  refine D.clK sc_paper_text (fun vs H Q E h => ?_) (fun _ _ _ _ _ _ _ => rfl) (fun _ _ _ _ _ _ _ => rfl) fun f cdv Ar outer s H vs Q E hr h => ⟨_, pb_X, ?_⟩
  · obtain ⟨v, rfl, _⟩ := h
    rfl
  obtain ⟨v, rfl, h⟩ := h
  have tk := takes_of (X := cxOf (L2.CX P w) P w K mg base ["paper"] d_paper_text.qual d_paper_text.scope f cdv Ar outer s H E) (E := E) rfl rfl rfl rfl
  rcases h with ⟨b1, b2, hv, k⟩ | ⟨x, C, z, ds, b1, b2, rfl, KO, I, hv, hz, hwz, k1, k2⟩
  · refine b_cons (s_if (k := true) (et_not (k := false) (et_val (ev_call ci hr (by decide) pass0 (ea_cons (ev_name 0 rfl) ea_nil) fun H1 e1 Q q => ⟨v, rfl, .inl ⟨b1, b2, hv.ext e1, q⟩⟩))) (fun _ H1 e1 => ?_) fun z => (nomatch z))
    exact b_one (s_badv B hr (by decide) tk ev_str fun d H' hn e hd => k d H' (fresh_back e1 hn) (e1.trans e) hd)
  · refine b_cons (s_if (k := !((b1 || b2) && ds.all (toldAt 10))) (et_not (et_val (ev_call ci hr (by decide) pass0 (ea_cons (ev_name 0 rfl) ea_nil) fun H1 e1 Q q => ⟨_, rfl, .inr ⟨x, C, z, ds, b1, b2, rfl, KO, I.ext e1, hv.ext e1, by omega, q⟩⟩))) (fun hb H1 e1 => ?_) fun hb H1 e1 => b_nil ?_)
    · have e : ((b1 || b2) && ds.all (toldAt 10)) = false := by
        cases q : ((b1 || b2) && ds.all (toldAt 10)) with
        | false => rfl
        | true => rw [q] at hb; cases hb
      exact b_one (s_badv B hr (by decide) tk ev_str fun d H' hn e' hd => k2 e d H' (fresh_back e1 hn) (e1.trans e') hd)
    · have e : ((b1 || b2) && ds.all (toldAt 10)) = true := by
        cases q : ((b1 || b2) && ds.all (toldAt 10)) with
        | true => rfl
        | false => rw [q] at hb; cases hb
      have ht := (Bool.and_eq_true_iff.mp e).2
      have hwl := wordsL_len ds
      refine b_one (s_retX (eX_of (pe_join pe_str pe_X) ⟨⟨_, rfl⟩, eX_of (pe_cl (E := E) cw hr (by decide) pass0 rfl (pa_cons pe_X pa_nil)) (eX_ev (ev_name 0 rfl) fun H2 e2 => ⟨x, C, z, ds, rfl, KO, I.ext (e1.trans e2), ht, hz, fun p H3 hp e3 h3 => ⟨_, p, z :: wordsL ds, rfl, rfl, .inl (sq_of h3), ?_, k1 e H3 ((e1.trans e2).trans e3)⟩⟩)⟩))
      have h1 := sum_short (z :: wordsL ds) fun y hy => (List.mem_cons.mp hy).elim (fun e => by rw [e]; exact hwz) (wordsL_short 10 ds ht y)
      have h2 : (z :: wordsL ds).length = (wordsL ds).length + 1 := rfl
      have h3 : (" " : Str).length = 1 := by decide +kernel
      rw [h3]
      omega
end
end K96

set_option Elab.async false
set_option linter.all false
set_option maxRecDepth 100000
set_option maxHeartbeats 4000000
/-! A comprehension over zip of two tuples. is_ascending, is_stamp, is_lot_form. -/
namespace K96
open PySem PySem.Spec PyProof.Rows L2 Evl RZ
theorem walk_zipT {K : Fr} {a b : Addr} {xs ys : List V} {n : Nat} (hn : n = min xs.length ys.length) : Walk (ItzT K a b) n (fun H => SqT K H a xs ∧ SqT K H b ys) (YPair (fun i => xs[i]?) (fun i => ys[i]?)) := by
  subst hn
  refine ⟨fun i _ hi q => ?_, fun _ q => ⟨xs, ys, q.1, q.2, by omega⟩, fun i H v H' _ q y => ?_⟩
  · have h1 : i < xs.length := by omega
    have h2 : i < ys.length := by omega
    exact ⟨xs, ys, xs[i], ys[i], q.1, q.2, by simp [h1], by simp [h2]⟩
  · obtain ⟨T, x, z, h1, h2, h3, h4, h5⟩ := y
    exact ⟨T, x, z, h1, h2, h3, h4 xs q.1, h5 ys q.2⟩
section
variable {X : Cx} {elt e1 e2 : Expr} {n1 n2 : Str} {p1 p2 p3 pz pos zpos : Pos} {scope : Scope} {σ : Sg} {H : Hp} {i j kk : Nat}
/-- [elt for n1, n2 in zip(e1, e2)] over two tuples, the elements by their places -/
theorem evl_lcZ {xs ys zs : List V} (hz : zs.length = min xs.length ys.length) (hm : X.mg "zip" = none) (ha : ∀ H1, Ex H H1 → ∀ R : List V → Hp → Prop, (∀ a b H2, Ex H1 H2 → SqT X.K H2 a xs → SqT X.K H2 b ys → R [.ref a, .ref b] H2) → aX X [e1, e2] σ H1 R) (hij : i ≠ j) (hj : j < σ.length)
    (hN : X.N.Nodup) (ok : BlkOk X.N X.env.scope scope [(n1, i), (n2, j)])
    (hg : ∀ (s : Shared) (H : Hp) (C : Addr) (cl : List (Str × Addr)) (fp : List Addr), PG (blkX X scope s H C cl fp) (.Tuple [.Name n1 p1, .Name n2 p2] kk p3) (gTup X.K 2 (gCons (gName i) (gCons (gName j) gNil)))) (hl : xs.length < 1000000)
    (he : ∀ (k : Nat) x y z H1, xs[k]? = some x → ys[k]? = some y → zs[k]? = some z → Ex H H1 → ∀ (s : Shared) (H0 : Hp) (C : Addr) (cl : List (Str × Addr)) (fp : List Addr), EV (blkX X scope s H0 C cl fp) elt ((σ.set i (some x)).set j (some y)) H1 z)
    (hc : X.calm = true := by rfl) (hgz : Gl X ("zip" : Str) := by rfl) (hs : ∀ x, foldedSetIterable (.Call (.Name "zip" pz) [e1, e2] [] zpos) X.env x = pure x := by intro _; rfl) (h1 : starEach [e1, e2] X.env = (false, eval e1 X.env) :: starEach [e2] X.env := by rfl) (h2 : (backTo zpos (starEach [e2] X.env)).any (·.1) = false := by rfl) :
    EVL X (.ListComp elt [⟨.Tuple [.Name n1 p1, .Name n2 p2] kk p3, .Call (.Name "zip" pz) [e1, e2] [] zpos, [], 0⟩] scope pos) σ H zs := by
  intro H1 E1 Q q
  refine eX_of (pe_lc (own := [(n1, i), (n2, j)]) (tt := tYes) (te := eB X scope elt) (g := gTup X.K 2 (gCons (gName i) (gCons (gName j) gNil))) hc hN (pi_zipA hgz hm pa_X h1 h2) ok hg (fun _ _ _ _ _ => pts_nil) (fun s H C cl fp => ⟨fun pins s1 σ1 H2 Q1 I h => h s H C cl fp pins s1 I⟩) hs) ?_
  refine (show aX X [e1, e2] σ H1 _ from ha H1 E1 _ fun a b H2 E2 sa sb => ⟨a, b, xs, ys, rfl, .inr ⟨sa, sb, fun Dl hD => ?_⟩⟩)
  have hw2 : ∀ x y : V, ((wipe σ [i, j]).set i (some x)).set j (some y) = (σ.set i (some x)).set j (some y) := fun x y => by
    show ((((σ.set j none).set i none).set i (some x)).set j (some y)) = _
    rw [List.set_set, List.set_comm _ _ hij.symm, List.set_set]
  have hw : ∀ x y : V, wipe (((wipe σ [i, j]).set i (some x)).set j (some y)) [i, j] = wipe σ [i, j] := fun x y => by
    rw [hw2]
    show (((σ.set i (some x)).set j (some y)).set j none).set i none = (σ.set j none).set i none
    rw [List.set_set, List.set_comm _ _ hij, List.set_set]
  refine lc_it (walk_zipT (n := zs.length) hz) (fun k H' => H2 Dl = none ∧ Ex H2 H' ∧ H' Dl = some (.lst (zs.take k)) ∧ k ≤ zs.length) ⟨hD, Ex.new hD, upd_same, Nat.zero_le _⟩ (fun k H' hk p => ⟨ex_t p.2.1 sa, ex_t p.2.1 sb⟩) (fun k v H3 H4 hk p y => ?_) fun H' p => ?_
  · obtain ⟨T, x, y', rfl, hT, rfl, hx, hy⟩ := y
    obtain ⟨q1, q2, q3, q4⟩ := p
    have e3 := q2.trans (Ex.new (o := .tup [x, y']) hT)
    have hTD : Dl ≠ T := fun z => by rw [z, hT] at q3; cases q3
    refine ⟨T, [x, y'], rfl, st_of upd_same, rfl, x, [y'], rfl, y', [], rfl, rfl, ?_⟩
    show wipe (((wipe σ [i, j]).set i (some x)).set j (some y')) [i, j] = wipe σ [i, j] ∧ tYes (((wipe σ [i, j]).set i (some x)).set j (some y')) _ _
    refine ⟨hw x y', ?_⟩
    unfold tYes
    refine iteT ?_
    show eB X scope elt (((wipe σ [i, j]).set i (some x)).set j (some y')) _ _
    rw [hw2]
    intro s1 H0 C cl fp
    obtain ⟨z, hz1⟩ : ∃ z, zs[k]? = some z := ⟨_, List.getElem?_eq_getElem hk⟩
    refine he k x y' z _ hx hy hz1 (E1.trans (E2.trans e3)) s1 H0 C cl fp _ (Ex.refl _) _ fun H5 e5 => ⟨zs.take k, e5 _ _ (by rw [upd_ne hTD]; exact q3), ?_, q1, Ex.mut (e3.trans e5) q1, ?_, hk⟩
    · rw [List.length_take]
      have : zs.length ≤ xs.length := by omega
      exact Nat.lt_of_lt_of_le (by omega : _ < 1000000) (by decide)
    · have ht : zs.take (k + 1) = zs.take k ++ [z] := by
        rw [List.take_succ, hz1]
        rfl
      rw [ht]
      exact upd_same
  · obtain ⟨q1, q2, q3, q4⟩ := p
    rw [List.take_length] at q3
    exact q Dl H' (fresh_back E2 q1) (E2.trans q2) q3
end
end K96

set_option Elab.async false
set_option linter.all false
set_option maxRecDepth 100000
set_option maxHeartbeats 4000000
/-! is_ascending, is_stamp, is_lot_form. -/
namespace K96
open PySem PySem.Spec PyProof.Rows L2 Evl RZ
/-- each below the next one -/
def ascL : List Int → List Bool
  | a :: b :: r => decide (a < b) :: ascL (b :: r)
  | _ => []
theorem ascL_len : ∀ ns : List Int, (ascL ns).length = min ns.length (ns.drop 1).length
  | [] => rfl
  | [a] => rfl
  | a :: b :: r => by
    have h := ascL_len (b :: r)
    simp only [List.length_cons, List.drop_succ_cons, List.drop_zero] at h ⊢
    show (ascL (b :: r)).length + 1 = _
    rw [h]
    omega
theorem ascL_at : ∀ (ns : List Int) (k : Nat) (a b : Int), ns[k]? = some a → (ns.drop 1)[k]? = some b → (ascL ns)[k]? = some (decide (a < b))
  | [], k, a, b, h, _ => by simp at h
  | [x], k, a, b, _, h => by simp at h
  | x :: y :: r, 0, a, b, h1, h2 => by
    simp at h1 h2
    subst h1 h2
    rfl
  | x :: y :: r, k + 1, a, b, h1, h2 => by
    have h1 : (y :: r)[k]? = some a := by simpa using h1
    have h2 : ((y :: r).drop 1)[k]? = some b := by simpa using h2
    exact ascL_at (y :: r) k a b h1 h2
def spAsc (K : Fr) : Sp := fun vs H Q _ => ∃ (a : Addr) (ns : List Int), vs = [.ref a] ∧ SqT K H a (ns.map V.int) ∧ ns.length < 100000 ∧ Gives (.bl ((ascL ns).all id)) H Q
theorem cut1 (xs : List V) : cutV xs (some 1) none = xs.drop 1 := by
  show (xs.drop (HT.sIx xs.length 0 (some (1 : Nat)))).take (xs.length - HT.sIx xs.length 0 (some (1 : Nat))) = _
  rw [HT.sIx_nat]
  cases xs with
  | nil => rfl
  | cons x r =>
    have h : min 1 (x :: r).length = 1 := by simp
    rw [h]
    show r.take ((x :: r).length - 1) = r
    exact List.take_length
def intsD : List PyData → Option (List Int)
  | [] => some []
  | .int i :: r => (intsD r).map (i :: ·)
  | _ :: _ => none
theorem UrAll.ints {K : Fr} {H : Hp} : ∀ {vs : List V} {ds : List PyData} {ns : List Int}, UrAll K H vs ds → intsD ds = some ns → vs = ns.map V.int ∧ ns.length = ds.length
  | _, _, ns, .nil, h => by
    cases h
    exact ⟨rfl, rfl⟩
  | _, _, ns, .cons u r, h => by
    cases u with
    | int i =>
      obtain ⟨ms, h1, h2⟩ := Option.map_eq_some_iff.mp (show (intsD _).map (i :: ·) = some ns from h)
      subst h2
      obtain ⟨e1, e2⟩ := r.ints h1
      exact ⟨by rw [e1]; rfl, congrArg (· + 1) e2⟩
    | _ => cases h
/-- is it a row of ascending integers -/
def lotD : PyData → Bool
  | .tuple xs => match intsD xs with
    | some ns => (ascL ns).all id
    | none => false
  | _ => false
def nameD : PyData → Bool
  | .str s => isName s
  | _ => false
theorem Ur.name {K : Fr} {H : Hp} {v : V} {d : PyData} (h : Ur K H v d) : isNameV v = nameD d := by
  cases h <;> rfl
def oneUp : PyData → Bool
  | .int i => decide (1 ≤ i)
  | _ => false
def stampD : PyData → Bool
  | .tuple [a, b] => oneUp a && nameD b
  | _ => false
theorem all_int : ∀ ds : List PyData, (ds.map fun d => tagD d == "int").all id = (intsD ds).isSome
  | [] => rfl
  | d :: ds => by
    have h := all_int ds
    cases d with
    | int i =>
      show (("int" == "int") && (ds.map fun d => tagD d == "int").all id) = ((intsD ds).map (i :: ·)).isSome
      rw [h]
      cases intsD ds <;> rfl
    | dict x =>
      cases x with
      | nil => show (("dict" == "int") && _) = false; rfl
      | cons a b => show (("obj" == "int") && _) = false; rfl
    | none => show (("NoneType" == "int") && _) = false; rfl
    | bool b => show (("bool" == "int") && _) = false; rfl
    | str s => show (("str" == "int") && _) = false; rfl
    | list x => show (("list" == "int") && _) = false; rfl
    | tuple x => show (("tuple" == "int") && _) = false; rfl
section
variable {P : Program} {w : World} {K : Fr} {mg : Str → Option Value} {base : Heap}
theorem ok_is_ascending (T : Txt K mg) (D : Df K mg d_is_ascending) : Cl P w K mg base CX0 1 "is_ascending" (spAsc K) := by
  refine D.cl sc_is_ascending (fun vs H Q E h => ?_) (fun _ _ _ _ _ _ us hl => match us, hl with | [_], _ => rfl) fun f cdv A outer s H vs Q E hr h => ⟨_, pb_X, ?_⟩
  · obtain ⟨a, ns, rfl, _⟩ := h
    rfl
  obtain ⟨a, ns, rfl, ha, hn, k⟩ := h
  refine b_one (s_ret (ev_all (ys := ascL ns) (T.f "all") (evl_lcZ (i := 1) (j := 2) (xs := ns.map V.int) (ys := (ns.drop 1).map V.int) (by rw [List.length_map, List.length_map, List.length_map]; exact ascL_len ns) (T.f "zip") (fun H1 e1 R q => ?_) (by decide) (by show 2 < 3; decide) sc_is_ascending.nd (blkOk_by (N := ["values", "one", "other"]) (sc := defScope s_is_ascending) (by decide +kernel))
    (fun _ _ _ _ _ => pg_tup rfl (pgs_cons (pg_name sc_is_ascending.nd rfl (Or.inl rfl)) (pgs_cons (pg_name sc_is_ascending.nd rfl (Or.inl rfl)) pgs_nil))) (by rw [List.length_map]; omega) fun j x y z H2 hx hy hz e2 s2 H0 C cl fp => ?_)) k)
  · refine a_cons (eX_ev (ev_name 0 rfl) fun H2 e2 => a_cons (eX_of (pe_slice L2.sl_tupA pe_X (po_some pe_int) po_none) (eX_ev (ev_name 0 rfl) fun H3 e3 => ?_)))
    have E3 := (e1.trans e2).trans e3
    have ha3 := ex_t E3 ha
    have hc : cutV (ns.map V.int) (some 1) none = (ns.drop 1).map V.int := by rw [cut1, List.map_drop]
    refine ⟨1, rfl, a, _, rfl, ha3, fun hw => a_nil ?_, fun hw p hp => a_nil ?_⟩
    · refine q a a _ (e2.trans e3) ha3 ?_
      have h0 : (ns.map V.int).length = 0 := by
        have h1 := hw.1
        have h2 : HT.sIx (ns.map V.int).length 0 (some (1 : Nat)) = 0 := h1
        rw [HT.sIx_nat] at h2
        omega
      have h1 : ns = [] := List.eq_nil_of_length_eq_zero (by rw [List.length_map] at h0; exact h0)
      subst h1
      exact ha3
    · refine q a p _ ((e2.trans e3).trans (Ex.new hp)) (ex_t (Ex.new hp) ha3) ?_
      rw [← hc]
      exact st_of upd_same
  · rw [List.getElem?_map] at hx hy hz
    obtain ⟨i, hi, rfl⟩ := Option.map_eq_some_iff.mp hx
    obtain ⟨j', hj, rfl⟩ := Option.map_eq_some_iff.mp hy
    have := ascL_at ns j i j' hi hj
    rw [this] at hz
    cases hz
    exact ev_cmp op_lt (ev_name 1 rfl) (ev_name 2 rfl) rv_I0
theorem UrAll.two {H : Hp} {xs : List V} {a b : PyData} (h : UrAll K H xs [a, b]) : ∃ x y, xs = [x, y] ∧ Ur K H x a ∧ Ur K H y b := by
  cases h with
  | cons h1 h2 =>
    cases h2 with
    | cons h3 h4 =>
      cases h4
      exact ⟨_, _, rfl, h1, h3⟩
theorem ok_is_stamp (T : Txt K mg) (ci : Cl P w K mg base CX0 1 "is_integer" (spIsInteger K)) (cn : Cl P w K mg base CX0 1 "is_name" (spVal isNameV K)) (D : Df K mg d_is_stamp) : Cl P w K mg base CX0 2 "is_stamp" (spData stampD K) := by
  refine D.cl sc_is_stamp (fun vs H Q E h => ?_) (fun _ _ _ _ _ _ us hl => match us, hl with | [_], _ => rfl) fun f cdv A outer s H vs Q E hr h => ⟨_, pb_X, ?_⟩
  · obtain ⟨v, d, rfl, _⟩ := h
    rfl
  obtain ⟨v, d, rfl, hu, hz, k⟩ := h
  have hns : isTupD d = false → stampD d = false := fun h => by
    cases d with
    | tuple x => cases h
    | _ => rfl
  by_cases ht : isTupD d = true
  · obtain ⟨a, xs, ds, rfl, hx, hall, rfl⟩ : ∃ a xs ds, v = .ref a ∧ SqT K H a xs ∧ UrAll K H xs ds ∧ d = .tuple ds := by
      cases hu with
      | tup h ua => exact ⟨_, _, _, rfl, h, ua, rfl⟩
      | _ => cases ht
    have hl := hall.len
    refine b_cons (s_if (k := !decide (V.int (xs.length : Int) = V.int 2)) (et_w (ew_or (k := false) (l := !decide (V.int (xs.length : Int) = V.int 2)) (et_not (k := true) (et_is (et_val (ev_isi (m := "tuple") (T.f "isinstance") (T.f "tuple") (ev_name 0 rfl) hu.vt (by decide))) (by rw [tupK]; rfl))) fun _ => ew_or1 (et_cmp op_ne (ev_lenL (T.f "len") (ev_name 0 rfl) (.inr hx)) ev_int (rv_ne rfl)))) (fun hb H1 e1 => ?_) fun hb H1 e1 => b_nil ?_)
    · have e : stampD (.tuple ds) = false := by
        have hb : ¬ V.int (xs.length : Int) = V.int 2 := fun e => by rw [decide_eq_true e] at hb; cases hb
        match ds, hl with
        | [], _ => rfl
        | [x], _ => rfl
        | [x, y], hl => exact absurd (by rw [hl]; rfl) hb
        | _ :: _ :: _ :: _, _ => rfl
      rw [e] at k
      exact b_one (s_ret ev_bl fun H2 e2 => k H2 (e1.trans e2))
    · have h2 : ds.length = 2 := by
        have hb : V.int (xs.length : Int) = V.int 2 := by
          by_cases q : V.int (xs.length : Int) = V.int 2
          · exact q
          · rw [decide_eq_false q] at hb
            cases hb
        have := V.int.inj hb
        omega
      match ds, h2 with
      | [da, db], _ =>
        obtain ⟨x, y, rfl, ua, ub⟩ := hall.two
        have hx1 := ex_t e1 hx
        by_cases hi : tagD da = "int"
        · obtain ⟨i, rfl, rfl⟩ : ∃ i, x = .int i ∧ da = .int i := by
            cases ua with
            | int i => exact ⟨i, rfl, rfl⟩
            | lst _ _ => exact absurd hi (by show ¬ "list" = "int"; decide)
            | tup _ _ => exact absurd hi (by show ¬ "tuple" = "int"; decide)
            | emp _ => exact absurd hi (by show ¬ "dict" = "int"; decide)
            | obj _ _ _ => exact absurd hi (by show ¬ "obj" = "int"; decide)
            | non => exact absurd hi (by show ¬ "NoneType" = "int"; decide)
            | bl _ => exact absurd hi (by show ¬ "bool" = "int"; decide)
            | str _ _ => exact absurd hi (by show ¬ "str" = "int"; decide)
          have e : stampD (.tuple [.int i, db]) = (true && (decide (i ≥ 1) && isNameV y)) := by
            show (decide (1 ≤ i) && nameD db) = _
            rw [Bool.true_and, ub.name]
          rw [e] at k
          refine b_one (s_ret (ev_and (k := true) (ev_call ci hr (by decide) pass0 (ea_cons (ev_ixT (v := .int i) (ev_name 0 rfl) ev_int hx1 rfl) ea_nil) fun H2 e2 Q q => ⟨.int i, "int", rfl, VT.i i, q⟩) fun _ => ev_and (ev_cmp op_ge (ev_ixT (v := .int i) (ev_name 0 rfl) ev_int hx1 rfl) ev_int rv_I0) fun _ => ev_one (ev_call cn hr (by decide) pass0 (ea_cons (ev_ixT (v := y) (ev_name 0 rfl) ev_int hx1 rfl) ea_nil) fun H2 e2 Q q => ⟨y, _, rfl, (ub.ext (e1.trans e2)).vt, q⟩)) fun H2 e2 => k H2 (e1.trans e2))
        · have hb : (tagD da == "int") = false := by simpa using hi
          have e : stampD (.tuple [da, db]) = (false && false) := by
            cases da with
            | int i => exact absurd rfl hi
            | _ => rfl
          rw [e] at k
          refine b_one (s_ret (ev_and (k := false) (l := false) (ev_call ci hr (by decide) pass0 (ea_cons (ev_ixT (v := x) (ev_name 0 rfl) ev_int hx1 rfl) ea_nil) fun H2 e2 Q q => ⟨x, _, rfl, (ua.ext (e1.trans e2)).vt, by rw [hb]; exact q⟩) fun z => (nomatch z)) fun H2 e2 => k H2 (e1.trans e2))
  · have ht : isTupD d = false := by simpa using ht
    rw [hns ht] at k
    refine b_cons (s_if (k := true) (et_w (ew_or (k := true) (l := false) (et_not (k := false) (et_is (et_val (ev_isi (m := "tuple") (T.f "isinstance") (T.f "tuple") (ev_name 0 rfl) hu.vt (by decide))) (by rw [tupK]; exact ht))) fun z => (nomatch z))) (fun _ H1 e1 => ?_) fun z => (nomatch z))
    exact b_one (s_ret ev_bl fun H2 e2 => k H2 (e1.trans e2))
theorem ok_is_lot_form (T : Txt K mg) (ci : Cl P w K mg base CX0 1 "is_integer" (spIsInteger K)) (ca : Cl P w K mg base CX0 1 "is_ascending" (spAsc K)) (D : Df K mg d_is_lot_form) : Cl P w K mg base CX0 2 "is_lot_form" (spData lotD K) := by
  refine D.cl sc_is_lot_form (fun vs H Q E h => ?_) (fun _ _ _ _ _ _ us hl => match us, hl with | [_], _ => rfl) fun f cdv A outer s H vs Q E hr h => ⟨_, pb_X, ?_⟩
  · obtain ⟨v, d, rfl, _⟩ := h
    rfl
  obtain ⟨v, d, rfl, hu, hz, k⟩ := h
  by_cases ht : isTupD d = true
  · obtain ⟨a, xs, ds, rfl, hx, hall, rfl⟩ : ∃ a xs ds, v = .ref a ∧ SqT K H a xs ∧ UrAll K H xs ds ∧ d = .tuple ds := by
      cases hu with
      | tup h ua => exact ⟨_, _, _, rfl, h, ua, rfl⟩
      | _ => cases ht
    have hl := hall.len
    have hdl := szL_len ds
    have hzz : 1 + szL ds ≤ 100000 := hz
    have hall1 : ∀ l : Bool, (((intsD ds).isSome = true → EV (cxOf CX0 P w K mg base ["value", "one"] d_is_lot_form.qual d_is_lot_form.scope f cdv A outer s H E) ((fun e => match e with | .Return (some (.BoolOp _ [_, _, c] _)) _ => c | _ => .Constant .none 0 ⟨0, 0, 0, 0⟩) ((defBody s_is_lot_form).getD 0 (.Pass ⟨0, 0, 0, 0⟩))) [some (.ref a), none] H (.bl l)) → lotD (.tuple ds) = ((intsD ds).isSome && l) → bX (cxOf CX0 P w K mg base ["value", "one"] d_is_lot_form.qual d_is_lot_form.scope f cdv A outer s H E) (defBody s_is_lot_form) { nx := fun _ H' => Q .non H', rt := Q } [some (.ref a), none] H) := fun l hc he => by
      rw [he] at k
      refine b_one (s_ret (ev_and (k := true) (ev_is (ev_isi (m := "tuple") (T.f "isinstance") (T.f "tuple") (ev_name 0 rfl) hu.vt (by decide)) (by rw [tupK]; rfl)) fun _ => ev_and (k := (intsD ds).isSome) (ev_is (ev_all (ys := ds.map fun d => tagD d == "int") (T.f "all") (evl_lcP (xs := xs) (i := 1) (by rw [List.length_map, List.length_map]; exact hl.symm) (its_t (ev_name 0 rfl) hx) sc_is_lot_form.nd (blkOk_by (N := ["value", "one"]) (sc := defScope s_is_lot_form) (by decide +kernel)) (fun _ _ _ _ _ => pg_name sc_is_lot_form.nd rfl (Or.inl rfl)) (by omega) fun j x y H2 hxj hy e2 s2 H0 C cl fp => ?_)) (by rw [all_int])) fun hs => ev_one (hc hs)) k)
      obtain ⟨dj, hdj, huj⟩ := hall.at hxj
      rw [List.getElem?_map, List.getElem?_map, hdj] at hy
      cases hy
      exact ev_call ci hr (by decide) pass0 (ea_cons (ev_name 1 rfl) ea_nil) fun H3 e3 Q q => ⟨x, _, rfl, (huj.ext (e2.trans e3)).vt, q⟩
    cases hin : intsD ds with
    | none => exact hall1 false (fun z => by rw [hin] at z; cases z) (by show (match intsD ds with | some ns => (ascL ns).all id | none => false) = _; rw [hin]; rfl)
    | some ns =>
      obtain ⟨e1, e2⟩ := hall.ints hin
      subst e1
      exact hall1 ((ascL ns).all id) (fun _ => ev_call ca hr (by decide) pass0 (ea_cons (ev_name 0 rfl) ea_nil) fun H3 e3 Q q => ⟨a, ns, rfl, ex_t e3 hx, by omega, q⟩) (by show (match intsD ds with | some ns => (ascL ns).all id | none => false) = _; rw [hin]; rfl)
  · have ht : isTupD d = false := by simpa using ht
    have e : lotD d = (false && false) := by
      cases d with
      | tuple x => cases ht
      | _ => rfl
    rw [e] at k
    exact b_one (s_ret (ev_and (k := false) (l := false) (ev_is (ev_isi (m := "tuple") (T.f "isinstance") (T.f "tuple") (ev_name 0 rfl) hu.vt (by decide)) (by rw [tupK, ht])) fun z => (nomatch z)) k)
end
end K96

set_option Elab.async false
set_option linter.all false
set_option maxRecDepth 100000
set_option maxHeartbeats 4000000
/-! set(t) of a tuple of texts, and how many it has. -/
namespace K96
open PySem PySem.Spec PyProof.Rows L2 Evl RZ
/-- how many a row of texts has, each counted once (the last one first) -/
def cntR : List Str → Nat
  | [] => 0
  | x :: l => if decide (x ∈ l) = true then cntR l else cntR l + 1
def many1 (l : List Str) : Nat := cntR l.reverse
theorem cntR_le : ∀ l : List Str, cntR l ≤ l.length
  | [] => Nat.le_refl _
  | x :: l => by
    have := cntR_le l
    show (if decide (x ∈ l) = true then cntR l else cntR l + 1) ≤ l.length + 1
    by_cases q : decide (x ∈ l) = true
    · rw [if_pos q]
      omega
    · rw [if_neg q]
      omega
section
variable {P : Program} {w : World} {A : Around} {E : Value → Shared → Prop} {s : Shared}
theorem setOf_atS {h h' : Heap} {a : Addr} {S : Str → Bool} {n : Nat} (R : h.SetOf (PySem.strKind P w) a S n) (k : ∀ o, h.get? a = some o → h'.get? a = some o) : h'.SetOf (PySem.strKind P w) a S n := by
  obtain ⟨o, es, ep, t, ho, r⟩ := R
  exact ⟨o, es, ep, t, k o ho, r⟩
theorem setOf_newS {h : Heap} {a : Addr} {b : Bool} {ns : List Str} (ho : h.get? a = some { cls := .type "set", dict := none, data := .set #[] 0 (.fresh 0 0 b) }) : h.SetOf (PySem.strKind P w) a (fun j => decide (j ∈ ns.take 0)) 0 :=
  ⟨_, #[], 0, _, ho, ⟨rfl, rfl, rfl⟩, rfl, (fun e he => by simp at he), (fun k => by simp), (by decide), (by rfl), rfl⟩
theorem set_update_strs {I : Addr} {fp wr : List Addr} {G : Array GenState → Array GenState → Prop} {n : Nat} {Pv : Nat → Value → Prop} {St : Nat → Shared → Prop} {R : Result → Shared → Prop}
    (W : WalksS P w A.in1 I fp wr G n Pv St) (S : Addr) (hSf : S ∉ fp) (ns : List Str) (hn : n = ns.length) (hb : ns.length + 1 < scanBound) (hval : ∀ i v, Pv i v → ∃ k t, ns[i]? = some k ∧ v = .str k t) :
    ∀ (k i : Nat) (s : Shared), n - i = k → i ≤ n → St i s → s.heap.SetOf (PySem.strKind P w) S (fun j => decide (j ∈ ns.take i)) (cntR (ns.take i).reverse) →
      (∀ s', Moved (S :: wr) G s s' → s'.heap.SetOf (PySem.strKind P w) S (fun j => decide (j ∈ ns)) (many1 ns) → R (.ok (.ret .none)) s') →
      codeAny (model P w) A (.builtin "set.update.loop" ⟨[.ref S, .ref I], []⟩) R s := by
  have hSw : S ∉ wr := fun h => hSf (W.sub _ h)
  have hsub : ∀ b ∈ wr, b ∈ S :: wr := fun b hb => List.mem_cons_of_mem _ hb
  intro k
  induction k with
  | zero =>
    intro i s hk' hi hst hS hR
    have hin : i = n := by omega
    subst hin
    refine codeAny_builtin F.entry_set_update_loop ?_
    rw [Around.under_plainId F.plain_set_update_loop _]
    show wpAny _ A.in1 (pyNext (.ref I) >>= _) _ _ s
    refine wpAny_bind (W.done s _ _ hst fun s' hm => ?_)
    show wpAny _ A.in1 (ret Value.none) _ _ s'
    have e : ns.take i = ns := List.take_of_length_le (by omega)
    rw [e] at hS
    exact wpAny_pure (hR s' (hm.mono hsub) (setOf_atS hS fun o e => hm.heap S o hSw e))
  | succ k ih =>
    intro i s hk' hi hst hS hR
    have hlt : i < n := by omega
    refine codeAny_builtin F.entry_set_update_loop ?_
    rw [Around.under_plainId F.plain_set_update_loop _]
    show wpAny _ A.in1 (pyNext (.ref I) >>= _) _ _ s
    refine wpAny_bind (W.item i s _ _ hlt hst fun v s' hP hst' hm => ?_)
    obtain ⟨z, t, hz, rfl⟩ := hval i v hP
    have hS' := setOf_atS hS (h' := s'.heap) fun o e => hm.heap S o hSw e
    show wpAny _ A.in1 (holding [Value.str z t] (setAdd S (.str z t)) >>= _) _ _ s'
    refine wpAny_bind (wpAny_holding ?_)
    unfold setAdd
    refine wpAny_holding ?_
    refine wpAny_bind ((PySem.strKind P w).pyHash (k := z) (PySem.strKind_is P w z t) ?_)
    have hcl : cntR (ns.take i).reverse ≤ i := by
      have h1 := cntR_le (ns.take i).reverse
      rw [List.length_reverse, List.length_take] at h1
      omega
    refine wpAny_setAddHashed_of (s := { s' with toks := s'.toks + 1 }) (PySem.strKind_is P w z t) rfl hS' (by omega) fun h' hsb hS2 => ?_
    have htk : ns.take (i + 1) = ns.take i ++ [z] := by
      rw [List.take_add_one, hz]
      rfl
    have hS3 : h'.SetOf (PySem.strKind P w) S (fun j => decide (j ∈ ns.take (i + 1))) (cntR (ns.take (i + 1)).reverse) := by
      have e1 : (fun j => decide (j ∈ ns.take (i + 1))) = (fun k' => decide (k' ∈ ns.take i) || decide (k' = z)) := funext fun j => by
        rw [htk]
        simp [List.mem_append]
      have e2 : cntR (ns.take (i + 1)).reverse = (if decide (z ∈ ns.take i) = true then cntR (ns.take i).reverse else cntR (ns.take i).reverse + 1) := by
        rw [htk, List.reverse_append]
        show (if decide (z ∈ (ns.take i).reverse) = true then _ else _) = _
        have : decide (z ∈ (ns.take i).reverse) = decide (z ∈ ns.take i) := decide_eq_decide.mpr List.mem_reverse
        rw [this]
        rfl
      rw [e1, e2]
      exact hS2
    refine wpAny_pure ⟨plainId_quiet F.plain_set_update_loop _, ih (i + 1) _ (by omega) hlt (W.frame _ s' _ _ hst' (Nat.le_succ _) fun b hb o e => ?_) hS3 fun s'' hm'' hS'' => ?_⟩
    · rw [hsb.2 b (fun h : b = S => hSf (by rw [← h]; exact hb))]; exact e
    · refine hR s'' (Moved.trans W.gtrans ((hm.mono hsub).then_heap (Nat.le_succ _) fun b o hb e => ?_) hm'') hS''
      rw [hsb.2 b (fun h : b = S => hb (by rw [h]; exact List.mem_cons_self))]; exact e
set_option maxHeartbeats 3200000 in
theorem call_set_strs {l : Addr} {items : Array Value} (ns : List Str) {Q : Value → Shared → Prop} (hh : A.handled = none) (hl : s.heap.IsTuple l items) (hit : StrsAre items.toList ns) (hb : ns.length + 1 < scanBound)
    (h : ∀ (h' : Heap) (tk : Nat), h'.SetOf (PySem.strKind P w) s.heap.objs.size (fun j => decide (j ∈ ns)) (many1 ns) → (∀ b o, s.heap.get? b = some o → h'.get? b = some o) → Q (.ref s.heap.objs.size) { s with heap := h', toks := tk }) :
    wpAny (model P w) A (call (.type "set") [.ref l]) Q E s := by
  have hisz : items.size = ns.length := by
    have q := StrsAre.len_eq hit
    rw [Array.length_toList] at q
    exact q
  obtain ⟨c, tl, hmro⟩ := F.called_set.mro
  have hmade := F.called_set.made
  have hsub := F.called_set.sub
  refine wpAny_call (codeAny_of_tree ?_)
  show wpAny _ _ (callAny (.type "set") _) _ _ _
  refine wpAny_pure ⟨Code.quiet_builtin _ (by decide +kernel), codeAny_builtin F.entry_type_call ?_⟩
  rw [Around.under_plain (weight_type_call_type "set" [.ref l] []) rfl]
  have h1 := F.called_set.notType
  have h2 := F.called_set.canCreate
  have hct := F.typeCall_set_1 (.ref l)
  repeat (any_goals (first | assumption | wp_step))
  refine codeAny_mono (code_set_led1 (.ref l) (E := E) (Q₁ := fun obj s₁ => obj = .ref s.heap.objs.size ∧ s₁ = { s with heap := s.heap.push { cls := .type "set", dict := none, data := .set #[] 0 (.fresh 0 0 (!w.params.followText "set-order")) } }) ⟨rfl, rfl⟩) fun r s₁ hr => ?_
  cases r with
  | error e => exact hr
  | ok fl =>
    cases fl with
    | ret obj =>
      obtain ⟨rfl, rfl⟩ := hr
      have hS : (s.heap.push { cls := .type "set", dict := none, data := .set #[] 0 (.fresh 0 0 (!w.params.followText "set-order")) }).get? s.heap.objs.size = some { cls := .type "set", dict := none, data := .set #[] 0 (.fresh 0 0 (!w.params.followText "set-order")) } := Heap.get?_push_size _ rfl
      have hT : Shared.TypeIs { s with heap := s.heap.push { cls := .type "set", dict := none, data := .set #[] 0 (.fresh 0 0 (!w.params.followText "set-order")) } } (.ref s.heap.objs.size) "set" := ⟨_, hS, rfl⟩
      have hli := F.called_set.init.lookup
      have hbi := F.called_set.init.bind (.ref s.heap.objs.size)
      repeat (any_goals (first | assumption | wp_step))
      refine codeAny_mono (codeAny_call_builtin (R := wants (fun r s₂ => r = .none ∧ ∃ h' tk, s₂ = { s with heap := h', toks := tk } ∧ h'.SetOf (PySem.strKind P w) s.heap.objs.size (fun j => decide (j ∈ ns)) (many1 ns) ∧
          (∀ b o, s.heap.get? b = some o → h'.get? b = some o)) E) F.called_set.init.plain F.entry_set_init (check_set_init_1 hT ?_)) fun r₂ s₂ hr₂ => ?_
      · obtain ⟨ol, hol, hcl, nl, hdl⟩ := hl
        obtain ⟨ocls, odict, odata, oslots⟩ := ol
        simp only at hcl hdl
        subst hcl; subst hdl
        have hol' : (s.heap.push { cls := .type "set", dict := none, data := .set #[] 0 (.fresh 0 0 (!w.params.followText "set-order")) }).get? l = some { cls := .type "tuple", dict := odict, data := .seq items nl, slots := oslots } := Heap.get?_push_of_some _ hol
        have hsls := F.sub_tuple_set
        have hslf := F.sub_tuple_frozenset
        have hne : (Value.type "tuple" == Value.type "dict") = false := by decide
        have hl1 : (s.heap.push { cls := .type "set", dict := none, data := .set #[] 0 (.fresh 0 0 (!w.params.followText "set-order")) }).IsTuple l items := ⟨_, hol', rfl, nl, rfl⟩
        unfold Builtin.«set.__init__» noKeywords Builtin.Frozenset.updateFrom
        generalize hPI : pyIter = PI
        wp_walk
        subst hPI
        refine wpAny_pyIter_tuple hl1 ?_
        refine wpAny_bind (wpAny_runValue ?_)
        have hlS : l < s.heap.objs.size := Heap.lt_size hol
        have hh3 : A.in1.in1.in1.handled = none := by simp [hh]
        have hneI : l ≠ (s.heap.push { cls := .type "set", dict := none, data := .set #[] 0 (.fresh 0 0 (!w.params.followText "set-order")) }).objs.size := by
          rw [Heap.size_push]; exact Nat.ne_of_lt (Nat.lt_succ_of_lt hlS)
        have hSf : s.heap.objs.size ∉ [(s.heap.push { cls := .type "set", dict := none, data := .set #[] 0 (.fresh 0 0 (!w.params.followText "set-order")) }).objs.size, l] := by
          rw [Heap.size_push]; simp only [List.mem_cons, List.mem_singleton, List.not_mem_nil, or_false, not_or]
          exact ⟨Nat.ne_of_lt (Nat.lt_succ_self _), Nat.ne_of_gt hlS⟩
        have hval : ∀ (i : Nat) (v : Value), items[i]? = some v → ∃ k t, ns[i]? = some k ∧ v = .str k t := fun i v hv => by
          have hi : i < ns.length := by rw [← hisz]; exact (Array.getElem?_eq_some_iff.mp hv).1
          obtain ⟨t, e⟩ := StrsAre.at hit (List.getElem?_eq_getElem hi)
          rw [Array.getElem?_toList, hv] at e
          exact ⟨ns[i], t, List.getElem?_eq_getElem hi, Option.some.inj e⟩
        refine set_update_strs ((Walks.tuple hh3 _ l hneI items).toS) s.heap.objs.size
          hSf ns hisz hb hval (items.size - 0) 0 _ (by omega) (Nat.zero_le _)
          ⟨⟨_, Heap.get?_push_size _ rfl, rfl, rfl⟩, (hl1.push _)⟩ (setOf_newS (Heap.get?_push_of_some _ hS)) ?hR
        case hR =>
          intro s' hm hS'
          obtain ⟨h', g2, d', tk', os'⟩ := s'
          have eg : g2 = s.gens := hm.gens
          have ed : d' = s.drawn := hm.drawn
          have eo : os' = s.os := hm.os
          subst eg; subst ed; subst eo
          show wpAny _ _ _ _ _ _
          refine wpAny_pure ?_
          show wpAny _ _ (ret Value.none) _ _ _
          refine wpAny_pure ⟨rfl, h', tk', rfl, hS', fun b o e => ?_⟩
          have hb0 : b < s.heap.objs.size := Heap.lt_size e
          have hb1 : b ≠ s.heap.objs.size := Nat.ne_of_lt hb0
          have hb2 : b ≠ (s.heap.push { cls := .type "set", dict := none, data := .set #[] 0 (.fresh 0 0 (!w.params.followText "set-order")) }).objs.size := by
            rw [Heap.size_push]; exact Nat.ne_of_lt (Nat.lt_succ_of_lt hb0)
          exact hm.heap b o (by simp only [List.mem_cons, List.mem_singleton, List.not_mem_nil, or_false, not_or]; exact ⟨hb1, hb2⟩) (Heap.get?_push_of_some _ (Heap.get?_push_of_some _ e))
      · cases r₂ with
        | error e => exact hr₂
        | ok fl₂ =>
          cases fl₂ with
          | ret r =>
            obtain ⟨rfl, h', tk, rfl, hS', hk'⟩ := hr₂
            repeat (any_goals (first | assumption | wp_step))
            exact h _ _ hS' hk'
          | _ => exact hr₂.elim
    | _ => exact hr.elim
end
section
variable {X : Cx} {a : Expr} {ta : TE} {p p2 q pos : Pos} {σ : Sg} {H : Hp}
/-- len(set(t)), t a tuple of texts -/
theorem pe_lenSetT (hc : X.calm = true) (hg : Gl X "len") (hm : X.mg "len" = none) (hg2 : Gl X "set") (hm2 : X.mg "set" = none) (ha : PE X a ta)
    (na : starEach [a] X.env = (false, eval a X.env) :: starEach [] X.env := by rfl) : PE X (.Call (.Name "len" p) [.Call (.Name "set" p2) [a] [] q] [] pos) (fun σ H Q => ta σ H fun x H1 => ∃ (l : Addr) (xs : List Str), x = .ref l ∧ SqT X.K H1 l (xs.map V.str) ∧ xs.length ≤ 4000 ∧ Q (.int (many1 xs : Nat)) H1) := by
  refine ⟨fun pins s σ H Q I h => ?_⟩
  refine Call_ (ld_blt I hg hm boot_len ?_)
  refine PyProof.Rows.callWith_builtin1 (PyProof.Rows.args_cons ?_ rfl) rfl rfl
  refine Call_ (ld_blt I hg2 hm2 boot_set ?_)
  refine PyProof.Rows.callWith_type1 (PyProof.Rows.args_cons (thn (ha.run pins s σ H _ I h) fun v s1 ⟨x, H1, I1, r1, q1⟩ => PyProof.Rows.args_nil ?_) na) na rfl
  obtain ⟨l, xs, rfl, hq, h1, q1⟩ := q1
  cases r1
  have hcl : many1 xs ≤ 4000 := by
    have := cntR_le xs.reverse
    rw [List.length_reverse] at this
    exact Nat.le_trans this h1
  obtain ⟨its, r, pl, hz⟩ := I1.tuple hq
  refine call_set_strs xs (I1.ok.hd hc) pl (by simpa using strsAre_of r) (Nat.lt_of_le_of_lt (Nat.succ_le_succ h1) (by decide)) fun h' tk hS hk => PyProof.Rows.args_nil ?_
  obtain ⟨o, es, ep, t, ho, hex, hd, _, _, _, hf, hn⟩ := hS
  have I2 : Inv X pins σ H1 { s1 with heap := h', toks := tk } := I1.kept fun b o e => hk b o e
  exact call_len_set ho hex hd hf (by rw [hn] <;> omega) ⟨.int (many1 xs : Nat), H1, I2.tok _, ⟨_, by rw [hn]⟩, q1⟩
end
end K96

set_option Elab.async false
set_option linter.all false
set_option maxRecDepth 100000
set_option maxHeartbeats 4000000
/-! is_of_form. -/
namespace K96
open PySem PySem.Spec PyProof.Rows L2 Evl RZ
def valD : PyData → Bool
  | .none => true
  | .int i => decide (0 - mostV ≤ i) && decide (i ≤ mostV)
  | _ => false
theorem Ur.val {K : Fr} {H : Hp} {v : V} {d : PyData} (h : Ur K H v d) : isVal v = valD d := by
  cases h with
  | int i =>
    show (false || (decide (0 - mostV ≤ i) && decide (i ≤ mostV))) = _
    rw [Bool.false_or]
    rfl
  | _ => rfl
def strsD : List PyData → Option (List Str)
  | [] => some []
  | .str s :: r => (strsD r).map (s :: ·)
  | _ :: _ => none
theorem UrAll.strs {K : Fr} {H : Hp} : ∀ {vs : List V} {ds : List PyData} {zs : List Str}, UrAll K H vs ds → strsD ds = some zs → vs = zs.map V.str ∧ zs.length = ds.length
  | _, _, zs, .nil, h => by
    cases h
    exact ⟨rfl, rfl⟩
  | _, _, zs, .cons u r, h => by
    cases u with
    | str s hs =>
      obtain ⟨ms, h1, h2⟩ := Option.map_eq_some_iff.mp (show (strsD _).map (s :: ·) = some zs from h)
      subst h2
      obtain ⟨e1, e2⟩ := r.strs h1
      exact ⟨by rw [e1]; rfl, congrArg (· + 1) e2⟩
    | _ => cases h
theorem strs_of_names : ∀ ds : List PyData, ds.all nameD = true → ∃ zs, strsD ds = some zs
  | [], _ => ⟨[], rfl⟩
  | d :: ds, h => by
    obtain ⟨h1, h2⟩ := Bool.and_eq_true_iff.mp h
    obtain ⟨zs, hz⟩ := strs_of_names ds h2
    cases d with
    | str s => exact ⟨s :: zs, by show (strsD ds).map (s :: ·) = _; rw [hz]; rfl⟩
    | _ => cases h1
/-- is it a tuple of names, none twice -/
def handsD : PyData → Bool
  | .tuple xs => xs.all nameD && (match strsD xs with
    | some zs => decide (V.int (many1 zs : Nat) = V.int (zs.length : Nat))
    | none => false)
  | _ => false
def formD (z : Str) (d : PyData) : Bool :=
  if z = "name" then nameD d else if z = "stamp" then stampD d else if z = "number" then tagD d == "int" else if z = "worth" then valD d else if z = "lot" then lotD d else handsD d
def spForm (K : Fr) : Sp := fun vs H Q _ => ∃ v d z, vs = [v, .str z] ∧ Ur K H v d ∧ szD d ≤ 4000 ∧ Gives (.bl (formD z d)) H Q
section
variable {P : Program} {w : World} {K : Fr} {mg : Str → Option Value} {base : Heap}
theorem ok_is_of_form (T : Txt K mg) (cn : Cl P w K mg base CX0 1 "is_name" (spVal isNameV K)) (ci : Cl P w K mg base CX0 1 "is_integer" (spIsInteger K)) (cs : Cl P w K mg base CX0 2 "is_stamp" (spData stampD K)) (cv : Cl P w K mg base CX0 3 "is_value" (spVal isVal K)) (cl : Cl P w K mg base CX0 2 "is_lot_form" (spData lotD K))
    (D : Df K mg d_is_of_form) : Cl P w K mg base CX0 4 "is_of_form" (spForm K) := by
  refine D.cl sc_is_of_form (fun vs H Q E h => ?_) (fun _ _ _ _ _ _ us hl => match us, hl with | [_, _], _ => rfl) fun f cdv A outer s H vs Q E hr h => ⟨_, pb_X, ?_⟩
  · obtain ⟨v, d, z, rfl, _⟩ := h
    rfl
  obtain ⟨v, d, z, rfl, hu, hz, k⟩ := h
  unfold formD at k
  refine b_cons (s_match (eX_ev (ev_name 1 rfl) fun H1 e1 => ?_))
  refine m_str (fun h => ?_) fun n1 => ?_
  · rw [if_pos h, ← hu.name] at k
    exact b_one (s_ret (ev_call cn hr (by decide) pass0 (ea_cons (ev_name 0 rfl) ea_nil) fun H2 e2 Q q => ⟨v, _, rfl, (hu.ext (e1.trans e2)).vt, q⟩) fun H2 e2 => k H2 (e1.trans e2))
  rw [if_neg n1] at k
  refine m_str (fun h => ?_) fun n2 => ?_
  · rw [if_pos h] at k
    exact b_one (s_ret (ev_call cs hr (by decide) pass0 (ea_cons (ev_name 0 rfl) ea_nil) fun H2 e2 Q q => ⟨v, d, rfl, hu.ext (e1.trans e2), by omega, q⟩) fun H2 e2 => k H2 (e1.trans e2))
  rw [if_neg n2] at k
  refine m_str (fun h => ?_) fun n3 => ?_
  · rw [if_pos h] at k
    exact b_one (s_ret (ev_call ci hr (by decide) pass0 (ea_cons (ev_name 0 rfl) ea_nil) fun H2 e2 Q q => ⟨v, _, rfl, (hu.ext (e1.trans e2)).vt, q⟩) fun H2 e2 => k H2 (e1.trans e2))
  rw [if_neg n3] at k
  refine m_str (fun h => ?_) fun n4 => ?_
  · rw [if_pos h, ← hu.val] at k
    exact b_one (s_ret (ev_call cv hr (by decide) pass0 (ea_cons (ev_name 0 rfl) ea_nil) fun H2 e2 Q q => ⟨v, _, rfl, (hu.ext (e1.trans e2)).vt, q⟩) fun H2 e2 => k H2 (e1.trans e2))
  rw [if_neg n4] at k
  refine m_str (fun h => ?_) fun n5 => m_nil ?_
  · rw [if_pos h] at k
    exact b_one (s_ret (ev_call cl hr (by decide) pass0 (ea_cons (ev_name 0 rfl) ea_nil) fun H2 e2 Q q => ⟨v, d, rfl, hu.ext (e1.trans e2), by omega, q⟩) fun H2 e2 => k H2 (e1.trans e2))
  rw [if_neg n5] at k
  by_cases ht : isTupD d = true
  · obtain ⟨a, xs, ds, rfl, hx, hall, rfl⟩ : ∃ a xs ds, v = .ref a ∧ SqT K H a xs ∧ UrAll K H xs ds ∧ d = .tuple ds := by
      cases hu with
      | tup h ua => exact ⟨_, _, _, rfl, h, ua, rfl⟩
      | _ => cases ht
    have hl := hall.len
    have hdl := szL_len ds
    have hzz : 1 + szL ds ≤ 4000 := hz
    have hx1 := ex_t e1 hx
    have hall2 := hall.ext e1
    have e : handsD (.tuple ds) = (true && (ds.all nameD && (match strsD ds with
      | some zs => decide (V.int (many1 zs : Nat) = V.int (zs.length : Nat))
      | none => false))) := by
      rw [Bool.true_and]
      rfl
    rw [e] at k
    refine b_one (s_ret (ev_and (k := true) (ev_is (ev_isi (m := "tuple") (T.f "isinstance") (T.f "tuple") (ev_name 0 rfl) (hu.vt.mono e1) (by decide)) (by rw [tupK]; rfl)) fun _ => ev_and (k := ds.all nameD) (ev_is (ev_all (ys := ds.map nameD) (T.f "all") (evl_lcP (xs := xs) (i := 2) (by rw [List.length_map, List.length_map]; exact hl.symm) (its_t (ev_name 0 rfl) hx1) sc_is_of_form.nd (blkOk_by (N := ["value", "form", "hand"]) (sc := defScope s_is_of_form) (by decide +kernel)) (fun _ _ _ _ _ => pg_name sc_is_of_form.nd rfl (Or.inl rfl)) (by omega) fun j x y H2 hxj hy e2 s2 H0 C cl fp => ?_)) (by rw [all_map_id])) fun hs => ev_one ?_) fun H2 e2 => k H2 (e1.trans e2))
    · obtain ⟨dj, hdj, huj⟩ := hall2.at hxj
      rw [List.getElem?_map, List.getElem?_map, hdj] at hy
      cases hy
      rw [← huj.name]
      exact ev_call cn hr (by decide) pass0 (ea_cons (ev_name 2 rfl) ea_nil) fun H3 e3 Q q => ⟨x, _, rfl, (huj.ext (e2.trans e3)).vt, q⟩
    · obtain ⟨zs, hzs⟩ := strs_of_names ds hs
      obtain ⟨ex, ez⟩ := hall2.strs hzs
      rw [hzs]
      subst ex
      refine ev_cmp op_eq (x := .int (many1 zs : Nat)) (y := .int (zs.length : Nat)) (ev_of (pe_lenSetT rfl rfl (T.f "len") rfl (T.f "set") pe_X) fun H2 e2 Q q => (show eX _ _ _ _ _ from eX_ev (ev_name 0 rfl) fun H3 e3 => ⟨a, zs, rfl, ex_t (e2.trans e3) hx1, by omega, q H3 e3⟩)) (ev_is (ev_lenL (T.f "len") (ev_name 0 rfl) (.inr hx1)) (by rw [List.length_map])) (rv_eq rfl)
  · have ht : isTupD d = false := by simpa using ht
    have e : handsD d = (false && false) := by
      cases d with
      | tuple x => cases ht
      | _ => rfl
    rw [e] at k
    exact b_one (s_ret (ev_and (k := false) (l := false) (ev_is (ev_isi (m := "tuple") (T.f "isinstance") (T.f "tuple") (ev_name 0 rfl) (hu.vt.mono e1) (by decide)) (by rw [tupK, ht])) fun z => (nomatch z)) fun H2 e2 => k H2 (e1.trans e2))
end
end K96

set_option Elab.async false
set_option linter.all false
set_option maxRecDepth 100000
set_option maxHeartbeats 4000000
/-! t == (); is_question. -/
namespace K96
open PySem PySem.Spec PyProof.Rows L2 Evl RZ
section
variable {X : Cx}
def rEqNilT (K : Fr) : R2 := fun x y H Q => ∃ a b xs, x = .ref a ∧ y = .ref b ∧ SqT K H a xs ∧ SqT K H b [] ∧ Q (.bl (decide (xs.length = 0))) H
theorem op_eqNilT (hu : X.A.units + 64 < cLine) : OpR X (compareOp .Eq) (rEqNilT X.K) := by
  intro pins s σ H x y v u Q I rx ry h
  obtain ⟨a, b, xs, rfl, rfl, ha, hb, q⟩ := h
  cases rx
  cases ry
  obtain ⟨its, r1, t1, _⟩ := I.tuple ha
  obtain ⟨its2, r2, t2, _⟩ := I.tuple hb
  cases r2
  have l1 := r1.length
  have hu2 : X.A.units < cLine := by omega
  have hr := SeqAt.RcAt.tuples (A := X.A) (s := s) (e := fun _ => true) t1 t2 hu2 (fun j h1 h2 => absurd h2 (Nat.not_lt_zero _))
  refine hr X.prog X.w X.xe _ ⟨.bl _, H, I, rfl, ?_⟩
  have e : ((List.range (min its.toArray.size ([] : List Value).toArray.size)).all (fun _ => true) && its.toArray.size == ([] : List Value).toArray.size) = decide (xs.length = 0) := by
    have h1 : ([] : List Value).toArray.size = 0 := rfl
    have h2 : its.toArray.size = xs.length := by simp [l1]
    rw [h1, h2, Nat.min_zero]
    show (true && (xs.length == 0)) = _
    rw [Bool.true_and]
    by_cases z : xs.length = 0
    · rw [z]; rfl
    · rw [decide_eq_false z]
      exact beq_eq_false_iff_ne.mpr z
  rw [e]
  exact q
theorem et_eqNilT {a : Expr} {p2 pos : Pos} {x1} {σ : Sg} {H : Hp} {l : Addr} {xs : List V} (hu : X.A.units + 64 < cLine) (ha : EV X a σ H (.ref l)) (hx : SqT X.K H l xs) (hm : behindInMarks .Eq (.Tuple [] x1 p2) = false := by rfl) : ET X (.Compare a [.Eq] [.Tuple [] x1 p2] pos) σ H (decide (xs.length = 0)) :=
  et_of (pt_cmpR (op_eqNilT hu) pe_X pe_X hm) (et_test (ev_opU ha (evu_tup ea_nil (by decide)) fun p H1 h1 e1 => fun H2 e2 Q q => ⟨l, p, xs, rfl, rfl, ex_t (e1.trans e2) hx, st_of (e2 _ _ h1), q H2 (Ex.refl H2)⟩))
end
theorem atI_zero {α : Type} (x : α) (xs : List α) : atI (x :: xs) 0 = some x := atI_nat (xs := x :: xs) (i := 0) (Nat.succ_pos _)
/-- the dict FORMS -/
structure FormsD (K : Fr) (w : World) (mg : Str → Option Value) : Prop where
  ex : ∃ d es n, WD K w mg "FORMS" d es n (formsTab.map (·.1)) ∧ (∀ q ∈ formsTab, ∃ t, PySem.W.nsIn K d q.1 = some (some (.ref t)) ∧ ∀ H, SqT K H t (q.2.map V.str)) ∧ ∀ z, formsTab.lookup z = none → PySem.W.nsIn K d z = some none
/-- do the parts have the forms -/
def ofForms (ds : List PyData) (fs : List Str) : List Bool := List.zipWith (fun d f => formD f d) ds fs
def questF (z : Str) (ds : List PyData) : Option (List Str) → Bool
  | some fs => decide (ds.length = fs.length) && ((ofForms ds fs).all id && toldAt 10 (.tuple (.str z :: ds)))
  | none => false
def questD : PyData → Bool
  | .tuple (.str z :: ds) => questF z ds (formsTab.lookup z)
  | _ => false
section
variable {P : Program} {w : World} {K : Fr} {mg : Str → Option Value} {base : Heap}
theorem forms_small {z : Str} {fs : List Str} (h : formsTab.lookup z = some fs) : fs.length ≤ 5 := by
  have key : ∀ q ∈ formsTab, q.2.length ≤ 5 := by decide +kernel
  exact key _ (PySem.mem_of_lookup h)
theorem ok_is_question (T : Txt K mg) (FD : FormsD K w mg) (cf : Cl P w K mg base CX0 4 "is_of_form" (spForm K)) (ct : Cl P w K mg base CX0 4 "can_be_told" (spData (toldAt 10) K)) (D : Df K mg d_is_question) : Cl P w K mg base CX0 5 "is_question" (fun vs H Q _ => ∃ v d, vs = [v] ∧ Ur K H v d ∧ szD d ≤ 4000 ∧ Gives (.bl (questD d)) H Q) := by
  refine D.cl sc_is_question (fun vs H Q E h => ?_) (fun _ _ _ _ _ _ us hl => match us, hl with | [_], _ => rfl) fun f cdv A outer s H vs Q E hr h => ⟨_, pb_X, ?_⟩
  · obtain ⟨v, d, rfl, _⟩ := h
    rfl
  obtain ⟨v, d, rfl, hu, hz, k⟩ := h
  obtain ⟨fd, es, n, W, hval, hmiss⟩ := FD.ex
  have hi0 : ∀ (b : Bool), isTupD d = b → ET (cxOf CX0 P w K mg base ["value", "forms", "one", "form"] d_is_question.qual d_is_question.scope f cdv A outer s H E) ((fun e => match e with | .If (.BoolOp _ (c :: _) _) _ _ _ => c | _ => .Constant .none 0 ⟨0, 0, 0, 0⟩) ((defBody s_is_question).getD 0 (.Pass ⟨0, 0, 0, 0⟩))) [some v, none, none, none] H (!b) := fun b hb =>
    et_not (et_is (et_val (ev_isi (m := "tuple") (T.f "isinstance") (T.f "tuple") (ev_name 0 rfl) hu.vt (by decide))) (by rw [tupK]; exact hb))
  by_cases ht : isTupD d = true
  case neg =>
    have ht : isTupD d = false := by simpa using ht
    have e : questD d = false := by
      cases d with
      | tuple x => cases ht
      | _ => rfl
    rw [e] at k
    refine b_cons (s_if (k := true) (et_w (ew_or (k := true) (l := false) (hi0 false ht) fun z => (nomatch z))) (fun _ H1 e1 => ?_) fun z => (nomatch z))
    exact b_one (s_ret ev_bl fun H2 e2 => k H2 (e1.trans e2))
  obtain ⟨a, xs, ds, rfl, hx, hall, rfl⟩ : ∃ a xs ds, v = .ref a ∧ SqT K H a xs ∧ UrAll K H xs ds ∧ d = .tuple ds := by
    cases hu with
    | tup h ua => exact ⟨_, _, _, rfl, h, ua, rfl⟩
    | _ => cases ht
  have hzz : 1 + szL ds ≤ 4000 := hz
  cases hall with
  | nil =>
    have e : questD (.tuple []) = false := rfl
    rw [e] at k
    refine b_cons (s_if (k := true) (et_w (ew_or (k := false) (l := true) (hi0 true rfl) fun _ => ew_or (k := true) (l := false) (et_is (et_eqNilT hr.units (ev_name 0 rfl) hx) rfl) fun z => (nomatch z))) (fun _ H1 e1 => ?_) fun z => (nomatch z))
    exact b_one (s_ret ev_bl fun H2 e2 => k H2 (e1.trans e2))
  | @cons vx vs dx dr ux hall =>
    have hl := hall.len
    have hdl := szL_len dr
    have hsz : szL (dx :: dr) = szD dx + szL dr := rfl
    by_cases hs : tagD dx = "str"
    case neg =>
      have hsk : isK (tagD dx) "str" = false := by
        unfold isK
        have h1 : (tagD dx == "str") = false := by simpa using hs
        rw [h1, Bool.false_or]
        cases q : (tagD dx == "bool") <;> rfl
      have e : questD (.tuple (dx :: dr)) = false := by
        cases dx with
        | str z => exact absurd rfl hs
        | _ => rfl
      rw [e] at k
      refine b_cons (s_if (k := true) (et_w (ew_or (k := false) (l := true) (hi0 true rfl) fun _ => ew_or (k := false) (l := true) (et_is (et_eqNilT hr.units (ev_name 0 rfl) hx) rfl) fun _ => ew_or (k := true) (l := false) (et_not (k := false) (et_is (et_val (ev_isi (m := "str") (T.f "isinstance") (T.f "str") (ev_ixT (v := vx) (ev_name 0 rfl) ev_int hx (atI_zero _ _)) ux.vt (by decide))) hsk)) fun z => (nomatch z))) (fun _ H1 e1 => ?_) fun z => (nomatch z))
      exact b_one (s_ret ev_bl fun H2 e2 => k H2 (e1.trans e2))
    obtain ⟨z, rfl, rfl⟩ : ∃ z, vx = .str z ∧ dx = .str z := by
      cases ux with
      | str z _ => exact ⟨z, rfl, rfl⟩
      | lst _ _ => exact absurd hs (by show ¬ "list" = "str"; decide)
      | tup _ _ => exact absurd hs (by show ¬ "tuple" = "str"; decide)
      | emp _ => exact absurd hs (by show ¬ "dict" = "str"; decide)
      | obj _ _ _ => exact absurd hs (by show ¬ "obj" = "str"; decide)
      | non => exact absurd hs (by show ¬ "NoneType" = "str"; decide)
      | bl _ => exact absurd hs (by show ¬ "bool" = "str"; decide)
      | int _ => exact absurd hs (by show ¬ "int" = "str"; decide)
    have cond : ∀ (r : Option Value), PySem.W.nsIn K fd z = some r → ET (cxOf CX0 P w K mg base ["value", "forms", "one", "form"] d_is_question.qual d_is_question.scope f cdv A outer s H E) ((fun e => match e with | .If c _ _ _ => c | _ => .Constant .none 0 ⟨0, 0, 0, 0⟩) ((defBody s_is_question).getD 0 (.Pass ⟨0, 0, 0, 0⟩))) [some (.ref a), none, none, none] H (!r.isSome) := fun r hr2 =>
      et_w (ew_or (k := false) (l := !r.isSome) (hi0 true rfl) fun _ => ew_or (k := false) (l := !r.isSome) (et_is (et_eqNilT hr.units (ev_name 0 rfl) hx) rfl) fun _ => ew_or (k := false) (l := !r.isSome) (et_not (k := true) (et_val (ev_isi (m := "str") (n := "str") (T.f "isinstance") (T.f "str") (ev_ixT (v := .str z) (ev_name 0 rfl) ev_int hx (atI_zero _ _)) ux.vt (by decide)))) fun _ => ew_or1 (et_cmp (op_notIn_kd W.D) (ev_ixT (v := .str z) (ev_name 0 rfl) ev_int hx (atI_zero _ _)) (ev_gl (v := .ref fd) ⟨_, W.g, rfl⟩) fun H1 e1 Q q => ⟨z, r, rfl, rfl, hr2, q H1 (Ex.refl H1)⟩))
    cases hf : formsTab.lookup z with
    | none =>
      have e : questD (.tuple (.str z :: dr)) = false := by
        show questF z dr (formsTab.lookup z) = false
        rw [hf]
        rfl
      rw [e] at k
      refine b_cons (s_if (k := true) (cond none (hmiss z hf)) (fun _ H1 e1 => ?_) fun z => (nomatch z))
      exact b_one (s_ret ev_bl fun H2 e2 => k H2 (e1.trans e2))
    | some fs =>
      obtain ⟨ft, hft, hfq⟩ := hval _ (PySem.mem_of_lookup hf)
      have hfs := forms_small hf
      have e : questD (.tuple (.str z :: dr)) = (decide (dr.length = fs.length) && ((ofForms dr fs).all id && toldAt 10 (.tuple (.str z :: dr)))) := by
        show questF z dr (formsTab.lookup z) = _
        rw [hf]
        rfl
      rw [e] at k
      refine b_cons (s_if (k := false) (cond (some _) hft) (fun z => (nomatch z)) fun _ H1 e1 => b_nil ?_)
      -- forms = FORMS[value[0]]
      refine b_cons (s_set 1 (eX_ev (ev_of (pe_ix ix_kdict pe_X pe_X (by intro _ _; rfl)) (ev_op (x := .ref fd) (y := .str z) (z := .ref ft) (ev_gl ⟨_, W.g, rfl⟩) (ev_ixT (v := .str z) (ev_name 0 rfl) ev_int (ex_t e1 hx) (atI_zero _ _)) fun H2 e2 Q q => ⟨fd, z, .ref ft, rfl, rfl, ⟨es, n, _, W.D.at_, W.D.lit, hft, rfl⟩, q H2 (Ex.refl H2)⟩)) fun H2 e2 => ?_) sc_is_question.nd)
      have E2 := e1.trans e2
      have hx2 := ex_t E2 hx
      have hall2 := hall.ext E2
      have hxs : (V.str z :: vs).length = dr.length + 1 := by rw [List.length_cons, hl]
      have hft2 := hfq H2
      -- if len(value) != 1 + len(forms) or not all([..]): return False
      refine b_cons (s_if (k := (!decide (V.int ((V.str z :: vs).length : Int) = V.int (1 + ((fs.map V.str).length : Int)))) || !((ofForms dr fs).all id)) (et_w (ew_or (et_cmp op_ne (ev_lenL (T.f "len") (ev_name 0 rfl) (.inr hx2)) (ev_bin op_add ev_int (ev_lenL (T.f "len") (ev_name 1 rfl) (.inr hft2)) rv_I0) (rv_ne rfl)) fun hq => ew_or1 (et_not (et_val (ev_all (ys := ofForms dr fs) (T.f "all") ?_))))) (fun hb H3 e3 => ?_) fun hb H3 e3 => b_nil ?_)
      · have hlen : dr.length = fs.length := by
          by_cases q : V.int ((V.str z :: vs).length : Int) = V.int (1 + ((fs.map V.str).length : Int))
          · have := V.int.inj q
            rw [hxs, List.length_map] at this
            omega
          · rw [decide_eq_false q] at hq
            cases hq
        have hlz : (ofForms dr fs).length = min dr.length fs.length := List.length_zipWith
        refine evl_lcZ (i := 2) (j := 3) (xs := vs) (ys := fs.map V.str) (by rw [List.length_map, List.length_map, hlz, hl]) (T.f "zip") (fun H3 e3 R q => ?_) (by decide) (by show 3 < 4; decide) sc_is_question.nd (blkOk_by (N := ["value", "forms", "one", "form"]) (sc := defScope s_is_question) (by decide +kernel))
          (fun _ _ _ _ _ => pg_tup rfl (pgs_cons (pg_name sc_is_question.nd rfl (Or.inl rfl)) (pgs_cons (pg_name sc_is_question.nd rfl (Or.inl rfl)) pgs_nil))) (by omega) fun j x y zz H3 hxj hyj hzj e3 s3 H0 C cl fp => ?_
        · refine a_cons (eX_of (pe_slice L2.sl_tupA pe_X (po_some pe_int) po_none) (eX_ev (ev_name 0 rfl) fun H4 e4 => ⟨1, rfl, a, _, rfl, ex_t (e3.trans e4) hx2, fun hw => ?_, fun hw p hp => a_cons (eX_ev (ev_name 1 rfl) fun H5 e5 => a_nil ?_)⟩))
          · have h1 : HT.sIx (V.str z :: vs).length 0 (some (1 : Nat)) = 0 := hw.1
            rw [HT.sIx_nat, List.length_cons] at h1
            omega
          · refine q p ft H5 ((e4.trans (Ex.new hp)).trans e5) (ex_t e5 ?_) (hfq H5)
            have : cutV (V.str z :: vs) (some 1) none = vs := cut1 _
            rw [this]
            exact st_of upd_same
        · rw [List.getElem?_map] at hyj hzj
          obtain ⟨fo, hfo, rfl⟩ := Option.map_eq_some_iff.mp hyj
          obtain ⟨bb, hbb, rfl⟩ := Option.map_eq_some_iff.mp hzj
          obtain ⟨dj, hdj, huj⟩ := hall2.at hxj
          have hzw : bb = formD fo dj := by
            have : (ofForms dr fs)[j]? = some (formD fo dj) := by
              unfold ofForms
              rw [List.getElem?_zipWith, hdj, hfo]
            rw [this] at hbb
            exact (Option.some.inj hbb).symm
          subst hzw
          have hm := szD_mem (List.mem_of_getElem? hdj)
          exact ev_call cf hr (by decide) pass0 (ea_cons (ev_name 2 rfl) (ea_cons (ev_name 3 rfl) ea_nil)) fun H4 e4 Q q => ⟨x, dj, fo, rfl, huj.ext (e3.trans e4), by omega, q⟩
      · have ee : (decide (dr.length = fs.length) && ((ofForms dr fs).all id && toldAt 10 (.tuple (.str z :: dr)))) = false := by
          by_cases q : dr.length = fs.length
          · have hq : V.int ((V.str z :: vs).length : Int) = V.int (1 + ((fs.map V.str).length : Int)) := by
              congr 1
              rw [hxs, List.length_map, q]
              omega
            rw [decide_eq_true hq] at hb
            have : ((ofForms dr fs).all id) = false := by
              cases qq : (ofForms dr fs).all id with
              | false => rfl
              | true => rw [qq] at hb; cases hb
            rw [this, Bool.false_and, Bool.and_false]
          · rw [decide_eq_false q, Bool.false_and]
        rw [ee] at k
        exact b_one (s_ret ev_bl fun H4 e4 => k H4 ((E2.trans e3).trans e4))
      · have h1 : V.int ((V.str z :: vs).length : Int) = V.int (1 + ((fs.map V.str).length : Int)) := by
          by_cases q : V.int ((V.str z :: vs).length : Int) = V.int (1 + ((fs.map V.str).length : Int))
          · exact q
          · rw [decide_eq_false q] at hb
            cases hb
        have h2 : ((ofForms dr fs).all id) = true := by
          cases qq : (ofForms dr fs).all id with
          | true => rfl
          | false =>
            rw [qq, decide_eq_true h1] at hb
            cases hb
        have h3 : dr.length = fs.length := by
          have := V.int.inj h1
          rw [hxs, List.length_map] at this
          omega
        rw [decide_eq_true h3, h2, Bool.true_and, Bool.true_and] at k
        exact b_one (s_ret (ev_call ct hr (by decide) pass0 (ea_cons (ev_name 0 rfl) ea_nil) fun H4 e4 Q q => ⟨_, _, rfl, hu.ext ((E2.trans e3).trans e4), by omega, q⟩) fun H4 e4 => k H4 ((E2.trans e3).trans e4))
end
end K96

set_option Elab.async false
set_option linter.all false
set_option maxRecDepth 100000
set_option maxHeartbeats 4000000
/-! need_question, question_words, question_text. -/
namespace K96
open PySem PySem.Spec PyProof.Rows L2 Evl RZ
theorem toldAt_mono : ∀ (n m : Nat) (d : PyData), n ≤ m → toldAt n d = true → toldAt m d = true
  | 0, m, d, _, h => by
    cases d with
    | tuple _ => cases h
    | _ => cases m <;> exact h
  | n + 1, 0, _, hl, _ => absurd hl (by omega)
  | n + 1, m + 1, d, hl, h => by
    cases d with
    | tuple xs => exact List.all_eq_true.mpr fun x hx => toldAt_mono n m x (by omega) (List.all_eq_true.mp h x hx)
    | _ => exact h
section
variable {X : Cx} {a iter : Expr} {n : Str} {px p2 pos : Pos} {σ : Sg} {H : Hp} {l : Addr} {x : V} {xs : List V}
theorem its_tn {xs : List V} (h : EVU X iter σ H xs) : Its1 X n px iter σ H xs :=
  ⟨_, pi_tup pe_X, fun H1 e1 R k => h H1 e1 _ fun p H2 _ e2 hp => ⟨p, rfl, ⟨xs, st_of hp⟩, k _ H2 (fun H => SqT X.K H p xs) e2 (st_of hp) (fun _ _ e z => ex_t e z) walk_tup⟩⟩
/-- t[1:], t not empty -/
theorem evu_from1 {j : Nat} {pc : Pos} (ha : EV X a σ H (.ref l)) (hx : SqT X.K H l (x :: xs)) : EVU X (.Subscript a (.Slice (some (.Constant (.int 1) j pc)) none none p2) pos) σ H xs := by
  intro H1 e1 Q q
  refine eX_of (pe_slice sl_tup pe_X (po_some pe_int) po_none) (ha H1 e1 _ fun H2 e2 => ⟨1, rfl, l, _, rfl, ex_t (e1.trans e2) hx, fun hw => ?_, fun p hp => ?_⟩)
  · have h1 : HT.sIx (x :: xs).length 0 (some (1 : Nat)) = 0 := hw.1
    rw [HT.sIx_nat, List.length_cons] at h1
    omega
  · have : cutV (x :: xs) (some 1) none = xs := cut1 _
    rw [this]
    exact q p _ (fresh_back e2 hp) (e2.trans (Ex.new hp)) upd_same
end
/-- a question's words -/
def qWords : PyData → List Str
  | .tuple (.str z :: ds) => z :: wordsL ds
  | _ => []
theorem quest_is {d : PyData} (h : questD d = true) : ∃ z ds fs, d = .tuple (.str z :: ds) ∧ formsTab.lookup z = some fs ∧ ds.length = fs.length ∧ (ofForms ds fs).all id = true ∧ toldAt 10 (.tuple (.str z :: ds)) = true := by
  match d, h with
  | .tuple (.str z :: ds), h =>
    have h : questF z ds (formsTab.lookup z) = true := h
    cases hf : formsTab.lookup z with
    | none => rw [hf] at h; cases h
    | some fs =>
      rw [hf] at h
      obtain ⟨h1, h2⟩ := Bool.and_eq_true_iff.mp h
      obtain ⟨h3, h4⟩ := Bool.and_eq_true_iff.mp h2
      exact ⟨z, ds, fs, rfl, hf, of_decide_eq_true h1, h3, h4⟩
def spQWords (K : Fr) : Sp := fun vs H Q _ => ∃ v d, vs = [v] ∧ Ur K H v d ∧ questD d = true ∧ szD d ≤ 4000 ∧ ∀ p H', H p = none → Ex H H' → H' p = some (.lst ((qWords d).map V.str)) → Q (.ref p) H'
def spQText (A : Adr) (K : Fr) : Sp := fun vs H Q E => ∃ v d, vs = [v] ∧ Ur K H v d ∧ szD d ≤ 4000 ∧ (questD d = true → Gives (.str (Txt.join " " (qWords d))) H Q) ∧ (questD d = false → BadV A H E (.str "question"))
def spNeed (A : Adr) (K : Fr) : Sp := fun vs H Q E => ∃ v d, vs = [v] ∧ Ur K H v d ∧ szD d ≤ 4000 ∧ (questD d = true → Gives .non H Q) ∧ (questD d = false → BadV A H E (.str "question"))
section
variable {P : Program} {w : World} {K : Fr} {mg : Str → Option Value} {base : Heap} {A : Adr}
theorem ok_need_question (B : Exi P w K mg base 1 "BadValue" A.bv (spBV A)) (cq : Cl P w K mg base CX0 5 "is_question" (fun vs H Q _ => ∃ v d, vs = [v] ∧ Ur K H v d ∧ szD d ≤ 4000 ∧ Gives (.bl (questD d)) H Q)) (D : Df K mg d_need_question) : Cl P w K mg base (L2.CX P w) 6 "need_question" (spNeed A K) := by
  refine D.cl sc_need_question (fun vs H Q E h => ?_) (fun _ _ _ _ _ _ us hl => match us, hl with | [_], _ => rfl) fun f cdv Ar outer s H vs Q E hr h => ⟨_, pb_X, ?_⟩
  · obtain ⟨v, d, rfl, _⟩ := h
    rfl
  obtain ⟨v, d, rfl, hu, hz, k1, k2⟩ := h
  refine b_one (s_if (k := !questD d) (et_not (et_val (ev_call cq hr (by decide) pass0 (ea_cons (ev_name 0 rfl) ea_nil) fun H1 e1 Q q => ⟨v, d, rfl, hu.ext e1, hz, q⟩))) (fun hb H1 e1 => ?_) fun hb H1 e1 => b_nil ?_)
  · have e : questD d = false := by simpa using hb
    exact b_one (s_badv B hr (by decide) (takes_of rfl rfl rfl rfl) ev_str fun d' H' hn e' hd => k2 e d' H' (fresh_back e1 hn) (e1.trans e') hd)
  · have e : questD d = true := by simpa using hb
    exact k1 e H1 e1
theorem ok_question_words (T : Txt K mg) (cw : Cl P w K mg base CX0 11 "words_of" (spWords 10 K)) (D : Df K mg d_question_words) : Cl P w K mg base CX0 12 "question_words" (spQWords K) := by
  refine D.cl sc_question_words (fun vs H Q E h => ?_) (fun _ _ _ _ _ _ us hl => match us, hl with | [_], _ => rfl) fun f cdv Ar outer s H vs Q E hr h => ⟨_, pb_X, ?_⟩
  · obtain ⟨v, d, rfl, _⟩ := h
    rfl
  obtain ⟨v, d, rfl, hu, hq, hz, k⟩ := h
  obtain ⟨z, ds, fs, rfl, _, _, _, ht⟩ := quest_is hq
  obtain ⟨a, xs, rfl, hx, hall⟩ : ∃ a xs, v = .ref a ∧ SqT K H a xs ∧ UrAll K H xs (.str z :: ds) := by
    cases hu with
    | tup h ua => exact ⟨_, _, rfl, h, ua⟩
  cases hall with
  | @cons vx ws _ _ ux hall =>
    cases ux with
    | str _ hzl =>
      have ht2 : (PyData.str z :: ds).all (toldAt 9) = true := ht
      have ht3 := (Bool.and_eq_true_iff.mp ht2).2
      have hwl := wordsL_len ds
      have hsz : szD (.tuple (.str z :: ds)) = 1 + (1 + szL ds) := rfl
      refine b_one (s_retX (e_lst (a_cons (eX_ev (ev_ixT (v := .str z) (ev_name 0 rfl) ev_int hx (atI_zero _ _)) fun H2 e2 => a_star (eX_evl (xs := (ds.map fun d => (wordsD d).map V.str).flatten) ?_ fun r H3 hr3 e3 h3 => ⟨r, _, rfl, .inr (sq_of h3), a_nil ?_⟩)))))
      · refine evl_lc2 (i := 1) (j := 2) (ds.map fun d => (wordsD d).map V.str) (by rw [List.length_map, hall.len]) (by decide) (its_tn (evu_from1 (ev_name 0 rfl) (ex_t e2 hx))) sc_question_words.nd (blkOk_by (N := ["question", "one", "word"]) (sc := defScope s_question_words) (by decide +kernel)) (fun _ _ _ _ _ => pg_name sc_question_words.nd rfl (Or.inl rfl)) (fun _ _ _ _ _ => pg_name sc_question_words.nd rfl (Or.inl rfl)) (fun _ _ _ _ _ => pv 2) ?_ (by show 2 < 3; decide) fun j x zs hj hj2 H5 e5 s5 H0 C cl fp => ?_
        · rw [wordsL_flat, List.length_map]
          omega
        · obtain ⟨dj, hdj, huj⟩ := hall.at hj
          rw [List.getElem?_map, hdj] at hj2
          have e6 : zs = (wordsD dj).map V.str := (Option.some.inj hj2).symm
          subst e6
          intro H6 e6 Q6 k6
          refine eX_of (pe_cl (E := E0) cw hr (by decide) pass0 rfl (pa_cons pe_X pa_nil)) (eX_ev (ev_name 1 rfl) fun H7 e7 => ?_)
          have hm := List.mem_of_getElem? hdj
          exact ⟨x, dj, rfl, huj.ext (e2.trans ((e5.trans e6).trans e7)), toldAt_mono 9 10 dj (by decide) (List.all_eq_true.mp ht3 dj hm), by have := szD_mem hm; omega, fun p H8 hp e8 h8 => k6 p H8 (fresh_back e7 hp) (e7.trans e8) h8⟩
      · rw [wordsL_flat]
        refine ⟨?_, fun p hp => k p _ (fresh_back (e2.trans e3) hp) ((e2.trans e3).trans (Ex.new hp)) ?_⟩
        · rw [List.append_nil, List.length_cons, List.length_map]
          exact sz_of (by omega)
        · rw [upd_same, List.append_nil]
          rfl
theorem ok_question_text (cn : Cl P w K mg base (L2.CX P w) 6 "need_question" (spNeed A K)) (cw : Cl P w K mg base CX0 12 "question_words" (spQWords K)) (D : Df K mg d_question_text) : ClK P w K mg base (L2.CX P w) 13 "question_text" "question" (spQText A K) := by
  refine D.clK sc_question_text (fun vs H Q E h => ?_) (fun _ _ _ _ _ _ _ => rfl) (fun _ _ _ _ _ _ _ => rfl) fun f cdv Ar outer s H vs Q E hr h => ⟨_, pb_X, ?_⟩
  · obtain ⟨v, d, rfl, _⟩ := h
    rfl
  obtain ⟨v, d, rfl, hu, hz, k1, k2⟩ := h
  have ps : Passes (L2.CX P w) (cxOf (L2.CX P w) P w K mg base ["question"] d_question_text.qual d_question_text.scope f cdv Ar outer s H E) E := passes_call (takes_of rfl rfl rfl rfl) fun _ _ _ _ h => h
  refine b_cons (s_expr (eX_of (pe_cl cn hr (by decide) ps rfl (pa_cons pe_X pa_nil)) (eX_ev (ev_name 0 rfl) fun H1 e1 => ⟨v, d, rfl, hu.ext e1, hz, fun hq H2 e2 => ?_, fun hq d' H' hn e hd => k2 hq d' H' (fresh_back e1 hn) (e1.trans e) hd⟩)))
  obtain ⟨z, ds, fs, hdd, hfs, _, _, ht⟩ := quest_is hq
  have hzl : z.length ≤ 20 := by
    have key : ∀ q ∈ formsTab, q.1.length ≤ 20 := by decide +kernel
    exact key _ (PySem.mem_of_lookup hfs)
  refine b_one (s_retX (eX_of (pe_join pe_str pe_X) ⟨⟨_, rfl⟩, eX_of (pe_cl (E := E) cw hr (by decide) pass0 rfl (pa_cons pe_X pa_nil)) (eX_ev (ev_name 0 rfl) fun H3 e3 => ⟨v, d, rfl, hu.ext ((e1.trans e2).trans e3), hq, hz, fun p H4 hp e4 h4 => ⟨_, p, qWords d, rfl, rfl, .inl (sq_of h4), ?_, k1 hq H4 (((e1.trans e2).trans e3).trans e4)⟩⟩)⟩))
  subst hdd
  have ht2 : (PyData.str z :: ds).all (toldAt 9) = true := ht
  have ht3 := (Bool.and_eq_true_iff.mp ht2).2
  have h1 := sum_short (z :: wordsL ds) fun y hy => (List.mem_cons.mp hy).elim (fun e => by rw [e]; exact hzl) (wordsL_short 9 ds ht3 y)
  have h2 : (z :: wordsL ds).length = (wordsL ds).length + 1 := rfl
  have h3 : (" " : Str).length = 1 := by decide +kernel
  have hwl := wordsL_len ds
  have hsz : szD (.tuple (.str z :: ds)) = 1 + (1 + szL ds) := rfl
  show ((z :: wordsL ds).map (·.length)).sum + (z :: wordsL ds).length * (" " : Str).length ≤ 16777216
  rw [h3]
  omega
end
end K96

set_option Elab.async false
set_option linter.all false
set_option maxRecDepth 100000
set_option maxHeartbeats 4000000
/-! take_question. -/
namespace K96
open PySem PySem.Spec PyProof.Rows L2 Evl RZ
section
variable {X : Cx} {iter : Expr} {n : Str} {px pos : Pos} {body : List Stmt} {σ : Sg} {H : Hp} {D : Ends} {a : Addr} {xs : List V}
/-- for n in t, t a tuple -/
theorem s_forTup (i : Nat) (Pv : Nat → Sg → Hp → Prop) (h : EV X iter σ H (.ref a)) (hx : SqT X.K H a xs) (h0 : ∀ H1, Ex H H1 → Pv 0 σ H1) (hl : ∀ k σ' H', k ≤ xs.length → Pv k σ' H' → SqT X.K H' a xs)
    (hs : ∀ k x σ' H', xs[k]? = some x → Pv k σ' H' → bX X body { D with nx := Pv (k + 1), ct := Pv (k + 1), bk := D.nx } (σ'.set i (some x)) H') (hd : ∀ σ' H', Pv xs.length σ' H' → D.nx σ' H') (hp : PassesOwn (model X.prog X.w) X.A X.env X.xe) (hN : X.N.Nodup)
    (hc : X.calm = true := by rfl) (hi : X.N[i]? = some n := by rfl) (hv : Loc X.env.scope n := by first | exact Or.inl rfl | exact Or.inr rfl) (hf : X.fn n = true ∨ X.env.scope.names.lookup n = some .local := by first | exact .inl rfl | exact .inr rfl) (hst : ∀ x, foldedSetIterable iter X.env x = pure x := by intro _; rfl) :
    sX X (.For (.Name n px) iter body [] pos) D σ H :=
  sX_of (ps_for hp hc (pi_tup pe_X) (pg_name hN hi hv hf) pb_X hst) (Evl.s_forT h hx Pv h0 hl hs hd)
end
/-- the parts of a question, told and of their forms -/
def qN (ws : List Str) : List Str → Nat → List PyData → Nat ⊕ (List PyData × Nat)
  | [], i, acc => .inr (acc, i)
  | f :: fs, i, acc => match toldGo ws (ws.length + 1 - i) i [] with
    | .inl j => .inl j
    | .inr (x, j) => if formD f x = true then qN ws fs j (acc ++ [x]) else .inl i
/-- a question told from the word i on -/
def questGo (ws : List Str) (i : Nat) : Nat ⊕ ((Str × List PyData) × Nat) := match ws[i]? with
  | none => .inl i
  | some z => match formsTab.lookup z with
    | none => .inl i
    | some fs => tagP z (qN ws fs (i + 1) [])
def spTQuest (A : Adr) (K : Fr) : Sp := fun vs H Q E => ∃ (p d : Addr) (ws : List Str) (l : Int) (i : Nat), vs = [.ref p] ∧ ScanO A H p d ws l i ∧ ws.length ≤ 3900 ∧ (∀ z ds j v H', questGo ws i = .inr ((z, ds), j) → But p H H' → ScanO A H' p d ws l j → Ur K H' v (.tuple (.str z :: ds)) → plainL ds = true → Q v H') ∧
  ∀ j : Nat, questGo ws i = .inl j → Bad A p H E l j
theorem forms_keys {z : Str} : z ∈ formsTab.map (·.1) ↔ ∃ fs, formsTab.lookup z = some fs := by
  constructor
  · intro h
    obtain ⟨q, hq, e⟩ := List.mem_map.mp h
    obtain ⟨z', fs⟩ := q
    cases e
    exact mem_lookup hq
  · rintro ⟨c, h⟩
    exact List.mem_map.mpr ⟨_, PySem.mem_of_lookup h, rfl⟩
/-- the state at a turn -/
def PvQ (A : Adr) (K : Fr) (ws : List Str) (R : Nat ⊕ (List PyData × Nat)) (fs : List Str) (z : Str) (p d lf : Addr) (l : Int) (i0 : Nat) (H : Hp) (k : Nat) (σ' : Sg) (H' : Hp) : Prop :=
  ∃ j ds vs fo at' one', σ' = [some (.ref p), some (.str z), some (.ref lf), fo, at', one'] ∧ qN ws (fs.drop k) j ds = R ∧ But p H H' ∧ ScanO A H' p d ws l j ∧ H' lf = some (.lst (.str z :: vs)) ∧ UrAll K H' vs ds ∧ plainL ds = true ∧ szL ds + i0 ≤ j
section
variable {P : Program} {w : World} {K : Fr} {mg : Str → Option Value} {base : Heap} {A : Adr}
theorem ok_take_question (T : Txt K mg) (M : ScanM P w K mg base A) (FD : FormsD K w mg) (cj : MtB P w K mg base (L2.CX P w) 5 A.scan "take_just" (spJust A)) (ct : Cl P w K mg base (L2.CX P w) 7 "take_told" (spTold A K)) (cf : Cl P w K mg base CX0 4 "is_of_form" (spForm K))
    (D : Df K mg d_take_question) : Cl P w K mg base (L2.CX P w) 8 "take_question" (spTQuest A K) := by
  refine D.cl sc_take_question (fun vs H Q E h => ?_) (fun _ _ _ _ _ _ us hl => match us, hl with | [_], _ => rfl) fun f cdv Ar outer s H vs Q E hr h => ⟨_, pb_X, ?_⟩
  · obtain ⟨p, d, ws, l, i, rfl, _⟩ := h
    rfl
  obtain ⟨p, d, ws, l, i0, rfl, S0, hws, k1, k2⟩ := h
  obtain ⟨dx0, hp0⟩ := S0.ob
  obtain ⟨fd, es, pn, W, hval, hmiss⟩ := FD.ex
  have O := M.O
  have tk := takes_of (X := cxOf (L2.CX P w) P w K mg base ["scan", "word", "found", "form", "at", "one"] d_take_question.qual d_take_question.scope f cdv Ar outer s H E) (E := E) rfl rfl rfl rfl
  have ps := passes_call tk (E := E) fun _ _ _ _ h => h
  obtain ⟨fj, bj, Fj⟩ := cj.ex
  -- word = scan.take_just( *FORMS)
  refine b_cons (s_set 1 (eX_of (pe_methSD rfl W pe_X O.cl bj Fj (hr.mono (by decide)) ps rfl) (eX_ev (ev_name 0 rfl) fun H1 e1 => ⟨p, dx0, _, rfl, e1 _ _ hp0, scanNo "take_just" (by decide +kernel) d l i0, fun q hq => ?_⟩)) sc_take_question.nd)
  have eq1 : Ex H (L2.upd H1 q (.met fj p)) := e1.trans (Ex.new hq)
  refine ⟨p, d, ws, l, i0, _, rfl, by rw [List.length_map]; decide, S0.ex eq1, fun z H2 hw hz b2 S2 => ?_, fun hn => (k2 i0 ?_).of (ebut eq1) ⟨_, eq1 _ _ hp0⟩⟩
  case refine_2 =>
    unfold questGo
    cases hw : ws[i0]? with
    | none => rfl
    | some z =>
      have : formsTab.lookup z = none := by
        cases q : formsTab.lookup z with
        | none => rfl
        | some c => exact absurd (forms_keys.mpr ⟨c, q⟩) (hn z hw)
      simp only [this]
  obtain ⟨fs, hfs⟩ := forms_keys.mp hz
  have hf5 := forms_small hfs
  obtain ⟨ft, hft, hfq⟩ := hval _ (PySem.mem_of_lookup hfs)
  have B2 : But p H H2 := (ebut eq1).trans b2
  have hgo : questGo ws i0 = tagP z (qN ws fs (i0 + 1) []) := by
    unfold questGo
    simp only [hw, hfs]
  generalize hR : qN ws fs (i0 + 1) [] = R at hgo
  obtain ⟨dx2, hp2⟩ := S2.ob
  -- found = [word]
  refine b_cons (s_set 2 (eX_evl (evl_lst (ea_cons (x := .str z) (ev_name 1 rfl) ea_nil) (by show 1 ≤ 100000; decide)) fun lf H3 hlf e3 h3 => ?_) sc_take_question.nd)
  have hlf0 : H lf = none := B2.free ⟨_, hp2⟩ hlf
  have nlp : lf ≠ p := fun e => by rw [e, hp0] at hlf0; cases hlf0
  have nld : lf ≠ d := fun e => by rw [e, S0.ls] at hlf0; cases hlf0
  have B3 : But p H H3 := B2.trans (ebut e3)
  -- for form in FORMS[word]
  refine b_cons (s_forTup (a := ft) (xs := fs.map V.str) 3 (PvQ A K ws R fs z p d lf l (i0 + 1) H) (ev_of (pe_ix ix_kdict pe_X pe_X (by intro _ _; rfl)) (ev_op (x := .ref fd) (y := .str z) (z := .ref ft) (ev_gl ⟨_, W.g, rfl⟩) (ev_name 1 rfl) fun H2 e2 Q q => ⟨fd, z, .ref ft, rfl, rfl, ⟨es, pn, _, W.D.at_, W.D.lit, hft, rfl⟩, q H2 (Ex.refl H2)⟩)) (hfq _) (fun H4 e4 => ?_) (fun k σ' H' hk hv => hfq H') (fun k x σ' H' hx hv => ?_) (fun σ' H' hv => ?_) (passes_of rfl) sc_take_question.nd)
  · exact ⟨i0 + 1, [], [], none, none, none, rfl, hR, B3.trans (ebut e4), (S2.ex e3).ex e4, e4 _ _ h3, .nil, rfl, by show 0 + (i0 + 1) ≤ i0 + 1; omega⟩
  · obtain ⟨j, ds, vs, fo, at', one', rfl, hg, b5, S5, l5, u5, p5, z5⟩ := hv
    obtain ⟨dx5, hp5⟩ := S5.ob
    rw [List.getElem?_map] at hx
    obtain ⟨fm, hfm, rfl⟩ := Option.map_eq_some_iff.mp hx
    have hdr : fs.drop k = fm :: fs.drop (k + 1) := by
      rw [List.drop_eq_getElem_cons (List.getElem?_eq_some_iff.mp hfm).1, (List.getElem?_eq_some_iff.mp hfm).2]
    rw [hdr] at hg
    unfold qN at hg
    -- at = scan.at
    refine b_cons (s_set 4 (eX_ev (ev_fld (v := .int (j : Nat)) (ev_name 0 rfl) hp5 O.cl (O.no "at" (by decide)) rfl) fun H6 e6 => ?_) sc_take_question.nd)
    -- one = take_told(scan)
    refine b_cons (s_set 5 (eX_of (pe_cl (E := E) ct hr (by decide) ps rfl (pa_cons pe_X pa_nil)) (eX_ev (ev_name 0 rfl) fun H7 e7 => ⟨p, d, ws, l, j, rfl, S5.ex (e6.trans e7), fun x j' v H8 hg8 b8 S8 u8 p8 => ?_, fun j' hg8 => ?_⟩)) sc_take_question.nd)
    · have B8 : But p H' H8 := (ebut (e6.trans e7)).trans b8
      obtain ⟨t1, t2, t3, t4⟩ := told_ok ws _ j [] x j' S5.hi (by decide) rfl hg8
      have t2 : szD x + j ≤ 0 + j' := t2
      rw [hg8] at hg
      obtain ⟨dx8, hp8⟩ := S8.ob
      have tkp : TupK K H' H8 := tupK_but B8 hp5 rfl
      have l8 := B8 _ _ nlp l5
      -- if not is_of_form(one, form): scan.at = at; scan.refuse()
      refine b_cons (s_if (k := !formD fm x) (et_not (et_val (ev_call cf hr (by decide) pass0 (ea_cons (ev_name 5 rfl) (ea_cons (x := .str fm) (ev_name 3 rfl) ea_nil)) fun H9 e9 Q q => ⟨v, x, fm, rfl, u8.ext e9, by omega, q⟩))) (fun hb H9 e9 => ?_) fun hb H9 e9 => b_nil ?_)
      · have hfx : formD fm x = false := by simpa using hb
        have hg : Sum.inl j = R := by
          have hg : (if formD fm x = true then qN ws (fs.drop (k + 1)) j' (ds ++ [x]) else Sum.inl j) = R := hg
          rw [if_neg (by rw [hfx]; decide)] at hg
          exact hg
        have hbad : questGo ws i0 = .inl j := by rw [hgo, ← hg]; rfl
        refine b_cons (s_fld (x := p) (C := A.scan) (dx := dx8) (eX_ev (ev_name 4 rfl) fun H10 e10 => ⟨_, ev_name 0 rfl, (e9.trans e10) _ _ hp8, by show 3 < 1000; decide, fun H11 e11 => ?_⟩) O.cl (O.no "at" (by decide)))
        rw [putAt]
        have E11 := (e9.trans e10).trans e11
        have S12 : ScanO A (L2.upd H11 p (.ins A.scan dx8 [("words", .ref d), ("line", .int l), ("at", .int (j : Nat))])) p d ws l j := ⟨⟨dx8, upd_same⟩, by rw [upd_ne S8.ne]; exact E11 _ _ S8.ls, S5.hi, S5.hn, S5.hw⟩
        have B12 : But p H (L2.upd H11 p (.ins A.scan dx8 [("words", .ref d), ("line", .int l), ("at", .int (j : Nat))])) := ((b5.trans B8).trans (ebut E11)).trans But.upd
        refine b_one (s_expr (e_meth0 M.refuse O.cl hr (by decide) ps (ev_name 0 rfl) upd_same (scanNo "refuse" (by decide +kernel) d l j) fun H13 e13 => ?_))
        exact ⟨p, d, ws, l, j, rfl, S12.ex e13, (k2 j hbad).of (B12.trans (ebut e13)) ⟨_, e13 _ _ upd_same⟩⟩
      · have hfx : formD fm x = true := by simpa using hb
        have hg : qN ws (fs.drop (k + 1)) j' (ds ++ [x]) = R := by
          have hg : (if formD fm x = true then qN ws (fs.drop (k + 1)) j' (ds ++ [x]) else Sum.inl j) = R := hg
          rw [if_pos hfx] at hg
          exact hg
        have l9 := e9 _ _ l8
        have hvl := u5.len
        have hdl := szL_len ds
        -- found.append(one)
        refine b_one (s_expr (e_append (ev_name 2 rfl) ⟨_, l9⟩ fun H10 e10 => eX_ev (ev_name 5 rfl) fun H11 e11 => ⟨_, (e10.trans e11) _ _ l9, ?_, ?_⟩))
        · rw [List.length_cons]
          have := S8.hi
          omega
        · have E11 := (e9.trans e10).trans e11
          have tk2 : TupK K H8 (L2.upd H11 lf (.lst ((V.str z :: vs) ++ [v]))) := (tupK_ex E11).trans (tupK_upd (E11 _ _ l8) rfl)
          refine ⟨j', ds ++ [x], vs ++ [v], _, _, _, rfl, hg, ((b5.trans B8).trans (ebut E11)).mut hlf0, (S8.ex E11).upd nlp nld, upd_same, (UrAll.keep (tkp.trans tk2) p5 u5).app (.cons (u8.keep tk2 p8) .nil), ?_, ?_⟩
          · rw [plainL_app, p5]
            show (true && (plainD x && true)) = true
            rw [p8]
            rfl
          · rw [szL_snoc]
            omega
    · rw [hg8] at hg
      have hg : Sum.inl j' = R := hg
      have hbad : questGo ws i0 = .inl j' := by rw [hgo, ← hg]; rfl
      exact (k2 j' hbad).of (b5.trans (ebut (e6.trans e7))) ⟨_, (e6.trans e7) _ _ hp5⟩
  · obtain ⟨j, ds, vs, fo, at', one', rfl, hg, b5, S5, l5, u5, p5, z5⟩ := hv
    have hdr : fs.drop (fs.map V.str).length = [] := by rw [List.length_map]; exact List.drop_length
    rw [hdr] at hg
    have hg : Sum.inr (ds, j) = R := hg
    have hfin : questGo ws i0 = .inr ((z, ds), j) := by rw [hgo, ← hg]; rfl
    have hzl : z.length ≤ 100000 := S0.hw z (List.mem_of_getElem? hw)
    refine b_one (s_retX (eX_of (pe_callTy call_tuple_of rfl (T.f "tuple") (by decide +kernel) (pa_cons pe_X pa_nil) (by decide) (by decide)) (eX_ev (ev_name 2 rfl) fun H6 e6 => ⟨lf, _, rfl, .inl ⟨sq_of (e6 _ _ l5), fun r hr6 => ?_⟩⟩)))
    have E7 := e6.trans (Ex.new (o := .tup (V.str z :: vs)) hr6)
    exact k1 z ds j (.ref r) _ hfin (b5.trans (ebut E7)) (S5.ex E7) (.tup (st_of upd_same) (.cons (.str z hzl) (u5.ext E7))) p5
end
end K96

set_option Elab.async false
set_option linter.all false
set_option maxRecDepth 100000
set_option maxHeartbeats 4000000
/-! read_question. -/
namespace K96
open PySem PySem.Spec PyProof.Rows L2 Evl
def readQ (t : Str) : (Nat × Nat) ⊕ (Str × List PyData) := endOf t (questGo (wordsOf (firstRow t)) 0)
def spReadQ (A : Adr) (K : Fr) : Sp := fun vs H Q E => ∃ (v : V) (n : String), vs = [v] ∧ VT K H v n ∧ (∀ t, v = .str t → t.length ≤ 3000 ∧ (∀ z ds x H', readQ t = .inr (z, ds) → Ex H H' → Ur K H' x (.tuple (.str z :: ds)) → plainL ds = true → Q x H') ∧ ∀ a b : Nat, readQ t = .inl (a, b) → BadX A H E a b) ∧ (n ≠ "str" → BadX A H E 0 0)
section
variable {P : Program} {w : World} {K : Fr} {mg : Str → Option Value} {base : Heap} {A : Adr}
theorem ok_read_question (T : Txt K mg) (M : ScanM P w K mg base A) (L : LinesM P w K mg base A) {kt : Nat} (hkt : 8 ≤ kt) (ct : Cl P w K mg base (L2.CX P w) kt "take_question" (spTQuest A K)) (D : Df K mg d_read_question) : ClK P w K mg base (L2.CX P w) (kt + 1) "read_question" "text" (spReadQ A K) := by
  refine D.clK sc_read_question (fun vs H Q E h => ?_) (fun _ _ _ _ _ _ _ => rfl) (fun _ _ _ _ _ _ _ => rfl) fun f cdv Ar outer s H vs Q E hr h => ⟨_, pb_X, ?_⟩
  · obtain ⟨v, n, rfl, _⟩ := h
    rfl
  obtain ⟨v, n, rfl, hv, k1, k2⟩ := h
  have ps : Passes (L2.CX P w) (cxOf (L2.CX P w) P w K mg base ["text", "lines", "scan", "found"] d_read_question.qual d_read_question.scope f cdv Ar outer s H E) E := passes_call (takes_of rfl rfl rfl rfl) fun _ _ _ _ h => h
  -- lines = Lines(text)
  refine b_cons (s_set 1 (e_make L.ini hr (by omega) ps (a_cons (eX_ev (ev_name 0 rfl) fun H1 e1 => a_nil fun x dx hx hdx hne => ?_))) sc_read_question.nd)
  have e2 : Ex H1 (L2.upd (L2.upd H1 dx (.own x)) x (.ins A.lines dx [])) := (Ex.new hdx).trans (Ex.new (by rw [upd_ne (Ne.symm hne)]; exact hx))
  have E2 := e1.trans e2
  have hx0 : H x = none := fresh_back e1 hx
  refine ⟨x, dx, v, n, rfl, upd_same, hv.mono E2, fun t ht => ?_, fun hn => (k2 hn).bad E2 hx0⟩
  obtain ⟨hl, g1, g2⟩ := k1 t ht
  refine ⟨by omega, fun d H3 b3 L3 => ⟨rfl, ?_⟩⟩
  have E3 : Ex H H3 := fun b o hb => b3 b o (fun z => by rw [z, hx0] at hb; cases hb) (E2 _ _ hb)
  obtain ⟨dx3, hx3⟩ := L3.ob
  -- scan = lines.take()
  refine b_cons (s_set 2 (e_meth0 L.take L.O.cl hr (by omega) ps (ev_name 1 rfl) hx3 (linesNo "take" (by decide +kernel) d 0) fun H4 e4 => ⟨x, d, _, 0, firstRow t, rfl, L3.ex e4, rows_head t, fun sc sd H5 b5 L5 S5 hs hsd => ?_⟩) sc_read_question.nd)
  have E4 := E3.trans e4
  have E5 : Ex H H5 := fun b o hb => b5 b o (fun z => by rw [z, hx0] at hb; cases hb) (E4 _ _ hb)
  have hs0 : H sc = none := fresh_back E4 hs
  obtain ⟨dx5, hx5⟩ := L5.ob
  have nxs : x ≠ sc := fun e => by
    have h4 := e4 _ _ hx3
    rw [e, hs] at h4
    cases h4
  have nds : d ≠ sc := fun e => by
    have h4 := e4 _ _ L3.ls
    rw [e, hs] at h4
    cases h4
  have hwl : (wordsOf (firstRow t)).length ≤ 3900 := by
    have h1 := first_len t
    have h2 := words_len (firstRow t)
    omega
  -- found = take_question(scan)
  refine b_cons (s_set 3 (eX_of (pe_cl ct hr (by omega) ps rfl (pa_cons pe_X pa_nil)) (eX_ev (ev_name 2 rfl) fun H6 e6 => ⟨sc, sd, _, _, 0, rfl, S5.ex e6, hwl, fun z ds j y H7 hg b7 S7 I7 p7 => ?_, fun j hg => ?_⟩)) sc_read_question.nd)
  · have E6 := E5.trans e6
    have E7 : Ex H H7 := fun b o hb => b7 b o (fun z => by rw [z, hs0] at hb; cases hb) (E6 _ _ hb)
    obtain ⟨dx7, hs7⟩ := S7.ob
    have L7 : LinesO A H7 x d (rowsOf t) (0 + 1) := (L5.ex e6).keep (fun o h => b7 _ _ nxs h) fun o h => b7 _ _ nds h
    -- scan.finish()
    refine b_cons (s_expr (e_meth0 M.finish M.O.cl hr (by omega) ps (ev_name 2 rfl) hs7 (scanNo "finish" (by decide +kernel) sd 0 j) fun H8 e8 => ⟨sc, sd, _, _, j, rfl, S7.ex e8, fun hj H9 e9 => ?_, fun hj => ?_⟩))
    · have E9 := (E7.trans e8).trans e9
      have L9 := (L7.ex e8).ex e9
      obtain ⟨dx9, hx9⟩ := L9.ob
      have hnj : decide (j < (wordsOf (firstRow t)).length) = false := decide_eq_false (by omega)
      -- lines.finish()
      refine b_cons (s_expr (e_meth0 L.finish L.O.cl hr (by omega) ps (ev_name 1 rfl) hx9 (linesNo "finish" (by decide +kernel) d _) fun H10 e10 => ⟨x, d, _, _, rfl, L9.ex e10, fun hj1 H11 e11 => ?_, fun hj1 => ?_⟩))
      · have E11 := (E9.trans e10).trans e11
        have hn1 : decide (1 < (rowsOf t).length) = false := decide_eq_false (by omega)
        refine b_one (s_ret (ev_name 3 rfl) fun H12 e12 => g1 z ds y H12 ?_ (E11.trans e12) (((((I7.ext e8).ext e9).ext e10).ext e11).ext e12) p7)
        unfold readQ
        rw [hg]
        show (if _ then _ else if _ then _ else _) = _
        rw [if_neg (by rw [hnj]; decide), if_neg (by rw [hn1]; decide)]
      · refine (g2 1 0 ?_).bad (E9.trans e10) hx0
        unfold readQ
        rw [hg]
        show (if _ then _ else if _ then _ else _) = _
        rw [if_neg (by rw [hnj]; decide), if_pos (decide_eq_true hj1)]
    · refine (g2 0 j ?_).bad (E7.trans e8) hs0
      unfold readQ
      rw [hg]
      show (if _ then _ else _) = _
      rw [if_pos (decide_eq_true hj)]
  · refine (g2 0 j ?_).bad (E5.trans e6) hs0
    unfold readQ
    rw [hg]
    rfl
end
end K96

set_option Elab.async false
set_option linter.all false
set_option maxRecDepth 100000
set_option maxHeartbeats 4000000
/-! A comprehension with a test; the law's is_name, is_digits. -/
namespace K96
open PySem PySem.Spec PyProof.Rows L2 Evl
theorem take_filter {α β : Type} {p : α → Bool} {f : α → β} {xs : List α} {k : Nat} {x : α} (h : xs[k]? = some x) : ((xs.take (k + 1)).filter p).map f = ((xs.take k).filter p).map f ++ (if p x = true then [f x] else []) := by
  have : xs.take (k + 1) = xs.take k ++ [x] := by
    rw [List.take_add_one, h]
    rfl
  rw [this, List.filter_append, List.map_append]
  congr 1
  by_cases q : p x = true
  · rw [if_pos q, List.filter_cons_of_pos q]
    rfl
  · rw [if_neg q, List.filter_cons_of_neg q]
    rfl
section
variable {X : Cx} {elt iter c : Expr} {n : Str} {px pos : Pos} {scope : Scope} {σ : Sg} {H : Hp} {i : Nat}
/-- [elt for n in iter if c] -/
theorem evl_lcIf {xs : List V} (f : V → V) (p : V → Bool) (hi : Its1 X n px iter σ H xs) (hN : X.N.Nodup) (ok : BlkOk X.N X.env.scope scope [(n, i)])
    (hg : ∀ (s : Shared) (H : Hp) (C : Addr) (cl : List (Str × Addr)) (fp : List Addr), PG (blkX X scope s H C cl fp) (.Name n px) (gName i)) (hl : xs.length < 1000000)
    (ht : ∀ x, x ∈ xs → ∀ H1, Ex H H1 → ∀ (s : Shared) (H0 : Hp) (C : Addr) (cl : List (Str × Addr)) (fp : List Addr), ET (blkX X scope s H0 C cl fp) c (σ.set i (some x)) H1 (p x))
    (he : ∀ x, x ∈ xs → p x = true → ∀ H1, Ex H H1 → ∀ (s : Shared) (H0 : Hp) (C : Addr) (cl : List (Str × Addr)) (fp : List Addr), EV (blkX X scope s H0 C cl fp) elt (σ.set i (some x)) H1 (f x))
    (hc : X.calm = true := by rfl) (hs : ∀ x, foldedSetIterable iter X.env x = pure x := by intro _; rfl) : EVL X (.ListComp elt [⟨.Name n px, iter, [c], 0⟩] scope pos) σ H ((xs.filter p).map f) := by
  intro H1 e1 Q q
  obtain ⟨wi, hpi, hw⟩ := hi.ex
  refine eX_of (pe_lc (own := [(n, i)]) (tt := tB2 X scope c) (te := eB X scope elt) (g := gName i) hc hN hpi ok hg (fun s H C cl fp => pts_one ⟨fun pins s1 σ1 H2 Q1 I h => h s H C cl fp pins s1 I⟩) (fun s H C cl fp => ⟨fun pins s1 σ1 H2 Q1 I h => h s H C cl fp pins s1 I⟩) hs) ?_
  refine hw H1 e1 _ fun J H2 G e2 g2 gm W Dl hD => ?_
  have hw1 : ∀ x : V, wipe ((wipe σ [i]).set i (some x)) [i] = wipe σ [i] := fun x => by
    show ((σ.set i none).set i (some x)).set i none = σ.set i none
    rw [List.set_set, List.set_set]
  have hw2 : ∀ x : V, (wipe σ [i]).set i (some x) = σ.set i (some x) := fun x => by
    show (σ.set i none).set i (some x) = σ.set i (some x)
    rw [List.set_set]
  refine lc_it W (fun k H' => H2 Dl = none ∧ Ex H2 H' ∧ k ≤ xs.length ∧ H' Dl = some (.lst (((xs.take k).filter p).map f))) ⟨hD, Ex.new hD, Nat.zero_le _, upd_same⟩ (fun k H' hk p => gm _ _ p.2.1 g2) (fun k x H3 H4 hk pv y => ?_) fun H' pv => ?_
  · obtain ⟨rfl, hx⟩ := y
    obtain ⟨p1, p2, p3, p4⟩ := pv
    have hm := List.mem_of_getElem? hx
    have hlen : (((xs.take k).filter p).map f).length < 1000000 := by
      rw [List.length_map]
      have h1 := List.length_filter_le p (xs.take k)
      rw [List.length_take] at h1
      omega
    show wipe ((wipe σ [i]).set i (some x)) [i] = wipe σ [i] ∧ tB2 X scope c ((wipe σ [i]).set i (some x)) _ _
    refine ⟨hw1 x, fun s H0 C cl fp => ?_⟩
    rw [hw2 x]
    refine ht x hm _ (e1.trans (e2.trans p2)) s H0 C cl fp _ (Ex.refl _) _ fun H5 e5 => ?_
    by_cases q : p x = true
    · rw [if_pos q]
      intro s' H0' C' cl' fp'
      show eX (blkX X scope s' H0' C' cl' fp') elt ((wipe σ [i]).set i (some x)) _ _
      rw [hw2 x]
      refine he x hm q _ (e1.trans (e2.trans (p2.trans e5))) s' H0' C' cl' fp' _ (Ex.refl _) _ fun H6 e6 => ⟨_, e6 _ _ (e5 _ _ p4), Nat.lt_of_lt_of_le hlen (by decide), p1, Ex.mut ((p2.trans e5).trans e6) p1, hk, ?_⟩
      rw [take_filter hx, if_pos q]
      exact upd_same
    · rw [if_neg q]
      refine ⟨p1, p2.trans e5, hk, ?_⟩
      rw [take_filter hx, if_neg q, List.append_nil]
      exact e5 _ _ p4
  · obtain ⟨p1, p2, p3, p4⟩ := pv
    rw [List.take_length] at p4
    exact q Dl H' (fresh_back e2 p1) (e2.trans p2) p4
end
end K96

set_option Elab.async false
set_option linter.all false
set_option maxRecDepth 100000
set_option maxHeartbeats 4000000
/-! The law's is_name, is_digits. -/
namespace K96
open PySem PySem.Spec PyProof.Rows L2 Evl
theorem none_bad (g : Nat → Bool) (f : V → V) : ∀ l : List Nat, decide ((((l.map fun c => V.str ⟨#[c]⟩).filter fun v => !g (codeOf v)).map f).length = 0) = l.all g
  | [] => rfl
  | c :: l => by
    have h := none_bad g f l
    rw [List.map_cons, List.all_cons]
    have e : codeOf (V.str ⟨#[c]⟩) = c := rfl
    cases q : g c with
    | true =>
      rw [List.filter_cons_of_neg (by rw [e, q]; decide), h]
      rfl
    | false =>
      rw [List.filter_cons_of_pos (by rw [e, q]; rfl)]
      rfl
section
variable {X : Cx} {a : Expr} {σ : Sg} {H : Hp}
/-- a new list == [] -/
theorem ev_eqNilN {p2 pos : Pos} {xs : List V} (hu : X.A.units + 64 < cLine) (ha : EVL X a σ H xs) (hm : behindInMarks .Eq (.List [] p2) = false := by rfl) : EV X (.Compare a [.Eq] [.List [] p2] pos) σ H (.bl (decide (xs.length = 0))) :=
  ev_of (pe_cmpR (op_eqNil hu) pe_X pe_X hm) fun H1 e1 Q q => ha H1 e1 _ fun p H2 _ e2 hp => evl_lst ea_nil (Nat.zero_le _) H2 (e1.trans e2) _ fun p' H3 _ e3 hp' => ⟨p, p', xs, [], rfl, rfl, sq_of (e3 _ _ hp), sq_of hp', .inr rfl, q H3 (e2.trans e3)⟩
end
section
variable {P : Program} {w : World} {K : Fr} {mg : Str → Option Value} {base : Heap}
theorem len_chain (z : Str) (m : Nat) : (decide ((1 : Int) ≤ (z.length : Int)) && decide ((z.length : Int) ≤ (m : Int))) = (decide (1 ≤ z.length) && decide (z.length ≤ m)) := by
  congr 1 <;> exact decide_eq_decide.mpr (by omega)
theorem ok_law_is_name (T : Txt K mg) (D : Df K mg d_law_is_name) : Cl P w K mg base CX0 1 "_law_is_name" (spStr isName) := by
  refine D.cl sc_law_is_name (fun vs H Q E h => ?_) (fun _ _ _ _ _ _ us hl => match us, hl with | [_], _ => rfl) fun f cdv A outer s H vs Q E hr h => ⟨_, pb_X, ?_⟩
  · obtain ⟨z, rfl, _⟩ := h
    rfl
  obtain ⟨z, rfl, hz, k⟩ := h
  have hz2 : z.length ≤ sizeLine := Nat.le_trans hz (by decide)
  refine b_one (s_ret (v := .bl (isName z)) ?_ k)
  have e : isName z = ((decide ((1 : Int) ≤ (z.length : Int)) && decide ((z.length : Int) ≤ (8 : Nat))) && decide ((((z.cps.toList.map fun c => V.str ⟨#[c]⟩).filter fun v => !decide (codeOf v ∈ letters.cps.toList)).map id).length = 0)) := by
    rw [len_chain, none_bad (fun c => decide (c ∈ letters.cps.toList))]
    rfl
  rw [e]
  refine ev_and (ev_chain op_le op_le ev_int (ev_fun call_len (T.f "len") (ea_cons (ev_name 0 rfl) ea_nil) (fun H1 _ Q q => ⟨_, z.length, rfl, ⟨hz2, rfl⟩, q H1 (Ex.refl H1)⟩)) rv_I0 fun _ => ⟨ev_int, rv_I0⟩) fun _ => ev_one (ev_eqNilN hr.units ?_)
  refine evl_lcIf (i := 1) id (fun v => !decide (codeOf v ∈ letters.cps.toList)) (its_str (ev_name 0 rfl)) sc_law_is_name.nd (blkOk_by (N := ["word", "sign"]) (sc := defScope s_law_is_name) (by decide +kernel)) (fun _ _ _ _ _ => pg_name sc_law_is_name.nd rfl (Or.inl rfl)) (by rw [List.length_map, Array.length_toList]; exact Nat.lt_of_le_of_lt hz (by decide : 100000 < 1000000)) (fun x hx H2 e2 s2 H0 C cl fp => ?_) fun x hx _ H2 e2 s2 H0 C cl fp => ev_name 1 rfl
  obtain ⟨c, hc, rfl⟩ := List.mem_map.mp hx
  exact et_cmp op_notIn_sign (ev_name 1 rfl) ev_str fun H3 _ Q q => ⟨c, _, rfl, rfl, q H3 (Ex.refl H3)⟩
theorem ok_law_is_digits (T : Txt K mg) (D : Df K mg d_law_is_digits) : Cl P w K mg base CX0 1 "_law_is_digits" (spStr isDg) := by
  refine D.cl sc_law_is_digits (fun vs H Q E h => ?_) (fun _ _ _ _ _ _ us hl => match us, hl with | [_], _ => rfl) fun f cdv A outer s H vs Q E hr h => ⟨_, pb_X, ?_⟩
  · obtain ⟨z, rfl, _⟩ := h
    rfl
  obtain ⟨z, rfl, hz, k⟩ := h
  have hz2 : z.length ≤ sizeLine := Nat.le_trans hz (by decide)
  refine b_one (s_ret (v := .bl (isDg z)) ?_ k)
  have e : isDg z = ((decide ((1 : Int) ≤ (z.length : Int)) && decide ((z.length : Int) ≤ (12 : Nat))) && (decide ((((z.cps.toList.map fun c => V.str ⟨#[c]⟩).filter fun v => !decide (codeOf v ∈ digits.cps.toList)).map id).length = 0) && zeroV z)) := by
    rw [len_chain, none_bad (fun c => decide (c ∈ digits.cps.toList)), ← Bool.and_assoc]
    rfl
  rw [e]
  refine ev_and (ev_chain op_le op_le ev_int (ev_fun call_len (T.f "len") (ea_cons (ev_name 0 rfl) ea_nil) (fun H1 _ Q q => ⟨_, z.length, rfl, ⟨hz2, rfl⟩, q H1 (Ex.refl H1)⟩)) rv_I0 fun _ => ⟨ev_int, rv_I0⟩) fun hb => ev_and (ev_eqNilN hr.units ?_) fun _ => ev_one ?_
  · refine evl_lcIf (i := 1) id (fun v => !decide (codeOf v ∈ digits.cps.toList)) (its_str (ev_name 0 rfl)) sc_law_is_digits.nd (blkOk_by (N := ["word", "sign"]) (sc := defScope s_law_is_digits) (by decide +kernel)) (fun _ _ _ _ _ => pg_name sc_law_is_digits.nd rfl (Or.inl rfl)) (by rw [List.length_map, Array.length_toList]; exact Nat.lt_of_le_of_lt hz (by decide : 100000 < 1000000)) (fun x hx H2 e2 s2 H0 C cl fp => ?_) fun x hx _ H2 e2 s2 H0 C cl fp => ev_name 1 rfl
    obtain ⟨c, hc, rfl⟩ := List.mem_map.mp hx
    exact et_cmp op_notIn_sign (ev_name 1 rfl) ev_str fun H3 _ Q q => ⟨c, _, rfl, rfl, q H3 (Ex.refl H3)⟩
  · have hl : 1 ≤ z.length := by
      rw [len_chain] at hb
      exact of_decide_eq_true (Bool.and_eq_true_iff.mp hb).1
    have hg : z.cps[(0 : Int).toNat]? = some (z.cps.getD 0 0) := by
      have h3 : 0 < z.cps.size := hl
      show z.cps[0]? = _
      rw [Array.getElem?_eq_getElem h3]
      simp [Array.getD, h3]
    exact ev_or (ev_cmp op_eq (ev_name 0 rfl) ev_str (rv_eq rfl)) fun _ => ev_one (ev_cmp op_ne (ev_sign (by decide) (by omega) (by decide) hg (ev_name 0 rfl) ev_int) ev_str (rv_ne rfl))
end
end K96

set_option Elab.async false
set_option linter.all false
set_option maxRecDepth 100000
set_option maxHeartbeats 4000000
/-! The law's single. -/
namespace K96
open PySem PySem.Spec PyProof.Rows L2 Evl
def spLSingle (K : Fr) : Sp := fun vs H Q _ => ∃ z, vs = [.str z] ∧ z.length ≤ 100000 ∧ (∀ x, singleW z = some x → ∀ p v H', H p = none → Ex H H' → H' p = some (.lst [v]) → Ur K H' v x → Q (.ref p) H') ∧ (singleW z = none → Gives .non H Q)
section
variable {X : Cx} {a b c : Expr} {p pos : Pos} {σ : Sg} {H : Hp} {D : Ends} {v : V}
theorem evl_1 (h : EV X a σ H v) (hs : starEach [a] X.env = (false, eval a X.env) :: starEach [] X.env := by rfl) : EVL X (.List [a] pos) σ H [v] := evl_lst (ea_cons h ea_nil hs) (by show 1 ≤ 100000; decide)
end
section
variable {P : Program} {w : World} {K : Fr} {mg : Str → Option Value} {base : Heap}
theorem ok_law_single (T : Txt K mg) (cn : Cl P w K mg base CX0 1 "_law_is_name" (spStr isName)) (cd : Cl P w K mg base CX0 1 "_law_is_digits" (spStr isDg)) (D : Df K mg d_law_single) : Cl P w K mg base CX0 2 "_law_single" (spLSingle K) := by
  refine D.cl sc_law_single (fun vs H Q E h => ?_) (fun _ _ _ _ _ _ us hl => match us, hl with | [_], _ => rfl) fun f cdv A outer s H vs Q E hr h => ⟨_, pb_X, ?_⟩
  · obtain ⟨z, rfl, _⟩ := h
    rfl
  obtain ⟨z, rfl, hz, k1, k2⟩ := h
  have htl : (tail1 z).length ≤ 100000 := Nat.le_trans (cut_len _ _ _) hz
  refine b_cons (s_if (k := decide (V.str z = V.str "-")) (et_cmp op_eq (ev_name 0 rfl) ev_str (rv_eq rfl)) (fun hb H1 e1 => ?_) fun hb H1 e1 => b_nil ?_)
  · refine b_one (s_retX (eX_evl (evl_1 ev_non) fun p H2 hp e2 h2 => k1 .none ?_ p _ H2 (fresh_back e1 hp) (e1.trans e2) h2 .non))
    unfold singleW
    rw [if_pos hb]
  refine b_cons (s_if (k := decide (V.str (head1 z) = V.str "=")) (et_cmp op_eq (ev_upto (ev_name 0 rfl) hz) ev_str (rv_eq rfl)) (fun hc H2 e2 => ?_) fun hc H2 e2 => b_nil ?_)
  · have e : singleW z = if isMark (tail1 z) = true then some (.str (tail1 z)) else none := by
      unfold singleW
      rw [if_neg (by rw [hb]; decide), if_pos hc]
    have E2 := e1.trans e2
    refine b_one (s_retX (e_ife (tX_et (k := isMark (tail1 z)) (et_w (ew_or (et_inT (ev_from (ev_name 0 rfl) hz) (evu_tup (ea_cons ev_str (ea_cons ev_str ea_nil)) (by show 2 ≤ 100000; decide)) rfl rfl) fun _ => ew_or1 (et_val (ev_call cn hr (by decide) pass0 (ea_cons (ev_from (ev_name 0 rfl) hz) ea_nil) fun H1 _ Q q => ⟨_, rfl, htl, q⟩)))) fun H3 e3 => ?_)))
    by_cases q : isMark (tail1 z) = true
    · rw [if_pos q]
      rw [if_pos q] at e
      exact eX_evl (evl_1 (ev_from (ev_name 0 rfl) hz)) fun p H4 hp e4 h4 => k1 _ e p _ H4 (fresh_back (E2.trans e3) hp) ((E2.trans e3).trans e4) h4 (.str _ htl)
    · rw [if_neg q]
      rw [if_neg q] at e
      exact eX_ev ev_non fun H4 e4 => k2 e H4 ((E2.trans e3).trans e4)
  have e : singleW z = (signed z).map .int := by
    unfold singleW
    rw [if_neg (by rw [hb]; decide), if_neg (by rw [hc]; decide)]
  have E2 := e1.trans e2
  refine b_cons (s_if (k := decide (V.str z = V.str "-0") || !isDg (unsigned z)) (et_w (ew_or (et_cmp op_eq (ev_name 0 rfl) ev_str (rv_eq rfl)) fun _ => ew_or1 (et_not (et_val (ev_call cd hr (by decide) pass0 (ea_cons (x := .str (unsigned z)) ?_ ea_nil) fun H1 _ Q q => ⟨_, rfl, ?_, q⟩))))) (fun hd H3 e3 => ?_) fun hd H3 e3 => b_nil ?_)
  · refine ev_ife (k := decide (V.str (head1 z) = V.str "-")) (et_cmp op_eq (ev_upto (ev_name 0 rfl) hz) ev_str (rv_eq rfl)) (fun q => ?_) fun q => ?_
    · unfold unsigned
      rw [if_pos q]
      exact ev_from (ev_name 0 rfl) hz
    · unfold unsigned
      rw [if_neg (by rw [q]; decide)]
      exact ev_name 0 rfl
  · unfold unsigned
    split
    · exact htl
    · exact hz
  · refine b_one (s_ret ev_non fun H4 e4 => k2 ?_ H4 ((E2.trans e3).trans e4))
    rw [e]
    unfold signed
    rw [if_pos hd]
    rfl
  · obtain ⟨n, h1, h2⟩ := signed_some hd
    refine b_one (s_retX (eX_evl (evl_1 (v := .int n) ?_) fun p H4 hp e4 h4 => k1 (.int n) ?_ p _ H4 (fresh_back (E2.trans e3) hp) ((E2.trans e3).trans e4) h4 (.int n)))
    · exact ev_of (pe_callTy call_int_str rfl (T.f "int") (by decide +kernel) (pa_cons pe_X pa_nil) (by decide) (by decide)) fun H1 e1 Q q => (show EV _ _ _ _ (.str z) from ev_name 0 rfl) H1 e1 _ fun H2 e2 => ⟨z, n, rfl, h1, h2, q H2 e2⟩
    · rw [e]
      unfold signed
      rw [if_neg (by rw [hd]; decide), h1]
      rfl
end
end K96

set_option Elab.async false
set_option linter.all false
set_option maxRecDepth 100000
set_option maxHeartbeats 4000000
/-! The law's taken: toldGo. -/
namespace K96
open PySem PySem.Spec PyProof.Rows L2 Evl
section
variable {X : Cx} {st : Stmt} {rest : List Stmt} {D : Ends} {σ : Sg} {H : Hp}
/-- a word that holds behind a statement -/
theorem b_mid (M : Sg → Hp → Prop) (h : sX X st { D with nx := M } σ H) (k : ∀ σ1 H1, M σ1 H1 → bX X rest D σ1 H1) : bX X (st :: rest) D σ H := b_cons fun pins s I => thn (h pins s I) fun f s' p => by
  cases f with
  | next =>
    obtain ⟨σ1, H1, J, m⟩ := p
    exact ⟨σ1, H1, J, k σ1 H1 m⟩
  | brk => exact p
  | cont => exact p
  | ret u => exact p
/-- a, b = x, y -/
theorem s_par (i j : Nat) {x y : Str} {a b : Expr} {px py pt pos : Pos} {kt k2 pt2} (h : aX X [a, b] σ H fun vs H1 => ∃ v w, vs = [v, w] ∧ D.nx ((σ.set i (some v)).set j (some w)) H1) (hN : X.N.Nodup) (hc : X.calm = true := by rfl) (hi : X.N[i]? = some x := by rfl) (hj : X.N[j]? = some y := by rfl) (hij : i ≠ j := by decide)
    (hx : X.env.scope.names.lookup x = some .local := by rfl) (hy : X.env.scope.names.lookup y = some .local := by rfl)
    (hw : swappedStores [.Tuple [.Name x px, .Name y py] kt pt] (.Tuple [a, b] k2 pt2) X.env = pure (some [x, y]) := by rfl)
    (hs : swapsWithSole [.Tuple [.Name x px, .Name y py] kt pt] (.Tuple [a, b] k2 pt2) pos.line X.env = pure false := by rfl) : sX X (.Assign [.Tuple [.Name x px, .Name y py] kt pt] (.Tuple [a, b] k2 pt2) pos) D σ H :=
  sX_of (ps_par hc hN hi hj hij hx hy pa_X hw hs) h
end
/-- the law's take: what stands told from the word i on -/
def spLTaken (K : Fr) : Sp := fun vs H Q _ => ∃ a ws i, vs = [.ref a, .int (i : Nat)] ∧ SqL K H a (ws.map V.str) ∧ i ≤ ws.length ∧ ws.length ≤ 100000 ∧ (∀ z ∈ ws, z.length ≤ 100000) ∧
  (∀ x j, toldGo ws (ws.length + 1 - i) i [] = .inr (x, j) → ∀ p v H', H p = none → Ex H H' → H' p = some (.lst [v, .int (j : Nat)]) → Ur K H' v x → plainD x = true → Q (.ref p) H') ∧ (∀ j : Nat, toldGo ws (ws.length + 1 - i) i [] = .inl j → Gives (.int j) H Q)
/-- the state at a turn's start -/
def WLT (K : Fr) (ws : List Str) (R : Nat ⊕ (PyData × Nat)) (a0 lo : Addr) (H : Hp) (m : Nat) (σ' : Sg) (H' : Hp) : Prop :=
  ∃ i st rs wv dv, m = ws.length + 1 - i ∧ i ≤ ws.length ∧ st.length ≤ 10 ∧ σ' = [some (.ref a0), some (.int (i : Nat)), some (.ref lo), wv, dv] ∧ Ex H H' ∧ H' lo = some (.lst (rs.map V.ref).reverse) ∧ StkO K H' i rs st ∧ (∀ a ∈ rs, H a = none ∧ a ≠ lo) ∧ toldGo ws m i st = R
/-- behind the branches -/
def PLT (K : Fr) (ws : List Str) (R : Nat ⊕ (PyData × Nat)) (a0 lo : Addr) (i : Nat) (H : Hp) (σ' : Sg) (H' : Hp) : Prop :=
  ∃ st rs wv dv, i < ws.length ∧ st.length ≤ 10 ∧ σ' = [some (.ref a0), some (.int (i : Nat)), some (.ref lo), wv, some dv] ∧ Ex H H' ∧ H' lo = some (.lst (rs.map V.ref).reverse) ∧ StkO K H' i rs st ∧ (∀ a ∈ rs, H a = none ∧ a ≠ lo) ∧
    ((dv = .non ∧ 0 < st.length ∧ toldGo ws (ws.length - i) (i + 1) st = R) ∨ ∃ q v x, dv = .ref q ∧ H' q = some (.lst [v]) ∧ q ∉ rs ∧ q ≠ lo ∧ Ur K H' v x ∧ plainD x = true ∧ fin2 (toldGo ws (ws.length - i)) x (i + 1) st = R)
section
variable {P : Program} {w : World} {K : Fr} {mg : Str → Option Value} {base : Heap}
theorem ok_law_taken (T : Txt K mg) (cs : Cl P w K mg base CX0 2 "_law_single" (spLSingle K)) (D : Df K mg d_law_taken) : Cl P w K mg base CX0 3 "_law_taken" (spLTaken K) := by
  refine D.cl sc_law_taken (fun vs H Q E h => ?_) (fun _ _ _ _ _ _ us hl => match us, hl with | [_, _], _ => rfl) fun f cdv Ar outer s H vs Q E hr h => ⟨_, pb_X, ?_⟩
  · obtain ⟨a, ws, i, rfl, _⟩ := h
    rfl
  obtain ⟨a0, ws, i0, rfl, hws, hi0, hn, hz, k1, k2⟩ := h
  generalize hR : toldGo ws (ws.length + 1 - i0) i0 [] = R at k1 k2
  -- open_ones = []
  refine b_cons (s_set 2 (e_lst (a_nil ⟨Nat.zero_le _, fun lo hlo => ?_⟩)) sc_law_taken.nd)
  have X0 : Ex H (L2.upd H lo (.lst [])) := Ex.new hlo
  refine b_cons (s_while (WLT K ws R a0 lo H) (ws.length + 1 - i0)
    ⟨i0, [], [], none, none, rfl, hi0, Nat.zero_le _, rfl, X0, upd_same, .nil, fun a ha => (nomatch ha), hR⟩ (passes_of rfl) fun m σ' H' hW => ?_)
  obtain ⟨i, st, rs, wv, dv, rfl, hi, hsi, rfl, eH, hl, stk, fr, hgo⟩ := hW
  have hm : ws.length + 1 - i = (ws.length - i) + 1 := by omega
  rw [hm] at hgo
  have hsl := stk.len
  refine tX_et (k := decide ((i : Int) < ((ws.map V.str).length : Int))) (et_cmp op_lt (ev_name 1 rfl) (ev_lenL (T.f "len") (ev_name 0 rfl) (.inl (ex_l eH hws))) rv_I0) fun H1 e1 => ?_
  have E1 := eH.trans e1
  by_cases hlt : i < ws.length
  case neg =>
    rw [if_neg (by rw [List.length_map]; intro z; have := of_decide_eq_true z; omega)]
    have hw : ws[i]? = none := List.getElem?_eq_none_iff.mpr (by omega)
    refine b_one (s_ret (ev_name 1 rfl) fun H2 e2 => k2 i ?_ H2 (E1.trans e2))
    rw [← hgo]
    unfold toldGo
    have ha : aheadV ws i = .non := by unfold aheadV; rw [hw]
    have d1 : ∀ s : Str, decide (V.non = V.str s) = false := fun s => decide_eq_false fun z => nomatch z
    rw [ha, hw, d1, d1, Bool.and_false]
    rfl
  rw [if_pos (by rw [List.length_map]; exact decide_eq_true (by omega))]
  obtain ⟨z, hw⟩ : ∃ z, ws[i]? = some z := ⟨_, List.getElem?_eq_getElem hlt⟩
  have ha : aheadV ws i = .str z := by unfold aheadV; rw [hw]
  have hzl := hz z (List.mem_of_getElem? hw)
  refine ⟨fun σ2 H2 => ∃ m', m' < ws.length + 1 - i ∧ WLT K ws R a0 lo H m' σ2 H2, fun _ _ h => h, ?_⟩
  -- word, done = (words[at], None)
  refine b_cons (s_par 3 4 ((show EA _ _ _ _ [V.str z, V.non] from ea_cons (x := .str z) (ev_ixL (ev_name 0 rfl) (ev_name 1 rfl) (ex_l E1 hws) ((atI_nat (by rw [List.length_map]; exact hlt)).trans (by rw [List.getElem?_map, hw]; rfl))) (ea_cons ev_non ea_nil)) _ (Ex.refl _) _ fun H2 e2 => ⟨_, _, rfl, ?_⟩) sc_law_taken.nd)
  have E2 := E1.trans e2
  have l2 := e2 _ _ (e1 _ _ hl)
  have tk2 : StkO K H2 i rs st := stk.keep (Nat.le_refl i) (tupK_ex (e1.trans e2)) fun b _ o ho => e2 _ _ (e1 _ _ ho)
  refine b_mid (PLT K ws R a0 lo i H) ?_ fun σ3 H3 hP => ?_
  · -- the branches
    have lenD : decide ((((rs.map V.ref).reverse.length : Nat) : Int) < 10) = !decide (st.length = 10) := by
      rw [List.length_reverse, List.length_map, hsl]
      by_cases q : st.length = 10
      · rw [decide_eq_true q, decide_eq_false (by omega)]
        rfl
      · rw [decide_eq_false q, decide_eq_true (by omega)]
        rfl
    have len0 : decide ((rs.map V.ref).reverse.length = 0) = decide (st.length = 0) := by
      rw [List.length_reverse, List.length_map, hsl]
    unfold toldGo at hgo
    rw [ha] at hgo
    refine (s_if (k := decide (V.str z = V.str "(") && decide ((((rs.map V.ref).reverse.length : Nat) : Int) < 10)) (et_w (ew_and (et_cmp op_eq (ev_name 3 rfl) ev_str (rv_eq rfl)) fun _ => ew_and1 (et_cmp op_lt (ev_lenL (T.f "len") (ev_name 2 rfl) (.inl (sq_of l2))) ev_int rv_I0))) (fun hb H3 e3 => ?_) fun hb H3 e3 => ?_)
    · obtain ⟨hb1, hb2⟩ := Bool.and_eq_true_iff.mp hb
      rw [lenD] at hb2
      have hb3 : ¬ decide (st.length = 10) = true := by intro z; rw [z] at hb2; cases hb2
      rw [if_pos hb1, if_neg hb3] at hgo
      have E3 := E2.trans e3
      have l3 := e3 _ _ l2
      refine b_one (s_expr (e_append (l := lo) (ev_name 2 rfl) ⟨_, l3⟩ fun H4 e4 => e_lst (a_nil ⟨Nat.zero_le _, fun b hb => ?_⟩)))
      have l4 := e4 _ _ l3
      have nbl : b ≠ lo := fun z => by rw [z, l4] at hb; cases hb
      have E4 := E3.trans e4
      have hbH : H b = none := fresh_back E4 hb
      have hb10 : ¬ st.length = 10 := fun z => hb3 (decide_eq_true z)
      refine ⟨(rs.map V.ref).reverse, (Ex.new hb) _ _ l4, by rw [List.length_reverse, List.length_map, hsl]; omega, [] :: st, b :: rs, _, .non, hlt, (show st.length + 1 ≤ 10 by omega), rfl, (E4.trans (Ex.new hb)).mut hlo, ?_, ?_, ?_, .inl ⟨rfl, Nat.succ_pos _, hgo⟩⟩
      · rw [upd_same, List.map_cons, List.reverse_cons]
      · have ntl : ∀ b' ∈ rs, b' ≠ b := fun b' hb' z => by
          obtain ⟨o, ho⟩ := tk2.mem hb'
          have := (e3.trans e4) _ _ ho
          rw [z, hb] at this
          cases this
        refine .cons (by rw [upd_ne nbl]; exact upd_same) .nil rfl (Nat.zero_le _) (fun hmem => ntl b hmem rfl) (tk2.keep (Nat.le_refl i) ((tupK_ex ((e3.trans e4).trans (Ex.new hb))).trans (tupK_upd ((Ex.new hb) _ _ l4) rfl)) fun b' hb' o ho => ?_)
        rw [upd_ne (fr b' hb').2]
        exact (Ex.new hb) _ _ ((e3.trans e4) _ _ ho)
      · intro b' hb'
        rcases List.mem_cons.mp hb' with rfl | hb'
        · exact ⟨hbH, nbl⟩
        · exact fr b' hb'
    · have E3 := E2.trans e3
      have l3 := e3 _ _ l2
      have tk3 : StkO K H3 i rs st := tk2.keep (Nat.le_refl i) (tupK_ex e3) fun b _ o ho => e3 _ _ ho
      refine b_one (s_if (k := decide (V.str z = V.str ")") && !decide ((rs.map V.ref).reverse.length = 0)) (et_w (ew_and (et_cmp op_eq (ev_name 3 rfl) ev_str (rv_eq rfl)) fun _ => ew_and1 (et_neNil hr.units (ev_name 2 rfl) (sq_of l3)))) (fun hc H4 e4 => ?_) fun hc H4 e4 => ?_)
      · obtain ⟨hc1, hc2⟩ := Bool.and_eq_true_iff.mp hc
        rw [len0] at hc2
        have hzz : V.str z = V.str ")" := of_decide_eq_true hc1
        have n1 : ¬ decide (V.str z = V.str "(") = true := fun q => by
          rw [hzz] at q
          exact absurd q (by decide +kernel)
        rw [if_neg n1, if_pos (by rw [hc1, hc2]; rfl)] at hgo
        cases tk3 with
        | nil => exact absurd hc2 (by decide)
        | @cons a vs top rs0 rest hA hu1 hpl hle hni stk0 =>
          have l4 := e4 _ _ l3
          rw [List.map_cons, List.reverse_cons] at l4
          have hal := fr a List.mem_cons_self
          refine b_one (s_set 4 (e_lst (a_one (eX_of (pe_callTy call_tuple_of rfl (T.f "tuple") (by decide +kernel) (pa_cons pe_X pa_nil) (by decide) (by decide)) ?_))) sc_law_taken.nd)
          refine e_pop (ev_name 2 rfl) l4 fun H5 e5 => ?_
          have ha5 : L2.upd H5 lo (.lst (rs0.map V.ref).reverse) a = some (.lst vs) := by
            rw [upd_ne hal.2]
            exact e5 _ _ (e4 _ _ hA)
          refine ⟨a, vs, rfl, .inl ⟨sq_of ha5, fun q hq => ⟨by show 1 ≤ sizeLine; decide, fun p' hp' => ?_⟩⟩⟩
          have E5 := (E3.trans e4).trans e5
          have nq : q ≠ lo := fun z => by rw [z, upd_same] at hq; cases hq
          have np : p' ≠ lo := fun z => by rw [z, (Ex.new hq) _ _ upd_same] at hp'; cases hp'
          have en := (Ex.new (o := .tup vs) hq).trans (Ex.new (o := .lst [V.ref q]) hp')
          have kp : ∀ b ∈ rs0, ∀ o, H3 b = some o → L2.upd H5 lo (.lst (rs0.map V.ref).reverse) b = some o := fun b hb o ho => by
            rw [upd_ne (fr b (List.mem_cons_of_mem _ hb)).2]
            exact e5 _ _ (e4 _ _ ho)
          have tkp : TupK K H3 (L2.upd (L2.upd (L2.upd H5 lo (.lst (rs0.map V.ref).reverse)) q (.tup vs)) p' (.lst [V.ref q])) := (tupK_ex (e4.trans e5)).trans ((tupK_upd (e5 _ _ l4) rfl).trans (tupK_ex en))
          refine ⟨rest, rs0, _, _, hlt, (by have : rest.length + 1 ≤ 10 := hsi; omega), rfl, (E5.mut hlo).trans en, en _ _ upd_same, stk0.keep (Nat.le_refl i) tkp (fun b hb o ho => en _ _ (kp b hb o ho)), fun b hb => fr b (List.mem_cons_of_mem _ hb), .inr ⟨p', .ref q, .tuple top, rfl, upd_same, fun hm => ?_, np, .tup (st_of ((Ex.new hp') _ _ upd_same)) (UrAll.keep tkp hpl hu1), hpl, hgo⟩⟩
          obtain ⟨o, ho⟩ := stk0.mem hm
          have := (Ex.new (o := .tup vs) hq) _ _ (kp p' hm o ho)
          rw [hp'] at this
          cases this
      · have E4 := E3.trans e4
        refine b_cons (s_set 4 (e_ife (tX_et (k := !decide (V.str z = V.str "(")) (et_cmp op_ne (ev_name 3 rfl) ev_str (rv_ne rfl)) fun H5 e5 => ?_)) sc_law_taken.nd)
        by_cases q : decide (V.str z = V.str "(") = true
        · rw [if_neg (by rw [q]; decide)]
          rw [q, lenD, Bool.true_and] at hb
          have h10 : decide (st.length = 10) = true := by
            cases y : decide (st.length = 10) with
            | true => rfl
            | false => rw [y] at hb; cases hb
          rw [if_pos q, if_pos h10] at hgo
          refine eX_ev ev_non fun H6 e6 => b_one (s_if (k := decide (V.non = V.non)) (et_cmp op_isN (ev_name 4 rfl) ev_non fun H1 _ Q q => ⟨rfl, q H1 (Ex.refl H1)⟩) (fun _ H7 e7 => ?_) fun hd => absurd hd (by decide))
          exact b_one (s_ret (ev_name 1 rfl) fun H8 e8 => k2 i hgo.symm H8 (((E4.trans e5).trans e6).trans (e7.trans e8)))
        · have qf : decide (V.str z = V.str "(") = false := by simpa using q
          rw [if_pos (by rw [qf]; rfl)]
          rw [len0] at hc
          rw [if_neg q, if_neg (by rw [Bool.and_comm, hc]; decide), hw] at hgo
          have hgo : (match singleW z with
            | none => Sum.inl i
            | some x => fin2 (toldGo ws (ws.length - i)) x (i + 1) st) = R := hgo
          refine eX_of (pe_cl (E := E0) cs hr (by decide) pass0 rfl (pa_cons pe_X pa_nil)) (eX_ev (ev_name 3 rfl) fun H6 e6 => ⟨z, rfl, hzl, fun x hx p v H7 hp e7 h7 u7 => ?_, fun hn7 H7 e7 => ?_⟩)
          · rw [hx] at hgo
            have E7 := ((E4.trans e5).trans e6).trans e7
            have e37 := ((e4.trans e5).trans e6).trans e7
            refine b_one (s_if (k := decide (V.ref p = V.non)) (et_cmp op_isN (ev_name 4 rfl) ev_non fun H1 _ Q q => ⟨rfl, q H1 (Ex.refl H1)⟩) (fun hd => nomatch (of_decide_eq_true hd)) fun _ H8 e8 => b_nil ?_)
            refine ⟨st, rs, _, _, hlt, hsi, rfl, E7.trans e8, (e37.trans e8) _ _ l3, tk3.keep (Nat.le_refl i) (tupK_ex (e37.trans e8)) (fun b _ o ho => (e37.trans e8) _ _ ho), fr, .inr ⟨p, v, x, rfl, e8 _ _ h7, fun hm => ?_, fun hm => ?_, u7.ext e8, singleW_plain hx, hgo⟩⟩
            · obtain ⟨o, ho⟩ := tk3.mem hm
              have := (((e4.trans e5).trans e6)) _ _ ho
              rw [hp] at this
              cases this
            · have := (((e4.trans e5).trans e6)) _ _ l3
              rw [← hm, hp] at this
              cases this
          · rw [hn7] at hgo
            have E7 := ((E4.trans e5).trans e6).trans e7
            refine b_one (s_if (k := decide (V.non = V.non)) (et_cmp op_isN (ev_name 4 rfl) ev_non fun H1 _ Q q => ⟨rfl, q H1 (Ex.refl H1)⟩) (fun _ H8 e8 => ?_) fun hd => absurd hd (by decide))
            exact b_one (s_ret (ev_name 1 rfl) fun H9 e9 => k2 i hgo.symm H9 (E7.trans (e8.trans e9)))
  · -- behind the branches
    obtain ⟨st', rs', wv', dv', _, hs', rfl, E3, l3, stk3, fr', hd⟩ := hP
    have hsl' := stk3.len
    refine b_cons (s_set 1 (eX_ev (ev_bin op_add (ev_name 1 rfl) ev_int rv_I0) fun H4 e4 => ?_) sc_law_taken.nd)
    rcases hd with ⟨rfl, hpos, hgo'⟩ | ⟨q, v, x, rfl, hq, hqn, hql, u, px, hgo'⟩
    · refine b_cons (s_if (k := !decide (V.non = V.non) && false) (et_w (ew_and (et_cmp op_notN (ev_name 4 rfl) ev_non fun H1 _ Q q => ⟨rfl, q H1 (Ex.refl H1)⟩) fun z => absurd z (by decide))) (fun hb => absurd hb (by decide)) fun _ H5 e5 => b_nil ?_)
      refine b_one (s_if (k := !decide (V.non = V.non)) (et_cmp op_notN (ev_name 4 rfl) ev_non fun H1 _ Q q => ⟨rfl, q H1 (Ex.refl H1)⟩) (fun hb => absurd hb (by decide)) fun _ H6 e6 => b_nil ?_)
      have e36 := (e4.trans e5).trans e6
      exact ⟨ws.length - i, by omega, i + 1, st', rs', _, _, by omega, hlt, hs', rfl, E3.trans e36, e36 _ _ l3, stk3.keep (Nat.le_succ i) (tupK_ex e36) (fun b _ o ho => e36 _ _ ho), fr', hgo'⟩
    · refine b_cons (s_if (k := !decide (V.ref q = V.non) && decide (st'.length = 0)) (et_w (ew_and (et_cmp op_notN (ev_name 4 rfl) ev_non fun H1 _ Q q => ⟨rfl, q H1 (Ex.refl H1)⟩) fun _ => ew_and1 (et_is (et_eqNil hr.units (ev_name 2 rfl) (sq_of (e4 _ _ l3))) (by rw [List.length_reverse, List.length_map, hsl'])))) (fun hb H5 e5 => ?_) fun hb H5 e5 => b_nil ?_)
      · have h0 : st' = [] := List.eq_nil_of_length_eq_zero (of_decide_eq_true (Bool.and_eq_true_iff.mp hb).2)
        subst h0
        have e35 := e4.trans e5
        refine b_one (s_retX (eX_evl (evl_lst (ea_cons (x := v) (ev_ixL (i := 0) (ev_name 4 rfl) ev_int (sq_of (e35 _ _ hq)) rfl) (ea_cons (x := .int ((i + 1 : Nat) : Int)) (ev_name 1 rfl) ea_nil)) (by show 2 ≤ 100000; decide)) fun p H6 hp e6 h6 => k1 x (i + 1) hgo'.symm p v H6 (fresh_back (E3.trans e35) hp) ((E3.trans e35).trans e6) h6 (u.ext (e35.trans e6)) px))
      · cases stk3 with
        | nil => exact absurd hb (by show ¬ (!decide (V.ref q = V.non) && true) = false; rw [decide_eq_false (by intro z; cases z)]; decide)
        | @cons a vs top rs0 rest hA hu1 hpl hle hni stk0 =>
          have e35 := e4.trans e5
          have l5 := e35 _ _ l3
          rw [List.map_cons, List.reverse_cons] at l5
          have hal := fr' a List.mem_cons_self
          refine b_one (s_if (k := !decide (V.ref q = V.non)) (et_cmp op_notN (ev_name 4 rfl) ev_non fun H1 _ Q q => ⟨rfl, q H1 (Ex.refl H1)⟩) (fun _ H6 e6 => ?_) fun hb => absurd hb (by rw [decide_eq_false (by intro z; cases z)]; decide))
          have e36 := e35.trans e6
          refine b_one (s_expr (e_append (l := a) (ev_ixL (i := -1) (ev_name 2 rfl) (ev_of (pe_un un_neg pe_int) (ev_un ev_c ru_neg)) (sq_of (e6 _ _ l5)) (K96.atI_last _ _)) ⟨vs, e36 _ _ hA⟩ fun H7 e7 => eX_ev (v := v) (ev_ixL (i := 0) (ev_name 4 rfl) ev_int (sq_of (e7 _ _ (e36 _ _ hq))) rfl) fun H8 e8 => ⟨vs, e8 _ _ (e7 _ _ (e36 _ _ hA)), ?_, ?_⟩))
          · have h1 := hu1.len
            omega
          · have e38 := (e36.trans e7).trans e8
            have tkp : TupK K H3 (L2.upd H8 a (.lst (vs ++ [v]))) := (tupK_ex e38).trans (tupK_upd (e38 _ _ hA) rfl)
            refine ⟨ws.length - i, by omega, i + 1, (top ++ [x]) :: rest, a :: rs0, _, _, by omega, hlt, hs', rfl, (E3.trans e38).mut hal.1, ?_, ?_, fr', hgo'⟩
            · rw [upd_ne (Ne.symm hal.2), List.map_cons, List.reverse_cons]
              exact (e6.trans (e7.trans e8)) _ _ l5
            · refine .cons upd_same ((UrAll.keep tkp hpl hu1).app (.cons (u.keep tkp px) .nil)) ?_ ?_ hni (stk0.keep (Nat.le_succ i) tkp fun b hb o ho => ?_)
              · rw [plainL_app, hpl]
                show (true && (plainD x && true)) = true
                rw [px]
                rfl
              · rw [List.length_append]
                show top.length + 1 ≤ i + 1
                omega
              · rw [upd_ne (fun z => hni (by rw [← z]; exact hb))]
                exact e38 _ _ ho
end
end K96

set_option Elab.async false
set_option linter.all false
set_option maxRecDepth 100000
set_option maxHeartbeats 4000000
/-! The law's words. -/
namespace K96
open PySem PySem.Spec PyProof.Rows L2 Evl
theorem wordsL_app : ∀ a b : List PyData, wordsL (a ++ b) = wordsL a ++ wordsL b
  | [], b => rfl
  | x :: a, b => by
    show wordsD x ++ wordsL (a ++ b) = (wordsD x ++ wordsL a) ++ wordsL b
    rw [wordsL_app a b, List.append_assoc]
theorem wordsL_take {ds : List PyData} {k : Nat} {d : PyData} (h : ds[k]? = some d) : wordsL (ds.take (k + 1)) = wordsL (ds.take k) ++ wordsD d := by
  have : ds.take (k + 1) = ds.take k ++ [d] := by
    rw [List.take_add_one, h]
    rfl
  rw [this, wordsL_app]
  congr 1
  show wordsD d ++ [] = wordsD d
  rw [List.append_nil]
theorem wordsL_le (ds : List PyData) (k : Nat) : (wordsL (ds.take k)).length ≤ (wordsL ds).length := by
  have h := wordsL_app (ds.take k) (ds.drop k)
  rw [List.take_append_drop] at h
  rw [h, List.length_append]
  omega
section
variable {P : Program} {w : World} {K : Fr} {mg : Str → Option Value} {base : Heap}
theorem lwords_step (T : Txt K mg) (D : Df K mg d_law_words) (n : Nat) (ih : ∀ m, n = m + 1 → Cl P w K mg base CX0 (m + 1) "_law_words" (spWords m K)) : Cl P w K mg base CX0 (n + 1) "_law_words" (spWords n K) := by
  refine D.cl sc_law_words (fun vs H Q E h => ?_) (fun _ _ _ _ _ _ us hl => match us, hl with | [_], _ => rfl) fun f cdv A outer s H vs Q E hr h => ⟨_, pb_X, ?_⟩
  · obtain ⟨v, d, rfl, _⟩ := h
    rfl
  obtain ⟨v, d, rfl, hu, ht, hz, k⟩ := h
  have hwl := wordsD_len d
  refine b_cons (s_if (et_val (ev_isi (m := "tuple") (T.f "isinstance") (T.f "tuple") (ev_name 0 rfl) hu.vt (by decide))) (fun hb H1 e1 => ?_) fun hb H1 e1 => b_nil ?_)
  · rw [tupK] at hb
    obtain ⟨a, ws, ds, rfl, hw, hall, rfl⟩ : ∃ a ws ds, v = .ref a ∧ SqT K H a ws ∧ UrAll K H ws ds ∧ d = .tuple ds := by
      cases hu with
      | tup h a => exact ⟨_, _, _, rfl, h, a, rfl⟩
      | _ => cases hb
    obtain ⟨m, rfl⟩ : ∃ m, n = m + 1 := by
      cases n with
      | zero => cases ht
      | succ m => exact ⟨m, rfl⟩
    have c1 := ih m rfl
    have hta : ds.all (toldAt m) = true := ht
    have hsz : szD (.tuple ds) = 1 + szL ds := rfl
    have hle := wordsL_len ds
    -- found = ['(']
    refine b_cons (s_set 1 (eX_evl (evl_1 (ev_str (i := "("))) fun r0 H2 hr0 e2 h2 => ?_) sc_law_words.nd)
    refine b_cons (s_forTup (a := a) (xs := ws) 2 (fun k σ' H' => Ex H H' ∧ ∃ r pv, σ' = [some (.ref a), some (.ref r), pv] ∧ H' r = some (.lst ((("(" : Str) :: wordsL (ds.take k)).map V.str))) (ev_name 0 rfl) (ex_t (e1.trans e2) hw)
      (fun H3 e3 => ⟨(e1.trans e2).trans e3, r0, _, rfl, e3 _ _ h2⟩) (fun k' σ' H' hk hv => ex_t hv.1 hw) (fun k' x σ' H' hx hv => ?_) (fun σ' H' hv => ?_) (passes_of rfl) sc_law_words.nd)
    · obtain ⟨e3, r, pv, rfl, hr3⟩ := hv
      obtain ⟨dj, hdj, huj⟩ := hall.at hx
      have hm := List.mem_of_getElem? hdj
      refine b_one (s_set 1 (eX_of (pe_op op_cat pe_X pe_X) (eX_ev (ev_name 1 rfl) fun H4 e4 => eX_of (pe_cl (E := E0) c1 hr (by omega) pass0 rfl (pa_cons pe_X pa_nil)) (eX_ev (ev_name 2 rfl) fun H5 e5 => ?_))) sc_law_words.nd)
      refine ⟨x, dj, rfl, huj.ext (e3.trans (e4.trans e5)), List.all_eq_true.mp hta dj hm, by have := szD_mem hm; omega, fun p H6 hp e6 h6 => ⟨r, p, _, _, rfl, rfl, (e4.trans (e5.trans e6)) _ _ hr3, h6, ?_, fun q hq => ?_⟩⟩
      · have h1 := wordsL_le ds (k' + 1)
        rw [wordsL_take hdj, List.length_append] at h1
        simp only [List.length_map, List.length_cons]
        exact Nat.le_trans (by omega : _ ≤ 1000000) (by decide)
      · refine ⟨(e3.trans (e4.trans (e5.trans e6))).trans (Ex.new hq), q, some x, rfl, ?_⟩
        rw [upd_same, wordsL_take hdj, ← List.map_append]
        rfl
    · obtain ⟨e3, r, pv, rfl, hr3⟩ := hv
      rw [hall.len, List.take_length] at hr3
      refine b_one (s_retX (eX_of (pe_op op_cat pe_X pe_X) (eX_ev (ev_name 1 rfl) fun H4 e4 => eX_evl (evl_1 (ev_str (i := ")"))) fun q H5 hq e5 h5 => ⟨r, q, _, _, rfl, rfl, (e4.trans e5) _ _ hr3, h5, ?_, fun p hp => k p _ (fresh_back (e3.trans (e4.trans e5)) hp) ((e3.trans (e4.trans e5)).trans (Ex.new hp)) ?_⟩)))
      · simp only [List.length_map, List.length_cons, List.length_nil]
        exact Nat.le_trans (by omega : _ ≤ 1000000) (by decide)
      · rw [upd_same]
        show _ = some (HO.lst ((("(" : Str) :: (wordsL ds ++ [(")" : Str)])).map V.str))
        simp only [List.map_cons, List.map_append, List.cons_append, List.map_nil]
  · rw [tupK] at hb
    -- if value is None: return ['-']
    refine b_cons (s_if (k := decide (v = .non)) (et_cmp op_isN (ev_name 0 rfl) ev_non fun H1 _ Q q => ⟨rfl, q H1 (Ex.refl H1)⟩) (fun hd H2 e2 => ?_) fun hd H2 e2 => b_nil ?_)
    · have hv := of_decide_eq_true hd
      subst hv
      cases hu
      refine b_one (s_retX (eX_evl (evl_1 (ev_str (i := "-"))) fun p H3 hp e3 h3 => k p H3 (fresh_back (e1.trans e2) hp) ((e1.trans e2).trans e3) h3))
    · have hv := of_decide_eq_false hd
      have hsd : singleD d = true := by
        cases hu with
        | tup _ _ => cases hb
        | _ => cases n <;> exact ht
      refine b_one (s_retX (e_ife (tX_et (et_val (ev_isi (m := "str") (T.f "isinstance") (T.f "str") (ev_name 0 rfl) (hu.vt.mono (e1.trans e2)) (by decide))) fun H3 e3 => ?_)))
      cases hu with
      | non => exact absurd rfl hv
      | tup _ _ => cases hb
      | str x hx =>
        refine (show if isK "str" "str" = true then _ else _ from ?_)
        rw [if_pos (by decide)]
        refine eX_evl (evl_1 (ev_bin op_add_str (ev_str (i := "=")) (ev_name 0 rfl) fun H4 e4 Q q => ⟨_, _, rfl, rfl, ?_, q H4 (Ex.refl H4)⟩)) fun p H4 hp e4 h4 => k p H4 (fresh_back ((e1.trans e2).trans e3) hp) (((e1.trans e2).trans e3).trans e4) h4
        have : ("=" : Str).length = 1 := by decide +kernel
        rw [this]
        exact Nat.le_trans (by omega : _ ≤ 100001) (by decide)
      | int i =>
        refine (show if isK "int" "str" = true then _ else _ from ?_)
        rw [if_neg (by decide)]
        refine eX_evl (evl_1 (ev_tyc call_str_int (T.f "str") (ea_cons (ev_name 0 rfl) ea_nil) fun H4 e4 Q q => ⟨i, rfl, ?_, q H4 (Ex.refl H4)⟩)) fun p H4 hp e4 h4 => k p H4 (fresh_back ((e1.trans e2).trans e3) hp) (((e1.trans e2).trans e3).trans e4) h4
        have hi : (decide (0 - mostV ≤ i) && decide (i ≤ mostV)) = true := hsd
        rw [Bool.and_eq_true, decide_eq_true_eq, decide_eq_true_eq] at hi
        have hm : mostV = 999999999999 := by decide +kernel
        rw [hm] at hi
        exact log2_small (by omega)
      | bl b => cases hsd
      | lst _ _ => cases hsd
      | emp _ => cases hsd
      | obj _ _ _ => cases hsd
theorem ok_law_words (T : Txt K mg) (D : Df K mg d_law_words) : ∀ n : Nat, Cl P w K mg base CX0 (n + 1) "_law_words" (spWords n K)
  | 0 => lwords_step T D 0 fun _ h => (nomatch h)
  | n + 1 => lwords_step T D (n + 1) fun m h => by
    cases h
    exact ok_law_words T D n
end
end K96

set_option Elab.async false
set_option linter.all false
set_option maxRecDepth 100000
set_option maxHeartbeats 4000000
/-! The law's by_lines, asks. -/
namespace K96
open PySem PySem.Spec PyProof.Rows L2 Evl
def asksL : List Str := ["bears", "firm", "settled", "waits", "pledges", "acts", "frozen", "stays", "value"]
/-- a new list of texts -/
def spStrs (l : List Str) : Sp := fun vs H Q _ => vs = [] ∧ ∀ p H', H p = none → Ex H H' → H' p = some (.lst (l.map V.str)) → Q (.ref p) H'
def spByLines (K : Fr) : Sp := fun vs H Q _ => ∃ z, z.length ≤ 100000 ∧ ((∃ i, vs = [.str z, .int i] ∧ ∀ p H', H p = none → Ex H H' → H' p = some (.tup [.int 0, .int i]) → Q (.ref p) H') ∨
  ∃ a xs, vs = [.str z, .ref a] ∧ SqL K H a xs ∧ (10 ∈ z.cps.toList → ∀ p H', H p = none → Ex H H' → H' p = some (.tup [.int 1, .int 0]) → Q (.ref p) H') ∧ (10 ∉ z.cps.toList → Gives (.ref a) H Q))
section
variable {P : Program} {w : World} {K : Fr} {mg : Str → Option Value} {base : Heap}
theorem ok_law_asks (D : Df K mg d_law_asks) : Cl P w K mg base CX0 1 "_law_asks" (spStrs asksL) := by
  refine D.cl sc_law_asks (fun vs H Q E h => ?_) (fun _ _ _ _ _ _ us hl => match us, hl with | [], _ => rfl) fun f cdv A outer s H vs Q E hr h => ⟨_, pb_X, ?_⟩
  · obtain ⟨rfl, _⟩ := h
    rfl
  obtain ⟨rfl, k⟩ := h
  refine b_one ?_
  refine s_retX ?_
  exact (eX_evl (evl_lst (ea_cons ev_str (ea_cons ev_str (ea_cons ev_str (ea_cons ev_str (ea_cons ev_str (ea_cons ev_str (ea_cons ev_str (ea_cons ev_str (ea_cons ev_str ea_nil))))))))) (by show 9 ≤ 100000; decide)) fun p H1 hp e1 h1 => k p H1 hp e1 h1)
theorem ok_law_by_lines (T : Txt K mg) (D : Df K mg d_law_by_lines) : Cl P w K mg base CX0 1 "_law_by_lines" (spByLines K) := by
  refine D.cl sc_law_by_lines (fun vs H Q E h => ?_) (fun _ _ _ _ _ _ us hl => match us, hl with | [_, _], _ => rfl) fun f cdv A outer s H vs Q E hr h => ⟨_, pb_X, ?_⟩
  · obtain ⟨z, _, ⟨i, rfl, _⟩ | ⟨a, xs, rfl, _⟩⟩ := h <;> rfl
  obtain ⟨z, hz, ⟨i, rfl, k⟩ | ⟨a, xs, rfl, hx, k1, k2⟩⟩ := h
  · refine b_cons (s_if (k := !(isK "int" "list")) (et_not (et_val (ev_isi (m := "list") (T.f "isinstance") (T.f "list") (ev_name 1 rfl) (VT.i i) (by decide)))) (fun hb H1 e1 => ?_) fun hb => absurd hb (by decide))
    exact b_one (s_retX (eX_evu (evu_tup (ea_cons ev_int (ea_cons (ev_name 1 rfl) ea_nil)) (by show 2 ≤ 100000; decide)) fun p H2 hp e2 h2 => k p H2 (fresh_back e1 hp) (e1.trans e2) h2))
  · refine b_cons (s_if (k := !(isK "list" "list")) (et_not (et_val (ev_isi (m := "list") (T.f "isinstance") (T.f "list") (ev_name 1 rfl) (VT.l hx) (by decide)))) (fun hb => absurd hb (by decide)) fun hb H1 e1 => b_nil ?_)
    refine b_one (s_retX (e_ife (tX_et (k := decide (10 ∈ z.cps.toList)) (et_cmp op_in_sign ev_str (ev_name 0 rfl) fun H3 _ Q q => ⟨10, z, rfl, rfl, q H3 (Ex.refl H3)⟩) fun H2 e2 => ?_)))
    by_cases q : 10 ∈ z.cps.toList
    · rw [if_pos (decide_eq_true q)]
      exact eX_evu (evu_tup (ea_cons ev_int (ea_cons ev_int ea_nil)) (by show 2 ≤ 100000; decide)) fun p H3 hp e3 h3 => k1 q p H3 (fresh_back (e1.trans e2) hp) ((e1.trans e2).trans e3) h3
    · rw [if_neg (by rw [decide_eq_false q]; decide)]
      exact eX_ev (ev_name 1 rfl) fun H3 e3 => k2 q H3 ((e1.trans e2).trans e3)
end
end K96

set_option Elab.async false
set_option linter.all false
set_option maxRecDepth 100000
set_option maxHeartbeats 4000000
/-! The law's text. -/
namespace K96
open PySem PySem.Spec PyProof.Rows L2 Evl
def szTx (l : List Str) : Nat := (l.map (·.length)).sum + l.length
/-- a list of lists of texts -/
structure LnL (K : Fr) (H : Hp) (a : Addr) (rs : List Addr) (ls : List (List Str)) : Prop where
  at_ : SqL K H a (rs.map V.ref)
  len : rs.length = ls.length
  each : ∀ (k : Nat) (r : Addr) (l : List Str), rs[k]? = some r → ls[k]? = some l → SqL K H r (l.map V.str)
theorem LnL.ex {K : Fr} {H H' : Hp} {a : Addr} {rs : List Addr} {ls : List (List Str)} (h : LnL K H a rs ls) (e : Ex H H') : LnL K H' a rs ls := ⟨ex_l e h.at_, h.len, fun k r l h1 h2 => ex_l e (h.each k r l h1 h2)⟩
def textL (ls : List (List Str)) : Str := Txt.join "\n" (ls.map (Txt.join " "))
def spLText (K : Fr) : Sp := fun vs H Q _ => ∃ a rs ls, vs = [.ref a] ∧ LnL K H a rs ls ∧ (∀ l ∈ ls, szTx l ≤ 16777216) ∧ szTx (ls.map (Txt.join " ")) ≤ 16777216 ∧ ls.length ≤ 100000 ∧ Gives (.str (textL ls)) H Q
section
variable {P : Program} {w : World} {K : Fr} {mg : Str → Option Value} {base : Heap}
theorem ok_law_text (T : Txt K mg) (D : Df K mg d_law_text) : Cl P w K mg base CX0 1 "_law_text" (spLText K) := by
  refine D.cl sc_law_text (fun vs H Q E h => ?_) (fun _ _ _ _ _ _ us hl => match us, hl with | [_], _ => rfl) fun f cdv A outer s H vs Q E hr h => ⟨_, pb_X, ?_⟩
  · obtain ⟨a, rs, ls, rfl, _⟩ := h
    rfl
  obtain ⟨a, rs, ls, rfl, L, z1, z2, hn, k⟩ := h
  have o1 : (" " : Str).length = 1 := by decide +kernel
  have o2 : ("\n" : Str).length = 1 := by decide +kernel
  refine b_one (s_retX (eX_of (pe_join pe_str pe_X) ⟨⟨_, rfl⟩, eX_evl (xs := (ls.map (Txt.join " ")).map V.str) ?_ fun p H1 hp e1 h1 => ⟨_, p, ls.map (Txt.join " "), rfl, rfl, .inl (sq_of h1), ?_, k H1 e1⟩⟩))
  · refine evl_lcP (xs := rs.map V.ref) (i := 1) (by simp [L.len]) (its_l (ev_name 0 rfl) L.at_) sc_law_text.nd (blkOk_by (N := ["lines", "line"]) (sc := defScope s_law_text) (by decide +kernel)) (fun _ _ _ _ _ => pg_name sc_law_text.nd rfl (Or.inl rfl)) (by rw [List.length_map, L.len]; omega) fun j x y H2 hx hy e2 s2 H0 C cl fp => ?_
    rw [List.getElem?_map] at hx
    rw [List.getElem?_map, List.getElem?_map] at hy
    obtain ⟨r, hr, rfl⟩ := Option.map_eq_some_iff.mp hx
    obtain ⟨t, ht, rfl⟩ := Option.map_eq_some_iff.mp hy
    obtain ⟨l, hl, rfl⟩ := Option.map_eq_some_iff.mp ht
    have hz := z1 l (List.mem_of_getElem? hl)
    intro H3 e3 Q3 q3
    refine eX_of (pe_join pe_str pe_X) ⟨⟨_, rfl⟩, eX_ev (ev_name 1 rfl) fun H4 e4 => ⟨_, r, l, rfl, rfl, .inl (ex_l (e2.trans (e3.trans e4)) (L.each j r l hr hl)), ?_, q3 H4 e4⟩⟩
    rw [o1, Nat.mul_one]
    exact hz
  · rw [o2, Nat.mul_one]
    exact z2
end
end K96

set_option Elab.async false
set_option linter.all false
set_option maxRecDepth 100000
set_option maxHeartbeats 4000000
/-! The law's knot and one. -/
namespace K96
open PySem PySem.Spec PyProof.Rows L2 Evl
section
variable {X : Cx} {e o ix a b : Expr} {pos px p : Pos} {σ : Sg} {H : Hp} {D : Ends} {i : Int} {k : Bool}
/-- xs[i] = e -/
theorem s_item (h : eX X e σ H fun v H1 => eX X o σ H1 fun x H2 => eX X ix σ H2 fun y H3 => ∃ q xs i j, x = V.ref q ∧ y = V.int i ∧ H3 q = some (.lst xs) ∧ ixN xs.length i = some j ∧ D.nx σ (L2.upd H3 q (.lst (xs.set j v))))
    (hs : swapsWithSole [.Subscript o ix px] e pos.line X.env = pure false := by rfl) (hw : swappedStores [.Subscript o ix px] e X.env = pure none := by rfl) (h1 : (assignEach [.Subscript o ix px] X.env).map (·.2) = [assign (.Subscript o ix px) X.env] := by rfl)
    (ha : ∀ v, assign (.Subscript o ix px) X.env v = (do
      let ov ← holding [v] (eval o X.env)
      let iv ← holding [v, ov] (eval ix X.env)
      standAt px
      holding [v, ov, iv] (setItem ov iv v)
      release [v, ov, iv] []) := by intro _; rfl) : sX X (.Assign [.Subscript o ix px] e pos) D σ H :=
  sX_of (ps_asg pe_X (pg_sub pe_X pe_X set_list ha) hs hw h1) h
/-- int(i), int(a truth), abs(i) -/
theorem ev_intc (hm : X.mg "int" = none) (h : EV X a σ H (.int i)) (hg : Gl X ("int" : Str) := by rfl) (he : starEach [a] X.env = (false, eval a X.env) :: starEach [] X.env := by rfl) (hpl : (backTo pos (starEach [] X.env)).any (·.1) = false := by rfl) : EV X (.Call (.Name "int" p) [a] [] pos) σ H (.int i) :=
  ev_tyc call_int1 hm (ea_cons h ea_nil he) (fun H1 _ Q q => .inl ⟨_, rfl, q H1 (Ex.refl H1)⟩) (by decide +kernel) hg (by decide) (by decide) he hpl
theorem ev_intb (hm : X.mg "int" = none) (h : EV X a σ H (.bl k)) (hg : Gl X ("int" : Str) := by rfl) (he : starEach [a] X.env = (false, eval a X.env) :: starEach [] X.env := by rfl) (hpl : (backTo pos (starEach [] X.env)).any (·.1) = false := by rfl) : EV X (.Call (.Name "int" p) [a] [] pos) σ H (.int (if k then 1 else 0)) :=
  ev_tyc call_int1 hm (ea_cons h ea_nil he) (fun H1 _ Q q => .inr ⟨_, rfl, q H1 (Ex.refl H1)⟩) (by decide +kernel) hg (by decide) (by decide) he hpl
theorem ev_absc (hm : X.mg "abs" = none) (h : EV X a σ H (.int i)) (hg : Gl X ("abs" : Str) := by rfl) (he : starEach [a] X.env = (false, eval a X.env) :: starEach [] X.env := by rfl) (hpl : (backTo pos (starEach [] X.env)).any (·.1) = false := by rfl) : EV X (.Call (.Name "abs" p) [a] [] pos) σ H (.int (if i < 0 then -i else i)) :=
  ev_fun call_abs hm (ea_cons h ea_nil he) (fun H1 _ Q q => ⟨_, rfl, q H1 (Ex.refl H1)⟩) (by decide +kernel) hg (by decide) (by decide) he hpl
end
/-- what draws: the cells, how many were begun, what is left of a great one -/
def RopeO (H : Hp) (r c : Addr) (n : Nat) : Prop := ∃ (cs : List Int) (a rest : Int), H r = some (.lst [.ref c, .int a, .int rest]) ∧ H c = some (.lst (cs.map V.int)) ∧ 0 ≤ a ∧ a ≤ n ∧ n ≤ 100000 ∧ cs.length ≤ 63
theorem RopeO.ex {H H' : Hp} {r c : Addr} {n : Nat} (h : RopeO H r c n) (e : Ex H H') : RopeO H' r c n := by
  obtain ⟨cs, a, rest, h1, h2, h3⟩ := h
  exact ⟨cs, a, rest, e _ _ h1, e _ _ h2, h3⟩
theorem RopeO.le {H : Hp} {r c : Addr} {n m : Nat} (h : RopeO H r c n) (l : n ≤ m) (hm : m ≤ 100000) : RopeO H r c m := by
  obtain ⟨cs, a, rest, h1, h2, h3, h4, h5, h6⟩ := h
  exact ⟨cs, a, rest, h1, h2, h3, by omega, hm, h6⟩
theorem RopeO.at_ {H : Hp} {r c : Addr} {n : Nat} (h : RopeO H r c n) : ∃ o, H r = some o ∧ notT o = true := by
  obtain ⟨cs, a, rest, h1, _⟩ := h
  exact ⟨_, h1, rfl⟩
theorem RopeO.cell {H : Hp} {r c : Addr} {n : Nat} (h : RopeO H r c n) : ∃ o, H c = some o := by
  obtain ⟨cs, a, rest, _, h1, _⟩ := h
  exact ⟨_, h1⟩
theorem RopeO.upd {H : Hp} {r c a : Addr} {n : Nat} {o : HO} (h : RopeO H r c n) (n1 : a ≠ r) (n2 : a ≠ c) : RopeO (L2.upd H a o) r c n := by
  obtain ⟨cs, x, rest, h1, h2, h3⟩ := h
  exact ⟨cs, x, rest, by rw [upd_ne (Ne.symm n1)]; exact h1, by rw [upd_ne (Ne.symm n2)]; exact h2, h3⟩
/-- what was free when the rope stood is neither of its lists -/
theorem RopeO.off {H : Hp} {r c a : Addr} {n : Nat} (h : RopeO H r c n) (ha : H a = none) : a ≠ r ∧ a ≠ c := by
  obtain ⟨cs, x, rest, h1, h2, h3⟩ := h
  exact ⟨fun z => (by rw [z, h1] at ha; cases ha), fun z => (by rw [z, h2] at ha; cases ha)⟩
theorem rope_ne {H : Hp} {r c : Addr} {a rest : Int} {cs : List Int} (h1 : H r = some (.lst [.ref c, .int a, .int rest])) (h2 : H c = some (.lst (cs.map V.int))) : c ≠ r := fun e => by
  rw [e, h1] at h2
  cases cs with
  | nil => cases h2
  | cons x xs => cases h2
theorem sqL_but {K : Fr} {H H' : Hp} {r s : Addr} {xs : List V} (h : SqL K H s xs) (b : But r H H') (n : s ≠ r) : SqL K H' s xs := by
  exact h.imp (fun h => h.imp (fun h => b _ _ n h) fun ⟨o, h⟩ => ⟨o, b _ _ n h⟩) id
def spKnot : Sp := fun vs H Q _ => ∃ r c n many, vs = [.ref r, .int many] ∧ RopeO H r c n ∧ n < 100000 ∧ 0 < many ∧ many < 1073741824 ∧ ∀ k H', 0 ≤ k → k < many → But r H H' → RopeO H' r c (n + 1) → Q (.int k) H'
def spOne (K : Fr) : Sp := fun vs H Q _ => ∃ r c n s xs, vs = [.ref r, .ref s] ∧ RopeO H r c n ∧ n < 100000 ∧ SqL K H s xs ∧ s ≠ r ∧ 0 < xs.length ∧ xs.length < 100000 ∧ ∀ (j : Nat) x H', xs[j]? = some x → But r H H' → RopeO H' r c (n + 1) → Q x H'
theorem powB {x : Int} (h0 : 0 ≤ x) (h1 : x < 18446744073709551616) (j : Int) (hj : 0 ≤ j) (hj2 : j ≤ 1000000) : CPow x j := ⟨hj, hj2, by omega⟩
section
variable {P : Program} {w : World} {K : Fr} {mg : Str → Option Value} {base : Heap}
theorem ok_law_knot (T : Txt K mg) (D : Df K mg d_law_knot) : Cl P w K mg base CX0 1 "_law_knot" spKnot := by
  refine D.cl sc_law_knot (fun vs H Q E h => ?_) (fun _ _ _ _ _ _ us hl => match us, hl with | [_, _], _ => rfl) fun f cdv A outer s H vs Q E hr h => ⟨_, pb_X, ?_⟩
  · obtain ⟨r, c, n, many, rfl, _⟩ := h
    rfl
  obtain ⟨r, c, n, many, rfl, hR, hn, h0, h1, k⟩ := h
  obtain ⟨cs, a, rest, hr', hc, a0, a1, a2, hl⟩ := hR
  have ncr := rope_ne hr' hc
  have nd := sc_law_knot.nd
  have cdiv : ∀ x : Int, CDivW x many := fun x => wide_div (b := 30) h0 (by omega) (by decide) (by decide)
  -- if rope[2] > 0
  refine b_cons (s_if (k := decide (0 < rest)) (et_cmp op_gt (ev_ixL (ev_name 0 rfl) ev_int (sq_of hr') rfl) ev_int rv_I0) (fun hb H1 e1 => ?_) fun hb H1 e1 => b_nil ?_)
  · refine b_cons (s_set 2 (eX_ev (v := .int rest) (ev_intc (T.f "int") (ev_ixL (ev_name 0 rfl) ev_int (sq_of (e1 _ _ hr')) rfl)) fun H2 e2 => ?_) nd)
    refine b_cons (s_item (eX_ev (v := .int (rest / many)) (ev_bin op_fdivW (ev_name 2 rfl) (ev_name 1 rfl) (rv_I (cdiv _))) fun H3 e3 => eX_ev (v := .ref r) (ev_name 0 rfl) fun H4 e4 => eX_ev (v := .int 2) ev_int fun H5 e5 => ?_))
    have E5 := (((e1.trans e2).trans e3).trans e4).trans e5
    refine ⟨r, _, 2, 2, rfl, rfl, E5 _ _ hr', rfl, ?_⟩
    refine b_one (s_ret (v := .int (rest % many)) (ev_bin op_mod (ev_intc (T.f "int") (ev_name 2 rfl)) (ev_name 1 rfl) (rv_I h0)) fun H6 e6 => k _ H6 (Int.emod_nonneg _ (by omega)) (Int.emod_lt_of_pos _ h0) (((ebut E5).trans But.upd).trans (ebut e6)) ⟨cs, a, rest / many, e6 _ _ upd_same, e6 _ _ (by rw [upd_ne ncr]; exact E5 _ _ hc), a0, by omega, by omega, hl⟩)
  -- at = rope[1]
  refine b_cons (s_set 3 (eX_ev (v := .int a) (ev_ixL (ev_name 0 rfl) ev_int (sq_of (e1 _ _ hr')) rfl) fun H2 e2 => ?_) nd)
  -- rope[1] = at + 1
  refine b_cons (s_item (eX_ev (v := .int (a + 1)) (ev_bin op_add (ev_name 3 rfl) ev_int rv_I0) fun H3 e3 => eX_ev (v := .ref r) (ev_name 0 rfl) fun H4 e4 => eX_ev (v := .int 1) ev_int fun H5 e5 => ?_))
  have E5 := (((e1.trans e2).trans e3).trans e4).trans e5
  refine ⟨r, _, 1, 1, rfl, rfl, E5 _ _ hr', rfl, ?_⟩
  have b5 : But r H (L2.upd H5 r (.lst ([V.ref c, .int a, .int rest].set 1 (.int (a + 1))))) := (ebut E5).trans But.upd
  have r5 : L2.upd H5 r (.lst ([V.ref c, .int a, .int rest].set 1 (.int (a + 1)))) r = some (.lst [V.ref c, .int (a + 1), .int rest]) := upd_same
  have c5 : L2.upd H5 r (.lst ([V.ref c, .int a, .int rest].set 1 (.int (a + 1)))) c = some (.lst (cs.map V.int)) := by rw [upd_ne ncr]; exact E5 _ _ hc
  generalize L2.upd H5 r (.lst ([V.ref c, .int a, .int rest].set 1 (.int (a + 1)))) = H5' at b5 r5 c5 ⊢
  -- cell = 83162 * at + 9856
  refine b_cons (s_set 4 (eX_ev (v := .int (83162 * a + 9856)) (ev_bin op_add (ev_bin op_mul ev_int (ev_name 3 rfl) (rv_I (.inl (by decide)))) ev_int rv_I0) fun H6 e6 => ?_) nd)
  -- if rope[0] != []: cell = rope[0][int(at) % len(rope[0])]
  refine b_mid (fun σ' H' => ∃ cell : Int, σ' = [some (.ref r), some (.int many), none, some (.int a), some (.int cell), none] ∧ Ex H5' H') ?_ fun σ7 H7 hM => ?_
  · refine s_if (k := !decide ((cs.map V.int).length = 0)) (et_neNil hr.units (ev_ixL (ev_name 0 rfl) ev_int (sq_of (e6 _ _ r5)) rfl) (sq_of (e6 _ _ c5))) (fun hb2 H7 e7 => ?_) fun hb2 H7 e7 => b_nil ⟨_, rfl, e6.trans e7⟩
    have hne : 0 < cs.length := by
      rw [List.length_map] at hb2
      rcases Nat.eq_zero_or_pos cs.length with z | z
      · rw [z] at hb2
        cases hb2
      · exact z
    have E7 := e6.trans e7
    obtain ⟨q, hq, hqz⟩ : ∃ q : Nat, q < cs.length ∧ a % ((cs.map V.int).length : Int) = (q : Int) := by
      rw [List.length_map]
      have z1 := Int.emod_nonneg a (show (cs.length : Int) ≠ 0 by omega)
      have z2 := Int.emod_lt_of_pos a (show (0 : Int) < cs.length by omega)
      exact ⟨(a % (cs.length : Int)).toNat, by omega, by omega⟩
    refine b_one (s_set 4 (eX_ev (v := .int cs[q]) (ev_ixL (i := a % ((cs.map V.int).length : Int)) (ev_ixL (ev_name 0 rfl) ev_int (sq_of (E7 _ _ r5)) rfl) (ev_bin op_mod (ev_intc (T.f "int") (ev_name 3 rfl)) (ev_lenL (T.f "len") (ev_ixL (ev_name 0 rfl) ev_int (sq_of (E7 _ _ r5)) rfl) (.inl (sq_of (E7 _ _ c5)))) (rv_I (by rw [List.length_map]; omega))) (sq_of (E7 _ _ c5)) ?_) fun H8 e8 => ⟨_, rfl, E7.trans e8⟩) nd)
    rw [hqz, atI_nat (by rw [List.length_map]; exact hq), List.getElem?_map, List.getElem?_eq_getElem hq]
    rfl
  obtain ⟨cell, rfl, E7⟩ := hM
  have r7 := E7 _ _ r5
  have c7 := E7 _ _ c5
  have B7 := b5.trans (ebut E7)
  have p18 : ∀ {X : Cx} {σ : Sg} {H : Hp} {j1 j2 : Nat} {p1 p2 p3 : Pos}, EV X (.BinOp (.Constant (.int 10) j1 p1) .Pow (.Constant (.int 18) j2 p2) p3) σ H (.int (10 ^ (18 : Int).toNat)) := fun {X σ H j1 j2 p1 p2 p3} => ev_bin op_pow ev_int ev_int (rv_I (powB (by decide) (by decide) _ (by decide) (by decide)))
  -- if at < len(rope[0]) and abs(cell) >= 10 ** 18
  refine b_cons (s_if (k := decide (a < ((cs.map V.int).length : Int)) && decide (10 ^ (18 : Int).toNat ≤ if cell < 0 then -cell else cell)) (et_w (ew_and (et_cmp op_lt (ev_name 3 rfl) (ev_lenL (T.f "len") (ev_ixL (ev_name 0 rfl) ev_int (sq_of r7) rfl) (.inl (sq_of c7))) rv_I0) fun _ => ew_and1 (et_cmp op_ge (ev_absc (T.f "abs") (ev_name 4 rfl)) p18 rv_I0))) (fun hb3 H8 e8 => ?_) fun hb3 H8 e8 => b_nil ?_)
  · -- rest = 2 * (abs(cell) - 10 ** 18) + int(cell < 0)
    refine b_cons (s_set 2 (eX_ev (ev_bin op_add (ev_bin op_mul ev_int (ev_bin op_sub (ev_absc (T.f "abs") (ev_name 4 rfl)) p18 rv_I0) (rv_I (.inl (by decide)))) (ev_intb (T.f "int") (ev_cmp op_lt (ev_name 4 rfl) ev_int rv_I0)) rv_I0) fun H9 e9 => ?_) nd)
    generalize (2 * ((if cell < 0 then -cell else cell) - 10 ^ (18 : Int).toNat) + if decide (cell < 0) = true then 1 else 0 : Int) = rest'
    refine b_cons (s_item (eX_ev (v := .int (rest' / many)) (ev_bin op_fdivW (ev_intc (T.f "int") (ev_name 2 rfl)) (ev_name 1 rfl) (rv_I (cdiv _))) fun H3 e3 => eX_ev (v := .ref r) (ev_name 0 rfl) fun H4 e4 => eX_ev (v := .int 2) ev_int fun H10 e10 => ?_))
    have E10 := (((e8.trans e9).trans e3).trans e4).trans e10
    refine ⟨r, _, 2, 2, rfl, rfl, E10 _ _ r7, rfl, ?_⟩
    refine b_one (s_ret (v := .int (rest' % many)) (ev_bin op_mod (ev_intc (T.f "int") (ev_name 2 rfl)) (ev_name 1 rfl) (rv_I h0)) fun H6 e6 => k _ H6 (Int.emod_nonneg _ (by omega)) (Int.emod_lt_of_pos _ h0) (((B7.trans (ebut E10)).trans But.upd).trans (ebut e6)) ⟨cs, a + 1, rest' / many, e6 _ _ upd_same, e6 _ _ (by rw [upd_ne ncr]; exact E10 _ _ c7), by omega, by omega, by omega, hl⟩)
  -- mixed = int((int(cell) % 2147483629 + 50256 * at + 9856) ** 5) % 2147483587
  have m0 := Int.emod_nonneg cell (show (2147483629 : Int) ≠ 0 by decide)
  have m1 := Int.emod_lt_of_pos cell (show (0 : Int) < 2147483629 by decide)
  have ha5 : a ≤ 100000 := by omega
  refine b_cons (s_set 5 (eX_ev (ev_bin op_mod (ev_intc (T.f "int") (ev_bin op_pow (ev_bin op_add (ev_bin op_add (ev_bin op_mod (ev_intc (T.f "int") (ev_name 4 rfl)) ev_int (rv_I (by decide))) (ev_bin op_mul ev_int (ev_name 3 rfl) (rv_I (.inl (by decide)))) rv_I0) ev_int rv_I0) ev_int (rv_I (powB (by omega) (by omega) _ (by decide) (by decide))))) ev_int (rv_I (by decide))) fun H9 e9 => ?_) nd)
  generalize hx : ((cell % 2147483629 + 50256 * a + 9856) ^ (5 : Int).toNat % 2147483587 : Int) = x
  have x0 : 0 ≤ x := by rw [← hx]; exact Int.emod_nonneg _ (by decide)
  have x1 : x < 2147483587 := by rw [← hx]; exact Int.emod_lt_of_pos _ (by decide)
  have y1 : x * (2 * a + 8552) ≤ 2147483587 * 208552 := Int.mul_le_mul (by omega) (by omega) (by omega) (by omega)
  have y0 : 0 ≤ x * (2 * a + 8552) := Int.mul_nonneg x0 (by omega)
  have z1 : 83162 * a * a ≤ 8316200000 * 100000 := Int.mul_le_mul (by omega) (by omega) (by omega) (by omega)
  have z0 : 0 ≤ 83162 * a * a := Int.mul_nonneg (by omega) a0
  -- mixed = int((mixed * (2 * at + 8552) + 83162 * at * at + 50256) ** 3) % 2147483549
  refine b_cons (s_set 5 (eX_ev (ev_bin op_mod (ev_intc (T.f "int") (ev_bin op_pow (ev_bin op_add (ev_bin op_add (ev_bin op_mul (ev_name 5 rfl) (ev_bin op_add (ev_bin op_mul ev_int (ev_name 3 rfl) (rv_I (.inl (by decide)))) ev_int rv_I0) (rv_I (.inl (by omega)))) (ev_bin op_mul (ev_bin op_mul ev_int (ev_name 3 rfl) (rv_I (.inl (by decide)))) (ev_name 3 rfl) (rv_I (.inl (by omega)))) rv_I0) ev_int rv_I0) ev_int (rv_I (powB (by omega) (by omega) _ (by decide) (by decide))))) ev_int (rv_I (by decide))) fun H10 e10 => ?_) nd)
  generalize ((x * (2 * a + 8552) + 83162 * a * a + 50256) ^ (3 : Int).toNat % 2147483549 : Int) = y
  -- return int(mixed // 64) % many
  have E10 := (e8.trans e9).trans e10
  refine b_one (s_ret (v := .int (y / 64 % many)) (ev_bin op_mod (ev_intc (T.f "int") (ev_bin op_fdiv (ev_name 5 rfl) ev_int (rv_I ⟨by decide, by decide⟩))) (ev_name 1 rfl) (rv_I h0)) fun H6 e6 => k _ H6 (Int.emod_nonneg _ (by omega)) (Int.emod_lt_of_pos _ h0) (B7.trans (ebut (E10.trans e6))) ⟨cs, a + 1, rest, (E10.trans e6) _ _ r7, (E10.trans e6) _ _ c7, by omega, by omega, by omega, hl⟩)
theorem ok_law_one (T : Txt K mg) (ck : Cl P w K mg base CX0 1 "_law_knot" spKnot) (D : Df K mg d_law_one) : Cl P w K mg base CX0 2 "_law_one" (spOne K) := by
  refine D.cl sc_law_one (fun vs H Q E h => ?_) (fun _ _ _ _ _ _ us hl => match us, hl with | [_, _], _ => rfl) fun f cdv A outer s H vs Q E hr h => ⟨_, pb_X, ?_⟩
  · obtain ⟨r, c, n, s, xs, rfl, _⟩ := h
    rfl
  obtain ⟨r, c, n, s, xs, rfl, hR, hn, hs, hsr, l0, l1, k⟩ := h
  refine b_one (s_retX (eX_of (pe_ix ix_list pe_X pe_X (by intro _ _; rfl)) (eX_ev (v := .ref s) (ev_name 1 rfl) fun H1 e1 => ?_)))
  refine eX_of (pe_cl (E := E0) ck hr (by decide) pass0 rfl (pa_cons pe_X (pa_cons pe_X pa_nil))) (eX_ev (ev_name 0 rfl) fun H2 e2 => eX_ev (ev_lenL (T.f "len") (ev_name 1 rfl) (.inl (ex_l (e1.trans e2) hs))) fun H3 e3 => ?_)
  have E3 := (e1.trans e2).trans e3
  refine ⟨r, c, n, _, rfl, hR.ex E3, hn, by omega, by omega, fun j H' j0 j1 b R' => ?_⟩
  obtain ⟨i, rfl⟩ := Int.eq_ofNat_of_zero_le j0
  have hi : i < xs.length := by omega
  exact ⟨s, xs, _, xs[i], rfl, rfl, sqL_but (ex_l E3 hs) b hsr, (atI_nat hi).trans (List.getElem?_eq_getElem hi), k i _ H' (List.getElem?_eq_getElem hi) ((ebut E3).trans b) R'⟩
end
section
variable {X : Cx} {a b : Expr} {p pos : Pos} {σ : Sg} {H : Hp} {Q : VK} {j n : Nat} {r c : Addr} {m : Int}
theorem e_knot (ck : Cl X.prog X.w X.K X.mg X.base CX0 1 "_law_knot" spKnot) (hr : Room j X.A) (hk : 1 ≤ j) (ha : EV X a σ H (.ref r)) (hb : EV X b σ H (.int m)) (hR : RopeO H r c n) (hn : n < 100000) (h0 : 0 < m) (h1 : m < 1073741824)
    (q : ∀ (k : Nat) H', (k : Int) < m → But r H H' → RopeO H' r c (n + 1) → Q (.int k) H') (hg : Gl X ("_law_knot" : Str) := by rfl) (he : starEach [a, b] X.env = (false, eval a X.env) :: starEach [b] X.env := by rfl) (he2 : starEach [b] X.env = (false, eval b X.env) :: starEach [] X.env := by rfl) (hpl : (backTo pos (starEach [b] X.env)).any (·.1) = false := by rfl) :
    eX X (.Call (.Name "_law_knot" p) [a, b] [] pos) σ H Q :=
  eX_of (pe_cl (E := E0) ck hr hk pass0 hg (pa_cons pe_X (pa_cons pe_X pa_nil he2) he) (by decide +kernel) he hpl) (eX_ev ha fun H1 e1 => eX_ev (fun H2 e2 => hb H2 (e1.trans e2)) fun H2 e2 => ⟨r, c, n, m, rfl, hR.ex (e1.trans e2), hn, h0, h1, fun k H' k0 k1 b' R' => by
    obtain ⟨k', rfl⟩ := Int.eq_ofNat_of_zero_le k0
    exact q k' H' k1 ((ebut (e1.trans e2)).trans b') R'⟩)
theorem e_one (co : Cl X.prog X.w X.K X.mg X.base CX0 2 "_law_one" (spOne X.K)) (hr : Room j X.A) (hk : 2 ≤ j) (ha : EV X a σ H (.ref r))
    (h : ∀ H1, Ex H H1 → eX X b σ H1 fun v H2 => ∃ s xs n, v = V.ref s ∧ RopeO H2 r c n ∧ n < 100000 ∧ SqL X.K H2 s xs ∧ s ≠ r ∧ 0 < xs.length ∧ xs.length < 100000 ∧ ∀ (j : Nat) x H', xs[j]? = some x → But r H2 H' → RopeO H' r c (n + 1) → Q x H')
    (hg : Gl X ("_law_one" : Str) := by rfl) (he : starEach [a, b] X.env = (false, eval a X.env) :: starEach [b] X.env := by rfl) (he2 : starEach [b] X.env = (false, eval b X.env) :: starEach [] X.env := by rfl) (hpl : (backTo pos (starEach [b] X.env)).any (·.1) = false := by rfl) :
    eX X (.Call (.Name "_law_one" p) [a, b] [] pos) σ H Q :=
  eX_of (pe_cl (E := E0) co hr hk pass0 hg (pa_cons pe_X (pa_cons pe_X pa_nil he2) he) (by decide +kernel) he hpl) (eX_ev ha fun H1 e1 => eX_mono (h H1 e1) fun v H2 q => by
    obtain ⟨s, xs, n, rfl, R, hn, hs, nsr, l0, l1, k⟩ := q
    exact ⟨r, c, n, s, xs, rfl, R, hn, hs, nsr, l0, l1, k⟩)
end
end K96

set_option Elab.async false
set_option linter.all false
set_option maxRecDepth 100000
set_option maxHeartbeats 4000000
/-! The law's value. -/
namespace K96
open PySem PySem.Spec PyProof.Rows L2 Evl
def costV : Nat → Nat
  | 0 => 2
  | n + 1 => 4 + 3 * costV n
def sizV : Nat → Nat
  | 0 => 1
  | n + 1 => 1 + 3 * sizV n
theorem costV_pos : ∀ n, 2 ≤ costV n
  | 0 => Nat.le_refl _
  | n + 1 => by show 2 ≤ 4 + 3 * costV n; omega
theorem sizV_pos : ∀ n, 1 ≤ sizV n
  | 0 => Nat.le_refl _
  | n + 1 => by show 1 ≤ 1 + 3 * sizV n; omega
/-- a single value that can be told -/
def PickV (v : V) : Prop := ∃ d, (∀ K H, Ur K H v d) ∧ plainD d = true ∧ singleD d = true ∧ szD d = 1
def spValue (m : Nat) (K : Fr) : Sp := fun vs H Q _ => ∃ r c n, vs = [.ref r, .int (m : Nat)] ∧ RopeO H r c n ∧ n + costV m < 100000 ∧ ∀ v d H', But r H H' → RopeO H' r c (n + costV m) → Ur K H' v d → plainD d = true → toldAt m d = true → szD d ≤ sizV m → Q v H'
theorem told_single {d : PyData} (h : singleD d = true) : ∀ m, toldAt m d = true
  | 0 => by cases d <;> first | exact h | cases h
  | m + 1 => by cases d <;> first | exact h | cases h
section
variable {X : Cx} {a b : Expr} {pos : Pos} {σ : Sg} {H : Hp}
theorem t_and2 {Q : Bool → Hp → Prop} (h : tX X a σ H fun k H1 => if k = true then tX X b σ H1 Q else Q false H1) : tX X (.BoolOp .And [a, b] pos) σ H Q := tX_of (PW.pt (pw_and pt_X (pw_and1 pt_X))) h
theorem t_eq {Q : Bool → Hp → Prop} (h : eX X a σ H fun x H1 => eX X b σ H1 fun y H2 => scal x y = true ∧ Q (decide (x = y)) H2) (hm : behindInMarks .Eq b = false := by first | rfl | exact nomark _) : tX X (.Compare a [.Eq] [b] pos) σ H Q :=
  tX_of (pt_cmpR op_eq pe_X pe_X hm) (eX_mono h fun x H1 q => eX_mono q fun y H2 ⟨q1, q2⟩ => ⟨q1, _, rfl, q2⟩)
end
section
variable {P : Program} {w : World} {K : Fr} {mg : Str → Option Value} {base : Heap}
/-- what stands at the end of a comprehension's turn -/
def PvV (K : Fr) (r c Dl : Addr) (n m : Nat) (H : Hp) (i : Nat) (H' : Hp) : Prop :=
  ∃ vs ds, But r H H' ∧ RopeO H' r c (n + 2 + i * costV m) ∧ H' Dl = some (.lst vs) ∧ UrAll K H' vs ds ∧ plainL ds = true ∧ ds.all (toldAt m) = true ∧ szL ds ≤ i * sizV m ∧ vs.length = i
theorem value_step (T : Txt K mg) (ck : Cl P w K mg base CX0 1 "_law_knot" spKnot) (co : Cl P w K mg base CX0 2 "_law_one" (spOne K)) (D : Df K mg d_law_value) (m : Nat) (ih : ∀ n, m = n + 1 → Cl P w K mg base CX0 (n + 3) "_law_value" (spValue n K)) : Cl P w K mg base CX0 (m + 3) "_law_value" (spValue m K) := by
  refine D.cl sc_law_value (fun vs H Q E h => ?_) (fun _ _ _ _ _ _ us hl => match us, hl with | [_, _], _ => rfl) fun f cdv A outer s H vs Q E hr h => ⟨_, pb_X, ?_⟩
  · obtain ⟨r, c, n, rfl, _⟩ := h
    rfl
  obtain ⟨r, c, n, rfl, hR, hn, k⟩ := h
  have nd := sc_law_value.nd
  have cp := costV_pos m
  -- return _law_one(rope, [..])
  have tail : ∀ (n' : Nat) (H1 : Hp), But r H H1 → RopeO H1 r c n' → n' + 2 ≤ n + costV m → bX (cxOf CX0 P w K mg base ["rope", "deep", "turn"] d_law_value.qual d_law_value.scope f cdv A outer s H E) [d_law_value.body.getD 1 (.Pass ⟨0, 0, 0, 0⟩)] { nx := fun _ H' => Q .non H', rt := Q } [some (.ref r), some (.int (m : Nat)), none] H1 := fun n' H1 b1 R1 hn' => by
    refine b_one (s_retX (eX_of (pe_cl (E := E0) co hr (by omega) pass0 rfl (pa_cons pe_X (pa_cons pe_X pa_nil))) (eX_ev (ev_name 0 rfl) fun H2 e2 => ?_)))
    refine e_lst (a_cons (eX_ev ev_non fun H3 e3 => a_cons (eX_ev ev_int fun H4 e4 => a_cons (eX_ev (ev_of (pe_un un_neg pe_int) (ev_un ev_c ru_neg)) fun H5 e5 => a_cons (eX_ev ev_int fun H6 e6 => a_cons ?_)))))
    refine eX_of (pe_cl (E := E0) ck hr (by omega) pass0 rfl (pa_cons pe_X (pa_cons pe_X pa_nil))) (eX_ev (ev_name 0 rfl) fun H7 e7 => eX_ev (ev_bin op_pow ev_int ev_int (rv_I (powB (by decide) (by decide) _ (by decide) (by decide)))) fun H8 e8 => ?_)
    have E8 := (((((e2.trans e3).trans e4).trans e5).trans e6).trans e7).trans e8
    refine ⟨r, c, n', _, rfl, R1.ex E8, by omega, by decide, by decide, fun j H9 j0 j1 b9 R9 => ?_⟩
    have j2 : j < 1000000 := Int.lt_of_lt_of_le j1 (by decide)
    have p12 : ∀ {X : Cx} {σ : Sg} {H : Hp} {j1 j2 : Nat} {p1 p2 p3 : Pos}, EV X (.BinOp (.Constant (.int 10) j1 p1) .Pow (.Constant (.int 12) j2 p2) p3) σ H (.int 1000000000000) := fun {X σ H j1 j2 p1 p2 p3} => ev_bin op_pow ev_int ev_int (rv_I (powB (by decide) (by decide) _ (by decide) (by decide)))
    refine a_cons (eX_ev (ev_bin op_sub p12 ev_int rv_I0) fun H10 e10 => a_cons (eX_ev (ev_bin op_sub ev_int p12 rv_I0) fun H11 e11 => a_cons (eX_ev ev_str fun H12 e12 => a_cons (eX_ev ev_str fun H13 e13 => a_cons (eX_ev ev_str fun H14 e14 => a_cons (eX_ev ev_str fun H15 e15 => a_one (eX_ev ev_str fun H16 e16 => ⟨by show 12 ≤ sizeLine; decide, fun q hq => ?_⟩)))))))
    have E16 := (((((e10.trans e11).trans e12).trans e13).trans e14).trans e15).trans e16
    obtain ⟨o9, ho9, _⟩ := R9.at_
    have nqr : q ≠ r := fun z => by
      rw [z, E16 _ _ ho9] at hq
      cases hq
    refine ⟨r, c, n' + 1, q, _, rfl, (R9.ex E16).ex (Ex.new hq), by omega, sq_of upd_same, nqr, by show 0 < 12; decide, by show 12 < 100000; decide, fun i x H17 hx b17 R17 => ?_⟩
    have pk : PickV x := by
      have hs : ∀ z : Str, isMark z = true → z.length ≤ 100000 → PickV (.str z) := fun z h1 h2 => ⟨.str z, fun _ _ => .str z h2, rfl, h1, rfl⟩
      have hi : ∀ z : Int, 0 - mostV ≤ z → z ≤ mostV → PickV (.int z) := fun z h1 h2 => ⟨.int z, fun _ _ => .int z, rfl, Bool.and_eq_true_iff.mpr ⟨decide_eq_true h1, decide_eq_true h2⟩, rfl⟩
      have hm : mostV = 999999999999 := rfl
      have hmem := List.mem_of_getElem? hx
      simp only [List.mem_cons, List.not_mem_nil, or_false] at hmem
      rcases hmem with rfl | rfl | rfl | rfl | rfl | rfl | rfl | rfl | rfl | rfl | rfl | rfl
      · exact ⟨.none, fun _ _ => .non, rfl, rfl, rfl⟩
      · exact hi _ (by decide) (by decide)
      · exact hi _ (by decide) (by decide)
      · exact hi _ (by decide) (by decide)
      · exact hi _ (by omega) (by omega)
      · exact hi _ (by decide) (by decide)
      · exact hi _ (by decide) (by decide)
      · exact hs _ (by decide +kernel) (by decide +kernel)
      · exact hs _ (by decide +kernel) (by decide +kernel)
      · exact hs _ (by decide +kernel) (by decide +kernel)
      · exact hs _ (by decide +kernel) (by decide +kernel)
      · exact hs _ (by decide +kernel) (by decide +kernel)
    obtain ⟨d, u, p1, p2, p3⟩ := pk
    exact k x d H17 ((((b1.trans (ebut E8)).trans b9).trans (ebut (E16.trans (Ex.new hq)))).trans b17) (R17.le (by omega) (by omega)) (u _ _) p1 (told_single p2 m) (by rw [p3]; exact sizV_pos m)
  -- if deep > 0 and _law_knot(rope, 2) == 0
  refine b_cons (s_ifX (t_and2 (tX_et (et_cmp op_gt (ev_name 1 rfl) ev_int rv_I0) fun H1 e1 => ?_)))
  cases m with
  | zero =>
    rw [if_neg (by decide)]
    exact iteF (b_nil (tail n H1 (ebut e1) (hR.ex e1) (by omega)))
  | succ m0 =>
    have ci := ih m0 rfl
    have hc : costV (m0 + 1) = 4 + 3 * costV m0 := rfl
    have hz : sizV (m0 + 1) = 1 + 3 * sizV m0 := rfl
    rw [if_pos (by exact decide_eq_true (by omega))]
    refine t_eq (eX_of (pe_cl (E := E0) ck hr (by omega) pass0 rfl (pa_cons pe_X (pa_cons pe_X pa_nil))) (eX_ev (ev_name 0 rfl) fun H2 e2 => eX_ev ev_int fun H3 e3 => ?_))
    have E3 := (e1.trans e2).trans e3
    refine ⟨r, c, n, 2, rfl, hR.ex E3, by omega, by decide, by decide, fun j H4 j0 j1 b4 R4 => eX_ev ev_int fun H5 e5 => ⟨rfl, ?_⟩⟩
    have B5 := ((ebut E3).trans b4).trans (ebut e5)
    by_cases hj : decide (V.int j = V.int 0) = true
    case neg =>
      rw [if_neg hj]
      exact b_nil (tail (n + 1) H5 B5 (R4.ex e5) (by omega))
    rw [if_pos hj]
    -- return tuple([_law_value(rope, deep - 1) for turn in range(_law_knot(rope, 4))])
    refine b_one (s_retX (eX_of (pe_callTy call_tuple_of rfl (T.f "tuple") (by decide +kernel) (pa_cons pe_X pa_nil) (by decide) (by decide)) ?_))
    refine (show eX _ _ _ _ _ from eX_of (pe_lc (own := [("turn", 2)]) (tt := tYes) (te := eB _ _ _) (g := gName 2) rfl nd (pi_range1 rfl (T.f "range") (pa_cons pe_X pa_nil)) (blkOk_by (N := ["rope", "deep", "turn"]) (sc := defScope s_law_value) (by decide +kernel)) (fun _ _ _ _ _ => pg_name nd rfl (Or.inl rfl)) (fun _ _ _ _ _ => pts_nil) (fun s H C cl fp => ⟨fun pins s1 σ1 H2 Q1 I h => h s H C cl fp pins s1 I⟩) (fun _ => rfl)) ?_)
    refine (show eX _ _ _ _ _ from eX_of (pe_cl (E := E0) ck hr (by omega) pass0 rfl (pa_cons pe_X (pa_cons pe_X pa_nil))) (eX_ev (ev_name 0 rfl) fun H6 e6 => eX_ev ev_int fun H7 e7 => ?_))
    have E7 := e6.trans e7
    refine ⟨r, c, n + 1, 4, rfl, (R4.ex e5).ex E7, by omega, by decide, by decide, fun i4 H8 c0 c1 b8 R8 => ⟨i4, rfl, by omega, by omega, fun Dl hDl => ?_⟩⟩
    have B8 := (B5.trans (ebut E7)).trans b8
    obtain ⟨o8, ho8, _⟩ := R8.at_
    obtain ⟨nDr, nDc⟩ := R8.off hDl
    have hD0 : H Dl = none := B8.free ⟨_, ho8⟩ hDl
    have hct : i4.toNat ≤ 3 := by omega
    refine lc_range (lo := 0) (n := i4.toNat) (PvV K r c Dl n m0 H) ⟨[], [], B8.mut hD0, ?_, upd_same, .nil, rfl, rfl, Nat.zero_le _, rfl⟩ (fun i H9 hi hv => ?_) fun H9 hv => ?_
    · rw [Nat.zero_mul]
      exact (R8.ex (Ex.new hDl))
    · obtain ⟨vs, ds, b9, R9, l9, u9, p9, t9, z9, hvl⟩ := hv
      refine (show _ ∧ _ from ⟨rfl, ?_⟩)
      unfold tYes
      refine iteT ?_
      intro s' H0' C cl fp
      refine eX_of (pe_cl (E := E0) ci hr (by omega) pass0 rfl (pa_cons pe_X (pa_cons pe_X pa_nil))) (eX_ev (v := .ref r) (ev_name 0 rfl) fun H10 e10 => eX_ev (v := .int (m0 : Nat)) ?_ fun H11 e11 => ?_)
      · have : (m0 : Int) = ((m0 + 1 : Nat) : Int) - 1 := by omega
        rw [this]
        exact ev_bin op_sub (ev_name 1 rfl) ev_int rv_I0
      have E11 := e10.trans e11
      have hi2 : i * costV m0 + costV m0 = (i + 1) * costV m0 := (Nat.succ_mul _ _).symm
      have hi3 : (i + 1) * costV m0 ≤ 3 * costV m0 := Nat.mul_le_mul_right _ (by omega)
      have hz2 : i * sizV m0 + sizV m0 = (i + 1) * sizV m0 := (Nat.succ_mul _ _).symm
      refine ⟨r, c, _, rfl, R9.ex E11, by omega, fun v d H12 b12 R12 u12 p12 t12 z12 => ?_⟩
      have B12 : But r H9 H12 := (ebut E11).trans b12
      obtain ⟨o9, ho9, hn9⟩ := R9.at_
      have l12 := B12 _ _ nDr l9
      have tk1 : TupK K H9 H12 := tupK_but B12 ho9 hn9
      have tk2 : TupK K H12 (L2.upd H12 Dl (.lst (vs ++ [v]))) := tupK_upd l12 rfl
      refine ⟨vs, l12, Nat.lt_of_le_of_lt (by omega : vs.length ≤ 3) (by decide), vs ++ [v], ds ++ [d], (b9.trans B12).mut hD0, ?_, upd_same, (UrAll.keep (tk1.trans tk2) p9 u9).app (.cons (u12.keep tk2 p12) .nil), ?_, ?_, ?_, by simp [hvl]⟩
      · have e13 : n + 2 + i * costV m0 + costV m0 = n + 2 + (i + 1) * costV m0 := by omega
        rw [← e13]
        exact R12.upd nDr nDc
      · rw [plainL_app, p9]
        show (true && (plainD d && true)) = true
        rw [p12]
        rfl
      · rw [List.all_append, t9]
        show (true && (toldAt m0 d && true)) = true
        rw [t12]
        rfl
      · rw [szL_snoc]
        omega
    · obtain ⟨vs, ds, b9, R9, l9, u9, p9, t9, z9, hvl⟩ := hv
      refine ⟨Dl, vs, rfl, .inl ⟨sq_of l9, fun q hq => ?_⟩⟩
      have e10 : Ex H9 (L2.upd H9 q (.tup vs)) := Ex.new hq
      have hcc : i4.toNat * costV m0 ≤ 3 * costV m0 := Nat.mul_le_mul_right _ hct
      have hzz : i4.toNat * sizV m0 ≤ 3 * sizV m0 := Nat.mul_le_mul_right _ hct
      refine k (.ref q) (.tuple ds) _ (b9.trans (ebut e10)) ((R9.ex e10).le (by omega) (by omega)) (.tup (st_of upd_same) (u9.ext e10)) p9 t9 ?_
      show 1 + szL ds ≤ sizV (m0 + 1)
      omega
theorem ok_law_value (T : Txt K mg) (ck : Cl P w K mg base CX0 1 "_law_knot" spKnot) (co : Cl P w K mg base CX0 2 "_law_one" (spOne K)) (D : Df K mg d_law_value) : ∀ m : Nat, Cl P w K mg base CX0 (m + 3) "_law_value" (spValue m K)
  | 0 => value_step T ck co D 0 fun _ h => (nomatch h)
  | m + 1 => value_step T ck co D (m + 1) fun n h => by
    cases h
    exact ok_law_value T ck co D m
end
end K96

set_option Elab.async false
set_option linter.all false
set_option maxRecDepth 100000
set_option maxHeartbeats 4000000
/-! The law's bent. -/
namespace K96
open PySem PySem.Spec PyProof.Rows L2 Evl
section
variable {X : Cx} {o e e1 e2 a b c o1 i1 o2 i2 : Expr} {pos px p apos cpos p1 p2 pt pt2 : Pos} {kt k2 : Nat} {σ : Sg} {H : Hp} {Q : VK} {D : Ends} {l : Addr} {xs : List V} {y : V}
/-- xs.pop(k) -/
theorem e_popAt {k : Nat} (ho : EV X o σ H (.ref l)) (hl : H l = some (.lst xs)) (he : EV X e σ H (.int (k : Nat))) (hk : xs[k]? = some y) (hz : xs.length ≤ 100000) (q : ∀ H1, Ex H H1 → Q y (L2.upd H1 l (.lst (xs.eraseIdx k)))) (hbase : attributeBase o "pop" X.env (eval o X.env) = eval o X.env := by rfl)
    (hfew : ((backTo cpos (starEach [e] X.env)).all (fun x => !x.1) && (backToKw cpos (keywordEach [] X.env)).all (fun x => x.1.isSome) && decide (([e] : List Expr).length + ([] : List Keyword).length + (if ([] : List Keyword).isEmpty then 0 else 1) < 30)) = true := by rfl)
    (hline : (apos.endLine == cpos.line) = true := by rfl) (hs : starEach [e] X.env = (false, eval e X.env) :: starEach [] X.env := by rfl) (hplain : (backTo cpos (starEach [] X.env)).any (·.1) = false := by rfl) : eX X (.Call (.Attribute o "pop" apos) [e] [] cpos) σ H Q :=
  eX_of (pe_bm PySem.F.plainAttrs_list PySem.F.slot_list_pop PySem.F.type_list_pop mt_popAt pe_X pa_X hbase hfew hline hs hplain) (eX_ev ho fun H1 e1 => by
    refine ⟨Or.inl ⟨rfl, _, sq_of (e1 _ _ hl)⟩, a_one (eX_ev (fun H2 e2 => he H2 (e1.trans e2)) fun H2 e2 => ?_) hs⟩
    have hkl := (List.getElem?_eq_some_iff.mp hk).1
    refine ⟨l, xs, _, k, y, rfl, rfl, (e1.trans e2) _ _ hl, by omega, by omega, ?_, hk, q H2 (e1.trans e2)⟩
    exact (ixN_seq (ixN_nat hkl)).1)
/-- xs.insert(k, e) -/
theorem e_insert {k : Nat} (ho : EV X o σ H (.ref l)) (hl : ∃ xs, H l = some (.lst xs)) (hk : EV X e1 σ H (.int (k : Nat))) (hk2 : k ≤ 100000) (he : ∀ H1, Ex H H1 → eX X e2 σ H1 fun v H2 => ∃ xs, H2 l = some (.lst xs) ∧ xs.length < 100000 ∧ Q .non (L2.upd H2 l (.lst (xs.take k ++ [v] ++ xs.drop k)))) (hbase : attributeBase o "insert" X.env (eval o X.env) = eval o X.env := by rfl)
    (hfew : ((backTo cpos (starEach [e1, e2] X.env)).all (fun x => !x.1) && (backToKw cpos (keywordEach [] X.env)).all (fun x => x.1.isSome) && decide (([e1, e2] : List Expr).length + ([] : List Keyword).length + (if ([] : List Keyword).isEmpty then 0 else 1) < 30)) = true := by rfl)
    (hline : (apos.endLine == cpos.line) = true := by rfl) (hs : starEach [e1, e2] X.env = (false, eval e1 X.env) :: starEach [e2] X.env := by rfl) (hs2 : starEach [e2] X.env = (false, eval e2 X.env) :: starEach [] X.env := by rfl) (hplain : (backTo cpos (starEach [e2] X.env)).any (·.1) = false := by rfl) : eX X (.Call (.Attribute o "insert" apos) [e1, e2] [] cpos) σ H Q :=
  eX_of (pe_bm PySem.F.plainAttrs_list PySem.F.slot_list_insert PySem.F.type_list_insert mt_insert pe_X pa_X hbase hfew hline hs hplain) (eX_ev ho fun H1 e1' => by
    obtain ⟨xs, hx⟩ := hl
    refine ⟨Or.inl ⟨rfl, _, sq_of (e1' _ _ hx)⟩, a_cons (eX_ev (fun H2 e2' => hk H2 (e1'.trans e2')) fun H2 e2' => a_one (eX_mono (he H2 (e1'.trans e2')) fun v H3 q => ?_) hs2) hs⟩
    obtain ⟨ys, h1, h2, h3⟩ := q
    exact ⟨l, ys, _, v, rfl, rfl, h1, sz_lt h2, by omega, by omega, h3⟩)
/-- o1[i1], o2[i2] = a, b -/
theorem s_swap (h : eX X a σ H fun x H1 => eX X b σ H1 fun y H2 => ∀ t, H2 t = none → eX X o1 σ (L2.upd H2 t (.tup [x, y])) fun u1 H3 => eX X i1 σ H3 fun w1 H4 => rSetL u1 w1 x H4 fun H5 => eX X o2 σ H5 fun u2 H6 => eX X i2 σ H6 fun w2 H7 => rSetL u2 w2 y H7 fun H8 => D.nx σ H8) (hc : X.calm = true := by rfl)
    (hs : swapsWithSole [.Tuple [.Subscript o1 i1 p1, .Subscript o2 i2 p2] kt pt] (.Tuple [a, b] k2 pt2) pos.line X.env = pure false := by rfl) (hw : swappedStores [.Tuple [.Subscript o1 i1 p1, .Subscript o2 i2 p2] kt pt] (.Tuple [a, b] k2 pt2) X.env = pure none := by rfl)
    (h1 : (assignEach [.Tuple [.Subscript o1 i1 p1, .Subscript o2 i2 p2] kt pt] X.env).map (·.2) = [assign (.Tuple [.Subscript o1 i1 p1, .Subscript o2 i2 p2] kt pt) X.env] := by rfl)
    (s1 : starEach [a, b] X.env = (false, eval a X.env) :: starEach [b] X.env := by rfl) (s2 : starEach [b] X.env = (false, eval b X.env) :: starEach [] X.env := by rfl)
    (a1 : ∀ v, assign (.Subscript o1 i1 p1) X.env v = (do
      let ov ← holding [v] (eval o1 X.env)
      let iv ← holding [v, ov] (eval i1 X.env)
      standAt p1
      holding [v, ov, iv] (setItem ov iv v)
      release [v, ov, iv] []) := by intro _; rfl)
    (a2 : ∀ v, assign (.Subscript o2 i2 p2) X.env v = (do
      let ov ← holding [v] (eval o2 X.env)
      let iv ← holding [v, ov] (eval i2 X.env)
      standAt p2
      holding [v, ov, iv] (setItem ov iv v)
      release [v, ov, iv] []) := by intro _; rfl)
    (q1 : (assignEach [.Subscript o1 i1 p1, .Subscript o2 i2 p2] X.env).map (·.2) = assign (.Subscript o1 i1 p1) X.env :: (assignEach [.Subscript o2 i2 p2] X.env).map (·.2) := by rfl) (q2 : (assignEach [.Subscript o2 i2 p2] X.env).map (·.2) = assign (.Subscript o2 i2 p2) X.env :: (assignEach [] X.env).map (·.2) := by rfl)
    (q3 : (assignEach [.Subscript o1 i1 p1, .Subscript o2 i2 p2] X.env).length = 2 := by rfl) (q4 : (assignEach [.Subscript o1 i1 p1, .Subscript o2 i2 p2] X.env).findIdx? (·.1) = none := by rfl) :
    sX X (.Assign [.Tuple [.Subscript o1 i1 p1, .Subscript o2 i2 p2] kt pt] (.Tuple [a, b] k2 pt2) pos) D σ H := by
  refine sX_of (ps_asg (pe_tup (pa_cons pe_X (pa_cons pe_X pa_nil s2) s1)) (pg_tup hc (pgs_cons (pg_sub pe_X pe_X set_list a1) (pgs_cons (pg_sub pe_X pe_X set_list a2) pgs_nil q2) q1) q3 q4) hs hw h1) ?_
  refine (show eX X a σ H _ from eX_mono h fun x H1 q => (show eX X b σ H1 _ from eX_mono q fun y H2 q => ⟨by show 2 ≤ sizeLine; decide, fun t ht => ?_⟩))
  exact ⟨t, [x, y], rfl, st_of upd_same, rfl, x, [y], rfl, eX_mono (q t ht) fun u1 H3 q => eX_mono q fun w1 H4 q => by
    obtain ⟨p', xs, k, j, rfl, rfl, g1, g2, g3⟩ := q
    exact ⟨p', xs, k, j, rfl, rfl, g1, g2, y, [], rfl, eX_mono g3 fun u2 H6 q => eX_mono q fun w2 H7 q => by
      obtain ⟨p', xs, k, j, rfl, rfl, g1, g2, g3⟩ := q
      exact ⟨p', xs, k, j, rfl, rfl, g1, g2, rfl, g3⟩⟩⟩
/-- a, b, c = x, y, z -/
theorem s_par3 (i j l : Nat) {x y z : Str} {px py pz : Pos} (h : aX X [a, b, c] σ H fun vs H1 => ∃ u v w, vs = [u, v, w] ∧ D.nx (((σ.set i (some u)).set j (some v)).set l (some w)) H1) (hN : X.N.Nodup) (hc : X.calm = true := by rfl) (hi : X.N[i]? = some x := by rfl) (hj : X.N[j]? = some y := by rfl) (hl : X.N[l]? = some z := by rfl) (hij : i ≠ j := by decide) (hil : i ≠ l := by decide) (hjl : j ≠ l := by decide)
    (hx : X.env.scope.names.lookup x = some .local := by rfl) (hy : X.env.scope.names.lookup y = some .local := by rfl) (hz : X.env.scope.names.lookup z = some .local := by rfl)
    (hw : swappedStores [.Tuple [.Name x px, .Name y py, .Name z pz] kt pt] (.Tuple [a, b, c] k2 pt2) X.env = pure (some [x, y, z]) := by rfl)
    (hs : swapsWithSole [.Tuple [.Name x px, .Name y py, .Name z pz] kt pt] (.Tuple [a, b, c] k2 pt2) pos.line X.env = pure false := by rfl) : sX X (.Assign [.Tuple [.Name x px, .Name y py, .Name z pz] kt pt] (.Tuple [a, b, c] k2 pt2) pos) D σ H :=
  sX_of (ps_par3 hc hN hi hj hl hij hil hjl hx hy hz pa_X hw hs) h
/-- list(xs), a new one -/
theorem evl_list (hm : X.mg "list" = none) (ha : EV X a σ H (.ref l)) (hx : SqL X.K H l xs ∨ SqT X.K H l xs) (hg : Gl X ("list" : Str) := by rfl) (he : starEach [a] X.env = (false, eval a X.env) :: starEach [] X.env := by rfl) (hpl : (backTo pos (starEach [] X.env)).any (·.1) = false := by rfl) : EVL X (.Call (.Name "list" p) [a] [] pos) σ H xs :=
  evl_of (pe_callTy call_list_of hg hm (by decide +kernel) (pa_cons pe_X pa_nil he) (by decide) (by decide) he hpl) fun H1 e1 Q q => ha H1 e1 _ fun H2 e2 => ⟨l, xs, rfl, hx.imp (ex_l (e1.trans e2)) (ex_t (e1.trans e2)), fun p hp => q p _ (fresh_back e2 hp) (e2.trans (Ex.new hp)) upd_same⟩
/-- s + t -/
theorem ev_cat {s t : Str} (ha : EV X a σ H (.str s)) (hb : EV X b σ H (.str t)) (hz : s.length + t.length ≤ 100000) : EV X (.BinOp a .Add b pos) σ H (.str (s ++ t)) := ev_bin op_add_str ha hb fun H1 _ Q q => ⟨_, _, rfl, rfl, Nat.le_trans hz (by decide), q H1 (Ex.refl H1)⟩
theorem ev_upper {s : Str} (ha : EV X a σ H (.str s)) (hz : s.length ≤ 1000) (hbase : attributeBase a "upper" X.env (eval a X.env) = eval a X.env := by rfl) (hline : (apos.endLine == cpos.line) = true := by rfl) : EV X (.Call (.Attribute a "upper" apos) [] [] cpos) σ H (.str (Txt.upper s)) :=
  ev_of (pe_upper pe_X hbase hline) fun H1 e1 Q q => ha H1 e1 _ fun H2 e2 => ⟨⟨s, rfl⟩, s, rfl, rfl, by omega, q H2 e2⟩
end
theorem lnl1 {K : Fr} {H : Hp} {p q : Addr} {l : List Str} (hp : H p = some (.lst [.ref q])) (hq : H q = some (.lst (l.map V.str))) : LnL K H p [q] [l] := ⟨sq_of hp, rfl, fun k r l' h1 h2 => by
  cases k with
  | zero =>
    cases h1
    cases h2
    exact sq_of hq
  | succ k => simp at h1⟩
theorem lnl2 {K : Fr} {H : Hp} {p q s : Addr} {l m : List Str} (hp : H p = some (.lst [.ref q, .ref s])) (hq : H q = some (.lst (l.map V.str))) (hs : H s = some (.lst (m.map V.str))) : LnL K H p [q, s] [l, m] := ⟨sq_of hp, rfl, fun k r l' h1 h2 => by
  match k with
  | 0 =>
    cases h1
    cases h2
    exact sq_of hq
  | 1 =>
    cases h1
    cases h2
    exact sq_of hs
  | k + 2 => simp at h1⟩
theorem app_len (s t : Str) : (s ++ t).length = s.length + t.length := by
  show (s.cps ++ t.cps).size = _
  rw [Array.size_append]
  rfl
/-- a word's signs: ASCII, no space, no line feed -/
def okW (z : Str) : Prop := ∀ c ∈ z.cps.toList, c < 128 ∧ c ≠ 32 ∧ c ≠ 10
def InW (z : Str) : Prop := z.length ≤ 13 ∧ okW z
def OutW (z : Str) : Prop := z.length ≤ 40 ∧ okW z
theorem InW.out {z : Str} (h : InW z) : OutW z := ⟨by have := h.1; omega, h.2⟩
theorem app_ok {s t : Str} (h1 : okW s) (h2 : okW t) : okW (s ++ t) := fun c hc => by
  have e : (s ++ t).cps.toList = s.cps.toList ++ t.cps.toList := Array.toList_append
  rw [e] at hc
  exact (List.mem_append.mp hc).elim (h1 c) (h2 c)
theorem okW_lit {z : Str} (h : (z.cps.toList.all fun c => decide (c < 128 ∧ c ≠ 32 ∧ c ≠ 10)) = true) : okW z := fun c hc => of_decide_eq_true (List.all_eq_true.mp h c hc)
theorem upper_ok {s : Str} (h : okW s) : okW (Txt.upper s) := fun d hd => by
  have key : ∀ c, c < 128 → c ≠ 32 ∧ c ≠ 10 → ∀ d ∈ Unicode.upperOf c, d < 128 ∧ d ≠ 32 ∧ d ≠ 10 := by decide +kernel
  obtain ⟨c, hc, hd2⟩ : ∃ c ∈ s.cps.toList, d ∈ Unicode.upperOf c := by
    have hd : d ∈ ((s.cps.mapIdx fun i c => (Unicode.upperOf c).toArray).flatten).toList := hd
    rw [Array.mem_toList_iff, Array.mem_flatten] at hd
    obtain ⟨xs, hx, hdx⟩ := hd
    obtain ⟨i, hi, e⟩ := Array.mem_mapIdx.mp hx
    refine ⟨s.cps[i], by simp, ?_⟩
    rw [← e] at hdx
    simpa using hdx
  obtain ⟨a1, a2⟩ := h c hc
  exact key c a1 a2 d hd2
def LnB (n : Nat) (ls : List (List Str)) : Prop := ls.length ≤ 2 ∧ 0 < ls.length ∧ ∀ l ∈ ls, (0 < l.length ∧ l.length ≤ n) ∧ ∀ z ∈ l, OutW z
def spBent (K : Fr) : Sp := fun vs H Q _ => ∃ (r c : Addr) (n : Nat) (a b : Addr) (l : List Str) (wa : Addr) (ws : List Str), vs = [.ref r, .ref a, .ref wa] ∧ RopeO H r c n ∧ n + 20 < 100000 ∧ H a = some (.lst [.ref b]) ∧ H b = some (.lst (l.map V.str)) ∧ H wa = some (.lst (ws.map V.str)) ∧ 0 < l.length ∧ l.length ≤ 1000 ∧ ws.length ≤ 100 ∧ (∀ z ∈ l, InW z) ∧ (∀ z ∈ ws, InW z) ∧
  ∀ (p : Addr) (rs : List Addr) (ls : List (List Str)) H', But r H H' → RopeO H' r c (n + 20) → LnL K H' p rs ls → LnB (l.length + 1) ls → Q (.ref p) H'
theorem atI_j {α : Type} {xs : List α} {j : Nat} {x : α} (h : xs[j]? = some x) : atI xs (j : Int) = some x := by
  rw [atI_nat (List.getElem?_eq_some_iff.mp h).1]
  exact h
theorem strs_at {l : List Str} {j : Nat} (h : j < l.length) : (l.map V.str)[j]? = some (.str l[j]) := by
  rw [List.getElem?_map, List.getElem?_eq_getElem h]
  rfl
theorem erase_map {α β : Type} (f : α → β) : ∀ (l : List α) (k : Nat), (l.map f).eraseIdx k = (l.eraseIdx k).map f
  | [], _ => rfl
  | _ :: _, 0 => rfl
  | x :: l, k + 1 => by
    show f x :: (l.map f).eraseIdx k = f x :: (l.eraseIdx k).map f
    rw [erase_map f l k]
theorem mem_set' {l : List Str} {j : Nat} {w z : Str} (h : z ∈ l.set j w) : z ∈ l ∨ z = w := by
  rcases List.mem_or_eq_of_mem_set h with h | h
  · exact .inl h
  · exact .inr h
section
variable {P : Program} {w : World} {K : Fr} {mg : Str → Option Value} {base : Heap}
theorem ok_law_bent (T : Txt K mg) (ck : Cl P w K mg base CX0 1 "_law_knot" spKnot) (co : Cl P w K mg base CX0 2 "_law_one" (spOne K)) (D : Df K mg d_law_bent) : Cl P w K mg base CX0 3 "_law_bent" (spBent K) := by
  refine D.cl sc_law_bent (fun vs H Q E h => ?_) (fun _ _ _ _ _ _ us hl => match us, hl with | [_, _, _], _ => rfl) fun f cdv A outer s H vs Q E hr h => ⟨_, pb_X, ?_⟩
  · obtain ⟨r, c, n, a, b, l, wa, ws, rfl, _⟩ := h
    rfl
  obtain ⟨r, c, n, a, b, l, wa, ws, rfl, hR, hn, ha, hb, hwa, l0, l1, ws1, hz, hzw, k⟩ := h
  have nd := sc_law_bent.nd
  have rope_str : ∀ {H' : Hp} {n' : Nat} {q : Addr} {l' : List Str}, RopeO H' r c n' → H' q = some (.lst (l'.map V.str)) → q ≠ r := fun {H' n' q l'} R hq z => by
    obtain ⟨cs, x, rest, h1, _⟩ := R
    rw [z, h1] at hq
    cases l' with
    | nil => cases hq
    | cons _ _ => cases hq
  have nar : a ≠ r := fun z => by
    obtain ⟨cs, x, rest, h1, _⟩ := hR
    rw [z, h1] at ha
    cases ha
  -- lines, way, at = ([list(line) for line in lines], knot(13), knot(len(lines)))
  refine b_cons (s_par3 1 3 4 (a_cons ?_) nd)
  refine evR_lc (i := 5) (fun j y H' => ∃ q, y = .ref q ∧ H q = none ∧ H' q = some (.lst (l.map V.str))) (fun j y A B e ⟨q, h1, h0, h2⟩ => ⟨q, h1, h0, e _ _ h2⟩) (its_l (ev_name 1 rfl) (sq_of ha)) nd (blkOk_by (N := ["rope", "lines", "words", "way", "at", "line", "spot", "word", "other"]) (sc := defScope s_law_bent) (by decide +kernel)) (fun _ _ _ _ _ => pg_name nd rfl (Or.inl rfl)) (by show 1 < 1000000; decide) (fun j x H1 hx e1 Q1 k1 s2 H0 C cl fp => ?_) rfl (fun _ => rfl) H (Ex.refl H) _ fun p ys H1 hp e1 hy hyl hRy => ?_
  · have hxb : x = .ref b := by
      cases j with
      | zero => cases hx; rfl
      | succ j => simp at hx
    subst hxb
    refine eX_evl (evl_list (T.f "list") (ev_name 5 rfl) (.inl (sq_of (e1 _ _ hb)))) fun q H2 hq e2 h2 => k1 _ H2 e2 fun Dl o hD hDn => ⟨q, rfl, fresh_back e1 hq, ?_⟩
    rw [hide_ne (fun z => by rw [z, hD] at hq; cases hq)]
    exact h2
  obtain ⟨y0, rfl⟩ : ∃ y0, ys = [y0] := by
    match ys, hyl with
    | [y0], _ => exact ⟨y0, rfl⟩
  obtain ⟨q, rfl, hq0, hq1⟩ := hRy 0 y0 rfl
  have hqp : q ≠ p := fun z => by
    rw [z] at hq1
    unfold hide at hq1
    rw [if_pos rfl] at hq1
    cases hq1
  rw [hide_ne hqp] at hq1
  obtain ⟨npr, npc⟩ := hR.off hp
  obtain ⟨nqr, nqc⟩ := hR.off hq0
  have nwr := rope_str hR hwa
  have lenl : ((l.map V.str).length : Int) = (l.length : Int) := by rw [List.length_map]
  -- the two knots
  refine a_cons (e_knot ck hr (by decide) (ev_name 0 rfl) ev_int (hR.ex e1) (by omega) (by decide) (by decide) fun way H2 w0 b2 R2 => a_one (e_knot ck hr (by decide) (ev_name 0 rfl) (ev_lenL (T.f "len") (ev_name 1 rfl) (.inl (sq_of (b2 _ _ nar (e1 _ _ ha))))) R2 (by omega) (by show (0 : Int) < 1; decide) (by show (1 : Int) < _; decide) fun at_ H3 a1 b3 R3 => ⟨_, _, _, rfl, ?_⟩))
  have a1 : (at_ : Int) < 1 := a1
  have at0 : at_ = 0 := by omega
  subst at0
  have B3 := b2.trans b3
  -- line, spot = (lines[at], knot(len(lines[at])))
  refine b_cons (s_par 5 6 (a_cons (eX_ev (v := .ref q) (ev_ixL (i := ((0 : Nat) : Int)) (ev_name 1 rfl) (ev_name 4 rfl) (sq_of (B3 _ _ npr hy)) rfl) fun H4 e4 => a_one (e_knot ck hr (by decide) (ev_name 0 rfl) (ev_lenL (T.f "len") (ev_ixL (v := .ref q) (i := ((0 : Nat) : Int)) (ev_name 1 rfl) (ev_name 4 rfl) (sq_of (e4 _ _ (B3 _ _ npr hy))) rfl) (.inl (sq_of (e4 _ _ (B3 _ _ nqr hq1))))) (R3.ex e4) (by omega) (by rw [lenl]; omega) (by rw [lenl]; omega) fun spot H5 s1 b5 R5 => ⟨_, _, rfl, ?_⟩))) nd)
  rw [lenl] at s1
  have hsl : spot < l.length := by omega
  have B5 := (B3.trans (ebut e4)).trans b5
  -- word = one(rope, words + [line[spot], one(rope, one(rope, lines))])
  refine b_cons (s_set 7 (e_one (r := r) (c := c) co hr (by decide) (ev_name 0 rfl) fun H6 e6 => eX_of (pe_op op_cat pe_X pe_X) (eX_ev (v := .ref wa) (ev_name 2 rfl) fun H7 e7 => e_lst (a_cons (eX_ev (v := .str l[spot]) (ev_ixL (i := (spot : Int)) (ev_name 5 rfl) (ev_name 6 rfl) (sq_of (e7 _ _ (e6 _ _ (B5 _ _ nqr hq1)))) (atI_j (strs_at hsl))) fun H8 e8 => a_one (e_one (r := r) (c := c) co hr (by decide) (ev_name 0 rfl) fun H9 e9 => e_one (r := r) (c := c) co hr (by decide) (ev_name 0 rfl) fun H10 e10 => eX_ev (v := .ref p) (ev_name 1 rfl) fun H11 e11 => ?_))))) nd)
  have E11 := ((((e6.trans e7).trans e8).trans e9).trans e10).trans e11
  have B11 := B5.trans (ebut E11)
  refine ⟨p, _, _, rfl, R5.ex E11, by omega, sq_of (B11 _ _ npr hy), npr, by show 0 < 1; decide, by show 1 < 100000; decide, fun j x H12 hx b12 R12 => ?_⟩
  have hxq : x = .ref q := by
    cases j with
    | zero => cases hx; rfl
    | succ j => simp at hx
  subst hxq
  have B12 := B11.trans b12
  refine ⟨q, _, _, rfl, R12, by omega, sq_of (B12 _ _ nqr hq1), nqr, by rw [List.length_map]; exact l0, by rw [List.length_map]; omega, fun j2 x2 H13 hx2 b13 R13 => ?_⟩
  have hj2 : j2 < l.length := by
    have := (List.getElem?_eq_some_iff.mp hx2).1
    rwa [List.length_map] at this
  rw [strs_at hj2] at hx2
  cases hx2
  have B13 := B12.trans b13
  have hw13 : H13 wa = some (.lst (ws.map V.str)) := B13 _ _ nwr (e1 _ _ hwa)
  refine ⟨by show 2 ≤ sizeLine; decide, fun p2 hp2 => ⟨wa, p2, _, _, rfl, rfl, (Ex.new hp2) _ _ hw13, upd_same, ?_, fun p3 hp3 => ?_⟩⟩
  · simp only [List.length_map, List.length_cons, List.length_nil]
    exact sz_of (by omega)
  have e15 : Ex H13 (L2.upd (L2.upd H13 p2 (.lst [.str l[spot], .str l[j2]])) p3 (.lst (ws.map V.str ++ [.str l[spot], .str l[j2]]))) := (Ex.new hp2).trans (Ex.new hp3)
  obtain ⟨o13, ho13, _⟩ := (R13.ex (Ex.new hp2)).at_
  refine ⟨p3, _, _, rfl, R13.ex e15, by omega, sq_of upd_same, fun z => (by rw [z, ho13] at hp3; cases hp3), by simp, by simp; omega, fun j3 x3 H15 hx3 b15 R15 => ?_⟩
  obtain ⟨wd, rfl, hwd⟩ : ∃ wd : Str, x3 = .str wd ∧ InW wd := by
    have hm := List.mem_of_getElem? hx3
    rcases List.mem_append.mp hm with hm | hm
    · obtain ⟨z, hz1, rfl⟩ := List.mem_map.mp hm
      exact ⟨z, rfl, hzw z hz1⟩
    · simp only [List.mem_cons, List.not_mem_nil, or_false] at hm
      rcases hm with rfl | rfl
      · exact ⟨_, rfl, hz _ (List.getElem_mem _)⟩
      · exact ⟨_, rfl, hz _ (List.getElem_mem _)⟩
  have B15 := (B13.trans (ebut e15)).trans b15
  have p15 := B15 _ _ npr hy
  have q15 := B15 _ _ nqr hq1
  have BH : But r H H15 := (ebut e1).trans B15
  clear B3 B5 B11 B12 B13 hx3 hw13 hp2 hp3 e15 b15 R13 R12 b13 b12 R2 R3 R5 ho13
  show bX _ _ _ [some (.ref r), some (.ref p), some (.ref wa), some (.int (way : Nat)), some (.int ((0 : Nat) : Int)), some (.ref q), some (.int (spot : Nat)), some (.str wd), none] H15
  have w13 : (way : Int) < 13 := w0
  -- the ways
  refine b_mid (fun σ' H' => ∃ o8 rs ls, σ' = [some (.ref r), some (.ref p), some (.ref wa), some (.int (way : Nat)), some (.int ((0 : Nat) : Int)), some (.ref q), some (.int (spot : Nat)), some (.str wd), o8] ∧ But r H H' ∧ RopeO H' r c (n + 20) ∧ LnL K H' p rs ls ∧ LnB (l.length + 1) ls) ?_ fun σ7 H7 hM => ?_
  case refine_2 =>
    obtain ⟨o8, rs, ls, rfl, b7, R7, L7, B7⟩ := hM
    exact b_one (s_ret (ev_name 1 rfl) fun H8 e8 => k p rs ls H8 (b7.trans (ebut e8)) (R7.ex e8) (L7.ex e8) B7)
  have one1 : ∀ (l' : List Str) (H' : Hp) (o8 : Option V) (n' : Nat), But r H H' → RopeO H' r c n' → n' ≤ n + 20 → H' p = some (.lst [.ref q]) → H' q = some (.lst (l'.map V.str)) → (0 < l'.length ∧ l'.length ≤ l.length + 1) → (∀ z ∈ l', OutW z) → ∃ o8' rs ls, [some (V.ref r), some (.ref p), some (.ref wa), some (.int (way : Nat)), some (.int ((0 : Nat) : Int)), some (.ref q), some (.int (spot : Nat)), some (.str wd), o8] = [some (.ref r), some (.ref p), some (.ref wa), some (.int (way : Nat)), some (.int ((0 : Nat) : Int)), some (.ref q), some (.int (spot : Nat)), some (.str wd), o8'] ∧ But r H H' ∧ RopeO H' r c (n + 20) ∧ LnL K H' p rs ls ∧ LnB (l.length + 1) ls := fun l' H' o8 n' h1 h2 h3 h4 h5 h6 h7 => ⟨o8, [q], [l'], rfl, h1, h2.le h3 (by omega), lnl1 h4 h5, by show 1 ≤ 2; decide, Nat.zero_lt_one, fun x hx => by
    cases List.mem_singleton.mp hx
    exact ⟨h6, h7⟩⟩
  have hz3 : ∀ z ∈ l, OutW z := fun z h => (hz z h).out
  have two1 : ∀ (rs : List Addr) (la lb : List Str) (H' : Hp) (o8 : Option V) (n' : Nat), But r H H' → RopeO H' r c n' → n' ≤ n + 20 → LnL K H' p rs [la, lb] → (0 < la.length ∧ la.length ≤ l.length + 1) → (0 < lb.length ∧ lb.length ≤ l.length + 1) → (∀ z ∈ la, OutW z) → (∀ z ∈ lb, OutW z) → ∃ o8' rs ls, [some (V.ref r), some (.ref p), some (.ref wa), some (.int (way : Nat)), some (.int ((0 : Nat) : Int)), some (.ref q), some (.int (spot : Nat)), some (.str wd), o8] = [some (.ref r), some (.ref p), some (.ref wa), some (.int (way : Nat)), some (.int ((0 : Nat) : Int)), some (.ref q), some (.int (spot : Nat)), some (.str wd), o8'] ∧ But r H H' ∧ RopeO H' r c (n + 20) ∧ LnL K H' p rs ls ∧ LnB (l.length + 1) ls := fun rs la lb H' o8 n' h1 h2 h3 h4 h5 h6 h7 h8 => ⟨o8, rs, [la, lb], rfl, h1, h2.le h3 (by omega), h4, by show 2 ≤ 2; decide, Nat.zero_lt_two, fun x hx => by
    simp only [List.mem_cons, List.not_mem_nil, or_false] at hx
    rcases hx with rfl | rfl
    · exact ⟨h5, h7⟩
    · exact ⟨h6, h8⟩⟩
  have set1 : ∀ (v : Str), (l.map V.str).set spot (.str v) = (l.set spot v).map V.str := fun v => List.map_set.symm
  have setz : ∀ (v : Str), OutW v → ∀ z ∈ l.set spot v, OutW z := fun v hv z h => by
    rcases mem_set' h with h | h
    · exact hz3 z h
    · rw [h]; exact hv
  have hls : ((l.map V.str).length) = l.length := List.length_map ..
  -- way < 3
  refine s_if (k := decide ((way : Int) < 3)) (et_cmp op_lt (ev_name 3 rfl) ev_int rv_I0) (fun _ H1' e1' => ?_) fun _ H1' e1' => ?_
  · refine b_one (s_item (eX_ev (v := .str wd) (ev_name 7 rfl) fun H2' e2' => eX_ev (v := .ref q) (ev_name 5 rfl) fun H3' e3' => eX_ev (v := .int (spot : Nat)) (ev_name 6 rfl) fun H4' e4' => ?_))
    have E4 := ((e1'.trans e2').trans e3').trans e4'
    refine ⟨q, _, _, spot, rfl, rfl, E4 _ _ q15, by rw [hls]; exact ixN_nat hsl, ?_⟩
    rw [set1]
    exact one1 _ _ _ _ ((BH.trans (ebut E4)).mut hq0) ((R15.ex E4).upd nqr nqc) (by omega) (by rw [upd_ne (Ne.symm hqp)]; exact E4 _ _ p15) upd_same ⟨by simpa using l0, by simp⟩ (setz _ hwd.out)
  -- way == 3 and len(line) > 1
  refine b_one (s_if (k := decide (V.int (way : Nat) = V.int 3) && decide (1 < ((l.map V.str).length : Int))) (et_w (ew_and (et_cmp op_eq (ev_name 3 rfl) ev_int (rv_eq rfl)) fun _ => ew_and1 (et_cmp op_gt (ev_lenL (T.f "len") (ev_name 5 rfl) (.inl (sq_of (e1' _ _ q15)))) ev_int rv_I0))) (fun _ H2' e2' => ?_) fun _ H2' e2' => ?_)
  · rename_i hb3
    have hl2 : 1 < l.length := by
      have := of_decide_eq_true (Bool.and_eq_true_iff.mp hb3).2
      rw [lenl] at this
      omega
    have E2 := e1'.trans e2'
    refine b_one (s_expr (e_popAt (k := spot) (ev_name 5 rfl) (E2 _ _ q15) (ev_name 6 rfl) (strs_at hsl) (by rw [hls]; omega) fun H3' e3' => ?_))
    have E3 := E2.trans e3'
    have : (l.map V.str).eraseIdx spot = (l.eraseIdx spot).map V.str := erase_map _ _ _
    rw [this]
    exact one1 _ _ _ _ ((BH.trans (ebut E3)).mut hq0) ((R15.ex E3).upd nqr nqc) (by omega) (by rw [upd_ne (Ne.symm hqp)]; exact E3 _ _ p15) upd_same (by rw [List.length_eraseIdx]; split <;> omega) fun z h => hz3 z (List.mem_of_mem_eraseIdx h)
  have E2 := e1'.trans e2'
  -- way == 4
  refine b_one (s_if (k := decide (V.int (way : Nat) = V.int 4)) (et_cmp op_eq (ev_name 3 rfl) ev_int (rv_eq rfl)) (fun _ H3' e3' => ?_) fun _ H3' e3' => ?_)
  · have E3 := E2.trans e3'
    refine b_one (s_expr (e_insert (k := spot) (ev_name 5 rfl) ⟨_, E3 _ _ q15⟩ (ev_name 6 rfl) (by omega) fun H4' e4' => eX_ev (v := .str wd) (ev_name 7 rfl) fun H5' e5' => ?_))
    have E5 := (E3.trans e4').trans e5'
    refine ⟨_, E5 _ _ q15, by rw [hls]; omega, ?_⟩
    have : (l.map V.str).take spot ++ [V.str wd] ++ (l.map V.str).drop spot = (l.take spot ++ [wd] ++ l.drop spot).map V.str := by simp
    rw [this]
    refine one1 _ _ _ _ ((BH.trans (ebut E5)).mut hq0) ((R15.ex E5).upd nqr nqc) (by omega) (by rw [upd_ne (Ne.symm hqp)]; exact E5 _ _ p15) upd_same ⟨by simp; omega, by simp; omega⟩ fun z h => ?_
    simp only [List.mem_append, List.mem_singleton] at h
    rcases h with (h | h) | h
    · exact hz3 z (List.mem_of_mem_take h)
    · rw [h]; exact hwd.out
    · exact hz3 z (List.mem_of_mem_drop h)
  have E3 := E2.trans e3'
  -- way == 5
  refine b_one (s_if (k := decide (V.int (way : Nat) = V.int 5)) (et_cmp op_eq (ev_name 3 rfl) ev_int (rv_eq rfl)) (fun _ H4' e4' => ?_) fun _ H4' e4' => ?_)
  · have E4 := E3.trans e4'
    refine b_one (s_expr (e_append (l := q) (ev_name 5 rfl) ⟨_, E4 _ _ q15⟩ fun H5' e5' => eX_ev (v := .str wd) (ev_name 7 rfl) fun H6' e6' => ?_))
    have E6 := (E4.trans e5').trans e6'
    refine ⟨_, E6 _ _ q15, by rw [hls]; omega, ?_⟩
    have : l.map V.str ++ [V.str wd] = (l ++ [wd]).map V.str := by simp
    rw [this]
    refine one1 _ _ _ _ ((BH.trans (ebut E6)).mut hq0) ((R15.ex E6).upd nqr nqc) (by omega) (by rw [upd_ne (Ne.symm hqp)]; exact E6 _ _ p15) upd_same ⟨by simp, by simp⟩ fun z h => ?_
    rcases List.mem_append.mp h with h | h
    · exact hz3 z h
    · rw [List.mem_singleton.mp h]; exact hwd.out
  have E4 := E3.trans e4'
  -- way == 6 and len(lines) > 1
  refine b_one (s_if (k := decide (V.int (way : Nat) = V.int 6) && decide (1 < (([V.ref q] : List V).length : Int))) (et_w (ew_and (et_cmp op_eq (ev_name 3 rfl) ev_int (rv_eq rfl)) fun _ => ew_and1 (et_cmp op_gt (ev_lenL (T.f "len") (ev_name 1 rfl) (.inl (sq_of (E4 _ _ p15)))) ev_int rv_I0))) (fun hb6 H5' e5' => absurd (of_decide_eq_true (Bool.and_eq_true_iff.mp hb6).2) (by show ¬ (1 : Int) < ((1 : Nat) : Int); decide)) fun _ H5' e5' => ?_)
  have E5 := E4.trans e5'
  -- way == 7
  refine b_one (s_if (k := decide (V.int (way : Nat) = V.int 7)) (et_cmp op_eq (ev_name 3 rfl) ev_int (rv_eq rfl)) (fun _ H6' e6' => ?_) fun _ H6' e6' => ?_)
  · have E6 := E5.trans e6'
    refine b_one (s_expr (e_insert (k := 0) (ev_name 1 rfl) ⟨_, E6 _ _ p15⟩ (ev_name 4 rfl) (by omega) fun H7' e7' => eX_evl (evl_list (T.f "list") (ev_name 5 rfl) (.inl (sq_of ((E6.trans e7') _ _ q15)))) fun s H8' hs8 e8' h8 => ?_))
    have E8 := (E6.trans e7').trans e8'
    have nsp : s ≠ p := fun z => by rw [z, (E6.trans e7') _ _ p15] at hs8; cases hs8
    refine ⟨_, E8 _ _ p15, by show 1 < 100000; decide, ?_⟩
    refine two1 [s, q] l l _ _ _ ((BH.trans (ebut E8)).mut hp) ((R15.ex E8).upd npr npc) (by omega) (lnl2 upd_same (by rw [upd_ne nsp]; exact h8) (by rw [upd_ne hqp]; exact E8 _ _ q15)) ⟨l0, by omega⟩ ⟨l0, by omega⟩ hz3 hz3
  have E6 := E5.trans e6'
  -- way == 8
  refine b_one (s_if (k := decide (V.int (way : Nat) = V.int 8)) (et_cmp op_eq (ev_name 3 rfl) ev_int (rv_eq rfl)) (fun _ H7' e7' => ?_) fun _ H7' e7' => ?_)
  · have E7 := E6.trans e7'
    refine b_cons (s_set 8 (e_knot ck hr (by decide) (ev_name 0 rfl) (ev_lenL (T.f "len") (ev_name 1 rfl) (.inl (sq_of (E7 _ _ p15)))) (R15.ex E7) (by omega) (by show (0 : Int) < 1; decide) (by show (1 : Int) < _; decide) fun o H8' o1 b8 R8 => ?_) nd)
    have o1 : (o : Int) < 1 := o1
    have o0 : o = 0 := by omega
    subst o0
    have B8 := (BH.trans (ebut E7)).trans b8
    have p8 := b8 _ _ npr (E7 _ _ p15)
    have q8 := b8 _ _ nqr (E7 _ _ q15)
    refine b_one (s_swap (eX_ev (v := .ref q) (ev_ixL (i := ((0 : Nat) : Int)) (ev_name 1 rfl) (ev_name 8 rfl) (sq_of p8) rfl) fun H9 e9 => eX_ev (v := .ref q) (ev_ixL (i := ((0 : Nat) : Int)) (ev_name 1 rfl) (ev_name 4 rfl) (sq_of (e9 _ _ p8)) rfl) fun H10 e10 t ht => eX_ev (v := .ref p) (ev_name 1 rfl) fun H11 e11 => eX_ev (v := .int ((0 : Nat) : Int)) (ev_name 4 rfl) fun H12 e12 => ?_))
    have E12 := (((e9.trans e10).trans (Ex.new ht)).trans e11).trans e12
    refine ⟨p, _, _, 0, rfl, rfl, E12 _ _ p8, rfl, eX_ev (v := .ref p) (ev_name 1 rfl) fun H13 e13 => eX_ev (v := .int ((0 : Nat) : Int)) (ev_name 8 rfl) fun H14 e14 => ?_⟩
    refine ⟨p, _, _, 0, rfl, rfl, (e13.trans e14) _ _ upd_same, rfl, ?_⟩
    have BB := ((B8.trans (ebut E12)).mut (o := .lst ([V.ref q].set 0 (.ref q))) hp).trans (ebut (e13.trans e14))
    exact one1 l _ _ _ (BB.mut hp) ((((R8.ex E12).upd npr npc).ex (e13.trans e14)).upd npr npc) (by omega) upd_same (by rw [upd_ne hqp]; exact (e13.trans e14) _ _ (by rw [upd_ne hqp]; exact E12 _ _ q8)) ⟨l0, by omega⟩ hz3
  have E7 := E6.trans e7'
  -- way == 9
  refine b_one (s_if (k := decide (V.int (way : Nat) = V.int 9)) (et_cmp op_eq (ev_name 3 rfl) ev_int (rv_eq rfl)) (fun _ H8' e8' => ?_) fun _ H8' e8' => ?_)
  · have E8 := E7.trans e8'
    refine b_one (s_expr (e_append (l := p) (ev_name 1 rfl) ⟨_, E8 _ _ p15⟩ fun H9 e9 => e_one (r := r) (c := c) co hr (by decide) (ev_name 0 rfl) fun H10 e10 => e_lst (a_cons (eX_evl (evl_1 (ev_str (i := ""))) fun s1 H11 hs1 e11 g1 => a_cons (eX_evl (evl_1 (v := .str wd) (ev_name 7 rfl)) fun s2 H12 hs2 e12 g2 => a_one (eX_evl (evl_list (xs := l.map V.str) (T.f "list") (ev_name 5 rfl) (.inl (sq_of ((((E8.trans e9).trans e10).trans (e11.trans e12)) _ _ q15)))) fun s3 H13 hs3 e13 g3 => ⟨by show 3 ≤ sizeLine; decide, fun t ht => ?_⟩))))))
    have E13 := ((E8.trans e9).trans e10).trans ((e11.trans e12).trans e13)
    obtain ⟨o13, ho13, _⟩ := (R15.ex E13).at_
    refine ⟨t, _, _, rfl, (R15.ex E13).ex (Ex.new ht), by omega, sq_of upd_same, fun z => (by rw [z, ho13] at ht; cases ht), by show 0 < 3; decide, by show 3 < 100000; decide, fun j x H14 hx b14 R14 => ?_⟩
    have p13 := E13 _ _ p15
    have p14 := b14 _ _ npr ((Ex.new ht) _ _ p13)
    refine ⟨_, p14, by show 1 < 1000000; decide, ?_⟩
    have BB := ((BH.trans (ebut E13)).trans (ebut (Ex.new ht))).trans b14
    -- what was taken
    obtain ⟨s, m, rfl, hs, nsr, ms, mz, nsp⟩ : ∃ (s : Addr) (m : List Str), x = .ref s ∧ H13 s = some (.lst (m.map V.str)) ∧ s ≠ r ∧ (0 < m.length ∧ m.length ≤ l.length + 1) ∧ (∀ z ∈ m, OutW z) ∧ s ≠ p := by
      have hm := List.mem_of_getElem? hx
      have fr : ∀ {s : Addr} {Ha : Hp}, Ex H15 Ha → Ha s = none → s ≠ r ∧ s ≠ p := fun ea hn => ⟨((R15.ex ea).off hn).1, fun z => by rw [z, ea _ _ p15] at hn; cases hn⟩
      simp only [List.mem_cons, List.not_mem_nil, or_false] at hm
      rcases hm with rfl | rfl | rfl
      · have f := fr ((E8.trans e9).trans e10) hs1
        exact ⟨s1, [""], rfl, (e12.trans e13) _ _ g1, f.1, by simp, fun z h => by rw [List.mem_singleton.mp h]; exact ⟨by decide +kernel, okW_lit (by decide +kernel)⟩, f.2⟩
      · have f := fr (((E8.trans e9).trans e10).trans e11) hs2
        exact ⟨s2, [wd], rfl, e13 _ _ g2, f.1, by simp, fun z h => by rw [List.mem_singleton.mp h]; exact hwd.out, f.2⟩
      · have f := fr (((E8.trans e9).trans e10).trans (e11.trans e12)) hs3
        exact ⟨s3, l, rfl, g3, f.1, ⟨l0, by omega⟩, hz3, f.2⟩
    exact two1 [q, s] l m _ _ _ (BB.mut hp) (R14.upd npr npc) (by omega) (lnl2 upd_same (by rw [upd_ne hqp]; exact b14 _ _ nqr ((Ex.new ht) _ _ (E13 _ _ q15))) (by rw [upd_ne nsp]; exact b14 _ _ nsr ((Ex.new ht) _ _ hs))) ⟨l0, by omega⟩ ms hz3 mz
  have E8 := E7.trans e8'
  -- way == 10
  refine b_one (s_if (k := decide (V.int (way : Nat) = V.int 10)) (et_cmp op_eq (ev_name 3 rfl) ev_int (rv_eq rfl)) (fun _ H9' e9' => ?_) fun _ H9' e9' => ?_)
  · have E9 := E8.trans e9'
    refine b_cons (s_set 8 (e_knot ck hr (by decide) (ev_name 0 rfl) (ev_lenL (T.f "len") (ev_name 5 rfl) (.inl (sq_of (E9 _ _ q15)))) (R15.ex E9) (by omega) (by rw [lenl]; omega) (by rw [lenl]; omega) fun o H10' o1 b10 R10 => ?_) nd)
    rw [lenl] at o1
    have hol : o < l.length := by omega
    have B10 := (BH.trans (ebut E9)).trans b10
    have p10 := b10 _ _ npr (E9 _ _ p15)
    have q10 := b10 _ _ nqr (E9 _ _ q15)
    refine b_one (s_swap (eX_ev (v := .str l[o]) (ev_ixL (i := (o : Int)) (ev_name 5 rfl) (ev_name 8 rfl) (sq_of q10) (atI_j (strs_at hol))) fun H9 e9 => eX_ev (v := .str l[spot]) (ev_ixL (i := (spot : Int)) (ev_name 5 rfl) (ev_name 6 rfl) (sq_of (e9 _ _ q10)) (atI_j (strs_at hsl))) fun H10 e10 t ht => eX_ev (v := .ref q) (ev_name 5 rfl) fun H11 e11 => eX_ev (v := .int (spot : Nat)) (ev_name 6 rfl) fun H12 e12 => ?_))
    have E12 := (((e9.trans e10).trans (Ex.new ht)).trans e11).trans e12
    refine ⟨q, _, _, spot, rfl, rfl, E12 _ _ q10, by rw [hls]; exact ixN_nat hsl, eX_ev (v := .ref q) (ev_name 5 rfl) fun H13 e13 => eX_ev (v := .int (o : Nat)) (ev_name 8 rfl) fun H14 e14 => ?_⟩
    refine ⟨q, _, _, o, rfl, rfl, (e13.trans e14) _ _ upd_same, by rw [List.length_set, hls]; exact ixN_nat hol, ?_⟩
    rw [set1, ← List.map_set]
    have BB := ((B10.trans (ebut E12)).mut (o := .lst ((l.map V.str).set spot (.str l[o]))) hq0).trans (ebut (e13.trans e14))
    refine one1 _ _ _ _ (BB.mut hq0) ((((R10.ex E12).upd nqr nqc).ex (e13.trans e14)).upd nqr nqc) (by omega) (by rw [upd_ne (Ne.symm hqp)]; exact (e13.trans e14) _ _ (by rw [upd_ne (Ne.symm hqp)]; exact E12 _ _ p10)) upd_same ⟨by simpa using l0, by simp⟩ fun z h => ?_
    rcases mem_set' h with h | h
    · exact setz _ (hz3 _ (List.getElem_mem _)) z h
    · rw [h]; exact hz3 _ (List.getElem_mem _)
  have E9 := E8.trans e9'
  -- way == 11
  refine b_one (s_if (k := decide (V.int (way : Nat) = V.int 11)) (et_cmp op_eq (ev_name 3 rfl) ev_int (rv_eq rfl)) (fun _ H10' e10' => ?_) fun _ H10' e10' => b_nil (one1 l _ _ _ (BH.trans (ebut (E9.trans e10'))) (R15.ex (E9.trans e10')) (by omega) ((E9.trans e10') _ _ p15) ((E9.trans e10') _ _ q15) ⟨l0, by omega⟩ hz3))
  have E10 := E9.trans e10'
  have zs := hz _ (List.getElem_mem hsl)
  generalize hls2 : l[spot] = ls at zs
  obtain ⟨zs, zo⟩ := zs
  have lsp : ∀ {H' : Hp} {σ : Sg}, H' q = some (.lst (l.map V.str)) → (l.map V.str)[spot]? = some (.str ls) := fun _ => by rw [strs_at hsl, hls2]
  have o1 : ∀ c : Nat, (⟨#[c]⟩ : Str).length = 1 := fun _ => rfl
  have it : ∀ {H' : Hp} {p1 p2 p3 : Pos}, H' q = some (.lst (l.map V.str)) → EV (cxOf CX0 P w K mg base ["rope", "lines", "words", "way", "at", "line", "spot", "word", "other"] d_law_bent.qual d_law_bent.scope f cdv A outer s H E) (.Subscript (.Name "line" p1) (.Name "spot" p2) p3) [some (.ref r), some (.ref p), some (.ref wa), some (.int (way : Nat)), some (.int ((0 : Nat) : Int)), some (.ref q), some (.int (spot : Nat)), some (.str wd), none] H' (.str ls) := fun {H' p1 p2 p3} h => ev_ixL (i := (spot : Int)) (ev_name 5 rfl) (ev_name 6 rfl) (sq_of h) (atI_j (by rw [strs_at hsl, hls2]))
  have k1 : ∀ t : Str, t.length = 1 → t.length + ls.length ≤ 100000 ∧ ls.length + t.length ≤ 100000 := fun t h => by omega
  have u1 := PyProof.Rows.len_upper ls
  refine b_one (s_item (e_one (r := r) (c := c) co hr (by decide) (ev_name 0 rfl) fun H11 e11 => eX_evl (evl_lst (ea_cons (ev_cat ev_str (it ((E10.trans e11) _ _ q15)) (k1 _ (by decide +kernel)).1) (ea_cons (ev_cat ev_str (it ((E10.trans e11) _ _ q15)) (k1 _ (by decide +kernel)).1) (ea_cons (ev_cat (it ((E10.trans e11) _ _ q15)) ev_str (k1 _ (by decide +kernel)).2) (ea_cons (ev_upper (it ((E10.trans e11) _ _ q15)) (by omega)) (ea_cons (ev_cat (it ((E10.trans e11) _ _ q15)) ev_str (k1 _ (by decide +kernel)).2) (ea_cons (ev_cat ev_str (it ((E10.trans e11) _ _ q15)) (k1 _ (by decide +kernel)).1) (ea_cons (ev_cat (it ((E10.trans e11) _ _ q15)) ev_str (k1 _ (by decide +kernel)).2) ea_nil))))))) (by show 7 ≤ 100000; decide)) fun t H12 ht e12 g12 => ?_))
  have E12 := (E10.trans e11).trans e12
  obtain ⟨o11, ho11, _⟩ := (R15.ex (E10.trans e11)).at_
  refine ⟨t, _, _, rfl, R15.ex E12, by omega, sq_of g12, fun z => (by rw [z, ho11] at ht; cases ht), by show 0 < 7; decide, by show 7 < 100000; decide, fun j x H13 hx b13 R13 => ?_⟩
  obtain ⟨v, rfl, hv⟩ : ∃ v : Str, x = .str v ∧ OutW v := by
    have hm := List.mem_of_getElem? hx
    have c1 : ("0" : Str).length = 1 := by decide +kernel
    have c2 : ("-" : Str).length = 1 := by decide +kernel
    have c3 : ("." : Str).length = 1 := by decide +kernel
    have c4 : ("=" : Str).length = 1 := by decide +kernel
    simp only [List.mem_cons, List.not_mem_nil, or_false] at hm
    have g1 : okW ("0" : Str) := okW_lit (by decide +kernel)
    have g2 : okW ("-" : Str) := okW_lit (by decide +kernel)
    have g3 : okW ("." : Str) := okW_lit (by decide +kernel)
    have g4 : okW ("=" : Str) := okW_lit (by decide +kernel)
    rcases hm with rfl | rfl | rfl | rfl | rfl | rfl | rfl
    · exact ⟨_, rfl, by rw [app_len, c1]; omega, app_ok g1 zo⟩
    · exact ⟨_, rfl, by rw [app_len, c2]; omega, app_ok g2 zo⟩
    · exact ⟨_, rfl, by rw [app_len, c1]; omega, app_ok zo g1⟩
    · exact ⟨_, rfl, by omega, upper_ok zo⟩
    · exact ⟨_, rfl, by rw [app_len, c3]; omega, app_ok zo g3⟩
    · exact ⟨_, rfl, by rw [app_len, c4]; omega, app_ok g4 zo⟩
    · exact ⟨_, rfl, by rw [app_len, c4]; omega, app_ok zo g4⟩
  refine eX_ev (v := .ref q) (ev_name 5 rfl) fun H14 e14 => eX_ev (v := .int (spot : Nat)) (ev_name 6 rfl) fun H15' e15' => ?_
  have q13 := b13 _ _ nqr (E12 _ _ q15)
  have p13 := b13 _ _ npr (E12 _ _ p15)
  have e13 := e14.trans e15'
  refine ⟨q, _, _, spot, rfl, rfl, e13 _ _ q13, by rw [hls]; exact ixN_nat hsl, ?_⟩
  rw [set1]
  exact one1 _ _ _ _ ((((BH.trans (ebut E12)).trans b13).trans (ebut e13)).mut hq0) ((R13.ex e13).upd nqr nqc) (by omega) (by rw [upd_ne (Ne.symm hqp)]; exact e13 _ _ p13) upd_same ⟨by simpa using l0, by simp⟩ (setz _ hv)
end
end K96

set_option Elab.async false
set_option linter.all false
set_option maxRecDepth 100000
set_option maxHeartbeats 4000000
/-! d.update(e); the law's many. -/
namespace K96
open PySem PySem.Spec PyProof.Rows L2 Evl
def rUpd : V → List V → Hp → VK → Prop := fun x vs H Q => ∃ (a b : Addr) (kvs more : List (Key × V)), x = .ref a ∧ vs = [.ref b] ∧ H a = some (.dK kvs) ∧ H b = some (.dK more) ∧ a ≠ b ∧ kvs.length + more.length ≤ 1000 ∧ Q .non (L2.upd H a (.dK (mergeK kvs more)))
section
variable {X : Cx} {o e a : Expr} {p pos apos cpos : Pos} {σ : Sg} {H : Hp} {Q : VK} {l : Addr}
theorem mt_update : MtR X "dict.update" rUpd := by
  intro pins s σ H x vs v us Q I rx rv h
  obtain ⟨a, b, kvs, more, rfl, rfl, ha, hb, hab, hz, q⟩ := h
  cases rx
  obtain ⟨u, rfl, ru⟩ := rv.one
  cases ru
  obtain ⟨za, sa, xs, ka, da⟩ := I.hok a _ ha
  obtain ⟨zb, sb, ys, kb, db⟩ := I.hok b _ hb
  refine call_meetsIn PySem.F.slot_dict_update da.typeIs PySem.F.entry_dict_update (PySem.F.args_dict_update_2 _ _) (meets_dict_update (mixKind X.prog X.w) a b hab sb) ⟨xs, ys, da, db, ?_, fun h' hd ho hs => ?_⟩
  · have h1 := ka.length
    have h2 := kb.length
    exact Nat.le_trans (by omega : _ ≤ 1000) (by decide)
  · have hl := length_mergeK more kvs
    obtain ⟨od, hod, _⟩ := Heap.dictOf_iff.mp hd
    exact ⟨.non, _, I.write (t' := s.toks) (x := a) (e := a) (o := .dK (mergeK kvs more)) (by rw [ha]; trivial) (.inl rfl) (fun c o hc z => (hs.2 c hc).trans z) ⟨od, hod⟩ ⟨Nat.le_trans (by omega : _ ≤ 1000) (by decide), sa, _, KV.merge kb ka, hd⟩, rfl, q⟩
/-- d.update(e) -/
theorem e_update (ho : EV X o σ H (.ref l)) (hl : ∃ kvs, H l = some (.dK kvs)) (he : ∀ H1, Ex H H1 → eX X e σ H1 fun v H2 => ∃ b kvs more, v = .ref b ∧ H2 l = some (.dK kvs) ∧ H2 b = some (.dK more) ∧ l ≠ b ∧ kvs.length + more.length ≤ 1000 ∧ Q .non (L2.upd H2 l (.dK (mergeK kvs more)))) (hbase : attributeBase o "update" X.env (eval o X.env) = eval o X.env := by rfl)
    (hfew : ((backTo cpos (starEach [e] X.env)).all (fun x => !x.1) && (backToKw cpos (keywordEach [] X.env)).all (fun x => x.1.isSome) && decide (([e] : List Expr).length + ([] : List Keyword).length + (if ([] : List Keyword).isEmpty then 0 else 1) < 30)) = true := by rfl)
    (hline : (apos.endLine == cpos.line) = true := by rfl) (hs : starEach [e] X.env = (false, eval e X.env) :: starEach [] X.env := by rfl) (hplain : (backTo cpos (starEach [] X.env)).any (·.1) = false := by rfl) : eX X (.Call (.Attribute o "update" apos) [e] [] cpos) σ H Q :=
  eX_of (pe_bm PySem.F.plainAttrs_dict PySem.F.slot_dict_update PySem.F.type_dict_update mt_update pe_X pa_X hbase hfew hline hs hplain) (eX_ev ho fun H1 e1 => by
    obtain ⟨kvs, hx⟩ := hl
    refine ⟨?_, a_one (eX_mono (he H1 e1) fun v H2 q => ?_) hs⟩
    · exact .inr (.inr (.inl ⟨rfl, .inl ⟨kvs, e1 _ _ hx⟩⟩))
    · obtain ⟨b, kvs, more, rfl, h1, h2, h3, h4, h5⟩ := q
      exact ⟨l, b, kvs, more, rfl, rfl, h1, h2, h3, h4, h5⟩)
end
theorem pairs_from {K : Fr} {H : Hp} {v : V} : ∀ {ks : List Str} {ys : List V}, ys.length = ks.length → (∀ (j : Nat) (y : V), ys[j]? = some y → ∃ q z, y = .ref q ∧ ks[j]? = some z ∧ H q = some (.tup [.str z, v])) → ∃ ps : List Addr, ys = ps.map V.ref ∧ Paired (fun (p : Addr) (kv : Key × V) => SqT K H p [kV kv.1, kv.2]) ps (ks.map fun z => (Sum.inr z, v))
  | [], [], _, _ => ⟨[], rfl, .nil⟩
  | [], _ :: _, h, _ => by cases h
  | _ :: _, [], h, _ => by cases h
  | k :: ks, y :: ys, hl, h => by
    obtain ⟨q, z, rfl, hz, hq⟩ := h 0 y rfl
    cases hz
    obtain ⟨ps, e, p⟩ := pairs_from (K := K) (ks := ks) (ys := ys) (by simpa using hl) fun j y hy => by
      obtain ⟨q, z, h1, h2, h3⟩ := h (j + 1) y (by simpa using hy)
      exact ⟨q, z, h1, by simpa using h2, h3⟩
    exact ⟨q :: ps, by rw [e]; rfl, .cons (st_of hq) p⟩
def ones8 : List Str := ["bears", "settled", "comes", "holds", "covered", "frozen", "thaws", "firm"]
def twos5 : List Str := ["stays", "shaken", "waits", "pledges", "idle"]
def prs (ks : List Str) (c : Int) : List (Key × V) := ks.map fun z => (Sum.inr z, V.int c)
def last3 : List (Key × V) := [(Sum.inr "acts", .int 3), (Sum.inr "shaky", .int 3), (Sum.inr "loses", .int 5)]
def manyKvs : List (Key × V) := mergeK (mergeK (mergeK [] (prs ones8 1)) (mergeK [] (prs twos5 2))) (mergeK [] last3)
def spMany : Sp := fun vs H Q _ => vs = [] ∧ ∀ p H', H p = none → Ex H H' → H' p = some (.dK manyKvs) → Q (.ref p) H'
section
variable {P : Program} {w : World} {K : Fr} {mg : Str → Option Value} {base : Heap}
theorem ok_law_many (T : Txt K mg) (D : Df K mg d_law_many) : Cl P w K mg base CX0 1 "_law_many" spMany := by
  refine D.cl sc_law_many (fun vs H Q E h => ?_) (fun _ _ _ _ _ _ us hl => match us, hl with | [], _ => rfl) fun f cdv A outer s H vs Q E hr h => ⟨_, pb_X, ?_⟩
  · obtain ⟨rfl, _⟩ := h
    rfl
  obtain ⟨rfl, k⟩ := h
  have nd := sc_law_many.nd
  -- found = dict([(word, 1) for word in [..]])
  refine b_cons (s_set 0 (eX_of (pe_callTy (call_dictP rfl) rfl (T.f "dict") (by decide +kernel) (pa_cons pe_X pa_nil) (by decide) (by decide)) ?_) nd)
  refine evR_lc (xs := ones8.map V.str) (i := 1) (fun j y H' => ∃ q z, y = .ref q ∧ ones8[j]? = some z ∧ H' q = some (.tup [.str z, .int 1])) (fun j y A B e ⟨q, z, h1, h2, h3⟩ => ⟨q, z, h1, h2, e _ _ h3⟩) (its_ln (evl_lst (ea_cons ev_str (ea_cons ev_str (ea_cons ev_str (ea_cons ev_str (ea_cons ev_str (ea_cons ev_str (ea_cons ev_str (ea_cons ev_str ea_nil)))))))) (by show 8 ≤ 100000; decide))) nd (blkOk_by (N := ["found", "word"]) (sc := defScope s_law_many) (by decide +kernel)) (fun _ _ _ _ _ => pg_name nd rfl (Or.inl rfl)) (by decide) (fun j x H1 hx e1 Q1 k1 s2 H0 C cl fp => ?_) rfl (fun _ => rfl) H (Ex.refl H) _ fun p ys H1 hp e1 hy hyl hR => ?_
  · rw [List.getElem?_map] at hx
    obtain ⟨z, hz, rfl⟩ := Option.map_eq_some_iff.mp hx
    refine e_tup (aX_of (pa_cons pe_X (pa_cons pe_X pa_nil)) (eX_ev (v := .str z) (ev_name 1 rfl) fun H2 e2 => eX_ev (v := .int 1) ev_int fun H3 e3 => ⟨by show 2 ≤ sizeLine; decide, fun q hq => k1 _ _ ((e2.trans e3).trans (Ex.new hq)) fun Dl o hD _ => ⟨q, z, rfl, hz, ?_⟩⟩))
    rw [hide_ne (fun e => by rw [e, (e2.trans e3) _ _ hD] at hq; cases hq), upd_same]
  obtain ⟨ps, rfl, hpr⟩ := pairs_from (K := K) (H := H1) (v := .int 1) (ks := ones8) (ys := ys) (by rw [hyl, List.length_map]) fun j y hj => by
    obtain ⟨q, z, h1, h2, h3⟩ := hR j y hj
    exact ⟨q, z, h1, h2, hide_ex _ _ h3⟩
  refine ⟨p, ps, prs ones8 1, rfl, sq_of hy, hpr, fun d hd => ?_⟩
  have E1 : Ex H (L2.upd H1 d (.dK (mergeK [] (prs ones8 1)))) := e1.trans (Ex.new hd)
  have hd0 : H d = none := fresh_back e1 hd
  have d1 : L2.upd H1 d (.dK (mergeK [] (prs ones8 1))) d = some (.dK (mergeK [] (prs ones8 1))) := upd_same
  generalize L2.upd H1 d (.dK (mergeK [] (prs ones8 1))) = H2 at E1 d1 ⊢
  clear hR hpr hy hyl hp e1 hd
  -- found.update(dict([(word, 2) for word in [..]]))
  refine b_cons (s_expr (e_update (ev_name 0 rfl) ⟨_, d1⟩ fun H3 e3 => eX_of (pe_callTy (call_dictP rfl) rfl (T.f "dict") (by decide +kernel) (pa_cons pe_X pa_nil) (by decide) (by decide)) ?_))
  refine evR_lc (xs := twos5.map V.str) (i := 1) (fun j y H' => ∃ q z, y = .ref q ∧ twos5[j]? = some z ∧ H' q = some (.tup [.str z, .int 2])) (fun j y A B e ⟨q, z, h1, h2, h3⟩ => ⟨q, z, h1, h2, e _ _ h3⟩) (its_ln (evl_lst (ea_cons ev_str (ea_cons ev_str (ea_cons ev_str (ea_cons ev_str (ea_cons ev_str ea_nil))))) (by show 5 ≤ 100000; decide))) nd (blkOk_by (N := ["found", "word"]) (sc := defScope s_law_many) (by decide +kernel)) (fun _ _ _ _ _ => pg_name nd rfl (Or.inl rfl)) (by decide) (fun j x H1 hx e1 Q1 k1 s2 H0 C cl fp => ?_) rfl (fun _ => rfl) H3 (Ex.refl H3) _ fun p2 ys H4 hp e4 hy hyl hR => ?_
  · rw [List.getElem?_map] at hx
    obtain ⟨z, hz, rfl⟩ := Option.map_eq_some_iff.mp hx
    refine e_tup (aX_of (pa_cons pe_X (pa_cons pe_X pa_nil)) (eX_ev (v := .str z) (ev_name 1 rfl) fun H2 e2 => eX_ev (v := .int 2) ev_int fun H3 e3 => ⟨by show 2 ≤ sizeLine; decide, fun q hq => k1 _ _ ((e2.trans e3).trans (Ex.new hq)) fun Dl o hD _ => ⟨q, z, rfl, hz, ?_⟩⟩))
    rw [hide_ne (fun e => by rw [e, (e2.trans e3) _ _ hD] at hq; cases hq), upd_same]
  obtain ⟨ps2, rfl, hpr⟩ := pairs_from (K := K) (H := H4) (v := .int 2) (ks := twos5) (ys := ys) (by rw [hyl, List.length_map]) fun j y hj => by
    obtain ⟨q, z, h1, h2, h3⟩ := hR j y hj
    exact ⟨q, z, h1, h2, hide_ex _ _ h3⟩
  have E4 := e3.trans e4
  refine ⟨p2, ps2, prs twos5 2, rfl, sq_of hy, hpr, fun d2 hd2 => ?_⟩
  have nd2 : d ≠ d2 := fun e => by rw [← e, E4 _ _ d1] at hd2; cases hd2
  refine ⟨d2, _, _, rfl, (Ex.new hd2) _ _ (E4 _ _ d1), upd_same, nd2, by decide +kernel, ?_⟩
  have E5 : Ex H (L2.upd (L2.upd H4 d2 (.dK (mergeK [] (prs twos5 2)))) d (.dK (mergeK (mergeK [] (prs ones8 1)) (mergeK [] (prs twos5 2))))) := ((E1.trans E4).trans (Ex.new hd2)).mut hd0
  have d5 : L2.upd (L2.upd H4 d2 (.dK (mergeK [] (prs twos5 2)))) d (.dK (mergeK (mergeK [] (prs ones8 1)) (mergeK [] (prs twos5 2)))) d = some (.dK (mergeK (mergeK [] (prs ones8 1)) (mergeK [] (prs twos5 2)))) := upd_same
  generalize L2.upd (L2.upd H4 d2 (.dK (mergeK [] (prs twos5 2)))) d (.dK (mergeK (mergeK [] (prs ones8 1)) (mergeK [] (prs twos5 2)))) = H5 at E5 d5 ⊢
  -- found.update({..})
  refine b_cons (s_expr (e_update (ev_name 0 rfl) ⟨_, d5⟩ fun H6 e6 => eX_of (pe_disp (pps_cons pe_X pe_X (pps_cons pe_X pe_X (pps_cons pe_X pe_X pps_nil))) (by rfl) (by rfl) (fun z => by cases z) (by decide)) ?_))
  intro d3 hd3
  refine (show eX _ _ _ _ _ from eX_ev (v := .str "acts") ev_str fun H7 e7 => eX_ev (v := .int 3) ev_int fun H8 e8 => eX_ev (v := .str "shaky") ev_str fun H9 e9 => eX_ev (v := .int 3) ev_int fun H10 e10 => eX_ev (v := .str "loses") ev_str fun H11 e11 => eX_ev (v := .int 5) ev_int fun H12 e12 => ?_)
  have E12 := ((((e7.trans e8).trans e9).trans e10).trans e11).trans e12
  have nd3 : d ≠ d3 := fun e => by rw [← e, e6 _ _ d5] at hd3; cases hd3
  refine ⟨E12 _ _ upd_same, last3, rfl, by decide, d3, mergeK (mergeK [] (prs ones8 1)) (mergeK [] (prs twos5 2)), mergeK [] last3, rfl, ?_, upd_same, nd3, by decide +kernel, ?_⟩
  · rw [upd_ne nd3]
    exact E12 _ _ ((Ex.new hd3) _ _ (e6 _ _ d5))
  have E13 : Ex H (L2.upd (L2.upd H12 d3 (.dK (mergeK [] last3))) d (.dK manyKvs)) := by
    refine Ex.mut ?_ hd0
    refine Ex.mut (((E5.trans e6).trans (Ex.new hd3)).trans E12) ?_
    exact fresh_back (E5.trans e6) hd3
  exact b_one (s_ret (ev_name 0 rfl) fun H14 e14 => k d H14 hd0 (E13.trans e14) (e14 _ _ upd_same))
theorem many_at (z : Str) : valV manyKvs (Sum.inr z) = (partsTab.lookup z).map fun c => V.int (c : Nat) := by
  by_cases h : z ∈ partsTab.map (·.1)
  · have key : ∀ y ∈ partsTab.map (·.1), valV manyKvs (Sum.inr y) = (partsTab.lookup y).map fun c => V.int (c : Nat) := by decide +kernel
    exact key z h
  · have h1 : partsTab.lookup z = none := by
      cases q : partsTab.lookup z with
      | none => rfl
      | some c => exact absurd (parts_keys.mpr ⟨c, q⟩) h
    rw [h1]
    have key : ∀ kv ∈ manyKvs, ∃ y ∈ partsTab.map (·.1), kv.1 = Sum.inr y := by decide +kernel
    have h2 : (manyKvs.find? fun kv => decide (kv.1 = Sum.inr z)) = none := List.find?_eq_none.mpr fun kv hk hd => by
      obtain ⟨y, hy, e⟩ := key kv hk
      rw [e] at hd
      have := of_decide_eq_true hd
      cases this
      exact h hy
    show ((manyKvs.find? fun kv => decide (kv.1 = Sum.inr z))).map (·.2) = none
    rw [h2]
    rfl
end
end K96

set_option Elab.async false
set_option linter.all false
set_option maxRecDepth 100000
set_option maxHeartbeats 4000000
/-! The law's made (printed by gen5.py). -/
namespace K96
open PySem PySem.Spec PyProof.Rows L2 Evl
def spLMade (A : Adr) (n : Nat) (K : Fr) : Sp := fun vs H Q _ => ∃ z a us ds, vs = [.str z, .ref a] ∧ SqT K H a us ∧ UrAll K H us ds ∧ ds.all (deepAt n) = true ∧ szL ds < 100000 ∧ partsTab.lookup z = some ds.length ∧ ∀ x H', Ex H H' → PapI K H' x (A.pap z) z (fixedL ds) → Q (.ref x) H'
theorem parts_pos {z : Str} {c : Nat} (h : partsTab.lookup z = some c) : 1 ≤ c := by
  have key : ∀ q ∈ partsTab, 1 ≤ q.2 := by decide +kernel
  exact key _ (parts_at h)
theorem len_one {vs : List V} (h : vs.length + 1 = 1) : vs = [] := List.eq_nil_of_length_eq_zero (by omega)
theorem len_two {vs : List V} (h : vs.length + 1 = 2) : ∃ a, vs = [a] := by
  match vs, h with
  | [a], _ => exact ⟨a, rfl⟩
theorem len_three {vs : List V} (h : vs.length + 1 = 3) : ∃ a b, vs = [a, b] := by
  match vs, h with
  | [a, b], _ => exact ⟨a, b, rfl⟩
theorem len_five {vs : List V} (h : vs.length + 1 = 5) : ∃ a b c d, vs = [a, b, c, d] := by
  match vs, h with
  | [a, b, c, d], _ => exact ⟨a, b, c, d, rfl⟩
section
variable {P : Program} {w : World} {K : Fr} {mg : Str → Option Value} {base : Heap} {A : Adr} {k n : Nat}
/-- C(e, ..), a class of papers -/
theorem e_papA {X : Cx} {j : Nat} {nm z : Str} {c : Nat} {e : Expr} {es : List Expr} {p pos : Pos} {σ : Sg} {H : Hp} {Q : VK} {args : List V} {ds : List PyData} (M : PapsM X.prog X.w X.K X.mg X.base A k n) (hq : (nm, z, c) ∈ papTab) (hr : Room j X.A) (hk : k + 1 ≤ j) (ha : EA X (e :: es) σ H args) (hu : UrAll X.K H args ds) (hd : ds.all (deepAt n) = true) (hz : szL ds < 100000) (hc : ds.length = c)
    (q : ∀ x H', Ex H H' → PapI X.K H' x (A.pap z) z (fixedL ds) → Q (.ref x) H') (hg : Gl X nm := by rfl) (hdb : (nm == ("__debug__" : Str)) = false := by decide) (he : starEach (e :: es) X.env = (false, eval e X.env) :: starEach es X.env := by rfl) (hpl : (backTo pos (starEach es X.env)).any (·.1) = false := by rfl) :
    eX X (.Call (.Name nm p) (e :: es) [] pos) σ H Q := by
  refine e_make (E := E0) (M _ hq) hr hk pass0 (ha H (Ex.refl H) _ fun H1 e1 x dx hx hdx hne => ?_) hg hdb he hpl
  have e2 : Ex H1 (upd (upd H1 dx (.own x)) x (.ins (A.pap z) dx [])) := (Ex.new hdx).trans (Ex.new (by rw [upd_ne (Ne.symm hne)]; exact hx))
  refine ⟨x, dx, args, ds, rfl, by rw [hu.len]; exact hc, upd_same, hu.ext (e1.trans e2), hd, hz, fun H' b I => ⟨rfl, q x H' (fun b' o ho => ?_) I⟩⟩
  have h1 := e1 _ _ ho
  exact b b' o (fun z => by rw [z, hx] at h1; cases h1) (e2 _ _ h1)
theorem ok_law_made (M : PapsM P w K mg base A k n) (D : Df K mg d_law_made) : Cl P w K mg base CX0 (k + 2) "_law_made" (spLMade A n K) := by
  refine D.cl sc_law_made (fun vs H Q E h => ?_) (fun _ _ _ _ _ _ us hl => match us, hl with | [_, _], _ => rfl) fun f cdv Ar outer s H vs Q E hr h => ⟨_, pb_X, ?_⟩
  · obtain ⟨z, a, us, ds, rfl, _⟩ := h
    rfl
  obtain ⟨z, a, us, ds, rfl, hs, hu, hd, hz, hc, k1⟩ := h
  have hlen := hu.len
  have hp := parts_pos hc
  obtain ⟨u0, vs, rfl⟩ : ∃ u0 vs, us = u0 :: vs := by
    cases us with
    | nil =>
      have : ds.length = 0 := hlen.symm
      omega
    | cons u0 vs => exact ⟨u0, vs, rfl⟩
  have hl1 : vs.length + 1 = ds.length := hlen
  -- one = parts[0]
  refine b_cons (s_set 2 (eX_ev (v := u0) (ev_ixT (ev_name 1 rfl) ev_int hs (atI_zero u0 vs)) fun H0 e0 => ?_) sc_law_made.nd)
  have cnt : ∀ {c : Nat}, partsTab.lookup z = some c → ds.length = c := fun h => Option.some.inj (hc.symm.trans h)
  refine b_cons (s_if (k := decide (V.str z = V.str "loses")) (et_cmp op_eq (ev_name 0 rfl) ev_str (rv_eq rfl)) (fun hb H1 e1 => ?_) fun hb H1 e1 => b_nil ?_)
  · have hz1 : z = "loses" := V.str.inj (of_decide_eq_true hb)
    subst hz1
    have E1 := e0.trans e1
    refine b_one (s_retX ?_)
    have hn := cnt (c := 5) (by decide +kernel)
    obtain ⟨u1, u2, u3, u4, rfl⟩ := len_five (hl1.trans hn)
    exact e_papA (c := 5) M (by decide +kernel) hr (by omega) (ea_cons (ev_name 2 rfl) (ea_cons (ev_ixT (i := 1) (ev_name 1 rfl) ev_int (ex_t E1 hs) rfl) (ea_cons (ev_ixT (i := 2) (ev_name 1 rfl) ev_int (ex_t E1 hs) rfl) (ea_cons (ev_ixT (i := 3) (ev_name 1 rfl) ev_int (ex_t E1 hs) rfl) (ea_cons (ev_ixT (i := 4) (ev_name 1 rfl) ev_int (ex_t E1 hs) rfl) ea_nil))))) (hu.ext E1) hd hz hn fun x H' e' I => k1 x H' (E1.trans e') I
  have n_loses : z ≠ "loses" := fun e => of_decide_eq_false hb (congrArg V.str e)
  have E1 := e0.trans e1
  refine b_cons (s_if (k := inV (.str z) ((["acts", "shaky"] : List Str).map V.str)) (et_inT (ev_name 0 rfl) (evu_tup (ea_cons ev_str (ea_cons ev_str ea_nil)) (by show 2 ≤ 100000; decide)) rfl rfl) (fun hb2 H2 e2 => ?_) fun hb2 H2 e2 => b_nil ?_)
  · rw [inV_strs] at hb2
    have hm := of_decide_eq_true hb2
    refine b_one (s_retX (e_ife (tX_et (k := decide (V.str z = V.str "acts")) (et_cmp op_eq (ev_name 0 rfl) ev_str (rv_eq rfl)) fun H9 e9 => ?_)))
    have E9 := (E1.trans e2).trans e9
    by_cases hz1 : z = "acts"
    · subst hz1
      rw [if_pos (decide_eq_true rfl)]
      have hn := cnt (c := 3) (by decide +kernel)
      obtain ⟨u1, u2, rfl⟩ := len_three (hl1.trans hn)
      exact e_papA (c := 3) M (by decide +kernel) hr (by omega) (ea_cons (ev_name 2 rfl) (ea_cons (ev_ixT (i := 1) (ev_name 1 rfl) ev_int (ex_t E9 hs) rfl) (ea_cons (ev_ixT (i := 2) (ev_name 1 rfl) ev_int (ex_t E9 hs) rfl) ea_nil))) (hu.ext E9) hd hz hn fun x H' e' I => k1 x H' (E9.trans e') I
    · have hz2 : z = "shaky" := by
        simp only [List.mem_cons, List.not_mem_nil, or_false] at hm
        exact hm.resolve_left hz1
      rw [if_neg (fun q => hz1 (V.str.inj (of_decide_eq_true q)))]
      subst hz2
      have hn := cnt (c := 3) (by decide +kernel)
      obtain ⟨u1, u2, rfl⟩ := len_three (hl1.trans hn)
      exact e_papA (c := 3) M (by decide +kernel) hr (by omega) (ea_cons (ev_name 2 rfl) (ea_cons (ev_ixT (i := 1) (ev_name 1 rfl) ev_int (ex_t E9 hs) rfl) (ea_cons (ev_ixT (i := 2) (ev_name 1 rfl) ev_int (ex_t E9 hs) rfl) ea_nil))) (hu.ext E9) hd hz hn fun x H' e' I => k1 x H' (E9.trans e') I
  have E2 := E1.trans e2
  rw [inV_strs] at hb2
  have m2 := of_decide_eq_false hb2
  refine b_cons (s_if (k := inV (.str z) ((["stays", "shaken"] : List Str).map V.str)) (et_inT (ev_name 0 rfl) (evu_tup (ea_cons ev_str (ea_cons ev_str ea_nil)) (by show 2 ≤ 100000; decide)) rfl rfl) (fun hb3 H3 e3 => ?_) fun hb3 H3 e3 => b_nil ?_)
  · rw [inV_strs] at hb3
    have hm := of_decide_eq_true hb3
    refine b_one (s_retX (e_ife (tX_et (k := decide (V.str z = V.str "stays")) (et_cmp op_eq (ev_name 0 rfl) ev_str (rv_eq rfl)) fun H9 e9 => ?_)))
    have E9 := (E2.trans e3).trans e9
    by_cases hz1 : z = "stays"
    · subst hz1
      rw [if_pos (decide_eq_true rfl)]
      have hn := cnt (c := 2) (by decide +kernel)
      obtain ⟨u1, rfl⟩ := len_two (hl1.trans hn)
      exact e_papA (c := 2) M (by decide +kernel) hr (by omega) (ea_cons (ev_name 2 rfl) (ea_cons (ev_ixT (i := 1) (ev_name 1 rfl) ev_int (ex_t E9 hs) rfl) ea_nil)) (hu.ext E9) hd hz hn fun x H' e' I => k1 x H' (E9.trans e') I
    · have hz2 : z = "shaken" := by
        simp only [List.mem_cons, List.not_mem_nil, or_false] at hm
        exact hm.resolve_left hz1
      rw [if_neg (fun q => hz1 (V.str.inj (of_decide_eq_true q)))]
      subst hz2
      have hn := cnt (c := 2) (by decide +kernel)
      obtain ⟨u1, rfl⟩ := len_two (hl1.trans hn)
      exact e_papA (c := 2) M (by decide +kernel) hr (by omega) (ea_cons (ev_name 2 rfl) (ea_cons (ev_ixT (i := 1) (ev_name 1 rfl) ev_int (ex_t E9 hs) rfl) ea_nil)) (hu.ext E9) hd hz hn fun x H' e' I => k1 x H' (E9.trans e') I
  have E3 := E2.trans e3
  rw [inV_strs] at hb3
  have m3 := of_decide_eq_false hb3
  refine b_cons (s_if (k := inV (.str z) ((["waits", "pledges"] : List Str).map V.str)) (et_inT (ev_name 0 rfl) (evu_tup (ea_cons ev_str (ea_cons ev_str ea_nil)) (by show 2 ≤ 100000; decide)) rfl rfl) (fun hb4 H4 e4 => ?_) fun hb4 H4 e4 => b_nil ?_)
  · rw [inV_strs] at hb4
    have hm := of_decide_eq_true hb4
    refine b_one (s_retX (e_ife (tX_et (k := decide (V.str z = V.str "waits")) (et_cmp op_eq (ev_name 0 rfl) ev_str (rv_eq rfl)) fun H9 e9 => ?_)))
    have E9 := (E3.trans e4).trans e9
    by_cases hz1 : z = "waits"
    · subst hz1
      rw [if_pos (decide_eq_true rfl)]
      have hn := cnt (c := 2) (by decide +kernel)
      obtain ⟨u1, rfl⟩ := len_two (hl1.trans hn)
      exact e_papA (c := 2) M (by decide +kernel) hr (by omega) (ea_cons (ev_name 2 rfl) (ea_cons (ev_ixT (i := 1) (ev_name 1 rfl) ev_int (ex_t E9 hs) rfl) ea_nil)) (hu.ext E9) hd hz hn fun x H' e' I => k1 x H' (E9.trans e') I
    · have hz2 : z = "pledges" := by
        simp only [List.mem_cons, List.not_mem_nil, or_false] at hm
        exact hm.resolve_left hz1
      rw [if_neg (fun q => hz1 (V.str.inj (of_decide_eq_true q)))]
      subst hz2
      have hn := cnt (c := 2) (by decide +kernel)
      obtain ⟨u1, rfl⟩ := len_two (hl1.trans hn)
      exact e_papA (c := 2) M (by decide +kernel) hr (by omega) (ea_cons (ev_name 2 rfl) (ea_cons (ev_ixT (i := 1) (ev_name 1 rfl) ev_int (ex_t E9 hs) rfl) ea_nil)) (hu.ext E9) hd hz hn fun x H' e' I => k1 x H' (E9.trans e') I
  have E4 := E3.trans e4
  rw [inV_strs] at hb4
  have m4 := of_decide_eq_false hb4
  refine b_cons (s_if (k := inV (.str z) ((["bears", "settled"] : List Str).map V.str)) (et_inT (ev_name 0 rfl) (evu_tup (ea_cons ev_str (ea_cons ev_str ea_nil)) (by show 2 ≤ 100000; decide)) rfl rfl) (fun hb5 H5 e5 => ?_) fun hb5 H5 e5 => b_nil ?_)
  · rw [inV_strs] at hb5
    have hm := of_decide_eq_true hb5
    refine b_one (s_retX (e_ife (tX_et (k := decide (V.str z = V.str "bears")) (et_cmp op_eq (ev_name 0 rfl) ev_str (rv_eq rfl)) fun H9 e9 => ?_)))
    have E9 := (E4.trans e5).trans e9
    by_cases hz1 : z = "bears"
    · subst hz1
      rw [if_pos (decide_eq_true rfl)]
      have hn := cnt (c := 1) (by decide +kernel)
      cases len_one (hl1.trans hn)
      exact e_papA (c := 1) M (by decide +kernel) hr (by omega) (ea_cons (ev_name 2 rfl) ea_nil) (hu.ext E9) hd hz hn fun x H' e' I => k1 x H' (E9.trans e') I
    · have hz2 : z = "settled" := by
        simp only [List.mem_cons, List.not_mem_nil, or_false] at hm
        exact hm.resolve_left hz1
      rw [if_neg (fun q => hz1 (V.str.inj (of_decide_eq_true q)))]
      subst hz2
      have hn := cnt (c := 1) (by decide +kernel)
      cases len_one (hl1.trans hn)
      exact e_papA (c := 1) M (by decide +kernel) hr (by omega) (ea_cons (ev_name 2 rfl) ea_nil) (hu.ext E9) hd hz hn fun x H' e' I => k1 x H' (E9.trans e') I
  have E5 := E4.trans e5
  rw [inV_strs] at hb5
  have m5 := of_decide_eq_false hb5
  refine b_cons (s_if (k := inV (.str z) ((["comes", "holds"] : List Str).map V.str)) (et_inT (ev_name 0 rfl) (evu_tup (ea_cons ev_str (ea_cons ev_str ea_nil)) (by show 2 ≤ 100000; decide)) rfl rfl) (fun hb6 H6 e6 => ?_) fun hb6 H6 e6 => b_nil ?_)
  · rw [inV_strs] at hb6
    have hm := of_decide_eq_true hb6
    refine b_one (s_retX (e_ife (tX_et (k := decide (V.str z = V.str "comes")) (et_cmp op_eq (ev_name 0 rfl) ev_str (rv_eq rfl)) fun H9 e9 => ?_)))
    have E9 := (E5.trans e6).trans e9
    by_cases hz1 : z = "comes"
    · subst hz1
      rw [if_pos (decide_eq_true rfl)]
      have hn := cnt (c := 1) (by decide +kernel)
      cases len_one (hl1.trans hn)
      exact e_papA (c := 1) M (by decide +kernel) hr (by omega) (ea_cons (ev_name 2 rfl) ea_nil) (hu.ext E9) hd hz hn fun x H' e' I => k1 x H' (E9.trans e') I
    · have hz2 : z = "holds" := by
        simp only [List.mem_cons, List.not_mem_nil, or_false] at hm
        exact hm.resolve_left hz1
      rw [if_neg (fun q => hz1 (V.str.inj (of_decide_eq_true q)))]
      subst hz2
      have hn := cnt (c := 1) (by decide +kernel)
      cases len_one (hl1.trans hn)
      exact e_papA (c := 1) M (by decide +kernel) hr (by omega) (ea_cons (ev_name 2 rfl) ea_nil) (hu.ext E9) hd hz hn fun x H' e' I => k1 x H' (E9.trans e') I
  have E6 := E5.trans e6
  rw [inV_strs] at hb6
  have m6 := of_decide_eq_false hb6
  refine b_cons (s_if (k := inV (.str z) ((["covered", "frozen"] : List Str).map V.str)) (et_inT (ev_name 0 rfl) (evu_tup (ea_cons ev_str (ea_cons ev_str ea_nil)) (by show 2 ≤ 100000; decide)) rfl rfl) (fun hb7 H7 e7 => ?_) fun hb7 H7 e7 => b_nil ?_)
  · rw [inV_strs] at hb7
    have hm := of_decide_eq_true hb7
    refine b_one (s_retX (e_ife (tX_et (k := decide (V.str z = V.str "covered")) (et_cmp op_eq (ev_name 0 rfl) ev_str (rv_eq rfl)) fun H9 e9 => ?_)))
    have E9 := (E6.trans e7).trans e9
    by_cases hz1 : z = "covered"
    · subst hz1
      rw [if_pos (decide_eq_true rfl)]
      have hn := cnt (c := 1) (by decide +kernel)
      cases len_one (hl1.trans hn)
      exact e_papA (c := 1) M (by decide +kernel) hr (by omega) (ea_cons (ev_name 2 rfl) ea_nil) (hu.ext E9) hd hz hn fun x H' e' I => k1 x H' (E9.trans e') I
    · have hz2 : z = "frozen" := by
        simp only [List.mem_cons, List.not_mem_nil, or_false] at hm
        exact hm.resolve_left hz1
      rw [if_neg (fun q => hz1 (V.str.inj (of_decide_eq_true q)))]
      subst hz2
      have hn := cnt (c := 1) (by decide +kernel)
      cases len_one (hl1.trans hn)
      exact e_papA (c := 1) M (by decide +kernel) hr (by omega) (ea_cons (ev_name 2 rfl) ea_nil) (hu.ext E9) hd hz hn fun x H' e' I => k1 x H' (E9.trans e') I
  have E7 := E6.trans e7
  rw [inV_strs] at hb7
  have m7 := of_decide_eq_false hb7
  refine b_cons (s_if (k := inV (.str z) ((["thaws", "firm"] : List Str).map V.str)) (et_inT (ev_name 0 rfl) (evu_tup (ea_cons ev_str (ea_cons ev_str ea_nil)) (by show 2 ≤ 100000; decide)) rfl rfl) (fun hb8 H8 e8 => ?_) fun hb8 H8 e8 => b_nil ?_)
  · rw [inV_strs] at hb8
    have hm := of_decide_eq_true hb8
    refine b_one (s_retX (e_ife (tX_et (k := decide (V.str z = V.str "thaws")) (et_cmp op_eq (ev_name 0 rfl) ev_str (rv_eq rfl)) fun H9 e9 => ?_)))
    have E9 := (E7.trans e8).trans e9
    by_cases hz1 : z = "thaws"
    · subst hz1
      rw [if_pos (decide_eq_true rfl)]
      have hn := cnt (c := 1) (by decide +kernel)
      cases len_one (hl1.trans hn)
      exact e_papA (c := 1) M (by decide +kernel) hr (by omega) (ea_cons (ev_name 2 rfl) ea_nil) (hu.ext E9) hd hz hn fun x H' e' I => k1 x H' (E9.trans e') I
    · have hz2 : z = "firm" := by
        simp only [List.mem_cons, List.not_mem_nil, or_false] at hm
        exact hm.resolve_left hz1
      rw [if_neg (fun q => hz1 (V.str.inj (of_decide_eq_true q)))]
      subst hz2
      have hn := cnt (c := 1) (by decide +kernel)
      cases len_one (hl1.trans hn)
      exact e_papA (c := 1) M (by decide +kernel) hr (by omega) (ea_cons (ev_name 2 rfl) ea_nil) (hu.ext E9) hd hz hn fun x H' e' I => k1 x H' (E9.trans e') I
  have E8 := E7.trans e8
  rw [inV_strs] at hb8
  have m8 := of_decide_eq_false hb8
  have hz1 : z = "idle" := by
    have hm := parts_keys.mpr ⟨_, hc⟩
    have hm : z ∈ (["bears", "loses", "settled", "comes", "stays", "shaken", "holds", "covered", "waits", "pledges", "frozen", "thaws", "acts", "idle", "firm", "shaky"] : List Str) := hm
    simp only [List.mem_cons, List.not_mem_nil, or_false] at hm
    simp only [List.mem_cons, List.not_mem_nil, or_false, not_or] at m2 m3 m4 m5 m6 m7 m8
    rcases hm with h | h | h | h | h | h | h | h | h | h | h | h | h | h | h | h
    · exact absurd h m5.1
    · exact absurd h n_loses
    · exact absurd h m5.2
    · exact absurd h m6.1
    · exact absurd h m3.1
    · exact absurd h m3.2
    · exact absurd h m6.2
    · exact absurd h m7.1
    · exact absurd h m4.1
    · exact absurd h m4.2
    · exact absurd h m7.2
    · exact absurd h m8.1
    · exact absurd h m2.1
    · exact h
    · exact absurd h m8.2
    · exact absurd h m2.2
  subst hz1
  refine b_one (s_retX ?_)
  have hn := cnt (c := 2) (by decide +kernel)
  obtain ⟨u1, rfl⟩ := len_two (hl1.trans hn)
  exact e_papA (c := 2) M (by decide +kernel) hr (by omega) (ea_cons (ev_name 2 rfl) (ea_cons (ev_ixT (i := 1) (ev_name 1 rfl) ev_int (ex_t E8 hs) rfl) ea_nil)) (hu.ext E8) hd hz hn fun x H' e' I => k1 x H' (E8.trans e') I
end
end K96

set_option Elab.async false
set_option linter.all false
set_option maxRecDepth 100000
set_option maxHeartbeats 4000000
/-! The law's paper_due, forms. -/
namespace K96
open PySem PySem.Spec PyProof.Rows L2 Evl
theorem pe_cl0 {X : Cx} {CX : CXT} {E : XK} {k j : Nat} {x : Str} {sp : Sp} {p pos : Pos} (c : Cl X.prog X.w X.K X.mg X.base CX k x sp) (hr : Room j X.A) (hk : k ≤ j) (hx : Passes CX X E) (hg : Gl X x) (hdb : (x == ("__debug__" : Str)) = false := by decide) :
    PE X (.Call (.Name x p) [] [] pos) (tCall sp [] E tNil) := by
  obtain ⟨f, fd, ps, F, hm, kp, b⟩ := c.ex
  exact pe_call0 F (hr.mono hk) hg hm kp b .nil hx hdb
section
variable {X : Cx} {e a b it : Expr} {es : List Expr} {body : List Stmt} {pos px p p2 p3 : Pos} {σ : Sg} {H : Hp} {Q : VK} {D : Ends} {nm : Str} {v : V} {r : Addr} {xs : List V}
theorem e_cl0 {CX : CXT} {E : XK} {k j : Nat} {x : Str} {sp : Sp} (c : Cl X.prog X.w X.K X.mg X.base CX k x sp) (hr : Room j X.A) (hk : k ≤ j) (hx : Passes CX X E) (h : sp [] H Q E) (hg : Gl X x := by rfl) (hdb : (x == ("__debug__" : Str)) = false := by decide) : eX X (.Call (.Name x p) [] [] pos) σ H Q := eX_of (pe_cl0 c hr hk hx hg hdb) h
/-- for n in range(e) -/
theorem s_forRange (i : Nat) (h : eX X e σ H fun v H1 => ∃ (n : Int) (Pv : Nat → Sg → Hp → Prop), v = .int n ∧ 0 ≤ n ∧ n ≤ 100000 ∧ Pv 0 σ H1 ∧ (∀ (k : Nat) σ' H', k < n.toNat → Pv k σ' H' → bX X body { D with nx := Pv (k + 1), ct := Pv (k + 1), bk := D.nx } (σ'.set i (some (.int (k : Nat)))) H') ∧ ∀ σ' H', Pv n.toNat σ' H' → D.nx σ' H')
    (hm : X.mg "range" = none) (hp : PassesOwn (model X.prog X.w) X.A X.env X.xe) (hN : X.N.Nodup) (hg : Gl X ("range" : Str) := by rfl) (hc : X.calm = true := by rfl) (hi : X.N[i]? = some nm := by rfl) (hv : Loc X.env.scope nm := by first | exact Or.inl rfl | exact Or.inr rfl) (hf : X.fn nm = true ∨ X.env.scope.names.lookup nm = some .local := by first | exact .inl rfl | exact .inr rfl)
    (he : starEach [e] X.env = [(false, eval e X.env)] := by rfl) (hst : ∀ x, foldedSetIterable (.Call (.Name "range" p2) [e] [] p3) X.env x = pure x := by intro _; rfl) : sX X (.For (.Name nm px) (.Call (.Name "range" p2) [e] [] p3) body [] pos) D σ H :=
  sX_of (ps_for hp hc (pi_range1 hg hm (pa_cons pe_X pa_nil he) he) (pg_name hN hi hv hf) pb_X hst) (show eX X e σ H _ from eX_mono h fun v H1 q => by
    obtain ⟨n, Pv, rfl, h0, h1, p0, ps, pd⟩ := q
    refine ⟨n, rfl, by omega, by omega, for_range (lo := 0) (n := n.toNat) Pv p0 (fun k σ' H' hk hP => ?_) pd⟩
    have e0 : (0 : Int) + (k : Int) = (k : Int) := Int.zero_add _
    show bX X body { D with nx := Pv (k + 1), ct := Pv (k + 1), bk := D.nx } (σ'.set i (some (.int ((0 : Int) + (k : Int))))) H'
    rw [e0]
    exact ps k σ' H' hk hP)
/-- for n in xs, a list that stands still -/
theorem s_forList (i : Nat) (h : eX X it σ H fun v H1 => ∃ (r : Addr) (xs : List V) (Pv : Nat → Sg → Hp → Prop), v = .ref r ∧ SqL X.K H1 r xs ∧ Pv 0 σ H1 ∧ (∀ k σ' H', k ≤ xs.length → Pv k σ' H' → SqL X.K H' r xs) ∧ (∀ (k : Nat) x σ' H', xs[k]? = some x → Pv k σ' H' → bX X body { D with nx := Pv (k + 1), ct := Pv (k + 1), bk := D.nx } (σ'.set i (some x)) H') ∧ ∀ σ' H', Pv xs.length σ' H' → D.nx σ' H')
    (hp : PassesOwn (model X.prog X.w) X.A X.env X.xe) (hN : X.N.Nodup) (hc : X.calm = true := by rfl) (hi : X.N[i]? = some nm := by rfl) (hv : Loc X.env.scope nm := by first | exact Or.inl rfl | exact Or.inr rfl) (hf : X.fn nm = true ∨ X.env.scope.names.lookup nm = some .local := by first | exact .inl rfl | exact .inr rfl)
    (hst : ∀ x, foldedSetIterable it X.env x = pure x := by intro _; rfl) : sX X (.For (.Name nm px) it body [] pos) D σ H :=
  sX_of (ps_for hp hc (pi_list pe_X) (pg_name hN hi hv hf) pb_X hst) (show eX X it σ H _ from eX_mono h fun v H1 q => by
    obtain ⟨r, xs, Pv, rfl, hx, p0, hl, ps, pd⟩ := q
    exact ⟨r, rfl, ⟨xs, hx⟩, for_list Pv p0 hl ps pd⟩)
/-- k not in d, d[k], d a dict that is made -/
theorem t_notInD {Q : Bool → Hp → Prop} (hu : X.A.units + 1 < cLine) (h : eX X a σ H fun y H1 => eX X b σ H1 fun x H2 => ∃ d o, x = .ref d ∧ DGet H2 d y o ∧ Q (!o.isSome) H2) (hm : behindInMarks .NotIn b = false := by rfl) : tX X (.Compare a [.NotIn] [b] pos) σ H Q :=
  tX_of (pt_cmp (pc_dnotin hu pe_X pe_X) hm) (show eX X a σ H _ from eX_mono h fun y H1 q => (show eX X b σ H1 _ from eX_mono q fun x H2 ⟨d, o, e, g, k⟩ => ⟨d, o, e, g, _, rfl, k⟩))
theorem e_getD (hu : X.A.units + 1 < cLine) (h : eX X a σ H fun x H1 => eX X b σ H1 fun y H2 => ∃ d v, x = .ref d ∧ DGet H2 d y (some v) ∧ Q v H2) (hs : NoSl b := by intro _ _; rfl) : eX X (.Subscript a b pos) σ H Q := eX_of (pe_dget hu pe_X pe_X hs) h
end
/-- what is due of a first line -/
def dueOf {α : Type} (ws : List Str) : Nat ⊕ (α × Nat) → Nat ⊕ α
  | .inl j => .inl j
  | .inr (x, j) => if j < ws.length then .inl j else .inr x
def pDue (ws : List Str) : Nat ⊕ (Str × List PyData) := dueOf ws (paperGo ws 0)
def spPDue (K : Fr) : Sp := fun vs H Q _ => ∃ (a : Addr) (ws : List Str), vs = [.ref a] ∧ SqL K H a (ws.map V.str) ∧ 0 < ws.length ∧ ws.length < 100000 ∧ (∀ z ∈ ws, z.length ≤ 100000) ∧
  (∀ z ds, pDue ws = .inr (z, ds) → ∀ p q us H', H p = none → Ex H H' → H' p = some (.lst [.str z, .ref q]) → SqT K H' q us → UrAll K H' us ds → plainL ds = true → Q (.ref p) H') ∧ (∀ j : Nat, pDue ws = .inl j → Gives (.int j) H Q)
/-- the state at a turn -/
def WPD (K : Fr) (ws : List Str) (R : Nat ⊕ (List PyData × Nat)) (c : Nat) (a lp : Addr) (H : Hp) (i : Nat) (σ' : Sg) (H' : Hp) : Prop :=
  ∃ j ds vs o3 o4, σ' = [some (.ref a), some (.ref lp), some (.int (j : Nat)), o3, o4] ∧ toldN ws (c - i) j ds = R ∧ j ≤ ws.length ∧ Ex H H' ∧ H' lp = some (.lst vs) ∧ UrAll K H' vs ds ∧ plainL ds = true ∧ ds.length + 1 ≤ j
section
variable {P : Program} {w : World} {K : Fr} {mg : Str → Option Value} {base : Heap}
theorem ok_law_paper_due (T : Txt K mg) (cm : Cl P w K mg base CX0 1 "_law_many" spMany) (ct : Cl P w K mg base CX0 3 "_law_taken" (spLTaken K)) (D : Df K mg d_law_paper_due) : Cl P w K mg base CX0 4 "_law_paper_due" (spPDue K) := by
  refine D.cl sc_law_paper_due (fun vs H Q E h => ?_) (fun _ _ _ _ _ _ us hl => match us, hl with | [_], _ => rfl) fun f cdv Ar outer s H vs Q E hr h => ⟨_, pb_X, ?_⟩
  · obtain ⟨a, ws, rfl, _⟩ := h
    rfl
  obtain ⟨a, ws, rfl, hws, h0, hn, hz, k1, k2⟩ := h
  have nd := sc_law_paper_due.nd
  have hu := hu_of hr
  obtain ⟨z, hw⟩ : ∃ z, ws[0]? = some z := ⟨_, List.getElem?_eq_getElem h0⟩
  have hw0 : (ws.map V.str)[0]? = some (.str z) := by rw [List.getElem?_map, hw]; rfl
  have lenE : ((ws.map V.str).length : Int) = (ws.length : Int) := by rw [List.length_map]
  -- if words[0] not in _law_many(): return 0
  refine b_cons (s_ifX (t_notInD hu (eX_ev (v := .str z) (ev_ixL (i := ((0 : Nat) : Int)) (ev_name 0 rfl) ev_int hws (atI_j hw0)) fun H1 e1 => e_cl0 (E := E0) cm hr (by decide) pass0 ⟨rfl, fun d H2 hd e2 h2 => ⟨d, _, rfl, DGet.k (k := Sum.inr z) h2, ?_⟩⟩)))
  rw [many_at]
  have E2 := e1.trans e2
  cases hc : partsTab.lookup z with
  | none =>
    refine iteT (b_one (s_ret (v := .int ((0 : Nat) : Int)) ev_int fun H3 e3 => k2 0 ?_ H3 (E2.trans e3)))
    unfold pDue paperGo
    rw [hw]
    simp only [hc]
    rfl
  | some c =>
    refine iteF (b_nil ?_)
    have hc5 := parts_small hc
    have hgo : pDue ws = dueOf ws (tagP z (toldN ws c 1 [])) := by
      unfold pDue paperGo
      rw [hw]
      simp only [hc]
    generalize hR : toldN ws c 1 [] = R at hgo
    -- parts, at = ([], 1)
    refine b_cons (s_par 1 2 (a_cons (e_lst (a_nil ⟨Nat.zero_le _, fun lp hlp => a_one (eX_ev (v := .int ((1 : Nat) : Int)) ev_int fun H4 e4 => ⟨_, _, rfl, ?_⟩)⟩))) nd)
    have E4 : Ex H H4 := (E2.trans (Ex.new hlp)).trans e4
    have hlp0 : H lp = none := fresh_back E2 hlp
    have l4 := e4 _ _ (upd_same (H := H2) (a := lp) (o := .lst []))
    -- for turn in range(_law_many()[words[0]])
    refine b_cons (s_forRange 3 (e_getD hu (e_cl0 (E := E0) cm hr (by decide) pass0 ⟨rfl, fun d H5 hd e5 h5 => eX_ev (v := .str z) (ev_ixL (i := ((0 : Nat) : Int)) (ev_name 0 rfl) ev_int (ex_l (E4.trans e5) hws) (atI_j hw0)) fun H6 e6 => ⟨d, .int (c : Nat), rfl, ?_, (c : Nat), WPD K ws R c a lp H, rfl, by omega, by omega, ?_, ?_, ?_⟩⟩)) (T.f "range") (passes_of rfl) nd)
    · have h := DGet.k (k := Sum.inr z) (e6 _ _ h5)
      rw [many_at, hc] at h
      exact h
    · exact ⟨1, [], [], none, none, rfl, hR, by omega, (E4.trans e5).trans e6, (e5.trans e6) _ _ l4, .nil, rfl, Nat.le_refl _⟩
    · intro i σ' H7 hi hv
      obtain ⟨j, ds, vs, o3, o4, rfl, hgo7, hj, E7, l7, u7, p7, d7⟩ := hv
      have hci : c - i = (c - (i + 1)) + 1 := by
        have : ((c : Nat) : Int).toNat = c := Int.toNat_natCast c
        omega
      rw [hci] at hgo7
      unfold toldN at hgo7
      -- told = _law_taken(words, at)
      refine b_cons (s_set 4 (eX_of (pe_cl (E := E0) ct hr (by decide) pass0 rfl (pa_cons pe_X (pa_cons pe_X pa_nil))) (eX_ev (v := .ref a) (ev_name 0 rfl) fun H8 e8 => eX_ev (v := .int (j : Nat)) (ev_name 2 rfl) fun H9 e9 => ⟨a, ws, j, rfl, ex_l ((E7.trans e8).trans e9) hws, hj, by omega, hz, fun x j' hg t v H10 ht e10 h10 u10 px => ?_, fun j' hg H10 e10 => ?_⟩)) nd)
      · rw [hg] at hgo7
        obtain ⟨t1, t2, t3, t4⟩ := told_ok ws _ j [] x j' hj (by decide) rfl hg
        have E10 := ((E7.trans e8).trans e9).trans e10
        have l10 := (e8.trans (e9.trans e10)) _ _ l7
        -- if not isinstance(told, list)
        refine b_cons (s_if (k := !(isK "list" "list")) (et_not (et_val (ev_isi (m := "list") (T.f "isinstance") (T.f "list") (ev_name 4 rfl) (VT.l (sq_of h10)) (by decide)))) (fun hb => absurd hb (by decide)) fun _ H11 e11 => b_nil ?_)
        refine b_cons (s_expr (e_append (l := lp) (ev_name 1 rfl) ⟨_, e11 _ _ l10⟩ fun H12 e12 => eX_ev (v := v) (ev_ixL (i := ((0 : Nat) : Int)) (ev_name 4 rfl) ev_int (sq_of ((e11.trans e12) _ _ h10)) rfl) fun H13 e13 => ?_))
        have e1013 := (e11.trans e12).trans e13
        have vl := u7.len
        refine ⟨vs, e1013 _ _ l10, by omega, ?_⟩
        have ntl : t ≠ lp := fun z => by
          rw [z, (e8.trans e9) _ _ l7] at ht
          cases ht
        have t13 : L2.upd H13 lp (.lst (vs ++ [v])) t = some (.lst [v, .int (j' : Nat)]) := by
          rw [upd_ne ntl]
          exact e1013 _ _ h10
        refine b_one (s_set 2 (eX_ev (v := .int (j' : Nat)) (ev_ixL (i := ((1 : Nat) : Int)) (ev_name 4 rfl) ev_int (sq_of t13) rfl) fun H14 e14 => ?_) nd)
        have tk : TupK K H7 (L2.upd H13 lp (.lst (vs ++ [v]))) := (tupK_ex ((e8.trans (e9.trans e10)).trans e1013)).trans (tupK_upd (e1013 _ _ l10) rfl)
        have tk2 : TupK K H10 (L2.upd H13 lp (.lst (vs ++ [v]))) := (tupK_ex e1013).trans (tupK_upd (e1013 _ _ l10) rfl)
        refine ⟨j', ds ++ [x], vs ++ [v], _, _, rfl, hgo7, t4, ((E10.trans e1013).mut hlp0).trans e14, e14 _ _ upd_same, ((UrAll.keep tk p7 u7).app (.cons (u10.keep tk2 px) .nil)).ext e14, ?_, ?_⟩
        · rw [plainL_app, p7]
          show (true && (plainD x && true)) = true
          rw [px]
          rfl
        · rw [List.length_append]
          show ds.length + 1 + 1 ≤ j'
          omega
      · rw [hg] at hgo7
        have E10 := ((E7.trans e8).trans e9).trans e10
        refine b_cons (s_if (k := !(isK "int" "list")) (et_not (et_val (ev_isi (m := "list") (T.f "isinstance") (T.f "list") (ev_name 4 rfl) (VT.i (j' : Nat)) (by decide)))) (fun _ H11 e11 => ?_) fun hb => absurd hb (by decide))
        exact b_one (s_ret (ev_name 4 rfl) fun H12 e12 => k2 j' (by rw [hgo, ← hgo7]; rfl) H12 ((E10.trans e11).trans e12))
    · intro σ' H7 hv
      obtain ⟨j, ds, vs, o3, o4, rfl, hgo7, hj, E7, l7, u7, p7, d7⟩ := hv
      have hcc : c - ((c : Nat) : Int).toNat = 0 := by
        rw [Int.toNat_natCast]
        omega
      rw [hcc] at hgo7
      have hR2 : R = .inr (ds, j) := hgo7.symm
      rw [hR2] at hgo
      -- return [words[0], tuple(parts)] if at == len(words) else at
      refine b_one (s_retX (e_ife (tX_et (k := decide (V.int (j : Nat) = V.int ((ws.map V.str).length : Nat))) (et_cmp op_eq (ev_name 2 rfl) (ev_lenL (T.f "len") (ev_name 0 rfl) (.inl (ex_l E7 hws))) (rv_eq rfl)) fun H8 e8 => ?_)))
      by_cases hjl : j < ws.length
      · rw [if_neg (fun q => by
          have q := V.int.inj (of_decide_eq_true q)
          rw [lenE] at q
          omega)]
        refine eX_ev (v := .int (j : Nat)) (ev_name 2 rfl) fun H9 e9 => k2 j ?_ H9 ((E7.trans e8).trans e9)
        rw [hgo]
        exact if_pos hjl
      · have hjj : j = ws.length := by omega
        rw [if_pos (decide_eq_true (by rw [hjj, List.length_map]))]
        have E8 := E7.trans e8
        refine e_lst (a_cons (eX_ev (v := .str z) (ev_ixL (i := ((0 : Nat) : Int)) (ev_name 0 rfl) ev_int (ex_l E8 hws) (atI_j hw0)) fun H9 e9 => a_one (eX_of (pe_callTy call_tuple_of rfl (T.f "tuple") (by decide +kernel) (pa_cons pe_X pa_nil) (by decide) (by decide)) (eX_ev (v := .ref lp) (ev_name 1 rfl) fun H10 e10 => ?_))))
        have l10 := (e8.trans (e9.trans e10)) _ _ l7
        refine ⟨lp, vs, rfl, .inl ⟨sq_of l10, fun q hq => ⟨by show 2 ≤ sizeLine; decide, fun p hp => ?_⟩⟩⟩
        have E10 := (E8.trans e9).trans e10
        have E12 : Ex H (L2.upd (L2.upd H10 q (.tup vs)) p (.lst [.str z, .ref q])) := (E10.trans (Ex.new hq)).trans (Ex.new hp)
        refine k1 z ds (by rw [hgo]; exact if_neg hjl) p q vs _ (fresh_back (E10.trans (Ex.new hq)) hp) E12 upd_same (st_of ((Ex.new hp) _ _ upd_same)) (u7.ext ((e8.trans (e9.trans e10)).trans ((Ex.new hq).trans (Ex.new hp)))) p7
def spForms (K : Fr) : Sp := fun vs H Q _ => ∃ z fs, vs = [.str z] ∧ formsTab.lookup z = some fs ∧ ∀ (l : Addr) H', Ex H H' → H l = none → H' l = some (.lst (fs.map V.str)) → Q (.ref l) H'
end
end K96

set_option Elab.async false
set_option linter.all false
set_option maxRecDepth 100000
set_option maxHeartbeats 4000000
/-! The law's forms. -/
namespace K96
open PySem PySem.Spec PyProof.Rows L2 Evl
theorem nosl_name {n : Str} {p : Pos} : NoSl (.Name n p) := fun _ _ => rfl
theorem inr_ne {s t : Str} (h : s ≠ t) : ¬ (Sum.inr s : Key) = Sum.inr t := fun e => h (Sum.inr.inj e)
theorem merge_snoc (kvs : List (Key × V)) (k : Key) (v : V) : mergeK [] (kvs ++ [(k, v)]) = putK (mergeK [] kvs) k v := by
  unfold mergeK
  rw [List.foldl_append]
  rfl
theorem merge_at (z : Str) : ∀ (l : List (Str × V)) (kvs : List (Key × V)) (v : V), l.lookup z = some v → (l.map (·.1)).Nodup → valV (mergeK kvs (l.map fun q => (Sum.inr q.1, q.2))) (Sum.inr z) = some v
  | [], _, _, h, _ => by cases h
  | (k, u) :: l, kvs, v, h, hn => by
    have hn2 := (List.nodup_cons.mp hn)
    show valV (mergeK (putK kvs (Sum.inr k) u) (l.map fun q => (Sum.inr q.1, q.2))) (Sum.inr z) = some v
    by_cases e : z = k
    · subst e
      have hu : u = v := by simpa using h
      subst hu
      have key : ∀ (l : List (Str × V)) (kvs : List (Key × V)), z ∉ l.map (·.1) → valV (mergeK kvs (l.map fun q => (Sum.inr q.1, q.2))) (Sum.inr z) = valV kvs (Sum.inr z) := by
        intro l
        induction l with
        | nil => intro kvs _; rfl
        | cons q l ih =>
          intro kvs hz
          have hz2 := not_or.mp (fun h => hz (List.mem_cons.mpr h))
          show valV (mergeK (putK kvs (Sum.inr q.1) q.2) (l.map fun q => (Sum.inr q.1, q.2))) (Sum.inr z) = _
          rw [ih _ hz2.2, valV_put, if_neg (inr_ne hz2.1)]
      rw [key l _ hn2.1, valV_put, if_pos rfl]
    · have h2 : l.lookup z = some v := by
        have : (z == k) = false := by simpa using e
        rw [List.lookup_cons, this] at h
        exact h
      exact merge_at z l _ v h2 hn2.2
def tab9 (a0 a1 a2 a3 a4 a5 a6 : Addr) : List (Str × V) := [("bears", V.ref a1), ("firm", V.ref a2), ("settled", V.ref a0), ("waits", V.ref a0), ("pledges", V.ref a0), ("acts", V.ref a3), ("frozen", V.ref a4), ("stays", V.ref a5), ("value", V.ref a6)]
theorem tab9_nd {a0 a1 a2 a3 a4 a5 a6 : Addr} : ((tab9 a0 a1 a2 a3 a4 a5 a6).map (·.1)).Nodup := by
  show (["bears", "firm", "settled", "waits", "pledges", "acts", "frozen", "stays", "value"] : List Str).Nodup
  decide +kernel
theorem look_hit {z : Str} {v : V} {l : List (Str × V)} : ((z, v) :: l).lookup z = some v := by rw [List.lookup_cons, beq_self_eq_true]
theorem look_miss {z k : Str} {u : V} {l : List (Str × V)} {r : Option V} (h : (z == k) = false) (q : l.lookup z = r) : ((k, u) :: l).lookup z = r := by rw [List.lookup_cons, h]; exact q
section
variable {P : Program} {w : World} {K : Fr} {mg : Str → Option Value} {base : Heap}
theorem ok_law_forms (T : Txt K mg) (D : Df K mg d_law_forms) : Cl P w K mg base CX0 1 "_law_forms" (spForms K) := by
  refine D.cl sc_law_forms (fun vs H Q E h => ?_) (fun _ _ _ _ _ _ us hl => match us, hl with | [_], _ => rfl) fun f cdv Ar outer s H vs Q E hr h => ⟨_, pb_X, ?_⟩
  · obtain ⟨z, fs, rfl, _⟩ := h
    rfl
  obtain ⟨z, fs, rfl, hz, k⟩ := h
  have nd := sc_law_forms.nd
  have hu := hu_of hr
  -- facts = [..]
  refine b_cons (s_set 1 (eX_evl (evl_lst (ea_cons ev_str (ea_cons ev_str (ea_cons ev_str (ea_cons ev_str ea_nil)))) (by show 4 ≤ 100000; decide)) fun a0 H1 h0 e1 g1 => ?_) nd)
  refine b_one ?_
  refine s_retX ?_
  refine @e_getD _ _ _ _ _ _ _ hu ?_ nosl_name
  refine @eX_of _ _ _ _ _ _ (pe_disp (pps_cons pe_X pe_X (pps_cons pe_X pe_X (pps_cons pe_X pe_X (pps_cons pe_X pe_X (pps_cons pe_X pe_X (pps_cons pe_X pe_X (pps_cons pe_X pe_X (pps_cons pe_X pe_X (pps_cons pe_X pe_X pps_nil))))))))) (by rfl) (by rfl) (fun z => by cases z) (by decide)) ?_
  intro d hd
  refine (show eX _ _ _ _ _ from eX_ev (v := .str "bears") ev_str fun H2 e2 => eX_evl (evl_lst ea_nil (Nat.zero_le _)) fun a1 H3 h3 e3 g3 => ?_)
  refine (show eX _ _ _ _ _ from eX_ev (v := .str "firm") ev_str fun H4 e4 => eX_evl (evl_lst (ea_cons ev_str (ea_cons ev_str ea_nil)) (by show 2 ≤ 100000; decide)) fun a2 H5 h5 e5 g5 => ?_)
  refine (show eX _ _ _ _ _ from eX_ev (v := .str "settled") ev_str fun H6 e6 => eX_ev (v := .ref a0) (ev_name 1 rfl) fun H7 e7 => ?_)
  refine (show eX _ _ _ _ _ from eX_ev (v := .str "waits") ev_str fun H8 e8 => eX_ev (v := .ref a0) (ev_name 1 rfl) fun H9 e9 => ?_)
  refine (show eX _ _ _ _ _ from eX_ev (v := .str "pledges") ev_str fun H10 e10 => eX_ev (v := .ref a0) (ev_name 1 rfl) fun H11 e11 => ?_)
  refine (show eX _ _ _ _ _ from eX_ev (v := .str "acts") ev_str fun H12 e12 => eX_evl (evl_lst (ea_cons ev_str (ea_cons ev_str (ea_cons ev_str (ea_cons ev_str ea_nil)))) (by show 4 ≤ 100000; decide)) fun a3 H13 h13 e13 g13 => ?_)
  refine (show eX _ _ _ _ _ from eX_ev (v := .str "frozen") ev_str fun H14 e14 => eX_evl (evl_lst (ea_cons ev_str (ea_cons ev_str (ea_cons ev_str (ea_cons ev_str ea_nil)))) (by show 4 ≤ 100000; decide)) fun a4 H15 h15 e15 g15 => ?_)
  refine (show eX _ _ _ _ _ from eX_ev (v := .str "stays") ev_str fun H16 e16 => eX_evl (evl_lst (ea_cons ev_str (ea_cons ev_str (ea_cons ev_str ea_nil))) (by show 3 ≤ 100000; decide)) fun a5 H17 h17 e17 g17 => ?_)
  refine (show eX _ _ _ _ _ from eX_ev (v := .str "value") ev_str fun H18 e18 => eX_evl (evl_lst (ea_cons ev_str (ea_cons ev_str (ea_cons ev_str (ea_cons ev_str (ea_cons ev_str ea_nil))))) (by show 5 ≤ 100000; decide)) fun a6 H19 h19 e19 g19 => ?_)
  have F17 := e18.trans e19
  have F15 := (e16.trans e17).trans F17
  have F13 := (e14.trans e15).trans F15
  have F5 := ((((((e6.trans e7).trans e8).trans e9).trans e10).trans e11).trans (e12.trans e13)).trans F13
  have F3 := (e4.trans e5).trans F5
  have F1 : Ex (L2.upd H1 d (.dK [])) H19 := (e2.trans e3).trans F3
  have d19 := F1 _ _ (upd_same (H := H1) (a := d) (o := .dK []))
  have hd0 : H d = none := fresh_back e1 hd
  refine ⟨d19, (tab9 a0 a1 a2 a3 a4 a5 a6).map fun q => (Sum.inr q.1, q.2), rfl, by show 9 ≤ 15; decide, ?_⟩
  generalize hkv : mergeK [] ((tab9 a0 a1 a2 a3 a4 a5 a6).map fun q => ((Sum.inr q.1 : Key), q.2)) = kvs
  have E0 : Ex H H19 := fun b o hb => F1 _ _ ((Ex.new (o := .dK []) hd) _ _ (e1 _ _ hb))
  have E20 : Ex H (L2.upd H19 d (.dK kvs)) := E0.mut hd0
  refine eX_ev (v := .str z) (ev_name 0 rfl) fun H21 e21 => ?_
  have d21 := e21 _ _ (upd_same (H := H19) (a := d) (o := .dK kvs))
  have E21 := E20.trans e21
  have val : ∀ v, (tab9 a0 a1 a2 a3 a4 a5 a6).lookup z = some v → valV kvs (Sum.inr z) = some v := fun v h => by
    rw [← hkv]
    exact merge_at z _ _ v h tab9_nd
  have key : ∀ (v : V) (l : Addr) (fs' : List Str), valV kvs (Sum.inr z) = some v → v = .ref l → formsTab.lookup z = some fs' → H1 l = none ∨ l = a0 → H19 l = some (.lst (fs'.map V.str)) → l ≠ d → ∃ d' v', V.ref d = .ref d' ∧ DGet H21 d' (.str z) (some v') ∧ Q v' H21 := fun v l fs' h1 h2 h3 h4 h5 h6 => by
    subst h2
    have hfs : fs' = fs := Option.some.inj (h3.symm.trans hz)
    subst hfs
    have hl0 : H l = none := by
      rcases h4 with h4 | rfl
      · exact fresh_back e1 h4
      · exact h0
    refine ⟨d, .ref l, rfl, ?_, k l H21 E21 hl0 (e21 _ _ (by rw [upd_ne h6]; exact h5))⟩
    have h := DGet.k (k := Sum.inr z) d21
    rw [h1] at h
    exact h
  have nda : ∀ {l : Addr} {o : List V}, H19 l = some (.lst o) → l ≠ d := fun h e => by
    rw [e, d19] at h
    cases h
  have fr : ∀ {l : Addr} {Ha : Hp}, Ex (L2.upd H1 d (.dK [])) Ha → Ha l = none → H1 l = none := fun ea hn => by
    have h1 := fresh_back ea hn
    cases q : H1 _ with
    | none => rfl
    | some o =>
      have := (Ex.new (o := .dK []) hd) _ _ q
      rw [h1] at this
      cases this
  have G1 := F3 _ _ g3
  have G2 := F5 _ _ g5
  have G0 := F1 _ _ ((Ex.new (o := .dK []) hd) _ _ g1)
  have G3 := F13 _ _ g13
  have G4 := F15 _ _ g15
  have G5 := F17 _ _ g17
  have hm := forms_keys.mpr ⟨fs, hz⟩
  have hm : z ∈ (["bears", "firm", "settled", "waits", "pledges", "acts", "frozen", "stays", "value"] : List Str) := hm
  simp only [List.mem_cons, List.not_mem_nil, or_false] at hm
  have T2 := (e2.trans e3).trans e4
  have T4 := ((((((T2.trans e5).trans e6).trans e7).trans e8).trans e9).trans e10).trans e11
  rcases hm with rfl | rfl | rfl | rfl | rfl | rfl | rfl | rfl | rfl
  · exact key (.ref a1) a1 [] (val _ look_hit) rfl (by decide +kernel) (.inl (fr e2 h3)) G1 (nda G1)
  · exact key (.ref a2) a2 ["name", "name"] (val _ (look_miss (by decide +kernel) look_hit)) rfl (by decide +kernel) (.inl (fr T2 h5)) G2 (nda G2)
  · exact key (.ref a0) a0 ["stamp", "stamp", "lot", "hands"] (val _ (look_miss (by decide +kernel) (look_miss (by decide +kernel) look_hit))) rfl (by decide +kernel) (.inr rfl) G0 (nda G0)
  · exact key (.ref a0) a0 ["stamp", "stamp", "lot", "hands"] (val _ (look_miss (by decide +kernel) (look_miss (by decide +kernel) (look_miss (by decide +kernel) look_hit)))) rfl (by decide +kernel) (.inr rfl) G0 (nda G0)
  · exact key (.ref a0) a0 ["stamp", "stamp", "lot", "hands"] (val _ (look_miss (by decide +kernel) (look_miss (by decide +kernel) (look_miss (by decide +kernel) (look_miss (by decide +kernel) look_hit))))) rfl (by decide +kernel) (.inr rfl) G0 (nda G0)
  · exact key (.ref a3) a3 ["stamp", "stamp", "name", "hands"] (val _ (look_miss (by decide +kernel) (look_miss (by decide +kernel) (look_miss (by decide +kernel) (look_miss (by decide +kernel) (look_miss (by decide +kernel) look_hit)))))) rfl (by decide +kernel) (.inl (fr (T4.trans e12) h13)) G3 (nda G3)
  · exact key (.ref a4) a4 ["stamp", "stamp", "number", "hands"] (val _ (look_miss (by decide +kernel) (look_miss (by decide +kernel) (look_miss (by decide +kernel) (look_miss (by decide +kernel) (look_miss (by decide +kernel) (look_miss (by decide +kernel) look_hit))))))) rfl (by decide +kernel) (.inl (fr (((T4.trans e12).trans e13).trans e14) h15)) G4 (nda G4)
  · exact key (.ref a5) a5 ["stamp", "stamp", "hands"] (val _ (look_miss (by decide +kernel) (look_miss (by decide +kernel) (look_miss (by decide +kernel) (look_miss (by decide +kernel) (look_miss (by decide +kernel) (look_miss (by decide +kernel) (look_miss (by decide +kernel) look_hit)))))))) rfl (by decide +kernel) (.inl (fr (((((T4.trans e12).trans e13).trans e14).trans e15).trans e16) h17)) G5 (nda G5)
  · exact key (.ref a6) a6 ["stamp", "stamp", "name", "worth", "hands"] (val _ (look_miss (by decide +kernel) (look_miss (by decide +kernel) (look_miss (by decide +kernel) (look_miss (by decide +kernel) (look_miss (by decide +kernel) (look_miss (by decide +kernel) (look_miss (by decide +kernel) (look_miss (by decide +kernel) look_hit))))))))) rfl (by decide +kernel) (.inl (fr (((((((T4.trans e12).trans e13).trans e14).trans e15).trans e16).trans e17).trans e18) h19)) g19 (nda g19)
end
end K96

set_option Elab.async false
set_option linter.all false
set_option maxRecDepth 100000
set_option maxHeartbeats 4000000
/-! sorted(set(t)); the law's is_of. -/
namespace K96
open PySem PySem.Spec PyProof.Rows L2 Evl RZ
/-- set(t), t a tuple of ints -/
def rSetT (K : Fr) (w : World) : List V → Hp → VK → Prop := fun vs H Q => ∃ (p : Addr) (ns : List Int), vs = [.ref p] ∧ SqT K H p (ns.map V.int) ∧ ns.length ≤ 1000 ∧ ∀ (q : Addr) (c : Nat), c ≤ ns.length → H q = none → Q (.ref q) (L2.upd H q (SetO w q (fun j => decide (j ∈ ns)) c))
theorem cr_setT {X : Cx} (hc : X.calm = true) : CallR X (.type "set") (rSetT X.K X.w) := by
  intro pins s σ H vs us Q I r h
  obtain ⟨p, ns, rfl, hq, hl, q⟩ := h
  obtain ⟨u, rfl, ru⟩ := vals1 r
  cases ru
  obtain ⟨its, rv, pt, hz⟩ := I.tuple hq
  have hi : IntsAre its.toArray.toList ns := ints_of_vals rv
  refine call_set_tupI ns (I.ok.hd hc) (show s.heap.IsTuple p its.toArray from pt) hi (by unfold scanBound; omega) fun h' tk c R1 hcn k => ?_
  have hn : H s.heap.objs.size = none := I.hok.fresh (Nat.le_refl _)
  exact ⟨.ref s.heap.objs.size, _, I.laid (t' := tk) k (Nat.le_refl _) (setO_new R1), rfl, q _ c hcn hn⟩
theorem asc_strict : ∀ (ns : List Int), (ascL ns).all id = true → ns.Pairwise (· < ·)
  | [], _ => .nil
  | [a], _ => .cons (fun _ h => by cases h) .nil
  | a :: b :: r, h => by
    obtain ⟨h1, h2⟩ := Bool.and_eq_true_iff.mp h
    have h1 : a < b := of_decide_eq_true h1
    have ih := asc_strict (b :: r) h2
    refine .cons (fun c hc => ?_) ih
    rcases List.mem_cons.mp hc with rfl | hc
    · exact h1
    · have := List.rel_of_pairwise_cons ih hc
      omega
theorem strict_asc : ∀ (ns : List Int), ns.Pairwise (· < ·) → (ascL ns).all id = true
  | [], _ => rfl
  | [a], _ => rfl
  | a :: b :: r, h => by
    have h1 := List.rel_of_pairwise_cons h List.mem_cons_self
    show (decide (a < b) && (ascL (b :: r)).all id) = true
    rw [decide_eq_true h1, strict_asc (b :: r) (List.Pairwise.of_cons h)]
    rfl
theorem sorted_same : ∀ (ns ms : List Int), ns.Pairwise (· < ·) → ms.Pairwise (· < ·) → (∀ k, k ∈ ns ↔ k ∈ ms) → ns = ms
  | [], [], _, _, _ => rfl
  | [], m :: ms, _, _, h => absurd ((h m).mpr List.mem_cons_self) (by simp)
  | n :: ns, [], _, _, h => absurd ((h n).mp List.mem_cons_self) (by simp)
  | n :: ns, m :: ms, h1, h2, h => by
    have e : n = m := by
      rcases List.mem_cons.mp ((h n).mp List.mem_cons_self) with e | e
      · exact e
      · rcases List.mem_cons.mp ((h m).mpr List.mem_cons_self) with e2 | e2
        · exact e2.symm
        · have a := List.rel_of_pairwise_cons h1 e2
          have b := List.rel_of_pairwise_cons h2 e
          omega
    subst e
    congr 1
    refine sorted_same ns ms (List.Pairwise.of_cons h1) (List.Pairwise.of_cons h2) fun k => ?_
    constructor
    · intro hk
      rcases List.mem_cons.mp ((h k).mp (List.mem_cons_of_mem _ hk)) with e | e
      · have := List.rel_of_pairwise_cons h1 hk
        omega
      · exact e
    · intro hk
      rcases List.mem_cons.mp ((h k).mpr (List.mem_cons_of_mem _ hk)) with e | e
      · have := List.rel_of_pairwise_cons h2 hk
        omega
      · exact e
/-- what a told value is, inside -/
def okI : PyData → Bool
  | .int i => decide (0 - mostV ≤ i) && decide (i ≤ mostV)
  | _ => true
/-- a def that asks of a value and a form -/
def spIsOf (K : Fr) : Sp := fun vs H Q _ => ∃ v d z, vs = [v, .str z] ∧ Ur K H v d ∧ plainD d = true ∧ okI d = true ∧ szD d ≤ 60 ∧ z ∈ (["name", "stamp", "number", "worth", "lot", "hands"] : List Str) ∧ Gives (.bl (formD z d)) H Q
def spIsName (K : Fr) : Sp := fun vs H Q _ => ∃ v d, vs = [v, .str "name"] ∧ Ur K H v d ∧ plainD d = true ∧ Gives (.bl (nameD d)) H Q
theorem plain_mem : ∀ {l : List PyData} {d : PyData}, plainL l = true → d ∈ l → plainD d = true
  | x :: xs, d, h, hm => by
    obtain ⟨h1, h2⟩ := Bool.and_eq_true_iff.mp h
    rcases List.mem_cons.mp hm with rfl | hm
    · exact h1
    · exact plain_mem h2 hm
section
variable {X : Cx} {a b c : Expr} {p pos px : Pos} {σ : Sg} {H : Hp} {Q : VK} {scope : Scope} {i : Nat} {n : Str}
/-- [n for n in t if c] == [], by the data of the items -/
theorem ev_none {iter : Expr} {p2 q2 : Pos} {x : Addr} {xs : List V} {ds : List PyData} (g : PyData → Bool) (hu : X.A.units + 64 < cLine) (hx : EV X iter σ H (.ref x)) (hs : SqT X.K H x xs) (ud : UrAll X.K H xs ds) (hN : X.N.Nodup) (ok : BlkOk X.N X.env.scope scope [(n, i)])
    (hg : ∀ (s : Shared) (H : Hp) (C : Addr) (cl : List (Str × Addr)) (fp : List Addr), PG (blkX X scope s H C cl fp) (.Name n px) (gName i)) (hl : xs.length < 1000000)
    (ht : ∀ (k : Nat) x d, xs[k]? = some x → ds[k]? = some d → ∀ H1, Ex H H1 → Ur X.K H1 x d → ∀ (s : Shared) (H0 : Hp) (C : Addr) (cl : List (Str × Addr)) (fp : List Addr), ET (blkX X scope s H0 C cl fp) c (σ.set i (some x)) H1 (!g d))
    (he : ∀ x, x ∈ xs → ∀ H1, Ex H H1 → ∀ (s : Shared) (H0 : Hp) (C : Addr) (cl : List (Str × Addr)) (fp : List Addr), EV (blkX X scope s H0 C cl fp) (.Name n q2) (σ.set i (some x)) H1 x)
    (hc : X.calm = true := by rfl) (hst : ∀ x, foldedSetIterable iter X.env x = pure x := by intro _; rfl) (hm : behindInMarks .Eq (.List [] p2) = false := by rfl) :
    EV X (.Compare (.ListComp (.Name n q2) [⟨.Name n px, iter, [c], 0⟩] scope p) [.Eq] [.List [] p2] pos) σ H (.bl (ds.all g)) := by
  refine ev_of (pe_cmpR (op_eqNil hu) pe_X pe_X hm) fun H1 e1 Q q => ?_
  have key : ∀ (R : VK), (∀ p ys H2, H1 p = none → Ex H1 H2 → H2 p = some (.lst ys) → decide (ys.length = 0) = ds.all g → R (.ref p) H2) → eX X (.ListComp (.Name n q2) [⟨.Name n px, iter, [c], 0⟩] scope p) σ H1 R := fun R q => by
    obtain ⟨wi, hpi, hw⟩ := (its_t (n := n) (px := px) hx hs).ex
    refine eX_of (pe_lc (own := [(n, i)]) (tt := tB2 X scope c) (te := eB X scope (.Name n q2)) (g := gName i) hc hN hpi ok hg (fun s H C cl fp => pts_one ⟨fun pins s1 σ1 H2 Q1 I h => h s H C cl fp pins s1 I⟩) (fun s H C cl fp => ⟨fun pins s1 σ1 H2 Q1 I h => h s H C cl fp pins s1 I⟩) hst) ?_
    refine hw H1 e1 _ fun J H2 G e2 g2 gm W Dl hD => ?_
    have hw1 : ∀ x : V, wipe ((wipe σ [i]).set i (some x)) [i] = wipe σ [i] := fun x => by
      show ((σ.set i none).set i (some x)).set i none = σ.set i none
      rw [List.set_set, List.set_set]
    have hw2 : ∀ x : V, (wipe σ [i]).set i (some x) = σ.set i (some x) := fun x => by
      show (σ.set i none).set i (some x) = σ.set i (some x)
      rw [List.set_set]
    refine lc_it W (fun k H' => H2 Dl = none ∧ Ex H2 H' ∧ k ≤ xs.length ∧ ∃ ys, H' Dl = some (.lst ys) ∧ ys.length ≤ k ∧ decide (ys.length = 0) = (ds.take k).all g) ⟨hD, Ex.new hD, Nat.zero_le _, [], upd_same, Nat.le_refl _, rfl⟩ (fun k H' hk pv => gm _ _ pv.2.1 g2) (fun k x H3 H4 hk pv y => ?_) fun H' pv => ?_
    · obtain ⟨rfl, hx⟩ := y
      obtain ⟨p1, p2, p3, ys, p4, p5, p6⟩ := pv
      have hm := List.mem_of_getElem? hx
      obtain ⟨d, hd, ux⟩ := ud.at hx
      have hta : (ds.take (k + 1)).all g = ((ds.take k).all g && g d) := by
        rw [List.take_add_one, hd, List.all_append]
        show (_ && (g d && true)) = _
        rw [Bool.and_true]
      show wipe ((wipe σ [i]).set i (some x)) [i] = wipe σ [i] ∧ tB2 X scope c ((wipe σ [i]).set i (some x)) _ _
      refine ⟨hw1 x, fun s H0 C cl fp => ?_⟩
      rw [hw2 x]
      have E3 := e1.trans (e2.trans p2)
      refine ht k x d hx hd _ E3 (ux.ext E3) s H0 C cl fp _ (Ex.refl _) _ fun H5 e5 => ?_
      by_cases q : g d = true
      · rw [q]
        refine iteF ⟨p1, p2.trans e5, hk, ys, e5 _ _ p4, by omega, ?_⟩
        rw [hta, q, Bool.and_true]
        exact p6
      · have q : g d = false := by simpa using q
        rw [q]
        refine iteT ?_
        intro s' H0' C' cl' fp'
        show eX (blkX X scope s' H0' C' cl' fp') (.Name n q2) ((wipe σ [i]).set i (some x)) _ _
        rw [hw2 x]
        refine he x hm _ (E3.trans e5) s' H0' C' cl' fp' _ (Ex.refl _) _ fun H6 e6 => ⟨ys, e6 _ _ (e5 _ _ p4), Nat.lt_of_lt_of_le (by omega : ys.length < 1000000) (by decide), p1, Ex.mut ((p2.trans e5).trans e6) p1, hk, ys ++ [x], upd_same, by simp; omega, ?_⟩
        rw [hta, q, Bool.and_false]
        exact decide_eq_false (by simp)
    · obtain ⟨p1, p2, p3, ys, p4, p5, p6⟩ := pv
      rw [ud.len, List.take_length] at p6
      exact q Dl ys H' (fresh_back e2 p1) (e2.trans p2) p4 p6
  refine key _ fun p ys H2 hp e2 hy hlen => ?_
  refine evl_lst ea_nil (Nat.zero_le _) H2 (e1.trans e2) _ fun p' H3 _ e3 hp' => ⟨p, p', ys, [], rfl, rfl, sq_of (e3 _ _ hy), sq_of hp', .inr rfl, ?_⟩
  have hlen : decide (ys.length = ([] : List V).length) = ds.all g := hlen
  rw [hlen]
  exact q H3 (e2.trans e3)
end
theorem tagInt {d : PyData} (h : plainD d = true) : isK (tagD d) "int" = (tagD d == "int") := by
  cases d with
  | none => show isK "NoneType" "int" = ("NoneType" == "int"); decide
  | bool b => cases h
  | int i => show isK "int" "int" = ("int" == "int"); decide
  | str x => show isK "str" "int" = ("str" == "int"); decide
  | list x => cases h
  | tuple x => show isK "tuple" "int" = ("tuple" == "int"); decide
  | dict x => cases h
theorem tagStr {d : PyData} (h : plainD d = true) : isK (tagD d) "str" = (match d with | .str _ => true | _ => false) := by
  cases d with
  | none => show isK "NoneType" "str" = false; decide
  | bool b => cases h
  | int i => show isK "int" "str" = false; decide
  | str x => show isK "str" "str" = true; decide
  | list x => cases h
  | tuple x => show isK "tuple" "str" = false; decide
  | dict x => cases h
mutual
theorem Ur.dp {K : Fr} {H : Hp} : ∀ {v : V} {d : PyData}, plainD d = true → Ur K H v d → Dp K H v d
  | _, _, _, .non => .non
  | _, _, _, .bl b => .bl b
  | _, _, _, .int i => .int i
  | _, _, _, .str x h => .str x
  | _, _, p, .lst h a => absurd p (by intro z; cases z)
  | _, _, p, .tup h a => .tup h (UrAll.dp p a)
  | _, _, p, .emp h => absurd p (by intro z; cases z)
  | _, _, p, .obj h q v => absurd p (by intro z; cases z)
theorem UrAll.dp {K : Fr} {H : Hp} : ∀ {vs : List V} {ds : List PyData}, plainL ds = true → UrAll K H vs ds → DpAll K H vs ds
  | _, _, _, .nil => .nil
  | _, _, p, .cons h a => .cons (Ur.dp (Bool.and_eq_true_iff.mp p).1 h) (UrAll.dp (Bool.and_eq_true_iff.mp p).2 a)
end
theorem dp_ints {K : Fr} {H : Hp} : ∀ ns : List Int, DpAll K H (ns.map V.int) (ns.map PyData.int)
  | [] => .nil
  | n :: ns => .cons (.int n) (dp_ints ns)
theorem shaped_ints (ns : List Int) : SeqAt.shaped (.list (ns.map PyData.int)) = true := by
  have h1 : ∀ ns : List Int, PyData.canLayAll0 (ns.map PyData.int) = true := by
    intro ns
    induction ns with
    | nil => rw [List.map_nil, PyData.canLayAll0]
    | cons n ns ih => rw [List.map_cons, PyData.canLayAll0, ih, PyData.canLay0]; rfl
  have h2 : ∀ ns : List Int, PyData.depthAll (ns.map PyData.int) = 0 := by
    intro ns
    induction ns with
    | nil => rw [List.map_nil, PyData.depthAll]
    | cons n ns ih => rw [List.map_cons, PyData.depthAll, ih, PyData.depth]; rfl
  unfold SeqAt.shaped
  rw [PyData.canLay0, h1, PyData.depth, h2]
  rfl
theorem eqv_ints : ∀ ns ms : List Int, PyData.eqvAll (ns.map PyData.int) (ms.map PyData.int) = decide (ns = ms)
  | [], [] => by rw [List.map_nil, PyData.eqvAll]; rfl
  | [], m :: ms => by rw [List.map_nil, List.map_cons, PyData.eqvAll]; rfl
  | n :: ns, [] => by rw [List.map_nil, List.map_cons, PyData.eqvAll]; rfl
  | n :: ns, m :: ms => by
    rw [List.map_cons, List.map_cons, PyData.eqvAll, eqv_ints ns ms, PyData.eqv]
    by_cases h1 : n = m
    · subst h1
      by_cases h2 : ns = ms
      · subst h2
        simp
      · simp [h2]
    · simp [h1]
section
variable {P : Program} {w : World} {K : Fr} {mg : Str → Option Value} {base : Heap}
theorem ok_is_of_name (T : Txt K mg) (cn : Cl P w K mg base CX0 1 "_law_is_name" (spStr isName)) (D : Df K mg d_law_is_of) : Cl P w K mg base CX0 2 "_law_is_of" (spIsName K) := by
  refine D.cl sc_law_is_of (fun vs H Q E h => ?_) (fun _ _ _ _ _ _ us hl => match us, hl with | [_, _], _ => rfl) fun f cdv Ar outer s H vs Q E hr h => ⟨_, pb_X, ?_⟩
  · obtain ⟨v, d, rfl, _⟩ := h
    rfl
  obtain ⟨v, d, rfl, hu, hp, k⟩ := h
  refine b_cons (s_if (k := decide (V.str "name" = V.str "name")) (et_cmp op_eq (ev_name 1 rfl) ev_str (rv_eq rfl)) (fun _ H1 e1 => ?_) fun hb => absurd hb (by decide +kernel))
  have e : nameD d = (isK (tagD d) "str" && nameD d) := by
    rw [tagStr hp]
    cases d <;> rfl
  rw [e] at k
  refine b_one (s_ret (ev_and (ev_isi (m := "str") (T.f "isinstance") (T.f "str") (ev_name 0 rfl) (hu.vt.mono e1) (by decide)) fun hk => ev_one ?_) fun H2 e2 => k H2 (e1.trans e2))
  rw [tagStr hp] at hk
  cases hu with
  | str x hx => exact ev_call cn hr (by decide) pass0 (ea_cons (ev_name 0 rfl) ea_nil) fun H1 _ Q q => ⟨x, rfl, hx, q⟩
  | _ => cases hk
theorem ok_is_of (T : Txt K mg) (cn : Cl P w K mg base CX0 1 "_law_is_name" (spStr isName)) (ci : Cl P w K mg base CX0 2 "_law_is_of" (spIsName K)) (D : Df K mg d_law_is_of) : Cl P w K mg base CX0 3 "_law_is_of" (spIsOf K) := by
  refine D.cl sc_law_is_of (fun vs H Q E h => ?_) (fun _ _ _ _ _ _ us hl => match us, hl with | [_, _], _ => rfl) fun f cdv Ar outer s H vs Q E hr h => ⟨_, pb_X, ?_⟩
  · obtain ⟨v, d, z, rfl, _⟩ := h
    rfl
  obtain ⟨v, d, z, rfl, hu, hp, ho, hsz, hzm, k⟩ := h
  have nd := sc_law_is_of.nd
  unfold formD at k
  -- name
  refine b_cons (s_if (k := decide (V.str z = V.str "name")) (et_cmp op_eq (ev_name 1 rfl) ev_str (rv_eq rfl)) (fun hb H1 e1 => ?_) fun hb H1 e1 => b_nil ?_)
  · rw [if_pos (V.str.inj (of_decide_eq_true hb))] at k
    have e : nameD d = (isK (tagD d) "str" && nameD d) := by
      rw [tagStr hp]
      cases d <;> rfl
    rw [e] at k
    refine b_one (s_ret (ev_and (ev_isi (m := "str") (T.f "isinstance") (T.f "str") (ev_name 0 rfl) (hu.vt.mono e1) (by decide)) fun hk => ev_one ?_) fun H2 e2 => k H2 (e1.trans e2))
    rw [tagStr hp] at hk
    cases hu with
    | str x hx => exact ev_call cn hr (by decide) pass0 (ea_cons (ev_name 0 rfl) ea_nil) fun H1 _ Q q => ⟨x, rfl, hx, q⟩
    | _ => cases hk
  have n1 : z ≠ "name" := fun e => of_decide_eq_false hb (congrArg V.str e)
  rw [if_neg n1] at k
  -- number, worth
  refine b_cons (s_if (k := inV (.str z) ((["number", "worth"] : List Str).map V.str)) (et_inT (ev_name 1 rfl) (evu_tup (ea_cons ev_str (ea_cons ev_str ea_nil)) (by show 2 ≤ 100000; decide)) rfl rfl) (fun hb2 H2 e2 => ?_) fun hb2 H2 e2 => b_nil ?_)
  · have E2 := e1.trans e2
    rw [inV_strs] at hb2
    have hm := of_decide_eq_true hb2
    have e : (if z = "stamp" then stampD d else if z = "number" then tagD d == "int" else if z = "worth" then valD d else if z = "lot" then lotD d else handsD d) = (isK (tagD d) "int" || (decide (V.str z = V.str "worth") && decide (v = .non))) := by
      simp only [List.mem_cons, List.not_mem_nil, or_false] at hm
      rw [tagInt hp]
      rcases hm with rfl | rfl
      · rw [if_neg (by decide +kernel), if_pos rfl, decide_eq_false (by decide +kernel), Bool.false_and, Bool.or_false]
      · rw [if_neg (by decide +kernel), if_neg (by decide +kernel), if_pos rfl, decide_eq_true rfl, Bool.true_and]
        cases hu with
        | non => rfl
        | int i => exact ho
        | str x hx => rfl
        | tup _ _ => rfl
        | bl b => cases hp
        | lst _ _ => cases hp
        | emp _ => cases hp
        | obj _ _ _ => cases hp
    rw [e] at k
    exact b_one (s_ret (ev_or (ev_isi (m := "int") (T.f "isinstance") (T.f "int") (ev_name 0 rfl) (hu.vt.mono E2) (by decide)) fun _ => ev_one (ev_and (ev_cmp op_eq (ev_name 1 rfl) ev_str (rv_eq rfl)) fun _ => ev_one (ev_cmp op_isN (ev_name 0 rfl) ev_non fun H1 _ Q q => ⟨rfl, q H1 (Ex.refl H1)⟩))) fun H3 e3 => k H3 (E2.trans e3))
  have E2 := e1.trans e2
  rw [inV_strs] at hb2
  have hm := of_decide_eq_false hb2
  simp only [List.mem_cons, List.not_mem_nil, or_false, not_or] at hm
  obtain ⟨n3, n4⟩ := hm
  rw [if_neg n3, if_neg n4] at k
  -- if not isinstance(value, tuple): return False
  refine b_cons (s_if (k := !(isTupD d)) (et_not (et_val (ev_is (ev_isi (m := "tuple") (T.f "isinstance") (T.f "tuple") (ev_name 0 rfl) (hu.vt.mono E2) (by decide)) (by rw [tupK])))) (fun hb3 H3 e3 => ?_) fun hb3 H3 e3 => b_nil ?_)
  · have ht : isTupD d = false := by simpa using hb3
    have e : (if z = "stamp" then stampD d else if z = "lot" then lotD d else handsD d) = false := by
      cases d with
      | tuple x => cases ht
      | _ =>
        split
        · rfl
        · split <;> rfl
    rw [e] at k
    exact b_one (s_ret ev_bl fun H4 e4 => k H4 ((E2.trans e3).trans e4))
  have ht : isTupD d = true := by simpa using hb3
  have E3 := E2.trans e3
  obtain ⟨a, xs, ds, rfl, hx, hall, rfl⟩ : ∃ a xs ds, v = .ref a ∧ SqT K H a xs ∧ UrAll K H xs ds ∧ d = .tuple ds := by
    cases hu with
    | tup h ua => exact ⟨_, _, _, rfl, h, ua, rfl⟩
    | _ => cases ht
  have hl := hall.len
  have hdl := szL_len ds
  have hzz : 1 + szL ds ≤ 60 := hsz
  have pl : plainL ds = true := hp
  -- stamp
  refine b_cons (s_if (k := decide (V.str z = V.str "stamp")) (et_cmp op_eq (ev_name 1 rfl) ev_str (rv_eq rfl)) (fun hb4 H4 e4 => ?_) fun hb4 H4 e4 => b_nil ?_)
  · rw [if_pos (V.str.inj (of_decide_eq_true hb4))] at k
    have E4 := E3.trans e4
    have hx4 := ex_t E4 hx
    by_cases h2 : ds.length = 2
    · obtain ⟨da, db, rfl⟩ : ∃ da db, ds = [da, db] := by
        match ds, h2 with
        | [da, db], _ => exact ⟨da, db, rfl⟩
      obtain ⟨x, y, rfl, ux, uy⟩ := hall.two
      obtain ⟨pa, pb⟩ := Bool.and_eq_true_iff.mp pl
      have pb : plainD db = true := (Bool.and_eq_true_iff.mp pb).1
      have e : stampD (.tuple [da, db]) = (decide (V.int (([x, y] : List V).length : Nat) = V.int 2) && (isK (tagD da) "int" && (oneUp da && nameD db))) := by
        rw [tagInt pa]
        cases da with
        | int i => rfl
        | none => rfl
        | str s => rfl
        | tuple l => rfl
        | bool b => cases pa
        | list l => cases pa
        | dict l => cases pa
      rw [e] at k
      refine b_one (s_ret (ev_and (ev_cmp op_eq (ev_lenL (T.f "len") (ev_name 0 rfl) (.inr hx4)) ev_int (rv_eq rfl)) fun _ => ev_and (ev_isi (m := "int") (T.f "isinstance") (T.f "int") (ev_ixT (i := ((0 : Nat) : Int)) (ev_name 0 rfl) ev_int hx4 rfl) (ux.vt.mono E4) (by decide)) fun hk => ev_and (k := oneUp da) ?_ fun _ => ev_one (ev_call ci hr (by decide) pass0 (ea_cons (ev_ixT (v := y) (i := ((1 : Nat) : Int)) (ev_name 0 rfl) ev_int hx4 rfl) (ea_cons ev_str ea_nil)) fun H5 e5 Q q => ⟨y, db, rfl, uy.ext (E4.trans e5), pb, q⟩)) fun H5 e5 => k H5 (E4.trans e5))
      rw [tagInt pa] at hk
      cases ux with
      | int i =>
        have : oneUp (.int i) = decide (0 < i) := by
          show decide (1 ≤ i) = decide (0 < i)
          exact decide_eq_decide.mpr (by omega)
        rw [this]
        exact ev_cmp op_gt (ev_ixT (i := ((0 : Nat) : Int)) (ev_name 0 rfl) ev_int hx4 rfl) ev_int rv_I0
      | _ => cases hk
    · have e : stampD (.tuple ds) = (decide (V.int (xs.length : Nat) = V.int 2) && false) := by
        rw [Bool.and_false]
        match ds, h2 with
        | [], _ => rfl
        | [_], _ => rfl
        | [_, _], h => exact absurd rfl h
        | _ :: _ :: _ :: _, _ => rfl
      rw [e] at k
      refine b_one (s_ret (ev_and (ev_cmp op_eq (ev_lenL (T.f "len") (ev_name 0 rfl) (.inr hx4)) ev_int (rv_eq rfl)) fun hk => ?_) fun H5 e5 => k H5 (E4.trans e5))
      exfalso
      have := V.int.inj (of_decide_eq_true hk)
      omega
  have n2 : z ≠ "stamp" := fun e => of_decide_eq_false hb4 (congrArg V.str e)
  rw [if_neg n2] at k
  have E4 := E3.trans e4
  -- lot
  refine b_cons (s_if (k := decide (V.str z = V.str "lot")) (et_cmp op_eq (ev_name 1 rfl) ev_str (rv_eq rfl)) (fun hb5 H5 e5 => ?_) fun hb5 H5 e5 => b_nil ?_)
  · rw [if_pos (V.str.inj (of_decide_eq_true hb5))] at k
    have E5 := E4.trans e5
    have hx5 := ex_t E5 hx
    have hall5 := hall.ext E5
    have ai : ds.all (fun d => tagD d == "int") = (intsD ds).isSome := by rw [← all_int, all_map_id]
    have e : lotD (.tuple ds) = (ds.all (fun d => tagD d == "int") && (match intsD ds with | some ns => (ascL ns).all id | none => false)) := by
      rw [ai]
      show (match intsD ds with | some ns => (ascL ns).all id | none => false) = _
      cases intsD ds <;> rfl
    rw [e] at k
    refine b_one (s_ret (ev_and (k := ds.all (fun d => tagD d == "int")) (ev_none (i := 2) (fun d => tagD d == "int") hr.units (ev_name 0 rfl) hx5 hall5 nd (blkOk_by (N := ["value", "form", "one"]) (sc := defScope s_law_is_of) (by decide +kernel)) (fun _ _ _ _ _ => pg_name nd rfl (Or.inl rfl)) (by omega) (fun j x dj hj hdj H6 e6 uj s2 H0 C cl fp => ?_) fun x hx6 H6 e6 s2 H0 C cl fp => ev_name 2 rfl) fun hk => ev_one ?_) fun H6 e6 => k H6 (E5.trans e6))
    · have pj := plain_mem pl (List.mem_of_getElem? hdj)
      rw [← tagInt pj]
      exact et_not (et_val (ev_isi (m := "int") (T.f "isinstance") (T.f "int") (ev_name 2 rfl) uj.vt (by decide)))
    · rw [ai] at hk
      obtain ⟨ns, hns⟩ := Option.isSome_iff_exists.mp hk
      rw [hns]
      obtain ⟨ex, hln⟩ := hall.ints hns
      have hx5' : SqT K H5 a (ns.map V.int) := by
        rw [← ex]
        exact hx5
      refine ev_of (pe_cmpR (op_eqD hr.units) pe_X pe_X rfl) fun H6 e6 Q q => ?_
      refine (show eX _ _ _ _ _ from eX_evl (evl_list (T.f "list") (ev_name 0 rfl) (.inr (ex_t e6 hx5'))) fun p1 H7 hp1 e7 g7 => ?_)
      refine (show eX _ _ _ _ _ from eX_of (pe_callB (cr_sortedSet rfl) rfl (T.f "sorted") (by decide +kernel) (pa_cons pe_X pa_nil) (by decide) (by decide)) ?_)
      refine (show eX _ _ _ _ _ from eX_of (pe_callTy (cr_setT rfl) rfl (T.f "set") (by decide +kernel) (pa_cons pe_X pa_nil) (by decide) (by decide)) ?_)
      refine (show eX _ _ _ _ _ from eX_ev (v := .ref a) (ev_name 0 rfl) fun H8 e8 => ⟨a, ns, rfl, ex_t ((e6.trans e7).trans e8) hx5', by omega, fun q2 c hc hq2 => ⟨q2, _, c, rfl, upd_same, by omega, fun ms p3 m1 m2 m3 hp3 => ?_⟩⟩)
      have g3 : L2.upd (L2.upd H8 q2 (SetO w q2 (fun j => decide (j ∈ ns)) c)) p3 (.lst (ms.map V.int)) p1 = some (.lst (ns.map V.int)) := (Ex.new hp3) _ _ ((Ex.new hq2) _ _ (e8 _ _ g7))
      refine ⟨.list (ns.map .int), .list (ms.map .int), .lst (sq_of g3) (dp_ints ns), .lst (sq_of upd_same) (dp_ints ms), shaped_ints ns, shaped_ints ms, ?_⟩
      have e9 : PyData.eqv (.list (ns.map .int)) (.list (ms.map .int)) = (ascL ns).all id := by
        rw [PyData.eqv, eqv_ints]
        have m2' : ∀ k, k ∈ ms ↔ k ∈ ns := fun k => (m2 k).trans (by simp)
        by_cases hs : (ascL ns).all id = true
        · rw [hs]
          exact decide_eq_true (sorted_same ns ms (asc_strict ns hs) m1 fun k => (m2' k).symm)
        · have hs2 : (ascL ns).all id = false := by simpa using hs
          rw [hs2]
          exact decide_eq_false fun e => hs (by rw [e]; exact strict_asc ms m1)
      rw [e9]
      exact q _ ((e7.trans e8).trans ((Ex.new hq2).trans (Ex.new hp3)))
  have n5 : z ≠ "lot" := fun e => of_decide_eq_false hb5 (congrArg V.str e)
  rw [if_neg n5] at k
  -- hands
  have E5 := E4.trans e5
  have hx5 := ex_t E5 hx
  have hall5 := hall.ext E5
  have e : handsD (.tuple ds) = (ds.all nameD && (match strsD ds with
      | some zs => decide (V.int (many1 zs : Nat) = V.int (zs.length : Nat))
      | none => false)) := rfl
  rw [e] at k
  refine b_one (s_ret (ev_and (k := ds.all nameD) (ev_none (i := 2) nameD hr.units (ev_name 0 rfl) hx5 hall5 nd (blkOk_by (N := ["value", "form", "one"]) (sc := defScope s_law_is_of) (by decide +kernel)) (fun _ _ _ _ _ => pg_name nd rfl (Or.inl rfl)) (by omega) (fun j x dj hj hdj H6 e6 uj s2 H0 C cl fp => ?_) fun x hx6 H6 e6 s2 H0 C cl fp => ev_name 2 rfl) fun hs => ev_one ?_) fun H6 e6 => k H6 (E5.trans e6))
  · have pj := plain_mem pl (List.mem_of_getElem? hdj)
    exact et_not (et_val (ev_call ci hr (by decide) pass0 (ea_cons (ev_name 2 rfl) (ea_cons ev_str ea_nil)) fun H7 e7 Q q => ⟨x, dj, rfl, uj.ext e7, pj, q⟩))
  · obtain ⟨zs, hzs⟩ := strs_of_names ds hs
    obtain ⟨ex, ez⟩ := hall5.strs hzs
    rw [hzs]
    subst ex
    refine ev_cmp op_eq (x := .int (many1 zs : Nat)) (y := .int (zs.length : Nat)) (ev_of (pe_lenSetT rfl rfl (T.f "len") rfl (T.f "set") pe_X) fun H6 e6 Q q => (show eX _ _ _ _ _ from eX_ev (ev_name 0 rfl) fun H7 e7 => ⟨a, zs, rfl, ex_t (e6.trans e7) hx5, by omega, q H7 e7⟩)) (ev_is (ev_lenL (T.f "len") (ev_name 0 rfl) (.inr hx5)) (by rw [List.length_map])) (rv_eq rfl)
end
end K96

set_option Elab.async false
set_option linter.all false
set_option maxRecDepth 100000
set_option maxHeartbeats 4000000
/-! What is told can be told again; the law's question_due. -/
namespace K96
open PySem PySem.Spec PyProof.Rows L2 Evl RZ
theorem digits_lt : ∀ (cs : List Nat) (a : Nat), NumText.AllDigits cs → cs.foldl (fun acc c => acc * 10 + (c - 48)) a < (a + 1) * 10 ^ cs.length
  | [], a, _ => by simp
  | c :: cs, a, h => by
    have h1 := h c List.mem_cons_self
    have ih := digits_lt cs (a * 10 + (c - 48)) fun d hd => h d (List.mem_cons_of_mem _ hd)
    have h2 : (a * 10 + (c - 48) + 1) * 10 ^ cs.length ≤ ((a + 1) * 10) * 10 ^ cs.length := Nat.mul_le_mul_right _ (by omega)
    have h3 : ((a + 1) * 10) * 10 ^ cs.length = (a + 1) * 10 ^ (c :: cs).length := by
      rw [List.length_cons, Nat.pow_succ, Nat.mul_assoc, Nat.mul_comm 10]
    show cs.foldl _ (a * 10 + (c - 48)) < _
    omega
theorem digits_small {cs : List Nat} (h : NumText.AllDigits cs) (hl : cs.length ≤ 12) : NumText.digitsVal cs ≤ 999999999999 := by
  have h1 := digits_lt cs 0 h
  have h2 : 10 ^ cs.length ≤ 10 ^ 12 := Nat.pow_le_pow_right (by decide) hl
  have h3 : (10 : Nat) ^ 12 = 1000000000000 := by decide
  unfold NumText.digitsVal
  omega
theorem len_list (z : Str) : z.length = z.cps.toList.length := (Array.length_toList).symm
/-- an integer's word -/
theorem signed_is {z : Str} {n : Int} (h : signed z = some n) : (∃ cs : List Nat, z.cps.toList = cs ∧ NumText.AllDigits cs ∧ cs ≠ [] ∧ cs.length ≤ 12 ∧ n = (NumText.digitsVal cs : Nat) ∧ (cs = [48] ∨ cs.head? ≠ some 48)) ∨
    ∃ cs : List Nat, z.cps.toList = 45 :: cs ∧ NumText.AllDigits cs ∧ cs ≠ [] ∧ cs.length ≤ 12 ∧ n = -((NumText.digitsVal cs : Nat) : Int) ∧ cs.head? ≠ some 48 := by
  unfold signed at h
  by_cases hb : (decide (V.str z = V.str "-0") || !isDg (unsigned z)) = true
  · rw [if_pos hb] at h
    cases h
  · have hb : (decide (V.str z = V.str "-0") || !isDg (unsigned z)) = false := by simpa using hb
    rw [if_neg (by rw [hb]; decide)] at h
    obtain ⟨hb1, hb2⟩ := Bool.or_eq_false_iff.mp hb
    have h2 : isDg (unsigned z) = true := by simpa using hb2
    have lead : ∀ {y : Str}, isDg y = true → y.cps.toList = [48] ∨ y.cps.toList.head? ≠ some 48 := fun {y} hy => by
      have hz := (Bool.and_eq_true_iff.mp hy).2
      unfold zeroV at hz
      rcases Bool.or_eq_true_iff.mp hz with e | e
      · left
        have := V.str.inj (of_decide_eq_true e)
        rw [this]
        decide +kernel
      · right
        intro e2
        have e3 : ¬ V.str ⟨#[y.cps.getD 0 0]⟩ = V.str "0" := by simpa using e
        apply e3
        have : y.cps.getD 0 0 = 48 := by
          have h0 : y.cps[0]? = some 48 := by rw [← Array.getElem?_toList, ← List.head?_eq_getElem?]; exact e2
          simp [Array.getD_eq_getD_getElem?, h0]
        rw [this]
        have : (⟨#[48]⟩ : Str) = "0" := by decide +kernel
        rw [this]
    by_cases q : V.str (head1 z) = V.str "-"
    · right
      have e : unsigned z = tail1 z := if_pos (decide_eq_true q)
      rw [e] at h2
      obtain ⟨a1, a2, a3⟩ := dg_all h2
      have hz := head_minus q
      have hl : z.length = (tail1 z).length + 1 := by rw [len_list, len_list, hz]; rfl
      have e2 := intText_neg hz a1 a2 (by omega)
      rw [e2] at h
      refine ⟨_, hz, a1, a2, by rw [← len_list]; exact a3, (Option.some.inj h).symm, ?_⟩
      rcases lead h2 with e3 | e3
      · exfalso
        have : z = "-0" := by
          have h3 : z.cps.toList = [45, 48] := by rw [hz, e3]
          have h4 : ("-0" : Str).cps.toList = [45, 48] := by decide +kernel
          have h5 : z.cps = ("-0" : Str).cps := Array.ext' (h3.trans h4.symm)
          cases z
          exact congrArg Str.mk h5
        exact of_decide_eq_false hb1 (congrArg V.str this)
      · exact e3
    · left
      have e : unsigned z = z := if_neg (fun w => q (of_decide_eq_true w))
      rw [e] at h2
      obtain ⟨a1, a2, a3⟩ := dg_all h2
      have e2 := intText_digits a1 a2 (by omega)
      rw [e2] at h
      exact ⟨_, rfl, a1, a2, by rw [← len_list]; exact a3, (Option.some.inj h).symm, lead h2⟩
theorem mostV_is : mostV = 999999999999 := rfl
theorem single_told {z : Str} {x : PyData} (h : singleW z = some x) : singleD x = true := by
  unfold singleW at h
  split at h
  · cases h
    rfl
  · split at h
    · split at h
      · rename_i hm
        cases h
        exact hm
      · cases h
    · obtain ⟨n, hn, rfl⟩ := Option.map_eq_some_iff.mp h
      show (decide (0 - mostV ≤ n) && decide (n ≤ mostV)) = true
      rw [mostV_is, Bool.and_eq_true, decide_eq_true_eq, decide_eq_true_eq]
      rcases signed_is hn with ⟨cs, _, a, _, l, rfl, _⟩ | ⟨cs, _, a, _, l, rfl, _⟩
      · have := digits_small a l
        omega
      · have := digits_small a l
        omega
/-- the open lists, the last one first, can be told -/
def toldS : List (List PyData) → Bool
  | [] => true
  | ds :: rest => ds.all (toldAt (9 - rest.length)) && toldS rest
theorem told_again (ws : List Str) : ∀ (n i : Nat) (st : List (List PyData)) (x : PyData) (j : Nat), st.length ≤ 10 → toldS st = true → toldGo ws n i st = .inr (x, j) → toldAt 10 x = true
  | 0, i, st, x, j, _, _, h => by cases h
  | n + 1, i, st, x, j, hs, hd, h => by
    unfold toldGo at h
    split at h
    · split at h
      · cases h
      · rename_i h10
        have h10 : ¬ st.length = 10 := fun e => h10 (decide_eq_true e)
        exact told_again ws n (i + 1) ([] :: st) x j (by show st.length + 1 ≤ 10; omega) (by show (([] : List PyData).all _ && toldS st) = true; rw [hd]; rfl) h
    · have fin : ∀ (y : PyData) (st' : List (List PyData)), st'.length ≤ 10 → toldS st' = true → toldAt (10 - st'.length) y = true → fin2 (toldGo ws n) y (i + 1) st' = .inr (x, j) → toldAt 10 x = true := fun y st' hs' hd' hy hf => by
        cases st' with
        | nil =>
          cases hf
          exact hy
        | cons top rest =>
          obtain ⟨p1, p2⟩ := Bool.and_eq_true_iff.mp hd'
          have hl : rest.length + 1 ≤ 10 := hs'
          have hy' : toldAt (9 - rest.length) y = true := by
            have : 10 - (rest.length + 1) = 9 - rest.length := by omega
            rw [← this]
            exact hy
          refine told_again ws n (i + 1) ((top ++ [y]) :: rest) x j hs' ?_ hf
          show ((top ++ [y]).all (toldAt (9 - rest.length)) && toldS rest) = true
          rw [List.all_append, p1, p2]
          show ((true && (toldAt (9 - rest.length) y && true)) && true) = true
          rw [hy']
          rfl
      split at h
      · rename_i hc
        obtain ⟨c1, c2⟩ := Bool.and_eq_true_iff.mp hc
        cases st with
        | nil => cases c1
        | cons top rest =>
          obtain ⟨p1, p2⟩ := Bool.and_eq_true_iff.mp hd
          have hl : rest.length + 1 ≤ 10 := hs
          refine fin (.tuple top) rest (by omega) p2 ?_ h
          have : 10 - rest.length = (9 - rest.length) + 1 := by omega
          rw [this]
          exact p1
      · cases hb : (ws[i]?).bind singleW with
        | none => rw [hb] at h; cases h
        | some y =>
          rw [hb] at h
          cases hw : ws[i]? with
          | none => rw [hw] at hb; cases hb
          | some z =>
            rw [hw] at hb
            exact fin y st hs hd (told_single (single_told hb) _) h
theorem okI_told {n : Nat} {d : PyData} (h : toldAt n d = true) : okI d = true := by
  cases d with
  | int i => cases n <;> exact h
  | _ => rfl
def qDue (ws : List Str) : Nat ⊕ (Str × List PyData) := dueOf ws (questGo ws 0)
def spQDue (K : Fr) : Sp := fun vs H Q _ => ∃ (a : Addr) (ws : List Str), vs = [.ref a] ∧ SqL K H a (ws.map V.str) ∧ 0 < ws.length ∧ ws.length ≤ 59 ∧ (∀ z ∈ ws, z.length ≤ 100000) ∧
  (∀ z ds, qDue ws = .inr (z, ds) → ∀ p q us H', H p = none → Ex H H' → H' p = some (.lst [.ref q]) → SqT K H' q us → UrAll K H' us (.str z :: ds) → plainL ds = true → Q (.ref p) H') ∧ (∀ j : Nat, qDue ws = .inl j → Gives (.int j) H Q)
theorem asks_keys : asksL = formsTab.map (·.1) := by decide +kernel
theorem forms_in {z : Str} {fs : List Str} (h : formsTab.lookup z = some fs) : ∀ f ∈ fs, f ∈ (["name", "stamp", "number", "worth", "lot", "hands"] : List Str) := by
  have key : ∀ q ∈ formsTab, ∀ f ∈ q.2, f ∈ (["name", "stamp", "number", "worth", "lot", "hands"] : List Str) := by decide +kernel
  exact key _ (PySem.mem_of_lookup h)
/-- the state at a turn -/
def WQD (K : Fr) (ws : List Str) (R : Nat ⊕ (List PyData × Nat)) (fs : List Str) (a lf fl : Addr) (z : Str) (H : Hp) (k : Nat) (σ' : Sg) (H' : Hp) : Prop :=
  ∃ j ds vs o3 o4, σ' = [some (.ref a), some (.ref lf), some (.int (j : Nat)), o3, o4] ∧ qN ws (fs.drop k) j ds = R ∧ j ≤ ws.length ∧ Ex H H' ∧ H' lf = some (.lst (.str z :: vs)) ∧ H' fl = some (.lst (fs.map V.str)) ∧ UrAll K H' vs ds ∧ plainL ds = true ∧ ds.length + 1 ≤ j
section
variable {P : Program} {w : World} {K : Fr} {mg : Str → Option Value} {base : Heap}
theorem ok_law_question_due (T : Txt K mg) (ca : Cl P w K mg base CX0 1 "_law_asks" (spStrs asksL)) (cf : Cl P w K mg base CX0 1 "_law_forms" (spForms K)) (ct : Cl P w K mg base CX0 3 "_law_taken" (spLTaken K)) (ci : Cl P w K mg base CX0 3 "_law_is_of" (spIsOf K)) (D : Df K mg d_law_question_due) : Cl P w K mg base CX0 4 "_law_question_due" (spQDue K) := by
  refine D.cl sc_law_question_due (fun vs H Q E h => ?_) (fun _ _ _ _ _ _ us hl => match us, hl with | [_], _ => rfl) fun f cdv Ar outer s H vs Q E hr h => ⟨_, pb_X, ?_⟩
  · obtain ⟨a, ws, rfl, _⟩ := h
    rfl
  obtain ⟨a, ws, rfl, hws, h0, hn, hz, k1, k2⟩ := h
  have nd := sc_law_question_due.nd
  obtain ⟨z, hw⟩ : ∃ z, ws[0]? = some z := ⟨_, List.getElem?_eq_getElem h0⟩
  have hzl : z.length ≤ 100000 := hz z (List.mem_of_getElem? hw)
  have hw0 : (ws.map V.str)[0]? = some (.str z) := by rw [List.getElem?_map, hw]; rfl
  have lenE : ((ws.map V.str).length : Int) = (ws.length : Int) := by rw [List.length_map]
  -- if words[0] not in _law_asks(): return 0
  refine b_cons (s_ifX (tX_of (pt_cmpR op_notIn_seq pe_X pe_X rfl) (show eX _ _ _ _ _ from eX_ev (v := .str z) (ev_ixL (i := ((0 : Nat) : Int)) (ev_name 0 rfl) ev_int hws (atI_j hw0)) fun H1 e1 => e_cl0 (E := E0) ca hr (by decide) pass0 ⟨rfl, fun d H2 hd e2 h2 => ⟨d, _, rfl, .inl (sq_of h2), rfl, flat_strs _, _, rfl, ?_⟩⟩)))
  have E2 := e1.trans e2
  rw [if_pos rfl, inV_strs]
  cases hc : formsTab.lookup z with
  | none =>
    have hni : z ∉ asksL := by
      rw [asks_keys]
      intro hm
      obtain ⟨fs, q⟩ := forms_keys.mp hm
      rw [hc] at q
      cases q
    rw [decide_eq_false hni]
    refine iteT (b_one (s_ret (v := .int ((0 : Nat) : Int)) ev_int fun H3 e3 => k2 0 ?_ H3 (E2.trans e3)))
    unfold qDue questGo
    rw [hw]
    simp only [hc]
    rfl
  | some fs =>
    have hin : z ∈ asksL := by
      rw [asks_keys]
      exact forms_keys.mpr ⟨fs, hc⟩
    rw [decide_eq_true hin]
    refine iteF (b_nil ?_)
    have hf5 := forms_small hc
    have hgo : qDue ws = dueOf ws (tagP z (qN ws fs 1 [])) := by
      unfold qDue questGo
      rw [hw]
      simp only [hc]
    generalize hR : qN ws fs 1 [] = R at hgo
    -- found, at = ([words[0]], 1)
    refine b_cons (s_par 1 2 (a_cons (e_lst (a_one (eX_ev (v := .str z) (ev_ixL (i := ((0 : Nat) : Int)) (ev_name 0 rfl) ev_int (ex_l E2 hws) (atI_j hw0)) fun H3 e3 => ⟨by show 1 ≤ sizeLine; decide, fun lp hlp => a_one (eX_ev (v := .int ((1 : Nat) : Int)) ev_int fun H4 e4 => ⟨_, _, rfl, ?_⟩)⟩)))) nd)
    have E4 : Ex H H4 := ((E2.trans e3).trans (Ex.new hlp)).trans e4
    have hlp0 : H lp = none := fresh_back (E2.trans e3) hlp
    have l4 := e4 _ _ (upd_same (H := H3) (a := lp) (o := .lst [.str z]))
    -- for form in _law_forms(words[0])
    refine b_cons (s_forList 3 (eX_of (pe_cl (E := E0) cf hr (by decide) pass0 rfl (pa_cons pe_X pa_nil)) (eX_ev (v := .str z) (ev_ixL (i := ((0 : Nat) : Int)) (ev_name 0 rfl) ev_int (ex_l E4 hws) (atI_j hw0)) fun H5 e5 => ⟨z, fs, rfl, hc, fun fl H6 e6 hfl h6 => ⟨fl, _, WQD K ws R fs a lp fl z H, rfl, sq_of h6, ?_, ?_, ?_, ?_⟩⟩)) (passes_of rfl) nd)
    · exact ⟨1, [], [], none, none, rfl, by rw [List.drop_zero]; exact hR, by omega, (E4.trans e5).trans e6, (e5.trans e6) _ _ l4, h6, .nil, rfl, Nat.le_refl _⟩
    · intro k σ' H' _ hv
      obtain ⟨j, ds, vs, o3, o4, rfl, hgo7, hj, E7, l7, f7, u7, p7, d7⟩ := hv
      exact sq_of f7
    · intro i x σ' H7 hx hv
      obtain ⟨j, ds, vs, o3, o4, rfl, hgo7, hj, E7, l7, f7, u7, p7, d7⟩ := hv
      rw [List.getElem?_map] at hx
      obtain ⟨fm, hfm, rfl⟩ := Option.map_eq_some_iff.mp hx
      have hfin := forms_in hc fm (List.mem_of_getElem? hfm)
      have hdr : fs.drop i = fm :: fs.drop (i + 1) := by
        obtain ⟨hi, e⟩ := List.getElem?_eq_some_iff.mp hfm
        rw [List.drop_eq_getElem_cons hi, e]
      rw [hdr] at hgo7
      unfold qN at hgo7
      have nfl : fl ≠ lp := fun e => by
        have h5 := e5 _ _ l4
        rw [← e, hfl] at h5
        cases h5
      have hfl0 : H fl = none := by
        have h1 := fresh_back (E4.trans e5) hfl
        exact h1
      -- told = _law_taken(words, at)
      refine b_cons (s_set 4 (eX_of (pe_cl (E := E0) ct hr (by decide) pass0 rfl (pa_cons pe_X (pa_cons pe_X pa_nil))) (eX_ev (v := .ref a) (ev_name 0 rfl) fun H8 e8 => eX_ev (v := .int (j : Nat)) (ev_name 2 rfl) fun H9 e9 => ⟨a, ws, j, rfl, ex_l ((E7.trans e8).trans e9) hws, hj, by omega, hz, fun x j' hg t v H10 ht e10 h10 u10 px => ?_, fun j' hg H10 e10 => ?_⟩)) nd)
      · rw [hg] at hgo7
        obtain ⟨t1, t2, t3, t4⟩ := told_ok ws _ j [] x j' hj (by decide) rfl hg
        have t2 : szD x + j ≤ 0 + j' := t2
        have tt := told_again ws _ j [] x j' (by decide) rfl hg
        have E10 := ((E7.trans e8).trans e9).trans e10
        have l10 := (e8.trans (e9.trans e10)) _ _ l7
        have f10 := (e8.trans (e9.trans e10)) _ _ f7
        refine b_cons (s_if (k := !(isK "list" "list")) (et_not (et_val (ev_isi (m := "list") (T.f "isinstance") (T.f "list") (ev_name 4 rfl) (VT.l (sq_of h10)) (by decide)))) (fun hb => absurd hb (by decide)) fun _ H11 e11 => b_nil ?_)
        -- if not _law_is_of(told[0], form): return at
        refine b_cons (s_if (k := !(formD fm x)) (et_not (et_val (ev_call ci hr (by decide) pass0 (ea_cons (ev_ixL (v := v) (i := ((0 : Nat) : Int)) (ev_name 4 rfl) ev_int (sq_of (e11 _ _ h10)) rfl) (ea_cons (ev_name 3 rfl) ea_nil)) fun H12 e12 Q q => ⟨v, x, fm, rfl, u10.ext (e11.trans e12), px, okI_told tt, by omega, hfin, q⟩))) (fun hb H12 e12 => ?_) fun hb H12 e12 => b_nil ?_)
        · have hf : formD fm x = false := by simpa using hb
          have hgo7 : (if formD fm x = true then qN ws (fs.drop (i + 1)) j' (ds ++ [x]) else .inl j) = R := hgo7
          rw [if_neg (by rw [hf]; decide)] at hgo7
          exact b_one (s_ret (ev_name 2 rfl) fun H13 e13 => k2 j (by rw [hgo, ← hgo7]; rfl) H13 (((E10.trans e11).trans e12).trans e13))
        · have hf : formD fm x = true := by simpa using hb
          have hgo7 : (if formD fm x = true then qN ws (fs.drop (i + 1)) j' (ds ++ [x]) else .inl j) = R := hgo7
          rw [if_pos hf] at hgo7
          refine b_cons (s_expr (e_append (l := lp) (ev_name 1 rfl) ⟨_, (e11.trans e12) _ _ l10⟩ fun H13 e13 => eX_ev (v := v) (ev_ixL (i := ((0 : Nat) : Int)) (ev_name 4 rfl) ev_int (sq_of (((e11.trans e12).trans e13) _ _ h10)) rfl) fun H14 e14 => ?_))
          have e1014 := ((e11.trans e12).trans e13).trans e14
          have vl := u7.len
          refine ⟨.str z :: vs, e1014 _ _ l10, by show vs.length + 1 < 1000000; omega, ?_⟩
          have ntl : t ≠ lp := fun z => by
            rw [z, (e8.trans e9) _ _ l7] at ht
            cases ht
          have t14 : L2.upd H14 lp (.lst ((.str z :: vs) ++ [v])) t = some (.lst [v, .int (j' : Nat)]) := by
            rw [upd_ne ntl]
            exact e1014 _ _ h10
          refine b_one (s_set 2 (eX_ev (v := .int (j' : Nat)) (ev_ixL (i := ((1 : Nat) : Int)) (ev_name 4 rfl) ev_int (sq_of t14) rfl) fun H15 e15 => ?_) nd)
          have tk : TupK K H7 (L2.upd H14 lp (.lst ((.str z :: vs) ++ [v]))) := (tupK_ex ((e8.trans (e9.trans e10)).trans e1014)).trans (tupK_upd (e1014 _ _ l10) rfl)
          have tk2 : TupK K H10 (L2.upd H14 lp (.lst ((.str z :: vs) ++ [v]))) := (tupK_ex e1014).trans (tupK_upd (e1014 _ _ l10) rfl)
          refine ⟨j', ds ++ [x], vs ++ [v], _, _, rfl, hgo7, t4, ((E10.trans e1014).mut hlp0).trans e15, e15 _ _ upd_same, e15 _ _ (by rw [upd_ne nfl]; exact e1014 _ _ f10), ((UrAll.keep tk p7 u7).app (.cons (u10.keep tk2 px) .nil)).ext e15, ?_, ?_⟩
          · rw [plainL_app, p7]
            show (true && (plainD x && true)) = true
            rw [px]
            rfl
          · rw [List.length_append]
            show ds.length + 1 + 1 ≤ j'
            omega
      · rw [hg] at hgo7
        have E10 := ((E7.trans e8).trans e9).trans e10
        refine b_cons (s_if (k := !(isK "int" "list")) (et_not (et_val (ev_isi (m := "list") (T.f "isinstance") (T.f "list") (ev_name 4 rfl) (VT.i (j' : Nat)) (by decide)))) (fun _ H11 e11 => ?_) fun hb => absurd hb (by decide))
        exact b_one (s_ret (ev_name 4 rfl) fun H12 e12 => k2 j' (by rw [hgo, ← hgo7]; rfl) H12 ((E10.trans e11).trans e12))
    · intro σ' H7 hv
      obtain ⟨j, ds, vs, o3, o4, rfl, hgo7, hj, E7, l7, f7, u7, p7, d7⟩ := hv
      rw [List.length_map, List.drop_length] at hgo7
      have hR2 : R = .inr (ds, j) := hgo7.symm
      rw [hR2] at hgo
      -- return [tuple(found)] if at == len(words) else at
      refine b_one (s_retX (e_ife (tX_et (k := decide (V.int (j : Nat) = V.int ((ws.map V.str).length : Nat))) (et_cmp op_eq (ev_name 2 rfl) (ev_lenL (T.f "len") (ev_name 0 rfl) (.inl (ex_l E7 hws))) (rv_eq rfl)) fun H8 e8 => ?_)))
      by_cases hjl : j < ws.length
      · rw [if_neg (fun q => by
          have q := V.int.inj (of_decide_eq_true q)
          rw [lenE] at q
          omega)]
        refine eX_ev (v := .int (j : Nat)) (ev_name 2 rfl) fun H9 e9 => k2 j ?_ H9 ((E7.trans e8).trans e9)
        rw [hgo]
        exact if_pos hjl
      · have hjj : j = ws.length := by omega
        rw [if_pos (decide_eq_true (by rw [hjj, List.length_map]))]
        have E8 := E7.trans e8
        refine e_lst (a_one (eX_of (pe_callTy call_tuple_of rfl (T.f "tuple") (by decide +kernel) (pa_cons pe_X pa_nil) (by decide) (by decide)) (eX_ev (v := .ref lp) (ev_name 1 rfl) fun H10 e10 => ?_)))
        have l10 := (e8.trans e10) _ _ l7
        refine ⟨lp, _, rfl, .inl ⟨sq_of l10, fun q hq => ⟨by show 1 ≤ sizeLine; decide, fun p hp => ?_⟩⟩⟩
        have E10 := E8.trans e10
        have E12 : Ex H (L2.upd (L2.upd H10 q (.tup (.str z :: vs))) p (.lst [.ref q])) := (E10.trans (Ex.new hq)).trans (Ex.new hp)
        exact k1 z ds (by rw [hgo]; exact if_neg hjl) p q (.str z :: vs) _ (fresh_back (E10.trans (Ex.new hq)) hp) E12 upd_same (st_of ((Ex.new hp) _ _ upd_same)) (.cons (.str z hzl) (u7.ext ((e8.trans e10).trans ((Ex.new hq).trans (Ex.new hp))))) p7
end
end K96

set_option Elab.async false
set_option linter.all false
set_option maxRecDepth 100000
set_option maxHeartbeats 4000000
/-! The law's asked. -/
namespace K96
open PySem PySem.Spec PyProof.Rows L2 Evl RZ
/-- what a part of a form counts at most -/
def szF (f : Str) : Nat := if f = "stamp" then 3 else if f = "lot" then 6 else if f = "hands" then 3 else 1
theorem szF_pos (f : Str) : 1 ≤ szF f := by
  unfold szF
  repeat (first | (split; decide) | decide)
def spAsked (K : Fr) : Sp := fun vs H Q _ => ∃ (r c : Addr) (n : Nat) (z : Str) (fs : List Str), vs = [.ref r, .str z] ∧ formsTab.lookup z = some fs ∧ RopeO H r c n ∧ n + 60 < 100000 ∧
  ∀ q us ds H', But r H H' → RopeO H' r c (n + 60) → SqT K H' q (.str z :: us) → UrAll K H' us ds → plainL ds = true → questD (.tuple (.str z :: ds)) = true → ds.all (toldAt 9) = true → szL ds ≤ 15 → Q (.ref q) H'
theorem intsD_map : ∀ ns : List Int, intsD (ns.map PyData.int) = some ns
  | [] => rfl
  | n :: ns => by
    show (intsD (ns.map PyData.int)).map (n :: ·) = _
    rw [intsD_map ns]
    rfl
theorem ur_ints {K : Fr} {H : Hp} : ∀ ns : List Int, UrAll K H (ns.map V.int) (ns.map PyData.int)
  | [] => .nil
  | n :: ns => .cons (.int n) (ur_ints ns)
theorem szL_ints : ∀ ns : List Int, szL (ns.map PyData.int) = ns.length
  | [] => rfl
  | n :: ns => by
    show 1 + szL (ns.map PyData.int) = ns.length + 1
    rw [szL_ints ns]
    omega
theorem plain_ints : ∀ ns : List Int, plainL (ns.map PyData.int) = true
  | [] => rfl
  | n :: ns => by
    show (true && plainL (ns.map PyData.int)) = true
    rw [plain_ints ns]
    rfl
theorem zip_snoc {α β γ : Type} (g : α → β → γ) : ∀ (xs : List α) (ys : List β) (x : α) (y : β), xs.length = ys.length → List.zipWith g (xs ++ [x]) (ys ++ [y]) = List.zipWith g xs ys ++ [g x y]
  | [], [], _, _, _ => rfl
  | [], _ :: _, _, _, h => by cases h
  | _ :: _, [], _, _, h => by cases h
  | a :: xs, b :: ys, x, y, h => by
    show g a b :: List.zipWith g (xs ++ [x]) (ys ++ [y]) = _
    rw [zip_snoc g xs ys x y (by simpa using h)]
    rfl
section
variable {P : Program} {w : World} {K : Fr} {mg : Str → Option Value} {base : Heap}
/-- the state at a turn -/
def WAS (K : Fr) (r c lf fl : Addr) (n : Nat) (z : Str) (fs : List Str) (H : Hp) (k : Nat) (σ' : Sg) (H' : Hp) : Prop :=
  ∃ ds vs o3, σ' = [some (.ref r), some (.str z), some (.ref lf), o3, none] ∧ But r H H' ∧ RopeO H' r c (n + 6 * k) ∧ H' lf = some (.lst (.str z :: vs)) ∧ H' fl = some (.lst (fs.map V.str)) ∧ UrAll K H' vs ds ∧ plainL ds = true ∧ ds.length = k ∧ (ofForms ds (fs.take k)).all id = true ∧ ds.all (toldAt 9) = true ∧ szL ds ≤ ((fs.take k).map szF).sum
theorem ok_law_asked (T : Txt K mg) (ck : Cl P w K mg base CX0 1 "_law_knot" spKnot) (co : Cl P w K mg base CX0 2 "_law_one" (spOne K)) (cf : Cl P w K mg base CX0 1 "_law_forms" (spForms K)) (D : Df K mg d_law_asked) : Cl P w K mg base CX0 3 "_law_asked" (spAsked K) := by
  refine D.cl sc_law_asked (fun vs H Q E h => ?_) (fun _ _ _ _ _ _ us hl => match us, hl with | [_, _], _ => rfl) fun f cdv Ar outer s H vs Q E hr h => ⟨_, pb_X, ?_⟩
  · obtain ⟨r, c, n, z, fs, rfl, _⟩ := h
    rfl
  obtain ⟨r, c, n, z, fs, rfl, hc, hR, hn, k⟩ := h
  have nd := sc_law_asked.nd
  have hf5 := forms_small hc
  have hzk : z ∈ formsTab.map (·.1) := forms_keys.mpr ⟨fs, hc⟩
  have hzm : isMark z = true ∧ z.length ≤ 100 := by
    have key : ∀ y ∈ formsTab.map (·.1), isMark y = true ∧ y.length ≤ 100 := by decide +kernel
    exact key z hzk
  -- found = [word]
  refine b_cons (s_set 2 (eX_evl (evl_1 (v := .str z) (ev_name 1 rfl)) fun lf H1 hlf e1 g1 => ?_) nd)
  obtain ⟨nlr, nlc⟩ := hR.off hlf
  -- for form in _law_forms(word)
  refine b_cons (s_forList 3 (eX_of (pe_cl (E := E0) cf hr (by decide) pass0 rfl (pa_cons pe_X pa_nil)) (eX_ev (v := .str z) (ev_name 1 rfl) fun H2 e2 => ⟨z, fs, rfl, hc, fun fl H3 e3 hfl h3 => ⟨fl, _, WAS K r c lf fl n z fs H, rfl, sq_of h3, ?_, ?_, ?_, ?_⟩⟩)) (passes_of rfl) nd)
  · exact ⟨[], [], none, rfl, ebut ((e1.trans e2).trans e3), hR.ex ((e1.trans e2).trans e3), (e2.trans e3) _ _ g1, h3, .nil, rfl, rfl, by cases fs <;> rfl, rfl, Nat.zero_le _⟩
  · intro k' σ' H' _ hv
    obtain ⟨ds, vs, o3, rfl, b4, R4, l4, f4, _⟩ := hv
    exact sq_of f4
  · intro i x σ' H4 hx hv
    obtain ⟨ds, vs, o3, rfl, b4, R4, l4, f4, u4, p4, dl4, ff4, t4, z4⟩ := hv
    rw [List.getElem?_map] at hx
    obtain ⟨fm, hfm, rfl⟩ := Option.map_eq_some_iff.mp hx
    have hil : i < fs.length := (List.getElem?_eq_some_iff.mp hfm).1
    have hfin := forms_in hc fm (List.mem_of_getElem? hfm)
    have E12 := e1.trans e2
    have hfl0 : H fl = none := fresh_back E12 hfl
    obtain ⟨nfr, nfc⟩ := hR.off hfl0
    have nfl : fl ≠ lf := fun e => by
      have h5 := e2 _ _ g1
      rw [← e, hfl] at h5
      cases h5
    have htk : fs.take (i + 1) = fs.take i ++ [fm] := by
      rw [List.take_add_one, hfm]
      rfl
    have hml : (fs.take i).length = i := by rw [List.length_take]; omega
    obtain ⟨o4, ho4, hn4⟩ := R4.at_
    -- what is added
    have add : ∀ (v : V) (d : PyData) (H5 : Hp) (m : Nat), But r H4 H5 → RopeO H5 r c m → m ≤ n + 6 * i + 6 → Ur K H5 v d → plainD d = true → formD fm d = true → toldAt 9 d = true → szD d ≤ szF fm → ∃ xs, H5 lf = some (.lst xs) ∧ xs.length < 1000000 ∧ WAS K r c lf fl n z fs H (i + 1) [some (.ref r), some (.str z), some (.ref lf), some (.str fm), none] (L2.upd H5 lf (.lst (xs ++ [v]))) := fun v d H5 m b5 R5 hm u5 p5 ff5 t5 z5 => by
      have l5 := b5 _ _ nlr l4
      have f5 := b5 _ _ nfr f4
      have vl := u4.len
      have tk1 : TupK K H4 H5 := tupK_but b5 ho4 hn4
      have tk2 : TupK K H5 (L2.upd H5 lf (.lst ((.str z :: vs) ++ [v]))) := tupK_upd l5 rfl
      refine ⟨_, l5, by show vs.length + 1 < 1000000; omega, ds ++ [d], vs ++ [v], _, rfl, (b4.trans b5).mut hlf, (R5.upd nlr nlc).le (by omega) (by omega), upd_same, by rw [upd_ne nfl]; exact f5, (UrAll.keep (tk1.trans tk2) p4 u4).app (.cons (u5.keep tk2 p5) .nil), ?_, by simp [dl4], ?_, ?_, ?_⟩
      · rw [plainL_app, p4]
        show (true && (plainD d && true)) = true
        rw [p5]
        rfl
      · rw [htk]
        unfold ofForms
        rw [zip_snoc _ _ _ _ _ (by rw [hml]; exact dl4), List.all_append]
        have ff4 : (List.zipWith (fun d f => formD f d) ds (fs.take i)).all id = true := ff4
        rw [ff4]
        show (true && (formD fm d && true)) = true
        rw [ff5]
        rfl
      · rw [List.all_append, t4]
        show (true && (toldAt 9 d && true)) = true
        rw [t5]
        rfl
      · rw [szL_snoc, htk, List.map_append, List.sum_append]
        show _ ≤ _ + (szF fm + 0)
        omega
    have nm : ∀ (y : Str), isName y = true → ∀ (v : V) (H5 : Hp) (m : Nat), v = .str y → fm = "name" → But r H4 H5 → RopeO H5 r c m → m ≤ n + 6 * i + 6 → ∃ xs, H5 lf = some (.lst xs) ∧ xs.length < 1000000 ∧ WAS K r c lf fl n z fs H (i + 1) [some (.ref r), some (.str z), some (.ref lf), some (.str fm), none] (L2.upd H5 lf (.lst (xs ++ [v]))) := fun y hy v H5 m hv hfm b5 R5 hm => by
      subst hv
      have hl : y.length ≤ 8 := by
        unfold isName at hy
        have := (Bool.and_eq_true_iff.mp (Bool.and_eq_true_iff.mp hy).1).2
        exact of_decide_eq_true this
      have hmk : isMark y = true := by
        unfold isMark
        rw [hy, Bool.or_true]
      refine add (.str y) (.str y) H5 m b5 R5 hm (.str y (by omega)) rfl ?_ hmk (by rw [hfm]; show 1 ≤ szF "name"; decide +kernel)
      rw [hfm]
      unfold formD
      rw [if_pos rfl]
      exact hy
    -- name
    refine b_one (s_if (k := decide (V.str fm = V.str "name")) (et_cmp op_eq (ev_name 3 rfl) ev_str (rv_eq rfl)) (fun hb H5 e5 => ?_) fun hb H5 e5 => ?_)
    · have hfm1 := V.str.inj (of_decide_eq_true hb)
      refine b_one (s_expr (e_append (l := lf) (ev_name 2 rfl) ⟨_, e5 _ _ l4⟩ fun H6 e6 => e_one (r := r) (c := c) co hr (by decide) (ev_name 0 rfl) fun H7 e7 => eX_evl (evl_lst (ea_cons ev_str (ea_cons ev_str (ea_cons ev_str ea_nil))) (by show 3 ≤ 100000; decide)) fun q H8 hq e8 g8 => ?_))
      have E7 := (e5.trans e6).trans e7
      have E8 := E7.trans e8
      refine ⟨q, _, _, rfl, R4.ex E8, by omega, sq_of g8, ((R4.ex E7).off hq).1, by show 0 < 3; decide, by show 3 < 100000; decide, fun j x H9 hx b9 R9 => ?_⟩
      have hm := List.mem_of_getElem? hx
      simp only [List.mem_cons, List.not_mem_nil, or_false] at hm
      have B9 := (ebut E8).trans b9
      rcases hm with rfl | rfl | rfl
      · exact nm _ (by decide +kernel) _ H9 _ rfl hfm1 B9 R9 (by omega)
      · exact nm _ (by decide +kernel) _ H9 _ rfl hfm1 B9 R9 (by omega)
      · exact nm _ (by decide +kernel) _ H9 _ rfl hfm1 B9 R9 (by omega)
    have n1 : fm ≠ "name" := fun e => of_decide_eq_false hb (congrArg V.str e)
    -- stamp
    refine b_one (s_if (k := decide (V.str fm = V.str "stamp")) (et_cmp op_eq (ev_name 3 rfl) ev_str (rv_eq rfl)) (fun hb2 H6 e6 => ?_) fun hb2 H6 e6 => ?_)
    · have hfm1 := V.str.inj (of_decide_eq_true hb2)
      have E6 := e5.trans e6
      refine b_one (s_expr (e_append (l := lf) (ev_name 2 rfl) ⟨_, E6 _ _ l4⟩ fun H7 e7 => e_tup (a_cons (eX_of (pe_op op_add pe_X pe_X) (eX_ev (v := .int 1) ev_int fun H8 e8 => e_knot ck hr (by decide) (ev_name 0 rfl) ev_int (R4.ex ((E6.trans e7).trans e8)) (by omega) (by decide) (by decide) fun i1 H9 i0 b9 R9 => ⟨1, (i1 : Nat), rfl, rfl, a_one (e_one (r := r) (c := c) co hr (by decide) (ev_name 0 rfl) fun H10 e10 => eX_evl (evl_lst (ea_cons ev_str (ea_cons ev_str ea_nil)) (by show 2 ≤ 100000; decide)) fun q H11 hq e11 g11 => ?_)⟩)))))
      have E8 := (E6.trans e7).trans e8
      refine ⟨q, _, _, rfl, R9.ex (e10.trans e11), by omega, sq_of g11, ((R9.ex e10).off hq).1, by show 0 < 2; decide, by show 2 < 100000; decide, fun j x H12 hx b12 R12 => ⟨by show 2 ≤ sizeLine; decide, fun t ht => ?_⟩⟩
      have B12 := (((ebut E8).trans b9).trans (ebut (e10.trans e11))).trans b12
      have hm := List.mem_of_getElem? hx
      simp only [List.mem_cons, List.not_mem_nil, or_false] at hm
      have fin : ∀ y : Str, isName y = true → x = .str y → ∃ xs, L2.upd H12 t (.tup [.int (1 + (i1 : Nat)), x]) lf = some (.lst xs) ∧ xs.length < 1000000 ∧ WAS K r c lf fl n z fs H (i + 1) [some (.ref r), some (.str z), some (.ref lf), some (.str fm), none] (L2.upd (L2.upd H12 t (.tup [.int (1 + (i1 : Nat)), x])) lf (.lst (xs ++ [.ref t]))) := fun y hy hxy => by
        subst hxy
        have hl : y.length ≤ 8 := by
          unfold isName at hy
          have := (Bool.and_eq_true_iff.mp (Bool.and_eq_true_iff.mp hy).1).2
          exact of_decide_eq_true this
        have hmk : isMark y = true := by
          unfold isMark
          rw [hy, Bool.or_true]
        refine add (.ref t) (.tuple [.int (1 + (i1 : Nat)), .str y]) _ _ (B12.trans (ebut (Ex.new ht))) (R12.ex (Ex.new ht)) (by omega) (.tup (st_of upd_same) (.cons (.int _) (.cons (.str y (by omega)) .nil))) rfl ?_ ?_ (by rw [hfm1]; show 1 + (1 + (1 + 0)) ≤ szF "stamp"; decide +kernel)
        · rw [hfm1]
          unfold formD
          rw [if_neg (by decide +kernel), if_pos rfl]
          show (decide (1 ≤ 1 + ((i1 : Nat) : Int)) && isName y) = true
          rw [hy, Bool.and_true]
          exact decide_eq_true (by omega)
        · show ((decide (0 - mostV ≤ 1 + ((i1 : Nat) : Int)) && decide (1 + ((i1 : Nat) : Int) ≤ mostV)) && (isMark y && true)) = true
          rw [hmk, mostV_is, decide_eq_true (by omega), decide_eq_true (by omega)]
          rfl
      rcases hm with rfl | rfl
      · exact fin _ (by decide +kernel) rfl
      · exact fin _ (by decide +kernel) rfl
    have n2 : fm ≠ "stamp" := fun e => of_decide_eq_false hb2 (congrArg V.str e)
    have E6 := e5.trans e6
    -- lot
    refine b_one (s_if (k := decide (V.str fm = V.str "lot")) (et_cmp op_eq (ev_name 3 rfl) ev_str (rv_eq rfl)) (fun hb3 H7 e7 => ?_) fun hb3 H7 e7 => ?_)
    · have hfm1 := V.str.inj (of_decide_eq_true hb3)
      have E7 := E6.trans e7
      refine b_one (s_expr (e_append (l := lf) (ev_name 2 rfl) ⟨_, E7 _ _ l4⟩ fun H8 e8 => eX_of (pe_callTy call_tuple_of rfl (T.f "tuple") (by decide +kernel) (pa_cons pe_X pa_nil) (by decide) (by decide)) ?_))
      refine (show eX _ _ _ _ _ from eX_of (pe_lc (own := [("state", 4)]) (tt := tB2 _ _ _) (te := eB _ _ _) (g := gName 4) rfl nd (pi_range2 rfl (T.f "range") (pa_cons pe_X (pa_cons pe_X pa_nil))) (blkOk_by (N := ["rope", "word", "found", "form", "state"]) (sc := defScope s_law_asked) (by decide +kernel)) (fun _ _ _ _ _ => pg_name nd rfl (Or.inl rfl)) (fun s H C cl fp => pts_one ⟨fun pins s1 σ1 H2 Q1 I h => h s H C cl fp pins s1 I⟩) (fun s H C cl fp => ⟨fun pins s1 σ1 H2 Q1 I h => h s H C cl fp pins s1 I⟩) (fun _ => rfl)) ?_)
      refine (show eX _ _ _ _ _ from eX_ev (v := .int (-1)) (ev_of (pe_un un_neg pe_int) (ev_un ev_c ru_neg)) fun H9 e9 => eX_ev (v := .int 4) ev_int fun H10 e10 => ⟨-1, 4, rfl, ⟨by decide, by decide, by decide, by decide⟩, fun Dl hDl => ?_⟩)
      have E10 := ((E7.trans e8).trans e9).trans e10
      have R10 := R4.ex E10
      obtain ⟨nDr, nDc⟩ := R10.off hDl
      have hD4 : H4 Dl = none := fresh_back E10 hDl
      refine lc_range (lo := -1) (n := ((4 : Int) - (-1)).toNat) (fun a H' => ∃ ns : List Int, But r H4 H' ∧ RopeO H' r c (n + 6 * i + a) ∧ H' Dl = some (.lst (ns.map V.int)) ∧ ns.Pairwise (· < ·) ∧ (∀ j ∈ ns, -1 ≤ j ∧ j < -1 + (a : Int)) ∧ ns.length ≤ a) ⟨[], (ebut E10).mut hD4, (R10.ex (Ex.new hDl)), upd_same, .nil, fun j hj => (nomatch hj), Nat.le_refl _⟩ (fun a H11 ha hv => ?_) fun H11 hv => ?_
      · obtain ⟨ns, b11, R11, l11, pw, rg, nl⟩ := hv
        have ha5 : a < 5 := ha
        refine (show _ ∧ _ from ⟨rfl, ?_⟩)
        refine (show tB2 _ _ _ _ _ _ from fun s' H0' C cl fp => t_eq (e_knot ck hr (by decide) (ev_name 0 rfl) ev_int R11 (by omega) (by decide) (by decide) fun k1 H12 k0 b12 R12 => eX_ev (v := .int 0) ev_int fun H13 e13 => ⟨rfl, ?_⟩))
        have B13 : But r H11 H13 := b12.trans (ebut e13)
        have l13 := B13 _ _ nDr l11
        by_cases hk : decide (V.int (k1 : Nat) = V.int 0) = true
        · rw [if_pos hk]
          refine (show eB _ _ _ _ _ _ from fun s2 H02 C2 cl2 fp2 => eX_ev (v := .int (-1 + (a : Nat))) (ev_name 4 rfl) fun H14 e14 => ?_)
          refine ⟨_, e14 _ _ l13, by rw [List.length_map]; exact Nat.lt_of_lt_of_le (by omega : ns.length < 100) (by decide), ns ++ [-1 + (a : Int)], ((b11.trans B13).trans (ebut e14)).mut hD4, ((R12.ex e13).ex e14).upd nDr nDc, ?_, ?_, ?_, by simp; omega⟩
          · rw [upd_same, List.map_append]
            rfl
          · refine List.pairwise_append.mpr ⟨pw, List.pairwise_singleton _ _, fun x hx y hy => ?_⟩
            rw [List.mem_singleton.mp hy]
            exact (rg x hx).2
          · intro j hj
            rcases List.mem_append.mp hj with hj | hj
            · have := rg j hj
              omega
            · rw [List.mem_singleton.mp hj]
              omega
        · rw [if_neg hk]
          exact ⟨ns, b11.trans B13, R12.ex e13, l13, pw, fun j hj => by have := rg j hj; omega, by omega⟩
      · obtain ⟨ns, b11, R11, l11, pw, rg, nl⟩ := hv
        have h5 : ((4 : Int) - (-1)).toNat = 5 := rfl
        rw [h5] at R11 rg nl
        refine ⟨Dl, _, rfl, .inl ⟨sq_of l11, fun q hq => ?_⟩⟩
        refine add (.ref q) (.tuple (ns.map .int)) _ _ (b11.trans (ebut (Ex.new hq))) (R11.ex (Ex.new hq)) (by omega) (.tup (st_of upd_same) (ur_ints ns)) (plain_ints ns) ?_ ?_ ?_
        · rw [hfm1]
          unfold formD
          rw [if_neg (by decide +kernel), if_neg (by decide +kernel), if_neg (by decide +kernel), if_neg (by decide +kernel), if_pos rfl]
          show (match intsD (ns.map .int) with | some ns => (ascL ns).all id | none => false) = true
          rw [intsD_map]
          exact strict_asc ns pw
        · show (ns.map PyData.int).all (toldAt 8) = true
          rw [List.all_map]
          refine List.all_eq_true.mpr fun j hj => ?_
          have := rg j hj
          show (decide (0 - mostV ≤ j) && decide (j ≤ mostV)) = true
          rw [mostV_is, decide_eq_true (by omega), decide_eq_true (by omega)]
          rfl
        · show 1 + szL (ns.map .int) ≤ szF fm
          rw [szL_ints, hfm1, show szF "lot" = 6 from by decide +kernel]
          omega
    have n3 : fm ≠ "lot" := fun e => of_decide_eq_false hb3 (congrArg V.str e)
    have E7 := E6.trans e7
    -- hands
    refine b_one (s_if (k := decide (V.str fm = V.str "hands")) (et_cmp op_eq (ev_name 3 rfl) ev_str (rv_eq rfl)) (fun hb4 H8 e8 => ?_) fun hb4 H8 e8 => ?_)
    · have hfm1 := V.str.inj (of_decide_eq_true hb4)
      have E8 := E7.trans e8
      refine b_one (s_expr (e_append (l := lf) (ev_name 2 rfl) ⟨_, E8 _ _ l4⟩ fun H9 e9 => e_one (r := r) (c := c) co hr (by decide) (ev_name 0 rfl) fun H10 e10 => e_lst (a_cons (eX_evu (evu_tup ea_nil (Nat.zero_le _)) fun t0 H11 ht0 e11 g0 => a_cons (eX_evu (evu_tup (ea_cons ev_str ea_nil) (by show 1 ≤ 100000; decide)) fun t1 H12 ht1 e12 g1 => a_one (eX_evu (evu_tup (ea_cons ev_str (ea_cons ev_str ea_nil)) (by show 2 ≤ 100000; decide)) fun t2 H13 ht2 e13 g2 => ⟨by show 3 ≤ sizeLine; decide, fun q hq => ?_⟩))))))
      have E13 := ((E8.trans e9).trans e10).trans ((e11.trans e12).trans e13)
      have R13 := R4.ex E13
      refine ⟨q, _, _, rfl, R13.ex (Ex.new hq), by omega, sq_of upd_same, (R13.off hq).1, by show 0 < 3; decide, by show 3 < 100000; decide, fun j x H14 hx b14 R14 => ?_⟩
      obtain ⟨o13, ho13, hn13⟩ := (R13.ex (Ex.new (o := .lst [.ref t0, .ref t1, .ref t2]) hq)).at_
      have tk : TupK K H13 H14 := (tupK_ex (Ex.new hq)).trans (tupK_but b14 ho13 hn13)
      have B14 := ((ebut E13).trans (ebut (Ex.new hq))).trans b14
      have fin : ∀ (t : Addr) (ys : List Str), SqT K H13 t (ys.map V.str) → UrAll K H14 (ys.map V.str) (ys.map PyData.str) → formD "hands" (.tuple (ys.map .str)) = true → toldAt 9 (.tuple (ys.map .str)) = true → szD (.tuple (ys.map .str)) ≤ 3 → plainL (ys.map .str) = true → x = .ref t → ∃ xs, H14 lf = some (.lst xs) ∧ xs.length < 1000000 ∧ WAS K r c lf fl n z fs H (i + 1) [some (.ref r), some (.str z), some (.ref lf), some (.str fm), none] (L2.upd H14 lf (.lst (xs ++ [x]))) := fun t ys hs hu h1 h2 h3 h4 hx => by
        subst hx
        exact add (.ref t) (.tuple (ys.map .str)) H14 _ B14 R14 (by omega) (.tup (tk _ _ hs) hu) h4 (by rw [hfm1]; exact h1) h2 (by rw [hfm1, show szF "hands" = 3 from by decide +kernel]; exact h3)
      have hm := List.mem_of_getElem? hx
      simp only [List.mem_cons, List.not_mem_nil, or_false] at hm
      rcases hm with rfl | rfl | rfl
      · exact fin t0 [] (st_of ((e12.trans e13) _ _ g0)) .nil (by decide +kernel) (by decide +kernel) (by decide) rfl rfl
      · exact fin t1 ["ben"] (st_of (e13 _ _ g1)) (.cons (.str _ (by decide +kernel)) .nil) (by decide +kernel) (by decide +kernel) (by decide) rfl rfl
      · exact fin t2 ["zoe", "ann"] (st_of g2) (.cons (.str _ (by decide +kernel)) (.cons (.str _ (by decide +kernel)) .nil)) (by decide +kernel) (by decide +kernel) (by decide) rfl rfl
    have n4 : fm ≠ "hands" := fun e => of_decide_eq_false hb4 (congrArg V.str e)
    have E8 := E7.trans e8
    -- number, worth
    have hnw : fm = "number" ∨ fm = "worth" := by
      simp only [List.mem_cons, List.not_mem_nil, or_false] at hfin
      rcases hfin with h | h | h | h | h | h
      · exact absurd h n1
      · exact absurd h n2
      · exact .inl h
      · exact .inr h
      · exact absurd h n3
      · exact absurd h n4
    have p12 : ∀ {X : Cx} {σ : Sg} {H : Hp} {j1 j2 : Nat} {p1 p2 p3 : Pos}, EV X (.BinOp (.Constant (.int 10) j1 p1) .Pow (.Constant (.int 12) j2 p2) p3) σ H (.int 1000000000000) := fun {X σ H j1 j2 p1 p2 p3} => ev_bin op_pow ev_int ev_int (rv_I (powB (by decide) (by decide) _ (by decide) (by decide)))
    refine b_one (s_expr (e_append (l := lf) (ev_name 2 rfl) ⟨_, E8 _ _ l4⟩ fun H9 e9 => e_one (r := r) (c := c) co hr (by decide) (ev_name 0 rfl) fun H10 e10 => eX_of (pe_op op_cat pe_X pe_X) ?_))
    refine (show eX _ _ _ _ _ from eX_evl (evl_lst (ea_cons ev_int (ea_cons ev_int (ea_cons (ev_of (pe_un un_neg pe_int) (ev_un ev_c ru_neg)) (ea_cons (ev_bin op_sub p12 ev_int rv_I0) ea_nil)))) (by show 4 ≤ 100000; decide)) fun q1 H11 hq1 e11 g11 => eX_of (pe_op op_rep pe_X pe_X) ?_)
    refine (show eX _ _ _ _ _ from eX_evl (evl_1 (v := .non) ev_non) fun q2 H12 hq2 e12 g12 => eX_ev (v := .int (if decide (V.str fm = V.str "worth") = true then 1 else 0)) (ev_intb (T.f "int") (ev_cmp op_eq (ev_name 3 rfl) ev_str (rv_eq rfl))) fun H13 e13 => ?_)
    generalize hkk : (if decide (V.str fm = V.str "worth") = true then (1 : Int) else 0) = kk
    have hk1 : kk = 0 ∨ kk = 1 := by
      rw [← hkk]
      split
      · exact .inr rfl
      · exact .inl rfl
    have g12' := e13 _ _ g12
    have g11' := (e12.trans e13) _ _ g11
    have E13 := ((E8.trans e9).trans e10).trans ((e11.trans e12).trans e13)
    have R13 := R4.ex E13
    have hrep : (List.replicate kk.toNat [V.non]).flatten.length ≤ 1 := by
      rcases hk1 with rfl | rfl <;> decide
    refine ⟨q2, kk, _, rfl, rfl, g12', by omega, by omega, ?_, fun q3 hq3 => ⟨q1, q3, _, _, rfl, rfl, (Ex.new hq3) _ _ g11', upd_same, ?_, fun q4 hq4 => ?_⟩⟩
    · rcases hk1 with rfl | rfl <;> decide
    · exact Nat.le_trans (by show 4 + _ ≤ 5; omega) (by decide)
    have E15 := (E13.trans (Ex.new (o := .lst (List.replicate kk.toNat [V.non]).flatten) hq3)).trans (Ex.new (o := .lst ([V.int 0, .int 3, .int (-2), .int (1000000000000 - 1)] ++ (List.replicate kk.toNat [V.non]).flatten)) hq4)
    refine ⟨q4, _, _, rfl, R4.ex E15, by omega, sq_of upd_same, ((R13.ex (Ex.new hq3)).off hq4).1, by rw [List.length_append]; show 0 < 4 + _; omega, by rw [List.length_append]; show 4 + _ < 100000; omega, fun j x H16 hx b16 R16 => ?_⟩
    have B16 := (ebut E15).trans b16
    have okd : ∀ (v : V) (d : PyData), v = x → Ur K H16 v d → plainD d = true → (tagD d == "int") = true ∨ fm = "worth" → valD d = true → szD d = 1 → singleD d = true → ∃ xs, H16 lf = some (.lst xs) ∧ xs.length < 1000000 ∧ WAS K r c lf fl n z fs H (i + 1) [some (.ref r), some (.str z), some (.ref lf), some (.str fm), none] (L2.upd H16 lf (.lst (xs ++ [x]))) := fun v d hvx u pd hint hval hz1 hs1 => by
      subst hvx
      refine add v d H16 _ B16 R16 (by omega) u pd ?_ (told_single hs1 9) (by rw [hz1]; exact szF_pos fm)
      unfold formD
      rw [if_neg n1, if_neg n2]
      rcases hnw with h | h
      · rw [if_pos h]
        rcases hint with h2 | h2
        · exact h2
        · rw [h] at h2
          exact absurd h2 (by decide +kernel)
      · rw [if_neg (by rw [h]; decide +kernel), if_pos h]
        exact hval
    have hi : ∀ v : Int, 0 - mostV ≤ v → v ≤ mostV → x = .int v → ∃ xs, H16 lf = some (.lst xs) ∧ xs.length < 1000000 ∧ WAS K r c lf fl n z fs H (i + 1) [some (.ref r), some (.str z), some (.ref lf), some (.str fm), none] (L2.upd H16 lf (.lst (xs ++ [x]))) := fun v h1 h2 hx => okd (.int v) (.int v) hx.symm (.int v) rfl (.inl rfl) (Bool.and_eq_true_iff.mpr ⟨decide_eq_true h1, decide_eq_true h2⟩) rfl (Bool.and_eq_true_iff.mpr ⟨decide_eq_true h1, decide_eq_true h2⟩)
    rcases List.mem_append.mp (List.mem_of_getElem? hx) with hm | hm
    · simp only [List.mem_cons, List.not_mem_nil, or_false] at hm
      rcases hm with rfl | rfl | rfl | rfl
      · exact hi _ (by decide) (by decide) rfl
      · exact hi _ (by decide) (by decide) rfl
      · exact hi _ (by decide) (by decide) rfl
      · exact hi _ (by decide) (by decide) rfl
    · obtain ⟨hx2, hw⟩ : x = .non ∧ fm = "worth" := by
        by_cases hw : fm = "worth"
        · refine ⟨?_, hw⟩
          rw [decide_eq_true (congrArg V.str hw)] at hkk
          have : kk = 1 := by rw [← hkk]; rfl
          subst this
          exact List.mem_singleton.mp hm
        · exfalso
          rw [decide_eq_false (fun e => hw (V.str.inj e))] at hkk
          have : kk = 0 := by rw [← hkk]; rfl
          subst this
          cases hm
      exact okd .non .none hx2.symm .non rfl (.inr hw) rfl rfl rfl
  · intro σ' H4 hv
    obtain ⟨ds, vs, o3, rfl, b4, R4, l4, f4, u4, p4, dl4, ff4, t4, z4⟩ := hv
    rw [List.length_map] at dl4 ff4 z4
    rw [List.length_map] at R4
    rw [List.take_length] at ff4 z4
    have z15 : (fs.map szF).sum ≤ 15 := by
      have key : ∀ q ∈ formsTab, (q.2.map szF).sum ≤ 15 := by decide +kernel
      exact key _ (PySem.mem_of_lookup hc)
    refine b_one (s_retX (eX_of (pe_callTy call_tuple_of rfl (T.f "tuple") (by decide +kernel) (pa_cons pe_X pa_nil) (by decide) (by decide)) (eX_ev (v := .ref lf) (ev_name 2 rfl) fun H5 e5 => ⟨lf, _, rfl, .inl ⟨sq_of (e5 _ _ l4), fun q hq => ?_⟩⟩)))
    have E6 : Ex H4 (L2.upd H5 q (.tup (.str z :: vs))) := e5.trans (Ex.new hq)
    refine k q vs ds _ (b4.trans (ebut E6)) ((R4.ex E6).le (by omega) (by omega)) (st_of upd_same) (u4.ext E6) p4 ?_ t4 (by omega)
    show questF z ds (formsTab.lookup z) = true
    rw [hc]
    show (decide (ds.length = fs.length) && ((ofForms ds fs).all id && toldAt 10 (.tuple (.str z :: ds)))) = true
    rw [decide_eq_true dl4, ff4]
    show (true && (true && (isMark z && ds.all (toldAt 9)))) = true
    rw [hzm.1, t4]
    rfl
end
end K96

set_option Elab.async false
set_option linter.all false
set_option maxRecDepth 100000
set_option maxHeartbeats 4000000
/-! The law's answered, refused. -/
namespace K96
open PySem PySem.Spec PyProof.Rows L2 Evl
/-- an exception class as an except clause and its suite need it -/
structure ExcK (K : Fr) (mg : Str → Option Value) (nm : Str) (C : Addr) (fs : List Str) : Prop where
  g : mg nm = some (.ref C)
  xm : PySem.W.exmOne K (.ref C) (.ref C) = some true
  xf : XfC K C
  no : ∀ f ∈ fs, PySem.W.findIn K (.ref C) f = some none
section
variable {X : Cx} {W Wout : WX} {i j k : Nat} {f : Addr} {fd : FuncData} {ps : List Str} {sp : Sp} {x n : Str} {c : Value} {e : Expr} {es : List Expr} {body suite : List Stmt} {b₀ : Stmt} {np p pos pos' : Pos} {σ : Sg} {H : Hp} {Q : VK} {D : Ends}
/-- f(e, ..), f a local name that holds a def which may raise -/
theorem e_callLS (F : FnOk X.prog X.w X.K X.mg X.base (L2.CX X.prog X.w) k f fd ps sp) (hr : Room j X.A) (hk : k ≤ j) (kp : PySem.W.keepIn X.K (.ref f) = true) (hb : Binds X.K fd ps []) (tk : Takes X W) (hs : σ[i]? = some (some (.ref f))) (ha : aX X (e :: es) σ H fun vs H1 => sp vs H1 Q (WE W σ))
    (hN : X.N[i]? = some x := by rfl) (hv : Vis X.env.scope x := by first | exact Or.inl rfl | exact Or.inr (Or.inl rfl) | exact Or.inr (Or.inr rfl)) (hdb : (x == ("__debug__" : Str)) = false := by decide) (hcd : (x == ("__classdict__" : Str)) = false := by decide)
    (he : starEach (e :: es) X.env = (false, eval e X.env) :: starEach es X.env := by rfl) (hpl : (backTo pos (starEach es X.env)).any (·.1) = false := by rfl) : eX X (.Call (.Name x p) (e :: es) [] pos) σ H Q := by
  intro pins s I
  refine wpAny_Call_Name_kw (thn ((pe_var (pos := p) hN hv hdb hcd).run pins s σ H (fun v H1 => v = .ref f ∧ H1 = H) I ⟨.ref f, hs, rfl, rfl⟩) fun u s1 ⟨v, H1, I1, r1, q1⟩ => ?_)
  obtain ⟨rfl, rfl⟩ := q1
  cases r1
  refine PySem.W.callWith_K (h₀ := X.base) I.ok.mod.kin kp (thn (ha pos pins s1 I1) fun us s2 ⟨vs, H2, I2, r, q⟩ => ⟨I2.kIn, ?_⟩) he hpl
  refine run_fnSD (E := WE W) F (hr.mono hk) hb .nil (passAt tk σ) I2 r ?_
  rw [List.append_nil]
  exact q
/-- try: body / except x as n: suite -/
theorem s_tryAs (i : Nat) (h : ∀ (pn : List (Addr × Obj)) (xe : Value → Shared → Prop), Takes (X.tr pn xe) (wAs X.K c i (fun a cls d D σ H => ∀ (oe : Obj) (pn : List (Addr × Obj)), Zc cls d oe → (∃ vs, oe.data = .fields vs) → bX (X.suite a ((a, oe) :: pn)) (b₀ :: suite) D σ H) Wout D) → PassesOwn (model X.prog X.w) X.A X.env xe → bX (X.tr pn xe) body D σ H)
    (hN : X.N.Nodup) (tk : Takes X Wout) (hm : X.mg x = some c) (hi : X.N[i]? = some n := by rfl) (hs : X.stack = X.env :: X.outer := by rfl) (hf : X.env.frame = some X.env.locals := by rfl) (hln : X.env.kindOf n = some .local := by rfl) (hg : Gl X x := by rfl) (hd : (x == ("__debug__" : Str)) = false := by decide) :
    sX X (.Try body [.ExceptHandler (some (.Name x np)) (some n) (b₀ :: suite) pos'] [] [] pos) D σ H :=
  sX_of (ps_try_as (i := i) (tb := fun W D σ H => ∀ (pn : List (Addr × Obj)) (xe : Value → Shared → Prop), Takes (X.tr pn xe) W → PassesOwn (model X.prog X.w) X.A X.env xe → bX (X.tr pn xe) body D σ H) (ts := fun a cls d D σ H => ∀ (oe : Obj) (pn : List (Addr × Obj)), Zc cls d oe → (∃ vs, oe.data = .fields vs) → bX (X.suite a ((a, oe) :: pn)) (b₀ :: suite) D σ H)
    hs hf hN hi hln ⟨hg, hd, .inl hm⟩ tk (fun W pn xe tk po => ⟨fun pins s σ H D I h => h pn xe tk po pins s I⟩) (fun a oe cls d pn hz hf => ⟨fun pins s σ H D I h => h oe pn hz hf pins s I⟩)) h
/-- n.f, n the caught exception -/
theorem ev_xf {a C dd : Addr} {oe : Obj} {cls : Value} {d : Option Addr} {pn : List (Addr × Obj)} {fs : List (Str × V)} {v : V} {m : Str} (T : XfC X.K C) (hno : PySem.W.findIn X.K (.ref C) m = some none) (hz : Zc cls d oe) (hf : ∃ vs, oe.data = .fields vs) (he : EV (X.suite a ((a, oe) :: pn)) e σ H (.ref a)) (ec : cls = .ref C) (ed : d = some dd) (hH : H dd = some (.xd fs)) (hl : fs.lookup m = some v)
    (hb : attributeBase e m X.env (eval e X.env) = eval e X.env := by rfl) : EV (X.suite a ((a, oe) :: pn)) (.Attribute e m pos) σ H v :=
  ev_of (pe_xf T hno hz hf pe_X hb) fun H1 e1 Q q => he H1 e1 _ fun H2 e2 => ⟨rfl, ec, dd, fs, v, ed, (e1.trans e2) _ _ hH, hl, q H2 e2⟩
end
/-- a def as a value -/
structure FnV (P : Program) (w : World) (K : Fr) (mg : Str → Option Value) (base : Heap) (k : Nat) (f : Addr) (sp : Sp) : Prop where
  ex : ∃ (fd : FuncData) (ps : List Str), FnOk P w K mg base (L2.CX P w) k f fd ps sp ∧ PySem.W.keepIn K (.ref f) = true ∧ Binds K fd ps []
def spAns (P : Program) (w : World) (K : Fr) (mg : Str → Option Value) (base : Heap) (A : Adr) (k : Nat) : Sp := fun vs H Q _ => ∃ (f : Addr) (sp : Sp) (v : V), vs = [.ref f, v] ∧ FnV P w K mg base k f sp ∧ ∀ H1, Ex H H1 → ∀ (Q1 : VK) (E1 : XK), (∀ x H2, (∀ p, H2 p = none → ∀ H3, Ex (L2.upd H2 p (.lst [x])) H3 → Q (.ref p) H3) → Q1 x H2) →
  (∀ (dd : Addr) (l i : Int) H2, H2 dd = some (btD l i) → (∀ p H3, H2 p = none → Ex H2 H3 → H3 p = some (.tup [.int l, .int i]) → Q (.ref p) H3) → E1 (.ref A.bt) (some dd) H2) → sp [v] H1 Q1 E1
def spRef (P : Program) (w : World) (K : Fr) (mg : Str → Option Value) (base : Heap) (A : Adr) (k : Nat) : Sp := fun vs H Q _ => ∃ (f : Addr) (sp : Sp) (v : V), vs = [.ref f, v] ∧ FnV P w K mg base k f sp ∧ ∀ H1, Ex H H1 → ∀ (Q1 : VK) (E1 : XK), (∀ x H2, Gives .non H2 Q → Q1 x H2) →
  (∀ (dd : Addr) (u : V) H2, H2 dd = some (bvD u) → Gives u H2 Q → E1 (.ref A.bv) (some dd) H2) → sp [v] H1 Q1 E1
section
variable {P : Program} {w : World} {K : Fr} {mg : Str → Option Value} {base : Heap} {A : Adr}
theorem ok_law_answered (T : Txt K mg) (B : ExcK K mg "BadText" A.bt ["line", "word"]) (k : Nat) (D : Df K mg d_law_answered) : Cl P w K mg base CX0 (k + 1) "_law_answered" (spAns P w K mg base A k) := by
  refine D.cl sc_law_answered (fun vs H Q E h => ?_) (fun _ _ _ _ _ _ us hl => match us, hl with | [_, _], _ => rfl) fun f cdv Ar outer s H vs Q E hr h => ⟨_, pb_X, ?_⟩
  · obtain ⟨f, sp, v, rfl, _⟩ := h
    rfl
  obtain ⟨g, sp, v, rfl, hF, k1⟩ := h
  obtain ⟨fd, ps, F, kp, hb⟩ := hF.ex
  have nd := sc_law_answered.nd
  refine b_cons (s_set 2 (eX_ev ev_non fun H1 e1 => ?_) nd)
  refine b_cons (s_tryAs (Wout := fun _ _ _ _ => False) 3 (fun pn xe tk po => ?_) nd takes0 B.g)
  refine b_one (s_retX (e_lst (a_one (e_callLS (i := 0) F hr (Nat.le_refl _) kp hb tk rfl (a_one (eX_ev (v := v) (ev_name 1 rfl) fun H2 e2 => ?_))))))
  refine k1 H2 (e1.trans e2) _ _ (fun x H3 q => ⟨by show 1 ≤ sizeLine; decide, fun p hp => q p hp _ (Ex.refl _)⟩) fun dd l i H3 hdd q => ?_
  refine ⟨true, B.xm, fun _ a ha oe pn2 hz hf => ?_, fun z => (nomatch z)⟩
  refine b_one (s_set 2 (e_tup (aX_of (pa_cons pe_X (pa_cons pe_X pa_nil)) (eX_ev (v := .int l) (ev_xf B.xf (B.no _ (by decide)) hz hf (ev_name 3 rfl) rfl rfl hdd (look_miss (by decide +kernel) look_hit)) fun H4 e4 => eX_ev (v := .int i) (ev_xf B.xf (B.no _ (by decide)) hz hf (ev_name 3 rfl) rfl rfl (e4 _ _ hdd) look_hit) fun H5 e5 => ⟨by show 2 ≤ sizeLine; decide, fun p hp => ?_⟩))) nd)
  refine b_one (s_ret (ev_name 2 rfl) fun H6 e6 => q p H6 (fresh_back (e4.trans e5) hp) (((e4.trans e5).trans (Ex.new hp)).trans e6) (e6 _ _ upd_same))
theorem ok_law_refused (T : Txt K mg) (B : ExcK K mg "BadValue" A.bv ["part"]) (k : Nat) (D : Df K mg d_law_refused) : Cl P w K mg base CX0 (k + 1) "_law_refused" (spRef P w K mg base A k) := by
  refine D.cl sc_law_refused (fun vs H Q E h => ?_) (fun _ _ _ _ _ _ us hl => match us, hl with | [_, _], _ => rfl) fun f cdv Ar outer s H vs Q E hr h => ⟨_, pb_X, ?_⟩
  · obtain ⟨f, sp, v, rfl, _⟩ := h
    rfl
  obtain ⟨g, sp, v, rfl, hF, k1⟩ := h
  obtain ⟨fd, ps, F, kp, hb⟩ := hF.ex
  have nd := sc_law_refused.nd
  refine b_cons (s_set 2 (eX_ev ev_non fun H1 e1 => ?_) nd)
  refine b_cons (s_tryAs (Wout := fun _ _ _ _ => False) 3 (fun pn xe tk po => ?_) nd takes0 B.g)
  refine b_one (s_expr (e_callLS (i := 0) F hr (Nat.le_refl _) kp hb tk rfl (a_one (eX_ev (v := v) (ev_name 1 rfl) fun H2 e2 => ?_))))
  refine k1 H2 (e1.trans e2) _ _ (fun x H3 q => b_one (s_ret (ev_name 2 rfl) fun H4 e4 => q H4 e4)) fun dd u H3 hdd q => ?_
  refine ⟨true, B.xm, fun _ a ha oe pn2 hz hf => ?_, fun z => (nomatch z)⟩
  refine b_one (s_set 2 (eX_ev (v := u) (ev_xf B.xf (B.no _ (by decide)) hz hf (ev_name 3 rfl) rfl rfl hdd look_hit) fun H4 e4 => ?_) nd)
  exact b_one (s_ret (ev_name 2 rfl) fun H6 e6 => q H6 (e4.trans e6))
end
end K96

set_option Elab.async false
set_option linter.all false
set_option maxRecDepth 100000
set_option maxHeartbeats 4000000
/-! o.__class__.__name__; != by an own == that is inherited. -/
namespace K96
open PySem PySem.Spec PyProof.Rows L2 Evl
section
open PySem.W Builtin Builtin.ObjectAttr Builtin.Getset_descriptor
variable {prog : Program} {w : World} {A : Around} {E : Value → Shared → Prop} {s : Shared} {K : Frag} {R : Result → Shared → Prop} {C x y f : Addr} {nm : Str} {t : Tok} {oC ox : Obj} {od : Option Obj}
theorem cn_dga (d tp : Value) (C : Addr) : descrGetArgs ⟨[d, .ref C, tp], []⟩ = pure (d, some (.ref C), given tp) := by kernel_rfl
theorem cn_get {tp : Value} (X : K.In s.heap) (ty : typeIn K (.ref C) = some (.type "type")) (hK : K.lookup C = some oC) (hsl : oC.slots[2]? = some (some (.str nm t))) (h : R (.ok (.ret (.str nm t))) s) :
    codeAny (model prog w) A (.call (.builtin "getset_descriptor.__get__") ⟨[.builtin "type.__name__", .ref C, tp], []⟩) R s := by
  obtain ⟨hh, g, dr, tt, os⟩ := s
  have L0 : Looks (model prog w) hh (typeOf (.ref C)) (.type "type") := looks_typeIn X ty
  have L1 : Looks (model prog w) hh (isSubtype (.type "type") (.type "type")) true := Looks.of_pure (by rw [isSubtype_type]; kernel_rfl)
  have hC : hh.get? C = some oC := X _ _ hK
  refine codeAny_call_builtin KF.slot_gs.plain KF.entry_gs (KF.slot_gs.check _ _ _ _ _ _ _ _ ktyn_type (KF.args_gs _ _ _) ?_)
  unfold Builtin.«getset_descriptor.__get__» descrGet
  rw [cn_dga]
  refine wpAny_bind (wpAny_pure ?_)
  unfold descrGetter descrCheckInstance descrNameAndClass isInstance
  simp only [ktyn_owner]
  repeat lk
  refine ⟨Code.quiet_builtin _ (by decide +kernel), codeAny_builtin ktyn_entry ?_⟩
  unfold Builtin.«type.__name__»
  dsimp only
  unfold keptObject PySem.slotAt
  dsimp only
  refine wpAny_bind (wpAny_bind (wpAny_loadPart (by exact hC) (wpAny_pure ?_)))
  rw [hsl]
  exact wpAny_pure h
theorem cn_attr {expr : Bool} {Q : Value → Shared → Prop} (X : K.In s.heap) (hr : readsIn K C (.type "type") = true) (e : findCls K (.ref C) (.type "type") "__name__" = some (.get (.builtin "getset_descriptor.__get__") (.builtin "type.__name__") (.ref C) (.type "type"))) (ty : typeIn K (.ref C) = some (.type "type")) (hK : K.lookup C = some oC) (hsl : oC.slots[2]? = some (some (.str nm t)))
    (h : Q (.str nm t) { s with toks := s.toks + 1 }) : wpAny (model prog w) A (getAttr (.ref C) "__name__" expr) Q E s :=
  cls_bind X hr e (wpAny_call (cn_get (s := { s with toks := s.toks + 1 }) X ty hK hsl (handed_on rfl h)))
/-- object.__ne__ of an instance whose class has an own __eq__ somewhere above -/
theorem ifBound_objNe {M : Model} {args : List Value} {Q : Option Value → Shared → Prop} (X : K.In s.heap) (I : InstAt s.heap x ox C od) (hs : findIn K (.ref C) "__ne__" = some (some (.builtin "object.__ne__")))
    (h : wpAny M A (call (.builtin "object.__ne__") (.ref x :: args)) (fun v => Q (some v)) E s) : wpAny M A (callSpecialIfBound? (.ref x) "__ne__" args) Q E s := by
  simp only [callSpecialIfBound?, bindSpecialIfBound?]
  refine wpAny_holding (wpAny_bind (wpAny_bind (wpAny_bind (I.type.here ((looks_findIn X hs).here ?_)))))
  refine wpAny_bind (wpAny_askSetting (wpAny_ite ?_))
  have fin : wpAny M A (call (.builtin "object.__ne__") ([.ref x] ++ args) >>= fun v => pure (some v)) Q E s := wpAny_bind (wpAny_mono h (fun v s' h' => wpAny_pure h') fun _ _ h' => h')
  split
  · exact wpAny_bind (wpAny_of_eq (F.cmp_object.ne.bind _) (wpAny_pure (by exact fin)))
  · exact wpAny_tryCatch (wpAny_bind (wpAny_of_eq (F.cmp_object.ne.bind _) (wpAny_pure (by exact fin))))
theorem entry_objNe (hu : A.units < cLine) (X : K.In s.heap) (I : InstAt s.heap x ox C od) (hs : findIn K (.ref C) "__eq__" = some (some (.ref f))) (hf : isFn K (.ref f) = true) {Q : Fin → Shared → Prop}
    (hcall : wpAny (model prog w) A (call (.ref f) [.ref x, .ref y]) (fun v s' => ∃ b, v = .bool b ∧ Q (.done (.ret (.bool (!b)))) s') E s) : wpAny (model prog w) A (Builtin.«object.__ne__» ⟨[.ref x, .ref y], []⟩) Q E s := by
  unfold Builtin.«object.__ne__»
  repeat (first
    | with_reducible refine wpAny_cRoomFor hu ?_
    | (refine wpAny_bind (m := callSpecialIfBound? (.ref x) (Str.ofString "__eq__") [.ref y])
        (ifBound_K X I hs hf (wpAny_mono hcall (fun r s' hr => by
          obtain ⟨b, rfl, hq⟩ := hr
          repeat (first | exact hq | exact wpAny_pure hq | exact wpAny_truthy_bool hq | (refine wpAny_bind (m := truthy (.bool _)) (wpAny_truthy_bool ?_)) | wp_step)) fun _ _ e => e)))
    | wp_step)
theorem rc_objNe (hu : A.units + 1 < cLine) (X : K.In s.heap) (I : InstAt s.heap x ox C od) (hb : Looks (model prog w) s.heap (typeOf (.ref y)) (.ref C)) (hm : mroIn K C (.type "object") = some true) (hne : findIn K (.ref C) "__ne__" = some (some (.builtin "object.__ne__"))) (hs : findIn K (.ref C) "__eq__" = some (some (.ref f))) (hf : isFn K (.ref f) = true) {Q : Value → Shared → Prop}
    (hcall : wpAny (model prog w) A.in1 (call (.ref f) [.ref x, .ref y]) (fun v s' => ∃ b, v = .bool b ∧ Q (.bool (!b)) s') E s) : wpAny (model prog w) A (richCompare .NotEq (.ref x) (.ref y)) Q E s := by
  have one : wpAny (model prog w) A (tryCompare (.ref x) "__ne__" (.ref y)) (fun r s' => ∃ v, r = some v ∧ Q v s') E s := by
    unfold tryCompare
    refine wpAny_bind (ifBound_objNe X I hne (wpAny_call (codeAny_call_builtin F.cmp_object.ne.plain F.cmpEntry_ne (check_slot F.cmpKind_ne F.cmpSplit_ne (I.type.andThen (looks_mroIn X hm)) (F.cmpArgs_ne _ _)
      (entry_objNe (A := A.in1) hu X I hs hf (wpAny_mono hcall (fun v s' hv => ?_) fun _ _ e => e))))))
    obtain ⟨b, rfl, hq⟩ := hv
    exact ⟨b, rfl, wpAny_pure ⟨_, rfl, hq⟩⟩
  unfold richCompare
  simp only [oneThing_ref]
  refine wpAny_holding ?_
  refine wpAny_bind (wpAny_cRoomFor (Nat.lt_of_succ_lt hu) ?_)
  rw [cmpInfo_NotEq]
  dsimp only
  refine wpAny_bind (I.type.here (wpAny_bind (hb.here ?_)))
  rw [show (Value.ref C != Value.ref C) = false from by simp]
  simp only [Bool.false_eq_true, if_false]
  refine wpAny_bind (wpAny_pure ?_)
  simp only [Bool.false_eq_true, if_false]
  refine wpAny_bind (wpAny_mono one (fun v s' hv => ?_) fun _ _ e => e)
  obtain ⟨u, rfl, hq⟩ := hv
  first | exact wpAny_pure hq | exact hq | exact wpAny_pure (wpAny_pure hq)
end
/-- a class whose instances have a class with a name, and an own == above -/
structure NmC (K : Fr) (C : Addr) (nm : Str) (fe : Addr) : Prop where
  cl : Cls K C
  ic : PySem.W.isClsIn K C = true
  ca : PySem.W.findIn K (.ref C) "__class__" = some (some (.builtin "object.__class__"))
  cn : PySem.W.specialIn K (.builtin "object.__class__") "__get__" = some (some (.builtin "getset_descriptor.__get__"))
  ct : PySem.W.takesIn K (.builtin "object.__class__") = some true
  mo : PySem.W.mroIn K C (.type "object") = some true
  rd : PySem.W.readsIn K C (.type "type") = true
  fc : PySem.W.findCls K (.ref C) (.type "type") "__name__" = some (.get (.builtin "getset_descriptor.__get__") (.builtin "type.__name__") (.ref C) (.type "type"))
  ty : PySem.W.typeIn K (.ref C) = some (.type "type")
  lk : ∃ oC t, K.lookup C = some oC ∧ oC.slots[2]? = some (some (.str nm t))
  eq : PySem.W.findIn K (.ref C) "__eq__" = some (some (.ref fe))
  fn : PySem.W.isFn K (.ref fe) = true
  ne : PySem.W.findIn K (.ref C) "__ne__" = some (some (.builtin "object.__ne__"))
section
variable {X : Cx} {e o : Expr} {ta : TE} {pos : Pos} {σ : Sg} {H : Hp}
theorem pe_class (he : PE X e ta) (hb : attributeBase e "__class__" X.env (eval e X.env) = eval e X.env := by rfl) :
    PE X (.Attribute e "__class__" pos) (fun σ H Q => ta σ H fun x H1 => ∃ a C dx fs nm fe, x = .ref a ∧ H1 a = some (.ins C dx fs) ∧ NmC X.K C nm fe ∧ Q (.ref C) H1) := by
  refine ⟨fun pins s σ H Q I h => ?_⟩
  refine attr_of hb (thn (he.run pins s σ H _ I h) fun u s1 hh => ?_)
  obtain ⟨x, H1, I1, rx, a, C, dx, fs, nm, fe, ex, ea, N, q⟩ := hh
  subst ex
  obtain rfl : u = Value.ref a := rx
  obtain ⟨mA, J, _⟩ := ins_get I1.hok ea
  obtain ⟨od, J, _⟩ := J.look
  have hf : PySem.W.findObj X.K C (some od) "__class__" = some (.bind (.builtin "getset_descriptor.__get__") (.builtin "object.__class__")) := PySem.W.findObj_data N.ic N.ca N.cn N.ct
  exact PySem.W.get_bind I1.kIn J (PySem.W.plainGet_of (N.cl.get "__class__")).1 hf (PySem.W.plainGet_of (N.cl.get "__class__")).2
    (wpAny_call (PySem.W.class_get (s := { s1 with toks := s1.toks + 1 }) I1.kIn J N.mo (PySem.W.handed_on rfl ⟨.ref C, H1, I1.tok _, rfl, q⟩)))
theorem pe_cname (he : PE X e ta) (hb : attributeBase e "__name__" X.env (eval e X.env) = eval e X.env := by rfl) :
    PE X (.Attribute e "__name__" pos) (fun σ H Q => ta σ H fun x H1 => ∃ C nm fe, x = .ref C ∧ NmC X.K C nm fe ∧ Q (.str nm) H1) := by
  refine ⟨fun pins s σ H Q I h => ?_⟩
  refine attr_of hb (thn (he.run pins s σ H _ I h) fun u s1 hh => ?_)
  obtain ⟨x, H1, I1, rx, C, nm, fe, ex, N, q⟩ := hh
  subst ex
  obtain rfl : u = Value.ref C := rx
  obtain ⟨oC, t, hK, hsl⟩ := N.lk
  exact cn_attr I1.kIn N.rd N.fc N.ty hK hsl ⟨.str nm, H1, I1.tok _, ⟨t, rfl⟩, q⟩
/-- o.__class__.__name__ -/
theorem ev_cname {x C dx fe : Addr} {fs : List (Str × V)} {nm : Str} {p2 : Pos} (ho : EV X o σ H (.ref x)) (hx : H x = some (.ins C dx fs)) (N : NmC X.K C nm fe) (hb : attributeBase o "__class__" X.env (eval o X.env) = eval o X.env := by rfl) (hb2 : attributeBase (.Attribute o "__class__" p2) "__name__" X.env (eval (.Attribute o "__class__" p2) X.env) = eval (.Attribute o "__class__" p2) X.env := by rfl) :
    EV X (.Attribute (.Attribute o "__class__" p2) "__name__" pos) σ H (.str nm) :=
  ev_of (pe_cname (pe_class pe_X hb) hb2) fun H1 e1 Q q => ho H1 e1 _ fun H2 e2 => ⟨x, C, dx, fs, nm, fe, rfl, (e1.trans e2) _ _ hx, N, C, nm, fe, rfl, N, q H2 e2⟩
end
/-- two papers that are equal -/
def EqP (K : Fr) (A : Adr) (f : Addr) (a b : Addr) (H : Hp) : Prop := ∃ C z ds nm t, PapI K H a C z ds ∧ PapI K H b C z ds ∧ plainL ds = true ∧ SeqAt.shaped (.tuple ds) = true ∧ KOk K C ∧ NmC K C nm f ∧ TyX K H (.ref b) t ∧ PySem.W.kitOne K t (.ref A.paper) = some true
def rNeP (K : Fr) (A : Adr) (f : Addr) : R2 := fun x y H Q => ∃ a b, x = .ref a ∧ y = .ref b ∧ EqP K A f a b H ∧ ∀ H', Ex H H' → Q (.bl false) H'
section
variable {X : Cx} {A : Adr} {n : Nat} {CX : CXT} {f : Addr} {fd : FuncData} {ps : List Str} {E : XK}
theorem op_neP (F : FnOk X.prog X.w X.K X.mg X.base CX n f fd ps (spEq (EqP X.K A f))) (hb : Binds X.K fd ps []) (hx : Passes CX X E) (hr : Room (n + 1) X.A) : OpR X (compareOp .NotEq) (rNeP X.K A f) := by
  intro pins s σ H x y v u Q I rx ry h
  obtain ⟨a, b, rfl, rfl, hR, q⟩ := h
  cases rx
  cases ry
  obtain ⟨C, z, ds, nm, t, Ia, Ib, pl, sh, KO, N, ty, kt⟩ := id hR
  obtain ⟨dx, fs, q1, ws, ha, _⟩ := Ia.ob
  obtain ⟨dy, gs, q2, ws2, hbb, _⟩ := Ib.ob
  obtain ⟨mA, J, _⟩ := ins_get I.hok ha
  obtain ⟨mB, J', _⟩ := ins_get I.hok hbb
  obtain ⟨od, J, _⟩ := J.look
  obtain ⟨od', J', _⟩ := J'.look
  show wpAny (model X.prog X.w) X.A (richCompare .NotEq (.ref a) (.ref b)) (EP X pins σ Q) X.xe s
  refine rc_objNe (Nat.lt_of_le_of_lt (Nat.add_le_add_left (by decide : 1 ≤ 64) _) hr.units) I.kIn J J'.type N.mo N.ne N.eq N.fn ?_
  have hsp : spEq (EqP X.K A f) [.ref a, .ref b] H (fun v H' => v = .bl true ∧ Ext H H') E := ⟨a, b, rfl, hR, fun H' e => ⟨rfl, e⟩⟩
  have e0 : Env0 X.prog X.w X.K X.mg X.base X.A.in1 X.stack s H := by
    have e := I.env0
    exact ⟨e.frames, e.mod, e.bs, e.bsz, e.funs, e.frf, e.hok, e.bare⟩
  have hl := F.len _ _ _ _ hsp
  have r2 : Vals [V.ref a, V.ref b] [Value.ref a, Value.ref b] := .cons rfl (.cons rfl .nil)
  refine wpAny_call (codeAny_mono (F.run X.A.in1 X.stack s H ⟨[.ref a, .ref b], []⟩ [.ref a, .ref b] [.ref a, .ref b] _ E hr.in1 e0 (by
    have := hb s [.ref a, .ref b] I.kIn (by simpa using hl)
    simpa using this) r2 hsp) fun r s' hq => ?_)
  cases r with
  | error e => exact hx pins σ H s e s' I hq
  | ok fl =>
    cases fl with
    | ret w =>
      obtain ⟨z, H', I', rz, ez, ex⟩ := I.after hq
      subst ez
      cases rz
      exact ⟨true, rfl, .bl false, H', I', rfl, q H' ex⟩
    | next => exact False.elim hq
    | brk => exact False.elim hq
    | cont => exact False.elim hq
end
section
variable {P : Program} {w : World} {K : Fr} {mg : Str → Option Value} {base : Heap} {A : Adr}
theorem ok_Paper_eq (T : Txt K mg) (N : PapN K mg A) {f : Addr} (D : DfA K d_Paper_eq f) : ∃ fd, FnOk P w K mg base CX0 1 f fd ["self", "other"] (spEq (EqP K A f)) ∧ Binds K fd ["self", "other"] [] := by
  refine D.ok sc_Paper_eq (fun vs H Q E h => ?_) (fun _ _ _ _ _ _ us hl => match us, hl with | [_, _], _ => rfl) fun cdv Ar outer s H vs Q E hr h => ?_
  · obtain ⟨a, b, rfl, _⟩ := h
    rfl
  obtain ⟨a, b, rfl, hR, k⟩ := h
  obtain ⟨C, z, ds, nm, t, Ia, Ib, pl, sh, KO, NC, ty, kt⟩ := hR
  obtain ⟨dx, fs, q1, ws1, hxa, hwa, hpa, hqa, hua, _⟩ := Ia.ob
  obtain ⟨dy, gs, q2, ws2, hxb, hwb, hpb, hqb, hub, _⟩ := Ib.ob
  refine b_cons (s_if (k := false) (et_w (ew_or (k := false) (l := false) (et_not (k := true) (et_val (ev_fun call_isi (T.f "isinstance") (ea_cons (ev_name 1 rfl) (ea_cons (x := .ref A.paper) (ev_gl ⟨_, N.p, rfl⟩) ea_nil)) (fun H1 e1 Q q => ⟨.ref b, .ref A.paper, t, .ref A.paper, true, rfl, .own _, TyX.ext ty e1, kt, q H1 (Ex.refl H1)⟩)))) fun _ => ew_or1 (et_is (et_cmp op_ne (ev_cname (ev_name 0 rfl) hxa NC) (ev_cname (ev_name 1 rfl) hxb NC) (rv_ne rfl)) (by simp)))) (fun z => (nomatch z)) fun _ H1 e1 => b_nil ?_)
  have cl := SeqAt.canLay_of_shaped sh
  refine b_one (s_ret (v := .bl true) (ev_tyc call_bool1 (T.f "bool") (ea_cons (x := .bl (true && true)) (ev_and (ev_is (ev_cmp op_eq (ev_fld (ev_name 0 rfl) (e1 _ _ hxa) KO.cl (KO.no _ (by decide +kernel)) hwa) (ev_fld (ev_name 1 rfl) (e1 _ _ hxb) KO.cl (KO.no _ (by decide +kernel)) hwb) (rv_eq rfl)) (by simp)) fun _ => ev_one (ev_cmp (op_eqD hr.units) (ev_fld (ev_name 0 rfl) (e1 _ _ hxa) KO.cl (KO.no _ (by decide +kernel)) hpa) (ev_fld (ev_name 1 rfl) (e1 _ _ hxb) KO.cl (KO.no _ (by decide +kernel)) hpb) fun H2 e2 Q q => ?_)) ea_nil) fun H2 e2 Q q => .inr ⟨true, rfl, q H2 (Ex.refl H2)⟩) fun H2 e2 => k H2 (e1.trans e2))
  have E2 := e1.trans e2
  refine ⟨.tuple ds, .tuple ds, .tup (ex_t (hide_ex.trans E2) hqa) ((hua.ext (hide_ex.trans E2)).dp pl), .tup (ex_t (hide_ex.trans E2) hqb) ((hub.ext (hide_ex.trans E2)).dp pl), sh, sh, ?_⟩
  rw [SeqAt.eqv_refl _ cl]
  exact q H2 (Ex.refl H2)
end
end K96

set_option Elab.async false
set_option linter.all false
set_option maxRecDepth 100000
set_option maxHeartbeats 4000000
/-! The plain law: words and what they tell. -/
namespace K96
open PySem PySem.Spec PyProof.Rows L2 Evl TL
theorem ext_l {z w : Str} (h : z.cps.toList = w.cps.toList) : z = w := ext_tl h
theorem cut_head {z : Str} {c : Nat} {cs : List Nat} (h : z.cps.toList = c :: cs) : (head1 z).cps.toList = [c] ∧ (tail1 z).cps.toList = cs := by
  have h2 : (head1 z).cps.toList = (z.cps.toList.drop 0).take (HT.sIx z.length z.length (some (1 : Nat)) - 0) := rfl
  have h3 : (tail1 z).cps.toList = (z.cps.toList.drop (HT.sIx z.length 0 (some (1 : Nat)))).take (z.length - HT.sIx z.length 0 (some (1 : Nat))) := rfl
  rw [HT.sIx_nat] at h2 h3
  have hl : z.length = (c :: cs).length := by rw [len_list, h]
  rw [h, hl] at h2 h3
  have hm : min 1 (c :: cs).length = 1 := by simp
  rw [hm] at h2 h3
  have h4 : (c :: cs).length - 1 = cs.length := rfl
  rw [h4] at h3
  exact ⟨h2, h3.trans (by show cs.take cs.length = cs; exact List.take_length)⟩
theorem head_is {z y : Str} {c : Nat} (hy : y.cps.toList = [c]) (hn : z ≠ Str.empty ∨ True) (h : V.str (head1 z) = V.str y) : z.cps.toList = c :: (tail1 z).cps.toList := by
  have h1 : (head1 z).cps.toList = [c] := by rw [V.str.inj h]; exact hy
  cases e : z.cps.toList with
  | nil =>
    have h2 : (head1 z).cps.toList = (z.cps.toList.drop 0).take (HT.sIx z.length z.length (some (1 : Nat)) - 0) := rfl
    rw [e] at h2
    rw [h2] at h1
    simp at h1
  | cons d cs =>
    obtain ⟨a1, a2⟩ := cut_head e
    rw [a1] at h1
    rw [a2, (List.cons.inj h1).1]
theorem head_ne {z y : Str} {c d : Nat} {cs : List Nat} (h : z.cps.toList = c :: cs) (hy : y.cps.toList = [d]) (hn : c ≠ d) : ¬ V.str (head1 z) = V.str y := fun e => by
  have h1 : (head1 z).cps.toList = [d] := by rw [V.str.inj e]; exact hy
  rw [(cut_head h).1] at h1
  exact hn (List.cons.inj h1).1
theorem head_yes {z y : Str} {c : Nat} {cs : List Nat} (h : z.cps.toList = c :: cs) (hy : y.cps.toList = [c]) : V.str (head1 z) = V.str y := congrArg V.str (ext_l ((cut_head h).1.trans hy.symm))
theorem digs_list : digits.cps.toList = (List.range 10).map (48 + ·) := by decide +kernel
theorem dg_of {z : Str} {cs : List Nat} (h : z.cps.toList = cs) (ha : NumText.AllDigits cs) (hn : cs ≠ []) (hl : cs.length ≤ 12) (h0 : cs = [48] ∨ cs.head? ≠ some 48) : isDg z = true := by
  unfold isDg digV zeroV
  have hlen : z.length = cs.length := by rw [len_list, h]
  have hpos : 1 ≤ cs.length := by
    cases cs with
    | nil => exact absurd rfl hn
    | cons a b => exact Nat.succ_le_succ (Nat.zero_le _)
  rw [decide_eq_true (show 1 ≤ z.length by omega), decide_eq_true (show z.length ≤ 12 by omega)]
  have hall : (z.cps.toList.all fun c => decide (c ∈ digits.cps.toList)) = true := by
    rw [h]
    refine List.all_eq_true.mpr fun c hc => decide_eq_true ?_
    have := ha c hc
    rw [digs_list]
    exact List.mem_map.mpr ⟨c - 48, List.mem_range.mpr (by omega), by omega⟩
  rw [hall]
  show (true && (decide (V.str z = V.str "0") || !decide (V.str ⟨#[z.cps.getD 0 0]⟩ = V.str "0"))) = true
  rw [Bool.true_and]
  rcases h0 with e | e
  · rw [decide_eq_true (congrArg V.str (ext_l (by rw [h, e]; decide +kernel)))]
    rfl
  · have : ¬ V.str ⟨#[z.cps.getD 0 0]⟩ = V.str "0" := fun q => by
      have q1 := congrArg (fun s : Str => s.cps.toList) (V.str.inj q)
      have q2 : ("0" : Str).cps.toList = [48] := by decide +kernel
      have q3 : [z.cps.getD 0 0] = ([48] : List Nat) := q1.trans q2
      cases cs with
      | nil => exact hn rfl
      | cons a b =>
        apply e
        have q4 : z.cps.getD 0 0 = a := by
          have : z.cps[0]? = some a := by rw [← Array.getElem?_toList, h]; rfl
          simp [Array.getD_eq_getD_getElem?, this]
        rw [q4] at q3
        exact congrArg some (List.cons.inj q3).1
    rw [decide_eq_false this]
    exact Bool.or_true _
theorem numL_head : ∀ n : Nat, n = 0 ∧ numL n = [48] ∨ (numL n).head? ≠ some 48 := fun n => by
  induction n using Nat.strongRecOn with
  | _ n ih =>
    by_cases h : n < 10
    · rw [numL_lt h]
      by_cases h0 : n = 0
      · left
        exact ⟨h0, by rw [h0]⟩
      · right
        intro e
        have : 48 + n = 48 := Option.some.inj e
        omega
    · right
      rw [numL_step (by omega)]
      rcases ih (n / 10) (by omega) with ⟨e, _⟩ | e
      · omega
      · have hne := numL_ne (n / 10)
        cases q : numL (n / 10) with
        | nil => exact absurd q hne
        | cons a b =>
          rw [q] at e
          exact e
def signsI (i : Int) : List Nat := if i < 0 then 45 :: numL i.natAbs else numL i.natAbs
theorem signs_int (i : Int) : ((toString i : Str)).cps.toList = signsI i := by
  cases i with
  | ofNat m => exact tl_num m
  | negSucc m =>
    have e : (toString (Int.negSucc m) : String) = "-" ++ Nat.repr (m + 1) := rfl
    unfold signsI
    rw [if_pos (Int.negSucc_lt_zero m)]
    show (Str.ofString (toString (Int.negSucc m))).cps.toList = 45 :: numL (m + 1)
    rw [e, PyProof.Rows.signs_ofString, String.toList_append, List.map_append, Nat.toList_repr]
    rfl
theorem num12 {i : Int} (h1 : 0 - mostV ≤ i) (h2 : i ≤ mostV) : (numL i.natAbs).length ≤ 12 := by
  rw [mostV_is] at h1 h2
  exact numL_len (by decide) (show i.natAbs < 10 ^ 12 by have : (10 : Nat) ^ 12 = 1000000000000 := by decide
                                                         omega)
theorem signed_back {i : Int} (h1 : 0 - mostV ≤ i) (h2 : i ≤ mostV) : signed (toString i : Str) = some i := by
  have hs := signs_int i
  have hl := num12 h1 h2
  have hd := numL_digits i.natAbs
  have hne := numL_ne i.natAbs
  have c45 : ("-" : Str).cps.toList = [45] := by decide +kernel
  unfold signed
  by_cases hi : i < 0
  · unfold signsI at hs
    rw [if_pos hi] at hs
    have hu : unsigned (toString i : Str) = tail1 (toString i : Str) := if_pos (decide_eq_true (head_yes hs c45))
    have hh : (numL i.natAbs).head? ≠ some 48 := by
      rcases numL_head i.natAbs with ⟨e, _⟩ | e
      · omega
      · exact e
    have hdg : isDg (tail1 (toString i : Str)) = true := dg_of (cut_head hs).2 hd hne hl (.inr hh)
    have hz : ¬ V.str (toString i : Str) = V.str "-0" := fun e => by
      have h3 : ("-0" : Str).cps.toList = [45, 48] := by decide +kernel
      rw [V.str.inj e, h3] at hs
      apply hh
      rw [← (List.cons.inj hs).2]
      rfl
    rw [hu, hdg, decide_eq_false hz, if_neg (by decide), intText_neg hs hd hne (by rw [len_list, hs]; show (numL i.natAbs).length + 1 ≤ 4300; omega), numL_val]
    congr 1
    omega
  · unfold signsI at hs
    rw [if_neg hi] at hs
    have hnm : ¬ V.str (head1 (toString i : Str)) = V.str "-" := fun e => by
      have := head_minus e
      rw [hs] at this
      have h4 := hd 45 (by rw [this]; exact List.mem_cons_self ..)
      omega
    have hu : unsigned (toString i : Str) = (toString i : Str) := if_neg (fun w => hnm (of_decide_eq_true w))
    have hdg : isDg (toString i : Str) = true := dg_of hs hd hne hl (by
      rcases numL_head i.natAbs with ⟨_, e⟩ | e
      · exact .inl e
      · exact .inr e)
    have hz : ¬ V.str (toString i : Str) = V.str "-0" := fun e => by
      have h3 : ("-0" : Str).cps.toList = [45, 48] := by decide +kernel
      rw [V.str.inj e, h3] at hs
      have h4 := hd 45 (by rw [← hs]; exact List.mem_cons_self ..)
      omega
    rw [hu, hdg, decide_eq_false hz, if_neg (by decide), intText_digits (by rw [hs]; exact hd) (by rw [hs]; exact hne) (by rw [len_list, hs]; omega), hs, numL_val]
    congr 1
    omega
theorem digs_back {cs : List Nat} (h : NumText.AllDigits cs) (hn : cs ≠ []) (h0 : cs = [48] ∨ cs.head? ≠ some 48) : numL (NumText.digitsVal cs) = cs := by
  have e := NumText.toDigits_digitsVal (cs.length - 1) cs (by
    cases cs with
    | nil => exact absurd rfl hn
    | cons a b => rfl) h (by
    rcases h0 with e | e
    · left
      rw [e]
      rfl
    · right
      cases cs with
      | nil => exact absurd rfl hn
      | cons a b =>
        refine ⟨a, b, rfl, ?_⟩
        have h1 := h a (List.mem_cons_self ..)
        have h2 : a ≠ 48 := fun q => e (congrArg some q)
        omega)
  show (Nat.toDigits 10 (NumText.digitsVal cs)).map Char.toNat = cs
  rw [e, List.map_map]
  have key : ∀ c : Nat, c < 58 → (Char.ofNat c).toNat = c := by decide
  have : ∀ l : List Nat, (∀ c ∈ l, c < 58) → l.map (Char.toNat ∘ Char.ofNat) = l := fun l => by
    induction l with
    | nil => exact fun _ => rfl
    | cons a b ih =>
      intro hh
      rw [List.map_cons, ih fun c hc => hh c (List.mem_cons_of_mem _ hc)]
      exact congrArg (· :: b) (key a (hh a (List.mem_cons_self ..)))
  exact this cs fun c hc => by
    have := h c hc
    omega
theorem signed_word {z : Str} {n : Int} (h : signed z = some n) : (toString n : Str) = z := by
  refine ext_l ((signs_int n).trans ?_)
  unfold signsI
  rcases signed_is h with ⟨cs, hz, a, ne, l, rfl, h0⟩ | ⟨cs, hz, a, ne, l, rfl, h0⟩
  · rw [if_neg (by omega), hz]
    exact digs_back a ne h0
  · have hb := digs_back a ne (.inr h0)
    have hp : 0 < NumText.digitsVal cs := by
      rcases Nat.eq_zero_or_pos (NumText.digitsVal cs) with e | e
      · exfalso
        rw [e] at hb
        apply h0
        rw [← hb]
        decide
      · exact e
    rw [if_pos (by omega), hz]
    have : (-((NumText.digitsVal cs : Nat) : Int)).natAbs = NumText.digitsVal cs := by omega
    rw [this, hb]
/-- a single's word -/
theorem single_back {d : PyData} (h : singleD d = true) : ∃ w, wordsD d = [w] ∧ singleW w = some d ∧ w ≠ "(" ∧ w ≠ ")" := by
  have fin : ∀ {w : Str}, singleW w = some d → w ≠ "(" ∧ w ≠ ")" := fun {w} hw => by
    have k1 : (singleW "(").isNone = true := by decide +kernel
    have k2 : (singleW ")").isNone = true := by decide +kernel
    exact ⟨(fun e => by rw [e] at hw; rw [hw] at k1; cases k1), (fun e => by rw [e] at hw; rw [hw] at k2; cases k2)⟩
  have c45 : ("-" : Str).cps.toList = [45] := by decide +kernel
  have c61 : ("=" : Str).cps.toList = [61] := by decide +kernel
  cases d with
  | none => exact ⟨"-", rfl, if_pos (decide_eq_true rfl), by decide +kernel, by decide +kernel⟩
  | str s =>
    have hl : (markS s).cps.toList = 61 :: s.cps.toList := by
      show tl (("=" : Str) ++ s) = _
      rw [tl_append]
      show ("=" : Str).cps.toList ++ _ = _
      rw [c61]
      rfl
    have ht : tail1 (markS s) = s := ext_l (cut_head hl).2
    have hw : singleW (markS s) = some (.str s) := by
      unfold singleW
      have n1 : ¬ V.str (markS s) = V.str "-" := fun e => by
        rw [V.str.inj e, c45] at hl
        exact absurd (List.cons.inj hl).1 (by decide)
      rw [if_neg (fun w => n1 (of_decide_eq_true w)), if_pos (decide_eq_true (head_yes hl c61)), ht, if_pos (show isMark s = true from h)]
    exact ⟨_, rfl, hw, fin hw⟩
  | int i =>
    obtain ⟨h1, h2⟩ := Bool.and_eq_true_iff.mp (show (decide (0 - mostV ≤ i) && decide (i ≤ mostV)) = true from h)
    have hsg := signed_back (of_decide_eq_true h1) (of_decide_eq_true h2)
    have hs := signs_int i
    have hd := numL_digits i.natAbs
    have hne := numL_ne i.natAbs
    have hw : singleW (toString i : Str) = some (.int i) := by
      unfold singleW
      have n1 : ¬ V.str (toString i : Str) = V.str "-" := fun e => by
        rw [V.str.inj e, c45] at hs
        unfold signsI at hs
        split at hs
        · exact hne (List.cons.inj hs).2.symm
        · have := hd 45 (by rw [← hs]; exact List.mem_cons_self ..)
          omega
      have n2 : ¬ V.str (head1 (toString i : Str)) = V.str "=" := fun e => by
        have := head_is c61 (.inr trivial) e
        rw [hs] at this
        unfold signsI at this
        split at this
        · exact absurd (List.cons.inj this).1 (by decide)
        · have := hd 61 (by rw [this]; exact List.mem_cons_self ..)
          omega
      rw [if_neg (fun w => n1 (of_decide_eq_true w)), if_neg (fun w => n2 (of_decide_eq_true w)), hsg]
      rfl
    exact ⟨_, rfl, hw, fin hw⟩
  | _ => cases h
theorem word_single {w : Str} {x : PyData} (h : singleW w = some x) : wordsD x = [w] := by
  have c61 : ("=" : Str).cps.toList = [61] := by decide +kernel
  unfold singleW at h
  split at h
  · rename_i hb
    cases h
    exact congrArg (fun z => [z]) (V.str.inj (of_decide_eq_true hb)).symm
  · split at h
    · rename_i hb
      split at h
      · cases h
        have := head_is c61 (.inr trivial) (of_decide_eq_true hb)
        refine congrArg (fun z => [z]) (ext_l ?_)
        rw [this]
        show tl (("=" : Str) ++ tail1 w) = _
        rw [tl_append]
        show ("=" : Str).cps.toList ++ _ = _
        rw [c61]
        rfl
      · cases h
    · obtain ⟨n, hn, rfl⟩ := Option.map_eq_some_iff.mp h
      exact congrArg (fun z => [z]) (signed_word hn)
end K96

set_option Elab.async false
set_option linter.all false
set_option maxRecDepth 100000
set_option maxHeartbeats 4000000
/-! The plain law: what is told of written words, and what told words were. -/
namespace K96
open PySem PySem.Spec PyProof.Rows L2 Evl TL
theorem drop_at {ws : List Str} {i : Nat} {w : Str} {us : List Str} (h : ws.drop i = w :: us) : ws[i]? = some w ∧ ws.drop (i + 1) = us := by
  have h1 : (ws.drop i)[0]? = some w := by rw [h]; rfl
  rw [List.getElem?_drop] at h1
  refine ⟨h1, ?_⟩
  have h2 : (ws.drop i).drop 1 = us := by rw [h]; rfl
  rw [List.drop_drop] at h2
  exact h2
theorem at_drop {ws : List Str} {i : Nat} {w : Str} (h : ws[i]? = some w) : ws.drop i = w :: ws.drop (i + 1) := by
  obtain ⟨hi, e⟩ := List.getElem?_eq_some_iff.mp h
  rw [List.drop_eq_getElem_cons hi, e]
theorem ahead_some {ws : List Str} {i : Nat} {w : Str} (h : ws[i]? = some w) : aheadV ws i = V.str w := by
  unfold aheadV
  rw [h]
theorem go_open {ws : List Str} {n i : Nat} {st : List (List PyData)} (h : ws[i]? = some ("(" : Str)) (hs : st.length < 10) : toldGo ws (n + 1) i st = toldGo ws n (i + 1) ([] :: st) := by
  rw [toldGo, ahead_some h, if_pos (decide_eq_true rfl), if_neg (fun e => by have := of_decide_eq_true e; omega)]
theorem go_close {ws : List Str} {n i : Nat} {top : List PyData} {st : List (List PyData)} (h : ws[i]? = some (")" : Str)) : toldGo ws (n + 1) i (top :: st) = fin2 (toldGo ws n) (.tuple top) (i + 1) st := by
  rw [toldGo, ahead_some h, if_neg (by decide +kernel), if_pos]
  · rfl
  · rw [decide_eq_true rfl]
    rfl
theorem go_single {ws : List Str} {n i : Nat} {w : Str} {x : PyData} {st : List (List PyData)} (h : ws[i]? = some w) (hx : singleW w = some x) (n1 : w ≠ "(") (n2 : w ≠ ")") : toldGo ws (n + 1) i st = fin2 (toldGo ws n) x (i + 1) st := by
  rw [toldGo, ahead_some h, if_neg (fun e => n1 (V.str.inj (of_decide_eq_true e))), if_neg (fun e => n2 (V.str.inj (of_decide_eq_true (Bool.and_eq_true_iff.mp e).2))), h]
  show (match singleW w with | none => _ | some x => _) = _
  rw [hx]
theorem told_single_of {n : Nat} {d : PyData} (h : toldAt n d = true) (hd : isTupD d = false) : singleD d = true := by
  cases d with
  | tuple xs => cases hd
  | _ => cases n <;> exact h
mutual
/-- what is told of written words -/
theorem go_words (ws : List Str) : ∀ (d : PyData) (k i m : Nat) (us : List Str) (st : List (List PyData)), toldAt k d = true → st.length + k ≤ 10 → ws.drop i = wordsD d ++ us → toldGo ws ((wordsD d).length + m) i st = fin2 (toldGo ws m) d (i + (wordsD d).length) st ∧ ws.drop (i + (wordsD d).length) = us
  | .tuple xs, 0, i, m, us, st, h, _, _ => by cases h
  | .tuple xs, k + 1, i, m, us, st, h, hk, hd => by
    have h : xs.all (toldAt k) = true := h
    have hd : ws.drop i = ("(" : Str) :: ((wordsL xs ++ [(")" : Str)]) ++ us) := hd
    obtain ⟨a1, a2⟩ := drop_at hd
    rw [List.append_assoc] at a2
    have hlen : (wordsD (.tuple xs)).length = (wordsL xs).length + 2 := by
      show (("(" : Str) :: (wordsL xs ++ [(")" : Str)])).length = _
      rw [List.length_cons, List.length_append]
      rfl
    obtain ⟨b1, b2⟩ := go_wordsL ws xs k (i + 1) (m + 1) ((")" : Str) :: us) [] st h (by omega) a2
    obtain ⟨c1, c2⟩ := drop_at b2
    rw [hlen]
    have e1 : (wordsL xs).length + 2 + m = ((wordsL xs).length + (m + 1)) + 1 := by omega
    have e2 : i + ((wordsL xs).length + 2) = i + 1 + (wordsL xs).length + 1 := by omega
    rw [e1, e2, go_open a1 (by omega), b1, go_close c1]
    exact ⟨rfl, c2⟩
  | .none, k, i, m, us, st, h, hk, hd => go_one ws (told_single_of h rfl) hd
  | .bool b, k, i, m, us, st, h, hk, hd => go_one ws (told_single_of h rfl) hd
  | .int n, k, i, m, us, st, h, hk, hd => go_one ws (told_single_of h rfl) hd
  | .str s, k, i, m, us, st, h, hk, hd => go_one ws (told_single_of h rfl) hd
  | .list s, k, i, m, us, st, h, hk, hd => go_one ws (told_single_of h rfl) hd
  | .dict s, k, i, m, us, st, h, hk, hd => go_one ws (told_single_of h rfl) hd
theorem go_wordsL (ws : List Str) : ∀ (xs : List PyData) (k i m : Nat) (us : List Str) (top : List PyData) (st : List (List PyData)), xs.all (toldAt k) = true → st.length + 1 + k ≤ 10 → ws.drop i = wordsL xs ++ us → toldGo ws ((wordsL xs).length + m) i (top :: st) = toldGo ws m (i + (wordsL xs).length) ((top ++ xs) :: st) ∧ ws.drop (i + (wordsL xs).length) = us
  | [], k, i, m, us, top, st, h, hk, hd => by
    rw [List.append_nil]
    have : (wordsL []).length + m = m := Nat.zero_add m
    rw [this]
    exact ⟨rfl, hd⟩
  | x :: xs, k, i, m, us, top, st, h, hk, hd => by
    obtain ⟨h1, h2⟩ := Bool.and_eq_true_iff.mp (show (toldAt k x && xs.all (toldAt k)) = true from h)
    have hd : ws.drop i = (wordsD x ++ wordsL xs) ++ us := hd
    rw [List.append_assoc] at hd
    have hlen : (wordsL (x :: xs)).length = (wordsD x).length + (wordsL xs).length := by
      show (wordsD x ++ wordsL xs).length = _
      rw [List.length_append]
    obtain ⟨b1, b2⟩ := go_words ws x k i ((wordsL xs).length + m) _ (top :: st) h1 (by show st.length + 1 + k ≤ 10; exact hk) hd
    obtain ⟨c1, c2⟩ := go_wordsL ws xs k _ m us (top ++ [x]) st h2 hk b2
    rw [hlen]
    have e1 : (wordsD x).length + (wordsL xs).length + m = (wordsD x).length + ((wordsL xs).length + m) := by omega
    have e2 : i + ((wordsD x).length + (wordsL xs).length) = i + (wordsD x).length + (wordsL xs).length := by omega
    rw [e1, e2, b1]
    refine ⟨?_, c2⟩
    show toldGo ws ((wordsL xs).length + m) _ ((top ++ [x]) :: st) = _
    rw [c1, List.append_assoc]
    rfl
theorem go_one (ws : List Str) {d : PyData} {i m : Nat} {us : List Str} {st : List (List PyData)} (h : singleD d = true) (hd : ws.drop i = wordsD d ++ us) : toldGo ws ((wordsD d).length + m) i st = fin2 (toldGo ws m) d (i + (wordsD d).length) st ∧ ws.drop (i + (wordsD d).length) = us := by
  obtain ⟨w, e1, e2, n1, n2⟩ := single_back h
  rw [e1] at hd ⊢
  obtain ⟨a1, a2⟩ := drop_at hd
  have : [w].length + m = m + 1 := Nat.add_comm 1 m
  rw [this, go_single a1 e2 n1 n2]
  exact ⟨rfl, a2⟩
end
/-- the words so far, of what stands open -/
def wordsS : List (List PyData) → List Str
  | [] => []
  | top :: rest => wordsS rest ++ ("(" : Str) :: wordsL top
/-- what told words were -/
theorem words_go (ws : List Str) : ∀ (n i : Nat) (st : List (List PyData)) (x : PyData) (j : Nat), toldGo ws n i st = .inr (x, j) → ∃ us, ws.drop i = us ++ ws.drop j ∧ wordsD x = wordsS st ++ us
  | 0, i, st, x, j, h => by cases h
  | n + 1, i, st, x, j, h => by
    unfold toldGo at h
    have av : ∀ {z : Str}, decide (aheadV ws i = V.str z) = true → ws[i]? = some z := fun {z} hb => by
      have hb := of_decide_eq_true hb
      unfold aheadV at hb
      split at hb
      · rename_i w hw
        rw [hw]
        exact congrArg some (V.str.inj hb)
      · cases hb
    have fin : ∀ (y : PyData) (w : Str) (st' : List (List PyData)), ws[i]? = some w → wordsS st' ++ wordsD y = wordsS st ++ [w] → fin2 (toldGo ws n) y (i + 1) st' = .inr (x, j) → ∃ us, ws.drop i = us ++ ws.drop j ∧ wordsD x = wordsS st ++ us := fun y w st' hw hy hf => by
      cases st' with
      | nil =>
        cases hf
        exact ⟨[w], at_drop hw, hy⟩
      | cons top rest =>
        obtain ⟨us, e1, e2⟩ := words_go ws n (i + 1) ((top ++ [y]) :: rest) x j hf
        refine ⟨w :: us, by rw [at_drop hw, e1]; rfl, ?_⟩
        rw [e2]
        show (wordsS rest ++ ("(" : Str) :: wordsL (top ++ [y])) ++ us = _
        rw [wordsL_app]
        have e3 : wordsL [y] = wordsD y := List.append_nil _
        rw [e3]
        have e4 : (wordsS rest ++ ("(" : Str) :: wordsL top) ++ wordsD y = wordsS st ++ [w] := hy
        have e5 : (wordsS rest ++ ("(" : Str) :: (wordsL top ++ wordsD y)) = (wordsS rest ++ ("(" : Str) :: wordsL top) ++ wordsD y := by
          rw [List.append_assoc]
          rfl
        rw [e5, e4, List.append_assoc]
        rfl
    split at h
    · rename_i hb
      have hw := av hb
      split at h
      · cases h
      · obtain ⟨us, e1, e2⟩ := words_go ws n (i + 1) ([] :: st) x j h
        refine ⟨("(" : Str) :: us, by rw [at_drop hw, e1]; rfl, ?_⟩
        rw [e2]
        show (wordsS st ++ [("(" : Str)]) ++ us = _
        rw [List.append_assoc]
        rfl
    · split at h
      · rename_i hc
        obtain ⟨c1, c2⟩ := Bool.and_eq_true_iff.mp hc
        have hw := av c2
        cases st with
        | nil => cases c1
        | cons top rest =>
          refine fin (.tuple top) _ rest hw ?_ h
          show wordsS rest ++ (("(" : Str) :: (wordsL top ++ [(")" : Str)])) = (wordsS rest ++ ("(" : Str) :: wordsL top) ++ [(")" : Str)]
          rw [List.append_assoc]
          rfl
      · cases hb : (ws[i]?).bind singleW with
        | none => rw [hb] at h; cases h
        | some y =>
          rw [hb] at h
          cases hw : ws[i]? with
          | none => rw [hw] at hb; cases hb
          | some z =>
            rw [hw] at hb
            exact fin y z st hw (by rw [word_single hb]) h
theorem toldN_words (ws : List Str) : ∀ (ds : List PyData) (i : Nat) (acc : List PyData) (us : List Str), ds.all (toldAt 10) = true → i ≤ ws.length → ws.drop i = wordsL ds ++ us → toldN ws ds.length i acc = .inr (acc ++ ds, i + (wordsL ds).length)
  | [], i, acc, us, _, _, _ => by
    rw [List.append_nil]
    rfl
  | d :: ds, i, acc, us, h, hi, hd => by
    obtain ⟨h1, h2⟩ := Bool.and_eq_true_iff.mp (show (toldAt 10 d && ds.all (toldAt 10)) = true from h)
    have hd : ws.drop i = (wordsD d ++ wordsL ds) ++ us := hd
    rw [List.append_assoc] at hd
    have hl := congrArg List.length hd
    rw [List.length_drop, List.length_append] at hl
    obtain ⟨b1, b2⟩ := go_words ws d 10 i (ws.length + 1 - i - (wordsD d).length) _ [] h1 (Nat.le_refl _) hd
    have e : (wordsD d).length + (ws.length + 1 - i - (wordsD d).length) = ws.length + 1 - i := by omega
    rw [e] at b1
    have ih := toldN_words ws ds (i + (wordsD d).length) (acc ++ [d]) us h2 (by omega) b2
    rw [List.length_cons, toldN, b1]
    show toldN ws ds.length (i + (wordsD d).length) (acc ++ [d]) = _
    rw [ih, List.append_assoc]
    show Sum.inr (acc ++ (d :: ds), i + (wordsD d).length + (wordsL ds).length) = Sum.inr (acc ++ (d :: ds), i + (wordsD d ++ wordsL ds).length)
    rw [List.length_append, Nat.add_assoc]
theorem words_toldN (ws : List Str) : ∀ (n i : Nat) (acc ds : List PyData) (j : Nat), toldN ws n i acc = .inr (ds, j) → ∃ es, ds = acc ++ es ∧ ws.drop i = wordsL es ++ ws.drop j
  | 0, i, acc, ds, j, h => by
    cases h
    exact ⟨[], (List.append_nil _).symm, rfl⟩
  | n + 1, i, acc, ds, j, h => by
    unfold toldN at h
    cases hg : toldGo ws (ws.length + 1 - i) i [] with
    | inl k => rw [hg] at h; cases h
    | inr p =>
      obtain ⟨x, k⟩ := p
      rw [hg] at h
      obtain ⟨us, e1, e2⟩ := words_go ws _ _ _ _ _ hg
      obtain ⟨es, e3, e4⟩ := words_toldN ws n k (acc ++ [x]) ds j h
      refine ⟨x :: es, by rw [e3, List.append_assoc]; rfl, ?_⟩
      have e2 : wordsD x = us := e2
      rw [e1, e4, ← e2, ← List.append_assoc]
      rfl
theorem qN_words (ws : List Str) : ∀ (ds : List PyData) (fs : List Str) (i : Nat) (acc : List PyData) (us : List Str), ds.all (toldAt 10) = true → ds.length = fs.length → (ofForms ds fs).all id = true → i ≤ ws.length → ws.drop i = wordsL ds ++ us → qN ws fs i acc = .inr (acc ++ ds, i + (wordsL ds).length)
  | [], [], i, acc, us, _, _, _, _, _ => by
    rw [List.append_nil]
    rfl
  | d :: ds, f :: fs, i, acc, us, h, hl0, hf, hi, hd => by
    obtain ⟨h1, h2⟩ := Bool.and_eq_true_iff.mp (show (toldAt 10 d && ds.all (toldAt 10)) = true from h)
    obtain ⟨f1, f2⟩ := Bool.and_eq_true_iff.mp (show (formD f d && (ofForms ds fs).all id) = true from hf)
    have hd : ws.drop i = (wordsD d ++ wordsL ds) ++ us := hd
    rw [List.append_assoc] at hd
    have hl := congrArg List.length hd
    rw [List.length_drop, List.length_append] at hl
    obtain ⟨b1, b2⟩ := go_words ws d 10 i (ws.length + 1 - i - (wordsD d).length) _ [] h1 (Nat.le_refl _) hd
    have e : (wordsD d).length + (ws.length + 1 - i - (wordsD d).length) = ws.length + 1 - i := by omega
    rw [e] at b1
    have ih := qN_words ws ds fs (i + (wordsD d).length) (acc ++ [d]) us h2 (Nat.succ.inj hl0) f2 (by omega) b2
    rw [qN, b1]
    show (if formD f d = true then qN ws fs (i + (wordsD d).length) (acc ++ [d]) else _) = _
    rw [if_pos f1, ih, List.append_assoc]
    show Sum.inr (acc ++ (d :: ds), i + (wordsD d).length + (wordsL ds).length) = Sum.inr (acc ++ (d :: ds), i + (wordsD d ++ wordsL ds).length)
    rw [List.length_append, Nat.add_assoc]
theorem words_len0 {ws : List Str} {i : Nat} {us : List Str} (h : ws.drop i = us) (hi : i ≤ ws.length) : i + us.length = ws.length := by
  have := congrArg List.length h
  rw [List.length_drop] at this
  omega
/-- a paper's words are read back -/
theorem paperGo_words {z : Str} {ds : List PyData} (hz : partsTab.lookup z = some ds.length) (h : ds.all (toldAt 10) = true) : paperGo (z :: wordsL ds) 0 = .inr ((z, ds), (z :: wordsL ds).length) := by
  unfold paperGo
  have e := toldN_words (z :: wordsL ds) ds 1 [] [] h (Nat.succ_le_succ (Nat.zero_le _)) (List.append_nil _).symm
  show (match partsTab.lookup z with | none => _ | some c => tagP z (toldN (z :: wordsL ds) c 1 [])) = _
  rw [hz]
  show tagP z (toldN (z :: wordsL ds) ds.length 1 []) = _
  rw [e, List.length_cons, Nat.add_comm 1]
  rfl
theorem told_up {n : Nat} : ∀ {m : Nat} {d : PyData}, toldAt n d = true → n ≤ m → toldAt m d = true := by
  induction n with
  | zero =>
    intro m d h _
    cases d with
    | tuple xs => cases h
    | _ => cases m <;> exact h
  | succ n ih =>
    intro m d h hm
    cases d with
    | tuple xs =>
      cases m with
      | zero => exact absurd hm (by omega)
      | succ m => exact List.all_eq_true.mpr fun x hx => ih (List.all_eq_true.mp (show xs.all (toldAt n) = true from h) x hx) (by omega)
    | _ => cases m <;> exact h
theorem toldL_up {n m : Nat} {ds : List PyData} (h : ds.all (toldAt n) = true) (hm : n ≤ m) : ds.all (toldAt m) = true := List.all_eq_true.mpr fun x hx => told_up (List.all_eq_true.mp h x hx) hm
/-- a question's words are read back -/
theorem questGo_words {z : Str} {ds : List PyData} (h : questD (.tuple (.str z :: ds)) = true) : questGo (z :: wordsL ds) 0 = .inr ((z, ds), (z :: wordsL ds).length) := by
  obtain ⟨z', ds', fs, e0, hz, hl, hf, ht⟩ := quest_is h
  cases e0
  have ht : (PyData.str z :: ds).all (toldAt 9) = true := ht
  have ht := toldL_up (Bool.and_eq_true_iff.mp ht).2 (show 9 ≤ 10 by decide)
  unfold questGo
  have e := qN_words (z :: wordsL ds) ds fs 1 [] [] ht hl hf (Nat.succ_le_succ (Nat.zero_le _)) (List.append_nil _).symm
  show (match formsTab.lookup z with | none => _ | some c => tagP z (qN (z :: wordsL ds) c 1 [])) = _
  rw [hz]
  show tagP z (qN (z :: wordsL ds) fs 1 []) = _
  rw [e, List.length_cons, Nat.add_comm 1]
  rfl
/-- what is told of a whole line was written so -/
theorem words_pDue {ws : List Str} {z : Str} {ds : List PyData} (h : pDue ws = .inr (z, ds)) : ws = z :: wordsL ds := by
  unfold pDue paperGo at h
  cases hw : ws[0]? with
  | none => rw [hw] at h; cases h
  | some y =>
    rw [hw] at h
    have h : dueOf ws (match partsTab.lookup y with | none => .inl 0 | some c => tagP y (toldN ws c 1 [])) = .inr (z, ds) := h
    cases hp : partsTab.lookup y with
    | none => rw [hp] at h; cases h
    | some c =>
      rw [hp] at h
      have h : dueOf ws (tagP y (toldN ws c 1 [])) = .inr (z, ds) := h
      cases hn : toldN ws c 1 [] with
      | inl j => rw [hn] at h; cases h
      | inr p =>
        obtain ⟨es, j⟩ := p
        rw [hn] at h
        have h : (if j < ws.length then Sum.inl j else Sum.inr (y, es)) = Sum.inr (z, ds) := h
        split at h
        · cases h
        · rename_i hj
          cases h
          obtain ⟨es', e1, e2⟩ := words_toldN ws c 1 [] ds j hn
          have e1 : ds = es' := e1
          subst e1
          rw [List.drop_eq_nil_of_le (show ws.length ≤ j by omega), List.append_nil] at e2
          have := at_drop hw
          rw [List.drop_zero, e2] at this
          exact this
end K96

set_option Elab.async false
set_option linter.all false
set_option maxRecDepth 100000
set_option maxHeartbeats 4000000
/-! The plain law: lines of words as a text and back. -/
namespace K96
open PySem PySem.Spec PyProof.Rows L2 Evl TL
theorem tl_sp : tl (" " : Str) = [32] := by decide +kernel
theorem tl_nl : tl ("\n" : Str) = [10] := by decide +kernel
theorem okW_sp {l : List Str} (h : ∀ z ∈ l, okW z) : ∀ p ∈ l, 32 ∉ tl p := fun p hp hc => (h p hp 32 hc).2.1 rfl
theorem mem_joinL {S : List Nat} {c : Nat} : ∀ {ps : List (List Nat)}, c ∈ joinL S ps → c ∈ S ∨ ∃ p ∈ ps, c ∈ p
  | [], h => by cases h
  | [p], h => .inr ⟨p, List.mem_singleton.mpr rfl, h⟩
  | p :: q :: r, h => by
    have h : c ∈ p ++ (S ++ joinL S (q :: r)) := h
    rcases List.mem_append.mp h with h | h
    · exact .inr ⟨p, List.mem_cons_self .., h⟩
    · rcases List.mem_append.mp h with h | h
      · exact .inl h
      · rcases mem_joinL h with h | ⟨x, hx, h⟩
        · exact .inl h
        · exact .inr ⟨x, List.mem_cons_of_mem _ hx, h⟩
theorem join_free {l : List Str} (h : ∀ z ∈ l, okW z) : 10 ∉ tl (Txt.join " " l) := fun hc => by
  rw [join_eq, tl_join, tl_sp] at hc
  rcases mem_joinL hc with e | ⟨p, hp, hc⟩
  · exact absurd (List.mem_singleton.mp e) (by decide)
  · obtain ⟨z, hz, rfl⟩ := List.mem_map.mp hp
    exact (h z hz 10 hc).2.2 rfl
theorem words_join {l : List Str} (hne : l ≠ []) (h : ∀ z ∈ l, okW z) : wordsOf (Txt.join " " l) = l := split_join tl_sp (by decide +kernel) hne (okW_sp h)
theorem rows_text {ls : List (List Str)} (hne : ls ≠ []) (h : ∀ l ∈ ls, ∀ z ∈ l, okW z) : rowsOf (textL ls) = ls.map (Txt.join " ") :=
  split_join tl_nl (by decide +kernel) (fun e => hne (List.map_eq_nil_iff.mp e)) fun p hp => by
    obtain ⟨l, hl, rfl⟩ := List.mem_map.mp hp
    exact join_free (h l hl)
theorem first_text {l : List Str} {ls : List (List Str)} (h : ∀ m ∈ l :: ls, ∀ z ∈ m, okW z) : firstRow (textL (l :: ls)) = Txt.join " " l := by
  unfold firstRow
  rw [rows_text (by simp) h]
  rfl
theorem nl_text {ls : List (List Str)} (hne : ls ≠ []) (h : ∀ l ∈ ls, ∀ z ∈ l, okW z) : 10 ∈ (textL ls).cps.toList ↔ 1 < (rowsOf (textL ls)).length := by
  rw [rows_text hne h, List.length_map]
  match ls, hne, h with
  | [l], _, h =>
    refine ⟨fun hc => absurd hc ?_, fun hc => absurd hc (by show ¬ 1 < 1; decide)⟩
    show 10 ∉ tl (Txt.join "\n" [Txt.join " " l])
    rw [join_eq]
    exact join_free (h l (List.mem_singleton.mpr rfl))
  | a :: b :: r, _, h =>
    refine ⟨fun _ => by show 1 < r.length + 1 + 1; omega, fun _ => ?_⟩
    show 10 ∈ tl (Txt.join "\n" (Txt.join " " a :: Txt.join " " b :: r.map (Txt.join " ")))
    rw [join_eq, tl_join, tl_nl]
    show 10 ∈ tl (Txt.join " " a) ++ ([10] ++ joinL [10] _)
    exact List.mem_append_right _ (List.mem_append_left _ (List.mem_singleton.mpr rfl))
theorem text_one {l : List Str} : textL [l] = Txt.join " " l := by
  unfold textL
  rw [join_eq]
  rfl
theorem len_joinL (S : List Nat) : ∀ ps : List (List Nat), (joinL S ps).length ≤ (ps.map List.length).sum + ps.length * S.length
  | [] => Nat.zero_le _
  | [p] => by
    show p.length ≤ (p.length + 0) + _
    omega
  | p :: q :: r => by
    have ih := len_joinL S (q :: r)
    show (p ++ (S ++ joinL S (q :: r))).length ≤ (p.length + ((q :: r).map List.length).sum) + ((q :: r).length + 1) * S.length
    rw [List.length_append, List.length_append, Nat.add_mul]
    omega
theorem sum_le {m : Nat} : ∀ {l : List Str}, (∀ z ∈ l, z.length ≤ m) → (l.map (·.length)).sum ≤ l.length * m
  | [], _ => Nat.zero_le _
  | z :: l, h => by
    have h1 := h z (List.mem_cons_self ..)
    have ih := sum_le fun y hy => h y (List.mem_cons_of_mem _ hy)
    show z.length + (l.map (·.length)).sum ≤ (l.length + 1) * m
    rw [Nat.add_mul]
    omega
theorem szTx_le {l : List Str} {m : Nat} (h : ∀ z ∈ l, z.length ≤ m) : szTx l ≤ l.length * (m + 1) := by
  have := sum_le h
  unfold szTx
  rw [Nat.mul_add]
  omega
theorem join_len {y : Str} (hy : y.length = 1) (l : List Str) : (Txt.join y l).length ≤ szTx l := by
  rw [join_eq, len_tl, tl_join]
  have h := len_joinL (tl y) (l.map tl)
  rw [← len_tl, hy, List.length_map, Nat.mul_one, List.map_map] at h
  have e : List.length ∘ tl = fun z : Str => z.length := funext fun z => (len_tl z).symm
  rw [e] at h
  exact h
/-- a bent text's sizes -/
theorem lnB_size {n : Nat} {ls : List (List Str)} (h : LnB n ls) (hn : n ≤ 1000) : (∀ l ∈ ls, szTx l ≤ n * 41) ∧ szTx (ls.map (Txt.join " ")) ≤ 2 * (n * 41 + 1) ∧ (textL ls).length ≤ 2 * (n * 41 + 1) := by
  obtain ⟨h2, h0, h⟩ := h
  have h1 : ∀ l ∈ ls, szTx l ≤ n * 41 := fun l hl => by
    have a := szTx_le (m := 40) fun z hz => ((h l hl).2 z hz).1
    have b := (h l hl).1.2
    have c := Nat.mul_le_mul_right 41 b
    omega
  have o1 : (" " : Str).length = 1 := by decide +kernel
  have o2 : ("\n" : Str).length = 1 := by decide +kernel
  have h3 : szTx (ls.map (Txt.join " ")) ≤ 2 * (n * 41 + 1) := by
    have a := szTx_le (m := n * 41) (l := ls.map (Txt.join " ")) fun z hz => by
      obtain ⟨l, hl, rfl⟩ := List.mem_map.mp hz
      exact Nat.le_trans (join_len o1 l) (h1 l hl)
    rw [List.length_map] at a
    exact Nat.le_trans a (Nat.mul_le_mul_right _ h2)
  exact ⟨h1, h3, Nat.le_trans (join_len o2 _) h3⟩
theorem lnB_ok {n : Nat} {ls : List (List Str)} (h : LnB n ls) : ls ≠ [] ∧ (∀ l ∈ ls, ∀ z ∈ l, okW z) ∧ (wordsOf (firstRow (textL ls))).length ≤ n ∧ 0 < (wordsOf (firstRow (textL ls))).length := by
  obtain ⟨h2, h0, h⟩ := h
  have hok : ∀ l ∈ ls, ∀ z ∈ l, okW z := fun l hl z hz => ((h l hl).2 z hz).2
  refine ⟨(fun e => by rw [e] at h0; cases h0), hok, ?_⟩
  match ls, h0, h, hok with
  | l :: r, _, h, hok =>
    obtain ⟨⟨a, b⟩, _⟩ := h l (List.mem_cons_self ..)
    rw [first_text hok, words_join (fun e => by rw [e] at a; cases a) (hok l (List.mem_cons_self ..))]
    exact ⟨b, a⟩
/-- a read's answer by what is due -/
theorem end_inl {α : Type} {t : Str} {R : Nat ⊕ (α × Nat)} {b : Nat} (h : dueOf (wordsOf (firstRow t)) R = .inl b) : endOf t R = .inl (0, b) := by
  cases R with
  | inl j =>
    cases h
    rfl
  | inr p =>
    obtain ⟨x, j⟩ := p
    have h : (if j < (wordsOf (firstRow t)).length then Sum.inl j else Sum.inr x) = Sum.inl b := h
    show (if decide (j < (wordsOf (firstRow t)).length) = true then Sum.inl (0, j) else _) = _
    split at h
    · rename_i hj
      rw [if_pos (decide_eq_true hj)]
      cases h
      rfl
    · cases h
theorem end_inr {α : Type} {t : Str} {R : Nat ⊕ (α × Nat)} {x : α} (h : dueOf (wordsOf (firstRow t)) R = .inr x) : endOf t R = if 1 < (rowsOf t).length then .inl (1, 0) else .inr x := by
  cases R with
  | inl j => cases h
  | inr p =>
    obtain ⟨y, j⟩ := p
    have h : (if j < (wordsOf (firstRow t)).length then Sum.inl j else Sum.inr y) = Sum.inr x := h
    show (if decide (j < (wordsOf (firstRow t)).length) = true then Sum.inl (0, j) else if decide (1 < (rowsOf t).length) = true then Sum.inl (1, 0) else Sum.inr y) = _
    split at h
    · cases h
    · rename_i hj
      rw [if_neg (fun e => hj (of_decide_eq_true e))]
      cases h
      by_cases q : 1 < (rowsOf t).length
      · rw [if_pos q, if_pos (decide_eq_true q)]
      · rw [if_neg q, if_neg (fun e => q (of_decide_eq_true e))]
theorem inW_digits {z : Str} (hl : z.length ≤ 13) (h : ∀ c ∈ z.cps.toList, c = 45 ∨ 48 ≤ c ∧ c ≤ 57) : InW z := ⟨hl, fun c hc => by
  have := h c hc
  omega⟩
theorem inW_lit {z : Str} (h : (decide (z.length ≤ 13) && z.cps.toList.all fun c => decide (c < 128 ∧ c ≠ 32 ∧ c ≠ 10)) = true) : InW z :=
  ⟨of_decide_eq_true (Bool.and_eq_true_iff.mp h).1, okW_lit (Bool.and_eq_true_iff.mp h).2⟩
theorem letters_small : ∀ c ∈ letters.cps.toList, c < 128 ∧ c ≠ 32 ∧ c ≠ 10 := by decide +kernel
theorem mark_in {s : Str} (h : isMark s = true) : InW (markS s) := by
  have hs : s.length ≤ 8 ∧ okW s := by
    unfold isMark at h
    rcases Bool.or_eq_true_iff.mp h with h | h
    · have h : ((("" : Str) == s) || ((("-" : Str) == s) || false)) = true := h
      rcases Bool.or_eq_true_iff.mp h with h | h
      · rw [← eq_of_beq h]
        exact ⟨by decide +kernel, okW_lit (by decide +kernel)⟩
      · rw [Bool.or_false] at h
        rw [← eq_of_beq h]
        exact ⟨by decide +kernel, okW_lit (by decide +kernel)⟩
    · unfold isName at h
      obtain ⟨h1, h2⟩ := Bool.and_eq_true_iff.mp h
      exact ⟨of_decide_eq_true (Bool.and_eq_true_iff.mp h1).2, fun c hc => letters_small c (of_decide_eq_true (List.all_eq_true.mp h2 c hc))⟩
  have e1 : ("=" : Str).length = 1 := by decide +kernel
  exact ⟨by unfold markS; rw [app_len, e1]; omega, app_ok (okW_lit (by decide +kernel)) hs.2⟩
theorem single_in {d : PyData} (h : singleD d = true) : ∀ w ∈ wordsD d, InW w := fun w hw => by
  cases d with
  | none =>
    rw [List.mem_singleton.mp hw]
    exact inW_lit (by decide +kernel)
  | str s =>
    rw [List.mem_singleton.mp hw]
    exact mark_in h
  | int i =>
    obtain ⟨h1, h2⟩ := Bool.and_eq_true_iff.mp (show (decide (0 - mostV ≤ i) && decide (i ≤ mostV)) = true from h)
    rw [List.mem_singleton.mp hw]
    have hl := num12 (of_decide_eq_true h1) (of_decide_eq_true h2)
    have hd := numL_digits i.natAbs
    have hs := signs_int i
    refine inW_digits ?_ fun c hc => ?_
    · rw [len_list, hs]
      unfold signsI
      split
      · show (numL i.natAbs).length + 1 ≤ 13
        omega
      · omega
    · rw [hs] at hc
      unfold signsI at hc
      split at hc
      · rcases List.mem_cons.mp hc with e | e
        · exact .inl e
        · exact .inr (hd c e)
      · exact .inr (hd c hc)
  | _ => cases h
mutual
theorem words_in : ∀ (d : PyData) (k : Nat), toldAt k d = true → ∀ w ∈ wordsD d, InW w
  | .tuple xs, 0, h, w, hw => by cases h
  | .tuple xs, k + 1, h, w, hw => by
    have hw : w ∈ ("(" : Str) :: (wordsL xs ++ [(")" : Str)]) := hw
    rcases List.mem_cons.mp hw with e | hw
    · rw [e]
      exact inW_lit (by decide +kernel)
    · rcases List.mem_append.mp hw with hw | hw
      · exact wordsL_in xs k h w hw
      · rw [List.mem_singleton.mp hw]
        exact inW_lit (by decide +kernel)
  | .none, k, h, w, hw => single_in (told_single_of h rfl) w hw
  | .bool b, k, h, w, hw => single_in (told_single_of h rfl) w hw
  | .int n, k, h, w, hw => single_in (told_single_of h rfl) w hw
  | .str s, k, h, w, hw => single_in (told_single_of h rfl) w hw
  | .list s, k, h, w, hw => single_in (told_single_of h rfl) w hw
  | .dict s, k, h, w, hw => single_in (told_single_of h rfl) w hw
theorem wordsL_in : ∀ (xs : List PyData) (k : Nat), xs.all (toldAt k) = true → ∀ w ∈ wordsL xs, InW w
  | [], k, h, w, hw => by cases hw
  | x :: xs, k, h, w, hw => by
    obtain ⟨h1, h2⟩ := Bool.and_eq_true_iff.mp (show (toldAt k x && xs.all (toldAt k)) = true from h)
    rcases List.mem_append.mp (show w ∈ wordsD x ++ wordsL xs from hw) with hw | hw
    · exact words_in x k h1 w hw
    · exact wordsL_in xs k h2 w hw
end
/-- the words of a paper, of a question: all fit -/
theorem paper_in {z : Str} {ds : List PyData} {c k : Nat} (hz : partsTab.lookup z = some c) (h : ds.all (toldAt k) = true) : ∀ w ∈ z :: wordsL ds, InW w := fun w hw => by
  rcases List.mem_cons.mp hw with e | hw
  · have key : ∀ q ∈ partsTab, (decide (q.1.length ≤ 13) && q.1.cps.toList.all fun c => decide (c < 128 ∧ c ≠ 32 ∧ c ≠ 10)) = true := by decide +kernel
    rw [e]
    exact inW_lit (key _ (PySem.mem_of_lookup hz))
  · exact wordsL_in ds k h w hw
theorem quest_in {z : Str} {ds : List PyData} {fs : List Str} {k : Nat} (hz : formsTab.lookup z = some fs) (h : ds.all (toldAt k) = true) : ∀ w ∈ z :: wordsL ds, InW w := fun w hw => by
  rcases List.mem_cons.mp hw with e | hw
  · have key : ∀ q ∈ formsTab, (decide (q.1.length ≤ 13) && q.1.cps.toList.all fun c => decide (c < 128 ∧ c ≠ 32 ∧ c ≠ 10)) = true := by decide +kernel
    rw [e]
    exact inW_lit (key _ (PySem.mem_of_lookup hz))
  · exact wordsL_in ds k h w hw
theorem end_read {α : Type} {l : List Str} {R : Nat ⊕ (α × Nat)} {x : α} (hne : l ≠ []) (h : ∀ w ∈ l, okW w) (hR : R = .inr (x, l.length)) : rowsOf (Txt.join " " l) = [Txt.join " " l] ∧ firstRow (Txt.join " " l) = Txt.join " " l ∧ endOf (Txt.join " " l) R = .inr x := by
  have hls : ∀ m ∈ [l], ∀ z ∈ m, okW z := fun m hm z hz => h z (by rw [List.mem_singleton.mp hm] at hz; exact hz)
  have hr := rows_text (ls := [l]) (by simp) hls
  have hf := first_text (ls := []) hls
  rw [text_one] at hr hf
  refine ⟨hr, hf, ?_⟩
  rw [end_inr (x := x), hr, if_neg (by show ¬ 1 < 1; decide)]
  rw [hf, words_join hne h, hR]
  show (if l.length < l.length then Sum.inl l.length else Sum.inr x) = _
  rw [if_neg (Nat.lt_irrefl _)]
theorem readP_words {z : Str} {ds : List PyData} (hz : partsTab.lookup z = some ds.length) (h : ds.all (toldAt 10) = true) : readP (Txt.join " " (z :: wordsL ds)) = .inr (z, ds) := by
  have hw := fun w hw => (paper_in hz h w hw).2
  obtain ⟨a, b, c⟩ := end_read (by simp) hw (paperGo_words hz h)
  unfold readP
  rw [b, words_join (by simp) hw]
  exact c
theorem readQ_words {z : Str} {ds : List PyData} (h : questD (.tuple (.str z :: ds)) = true) : readQ (Txt.join " " (z :: wordsL ds)) = .inr (z, ds) := by
  have h0 := h
  obtain ⟨z', ds', fs, e0, hz, hl, hf, ht⟩ := quest_is h0
  cases e0
  have ht : (PyData.str z :: ds).all (toldAt 9) = true := ht
  have ht := (Bool.and_eq_true_iff.mp ht).2
  have hw := fun w hw => (quest_in hz ht w hw).2
  obtain ⟨a, b, c⟩ := end_read (by simp) hw (questGo_words h)
  unfold readQ
  rw [b, words_join (by simp) hw]
  exact c
end K96

set_option Elab.async false
set_option linter.all false
set_option maxRecDepth 100000
set_option maxHeartbeats 4000000
/-! repr of told data: a def's promise where no repr stands open. -/
namespace K96
open PySem PySem.Spec PyProof.Rows L2 Evl
/-! ### what can be shown -/
structure ShowD (d : PyData) (n m : Nat) : Prop where
  sh : d.showable = true
  nd : d.hasDict = false
  lay : d.canLay0 = true
  dep : d.depth ≤ n
  ish : d.intsShort 13 = true
  wt : d.weight ≤ m
structure ShowL (ds : List PyData) (n m : Nat) : Prop where
  sh : PyData.showableAll ds = true
  nd : PyData.hasDictAll ds = false
  lay : PyData.canLayAll0 ds = true
  dep : PyData.depthAll ds ≤ n
  ish : PyData.intsShortAll 13 ds = true
  wt : PyData.weightAll ds ≤ m
theorem log40 {i : Int} (h1 : 0 - mostV ≤ i) (h2 : i ≤ mostV) : i.natAbs.log2 < 40 := by
  rw [mostV_is] at h1 h2
  by_cases h0 : i.natAbs = 0
  · rw [h0]; decide
  · exact (Nat.log2_lt h0).mpr (by have : (2 : Nat) ^ 40 = 1099511627776 := by decide
                                   omega)
theorem show_single {d : PyData} (h : singleD d = true) (n : Nat) : ShowD d n 40 := by
  cases d with
  | none => exact ⟨by rw [PyData.showable], by rw [PyData.hasDict], by rw [PyData.canLay0], by rw [PyData.depth]; exact Nat.zero_le _, by rw [PyData.intsShort], by rw [PyData.weight]; exact Nat.zero_le _⟩
  | int i =>
    obtain ⟨h1, h2⟩ := Bool.and_eq_true_iff.mp (show (decide (0 - mostV ≤ i) && decide (i ≤ mostV)) = true from h)
    have l := log40 (of_decide_eq_true h1) (of_decide_eq_true h2)
    have hin := (single_in (d := .int i) h (toString i : Str) (List.mem_singleton.mpr rfl)).1
    refine ⟨?_, by rw [PyData.hasDict], by rw [PyData.canLay0], by rw [PyData.depth]; exact Nat.zero_le _, ?_, ?_⟩
    · rw [PyData.showable]
      exact decide_eq_true (by omega)
    · rw [PyData.intsShort]
      refine decide_eq_true ?_
      rw [PyData.shown]
      exact hin
    · rw [PyData.weight]
      split <;> omega
  | str s =>
    have hin := mark_in (show isMark s = true from h)
    have e1 : ("=" : Str).length = 1 := by decide +kernel
    have hl := hin.1
    unfold markS at hl
    rw [app_len, e1] at hl
    refine ⟨by rw [PyData.showable], by rw [PyData.hasDict], ?_, by rw [PyData.depth]; exact Nat.zero_le _, by rw [PyData.intsShort], ?_⟩
    · rw [PyData.canLay0]
      unfold PyData.strOk
      rw [← Array.all_toList]
      refine List.all_eq_true.mpr fun c hc => decide_eq_true ?_
      have hc2 : c ∈ (markS s).cps.toList := by
        show c ∈ TL.tl (("=" : Str) ++ s)
        rw [TL.tl_append]
        exact List.mem_append_right _ hc
      have := (hin.2 c hc2).1
      omega
    · rw [PyData.weight]
      show s.length ≤ 40
      omega
  | _ => cases h
mutual
theorem show_told : ∀ (d : PyData) (n : Nat), toldAt n d = true → ShowD d n (41 * szD d - 1)
  | .tuple xs, 0, h => by cases h
  | .tuple xs, n + 1, h => by
    have ih := show_toldL xs n h
    have h1 : PyData.weightAll xs ≤ 41 * (1 + szL xs) - 1 := by
      have := ih.wt
      omega
    exact ⟨by rw [PyData.showable]; exact ih.sh, by rw [PyData.hasDict]; exact ih.nd, by rw [PyData.canLay0]; exact ih.lay, by rw [PyData.depth]; have := ih.dep; omega, by rw [PyData.intsShort]; exact ih.ish, by rw [PyData.weight]; exact h1⟩
  | .none, n, h => show_one (told_single_of h rfl)
  | .bool b, n, h => show_one (told_single_of h rfl)
  | .int i, n, h => show_one (told_single_of h rfl)
  | .str s, n, h => show_one (told_single_of h rfl)
  | .list s, n, h => show_one (told_single_of h rfl)
  | .dict s, n, h => show_one (told_single_of h rfl)
theorem show_toldL : ∀ (ds : List PyData) (n : Nat), ds.all (toldAt n) = true → ShowL ds n (41 * szL ds)
  | [], n, _ => ⟨by rw [PyData.showableAll], by rw [PyData.hasDictAll], by rw [PyData.canLayAll0], by rw [PyData.depthAll]; exact Nat.zero_le _, by rw [PyData.intsShortAll], by rw [PyData.weightAll]; exact Nat.zero_le _⟩
  | d :: ds, n, h => by
    obtain ⟨h1, h2⟩ := Bool.and_eq_true_iff.mp (show (toldAt n d && ds.all (toldAt n)) = true from h)
    have a := show_told d n h1
    have b := show_toldL ds n h2
    have p := szD_pos d
    refine ⟨by rw [PyData.showableAll, a.sh, b.sh]; rfl, by rw [PyData.hasDictAll, a.nd, b.nd]; rfl, by rw [PyData.canLayAll0, a.lay, b.lay]; rfl, ?_, by rw [PyData.intsShortAll, a.ish, b.ish]; rfl, ?_⟩
    · rw [PyData.depthAll]
      exact Nat.max_le.mpr ⟨a.dep, b.dep⟩
    · rw [PyData.weightAll]
      have := a.wt
      have := b.wt
      show _ ≤ 41 * (szD d + szL ds)
      omega
theorem show_one {d : PyData} {n : Nat} (h : singleD d = true) : ShowD d n (41 * szD d - 1) := by
  have a := show_single h n
  have p := szD_pos d
  exact ⟨a.sh, a.nd, a.lay, a.dep, a.ish, by have := a.wt; omega⟩
end
theorem ShowD.lst {d : PyData} {n m : Nat} (h : ShowD d n m) : ShowD (.list [d]) (n + 1) (m + 1) :=
  ⟨by rw [PyData.showable, PyData.showableAll, PyData.showableAll, h.sh]; rfl, by rw [PyData.hasDict, PyData.hasDictAll, PyData.hasDictAll, h.nd]; rfl, by rw [PyData.canLay0, PyData.canLayAll0, PyData.canLayAll0, h.lay]; rfl, by rw [PyData.depth, PyData.depthAll, PyData.depthAll]; have := h.dep; omega, by rw [PyData.intsShort, PyData.intsShortAll, PyData.intsShortAll, h.ish]; rfl, by rw [PyData.weight, PyData.weightAll, PyData.weightAll]; have := h.wt; omega⟩
theorem ShowD.len {d : PyData} {n m : Nat} (h : ShowD d n m) (hn : n ≤ 64) (hm : m ≤ 1048576) : d.shown.length ≤ sizeLine := by
  have hl : PyData.layable0 d = true := by
    unfold PyData.layable0
    rw [h.lay, decide_eq_true (Nat.le_trans h.dep hn), decide_eq_true (Nat.le_trans h.wt hm)]
    rfl
  exact Nat.le_trans (shown_le13 hl h.ish) (by decide)
/-- repr(x), x a list or tuple of told data -/
theorem call_repr_show {X : Cx} (hg : X.A.guards = some []) (hu : X.A.units + 80 < cLine) : CallR X (.builtin "repr") (fun xs H Q => ∃ a d n m, xs = [.ref a] ∧ Dp X.K H (.ref a) d ∧ ShowD d n m ∧ n ≤ 64 ∧ m ≤ 1048576 ∧ Q (.str d.shown) H) := by
  intro pins s σ H xs us Q I r h
  obtain ⟨a, d, n, m, rfl, hd, hs, hn, hm, q⟩ := h
  have r1 : RelV (.ref a) (.ref a) := rfl
  obtain ⟨u, rfl, hu1⟩ := vals1 r
  obtain rfl : u = .ref a := hu1
  obtain ⟨as, rd⟩ := Dp.reads I d _ _ hd r1
  have dp := hs.dep
  exact repr_of_reads' rd hs.sh (fun e => by rw [hs.nd] at e; cases e) hg (by omega) (fun _ _ e => e) (fun h' u tk hk => ⟨.str d.shown, H, I.kept hk, ⟨_, rfl⟩, q⟩) (hs.len hn hm)
/-! ### promises where no repr stands open -/
structure FnG (P : Program) (w : World) (K : Fr) (mg : Str → Option Value) (base : Heap) (CX : CXT) (k : Nat) (f : Addr) (fd : FuncData) (ps : List Str) (sp : Sp) : Prop where
  len : ∀ vs H Q E, sp vs H Q E → vs.length = ps.length
  run : ∀ (A : Around) (outer : List Env) (s : Shared) (H : Hp) (args : Args) (us : List Value) (vs : List V) (Q : VK) (E : XK), A.guards = some [] → Room k A → Env0 P w K mg base A outer s H → BindsTo s fd args (ps.zip us) → Vals vs us → sp vs H Q E →
    codeAny (model P w) A (.call (.ref f) args) (CR CX outer P w H s Q E) s
/-- a def's promise under its name -/
structure ClG (P : Program) (w : World) (K : Fr) (mg : Str → Option Value) (base : Heap) (CX : CXT) (k : Nat) (x : Str) (sp : Sp) : Prop where
  ex : ∃ (f : Addr) (fd : FuncData) (ps : List Str), FnG P w K mg base CX k f fd ps sp ∧ mg x = some (.ref f) ∧ PySem.W.keepIn K (.ref f) = true ∧ Binds K fd ps []
theorem Df.fnG {P : Program} {w : World} {K : Fr} {mg : Str → Option Value} {base : Heap} {CX : CXT} {d : He.DefD} {N ps : List Str} {k : Nat} {sp : Sp} {f : Addr} {fd : FuncData} (F : FunD K d.name d.qual d.params d.body d.scope [] [] f fd) (S : FnScope N ps d.scope) (len : ∀ vs H Q E, sp vs H Q E → vs.length = ps.length)
    (hbody : ∀ (f : Addr) (cdv : Value) (A : Around) (outer : List Env) (s : Shared) (H : Hp) (vs : List V) (Q : VK) (E : XK), A.guards = some [] → Room k (A.deeper (envOfC d.qual d.scope s.heap.objs.size f cdv)) → sp vs H Q E →
      ∃ t, PSs (cxOf CX P w K mg base N d.qual d.scope f cdv A outer s H E) d.body t ∧ t { nx := fun _ H' => Q .non H', rt := Q } (start N vs) H) : FnG P w K mg base CX (k + 1) f fd ps sp := by
  obtain ⟨oc, od, dV, kV, doc, pm, an, cdv, ct, osl, rfl, lk, hcd, _, _⟩ := F.ex
  refine ⟨len, fun A outer s H args us vs Q E hg hr e0 hb r hsp => ?_⟩
  have kept : ∀ b o, base.get? b = some o → s.heap.get? b = some o := fun b o e => (e0.bs b o e).1
  have KX : K.In s.heap := e0.mod.kin.keeps kept
  refine codeAny_call_function hr.depth (KX _ _ lk) rfl S.co S.gen rfl (PySem.W.codeRec_of KX hcd) (hb _ _ _ _ (wpAny_newFunctionEnv_cells S.kind (fun y hy => ?_) fun env he s1 x => ?_))
  · rcases S.par y.1 (List.of_mem_zip (show (y.1, y.2) ∈ ps.zip us from hy)).1 with q | q
    · exact .inl q
    · exact .inr ⟨q, PySem.W.cellsFrom_some _ _ _ (.inl q)⟩
  · subst he
    obtain ⟨t, ht, hq⟩ := hbody f cdv A outer s H vs Q E hg (hr.deeper _) hsp
    have I := inv_start (CX := CX) (E := E) S hr.hd e0 (len _ _ _ _ hsp) r x
    refine ⟨(e0.mod.nolimit.keeps kept).keeps x.toInCall.keep, codeAny_func (wpAny_mono (ht.run [] s1 (start N vs) H _ I hq) (fun fl s' hs => ?_) fun e s' hs => hs)⟩
    cases fl with
    | ret u =>
      obtain ⟨v, σ', H', J, rv, q⟩ := hs
      exact ⟨v, H', J.os, J.bare, J.base, J.hok, rv, q⟩
    | next =>
      obtain ⟨σ', H', J, q⟩ := hs
      exact ⟨.non, H', J.os, J.bare, J.base, J.hok, rfl, q⟩
    | brk => exact False.elim hs.choose_spec.choose_spec.2
    | cont => exact False.elim hs.choose_spec.choose_spec.2
theorem Df.clG {P : Program} {w : World} {K : Fr} {mg : Str → Option Value} {base : Heap} {CX : CXT} {d : He.DefD} {N ps : List Str} {k : Nat} {sp : Sp} (D : Df K mg d) (S : FnScope N ps d.scope) (len : ∀ vs H Q E, sp vs H Q E → vs.length = ps.length)
    (hb : ∀ (kV doc pm : Value) (an : Option Addr) (cdv ct : Value) (us : List Value), us.length = ps.length → bindArgs (PySem.W.fnOf d.name d.qual d.params d.body d.scope .none kV doc pm an cdv ct) ⟨us, []⟩ = pure (ps.zip us))
    (hbody : ∀ (f : Addr) (cdv : Value) (A : Around) (outer : List Env) (s : Shared) (H : Hp) (vs : List V) (Q : VK) (E : XK), A.guards = some [] → Room k (A.deeper (envOfC d.qual d.scope s.heap.objs.size f cdv)) → sp vs H Q E →
      ∃ t, PSs (cxOf CX P w K mg base N d.qual d.scope f cdv A outer s H E) d.body t ∧ t { nx := fun _ H' => Q .non H', rt := Q } (start N vs) H) : ClG P w K mg base CX (k + 1) d.name sp := by
  obtain ⟨f, fd, F, g⟩ := D.ex
  exact ⟨f, fd, ps, Df.fnG F S len hbody, g, F.kp, F.bindsN hb⟩
/-- f(e, ..) where no repr stands open -/
theorem e_clG {X : Cx} {CX : CXT} {E : XK} {k j : Nat} {x : Str} {sp : Sp} {p pos : Pos} {e : Expr} {es : List Expr} {σ : Sg} {H : Hp} {Q : VK} (c : ClG X.prog X.w X.K X.mg X.base CX k x sp) (hgd : X.A.guards = some []) (hr : Room j X.A) (hk : k ≤ j) (hx : Passes CX X E) (h : aX X (e :: es) σ H fun vs H1 => sp vs H1 Q E) (hg : Gl X x := by rfl)
    (hdb : (x == ("__debug__" : Str)) = false := by decide) (he : starEach (e :: es) X.env = (false, eval e X.env) :: starEach es X.env := by rfl) (hpl : (backTo pos (starEach es X.env)).any (·.1) = false := by rfl) :
    eX X (.Call (.Name x p) (e :: es) [] pos) σ H Q := by
  obtain ⟨f, fd, ps, F, hm, kp, b⟩ := c.ex
  intro pins s I
  refine wpAny_Call_Name_kw (ld_glob I hg hm ?_ hdb)
  refine PySem.W.callWith_K (h₀ := X.base) I.ok.mod.kin kp (thn (h pos pins s I) fun us s2 ⟨vs, H2, I2, r, q⟩ => ⟨I2.kIn, ?_⟩) he hpl
  have hl : us.length = ps.length := by rw [← r.length]; exact F.len _ _ _ _ q
  have hb := b s2 us I2.kIn (by rw [List.append_nil]; exact hl)
  rw [List.append_nil] at hb
  refine wpAny_call (codeAny_mono (F.run X.A X.stack s2 H2 ⟨us, []⟩ us vs Q E hgd (hr.mono hk) I2.env0 hb r q) fun r s' hq => ?_)
  cases r with
  | error e => exact hx pins σ H2 s2 e s' I2 hq
  | ok fl =>
    cases fl with
    | ret u => exact I2.after hq
    | next => exact False.elim hq
    | brk => exact False.elim hq
    | cont => exact False.elim hq
end K96

set_option Elab.async false
set_option linter.all false
set_option maxRecDepth 100000
set_option maxHeartbeats 4000000
/-! The law's rope; the reads as values; a first line's words. -/
namespace K96
open PySem PySem.Spec PyProof.Rows L2 Evl
abbrev EF : XK := fun _ _ _ => False
theorem passF {X : Cx} : Passes (L2.CX X.prog X.w) X EF := fun _ _ _ _ _ _ _ h => by
  obtain ⟨_, _, _, _, _, _, _, _, _, _, _, _, z⟩ := h
  exact z.elim
section
variable {X : Cx} {a b o : Expr} {pos p2 : Pos} {σ : Sg} {H : Hp} {Q : VK} {l : Addr} {t : Str}
/-- xs[:63] -/
theorem evl_upto {xs : List V} {i : Nat} {j : Nat} {pc : Pos} (ha : EV X a σ H (.ref l)) (hx : SqL X.K H l xs) : EVL X (.Subscript a (.Slice none (some (.Constant (.int (i : Nat)) j pc)) none p2) pos) σ H (cutV xs none (some (i : Nat))) := by
  intro H1 e1 Q q
  exact eX_of (pe_slice sl_list pe_X po_none (po_some pe_int)) (ha H1 e1 _ fun H2 e2 => ⟨_, rfl, l, _, rfl, ex_l (e1.trans e2) hx, fun p hp => q p _ (fresh_back e2 hp) (e2.trans (Ex.new hp)) upd_same⟩)
theorem cut_small (xs : List V) (i : Nat) : (cutV xs none (some (i : Nat))).length ≤ i ∧ ∀ x ∈ cutV xs none (some (i : Nat)), x ∈ xs := by
  have e : cutV xs none (some (i : Nat)) = (xs.drop (HT.sIx xs.length 0 none)).take (HT.sIx xs.length xs.length (some (i : Nat)) - HT.sIx xs.length 0 none) := rfl
  rw [HT.sIx_nat] at e
  refine ⟨?_, fun x hx => ?_⟩
  · rw [e, List.length_take]
    omega
  · rw [e] at hx
    exact List.mem_of_mem_drop (List.mem_of_mem_take hx)
/-- t.split("\n")[0] -/
theorem ev_row0 {j1 j2 : Nat} {p0 p3 apos cpos : Pos} (ho : EV X o σ H (.str t)) (ht : t.length ≤ 90000) (hbase : attributeBase o "split" X.env (eval o X.env) = eval o X.env := by rfl) (hline : (apos.endLine == cpos.line) = true := by rfl) (hs : PlainIx (.Constant (.int 0) j2 p3) := by intro _ _; rfl) :
    EV X (.Subscript (.Call (.Attribute o "split" apos) [.Constant (.str "\n") j1 p0] [] cpos) (.Constant (.int 0) j2 p3) pos) σ H (.str (firstRow t)) := by
  intro H1 e1 Q q
  refine eX_of (pe_ix ix_list pe_X pe_X hs) (e_split (fun H2 e2 => ho H2 (e1.trans e2)) ht (by decide +kernel) (fun H2 p e2 hp => ?_) hbase hline)
  have e3 : Ex H2 (L2.upd H2 p (.lst ((Txt.split t "\n").map V.str))) := Ex.new hp
  refine (show eX _ _ _ _ _ from eX_ev (v := .int ((0 : Nat) : Int)) ev_int fun H3 e4 => ?_)
  refine rv_ixL (v := .str (firstRow t)) (sq_of (e4 _ _ upd_same)) (atI_j ?_) H3 (Ex.refl H3) Q fun H4 e5 => q H4 (((e2.trans e3).trans e4).trans e5)
  rw [List.getElem?_map]
  show ((rowsOf t)[0]?).map V.str = _
  rw [rows_head]
  rfl
/-- t.split("\n")[0].split(" ") -/
theorem e_words0 {j1 j2 j3 : Nat} {p0 p3 p4 p5 apos cpos apos2 : Pos} (ho : EV X o σ H (.str t)) (ht : t.length ≤ 90000) (q : ∀ H1 p, Ex H H1 → H1 p = none → Q (.ref p) (L2.upd H1 p (.lst ((wordsOf (firstRow t)).map V.str))))
    (hbase : attributeBase o "split" X.env (eval o X.env) = eval o X.env := by rfl) (hline : (apos.endLine == cpos.line) = true := by rfl) (hs : PlainIx (.Constant (.int 0) j2 p3) := by intro _ _; rfl)
    (hbase2 : attributeBase (.Subscript (.Call (.Attribute o "split" apos) [.Constant (.str "\n") j1 p0] [] cpos) (.Constant (.int 0) j2 p3) p4) "split" X.env (eval (.Subscript (.Call (.Attribute o "split" apos) [.Constant (.str "\n") j1 p0] [] cpos) (.Constant (.int 0) j2 p3) p4) X.env) = eval (.Subscript (.Call (.Attribute o "split" apos) [.Constant (.str "\n") j1 p0] [] cpos) (.Constant (.int 0) j2 p3) p4) X.env := by rfl)
    (hline2 : (apos2.endLine == pos.line) = true := by rfl) :
    eX X (.Call (.Attribute (.Subscript (.Call (.Attribute o "split" apos) [.Constant (.str "\n") j1 p0] [] cpos) (.Constant (.int 0) j2 p3) p4) "split" apos2) [.Constant (.str " ") j3 p5] [] pos) σ H Q :=
  e_split (ev_row0 ho ht hbase hline hs) (Nat.le_trans (first_len t) ht) (by decide +kernel) q hbase2 hline2
end
/-- the classes of papers, as the law needs them -/
structure PapF (K : Fr) (A : Adr) (f : Addr) : Prop where
  ok : ∀ z ∈ partsTab.map (·.1), KOk K (A.pap z) ∧ ∃ nm, NmC K (A.pap z) nm f
  pt : ∀ z ∈ partsTab.map (·.1), PySem.W.kitOne K (.ref (A.pap z)) (.ref A.paper) = some true ∧ ∃ b1 b2, PySem.W.kitAny K (.ref (A.pap z)) (clsOf A firstW) = some b1 ∧ PySem.W.kitAny K (.ref (A.pap z)) (clsOf A lastW) = some b2 ∧ (b1 || b2) = true
theorem parts_key {z : Str} {c : Nat} (h : partsTab.lookup z = some c) : z ∈ partsTab.map (·.1) := List.mem_map.mpr ⟨_, PySem.mem_of_lookup h, rfl⟩
theorem PapF.ty {K : Fr} {A : Adr} {f : Addr} (F : PapF K A f) {H : Hp} {x : Addr} {z w : Str} {ds : List PyData} (hz : z ∈ partsTab.map (·.1)) (I : PapI K H x (A.pap z) w ds) : TyX K H (.ref x) (.ref (A.pap z)) := by
  obtain ⟨dx, fs, q, ws, hx, _⟩ := I.ob
  obtain ⟨_, nm, N⟩ := F.ok z hz
  exact .base (.ins hx N.cl N.ca N.cn N.ct N.mo)
theorem PapF.tp {K : Fr} {A : Adr} {f : Addr} (F : PapF K A f) {H : Hp} {x : Addr} {z w : Str} {ds : List PyData} (hz : z ∈ partsTab.map (·.1)) (I : PapI K H x (A.pap z) w ds) : ∃ b1 b2, PT K A H (.ref x) true b1 b2 ∧ (b1 || b2) = true := by
  obtain ⟨h0, b1, b2, h1, h2, h3⟩ := F.pt z hz
  exact ⟨b1, b2, ⟨_, F.ty hz I, h0, h1, h2⟩, h3⟩
/-- paper_text of a paper -/
theorem ptext_ok {K : Fr} {A : Adr} {f : Addr} (F : PapF K A f) {H : Hp} {x : Addr} {z : Str} {ds : List PyData} {Q : VK} {E : XK} {c : Nat} (hz : partsTab.lookup z = some c) (I : PapI K H x (A.pap z) z ds) (ht : ds.all (toldAt 10) = true) (hl : szL ds ≤ 40000) (q : Gives (.str (Txt.join " " (z :: wordsL ds))) H Q) : spPText A K [.ref x] H Q E := by
  obtain ⟨b1, b2, hp, hb⟩ := F.tp (parts_key hz) I
  have hz20 : z.length ≤ 20 := by
    have key : ∀ q ∈ partsTab, q.1.length ≤ 20 := by decide +kernel
    exact key _ (PySem.mem_of_lookup hz)
  exact ⟨_, rfl, .inr ⟨x, A.pap z, z, ds, b1, b2, rfl, (F.ok z (parts_key hz)).1, I, hp, hl, hz20, fun _ => q, fun h => by rw [hb, ht] at h; cases h⟩⟩
section
variable {P : Program} {w : World} {K : Fr} {mg : Str → Option Value} {base : Heap} {A : Adr}
def spRope (K : Fr) : Sp := fun vs H Q _ => ∃ (a : Addr) (ns : List Int), vs = [.ref a] ∧ SqL K H a (ns.map V.int) ∧ ∀ r c H', Ex H H' → H r = none → RopeO H' r c 0 → Q (.ref r) H'
theorem ok_law_rope (T : Txt K mg) (D : Df K mg d_law_rope) : Cl P w K mg base CX0 1 "_law_rope" (spRope K) := by
  refine D.cl sc_law_rope (fun vs H Q E h => ?_) (fun _ _ _ _ _ _ us hl => match us, hl with | [_], _ => rfl) fun f cdv Ar outer s H vs Q E hr h => ⟨_, pb_X, ?_⟩
  · obtain ⟨a, ns, rfl, _⟩ := h
    rfl
  obtain ⟨a, ns, rfl, hs, k⟩ := h
  have nd := sc_law_rope.nd
  obtain ⟨c1, c2⟩ := cut_small (ns.map V.int) 63
  obtain ⟨ms, hms⟩ : ∃ ms : List Int, cutV (ns.map V.int) none (some ((63 : Nat) : Int)) = ms.map V.int := by
    have key : ∀ l : List V, (∀ x ∈ l, x ∈ ns.map V.int) → ∃ ms : List Int, l = ms.map V.int := fun l => by
      induction l with
      | nil => exact fun _ => ⟨[], rfl⟩
      | cons x l ih =>
        intro h
        obtain ⟨ms, rfl⟩ := ih fun y hy => h y (List.mem_cons_of_mem _ hy)
        obtain ⟨i, _, rfl⟩ := List.mem_map.mp (h x (List.mem_cons_self ..))
        exact ⟨i :: ms, rfl⟩
    exact key _ c2
  have hl : ms.length ≤ 63 := by
    rw [hms, List.length_map] at c1
    exact c1
  refine b_one ?_
  refine s_retX ?_
  refine e_lst ?_
  refine a_cons (eX_evl (xs := ms.map V.int) ?_ fun c H1 hc e1 g1 => a_cons (eX_ev (v := .int 0) ev_int fun H2 e2 => a_one (eX_ev (v := .int 0) ev_int fun H3 e3 => ⟨by show 3 ≤ sizeLine; decide, fun r hr0 => ?_⟩)))
  · refine evl_lcP (xs := ms.map V.int) (ys := ms.map V.int) (i := 1) rfl (its_ln (by rw [← hms]; exact evl_upto (i := 63) (ev_name 0 rfl) hs)) nd (blkOk_by (N := ["script", "cell"]) (sc := defScope s_law_rope) (by decide +kernel)) (fun _ _ _ _ _ => pg_name nd rfl (Or.inl rfl)) (by rw [List.length_map]; omega) (fun j x y H1 hx hy e1 s' H0 C cl fp => ?_)
    rw [hx] at hy
    obtain rfl := Option.some.inj hy
    rw [List.getElem?_map] at hx
    obtain ⟨i, _, rfl⟩ := Option.map_eq_some_iff.mp hx
    exact ev_intc (T.f "int") (ev_name 1 rfl)
  · have E3 := (e1.trans e2).trans e3
    have e23 := e2.trans e3
    have ncr : c ≠ r := fun z => by
      rw [← z, e23 _ _ g1] at hr0
      cases hr0
    exact k r c _ (E3.trans (Ex.new hr0)) (fresh_back E3 hr0) ⟨ms, 0, 0, upd_same, by rw [upd_ne ncr]; exact e23 _ _ g1, Int.le_refl _, Int.le_refl _, Nat.zero_le _, hl⟩
/-- a read as a value -/
theorem ClK.fnv {k : Nat} {x p : Str} {sp : Sp} (c : ClK P w K mg base (L2.CX P w) k x p sp) : ∃ f : Addr, mg x = some (.ref f) ∧ FnV P w K mg base k f sp := by
  obtain ⟨f, fd, F, hm, kp, b, _⟩ := c.ex
  exact ⟨f, hm, fd, [p], F, kp, b⟩
/-- answered of read_paper -/
theorem ans_paper {k : Nat} {f : Addr} {H : Hp} {Q : VK} {E : XK} {t : Str} (hF : FnV P w K mg base k f (spReadP A K)) (ht : t.length ≤ 80000)
    (hI : ∀ z ds, readP t = .inr (z, ds) → ∀ x p H', PapI K H' x (A.pap z) z ds → plainL ds = true → Ex H H' → H p = none → H' p = some (.lst [.ref x]) → Q (.ref p) H')
    (hB : ∀ a b : Nat, readP t = .inl (a, b) → ∀ p H', Ex H H' → H p = none → H' p = some (.tup [.int a, .int b]) → Q (.ref p) H') : spAns P w K mg base A k [.ref f, .str t] H Q E := by
  refine ⟨f, _, _, rfl, hF, fun H1 e1 Q1 E1 q1 q2 => ⟨_, "str", rfl, .s t (by omega), fun u hu => ?_, fun h => absurd rfl h⟩⟩
  obtain rfl := V.str.inj hu
  refine ⟨ht, fun z ds x H' hr e' I pl => q1 _ _ fun p hp H3 e3 => ?_, fun a b hr d H' hd e' hx => q2 d a b H' hx fun p H3 hp e3 h3 => hB a b hr p H3 ((e1.trans e').trans e3) (fresh_back (e1.trans e') hp) h3⟩
  have E3 := (e1.trans e').trans ((Ex.new hp).trans e3)
  exact hI z ds hr x p H3 (I.ext ((Ex.new hp).trans e3)) pl E3 (fresh_back (e1.trans e') hp) (e3 _ _ upd_same)
/-- answered of read_question -/
theorem ans_quest {k : Nat} {f : Addr} {H : Hp} {Q : VK} {E : XK} {t : Str} (hF : FnV P w K mg base k f (spReadQ A K)) (ht : t.length ≤ 3000)
    (hI : ∀ z ds, readQ t = .inr (z, ds) → ∀ x p H', Ur K H' x (.tuple (.str z :: ds)) → plainL ds = true → Ex H H' → H p = none → H' p = some (.lst [x]) → Q (.ref p) H')
    (hB : ∀ a b : Nat, readQ t = .inl (a, b) → ∀ p H', Ex H H' → H p = none → H' p = some (.tup [.int a, .int b]) → Q (.ref p) H') : spAns P w K mg base A k [.ref f, .str t] H Q E := by
  refine ⟨f, _, _, rfl, hF, fun H1 e1 Q1 E1 q1 q2 => ⟨_, "str", rfl, .s t (by omega), fun u hu => ?_, fun h => absurd rfl h⟩⟩
  obtain rfl := V.str.inj hu
  refine ⟨ht, fun z ds x H' hr e' I pl => q1 _ _ fun p hp H3 e3 => ?_, fun a b hr d H' hd e' hx => q2 d a b H' hx fun p H3 hp e3 h3 => hB a b hr p H3 ((e1.trans e').trans e3) (fresh_back (e1.trans e') hp) h3⟩
  have E3 := (e1.trans e').trans ((Ex.new hp).trans e3)
  exact hI z ds hr x p H3 (I.ext ((Ex.new hp).trans e3)) pl E3 (fresh_back (e1.trans e') hp) (e3 _ _ upd_same)
end
end K96

set_option Elab.async false
set_option linter.all false
set_option maxRecDepth 100000
set_option maxHeartbeats 4000000
/-! The plain law: what is due can be told, shown, written again. -/
namespace K96
open PySem PySem.Spec PyProof.Rows L2 Evl TL
theorem szL_app1 (xs : List PyData) (x : PyData) : szL (xs ++ [x]) = szL xs + szD x := szL_snoc xs x
theorem toldN_ok (ws : List Str) : ∀ (n i : Nat) (acc ds : List PyData) (j : Nat), i ≤ ws.length → acc.all (toldAt 10) = true → toldN ws n i acc = .inr (ds, j) → ds.all (toldAt 10) = true ∧ szL ds + i ≤ szL acc + j ∧ ds.length = acc.length + n ∧ j ≤ ws.length
  | 0, i, acc, ds, j, hi, ha, h => by
    cases h
    exact ⟨ha, Nat.le_refl _, rfl, hi⟩
  | n + 1, i, acc, ds, j, hi, ha, h => by
    unfold toldN at h
    cases hg : toldGo ws (ws.length + 1 - i) i [] with
    | inl k => rw [hg] at h; cases h
    | inr p =>
      obtain ⟨x, k⟩ := p
      rw [hg] at h
      obtain ⟨_, t2, t3, t4⟩ := told_ok ws _ i [] x k hi (by decide) rfl hg
      have tx := told_again ws _ i [] x k (by decide) rfl hg
      have ha2 : (acc ++ [x]).all (toldAt 10) = true := by
        rw [List.all_append, ha]
        show (true && (toldAt 10 x && true)) = true
        rw [tx]
        rfl
      obtain ⟨p1, p2, p3, p4⟩ := toldN_ok ws n k (acc ++ [x]) ds j t4 ha2 h
      have t2 : szD x + i ≤ 0 + k := t2
      rw [szL_app1] at p2
      rw [List.length_append] at p3
      refine ⟨p1, by omega, ?_, p4⟩
      rw [p3]
      show acc.length + 1 + n = _
      omega
theorem qN_ok (ws : List Str) : ∀ (fs : List Str) (i : Nat) (acc ds : List PyData) (j : Nat), i ≤ ws.length → acc.all (toldAt 10) = true → qN ws fs i acc = .inr (ds, j) → ds.all (toldAt 10) = true ∧ szL ds + i ≤ szL acc + j ∧ j ≤ ws.length
  | [], i, acc, ds, j, hi, ha, h => by
    cases h
    exact ⟨ha, Nat.le_refl _, hi⟩
  | f :: fs, i, acc, ds, j, hi, ha, h => by
    unfold qN at h
    cases hg : toldGo ws (ws.length + 1 - i) i [] with
    | inl k => rw [hg] at h; cases h
    | inr p =>
      obtain ⟨x, k⟩ := p
      rw [hg] at h
      have h : (if formD f x = true then qN ws fs k (acc ++ [x]) else .inl i) = .inr (ds, j) := h
      split at h
      · obtain ⟨_, t2, t3, t4⟩ := told_ok ws _ i [] x k hi (by decide) rfl hg
        have tx := told_again ws _ i [] x k (by decide) rfl hg
        have ha2 : (acc ++ [x]).all (toldAt 10) = true := by
          rw [List.all_append, ha]
          show (true && (toldAt 10 x && true)) = true
          rw [tx]
          rfl
        obtain ⟨p1, p2, p4⟩ := qN_ok ws fs k (acc ++ [x]) ds j t4 ha2 h
        have t2 : szD x + i ≤ 0 + k := t2
        rw [szL_app1] at p2
        exact ⟨p1, by omega, p4⟩
      · cases h
theorem pDue_ok {ws : List Str} {z : Str} {ds : List PyData} (h : pDue ws = .inr (z, ds)) : partsTab.lookup z = some ds.length ∧ ds.all (toldAt 10) = true ∧ szL ds ≤ ws.length := by
  unfold pDue paperGo at h
  cases hw : ws[0]? with
  | none => rw [hw] at h; cases h
  | some y =>
    rw [hw] at h
    have h : dueOf ws (match partsTab.lookup y with | none => .inl 0 | some c => tagP y (toldN ws c 1 [])) = .inr (z, ds) := h
    cases hp : partsTab.lookup y with
    | none => rw [hp] at h; cases h
    | some c =>
      rw [hp] at h
      have h : dueOf ws (tagP y (toldN ws c 1 [])) = .inr (z, ds) := h
      cases hn : toldN ws c 1 [] with
      | inl j => rw [hn] at h; cases h
      | inr p =>
        obtain ⟨es, j⟩ := p
        rw [hn] at h
        have h : (if j < ws.length then Sum.inl j else Sum.inr (y, es)) = Sum.inr (z, ds) := h
        split at h
        · cases h
        · cases h
          have hl := (List.getElem?_eq_some_iff.mp hw).1
          obtain ⟨p1, p2, p3, p4⟩ := toldN_ok ws c 1 [] ds j hl rfl hn
          have p2 : szL ds + 1 ≤ 0 + j := p2
          have p3 : ds.length = 0 + c := p3
          exact ⟨by rw [hp, p3, Nat.zero_add], p1, by omega⟩
theorem qDue_ok {ws : List Str} {z : Str} {ds : List PyData} (h : qDue ws = .inr (z, ds)) : toldAt 11 (.tuple (.str z :: ds)) = true ∧ szD (.tuple (.str z :: ds)) ≤ ws.length + 2 := by
  unfold qDue questGo at h
  cases hw : ws[0]? with
  | none => rw [hw] at h; cases h
  | some y =>
    rw [hw] at h
    have h : dueOf ws (match formsTab.lookup y with | none => .inl 0 | some c => tagP y (qN ws c 1 [])) = .inr (z, ds) := h
    cases hp : formsTab.lookup y with
    | none => rw [hp] at h; cases h
    | some c =>
      rw [hp] at h
      have h : dueOf ws (tagP y (qN ws c 1 [])) = .inr (z, ds) := h
      cases hn : qN ws c 1 [] with
      | inl j => rw [hn] at h; cases h
      | inr p =>
        obtain ⟨es, j⟩ := p
        rw [hn] at h
        have h : (if j < ws.length then Sum.inl j else Sum.inr (y, es)) = Sum.inr (z, ds) := h
        split at h
        · cases h
        · cases h
          have hl := (List.getElem?_eq_some_iff.mp hw).1
          obtain ⟨p1, p2, p4⟩ := qN_ok ws c 1 [] ds j hl rfl hn
          have p2 : szL ds + 1 ≤ 0 + j := p2
          have hzm : isMark z = true := by
            have key : ∀ y ∈ formsTab.map (·.1), isMark y = true := by decide +kernel
            exact key z (forms_keys.mpr ⟨c, hp⟩)
          refine ⟨?_, ?_⟩
          · show (isMark z && ds.all (toldAt 10)) = true
            rw [hzm, p1]
            rfl
          · show 1 + (1 + szL ds) ≤ _
            omega
/-- two small numbers in a tuple -/
theorem pair_told {a b : Nat} (ha : a ≤ 100000) (hb : b ≤ 100000) : toldAt 1 (.tuple [.int a, .int b]) = true := by
  show ((decide (0 - mostV ≤ (a : Int)) && decide ((a : Int) ≤ mostV)) && ((decide (0 - mostV ≤ (b : Int)) && decide ((b : Int) ≤ mostV)) && true)) = true
  rw [mostV_is, decide_eq_true (by omega), decide_eq_true (by omega), decide_eq_true (by omega), decide_eq_true (by omega)]
  rfl
theorem told_shaped {n : Nat} {d : PyData} (h : toldAt n d = true) (hn : n ≤ 60) : SeqAt.shaped d = true := by
  have s := show_told d n h
  unfold SeqAt.shaped
  rw [s.lay, decide_eq_true (Nat.le_trans s.dep (by omega))]
  rfl
theorem pair_dp {K : Fr} {H : Hp} {p : Addr} {a b : Int} (h : H p = some (.tup [.int a, .int b])) : Dp K H (.ref p) (.tuple [.int a, .int b]) := .tup (st_of h) (.cons (.int _) (.cons (.int _) .nil))
/-- a text without a line's end, and its words -/
theorem one_row {ls : List (List Str)} {n : Nat} (h : LnB n ls) (h1 : 10 ∉ (textL ls).cps.toList) : textL ls = Txt.join " " (wordsOf (firstRow (textL ls))) := by
  obtain ⟨hne, hok, _⟩ := lnB_ok h
  have hr := rows_text hne hok
  have h2 : ¬ 1 < (rowsOf (textL ls)).length := fun e => h1 ((nl_text hne hok).mpr e)
  match ls, hne, h, hok, hr, h2 with
  | [l], _, h, hok, hr, h2 =>
    obtain ⟨_, _, h⟩ := h
    obtain ⟨⟨a, b⟩, _⟩ := h l (List.mem_cons_self ..)
    rw [first_text hok, words_join (fun e => by rw [e] at a; cases a) (hok l (List.mem_cons_self ..)), text_one]
  | a :: b :: r, _, _, _, hr, h2 =>
    exfalso
    apply h2
    rw [hr, List.length_map]
    show 1 < r.length + 1 + 1
    omega
/-- the reads of a bent text by what is due -/
theorem readP_inl {t : Str} {b : Nat} (h : pDue (wordsOf (firstRow t)) = .inl b) : readP t = .inl (0, b) := end_inl h
theorem readQ_inl {t : Str} {b : Nat} (h : qDue (wordsOf (firstRow t)) = .inl b) : readQ t = .inl (0, b) := end_inl h
theorem readP_inr {t : Str} {x : Str × List PyData} (h : pDue (wordsOf (firstRow t)) = .inr x) : readP t = if 1 < (rowsOf t).length then .inl (1, 0) else .inr x := end_inr h
theorem readQ_inr {t : Str} {x : Str × List PyData} (h : qDue (wordsOf (firstRow t)) = .inr x) : readQ t = if 1 < (rowsOf t).length then .inl (1, 0) else .inr x := end_inr h
theorem due_small {α : Type} {ws : List Str} {R : Nat ⊕ (α × Nat)} {b m : Nat} (hR : ∀ j, R = .inl j → j ≤ m) (hw : ws.length ≤ m) (h : dueOf ws R = .inl b) : b ≤ m := by
  cases R with
  | inl j =>
    cases h
    exact hR _ rfl
  | inr p =>
    obtain ⟨x, j⟩ := p
    have h : (if j < ws.length then Sum.inl j else Sum.inr x) = Sum.inl b := h
    split at h
    · cases h
      omega
    · cases h
theorem go_small (ws : List Str) : ∀ (n i : Nat) (st : List (List PyData)) (j : Nat), i ≤ ws.length → toldGo ws n i st = .inl j → j ≤ ws.length
  | 0, i, st, j, hi, h => by
    cases h
    exact hi
  | n + 1, i, st, j, hi, h => by
    unfold toldGo at h
    have fin : ∀ (y : PyData) (st' : List (List PyData)), i < ws.length → fin2 (toldGo ws n) y (i + 1) st' = .inl j → j ≤ ws.length := fun y st' hl hf => by
      cases st' with
      | nil => cases hf
      | cons top rest => exact go_small ws n (i + 1) _ j hl hf
    have av : ∀ {z : Str}, decide (aheadV ws i = V.str z) = true → i < ws.length := fun {z} hb => by
      have hb := of_decide_eq_true hb
      unfold aheadV at hb
      split at hb
      · rename_i w hw
        exact (List.getElem?_eq_some_iff.mp hw).1
      · cases hb
    split at h
    · rename_i hb
      split at h
      · cases h
        exact hi
      · exact go_small ws n (i + 1) _ j (av hb) h
    · split at h
      · rename_i hc
        exact fin _ _ (av (Bool.and_eq_true_iff.mp hc).2) h
      · cases hb : (ws[i]?).bind singleW with
        | none =>
          rw [hb] at h
          cases h
          exact hi
        | some y =>
          rw [hb] at h
          cases hw : ws[i]? with
          | none => rw [hw] at hb; cases hb
          | some z => exact fin y st (List.getElem?_eq_some_iff.mp hw).1 h
theorem toldN_small (ws : List Str) : ∀ (n i : Nat) (acc : List PyData) (j : Nat), i ≤ ws.length → toldN ws n i acc = .inl j → j ≤ ws.length
  | 0, i, acc, j, hi, h => by cases h
  | n + 1, i, acc, j, hi, h => by
    unfold toldN at h
    cases hg : toldGo ws (ws.length + 1 - i) i [] with
    | inl k =>
      rw [hg] at h
      cases h
      exact go_small ws _ i [] _ hi hg
    | inr p =>
      obtain ⟨x, k⟩ := p
      rw [hg] at h
      exact toldN_small ws n k _ j (told_ok ws _ i [] x k hi (by decide) rfl hg).2.2.2 h
theorem qN_small (ws : List Str) : ∀ (fs : List Str) (i : Nat) (acc : List PyData) (j : Nat), i ≤ ws.length → qN ws fs i acc = .inl j → j ≤ ws.length
  | [], i, acc, j, hi, h => by cases h
  | f :: fs, i, acc, j, hi, h => by
    unfold qN at h
    cases hg : toldGo ws (ws.length + 1 - i) i [] with
    | inl k =>
      rw [hg] at h
      cases h
      exact go_small ws _ i [] _ hi hg
    | inr p =>
      obtain ⟨x, k⟩ := p
      rw [hg] at h
      have h : (if formD f x = true then qN ws fs k (acc ++ [x]) else .inl i) = .inl j := h
      split at h
      · exact qN_small ws fs k _ j (told_ok ws _ i [] x k hi (by decide) rfl hg).2.2.2 h
      · cases h
        exact hi
theorem tag_inl {z : Str} {R : Nat ⊕ (List PyData × Nat)} {j : Nat} (h : tagP z R = .inl j) : R = .inl j := by
  cases R with
  | inl k =>
    cases h
    rfl
  | inr p =>
    obtain ⟨a, b⟩ := p
    cases h
theorem pDue_small {ws : List Str} {b : Nat} (h : pDue ws = .inl b) : b ≤ ws.length := due_small (fun j hj => by
  unfold paperGo at hj
  cases hw : ws[0]? with
  | none =>
    rw [hw] at hj
    cases hj
    exact Nat.zero_le _
  | some y =>
    rw [hw] at hj
    have hj : (match partsTab.lookup y with | none => Sum.inl 0 | some c => tagP y (toldN ws c 1 [])) = .inl j := hj
    cases hp : partsTab.lookup y with
    | none =>
      rw [hp] at hj
      cases hj
      exact Nat.zero_le _
    | some c =>
      rw [hp] at hj
      exact toldN_small ws c 1 [] j (List.getElem?_eq_some_iff.mp hw).1 (tag_inl hj)) (Nat.le_refl _) h
theorem qDue_small {ws : List Str} {b : Nat} (h : qDue ws = .inl b) : b ≤ ws.length := due_small (fun j hj => by
  unfold questGo at hj
  cases hw : ws[0]? with
  | none =>
    rw [hw] at hj
    cases hj
    exact Nat.zero_le _
  | some y =>
    rw [hw] at hj
    have hj : (match formsTab.lookup y with | none => Sum.inl 0 | some c => tagP y (qN ws c 1 [])) = .inl j := hj
    cases hp : formsTab.lookup y with
    | none =>
      rw [hp] at hj
      cases hj
      exact Nat.zero_le _
    | some c =>
      rw [hp] at hj
      exact qN_small ws c 1 [] j (List.getElem?_eq_some_iff.mp hw).1 (tag_inl hj)) (Nat.le_refl _) h
end K96

set_option Elab.async false
set_option linter.all false
set_option maxRecDepth 100000
set_option maxHeartbeats 4000000
/-! The law's right: one turn. -/
namespace K96
open PySem PySem.Spec PyProof.Rows L2 Evl TL
/-- what is due is a tuple of two numbers -/
def TupC {α : Type} (due : Nat ⊕ α) (t : Str) (x y : Nat) : Prop := (due = .inl y ∧ x = 0) ∨ ∃ r, due = .inr r ∧ 10 ∈ t.cps.toList ∧ x = 1 ∧ y = 0
theorem TupC.uniq {α : Type} {due : Nat ⊕ α} {t : Str} {x y x' y' : Nat} (h : TupC due t x y) (h' : TupC due t x' y') : x = x' ∧ y = y' := by
  rcases h with ⟨e, rfl⟩ | ⟨r, e, _, rfl, rfl⟩
  · rcases h' with ⟨e', rfl⟩ | ⟨r', e', _⟩
    · rw [e] at e'
      exact ⟨rfl, Sum.inl.inj e'⟩
    · rw [e] at e'
      cases e'
  · rcases h' with ⟨e', _⟩ | ⟨r', _, _, rfl, rfl⟩
    · rw [e] at e'
      cases e'
    · exact ⟨rfl, rfl⟩
theorem TupC.not {α : Type} {due : Nat ⊕ α} {t : Str} {x y : Nat} {r : α} (h : TupC due t x y) (e : due = .inr r) (n : 10 ∉ t.cps.toList) : False := by
  rcases h with ⟨e', _⟩ | ⟨_, _, m, _⟩
  · rw [e] at e'
    cases e'
  · exact n m
section
variable {P : Program} {w : World} {K : Fr} {mg : Str → Option Value} {base : Heap} {A : Adr} {H : Hp} {Q : VK} {E : XK} {k n : Nat} {f : Addr} {lls : List (List Str)}
theorem ans_p (hF : FnV P w K mg base k f (spReadP A K)) (hL : LnB n lls) (ht : (textL lls).length ≤ 80000)
    (kT : ∀ x y : Nat, TupC (pDue (wordsOf (firstRow (textL lls)))) (textL lls) x y → ∀ p H', Ex H H' → H p = none → H' p = some (.tup [.int x, .int y]) → Q (.ref p) H')
    (kI : ∀ z ds, pDue (wordsOf (firstRow (textL lls))) = .inr (z, ds) → 10 ∉ (textL lls).cps.toList → ∀ x p H', PapI K H' x (A.pap z) z ds → plainL ds = true → Ex H H' → H p = none → H' p = some (.lst [.ref x]) → Q (.ref p) H') : spAns P w K mg base A k [.ref f, .str (textL lls)] H Q E := by
  obtain ⟨hne, hok, _⟩ := lnB_ok hL
  have nl := nl_text hne hok
  refine ans_paper hF ht (fun z ds hr x p H' I pl e hp h => ?_) fun a b hr p H' e hp h => ?_
  · cases hd : pDue (wordsOf (firstRow (textL lls))) with
    | inl j =>
      rw [readP_inl hd] at hr
      cases hr
    | inr r =>
      rw [readP_inr hd] at hr
      split at hr
      · cases hr
      · rename_i h1
        cases hr
        exact kI z ds hd (fun m => h1 (nl.mp m)) x p H' I pl e hp h
  · cases hd : pDue (wordsOf (firstRow (textL lls))) with
    | inl j =>
      rw [readP_inl hd] at hr
      cases hr
      exact kT _ _ (.inl ⟨hd, rfl⟩) p H' e hp h
    | inr r =>
      rw [readP_inr hd] at hr
      split at hr
      · rename_i h1
        cases hr
        exact kT _ _ (.inr ⟨r, hd, nl.mpr h1, rfl, rfl⟩) p H' e hp h
      · cases hr
theorem ans_q (hF : FnV P w K mg base k f (spReadQ A K)) (hL : LnB n lls) (ht : (textL lls).length ≤ 3000)
    (kT : ∀ x y : Nat, TupC (qDue (wordsOf (firstRow (textL lls)))) (textL lls) x y → ∀ p H', Ex H H' → H p = none → H' p = some (.tup [.int x, .int y]) → Q (.ref p) H')
    (kI : ∀ z ds, qDue (wordsOf (firstRow (textL lls))) = .inr (z, ds) → 10 ∉ (textL lls).cps.toList → ∀ x p H', Ur K H' x (.tuple (.str z :: ds)) → plainL ds = true → Ex H H' → H p = none → H' p = some (.lst [x]) → Q (.ref p) H') : spAns P w K mg base A k [.ref f, .str (textL lls)] H Q E := by
  obtain ⟨hne, hok, _⟩ := lnB_ok hL
  have nl := nl_text hne hok
  refine ans_quest hF ht (fun z ds hr x p H' I pl e hp h => ?_) fun a b hr p H' e hp h => ?_
  · cases hd : qDue (wordsOf (firstRow (textL lls))) with
    | inl j =>
      rw [readQ_inl hd] at hr
      cases hr
    | inr r =>
      rw [readQ_inr hd] at hr
      split at hr
      · cases hr
      · rename_i h1
        cases hr
        exact kI z ds hd (fun m => h1 (nl.mp m)) x p H' I pl e hp h
  · cases hd : qDue (wordsOf (firstRow (textL lls))) with
    | inl j =>
      rw [readQ_inl hd] at hr
      cases hr
      exact kT _ _ (.inl ⟨hd, rfl⟩) p H' e hp h
    | inr r =>
      rw [readQ_inr hd] at hr
      split at hr
      · rename_i h1
        cases hr
        exact kT _ _ (.inr ⟨r, hd, nl.mpr h1, rfl, rfl⟩) p H' e hp h
      · cases hr
theorem wds_short {t : Str} (ht : t.length ≤ 90000) : ∀ z ∈ wordsOf t, z.length ≤ 100000 := fun z hz => Nat.le_trans (part_short hz) (by omega)
theorem due_p {a : Addr} {t : Str} (hs : SqL K H a ((wordsOf (firstRow t)).map V.str)) (h0 : 0 < (wordsOf (firstRow t)).length) (h1 : (wordsOf (firstRow t)).length < 100000) (ht : t.length ≤ 90000)
    (kT : ∀ x y : Nat, TupC (pDue (wordsOf (firstRow t))) t x y → ∀ p H', Ex H H' → H' p = some (.tup [.int x, .int y]) → Q (.ref p) H')
    (kL : ∀ z ds, pDue (wordsOf (firstRow t)) = .inr (z, ds) → 10 ∉ t.cps.toList → ∀ p q us H', Ex H H' → H' p = some (.lst [.str z, .ref q]) → SqT K H' q us → UrAll K H' us ds → plainL ds = true → Q (.ref p) H') :
    spPDue K [.ref a] H (fun v H2 => spByLines K [.str t, v] H2 Q E) E := by
  refine ⟨a, _, rfl, hs, h0, h1, wds_short (Nat.le_trans (first_len t) ht), fun z ds hd p q us H' hp e hp' hq hu hpl => ⟨t, by omega, .inr ⟨p, _, rfl, sq_of hp', fun h10 p2 H2 _ e2 h2 => kT 1 0 (.inr ⟨_, hd, h10, rfl, rfl⟩) p2 H2 (e.trans e2) h2, fun h10 H2 e2 => kL z ds hd h10 p q us H2 (e.trans e2) (e2 _ _ hp') (ex_t e2 hq) (hu.ext e2) hpl⟩⟩, fun j hj H' e => ⟨t, by omega, .inl ⟨j, rfl, fun p H2 _ e2 h2 => kT 0 j (.inl ⟨hj, rfl⟩) p H2 (e.trans e2) h2⟩⟩⟩
theorem due_q {a : Addr} {t : Str} (hs : SqL K H a ((wordsOf (firstRow t)).map V.str)) (h0 : 0 < (wordsOf (firstRow t)).length) (h1 : (wordsOf (firstRow t)).length ≤ 59) (ht : t.length ≤ 90000)
    (kT : ∀ x y : Nat, TupC (qDue (wordsOf (firstRow t))) t x y → ∀ p H', Ex H H' → H' p = some (.tup [.int x, .int y]) → Q (.ref p) H')
    (kL : ∀ z ds, qDue (wordsOf (firstRow t)) = .inr (z, ds) → 10 ∉ t.cps.toList → ∀ p q us H', Ex H H' → H' p = some (.lst [.ref q]) → SqT K H' q us → UrAll K H' us (.str z :: ds) → plainL ds = true → Q (.ref p) H') :
    spQDue K [.ref a] H (fun v H2 => spByLines K [.str t, v] H2 Q E) E := by
  refine ⟨a, _, rfl, hs, h0, h1, wds_short (Nat.le_trans (first_len t) ht), fun z ds hd p q us H' hp e hp' hq hu hpl => ⟨t, by omega, .inr ⟨p, _, rfl, sq_of hp', fun h10 p2 H2 _ e2 h2 => kT 1 0 (.inr ⟨_, hd, h10, rfl, rfl⟩) p2 H2 (e.trans e2) h2, fun h10 H2 e2 => kL z ds hd h10 p q us H2 (e.trans e2) (e2 _ _ hp') (ex_t e2 hq) (hu.ext e2) hpl⟩⟩, fun j hj H' e => ⟨t, by omega, .inl ⟨j, rfl, fun p H2 _ e2 h2 => kT 0 j (.inl ⟨hj, rfl⟩) p H2 (e.trans e2) h2⟩⟩⟩
end
/-- the promises that the law's right leans on -/
structure RF (P : Program) (w : World) (K : Fr) (mg : Str → Option Value) (base : Heap) (A : Adr) (fe : Addr) (kP kQ : Nat) : Prop where
  T : Txt K mg
  N : PapN K mg A
  F : PapF K A fe
  eq : ∃ fd, FnOk P w K mg base CX0 1 fe fd ["self", "other"] (spEq (EqP K A fe)) ∧ Binds K fd ["self", "other"] []
  ck : Cl P w K mg base CX0 1 "_law_knot" spKnot
  co : Cl P w K mg base CX0 2 "_law_one" (spOne K)
  many : Cl P w K mg base CX0 1 "_law_many" spMany
  asks : Cl P w K mg base CX0 1 "_law_asks" (spStrs asksL)
  asked : Cl P w K mg base CX0 3 "_law_asked" (spAsked K)
  value : Cl P w K mg base CX0 6 "_law_value" (spValue 3 K)
  made : Cl P w K mg base CX0 18 "_law_made" (spLMade A 12 K)
  words : Cl P w K mg base CX0 11 "_law_words" (spWords 10 K)
  text : Cl P w K mg base CX0 1 "_law_text" (spLText K)
  bent : Cl P w K mg base CX0 3 "_law_bent" (spBent K)
  pdue : Cl P w K mg base CX0 4 "_law_paper_due" (spPDue K)
  qdue : Cl P w K mg base CX0 4 "_law_question_due" (spQDue K)
  byl : Cl P w K mg base CX0 1 "_law_by_lines" (spByLines K)
  rp : ClK P w K mg base (L2.CX P w) kP "read_paper" "text" (spReadP A K)
  rq : ClK P w K mg base (L2.CX P w) kQ "read_question" "text" (spReadQ A K)
  pt : ClK P w K mg base (L2.CX P w) 13 "paper_text" "paper" (spPText A K)
  qt : ClK P w K mg base (L2.CX P w) 13 "question_text" "question" (spQText A K)
  ansP : Cl P w K mg base CX0 (kP + 1) "_law_answered" (spAns P w K mg base A kP)
  ansQ : Cl P w K mg base CX0 (kQ + 1) "_law_answered" (spAns P w K mg base A kQ)
  lP : kP ≤ 30
  lQ : kQ ≤ 30
abbrev rN : List Str := ["rope", "word", "ask", "parts", "paper", "words", "lines", "part", "spare", "turn", "bent", "told", "due"]
abbrev xR (P : Program) (w : World) (K : Fr) (mg : Str → Option Value) (base : Heap) (f : Addr) (cdv : Value) (Ar : Around) (outer : List Env) (s : Shared) (H : Hp) (E : XK) : Cx := cxOf CX0 P w K mg base rN d_law_right.qual d_law_right.scope f cdv Ar outer s H E
def rSt (r : Addr) (z : Str) (qa pa x wa la : Addr) (o7 : Option V) (sa : Addr) (o9 o10 o11 o12 : Option V) : Sg := [some (.ref r), some (.str z), some (.ref qa), some (.ref pa), some (.ref x), some (.ref wa), some (.ref la), o7, some (.ref sa), o9, o10, o11, o12]
/-- the rope, the words -/
structure RHp (H : Hp) (r c : Addr) (n : Nat) (wa : Addr) (ws : List Str) (la : Addr) (ls : List Str) (sa : Addr) (sp : List Str) : Prop where
  rope : RopeO H r c n
  wh : H wa = some (.lst (ws.map V.str))
  lh : H la = some (.lst (ls.map V.str))
  sh : H sa = some (.lst (sp.map V.str))
  wr : wa ≠ r
  lr : la ≠ r
  sr : sa ≠ r
theorem RHp.step {H H' : Hp} {r c wa la sa : Addr} {n m : Nat} {ws ls sp : List Str} (h : RHp H r c n wa ws la ls sa sp) (b : But r H H') (R : RopeO H' r c m) : RHp H' r c m wa ws la ls sa sp :=
  ⟨R, b _ _ h.wr h.wh, b _ _ h.lr h.lh, b _ _ h.sr h.sh, h.wr, h.lr, h.sr⟩
structure WsOk (ws : List Str) (n : Nat) : Prop where
  pos : 0 < ws.length
  len : ws.length ≤ n
  inw : ∀ z ∈ ws, InW z
end K96

set_option Elab.async false
set_option linter.all false
set_option maxRecDepth 100000
set_option maxHeartbeats 4000000
/-! The law's right: one turn's walk. -/
namespace K96
open PySem PySem.Spec PyProof.Rows L2 Evl TL
section
variable {X : Cx} {CX : CXT} {E : XK} {k j : Nat} {x : Str} {sp : Sp} {p pos : Pos} {a b d : Expr} {σ : Sg} {H : Hp} {Q : VK}
theorem e_cl1 (c : K96.Cl X.prog X.w X.K X.mg X.base CX k x sp) (hr : Room j X.A) (hk : k ≤ j) (hx : Passes CX X E) (h : eX X a σ H fun v H1 => sp [v] H1 Q E) (hg : Gl X x := by rfl) (hdb : (x == ("__debug__" : Str)) = false := by decide)
    (s1 : starEach [a] X.env = (false, eval a X.env) :: starEach [] X.env := by rfl) (hpl : (backTo pos (starEach [] X.env)).any (·.1) = false := by rfl) : eX X (.Call (.Name x p) [a] [] pos) σ H Q :=
  eX_of (pe_cl c hr hk hx hg (pa_cons pe_X pa_nil s1) hdb s1 hpl) h
theorem e_cl2 (c : K96.Cl X.prog X.w X.K X.mg X.base CX k x sp) (hr : Room j X.A) (hk : k ≤ j) (hx : Passes CX X E) (h : eX X a σ H fun v H1 => eX X b σ H1 fun u H2 => sp [v, u] H2 Q E) (hg : Gl X x := by rfl) (hdb : (x == ("__debug__" : Str)) = false := by decide)
    (s1 : starEach [a, b] X.env = (false, eval a X.env) :: starEach [b] X.env := by rfl) (s2 : starEach [b] X.env = (false, eval b X.env) :: starEach [] X.env := by rfl) (hpl : (backTo pos (starEach [b] X.env)).any (·.1) = false := by rfl) : eX X (.Call (.Name x p) [a, b] [] pos) σ H Q :=
  eX_of (pe_cl c hr hk hx hg (pa_cons pe_X (pa_cons pe_X pa_nil s2) s1) hdb s1 hpl) h
theorem e_cl3 (c : K96.Cl X.prog X.w X.K X.mg X.base CX k x sp) (hr : Room j X.A) (hk : k ≤ j) (hx : Passes CX X E) (h : eX X a σ H fun v H1 => eX X b σ H1 fun u H2 => eX X d σ H2 fun y H3 => sp [v, u, y] H3 Q E) (hg : Gl X x := by rfl) (hdb : (x == ("__debug__" : Str)) = false := by decide)
    (s1 : starEach [a, b, d] X.env = (false, eval a X.env) :: starEach [b, d] X.env := by rfl) (s2 : starEach [b, d] X.env = (false, eval b X.env) :: starEach [d] X.env := by rfl) (s3 : starEach [d] X.env = (false, eval d X.env) :: starEach [] X.env := by rfl) (hpl : (backTo pos (starEach [b, d] X.env)).any (·.1) = false := by rfl) : eX X (.Call (.Name x p) [a, b, d] [] pos) σ H Q :=
  eX_of (pe_cl c hr hk hx hg (pa_cons pe_X (pa_cons pe_X (pa_cons pe_X pa_nil s3) s2) s1) hdb s1 hpl) h
end
section
variable {P : Program} {w : World} {K : Fr} {mg : Str → Option Value} {base : Heap} {A : Adr} {fe : Addr} {kP kQ : Nat}
/-- what is known behind told, due -/
def MidT (K : Fr) (A : Adr) (t : Str) (H' : Hp) (told due : Addr) : Prop :=
  (∃ x y : Int, H' told = some (.tup [.int x, .int y]) ∧ H' due = some (.tup [.int x, .int y]) ∧ SeqAt.shaped (.tuple [.int x, .int y]) = true) ∨
  ∃ x z ds q us, H' told = some (.lst [.ref x]) ∧ PapI K H' x (A.pap z) z ds ∧ plainL ds = true ∧ H' due = some (.lst [.str z, .ref q]) ∧ SqT K H' q us ∧ UrAll K H' us ds ∧ t = Txt.join " " (z :: wordsL ds) ∧ partsTab.lookup z = some ds.length ∧ ds.all (toldAt 10) = true ∧ szL ds ≤ 40000
theorem right_turn (F : RF P w K mg base A fe kP kQ) {f : Addr} {cdv : Value} {Ar : Around} {outer : List Env} {s : Shared} {H0 : Hp} {E : XK} (hg : Ar.guards = some []) (hr : Room 40 (Ar.deeper (envOfC d_law_right.qual d_law_right.scope s.heap.objs.size f cdv)))
    {r c wa la sa qa pa x : Addr} {z : Str} {n : Nat} {ws ls sp : List Str} {o7 o9 o10 o11 o12 : Option V} {H : Hp} {D : Ends} (hn : n + 40 < 100000) (hR : RHp H r c n wa ws la ls sa sp) (hws : WsOk ws 401) (hls : WsOk ls 31) (hsp : WsOk sp 100)
    (k : ∀ H' o10 o11 o12, But r H H' → RopeO H' r c (n + 40) → D.nx (rSt r z qa pa x wa la o7 sa o9 o10 o11 o12) H') :
    bX (xR P w K mg base f cdv Ar outer s H0 E) (match d_law_right.body.getD 8 (.Pass ⟨0, 0, 0, 0⟩) with | .For _ _ b _ _ => b | _ => []) D (rSt r z qa pa x wa la o7 sa o9 o10 o11 o12) H := by
  have nd := sc_law_right.nd
  have hu := hu_of hr
  have hu80 : (xR P w K mg base f cdv Ar outer s H0 E).A.units + 80 < cLine := by
    have h := hr.un
    show (Ar.deeper (envOfC d_law_right.qual d_law_right.scope s.heap.objs.size f cdv)).units + 80 < cLine
    omega
  obtain ⟨fP, gP, hFP⟩ := F.rp.fnv
  obtain ⟨fQ, gQ, hFQ⟩ := F.rq.fnv
  -- bent = _law_text(_law_bent(rope, [words], spare))
  refine b_mid (fun σ' H' => ∃ lls, σ' = rSt r z qa pa x wa la o7 sa o9 (some (.str (textL lls))) o11 o12 ∧ LnB (ws.length + 1) lls ∧ But r H H' ∧ RopeO H' r c (n + 20)) ?_ fun σ1 H1 hM => ?_
  · refine s_set 10 (e_cl1 (E := E0) F.text hr (by decide) pass0 (e_cl3 (E := E0) F.bent hr (by decide) pass0 (eX_ev (v := .ref r) (ev_name 0 rfl) fun H1 e1 => e_lst (a_one (eX_ev (v := .ref wa) (ev_name 5 rfl) fun H2 e2 => ⟨by show 1 ≤ sizeLine; decide, fun q hq => eX_ev (v := .ref sa) (ev_name 8 rfl) fun H3 e3 => ?_⟩))))) nd
    have E2 := (e1.trans e2).trans (Ex.new (o := .lst [.ref wa]) hq)
    have E3 := E2.trans e3
    refine ⟨r, c, n, q, wa, ws, sa, sp, rfl, hR.rope.ex E3, by omega, e3 _ _ upd_same, E3 _ _ hR.wh, E3 _ _ hR.sh, hws.pos, Nat.le_trans hws.len (by decide), hsp.len, hws.inw, hsp.inw, fun p rs lls H4 b4 R4 L4 B4 => ?_⟩
    obtain ⟨s1, s2, s3⟩ := lnB_size B4 (by have := hws.len; omega)
    have hl := hws.len
    refine ⟨p, rs, lls, rfl, L4, fun l h => Nat.le_trans (s1 l h) (by omega), Nat.le_trans s2 (by omega), Nat.le_trans B4.1 (by decide), fun H5 e5 => ⟨lls, rfl, B4, ((ebut E3).trans b4).trans (ebut e5), R4.ex e5⟩⟩
  obtain ⟨lls, rfl, hL, b1, R1⟩ := hM
  obtain ⟨hne, hok, wn, w0⟩ := lnB_ok hL
  obtain ⟨s1, s2, ht⟩ := lnB_size hL (by have := hws.len; omega)
  have hwl := hws.len
  have ht8 : (textL lls).length ≤ 80000 := Nat.le_trans ht (by omega)
  have hR1 := hR.step b1 R1
  -- told, due = ..
  refine b_mid (fun σ' H' => ∃ pt pd, σ' = rSt r z qa pa x wa la o7 sa o9 (some (.str (textL lls))) (some (.ref pt)) (some (.ref pd)) ∧ But r H H' ∧ RopeO H' r c (n + 20) ∧ MidT K A (textL lls) H' pt pd) ?_ fun σ2 H2 hM => ?_
  · refine s_par 11 12 (a_cons (e_cl2 (E := E0) F.ansP hr (by have := F.lP; omega) pass0 (eX_ev (v := .ref fP) (ev_gl ⟨_, gP, rfl⟩) fun H2 e2 => eX_ev (v := .str (textL lls)) (ev_name 10 rfl) fun H3 e3 => ?_))) nd
    have E3 := e2.trans e3
    have ht9 : (textL lls).length ≤ 90000 := by omega
    refine ans_p hFP hL ht8 (fun a b hc p H4 e4 hp h4 => ?_) fun zz ds hd h10 xx p H4 I4 pl e4 hp h4 => ?_
    · refine a_one (e_cl2 (E := E0) F.byl hr (by decide) pass0 (eX_ev (v := .str (textL lls)) (ev_name 10 rfl) fun H5 e5 => e_cl1 (E := E0) F.pdue hr (by decide) pass0 (e_words0 (t := textL lls) (ev_name 10 rfl) ht9 fun H6 q e6 hq => ?_)))
      have e7 : Ex H6 (L2.upd H6 q (.lst ((wordsOf (firstRow (textL lls))).map V.str))) := Ex.new hq
      refine due_p (sq_of upd_same) w0 (by omega) ht9 (fun a' b' hc' pd H8 e8 h8 => ?_) fun z' ds' hd' h10 => (hc.not hd' h10).elim
      obtain ⟨rfl, rfl⟩ := hc.uniq hc'
      have E48 := ((e5.trans e6).trans e7).trans e8
      have ab : a ≤ 100000 ∧ b ≤ 100000 := by
        rcases hc with ⟨hi, rfl⟩ | ⟨_, _, _, rfl, rfl⟩
        · have := pDue_small hi
          exact ⟨by decide, by omega⟩
        · exact ⟨by decide, by decide⟩
      exact ⟨_, _, rfl, p, pd, rfl, b1.trans (ebut ((E3.trans e4).trans E48)), R1.ex ((E3.trans e4).trans E48), .inl ⟨a, b, E48 _ _ h4, h8, told_shaped (pair_told ab.1 ab.2) (by decide)⟩⟩
    · refine a_one (e_cl2 (E := E0) F.byl hr (by decide) pass0 (eX_ev (v := .str (textL lls)) (ev_name 10 rfl) fun H5 e5 => e_cl1 (E := E0) F.pdue hr (by decide) pass0 (e_words0 (t := textL lls) (ev_name 10 rfl) ht9 fun H6 q e6 hq => ?_)))
      have e7 : Ex H6 (L2.upd H6 q (.lst ((wordsOf (firstRow (textL lls))).map V.str))) := Ex.new hq
      refine due_p (sq_of upd_same) w0 (by omega) ht9 (fun a' b' hc' pd H8 e8 h8 => (hc'.not hd h10).elim) fun z' ds' hd' h10' pd q' us H8 e8 h8 hq8 hu8 pl8 => ?_
      rw [hd] at hd'
      obtain ⟨rfl, rfl⟩ := Prod.mk.inj (Sum.inr.inj hd')
      have E48 := ((e5.trans e6).trans e7).trans e8
      obtain ⟨k1, k2, k3⟩ := pDue_ok hd
      have ht1 : textL lls = Txt.join " " (zz :: wordsL ds) := by
        have := one_row hL h10
        rw [words_pDue hd] at this
        exact this
      exact ⟨_, _, rfl, p, pd, rfl, b1.trans (ebut ((E3.trans e4).trans E48)), R1.ex ((E3.trans e4).trans E48), .inr ⟨xx, zz, ds, q', us, E48 _ _ h4, I4.ext E48, pl, h8, hq8, hu8, ht1, k1, k2, by omega⟩⟩
  obtain ⟨pt, pd, rfl, b2, R2, hM⟩ := hM
  have hR2 := hR.step b2 R2
  -- if isinstance(due, tuple) and told != due
  refine b_cons (s_if (k := false) ?_ (fun hb => (nomatch hb)) fun _ H3 e3 => b_nil ?_)
  · rcases hM with ⟨a, b, h1, h2, sh⟩ | ⟨xx, zz, ds, q', us, h1, I1, pl, h2, hq, hus, ht1, k1, k2, k3⟩
    · exact et_is (et_w (ew_and (k := isK "tuple" "tuple") (l := false) (et_val (ev_isi (m := "tuple") (F.T.f "isinstance") (F.T.f "tuple") (ev_name 12 rfl) (VT.t (st_of h2)) (by decide))) fun _ => ew_and1 (et_cmp (op_neD hr.units) (ev_name 11 rfl) (ev_name 12 rfl) fun H3 e3 Q q => ⟨_, _, pair_dp (e3 _ _ h1), pair_dp (e3 _ _ h2), sh, sh, by rw [SeqAt.eqv_refl _ (SeqAt.canLay_of_shaped sh)]; exact q H3 (Ex.refl H3)⟩))) rfl
    · exact et_is (et_w (ew_and (k := isK "list" "tuple") (l := false) (et_val (ev_isi (m := "tuple") (F.T.f "isinstance") (F.T.f "tuple") (ev_name 12 rfl) (VT.l (sq_of h2)) (by decide))) fun hb => absurd hb (by decide))) rfl
  -- if isinstance(due, list) and ..
  refine b_cons (s_if (k := false) ?_ (fun hb => (nomatch hb)) fun _ H4 e4 => b_nil ?_)
  · rcases hM with ⟨a, b, h1, h2, sh⟩ | ⟨xx, zz, ds, q', us, h1, I1, pl, h2, hq, hus, ht1, k1, k2, k3⟩
    · exact et_is (et_w (ew_and (k := isK "tuple" "list") (l := false) (et_val (ev_isi (m := "list") (F.T.f "isinstance") (F.T.f "list") (ev_name 12 rfl) (VT.t (st_of (e3 _ _ h2))) (by decide))) fun hb => absurd hb (by decide))) rfl
    · refine et_is (et_w (ew_and (k := isK "list" "list") (l := false) (et_val (ev_isi (m := "list") (F.T.f "isinstance") (F.T.f "list") (ev_name 12 rfl) (VT.l (sq_of (e3 _ _ h2))) (by decide))) fun _ => ew_and1 (et_is (et_w (ew_or (k := !isK "list" "list") (l := false) (et_not (et_val (ev_isi (m := "list") (F.T.f "isinstance") (F.T.f "list") (ev_name 11 rfl) (VT.l (sq_of (e3 _ _ h1))) (by decide)))) fun _ => ew_or (k := false) (l := false) (fun H4 e4 Q q => ?_) fun _ => ew_or1 fun H4 e4 Q q => ?_)) rfl))) rfl
      · have E4 := e3.trans e4
        obtain ⟨KO, nm, NC⟩ := F.F.ok zz (parts_key k1)
        obtain ⟨dx, fs, q1, ws1, hx, hw, hp, hq1, hu1, _⟩ := I1.ob
        have sh : SeqAt.shaped (.tuple [.str zz, .tuple ds]) = true := told_shaped (n := 12) (by
          have hzm : isMark zz = true := by
            have key : ∀ y ∈ partsTab.map (·.1), isMark y = true := by decide +kernel
            exact key zz (parts_key k1)
          show (isMark zz && (ds.all (toldAt 10) && true)) = true
          rw [hzm, k2]
          rfl) (by decide)
        have h1' := E4 _ _ h1
        have h2' := E4 _ _ h2
        have told0 : ∀ {p1 p2 p3 : Pos} {j : Nat}, EV (xR P w K mg base f cdv Ar outer s H0 E) (.Subscript (.Name "told" p1) (.Constant (.int 0) j p2) p3) (rSt r z qa pa x wa la o7 sa o9 (some (.str (textL lls))) (some (.ref pt)) (some (.ref pd))) H4 (.ref xx) := fun {p1 p2 p3 j} => ev_ixL (i := ((0 : Nat) : Int)) (ev_name 11 rfl) ev_int (sq_of h1') rfl
        refine tX_of (pt_cmpR (op_neD hr.units) pe_X pe_X (by first | rfl | exact nomark _)) (eX_evu (evu_tup (ea_cons (ev_fld told0 (E4 _ _ hx) KO.cl (KO.no _ (by decide +kernel)) hw) (ea_cons (ev_fld told0 (E4 _ _ hx) KO.cl (KO.no _ (by decide +kernel)) hp) ea_nil)) (by show 2 ≤ 100000; decide)) fun p1 H5 hp1 e5 g1 => (show eX _ _ _ _ _ from eX_evu (evu_tup (ea_cons (x := .str zz) (ev_ixL (i := ((0 : Nat) : Int)) (ev_name 12 rfl) ev_int (sq_of (e5 _ _ h2')) rfl) (ea_cons (x := .ref q') (ev_ixL (i := ((1 : Nat) : Int)) (ev_name 12 rfl) ev_int (sq_of (e5 _ _ h2')) rfl) ea_nil)) (by show 2 ≤ 100000; decide)) fun p2 H6 hp2 e6 g2 => ?_))
        have E6 := (E4.trans e5).trans e6
        refine ⟨.tuple [.str zz, .tuple ds], .tuple [.str zz, .tuple ds], .tup (st_of (e6 _ _ g1)) (.cons (.str _) (.cons (.tup (ex_t (hide_ex.trans E6) hq1) ((hu1.ext (hide_ex.trans E6)).dp pl)) .nil)), .tup (st_of g2) (.cons (.str _) (.cons (.tup (ex_t E6 hq) ((hus.ext E6).dp pl)) .nil)), sh, sh, ?_⟩
        rw [SeqAt.eqv_refl _ (SeqAt.canLay_of_shaped sh)]
        exact ⟨false, rfl, q H6 (e5.trans e6)⟩
      · have E4 := e3.trans e4
        refine tX_of (pt_cmpR op_ne pe_X pe_X (by first | rfl | exact nomark _)) (e_cl1 (E := EF) F.pt.cl hr (by decide) passF (eX_ev (v := .ref xx) (ev_ixL (i := ((0 : Nat) : Int)) (ev_name 11 rfl) ev_int (sq_of (E4 _ _ h1)) rfl) fun H5 e5 => ptext_ok F.F k1 (I1.ext (E4.trans e5)) k2 k3 fun H6 e6 => (show eX _ _ _ _ _ from eX_ev (v := .str (textL lls)) (ev_name 10 rfl) fun H7 e7 => ⟨rfl, false, ?_, q H7 ((e5.trans e6).trans e7)⟩)))
        rw [ht1, decide_eq_true rfl]
        rfl
  have hR4 := hR2.step (ebut (e3.trans e4)) (R2.ex (e3.trans e4))
  have b4 := b2.trans (ebut (e3.trans e4))
  -- bent = _law_text(_law_bent(rope, [lines], spare))
  refine b_mid (fun σ' H' => ∃ mls, σ' = rSt r z qa pa x wa la o7 sa o9 (some (.str (textL mls))) (some (.ref pt)) (some (.ref pd)) ∧ LnB (ls.length + 1) mls ∧ But r H H' ∧ RopeO H' r c (n + 40)) ?_ fun σ5 H5 hM5 => ?_
  · refine s_set 10 (e_cl1 (E := E0) F.text hr (by decide) pass0 (e_cl3 (E := E0) F.bent hr (by decide) pass0 (eX_ev (v := .ref r) (ev_name 0 rfl) fun H5 e5 => e_lst (a_one (eX_ev (v := .ref la) (ev_name 6 rfl) fun H6 e6 => ⟨by show 1 ≤ sizeLine; decide, fun q hq => eX_ev (v := .ref sa) (ev_name 8 rfl) fun H7 e7 => ?_⟩))))) nd
    have E6 := (e5.trans e6).trans (Ex.new (o := .lst [.ref la]) hq)
    have E7 := E6.trans e7
    refine ⟨r, c, n + 20, q, la, ls, sa, sp, rfl, hR4.rope.ex E7, by omega, e7 _ _ upd_same, E7 _ _ hR4.lh, E7 _ _ hR4.sh, hls.pos, Nat.le_trans hls.len (by decide), hsp.len, hls.inw, hsp.inw, fun p rs mls H8 b8 R8 L8 B8 => ?_⟩
    obtain ⟨s1, s2, s3⟩ := lnB_size B8 (by have := hls.len; omega)
    have hl := hls.len
    refine ⟨p, rs, mls, rfl, L8, fun l h => Nat.le_trans (s1 l h) (by omega), Nat.le_trans s2 (by omega), Nat.le_trans B8.1 (by decide), fun H9 e9 => ⟨mls, rfl, B8, (b4.trans (ebut E7)).trans (b8.trans (ebut e9)), R8.ex e9⟩⟩
  obtain ⟨mls, rfl, mL, b5, R5⟩ := hM5
  obtain ⟨mne, mok, mn, m0⟩ := lnB_ok mL
  obtain ⟨_, _, mt⟩ := lnB_size mL (by have := hls.len; omega)
  have hml := hls.len
  have mt3 : (textL mls).length ≤ 3000 := Nat.le_trans mt (by omega)
  have mt9 : (textL mls).length ≤ 90000 := by omega
  -- if repr(..) != repr(..)
  have dwt : ∀ m : Nat, m ≤ 5000 → m ≤ 1048576 := fun m h => by omega
  refine b_one (s_ifX (tX_of (pt_cmpR op_ne pe_X pe_X (by first | rfl | exact nomark _)) (eX_of (pe_callB (call_repr_show hg hu80) rfl (F.T.f "repr") (by decide +kernel) (pa_cons pe_X pa_nil) (by decide) (by decide)) (show eX _ _ _ _ _ from e_cl2 (E := E0) F.ansQ hr (by have := F.lQ; omega) pass0 (eX_ev (v := .ref fQ) (ev_gl ⟨_, gQ, rfl⟩) fun H6 e6 => eX_ev (v := .str (textL mls)) (ev_name 10 rfl) fun H7 e7 => ans_q hFQ mL mt3 (fun a b hc p H8 e8 hp h8 => ?_) fun zz ds hd h10 xx p H8 U8 pl e8 hp h8 => ?_)))))
  · have ab : a ≤ 100000 ∧ b ≤ 100000 := by
      rcases hc with ⟨hi, rfl⟩ | ⟨_, _, _, rfl, rfl⟩
      · have := qDue_small hi
        exact ⟨by decide, by omega⟩
      · exact ⟨by decide, by decide⟩
    have sd := show_told _ 1 (pair_told ab.1 ab.2)
    refine ⟨p, _, 1, _, rfl, pair_dp h8, sd, by decide, by show 41 * 3 - 1 ≤ 1048576; decide, ?_⟩
    refine (show eX _ _ _ _ _ from eX_of (pe_callB (call_repr_show hg hu80) rfl (F.T.f "repr") (by decide +kernel) (pa_cons pe_X pa_nil) (by decide) (by decide)) (show eX _ _ _ _ _ from e_cl2 (E := E0) F.byl hr (by decide) pass0 (eX_ev (v := .str (textL mls)) (ev_name 10 rfl) fun H9 e9 => e_cl1 (E := E0) F.qdue hr (by decide) pass0 (e_words0 (t := textL mls) (ev_name 10 rfl) mt9 fun H10 q e10 hq => due_q (sq_of upd_same) m0 (by omega) mt9 (fun a' b' hc' pd' H11 e11 h11 => ?_) fun z' ds' hd' h10 => (hc.not hd' h10).elim))))
    obtain ⟨rfl, rfl⟩ := hc.uniq hc'
    have E11 := (((e6.trans e7).trans e8).trans e9).trans ((e10.trans (Ex.new hq)).trans e11)
    refine ⟨pd', _, 1, _, rfl, pair_dp h11, sd, by decide, by show 41 * 3 - 1 ≤ 1048576; decide, rfl, false, ?_, ?_⟩
    · rw [decide_eq_true rfl]
      rfl
    · exact iteF (b_nil (k _ _ _ _ (b5.trans (ebut E11)) (R5.ex E11)))
  · obtain ⟨q1, q2⟩ := qDue_ok hd
    have sd := (show_told _ 11 q1).lst
    have hm : 41 * szD (.tuple (.str zz :: ds)) - 1 + 1 ≤ 1048576 := dwt _ (by omega)
    have dp8 : Dp K H8 (.ref p) (.list [.tuple (.str zz :: ds)]) := .lst (sq_of h8) (.cons (U8.dp (by
      show (true && plainL ds) = true
      rw [pl]
      rfl)) .nil)
    refine ⟨p, _, 12, _, rfl, dp8, sd, by decide, hm, ?_⟩
    refine (show eX _ _ _ _ _ from eX_of (pe_callB (call_repr_show hg hu80) rfl (F.T.f "repr") (by decide +kernel) (pa_cons pe_X pa_nil) (by decide) (by decide)) (show eX _ _ _ _ _ from e_cl2 (E := E0) F.byl hr (by decide) pass0 (eX_ev (v := .str (textL mls)) (ev_name 10 rfl) fun H9 e9 => e_cl1 (E := E0) F.qdue hr (by decide) pass0 (e_words0 (t := textL mls) (ev_name 10 rfl) mt9 fun H10 q e10 hq => due_q (sq_of upd_same) m0 (by omega) mt9 (fun a' b' hc' pd' H11 e11 h11 => (hc'.not hd h10).elim) fun z' ds' hd' h10' pd' q' us H11 e11 h11 hq11 hu11 pl11 => ?_))))
    rw [hd] at hd'
    obtain ⟨rfl, rfl⟩ := Prod.mk.inj (Sum.inr.inj hd')
    have E11 := (((e6.trans e7).trans e8).trans e9).trans ((e10.trans (Ex.new hq)).trans e11)
    have dp11 : Dp K H11 (.ref pd') (.list [.tuple (.str zz :: ds)]) := .lst (sq_of h11) (.cons (.tup hq11 (hu11.dp (by
      show (true && plainL ds) = true
      rw [pl]
      rfl))) .nil)
    refine ⟨pd', _, 12, _, rfl, dp11, sd, by decide, hm, rfl, false, ?_, ?_⟩
    · rw [decide_eq_true rfl]
      rfl
    · exact iteF (b_nil (k _ _ _ _ (b5.trans (ebut E11)) (R5.ex E11)))
end
end K96

set_option Elab.async false
set_option linter.all false
set_option maxRecDepth 100000
set_option maxHeartbeats 4000000
/-! The law's right: behind the words. -/
namespace K96
open PySem PySem.Spec PyProof.Rows L2 Evl TL
theorem ev_joinS {X : Cx} {e : Expr} {σ : Sg} {H : Hp} {l : Addr} {ws : List Str} {j : Nat} {p1 apos pos : Pos} (he : EV X e σ H (.ref l)) (hl : H l = some (.lst (ws.map V.str))) (hz : szTx ws ≤ 16777216) (hs : starEach [e] X.env = [(false, eval e X.env)] := by rfl) (hbase : attributeBase (.Constant (.str " ") j p1) "join" X.env (eval (.Constant (.str " ") j p1) X.env) = eval (.Constant (.str " ") j p1) X.env := by rfl) (hline : (apos.endLine == pos.line) = true := by rfl) :
    EV X (.Call (.Attribute (.Constant (.str " ") j p1) "join" apos) [e] [] pos) σ H (.str (Txt.join " " ws)) := fun H1 e1 Q q => by
  have o1 : (" " : Str).length = 1 := by decide +kernel
  refine eX_of (pe_join pe_str pe_X hs hbase hline) ⟨⟨_, rfl⟩, he H1 e1 _ fun H2 e2 => ⟨_, l, ws, rfl, rfl, .inl (sq_of ((e1.trans e2) _ _ hl)), ?_, q H2 e2⟩⟩
  rw [o1, Nat.mul_one]
  exact hz
theorem strOk_join {l : List Str} (h : ∀ z ∈ l, okW z) : PyData.strOk (Txt.join " " l) = true := by
  unfold PyData.strOk
  rw [← Array.all_toList]
  refine List.all_eq_true.mpr fun c hc => decide_eq_true ?_
  have hc : c ∈ tl (Txt.join " " l) := hc
  rw [join_eq, tl_join, tl_sp] at hc
  rcases mem_joinL hc with e | ⟨p, hp, hc⟩
  · rw [List.mem_singleton.mp e]
    decide
  · obtain ⟨z, hz, rfl⟩ := List.mem_map.mp hp
    have := (h z hz c hc).1
    omega
def spareL : List Str := ["(", ")", "-", "=", "=ann", "=-", "7", "-3", "0", "=Ann", "ann", "", "-0", "comes", "1234567890123", "=abcdefghi"]
theorem spare_ok : WsOk spareL 100 := ⟨by decide, by decide, fun z hz => by
  have key : ∀ z ∈ spareL, (decide (z.length ≤ 13) && z.cps.toList.all fun c => decide (c < 128 ∧ c ≠ 32 ∧ c ≠ 10)) = true := by decide +kernel
  exact inW_lit (key z hz)⟩
theorem in_ok {l : List Str} (h : ∀ z ∈ l, InW z) : ∀ z ∈ l, okW z := fun z hz => (h z hz).2
theorem in_size {l : List Str} {n : Nat} (h : ∀ z ∈ l, InW z) (hn : l.length ≤ n) : szTx l ≤ n * 14 := by
  have a := szTx_le (m := 13) fun z hz => (h z hz).1
  exact Nat.le_trans a (Nat.mul_le_mul_right 14 hn)
/-- the four texts -/
def four (a b : Str) : PyData := .list [.str a, .str a, .str b, .str b]
theorem four_sh {a b : Str} (ha : PyData.strOk a = true) (hb : PyData.strOk b = true) : SeqAt.shaped (four a b) = true := by
  unfold SeqAt.shaped four
  rw [PyData.canLay0, PyData.canLayAll0, PyData.canLayAll0, PyData.canLayAll0, PyData.canLayAll0, PyData.canLayAll0, PyData.canLay0, PyData.canLay0, ha, hb, PyData.depth, PyData.depthAll, PyData.depthAll, PyData.depthAll, PyData.depthAll, PyData.depthAll, PyData.depth, PyData.depth]
  rfl
theorem four_dp {K : Fr} {H : Hp} {p : Addr} {a b : Str} (h : H p = some (.lst [.str a, .str a, .str b, .str b])) : Dp K H (.ref p) (four a b) := .lst (sq_of h) (.cons (.str _) (.cons (.str _) (.cons (.str _) (.cons (.str _) .nil))))
theorem read_p {K : Fr} {A : Adr} {H : Hp} {Q : VK} {E : XK} {t z : Str} {ds : List PyData} (hr : readP t = .inr (z, ds)) (ht : t.length ≤ 80000) (k : ∀ x H', Ex H H' → PapI K H' x (A.pap z) z ds → Q (.ref x) H') : spReadP A K [.str t] H Q E := by
  refine ⟨.str t, "str", rfl, .s t (by omega), fun u hu => ?_, fun h => absurd rfl h⟩
  obtain rfl := V.str.inj hu
  refine ⟨ht, fun z' ds' x H' hr' e I _ => ?_, fun a b hr' => ?_⟩
  · rw [hr] at hr'
    obtain ⟨rfl, rfl⟩ := Prod.mk.inj (Sum.inr.inj hr')
    exact k x H' e I
  · rw [hr] at hr'
    cases hr'
theorem read_q {K : Fr} {A : Adr} {H : Hp} {Q : VK} {E : XK} {t z : Str} {ds : List PyData} (hr : readQ t = .inr (z, ds)) (ht : t.length ≤ 3000) (k : ∀ x H', Ex H H' → Ur K H' x (.tuple (.str z :: ds)) → Q x H') : spReadQ A K [.str t] H Q E := by
  refine ⟨.str t, "str", rfl, .s t (by omega), fun u hu => ?_, fun h => absurd rfl h⟩
  obtain rfl := V.str.inj hu
  refine ⟨ht, fun z' ds' x H' hr' e I _ => ?_, fun a b hr' => ?_⟩
  · rw [hr] at hr'
    obtain ⟨rfl, rfl⟩ := Prod.mk.inj (Sum.inr.inj hr')
    exact k x H' e I
  · rw [hr] at hr'
    cases hr'
theorem qtext_ok {K : Fr} {A : Adr} {H : Hp} {Q : VK} {E : XK} {v : V} {z : Str} {ds : List PyData} (hu : Ur K H v (.tuple (.str z :: ds))) (hq : questD (.tuple (.str z :: ds)) = true) (hz : szD (.tuple (.str z :: ds)) ≤ 4000) (q : Gives (.str (Txt.join " " (z :: wordsL ds))) H Q) : spQText A K [v] H Q E :=
  ⟨v, _, rfl, hu, hz, fun _ => q, fun h => by rw [hq] at h; cases h⟩
/-- what stands behind the words -/
structure RT (K : Fr) (A : Adr) (H : Hp) (r c : Addr) (n : Nat) (z : Str) (pds : List PyData) (x wa : Addr) (zq : Str) (ds : List PyData) (us : List V) (qa la : Addr) : Prop where
  rope : RopeO H r c n
  wh : H wa = some (.lst ((z :: wordsL pds).map V.str))
  lh : H la = some (.lst ((zq :: wordsL ds).map V.str))
  I : PapI K H x (A.pap z) z pds
  hz : partsTab.lookup z = some pds.length
  pt : pds.all (toldAt 3) = true
  pl : plainL pds = true
  psz : szL pds ≤ 200
  qs : SqT K H qa (.str zq :: us)
  qu : UrAll K H us ds
  ql : plainL ds = true
  qd : questD (.tuple (.str zq :: ds)) = true
  qt : ds.all (toldAt 9) = true
  qz : szL ds ≤ 15
section
variable {P : Program} {w : World} {K : Fr} {mg : Str → Option Value} {base : Heap} {A : Adr} {fe : Addr} {kP kQ : Nat}
theorem right_tail (F : RF P w K mg base A fe kP kQ) {f : Addr} {cdv : Value} {Ar : Around} {outer : List Env} {s : Shared} {H0 : Hp} {E : XK} (hg : Ar.guards = some []) (hr : Room 40 (Ar.deeper (envOfC d_law_right.qual d_law_right.scope s.heap.objs.size f cdv)))
    {r c wa la qa pa x : Addr} {z zq : Str} {n : Nat} {pds ds : List PyData} {us : List V} {o7 : Option V} {H : Hp} {D : Ends} (hn : n + 200 < 100000) (h : RT K A H r c n z pds x wa zq ds us qa la)
    (k : ∀ H', But r H H' → RopeO H' r c (n + 160) → D.rt (.bl true) H') :
    bX (xR P w K mg base f cdv Ar outer s H0 E) (d_law_right.body.drop 5) D [some (.ref r), some (.str z), some (.ref qa), some (.ref pa), some (.ref x), some (.ref wa), some (.ref la), o7, none, none, none, none, none] H := by
  have nd := sc_law_right.nd
  have hu := hu_of hr
  obtain ⟨hrope, hwh, hlh, hI, hz, hpt, hpl, hpsz, hqs, hqu, hql, hqd, hqt, hqz⟩ := h
  have p10 := toldL_up hpt (show 3 ≤ 10 by decide)
  obtain ⟨_, _, fs, e0, hfs, _, _, qtl⟩ := quest_is hqd
  cases e0
  have wIn := paper_in hz hpt
  have lIn := quest_in hfs hqt
  have wlen : (z :: wordsL pds).length ≤ 401 := by
    have := wordsL_len pds
    show (wordsL pds).length + 1 ≤ 401
    omega
  have llen : (zq :: wordsL ds).length ≤ 31 := by
    have := wordsL_len ds
    show (wordsL ds).length + 1 ≤ 31
    omega
  have wsz := in_size wIn wlen
  have lsz := in_size lIn llen
  have o1 : (" " : Str).length = 1 := by decide +kernel
  have tpl : (Txt.join " " (z :: wordsL pds)).length ≤ 80000 := Nat.le_trans (join_len o1 _) (by omega)
  have tql : (Txt.join " " (zq :: wordsL ds)).length ≤ 3000 := Nat.le_trans (join_len o1 _) (by omega)
  have rP := readP_words hz p10
  have rQ := readQ_words hqd
  have sh4 := four_sh (strOk_join (in_ok wIn)) (strOk_join (in_ok lIn))
  have nwr : wa ≠ r := fun e => by
    obtain ⟨_, _, _, h1, _⟩ := hrope
    rw [e, h1] at hwh
    cases hwh
  have nlr : la ≠ r := fun e => by
    obtain ⟨_, _, _, h1, _⟩ := hrope
    rw [e, h1] at hlh
    cases hlh
  have qd0 : Ur K H (.ref qa) (.tuple (.str zq :: ds)) := .tup hqs (.cons (.str _ (by
    have := (lIn zq (List.mem_cons_self ..)).1
    omega)) hqu)
  have qpl : plainD (.tuple (.str zq :: ds)) = true := by
    show (true && plainL ds) = true
    rw [hql]
    rfl
  have qsz : szD (.tuple (.str zq :: ds)) ≤ 4000 := by
    show 1 + (1 + szL ds) ≤ 4000
    omega
  have qw : qWords (.tuple (.str zq :: ds)) = zq :: wordsL ds := rfl
  obtain ⟨fdE, FE, bE⟩ := F.eq
  obtain ⟨KO, nm, NC⟩ := F.F.ok z (parts_key hz)
  have psh : SeqAt.shaped (.tuple pds) = true := told_shaped (n := 11) p10 (by decide)
  -- if [..] != [..]
  refine b_cons (s_if (k := false) (fun H1 e1 Q q => ?_) (fun hb => (nomatch hb)) fun _ H2 e2 => b_nil ?_)
  · refine tX_of (pt_cmpR (op_neD hr.units) pe_X pe_X (by first | rfl | exact nomark _)) ?_
    refine @e_lst _ _ _ _ _ _ ?_
    refine @a_cons _ _ _ _ _ _ ?_ rfl
    refine e_cl1 (E := EF) F.pt.cl hr (by decide) passF (eX_ev (v := .ref x) (ev_name 4 rfl) fun H2 e2 => ptext_ok F.F hz (hI.ext (e1.trans e2)) p10 (by omega) fun H3 e3 => ?_)
    have E3 := (e1.trans e2).trans e3
    refine @a_cons _ _ _ _ _ _ ?_ rfl
    refine e_clK (E := EF) F.pt hr (by decide) passF (eX_ev (v := .ref x) (ev_name 4 rfl) fun H4 e4 => ptext_ok F.F hz (hI.ext (E3.trans e4)) p10 (by omega) fun H5 e5 => ?_)
    have E5 := (E3.trans e4).trans e5
    refine @a_cons _ _ _ _ _ _ ?_ rfl
    refine e_cl1 (E := EF) F.qt.cl hr (by decide) passF (eX_ev (v := .ref qa) (ev_name 2 rfl) fun H6 e6 => qtext_ok (qd0.ext (E5.trans e6)) hqd qsz fun H7 e7 => ?_)
    have E7 := (E5.trans e6).trans e7
    refine @a_one _ _ _ _ _ ?_ rfl
    refine e_clK (E := EF) F.qt hr (by decide) passF (eX_ev (v := .ref qa) (ev_name 2 rfl) fun H8 e8 => qtext_ok (qd0.ext (E7.trans e8)) hqd qsz fun H9 e9 => ⟨by show 4 ≤ sizeLine; decide, fun p hp => ?_⟩)
    have E10 := ((E7.trans e8).trans e9).trans (Ex.new (o := .lst [.str (Txt.join " " (z :: wordsL pds)), .str (Txt.join " " (z :: wordsL pds)), .str (Txt.join " " (zq :: wordsL ds)), .str (Txt.join " " (zq :: wordsL ds))]) hp)
    have e01 : Ex H1 _ := ((((((e2.trans e3).trans e4).trans e5).trans e6).trans e7).trans e8).trans (e9.trans (Ex.new (o := .lst [.str (Txt.join " " (z :: wordsL pds)), .str (Txt.join " " (z :: wordsL pds)), .str (Txt.join " " (zq :: wordsL ds)), .str (Txt.join " " (zq :: wordsL ds))]) hp))
    refine (show eX _ _ _ _ _ from eX_of (pe_op op_cat pe_X pe_X) ?_)
    refine (show eX _ _ _ _ _ from eX_of (pe_op op_rep pe_X pe_X) ?_)
    refine (show eX _ _ _ _ _ from eX_evl (evl_1 (ev_joinS (ev_name 5 rfl) (E10 _ _ hwh) (by omega))) fun q1 Ha hq1 ea g1 => eX_ev (v := .int 2) ev_int fun Hb eb => ⟨q1, 2, _, rfl, rfl, eb _ _ g1, by decide, by decide, by show 1 * 2 ≤ sizeLine; decide, fun p1 hp1 => ?_⟩)
    have Eb := ea.trans eb
    have Ec := Eb.trans (Ex.new (o := .lst (List.replicate (2 : Int).toNat [V.str (Txt.join " " (z :: wordsL pds))]).flatten) hp1)
    refine (show eX _ _ _ _ _ from eX_of (pe_op op_rep pe_X pe_X) ?_)
    refine (show eX _ _ _ _ _ from eX_evl (evl_1 (ev_joinS (ev_name 6 rfl) ((E10.trans Ec) _ _ hlh) (by omega))) fun q2 Hd hq2 ed g2 => eX_ev (v := .int 2) ev_int fun He ee => ⟨q2, 2, _, rfl, rfl, ee _ _ g2, by decide, by decide, by show 1 * 2 ≤ sizeLine; decide, fun p2 hp2 => ?_⟩)
    have Ef := (ed.trans ee).trans (Ex.new (o := .lst (List.replicate (2 : Int).toNat [V.str (Txt.join " " (zq :: wordsL ds))]).flatten) hp2)
    refine ⟨p1, p2, _, _, rfl, rfl, Ef _ _ upd_same, upd_same, by show 4 ≤ sizeLine; decide, fun p3 hp3 => ?_⟩
    have Eg := (Ec.trans Ef).trans (Ex.new (o := .lst ((List.replicate (2 : Int).toNat [V.str (Txt.join " " (z :: wordsL pds))]).flatten ++ (List.replicate (2 : Int).toNat [V.str (Txt.join " " (zq :: wordsL ds))]).flatten)) hp3)
    refine ⟨four (Txt.join " " (z :: wordsL pds)) (Txt.join " " (zq :: wordsL ds)), four (Txt.join " " (z :: wordsL pds)) (Txt.join " " (zq :: wordsL ds)), four_dp (Eg _ _ upd_same), four_dp upd_same, sh4, sh4, ?_⟩
    rw [SeqAt.eqv_refl _ (SeqAt.canLay_of_shaped sh4)]
    exact ⟨false, rfl, q _ (e01.trans Eg)⟩
  -- if read_paper(..) != paper or ..
  refine b_cons (s_if (k := false) ?_ (fun hb => (nomatch hb)) fun _ H3 e3 => b_nil ?_)
  · refine et_is (b := false) (et_w (ew_or (k := false) (l := false) (fun H3 e3 Q q => ?_) fun _ => ew_or (k := false) (l := false) (fun H3 e3 Q q => ?_) fun _ => ew_or1 (et_not (k := true) fun H3 e3 Q q => ?_))) rfl
    · have E3 := e2.trans e3
      refine tX_of (pt_cmpR (op_neP FE bE pass0 (hr.mono (by decide))) pe_X pe_X (by first | rfl | exact nomark _)) ?_
      refine e_clK (E := EF) F.rp hr (by have := F.lP; omega) passF (eX_ev (ev_joinS (ev_name 5 rfl) (E3 _ _ hwh) (by omega)) fun H4 e4 => read_p rP tpl fun x' H5 e5 I' => (show eX _ _ _ _ _ from eX_ev (v := .ref x) (ev_name 4 rfl) fun H6 e6 => ?_))
      have E6 := E3.trans ((e4.trans e5).trans e6)
      exact ⟨x', x, rfl, rfl, ⟨A.pap z, z, pds, nm, .ref (A.pap z), I'.ext e6, hI.ext E6, hpl, psh, KO, NC, F.F.ty (parts_key hz) (hI.ext E6), (F.F.pt z (parts_key hz)).1⟩, fun H7 e7 => ⟨false, rfl, q H7 (((e4.trans e5).trans e6).trans e7)⟩⟩
    · have E3 := e2.trans e3
      refine tX_of (pt_cmpR (op_neD hr.units) pe_X pe_X (by first | rfl | exact nomark _)) ?_
      refine e_clK (E := EF) F.rq hr (by have := F.lQ; omega) passF (eX_ev (ev_joinS (ev_name 6 rfl) (E3 _ _ hlh) (by omega)) fun H4 e4 => read_q rQ tql fun v H5 e5 U' => (show eX _ _ _ _ _ from eX_ev (v := .ref qa) (ev_name 2 rfl) fun H6 e6 => ?_))
      have E6 := E3.trans ((e4.trans e5).trans e6)
      have shq := told_shaped qtl (by decide)
      refine ⟨_, _, (U'.ext e6).dp qpl, (qd0.ext E6).dp qpl, shq, shq, ?_⟩
      rw [SeqAt.eqv_refl _ (SeqAt.canLay_of_shaped shq)]
      exact ⟨false, rfl, q H6 ((e4.trans e5).trans e6)⟩
    · have E3 := e2.trans e3
      refine tX_of (pt_val pe_X (by intro _; rfl)) ?_
      refine eX_of (pe_callB call_isi rfl (F.T.f "isinstance") boot_isinstance (pa_cons pe_X (pa_cons pe_X pa_nil)) (by decide) (by decide)) ?_
      refine (show eX _ _ _ _ _ from e_cl1 (E := EF) F.rp.cl hr (by have := F.lP; omega) passF (eX_ev (ev_joinS (ev_name 5 rfl) (E3 _ _ hwh) (by omega)) fun H4 e4 => read_p rP tpl fun x' H5 e5 I' => (show eX _ _ _ _ _ from eX_ev (v := .ref A.paper) (ev_gl ⟨_, F.N.p, rfl⟩) fun H6 e6 => ?_)))
      exact ⟨.ref x', .ref A.paper, .ref (A.pap z), .ref A.paper, true, rfl, .own _, F.F.ty (parts_key hz) (I'.ext e6), (F.F.pt z (parts_key hz)).1, _, rfl, q H6 ((e4.trans e5).trans e6)⟩
  have E3 := e2.trans e3
  -- spare = [..]
  refine b_cons ?_
  refine @s_set _ _ _ _ _ _ _ _ 8 ?_ nd rfl (Or.inl rfl) (.inl rfl) rfl rfl rfl
  refine @eX_evl _ _ _ _ _ (spareL.map V.str) ?_ ?_
  · refine @evl_lst _ _ _ _ _ _ ?_ (by show 16 ≤ 100000; decide)
    refine @ea_cons _ _ _ _ _ _ _ ev_str ?_ rfl
    refine @ea_cons _ _ _ _ _ _ _ ev_str ?_ rfl
    refine @ea_cons _ _ _ _ _ _ _ ev_str ?_ rfl
    refine @ea_cons _ _ _ _ _ _ _ ev_str ?_ rfl
    refine @ea_cons _ _ _ _ _ _ _ ev_str ?_ rfl
    refine @ea_cons _ _ _ _ _ _ _ ev_str ?_ rfl
    refine @ea_cons _ _ _ _ _ _ _ ev_str ?_ rfl
    refine @ea_cons _ _ _ _ _ _ _ ev_str ?_ rfl
    refine @ea_cons _ _ _ _ _ _ _ ev_str ?_ rfl
    refine @ea_cons _ _ _ _ _ _ _ ev_str ?_ rfl
    refine @ea_cons _ _ _ _ _ _ _ ev_str ?_ rfl
    refine @ea_cons _ _ _ _ _ _ _ ev_str ?_ rfl
    refine @ea_cons _ _ _ _ _ _ _ ev_str ?_ rfl
    refine @ea_cons _ _ _ _ _ _ _ ev_str ?_ rfl
    refine @ea_cons _ _ _ _ _ _ _ ev_str ?_ rfl
    refine @ea_cons _ _ _ _ _ _ _ ev_str ?_ rfl
    exact ea_nil
  intro sa H4 hsa e4 g4
  have E4 := E3.trans e4
  have nsr : sa ≠ r := ((hrope.ex E3).off hsa).1
  have hR4 : RHp H4 r c n wa (z :: wordsL pds) la (zq :: wordsL ds) sa spareL := ⟨hrope.ex E4, E4 _ _ hwh, E4 _ _ hlh, g4, nwr, nlr, nsr⟩
  -- for turn in range(4)
  refine b_cons (s_forRange 9 (eX_ev (v := .int 4) ev_int fun H5 e5 => ⟨4, fun i σ' H' => ∃ o9 o10 o11 o12, σ' = rSt r z qa pa x wa la o7 sa o9 o10 o11 o12 ∧ But r H4 H' ∧ RopeO H' r c (n + 40 * i), rfl, by decide, by decide, ⟨none, none, none, none, rfl, ebut e5, hR4.rope.ex e5⟩, fun i σ' H6 hi hv => ?_, fun σ' H6 hv => ?_⟩) (F.T.f "range") (passes_of rfl) nd)
  · obtain ⟨o9, o10, o11, o12, rfl, b6, R6⟩ := hv
    have hi4 : i < 4 := hi
    exact right_turn F hg hr (o9 := some (.int (i : Nat))) (by omega) (hR4.step b6 R6) ⟨by show 0 < _ + 1; omega, wlen, wIn⟩ ⟨by show 0 < _ + 1; omega, llen, lIn⟩ spare_ok fun H' o10 o11 o12 b7 R7 => ⟨_, o10, o11, o12, rfl, b6.trans b7, by
      have e : n + 40 * (i + 1) = n + 40 * i + 40 := by omega
      rw [e]
      exact R7⟩
  · obtain ⟨o9, o10, o11, o12, rfl, b6, R6⟩ := hv
    exact b_one (s_ret (v := .bl true) (ev_of pe_bl ev_c) fun H7 e7 => k H7 ((ebut E4).trans (b6.trans (ebut e7))) ((R6.ex e7).le (by show n + 40 * 4 ≤ n + 160; omega) (by omega)))
end
end K96

set_option Elab.async false
set_option linter.all false
set_option maxRecDepth 100000
set_option maxHeartbeats 1000000
/-! The law's right. -/
namespace K96
open PySem PySem.Spec PyProof.Rows L2 Evl TL
theorem deep_told : ∀ (n : Nat) (d : PyData), toldAt n d = true → deepAt n d = true
  | 0, .tuple _, h => by cases h
  | 0, .list _, h => by cases h
  | 0, .none, _ => rfl
  | 0, .bool _, _ => rfl
  | 0, .int _, _ => rfl
  | 0, .str _, _ => rfl
  | 0, .dict _, _ => rfl
  | n + 1, .tuple xs, h => List.all_eq_true.mpr fun x hx => deep_told n x (List.all_eq_true.mp (show xs.all (toldAt n) = true from h) x hx)
  | n + 1, .list xs, h => by cases h
  | n + 1, .none, _ => rfl
  | n + 1, .bool _, _ => rfl
  | n + 1, .int _, _ => rfl
  | n + 1, .str _, _ => rfl
  | n + 1, .dict _, _ => rfl
theorem deepL_told {n m : Nat} {ds : List PyData} (h : ds.all (toldAt n) = true) (hm : n ≤ m) : ds.all (deepAt m) = true := List.all_eq_true.mpr fun x hx => deepAt_mono n m x hm (deep_told n x (List.all_eq_true.mp h x hx))
def manyKeys : List Str := manyKvs.map fun kv => match kv.1 with
  | .inr z => z
  | .inl _ => ""
theorem many_keys : (manyKvs.map fun kv => kV kv.1) = manyKeys.map V.str := by decide +kernel
theorem many_in : ∀ z ∈ manyKeys, ∃ c, partsTab.lookup z = some c := fun z hz => by
  have key : ∀ y ∈ manyKeys, (partsTab.lookup y).isSome = true := by decide +kernel
  exact Option.isSome_iff_exists.mp (key z hz)
section
variable {X : Cx} {nm : Str} {px pos : Pos} {it : Expr} {body : List Stmt} {σ : Sg} {H : Hp} {D : Ends}
/-- for n in a tuple that is made for it -/
theorem s_forTupE (i : Nat) (h : eX X it σ H fun v H1 => ∃ (r : Addr) (xs : List V) (Pv : Nat → Sg → Hp → Prop), v = .ref r ∧ SqT X.K H1 r xs ∧ Pv 0 σ H1 ∧ (∀ k σ' H', k ≤ xs.length → Pv k σ' H' → SqT X.K H' r xs) ∧ (∀ (k : Nat) x σ' H', xs[k]? = some x → Pv k σ' H' → bX X body { D with nx := Pv (k + 1), ct := Pv (k + 1), bk := D.nx } (σ'.set i (some x)) H') ∧ ∀ σ' H', Pv xs.length σ' H' → D.nx σ' H')
    (hp : PassesOwn (model X.prog X.w) X.A X.env X.xe) (hN : X.N.Nodup) (hc : X.calm = true := by rfl) (hi : X.N[i]? = some nm := by rfl) (hv : Loc X.env.scope nm := by first | exact Or.inl rfl | exact Or.inr rfl) (hf : X.fn nm = true ∨ X.env.scope.names.lookup nm = some .local := by first | exact .inl rfl | exact .inr rfl)
    (hst : ∀ x, foldedSetIterable it X.env x = pure x := by intro _; rfl) : sX X (.For (.Name nm px) it body [] pos) D σ H :=
  sX_of (ps_for hp hc (pi_tup pe_X) (pg_name hN hi hv hf) pb_X hst) (show eX X it σ H _ from eX_mono h fun v H1 q => by
    obtain ⟨r, xs, Pv, rfl, hx, p0, hl, ps, pd⟩ := q
    exact ⟨r, rfl, ⟨xs, hx⟩, for_tup Pv p0 hl ps pd⟩)
end
/-- what is asked -/
structure AskF (K : Fr) (H : Hp) (qa : Addr) (zq : Str) (us : List V) (ds : List PyData) : Prop where
  qs : SqT K H qa (.str zq :: us)
  qu : UrAll K H us ds
  ql : plainL ds = true
  qd : questD (.tuple (.str zq :: ds)) = true
  qt : ds.all (toldAt 9) = true
  qz : szL ds ≤ 15
theorem AskF.keep {K : Fr} {H H' : Hp} {qa : Addr} {zq : Str} {us : List V} {ds : List PyData} (h : AskF K H qa zq us ds) (e : TupK K H H') : AskF K H' qa zq us ds := ⟨e _ _ h.qs, h.qu.keep e h.ql, h.ql, h.qd, h.qt, h.qz⟩
def spRight : Sp := fun vs H Q _ => ∃ r c n, vs = [.ref r] ∧ RopeO H r c n ∧ n + 1000 < 100000 ∧ ∀ H', But r H H' → RopeO H' r c (n + 1000) → Q (.bl true) H'
section
variable {P : Program} {w : World} {K : Fr} {mg : Str → Option Value} {base : Heap} {A : Adr} {fe : Addr} {kP kQ : Nat}
theorem ok_law_right (F : RF P w K mg base A fe kP kQ) (D : Df K mg d_law_right) : ClG P w K mg base CX0 41 "_law_right" spRight := by
  refine D.clG sc_law_right (fun vs H Q E h => ?_) (fun _ _ _ _ _ _ us hl => match us, hl with | [_], _ => rfl) fun f cdv Ar outer s H vs Q E hg hr h => ⟨_, pb_X, ?_⟩
  · obtain ⟨r, c, n, rfl, _⟩ := h
    rfl
  obtain ⟨r, c, n, rfl, hR, hn, k⟩ := h
  have nd := sc_law_right.nd
  have hu := hu_of hr
  show bX (xR P w K mg base f cdv Ar outer s H E) d_law_right.body _ [some (.ref r), none, none, none, none, none, none, none, none, none, none, none, none] H
  -- word, ask = ..
  refine b_mid (fun σ' H' => ∃ z c0 qa zq us ds, σ' = [some (.ref r), some (.str z), some (.ref qa), none, none, none, none, none, none, none, none, none, none] ∧ partsTab.lookup z = some c0 ∧ AskF K H' qa zq us ds ∧ But r H H' ∧ RopeO H' r c (n + 70)) ?_ fun σ1 H1 hM => ?_
  · refine s_par 1 2 ?_ nd
    refine @a_cons _ _ _ _ _ _ ?_ rfl
    refine e_one (r := r) (c := c) F.co hr (by decide) (ev_name 0 rfl) fun H1 e1 => ?_
    refine eX_of (pe_callB cr_sortedS rfl (F.T.f "sorted") (by decide +kernel) (pa_cons pe_X pa_nil) (by decide) (by decide)) ?_
    refine (show eX _ _ _ _ _ from eX_of (pe_callTy (call_listD rfl) rfl (F.T.f "list") (by decide +kernel) (pa_cons pe_X pa_nil) (by decide) (by decide)) ?_)
    refine (show eX _ _ _ _ _ from e_cl0 (E := E0) F.many hr (by decide) pass0 ⟨rfl, fun d H2 hd e2 h2 => ⟨d, manyKvs, rfl, Rd.of h2, fun q hq => ⟨q, manyKeys, rfl, ?_, by decide +kernel, fun ys p hpm _ hp => ?_⟩⟩⟩)
    · rw [many_keys]
      exact sq_of upd_same
    have E2 := ((e1.trans e2).trans (Ex.new hq)).trans (Ex.new (o := .lst (ys.map V.str)) hp)
    have R2 := hR.ex ((e1.trans e2).trans (Ex.new (o := .lst (manyKvs.map fun kv => kV kv.1)) hq))
    have hyl : ys.length = manyKeys.length := hpm.length_eq
    have hml : manyKeys.length = 16 := by decide +kernel
    refine ⟨p, ys.map V.str, n, rfl, hR.ex E2, by omega, sq_of upd_same, (R2.off hp).1, by rw [List.length_map]; omega, by rw [List.length_map]; omega, fun j v H3 hv b3 R3 => ?_⟩
    rw [List.getElem?_map] at hv
    obtain ⟨z, hzj, rfl⟩ := Option.map_eq_some_iff.mp hv
    obtain ⟨c0, hc0⟩ := many_in z (hpm.mem_iff.mp (List.mem_of_getElem? hzj))
    refine @a_one _ _ _ _ _ ?_ rfl
    refine e_cl2 (E := E0) F.asked hr (by decide) pass0 (eX_ev (v := .ref r) (ev_name 0 rfl) fun H4 e4 => e_one (r := r) (c := c) F.co hr (by decide) (ev_name 0 rfl) fun H5 e5 => e_cl0 (E := E0) F.asks hr (by decide) pass0 ⟨rfl, fun p5 H6 hp5 e6 h6 => ?_⟩)
    have E5 := e4.trans e5
    have n5 := ((R3.ex E5).off hp5).1
    refine ⟨p5, _, n + 1, rfl, R3.ex (E5.trans e6), by omega, sq_of h6, n5, by decide, by decide, fun j5 v5 H7 hv5 b7 R7 => ?_⟩
    rw [List.getElem?_map] at hv5
    obtain ⟨zq, hzq, rfl⟩ := Option.map_eq_some_iff.mp hv5
    obtain ⟨fs, hfs⟩ := forms_keys.mp (asks_keys ▸ List.mem_of_getElem? hzq)
    refine ⟨r, c, n + 1 + 1, zq, fs, rfl, hfs, R7, by omega, fun q9 us ds H8 b8 R8 hq9 hus pl hqd htold hsz => ?_⟩
    exact ⟨_, _, rfl, z, c0, q9, zq, us, ds, rfl, hc0, ⟨hq9, hus, pl, hqd, htold, hsz⟩, ((((ebut E2).trans b3).trans (ebut (E5.trans e6))).trans b7).trans b8, R8.le (by omega) (by omega)⟩
  obtain ⟨z, c0, qa, zq, us, ds, rfl, hc0, hA1, b1, R1⟩ := hM
  have hc5 := parts_small hc0
  -- parts = tuple(..)
  refine b_mid (fun σ' H' => ∃ pa vs pds, σ' = [some (.ref r), some (.str z), some (.ref qa), some (.ref pa), none, none, none, none, none, none, none, none, none] ∧ AskF K H' qa zq us ds ∧ SqT K H' pa vs ∧ UrAll K H' vs pds ∧ plainL pds = true ∧ pds.all (toldAt 3) = true ∧ szL pds ≤ 200 ∧ pds.length = c0 ∧ But r H H' ∧ RopeO H' r c (n + 700)) ?_ fun σ2 H2 hM => ?_
  · refine s_set 3 (eX_of (pe_callTy call_tuple_of rfl (F.T.f "tuple") (by decide +kernel) (pa_cons pe_X pa_nil) (by decide) (by decide)) ?_) nd
    refine (show eX _ _ _ _ _ from eX_of (pe_lc (own := [("turn", 9)]) (tt := tYes) (te := eB _ _ _) (g := gName 9) rfl nd (pi_range1 rfl (F.T.f "range") (pa_cons pe_X pa_nil)) (blkOk_by (N := rN) (sc := defScope s_law_right) (by decide +kernel)) (fun _ _ _ _ _ => pg_name nd rfl (Or.inl rfl)) (fun _ _ _ _ _ => pts_nil) (fun s H C cl fp => ⟨fun pins s1 σ1 H2 Q1 I h => h s H C cl fp pins s1 I⟩) (fun _ => rfl)) ?_)
    refine (show eX _ _ _ _ _ from e_getD hu (e_cl0 (E := E0) F.many hr (by decide) pass0 ⟨rfl, fun d H2 hd e2 h2 => eX_ev (v := .str z) (ev_name 1 rfl) fun H3 e3 => ⟨d, .int (c0 : Nat), rfl, ?_, (c0 : Nat), rfl, by omega, by omega, fun Dl hDl => ?_⟩⟩))
    · have h := DGet.k (k := Sum.inr z) (e3 _ _ h2)
      rw [many_at, hc0] at h
      exact h
    have E3 := e2.trans e3
    have R3 := R1.ex E3
    obtain ⟨nDr, nDc⟩ := R3.off hDl
    have hD1 : H1 Dl = none := fresh_back E3 hDl
    have hcc : ((c0 : Nat) : Int).toNat = c0 := Int.toNat_natCast c0
    have cv : costV 3 = 106 := by decide
    have sv : sizV 3 = 40 := by decide
    refine lc_range (lo := 0) (n := ((c0 : Nat) : Int).toNat) (PvV K r c Dl (n + 68) 3 H1) ⟨[], [], (ebut E3).mut hD1, ?_, upd_same, .nil, rfl, rfl, Nat.zero_le _, rfl⟩ (fun i H9 hi hv => ?_) fun H9 hv => ?_
    · rw [Nat.zero_mul]
      exact (R3.ex (Ex.new hDl))
    · obtain ⟨vs, ds9, b9, R9, l9, u9, p9, t9, z9, hvl⟩ := hv
      refine (show _ ∧ _ from ⟨rfl, ?_⟩)
      unfold tYes
      refine iteT ?_
      intro s' H0' C cl fp
      refine e_cl2 (E := E0) F.value hr (by decide) pass0 (eX_ev (v := .ref r) (ev_name 0 rfl) fun H10 e10 => eX_ev (v := .int ((3 : Nat) : Int)) ev_int fun H11 e11 => ?_)
      have E11 := e10.trans e11
      rw [hcc] at hi
      rw [cv] at R9
      rw [sv] at z9
      refine ⟨r, c, _, rfl, R9.ex E11, by rw [cv]; omega, fun v d H12 b12 R12 u12 p12 t12 z12 => ?_⟩
      rw [cv] at R12
      rw [sv] at z12
      have B12 : But r H9 H12 := (ebut E11).trans b12
      obtain ⟨o9, ho9, hn9⟩ := R9.at_
      have l12 := B12 _ _ nDr l9
      have tk1 : TupK K H9 H12 := tupK_but B12 ho9 hn9
      have tk2 : TupK K H12 (L2.upd H12 Dl (.lst (vs ++ [v]))) := tupK_upd l12 rfl
      refine ⟨vs, l12, Nat.lt_of_le_of_lt (by omega : vs.length ≤ 100) (by decide), vs ++ [v], ds9 ++ [d], (b9.trans B12).mut hD1, ?_, upd_same, (UrAll.keep (tk1.trans tk2) p9 u9).app (.cons (u12.keep tk2 p12) .nil), ?_, ?_, ?_, by simp [hvl]⟩
      · rw [cv]
        have e13 : n + 68 + 2 + i * 106 + 106 = n + 68 + 2 + (i + 1) * 106 := by omega
        rw [← e13]
        exact R12.upd nDr nDc
      · rw [plainL_app, p9]
        show (true && (plainD d && true)) = true
        rw [p12]
        rfl
      · rw [List.all_append, t9]
        show (true && (toldAt 3 d && true)) = true
        rw [t12]
        rfl
      · rw [szL_snoc, sv]
        omega
    · obtain ⟨vs, ds9, b9, R9, l9, u9, p9, t9, z9, hvl⟩ := hv
      rw [hcc] at R9 z9 hvl
      rw [cv] at R9
      rw [sv] at z9
      refine ⟨Dl, vs, rfl, .inl ⟨sq_of l9, fun q hq => ?_⟩⟩
      have e10 : Ex H9 (L2.upd H9 q (.tup vs)) := Ex.new hq
      obtain ⟨o1, ho1, hn1⟩ := R1.at_
      exact ⟨q, vs, ds9, rfl, hA1.keep ((tupK_but b9 ho1 hn1).trans (tupK_ex e10)), st_of upd_same, u9.ext e10, p9, t9, by omega, u9.len.symm.trans hvl, (b1.trans b9).trans (ebut e10), (R9.ex e10).le (by omega) (by omega)⟩
  obtain ⟨pa, vs, pds, rfl, hA2, hpa, hpu, hpp, hpt, hpz, hpl, b2, R2⟩ := hM
  subst hpl
  -- paper, words, lines = ..
  refine b_mid (fun σ' H' => ∃ x wa la, σ' = [some (.ref r), some (.str z), some (.ref qa), some (.ref pa), some (.ref x), some (.ref wa), some (.ref la), none, none, none, none, none, none] ∧ Ex H2 H' ∧ PapI K H' x (A.pap z) z pds ∧ H' wa = some (.lst [.str z]) ∧ H' la = some (.lst [.str zq])) ?_ fun σ3 H3 hM => ?_
  · refine s_par3 4 5 6 ?_ nd
    refine @a_cons _ _ _ _ _ _ ?_ rfl
    refine e_cl2 (E := E0) F.made hr (by decide) pass0 (eX_ev (v := .str z) (ev_name 1 rfl) fun H3 e3 => eX_ev (v := .ref pa) (ev_name 3 rfl) fun H4 e4 => ⟨z, pa, vs, pds, rfl, ex_t (e3.trans e4) hpa, hpu.ext (e3.trans e4), deepL_told hpt (by decide), by omega, hc0, fun x H5 e5 I5 => ?_⟩)
    rw [fixedL_plain pds hpp] at I5
    have E5 := (e3.trans e4).trans e5
    refine @a_cons _ _ _ _ _ _ ?_ rfl
    refine eX_evl (evl_1 (v := .str z) (ev_name 1 rfl)) fun wa H6 hwa e6 g6 => ?_
    refine @a_one _ _ _ _ _ ?_ rfl
    refine eX_evl (evl_1 (v := .str zq) (ev_ixT (v := .str zq) (i := ((0 : Nat) : Int)) (ev_name 2 rfl) ev_int (ex_t (E5.trans e6) hA2.qs) (atI_j rfl))) fun la H7 hla e7 g7 => ?_
    exact ⟨_, _, _, rfl, x, wa, la, rfl, (E5.trans e6).trans e7, I5.ext (e6.trans e7), e7 _ _ g6, g7⟩
  obtain ⟨x, wa, la, rfl, e3, I3, hw3, hl3⟩ := hM
  have hpl5 := wordsL_len pds
  -- for part in parts: words = words + _law_words(part)
  refine b_mid (fun σ' H' => ∃ wa o7, σ' = [some (.ref r), some (.str z), some (.ref qa), some (.ref pa), some (.ref x), some (.ref wa), some (.ref la), o7, none, none, none, none, none] ∧ Ex H3 H' ∧ H' wa = some (.lst ((z :: wordsL pds).map V.str))) ?_ fun σ4 H4 hM => ?_
  · refine s_forTup (a := pa) (xs := vs) 7 (fun i σ' H' => Ex H3 H' ∧ ∃ wa o7, σ' = [some (.ref r), some (.str z), some (.ref qa), some (.ref pa), some (.ref x), some (.ref wa), some (.ref la), o7, none, none, none, none, none] ∧ H' wa = some (.lst ((z :: wordsL (pds.take i)).map V.str))) (ev_name 3 rfl) (ex_t e3 hpa)
      (fun H4 e4 => ⟨e4, wa, none, rfl, e4 _ _ hw3⟩) (fun i σ' H' _ hv => ex_t (e3.trans hv.1) hpa) (fun i v σ' H4 hx hv => ?_) (fun σ' H4 hv => ?_) (passes_of rfl) nd
    · obtain ⟨e4, wa', o7, rfl, hw4⟩ := hv
      obtain ⟨d, hd, hud⟩ := hpu.at hx
      have hm := List.mem_of_getElem? hd
      refine b_one (s_set 5 (eX_of (pe_op op_cat pe_X pe_X) (eX_ev (v := .ref wa') (ev_name 5 rfl) fun H5 e5 => (show eX _ _ _ _ _ from e_cl1 (E := E0) F.words hr (by decide) pass0 (eX_ev (v := v) (ev_name 7 rfl) fun H6 e6 => ?_)))) nd)
      refine ⟨v, d, rfl, hud.ext (e3.trans (e4.trans (e5.trans e6))), told_up (List.all_eq_true.mp hpt d hm) (by decide), by have := szD_mem hm; omega, fun p H7 hp e7 h7 => ⟨wa', p, _, _, rfl, rfl, (e5.trans (e6.trans e7)) _ _ hw4, h7, ?_, fun q hq => ?_⟩⟩
      · have h1 := wordsL_le pds (i + 1)
        rw [wordsL_take hd, List.length_append] at h1
        simp only [List.length_map, List.length_cons]
        exact Nat.le_trans (by omega : _ ≤ 1000000) (by decide)
      · refine ⟨(e4.trans (e5.trans (e6.trans e7))).trans (Ex.new hq), q, some v, rfl, ?_⟩
        rw [upd_same, wordsL_take hd, ← List.map_append]
        rfl
    · obtain ⟨e4, wa', o7, rfl, hw4⟩ := hv
      rw [hpu.len, List.take_length] at hw4
      exact ⟨wa', o7, rfl, e4, hw4⟩
  obtain ⟨wa4, o7, rfl, e4, hw4⟩ := hM
  have hql5 := wordsL_len ds
  have hqz := hA2.qz
  have E4 := e3.trans e4
  -- for part in ask[1:]: lines = lines + _law_words(part)
  refine b_mid (fun σ' H' => ∃ la o7, σ' = [some (.ref r), some (.str z), some (.ref qa), some (.ref pa), some (.ref x), some (.ref wa4), some (.ref la), o7, none, none, none, none, none] ∧ Ex H4 H' ∧ H' la = some (.lst ((zq :: wordsL ds).map V.str))) ?_ fun σ5 H5 hM => ?_
  · refine s_forTupE 7 (eX_evu (evu_from1 (ev_name 2 rfl) (ex_t E4 hA2.qs)) fun qa1 H5 hqa1 e5 g5 => ⟨qa1, us, (fun i σ' H' => Ex H4 H' ∧ SqT K H' qa1 us ∧ ∃ la o7, σ' = [some (.ref r), some (.str z), some (.ref qa), some (.ref pa), some (.ref x), some (.ref wa4), some (.ref la), o7, none, none, none, none, none] ∧ H' la = some (.lst ((zq :: wordsL (ds.take i)).map V.str))), rfl, st_of g5,
      ⟨e5, st_of g5, la, o7, rfl, (e4.trans e5) _ _ hl3⟩, fun i σ' H' _ hv => hv.2.1, fun i v σ' H6 hx hv => ?_, fun σ' H6 hv => ?_⟩) (passes_of rfl) nd
    · obtain ⟨e6, s6, la', o7', rfl, hl6⟩ := hv
      obtain ⟨d, hd, hud⟩ := hA2.qu.at hx
      have hm := List.mem_of_getElem? hd
      refine b_one (s_set 6 (eX_of (pe_op op_cat pe_X pe_X) (eX_ev (v := .ref la') (ev_name 6 rfl) fun H7 e7 => (show eX _ _ _ _ _ from e_cl1 (E := E0) F.words hr (by decide) pass0 (eX_ev (v := v) (ev_name 7 rfl) fun H8 e8 => ?_)))) nd)
      refine ⟨v, d, rfl, hud.ext (E4.trans (e6.trans (e7.trans e8))), told_up (List.all_eq_true.mp hA2.qt d hm) (by decide), by have := szD_mem hm; omega, fun p H9 hp e9 h9 => ⟨la', p, _, _, rfl, rfl, (e7.trans (e8.trans e9)) _ _ hl6, h9, ?_, fun q hq => ?_⟩⟩
      · have h1 := wordsL_le ds (i + 1)
        rw [wordsL_take hd, List.length_append] at h1
        simp only [List.length_map, List.length_cons]
        exact Nat.le_trans (by omega : _ ≤ 1000000) (by decide)
      · have e10 := (e7.trans (e8.trans e9)).trans (Ex.new (o := .lst (((zq :: wordsL (ds.take i)).map V.str) ++ ((wordsD d).map V.str))) hq)
        refine ⟨e6.trans e10, ex_t e10 s6, q, some v, rfl, ?_⟩
        rw [upd_same, wordsL_take hd, ← List.map_append]
        rfl
    · obtain ⟨e6, s6, la', o7', rfl, hl6⟩ := hv
      rw [hA2.qu.len, List.take_length] at hl6
      exact ⟨la', o7', rfl, e6, hl6⟩
  obtain ⟨la5, o75, rfl, e5, hl5⟩ := hM
  have E5 := E4.trans e5
  exact right_tail F hg hr (n := n + 700) (by omega) ⟨R2.ex E5, e5 _ _ hw4, hl5, I3.ext (e4.trans e5), hc0, hpt, hpp, hpz, ex_t E5 hA2.qs, hA2.qu.ext E5, hA2.ql, hA2.qd, hA2.qt, hA2.qz⟩ fun H' b' R' => k H' ((b2.trans (ebut E5)).trans b') (R'.le (by omega) (by omega))
end
end K96

set_option Elab.async false
set_option linter.all false
set_option maxRecDepth 100000
set_option maxHeartbeats 1000000
/-! The law: what is odd, what is refused. -/
namespace K96
open PySem PySem.Spec PyProof.Rows L2 Evl TL
/-- a class's instances have their type told -/
structure InsT (K : Fr) (C : Addr) : Prop where
  cl : Cls K C
  ca : PySem.W.findIn K (.ref C) "__class__" = some (some (.builtin "object.__class__"))
  cn : PySem.W.specialIn K (.builtin "object.__class__") "__get__" = some (some (.builtin "getset_descriptor.__get__"))
  ct : PySem.W.takesIn K (.builtin "object.__class__") = some true
  mo : PySem.W.mroIn K C (.type "object") = some true
theorem InsT.ty {K : Fr} {C : Addr} (I : InsT K C) {H : Hp} {x dx : Addr} {fs : List (Str × V)} (h : H x = some (.ins C dx fs)) : TyX K H (.ref x) (.ref C) := .base (.ins h I.cl I.ca I.cn I.ct I.mo)
/-- a type is no paper's -/
def NoPap (K : Fr) (A : Adr) (t : Value) : Prop := PySem.W.kitOne K t (.ref A.paper) = some false ∧ ∃ b1 b2, PySem.W.kitAny K t (clsOf A firstW) = some b1 ∧ PySem.W.kitAny K t (clsOf A lastW) = some b2
/-- a class of papers that are never written -/
def BarePap (K : Fr) (A : Adr) (C : Addr) : Prop := PySem.W.kitOne K (.ref C) (.ref A.paper) = some true ∧ PySem.W.kitAny K (.ref C) (clsOf A firstW) = some false ∧ PySem.W.kitAny K (.ref C) (clsOf A lastW) = some false
structure LF (P : Program) (w : World) (K : Fr) (mg : Str → Option Value) (base : Heap) (A : Adr) (fe : Addr) (kP kQ : Nat) : Prop where
  R : RF P w K mg base A fe kP kQ
  rope : Cl P w K mg base CX0 1 "_law_rope" (spRope K)
  right : ClG P w K mg base CX0 41 "_law_right" spRight
  refP : Cl P w K mg base CX0 14 "_law_refused" (spRef P w K mg base A 13)
  paps : PapsM P w K mg base A 16 12
  pap : Ini P w K mg base CX0 15 "Paper" A.paper (spPap 12 K)
  den : Ini P w K mg base CX0 15 "Denial" A.denial (spPap 12 K)
  kp : KOk K A.paper
  kd : KOk K A.denial
  tp : InsT K A.paper
  td : InsT K A.denial
  bp : BarePap K A A.paper
  bd : BarePap K A A.denial
  nn : NoPap K A (.type "NoneType")
  nl : NoPap K A (.type "list")
  obj : ∀ m ∈ kitN, PySem.W.kitOne K (.ref (A.pap "comes")) (.type m) = some false
/-- a value that cannot be told, however deep -/
def OddV (K : Fr) (H : Hp) (v : V) : Prop := ∃ d, Ur K H v d ∧ (∀ n, toldAt n (fixedD d) = false) ∧ deepAt 5 d = true ∧ szD d ≤ 5
theorem OddV.ex {K : Fr} {H H' : Hp} {v : V} (h : OddV K H v) (e : Ex H H') : OddV K H' v := by
  obtain ⟨d, u, a⟩ := h
  exact ⟨d, u.ext e, a⟩
theorem odd_single {d : PyData} (h1 : isTupD d = false) (h : singleD d = false) : ∀ n, toldAt n d = false := fun n => by
  cases d with
  | tuple xs => cases h1
  | _ => cases n <;> exact h
/-- a paper, or another value, that cannot be told -/
def RefV (K : Fr) (A : Adr) (H : Hp) (v : V) : Prop := (∃ b1 b2, PT K A H v false b1 b2) ∨ ∃ x C z ds b1 b2, v = .ref x ∧ KOk K C ∧ PapI K H x C z ds ∧ PT K A H v true b1 b2 ∧ szL ds ≤ 40000 ∧ z.length ≤ 20 ∧ ((b1 || b2) && ds.all (toldAt 10)) = false
theorem RefV.ex {K : Fr} {A : Adr} {H H' : Hp} {v : V} (h : RefV K A H v) (e : Ex H H') : RefV K A H' v := by
  rcases h with ⟨b1, b2, h⟩ | ⟨x, C, z, ds, b1, b2, rfl, k, I, h, r⟩
  · exact .inl ⟨b1, b2, h.ext e⟩
  · exact .inr ⟨x, C, z, ds, b1, b2, rfl, k, I.ext e, h.ext e, r⟩
theorem RefV.text {K : Fr} {A : Adr} {H : Hp} {v : V} {Q : VK} {E : XK} (h : RefV K A H v) (q : BadV A H E (.str "paper")) : spPText A K [v] H Q E := by
  rcases h with ⟨b1, b2, h⟩ | ⟨x, C, z, ds, b1, b2, rfl, k, I, h, hz, hw, hf⟩
  · exact ⟨v, rfl, .inl ⟨b1, b2, h, q⟩⟩
  · exact ⟨_, rfl, .inr ⟨x, C, z, ds, b1, b2, rfl, k, I, h, hz, hw, (fun e => by rw [hf] at e; cases e), fun _ => q⟩⟩
theorem ClK.fnv' {P : Program} {w : World} {K : Fr} {mg : Str → Option Value} {base : Heap} {k : Nat} {x p : Str} {sp : Sp} (c : ClK P w K mg base (L2.CX P w) k x p sp) : ∃ f : Addr, mg x = some (.ref f) ∧ FnV P w K mg base k f sp := c.fnv
/-- refused of a paper that cannot be told -/
theorem ref_paper {P : Program} {w : World} {K : Fr} {mg : Str → Option Value} {base : Heap} {A : Adr} {f : Addr} {H : Hp} {v : V} {Q : VK} {E : XK} (hF : FnV P w K mg base 13 f (spPText A K)) (h : RefV K A H v) (q : Gives (.str "paper") H Q) : spRef P w K mg base A 13 [.ref f, v] H Q E :=
  ⟨f, _, v, rfl, hF, fun H1 e1 Q1 E1 _ q2 => (h.ex e1).text fun d H' _ e hd => q2 d _ H' hd fun H3 e3 => q H3 ((e1.trans e).trans e3)⟩
/-- refused of what is no question -/
theorem ref_quest {P : Program} {w : World} {K : Fr} {mg : Str → Option Value} {base : Heap} {A : Adr} {f : Addr} {H : Hp} {v : V} {d : PyData} {Q : VK} {E : XK} (hF : FnV P w K mg base 13 f (spQText A K)) (hu : Ur K H v d) (hq : questD d = false) (hz : szD d ≤ 4000) (q : Gives (.str "question") H Q) : spRef P w K mg base A 13 [.ref f, v] H Q E :=
  ⟨f, _, v, rfl, hF, fun H1 e1 Q1 E1 _ q2 => ⟨v, d, rfl, hu.ext e1, hz, fun e => (by rw [hq] at e; cases e), fun _ d' H' _ e hd => q2 d' _ H' hd fun H3 e3 => q H3 ((e1.trans e).trans e3)⟩⟩
/-- a told paper's class, with a part that cannot be told -/
theorem pap_ref {K : Fr} {A : Adr} {fe : Addr} (F : PapF K A fe) {H : Hp} {x : Addr} {z : Str} {ds : List PyData} (hz : z ∈ partsTab.map (·.1)) (I : PapI K H x (A.pap z) z ds) (hs : szL ds ≤ 40000) (hf : ds.all (toldAt 10) = false) : RefV K A H (.ref x) := by
  obtain ⟨b1, b2, hp, hb⟩ := F.tp hz I
  have hz20 : z.length ≤ 20 := by
    have key : ∀ q ∈ partsTab.map (·.1), q.length ≤ 20 := by decide +kernel
    exact key _ hz
  exact .inr ⟨x, A.pap z, z, ds, b1, b2, rfl, (F.ok z hz).1, I, hp, hs, hz20, by rw [hf, Bool.and_false]⟩
theorem bare_ref {K : Fr} {A : Adr} {C : Addr} (B : BarePap K A C) (T : InsT K C) (k : KOk K C) {H : Hp} {x : Addr} {z : Str} {ds : List PyData} (I : PapI K H x C z ds) (hs : szL ds ≤ 40000) (hz : z.length ≤ 20) : RefV K A H (.ref x) := by
  obtain ⟨dx, fs, q, ws, hx, _⟩ := I.ob
  exact .inr ⟨x, C, z, ds, false, false, rfl, k, I, ⟨_, T.ty hx, B.1, B.2.1, B.2.2⟩, hs, hz, rfl⟩
theorem no_ref {K : Fr} {A : Adr} {t : Value} (N : NoPap K A t) {H : Hp} {v : V} (h : TyX K H v t) : RefV K A H v := by
  obtain ⟨h0, b1, b2, h1, h2⟩ := N
  exact .inl ⟨b1, b2, ⟨_, h, h0, h1, h2⟩⟩
/-- one tuple in another -/
def deepD : Nat → PyData
  | 0 => .tuple []
  | n + 1 => .tuple [deepD n]
def spLaw (K : Fr) : Sp := fun vs H Q _ => ∃ (a : Addr) (ns : List Int), vs = [.ref a] ∧ SqL K H a (ns.map V.int) ∧ ∀ H', Q (.bl true) H'
section
variable {P : Program} {w : World} {K : Fr} {mg : Str → Option Value} {base : Heap} {A : Adr} {fe : Addr} {kP kQ : Nat}
/-- Paper(..), Denial(..): a bare paper -/
theorem bare_made {C x dx : Addr} {z : Str} {rest : List V} {ds : List PyData} {H : Hp} {R : Hp → Prop} {E : XK} (k : KOk K C) (hx : H x = none) (hdx : H dx = none) (hne : dx ≠ x) (hu : UrAll K H rest ds) (hd : ds.all (deepAt 12) = true) (hz : szL ds < 100000)
    (q : ∀ H', Ex H H' → PapI K H' x C z (fixedL ds) → R H') : spPap 12 K (.ref x :: .str z :: rest) (L2.upd (L2.upd H dx (.own x)) x (.ins C dx [])) (fun v H2 => v = .non ∧ R H2) E := by
  have e2 : Ex H (L2.upd (L2.upd H dx (.own x)) x (.ins C dx [])) := (Ex.new hdx).trans (Ex.new (by rw [upd_ne (Ne.symm hne)]; exact hx))
  refine ⟨x, C, dx, z, rest, ds, rfl, upd_same, k.cl, k.no _ (by decide +kernel), k.no _ (by decide +kernel), hu.ext e2, hd, hz, fun q1 ws H' b hx' hq hus => ⟨rfl, q H' (fun b' o ho => b b' o (fun z => by rw [z, hx] at ho; cases ho) (e2 _ _ ho)) ⟨dx, _, q1, ws, hx', rfl, ?_, hq, hus, by show 2 ≤ 20; decide, fun m hm => ?_⟩⟩⟩
  · exact look_miss (by decide +kernel) look_hit
  · have h1 : (m == ("word" : Str)) = false := beq_eq_false_iff_ne.mpr fun e => hm (by rw [e]; decide +kernel)
    have h2 : (m == ("parts" : Str)) = false := beq_eq_false_iff_ne.mpr fun e => hm (by rw [e]; decide +kernel)
    exact look_miss h1 (look_miss h2 rfl)
end
end K96

set_option Elab.async false
set_option linter.all false
set_option maxRecDepth 100000
set_option maxHeartbeats 1000000
/-! The law: its opening. -/
namespace K96
open PySem PySem.Spec PyProof.Rows L2 Evl TL
abbrev lN : List Str := ["script", "rope", "turn", "odd", "deep", "ask", "none", "one"]
abbrev xL (P : Program) (w : World) (K : Fr) (mg : Str → Option Value) (base : Heap) (f : Addr) (cdv : Value) (Ar : Around) (outer : List Env) (s : Shared) (H : Hp) (E : XK) : Cx := cxOf CX0 P w K mg base lN d_law.qual d_law.scope f cdv Ar outer s H E
theorem e_papE {X : Cx} {A : Adr} {k n j : Nat} {nm z : Str} {c : Nat} {e : Expr} {es : List Expr} {p pos : Pos} {σ : Sg} {H : Hp} {Q : VK} (M : PapsM X.prog X.w X.K X.mg X.base A k n) (hq : (nm, z, c) ∈ papTab) (hr : Room j X.A) (hk : k + 1 ≤ j)
    (ha : aX X (e :: es) σ H fun args H1 => ∃ ds, UrAll X.K H1 args ds ∧ ds.all (deepAt n) = true ∧ szL ds < 100000 ∧ ds.length = c ∧ ∀ x H', Ex H1 H' → PapI X.K H' x (A.pap z) z (fixedL ds) → Q (.ref x) H')
    (hg : Gl X nm := by rfl) (hdb : (nm == ("__debug__" : Str)) = false := by decide) (he : starEach (e :: es) X.env = (false, eval e X.env) :: starEach es X.env := by rfl) (hpl : (backTo pos (starEach es X.env)).any (·.1) = false := by rfl) :
    eX X (.Call (.Name nm p) (e :: es) [] pos) σ H Q := by
  refine e_make (E := E0) (M _ hq) hr hk pass0 ?_ hg hdb he hpl
  intro pp pins s I
  refine thn (ha pp pins s I) fun us s2 ⟨args, H1, I1, rv, q⟩ => ⟨args, H1, I1, rv, ?_⟩
  obtain ⟨ds, hu, hd, hz, hc, q⟩ := q
  intro x dx hx hdx hne
  have e2 : Ex H1 (L2.upd (L2.upd H1 dx (.own x)) x (.ins (A.pap z) dx [])) := (Ex.new hdx).trans (Ex.new (by rw [upd_ne (Ne.symm hne)]; exact hx))
  exact ⟨x, dx, args, ds, rfl, by rw [hu.len]; exact hc, upd_same, hu.ext e2, hd, hz, fun H' b I => ⟨rfl, q x H' (fun b' o ho => b b' o (fun z => by rw [z, hx] at ho; cases ho) (e2 _ _ ho)) I⟩⟩
/-- a paper as a value -/
theorem pap_obj {K : Fr} {A : Adr} {fe : Addr} (F : PapF K A fe) (ho : ∀ m ∈ kitN, PySem.W.kitOne K (.ref (A.pap "comes")) (.type m) = some false) {H : Hp} {x dx : Addr} {fs : List (Str × V)} (hx : H x = some (.ins (A.pap "comes") dx fs)) (hp : (fs.lookup ("parts" : Str)).isSome = true) : Ur K H (.ref x) (.dict [(.none, .none)]) := by
  obtain ⟨_, nm, N⟩ := F.ok "comes" (by decide +kernel)
  have ty : TyX K H (.ref x) (.ref (A.pap "comes")) := .base (.ins hx N.cl N.ca N.cn N.ct N.mo)
  have key : ∀ m ∈ kitN, (("obj" == m) || (("obj" == "bool") && (m == "int"))) = false := by decide
  exact .obj hx hp ⟨⟨_, ty, fun m hm => (ho m hm).trans (congrArg some (key m hm).symm)⟩, fun h => absurd h (by decide), fun h => absurd h (by decide), ⟨(fun h => nomatch h), fun h => absurd h (by decide)⟩, fun h => absurd h (by decide)⟩
theorem but_new {r a : Addr} {H H' : Hp} {o : HO} (b : But r H H') (h : H a = some o) (n : a ≠ r) : H' a = some o := b _ _ n h
section
variable {P : Program} {w : World} {K : Fr} {mg : Str → Option Value} {base : Heap} {A : Adr} {fe : Addr} {kP kQ : Nat}
theorem law_open (L : LF P w K mg base A fe kP kQ) {f : Addr} {cdv : Value} {Ar : Around} {outer : List Env} {s : Shared} {H0 : Hp} {E : XK} (hg : Ar.guards = some []) (hr : Room 44 (Ar.deeper (envOfC d_law.qual d_law.scope s.heap.objs.size f cdv)))
    {a : Addr} {ns : List Int} {H : Hp} {D : Ends} (hs : SqL K H a (ns.map V.int))
    (k : ∀ r c n o2 v dp H', n ≤ 4001 → RopeO H' r c n → OddV K H' v → Ur K H' (.ref dp) (deepD 8) → bX (xL P w K mg base f cdv Ar outer s H0 E) (d_law.body.drop 4) D [some (.ref a), some (.ref r), o2, some v, some (.ref dp), none, none, none] H') :
    bX (xL P w K mg base f cdv Ar outer s H0 E) d_law.body D [some (.ref a), none, none, none, none, none, none, none] H := by
  have nd := sc_law.nd
  have hu := hu_of hr
  have F := L.R
  -- rope = _law_rope(script)
  refine b_mid (fun σ' H' => ∃ r c, σ' = [some (.ref a), some (.ref r), none, none, none, none, none, none] ∧ RopeO H' r c 0) ?_ fun σ1 H1 hM => ?_
  · exact s_set 1 (e_cl1 (E := E0) L.rope hr (by decide) pass0 (eX_ev (v := .ref a) (ev_name 0 rfl) fun H1 e1 => ⟨a, ns, rfl, ex_l e1 hs, fun r c H2 e2 hr0 R2 => ⟨r, c, rfl, R2⟩⟩)) nd
  obtain ⟨r, c, rfl, R1⟩ := hM
  -- for turn in range(4): if not _law_right(rope): return False
  refine b_mid (fun σ' H' => ∃ o2, σ' = [some (.ref a), some (.ref r), o2, none, none, none, none, none] ∧ RopeO H' r c 4000) ?_ fun σ2 H2 hM => ?_
  · refine s_forRange 2 (eX_ev (v := .int 4) ev_int fun H3 e3 => ⟨4, fun i σ' H' => ∃ o2, σ' = [some (.ref a), some (.ref r), o2, none, none, none, none, none] ∧ RopeO H' r c (1000 * i), rfl, by decide, by decide, ⟨none, rfl, R1.ex e3⟩, fun i σ' H6 hi hv => ?_, fun σ' H6 hv => ?_⟩) (F.T.f "range") (passes_of rfl) nd
    · obtain ⟨o2, rfl, R6⟩ := hv
      have hi4 : i < 4 := hi
      refine b_one (s_ifX (tX_of (pt_not pt_X) (show tX _ _ _ _ _ from tX_of (pt_val pe_X (by intro _; rfl)) (e_clG L.right hg hr (by decide) pass0 (a_one (eX_ev (v := .ref r) (ev_name 1 rfl) fun H7 e7 => ⟨r, c, 1000 * i, rfl, R6.ex e7, by omega, fun H8 b8 R8 => ⟨true, rfl, iteF (b_nil ⟨_, rfl, R8.le (by omega) (by omega)⟩)⟩⟩))))))
    · obtain ⟨o2, rfl, R6⟩ := hv
      exact ⟨o2, rfl, R6⟩
  obtain ⟨o2, rfl, R2⟩ := hM
  -- odd, deep = ..
  refine b_mid (fun σ' H' => ∃ v dp, σ' = [some (.ref a), some (.ref r), o2, some v, some (.ref dp), none, none, none] ∧ RopeO H' r c 4001 ∧ OddV K H' v ∧ H' dp = some (.tup [])) ?_ fun σ3 H3 hM => ?_
  · refine s_par 3 4 ?_ nd
    refine @a_cons _ _ _ _ _ _ ?_ rfl
    refine e_one (r := r) (c := c) F.co hr (by decide) (ev_name 1 rfl) fun H3 e3 => ?_
    have R3 := R2.ex e3
    have p12 : ∀ {X : Cx} {σ : Sg} {H : Hp} {j1 j2 : Nat} {p1 p2 p3 : Pos}, EV X (.BinOp (.Constant (.int 10) j1 p1) .Pow (.Constant (.int 12) j2 p2) p3) σ H (.int 1000000000000) := fun {X σ H j1 j2 p1 p2 p3} => ev_bin op_pow ev_int ev_int (rv_I (powB (by decide) (by decide) _ (by decide) (by decide)))
    refine @e_lst _ _ _ _ _ _ ?_
    refine @a_cons _ _ _ _ _ _ (eX_ev (v := .bl true) (ev_of pe_bl ev_c) fun H4 e4 => ?_) rfl
    refine @a_cons _ _ _ _ _ _ (eX_ev p12 fun H5 e5 => ?_) rfl
    refine @a_cons _ _ _ _ _ _ (eX_ev (v := .int (-1000000000000)) (ev_of (pe_un un_neg pe_X) (ev_un p12 ru_neg)) fun H6 e6 => ?_) rfl
    refine @a_cons _ _ _ _ _ _ (eX_ev ev_str fun H7 e7 => ?_) rfl
    refine @a_cons _ _ _ _ _ _ (eX_ev ev_str fun H8 e8 => ?_) rfl
    refine @a_cons _ _ _ _ _ _ (eX_ev ev_str fun H9 e9 => ?_) rfl
    refine @a_cons _ _ _ _ _ _ (eX_ev ev_str fun H10 e10 => ?_) rfl
    refine @a_cons _ _ _ _ _ _ (eX_of pe_dnewK fun d1 hd1 => ?_) rfl
    refine @a_cons _ _ _ _ _ _ (e_lst (a_one (eX_of pe_dnewK fun d2 hd2 => ⟨by show 1 ≤ sizeLine; decide, fun l1 hl1 => ?_⟩))) rfl
    have E10 := (((((e4.trans e5).trans e6).trans e7).trans e8).trans e9).trans e10
    have R10 := R3.ex E10
    have n1 := (R10.off hd1).1
    have x1 : Ex H10 (L2.upd H10 d1 (.dK [])) := Ex.new hd1
    have n2 := ((R10.ex x1).off hd2).1
    have x2 : Ex (L2.upd H10 d1 (.dK [])) (L2.upd (L2.upd H10 d1 (.dK [])) d2 (.dK [])) := Ex.new hd2
    have n3 := ((R10.ex (x1.trans x2)).off hl1).1
    have x3 : Ex (L2.upd (L2.upd H10 d1 (.dK [])) d2 (.dK [])) (L2.upd (L2.upd (L2.upd H10 d1 (.dK [])) d2 (.dK [])) l1 (.lst [.ref d2])) := Ex.new hl1
    have g1 := (x2.trans x3) _ _ (upd_same (H := H10) (a := d1) (o := .dK []))
    have g2 := x3 _ _ (upd_same (H := L2.upd H10 d1 (.dK [])) (a := d2) (o := .dK []))
    have g3 := upd_same (H := L2.upd (L2.upd H10 d1 (.dK [])) d2 (.dK [])) (a := l1) (o := .lst [.ref d2])
    have R11 := R10.ex ((x1.trans x2).trans x3)
    generalize L2.upd (L2.upd (L2.upd H10 d1 (.dK [])) d2 (.dK [])) l1 (.lst [.ref d2]) = H11 at g1 g2 g3 R11 ⊢
    refine @a_one _ _ _ _ _ ?_ rfl
    refine e_papE L.paps (nm := "Comes") (z := "comes") (c := 1) (by decide +kernel) hr (by decide) (a_one (eX_evu (evu_tup ea_nil (Nat.zero_le _)) fun t H12 ht e12 g12 => ⟨[.tuple []], .cons (.tup (st_of g12) .nil) .nil, by decide, by decide, rfl, fun x H13 e13 I13 => ⟨by show 10 ≤ sizeLine; decide, fun q hq => ?_⟩⟩))
    have E13 := (e12.trans e13).trans (Ex.new (o := .lst [.bl true, .int 1000000000000, .int (-1000000000000), .str "Ann", .str "a b", .str "toolongaa", .str "--", .ref d1, .ref l1, .ref x]) hq)
    have nxr : x ≠ r := fun z => by
      obtain ⟨dx, fs, q1, ws, hx, _⟩ := I13.ob
      obtain ⟨o, ho, _⟩ := (R11.ex (e12.trans e13)).at_
      obtain ⟨_, _, _, h1, _⟩ := R11.ex (e12.trans e13)
      rw [z, h1] at hx
      cases hx
    have R14 := R11.ex E13
    have nqr := ((R11.ex (e12.trans e13)).off hq).1
    refine ⟨q, _, 4000, rfl, R14, by decide, sq_of upd_same, nqr, by show 0 < 10; decide, by show 10 < 100000; decide, fun j v H15 hv b15 R15 => ?_⟩
    have odd : OddV K H15 v := by
      have hm := List.mem_of_getElem? hv
      simp only [List.mem_cons, List.not_mem_nil, or_false] at hm
      rcases hm with rfl | rfl | rfl | rfl | rfl | rfl | rfl | rfl | rfl | rfl
      · exact ⟨.bool true, .bl true, odd_single rfl rfl, rfl, by decide⟩
      · exact ⟨.int 1000000000000, .int _, odd_single rfl (by decide), rfl, by decide⟩
      · exact ⟨.int (-1000000000000), .int _, odd_single rfl (by decide), rfl, by decide⟩
      · exact ⟨.str "Ann", .str _ (by decide +kernel), odd_single rfl (by decide +kernel), rfl, by decide⟩
      · exact ⟨.str "a b", .str _ (by decide +kernel), odd_single rfl (by decide +kernel), rfl, by decide⟩
      · exact ⟨.str "toolongaa", .str _ (by decide +kernel), odd_single rfl (by decide +kernel), rfl, by decide⟩
      · exact ⟨.str "--", .str _ (by decide +kernel), odd_single rfl (by decide +kernel), rfl, by decide⟩
      · exact ⟨.dict [], .emp (b15 _ _ n1 (E13 _ _ g1)), odd_single rfl rfl, rfl, by decide⟩
      · refine ⟨.list [.dict []], .lst (sq_of (b15 _ _ n3 (E13 _ _ g3))) (.cons (.emp (b15 _ _ n2 (E13 _ _ g2))) .nil), fun n => ?_, rfl, by decide⟩
        cases n with
        | zero => rfl
        | succ n =>
          show (toldAt n (.dict []) && true) = false
          rw [odd_single (d := .dict []) rfl rfl n]
          rfl
      · obtain ⟨dx, fs, q1, ws, hx, _, hp, _⟩ := I13.ob
        exact ⟨.dict [(.none, .none)], pap_obj F.F L.obj (b15 _ _ nxr ((Ex.new (o := .lst [.bl true, .int 1000000000000, .int (-1000000000000), .str "Ann", .str "a b", .str "toolongaa", .str "--", .ref d1, .ref l1, .ref x]) hq) _ _ hx)) (by rw [hp]; rfl), odd_single rfl rfl, rfl, by decide⟩
    refine @a_one _ _ _ _ _ (eX_evu (evu_tup ea_nil (Nat.zero_le _)) fun dp H16 hdp e16 g16 => ?_) rfl
    exact ⟨_, _, rfl, v, dp, rfl, R15.ex e16, odd.ex e16, g16⟩
  obtain ⟨v, dp, rfl, R3, hv, hdp⟩ := hM
  -- for turn in range(8): deep = (deep,)
  refine b_mid (fun σ' H' => ∃ o2 dp, σ' = [some (.ref a), some (.ref r), o2, some v, some (.ref dp), none, none, none] ∧ RopeO H' r c 4001 ∧ OddV K H' v ∧ Ur K H' (.ref dp) (deepD 8)) ?_ fun σ4 H4 hM => ?_
  · refine s_forRange 2 (eX_ev (v := .int 8) ev_int fun H4 e4 => ⟨8, fun i σ' H' => ∃ o2 dp, σ' = [some (.ref a), some (.ref r), o2, some v, some (.ref dp), none, none, none] ∧ RopeO H' r c 4001 ∧ OddV K H' v ∧ Ur K H' (.ref dp) (deepD i), rfl, by decide, by decide, ⟨o2, dp, rfl, R3.ex e4, hv.ex e4, .tup (st_of (e4 _ _ hdp)) .nil⟩, fun i σ' H6 hi hv6 => ?_, fun σ' H6 hv6 => hv6⟩) (F.T.f "range") (passes_of rfl) nd
    obtain ⟨o2', dp', rfl, R6, hv', hd⟩ := hv6
    refine b_one (s_set 4 (eX_evu (evu_tup (ea_cons (x := .ref dp') (ev_name 4 rfl) ea_nil) (by show 1 ≤ 100000; decide)) fun t H7 ht e7 g7 => ⟨_, t, rfl, R6.ex e7, hv'.ex e7, .tup (st_of g7) (.cons (hd.ext e7) .nil)⟩) nd)
  obtain ⟨o2', dp', rfl, R4, hv4, hd4⟩ := hM
  exact k r c 4001 o2' v dp' H4 (by decide) R4 hv4 hd4
end
end K96

set_option Elab.async false
set_option linter.all false
set_option maxRecDepth 100000
set_option maxHeartbeats 1000000
/-! Constant data, written. -/
namespace K96
open PySem PySem.Spec PyProof.Rows L2 Evl TL
mutual
/-- an expression that writes data -/
inductive CD (X : Cx) : Expr → PyData → Prop
  | int {i : Int} {j : Nat} {p : Pos} : CD X (.Constant (.int i) j p) (.int i)
  | str {s : Str} {j : Nat} {p : Pos} (h : s.length ≤ 100000) : CD X (.Constant (.str s) j p) (.str s)
  | non {j : Nat} {p : Pos} : CD X (.Constant .none j p) .none
  | bl {b : Bool} {j : Nat} {p : Pos} : CD X (.Constant (.bool b) j p) (.bool b)
  | p12 {j1 j2 : Nat} {p1 p2 p3 : Pos} : CD X (.BinOp (.Constant (.int 10) j1 p1) .Pow (.Constant (.int 12) j2 p2) p3) (.int 1000000000000)
  | tup {es : List Expr} {ds : List PyData} {k : Nat} {p : Pos} (h : CDs X es ds) (hl : ds.length ≤ 1000) : CD X (.Tuple es k p) (.tuple ds)
  | lst {es : List Expr} {ds : List PyData} {p : Pos} (h : CDs X es ds) (hl : ds.length ≤ 1000) : CD X (.List es p) (.list ds)
inductive CDs (X : Cx) : List Expr → List PyData → Prop
  | nil : CDs X [] []
  | cons {e : Expr} {es : List Expr} {d : PyData} {ds : List PyData} (h : CD X e d) (r : CDs X es ds) (hs : starEach (e :: es) X.env = (false, eval e X.env) :: starEach es X.env) : CDs X (e :: es) (d :: ds)
end
theorem small1000 {n : Nat} (h : n ≤ 1000) : n ≤ sizeLine := Nat.le_trans h (by decide)
mutual
theorem e_data {X : Cx} : ∀ {e : Expr} {d : PyData}, CD X e d → ∀ {σ : Sg} {H : Hp} {Q : VK}, (∀ v H', Ex H H' → Ur X.K H' v d → Q v H') → eX X e σ H Q
  | _, _, .int, σ, H, Q, q => eX_ev ev_int fun H1 e1 => q _ H1 e1 (.int _)
  | _, _, .str h, σ, H, Q, q => eX_ev ev_str fun H1 e1 => q _ H1 e1 (.str _ h)
  | _, _, .non, σ, H, Q, q => eX_ev ev_non fun H1 e1 => q _ H1 e1 .non
  | _, _, .bl, σ, H, Q, q => eX_ev (ev_of pe_bl ev_c) fun H1 e1 => q _ H1 e1 (.bl _)
  | _, _, .p12, σ, H, Q, q => eX_ev (v := .int 1000000000000) (ev_bin op_pow ev_int ev_int (rv_I (powB (by decide) (by decide) _ (by decide) (by decide)))) fun H1 e1 => q _ H1 e1 (.int _)
  | _, _, .tup h hl, σ, H, Q, q => e_tup (a_data h fun vs H1 e1 u => ⟨small1000 (by rw [u.len]; exact hl), fun p hp => q _ _ (e1.trans (Ex.new hp)) (.tup (st_of upd_same) (u.ext (Ex.new hp)))⟩)
  | _, _, .lst h hl, σ, H, Q, q => e_lst (a_data h fun vs H1 e1 u => ⟨small1000 (by rw [u.len]; exact hl), fun p hp => q _ _ (e1.trans (Ex.new hp)) (.lst (sq_of upd_same) (u.ext (Ex.new hp)))⟩)
theorem a_data {X : Cx} : ∀ {es : List Expr} {ds : List PyData}, CDs X es ds → ∀ {σ : Sg} {H : Hp} {Q : List V → Hp → Prop}, (∀ vs H', Ex H H' → UrAll X.K H' vs ds → Q vs H') → aX X es σ H Q
  | _, _, .nil, σ, H, Q, q => a_nil (q [] H (Ex.refl H) .nil)
  | _, _, .cons h r hs, σ, H, Q, q => a_cons (e_data h fun v H1 e1 u => a_data r fun vs H2 e2 us => q (v :: vs) H2 (e1.trans e2) (.cons (u.ext e2) us)) hs
end
mutual
/-- no list has three items, no other object -/
def no3 : PyData → Bool
  | .list xs => !decide (xs.length = 3) && no3L xs
  | .tuple xs => no3L xs
  | .dict _ => false
  | _ => true
def no3L : List PyData → Bool
  | [] => true
  | x :: xs => no3 x && no3L xs
end
mutual
theorem Ur.but {K : Fr} {H H' : Hp} {r : Addr} {x y z : V} (hr : H r = some (.lst [x, y, z])) (b : But r H H') : ∀ {v : V} {d : PyData}, no3 d = true → Ur K H v d → Ur K H' v d
  | _, _, _, .non => .non
  | _, _, _, .bl c => .bl c
  | _, _, _, .int i => .int i
  | _, _, _, .str s h => .str s h
  | _, _, n, .tup h a => .tup ((tupK_but b hr rfl) _ _ h) (UrAll.but hr b n a)
  | .ref q, .list ds, n, .lst h a => .lst (by
      obtain ⟨n1, n2⟩ := Bool.and_eq_true_iff.mp (show (!decide (ds.length = 3) && no3L ds) = true from n)
      have hl := a.len
      have n3 : ¬ ds.length = 3 := by simpa using n1
      rcases h with (h | ⟨o, h⟩) | h
      · refine .inl (.inl (b _ _ (fun e => ?_) h))
        rw [e, hr] at h
        cases h
        exact n3 hl.symm
      · refine .inl (.inr ⟨o, b _ _ (fun e => ?_) h⟩)
        rw [e, hr] at h
        cases h
      · exact .inr h) (UrAll.but hr b (Bool.and_eq_true_iff.mp (show (!decide (ds.length = 3) && no3L ds) = true from n)).2 a)
  | _, _, n, .emp h => absurd n (by intro z; cases z)
  | _, _, n, .obj h q v => absurd n (by intro z; cases z)
theorem UrAll.but {K : Fr} {H H' : Hp} {r : Addr} {x y z : V} (hr : H r = some (.lst [x, y, z])) (b : But r H H') : ∀ {vs : List V} {ds : List PyData}, no3L ds = true → UrAll K H vs ds → UrAll K H' vs ds
  | _, _, _, .nil => .nil
  | _, _, n, .cons h a => .cons (Ur.but hr b (Bool.and_eq_true_iff.mp n).1 h) (UrAll.but hr b (Bool.and_eq_true_iff.mp n).2 a)
end
/-- _law_one of written data -/
theorem e_oneD {X : Cx} {j : Nat} {es : List Expr} {ds : List PyData} {a : Expr} {p p2 pos : Pos} {σ : Sg} {H : Hp} {Q : VK} {r c : Addr} {n : Nat} (co : Cl X.prog X.w X.K X.mg X.base CX0 2 "_law_one" (spOne X.K)) (hr : Room j X.A) (hk : 2 ≤ j) (ha : EV X a σ H (.ref r)) (hR : RopeO H r c n) (hn : n < 10000) (hd : CDs X es ds) (h0 : 0 < ds.length) (h1 : ds.length ≤ 1000) (h3 : no3L ds = true)
    (q : ∀ v d H', d ∈ ds → But r H H' → RopeO H' r c (n + 1) → Ur X.K H' v d → Q v H')
    (hg : Gl X ("_law_one" : Str) := by rfl) (he : starEach [a, .List es p2] X.env = (false, eval a X.env) :: starEach [.List es p2] X.env := by rfl) (he2 : starEach [.List es p2] X.env = (false, eval (.List es p2) X.env) :: starEach [] X.env := by rfl) (hpl : (backTo pos (starEach [.List es p2] X.env)).any (·.1) = false := by rfl) :
    eX X (.Call (.Name "_law_one" p) [a, .List es p2] [] pos) σ H Q := by
  refine e_one (r := r) (c := c) co hr hk ha (fun H1 e1 => ?_) hg he he2 hpl
  refine e_lst (a_data hd fun vs H2 e2 u => ⟨small1000 (by rw [u.len]; exact h1), fun t ht => ?_⟩)
  have E2 := e1.trans e2
  have E3 := E2.trans (Ex.new (o := .lst vs) ht)
  have hl := u.len
  refine ⟨t, vs, n, rfl, hR.ex E3, by omega, sq_of upd_same, ((hR.ex E2).off ht).1, by omega, by omega, fun i v H4 hv b4 R4 => ?_⟩
  obtain ⟨d, hdi, hud⟩ := u.at hv
  have hm := List.mem_of_getElem? hdi
  obtain ⟨cs, a1, rest, hrr, _⟩ := hR.ex E3
  have n3 : no3 d = true := by
    have key : ∀ l : List PyData, no3L l = true → ∀ d ∈ l, no3 d = true := fun l => by
      induction l with
      | nil => exact fun _ d h => nomatch h
      | cons x l ih =>
        intro h d hd
        obtain ⟨p1, p2⟩ := Bool.and_eq_true_iff.mp (show (no3 x && no3L l) = true from h)
        rcases List.mem_cons.mp hd with rfl | hd
        · exact p1
        · exact ih p2 d hd
    exact key ds h3 d hm
  exact q v d H4 hm ((ebut E3).trans b4) R4 ((hud.ext (Ex.new ht)).but hrr b4 n3)
end K96

set_option Elab.async false
set_option linter.all false
set_option maxRecDepth 100000
set_option maxHeartbeats 1000000
/-! The law: its end. -/
namespace K96
open PySem PySem.Spec PyProof.Rows L2 Evl TL
def askL : List PyData := [.tuple [.str "bears", .int 1], .tuple [.str "firm", .str "Ann", .str "a"], .tuple [.str "settled", .tuple [.int 0, .str "ann"], .tuple [.int 1, .str "ann"], .tuple [], .tuple []], .tuple [.str "waits", .tuple [.int 1, .str "ann"], .tuple [.int 1, .str "ann"], .tuple [.int 1, .int 0], .tuple []], .tuple [.str "odd"], .tuple [], .none, .list [.str "bears"], .str "bears",
  .tuple [.str "acts", .tuple [.int 1, .str "ann"], .tuple [.int 1, .str "ann"], .str "ann", .tuple [.str "ben", .str "ben"]], .tuple [.str "frozen", .tuple [.int 1, .str "ann"], .tuple [.int 1, .str "ann"], .bool true, .tuple []], .tuple [.str "value", .tuple [.int 1, .str "ann"], .tuple [.int 1, .str "ann"], .str "a", .int 1000000000000, .tuple []], .tuple [.str "stays", .list [.int 1, .str "ann"], .tuple [.int 1, .str "ann"], .tuple []]]
theorem askL_no : ∀ d ∈ askL, questD d = false ∧ szD d ≤ 4000 := by decide +kernel
theorem askL_3 : no3L askL = true := by decide +kernel
def noneL : List PyData := [.none, .int 5, .list [.str "bears"], .tuple [.str "bears"], .bool true]
theorem noneL_no : ∀ d ∈ noneL, tagD d ≠ "str" := by decide +kernel
theorem noneL_3 : no3L noneL = true := by decide +kernel
theorem Ur.nostr {K : Fr} {H : Hp} {v : V} {d : PyData} (h : Ur K H v d) (n : tagD d ≠ "str") : ∀ t, v ≠ .str t := fun t e => by
  cases h with
  | str x hx => exact n rfl
  | _ => cases e
def pap7 : PyData := .list (List.replicate 7 (.str "paper"))
theorem pap7_sh : SeqAt.shaped pap7 = true := by
  have h1 : PyData.strOk "paper" = true := by decide +kernel
  unfold SeqAt.shaped pap7
  simp only [List.replicate, PyData.canLay0, PyData.canLayAll0, PyData.depth, PyData.depthAll, h1]
  rfl
def zero2 : PyData := .list [.tuple [.int 0, .int 0], .tuple [.int 0, .int 0]]
theorem zero2_sh : SeqAt.shaped zero2 = true := by
  unfold SeqAt.shaped zero2
  simp only [PyData.canLay0, PyData.canLayAll0, PyData.depth, PyData.depthAll]
  rfl
theorem reps_dp {K : Fr} {H : Hp} {z : Str} : ∀ n : Nat, DpAll K H (List.replicate n (V.str z)) (List.replicate n (PyData.str z))
  | 0 => .nil
  | n + 1 => .cons (.str _) (reps_dp n)
mutual
theorem fixed_sz : ∀ d : PyData, szD (fixedD d) = szD d
  | .tuple xs => by
    show 1 + szL (fixedL xs) = 1 + szL xs
    rw [fixed_szL xs]
  | .list xs => by
    show 1 + szL (fixedL xs) = 1 + szL xs
    rw [fixed_szL xs]
  | .none => rfl
  | .bool _ => rfl
  | .int _ => rfl
  | .str _ => rfl
  | .dict _ => rfl
theorem fixed_szL : ∀ xs : List PyData, szL (fixedL xs) = szL xs
  | [] => rfl
  | x :: xs => by
    show szD (fixedD x) + szL (fixedL xs) = szD x + szL xs
    rw [fixed_sz x, fixed_szL xs]
end
theorem fixed_le (d : PyData) (n : Nat) (h : szD d ≤ n) : szD (fixedD d) ≤ n := by rw [fixed_sz]; exact h
theorem deep_plain : ∀ n, plainD (deepD n) = true
  | 0 => rfl
  | n + 1 => by
    show (plainD (deepD n) && true) = true
    rw [deep_plain n]
    rfl
section
variable {P : Program} {w : World} {K : Fr} {mg : Str → Option Value} {base : Heap} {A : Adr} {fe : Addr} {kP kQ : Nat}
/-- answered of what is no text -/
theorem ans_none {k : Nat} {f : Addr} {H : Hp} {Q : VK} {E : XK} {v : V} {d : PyData} (hF : FnV P w K mg base k f (spReadP A K)) (hu : Ur K H v d) (hd : tagD d ≠ "str") (q : ∀ p H', Ex H H' → H' p = some (.tup [.int 0, .int 0]) → Q (.ref p) H') : spAns P w K mg base A k [.ref f, v] H Q E :=
  ⟨f, _, v, rfl, hF, fun H1 e1 Q1 E1 _ q2 => ⟨v, _, rfl, (hu.ext e1).vt, fun t ht => absurd ht (hu.nostr hd t), fun _ d' H' _ e hx => q2 d' 0 0 H' hx fun p H3 _ e3 h3 => q p H3 ((e1.trans e).trans e3) h3⟩⟩
theorem ans_noneQ {k : Nat} {f : Addr} {H : Hp} {Q : VK} {E : XK} {v : V} {d : PyData} (hF : FnV P w K mg base k f (spReadQ A K)) (hu : Ur K H v d) (hd : tagD d ≠ "str") (q : ∀ p H', Ex H H' → H' p = some (.tup [.int 0, .int 0]) → Q (.ref p) H') : spAns P w K mg base A k [.ref f, v] H Q E :=
  ⟨f, _, v, rfl, hF, fun H1 e1 Q1 E1 _ q2 => ⟨v, _, rfl, (hu.ext e1).vt, fun t ht => absurd ht (hu.nostr hd t), fun _ d' H' _ e hx => q2 d' 0 0 H' hx fun p H3 _ e3 h3 => q p H3 ((e1.trans e).trans e3) h3⟩⟩
theorem law_tail (L : LF P w K mg base A fe kP kQ) {f : Addr} {cdv : Value} {Ar : Around} {outer : List Env} {s : Shared} {H0 : Hp} {E : XK} (hr : Room 44 (Ar.deeper (envOfC d_law.qual d_law.scope s.heap.objs.size f cdv)))
    {a r c dp : Addr} {n : Nat} {o2 : Option V} {v : V} {H : Hp} {D : Ends} (hn : n ≤ 4001) (hR : RopeO H r c n) (hv : OddV K H v) (hd : Ur K H (.ref dp) (deepD 8)) (k : ∀ H', D.rt (.bl true) H') :
    bX (xL P w K mg base f cdv Ar outer s H0 E) (d_law.body.drop 4) D [some (.ref a), some (.ref r), o2, some v, some (.ref dp), none, none, none] H := by
  have nd := sc_law.nd
  have hu := hu_of hr
  have F := L.R
  obtain ⟨fPt, gPt, hPt⟩ := F.pt.fnv
  obtain ⟨fQt, gQt, hQt⟩ := F.qt.fnv
  obtain ⟨fP, gP, hP⟩ := F.rp.fnv
  obtain ⟨fQ, gQ, hQ⟩ := F.rq.fnv
  obtain ⟨fdE, FE, bE⟩ := F.eq
  obtain ⟨d, hdu, hdt, hdd, hdz⟩ := hv
  -- if [..] != ['paper'] * 7
  refine b_mid (fun σ' H' => σ' = [some (.ref a), some (.ref r), o2, some v, some (.ref dp), none, none, none] ∧ Ex H H') ?_ fun σ1 H1 hM => ?_
  · have hkc : ("comes" : Str) ∈ partsTab.map (·.1) := by decide +kernel
    have hkw : ("waits" : Str) ∈ partsTab.map (·.1) := by decide +kernel
    have t10 : [fixedD d].all (toldAt 10) = false := by
      show (toldAt 10 (fixedD d) && true) = false
      rw [hdt 10]
      rfl
    have tW : [PyData.tuple [], PyData.tuple [fixedD d]].all (toldAt 10) = false := by
      show (true && ((toldAt 9 (fixedD d) && true) && true)) = false
      rw [hdt 9]
      rfl
    have fz : szD (fixedD d) ≤ 5 := fixed_le d 5 hdz
    have d12 : [d].all (deepAt 12) = true := by
      show (deepAt 12 d && true) = true
      rw [deepAt_mono 5 12 d (by decide) hdd]
      rfl
    have dW : [PyData.tuple [], PyData.list [d]].all (deepAt 12) = true := by
      show (true && ((deepAt 11 d && true) && true)) = true
      rw [deepAt_mono 5 11 d (by decide) hdd]
      rfl
    have szd : szL [d] < 100000 := by
      show szD d + 0 < 100000
      omega
    have szW : szL [PyData.tuple [], PyData.list [d]] < 100000 := by
      show 1 + ((1 + (szD d + 0)) + 0) < 100000
      omega
    have f10 : fixedL [deepD 10] = [deepD 10] := fixedL_plain _ (by
      show (plainD (deepD 10) && true) = true
      rw [deep_plain]
      rfl)
    refine s_ifX (tX_of (pt_cmpR (op_neD hr.units) pe_X pe_X (by first | rfl | exact nomark _)) ?_)
    refine eX_of (pe_lc (own := [("one", 7)]) (tt := tYes) (te := eB _ _ _) (g := gName 7) rfl nd (pi_list pe_X) (blkOk_by (N := lN) (sc := defScope s_law) (by decide +kernel)) (fun _ _ _ _ _ => pg_name nd rfl (Or.inl rfl)) (fun _ _ _ _ _ => pts_nil) (fun s H C cl fp => ⟨fun pins s1 σ1 H2 Q1 I h => h s H C cl fp pins s1 I⟩) (fun _ => rfl)) ?_
    refine (show eX _ _ _ _ _ from @e_lst _ _ _ _ _ _ ?_)
    -- Comes(odd)
    refine @a_cons _ _ _ _ _ _ ?_ rfl
    refine e_papE L.paps (nm := "Comes") (z := "comes") (c := 1) (by decide +kernel) hr (by decide) (a_one (eX_ev (v := v) (ev_name 3 rfl) fun H1 e1 => ⟨[d], .cons (hdu.ext e1) .nil, d12, szd, rfl, fun x1 H2 e2 I1 => ?_⟩))
    have r1 : RefV K A H2 (.ref x1) := pap_ref F.F hkc I1 (by show szD (fixedD d) + 0 ≤ 40000; omega) t10
    have E2 := e1.trans e2
    -- Waits((), [odd])
    refine @a_cons _ _ _ _ _ _ ?_ rfl
    refine e_papE L.paps (nm := "Waits") (z := "waits") (c := 2) (by decide +kernel) hr (by decide) (a_cons (eX_evu (evu_tup ea_nil (Nat.zero_le _)) fun t3 H3 ht3 e3 g3 => a_one (e_lst (a_one (eX_ev (v := v) (ev_name 3 rfl) fun H4 e4 => ⟨by show 1 ≤ sizeLine; decide, fun l4 hl4 => ?_⟩)))))
    have X4 : Ex H4 (L2.upd H4 l4 (.lst [v])) := Ex.new hl4
    have E4 := (E2.trans e3).trans (e4.trans X4)
    refine ⟨[.tuple [], .list [d]], .cons (.tup (st_of ((e4.trans X4) _ _ g3)) .nil) (.cons (.lst (sq_of upd_same) (.cons (hdu.ext E4) .nil)) .nil), dW, szW, rfl, fun x2 H5 e5 I2 => ?_⟩
    have r2 : RefV K A H5 (.ref x2) := pap_ref F.F hkw I2 (by show 1 + ((1 + (szD (fixedD d) + 0)) + 0) ≤ 40000; omega) tW
    have E5 := E4.trans e5
    have F5 : Ex H2 H5 := (e3.trans (e4.trans X4)).trans e5
    -- Comes(((deep,),))
    refine @a_cons _ _ _ _ _ _ ?_ rfl
    refine e_papE L.paps (nm := "Comes") (z := "comes") (c := 1) (by decide +kernel) hr (by decide) (a_one (e_tup (a_one (eX_evu (evu_tup (ea_cons (x := .ref dp) (ev_name 4 rfl) ea_nil) (by show 1 ≤ 100000; decide)) fun t6 H6 ht6 e6 g6 => ⟨by show 1 ≤ sizeLine; decide, fun t7 ht7 => ?_⟩))))
    have X6 : Ex H6 (L2.upd H6 t7 (.tup [.ref t6])) := Ex.new ht7
    refine ⟨[deepD 10], .cons (.tup (st_of upd_same) (.cons (.tup (st_of (X6 _ _ g6)) (.cons (hd.ext (E5.trans (e6.trans X6))) .nil)) .nil)) .nil, by decide +kernel, by decide +kernel, rfl, fun x3 H7 e7 I3 => ?_⟩
    rw [f10] at I3
    have r3 : RefV K A H7 (.ref x3) := pap_ref F.F hkc I3 (by decide +kernel) (by decide +kernel)
    have F7 : Ex H5 H7 := (e6.trans X6).trans e7
    -- Paper('comes', ())
    refine @a_cons _ _ _ _ _ _ ?_ rfl
    refine e_make (E := E0) L.pap hr (by decide) pass0 (a_cons (eX_ev (v := .str "comes") ev_str fun H8 e8 => a_one (eX_evu (evu_tup ea_nil (Nat.zero_le _)) fun t9 H9 ht9 e9 g9 => fun x4 dx4 hx4 hdx4 hne4 => bare_made L.kp hx4 hdx4 hne4 (ds := [.tuple []]) (.cons (.tup (st_of g9) .nil) .nil) (by decide) (by decide) fun H10 e10 I4 => ?_)))
    have r4 : RefV K A H10 (.ref x4) := bare_ref L.bp L.tp L.kp I4 (by decide) (by decide +kernel)
    have F10 : Ex H7 H10 := (e8.trans e9).trans e10
    -- Denial('idle', 1, 2)
    refine @a_cons _ _ _ _ _ _ ?_ rfl
    refine e_make (E := E0) L.den hr (by decide) pass0 (a_cons (eX_ev (v := .str "idle") ev_str fun H11 e11 => a_cons (eX_ev (v := .int 1) ev_int fun H12 e12 => a_one (eX_ev (v := .int 2) ev_int fun H13 e13 => fun x5 dx5 hx5 hdx5 hne5 => bare_made L.kd hx5 hdx5 hne5 (ds := [.int 1, .int 2]) (.cons (.int _) (.cons (.int _) .nil)) (by decide) (by decide) fun H14 e14 I5 => ?_))))
    have r5 : RefV K A H14 (.ref x5) := bare_ref L.bd L.td L.kd I5 (by decide) (by decide +kernel)
    have F14 : Ex H10 H14 := ((e11.trans e12).trans e13).trans e14
    -- None, [odd]
    refine @a_cons _ _ _ _ _ _ ?_ rfl
    refine eX_ev (v := .non) ev_non fun H15 e15 => ?_
    refine @a_one _ _ _ _ _ ?_ rfl
    refine e_lst (a_one (eX_ev (v := v) (ev_name 3 rfl) fun H16 e16 => ⟨by show 1 ≤ sizeLine; decide, fun l7 hl7 => ⟨by show 7 ≤ sizeLine; decide, fun q hq => ?_⟩⟩))
    have X16 : Ex H16 (L2.upd H16 l7 (.lst [v])) := Ex.new hl7
    have X17 : Ex (L2.upd H16 l7 (.lst [v])) (L2.upd (L2.upd H16 l7 (.lst [v])) q (.lst [.ref x1, .ref x2, .ref x3, .ref x4, .ref x5, .non, .ref l7])) := Ex.new hq
    have g7 := X17 _ _ (upd_same (H := H16) (a := l7) (o := .lst [v]))
    have gq := upd_same (H := L2.upd H16 l7 (.lst [v])) (a := q) (o := .lst [.ref x1, .ref x2, .ref x3, .ref x4, .ref x5, .non, .ref l7])
    have F17 : Ex H14 (L2.upd (L2.upd H16 l7 (.lst [v])) q (.lst [.ref x1, .ref x2, .ref x3, .ref x4, .ref x5, .non, .ref l7])) := ((e15.trans e16).trans X16).trans X17
    generalize L2.upd (L2.upd H16 l7 (.lst [v])) q (.lst [.ref x1, .ref x2, .ref x3, .ref x4, .ref x5, .non, .ref l7]) = Hb at g7 gq F17 ⊢
    have Eb : Ex H Hb := (((E5.trans F7).trans F10).trans F14).trans F17
    have all : ∀ u ∈ [V.ref x1, .ref x2, .ref x3, .ref x4, .ref x5, .non, .ref l7], RefV K A Hb u := fun u hu => by
      simp only [List.mem_cons, List.not_mem_nil, or_false] at hu
      rcases hu with rfl | rfl | rfl | rfl | rfl | rfl | rfl
      · exact r1.ex ((((F5.trans F7).trans F10).trans F14).trans F17)
      · exact r2.ex (((F7.trans F10).trans F14).trans F17)
      · exact r3.ex ((F10.trans F14).trans F17)
      · exact r4.ex (F14.trans F17)
      · exact r5.ex F17
      · exact no_ref L.nn (.base .non)
      · exact no_ref L.nl (.base (.lst g7))
    refine ⟨q, rfl, ⟨_, sq_of gq⟩, fun Dl hDl => ?_⟩
    refine lc_list (Pv := fun i H' => Ex Hb H' ∧ H' Dl = some (.lst (List.replicate i (V.str "paper"))) ∧ i ≤ 7) ⟨Ex.new hDl, upd_same, Nat.zero_le _⟩ (fun i H' _ hP => sq_of (hP.1 _ _ gq)) (fun i u H' hu hP => ?_) fun H' hP => ?_
    · obtain ⟨eP, lP, iP⟩ := hP
      have hi7 : i < 7 := (List.getElem?_eq_some_iff.mp hu).1
      refine (show _ ∧ _ from ⟨rfl, ?_⟩)
      unfold tYes
      refine iteT ?_
      intro s' H0' C cl fp
      refine e_cl2 (E := E0) L.refP hr (by decide) pass0 (eX_ev (v := .ref fPt) (ev_gl ⟨_, gPt, rfl⟩) fun H18 e18 => eX_ev (v := u) (ev_name 7 rfl) fun H19 e19 => ref_paper hPt ((all u (List.mem_of_getElem? hu)).ex (eP.trans (e18.trans e19))) fun H20 e20 => ?_)
      have E20 := (e18.trans e19).trans e20
      refine ⟨_, E20 _ _ lP, by rw [List.length_replicate]; exact Nat.lt_of_lt_of_le (by omega : i < 100) (by decide), Ex.mut (eP.trans E20) hDl, ?_, by omega⟩
      rw [upd_same, List.replicate_succ']
    · obtain ⟨eP, lP, _⟩ := hP
      refine (show eX _ _ _ _ _ from eX_of (pe_op op_rep pe_X pe_X) ?_)
      refine (show eX _ _ _ _ _ from eX_evl (evl_1 (v := .str "paper") ev_str) fun q1 Ha hq1 ea g1 => eX_ev (v := .int 7) ev_int fun Hc ec => ⟨q1, 7, _, rfl, rfl, ec _ _ g1, by decide, by decide, by show 1 * 7 ≤ sizeLine; decide, fun p3 hp3 => ?_⟩)
      have y := (ea.trans ec).trans (Ex.new (o := .lst (List.replicate (7 : Int).toNat [V.str "paper"]).flatten) hp3)
      refine ⟨pap7, pap7, .lst (sq_of (y _ _ lP)) (reps_dp 7), .lst (sq_of upd_same) (reps_dp 7), pap7_sh, pap7_sh, ?_⟩
      rw [SeqAt.eqv_refl _ (SeqAt.canLay_of_shaped pap7_sh)]
      exact ⟨false, rfl, iteF (b_nil ⟨rfl, Eb.trans (eP.trans y)⟩)⟩
  obtain ⟨rfl, e1⟩ := hM
  -- if read_paper(paper_text(Comes((deep,)))) != Comes((deep,))
  refine b_mid (fun σ' H' => σ' = [some (.ref a), some (.ref r), o2, some v, some (.ref dp), none, none, none] ∧ Ex H1 H') ?_ fun σ2 H2 hM => ?_
  · have hz : partsTab.lookup ("comes" : Str) = some [deepD 9].length := by decide +kernel
    have hk : ("comes" : Str) ∈ partsTab.map (·.1) := parts_key hz
    have ht : [deepD 9].all (toldAt 10) = true := by decide +kernel
    have hpl : plainL [deepD 9] = true := by
      show (plainD (deepD 9) && true) = true
      rw [deep_plain]
      rfl
    have hfx : fixedL [deepD 9] = [deepD 9] := fixedL_plain _ hpl
    have wIn := paper_in hz ht
    have o1 : (" " : Str).length = 1 := by decide +kernel
    have tl8 : (Txt.join " " (("comes" : Str) :: wordsL [deepD 9])).length ≤ 80000 := by
      have a1 := join_len o1 (("comes" : Str) :: wordsL [deepD 9])
      have a2 := in_size wIn (n := 100) (by decide +kernel)
      omega
    have rP := readP_words hz ht
    obtain ⟨KO, nm, NC⟩ := F.F.ok "comes" hk
    have psh : SeqAt.shaped (.tuple [deepD 9]) = true := told_shaped (n := 11) ht (by decide)
    have d9 : [deepD 9].all (deepAt 12) = true := by decide +kernel
    refine s_ifX (tX_of (pt_cmpR (op_neP FE bE pass0 (hr.mono (by decide))) pe_X pe_X (by first | rfl | exact nomark _)) ?_)
    refine e_cl1 (E := EF) F.rp.cl hr (by have := F.lP; omega) passF (e_cl1 (E := EF) F.pt.cl hr (by decide) passF (e_papE L.paps (nm := "Comes") (z := "comes") (c := 1) (by decide +kernel) hr (by decide) (a_one (eX_evu (evu_tup (ea_cons (x := .ref dp) (ev_name 4 rfl) ea_nil) (by show 1 ≤ 100000; decide)) fun t H2 ht2 e2 g2 => ⟨[deepD 9], .cons (.tup (st_of g2) (.cons (hd.ext (e1.trans e2)) .nil)) .nil, d9, by decide +kernel, rfl, fun x H3 e3 I3 => ?_⟩))))
    rw [hfx] at I3
    refine ptext_ok F.F hz I3 ht (by decide +kernel) fun H4 e4 => read_p rP tl8 fun x' H5 e5 I5 => ?_
    have E5 := (((e1.trans e2).trans e3).trans e4).trans e5
    refine (show eX _ _ _ _ _ from e_papE L.paps (nm := "Comes") (z := "comes") (c := 1) (by decide +kernel) hr (by decide) (a_one (eX_evu (evu_tup (ea_cons (x := .ref dp) (ev_name 4 rfl) ea_nil) (by show 1 ≤ 100000; decide)) fun t6 H6 ht6 e6 g6 => ⟨[deepD 9], .cons (.tup (st_of g6) (.cons (hd.ext (E5.trans e6)) .nil)) .nil, d9, by decide +kernel, rfl, fun y H7 e7 I7 => ?_⟩)))
    rw [hfx] at I7
    have X7 := (((e2.trans e3).trans e4).trans e5).trans (e6.trans e7)
    exact ⟨x', y, rfl, rfl, ⟨A.pap "comes", "comes", [deepD 9], nm, .ref (A.pap "comes"), I5.ext (e6.trans e7), I7, hpl, psh, KO, NC, F.F.ty hk I7, (F.F.pt "comes" hk).1⟩, fun H8 e8 => ⟨false, rfl, iteF (b_nil ⟨rfl, X7.trans e8⟩)⟩⟩
  obtain ⟨rfl, e2⟩ := hM
  have R2 := hR.ex (e1.trans e2)
  -- ask = ..
  refine b_mid (fun σ' H' => ∃ va da, σ' = [some (.ref a), some (.ref r), o2, some v, some (.ref dp), some va, none, none] ∧ da ∈ askL ∧ Ur K H' va da ∧ no3 da = true ∧ RopeO H' r c (n + 1)) ?_ fun σ3 H3 hM => ?_
  · refine @s_set _ _ _ _ _ _ _ _ 5 ?_ nd rfl (Or.inl rfl) (.inl rfl) rfl rfl rfl
    refine @e_oneD _ _ _ askL _ _ _ _ _ _ _ r c n F.co hr (by decide) (ev_name 1 rfl) R2 (by omega) ?_ (by decide) (by decide) askL_3 (fun va da H3 hm b3 R3 u3 => ?_) rfl rfl rfl rfl
    · repeat' (first | exact CDs.nil | exact CD.int | exact CD.str (by decide +kernel) | exact CD.non | exact CD.bl | exact CD.p12 | refine CD.tup ?_ (by decide) | refine CD.lst ?_ (by decide) | refine CDs.cons ?_ ?_ rfl)
    · have n3 : no3 da = true := by
        have key : ∀ d ∈ askL, no3 d = true := by decide +kernel
        exact key da hm
      exact ⟨va, da, rfl, hm, u3, n3, R3⟩
  obtain ⟨va, da, rfl, hda, hua, na3, R3⟩ := hM
  -- none = ..
  refine b_mid (fun σ' H' => ∃ vn dn, σ' = [some (.ref a), some (.ref r), o2, some v, some (.ref dp), some va, some vn, none] ∧ dn ∈ noneL ∧ Ur K H' vn dn ∧ Ur K H' va da) ?_ fun σ4 H4 hM => ?_
  · refine @s_set _ _ _ _ _ _ _ _ 6 ?_ nd rfl (Or.inl rfl) (.inl rfl) rfl rfl rfl
    refine @e_oneD _ _ _ noneL _ _ _ _ _ _ _ r c (n + 1) F.co hr (by decide) (ev_name 1 rfl) R3 (by omega) ?_ (by decide) (by decide) noneL_3 (fun vn dn H4 hm b4 R4 u4 => ?_) rfl rfl rfl rfl
    · repeat' (first | exact CDs.nil | exact CD.int | exact CD.str (by decide +kernel) | exact CD.non | exact CD.bl | exact CD.p12 | refine CD.tup ?_ (by decide) | refine CD.lst ?_ (by decide) | refine CDs.cons ?_ ?_ rfl)
    · obtain ⟨cs, a1, rest, hrr, _⟩ := R3
      exact ⟨vn, dn, rfl, hm, u4, hua.but hrr b4 na3⟩
  obtain ⟨vn, dn, rfl, hdn, hun, hua⟩ := hM
  obtain ⟨q1, q2⟩ := askL_no da hda
  -- return ..
  refine b_one (s_ret (v := .bl true) (ev_is (ev_and (k := true) (l := true) (fun H5 e5 Q q => ?_) fun _ => ev_one fun H5 e5 Q q => ?_) rfl) fun H5 e5 => k H5)
  · refine eX_of (pe_cmpR op_eq pe_X pe_X (by first | rfl | exact nomark _)) (e_cl2 (E := E0) L.refP hr (by decide) pass0 (eX_ev (v := .ref fQt) (ev_gl ⟨_, gQt, rfl⟩) fun H6 e6 => eX_ev (v := va) (ev_name 5 rfl) fun H7 e7 => ref_quest hQt (hua.ext (e5.trans (e6.trans e7))) q1 q2 fun H8 e8 => (show eX _ _ _ _ _ from eX_ev (v := .str "question") ev_str fun H9 e9 => ⟨rfl, ?_⟩)))
    rw [decide_eq_true rfl]
    exact q H9 (((e6.trans e7).trans e8).trans e9)
  · refine eX_of (pe_cmpR (op_eqD hr.units) pe_X pe_X (by first | rfl | exact nomark _)) ?_
    refine @e_lst _ _ _ _ _ _ ?_
    refine @a_cons _ _ _ _ _ _ ?_ rfl
    refine e_cl2 (E := E0) F.ansP hr (by have := F.lP; omega) pass0 (eX_ev (v := .ref fP) (ev_gl ⟨_, gP, rfl⟩) fun H6 e6 => eX_ev (v := vn) (ev_name 6 rfl) fun H7 e7 => ans_none hP (hun.ext (e5.trans (e6.trans e7))) (noneL_no dn hdn) fun t1 H8 e8 g8 => ?_)
    refine @a_one _ _ _ _ _ ?_ rfl
    have E8 := (e5.trans (e6.trans e7)).trans e8
    refine e_cl2 (E := E0) F.ansQ hr (by have := F.lQ; omega) pass0 (eX_ev (v := .ref fQ) (ev_gl ⟨_, gQ, rfl⟩) fun H9 e9 => eX_ev (v := vn) (ev_name 6 rfl) fun H10 e10 => ans_noneQ hQ (hun.ext (E8.trans (e9.trans e10))) (noneL_no dn hdn) fun t2 H11 e11 g11 => ⟨by show 2 ≤ sizeLine; decide, fun p hp => ?_⟩)
    have x1 : Ex H8 H11 := (e9.trans e10).trans e11
    have x2 : Ex H11 (L2.upd H11 p (.lst [.ref t1, .ref t2])) := Ex.new hp
    have gp := upd_same (H := H11) (a := p) (o := .lst [.ref t1, .ref t2])
    have gt1 := (x1.trans x2) _ _ g8
    have gt2 := x2 _ _ g11
    have X5 : Ex H5 (L2.upd H11 p (.lst [.ref t1, .ref t2])) := (((e6.trans e7).trans e8).trans x1).trans x2
    generalize L2.upd H11 p (.lst [.ref t1, .ref t2]) = H12 at gp gt1 gt2 X5 ⊢
    refine (show eX _ _ _ _ _ from eX_of (pe_op op_rep pe_X pe_X) ?_)
    refine (show eX _ _ _ _ _ from e_lst (a_one (eX_evu (evu_tup (ea_cons ev_int (ea_cons ev_int ea_nil)) (by show 2 ≤ 100000; decide)) fun t3 H13 ht3 e13 g13 => ⟨by show 1 ≤ sizeLine; decide, fun p2 hp2 => (show eX _ _ _ _ _ from eX_ev (v := .int 2) ev_int fun H14 e14 => ⟨p2, 2, _, rfl, rfl, e14 _ _ upd_same, by decide, by decide, by show 1 * 2 ≤ sizeLine; decide, fun p3 hp3 => ?_⟩)⟩)))
    have y1 : Ex H13 _ := Ex.new (o := .lst [.ref t3]) hp2
    have y2 := (y1.trans e14).trans (Ex.new (o := .lst (List.replicate (2 : Int).toNat [V.ref t3]).flatten) hp3)
    have y3 := e13.trans y2
    refine ⟨zero2, zero2, .lst (sq_of (y3 _ _ gp)) (.cons (pair_dp (y3 _ _ gt1)) (.cons (pair_dp (y3 _ _ gt2)) .nil)), .lst (sq_of upd_same) (.cons (pair_dp (y2 _ _ g13)) (.cons (pair_dp (y2 _ _ g13)) .nil)), zero2_sh, zero2_sh, ?_⟩
    rw [SeqAt.eqv_refl _ (SeqAt.canLay_of_shaped zero2_sh)]
    exact q _ (X5.trans y3)
end
end K96

set_option Elab.async false
set_option linter.all false
set_option maxRecDepth 100000
set_option maxHeartbeats 1000000
/-! The law; a law's end where no repr stands open. -/
namespace K96
open PySem PySem.Spec PyProof.Rows L2 Evl TL
theorem ok_law {P : Program} {w : World} {K : Fr} {mg : Str → Option Value} {base : Heap} {A : Adr} {fe : Addr} {kP kQ : Nat} (L : LF P w K mg base A fe kP kQ) {f : Addr} {fd : FuncData} (F : FunD K d_law.name d_law.qual d_law.params d_law.body d_law.scope [] [] f fd) : FnG P w K mg base CX0 45 f fd ["script"] (spLaw K) := by
  refine Df.fnG F sc_law (fun vs H Q E h => ?_) fun f cdv Ar outer s H vs Q E hg hr h => ⟨_, pb_X, ?_⟩
  · obtain ⟨a, ns, rfl, _⟩ := h
    rfl
  obtain ⟨a, ns, rfl, hs, k⟩ := h
  exact law_open L hg hr hs fun r c n o2 v dp H' hn R hv hd => law_tail L hr hn R hv hd fun H2 => k H2
/-- the law's promise at the heap behind the top, by a promise where no repr stands open -/
theorem law_callG {P : Program} {w : World} {K : Fr} {mg mb : Str → Option Value} {k : Nat} {fa a : Addr} {fd : FuncData} {x : Str} {sp : Sp} {s₁ : Shared} {vs : List Value} {ns : List Int}
    (KX : K.In s₁.heap) (hns : s₁.heap.Ns mainGlobals mg) (hb : s₁.heap.Ns builtinsNs mb) (hbb : ∀ x : Str, x ≠ "__name__" → mb x = bootBuiltins x) (hlim : s₁.heap.NoLimit) (hg : s₁.gens = #[])
    (ha : s₁.heap.get? a = some { cls := .type "list", data := .seq vs.toArray }) (hi : IntsAre vs ns) (hl : ns.length ≤ sizeLine) (hr : Room k callerA)
    (F : ∀ base : Heap, K.In base → base.Ns mainGlobals mg → FnG P w K mg base CX0 k fa fd [x] sp) (hbind : ∀ (s : Shared) (u : Value), BindsTo s fd ⟨[u], []⟩ [(x, u)])
    (hsp : ∀ H : Hp, Only H → SqL K H a (ns.map V.int) → sp [.ref a] H (fun v _ => v = .bl true) fun _ _ _ => False) :
    codeAny (model P w) callerA (.call (.ref fa) ⟨[.ref a], []⟩) (fun r s' => r = .ok (.ret (.bool true)) ∧ OldK s₁.heap s'.heap ∧ s'.os = s₁.os ∧ AllBare s'.gens) s₁ := by
  have rv := vals_ints hi
  have lenV := hi.length
  obtain ⟨H, hO, hS, hok, hA, hK⟩ : ∃ H : Hp, Only H ∧ SqL K H a (ns.map V.int) ∧ HOk P w H s₁.heap ∧ (∀ b, H b ≠ none → b = a) ∧ (H a ≠ none → K.lookup a = none) := by
    cases hk : K.lookup a with
    | some o =>
      have e := KX a o hk
      rw [ha] at e
      cases e
      exact ⟨fun _ => none, fun _ => .inl rfl, .inr ⟨_, vs.toArray, _, hk, rfl, rfl, rfl, by rw [List.size_toArray, lenV]; exact hl, by simpa using rv⟩, (fun b u z => by have z' : (none : Option HO) = some u := z; cases z'), fun b z => absurd rfl z, fun z => absurd rfl z⟩
    | none =>
      refine ⟨fun b => if b = a then some (.frz { cls := .type "list", data := .seq vs.toArray } (.lst (ns.map V.int))) else none, fun b => ?_, .inl (.inr ⟨{ cls := .type "list", data := .seq vs.toArray }, if_pos rfl⟩), fun b u z => ?_, fun b z => ?_, fun _ => rfl⟩
      · by_cases hb : b = a
        · exact .inr ⟨_, _, if_pos hb⟩
        · exact .inl (if_neg hb)
      · by_cases hb : b = a
        · have z' := (if_pos hb).symm.trans z
          cases z'
          subst hb
          exact ⟨ha, by rw [List.length_map]; exact hl, vs, _, rv, ha⟩
        · cases (if_neg hb).symm.trans z
      · by_cases hb : b = a
        · exact hb
        · exact absurd (if_neg hb) z
  have none_of : ∀ {b : Addr} {o : Obj}, s₁.heap.get? b = some o → (b = a → False) → H b = none := fun {b o} _ n => by
    cases q : H b with
    | none => rfl
    | some u => exact (n (hA b (by rw [q]; simp))).elim
  have noD : ∀ {b : Addr} {o : Obj} {es : Array DictEntry} {ep : Nat}, s₁.heap.get? b = some o → o.data = .dict es ep → H b = none := fun {b o es ep} e d => none_of e fun z => by
    rw [z, ha] at e
    cases e
    cases (show Data.seq vs.toArray _ = Data.dict es ep from d)
  have nsK : ∀ {b : Addr} {m : Str → Option Value}, s₁.heap.Ns b m → (hidT s₁.heap H).Ns b m := fun {b m} ⟨o, es, ep, e, d, r⟩ => ⟨o, es, ep, hidT_get e (noD e d), d, r⟩
  have hKb : K.In (hidT s₁.heap H) := fun b o e => hidT_get (KX b o e) (by
    cases q : H b with
    | none => rfl
    | some u =>
      have e' : b = a := hA b (by rw [q]; simp)
      rw [e'] at q e
      rw [hK (by rw [q]; simp)] at e
      cases e)
  have hM : Mod K mg (hidT s₁.heap H) := ⟨hKb, nsK hns, ⟨mb, nsK hb, hbb⟩, let ⟨mc, h1, h2⟩ := hlim; ⟨mc, nsK h1, h2⟩⟩
  have e0 : Env0 P w K mg (hidT s₁.heap H) callerA [] s₁ H := ⟨rfl, hM, fun b o e => of_hidT e, Nat.le_of_eq (hidT_size _ _), trivial, fun b hb => absurd (show b ∈ ([] : List Addr) from hb) (by simp), hok, .of_eq hg⟩
  refine codeAny_mono ((F _ hKb (nsK hns)).run callerA [] s₁ H ⟨[.ref a], []⟩ [.ref a] [.ref a] _ _ rfl hr e0 (hbind s₁ (.ref a)) (.cons rfl .nil) (hsp H hO hS)) fun r s' h => ?_
  cases r with
  | error e => exact False.elim h
  | ok fl =>
    cases fl with
    | next => exact False.elim h
    | brk => exact False.elim h
    | cont => exact False.elim h
    | ret u =>
      obtain ⟨v, H', os, bare, un, hok', r', q⟩ := h
      obtain rfl : v = .bl true := q
      obtain rfl : u = Value.bool true := r'
      refine ⟨rfl, OldK.of_keep fun b o e => ?_, os, bare⟩
      cases q : H b with
      | none => exact un.keep b o e q (fun z => absurd (show b ∈ ([] : List Addr) from z) (by simp)) (by simp)
      | some u =>
        rcases hO b with z | ⟨ob, xs, z⟩
        · rw [q] at z; cases z
        · obtain ⟨e1, _⟩ := hok b _ z
          obtain ⟨e2, _⟩ := hok' b _ (un.frzs b ob _ z)
          rw [e] at e1
          cases e1
          exact e2
theorem walk_ofG {l : PySem.W.OpenLaw} {n k : Nat} {q : Program} {loose : List Str} {XP : (Str → Option Value) → Heap → Prop} {YP : World → Heap → Prop} {d : DefRec} {x : Str}
    (hn : l.most = some n) (hn2 : n ≤ sizeLine) (hdf : d.params.defaults = []) (hr : Room k callerA)
    (F : ∀ (w : World) (mg : Str → Option Value) (fa : Addr) (h : Heap), YP w h → h.Ns mainGlobals mg → mg d.name = some (.ref fa) →
      ∃ (K : Fr) (fd : FuncData) (sp : Sp), K.In h ∧ (∀ (s : Shared) (u : Value), BindsTo s fd ⟨[u], []⟩ [(x, u)]) ∧
        (∀ (H : Hp) (a : Addr) (ns : List Int), ns.length ≤ n → Only H → SqL K H a (ns.map V.int) → sp [.ref a] H (fun v _ => v = .bl true) fun _ _ _ => False) ∧
        ∀ base : Heap, K.In base → base.Ns mainGlobals mg → FnG l.prog w K mg base CX0 k fa fd [x] sp) :
    PySem.W.WalkO q loose XP YP l.row.toRowW d [] (fun f vs => PySem.call f vs) := by
  refine Att.attach_call hn hdf fun w s₀ s₁ mg mb fa o pm cd doc a vs ns G Y ho hd hcd hmg hobj hints hlen hg => ?_
  obtain ⟨K, fd, sp, KX, hb, hsp, hF⟩ := F w mg fa _ Y G.T.g hmg
  exact law_callG KX G.T.g G.T.b G.T.builtins G.T.nolimit hg hobj hints (Nat.le_trans hlen hn2) hr hF hb fun H hO hS => hsp H a ns hlen hO hS
end K96

set_option Elab.async false
set_option linter.all false
set_option maxRecDepth 100000
set_option maxHeartbeats 1000000
/-! The head: checks of the written part, and what they tell. -/
namespace K96
open PySem PySem.Spec PyProof.Rows L2 Evl TL
open PySem.W (findIn specialIn takesIn mroIn readsIn findCls typeIn isClsIn isFn kitOne kitAny exmOne subIn keepIn clsIn nsIn codeIn fnIn ks_superIn)
theorem bb {a b : Bool} (h : (a && b) = true) : a = true ∧ b = true := Bool.and_eq_true_iff.mp h
theorem oexB_ok {K : Fr} {C : Addr} (h : oexB K C = true) : OexC K C := by
  unfold oexB at h
  obtain ⟨q, h⟩ := bb h
  obtain ⟨h1, h⟩ := bb h
  obtain ⟨h2, h⟩ := bb h
  obtain ⟨h3, h4⟩ := bb h
  refine ⟨?_, of_decide_eq_true h1, of_decide_eq_true h2, of_decide_eq_true h3, h4⟩
  split at q
  · rename_i dd cd sl ho
    split at q
    · rename_i C' bm k0 k1 k2 k3 n k5 hm hs
      obtain ⟨q1, q⟩ := bb q
      obtain ⟨q2, q⟩ := bb q
      obtain ⟨q3, q⟩ := bb q
      obtain ⟨q4, q5⟩ := bb q
      have e1 := eq_of_beq q1
      have e2 := eq_of_beq q2
      subst e1 e2
      obtain ⟨nm, bs, mro, ns, qn, hd, sn, sub, ab, col, del⟩ := cd
      dsimp only at hm q3 q4
      subst hm q4
      have q3 : del = false := by simpa using q3
      subst q3
      have hsl : sl = #[k0, k1, k2, k3, some (.builtin "ValueError.__new__"), k5] := by
        obtain ⟨l⟩ := sl
        simp only at hs
        rw [hs]
      subst hsl
      exact ⟨nm, qn, ns, bs, bm, sn, sub, ab, col, dd, k0, k1, k2, k3, k5, ho, q5⟩
    · cases q
  · cases q
theorem excB_ok {K : Fr} {mg : Str → Option Value} {nm : Str} {C : Addr} {fs : List Str} (g : mg nm = some (.ref C)) (h : excB K C fs = true) : ExcK K mg nm C fs := by
  obtain ⟨h1, h⟩ := bb h
  obtain ⟨h2, h3⟩ := bb h
  exact ⟨g, of_decide_eq_true h1, xfB_ok h2, fun f hf => of_decide_eq_true (List.all_eq_true.mp h3 f hf)⟩
theorem obxB_ok {K : Fr} {mg : Str → Option Value} {nm : Str} {C fI : Addr} {fs : List Str} (g : mg nm = some (.ref C)) (h : obxB K C fI fs = true) : Obx K mg nm C fI fs := by
  obtain ⟨h1, h⟩ := bb h
  obtain ⟨h2, h⟩ := bb h
  obtain ⟨h3, h4⟩ := bb h
  exact ⟨g, oexB_ok h1, of_decide_eq_true h2, of_decide_eq_true h3, fun f hf => of_decide_eq_true (List.all_eq_true.mp h4 f hf)⟩
theorem clsB_ok {K : Fr} {C : Addr} (h : clsB K C = true) : Cls K C := by
  obtain ⟨h1, h⟩ := bb h
  obtain ⟨h2, h⟩ := bb h
  obtain ⟨h3, h4⟩ := bb h
  exact ⟨h1, h2, h3, of_decide_eq_true h4⟩
theorem noB_ok {K : Fr} {C : Addr} {fs : List Str} (h : noB K C fs = true) : ∀ f ∈ fs, NoAttr K C f := fun f hf => by
  have h2 := of_decide_eq_true (List.all_eq_true.mp h f hf)
  exact h2
theorem kokB_ok {K : Fr} {C : Addr} (h : kokB K C = true) : KOk K C := ⟨clsB_ok (bb h).1, noB_ok (bb h).2⟩
theorem instB_ok {K : Fr} {C : Addr} (h : instB K C = true) : InsT K C := by
  obtain ⟨h1, h⟩ := bb h
  obtain ⟨h2, h⟩ := bb h
  obtain ⟨h3, h⟩ := bb h
  obtain ⟨h4, h5⟩ := bb h
  exact ⟨clsB_ok h1, of_decide_eq_true h2, of_decide_eq_true h3, of_decide_eq_true h4, of_decide_eq_true h5⟩
/-- the name of a class -/
def cName (K : Fr) (C : Addr) : Str := match K.lookup C with
  | some o => (match o.slots[2]? with
    | some (some (Value.str nm _)) => nm
    | _ => "")
  | _ => ""
theorem slotStr_ok {o : Obj} (h : slotStr o = true) : ∃ nm t, o.slots[2]? = some (some (Value.str nm t)) := by
  unfold slotStr at h
  split at h
  · rename_i nm t e
    exact ⟨nm, t, e⟩
  · cases h
theorem fcB_ok {K : Fr} {C : Addr} (h : fcB K C = true) : findCls K (.ref C) (.type "type") "__name__" = some (.get (.builtin "getset_descriptor.__get__") (.builtin "type.__name__") (.ref C) (.type "type")) := by
  unfold fcB at h
  split at h
  · rename_i a b c d e
    obtain ⟨h1, h⟩ := bb h
    obtain ⟨h2, h⟩ := bb h
    obtain ⟨h3, h4⟩ := bb h
    rw [e, of_decide_eq_true h1, of_decide_eq_true h2, of_decide_eq_true h3, of_decide_eq_true h4]
  · cases h
theorem nmB_ok {K : Fr} {C fe : Addr} (h : nmB K C fe = true) : NmC K C (cName K C) fe := by
  obtain ⟨h1, h⟩ := bb h
  obtain ⟨h2, h⟩ := bb h
  obtain ⟨h3, h⟩ := bb h
  obtain ⟨h4, h⟩ := bb h
  obtain ⟨h5, h⟩ := bb h
  obtain ⟨hf, h⟩ := bb h
  obtain ⟨h6, h⟩ := bb h
  obtain ⟨h7, h8⟩ := bb h
  have hf := fcB_ok hf
  have I := instB_ok h1
  refine ⟨I.cl, h2, I.ca, I.cn, I.ct, I.mo, h3, hf, of_decide_eq_true h4, ?_, of_decide_eq_true h6, h7, of_decide_eq_true h8⟩
  unfold cName
  cases q : K.lookup C with
  | none =>
    rw [q] at h5
    cases h5
  | some o =>
    rw [q] at h5
    have h6 : slotStr o = true := h5
    obtain ⟨nm, t, e⟩ := slotStr_ok h6
    exact ⟨o, t, rfl, by simp only [e]⟩
theorem noPapB_ok {K : Fr} {A : Adr} {t : Value} (h : noPapB K A t = true) : NoPap K A t := by
  obtain ⟨h1, h⟩ := bb h
  obtain ⟨h2, h3⟩ := bb h
  obtain ⟨b1, e1⟩ := Option.isSome_iff_exists.mp h2
  obtain ⟨b2, e2⟩ := Option.isSome_iff_exists.mp h3
  exact ⟨of_decide_eq_true h1, b1, b2, e1, e2⟩
theorem barePapB_ok {K : Fr} {A : Adr} {C : Addr} (h : barePapB K A C = true) : BarePap K A C := by
  obtain ⟨h1, h⟩ := bb h
  obtain ⟨h2, h3⟩ := bb h
  exact ⟨of_decide_eq_true h1, of_decide_eq_true h2, of_decide_eq_true h3⟩
theorem papTB_ok {K : Fr} {A : Adr} {C : Addr} (h : papTB K A C = true) : kitOne K (.ref C) (.ref A.paper) = some true ∧ ∃ b1 b2, kitAny K (.ref C) (clsOf A firstW) = some b1 ∧ kitAny K (.ref C) (clsOf A lastW) = some b2 ∧ (b1 || b2) = true := by
  obtain ⟨h1, h⟩ := bb h
  refine ⟨of_decide_eq_true h1, ?_⟩
  split at h
  · rename_i b1 b2 e1 e2
    exact ⟨b1, b2, e1, e2, h⟩
  · cases h
theorem methB_ok {K : Fr} {C : Addr} {m : Str} (h : methB K C m = true) : Meth K C m (He.ma K C m) := by
  obtain ⟨h1, h⟩ := bb h
  obtain ⟨h2, h3⟩ := bb h
  exact ⟨of_decide_eq_true h1, h2, h3⟩
theorem bmethB_ok {K : Fr} {C : Addr} {m : Str} (h : bmethB K C m = true) : BMeth K C m (He.ma K C m) := by
  obtain ⟨h1, h⟩ := bb h
  obtain ⟨h2, h⟩ := bb h
  obtain ⟨h3, h⟩ := bb h
  obtain ⟨h4, h5⟩ := bb h
  exact ⟨methB_ok h1, of_decide_eq_true h2, of_decide_eq_true h3, by simpa using h4, h5⟩
theorem mkB_ok {K : Fr} {C : Addr} (h : mkB K C = true) : Mk K C (He.ma K C "__init__") := by
  obtain ⟨h1, h⟩ := bb h
  obtain ⟨h2, h⟩ := bb h
  obtain ⟨h3, h4⟩ := bb h
  exact ⟨h1, of_decide_eq_true h2, h3, h4⟩
end K96

set_option Elab.async false
set_option linter.all false
set_option maxRecDepth 100000
set_option maxHeartbeats 1000000
/-! The head: written dicts, classes with super. -/
namespace K96
open PySem PySem.Spec PyProof.Rows L2 Evl TL
open PySem.W (findIn mroIn typeIn clsIn nsIn codeIn fnIn ks_superIn ksFn)
/-! ### a written dict -/
theorem keysB_ok : ∀ {ks : List Str} {es : List DictEntry}, keysB ks es = true → Paired (fun (x : Str) (en : DictEntry) => ∃ t, en.key = .str x t) ks es
  | [], [], _ => .nil
  | [], _ :: _, h => by cases h
  | _ :: _, [], h => by cases h
  | k :: ks, e :: es, h => by
    obtain ⟨h1, h2⟩ := bb (show ((match e.key with
      | .str x _ => decide (x = k)
      | _ => false) && keysB ks es) = true from h)
    refine .cons ?_ (keysB_ok h2)
    split at h1
    · rename_i x t ek
      exact ⟨t, by rw [ek, of_decide_eq_true h1]⟩
    · cases h1
theorem keys_lit {P : Params} : ∀ {ks : List Str} {es : List DictEntry}, Paired (fun (x : Str) (en : DictEntry) => ∃ t, en.key = .str x t) ks es → es.map (·.hash) = ks.map (PyData.keyHash P) → PySem.W.KeysLit P es
  | _, _, .nil, _ => trivial
  | _, _, .cons (a := k) (b := e) ⟨t, ht⟩ r, h => by
    have h1 : e.hash :: _ = PyData.keyHash P k :: _ := h
    obtain ⟨h2, h3⟩ := List.cons.inj h1
    exact ⟨⟨k, t, ht, h2⟩, keys_lit r h3⟩
theorem wdB_ok {K : Fr} {w : World} {mg : Str → Option Value} {nm : Str} {d : Addr} {ks : List Str} (g : mg nm = some (.ref d)) (h : wdB K d ks = true) (hh : wdH K d = ks.map (PyData.keyHash w.params)) : ∃ es n, WD K w mg nm d es n ks := by
  unfold wdB at h
  unfold wdH at hh
  split at h
  · rename_i es n sl ho
    rw [ho] at hh
    obtain ⟨h1, h⟩ := bb h
    obtain ⟨h2, h⟩ := bb h
    obtain ⟨h3, h4⟩ := bb h
    have hsl : sl = #[] := Array.eq_empty_of_size_eq_zero (of_decide_eq_true h1)
    subst hsl
    have hk := keysB_ok h3
    exact ⟨es, n, ⟨g, ⟨ho, keys_lit hk hh, by simpa using h2⟩, hk, of_decide_eq_true h4⟩⟩
  · cases h
theorem ns_none {K : Fr} {d : Addr} {ks : List Str} {z : Str} (h : wdB K d ks = true) (hz : z ∉ ks) : nsIn K d z = some none := by
  unfold wdB at h
  unfold PySem.W.nsIn
  split at h
  · rename_i es n sl ho
    rw [ho]
    obtain ⟨h1, h⟩ := bb h
    obtain ⟨h2, h⟩ := bb h
    obtain ⟨h3, h4⟩ := bb h
    have hk := keysB_ok h3
    have key : ∀ {ks : List Str} {es : List DictEntry}, Paired (fun (x : Str) (en : DictEntry) => ∃ t, en.key = .str x t) ks es → z ∉ ks → es.find? (·.key.isStr z) = none ∧ es.any (·.refKey) = false := by
      intro ks es hp
      induction hp with
      | nil => exact fun _ => ⟨rfl, rfl⟩
      | cons hd r ih =>
        intro hz
        obtain ⟨t, ht⟩ := hd
        obtain ⟨n1, n2⟩ := not_or.mp (fun q => hz (List.mem_cons.mpr q))
        obtain ⟨i1, i2⟩ := ih n2
        rename_i a b l1 l2
        have e1 : b.key.isStr z = false := by
          rw [ht]
          exact beq_eq_false_iff_ne.mpr fun e => n1 e.symm
        have e2 : b.refKey = false := by
          unfold DictEntry.refKey
          rw [ht]
        rw [List.find?_cons, List.any_cons, i1, i2, e1, e2]
        exact ⟨rfl, rfl⟩
    obtain ⟨k1, k2⟩ := key hk hz
    show (match es.toList.find? (·.key.isStr z) with
      | some e => some (some e.val)
      | none => if es.toList.any (·.refKey) then none else some none) = some none
    rw [k1, k2]
    rfl
  · cases h
theorem intAt_ok {K : Fr} {d : Addr} {z : Str} {c : Int} (h : intAt K d z c = true) : ∃ t, nsIn K d z = some (some (.int c t)) := by
  unfold intAt at h
  split at h
  · rename_i j t e
    exact ⟨t, by rw [e, of_decide_eq_true h]⟩
  · cases h
theorem tupAt_ok {K : Fr} {d : Addr} {z : Str} {vs : List Str} (h : tupAt K d z vs = true) : ∃ t, nsIn K d z = some (some (.ref t)) ∧ ∀ H, SqT K H t (vs.map V.str) := by
  unfold tupAt at h
  split at h
  · rename_i t e
    refine ⟨t, e, fun H => ?_⟩
    split at h
    · rename_i c od its n sl ho
      obtain ⟨h1, h⟩ := bb h
      obtain ⟨h2, h3⟩ := bb h
      exact .inr ⟨_, its, n, ho, congrArg Value.type (of_decide_eq_true h1), rfl, of_decide_eq_true h2, He.relAll_ok h3⟩
    · cases h
  · cases h
theorem partsB_ok {K : Fr} {w : World} {mg : Str → Option Value} (g : mg "PARTS" = some (.ref (He.ga K "PARTS"))) (h : partsB K = true) (hh : wdH K (He.ga K "PARTS") = (partsTab.map (·.1)).map (PyData.keyHash w.params)) : PartsD K w mg := by
  obtain ⟨h1, h2⟩ := bb h
  obtain ⟨es, n, W⟩ := wdB_ok g h1 hh
  exact ⟨_, es, n, W, fun q hq => intAt_ok (List.all_eq_true.mp h2 q hq)⟩
theorem formsB_ok {K : Fr} {w : World} {mg : Str → Option Value} (g : mg "FORMS" = some (.ref (He.ga K "FORMS"))) (h : formsB K = true) (hh : wdH K (He.ga K "FORMS") = (formsTab.map (·.1)).map (PyData.keyHash w.params)) : FormsD K w mg := by
  obtain ⟨h1, h2⟩ := bb h
  obtain ⟨es, n, W⟩ := wdB_ok g h1 hh
  refine ⟨_, es, n, W, fun q hq => tupAt_ok (List.all_eq_true.mp h2 q hq), fun z hz => ns_none h1 fun hm => ?_⟩
  obtain ⟨fs, hf⟩ := forms_keys.mp hm
  rw [hz] at hf
  cases hf
end K96

set_option Elab.async false
set_option linter.all false
set_option maxRecDepth 100000
set_option maxHeartbeats 1000000
/-! The head: classes with super. -/
namespace K96
open PySem PySem.Spec PyProof.Rows L2 Evl TL
open PySem.W (findIn mroIn typeIn clsIn nsIn codeIn fnIn ks_superIn ksFn)
theorem fileB_ok {K : Fr} {cda : Addr} {file : Str} (h : fileB K cda file = true) : ∃ (oc : Value) (od : Option Addr) (vs : Array Value) (osl : Array (Option Value)) (x : Str) (tf : Tok), K.lookup cda = some ⟨oc, od, .fields vs, osl⟩ ∧ vs[2]? = some (.str x tf) ∧ (file == x) = true := by
  unfold fileB at h
  split at h
  · rename_i oc od vs osl ho
    split at h
    · rename_i x t e
      exact ⟨oc, od, vs, osl, x, t, ho, e, beq_iff_eq.mpr (of_decide_eq_true h)⟩
    · cases h
  · cases h
theorem cellB_ok {K : Fr} {cc D : Addr} (h : cellB K cc D = true) : ∃ (oc : Value) (od : Option Addr) (osl : Array (Option Value)), K.lookup cc = some ⟨oc, od, .cell (some (.ref D)), osl⟩ := by
  unfold cellB at h
  split at h
  · rename_i oc od a osl ho
    exact ⟨oc, od, osl, by rw [ho, of_decide_eq_true h]⟩
  · cases h
theorem supFd_ok {K : Fr} {fd : FuncData} {C : Addr} {file qual : Str} (h : supFd K fd C file qual = true) : fd.defaults = .none ∧ ∃ x cc cda, fd.closure = [(x, cc)] ∧ fd.code = .ref cda ∧ codeIn K (.ref cda) qual = true ∧ fileB K cda file = true ∧ cellB K cc C = true := by
  unfold supFd at h
  obtain ⟨d1, d2⟩ := bb h
  refine ⟨?_, ?_⟩
  · split at d1
    · rename_i e
      exact e
    · cases d1
  · split at d2
    · rename_i x cc cda e1 e2
      obtain ⟨c1, d2⟩ := bb d2
      obtain ⟨c2, c3⟩ := bb d2
      exact ⟨_, _, _, e1, e2, c1, c2, c3⟩
    · cases d2
theorem supB_ok {P : Program} {K : Fr} {mg : Str → Option Value} {C f2 : Addr} {qual : Str} {params : Arguments} {body : List Stmt} {scope : Scope} (hs : mg "super" = none) (ht : (P.main.scope.names.lookup ("super" : Str)).isSome = false) (e : supV K C = (some (("__init__" : Str), qual, params, FuncBody.stmts body, scope, mainGlobals, [("__class__" : Str)], builtinsNs) : SupV)) (h : supB K C f2 P.main.file qual = true) :
    ∃ cda cc, SupF P K mg "__init__" qual params body scope (He.ma K C "__init__") cda cc C f2 := by
  obtain ⟨h1, h⟩ := bb h
  obtain ⟨h2, h⟩ := bb h
  obtain ⟨h3, h⟩ := bb h
  obtain ⟨h4, h⟩ := bb h
  obtain ⟨h5, h⟩ := bb h
  obtain ⟨h6, h7⟩ := bb h
  obtain ⟨cd, hcd⟩ := Option.isSome_iff_exists.mp h2
  unfold supV at e
  cases q : K.lookup (He.ma K C "__init__") with
  | none =>
    rw [q] at h1
    cases h1
  | some o =>
    obtain ⟨oc, od, dt, osl⟩ := o
    rw [q] at h1 e
    cases dt with
    | func fd =>
      obtain ⟨n1, n2, n3, n4, n5, n6, n7, n8, n9, n10, n11, n12, n13, n14, n15⟩ := fd
      have e2 : (some (n1, n2, n3, n4, n5, n6, n7.map (·.1), n15) : SupV) = some (("__init__" : Str), qual, params, FuncBody.stmts body, scope, mainGlobals, [("__class__" : Str)], builtinsNs) := e
      simp only [Option.some.injEq, Prod.mk.injEq] at e2
      obtain ⟨r1, r2, r3, r4, r5, r6, r7, r8⟩ := e2
      subst r1 r2 r3 r4 r5 r6 r8
      have h8 := supFd_ok (show supFd K _ C P.main.file n2 = true from h1)
      obtain ⟨rfl, x, cc, cda, e7, e13, c1, c2, c3⟩ := h8
      have e7 : n7 = [(x, cc)] := e7
      have e13 : n13 = .ref cda := e13
      subst e7 e13
      have hx : x = ("__class__" : Str) := (List.cons.inj (show [x] = [("__class__" : Str)] from r7)).1
      subst hx
      exact ⟨cda, cc, ⟨⟨oc, od, n9, n10, n11, n12, n14, osl, q⟩, c1, fileB_ok c2, cellB_ok c3, ⟨cd, hcd⟩, of_decide_eq_true h3, of_decide_eq_true h4, hs, ht, of_decide_eq_true h5, of_decide_eq_true h6, h7⟩⟩
    | _ => cases h1
end K96

set_option Elab.async false
set_option linter.all false
set_option maxRecDepth 100000
set_option maxHeartbeats 4000000
/-! The head: all facts, and the law's promise from them. Printed by gen6.py. -/
namespace K96
open PySem PySem.Spec PyProof.Rows L2 Evl TL
open He (ga ma Fa)
theorem clsNm_ok : ∀ q ∈ papTab, clsNm q.2.1 = q.1 := by decide +kernel
theorem adr_pap {K : Fr} {q : Str × Str × Nat} (h : q ∈ papTab) : (adrK K).pap q.2.1 = ga K q.1 := congrArg (ga K) (clsNm_ok q h)
/-- all that is asked of the written part -/
structure AllF (P : Program) (w : World) (K : Fr) : Prop where
  glo : glos.all (fun x => (Fa.glo x).ok K) = true
  free : freeL.all (fun x => (Fa.free x).ok K) = true
  int : intL.all (fun q => (Fa.int q.1 q.2).ok K) = true
  str : strL.all (fun q => (Fa.str q.1 q.2).ok K) = true
  dok : fnL.all (fun d => d.ok K) = true
  exc : excsB K = true
  scan : scansB K = true
  pap : papsB K = true
  sup : supsB P.main.file K = true
  dic : (partsB K && formsB K) = true
  den : decide (ma K (ga K "Denial") "__init__" = ma K (ga K "Paper") "__init__") = true
  fn : fnL.map (fun d => He.fnW K d.at_) = fnL.map He.DefD.val
  sv : supL.map (fun q => supV K (ga K q.1)) = supL.map supVal
  hp : wdH K (ga K "PARTS") = (partsTab.map (·.1)).map (PyData.keyHash w.params)
  hf : wdH K (ga K "FORMS") = (formsTab.map (·.1)).map (PyData.keyHash w.params)
theorem map_at {α β : Type} {f g : α → β} : ∀ {l : List α}, l.map f = l.map g → ∀ x ∈ l, f x = g x
  | _ :: _, h, x, hx => by
    obtain ⟨h1, h2⟩ := List.cons.inj h
    rcases List.mem_cons.mp hx with rfl | hx
    · exact h1
    · exact map_at h2 x hx
section
variable {P : Program} {w : World} {K : Fr} {mg : Str → Option Value} {h : Heap}
theorem AllF.fun_ (c : AllF P w K) {d : He.DefD} (hm : d ∈ fnL) : ∃ fd, FunD K d.name d.qual d.params d.body d.scope (d.dvs K) (d.kws K) (He.fAd K d.at_) fd := He.DefD.funD (map_at c.fn d hm) (List.all_eq_true.mp c.dok d hm)
theorem AllF.g (c : AllF P w K) (X : K.In h) (G : h.Ns mainGlobals mg) {x : Str} (hx : x ∈ glos) : mg x = some (.ref (ga K x)) := He.glo_ok X G (List.all_eq_true.mp c.glo x hx)
theorem AllF.df (c : AllF P w K) (X : K.In h) (G : h.Ns mainGlobals mg) {d : He.DefD} {x : Str} (hm : d ∈ fnL) (ha : d.at_ = (x, none)) (hn : d.name = x) (hd : d.dfl = []) (hk : d.kwd = []) (hx : x ∈ glos) : Df K mg d := by
  obtain ⟨fd, F⟩ := c.fun_ hm
  have e1 : d.dvs K = [] := by unfold He.DefD.dvs; rw [hd]; rfl
  have e2 : d.kws K = [] := by unfold He.DefD.kws; rw [hk]; rfl
  have e3 : He.fAd K d.at_ = ga K x := by rw [ha]; rfl
  rw [e1, e2, e3] at F
  exact ⟨_, fd, F, by rw [hn]; exact c.g X G hx⟩
theorem AllF.da (c : AllF P w K) {d : He.DefD} {x m : Str} (hm : d ∈ fnL) (ha : d.at_ = (x, some m)) (hd : d.dfl = []) (hk : d.kwd = []) : DfA K d (ma K (ga K x) m) := by
  obtain ⟨fd, F⟩ := c.fun_ hm
  have e1 : d.dvs K = [] := by unfold He.DefD.dvs; rw [hd]; rfl
  have e2 : d.kws K = [] := by unfold He.DefD.kws; rw [hk]; rfl
  have e3 : He.fAd K d.at_ = ma K (ga K x) m := by rw [ha]; rfl
  rw [e1, e2, e3] at F
  exact ⟨fd, F⟩
theorem AllF.txt (c : AllF P w K) (X : K.In h) (G : h.Ns mainGlobals mg) : Txt K mg := ⟨fun x hx => He.free_ok X G (List.all_eq_true.mp c.free x (by
    have key : ∀ x ∈ (["isinstance", "all", "len", "zip", "tuple", "int", "str", "set", "bool", "range", "list", "dict", "sorted", "repr", "abs", "sum"] : List Str), x ∈ freeL := by decide +kernel
    exact key x hx)), fun q hq => He.int_ok X G (List.all_eq_true.mp c.int q hq), fun q hq => He.str_ok X G (List.all_eq_true.mp c.str q hq)⟩
end
theorem in_fn (i : Nat) {d : He.DefD} (h : fnL[i]? = some d) : d ∈ fnL := List.mem_of_getElem? h
section
variable {P : Program} {w : World} {K : Fr} {mg : Str → Option Value} {h : Heap}
theorem AllF.d_is_integer (c : AllF P w K) (X : K.In h) (G : h.Ns mainGlobals mg) : Df K mg d_is_integer := c.df X G (x := "is_integer") (in_fn 0 rfl) rfl rfl rfl rfl (by decide +kernel)
theorem AllF.d_is_within (c : AllF P w K) (X : K.In h) (G : h.Ns mainGlobals mg) : Df K mg d_is_within := c.df X G (x := "is_within") (in_fn 1 rfl) rfl rfl rfl rfl (by decide +kernel)
theorem AllF.d_is_name (c : AllF P w K) (X : K.In h) (G : h.Ns mainGlobals mg) : Df K mg d_is_name := c.df X G (x := "is_name") (in_fn 2 rfl) rfl rfl rfl rfl (by decide +kernel)
theorem AllF.d_is_value (c : AllF P w K) (X : K.In h) (G : h.Ns mainGlobals mg) : Df K mg d_is_value := c.df X G (x := "is_value") (in_fn 3 rfl) rfl rfl rfl rfl (by decide +kernel)
theorem AllF.d_is_ascending (c : AllF P w K) (X : K.In h) (G : h.Ns mainGlobals mg) : Df K mg d_is_ascending := c.df X G (x := "is_ascending") (in_fn 4 rfl) rfl rfl rfl rfl (by decide +kernel)
theorem AllF.d_is_stamp (c : AllF P w K) (X : K.In h) (G : h.Ns mainGlobals mg) : Df K mg d_is_stamp := c.df X G (x := "is_stamp") (in_fn 5 rfl) rfl rfl rfl rfl (by decide +kernel)
theorem AllF.d_fixed (c : AllF P w K) (X : K.In h) (G : h.Ns mainGlobals mg) : Df K mg d_fixed := c.df X G (x := "fixed") (in_fn 6 rfl) rfl rfl rfl rfl (by decide +kernel)
theorem AllF.d_is_digits (c : AllF P w K) (X : K.In h) (G : h.Ns mainGlobals mg) : Df K mg d_is_digits := c.df X G (x := "is_digits") (in_fn 9 rfl) rfl rfl rfl rfl (by decide +kernel)
theorem AllF.d_is_mark (c : AllF P w K) (X : K.In h) (G : h.Ns mainGlobals mg) : Df K mg d_is_mark := c.df X G (x := "is_mark") (in_fn 21 rfl) rfl rfl rfl rfl (by decide +kernel)
theorem AllF.d_is_single (c : AllF P w K) (X : K.In h) (G : h.Ns mainGlobals mg) : Df K mg d_is_single := c.df X G (x := "is_single") (in_fn 22 rfl) rfl rfl rfl rfl (by decide +kernel)
theorem AllF.d_can_be_told (c : AllF P w K) (X : K.In h) (G : h.Ns mainGlobals mg) : Df K mg d_can_be_told := c.df X G (x := "can_be_told") (in_fn 23 rfl) rfl rfl rfl rfl (by decide +kernel)
theorem AllF.d_words_of (c : AllF P w K) (X : K.In h) (G : h.Ns mainGlobals mg) : Df K mg d_words_of := c.df X G (x := "words_of") (in_fn 24 rfl) rfl rfl rfl rfl (by decide +kernel)
theorem AllF.d_take_single (c : AllF P w K) (X : K.In h) (G : h.Ns mainGlobals mg) : Df K mg d_take_single := c.df X G (x := "take_single") (in_fn 25 rfl) rfl rfl rfl rfl (by decide +kernel)
theorem AllF.d_take_told (c : AllF P w K) (X : K.In h) (G : h.Ns mainGlobals mg) : Df K mg d_take_told := c.df X G (x := "take_told") (in_fn 26 rfl) rfl rfl rfl rfl (by decide +kernel)
theorem AllF.d_take_end (c : AllF P w K) (X : K.In h) (G : h.Ns mainGlobals mg) : Df K mg d_take_end := c.df X G (x := "take_end") (in_fn 27 rfl) rfl rfl rfl rfl (by decide +kernel)
theorem AllF.d_is_one_of_first (c : AllF P w K) (X : K.In h) (G : h.Ns mainGlobals mg) : Df K mg d_is_one_of_first := c.df X G (x := "is_one_of_first") (in_fn 32 rfl) rfl rfl rfl rfl (by decide +kernel)
theorem AllF.d_is_one_of_last (c : AllF P w K) (X : K.In h) (G : h.Ns mainGlobals mg) : Df K mg d_is_one_of_last := c.df X G (x := "is_one_of_last") (in_fn 33 rfl) rfl rfl rfl rfl (by decide +kernel)
theorem AllF.d_is_told_paper (c : AllF P w K) (X : K.In h) (G : h.Ns mainGlobals mg) : Df K mg d_is_told_paper := c.df X G (x := "is_told_paper") (in_fn 34 rfl) rfl rfl rfl rfl (by decide +kernel)
theorem AllF.d_made_first (c : AllF P w K) (X : K.In h) (G : h.Ns mainGlobals mg) : Df K mg d_made_first := c.df X G (x := "made_first") (in_fn 35 rfl) rfl rfl rfl rfl (by decide +kernel)
theorem AllF.d_made_last (c : AllF P w K) (X : K.In h) (G : h.Ns mainGlobals mg) : Df K mg d_made_last := c.df X G (x := "made_last") (in_fn 36 rfl) rfl rfl rfl rfl (by decide +kernel)
theorem AllF.d_take_paper (c : AllF P w K) (X : K.In h) (G : h.Ns mainGlobals mg) : Df K mg d_take_paper := c.df X G (x := "take_paper") (in_fn 37 rfl) rfl rfl rfl rfl (by decide +kernel)
theorem AllF.d_paper_words (c : AllF P w K) (X : K.In h) (G : h.Ns mainGlobals mg) : Df K mg d_paper_words := c.df X G (x := "paper_words") (in_fn 38 rfl) rfl rfl rfl rfl (by decide +kernel)
theorem AllF.d_paper_text (c : AllF P w K) (X : K.In h) (G : h.Ns mainGlobals mg) : Df K mg d_paper_text := c.df X G (x := "paper_text") (in_fn 39 rfl) rfl rfl rfl rfl (by decide +kernel)
theorem AllF.d_read_paper (c : AllF P w K) (X : K.In h) (G : h.Ns mainGlobals mg) : Df K mg d_read_paper := c.df X G (x := "read_paper") (in_fn 40 rfl) rfl rfl rfl rfl (by decide +kernel)
theorem AllF.d_is_lot_form (c : AllF P w K) (X : K.In h) (G : h.Ns mainGlobals mg) : Df K mg d_is_lot_form := c.df X G (x := "is_lot_form") (in_fn 41 rfl) rfl rfl rfl rfl (by decide +kernel)
theorem AllF.d_is_of_form (c : AllF P w K) (X : K.In h) (G : h.Ns mainGlobals mg) : Df K mg d_is_of_form := c.df X G (x := "is_of_form") (in_fn 42 rfl) rfl rfl rfl rfl (by decide +kernel)
theorem AllF.d_is_question (c : AllF P w K) (X : K.In h) (G : h.Ns mainGlobals mg) : Df K mg d_is_question := c.df X G (x := "is_question") (in_fn 43 rfl) rfl rfl rfl rfl (by decide +kernel)
theorem AllF.d_need_question (c : AllF P w K) (X : K.In h) (G : h.Ns mainGlobals mg) : Df K mg d_need_question := c.df X G (x := "need_question") (in_fn 44 rfl) rfl rfl rfl rfl (by decide +kernel)
theorem AllF.d_take_question (c : AllF P w K) (X : K.In h) (G : h.Ns mainGlobals mg) : Df K mg d_take_question := c.df X G (x := "take_question") (in_fn 45 rfl) rfl rfl rfl rfl (by decide +kernel)
theorem AllF.d_question_words (c : AllF P w K) (X : K.In h) (G : h.Ns mainGlobals mg) : Df K mg d_question_words := c.df X G (x := "question_words") (in_fn 46 rfl) rfl rfl rfl rfl (by decide +kernel)
theorem AllF.d_question_text (c : AllF P w K) (X : K.In h) (G : h.Ns mainGlobals mg) : Df K mg d_question_text := c.df X G (x := "question_text") (in_fn 47 rfl) rfl rfl rfl rfl (by decide +kernel)
theorem AllF.d_read_question (c : AllF P w K) (X : K.In h) (G : h.Ns mainGlobals mg) : Df K mg d_read_question := c.df X G (x := "read_question") (in_fn 48 rfl) rfl rfl rfl rfl (by decide +kernel)
theorem AllF.d_law_rope (c : AllF P w K) (X : K.In h) (G : h.Ns mainGlobals mg) : Df K mg d_law_rope := c.df X G (x := "_law_rope") (in_fn 49 rfl) rfl rfl rfl rfl (by decide +kernel)
theorem AllF.d_law_knot (c : AllF P w K) (X : K.In h) (G : h.Ns mainGlobals mg) : Df K mg d_law_knot := c.df X G (x := "_law_knot") (in_fn 50 rfl) rfl rfl rfl rfl (by decide +kernel)
theorem AllF.d_law_one (c : AllF P w K) (X : K.In h) (G : h.Ns mainGlobals mg) : Df K mg d_law_one := c.df X G (x := "_law_one") (in_fn 51 rfl) rfl rfl rfl rfl (by decide +kernel)
theorem AllF.d_law_is_name (c : AllF P w K) (X : K.In h) (G : h.Ns mainGlobals mg) : Df K mg d_law_is_name := c.df X G (x := "_law_is_name") (in_fn 52 rfl) rfl rfl rfl rfl (by decide +kernel)
theorem AllF.d_law_is_digits (c : AllF P w K) (X : K.In h) (G : h.Ns mainGlobals mg) : Df K mg d_law_is_digits := c.df X G (x := "_law_is_digits") (in_fn 53 rfl) rfl rfl rfl rfl (by decide +kernel)
theorem AllF.d_law_bent (c : AllF P w K) (X : K.In h) (G : h.Ns mainGlobals mg) : Df K mg d_law_bent := c.df X G (x := "_law_bent") (in_fn 54 rfl) rfl rfl rfl rfl (by decide +kernel)
theorem AllF.d_law_text (c : AllF P w K) (X : K.In h) (G : h.Ns mainGlobals mg) : Df K mg d_law_text := c.df X G (x := "_law_text") (in_fn 55 rfl) rfl rfl rfl rfl (by decide +kernel)
theorem AllF.d_law_many (c : AllF P w K) (X : K.In h) (G : h.Ns mainGlobals mg) : Df K mg d_law_many := c.df X G (x := "_law_many") (in_fn 56 rfl) rfl rfl rfl rfl (by decide +kernel)
theorem AllF.d_law_made (c : AllF P w K) (X : K.In h) (G : h.Ns mainGlobals mg) : Df K mg d_law_made := c.df X G (x := "_law_made") (in_fn 57 rfl) rfl rfl rfl rfl (by decide +kernel)
theorem AllF.d_law_value (c : AllF P w K) (X : K.In h) (G : h.Ns mainGlobals mg) : Df K mg d_law_value := c.df X G (x := "_law_value") (in_fn 58 rfl) rfl rfl rfl rfl (by decide +kernel)
theorem AllF.d_law_words (c : AllF P w K) (X : K.In h) (G : h.Ns mainGlobals mg) : Df K mg d_law_words := c.df X G (x := "_law_words") (in_fn 59 rfl) rfl rfl rfl rfl (by decide +kernel)
theorem AllF.d_law_single (c : AllF P w K) (X : K.In h) (G : h.Ns mainGlobals mg) : Df K mg d_law_single := c.df X G (x := "_law_single") (in_fn 60 rfl) rfl rfl rfl rfl (by decide +kernel)
theorem AllF.d_law_taken (c : AllF P w K) (X : K.In h) (G : h.Ns mainGlobals mg) : Df K mg d_law_taken := c.df X G (x := "_law_taken") (in_fn 61 rfl) rfl rfl rfl rfl (by decide +kernel)
theorem AllF.d_law_paper_due (c : AllF P w K) (X : K.In h) (G : h.Ns mainGlobals mg) : Df K mg d_law_paper_due := c.df X G (x := "_law_paper_due") (in_fn 62 rfl) rfl rfl rfl rfl (by decide +kernel)
theorem AllF.d_law_forms (c : AllF P w K) (X : K.In h) (G : h.Ns mainGlobals mg) : Df K mg d_law_forms := c.df X G (x := "_law_forms") (in_fn 63 rfl) rfl rfl rfl rfl (by decide +kernel)
theorem AllF.d_law_asks (c : AllF P w K) (X : K.In h) (G : h.Ns mainGlobals mg) : Df K mg d_law_asks := c.df X G (x := "_law_asks") (in_fn 64 rfl) rfl rfl rfl rfl (by decide +kernel)
theorem AllF.d_law_asked (c : AllF P w K) (X : K.In h) (G : h.Ns mainGlobals mg) : Df K mg d_law_asked := c.df X G (x := "_law_asked") (in_fn 65 rfl) rfl rfl rfl rfl (by decide +kernel)
theorem AllF.d_law_is_of (c : AllF P w K) (X : K.In h) (G : h.Ns mainGlobals mg) : Df K mg d_law_is_of := c.df X G (x := "_law_is_of") (in_fn 66 rfl) rfl rfl rfl rfl (by decide +kernel)
theorem AllF.d_law_question_due (c : AllF P w K) (X : K.In h) (G : h.Ns mainGlobals mg) : Df K mg d_law_question_due := c.df X G (x := "_law_question_due") (in_fn 67 rfl) rfl rfl rfl rfl (by decide +kernel)
theorem AllF.d_law_by_lines (c : AllF P w K) (X : K.In h) (G : h.Ns mainGlobals mg) : Df K mg d_law_by_lines := c.df X G (x := "_law_by_lines") (in_fn 68 rfl) rfl rfl rfl rfl (by decide +kernel)
theorem AllF.d_law_answered (c : AllF P w K) (X : K.In h) (G : h.Ns mainGlobals mg) : Df K mg d_law_answered := c.df X G (x := "_law_answered") (in_fn 69 rfl) rfl rfl rfl rfl (by decide +kernel)
theorem AllF.d_law_refused (c : AllF P w K) (X : K.In h) (G : h.Ns mainGlobals mg) : Df K mg d_law_refused := c.df X G (x := "_law_refused") (in_fn 70 rfl) rfl rfl rfl rfl (by decide +kernel)
theorem AllF.d_law_right (c : AllF P w K) (X : K.In h) (G : h.Ns mainGlobals mg) : Df K mg d_law_right := c.df X G (x := "_law_right") (in_fn 71 rfl) rfl rfl rfl rfl (by decide +kernel)
theorem AllF.d_law (c : AllF P w K) (X : K.In h) (G : h.Ns mainGlobals mg) : Df K mg d_law := c.df X G (x := "law") (in_fn 72 rfl) rfl rfl rfl rfl (by decide +kernel)
theorem AllF.d_BadValue_init (c : AllF P w K) : DfA K d_BadValue_init (ma K (ga K "BadValue") "__init__") := c.da (in_fn 7 rfl) rfl rfl rfl
theorem AllF.d_BadText_init (c : AllF P w K) : DfA K d_BadText_init (ma K (ga K "BadText") "__init__") := c.da (in_fn 8 rfl) rfl rfl rfl
theorem AllF.d_Scan_init (c : AllF P w K) : DfS K (ma K (ga K "Scan") "__init__") := by
  obtain ⟨fd, F⟩ := c.fun_ (d := K96.d_Scan_init) (in_fn 10 rfl)
  exact ⟨fd, F⟩
theorem AllF.d_Scan_ahead (c : AllF P w K) : DfA K d_Scan_ahead (ma K (ga K "Scan") "ahead") := c.da (in_fn 11 rfl) rfl rfl rfl
theorem AllF.d_Scan_refuse (c : AllF P w K) : DfA K d_Scan_refuse (ma K (ga K "Scan") "refuse") := c.da (in_fn 12 rfl) rfl rfl rfl
theorem AllF.d_Scan_take (c : AllF P w K) : DfA K d_Scan_take (ma K (ga K "Scan") "take") := c.da (in_fn 13 rfl) rfl rfl rfl
theorem AllF.d_Scan_take_just (c : AllF P w K) : DfA K d_Scan_take_just (ma K (ga K "Scan") "take_just") := c.da (in_fn 14 rfl) rfl rfl rfl
theorem AllF.d_Scan_take_signed (c : AllF P w K) : DfA K d_Scan_take_signed (ma K (ga K "Scan") "take_signed") := c.da (in_fn 15 rfl) rfl rfl rfl
theorem AllF.d_Scan_finish (c : AllF P w K) : DfA K d_Scan_finish (ma K (ga K "Scan") "finish") := c.da (in_fn 16 rfl) rfl rfl rfl
theorem AllF.d_Paper_init (c : AllF P w K) : DfA K d_Paper_init (ma K (ga K "Paper") "__init__") := c.da (in_fn 17 rfl) rfl rfl rfl
theorem AllF.d_Paper_bool (c : AllF P w K) : DfA K d_Paper_bool (ma K (ga K "Paper") "__bool__") := c.da (in_fn 18 rfl) rfl rfl rfl
theorem AllF.d_Paper_eq (c : AllF P w K) : DfA K d_Paper_eq (ma K (ga K "Paper") "__eq__") := c.da (in_fn 19 rfl) rfl rfl rfl
theorem AllF.d_Denial_bool (c : AllF P w K) : DfA K d_Denial_bool (ma K (ga K "Denial") "__bool__") := c.da (in_fn 20 rfl) rfl rfl rfl
theorem AllF.d_Lines_init (c : AllF P w K) : DfA K d_Lines_init (ma K (ga K "Lines") "__init__") := c.da (in_fn 28 rfl) rfl rfl rfl
theorem AllF.d_Lines_ahead (c : AllF P w K) : DfA K d_Lines_ahead (ma K (ga K "Lines") "ahead") := c.da (in_fn 29 rfl) rfl rfl rfl
theorem AllF.d_Lines_take (c : AllF P w K) : DfA K d_Lines_take (ma K (ga K "Lines") "take") := c.da (in_fn 30 rfl) rfl rfl rfl
theorem AllF.d_Lines_finish (c : AllF P w K) : DfA K d_Lines_finish (ma K (ga K "Lines") "finish") := c.da (in_fn 31 rfl) rfl rfl rfl
end
end K96

set_option Elab.async false
set_option linter.all false
set_option maxRecDepth 100000
set_option maxHeartbeats 4000000
/-! The head: what the law leans on, from the facts. Printed by gen7.py. -/
namespace K96
open PySem PySem.Spec PyProof.Rows L2 Evl TL
open He (ga ma Fa)
section
variable {P : Program} {w : World} {K : Fr} {mg : Str → Option Value} {h : Heap} {base : Heap}
theorem deepL_mono {n m : Nat} (hm : n ≤ m) {ds : List PyData} (h : ds.all (deepAt n) = true) : ds.all (deepAt m) = true := List.all_eq_true.mpr fun x hx => deepAt_mono n m x hm (List.all_eq_true.mp h x hx)
theorem PapsM.low {A : Adr} {k n m : Nat} (M : PapsM P w K mg base A k n) (hm : m ≤ n) : PapsM P w K mg base A k m := fun q hq => by
  obtain ⟨f, Mk, g, F⟩ := (M q hq).ex
  exact ⟨f, Mk, g, F.imp fun vs H Q E ⟨x, dx, args, ds, h1, h2, h3, h4, h5, h6, h7⟩ => ⟨x, dx, args, ds, h1, h2, h3, h4, deepL_mono hm h5, h6, h7⟩⟩
theorem pap_ini (c : AllF P w K) (X : K.In h) (G : h.Ns mainGlobals mg) (htop : (P.main.scope.names.lookup ("super" : Str)).isSome = false) {q : Str × Str × Nat} {st : Stmt} {qual : Str} (hq : q ∈ papTab) (hs : (q.1, qual, st) ∈ supL) (hg : q.1 ∈ glos)
    (k : ∀ cda cc, SupF P K mg "__init__" qual (defArgs st) (defBody st) (defScope st) (ma K (ga K q.1) "__init__") cda cc (ga K q.1) (ma K (ga K "Paper") "__init__") → Obc K mg q.1 (ga K q.1) papF → FnR P w K mg base CX0 16 (ma K (ga K q.1) "__init__") (spSub (ga K q.1) q.2.1 q.2.2 12 K)) :
    Ini P w K mg base CX0 16 q.1 ((adrK K).pap q.2.1) (spSub ((adrK K).pap q.2.1) q.2.1 q.2.2 12 K) := by
  rw [adr_pap hq]
  have hp := List.all_eq_true.mp (bb c.pap).1 q hq
  obtain ⟨p1, p2⟩ := bb hp
  obtain ⟨p2, p3⟩ := bb p2
  obtain ⟨p3, p4⟩ := bb p3
  have KO := kokB_ok p1
  have g := c.g X G hg
  have hsup : mg "super" = none := He.free_ok X G (List.all_eq_true.mp c.free "super" (by decide +kernel))
  obtain ⟨cda, cc, S⟩ := supB_ok hsup htop (map_at c.sv _ hs) (List.all_eq_true.mp c.sup _ hs)
  exact ⟨_, mkB_ok p4, g, k cda cc S ⟨g, KO.cl, KO.no⟩⟩
theorem paps_of (c : AllF P w K) (X : K.In h) (G : h.Ns mainGlobals mg) (htop : (P.main.scope.names.lookup ("super" : Str)).isSome = false) (F2 : FnR P w K mg base CX0 15 (ma K (ga K "Paper") "__init__") (spPap 12 K)) : PapsM P w K mg base (adrK K) 16 12 := by
  intro q hq
  have hq0 := hq
  unfold papTab at hq
  simp only [List.mem_cons, List.not_mem_nil, or_false] at hq
  rcases hq with rfl | rfl | rfl | rfl | rfl | rfl | rfl | rfl | rfl | rfl | rfl | rfl | rfl | rfl | rfl | rfl
  · exact pap_ini c X G htop (st := s_Bears_init) (qual := "Bears.__init__") hq0 (List.mem_of_getElem? (i := 0) rfl) (by decide +kernel) fun cda cc S O => ok_Bears S O F2
  · exact pap_ini c X G htop (st := s_Loses_init) (qual := "Loses.__init__") hq0 (List.mem_of_getElem? (i := 1) rfl) (by decide +kernel) fun cda cc S O => ok_Loses S O F2
  · exact pap_ini c X G htop (st := s_Settled_init) (qual := "Settled.__init__") hq0 (List.mem_of_getElem? (i := 2) rfl) (by decide +kernel) fun cda cc S O => ok_Settled S O F2
  · exact pap_ini c X G htop (st := s_Comes_init) (qual := "Comes.__init__") hq0 (List.mem_of_getElem? (i := 3) rfl) (by decide +kernel) fun cda cc S O => ok_Comes S O F2
  · exact pap_ini c X G htop (st := s_Stays_init) (qual := "Stays.__init__") hq0 (List.mem_of_getElem? (i := 4) rfl) (by decide +kernel) fun cda cc S O => ok_Stays S O F2
  · exact pap_ini c X G htop (st := s_Shaken_init) (qual := "Shaken.__init__") hq0 (List.mem_of_getElem? (i := 5) rfl) (by decide +kernel) fun cda cc S O => ok_Shaken S O F2
  · exact pap_ini c X G htop (st := s_Holds_init) (qual := "Holds.__init__") hq0 (List.mem_of_getElem? (i := 6) rfl) (by decide +kernel) fun cda cc S O => ok_Holds S O F2
  · exact pap_ini c X G htop (st := s_Covered_init) (qual := "Covered.__init__") hq0 (List.mem_of_getElem? (i := 7) rfl) (by decide +kernel) fun cda cc S O => ok_Covered S O F2
  · exact pap_ini c X G htop (st := s_Waits_init) (qual := "Waits.__init__") hq0 (List.mem_of_getElem? (i := 8) rfl) (by decide +kernel) fun cda cc S O => ok_Waits S O F2
  · exact pap_ini c X G htop (st := s_Pledges_init) (qual := "Pledges.__init__") hq0 (List.mem_of_getElem? (i := 9) rfl) (by decide +kernel) fun cda cc S O => ok_Pledges S O F2
  · exact pap_ini c X G htop (st := s_Frozen_init) (qual := "Frozen.__init__") hq0 (List.mem_of_getElem? (i := 10) rfl) (by decide +kernel) fun cda cc S O => ok_Frozen S O F2
  · exact pap_ini c X G htop (st := s_Thaws_init) (qual := "Thaws.__init__") hq0 (List.mem_of_getElem? (i := 11) rfl) (by decide +kernel) fun cda cc S O => ok_Thaws S O F2
  · exact pap_ini c X G htop (st := s_Acts_init) (qual := "Acts.__init__") hq0 (List.mem_of_getElem? (i := 12) rfl) (by decide +kernel) fun cda cc S O => ok_Acts S O F2
  · exact pap_ini c X G htop (st := s_Idle_init) (qual := "Idle.__init__") hq0 (List.mem_of_getElem? (i := 13) rfl) (by decide +kernel) fun cda cc S O => ok_Idle S O F2
  · exact pap_ini c X G htop (st := s_Firm_init) (qual := "Firm.__init__") hq0 (List.mem_of_getElem? (i := 14) rfl) (by decide +kernel) fun cda cc S O => ok_Firm S O F2
  · exact pap_ini c X G htop (st := s_Shaky_init) (qual := "Shaky.__init__") hq0 (List.mem_of_getElem? (i := 15) rfl) (by decide +kernel) fun cda cc S O => ok_Shaky S O F2
theorem lf_of (c : AllF P w K) (X : K.In h) (G : h.Ns mainGlobals mg) (htop : (P.main.scope.names.lookup ("super" : Str)).isSome = false) : LF P w K mg base (adrK K) (eqAd K) 20 9 := by
  have T := c.txt X G
  obtain ⟨x1, x2⟩ := bb c.exc
  obtain ⟨x2, x3⟩ := bb x2
  obtain ⟨x3, x4⟩ := bb x3
  obtain ⟨s1, s2⟩ := bb c.scan
  obtain ⟨s1, s1b⟩ := bb s1
  obtain ⟨s2, s3⟩ := bb s2
  obtain ⟨s2, s2b⟩ := bb s2
  obtain ⟨s3, s4⟩ := bb s3
  obtain ⟨s4, s5⟩ := bb s4
  obtain ⟨s5, s6⟩ := bb s5
  obtain ⟨s6, s7⟩ := bb s6
  obtain ⟨p1, p2⟩ := bb c.pap
  obtain ⟨p2, p3⟩ := bb p2
  obtain ⟨p3, p4⟩ := bb p3
  obtain ⟨p4, p5⟩ := bb p4
  obtain ⟨p5, p6⟩ := bb p5
  obtain ⟨d1, d2⟩ := bb c.dic
  have gBT : mg "BadText" = some (.ref (ga K "BadText")) := c.g X G (by decide +kernel)
  have gBV : mg "BadValue" = some (.ref (ga K "BadValue")) := c.g X G (by decide +kernel)
  have gSc : mg "Scan" = some (.ref (ga K "Scan")) := c.g X G (by decide +kernel)
  have gLi : mg "Lines" = some (.ref (ga K "Lines")) := c.g X G (by decide +kernel)
  have gPa : mg "Paper" = some (.ref (ga K "Paper")) := c.g X G (by decide +kernel)
  have gDe : mg "Denial" = some (.ref (ga K "Denial")) := c.g X G (by decide +kernel)
  have eBT : ExcK K mg "BadText" (adrK K).bt ["line", "word"] := excB_ok gBT x3
  have eBV : ExcK K mg "BadValue" (adrK K).bv ["part"] := excB_ok gBV x4
  have B : Exi P w K mg base 1 "BadText" (adrK K).bt (spBT (adrK K)) := ok_BT (obxB_ok gBT x1) (by decide +kernel) (by decide +kernel) c.d_BadText_init
  have BV : Exi P w K mg base 1 "BadValue" (adrK K).bv (spBV (adrK K)) := ok_BV (obxB_ok gBV x2) (by decide +kernel) c.d_BadValue_init
  have O : Obc K mg "Scan" (adrK K).scan scanF := ⟨gSc, clsB_ok s1, noB_ok s1b⟩
  have OL : Obc K mg "Lines" (adrK K).lines linesF := ⟨gLi, clsB_ok s2, noB_ok s2b⟩
  have sm : ∀ m ∈ (["ahead", "refuse", "take", "take_signed", "finish"] : List Str), Meth K (adrK K).scan m (ma K (ga K "Scan") m) := fun m hm => methB_ok (List.all_eq_true.mp s3 m hm)
  have lm : ∀ m ∈ (["take", "finish"] : List Str), Meth K (adrK K).lines m (ma K (ga K "Lines") m) := fun m hm => methB_ok (List.all_eq_true.mp s4 m hm)
  have is_integer : Cl P w K mg base CX0 1 "is_integer" (spIsInteger K) := ok_is_integer T (c.d_is_integer X G)
  have is_within := ok_is_within T (c.d_is_within X G) is_integer
  have is_value := ok_is_value T (c.d_is_value X G) is_within
  have is_name : Cl P w K mg base CX0 1 "is_name" (spVal isNameV K) := ok_is_name T (c.d_is_name X G)
  have is_digits : Cl P w K mg base CX0 1 "is_digits" (spStr isDg) := ok_is_digits T (c.d_is_digits X G)
  have is_mark := ok_is_mark T (c.d_is_mark X G) is_name
  have is_single := ok_is_single T (c.d_is_single X G) is_within is_mark
  have can_be_told := ok_can_be_told T (c.d_can_be_told X G) is_single
  have words_of : Cl P w K mg base CX0 11 "words_of" (spWords 10 K) := ok_words_of T (c.d_words_of X G) 10
  have ahead : Mt P w K mg base CX0 1 (adrK K).scan "ahead" (spAhead (adrK K)) := ok_ahead T O (sm _ (by decide +kernel)) c.d_Scan_ahead
  have refuse := ok_refuse O B (sm _ (by decide +kernel)) c.d_Scan_refuse
  have take := ok_take T O refuse (sm _ (by decide +kernel)) c.d_Scan_take
  have finish := ok_finish T O refuse (sm _ (by decide +kernel)) c.d_Scan_finish
  have signed_ := ok_take_signed T O refuse ahead take is_digits (sm _ (by decide +kernel)) c.d_Scan_take_signed
  have M : ScanM P w K mg base (adrK K) := ⟨O, ahead, refuse, take, signed_, finish⟩
  have take_single := ok_take_single T M is_mark (c.d_take_single X G)
  have take_end := ok_take_end T M (c.d_take_end X G)
  have take_told := ok_take_told T M take_end take_single (c.d_take_told X G)
  have fixed_ : Cl P w K mg base CX0 14 "fixed" (spFixed 13 K) := ok_fixed T (c.d_fixed X G) 13
  have F2 := ok_Paper c.d_Paper_init 12 fixed_
  have paps := paps_of c X G htop F2
  have just := ok_take_just T M (bmethB_ok s5) c.d_Scan_take_just
  have PD := partsB_ok (w := w) (c.g X G (x := "PARTS") (by decide +kernel)) d1 c.hp
  have FD := formsB_ok (w := w) (c.g X G (x := "FORMS") (by decide +kernel)) d2 c.hf
  have N : PapN K mg (adrK K) := ⟨fun q hq => by
    rw [adr_pap hq]
    have key : ∀ q ∈ papTab, q.1 ∈ glos := by decide +kernel
    exact c.g X G (key q hq), gPa⟩
  have take_paper := ok_take_paper T M PD just take_told (by decide) (ok_made_first (paps.low (m := 10) (by decide)) (c.d_made_first X G)) (ok_made_last (paps.low (m := 10) (by decide)) (c.d_made_last X G)) (c.d_take_paper X G)
  have scanI := ok_Scan (P := P) (w := w) (base := base) (mg := mg) O (mkB_ok s6) c.d_Scan_init
  have L : LinesM P w K mg base (adrK K) := ⟨OL, ok_Lines T OL B (mkB_ok s7) c.d_Lines_init, ok_LTake T OL B scanI (lm _ (by decide +kernel)) c.d_Lines_take, ok_LFinish T OL B (lm _ (by decide +kernel)) c.d_Lines_finish⟩
  have read_paper := ok_read_paper T M L (by decide) take_paper (c.d_read_paper X G)
  have first := ok_is_one_of_first (P := P) (w := w) (base := base) T N (c.d_is_one_of_first X G)
  have last := ok_is_one_of_last (P := P) (w := w) (base := base) T N (c.d_is_one_of_last X G)
  have told := ok_is_told_paper T N first last can_be_told (c.d_is_told_paper X G)
  have paper_text := ok_paper_text T BV told (ok_paper_words T words_of (c.d_paper_words X G)) (c.d_paper_text X G)
  have asc := ok_is_ascending (P := P) (w := w) (base := base) T (c.d_is_ascending X G)
  have stamp := ok_is_stamp T is_integer is_name (c.d_is_stamp X G)
  have lot := ok_is_lot_form T is_integer asc (c.d_is_lot_form X G)
  have form := ok_is_of_form T is_name is_integer stamp is_value lot (c.d_is_of_form X G)
  have quest := ok_is_question T FD form can_be_told (c.d_is_question X G)
  have question_text := ok_question_text (ok_need_question BV quest (c.d_need_question X G)) (ok_question_words T words_of (c.d_question_words X G)) (c.d_question_text X G)
  have read_question := ok_read_question T M L (by decide) (ok_take_question T M FD just take_told form (c.d_take_question X G)) (c.d_read_question X G)
  have ck := ok_law_knot (P := P) (w := w) (base := base) T (c.d_law_knot X G)
  have co := ok_law_one T ck (c.d_law_one X G)
  have lname := ok_law_is_name (P := P) (w := w) (base := base) T (c.d_law_is_name X G)
  have ltaken := ok_law_taken T (ok_law_single T lname (ok_law_is_digits T (c.d_law_is_digits X G)) (c.d_law_single X G)) (c.d_law_taken X G)
  have many := ok_law_many (P := P) (w := w) (base := base) T (c.d_law_many X G)
  have asks := ok_law_asks (P := P) (w := w) (base := base) (c.d_law_asks X G)
  have forms := ok_law_forms (P := P) (w := w) (base := base) T (c.d_law_forms X G)
  have papAt : ∀ z ∈ partsTab.map (·.1), ∃ q ∈ papTab, q.2.1 = z := fun z hz => by
    obtain ⟨q, hq, rfl⟩ := List.mem_map.mp hz
    obtain ⟨q', hq', rfl⟩ := List.mem_map.mp hq
    exact ⟨q', hq', rfl⟩
  have F : PapF K (adrK K) (eqAd K) := ⟨fun z hz => by
    obtain ⟨q, hq, rfl⟩ := papAt z hz
    rw [adr_pap hq]
    obtain ⟨a1, a2⟩ := bb (List.all_eq_true.mp p1 q hq)
    exact ⟨kokB_ok a1, _, nmB_ok (bb a2).1⟩, fun z hz => by
    obtain ⟨q, hq, rfl⟩ := papAt z hz
    rw [adr_pap hq]
    obtain ⟨a1, a2⟩ := bb (List.all_eq_true.mp p1 q hq)
    exact papTB_ok (bb (bb a2).2).1⟩
  have R : RF P w K mg base (adrK K) (eqAd K) 20 9 := {
    T := T, N := N, F := F, eq := ok_Paper_eq T N c.d_Paper_eq, ck := ck, co := co, many := many, asks := asks, asked := ok_law_asked T ck co forms (c.d_law_asked X G)
    value := ok_law_value T ck co (c.d_law_value X G) 3, made := ok_law_made paps (c.d_law_made X G), words := ok_law_words T (c.d_law_words X G) 10, text := ok_law_text T (c.d_law_text X G), bent := ok_law_bent T ck co (c.d_law_bent X G)
    pdue := ok_law_paper_due T many ltaken (c.d_law_paper_due X G), qdue := ok_law_question_due T asks forms ltaken (ok_is_of T lname (ok_is_of_name T lname (c.d_law_is_of X G)) (c.d_law_is_of X G)) (c.d_law_question_due X G), byl := ok_law_by_lines T (c.d_law_by_lines X G)
    rp := read_paper, rq := read_question, pt := paper_text, qt := question_text, ansP := ok_law_answered T eBT 20 (c.d_law_answered X G), ansQ := ok_law_answered T eBT 9 (c.d_law_answered X G), lP := by decide, lQ := by decide }
  obtain ⟨b1, b2⟩ := bb p2
  obtain ⟨b2, b3⟩ := bb b2
  obtain ⟨b3, b4⟩ := bb b3
  obtain ⟨n1, n2⟩ := bb p3
  obtain ⟨n2, n3⟩ := bb n2
  obtain ⟨n3, n4⟩ := bb n3
  exact {
    R := R, rope := ok_law_rope T (c.d_law_rope X G), right := ok_law_right R (c.d_law_right X G), refP := ok_law_refused T eBV 13 (c.d_law_refused X G), paps := paps
    pap := ⟨_, mkB_ok b4, gPa, F2⟩
    den := ⟨ma K (ga K "Denial") "__init__", mkB_ok n4, gDe, by rw [of_decide_eq_true c.den]; exact F2⟩
    kp := kokB_ok b1, kd := kokB_ok n1, tp := instB_ok b2, td := instB_ok n2, bp := barePapB_ok b3, bd := barePapB_ok n3, nn := noPapB_ok p4, nl := noPapB_ok p5
    obj := fun m hm => by
      rw [adr_pap (q := ("Comes", "comes", 1)) (by decide +kernel)]
      exact of_decide_eq_true (List.all_eq_true.mp p6 m hm) }
end
end K96

set_option Elab.async false
set_option linter.all false
set_option maxRecDepth 100000
set_option maxHeartbeats 0
/-! The claim. -/
namespace K96
open PySem PySem.Spec PyProof.Rows L2
theorem all_of {w : World} {K : Fr} (e : obsB K = valB w) : AllF (PySem.Challenge.rw_lastcall_k96_texts_of_papers_and_questio).prog w K := by
  obtain ⟨eA, eC⟩ := Prod.mk.inj e
  obtain ⟨e1, e⟩ := Prod.mk.inj eA
  obtain ⟨e4, e5⟩ := Prod.mk.inj e
  obtain ⟨a5, e⟩ := Prod.mk.inj eC
  obtain ⟨e2, e3⟩ := Prod.mk.inj e
  simp only [List.cons.injEq, and_true] at e1
  obtain ⟨a1, a2, a3, a4, a6, a7, a8, a9, a10, a11⟩ := e1
  exact ⟨a1, a2, a3, a4, a5, a6, a7, a8, a9, a10, a11, e2, e3, e4, e5⟩
theorem facts {w : World} {K : Fr} {h : Heap} {mg : PySem.Str → Option Value} {f : Addr} (X : K.In h) (G : h.Ns mainGlobals mg) (hfa : mg ("law" : PySem.Str) = some (.ref f)) (e : obsB K = valB w) :
    ∃ fd : FuncData, (∀ (s : Shared) (v : Value), BindsTo s fd ⟨[v], []⟩ [("script", v)]) ∧ ∀ base : Heap, K.In base → base.Ns mainGlobals mg → FnG (PySem.Challenge.rw_lastcall_k96_texts_of_papers_and_questio).prog w K mg base CX0 45 f fd ["script"] (spLaw K) := by
  have c := all_of e
  obtain ⟨f', fd, F, g⟩ := (c.d_law X G).ex
  have g' : mg ("law" : PySem.Str) = some (.ref f') := g
  rw [hfa] at g'
  cases g'
  have b := FunD.bindsA (ps := ["script"]) F fun _ _ _ _ _ _ us hl => match us, hl with | [_], _ => rfl
  exact ⟨fd, fun s v => b s [v] rfl, fun base _ _ => ok_law (lf_of c X G (by kernel_rfl)) F⟩
end K96
open PySem PySem.W PySem.Calls PyProof.Rows
theorem PySem.Challenge.cw_lastcall_k96_texts_of_papers_and_questio_holds : PySem.Challenge.rw_lastcall_k96_texts_of_papers_and_questio.Holds := by
  w_on; o_law
  refine HandSHeadRun.head_any (r := OpenLaw.row PySem.Challenge.rw_lastcall_k96_texts_of_papers_and_questio) (q := view (OpenLaw.row PySem.Challenge.rw_lastcall_k96_texts_of_papers_and_questio).prog [108]) (H := K96.hk) (ob := K96.ob) (M := 20000) (loose := K96.names) (d := HandSHeadRun.topDef (OpenLaw.row PySem.Challenge.rw_lastcall_k96_texts_of_papers_and_questio).prog 108) (kwd := []) K96.ob_eq
    (by kernel_rfl) (fun s => by kernel_rfl) K96.run (by kernel_rfl) (by kernel_rfl) (by kernel_rfl) (by rfl) (by first | assumption | decide +kernel) (by decide +kernel) ⟨rfl, rfl, rfl, rfl, rfl, by decide +kernel⟩ ?hw ?hc
  case hw => w_witness2
  case hc =>
    refine K96.walk_ofG (l := PySem.Challenge.rw_lastcall_k96_texts_of_papers_and_questio) (n := 63) (k := 45) (x := "script") rfl (by decide) (by kernel_rfl) ⟨rfl, by decide, by decide⟩ ?F
    intro w mg fa h Y G hmg0
    obtain ⟨K, KX, e⟩ := Y
    have hmg : mg ("law" : PySem.Str) = some (.ref fa) := by
      have e : (HandSHeadRun.topDef (OpenLaw.row PySem.Challenge.rw_lastcall_k96_texts_of_papers_and_questio).prog 108).name = ("law" : PySem.Str) := by kernel_rfl
      rw [← e]
      exact hmg0
    obtain ⟨fd, hb, hF⟩ := K96.facts KX G hmg e
    exact ⟨K, fd, K96.spLaw K, KX, hb, fun H a ns hl _ hS => ⟨a, ns, rfl, hS, fun _ => rfl⟩, hF⟩

