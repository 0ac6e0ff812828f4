import PyProof.Rows.All
import Wide.All
import OpenK.AllK
import Wide.FinOn
import HandS.ForMost
import HandS.Defaults
import KE.KStateDown
import KE.KSuper
import KE.KIsAll
import KE.KNestM
import Lean
import HandS.Base
import HandS.Call
import HandS.Ends
import HandS.More
import HandS.Words
import HandS.WordsExc
import HandS.Head0
import HandS.Head1
import HandS.Head2
import HandS.HeadEnd
import HandS.HeadHook1
import HandS.HeadHook2
import HandS.HeadHook3
import HandS.HeadHook4
import HandS.HeadWalk
import HandS.OwnEq
import KE.SortKeyHeap
import HandS.Deep
import HandS.SortKw
import HandS.Lambda
import HandS.DictComp
import HandS.Zip
import PyProof.InstNe
import KE.KTupSum
import KE.KTypeName
import HandS.MakeKwOnly
import HandS.ClsMeth
import HandS.Nested
import HandS.Style
import HandS.Star
import HandS.TupAny
import HandS.IsInst
import HandS.Dict
import KE.OsSortAny
import KE.SortLaws
import KE.SortData
import PyProof.Rows.BitMore
import HandS.List
import PySem.Challenge.RW_ringbars_k77_whole_lengths_or_a_trade
set_option Elab.async false
set_option linter.all false
set_option maxRecDepth 100000
/-! The program's text by places: each def, its names by slot. Printed by mktext.py. -/
namespace RB
open PySem PySem.Spec PyProof.Rows L2
def topS (i : Nat) : Stmt := PySem.Challenge.pw_ringbars_k77_whole_lengths_or_a_trade.main.body.getD i (.Pass ⟨0, 0, 0, 0⟩)
abbrev s_is_integer : Stmt := topS 3
theorem sc_is_integer : FnScope ["value"] ["value"] (defScope s_is_integer) := ⟨rfl, rfl, rfl, by decide +kernel, rfl, by decide +kernel, by decide +kernel⟩
abbrev s_is_within : Stmt := topS 4
theorem sc_is_within : FnScope ["value", "least", "most"] ["value", "least", "most"] (defScope s_is_within) := ⟨rfl, rfl, rfl, by decide +kernel, rfl, by decide +kernel, by decide +kernel⟩
abbrev s_is_numbers : Stmt := topS 5
theorem sc_is_numbers : FnScope ["value", "part"] ["value"] (defScope s_is_numbers) := ⟨rfl, rfl, rfl, by decide +kernel, rfl, by decide +kernel, by decide +kernel⟩
abbrev s_is_lot : Stmt := topS 6
theorem sc_is_lot : FnScope ["value", "part", "one", "other"] ["value"] (defScope s_is_lot) := ⟨rfl, rfl, rfl, by decide +kernel, rfl, by decide +kernel, by decide +kernel⟩
abbrev s_first_twice : Stmt := topS 7
theorem sc_first_twice : FnScope ["values", "seen", "value"] ["values"] (defScope s_first_twice) := ⟨rfl, rfl, rfl, by decide +kernel, rfl, by decide +kernel, by decide +kernel⟩
abbrev s_need_lot_of : Stmt := topS 22
theorem sc_need_lot_of : FnScope ["many", "value", "part", "bar", "twice"] ["many", "value", "part"] (defScope s_need_lot_of) := ⟨rfl, rfl, rfl, by decide +kernel, rfl, by decide +kernel, by decide +kernel⟩
abbrev s_lot_in : Stmt := topS 23
theorem sc_lot_in : FnScope ["value", "many", "part"] ["value", "many", "part"] (defScope s_lot_in) := ⟨rfl, rfl, rfl, by decide +kernel, rfl, by decide +kernel, by decide +kernel⟩
abbrev s_lots_in : Stmt := topS 24
theorem sc_lots_in : FnScope ["value", "many", "part", "lot"] ["value", "many", "part"] (defScope s_lots_in) := ⟨rfl, rfl, rfl, by decide +kernel, rfl, by decide +kernel, by decide +kernel⟩
abbrev s_fixed : Stmt := topS 26
theorem sc_fixed : FnScope ["value", "part"] ["value"] (defScope s_fixed) := ⟨rfl, rfl, rfl, by decide +kernel, rfl, by decide +kernel, by decide +kernel⟩
abbrev s_Paper_init : Stmt := inClass (topS 27) 0
theorem sc_Paper_init : FnScope ["self", "word", "parts"] ["self", "word", "parts"] (defScope s_Paper_init) := ⟨rfl, rfl, rfl, by decide +kernel, rfl, by decide +kernel, by decide +kernel⟩
abbrev s_Paper_bool : Stmt := inClass (topS 27) 1
theorem sc_Paper_bool : FnScope ["self"] ["self"] (defScope s_Paper_bool) := ⟨rfl, rfl, rfl, by decide +kernel, rfl, by decide +kernel, by decide +kernel⟩
abbrev s_Paper_eq : Stmt := inClass (topS 27) 2
theorem sc_Paper_eq : FnScope ["self", "other"] ["self", "other"] (defScope s_Paper_eq) := ⟨rfl, rfl, rfl, by decide +kernel, rfl, by decide +kernel, by decide +kernel⟩
abbrev s_Denial_bool : Stmt := inClass (topS 28) 0
theorem sc_Denial_bool : FnScope ["self"] ["self"] (defScope s_Denial_bool) := ⟨rfl, rfl, rfl, by decide +kernel, rfl, by decide +kernel, by decide +kernel⟩
abbrev s_Book_init : Stmt := inClass (topS 32) 0
theorem sc_Book_init : FnScope ["self", "many", "greatest", "lots"] ["self", "many", "greatest"] (defScope s_Book_init) := ⟨rfl, rfl, rfl, by decide +kernel, rfl, by decide +kernel, by decide +kernel⟩
abbrev s_lot_key : Stmt := topS 33
theorem sc_lot_key : FnScope ["lot"] ["lot"] (defScope s_lot_key) := ⟨rfl, rfl, rfl, by decide +kernel, rfl, by decide +kernel, by decide +kernel⟩
abbrev s_mask_of : Stmt := topS 34
theorem sc_mask_of : FnScope ["lot", "bar"] ["lot"] (defScope s_mask_of) := ⟨rfl, rfl, rfl, by decide +kernel, rfl, by decide +kernel, by decide +kernel⟩
abbrev s_lot_of : Stmt := topS 35
theorem sc_lot_of : FnScope ["mask", "bar"] ["mask"] (defScope s_lot_of) := ⟨rfl, rfl, rfl, by decide +kernel, rfl, by decide +kernel, by decide +kernel⟩
abbrev s_table_by : Stmt := topS 36
theorem sc_table_by : FnScope ["many", "lots", "masks", "lot", "mask", "one"] ["many", "lots"] (defScope s_table_by) := ⟨rfl, rfl, rfl, by decide +kernel, rfl, by decide +kernel, by decide +kernel⟩
abbrev s_is_parted : Stmt := topS 37
theorem sc_is_parted : FnScope ["table", "mask", "is_short"] ["table"] (defScope s_is_parted) := ⟨rfl, rfl, rfl, by decide +kernel, rfl, by decide +kernel, by decide +kernel⟩
abbrev s_greatest_of : Stmt := topS 38
theorem sc_greatest_of : FnScope ["table", "found", "mask", "is_short", "above", "bar", "one"] ["table"] (defScope s_greatest_of) := ⟨rfl, rfl, rfl, by decide +kernel, rfl, by decide +kernel, by decide +kernel⟩
abbrev s_need_book : Stmt := topS 39
theorem sc_need_book : FnScope ["value", "part"] ["value", "part"] (defScope s_need_book) := ⟨rfl, rfl, rfl, by decide +kernel, rfl, by decide +kernel, by decide +kernel⟩
abbrev s_Lengths_init : Stmt := inClass (topS 41) 0
abbrev s_Trade_init : Stmt := inClass (topS 42) 0
abbrev s_beaten_lot : Stmt := topS 43
theorem sc_beaten_lot : FnScope ["book", "one", "other", "mask"] ["book", "one", "other"] (defScope s_beaten_lot) := ⟨rfl, rfl, rfl, by decide +kernel, rfl, by decide +kernel, by decide +kernel⟩
abbrev s_at_odds : Stmt := topS 44
theorem sc_at_odds : FnScope ["book", "one", "other"] ["book"] (defScope s_at_odds) := ⟨rfl, rfl, rfl, by decide +kernel, rfl, by decide +kernel, by decide +kernel⟩
abbrev s_are_equals : Stmt := topS 45
theorem sc_are_equals : FnScope ["book", "one", "other"] ["book", "one", "other"] (defScope s_are_equals) := ⟨rfl, rfl, rfl, by decide +kernel, rfl, by decide +kernel, by decide +kernel⟩
abbrev s_equals : Stmt := topS 46
theorem sc_equals : FnScope ["book", "found", "bar", "lots", "lot"] ["book"] (defScope s_equals) := ⟨rfl, rfl, rfl, by decide +kernel, rfl, by decide +kernel, by decide +kernel⟩
abbrev s_are_lengths : Stmt := topS 47
theorem sc_are_lengths : FnScope ["value", "many", "length"] ["value", "many"] (defScope s_are_lengths) := ⟨rfl, rfl, rfl, by decide +kernel, rfl, by decide +kernel, by decide +kernel⟩
abbrev s_are_had : Stmt := topS 48
theorem sc_are_had : FnScope ["book", "lengths", "total", "mask", "is_short", "twice", "bar"] ["book", "lengths"] (defScope s_are_had) := ⟨rfl, rfl, rfl, by decide +kernel, rfl, by decide +kernel, by decide +kernel⟩
abbrev s_has_lengths : Stmt := topS 49
theorem sc_has_lengths : FnScope ["book", "lengths"] ["book", "lengths"] (defScope s_has_lengths) := ⟨rfl, rfl, rfl, by decide +kernel, rfl, by decide +kernel, by decide +kernel⟩
abbrev s_rising : Stmt := topS 50
theorem sc_rising : FnScope ["sizes", "least", "total", "found", "length", "rest"] ["sizes", "least", "total"] (defScope s_rising) := ⟨rfl, rfl, rfl, by decide +kernel, rfl, by decide +kernel, by decide +kernel⟩
abbrev s_least_lengths : Stmt := topS 51
theorem sc_least_lengths : FnScope ["book", "lots", "total", "row", "told", "lengths", "lot", "length", "bar"] ["book"] (defScope s_least_lengths) := ⟨rfl, rfl, rfl, by decide +kernel, rfl, by decide +kernel, by decide +kernel⟩
abbrev s_shorts_with : Stmt := topS 52
theorem sc_shorts_with : FnScope ["book", "bar", "mask", "is_short"] ["book", "bar"] (defScope s_shorts_with) := ⟨rfl, rfl, rfl, by decide +kernel, rfl, by decide +kernel, by decide +kernel⟩
abbrev s_trade_by : Stmt := topS 53
theorem sc_trade_by : FnScope ["book", "one", "other", "low", "high", "short"] ["book", "one", "other"] (defScope s_trade_by) := ⟨rfl, rfl, rfl, by decide +kernel, rfl, by decide +kernel, by decide +kernel⟩
abbrev s_lengths_for : Stmt := topS 54
theorem sc_lengths_for : FnScope ["book", "bars"] ["book"] (defScope s_lengths_for) := ⟨rfl, rfl, rfl, by decide +kernel, rfl, by decide +kernel, by decide +kernel⟩
abbrev s_are_lots : Stmt := topS 56
theorem sc_are_lots : FnScope ["value", "many", "lot", "bar"] ["value", "many"] (defScope s_are_lots) := ⟨rfl, rfl, rfl, by decide +kernel, rfl, by decide +kernel, by decide +kernel⟩
abbrev s_is_trade : Stmt := topS 57
theorem sc_is_trade : FnScope ["book", "value", "lot", "bar"] ["book", "value"] (defScope s_is_trade) := ⟨rfl, rfl, rfl, by decide +kernel, rfl, by decide +kernel, by decide +kernel⟩
abbrev s_shows_lengths : Stmt := topS 58
theorem sc_shows_lengths : FnScope ["book", "value"] ["book", "value"] (defScope s_shows_lengths) := ⟨rfl, rfl, rfl, by decide +kernel, rfl, by decide +kernel, by decide +kernel⟩
abbrev s_L_hat : Stmt := topS 60
theorem sc_L_hat : FnScope ["_law_script", "_law_cell"] ["_law_script"] (defScope s_L_hat) := ⟨rfl, rfl, rfl, by decide +kernel, rfl, by decide +kernel, by decide +kernel⟩
abbrev s_L_lot : Stmt := topS 61
theorem sc_L_lot : FnScope ["_law_hat_here", "_law_many", "_law_digit", "_law_at", "_law_cell", "_law_great", "_law_mixed_here"] ["_law_hat_here", "_law_many"] (defScope s_L_lot) := ⟨rfl, rfl, rfl, by decide +kernel, rfl, by decide +kernel, by decide +kernel⟩
abbrev s_L_one : Stmt := topS 62
theorem sc_L_one : FnScope ["_law_hat_here", "_law_some"] ["_law_hat_here", "_law_some"] (defScope s_L_one) := ⟨rfl, rfl, rfl, by decide +kernel, rfl, by decide +kernel, by decide +kernel⟩
abbrev s_L_lots : Stmt := topS 63
theorem sc_L_lots : FnScope ["_law_many", "_law_found", "_law_bar", "_law_lot_here", "_law_pair"] ["_law_many"] (defScope s_L_lots) := ⟨rfl, rfl, rfl, by decide +kernel, rfl, by decide +kernel, by decide +kernel⟩
abbrev s_L_others : Stmt := topS 64
theorem sc_L_others : FnScope ["_law_lot_here", "_law_many", "_law_bar"] ["_law_lot_here", "_law_many"] (defScope s_L_others) := ⟨rfl, rfl, rfl, by decide +kernel, rfl, by decide +kernel, by decide +kernel⟩
abbrev s_L_lies : Stmt := topS 65
theorem sc_L_lies : FnScope ["_law_one_here", "_law_other", "_law_bar"] ["_law_one_here", "_law_other"] (defScope s_L_lies) := ⟨rfl, rfl, rfl, by decide +kernel, rfl, by decide +kernel, by decide +kernel⟩
abbrev s_L_greatest : Stmt := topS 66
theorem sc_L_greatest : FnScope ["_law_shorts_here", "_law_found", "_law_lot_here", "_law_other", "_law_pair"] ["_law_shorts_here"] (defScope s_L_greatest) := ⟨rfl, rfl, rfl, by decide +kernel, rfl, by decide +kernel, by decide +kernel⟩
abbrev s_L_of_lengths : Stmt := topS 67
theorem sc_L_of_lengths : FnScope ["_law_lengths_here", "_law_total", "_law_lot_here", "_law_bar"] ["_law_lengths_here"] (defScope s_L_of_lengths) := ⟨rfl, rfl, rfl, by decide +kernel, rfl, by decide +kernel, by decide +kernel⟩
abbrev s_L_stepped : Stmt := topS 68
theorem sc_L_stepped : FnScope ["_law_shorts_here", "_law_lot_here", "_law_many", "_law_told", "_law_one_here", "_law_pair"] ["_law_shorts_here", "_law_lot_here", "_law_many"] (defScope s_L_stepped) := ⟨rfl, rfl, rfl, by decide +kernel, rfl, by decide +kernel, by decide +kernel⟩
abbrev s_L_lengths : Stmt := topS 69
theorem sc_L_lengths : FnScope ["_law_hat_here", "_law_many", "_law_most", "_law_found", "_law_bar"] ["_law_hat_here", "_law_many"] (defScope s_L_lengths) := ⟨rfl, rfl, rfl, by decide +kernel, rfl, by decide +kernel, by decide +kernel⟩
abbrev s_L_shorts : Stmt := topS 70
theorem sc_L_shorts : FnScope ["_law_hat_here", "_law_many", "_law_shorts_here", "_law_turn"] ["_law_hat_here", "_law_many"] (defScope s_L_shorts) := ⟨rfl, rfl, rfl, by decide +kernel, rfl, by decide +kernel, by decide +kernel⟩
abbrev s_L_mixed : Stmt := topS 71
theorem sc_L_mixed : FnScope ["_law_hat_here", "_law_some", "_law_found", "_law_one_here"] ["_law_hat_here", "_law_some"] (defScope s_L_mixed) := ⟨rfl, rfl, rfl, by decide +kernel, rfl, by decide +kernel, by decide +kernel⟩
abbrev s_L_book : Stmt := topS 72
theorem sc_L_book : FnScope ["_law_hat_here", "_law_many", "_law_shorts_here", "_law_told", "_law_lot_here"] ["_law_hat_here", "_law_many", "_law_shorts_here"] (defScope s_L_book) := ⟨rfl, rfl, rfl, by decide +kernel, rfl, by decide +kernel, by decide +kernel⟩
abbrev s_L_beaten : Stmt := topS 73
theorem sc_L_beaten : FnScope ["_law_shorts_here", "_law_many", "_law_one_here", "_law_other", "_law_lot_here"] ["_law_shorts_here", "_law_many", "_law_one_here", "_law_other"] (defScope s_L_beaten) := ⟨rfl, rfl, rfl, by decide +kernel, rfl, by decide +kernel, by decide +kernel⟩
abbrev s_L_odds : Stmt := topS 74
theorem sc_L_odds : FnScope ["_law_shorts_here", "_law_many", "_law_found", "_law_one_here", "_law_other", "_law_low", "_law_high"] ["_law_shorts_here", "_law_many"] (defScope s_L_odds) := ⟨rfl, rfl, rfl, by decide +kernel, rfl, by decide +kernel, by decide +kernel⟩
abbrev s_L_is_trade : Stmt := topS 75
theorem sc_L_is_trade : FnScope ["_law_shorts_here", "_law_many", "_law_mine", "_law_its", "_law_sums", "_law_lot_here", "_law_lots_here", "_law_bar"] ["_law_shorts_here", "_law_many", "_law_mine", "_law_its"] (defScope s_L_is_trade) := ⟨rfl, rfl, rfl, by decide +kernel, rfl, by decide +kernel, by decide +kernel⟩
abbrev s_L_lengths_right : Stmt := topS 76
theorem sc_L_lengths_right : FnScope ["_law_hat_here", "_law_many", "_law_shorts_here", "_law_book_here", "_law_told", "_law_lengths_here", "_law_times", "_law_more", "_law_length"] ["_law_hat_here", "_law_many", "_law_shorts_here", "_law_book_here", "_law_told"] (defScope s_L_lengths_right) := ⟨rfl, rfl, rfl, by decide +kernel, rfl, by decide +kernel, by decide +kernel⟩
abbrev s_L_trade_right : Stmt := topS 77
theorem sc_L_trade_right : FnScope ["_law_hat_here", "_law_many", "_law_shorts_here", "_law_book_here", "_law_told", "_law_odds_here", "_law_turn", "_law_lengths_here", "_law_one_here", "_law_other", "_law_low", "_law_high", "_law_mine", "_law_its", "_law_twice"] ["_law_hat_here", "_law_many", "_law_shorts_here", "_law_book_here", "_law_told", "_law_odds_here"] (defScope s_L_trade_right) := ⟨rfl, rfl, rfl, by decide +kernel, rfl, by decide +kernel, by decide +kernel⟩
abbrev s_law : Stmt := topS 78
theorem sc_law : FnScope ["_law_script", "_law_hat_here", "_law_lap", "_law_many", "_law_shorts_here", "_law_book_here", "_law_odds_here", "_law_told"] ["_law_script"] (defScope s_law) := ⟨rfl, rfl, rfl, by decide +kernel, rfl, by decide +kernel, by decide +kernel⟩
end RB
set_option Elab.async false
set_option linter.all false
set_option maxRecDepth 100000
set_option maxHeartbeats 0
/-! What the head is asked: each def, each name, the classes; an own hook. Printed by mkhead2.py. -/
namespace RB
open PySem PySem.Spec PyProof.Rows L2
def d_is_integer : He.DefD := ⟨("is_integer", none), "is_integer", "is_integer", defArgs s_is_integer, defBody s_is_integer, defScope s_is_integer, [], []⟩
def d_is_within : He.DefD := ⟨("is_within", none), "is_within", "is_within", defArgs s_is_within, defBody s_is_within, defScope s_is_within, [], []⟩
def d_is_numbers : He.DefD := ⟨("is_numbers", none), "is_numbers", "is_numbers", defArgs s_is_numbers, defBody s_is_numbers, defScope s_is_numbers, [], []⟩
def d_is_lot : He.DefD := ⟨("is_lot", none), "is_lot", "is_lot", defArgs s_is_lot, defBody s_is_lot, defScope s_is_lot, [], []⟩
def d_first_twice : He.DefD := ⟨("first_twice", none), "first_twice", "first_twice", defArgs s_first_twice, defBody s_first_twice, defScope s_first_twice, [], []⟩
def d_need_lot_of : He.DefD := ⟨("need_lot_of", none), "need_lot_of", "need_lot_of", defArgs s_need_lot_of, defBody s_need_lot_of, defScope s_need_lot_of, [], []⟩
def d_lot_in : He.DefD := ⟨("lot_in", none), "lot_in", "lot_in", defArgs s_lot_in, defBody s_lot_in, defScope s_lot_in, [], []⟩
def d_lots_in : He.DefD := ⟨("lots_in", none), "lots_in", "lots_in", defArgs s_lots_in, defBody s_lots_in, defScope s_lots_in, [], []⟩
def d_fixed : He.DefD := ⟨("fixed", none), "fixed", "fixed", defArgs s_fixed, defBody s_fixed, defScope s_fixed, [], []⟩
def d_Paper_init : He.DefD := ⟨("Paper", some "__init__"), "__init__", "Paper.__init__", defArgs s_Paper_init, defBody s_Paper_init, defScope s_Paper_init, [], []⟩
def d_Paper_bool : He.DefD := ⟨("Paper", some "__bool__"), "__bool__", "Paper.__bool__", defArgs s_Paper_bool, defBody s_Paper_bool, defScope s_Paper_bool, [], []⟩
def d_Paper_eq : He.DefD := ⟨("Paper", some "__eq__"), "__eq__", "Paper.__eq__", defArgs s_Paper_eq, defBody s_Paper_eq, defScope s_Paper_eq, [], []⟩
def d_Denial_bool : He.DefD := ⟨("Denial", some "__bool__"), "__bool__", "Denial.__bool__", defArgs s_Denial_bool, defBody s_Denial_bool, defScope s_Denial_bool, [], []⟩
def d_Book_init : He.DefD := ⟨("Book", some "__init__"), "__init__", "Book.__init__", defArgs s_Book_init, defBody s_Book_init, defScope s_Book_init, [], []⟩
def d_lot_key : He.DefD := ⟨("lot_key", none), "lot_key", "lot_key", defArgs s_lot_key, defBody s_lot_key, defScope s_lot_key, [], []⟩
def d_mask_of : He.DefD := ⟨("mask_of", none), "mask_of", "mask_of", defArgs s_mask_of, defBody s_mask_of, defScope s_mask_of, [], []⟩
def d_lot_of : He.DefD := ⟨("lot_of", none), "lot_of", "lot_of", defArgs s_lot_of, defBody s_lot_of, defScope s_lot_of, [], []⟩
def d_table_by : He.DefD := ⟨("table_by", none), "table_by", "table_by", defArgs s_table_by, defBody s_table_by, defScope s_table_by, [], []⟩
def d_is_parted : He.DefD := ⟨("is_parted", none), "is_parted", "is_parted", defArgs s_is_parted, defBody s_is_parted, defScope s_is_parted, [], []⟩
def d_greatest_of : He.DefD := ⟨("greatest_of", none), "greatest_of", "greatest_of", defArgs s_greatest_of, defBody s_greatest_of, defScope s_greatest_of, [], []⟩
def d_need_book : He.DefD := ⟨("need_book", none), "need_book", "need_book", defArgs s_need_book, defBody s_need_book, defScope s_need_book, [], []⟩
def d_beaten_lot : He.DefD := ⟨("beaten_lot", none), "beaten_lot", "beaten_lot", defArgs s_beaten_lot, defBody s_beaten_lot, defScope s_beaten_lot, [], []⟩
def d_at_odds : He.DefD := ⟨("at_odds", none), "at_odds", "at_odds", defArgs s_at_odds, defBody s_at_odds, defScope s_at_odds, [], []⟩
def d_are_equals : He.DefD := ⟨("are_equals", none), "are_equals", "are_equals", defArgs s_are_equals, defBody s_are_equals, defScope s_are_equals, [], []⟩
def d_equals : He.DefD := ⟨("equals", none), "equals", "equals", defArgs s_equals, defBody s_equals, defScope s_equals, [], []⟩
def d_are_lengths : He.DefD := ⟨("are_lengths", none), "are_lengths", "are_lengths", defArgs s_are_lengths, defBody s_are_lengths, defScope s_are_lengths, [], []⟩
def d_are_had : He.DefD := ⟨("are_had", none), "are_had", "are_had", defArgs s_are_had, defBody s_are_had, defScope s_are_had, [], []⟩
def d_has_lengths : He.DefD := ⟨("has_lengths", none), "has_lengths", "has_lengths", defArgs s_has_lengths, defBody s_has_lengths, defScope s_has_lengths, [], []⟩
def d_rising : He.DefD := ⟨("rising", none), "rising", "rising", defArgs s_rising, defBody s_rising, defScope s_rising, [], []⟩
def d_least_lengths : He.DefD := ⟨("least_lengths", none), "least_lengths", "least_lengths", defArgs s_least_lengths, defBody s_least_lengths, defScope s_least_lengths, [], []⟩
def d_shorts_with : He.DefD := ⟨("shorts_with", none), "shorts_with", "shorts_with", defArgs s_shorts_with, defBody s_shorts_with, defScope s_shorts_with, [], []⟩
def d_trade_by : He.DefD := ⟨("trade_by", none), "trade_by", "trade_by", defArgs s_trade_by, defBody s_trade_by, defScope s_trade_by, [], []⟩
def d_lengths_for : He.DefD := ⟨("lengths_for", none), "lengths_for", "lengths_for", defArgs s_lengths_for, defBody s_lengths_for, defScope s_lengths_for, [], []⟩
def d_are_lots : He.DefD := ⟨("are_lots", none), "are_lots", "are_lots", defArgs s_are_lots, defBody s_are_lots, defScope s_are_lots, [], []⟩
def d_is_trade : He.DefD := ⟨("is_trade", none), "is_trade", "is_trade", defArgs s_is_trade, defBody s_is_trade, defScope s_is_trade, [], []⟩
def d_shows_lengths : He.DefD := ⟨("shows_lengths", none), "shows_lengths", "shows_lengths", defArgs s_shows_lengths, defBody s_shows_lengths, defScope s_shows_lengths, [], []⟩
def d_L_hat : He.DefD := ⟨("_law_hat", none), "_law_hat", "_law_hat", defArgs s_L_hat, defBody s_L_hat, defScope s_L_hat, [], []⟩
def d_L_lot : He.DefD := ⟨("_law_lot", none), "_law_lot", "_law_lot", defArgs s_L_lot, defBody s_L_lot, defScope s_L_lot, [], []⟩
def d_L_one : He.DefD := ⟨("_law_one", none), "_law_one", "_law_one", defArgs s_L_one, defBody s_L_one, defScope s_L_one, [], []⟩
def d_L_lots : He.DefD := ⟨("_law_lots", none), "_law_lots", "_law_lots", defArgs s_L_lots, defBody s_L_lots, defScope s_L_lots, [], []⟩
def d_L_others : He.DefD := ⟨("_law_others", none), "_law_others", "_law_others", defArgs s_L_others, defBody s_L_others, defScope s_L_others, [], []⟩
def d_L_lies : He.DefD := ⟨("_law_lies", none), "_law_lies", "_law_lies", defArgs s_L_lies, defBody s_L_lies, defScope s_L_lies, [], []⟩
def d_L_greatest : He.DefD := ⟨("_law_greatest", none), "_law_greatest", "_law_greatest", defArgs s_L_greatest, defBody s_L_greatest, defScope s_L_greatest, [], []⟩
def d_L_of_lengths : He.DefD := ⟨("_law_of_lengths", none), "_law_of_lengths", "_law_of_lengths", defArgs s_L_of_lengths, defBody s_L_of_lengths, defScope s_L_of_lengths, [], []⟩
def d_L_stepped : He.DefD := ⟨("_law_stepped", none), "_law_stepped", "_law_stepped", defArgs s_L_stepped, defBody s_L_stepped, defScope s_L_stepped, [], []⟩
def d_L_lengths : He.DefD := ⟨("_law_lengths", none), "_law_lengths", "_law_lengths", defArgs s_L_lengths, defBody s_L_lengths, defScope s_L_lengths, [], []⟩
def d_L_shorts : He.DefD := ⟨("_law_shorts", none), "_law_shorts", "_law_shorts", defArgs s_L_shorts, defBody s_L_shorts, defScope s_L_shorts, [], []⟩
def d_L_mixed : He.DefD := ⟨("_law_mixed", none), "_law_mixed", "_law_mixed", defArgs s_L_mixed, defBody s_L_mixed, defScope s_L_mixed, [], []⟩
def d_L_book : He.DefD := ⟨("_law_book", none), "_law_book", "_law_book", defArgs s_L_book, defBody s_L_book, defScope s_L_book, [], []⟩
def d_L_beaten : He.DefD := ⟨("_law_beaten", none), "_law_beaten", "_law_beaten", defArgs s_L_beaten, defBody s_L_beaten, defScope s_L_beaten, [], []⟩
def d_L_odds : He.DefD := ⟨("_law_odds", none), "_law_odds", "_law_odds", defArgs s_L_odds, defBody s_L_odds, defScope s_L_odds, [], []⟩
def d_L_is_trade : He.DefD := ⟨("_law_is_trade", none), "_law_is_trade", "_law_is_trade", defArgs s_L_is_trade, defBody s_L_is_trade, defScope s_L_is_trade, [], []⟩
def d_L_lengths_right : He.DefD := ⟨("_law_lengths_right", none), "_law_lengths_right", "_law_lengths_right", defArgs s_L_lengths_right, defBody s_L_lengths_right, defScope s_L_lengths_right, [], []⟩
def d_L_trade_right : He.DefD := ⟨("_law_trade_right", none), "_law_trade_right", "_law_trade_right", defArgs s_L_trade_right, defBody s_L_trade_right, defScope s_L_trade_right, [], []⟩
def d_law : He.DefD := ⟨("law", none), "law", "law", defArgs s_law, defBody s_law, defScope s_law, [], []⟩
def fn0 : List He.DefD := [d_is_integer, d_is_within, d_is_numbers, d_is_lot, d_first_twice, d_need_lot_of, d_lot_in, d_lots_in, d_fixed, d_lot_key, d_mask_of, d_lot_of, d_table_by, d_is_parted, d_greatest_of, d_need_book, d_beaten_lot, d_at_odds, d_are_equals, d_equals]
def fn1 : List He.DefD := [d_are_lengths, d_are_had, d_has_lengths, d_rising, d_least_lengths, d_shorts_with, d_trade_by, d_lengths_for, d_are_lots, d_is_trade, d_shows_lengths, d_L_hat, d_L_lot, d_L_one, d_L_lots, d_L_others, d_L_lies, d_L_greatest, d_L_of_lengths, d_L_stepped]
def fn2 : List He.DefD := [d_L_lengths, d_L_shorts, d_L_mixed, d_L_book, d_L_beaten, d_L_odds, d_L_is_trade, d_L_lengths_right, d_L_trade_right, d_law]
def fnM : List He.DefD := [d_Paper_init, d_Paper_bool, d_Paper_eq, d_Denial_bool, d_Book_init]
def fn : List He.DefD := fn0 ++ fn1 ++ fn2 ++ fnM
def fg0 : List He.Fa := [.glo "is_integer", .glo "is_within", .glo "is_numbers", .glo "is_lot", .glo "first_twice", .glo "need_lot_of", .glo "lot_in", .glo "lots_in", .glo "fixed", .glo "lot_key", .glo "mask_of", .glo "lot_of", .glo "table_by", .glo "is_parted", .glo "greatest_of", .glo "need_book", .glo "beaten_lot", .glo "at_odds", .glo "are_equals", .glo "equals"]
def fg1 : List He.Fa := [.glo "are_lengths", .glo "are_had", .glo "has_lengths", .glo "rising", .glo "least_lengths", .glo "shorts_with", .glo "trade_by", .glo "lengths_for", .glo "are_lots", .glo "is_trade", .glo "shows_lengths", .glo "_law_hat", .glo "_law_lot", .glo "_law_one", .glo "_law_lots", .glo "_law_others", .glo "_law_lies", .glo "_law_greatest", .glo "_law_of_lengths", .glo "_law_stepped"]
def fg2 : List He.Fa := [.glo "_law_lengths", .glo "_law_shorts", .glo "_law_mixed", .glo "_law_book", .glo "_law_beaten", .glo "_law_odds", .glo "_law_is_trade", .glo "_law_lengths_right", .glo "_law_trade_right", .glo "law"]
def ff : List He.Fa := [.free "isinstance", .free "int", .free "bool", .free "list", .free "tuple", .free "all", .free "any", .free "zip", .free "range", .free "sorted", .free "sum", .free "enumerate", .free "len", .free "abs", .free "super"]
def fm : List He.Fa := [.glo "Book", .glo "Lengths", .glo "Trade", .glo "Paper", .glo "Denial", .int "MOST" 6, .int "FEWEST" 3, .cls "Book", .cls "Lengths", .cls "Trade", .mkr "Book", .mkr "Lengths", .mkr "Trade", .noat "Book" "table", .noat "Book" "many", .noat "Book" "greatest", .noat "Lengths" "word", .noat "Lengths" "parts", .noat "Lengths" "lengths", .noat "Trade" "word", .noat "Trade" "parts", .noat "Trade" "short", .noat "Trade" "long"]
def fa : List He.Fa := fg0 ++ fg1 ++ fg2 ++ ff ++ fm
def lo0 : List PySem.Str := ["_wall", "DIGITS", "is_integer", "is_within", "is_numbers", "is_lot", "first_twice", "RingError", "BadLot", "BadBook", "BadNumber", "Missing", "NoBar", "Twice", "BadText", "MOST_DIGITS", "number_in", "Scan", "need_lot_of", "lot_in", "lots_in", "fixed", "Paper", "Denial", "FEWEST", "MOST", "Book", "lot_key", "mask_of", "lot_of"]
def lo1 : List PySem.Str := ["table_by", "is_parted", "greatest_of", "need_book", "Lengths", "Trade", "beaten_lot", "at_odds", "are_equals", "equals", "are_lengths", "are_had", "has_lengths", "rising", "least_lengths", "shorts_with", "trade_by", "lengths_for", "are_lots", "is_trade", "shows_lengths", "_law_hat", "_law_lot", "_law_one", "_law_lots", "_law_others", "_law_lies", "_law_greatest", "_law_of_lengths", "_law_stepped"]
def lo2 : List PySem.Str := ["_law_lengths", "_law_shorts", "_law_mixed", "_law_book", "_law_beaten", "_law_odds", "_law_is_trade", "_law_lengths_right", "_law_trade_right"]
def lo : List PySem.Str := lo0 ++ lo1 ++ lo2
abbrev Pg : Program := PySem.Challenge.pw_ringbars_k77_whole_lengths_or_a_trade
/-! ### the further facts -/
def insB (K : PySem.W.Frag) (C : Addr) : Bool := He.eqO (PySem.W.findIn K (.ref C) "__class__") (some (some (.builtin "object.__class__"))) && decide (PySem.W.mroIn K C (.type "object") = some true)
def clsG (K : PySem.W.Frag) : Bool := He.eqO (PySem.W.specialIn K (.builtin "object.__class__") "__get__") (some (some (.builtin "getset_descriptor.__get__"))) && decide (PySem.W.takesIn K (.builtin "object.__class__") = some true)
def kitB' (K : PySem.W.Frag) (C D : Addr) (b : Bool) : Bool := decide (PySem.W.kitOne K (.ref C) (.ref D) = some b)
def mthB (K : PySem.W.Frag) (C D : Addr) (x : Str) : Bool := He.eqO (PySem.W.findIn K (.ref C) x) (some (some (.ref (He.ma K D x)))) && PySem.W.isFn K (.ref (He.ma K D x))
def neB (K : PySem.W.Frag) (C : Addr) : Bool := He.eqO (PySem.W.findIn K (.ref C) "__ne__") (some (some (.builtin "object.__ne__")))
def fcB (K : PySem.W.Frag) (C : Addr) : Bool := match PySem.W.findCls K (.ref C) (.type "type") "__name__" with
  | some (.get (.builtin g) (.builtin n) (.ref D) (.type t)) => decide (g = "getset_descriptor.__get__") && (decide (n = "type.__name__") && (decide (D = C) && decide (t = "type")))
  | _ => false
def slB (K : PySem.W.Frag) (C : Addr) (nm : Str) : Bool := match K.lookup C with
  | some ⟨_, _, .cls _, sl⟩ => (match (sl[2]? : Option (Option Value)) with
    | some (some (.str x _)) => decide (x = nm)
    | _ => false)
  | _ => false
def nameB (K : PySem.W.Frag) (C : Addr) (nm : Str) : Bool := PySem.W.plainGet K C "__class__" && (PySem.W.hasDictIn K C && (PySem.W.readsIn K C (.type "type") && (decide (PySem.W.typeIn K (.ref C) = some (.type "type")) && (fcB K C && slB K C nm))))
def celB (K : PySem.W.Frag) (cc C : Addr) : Bool := match K.lookup cc with
  | some ⟨_, _, .cell (some (.ref D)), _⟩ => decide (D = C)
  | _ => false
def filB (K : PySem.W.Frag) (cd : Addr) : Bool := match K.lookup cd with
  | some ⟨_, _, .fields vs, _⟩ => (match (vs[2]? : Option Value) with
    | some (.str fl _) => ((Pg.main.file : Str) == fl)
    | _ => false)
  | _ => false
/-- the function of a class that calls super().__init__: its closure, its code -/
def cloB (K : PySem.W.Frag) (f C : Addr) (q : Str) : Bool := match K.lookup f with
  | some ⟨_, _, .func fd, _⟩ => (match fd.closure, fd.defaults, fd.kwdefaults, fd.code with
    | [(x, cc)], .none, .none, .ref cd => decide (x = "__class__") && (celB K cc C && (PySem.W.codeIn K (.ref cd) q && filB K cd))
    | _, _, _, _ => false)
  | _ => false
def supB (K : PySem.W.Frag) (C f2 : Addr) (q : Str) : Bool := cloB K (He.ma K C "__init__") C q && (decide (PySem.W.mroIn K C (.ref C) = some true) && (He.eqO (PySem.W.nsIn K cStatics "thirdparty.any") (some none) && (He.eqO (PySem.W.ks_superIn K C C "__init__") (some (some (.ref f2))) &&
  (decide (PySem.W.typeIn K (.ref f2) = some (.type "function")) && PySem.W.fnIn K f2))))
abbrev aB (K : PySem.W.Frag) : Addr := He.ga K "Book"
abbrev aL (K : PySem.W.Frag) : Addr := He.ga K "Lengths"
abbrev aT (K : PySem.W.Frag) : Addr := He.ga K "Trade"
abbrev aP (K : PySem.W.Frag) : Addr := He.ga K "Paper"
abbrev aD (K : PySem.W.Frag) : Addr := He.ga K "Denial"
def exL (K : PySem.W.Frag) : List Bool := [insB K (aB K), insB K (aL K), insB K (aT K), clsG K, kitB' K (aB K) (aB K) true, kitB' K (aL K) (aL K) true, kitB' K (aL K) (aT K) false, kitB' K (aT K) (aT K) true, kitB' K (aL K) (aP K) true, kitB' K (aT K) (aP K) true, kitB' K (aL K) (aD K) false, kitB' K (aT K) (aD K) true,
  mthB K (aL K) (aP K) "__bool__", mthB K (aT K) (aD K) "__bool__", mthB K (aL K) (aP K) "__eq__", mthB K (aT K) (aP K) "__eq__", neB K (aL K), neB K (aT K), nameB K (aL K) "Lengths", nameB K (aT K) "Trade", supB K (aL K) (He.ma K (aP K) "__init__") "Lengths.__init__", supB K (aT K) (He.ma K (aP K) "__init__") "Trade.__init__"]
def exB (K : PySem.W.Frag) : Bool := (exL K).all id
/-! ### the two functions with a closure -/
abbrev FnC : Type := Option (Str × Str × Arguments × FuncBody × Scope × Addr × Addr)
def fnC (K : PySem.W.Frag) (C : Addr) : FnC := match K.lookup (He.ma K C "__init__") with
  | some ⟨_, _, .func fd, _⟩ => some (fd.name, fd.qualname, fd.params, fd.body, fd.scope, fd.globals, fd.builtins)
  | _ => none
def valC (q : Str) (st : Stmt) : FnC := some ("__init__", q, defArgs st, .stmts (defBody st), defScope st, mainGlobals, builtinsNs)
/-! ### the hook -/
abbrev tl : Str × Option Str := ("least_lengths", none)
abbrev AlY : Type := He.AlD × FnC × FnC × Bool
def tabB (g : Addr → Option Obj) (K : PySem.W.Frag) : Bool := PySem.W.codeHdIn K (He.cT K tl).1 (He.cT K tl).2 && (match g (He.cT K tl).2 with
  | some o => He.emptyTab o
  | none => false)
/-- what the objects at these addresses name, but the two namespaces that every function names -/
def namedOf (g : Addr → Option Obj) (as : List Addr) : List Addr := (as.flatMap fun a => match g a with
  | some o => He.refsD o
  | none => []).filter fun a => !(a == mainGlobals || a == builtinsNs)
def namedUp (g : Addr → Option Obj) : Nat → List Addr → List Addr
  | 0, l => l
  | n + 1, l => l ++ namedUp g n (namedOf g l)
def asY (g : Addr → Option Obj) : List Addr := cStatics :: namedUp g 4 [mainGlobals]
def obsY (g : Addr → Option Obj) (K : PySem.W.Frag) : AlY := (He.obsD fa fn K, fnC K (aL K), fnC K (aT K), exB K && tabB g K)
def obsYG (g : Addr → Option Obj) : AlY := obsY g (He.frT g (asY g))
def valY : AlY := (He.valD fn, valC "Lengths.__init__" s_Lengths_init, valC "Trade.__init__" s_Trade_init, true)
structure SaysY (h : Heap) (K : PySem.W.Frag) : Prop where
  d : He.SaysD fa fn K
  oL : fnC K (aL K) = valC "Lengths.__init__" s_Lengths_init
  oT : fnC K (aT K) = valC "Trade.__init__" s_Trade_init
  more : exB K = true
  hd : PySem.W.codeHdIn K (He.cT K tl).1 (He.cT K tl).2 = true
  out : K.lookup (He.cT K tl).2 = none
  empty : h.get? (He.cT K tl).2 = some { cls := .none, data := .fields #[] }
theorem saysY_of {h : Heap} (e : obsYG h.get? = valY) : SaysY h (He.frT h.get? (asY h.get?)) := by
  unfold obsYG at e
  generalize hK : He.frT h.get? (asY h.get?) = K at e
  have e1 : He.obsD fa fn K = He.valD fn := congrArg (fun z : AlY => z.1) e
  have e2 : fnC K (aL K) = valC "Lengths.__init__" s_Lengths_init := congrArg (fun z : AlY => z.2.1) e
  have e3 : fnC K (aT K) = valC "Trade.__init__" s_Trade_init := congrArg (fun z : AlY => z.2.2.1) e
  have e4 : (exB K && tabB h.get? K) = true := congrArg (fun z : AlY => z.2.2.2) e
  obtain ⟨h1, h2⟩ := He.ba e4
  obtain ⟨h3, h4⟩ := He.ba h2
  cases q : h.get? (He.cT K tl).2 with
  | none =>
    rw [q] at h4
    cases h4
  | some o =>
    rw [q] at h4
    have h4 : He.emptyTab o = true := h4
    refine ⟨e1, e2, e3, h1, h3, ?_, ?_⟩
    · have := He.frT_none (as := asY h.get?) q h4
      rw [hK] at this
      exact this
    · rw [q, He.emptyTab_eq h4]
def hk : PySem.W.Hook where
  α := AlY
  obs := fun s => obsYG s.heap.get?
  val := fun _ => valY
  says := fun _ h => ∃ K : PySem.W.Frag, K.In h ∧ SaysY h K
  of := fun _ _ e => ⟨_, He.frT_in, saysY_of e⟩
  keeps := fun _ _ _ ⟨K, hK, c⟩ k => ⟨K, PySem.W.Frag.In.keeps hK k, ⟨c.d, c.oL, c.oT, c.more, c.hd, c.out, k _ _ c.empty⟩⟩
abbrev R : PySem.W.OpenRow := PySem.W.OpenLaw.row PySem.Challenge.rw_ringbars_k77_whole_lengths_or_a_trade
def ob (s : PySem.W.SharedT) : AlY := obsYG (HandSHeadRun.getT s)
theorem ob_eq (s : PySem.W.SharedT) : ob s = hk.obs s.abs := by
  have e : HandSHeadRun.getT s = s.abs.heap.get? := funext (HandSHeadRun.getT_eq s)
  show obsYG (HandSHeadRun.getT s) = obsYG s.abs.heap.get?
  rw [e]
end RB
set_option Elab.async false
set_option linter.all false
set_option maxRecDepth 100000
set_option maxHeartbeats 0
/-! The head's run. -/
namespace RB
open PySem PySem.Spec PyProof.Rows L2
theorem run (w : World) : HandSHeadRun.RunEq R (PySem.W.view R.prog [78]) hk ob 8000 lo w := by
  intro os
  kernel_rfl
end RB
set_option Elab.async false
set_option maxRecDepth 100000
namespace RB
/-! ### lots and masks -/
def lotOf (m : Nat) : List Nat := (List.range 6).filter fun b => m.testBit b
def maskOf (l : List Nat) : Nat := (l.map fun b => 2 ^ b).sum
theorem mem_lotOf {m b : Nat} : b ∈ lotOf m ↔ b < 6 ∧ m.testBit b = true := by simp [lotOf]
theorem mask_lot : ∀ m, m < 64 → maskOf (lotOf m) = m := by decide +kernel
theorem lot_sorted (m : Nat) : (lotOf m).Pairwise (· < ·) := List.Pairwise.filter _ (by decide)

/-! ### books: T m says whether the lot m is short -/
structure Good (n : Nat) (T : Nat → Bool) : Prop where
  dual : ∀ m, m < 2 ^ n → T (2 ^ n - 1 - m) = !T m
  down : ∀ a b, b < 2 ^ n → a &&& b = a → T b = true → T a = true

/-- bar i beats bar j -/
def Beats (n : Nat) (T : Nat → Bool) (i j : Nat) : Prop := ∃ m, m < 2 ^ n ∧ m.testBit i = false ∧ m.testBit j = false ∧ T (m + 2 ^ i) = false ∧ T (m + 2 ^ j) = true

/-! ### the same of a table told by the bits of a number -/
def noB : Nat → Nat
  | 0 => 0x5555555555555555
  | 1 => 0x3333333333333333
  | 2 => 0x0F0F0F0F0F0F0F0F
  | 3 => 0x00FF00FF00FF00FF
  | 4 => 0x0000FFFF0000FFFF
  | _ => 0x00000000FFFFFFFF
theorem noB_bit : ∀ i, i < 6 → ∀ m, m < 64 → (noB i).testBit m = !m.testBit i := by decide +kernel
theorem noB_big : ∀ i, noB i < 2 ^ 64
  | 0 => by decide
  | 1 => by decide
  | 2 => by decide
  | 3 => by decide
  | 4 => by decide
  | _ + 5 => by simp [noB]
/-- the lots with neither i nor j, short with j, and among these those that are short with i -/
def beatA (t i j : Nat) : Nat := (t >>> 2 ^ j) &&& (noB i &&& noB j)
def beatB (t i j : Nat) : Bool := (beatA t i j &&& (t >>> 2 ^ i)) != beatA t i j
theorem beatB_iff {n t i j : Nat} (hn : n ≤ 6) (hi : i < n) (hj : j < n) (ht : ∀ m, 2 ^ n ≤ m → t.testBit m = false) : beatB t i j = true ↔ Beats n t.testBit i j := by
  have e6 : (2 : Nat) ^ 6 = 64 := by decide
  have hp : 2 ^ n ≤ 2 ^ 6 := Nat.pow_le_pow_right (by decide) hn
  have bitA : ∀ m, (beatA t i j).testBit m = (t.testBit (2 ^ j + m) && ((noB i).testBit m && (noB j).testBit m)) := fun m => by simp [beatA, Nat.testBit_and, Nat.testBit_shiftRight]
  have big : ∀ i m, 64 ≤ m → (noB i).testBit m = false := fun i m h => Nat.testBit_lt_two_pow (Nat.lt_of_lt_of_le (noB_big i) (Nat.pow_le_pow_right (by decide) h))
  unfold beatB
  rw [bne_iff_ne]
  constructor
  · intro h
    have : ∃ m, ((beatA t i j &&& (t >>> 2 ^ i))).testBit m ≠ (beatA t i j).testBit m := by
      apply Classical.byContradiction
      intro q
      exact h (Nat.eq_of_testBit_eq fun m => Classical.byContradiction fun z => q ⟨m, z⟩)
    obtain ⟨m, hm⟩ := this
    rw [Nat.testBit_and, Nat.testBit_shiftRight] at hm
    have h1 : (beatA t i j).testBit m = true := by
      cases q : (beatA t i j).testBit m with
      | true => rfl
      | false => rw [q] at hm; simp at hm
    have h2 : t.testBit (2 ^ i + m) = false := by
      cases q : t.testBit (2 ^ i + m) with
      | false => rfl
      | true => rw [q, h1] at hm; simp at hm
    rw [bitA] at h1
    obtain ⟨h3, h4, h5⟩ : _ ∧ _ ∧ _ := by simpa only [Bool.and_eq_true] using h1
    have hm64 : m < 64 := by
      apply Classical.byContradiction
      intro q
      rw [big i m (by omega)] at h4
      cases h4
    rw [noB_bit i (by omega) m hm64] at h4
    rw [noB_bit j (by omega) m hm64] at h5
    have hlt : 2 ^ j + m < 2 ^ n := by
      apply Classical.byContradiction
      intro q
      rw [ht _ (by omega)] at h3
      cases h3
    refine ⟨m, Nat.lt_of_le_of_lt (Nat.le_add_left m (2 ^ j)) hlt, by simpa using h4, by simpa using h5, ?_, ?_⟩
    · rw [Nat.add_comm]; exact h2
    · rw [Nat.add_comm]; exact h3
  · rintro ⟨m, h1, h2, h3, h4, h5⟩ h
    have hm64 : m < 64 := by omega
    have q := congrArg (fun z => z.testBit m) h
    simp only [Nat.testBit_and, Nat.testBit_shiftRight, bitA, noB_bit i (by omega) m hm64, noB_bit j (by omega) m hm64, h2, h3] at q
    rw [Nat.add_comm] at h4 h5
    rw [h4, h5] at q
    simp at q

/-! ### sums of lengths by lots -/
/-- the sum of the lengths of a lot -/
def dot : List Nat → Nat → Nat
  | [], _ => 0
  | x :: r, m => (if m % 2 = 1 then x else 0) + dot r (m / 2)
def dbl (x : Nat) : List Nat → List Nat
  | [] => []
  | s :: r => s :: Nat.add s x :: dbl x r
/-- the sums of all lots, by number -/
def sums : List Nat → List Nat
  | [] => [0]
  | x :: r => dbl x (sums r)
def hadL (tot : Nat) : List Nat → Nat → Bool
  | [], _ => true
  | s :: r, t => (match Nat.blt (Nat.mul 2 s) tot with
    | true => Nat.beq (Nat.mod t 2) 1
    | false => Nat.beq (Nat.mod t 2) 0) && hadL tot r (Nat.div t 2)
theorem dbl_get {x : Nat} : ∀ (l : List Nat) (k s : Nat), l[k]? = some s → (dbl x l)[2 * k]? = some s ∧ (dbl x l)[2 * k + 1]? = some (s + x)
  | [], k, s, h => by simp at h
  | a :: l, 0, s, h => by
    have e : a = s := by simpa using h
    subst e
    exact ⟨rfl, rfl⟩
  | a :: l, k + 1, s, h => by
    have h' : l[k]? = some s := by simpa using h
    obtain ⟨h1, h2⟩ := dbl_get l k s h'
    refine ⟨?_, ?_⟩
    · rw [show 2 * (k + 1) = 2 * k + 1 + 1 by omega]
      exact h1
    · rw [show 2 * (k + 1) + 1 = 2 * k + 1 + 1 + 1 by omega]
      exact h2
theorem sums_get : ∀ (w : List Nat) (m : Nat), m < 2 ^ w.length → (sums w)[m]? = some (dot w m)
  | [], m, h => by
    have : m = 0 := by simpa using h
    subst this
    rfl
  | x :: r, m, h => by
    have hl : m / 2 < 2 ^ r.length := by
      rw [List.length_cons, Nat.pow_succ] at h
      omega
    obtain ⟨h1, h2⟩ := dbl_get (x := x) _ _ _ (sums_get r (m / 2) hl)
    show (dbl x (sums r))[m]? = some ((if m % 2 = 1 then x else 0) + dot r (m / 2))
    by_cases hm : m % 2 = 1
    · rw [if_pos hm, Nat.add_comm]
      have e : m = 2 * (m / 2) + 1 := by omega
      rw [← e] at h2
      exact h2
    · rw [if_neg hm, Nat.zero_add]
      have e : m = 2 * (m / 2) := by omega
      rw [← e] at h1
      exact h1
theorem hadL_get {tot : Nat} : ∀ (l : List Nat) (t : Nat), hadL tot l t = true → ∀ (m s : Nat), l[m]? = some s → decide (2 * s < tot) = t.testBit m
  | [], _, _, m, s, h => by simp at h
  | a :: l, t, hh, m, s, h => by
    have hh' : (match Nat.blt (Nat.mul 2 a) tot with
      | true => Nat.beq (Nat.mod t 2) 1
      | false => Nat.beq (Nat.mod t 2) 0) = true ∧ hadL tot l (t / 2) = true := Bool.and_eq_true_iff.mp hh
    cases m with
    | zero =>
      have e : a = s := by simpa using h
      subst e
      rw [Nat.testBit_zero]
      have h1 := hh'.1
      by_cases q : 2 * a < tot
      · have e : Nat.blt (Nat.mul 2 a) tot = true := by
          rw [Nat.blt_eq]
          exact q
        rw [e] at h1
        have h2 : t % 2 = 1 := Nat.eq_of_beq_eq_true h1
        simp [q, h2]
      · have e : Nat.blt (Nat.mul 2 a) tot = false := by
          cases z : Nat.blt (Nat.mul 2 a) tot with
          | false => rfl
          | true =>
            rw [Nat.blt_eq] at z
            exact absurd z q
        rw [e] at h1
        have h2 : t % 2 = 0 := Nat.eq_of_beq_eq_true h1
        simp [q, h2]
    | succ m =>
      have h' : l[m]? = some s := by simpa using h
      rw [Nat.testBit_succ]
      exact hadL_get l (t / 2) hh'.2 m s h'

/-! ### a leaf of the search: a whole book, by bits -/
/-- n is reckoned before k goes on with it -/
def frN {α : Type} (n : Nat) (k : Nat → α) : α := match n with
  | 0 => k 0
  | m + 1 => k (Nat.succ m)
theorem frN_eq {α : Type} (n : Nat) (k : Nat → α) : frN n k = k n := by cases n <;> rfl
/-- how many bits of a number below 2 ^ 64 are set (nothing here leans on that) -/
def pop (x : Nat) : Nat :=
  frN (Nat.sub x (Nat.land (Nat.shiftRight x 1) 0x5555555555555555)) fun x =>
  frN (Nat.add (Nat.land x 0x3333333333333333) (Nat.land (Nat.shiftRight x 2) 0x3333333333333333)) fun x =>
  frN (Nat.land (Nat.add x (Nat.shiftRight x 4)) 0x0f0f0f0f0f0f0f0f) fun x => Nat.mod (Nat.shiftRight (Nat.mul x 0x0101010101010101) 56) 256
/-- the kinds: the sum of 8 ^ count over the bars; the weights, four bits at each count -/
def kinds : List (Nat × Nat) := [(129, 259), (24, 16), (12289, 65540), (1544, 4128), (4288, 66048), (67108865, 4294967301), (8388616, 268435504), (17563712, 4328522752), (4260352, 270544896), (33566720, 4295163904), (794624, 16908288), (163840, 1048576), (1407374883553281, 18446744073709551622), (175921860444168, 1152921504606847040), (299067162755136, 18590859261785409024), (72018011619840, 1161928703861608448), (563156111855616, 18447588498640076800), (13331578490880, 72620543991611392), (70935679893504, 1161981480424964096), (2207613222912, 4538784002605056), (290273217478656, 18590863659932581888), (8934605979648, 72623842593341440), (343597645824, 281475010265088), (105553386799104, 1152921711839019008), (36292609966080, 1161981756639805440), (1125283528704, 4538784804765696), (844424980463616, 18446744090889420800), (13195246829568, 72059805946085376), (281681168695296, 18447307040842842112), (4537649725440, 72623859706101760), (1649670094848, 4503737066323968), (35210410328064, 1152956895137366016), (281480345419776, 18446746272732807168)]
def find (key : Nat) : List (Nat × Nat) → Nat
  | [] => 0
  | (k, c) :: r => match Nat.beq key k with
    | true => c
    | false => find key r
def cnts (t : Nat) : Nat → Nat → List Nat
  | 0, _ => []
  | k + 1, i => frN (pop (Nat.xor t (Nat.land t (noB i)))) fun c => c :: cnts t k (Nat.succ i)
def keyOf : List Nat → Nat
  | [] => 0
  | c :: r => Nat.add (Nat.pow 8 c) (keyOf r)
def pick (code : Nat) : List Nat → List Nat
  | [] => []
  | c :: r => frN (Nat.land (Nat.shiftRight code (Nat.mul 4 c)) 15) fun x => x :: pick code r
/-- two bars: 2 ^ i, 2 ^ j, the lots with neither, i, j -/
abbrev Pr := Nat × Nat × Nat × Nat × Nat
/-- no two bars at odds: what the bars of a pair may be -/
def oddsB (t : Nat) : List Pr → Bool
  | [] => false
  | (a, b, m, _, _) :: r => frN (Nat.land (Nat.shiftRight t a) m) fun x => frN (Nat.land (Nat.shiftRight t b) m) fun y => frN (Nat.land x y) fun z =>
    match Nat.beq z x, Nat.beq z y with
    | false, false => true
    | _, _ => oddsB t r
def eqW (t : Nat) (w : List Nat) : List Pr → Bool
  | [] => true
  | (a, b, m, i, j) :: r => frN (Nat.land (Nat.shiftRight t a) m) fun x => frN (Nat.land (Nat.shiftRight t b) m) fun y =>
    match Nat.beq x y with
    | false => eqW t w r
    | true => Nat.beq (w.getD i 0) (w.getD j 0) && eqW t w r
def okW (n t : Nat) (ps : List Pr) (w : List Nat) : Bool :=
  Nat.beq w.length n && (w.all (fun x => Nat.ble 1 x) && (frN w.sum fun s => Nat.beq (Nat.mod s 2) 1 && (Nat.ble s 19 && (hadL s (sums w) t && eqW t w ps))))
def leaf (n : Nat) (ps : List Pr) (t : Nat) : Bool := match oddsB t ps with
  | true => Nat.beq n 6
  | false => okW n t ps ((fun cs => pick (find (keyOf cs) kinds) cs) (cnts t n 0))
/-! ### all books: for each lot without the last bar: the lots that must be short if it is, its bit, the lot that must be short if it is long, the bit of the lot of all other bars -/
abbrev Q4 := Nat × Nat × Nat × Nat
def go (f : Nat → Bool) : List Q4 → Nat → Bool
  | [], t => f t
  | (r, a, q, b) :: l, t => (match Nat.beq (Nat.land t r) r with
    | true => frN (Nat.lor t a) (go f l)
    | false => true) && (match Nat.beq (Nat.land t q) q with
    | true => frN (Nat.lor t b) (go f l)
    | false => true)
def qs3 : List Q4 := [(0, 1, 0, 128), (1, 2, 0, 64), (1, 4, 2, 32), (6, 8, 1, 16)]
def qs4 : List Q4 := [(0, 1, 0, 32768), (1, 2, 0, 16384), (1, 4, 0, 8192), (6, 8, 0, 4096), (1, 16, 8, 2048), (18, 32, 4, 1024), (20, 64, 2, 512), (104, 128, 1, 256)]
def qs5 : List Q4 := [(0, 1, 0, 2147483648), (1, 2, 0, 1073741824), (1, 4, 0, 536870912), (6, 8, 0, 268435456), (1, 16, 0, 134217728), (18, 32, 0, 67108864), (20, 64, 0, 33554432), (104, 128, 0, 16777216), (1, 256, 128, 8388608), (258, 512, 64, 4194304), (260, 1024, 32, 2097152), (1544, 2048, 16, 1048576), (272, 4096, 8, 524288), (4640, 8192, 4, 262144), (5184, 16384, 2, 131072), (26752, 32768, 1, 65536)]
def qs6 : List Q4 := [(0, 1, 0, 9223372036854775808), (1, 2, 0, 4611686018427387904), (1, 4, 0, 2305843009213693952), (6, 8, 0, 1152921504606846976), (1, 16, 0, 576460752303423488), (18, 32, 0, 288230376151711744), (20, 64, 0, 144115188075855872), (104, 128, 0, 72057594037927936), (1, 256, 0, 36028797018963968), (258, 512, 0, 18014398509481984), (260, 1024, 0, 9007199254740992), (1544, 2048, 0, 4503599627370496), (272, 4096, 0, 2251799813685248), (4640, 8192, 0, 1125899906842624), (5184, 16384, 0, 562949953421312), (26752, 32768, 0, 281474976710656), (1, 65536, 32768, 140737488355328), (65538, 131072, 16384, 70368744177664), (65540, 262144, 8192, 35184372088832), (393224, 524288, 4096, 17592186044416), (65552, 1048576, 2048, 8796093022208), (1179680, 2097152, 1024, 4398046511104), (1310784, 4194304, 512, 2199023255552), (6815872, 8388608, 256, 1099511627776), (65792, 16777216, 128, 549755813888), (16908800, 33554432, 64, 274877906944), (17040384, 67108864, 32, 137438953472), (101189632, 134217728, 16, 68719476736), (17829888, 268435456, 8, 34359738368), (304095232, 536870912, 4, 17179869184), (339755008, 1073741824, 2, 8589934592), (1753251840, 2147483648, 1, 4294967296)]
def ps3 : List Pr := [(1, 2, 1229782938247303441, 0, 1), (1, 4, 361700864190383365, 0, 2), (2, 4, 217020518514230019, 1, 2)]
def ps4 : List Pr := [(1, 2, 1229782938247303441, 0, 1), (1, 4, 361700864190383365, 0, 2), (1, 8, 23925738098196565, 0, 3), (2, 4, 217020518514230019, 1, 2), (2, 8, 14355442858917939, 1, 3), (4, 8, 4222189076152335, 2, 3)]
def ps5 : List Pr := [(1, 2, 1229782938247303441, 0, 1), (1, 4, 361700864190383365, 0, 2), (1, 8, 23925738098196565, 0, 3), (1, 16, 93823560602965, 0, 4), (2, 4, 217020518514230019, 1, 2), (2, 8, 14355442858917939, 1, 3), (2, 16, 56294136361779, 1, 4), (4, 8, 4222189076152335, 2, 3), (4, 16, 16557098929935, 2, 4), (8, 16, 1095216660735, 3, 4)]
def ps6 : List Pr := [(1, 2, 1229782938247303441, 0, 1), (1, 4, 361700864190383365, 0, 2), (1, 8, 23925738098196565, 0, 3), (1, 16, 93823560602965, 0, 4), (1, 32, 1431655765, 0, 5), (2, 4, 217020518514230019, 1, 2), (2, 8, 14355442858917939, 1, 3), (2, 16, 56294136361779, 1, 4), (2, 32, 858993459, 1, 5), (4, 8, 4222189076152335, 2, 3), (4, 16, 16557098929935, 2, 4), (4, 32, 252645135, 2, 5), (8, 16, 1095216660735, 3, 4), (8, 32, 16711935, 3, 5), (16, 32, 65535, 4, 5)]
theorem go3 : go (leaf 3 ps3) qs3 0 = true := by decide +kernel
theorem go4 : go (leaf 4 ps4) qs4 0 = true := by decide +kernel
theorem go5 : go (leaf 5 ps5) qs5 0 = true := by decide +kernel
end RB
set_option Elab.async false
set_option maxRecDepth 100000
namespace RB
theorem go6 : go (leaf 6 ps6) qs6 0 = true := by decide +kernel
end RB
set_option Elab.async false
set_option maxRecDepth 100000
set_option linter.all false
namespace RB
/-! ### the search finds every book -/
def okQ (n m : Nat) : Q4 → Bool
  | (r, a, q, b) => decide (a = 2 ^ m) && (decide (b = 2 ^ (2 ^ n - 1 - m)) && (decide (r < 2 ^ 64) && (decide (q < 2 ^ 64) && (
    ((List.range 64).all fun x => !r.testBit x || (decide (x < m) && decide (x &&& m = x))) && ((List.range 64).all fun x => !q.testBit x || (decide (x < m) && decide (x = 2 ^ (n - 1) - 1 - m)))))))
def okQs (n : Nat) : Nat → List Q4 → Bool
  | m, [] => decide (m = 2 ^ (n - 1))
  | m, x :: l => (decide (m < 2 ^ (n - 1)) && okQ n m x) && okQs n (m + 1) l
theorem okq3 : okQs 3 0 qs3 = true := by decide +kernel
theorem okq4 : okQs 4 0 qs4 = true := by decide +kernel
theorem okq5 : okQs 5 0 qs5 = true := by decide +kernel
theorem okq6 : okQs 6 0 qs6 = true := by decide +kernel
theorem sub_compl : ∀ n, n < 7 → ∀ m, m < 2 ^ (n - 1) → (2 ^ (n - 1) - 1 - m) &&& (2 ^ n - 1 - m) = 2 ^ (n - 1) - 1 - m := by decide +kernel
/-- t holds T's bits of the lots below m and of their others -/
def Mt (n : Nat) (T : Nat → Bool) (m t : Nat) : Prop := ∀ x, t.testBit x = (decide (x < m ∨ (x < 2 ^ n ∧ 2 ^ n - 1 - x < m)) && T x)
theorem ba2 {a b : Bool} (h : (a && b) = true) : a = true ∧ b = true := Bool.and_eq_true_iff.mp h
theorem subBits {t r : Nat} (hr : r < 2 ^ 64) (h : ∀ x, x < 64 → r.testBit x = true → t.testBit x = true) : Nat.beq (Nat.land t r) r = true := by
  have e : t &&& r = r := by
    refine Nat.eq_of_testBit_eq fun x => ?_
    rw [Nat.testBit_and]
    by_cases hx : x < 64
    · cases q : r.testBit x with
      | false => simp
      | true => rw [h x hx q]; rfl
    · rw [Nat.testBit_lt_two_pow (Nat.lt_of_lt_of_le hr (Nat.pow_le_pow_right (by decide) (Nat.le_of_not_lt hx)))]
      simp
  show Nat.beq (t &&& r) r = true
  rw [e]
  exact Nat.beq_refl r
theorem go_sound {n : Nat} (hn : 1 ≤ n) (hn6 : n < 7) {T : Nat → Bool} (G : Good n T) {f : Nat → Bool} : ∀ (l : List Q4) (m t : Nat), okQs n m l = true → Mt n T m t → go f l t = true → ∃ t', Mt n T (2 ^ (n - 1)) t' ∧ f t' = true
  | [], m, t, ok, M, h => by
    have e : m = 2 ^ (n - 1) := of_decide_eq_true ok
    subst e
    exact ⟨t, M, h⟩
  | (r, a, q, b) :: l, m, t, ok, M, h => by
    obtain ⟨ok1, ok2⟩ := ba2 ok
    obtain ⟨om, ok1⟩ := ba2 ok1
    have hm : m < 2 ^ (n - 1) := of_decide_eq_true om
    obtain ⟨ea, ok1⟩ := ba2 ok1
    obtain ⟨eb, ok1⟩ := ba2 ok1
    obtain ⟨hr, ok1⟩ := ba2 ok1
    obtain ⟨hq, ok1⟩ := ba2 ok1
    obtain ⟨pr, pq⟩ := ba2 ok1
    have ea : a = 2 ^ m := of_decide_eq_true ea
    have eb : b = 2 ^ (2 ^ n - 1 - m) := of_decide_eq_true eb
    have hr : r < 2 ^ 64 := of_decide_eq_true hr
    have hq : q < 2 ^ 64 := of_decide_eq_true hq
    have h2 : 2 ^ n = 2 * 2 ^ (n - 1) := by
      obtain ⟨k, rfl⟩ : ∃ k, n = k + 1 := ⟨n - 1, by omega⟩
      rw [Nat.pow_succ, Nat.add_sub_cancel, Nat.mul_comm]
    have mb : m < 2 ^ n := by omega
    obtain ⟨g1, g2⟩ := ba2 h
    have P : ∀ x, x < 64 → r.testBit x = true → x < m ∧ x &&& m = x := fun x hx hb => by
      have z := List.all_eq_true.mp pr x (List.mem_range.mpr hx)
      rw [hb] at z
      simpa using z
    have Pq : ∀ x, x < 64 → q.testBit x = true → x < m ∧ x = 2 ^ (n - 1) - 1 - m := fun x hx hb => by
      have z := List.all_eq_true.mp pq x (List.mem_range.mpr hx)
      rw [hb] at z
      simpa using z
    cases hT : T m with
    | true =>
      have z : Nat.beq (Nat.land t r) r = true := subBits hr fun x hx hb => by
        obtain ⟨p1, p2⟩ := P x hx hb
        rw [M x, G.down x m mb p2 hT]
        simp [p1]
      rw [z] at g1
      have g1 : go f l (t ||| a) = true := by
        have e : frN (Nat.lor t a) (go f l) = true := g1
        rw [frN_eq] at e
        exact e
      refine go_sound hn hn6 G l (m + 1) _ ok2 (fun x => ?_) g1
      have d := G.dual m mb
      rw [hT] at d
      rw [Nat.testBit_or, M x, ea, Nat.testBit_two_pow]
      by_cases e1 : m = x
      · subst e1
        simp [hT]
      · by_cases e2 : x < 2 ^ n ∧ 2 ^ n - 1 - x = m
        · have e3 : x = 2 ^ n - 1 - m := by omega
          have : T x = false := by rw [e3]; exact d
          simp [this, e1]
        · have : (x < m ∨ (x < 2 ^ n ∧ 2 ^ n - 1 - x < m)) ↔ (x < m + 1 ∨ (x < 2 ^ n ∧ 2 ^ n - 1 - x < m + 1)) := by omega
          simp [e1, this]
    | false =>
      have d := G.dual m mb
      rw [hT] at d
      have d : T (2 ^ n - 1 - m) = true := d
      have z : Nat.beq (Nat.land t q) q = true := subBits hq fun x hx hb => by
        obtain ⟨p1, p2⟩ := Pq x hx hb
        have : T x = true := G.down x (2 ^ n - 1 - m) (by omega) (by rw [p2]; exact sub_compl n hn6 m hm) d
        rw [M x, this]
        simp [p1]
      rw [z] at g2
      have g2 : go f l (t ||| b) = true := by
        have e : frN (Nat.lor t b) (go f l) = true := g2
        rw [frN_eq] at e
        exact e
      refine go_sound hn hn6 G l (m + 1) _ ok2 (fun x => ?_) g2
      rw [Nat.testBit_or, M x, eb, Nat.testBit_two_pow]
      by_cases e1 : 2 ^ n - 1 - m = x
      · have e2 : x < 2 ^ n ∧ 2 ^ n - 1 - x < m + 1 := by omega
        rw [← e1, d]
        have e3 : 2 ^ n - 1 - m < 2 ^ n ∧ 2 ^ n - 1 - (2 ^ n - 1 - m) < m + 1 := by omega
        simp [e3]
      · by_cases e2 : x = m
        · subst e2
          simp [hT, e1]
        · have : (x < m ∨ (x < 2 ^ n ∧ 2 ^ n - 1 - x < m)) ↔ (x < m + 1 ∨ (x < 2 ^ n ∧ 2 ^ n - 1 - x < m + 1)) := by omega
          simp [e1, this]
/-! ### the pairs -/
def okP (n : Nat) (p : Pr) : Bool := match p with
  | (a, b, m, i, j) => decide (a = 2 ^ i) && (decide (b = 2 ^ j) && (decide (m = noB i &&& noB j) && decide (i < j ∧ j < n)))
theorem okp3 : (ps3.all (okP 3) && (List.range 3).all fun i => (List.range 3).all fun j => !decide (i < j) || ps3.contains (2 ^ i, 2 ^ j, noB i &&& noB j, i, j)) = true := by decide +kernel
theorem okp4 : (ps4.all (okP 4) && (List.range 4).all fun i => (List.range 4).all fun j => !decide (i < j) || ps4.contains (2 ^ i, 2 ^ j, noB i &&& noB j, i, j)) = true := by decide +kernel
theorem okp5 : (ps5.all (okP 5) && (List.range 5).all fun i => (List.range 5).all fun j => !decide (i < j) || ps5.contains (2 ^ i, 2 ^ j, noB i &&& noB j, i, j)) = true := by decide +kernel
theorem okp6 : (ps6.all (okP 6) && (List.range 6).all fun i => (List.range 6).all fun j => !decide (i < j) || ps6.contains (2 ^ i, 2 ^ j, noB i &&& noB j, i, j)) = true := by decide +kernel
/-- the lots with neither bar, short with the one to i -/
def sh (t i m : Nat) : Nat := Nat.land (Nat.shiftRight t (2 ^ i)) m
theorem oddsB_cons (t a b m i j : Nat) (r : List Pr) : oddsB t ((a, b, m, i, j) :: r) =
    (((!Nat.beq (Nat.land (Nat.land (Nat.shiftRight t a) m) (Nat.land (Nat.shiftRight t b) m)) (Nat.land (Nat.shiftRight t a) m)) && !Nat.beq (Nat.land (Nat.land (Nat.shiftRight t a) m) (Nat.land (Nat.shiftRight t b) m)) (Nat.land (Nat.shiftRight t b) m)) || oddsB t r) := by
  show frN _ (fun x => frN _ fun y => frN _ fun z => _) = _
  rw [frN_eq, frN_eq, frN_eq]
  generalize Nat.beq (Nat.land (Nat.land (Nat.shiftRight t a) m) (Nat.land (Nat.shiftRight t b) m)) (Nat.land (Nat.shiftRight t a) m) = u
  generalize Nat.beq (Nat.land (Nat.land (Nat.shiftRight t a) m) (Nat.land (Nat.shiftRight t b) m)) (Nat.land (Nat.shiftRight t b) m) = v
  cases u <;> cases v <;> simp
theorem eqW_cons (t : Nat) (w : List Nat) (a b m i j : Nat) (r : List Pr) : eqW t w ((a, b, m, i, j) :: r) =
    ((!Nat.beq (Nat.land (Nat.shiftRight t a) m) (Nat.land (Nat.shiftRight t b) m) || Nat.beq (w.getD i 0) (w.getD j 0)) && eqW t w r) := by
  show frN _ (fun x => frN _ fun y => _) = _
  rw [frN_eq, frN_eq]
  generalize Nat.beq (Nat.land (Nat.shiftRight t a) m) (Nat.land (Nat.shiftRight t b) m) = u
  cases u <;> simp
section
variable {n : Nat} {T : Nat → Bool} {t : Nat} (hn : n ≤ 6) (ht : ∀ x, t.testBit x = (decide (x < 2 ^ n) && T x))
include hn ht
theorem sh_bit {i j : Nat} (hi : i < n) (hj : j < n) (x : Nat) : (Nat.land (Nat.shiftRight t (2 ^ i)) (noB i &&& noB j)).testBit x = true ↔ x < 2 ^ n ∧ x.testBit i = false ∧ x.testBit j = false ∧ x + 2 ^ i < 2 ^ n ∧ T (x + 2 ^ i) = true := by
  have hp : 2 ^ n ≤ 64 := Nat.pow_le_pow_right (by decide : 0 < 2) hn
  have e : (Nat.land (Nat.shiftRight t (2 ^ i)) (noB i &&& noB j)).testBit x = (t.testBit (2 ^ i + x) && ((noB i).testBit x && (noB j).testBit x)) := by
    show ((t >>> 2 ^ i) &&& (noB i &&& noB j)).testBit x = _
    simp [Nat.testBit_and, Nat.testBit_shiftRight]
  rw [e, ht]
  by_cases hx : x < 64
  · rw [noB_bit i (by omega) x hx, noB_bit j (by omega) x hx, Nat.add_comm]
    simp only [Bool.and_eq_true, decide_eq_true_eq, Bool.not_eq_true']
    constructor
    · rintro ⟨⟨h1, h2⟩, h3, h4⟩
      exact ⟨Nat.lt_of_le_of_lt (Nat.le_add_right _ _) h1, h3, h4, h1, h2⟩
    · rintro ⟨_, h3, h4, h1, h2⟩
      exact ⟨⟨h1, h2⟩, h3, h4⟩
  · have z : (noB i).testBit x = false := Nat.testBit_lt_two_pow (Nat.lt_of_lt_of_le (noB_big i) (Nat.pow_le_pow_right (by decide) (Nat.le_of_not_lt hx)))
    rw [z]
    simp only [Bool.false_and, Bool.and_false, Bool.false_eq_true, false_iff, not_and]
    omega
theorem add_lt : ∀ i, i < n → ∀ x, x < 2 ^ n → x.testBit i = false → x + 2 ^ i < 2 ^ n := by
  have z : ∀ n, n < 7 → ∀ i, i < n → ∀ x, x < 2 ^ n → x.testBit i = false → x + 2 ^ i < 2 ^ n := by decide +kernel
  exact z n (by omega)
/-- i beats j: some lot is short with j that is not with i -/
theorem beats_iff {i j : Nat} (hi : i < n) (hj : j < n) :
    Nat.beq (Nat.land (Nat.land (Nat.shiftRight t (2 ^ i)) (noB i &&& noB j)) (Nat.land (Nat.shiftRight t (2 ^ j)) (noB i &&& noB j))) (Nat.land (Nat.shiftRight t (2 ^ j)) (noB i &&& noB j)) = false ↔ Beats n T i j := by
  have bi := sh_bit hn ht hi hj
  have bj := sh_bit hn ht hj hi
  rw [show noB j &&& noB i = noB i &&& noB j from Nat.and_comm _ _] at bj
  generalize Nat.land (Nat.shiftRight t (2 ^ i)) (noB i &&& noB j) = x at bi
  generalize Nat.land (Nat.shiftRight t (2 ^ j)) (noB i &&& noB j) = y at bj
  constructor
  · intro h
    have : ∃ m, y.testBit m = true ∧ x.testBit m = false := by
      apply Classical.byContradiction
      intro q
      have e : x &&& y = y := by
        refine Nat.eq_of_testBit_eq fun m => ?_
        rw [Nat.testBit_and]
        cases q1 : y.testBit m with
        | false => simp
        | true =>
          cases q2 : x.testBit m with
          | true => rfl
          | false => exact absurd ⟨m, q1, q2⟩ q
      have : Nat.beq (x &&& y) y = true := by
        rw [e]
        exact Nat.beq_refl y
      rw [show Nat.land x y = x &&& y from rfl, this] at h
      cases h
    obtain ⟨m, h1, h2⟩ := this
    obtain ⟨a1, a2, a3, a4, a5⟩ := (bj m).mp h1
    refine ⟨m, a1, a3, a2, ?_, a5⟩
    have a6 := add_lt hn ht i hi m a1 a3
    cases q : T (m + 2 ^ i) with
    | false => rfl
    | true =>
      have := (bi m).mpr ⟨a1, a3, a2, a6, q⟩
      rw [h2] at this
      cases this
  · rintro ⟨m, a1, a2, a3, a4, a5⟩
    have h1 := (bj m).mpr ⟨a1, a3, a2, add_lt hn ht j hj m a1 a3, a5⟩
    have h2 : x.testBit m = false := by
      cases q : x.testBit m with
      | false => rfl
      | true =>
        have z := ((bi m).mp q).2.2.2.2
        rw [a4] at z
        cases z
    cases q : Nat.beq (Nat.land x y) y with
    | false => rfl
    | true =>
      have e : x &&& y = y := Nat.eq_of_beq_eq_true q
      have e2 := congrArg (fun z => z.testBit m) e
      simp only [Nat.testBit_and, h1, h2] at e2
      cases e2
theorem beats_iff' {i j : Nat} (hi : i < n) (hj : j < n) :
    Nat.beq (Nat.land (Nat.land (Nat.shiftRight t (2 ^ i)) (noB i &&& noB j)) (Nat.land (Nat.shiftRight t (2 ^ j)) (noB i &&& noB j))) (Nat.land (Nat.shiftRight t (2 ^ i)) (noB i &&& noB j)) = false ↔ Beats n T j i := by
  have h := beats_iff hn ht hj hi
  rw [show noB j &&& noB i = noB i &&& noB j from Nat.and_comm _ _] at h
  rw [show Nat.land (Nat.land (Nat.shiftRight t (2 ^ i)) (noB i &&& noB j)) (Nat.land (Nat.shiftRight t (2 ^ j)) (noB i &&& noB j)) = Nat.land (Nat.land (Nat.shiftRight t (2 ^ j)) (noB i &&& noB j)) (Nat.land (Nat.shiftRight t (2 ^ i)) (noB i &&& noB j)) from Nat.and_comm _ _]
  exact h
theorem odds_iff : ∀ (ps : List Pr), ps.all (okP n) = true → (oddsB t ps = true ↔ ∃ p ∈ ps, Beats n T p.2.2.2.1 p.2.2.2.2 ∧ Beats n T p.2.2.2.2 p.2.2.2.1)
  | [], _ => by simp [oddsB]
  | (a, b, m, i, j) :: r, h => by
    rw [List.all_cons] at h
    obtain ⟨h1, h2⟩ := ba2 h
    have h1 : (decide (a = 2 ^ i) && (decide (b = 2 ^ j) && (decide (m = noB i &&& noB j) && decide (i < j ∧ j < n)))) = true := h1
    simp only [decide_eq_true_eq, Bool.and_eq_true] at h1
    obtain ⟨rfl, rfl, rfl, hij, hj⟩ := h1
    have hi : i < n := by omega
    rw [oddsB_cons, Bool.or_eq_true, odds_iff r h2, Bool.and_eq_true, Bool.not_eq_true', Bool.not_eq_true', beats_iff hn ht hi hj, beats_iff' hn ht hi hj]
    simp only [List.mem_cons, exists_eq_or_imp]
    exact or_congr and_comm Iff.rfl
theorem eqW_iff {w : List Nat} : ∀ (ps : List Pr), ps.all (okP n) = true → eqW t w ps = true → ∀ p ∈ ps, ¬ Beats n T p.2.2.2.1 p.2.2.2.2 → ¬ Beats n T p.2.2.2.2 p.2.2.2.1 → w.getD p.2.2.2.1 0 = w.getD p.2.2.2.2 0
  | [], _, _ => by simp
  | (a, b, m, i, j) :: r, h, hh => by
    rw [List.all_cons] at h
    obtain ⟨h1, h2⟩ := ba2 h
    have h1 : (decide (a = 2 ^ i) && (decide (b = 2 ^ j) && (decide (m = noB i &&& noB j) && decide (i < j ∧ j < n)))) = true := h1
    simp only [decide_eq_true_eq, Bool.and_eq_true] at h1
    obtain ⟨rfl, rfl, rfl, hij, hj⟩ := h1
    have hi : i < n := by omega
    rw [eqW_cons] at hh
    obtain ⟨g1, g2⟩ := ba2 hh
    intro p hp n1 n2
    obtain rfl | hp := List.mem_cons.mp hp
    · have n1 : ¬ Beats n T i j := n1
      have n2 : ¬ Beats n T j i := n2
      rw [← beats_iff hn ht hi hj] at n1
      rw [← beats_iff' hn ht hi hj] at n2
      generalize Nat.land (Nat.shiftRight t (2 ^ i)) (noB i &&& noB j) = x at *
      generalize Nat.land (Nat.shiftRight t (2 ^ j)) (noB i &&& noB j) = y at *
      have e1 := Nat.eq_of_beq_eq_true (Bool.of_not_eq_false n1)
      have e2 := Nat.eq_of_beq_eq_true (Bool.of_not_eq_false n2)
      have e : x = y := e2.symm.trans e1
      rw [e, Nat.beq_refl] at g1
      exact Nat.eq_of_beq_eq_true g1
    · exact eqW_iff r h2 g2 p hp n1 n2
end
/-! ### what is known of every book -/
structure Wts (n : Nat) (T : Nat → Bool) (w : List Nat) : Prop where
  len : w.length = n
  pos : ∀ x ∈ w, 1 ≤ x
  odd : w.sum % 2 = 1
  most : w.sum ≤ 19
  had : ∀ m, m < 2 ^ n → T m = decide (2 * dot w m < w.sum)
  eq : ∀ i j, i < j → j < n → ¬ Beats n T i j → ¬ Beats n T j i → w.getD i 0 = w.getD j 0
theorem of_leaf {n : Nat} {T : Nat → Bool} {t : Nat} {ps : List Pr} (hn : n ≤ 6) (ht : ∀ x, t.testBit x = (decide (x < 2 ^ n) && T x)) (hp : (ps.all (okP n) && (List.range n).all fun i => (List.range n).all fun j => !decide (i < j) || ps.contains (2 ^ i, 2 ^ j, noB i &&& noB j, i, j)) = true)
    (h : leaf n ps t = true) : ((∃ i j, i < j ∧ j < n ∧ Beats n T i j ∧ Beats n T j i) → n = 6) ∧ ((¬ ∃ i j, i < j ∧ j < n ∧ Beats n T i j ∧ Beats n T j i) → ∃ w, Wts n T w) := by
  obtain ⟨p1, p2⟩ := ba2 hp
  have has : ∀ i j, i < j → j < n → (2 ^ i, 2 ^ j, noB i &&& noB j, i, j) ∈ ps := fun i j h1 h2 => by
    have z := List.all_eq_true.mp (List.all_eq_true.mp p2 i (List.mem_range.mpr (by omega))) j (List.mem_range.mpr h2)
    simpa [h1] using z
  have inn : ∀ p ∈ ps, p.2.2.2.1 < p.2.2.2.2 ∧ p.2.2.2.2 < n := fun ⟨a, b, m, i, j⟩ hp => by
    have z : (decide (a = 2 ^ i) && (decide (b = 2 ^ j) && (decide (m = noB i &&& noB j) && decide (i < j ∧ j < n)))) = true := List.all_eq_true.mp p1 _ hp
    simp only [Bool.and_eq_true, decide_eq_true_eq] at z
    exact z.2.2.2
  have O := odds_iff hn ht ps p1
  have O' : oddsB t ps = true ↔ ∃ i j, i < j ∧ j < n ∧ Beats n T i j ∧ Beats n T j i := by
    rw [O]
    constructor
    · rintro ⟨p, hp, h1, h2⟩
      exact ⟨_, _, (inn p hp).1, (inn p hp).2, h1, h2⟩
    · rintro ⟨i, j, h1, h2, h3, h4⟩
      exact ⟨_, has i j h1 h2, h3, h4⟩
  unfold leaf at h
  cases q : oddsB t ps with
  | true =>
    rw [q] at h
    exact ⟨fun _ => Nat.eq_of_beq_eq_true h, fun z => absurd (O'.mp q) z⟩
  | false =>
    rw [q] at h
    refine ⟨fun z => (by rw [O'.mpr z] at q; cases q), fun _ => ?_⟩
    dsimp only at h
    generalize pick (find (keyOf (cnts t n 0)) kinds) (cnts t n 0) = w at h
    unfold okW at h
    rw [frN_eq] at h
    obtain ⟨h1, h⟩ := ba2 h
    obtain ⟨h2, h⟩ := ba2 h
    obtain ⟨h3, h⟩ := ba2 h
    obtain ⟨h4, h⟩ := ba2 h
    obtain ⟨h5, h6⟩ := ba2 h
    have hl : w.length = n := Nat.eq_of_beq_eq_true h1
    refine ⟨w, hl, fun x hx => Nat.le_of_ble_eq_true (List.all_eq_true.mp h2 x hx), Nat.eq_of_beq_eq_true h3, Nat.le_of_ble_eq_true h4, fun m hm => ?_, fun i j hij hj n1 n2 => ?_⟩
    · have z := hadL_get _ _ h5 m _ (sums_get w m (by rw [hl]; exact hm))
      rw [z, ht m]
      simp [hm]
    · exact eqW_iff hn ht ps p1 h6 _ (has i j hij hj) n1 n2
theorem Mt_zero {n : Nat} {T : Nat → Bool} : Mt n T 0 0 := fun x => by simp
theorem Mt_full {n : Nat} (hn : 1 ≤ n) {T : Nat → Bool} {t : Nat} (M : Mt n T (2 ^ (n - 1)) t) (x : Nat) : t.testBit x = (decide (x < 2 ^ n) && T x) := by
  have h2 : 2 ^ n = 2 * 2 ^ (n - 1) := by
    obtain ⟨k, rfl⟩ : ∃ k, n = k + 1 := ⟨n - 1, by omega⟩
    rw [Nat.pow_succ, Nat.add_sub_cancel, Nat.mul_comm]
  rw [M x]
  have : (x < 2 ^ (n - 1) ∨ (x < 2 ^ n ∧ 2 ^ n - 1 - x < 2 ^ (n - 1))) ↔ x < 2 ^ n := by omega
  simp [this]
theorem books_all {n : Nat} {T : Nat → Bool} (go6 : go (leaf 6 ps6) qs6 0 = true) (h3 : 3 ≤ n) (h6 : n ≤ 6) (G : Good n T) :
    ((∃ i j, i < j ∧ j < n ∧ Beats n T i j ∧ Beats n T j i) → n = 6) ∧ ((¬ ∃ i j, i < j ∧ j < n ∧ Beats n T i j ∧ Beats n T j i) → ∃ w, Wts n T w) := by
  have c : n = 3 ∨ n = 4 ∨ n = 5 ∨ n = 6 := by omega
  rcases c with rfl | rfl | rfl | rfl
  · obtain ⟨t, M, h⟩ := go_sound (by omega) (by omega) G qs3 0 0 okq3 Mt_zero go3
    exact of_leaf (by omega) (Mt_full (by omega) M) okp3 h
  · obtain ⟨t, M, h⟩ := go_sound (by omega) (by omega) G qs4 0 0 okq4 Mt_zero go4
    exact of_leaf (by omega) (Mt_full (by omega) M) okp4 h
  · obtain ⟨t, M, h⟩ := go_sound (by omega) (by omega) G qs5 0 0 okq5 Mt_zero go5
    exact of_leaf (by omega) (Mt_full (by omega) M) okp5 h
  · obtain ⟨t, M, h⟩ := go_sound (by omega) (by omega) G qs6 0 0 okq6 Mt_zero go6
    exact of_leaf (by omega) (Mt_full (by omega) M) okp6 h
end RB
set_option Elab.async false
set_option linter.all false
set_option maxRecDepth 100000
set_option maxHeartbeats 2000000
/-! Rules that the layer lacks: sorted over data (a list, a tuple). -/
namespace RB
open PySem PySem.Spec PyProof.Rows L2 PySem.W
/-! ### a tuple collected -/
section
variable {P : Program} {w : World} {B : Around} {F : Value → Shared → Prop} {t : Shared}
/-- a list or a tuple stands at l -/
def SeqObj (h : Heap) (l : Addr) (vs : List Value) : Prop := h.IsList l vs.toArray ∨ h.IsTuple l vs.toArray
abbrev noItems : Obj := seqObj "list" #[] 0
/-- the heap with a new list of these -/
abbrev withList (h : Heap) (vs : List Value) : Heap := (h.push noItems).update h.objs.size (Obj.mapSeq (· ++ vs.toArray))
theorem withList_at (h : Heap) (vs : List Value) : ∃ n, (withList h vs).get? h.objs.size = some (seqObj "list" (#[] ++ vs.toArray) n) := ⟨_, get?_update_seq (Heap.get?_push_size _ rfl) _⟩
/-- a list takes the items of a tuple: the arm of list.__iadd__ -/
theorem takes_tuple {l : Addr} {vs : List Value} {G : PySem.Fin → Shared → Prop} (ht : t.heap.IsTuple l vs.toArray) (hz : vs.length ≤ sizeLine) (hG : G (.done (.ret (.ref t.heap.objs.size))) { t with heap := withList t.heap vs }) :
    wpAny (model P w) B (Builtin.List.listExtendWith (.ref t.heap.objs.size) (.ref l) (.ref t.heap.objs.size)) G F { t with heap := t.heap.push noItems } := by
  obtain ⟨ot, gt, ct, ep, dt⟩ := ht
  have gt' : (t.heap.push noItems).get? l = some ot := Heap.get?_push_of_some _ gt
  have g0 : (t.heap.push noItems).get? t.heap.objs.size = some noItems := Heap.get?_push_size _ rfl
  have fits : (#[] ++ vs.toArray : Array Value).size ≤ sizeLine + 1 := by
    rw [Array.size_append, List.size_toArray]
    exact Nat.le_succ_of_le (by simpa using hz)
  unfold Builtin.List.listExtendWith; refine wpAny_bind (wpAny_typeOf (T := "tuple") ⟨ot, gt', ct⟩ ?_)
  have yes : ((Value.type "tuple" : Value) == Value.type "tuple") = true := by decide
  simp only [yes, Bool.or_true, if_true]
  exact wpAny_bind (listItems_at gt' dt (wpAny_bind (listItems_at (xs := #[]) g0 rfl (by rw [if_neg (by simp)]; exact wpAny_bind (listUpdate_at (xs := #[]) g0 rfl (wpAny_pure hG) (Nat.zero_le _) fits)))))
theorem collect_seq {l : Addr} {vs : List Value} {G : List Value → Shared → Prop} (hl : SeqObj t.heap l vs) (hG : G vs { t with heap := withList t.heap vs }) (hz : vs.length ≤ sizeLine) : wpAny (model P w) B (collect (.ref l)) G F t := by
  rcases hl with hl | ht
  · exact collect_list hl hG hz
  · obtain ⟨n, gn⟩ := withList_at t.heap vs
    have e0 : (#[] ++ vs.toArray : Array Value).toList = vs := by simp
    unfold collect
    refine wpAny_bind (wpAny_runValue (codeAny_builtin entry_proto_collect' (wpAny_bind (wpAny_newList (wpAny_pure ⟨Code.quiet_builtin _ (by decide +kernel), codeAny_builtin entry_list_iadd' (takes_tuple ht hz ?_)⟩)))))
    refine wpAny_bind (wpAny_load gn (wpAny_pure ?_))
    show G (#[] ++ vs.toArray : Array Value).toList _
    rw [e0]
    exact hG
/-- sorted(l, ..): the copy is sorted in place -/
theorem sorted_of_sort2 {l : Addr} {vs : List Value} {kw : List (Str × Value)} {G : Value → Shared → Prop} (hl : SeqObj t.heap l vs) (hz : vs.length ≤ sizeLine) (a1 : argsOk "sorted" ⟨[.ref l], kw⟩) (a2 : ∀ x, argsOk "list.sort" ⟨[.ref x], kw⟩)
    (run : ∀ F' : Value → Shared → Prop, wpAny (model P w) B.in1.in1 (Builtin.«list.sort» ⟨[.ref (t.heap.objs.size + 1)], kw⟩) (fun r t' => r = .done (.ret .none) ∧ G (.ref (t.heap.objs.size + 1)) t') F' { t with heap := copyHeap t.heap vs }) :
    wpAny (model P w) B (call (.builtin "sorted") [.ref l] kw) G F t := by
  have size1 : (withList t.heap vs).objs.size = t.heap.objs.size + 1 := (Heap.size_update ..).trans (size_push' ..)
  have copied : (copyHeap t.heap vs).get? (t.heap.objs.size + 1) = _ := copyHeap_at t.heap vs
  refine call_function_entry_kw kind_sorted plain_sorted entry_sorted a1 (wpAny_bind (m := checkCount "sorted" 1 1 _) (wpAny_pure (wpAny_bind (collect_seq hl (wpAny_bind (wpAny_newList ?_ hz)) hz))))
  rw [size1]
  refine wpAny_bind (wpAny_holding (wpAny_call_entry_kw slot_list_sort ⟨_, copied, rfl⟩ entry_list_sort ?_ (a2 _)))
  exact wpAny_mono (run _) (fun r t' ⟨e, g⟩ => ⟨.none, by rw [e], wpAny_pure ⟨_, rfl, g⟩⟩) fun _ _ z => z
theorem sorted_data2 {β : Type} {vs : List Value} {bs : List β} {enc : β → PyData} {R : Value → β → Prop} {l : Addr} {G : Value → Shared → Prop} (hl : SeqObj t.heap l vs) (e : EachIs R vs bs) (er : EachIs (fun v b => ∃ as, Reads t.heap v (enc b) as) vs bs)
    (hal : AllAlike (bs.map enc)) (hk : Sortable (bs.map enc)) (hz : bs.length ≤ sizeLine) (hd : ∀ b, b ∈ bs → B.units + 2 + (enc b).depth < cLine)
    (fin : ∀ out, out.length = bs.length → EachIs R out (bs.mergeSort (dataLe false enc)) → G (.ref (t.heap.objs.size + 1)) { t with heap := sortedAll t.heap vs (List.toArray out) }) : wpAny (model P w) B (call (.builtin "sorted") [.ref l]) G F t := by
  have hv : vs.length ≤ sizeLine := Nat.le_trans (Nat.le_of_eq e.length) hz
  have later : EachIs (fun v b => ∃ as, Reads (sortingHeap (copyHeap t.heap vs) (t.heap.objs.size + 1) vs) v (enc b) as) vs bs := er.mono fun _ _ q => q.imp fun as r => PyProof.Rows.Reads.keeps (fun _ _ => sorting_copy_old) r
  have at_ := SortsAt.data (prog := P) (w := w) (A := B.in1.in1) (s := { t with heap := sortingHeap (copyHeap t.heap vs) (t.heap.objs.size + 1) vs }) (each_map enc later) hal hk (bound_map hd)
  exact sorted_of_sort2 hl hv (args_sorted1 _) (fun _ => args_list_sort _) fun _ => list_sort_vals (s := { t with heap := copyHeap t.heap vs }) (copyHeap_at t.heap vs) at_ hv
    ⟨rfl, fin _ ((sortVals_length false rfl).trans e.length) (sortVals_data false e later hal)⟩
end
/-! ### data in the abstract heap -/
theorem DpAll.length {K : PySem.W.Frag} {H : Hp} : ∀ {xs : List V} {ds : List PyData}, DpAll K H xs ds → xs.length = ds.length
  | _, _, .nil => rfl
  | _, _, .cons _ t => congrArg Nat.succ (DpAll.length t)
theorem DpAll.get {K : PySem.W.Frag} {H : Hp} : ∀ {xs : List V} {ds : List PyData} {i : Nat} {d : PyData}, DpAll K H xs ds → ds[i]? = some d → ∃ x, xs[i]? = some x ∧ Dp K H x d
  | _, _, _, _, .nil, e => absurd e (by simp)
  | _, _, 0, _, .cons h _, e => by
    simp at e
    subst e
    exact ⟨_, rfl, h⟩
  | _, _, i + 1, d, .cons _ t, e => by
    obtain ⟨x, h1, h2⟩ := DpAll.get (i := i) (d := d) t (by simpa using e)
    exact ⟨x, List.getElem?_cons_succ.trans h1, h2⟩
theorem DpAll.at_ {K : PySem.W.Frag} {H : Hp} : ∀ {xs : List V} {ds : List PyData} {i : Nat} {x : V}, DpAll K H xs ds → xs[i]? = some x → ∃ d, ds[i]? = some d ∧ Dp K H x d
  | _, _, _, _, .nil, e => absurd e (by simp)
  | _, _, 0, _, .cons h _, e => by
    simp at e
    subst e
    exact ⟨_, rfl, h⟩
  | _, _, i + 1, d, .cons _ t, e => by
    obtain ⟨x, h1, h2⟩ := DpAll.at_ (i := i) t (by simpa using e)
    exact ⟨x, List.getElem?_cons_succ.trans h1, h2⟩
theorem DpAll.append {K : PySem.W.Frag} {H : Hp} : ∀ {xs ys : List V} {ds es : List PyData}, DpAll K H xs ds → DpAll K H ys es → DpAll K H (xs ++ ys) (ds ++ es)
  | _, _, _, _, .nil, h => h
  | _, _, _, _, .cons h t, g => .cons h (DpAll.append t g)
theorem prs_of_each {β : Type} {Pr : V → β → Prop} : ∀ {us : List Value} {bs : List β}, EachIs (fun u b => ∃ x, RelV x u ∧ Pr x b) us bs → ∃ xs, Vals xs us ∧ Paired Pr xs bs
  | _, _, .nil => ⟨[], .nil, .nil⟩
  | _, _, .cons ⟨x, r, h⟩ t => by
    obtain ⟨xs, r2, h2⟩ := prs_of_each t
    exact ⟨x :: xs, .cons r r2, .cons h h2⟩
theorem each_of_prs {β : Type} {Pr : V → β → Prop} : ∀ {xs : List V} {us : List Value} {bs : List β}, Vals xs us → Paired Pr xs bs → EachIs (fun u b => ∃ x, RelV x u ∧ Pr x b) us bs
  | _, _, _, .nil, .nil => .nil
  | _, _, _, .cons r1 r2, .cons h1 h2 => .cons ⟨_, r1, h1⟩ (each_of_prs r2 h2)
theorem prs_at {β : Type} {Pr : V → β → Prop} : ∀ {xs : List V} {bs : List β} {i : Nat} {x : V}, Paired Pr xs bs → xs[i]? = some x → ∃ b, bs[i]? = some b ∧ Pr x b
  | _, _, _, _, .nil, e => absurd e (by simp)
  | _, _, 0, _, .cons h _, e => ⟨_, rfl, by
    obtain rfl := Option.some.inj e
    exact h⟩
  | _, _, i + 1, _, .cons _ t, e => prs_at (i := i) t e
theorem prs_data {K : PySem.W.Frag} {H : Hp} {β : Type} {Pr : V → β → Prop} {enc : β → PyData} (hp : ∀ x b, Pr x b → Dp K H x (enc b)) : ∀ {xs : List V} {bs : List β}, Paired Pr xs bs → DpAll K H xs (bs.map enc)
  | _, _, .nil => .nil
  | _, _, .cons h t => .cons (hp _ _ h) (prs_data hp t)
/-! ### sorted(xs): a list or a tuple of data -/
/-- enc: what the items stand for -/
def rSortD {β : Type} (enc : β → PyData) (Pr : V → β → Prop) (X : Cx) : List V → Hp → VK → Prop := fun vs H Q => ∃ (a : Addr) (xs : List V) (bs : List β), vs = [V.ref a] ∧ (SqL X.K H a xs ∨ SqT X.K H a xs) ∧ Paired Pr xs bs ∧ (∀ x b, Pr x b → Dp X.K H x (enc b)) ∧
  AllAlike (bs.map enc) ∧ Sortable (bs.map enc) ∧ (∀ b, b ∈ bs → (enc b).depth ≤ 60) ∧
  ∀ (ys : List V) (p : Addr), Paired Pr ys (bs.mergeSort (dataLe false enc)) → H p = none → Q (.ref p) (upd H p (.lst ys))
theorem cr_sortD {X : Cx} {β : Type} {enc : β → PyData} {Pr : V → β → Prop} (hu : X.A.units + 64 < cLine) : CallR X (.builtin "sorted") (rSortD enc Pr X) := by
  intro pins
  intro s σ H vs us Q I r h
  obtain ⟨a, xs, bs, rfl, hs, hd, hp, hal, hk, hdep, q⟩ := h
  have fin : ∀ its : List Value, Vals xs its → SeqObj s.heap a its → xs.length ≤ sizeLine → wpAny (model X.prog X.w) X.A (call (.builtin "sorted") [.ref a]) (EP X pins σ Q) X.xe s := fun its rv hl hz => by
    have hlen : xs.length = bs.length := hd.length
    have er : EachIs (fun v b => ∃ as, Reads s.heap v (enc b) as) its bs := by
      obtain ⟨as, ra⟩ := Dp.readsAll I _ _ _ (prs_data hp hd) rv
      exact readsAll_each enc ra
    refine sorted_data2 hl (each_of_prs rv hd) er hal hk (by rw [← hlen]; exact hz) (fun b hb => by have := hdep b hb; omega) fun out ho he => ?_
    obtain ⟨ys, ry, hy⟩ := prs_of_each he
    rcases PyProof.Rows.sortedAll_at s.heap its out.toArray with ⟨ep, he'⟩
    have hlen2 : ys.length ≤ sizeLine := by rw [ry.length, ho, ← hlen]; exact hz
    exact ⟨.ref _, upd H (s.heap.objs.size + 1) (.lst ys), I.laid (t' := s.toks) (fun _ _ => PyProof.Rows.sortedAll_old) (Nat.le_succ _) ⟨hlen2, out, ep, ry, he'⟩, rfl, q ys _ hy (I.hok.fresh (Nat.le_succ _))⟩
  rw [Vals.ref1 r]
  rcases hs with hs | hs
  · obtain ⟨its, rv, hl, hz⟩ := I.list hs
    exact fin its rv (.inl hl.isList) hz
  · obtain ⟨its, rv, ⟨o, ho, hc, hd'⟩, hz⟩ := I.tuple hs
    exact fin its rv (.inr ⟨o, ho, hc, hd'⟩) hz
end RB
set_option Elab.async false
set_option linter.all false
set_option maxRecDepth 100000
set_option maxHeartbeats 2000000
/-! sorted(xs, key=f) over the layer: f makes objects, changes none. -/
namespace RB
open PySem PySem.Spec PyProof.Rows L2 PySem.W
/-! ### data stays -/
mutual
/-- no list within -/
def noLst : PyData → Bool
  | .none => true
  | .bool _ => true
  | .int _ => true
  | .str _ => true
  | .list _ => false
  | .tuple xs => noLstAll xs
  | .dict _ => false
def noLstAll : List PyData → Bool
  | [] => true
  | x :: xs => noLst x && noLstAll xs
end
/-- tuples and what is locked stand as before -/
structure Tups (H H' : Hp) : Prop where
  tup : ∀ b xs, H b = some (.tup xs) → H' b = some (.tup xs)
  frz : ∀ b o u, H b = some (.frz o u) → H' b = some (.frz o u)
theorem Tups.refl (H : Hp) : Tups H H := ⟨fun _ _ h => h, fun _ _ _ h => h⟩
theorem Tups.trans {H H1 H2 : Hp} (a : Tups H H1) (b : Tups H1 H2) : Tups H H2 := ⟨fun c xs h => b.tup c xs (a.tup c xs h), fun c o u h => b.frz c o u (a.frz c o u h)⟩
theorem Same.tups {H H' : Hp} (e : Same H H') : Tups H H' := ⟨fun b xs h => e b _ h, fun b o u h => e b _ h⟩
theorem Tups.updL {H : Hp} {a : Addr} {o : HO} (h : ∀ xs, H a ≠ some (.tup xs)) (h' : ∀ o u, H a ≠ some (.frz o u)) : Tups H (upd H a o) :=
  ⟨fun b xs e => by rw [upd_ne (fun z => h xs (by rw [← z]; exact e))]; exact e, fun b o u e => by rw [upd_ne (fun z => h' o u (by rw [← z]; exact e))]; exact e⟩
theorem Tups.seq {K : PySem.W.Frag} {H H' : Hp} {a : Addr} {xs : List V} (e : Tups H H') (h : SqT K H a xs) : SqT K H' a xs := by
  obtain (h | ⟨o, h⟩) | h := h
  · exact .inl (.inl (e.tup _ _ h))
  · exact .inl (.inr ⟨o, e.frz _ _ _ h⟩)
  · exact .inr h
mutual
theorem dp_tups {K : PySem.W.Frag} {H H' : Hp} (e : Tups H H') : ∀ (d : PyData) (v : V), noLst d = true → Dp K H v d → Dp K H' v d
  | .none, _, _, h => by cases h; exact .non
  | .bool b, _, _, h => by cases h; exact .bl b
  | .int i, _, _, h => by cases h; exact .int i
  | .str x, _, _, h => by cases h; exact .str x
  | .list ds, _, n, _ => by simp [noLst] at n
  | .dict _, _, n, _ => by simp [noLst] at n
  | .tuple ds, _, n, h => by
    cases h with
    | tup hs ha => exact .tup (e.seq hs) (dpAll_tups e ds _ (by simpa [noLst] using n) ha)
theorem dpAll_tups {K : PySem.W.Frag} {H H' : Hp} (e : Tups H H') : ∀ (ds : List PyData) (vs : List V), noLstAll ds = true → DpAll K H vs ds → DpAll K H' vs ds
  | [], _, _, h => by cases h; exact .nil
  | d :: ds, _, n, h => by
    have n' : noLst d = true ∧ noLstAll ds = true := by simpa [noLstAll] using n
    cases h with
    | cons h1 h2 => exact .cons (dp_tups e d _ n'.1 h1) (dpAll_tups e ds _ n'.2 h2)
end
theorem sameT {K : PySem.W.Frag} {H H' : Hp} {a : Addr} {xs : List V} (e : Same H H') (h : SqT K H a xs) : SqT K H' a xs := (Same.tups e).seq h
mutual
theorem dp_same {K : PySem.W.Frag} {H H' : Hp} (e : Same H H') : ∀ (d : PyData) (v : V), Dp K H v d → Dp K H' v d
  | .none, _, h => by cases h; exact .non
  | .bool b, _, h => by cases h; exact .bl b
  | .int i, _, h => by cases h; exact .int i
  | .str x, _, h => by cases h; exact .str x
  | .list ds, _, h => by
    cases h with
    | lst hs ha => exact .lst (e.seq hs) (dpAll_same e ds _ ha)
  | .dict _, _, h => by cases h
  | .tuple ds, _, h => by
    cases h with
    | tup hs ha => exact .tup (sameT e hs) (dpAll_same e ds _ ha)
theorem dpAll_same {K : PySem.W.Frag} {H H' : Hp} (e : Same H H') : ∀ (ds : List PyData) (vs : List V), DpAll K H vs ds → DpAll K H' vs ds
  | [], _, h => by cases h; exact .nil
  | d :: ds, _, h => by
    cases h with
    | cons h1 h2 => exact .cons (dp_same e d _ h1) (dpAll_same e ds _ h2)
end
theorem noLstAll_map {β : Type} {k : β → PyData} (h : ∀ b, noLst (k b) = true) : ∀ bs : List β, noLstAll (bs.map k) = true
  | [] => rfl
  | b :: bs => by
    show (noLst (k b) && noLstAll (bs.map k)) = true
    rw [h b, noLstAll_map h bs]
    rfl
/-! ### the sort by keys -/
section
variable {X : Cx} {β : Type}
/-- what a call of the key gives: f is called anywhere below X, in a heap that has all of H0; it makes objects, changes none -/
def KeyFn (X : Cx) (pins : List (Addr × Obj)) (σ : L2.St) (H0 : Hp) (A : Around) (f : Value) (Pr : V → β → Prop) (k : β → PyData) (bs : List β) : Prop :=
  ∀ (more : List (Addr × Obj)) (s : Shared) (H : Hp) (x : V) (u : Value) (b : β), L2.Inv X (pins ++ more) σ H s → Same H0 H → RelV x u → Pr x b → b ∈ bs →
    wpAny (model X.prog X.w) A (call f [u]) (fun v s' => ∃ y H', L2.Inv X (pins ++ more) σ H' s' ∧ Same H H' ∧ RelV y v ∧ Dp X.K H' y (k b)) (fun _ _ => False) s
theorem key_tree {pins : List (Addr × Obj)} {σ : L2.St} {H0 : Hp} {s : Shared} {A : Around} {E : Value → Shared → Prop} {P : PySem.Fin → Shared → Prop} {a : Addr} {f : Value} {Pr : V → β → Prop} {k : β → PyData} {vs : List Value} {xs : List V} {bs : List β}
    (I : L2.Inv X pins σ H0 { s with heap := s.heap }) (rv : Vals xs vs) (hd : Paired Pr xs bs) (hz : vs.length ≤ sizeLine) (hal : AllAlike (bs.map k)) (hsk : Sortable (bs.map k)) (hnl : ∀ b, noLst (k b) = true) (hu : ∀ b, b ∈ bs → A.units + (k b).depth < cLine)
    (hF : KeyFn X pins σ H0 A f Pr k bs) (hc : s.heap.get? a = some (seqObj "list" vs.toArray 0)) (ha0 : H0 a = none) (haL : a ≠ X.env.locals) (hafs : a ∉ X.fs) (ha1 : X.s_0.heap.objs.size ≤ a) (ha2 : ∀ x c, X.env.cells.lookup x = some c → c ≠ a) (ha3 : ∀ p ∈ X.pn ++ pins, p.1 ≠ a)
    (h : ∀ (ys : List V) (H' : Hp) (s' : Shared), L2.Inv X pins σ H' s' → Same H0 H' → H' a = some (.lst ys) → Paired Pr ys (bs.mergeSort (dataLe false k)) → P (.done (.ret .none)) s') :
    wpAny (model X.prog X.w) A (ksk_tree a f false) P E s := by
  have hlen : vs.length = bs.length := rv.length.symm.trans hd.length
  have halt : a < s.heap.objs.size := Heap.lt_size hc
  obtain ⟨e1, ho1⟩ : ∃ e1, (s.heap.update a (Obj.mapSeq fun _ => (#[] : Array Value))).get? a = some (seqObj "list" #[] e1) := ⟨_, get?_update_seq hc fun _ => #[]⟩
  have s1 := Heap.SameBut.update s.heap a <| Obj.mapSeq fun _ => (#[] : Array Value)
  have I1 : L2.Inv X pins σ H0 { s with heap := s.heap.update a (Obj.mapSeq fun _ => (#[] : Array Value)) } := I.turned (t' := s.toks) (it := a) (fun b o hb e => (s1.2 b hb).trans e) ha0 haL (.inr ha1) ha2 ha3
  generalize hg : s.heap.update a (Obj.mapSeq fun _ => (#[] : Array Value)) = g at ho1 I1
  have I2 : L2.Inv X pins σ H0 { s with heap := g.push (seqObj "tuple" vs.toArray 0) } := I1.kept (h' := g.push (seqObj "tuple" vs.toArray 0)) (t' := s.toks) fun b o e => Heap.get?_push_of_some _ e
  generalize hg2 : g.push (seqObj "tuple" vs.toArray 0) = g2 at I2
  have ho2 : g2.get? a = some (seqObj "list" #[] e1) := by rw [← hg2]; exact Heap.get?_push_of_some _ ho1
  have I2' : L2.Inv X (pins ++ [(a, seqObj "list" #[] e1)]) σ H0 { s with heap := g2 } := by
    refine I2.pins_of fun p hp => ?_
    obtain hp | hp := List.mem_append.mp hp
    · exact I2.pin p (List.mem_append_right _ hp)
    · rw [List.eq_of_mem_singleton hp]
      exact ⟨ho2, ha0, haL, hafs, fun v z => by cases z⟩
  have kS0 : H0 g2.objs.size = none := I2'.hok.fresh (Nat.le_refl _)
  have nkS : (g2.push (seqObj "list" #[] 0)).get? g2.objs.size = some (seqObj "list" #[] 0) := Heap.get?_push_size _ rfl
  have I3 : L2.Inv X (pins ++ [(a, seqObj "list" #[] e1)]) σ (upd H0 g2.objs.size (.lst [])) { s with heap := g2.push (seqObj "list" #[] 0) } :=
    I2'.laid (t' := s.toks) (fun b o e => Heap.get?_push_of_some _ e) (Nat.le_refl _) ⟨Nat.zero_le _, [], 0, .nil, nkS⟩
  have hkL : g2.objs.size ≠ X.env.locals := Nat.ne_of_gt I2'.lt
  have hk1 : X.s_0.heap.objs.size ≤ g2.objs.size := I2'.sz
  have hk2 : ∀ x c, X.env.cells.lookup x = some c → c ≠ g2.objs.size := fun x c e z => by
    obtain ⟨v, o, ho, _⟩ := I2'.cell x c e
    exact Nat.lt_irrefl _ (by rw [z] at ho; exact Heap.lt_size ho)
  have hk3 : ∀ p ∈ X.pn ++ pins, p.1 ≠ g2.objs.size := fun p hp z => by
    have := (I2.pin p hp).1
    rw [z] at this
    exact Nat.lt_irrefl _ (Heap.lt_size this)
  have hka : g2.objs.size ≠ a := Nat.ne_of_gt (Heap.lt_size ho2)
  generalize hkS : g2.objs.size = kS at *
  unfold ksk_tree
  refine wpAny_bind (listItems_at hc rfl ?_)
  refine wpAny_bind (listUpdate_at hc rfl ?_ (by rw [List.size_toArray]; exact hz) (Nat.zero_le _))
  rw [hg]
  refine wpAny_bind <| seqEpoch_at ho1 rfl ?_
  refine wpAny_bind <| wpAny_newTuple ?_ (by show vs.length ≤ _; exact hz)
  refine wpAny_bind <| wpAny_newList ?_ (Nat.zero_le _)
  refine wpAny_holding ?_
  show wpAny _ _ (ksk_rest a f false vs.toArray e1 (.ref (g.push (seqObj "tuple" vs.toArray 0)).objs.size)) _ _ { s with heap := (g.push (seqObj "tuple" vs.toArray 0)).push (seqObj "list" #[] 0) }
  rw [hg2, hkS]
  unfold ksk_rest
  refine wpAny_bind <| wpAny_rule ?_
  first
    | rw [List.forIn_toArray]
    | (rw [← Array.forIn_toList]
       simp only [List.toList_toArray])
    | rw [← Array.forIn_toList]
  refine wpAny_bind (ksk_fold (fun i s' => ∃ H' ks, L2.Inv X (pins ++ [(a, seqObj "list" #[] e1)]) σ H' s' ∧ Same H0 H' ∧ H' kS = some (.lst ks) ∧ DpAll X.K H' ks ((bs.map k).take i) ∧ i ≤ bs.length) vs 0 _
    ⟨_, [], I3, fun b o e => by rw [upd_ne (ne_of_none e kS0)]; exact e, upd_same, by rw [List.take_zero]; exact .nil, Nat.zero_le _⟩ ?step ?done)
  case step =>
    rintro j u s' hu' ⟨H', ks, J, sm, hK, hks, hi⟩
    simp only [Nat.zero_add] at hks hi ⊢
    have hj : j < vs.length := (List.getElem?_eq_some_iff.mp hu').1
    have hjb : j < bs.length := by omega
    obtain ⟨x, hx⟩ : ∃ x, xs[j]? = some x := ⟨_, List.getElem?_eq_getElem (by rw [rv.length]; exact hj)⟩
    obtain ⟨u2, hu2, r2⟩ := rv.get hx
    rw [hu'] at hu2
    cases hu2
    obtain ⟨d, hd1, hd2⟩ := prs_at hd hx
    rw [List.getElem?_eq_getElem hjb] at hd1
    obtain rfl := Option.some.inj hd1
    refine wpAny_bind (wpAny_attempt (wpAny_mono (hF [(a, seqObj "list" #[] e1)] s' H' x u bs[j] J sm r2 hd2 (List.getElem_mem hjb)) (fun v s'' he => ?_) fun _ _ hF => hF.elim))
    obtain ⟨y, H'', J', sm', ry, hy⟩ := he
    have hK' := sm' _ _ hK
    obtain ⟨hz1, its, n, rk, hob⟩ := J'.hok kS _ hK'
    have hkl : ks.length = j := by rw [DpAll.length hks, List.length_take, List.length_map]; omega
    have hk9 : its.toArray.size ≤ sizeLine := by rw [List.size_toArray, ← rk.length]; exact hz1
    obtain ⟨c2, hc2⟩ : ∃ c2, (s''.heap.update kS (Obj.mapSeq (·.push v))).get? kS = some (seqObj "list" (its.toArray.push v) c2) := ⟨_, get?_update_seq hob (·.push v)⟩
    have s2 := Heap.SameBut.update s''.heap kS (Obj.mapSeq (·.push v))
    try dsimp only
    refine wpAny_bind (listUpdate_at hob rfl ?_ hk9 (Nat.le_trans (Nat.le_of_eq (Array.size_push ..)) (Nat.succ_le_succ hk9)))
    have tps : Tups H'' (upd H'' kS (.lst (ks ++ [y]))) := Tups.updL (fun xs z => by rw [hK'] at z; cases z) (fun o u z => by rw [hK'] at z; cases z)
    have hzz : (ks ++ [y]).length ≤ sizeLine := by
      rw [List.length_append, hkl, List.length_singleton]
      omega
    refine wpAny_pure ⟨rfl, upd H'' kS (.lst (ks ++ [y])), ks ++ [y], J'.write (e := kS) (t' := s''.toks) (by rw [hK']; trivial) (.inl rfl) (fun b o hb e => (s2.2 b hb).trans e) ⟨_, hc2⟩ ⟨hzz, its ++ [v], c2, rk.append (.cons ry .nil), by rw [hc2]; simp⟩, ?_, upd_same, ?_, by omega⟩
    · intro b o e
      rw [upd_ne (ne_of_none e kS0)]
      exact sm' _ _ (sm _ _ e)
    · have ek : (bs.map k).take (j + 1) = (bs.map k).take j ++ [k bs[j]] := by
        rw [List.take_add_one, List.getElem?_map, List.getElem?_eq_getElem hjb]
        rfl
      rw [ek]
      have nl : noLstAll ((bs.map k).take j) = true := by
        rw [← List.map_take]
        exact noLstAll_map hnl _
      exact DpAll.append (dpAll_tups tps _ _ nl (dpAll_same sm' _ _ hks)) (.cons (dp_tups tps _ _ (hnl _) hy) .nil)
  case done =>
    rintro s' ⟨H', ks, J, sm, hK, hks, hi⟩
    rw [Nat.zero_add, hlen, List.take_of_length_le (by rw [List.length_map]; exact Nat.le_refl _)] at hks
    obtain ⟨hz1, its, n, rk, hob⟩ := J.hok kS _ hK
    have hkl : its.length = bs.length := by rw [← rk.length, DpAll.length hks, List.length_map]
    have na : s'.heap.get? a = some (seqObj "list" #[] e1) := (J.pin (a, seqObj "list" #[] e1) (by simp)).1
    try dsimp only
    refine wpAny_bind (listItems_at hob rfl ?_)
    obtain ⟨as, ra⟩ := Dp.readsAll J _ _ _ hks rk
    have er : EachIs (fun v b => ∃ as, Reads s'.heap v b as) its (bs.map k) := each_map (R := fun v b => ∃ as, Reads s'.heap v b as) k (readsAll_each k ra)
    have hal' := hal
    have kp : KeepsBut a (hideAll s'.heap [kS]) s'.heap := fun b o _ e => of_hideAll [kS] e
    have hkS' : (hideAll s'.heap [kS]).get? kS = none := hideAll_none [kS] (by simp)
    refine keyH_end (κ := dataKind s'.heap (bs.map k)) (h₁ := hideAll s'.heap [kS]) kp hkS' hob na hka (SortsAt.data (s := s') er hal hsk (bound_map hu)) (by rw [List.size_toArray, hkl, hlen]) hz fun h' tk c k3 n3 => ?_
    -- the sorted values
    have ko : KeyedOut false (bs.map k) vs (sortVals (dataKind s'.heap (bs.map k)) false its vs) := ⟨s'.heap, its, hal, rfl, er⟩
    have n3' : h'.get? a = some (seqObj "list" (List.toArray (sortVals (dataKind s'.heap (bs.map k)) false its vs)) c) := n3
    have eo := keyedOut_each k ko (each_of_prs rv hd)
    obtain ⟨ys, ry, hy⟩ := prs_of_each eo
    have hyl : ys.length ≤ sizeLine := by
      rw [ry.length, ko.length (by rw [List.length_map]; exact hlen.symm)]
      exact hz
    have kept : ∀ b o, b ≠ a → b ≠ kS → s'.heap.get? b = some o → h'.get? b = some o := fun b o h1 h2 e => k3 b o h1 (hideAll_get [kS] e (by simpa using h2))
    have J0 : L2.Inv X pins σ H' s' := J.pins_of fun p hp => J.pin p (List.mem_append_right _ (List.mem_append_left _ hp))
    have hJa : H' a = none := (J.pin (a, seqObj "list" #[] e1) (by simp)).2.1
    -- a is told, the key store forgotten
    have L : L2.Inv X pins σ (fun b => if b = kS then none else upd H' a (.lst ys) b) { s' with heap := h', toks := tk } := by
      have at_ : ∀ b, b ≠ kS → b ≠ a → (fun b => if b = kS then none else upd H' a (.lst ys) b) b = H' b := fun b h1 h2 => by
        show (if b = kS then none else upd H' a (.lst ys) b) = H' b
        rw [if_neg h1, upd_ne h2]
      have nt : ∀ b u, H' b = some u → (∀ zs, u ≠ .lst zs) → b ≠ kS ∧ b ≠ a := fun b u e hu => ⟨fun z => (by rw [z, hK] at e; exact hu _ (Option.some.inj e).symm), fun z => (by rw [z, hJa] at e; cases e)⟩
      refine J0.step (g' := s'.gens) (d' := s'.drawn) (ch := [a, kS]) (fun b hb => ?_) (fun b o _ _ hc e _ => ?_) (fun b o _ _ hc e _ => ⟨o.slots, ?_⟩) (fun b o hc e n => ?_) (fun b o hc e => ⟨o, ?_⟩) (fun b zs e => ?_) (fun b o u e => ?_) (fun b ps e => ⟨#[], ?_⟩) (fun m hm => ?_) (fun b u e => ?_) J0.bare
      · obtain rfl | hb := List.mem_cons.mp hb
        · exact ⟨.inr ha1, haL, ha2, ha3⟩
        · rw [List.eq_of_mem_singleton hb]
          exact ⟨.inr hk1, hkL, hk2, hk3⟩
      · exact kept b o (fun z => hc (by simp [z])) (fun z => hc (by simp [z])) e
      · exact kept b o (fun z => hc (by simp [z])) (fun z => hc (by simp [z])) e
      · exact (at_ b (fun z => hc (by simp [z])) (fun z => hc (by simp [z]))).trans n
      · exact kept b o (fun z => hc (by simp [z])) (fun z => hc (by simp [z])) e
      · obtain ⟨h1, h2⟩ := nt b _ e (fun zs z => by cases z)
        exact (at_ b h1 h2).trans e
      · obtain ⟨h1, h2⟩ := nt b _ e (fun zs z => by cases z)
        exact (at_ b h1 h2).trans e
      · obtain ⟨h1, h2⟩ := nt b _ e (fun zs z => by cases z)
        exact ((at_ b h1 h2).trans e).trans (by simp)
      · rcases hm with ⟨o, es, ep, ho, r⟩
        exact ⟨o, es, ep, kept _ o (Ne.symm haL) (Ne.symm hkL) ho, r⟩
      · have e' : (if b = kS then none else upd H' a (.lst ys) b) = some u := e
        by_cases h1 : b = kS
        · rw [if_pos h1] at e'
          cases e'
        · rw [if_neg h1] at e'
          by_cases h2 : b = a
          · rw [h2, upd_same] at e'
            cases e'
            rw [h2]
            exact ⟨hyl, _, c, ry, n3'⟩
          · rw [upd_ne h2] at e'
            refine (J0.hok b u e').stay (fun d v hd' q => kept d v ?_ ?_ q) (fun d q => ?_) fun d zs q => ?_
            · rcases hd' with z | z
              · rw [z]; exact h2
              · exact (nt d _ z (fun zs z => by cases z)).2
            · rcases hd' with z | z
              · rw [z]; exact h1
              · exact (nt d _ z (fun zs z => by cases z)).1
            · obtain ⟨h3, h4⟩ := nt d _ q (fun zs z => by cases z)
              exact (at_ d h3 h4).trans q
            · obtain ⟨h3, h4⟩ := nt d _ q (fun zs z => by cases z)
              exact (at_ d h3 h4).trans q
    refine h ys _ _ L (fun b o e => ?_) ?_ hy
    · show (if b = kS then none else upd H' a (.lst ys) b) = some o
      rw [if_neg (ne_of_none e kS0), upd_ne (ne_of_none e ha0)]
      exact sm _ _ e
    · show (if a = kS then none else upd H' a (.lst ys) a) = _
      rw [if_neg hka.symm, upd_same]
/-- sorted(xs, key=f): a new list -/
theorem sorted_key {pins : List (Addr × Obj)} {σ : L2.St} {H : Hp} {s : Shared} {Q : VK} {l : Addr} {f : Addr} {Pr : V → β → Prop} {k : β → PyData} {xs : List V} {bs : List β} (I : L2.Inv X pins σ H s) (hs : SqL X.K H l xs ∨ SqT X.K H l xs) (hd : Paired Pr xs bs)
    (hal : AllAlike (bs.map k)) (hsk : Sortable (bs.map k)) (hnl : ∀ b, noLst (k b) = true) (hu : ∀ b, b ∈ bs → X.A.units + 2 + (k b).depth < cLine) (hF : KeyFn X pins σ H X.A.in1.in1 (.ref f) Pr k bs)
    (q : ∀ (ys : List V) (p : Addr) (H' : Hp), Same H H' → H p = none → H' p = some (.lst ys) → Paired Pr ys (bs.mergeSort (dataLe false k)) → Q (.ref p) H') :
    wpAny (model X.prog X.w) X.A (call (.builtin "sorted") [.ref l] [(Str.ofString "key", .ref f)]) (EP X pins σ Q) X.xe s := by
  have fin : ∀ its : List Value, Vals xs its → SeqObj s.heap l its → xs.length ≤ sizeLine → wpAny (model X.prog X.w) X.A (call (.builtin "sorted") [.ref l] [(Str.ofString "key", .ref f)]) (EP X pins σ Q) X.xe s := fun its rv hl hz => by
    refine sorted_of_sort2 hl (by rw [← rv.length]; exact hz) (ksk_s1 _ _) (fun x => ksk_l1 _ _) fun E' => ?_
    rw [ksk_t1]
    have I2 : L2.Inv X pins σ H { s with heap := copyHeap s.heap its } := I.kept (t' := s.toks) fun b o e => copyHeap_old e
    have hf0 : H (s.heap.objs.size + 1) = none := I.hok.fresh (Nat.le_succ _)
    refine key_tree (s := { s with heap := copyHeap s.heap its }) (H0 := H) (xs := xs) (bs := bs) (k := k) I2 rv hd (by rw [← rv.length]; exact hz) hal hsk hnl hu hF (copyHeap_at s.heap its) hf0 (Nat.ne_of_gt (Nat.lt_succ_of_lt I.lt)) (I.nofs (Nat.le_succ _)) (Nat.le_succ_of_le I.sz)
      (fun x c e z => ?_) (fun p hp z => ?_) fun ys H' s' J sm hp hy => ⟨rfl, .ref _, H', J, rfl, q ys _ H' sm hf0 hp hy⟩
    · obtain ⟨v, o, ho, _⟩ := I.cell x c e
      have h1 : c < s.heap.objs.size := Heap.lt_size ho
      rw [z] at h1
      exact absurd h1 (Nat.not_lt.mpr (Nat.le_succ _))
    · have h1 : p.1 < s.heap.objs.size := Heap.lt_size (I.pin p hp).1
      rw [z] at h1
      exact absurd h1 (Nat.not_lt.mpr (Nat.le_succ _))
  rcases hs with hs | hs
  · obtain ⟨its, rv, hl, hz⟩ := I.list hs
    exact fin its rv (.inl hl.isList) hz
  · obtain ⟨its, rv, ⟨o, ho, hc, hd'⟩, hz⟩ := I.tuple hs
    exact fin its rv (.inr ⟨o, ho, hc, hd'⟩) hz
end
end RB
set_option Elab.async false
set_option linter.all false
set_option maxRecDepth 100000
set_option maxHeartbeats 2000000
/-! sorted(xs, key=f): f a def; f a lambda with one parameter. -/
namespace RB
open PySem PySem.Spec PyProof.Rows L2
open PySem.W (AllAlike Sortable dataLe)
section
variable {X : Cx} {β : Type} {Pr : Hp → V → β → Prop} {k : β → PyData}
/-- a def as a key, by its promise -/
def spKey (K : PySem.W.Frag) (Pr : Hp → V → β → Prop) (k : β → PyData) (bs : List β) : Sp := fun vs H Q _ => ∃ x b, vs = [x] ∧ b ∈ bs ∧ Pr H x b ∧ ∀ y H', Same H H' → Dp K H' y (k b) → Q y H'
theorem in2 {k : Nat} {A : Around} (h : Room (k + 2) A) : Room k A.in1.in1 := (Room.in1 h).in1
theorem keyFn_def {pins : List (Addr × Obj)} {σ : L2.St} {H0 : Hp} {n : Nat} {f : Addr} {fd : FuncData} {ps : List Str} {bs : List β} (F : FnOk X.prog X.w X.K X.mg X.base CX0 n f fd ps (spKey X.K Pr k bs)) (hr : Room (n + 2) X.A) (hb : Binds X.K fd ps []) (hP : ∀ {H H' : Hp}, Same H H' → ∀ x b, Pr H x b → Pr H' x b) :
    KeyFn X pins σ H0 X.A.in1.in1 (.ref f) (Pr H0) k bs := by
  intro more s H x u b I sm rx hx hb'
  have hsp : spKey X.K Pr k bs [x] H (fun y H' => Same H H' ∧ Dp X.K H' y (k b)) E0 := ⟨x, b, rfl, hb', hP sm _ _ hx, fun y H' s h => ⟨s, h⟩⟩
  have e0 : Env0 X.prog X.w X.K X.mg X.base X.A.in1.in1 X.stack s H := I.env0.in1.in1
  have r2 : Vals [x] [u] := .cons rx .nil
  have hl := F.len _ _ _ _ hsp
  refine wpAny_call (codeAny_mono (F.run X.A.in1.in1 X.stack s H ⟨[u], []⟩ [u] [x] _ E0 (in2 hr) e0 (by
    have := hb s [u] I.kIn (by simpa using hl)
    simpa using this)
    r2 hsp) fun r s' hq => ?_)
  cases r with
  | error e => exact hq.elim
  | ok fl =>
    cases fl with
    | ret w =>
      obtain ⟨y, H', I', rz, sm', hy⟩ := I.after hq
      exact ⟨y, H', I', sm', rz, hy⟩
    | next => exact False.elim hq
    | brk => exact False.elim hq
    | cont => exact False.elim hq
/-- sorted(xs, key=f), f a def -/
def rSortK (X : Cx) (f : Addr) (Pr : Hp → V → β → Prop) (k : β → PyData) (bs : List β) : List V → List V → Hp → VK → Prop := fun vs zs H Q => ∃ (a : Addr) (xs : List V), vs = [V.ref a] ∧ zs = [V.ref f] ∧ (SqL X.K H a xs ∨ SqT X.K H a xs) ∧ Paired (Pr H) xs bs ∧
  AllAlike (bs.map k) ∧ Sortable (bs.map k) ∧ (∀ b, noLst (k b) = true) ∧ (∀ b, b ∈ bs → (k b).depth ≤ 60) ∧
  ∀ (ys : List V) (p : Addr) (H' : Hp), Same H H' → H p = none → H' p = some (.lst ys) → Paired (Pr H) ys (bs.mergeSort (dataLe false k)) → Q (.ref p) H'
theorem cr_sortK {n : Nat} {f : Addr} {fd : FuncData} {ps : List Str} {bs : List β} (F : FnOk X.prog X.w X.K X.mg X.base CX0 n f fd ps (spKey X.K Pr k bs)) (hr : Room (n + 2) X.A) (hb : Binds X.K fd ps []) (hP : ∀ {H H' : Hp}, Same H H' → ∀ x b, Pr H x b → Pr H' x b) (hu : X.A.units + 64 < cLine) :
    CallRK X (.builtin "sorted") ["key"] (rSortK X f Pr k bs) := by
  intro pins s σ H vs zs us ws Q I r1 r2 h
  obtain ⟨a, xs, rfl, rfl, hs, hd, hal, hk, hnl, hdep, q⟩ := h
  rw [Vals.ref1 r1, Vals.ref1 r2]
  exact sorted_key I hs hd hal hk hnl (fun b hb => by have := hdep b hb; omega) (keyFn_def F hr hb hP) q
end
/-! ### a lambda with one parameter -/
structure LamP (N : List Str) (sc scope : Scope) (p : Str) (j : Nat) : Prop where
  kind : scope.kind = .function
  plain : scope.isCoroutine = false ∧ scope.isGenerator = false
  own : ∀ y ∈ scope.names, y.2 ≠ .cell ∧ (y.2 = .local → y.1 = p)
  free : ∀ z ∈ scope.names, z.2 = .free → sc.names.lookup z.1 = some .cell ∨ sc.names.lookup z.1 = some .free
  par : scope.names.lookup p = some .local
  at_ : N[j]? = some p
  nd : N.Nodup
def lamPB (N : List Str) (sc scope : Scope) (p : Str) (j : Nat) : Bool :=
  decide (scope.kind = .function) && (!scope.isCoroutine && (!scope.isGenerator && ((scope.names.all fun y => !decide (y.2 = .cell) && (!decide (y.2 = .local) || decide (y.1 = p)) && (!decide (y.2 = .free) || decide (sc.names.lookup y.1 = some .cell) || decide (sc.names.lookup y.1 = some .free))) &&
    (decide (scope.names.lookup p = some .local) && (decide (N[j]? = some p) && decide (N.Nodup))))))
theorem lamP_by {N : List Str} {sc scope : Scope} {p : Str} {j : Nat} (h : lamPB N sc scope p j = true) : LamP N sc scope p j := by
  unfold lamPB at h
  simp only [Bool.or_eq_true, Bool.not_eq_true', decide_eq_true_eq, decide_eq_false_iff_not, List.all_eq_true, Bool.and_eq_true] at h
  obtain ⟨h1, h2, h3, h4, h5, h6, h7⟩ := h
  refine ⟨h1, ⟨h2, h3⟩, fun y hy => ⟨(h4 y hy).1.1, fun e => ?_⟩, fun y hy e => ?_, h5, h6, h7⟩
  · rcases (h4 y hy).1.2 with z | z
    · exact absurd e z
    · exact z
  · rcases (h4 y hy).2 with (z | z) | z
    · exact absurd e z
    · exact .inl z
    · exact .inr z
abbrev lamEnvP (X : Cx) (scope : Scope) (L f c' : Addr) : Env := PySem.W.envX (X.env.qual ++ "<lambda>") scope L f (.ref c') (cloFrom X.env.cells scope.names [])
/-- the context of the lambda's body, entered at s from X's frames -/
def lamPx (X : Cx) (A : Around) (s : Shared) (H : Hp) (scope : Scope) (f c' : Addr) : Cx where
  prog := X.prog
  w := X.w
  K := X.K
  mg := X.mg
  base := X.base
  A := A.deeper (lamEnvP X scope s.heap.objs.size f c')
  N := X.N
  s_0 := s
  H_0 := H
  env := lamEnvP X scope s.heap.objs.size f c'
  outer := X.stack
  stack := lamEnvP X scope s.heap.objs.size f c' :: X.stack
  ex := []
  fn := fun _ => false
  calm := true
  pn := []
  xe := fun _ _ => False
/-- what a closure's cells are: those of the maker -/
theorem clo_of {cells : List (Str × Addr)} {names : List (Str × NameKind)} (has : ∀ n, (n, NameKind.free) ∈ names → ∃ c, cells.lookup n = some c) {n : Str} {c : Addr} (e : (cloFrom cells names []).lookup n = some c) : cells.lookup n = some c := by
  obtain h | ⟨hn, rfl⟩ := cloFrom_mem (PySem.mem_of_lookup e)
  · exact absurd h (by simp)
  · obtain ⟨c1, h1⟩ := has n hn
    rw [h1, Option.getD_some]
theorem clo_in {cells : List (Str × Addr)} {names : List (Str × NameKind)} {n : Str} (h : names.lookup n = some .free) : ∃ c, (cloFrom cells names []).lookup n = some c := mem_lookup (cloFrom_has (PySem.mem_of_lookup h))
section
variable {X : Cx}
theorem LamP.cells {scope : Scope} {p : Str} {j : Nat} (L : LamP X.N X.env.scope scope p j) (ok : X.Ok) (n : Str) (h : (n, NameKind.free) ∈ scope.names) : ∃ c, X.env.cells.lookup n = some c := ok.has n (L.free _ h rfl)
/-- the lambda's body begins: the slots as its maker has them, its parameter set -/
theorem lamP_start {pins : List (Addr × Obj)} {σ : L2.St} {H : Hp} {s : Shared} {A : Around} {scope : Scope} {p : Str} {j : Nat} {f c' : Addr} {g : Heap} {tk : Nat} {x : V} {u : Value} (I : L2.Inv X pins σ H s) (L : LamP X.N X.env.scope scope p j) (e0 : Env0 X.prog X.w X.K X.mg X.base A X.stack s H) (calm : A.handled = none) (rx : L2.RelV x u)
    (ns : g.Ns s.heap.objs.size fun y => ([(p, u)] : List (Str × Value)).reverse.lookup y) (up : ∀ b o, s.heap.get? b = some o → g.get? b = some o) :
    L2.Inv (lamPx X A s H scope f c') [] (σ.set j (some x)) H { s with heap := g, toks := tk } := by
  have mine : ∀ {n : Str} {c : Addr}, (lamPx X A s H scope f c').env.cells.lookup n = some c → X.env.cells.lookup n = some c := fun q => clo_of (L.cells I.ok) q
  have cellsUp : ∀ {c : Addr} {v : Option Value}, s.heap.IsCell c v → g.IsCell c v := fun ⟨o, h1, h2⟩ => ⟨o, up _ o h1, h2⟩
  have empty_ : ∀ (b : Addr) (q : Prop), (b ∈ ([] : List Addr)) → q := fun b q h => nomatch h
  have good : (lamPx X A s H scope f c').Ok := by
    constructor
    · exact e0.mod
    · exact L.kind
    · rfl
    · rfl
    · exact Nat.le_refl _
    · exact fun n m c h1 h2 => I.ok.inj n m c (mine h1) (mine h2)
    · rintro n (h | h)
      · exact ((L.own _ (PySem.mem_of_lookup h)).1 rfl).elim
      · exact clo_in h
    · exact fun n c h _ => Bool.noConfusion h
    · exact fun _ => calm
    · exact Around.frames_deeper e0.frames
    · exact Or.inr ⟨rfl, rfl⟩
    · exact fun b h => empty_ _ _ h
    · exact e0.bs
    · exact e0.bsz
    · exact fun b o _ h => empty_ _ _ h
    · exact fun b h => empty_ _ _ h
    · exact e0.funs
    · exact e0.frf
  refine ⟨good, rfl, e0.bare, Un.kept up, ⟨_, ns, ?_⟩, ?_, e0.hok.fresh (Nat.le_refl _), fun n c h => I.freeC n c (mine h), (fun q h => nomatch h), e0.hok.kept up, (List.length_set ..).trans I.len⟩
  · intro i n v hn hv vis
    have hn : X.N[i]? = some n := hn
    have vis : Vis scope n := vis
    have ownP : scope.names.lookup n = some .local → n = p := fun h => (L.own _ (PySem.mem_of_lookup h)).2 rfl
    rcases vis with h | h | h
    · obtain rfl : n = p := ownP h
      obtain rfl : i = j := nodup_ix L.nd hn L.at_
      have hi : i < σ.length := by
        rw [I.len]
        exact (List.getElem?_eq_some_iff.mp hn).1
      rw [List.getElem?_set_self hi] at hv
      cases hv
      exact ⟨u, rx, .inl ⟨h, by simp [List.lookup]⟩⟩
    · exact ((L.own _ (PySem.mem_of_lookup h)).1 rfl).elim
    · have other : j ≠ i := by
        rintro rfl
        have := Option.some.inj (L.at_.symm.trans hn)
        rw [← this, L.par] at h
        cases h
      rw [List.getElem?_set_ne other] at hv
      obtain ⟨_, _, say⟩ := I.loc
      have there := L.free _ (PySem.mem_of_lookup h) rfl
      obtain ⟨u', ru, how⟩ := say i n v hn hv (Or.inr there)
      obtain ⟨c, hc⟩ := clo_in (cells := X.env.cells) h
      have hc' := mine hc
      refine ⟨u', ru, Or.inr ⟨Or.inr h, c, hc, cellsUp ?_⟩⟩
      rcases how with ⟨isL, _⟩ | ⟨_, c2, h2, z⟩
      · exfalso
        have isL : X.env.scope.names.lookup n = some .local := isL
        rcases there with t | t <;> (rw [show X.env.scope.names.lookup n = _ from t] at isL; cases isL)
      · obtain rfl : c = c2 := Option.some.inj (hc'.symm.trans h2)
        exact z
  · intro n c h
    obtain ⟨v, z⟩ := I.cell n c (mine h)
    exact ⟨v, cellsUp z⟩
variable {β : Type} {Pr : Hp → V → β → Prop} {k : β → PyData}
/-- the lambda as a key -/
theorem keyFn_lam {pins : List (Addr × Obj)} {σ : L2.St} {H0 : Hp} {n : Nat} {f c' : Addr} {bs : List β} {params : Arguments} {body : Expr} {scope : Scope} {p : Str} {j : Nat} {pm ctv : Value} {tb : TE} (L : LamP X.N X.env.scope scope p j)
    (hpin : ∀ (more : List (Addr × Obj)) (s : Shared) (H : Hp), L2.Inv X (pins ++ more) σ H s → s.heap.get? f = some (PySem.W.kla_obj "<lambda>" (X.env.qual ++ "<lambda>") params body scope (cloFrom X.env.cells scope.names []) pm c' ctv)) (hco : H0 c' = some (LamX.CodeO c' (X.env.qual ++ "<lambda>")))
    (hbind : ∀ u : Value, bindArgs (PySem.W.kla_fn "<lambda>" (X.env.qual ++ "<lambda>") params body scope (cloFrom X.env.cells scope.names []) pm (.ref c') ctv) ⟨[u], []⟩ = pure [(p, u)]) (hr : Room (n + 3) X.A) (hcalm : X.calm = true)
    (hbody : ∀ (s : Shared) (H : Hp), Room n (X.A.in1.in1.deeper (lamEnvP X scope s.heap.objs.size f c')) → PE (lamPx X X.A.in1.in1 s H scope f c') body tb)
    (ht : ∀ x b H, Same H0 H → Pr H0 x b → b ∈ bs → tb (σ.set j (some x)) H fun y H' => Same H H' ∧ Dp X.K H' y (k b)) : KeyFn X pins σ H0 X.A.in1.in1 (.ref f) (Pr H0) k bs := by
  intro more s H x u b I sm rx hx hb'
  have of1 := hpin more s H I
  have e0 : Env0 X.prog X.w X.K X.mg X.base X.A.in1.in1 X.stack s H := I.env0.in1.in1
  have hr2 : Room (n + 1) X.A.in1.in1 := in2 hr
  obtain ⟨⟨oc, vs, t, hoc, hdc, hvc⟩, _, _⟩ := I.hok c' _ (sm _ _ hco)
  have rc : codeAny (model X.prog X.w) X.A.in1.in1 (.call (.ref f) ⟨[u], []⟩) (CR CX0 X.stack X.prog X.w H s (fun y H' => Same H H' ∧ Dp X.K H' y (k b)) E0) s := by
    refine PySem.W.kla_callFunE hr2.depth of1 rfl L.plain.1 L.plain.2 rfl ⟨c', oc, vs, t, rfl, hoc, hdc, hvc⟩ ?_
    rw [hbind]
    refine wpAny_pure (wpAny_newFunctionEnv (fun y hy => (L.own y hy).1) (fun y hy => by rw [List.mem_singleton.mp hy]; exact L.par) (fun g ns sb => ⟨I.nolimit.fresh _ sb, ?_⟩) L.kind)
    have J := lamP_start (f := f) (c' := c') (tk := s.toks + ([(p, u)] : List (Str × Value)).length) I L e0 hr2.hd rx ns fun b o h => sb.extBut b o (Nat.ne_of_lt (Heap.lt_size h)) (Heap.get?_push_of_some _ h)
    have B := (hbody s H (hr2.deeper _)).run [] _ _ H _ J (ht x b H sm hx hb')
    exact PySem.W.kla_codeExpr (wpAny_mono B (fun v s' ⟨y, H', J', ry, q⟩ => ⟨y, H', J'.os, J'.bare, J'.base, J'.hok, ry, q⟩) fun _ _ z => False.elim z)
  refine wpAny_call <| codeAny_mono rc fun r s' hq => ?_
  cases r with
  | error e => exact (False.elim hq : _)
  | ok fl =>
    cases fl with
    | ret u =>
      obtain ⟨y, H', I', rz, sm', hy⟩ := I.after hq
      exact ⟨y, H', I', sm', rz, hy⟩
    | next => exact False.elim hq
    | brk => exact False.elim hq
    | cont => exact False.elim hq
/-- sorted(xs, key=lambda p: body) -/
def tSortLam (X : Cx) (T : List (Addr × Str)) (j : Nat) (Pr : Hp → V → β → Prop) (k : β → PyData) (te tb : TE) : TE := fun σ H Q => te σ H fun x H1 => LamX.Tabs T H1 ∧ ∀ H2, LamX.ExtN H1 H2 → LamX.Tabs T H2 →
  ∃ (a : Addr) (xs : List V) (bs : List β), x = V.ref a ∧ (SqL X.K H2 a xs ∨ SqT X.K H2 a xs) ∧ Paired (Pr H2) xs bs ∧ AllAlike (bs.map k) ∧ Sortable (bs.map k) ∧ (∀ b, noLst (k b) = true) ∧ (∀ b, b ∈ bs → (k b).depth ≤ 60) ∧
    (∀ y b H3, Same H2 H3 → Pr H2 y b → b ∈ bs → tb (σ.set j (some y)) H3 fun z H4 => Same H3 H4 ∧ Dp X.K H4 z (k b)) ∧
    ∀ (ys : List V) (p : Addr) (H3 : Hp), Same H2 H3 → H2 p = none → H3 p = some (.lst ys) → Paired (Pr H2) ys (bs.mergeSort (dataLe false k)) → Q (.ref p) H3
theorem pe_sortLam {T : List (Addr × Str)} {n j : Nat} {p : Str} {c P : Addr} {e : Expr} {te tb : TE} {params : Arguments} {body : Expr} {scope : Scope} {np lpos kpos pos : Pos} (he : PE X e te) (hg : Gl X "sorted") (hm : X.mg "sorted" = none) (L : LamP X.N X.env.scope scope p j)
    (TB : LamX.TabB X.base X.mg c P) (hcode : X.env.code = .ref c) (hmT : (P, X.env.qual ++ "<lambda>") ∈ T) (huT : ∀ p ∈ T, p.1 = P → p.2 = X.env.qual ++ "<lambda>") (hr : Room (n + 3) X.A) (hcalm : X.calm = true)
    (hbody : ∀ (s : Shared) (H : Hp) (f c' : Addr), Room n (X.A.in1.in1.deeper (lamEnvP X scope s.heap.objs.size f c')) → PE (lamPx X X.A.in1.in1 s H scope f c') body tb)
    (hbind : ∀ (q : Str) (cl : List (Str × Addr)) (pm cv ctv u : Value), bindArgs (PySem.W.kla_fn "<lambda>" q params body scope cl pm cv ctv) ⟨[u], []⟩ = pure [(p, u)])
    (hdef : defaultsOf params X.env = ([], []) := by rfl) (hes : backTo pos (starEach [e] X.env) = (false, eval e X.env) :: backTo pos (starEach [] X.env) := by rfl) (hpl : (backTo pos (starEach [e] X.env)).any (·.1) = false := by rfl)
    (hkw : backToKw pos (keywordEach [⟨some "key", .Lambda params body scope lpos, kpos⟩] X.env) = [(some (Str.ofString "key"), do let v ← eval (.Lambda params body scope lpos) X.env; standAt pos; pure v)] := by rfl) :
    PE X (.Call (.Name "sorted" np) [e] [⟨some "key", .Lambda params body scope lpos, kpos⟩] pos) (tSortLam X T j Pr k te tb) := by
  refine .mk fun pins s σ H Q I h => ?_
  have hfree : ∀ y ∈ scope.names, y.2 = .free → ∃ c, X.env.cells.lookup y.1 = some c := fun y hy e => I.ok.has _ (L.free y hy e)
  refine wpAny_Call_Name_kw (ld_blt (u := .builtin "sorted") I hg hm (by decide +kernel) ?_ (by decide) (by decide))
  refine PyProof.Rows.callWith_kw (kws := [⟨some (Str.ofString "key"), .Lambda params body scope lpos, kpos⟩]) ?_ hes hpl (by rw [hkw]; rfl) (by rw [hkw]; rfl)
  rw [hkw]
  rw [hes]
  refine Calls.spliced_cons (thn (he.run pins s σ H _ I h) fun u s1 ⟨x, H1, I1, r1, hT, q1⟩ => ?_)
  refine Calls.spliced_nil ?_
  show wpAny _ _ (evalAll [do let v ← eval (.Lambda params body scope lpos) X.env; standAt pos; pure v]) _ _ s1
  refine wpAny_evalAll_cons (wpAny_bind (LamX.lam_make2 I1 TB hcode hmT huT hT hdef hfree fun f c' pm ctv H2 s2 I2 eN T2 hf hfn hfr hco => wpAny_bind (wpAny_standAt (wpAny_pure ?_))))
  refine wpAny_evalAll_nil ?_
  obtain ⟨a, xs, bs, rfl, hs, hd, hal, hk, hnl, hdep, ht, q⟩ := q1 H2 eN T2
  cases (r1 : u = Value.ref a)
  show wpAny _ _ (call (.builtin "sorted") [.ref a] [(Str.ofString "key", .ref f)]) _ _ s2
  have hfL : f ≠ X.env.locals := fun z => by
    obtain ⟨m, ⟨o, es, ep, ho, hd', _⟩, _⟩ := I2.loc
    rw [z, ho] at hf
    have := Option.some.inj hf
    rw [this] at hd'
    cases hd'
  have hffs : f ∉ X.fs := fun z => by
    rcases I2.ok.stk with e | ⟨e, _⟩
    · exact hfr (by rw [e]; exact z)
    · refine hfr ?_
      rw [e]
      show f ∈ ((X.env :: X.outer).filterMap (·.frame))
      rw [List.filterMap_cons]
      cases X.env.frame with
      | none => exact z
      | some b => exact List.mem_cons_of_mem _ z
  have I3 : L2.Inv X (pins ++ [(f, PySem.W.kla_obj "<lambda>" (X.env.qual ++ "<lambda>") params body scope (cloFrom X.env.cells scope.names []) pm c' ctv)]) σ H2 s2 := I2.pins_of fun p hp => by
    obtain hp | hp := List.mem_append.mp hp
    · exact I2.pin p (List.mem_append_right _ hp)
    · rw [List.eq_of_mem_singleton hp]
      exact ⟨hf, hfn, hfL, hffs, fun v z => by cases z⟩
  have hu := hr.units
  refine wpAny_mono (sorted_key I3 hs hd hal hk hnl (fun b hb => by have := hdep b hb; omega) (keyFn_lam (n := n) (tb := tb) L (fun more s H J => (J.pin (f, PySem.W.kla_obj "<lambda>" (X.env.qual ++ "<lambda>") params body scope (cloFrom X.env.cells scope.names []) pm c' ctv) (List.mem_append_right _ (List.mem_append_left _ (List.mem_append_right _ (List.mem_singleton.mpr rfl))))).1) hco (fun u => hbind _ _ _ _ _ u) hr hcalm (fun s H hr' => hbody s H f c' hr') ht) (Q := Q) q) (fun v s' hq => ?_) fun _ _ z => z
  obtain ⟨w', H', J, rv, hQ⟩ := hq
  exact ⟨w', H', J.pins_of fun p hp => J.pin p (List.mem_append_right _ (List.mem_append_left _ hp)), rv, hQ⟩
end
end RB
set_option Elab.async false
set_option linter.all false
set_option maxRecDepth 100000
set_option maxHeartbeats 2000000
/-! {k: v for a in xs for b in ys}: a dict by two clauses, no tests. -/
namespace RB
open PySem PySem.Spec PyProof.Rows L2
section
variable {P : Program} {w : World} {A : Around} {kx vx t0 i0 t1 i1 : Expr} {scope : Scope} {pos : Pos} {it acc : Value} {D : Addr} {env : Env} {s : Shared} {F : Value → Shared → Prop} {Post : PySem.Fin → Shared → Prop}
abbrev dc2 (kx vx t0 i0 t1 i1 : Expr) (scope : Scope) (pos : Pos) : Expr := .DictComp kx vx [⟨t0, i0, [], 0⟩, ⟨t1, i1, [], 0⟩] scope pos
/-- one turn of the first clause -/
theorem dc2_out (nf : ∀ x, foldedSetIterable i1 env x = pure x)
    (h : wpAny (model P w) A (pyNext it) (fun r s1 => match r with
      | none => Post (.done .next) s1
      | some v => wpAny (model P w) A (letOwnedTupleGo t0 it v) (fun _ s2 => wpAny (model P w) A (assign t0 env v) (fun _ s3 => wpAny (model P w) A (eval i1 env) (fun x s4 => wpAny (model P w) A (pyIter x) (fun j s5 =>
          codeAny (model P w) A (.compStart (dc2 kx vx t0 i0 t1 i1 scope pos) 1 j acc env) (fun r s6 => match r with
            | .ok _ => Post (.again (.compLoop (dc2 kx vx t0 i0 t1 i1 scope pos) 0 it acc env)) s6
            | .error _ => False) s5) F s4) F s3) F s2) F s1) F s) :
    wpAny (model P w) A (compTurn (dc2 kx vx t0 i0 t1 i1 scope pos) 0 it acc env) Post F s := by
  unfold compTurn
  refine wpAny_bind (wpAny_standAt (wpAny_bind (wpAny_mono h (fun r s1 h1 => ?_) fun _ _ z => z)))
  cases r with
  | none => exact wpAny_pure h1
  | some v =>
    refine wpAny_bind (wpAny_mono h1 (fun _ s2 h2 => wpAny_bind (wpAny_mono h2 (fun _ s3 h3 => ?_) fun _ _ z => z)) fun _ _ z => z)
    show wpAny _ _ (eval i1 env >>= _) _ _ _
    refine wpAny_bind (wpAny_mono h3 (fun x s4 h4 => ?_) fun _ _ z => z)
    refine wpAny_bind <| wpAny_standAt ?_
    show wpAny _ _ (foldedSetIterable i1 env x >>= _) _ _ _
    refine wpAny_bind (wpAny_of_eq (nf x) ?_)
    show wpAny _ _ (holding [x] (pyIter x) >>= _) _ _ _
    refine wpAny_bind (wpAny_holding (wpAny_mono h4 (fun j s5 h5 => wpAny_bind (wpAny_runOwn ?_)) fun _ _ z => z))
    rw [Around.mark_none]
    refine codeAny_mono h5 fun r s6 h6 => ?_
    cases r with
    | error _ => exact h6.elim
    | ok _ => exact wpAny_pure h6
/-- one turn of the second clause -/
theorem dc2_in
    (h : wpAny (model P w) A (pyNext it) (fun r s1 => match r with
      | none => Post (.done .next) s1
      | some v => wpAny (model P w) A (letOwnedTupleGo t1 it v) (fun _ s2 => wpAny (model P w) A (assign t1 env v) (fun _ s3 => wpAny (model P w) A (eval kx env) (fun kv s4 => wpAny (model P w) A (eval vx env) (fun vv s5 =>
          wpAny (model P w) A (dictSet D kv vv) (fun _ s6 => Post (.again (.compLoop (dc2 kx vx t0 i0 t1 i1 scope pos) 1 it (.ref D) env)) s6) F s5) F s4) F s3) F s2) F s1) F s) :
    wpAny (model P w) A (compTurn (dc2 kx vx t0 i0 t1 i1 scope pos) 1 it (.ref D) env) Post F s := by
  unfold compTurn
  refine wpAny_bind (wpAny_standAt (wpAny_bind (wpAny_mono h (fun r s1 h1 => ?_) fun _ _ z => z)))
  cases r with
  | none => exact wpAny_pure h1
  | some v =>
    refine wpAny_bind (wpAny_mono h1 (fun _ s2 h2 => wpAny_bind (wpAny_mono h2 (fun _ s3 h3 => ?_) fun _ _ z => z)) fun _ _ z => z)
    show wpAny _ _ ((eval kx env >>= _) >>= _) _ _ _
    refine wpAny_bind (wpAny_bind (wpAny_mono h3 (fun kv s4 h4 => ?_) fun _ _ z => z))
    refine wpAny_bind (wpAny_holding (wpAny_mono h4 (fun vv s5 h5 => ?_) fun _ _ z => z))
    exact wpAny_bind (wpAny_standAt (wpAny_holding (wpAny_mono h5 (fun _ s6 h6 => wpAny_pure h6) fun _ _ z => z)))
/-- the second clause begins -/
theorem dc2_start {R : Result → Shared → Prop} (h0 : codeAny (model P w) A (.compLoop (dc2 kx vx t0 i0 t1 i1 scope pos) 1 it acc env) R s)
    (h : wpAny (model P w) A (pyIter it) (fun j s' => codeAny (model P w) A (.compLoop (dc2 kx vx t0 i0 t1 i1 scope pos) 1 j acc env) R s') (notedBy (model P w) A env fun x s' => R (.error x) s') s) :
    codeAny (model P w) A (.compStart (dc2 kx vx t0 i0 t1 i1 scope pos) 1 it acc env) R s := by
  refine codeAny_of_tree ?_
  show wpAny _ _ (Sem.onRaise (compStart (dc2 kx vx t0 i0 t1 i1 scope pos) 1 it acc env) _) _ _ s
  refine wpAny_notedAt ?_
  unfold compStart
  show wpAny (model P w) A (ask >>= _) _ _ s
  refine wpAny_bind <| wpAny_askSetting (wpAny_ite ?_)
  split
  · exact wpAny_pure ⟨rfl, h0⟩
  · exact wpAny_bind (wpAny_rule (wpAny_bind (wpAny_standAt (wpAny_bind (wpAny_mono h (fun j s' hj => wpAny_pure ⟨rfl, hj⟩) fun _ _ z => z)))))
end
/-- nothing is raised -/
theorem calmly {α : Type} {M : Model} {B : Around} {m : Sem α} {Q Q' : α → Shared → Prop} {F : Value → Shared → Prop} {s : Shared} (h : wpAny M B m Q (fun _ _ => False) s) (q : ∀ a s', Q a s' → Q' a s') : wpAny M B m Q' F s := wpAny_mono h q fun _ _ z => z.elim
section
variable {Y : Cx} {pins : List (Addr × Obj)} {σ σ' : L2.St} {H H' : Hp} {s s' : Shared} {tg : Expr} {J : It} {fp : List Addr} {it : Addr} {tn : Nat → Heap → Prop} {i : Nat}
/-- behind a turn's body: the iterator's own objects, pinned meanwhile, stand where they stood -/
theorem turn_over {P : Program} {w : World} {K : PySem.W.Frag} (T : Turn P w K tg J fp it tn) {h : Heap} (st : tn i h) (I : L2.Inv Y (pins ++ pinsAt fp h) σ H s) : tn i s.heap ∧ ∀ b ∈ fp, H b = none := by
  have at_ : ∀ b ∈ fp, ∀ o, h.get? b = some o → s.heap.get? b = some o ∧ H b = none := fun b hb o e => by
    have := I.pin (b, o) (List.mem_append_right _ (List.mem_append_right _ (mem_pinsAt hb e)))
    exact ⟨this.1, this.2.1⟩
  refine ⟨T.keep i h _ st fun b hb o e => (at_ b hb o e).1, fun b hb => ?_⟩
  obtain ⟨o, e, _⟩ := T.obj i h st b hb
  exact (at_ b hb o e).2
/-- slots told again as they were ahead of the target's store -/
theorem slots_back {vs : List Nat} (I : L2.Inv Y pins σ' H s) (e : wipe σ' vs = wipe σ vs) : L2.Inv Y pins (wipe σ vs) H s := by
  rw [← e]
  exact I.weak (wipe_length σ' vs) fun k v q => (wipe_some q).1
end
section
variable {X : Cx}
/-- {k: v for t0 in i0 for t1 in i1}: D the new dict. The outer loop's W, Nx; the inner one's W1, Nx1 -/
def tDc2 (wi : TI) (g : TG) (wi1 : TI) (g1 : TG) (tk tv : TE) (vs vs1 : List Nat) : TE := fun σ H Q => wi σ H fun J H1 => ∀ D, H1 D = none → ∃ W : Nat → Nat → Hp → Prop, (∃ m, W 0 m (upd H1 D (.dK []))) ∧ ∀ i m H, W i m H →
  (J.stop i H ∧ Q (.ref D) H) ∨ (J.go i H ∧ ∃ Nx : Hp → Prop, (∀ H', Nx H' → ∃ m', m' < m ∧ W (i + 1) m' H') ∧ ∀ x H', J.yld i H x H' → g x (wipe σ vs) H' fun σ2 H2 => wipe σ2 vs = wipe σ vs ∧
    wi1 σ2 H2 fun J1 H3 => ∃ W1 : Nat → Nat → Hp → Prop, (∃ m, W1 0 m H3) ∧ ∀ j k H, W1 j k H →
      (J1.stop j H ∧ Nx H) ∨ (J1.go j H ∧ ∃ Nx1 : Hp → Prop, (∀ H', Nx1 H' → ∃ k', k' < k ∧ W1 (j + 1) k' H') ∧ ∀ y H', J1.yld j H y H' → g1 y (wipe σ2 vs1) H' fun σ3 H4 => wipe σ3 vs1 = wipe σ2 vs1 ∧
        tk σ3 H4 fun u H5 => tv σ3 H5 fun z H6 => ∃ kvs key, u = kV key ∧ H6 D = some (.dK kvs) ∧ kvs.length < sizeLine ∧ Nx1 (upd H6 D (.dK (putK kvs key z)))))
abbrev InBlk (X : Cx) (scope : Scope) (p : Cx → Prop) : Prop := ∀ (s : Shared) (H : Hp) (C : Addr) (cl : List (Str × Addr)) (fp : List Addr), p (X.blk s H scope (compEnvC scope cl C X.env) fp)
theorem pe_dc2 {kx vx t0 i0 t1 i1 : Expr} {scope : Scope} {own : List (Str × Nat)} {vs1 : List Nat} {pos : Pos} {wi wi1 : TI} {g g1 : TG} {tk tv : TE} (calm : X.calm = true) (nd : X.N.Nodup) (hi : PI X t0 i0 wi) (ok : BlkOk X.N X.env.scope scope own) (hv : ∀ i ∈ vs1, i ∈ own.map (·.2))
    (hg : InBlk X scope fun Y => PG Y t0 g) (hi1 : InBlk X scope fun Y => PI Y t1 i1 wi1) (hg1 : InBlk X scope fun Y => PG Y t1 g1) (hk : InBlk X scope fun Y => PE Y kx tk) (he : InBlk X scope fun Y => PE Y vx tv)
    (f0 : ∀ x, foldedSetIterable i0 X.env x = pure x := by intro _; rfl) (f1 : ∀ env x, foldedSetIterable i1 env x = pure x := by intro _ _; rfl) :
    PE X (dc2 kx vx t0 i0 t1 i1 scope pos) (tDc2 wi g wi1 g1 tk tv (own.map (·.2)) vs1) := by
  refine .mk fun pins s σ H Q I h => ?_
  have cl0 : ∀ y ∈ scope.names, y.2 = .free → ∃ c, X.env.cells.lookup y.1 = some c := fun y hy e => I.ok.has _ (ok.free y hy e)
  unfold dc2
  rw [arm_eval_DictComp]
  refine wpAny_comprehension_free (use := none) rfl f0 (closure_ok cl0) ok.kind (fun y hy e => (ok.uniq y hy).trans (congrArg some e)) (wpAny_mono (hi.run pins s σ H _ I h) (fun _ s1 h1 => wpAny_mono h1 (fun _ s2 h2 => ?_) fun _ _ z => z) fun _ _ z => z)
  obtain ⟨it, fp, tn, J, H2, rfl, I2, T, st2, own2, q⟩ := h2
  refine wpAny_newObj_type <| newEnv_comp ?_
  have fresh : H2 s2.heap.objs.size = none := I2.hok.fresh (Nat.le_refl _)
  obtain ⟨W, ⟨m0, w0⟩, turn⟩ := q _ fresh
  -- the new dict is told
  have I3 : L2.Inv X pins σ (upd H2 s2.heap.objs.size (.dK [])) { s2 with heap := s2.heap.push { cls := .type "dict", data := .dict #[] } } := I2.laid (t' := s2.toks) (fun _ _ e => Heap.get?_push_of_some _ e) (Nat.le_refl _) (dk_empty s2.heap I2.big)
  have below : ∀ b ∈ fp, b < s2.heap.objs.size := fun b hb => (T.obj 0 _ st2 b hb).elim fun o e => Heap.lt_size e.1
  have fp3 : ∀ b ∈ fp, FpOk X pins (upd H2 s2.heap.objs.size (.dK [])) b ∧ b < (s2.heap.push { cls := .type "dict", data := .dict #[] } : Heap).objs.size := fun b hb => by
    have lt := below b hb
    refine ⟨⟨(upd_ne (Nat.ne_of_lt lt)).trans (own2 b hb).1, (own2 b hb).2⟩, ?_⟩
    rw [Heap.size_push]
    exact Nat.lt_succ_of_lt lt
  have st3 : tn 0 (s2.heap.push { cls := .type "dict", data := .dict #[] }) := T.keep 0 _ _ st2 fun _ _ _ e => Heap.get?_push_of_some _ e
  generalize hD : s2.heap.objs.size = D at *
  generalize hs3 : ({ s2 with heap := s2.heap.push { cls := .type "dict", data := .dict #[] } } : Shared) = s3 at *
  have hh3 : s2.heap.push { cls := .type "dict", data := .dict #[] } = s3.heap := by rw [← hs3]
  rw [hh3] at fp3 st3
  generalize hH3 : upd H2 D (.dK []) = H3 at *
  have I4 := block_start I3 ok nd fp3
  have rG := hg s3 H3 s3.heap.objs.size (cellsFrom (s3.heap.objs.size + 1) scope.names (cloFrom X.env.cells scope.names [])) fp
  have rI := hi1 s3 H3 s3.heap.objs.size (cellsFrom (s3.heap.objs.size + 1) scope.names (cloFrom X.env.cells scope.names [])) fp
  have rG1 := hg1 s3 H3 s3.heap.objs.size (cellsFrom (s3.heap.objs.size + 1) scope.names (cloFrom X.env.cells scope.names [])) fp
  have rK := hk s3 H3 s3.heap.objs.size (cellsFrom (s3.heap.objs.size + 1) scope.names (cloFrom X.env.cells scope.names [])) fp
  have rE := he s3 H3 s3.heap.objs.size (cellsFrom (s3.heap.objs.size + 1) scope.names (cloFrom X.env.cells scope.names [])) fp
  have st4 : tn 0 (pushCells (s3.heap.push { cls := .type "dict", data := .dict #[] }) scope.names) := T.keep 0 _ _ st3 fun b _ o e => pushCells_keeps _ _ _ _ (Heap.get?_push_of_some _ e)
  show codeAny _ _ (.compStart (dc2 kx vx t0 i0 t1 i1 scope pos) 0 (.ref it) (.ref D) (compEnvC scope (cellsFrom (s3.heap.objs.size + 1) scope.names (cloFrom X.env.cells scope.names [])) s3.heap.objs.size X.env)) (compPost (model X.prog X.w) X.A X.xe none (EP X pins σ Q) (.ref D) s3.heap.objs.size) { s3 with heap := pushCells (s3.heap.push { cls := .type "dict", data := .dict #[] }) scope.names }
  have locals_ : (compEnvC scope (cellsFrom (s3.heap.objs.size + 1) scope.names (cloFrom X.env.cells scope.names [])) s3.heap.objs.size X.env).locals = s3.heap.objs.size := rfl
  generalize compEnvC scope (cellsFrom (s3.heap.objs.size + 1) scope.names (cloFrom X.env.cells scope.names [])) s3.heap.objs.size X.env = ce at *
  have exOk : ∀ {τ : L2.St} {H' : Hp} {s' : Shared}, L2.Inv (X.blk s3 H3 scope ce fp) [] τ H' s' → (∀ b ∈ fp, H' b = none) → ∀ b ∈ fp, FpOk (X.blk s3 H3 scope ce fp) [] H' b := fun I' hn b hb =>
    ⟨hn b hb, (I'.ok.exf b hb).1, I'.ok.exfs b hb, Or.inl hb, (fun x c e => (I'.ok.exf b hb).2 x c e), fun p hp => absurd hp (List.not_mem_nil)⟩
  have outer : codeAny (model X.prog X.w) X.A (.compLoop (dc2 kx vx t0 i0 t1 i1 scope pos) 0 (.ref it) (.ref D) ce) (compPost (model X.prog X.w) X.A X.xe none (EP X pins σ Q) (.ref D) s3.heap.objs.size) { s3 with heap := pushCells (s3.heap.push { cls := .type "dict", data := .dict #[] }) scope.names } := by
    refine codeAny_loop rfl (fun m s' => ∃ i H', L2.Inv (X.blk s3 H3 scope ce fp) [] (wipe σ (own.map (·.2))) H' s' ∧ tn i s'.heap ∧ (∀ b ∈ fp, H' b = none) ∧ W i m H') ?_ m0 ⟨0, H3, I4, st4, fun b hb => (fp3 b hb).1.1, w0⟩
    rintro m s5 ⟨i, H5, I5, st5, n5, w5⟩
    refine wpAny_noted (dc2_out (f1 ce) ?_)
    rcases turn i m H5 w5 with ⟨stop, fin⟩ | ⟨go, Nx, less, step⟩
    · refine calmly (T.done (X.blk s3 H3 scope ce fp) rfl rfl rfl calm i [] s5 _ H5 (fun _ _ => False) I5 (exOk I5 n5) st5 stop) ?_
      rintro r s6 ⟨rfl, I6⟩
      have I7 : L2.Inv X pins σ H5 s6 := I3.call' (ch := fp) I6.os I6.base I6.hok I6.bare fun b hb => by
        obtain ⟨_, a1, _, a2, a3, a4⟩ := (fp3 b hb).1
        exact ⟨a2, a1, a3, a4⟩
      have cfree : H5 s3.heap.objs.size = none := (congrArg H5 locals_).symm.trans I6.free
      obtain ⟨_, a1, _, a2, a3, a4⟩ := I3.fpOk (Nat.le_refl _) cfree
      obtain ⟨mm, nsm, _⟩ := I6.loc
      refine ⟨mm, by rw [← locals_]; exact nsm, fun h2 same => ⟨.ref D, H5, ?_, rfl, fin⟩⟩
      exact I7.turned (t' := s6.toks) (fun b o hb e => (same.2 b hb).trans e) cfree a1 a2 a3 a4
    · refine calmly (T.item (X.blk s3 H3 scope ce fp) rfl rfl rfl calm i [] s5 _ H5 (fun _ _ => False) I5 (exOk I5 n5) st5 go) ?_
      rintro r s6 ⟨u, rfl, hu⟩
      refine calmly hu ?_
      rintro _ s7 ⟨x, H7, I7, rx, y7, st7, n7⟩
      refine calmly (rG.run _ s7 _ H7 x u _ (I7.pinned (exOk I7 n7) (T.obj _ _ st7)) rx (step x H7 y7)) ?_
      rintro _ s8 ⟨σ8, H8, I8, same8, q8⟩
      refine calmly (rI.run _ s8 σ8 H8 _ I8 q8) fun _ s9 h9 => calmly h9 ?_
      rintro _ s10 ⟨it1, fp1, tn1, J1, H10, rfl, I10, T1, st10, own10, W1, ⟨m1, w1⟩, turn1⟩
      -- from the inner loop's end back to the outer loop's next turn
      have again_ : ∀ {H' : Hp} {s' : Shared}, L2.Inv (X.blk s3 H3 scope ce fp) ([] ++ pinsAt fp s7.heap) (wipe σ8 vs1) H' s' → Nx H' → ∃ m', m' < m ∧ ∃ i H', L2.Inv (X.blk s3 H3 scope ce fp) [] (wipe σ (own.map (·.2))) H' s' ∧ tn i s'.heap ∧ (∀ b ∈ fp, H' b = none) ∧ W i m' H' := fun {H' s'} J' nx => by
        obtain ⟨m', lt, w'⟩ := less H' nx
        obtain ⟨stI, nI⟩ := turn_over T st7 J'
        refine ⟨m', lt, i + 1, H', J'.unpinned.weak ?_ ?_, stI, nI, w'⟩
        · exact (congrArg List.length same8).symm.trans ((wipe_length σ8 _).trans (wipe_length σ8 vs1).symm)
        · intro k v e
          rw [← same8] at e
          rcases wipe_some e with ⟨e1, e2⟩
          rw [wipe_out fun z => e2 (hv k z)]
          exact e1
      have inner : codeAny (model X.prog X.w) X.A (.compLoop (dc2 kx vx t0 i0 t1 i1 scope pos) 1 (.ref it1) (.ref D) ce)
          (fun r s' => match r with
            | .ok _ => ∃ m', m' < m ∧ ∃ i H', L2.Inv (X.blk s3 H3 scope ce fp) [] (wipe σ (own.map (·.2))) H' s' ∧ tn i s'.heap ∧ (∀ b ∈ fp, H' b = none) ∧ W i m' H'
            | .error _ => False) s10 := by
        have own_ : ∀ {H' : Hp}, (∀ b ∈ fp1, H' b = none) → ∀ b ∈ fp1, FpOk (X.blk s3 H3 scope ce fp) ([] ++ pinsAt fp s7.heap) H' b := fun hn b hb => ⟨hn b hb, (own10 b hb).2⟩
        refine codeAny_loop rfl (fun k s' => ∃ j H', L2.Inv (X.blk s3 H3 scope ce fp) ([] ++ pinsAt fp s7.heap) (wipe σ8 vs1) H' s' ∧ tn1 j s'.heap ∧ (∀ b ∈ fp1, H' b = none) ∧ W1 j k H') ?_ m1 ⟨0, H10, I10.weak (wipe_length _ _) (fun k v e => (wipe_some e).1), st10, fun b hb => (own10 b hb).1, w1⟩
        rintro k s11 ⟨j, H11, I11, st11, n11, w11⟩
        refine wpAny_noted (dc2_in ?_)
        rcases turn1 j k H11 w11 with ⟨stop1, nx⟩ | ⟨go1, Nx1, less1, step1⟩
        · refine calmly (T1.done (X.blk s3 H3 scope ce fp) rfl rfl rfl calm j _ s11 _ H11 (fun _ _ => False) I11 (own_ n11) st11 stop1) ?_
          rintro r s12 ⟨rfl, I12⟩
          exact again_ I12 nx
        · refine calmly (T1.item (X.blk s3 H3 scope ce fp) rfl rfl rfl calm j _ s11 _ H11 (fun _ _ => False) I11 (own_ n11) st11 go1) ?_
          rintro r s12 ⟨u1, rfl, hu1⟩
          refine calmly hu1 ?_
          rintro _ s13 ⟨y, H13, I13, ry, y13, st13, n13⟩
          refine calmly (rG1.run _ s13 _ H13 y u1 _ (I13.pinned (own_ n13) (T1.obj _ _ st13)) ry (step1 y H13 y13)) ?_
          rintro _ s14 ⟨σ14, H14, I14, same14, q14⟩
          refine calmly (rK.run _ s14 σ14 H14 _ I14 q14) ?_
          rintro kv s15 ⟨uk, H15, I15, rk, q15⟩
          refine calmly (rE.run _ s15 σ14 H15 _ I15 q15) ?_
          rintro vv s16 ⟨z, H16, I16, rz, kvs, key, rfl, hD16, hz16, nx1⟩
          refine d_dictSet (X := X.blk s3 H3 scope ce fp) I16 hD16 hz16 rk rz fun s17 I17 => ⟨rfl, ?_⟩
          obtain ⟨k', lt, w'⟩ := less1 _ nx1
          obtain ⟨stI, nI⟩ := turn_over T1 st13 I17
          exact ⟨k', lt, j + 1, _, slots_back I17.unpinned same14, stI, nI, w'⟩
      refine codeAny_mono (dc2_start inner (T1.self X.A 0 _ _ _ st10 inner)) fun r s' hr => ?_
      cases r with
      | error _ => exact hr.elim
      | ok _ => exact ⟨rfl, hr⟩
  exact codeAny_compStart_dict outer (T.self X.A 0 _ _ _ st4 outer)
end
end RB
set_option Elab.async false
set_option linter.all false
set_option maxRecDepth 100000
set_option maxHeartbeats 2000000
/-! Small rules: sum of a tuple, attribute targets, own != and own truth, a class's name, calls by keywords alone. -/
namespace RB
open PySem PySem.Spec PyProof.Rows L2
section
variable {X : Cx} {CX : CXT} {n : Nat} {f C : Addr} {fd : FuncData} {ps : List Str} {ds : List Value} {dvs : List V} {sp : Sp} {E : XK} {pins : List (Addr × Obj)} {σ : L2.St} {H : Hp} {s : Shared}

/-- a def of the text, called from within a builtin -/
theorem call_below (F : FnOk X.prog X.w X.K X.mg X.base CX n f fd ps sp) (hb : Binds X.K fd ps ds) (hd : Vals dvs ds) (hx : Passes CX X E) {A : Around} (sb : Sub X n A) (I : Inv X pins σ H s) {vs : List V} {us : List Value} (r : Vals vs us) {Q : VK}
    (h : sp (vs ++ dvs) H Q E) : wpAny (model X.prog X.w) A (call (.ref f) us) (EP X pins σ Q) X.xe s := by
  have r2 := r.append hd
  have hl : (us ++ ds).length = ps.length := r2.length.symm.trans (F.len _ _ _ _ h)
  have e := I.env0
  have e0 : Env0 X.prog X.w X.K X.mg X.base A X.stack s H := ⟨sb.fr.trans e.frames, e.mod, e.bs, e.bsz, e.funs, e.frf, e.hok, e.bare⟩
  refine wpAny_call (codeAny_mono (F.run A X.stack s H ⟨us, []⟩ (us ++ ds) (vs ++ dvs) Q E sb.room e0 (hb s us I.kIn hl) r2 h) fun res s' q => ?_)
  cases res with
  | error er => exact hx pins σ H s er s' I q
  | ok fl => cases fl with
    | ret v => exact I.after q
    | next => exact q.elim
    | brk => exact q.elim
    | cont => exact q.elim

/-- sum of a tuple of whole numbers -/
theorem cr_sumT (hc : X.calm = true) : CallR X (.builtin "sum") (fun vs H Q => ∃ (a : Addr) (ns : List Int), vs = [V.ref a] ∧ SqT X.K H a (ns.map V.int) ∧ Q (.int ns.sum) H) := by
  intro pins
  intro s σ H vs us Q I r h
  obtain ⟨a, ns, rfl, ht, q⟩ := h
  obtain rfl := Vals.ref1 r
  obtain ⟨its, rv, hT, _⟩ := I.tuple ht
  have hi : IntsAre its ns := rv.ints
  rcases hi.allInts.items with ⟨xs, e⟩
  have hn : (numsOf (intItems xs).toList) = ns := e ▸ hi.numsOf
  rw [nums_intItems] at hn
  rw [e] at hT
  refine PySem.W.ktm_sumG (I.ok.hd hc) hT fun h' tk t' hk => ⟨.int ns.sum, H, I.kept hk, ⟨t', ?_⟩, q⟩
  rw [preSum_eq]
  rw [List.take_of_length_le (by simp), hn]

/-- o.f as a target -/
def gAttr (K : PySem.W.Frag) (to : TE) (nm : Str) : TG := fun v σ H Q => to σ H fun o H1 => ∃ a C dx fs, o = .ref a ∧ H1 a = some (.ins C dx fs) ∧ Cls K C ∧ NoAttr K C nm ∧ fs.length < 1000 ∧ Q σ (upd H1 a (.ins C dx (putF nm v fs)))
theorem pg_attr {o : Expr} {nm : Str} {pos : Pos} {to : TE} (ho : PE X o to) : PG X (.Attribute o nm pos) (gAttr X.K to nm) := by
  refine .mk fun pins s σ H v u Q I r h => ?_
  rw [assign_Attribute]
  refine wpAny_bind (wpAny_holding (thn (ho.run pins s σ H _ I h) fun ov s1 z => ?_))
  obtain ⟨x, H1, I1, rx, a, C, dx, fs, ex, ea, c, na, hl, q⟩ := z
  subst ex
  cases (show ov = Value.ref a from rx)
  refine wpAny_bind (wpAny_standAt (wpAny_bind (wpAny_holding (setattr_ok I1 ea c na hl r fun s2 I2 => ?_))))
  exact wpAny_release ⟨σ, _, I2, q⟩

/-- bool(x) by an own __bool__ -/
theorem cr_boolOwn (G : FnOk X.prog X.w X.K X.mg X.base CX n f fd ps sp) (hb : L2.Binds X.K fd ps []) (hx : Passes CX X E) (hr : Room (n + 2) X.A)
    (hs : PySem.W.findIn X.K (.ref C) "__bool__" = some (some (.ref f))) (hf : PySem.W.isFn X.K (.ref f) = true) :
    CallR X (.type "bool") (fun vs H Q => ∃ a dx fs, vs = [V.ref a] ∧ H a = some (.ins C dx fs) ∧ sp [V.ref a] H (fun v H' => ∃ k, v = .bl k ∧ Q (.bl k) H') E) := by
  intro pins
  intro s σ H vs us Q I r h
  rcases h with ⟨a, dx, fs, rfl, ha, q⟩
  obtain rfl := Vals.ref1 r
  rcases ins_get I.hok ha with ⟨mA, O, _⟩
  obtain ⟨od, J, _⟩ := O.look
  obtain ⟨m, hF⟩ := I.fr
  have sb : L2.Sub X n X.A.in1.in1 := (L2.Sub.in1 (n := n) (L2.Sub.in1 (n := n + 1) ⟨hr, rfl⟩))
  have tr : ∀ {Q' : Bool → Shared → Prop} {E' : Value → Shared → Prop}, (∀ k s', EP X pins σ Q (.bool k) s' → Q' k s') → (∀ e s', X.xe e s' → E' e s') → wpAny (model X.prog X.w) X.A.in1.in1 (truthy (.ref a)) Q' E' s := fun {Q' E'} hQ' hE' => by
    refine PySem.W.truthy_K hF I.ok.mod.kin J hs hf (wpAny_mono (call_below G hb .nil hx sb I (vs := [V.ref a]) (us := [.ref a]) (.cons rfl .nil) q) (fun v s' hv => ?_) hE')
    obtain ⟨w, H', I', rw', k, ew, qk⟩ := hv
    subst ew
    cases (show v = Value.bool k from rw')
    exact hQ' k s' ⟨.bl k, H', I', rfl, qk⟩
  rcases s with ⟨hp, g, d, tk, os⟩
  refine callType_codes (Q₁ := fun obj s₁ => ∃ k, obj = .bool k ∧ EP X pins σ Q (.bool k) s₁) PySem.F.called_bool (PySem.F.typeCall_bool_1 _) PySem.F.entry_object_init ?_ fun obj s₁ hq => ?_
  · refine codeAny_call_builtin PySem.F.called_bool.plain PySem.F.entry_bool_new (wpAny_of_eq (PySem.F.newCall_bool_1 _) ?_)
    have f1 := PySem.F.conv_sub_bool
    unfold Builtin.«bool.__new__»
    repeat (any_goals (first | assumption | (with_reducible refine tr (fun k s' hk => ?_) (fun e s' he => he)) | wp_step))
    all_goals exact ⟨k, rfl, hk⟩
  · obtain ⟨k, rfl, hk⟩ := hq
    refine ⟨rfl, PySem.F.args_object_init_2 _ _, ?_⟩
    exact object_init_meets (T := "bool") (self := .bool k) (rest := [.ref a]) PySem.F.called_bool.init.lookup PySem.F.called_bool.made PySem.F.newNe_bool X.prog X.w X.A.in1 (wants (fun r s₂ => r = .none ∧ EP X pins σ Q (.bool k) s₂) X.xe) s₁ (And.intro rfl (And.intro rfl hk))

/-! ### != by an own __eq__ -/
/-- what the class needs: __ne__ is object's, __eq__ the def at f -/
structure OwnNe (K : PySem.W.Frag) (C f : Addr) : Prop where
  ne : PySem.W.findIn K (.ref C) "__ne__" = some (some (.builtin "object.__ne__"))
  eq : PySem.W.findIn K (.ref C) "__eq__" = some (some (.ref f))
  fnc : PySem.W.isFn K (.ref f) = true
  ob : PySem.W.mroIn K C (.type "object") = some true
theorem op_neOwn (k : OwnNe X.K C f) (G : FnOk X.prog X.w X.K X.mg X.base CX n f fd ps sp) (hb : L2.Binds X.K fd ps []) (hx : Passes CX X E) (hr : Room (n + 2) X.A) :
    OpR X (compareOp .NotEq) (fun x y H Q => ∃ a b dx dy fs gs, x = .ref a ∧ y = .ref b ∧ H a = some (.ins C dx fs) ∧ H b = some (.ins C dy gs) ∧ sp [.ref a, .ref b] H (fun v H' => ∃ r, v = .bl r ∧ Q (.bl (!r)) H') E) := by
  intro pins
  intro s σ H x y v u Q I rx ry h
  obtain ⟨a, b, dx, dy, fs, gs, rfl, rfl, ha, hb', q⟩ := h
  cases (rx : v = Value.ref a)
  cases (ry : u = Value.ref b)
  obtain ⟨_, O, _⟩ := ins_get I.hok ha
  obtain ⟨od, J, _⟩ := O.look
  obtain ⟨_, O', _⟩ := ins_get I.hok hb'
  obtain ⟨od', J', _⟩ := O'.look
  have KX := I.kIn
  have hu := hr.units
  have sb : L2.Sub X n X.A.in1 := (L2.Sub.in1 (n := n) (L2.Sub.mono (m := n + 1) (n := n + 2) ⟨hr, rfl⟩ (Nat.le_succ _)))
  have go : ∀ {Q' : Value → Shared → Prop} {E' : Value → Shared → Prop}, (∀ r s', EP X pins σ Q (.bool (!r)) s' → Q' (.bool r) s') → (∀ e s', X.xe e s' → E' e s') →
      wpAny (model X.prog X.w) X.A.in1 (call (.ref f) [.ref a, .ref b]) Q' E' s := fun {Q' E'} hQ' hE' => by
    refine wpAny_mono (call_below G hb .nil hx sb I (vs := [V.ref a, V.ref b]) (us := [.ref a, .ref b]) (.cons rfl (.cons rfl .nil)) q) (fun v s' hv => ?_) hE'
    obtain ⟨z, H', I', rz, r, ez, qr⟩ := hv
    subst ez
    cases (show v = Value.bool r from rz)
    exact hQ' r s' ⟨.bl (!r), H', I', rfl, qr⟩
  have inst : PySem.W.Looks (model X.prog X.w) s.heap (isInstance (.ref a) (.type "object")) true := J.type.andThen (PySem.W.looks_mroIn KX k.ob)
  rcases s with ⟨hp, g, d, tk, os⟩
  have body : ∀ {Q' : PySem.Fin → Shared → Prop} {E' : Value → Shared → Prop}, (∀ r s', EP X pins σ Q (.bool r) s' → Q' (.done (.ret (.bool r))) s') → (∀ e s', X.xe e s' → E' e s') →
      wpAny (model X.prog X.w) X.A.in1 (Builtin.«object.__ne__» ⟨[.ref a, .ref b], []⟩) Q' E' ⟨hp, g, d, tk, os⟩ := fun {Q' E'} hQ' hE' => by
    unfold Builtin.«object.__ne__»; have hu1 : X.A.in1.units < cLine := sb.room.units0
    repeat (first
      | with_reducible refine wpAny_cRoomFor hu1 ?_
      | (refine wpAny_bind (m := callSpecialIfBound? (.ref a) (Str.ofString "__eq__") [.ref b]) (PySem.W.ifBound_K KX J k.eq k.fnc (go (fun r s' hq => ?_) hE')))
      | (with_reducible refine wpAny_truthy_bool ?_)
      | wp_step)
    exact hQ' _ _ hq
  show wpAny (model X.prog X.w) X.A (richCompare .NotEq (.ref a) (.ref b)) _ _ _
  unfold richCompare
  simp only [oneThing_ref]
  refine wpAny_holding (wpAny_bind (wpAny_cRoomFor (by omega) ?_))
  rw [cmpInfo_NotEq]
  dsimp only
  refine wpAny_bind (J.type.here (wpAny_bind (J'.type.here ?_)))
  rw [bne_self_eq_false (Value.ref C)]
  simp only [if_false, Bool.false_eq_true]
  refine wpAny_bind <| wpAny_pure ?_
  simp only [if_false, Bool.false_eq_true]
  have one : wpAny (model X.prog X.w) X.A (tryCompare (.ref a) "__ne__" (.ref b)) (fun r s' => ∃ v, r = some v ∧ EP X pins σ Q v s') X.xe ⟨hp, g, d, tk, os⟩ := by
    unfold tryCompare callSpecialIfBound? bindSpecialIfBound?
    have fin : wpAny (model X.prog X.w) X.A (call (.builtin "object.__ne__") [.ref a, .ref b]) (fun v s' => v ≠ .notImplemented ∧ EP X pins σ Q v s') X.xe ⟨hp, g, d, tk, os⟩ := by
      refine wpAny_call (codeAny_call_builtin PySem.F.cmp_object.ne.plain PySem.F.cmpEntry_ne (@PySem.W.check_slot (model X.prog X.w) _ _ _ "object.__ne__" "object" "__ne__" (.ref a) [.ref b] _ _ PySem.F.cmpKind_ne PySem.F.cmpSplit_ne inst (PySem.F.cmpArgs_ne _ _) ?_))
      exact body (fun r s' hq => ⟨(fun z => by cases z), hq⟩) fun _ _ e => e
    refine wpAny_bind (wpAny_holding (wpAny_bind (wpAny_bind (wpAny_bind (J.type.here ((PySem.W.looks_findIn KX k.ne).here ?_))))))
    simp only [PySem.F.cmp_object.ne.bind]
    refine wpAny_bind <| wpAny_askSetting (wpAny_ite ?_)
    have tail : wpAny (model X.prog X.w) X.A (call (.builtin "object.__ne__") ([.ref a] ++ [.ref b]) >>= fun v => pure (some v)) (fun z s' => wpAny (model X.prog X.w) X.A (match z with
        | some Value.notImplemented => pure none
        | none => pure none
        | some v => pure (some v)) (fun r s' => ∃ v, r = some v ∧ EP X pins σ Q v s') X.xe s') X.xe ⟨hp, g, d, tk, os⟩ := by
      refine wpAny_bind (wpAny_mono fin (fun v s' h' => wpAny_pure ?_) fun _ _ z => z)
      obtain ⟨h1, h2⟩ := h'
      cases v <;> first | exact absurd rfl h1 | exact wpAny_pure ⟨_, rfl, h2⟩
    split
    · exact wpAny_bind (wpAny_pure (wpAny_pure tail))
    · exact wpAny_tryCatch (wpAny_bind (wpAny_pure (wpAny_pure tail)))
  refine wpAny_bind <| wpAny_mono one (fun r s' z => ?_) fun _ _ e => e
  obtain ⟨v, rfl, hq⟩ := z
  first | exact wpAny_pure hq | exact wpAny_pure (wpAny_pure hq)
end
end RB

namespace RB
open PySem PySem.Spec PyProof.Rows L2
open PySem.Builtin PySem.Builtin.ObjectAttr PySem.Builtin.Getset_descriptor
/-! ### x.__class__.__name__ -/
structure ClsName (K : PySem.W.Frag) (C : Addr) (nm : Str) : Prop where
  pg : PySem.W.plainGet K C "__class__" = true
  hdt : PySem.W.hasDictIn K C = true
  cla : PySem.W.findIn K (.ref C) "__class__" = some (some (.builtin "object.__class__"))
  cg : PySem.W.specialIn K (.builtin "object.__class__") "__get__" = some (some (.builtin "getset_descriptor.__get__"))
  clt : PySem.W.takesIn K (.builtin "object.__class__") = some true
  ob : PySem.W.mroIn K C (.type "object") = some true
  rd : PySem.W.readsIn K C (.type "type") = true
  ty : PySem.W.typeIn K (.ref C) = some (.type "type")
  fc : PySem.W.findCls K (.ref C) (.type "type") "__name__" = some (.get (.builtin "getset_descriptor.__get__") (.builtin "type.__name__") (.ref C) (.type "type"))
  nm : ∃ (oc : Value) (od : Option Addr) (cd : ClassData) (sl : Array (Option Value)) (t : Tok), K.lookup C = some ⟨oc, od, .cls cd, sl⟩ ∧ sl[2]? = some (some (.str nm t))
theorem name_get {prog : Program} {w : World} {A : Around} {s : Shared} {K : PySem.W.Frag} {C : Addr} {nm : Str} {tp : Value} {R : Result → Shared → Prop} (X : K.In s.heap) (k : ClsName K C nm) (h : ∀ t, R (.ok (.ret (.str nm t))) s) :
    codeAny (model prog w) A (.call (.builtin "getset_descriptor.__get__") ⟨[.builtin "type.__name__", .ref C, tp], []⟩) R s := by
  rcases s with ⟨hh, g, dr, t, os⟩
  obtain ⟨oc, od, cd, sl, t0, lk, hs⟩ := k.nm
  have ho := X _ _ lk
  have L0 : PySem.W.Looks (model prog w) hh (typeOf (.ref C)) (.type "type") := PySem.W.looks_typeIn X k.ty
  have L1 : PySem.W.Looks (model prog w) hh (isSubtype (.type "type") (.type "type")) true := PySem.W.Looks.of_pure (by rw [isSubtype_type]; kernel_rfl)
  refine codeAny_call_builtin PySem.W.KF.slot_gs.plain PySem.W.KF.entry_gs (PySem.W.KF.slot_gs.check _ _ _ _ _ _ _ _ PySem.W.ktyn_type (PySem.W.KF.args_gs _ _ _) ?_)
  unfold Builtin.«getset_descriptor.__get__» descrGet; rw [PySem.W.dga_obj]
  refine wpAny_bind <| wpAny_pure ?_
  unfold descrGetter descrCheckInstance descrNameAndClass isInstance; simp only [PySem.W.ktyn_owner]
  repeat lk
  refine ⟨Code.quiet_builtin _ (by decide +kernel), codeAny_builtin PySem.W.ktyn_entry ?_⟩
  unfold Builtin.«type.__name__»; dsimp only
  unfold keptObject slotAt
  refine wpAny_bind (wpAny_bind (wpAny_loadPart_at ho (wpAny_pure ?_)))
  have e : (({ cls := oc, dict := od, data := Data.cls cd, slots := sl } : Obj).slots[2]?).join = some (.str nm t0) := by
    show (sl[2]?).join = _
    rw [hs]; rfl
  rw [e]
  exact wpAny_pure (h t0)
section
variable {X : Cx} {e : Expr} {ta : TE} {p1 p2 : Pos}
/-- e.__class__.__name__, e an instance of an own class -/
theorem pe_clsName (he : PE X e ta) (h1 : attributeBase e "__class__" X.env (eval e X.env) = eval e X.env := by rfl)
    (h2 : attributeBase (.Attribute e "__class__" p1) "__name__" X.env (eval (.Attribute e "__class__" p1) X.env) = eval (.Attribute e "__class__" p1) X.env := by rfl) :
    PE X (.Attribute (.Attribute e "__class__" p1) "__name__" p2) (fun σ H Q => ta σ H fun x H1 => ∃ a C dx fs nm, x = .ref a ∧ H1 a = some (.ins C dx fs) ∧ ClsName X.K C nm ∧ Q (.str nm) H1) := by
  refine .mk fun pins s σ H Q I h => ?_
  refine attr_of h2 (attr_of h1 (thn (he.run pins s σ H _ I h) fun u s1 z => ?_))
  obtain ⟨x, H1, I1, rx, a, C, dx, fs, nm, ex, ha, k, q⟩ := z
  subst ex
  cases (rx : u = Value.ref a)
  obtain ⟨_, O, _⟩ := ins_get I1.hok ha
  obtain ⟨od, J, _⟩ := O.look
  obtain ⟨m, hF⟩ := I1.fr
  refine PySem.W.get_class hF I1.ok.mod.kin J k.pg k.hdt k.cla k.cg k.clt k.ob ?_
  have I2 := I1.tok (s1.toks + 1)
  refine PySem.W.cls_bind I2.kIn k.rd k.fc (wpAny_call (name_get (s := { s1 with toks := s1.toks + 1 + 1 }) I2.kIn k fun t => ?_))
  exact PySem.W.handed_on rfl ⟨.str nm, H1, I1.tok _, ⟨t, rfl⟩, q⟩
end
section
variable {X : Cx} {CX : CXT} {k : Nat} {f : Addr} {fd : FuncData} {ps ks : List Str} {sp : Sp} {E : XK} {x : Str} {p pos : Pos} {kws : List Keyword} {tk : TA} {g : List Value → List Value → List Value} {gV : List V → List V → List V}
/-- f(k = v, ..) -/
theorem pe_callK0 (G : FnOk X.prog X.w X.K X.mg X.base CX k f fd ps sp) (hr : Room k X.A) (hg : Gl X x) (hm : X.mg x = some (.ref f)) (hk : PySem.W.keepIn X.K (.ref f) = true) (hb : L2.KBinds X.K fd ps ks g gV) (hx : Passes CX X E) (hkw : PK X kws tk)
    (hall : (backToKw pos (keywordEach kws X.env)).all (·.1.isSome) = true := by rfl)
    (hks : (backToKw pos (keywordEach kws X.env)).filterMap (·.1) = ks := by rfl) (hdb : (x == ("__debug__" : Str)) = false := by decide)
    (hpl : ((backTo pos (starEach [] X.env)).any (·.1) ||
      (backToKw pos (keywordEach kws X.env)).any (·.1.isNone)) = false := by rfl) :
    PE X (.Call (.Name x p) [] kws pos) (tCallK sp gV E tNil tk) := by
  refine ⟨fun pins s σ H Q I h => wpAny_Call_Name_kw (ld_glob I hg hm ?_ hdb)⟩
  refine PySem.W.callWith_KW0 (h₀ := X.base) I.ok.mod.kin hk hall (thn (hkw.run pos pins s σ H _ I h) fun ws s2 z => ?_) hpl
  obtain ⟨zs, H2, I2, rz, q2⟩ := z
  refine ⟨I2.kIn, ?_⟩
  rw [hks]
  exact run_fnk (us := []) (vs := []) G hr hb hx I2 .nil rz q2
end
end RB
set_option Elab.async false
set_option linter.all false
set_option maxRecDepth 100000
set_option maxHeartbeats 2000000
/-! A method whose body begins with super().__init__(..): its class cell is captured. -/
namespace RB
open PySem PySem.Spec PyProof.Rows L2 NdefX
/-- what the top must have left of it: the def at f, its class C in the cell at cc, its code at cd, the next __init__ at f2 -/
structure SupK (P : Program) (K : PySem.W.Frag) (C f f2 cc cd : Addr) (qual : Str) (params : Arguments) (body : List Stmt) (scope : Scope) : Prop where
  lk : ∃ (oc : Value) (od : Option Addr) (doc pm ct : Value) (an : Option Addr) (osl : Array (Option Value)), K.lookup f = some ⟨oc, od, .func (PySem.W.fnX "__init__" qual params body scope [("__class__", cc)] .none .none doc pm an (.ref cd) ct), osl⟩
  code : PySem.W.codeIn K (.ref cd) qual = true
  file : ∃ (c : Value) (d : Option Addr) (vs : Array Value) (sl : Array (Option Value)) (fl : Str) (t : Tok), K.lookup cd = some ⟨c, d, .fields vs, sl⟩ ∧ vs[2]? = some (.str fl t) ∧ ((P.main.file : Str) == fl) = true
  cell : ∃ (c : Value) (d : Option Addr) (sl : Array (Option Value)), K.lookup cc = some ⟨c, d, .cell (some (.ref C)), sl⟩
  sub : PySem.W.mroIn K C (.ref C) = some true
  opq : PySem.W.nsIn K cStatics "thirdparty.any" = some none
  next : PySem.W.ks_superIn K C C "__init__" = some (some (.ref f2))
  ty : PySem.W.typeIn K (.ref f2) = some (.type "function")
  fi : PySem.W.fnIn K f2 = true
abbrev supF (qual : Str) (params : Arguments) (body : List Stmt) (scope : Scope) (cc cd : Addr) : NF := ⟨"__init__", qual, params, body, scope, [("__class__", cc)], cd⟩
section
variable {P : Program} {w : World} {K : PySem.W.Frag} {mg : Str → Option Value} {base : Heap} {k : Nat} {C f f2 cc cd : Addr} {qual : Str} {params : Arguments} {scope : Scope} {N ps : List Str} {sp spB : Sp} {ar : Arg}
  {e : Expr} {es : List Expr} {rest : List Stmt} {p0 p1 apos pos spos : Pos}
theorem cell_of (hb : base.get? cc = some ⟨o1, o2, .cell (some (.ref C)), o4⟩) {s : Shared} {H : Hp} {A : Around} {outer : List Env} (e0 : Env0 P w K mg base A outer s H) : CellsAt [("__class__", cc)] ["__class__"] [some (V.ref C)] s.heap H := by
  obtain ⟨h1, h2⟩ := e0.bs _ _ hb
  have only : ∀ {y : Str} {c : Addr}, ([(("__class__" : Str), cc)] : List (Str × Addr)).lookup y = some c → y = "__class__" ∧ c = cc := fun {y c} z => by
    have m := PySem.mem_of_lookup z
    simp only [List.mem_singleton, Prod.mk.injEq] at m
    exact m
  refine ⟨rfl, fun y c z => ?_, fun x y c z1 z2 => (only z1).1.trans (only z2).1.symm, fun i y z => ?_⟩
  · obtain ⟨_, rfl⟩ := only z
    exact ⟨h2, _, _, h1, rfl⟩
  · cases i with
    | zero =>
      obtain rfl : ("__class__" : Str) = y := Option.some.inj z
      exact ⟨cc, by rfl, fun v hv => by
        obtain rfl : V.ref C = v := Option.some.inj (Option.some.inj hv)
        exact ⟨.ref C, rfl, _, h1, rfl⟩⟩
    | succ i => cases z

abbrev supStmt (e : Expr) (es : List Expr) (p0 p1 apos pos spos : Pos) : Stmt := .Expr (.Call (.Attribute (.Call (.Name "super" p0) [] [] p1) "__init__" apos) (e :: es) [] pos) spos
theorem super_stmt {X : Cx} {body : List Stmt} {fd : FuncData} {oc : Value} {od : Option Addr} {osl : Array (Option Value)} {x : Addr} {σ : L2.St} {H : Hp} {s : Shared} {t : TA} {Q : Hp → Prop} {dx : Addr} {fs : List (Str × V)} {pl : Sem Bool}
    (S : SupK X.prog X.K C f f2 cc cd qual params body scope) (hf : X.K.lookup f = some ⟨oc, od, .func fd, osl⟩) (hfp : (fd.params.posonlyargs ++ fd.params.args).head? = some ar)
    (hs1 : X.env.kindOf "super" = some .globalImplicit) (hs2 : X.env.kindOf "__class__" = some .free) (hfu : X.env.func = some f) (hco : X.env.code = .ref cd) (hcl : X.env.cells.lookup ("__class__" : Str) = some cc)
    (hN : X.N[0]? = some ar.arg) (hpl : X.env.kindOf ar.arg = some .local) (htop : (X.prog.main.scope.names.lookup ("super" : Str)).isSome = false) (mgS : X.mg "super" = none) (B : FnR X.prog X.w X.K X.mg X.base CX0 k f2 spB) (hr : Room k X.A)
    (hst : starEach (e :: es) X.env = (false, eval e X.env) :: starEach es X.env) (hpln : (backTo pos (starEach es X.env)).any (·.1) = false)
    (hint : interactive X.env = false) (hsw : swapsWith (.Call (.Attribute (.Call (.Name "super" p0) [] [] p1) "__init__" apos) (e :: es) [] pos) none spos.line X.env = pure false)
    (he : eval (.Call (.Attribute (.Call (.Name "super" p0) [] [] p1) "__init__" apos) (e :: es) [] pos) X.env = (do
      let ov ← attributeBase (.Call (.Name "super" p0) [] [] p1) "__init__" X.env (eval (.Call (.Name "super" p0) [] [] p1) X.env)
      standAt apos.atName
      let (g, first) ← holding [ov] (getMethod ov "__init__" pl)
      callWith pos g first (backTo pos (starEach (e :: es) X.env)) []))
    (pa : PA X (e :: es) t) (I : L2.Inv X [] σ H s) (hx : σ[0]? = some (some (.ref x))) (hi : H x = some (.ins C dx fs)) (hq : t σ H fun ys H1 => spB (.ref x :: ys) H1 (fun _ H2 => Q H2) E0) :
    PySem.wpAt (model X.prog X.w) X.A (.func body X.env) (exec (supStmt e es p0 p1 apos pos spos) X.env) (fun fl s' => fl = .next ∧ ∃ H2, L2.Inv X [] σ H2 s' ∧ Q H2) X.xe s := by
  obtain ⟨ccl, cdd, vs, csl, fl, tf, hcode, hvs, hfile⟩ := S.file
  obtain ⟨c1, c2, c3, hc⟩ := S.cell
  have KX := I.kIn
  obtain ⟨mb, hmb, hbb⟩ := I.ok.mod.blt
  obtain ⟨m, hns, hlook⟩ := I.loc
  obtain ⟨u, hu, hlk⟩ := hlook 0 _ _ hN hx (.inl hpl)
  cases (show u = Value.ref x from hu)
  have hmx : m ar.arg = some (.ref x) := by
    rcases hlk with ⟨_, h⟩ | ⟨h, _⟩
    · exact h
    · rw [hpl] at h
      rcases h with h | h <;> cases h
  obtain ⟨_, O, _⟩ := ins_get I.hok hi
  obtain ⟨od', J, _⟩ := O.look
  obtain ⟨cdC, hcd, _⟩ := Option.bind_eq_some_iff.mp (show (PySem.W.clsIn X.K C).bind _ = some true from S.sub)
  obtain ⟨oC, hC1, hC2⟩ : ∃ oC, s.heap.get? C = some oC ∧ oC.data = .cls cdC := by
    unfold PySem.W.clsIn at hcd
    split at hcd
    · rename_i ho
      cases hcd
      exact ⟨_, KX _ _ ho, rfl⟩
    · cases hcd
  have bk := I.bk
  rcases s with ⟨hh, g, d, tk, os⟩
  refine ks_wpAt_Expr_any (ks_wpAt_MethodCall (pl := pl) ?_ he) hint hsw
  refine ks_wpAt_super_base hs1 hs2 (by decide +kernel) hfu (KX _ _ hf) rfl hfp hco (KX _ _ hcode) rfl hvs hfile htop ?_
  have hg : (Heap.Ns hh X.env.globals X.mg) := by rw [I.ok.glob]; exact I.ok.mod.glob.keeps bk
  have hb2 : (Heap.Ns hh X.env.builtins mb) := by rw [I.ok.blt]; exact hmb.keeps bk
  refine PySem.W.ks_loadName_global I.ok.kind hs1 (PySem.Calls.loadGlobal_builtin (env := X.env) hg mgS hb2 ((hbb _ (by decide +kernel)).trans (by decide +kernel : bootBuiltins "super" = some (.type "super"))) ⟨rfl, ?_⟩)
  refine wpAny_loadName_free I.ok.kind hs2 hcl ⟨_, KX _ _ hc, rfl⟩ ?_
  refine wpAny_loadName_local I.ok.kind hpl hns hmx ?_
  refine ks_wpAny_isType_cls hC1 hC2 ⟨rfl, ?_⟩
  refine ks_wpAny_call_super hC1 hC2 J.at_ J.cls (fun c z => ?_) (PySem.W.looks_mroIn KX S.sub) fun h' e1 k1 => ?_
  · have no := J.no
    unfold PySem.W.notCls at no
    rw [z] at no
    cases no
  have I2 : L2.Inv X [(hh.objs.size, PySem.W.ks_superObj C x C)] σ H { heap := h', gens := g, drawn := d, toks := tk, os := os } := ClX.pin_new I k1 (Nat.le_refl _) e1 (fun v z => by cases z)
  obtain ⟨of, hof, hofc⟩ : ∃ of, h'.get? f2 = some of ∧ of.cls = .type "function" := by
    obtain ⟨of, z1, z2⟩ := Option.map_eq_some_iff.mp (show (X.K.lookup f2).map (·.cls) = some (.type "function") from S.ty)
    exact ⟨of, I2.kIn _ _ z1, z2⟩
  have hm : PySem.W.alongIn X.K "__init__" ((cdC.mro.dropWhile (· != .ref C)).drop 1) = some (some (.ref f2)) := by
    have z := S.next
    unfold PySem.W.ks_superIn at z
    rw [hcd] at z
    exact z
  refine ks_wpAny_getMethod_super (ClX.pin_at I2) (PySem.W.looks_opaque I2.kIn S.opq) (l₀ := cdC.mro) (fun A Q E s k q => wpAny_bind ((PySem.W.looks_clsIn I2.kIn hcd) A _ E s k (wpAny_pure q))) rfl I2.kIn hm hof hofc (PySem.W.ks_ne KX J hcd) (by decide +kernel) ?_
  have I3 := ClX.met_new (g := f2) (C := x) I2
  refine ClX.callwith_cm I3 (ClX.base_none I2 (Nat.le_refl _)) S.fi (thn (pa.run pos _ _ σ H _ I3 hq) fun us s4 z => ?_) hst hpln
  obtain ⟨ys, H1, I4, r4, q4⟩ := z
  refine ⟨⟨ClX.pin_at I4, I4.kIn⟩, ?_⟩
  refine wpAny_mono (ClX.run_cm B hr pass0 I4 r4 q4) (fun v s5 z => ?_) fun _ _ z => z
  obtain ⟨v', H2, I5, _, q5⟩ := z
  exact ⟨rfl, H2, ClX.unpin I5, q5⟩
theorem fn_super (S : SupK P K C f f2 cc cd qual params (supStmt e es p0 p1 apos pos spos :: rest) scope) (Sc : NScope N ps ["__class__"] scope) (hp : (params.posonlyargs ++ params.args).head? = some ar) (hN : N[0]? = some ar.arg) (hpl : scope.names.lookup ar.arg = some .local)
    (hks : scope.names.lookup ("super" : Str) = some .globalImplicit) (htop : (P.main.scope.names.lookup ("super" : Str)).isSome = false) (mgS : mg "super" = none)
    (hloc : ∀ x ∈ ps, scope.names.lookup x = some .local) (B : FnR P w K mg base CX0 k f2 spB) (len : ∀ vs H Q E, sp vs H Q E → vs.length = ps.length)
    (hst : ∀ env, starEach (e :: es) env = (false, eval e env) :: starEach es env := by intro _; rfl) (hpln : ∀ env, (backTo pos (starEach es env)).any (·.1) = false := by intro _; rfl)
    (pl : Env → Sem Bool) (hsw : ∀ env, swapsWith (.Call (.Attribute (.Call (.Name "super" p0) [] [] p1) "__init__" apos) (e :: es) [] pos) none spos.line env = pure false := by intro _; rfl)
    (he : ∀ env, eval (.Call (.Attribute (.Call (.Name "super" p0) [] [] p1) "__init__" apos) (e :: es) [] pos) env = (do
      let ov ← attributeBase (.Call (.Name "super" p0) [] [] p1) "__init__" env (eval (.Call (.Name "super" p0) [] [] p1) env)
      standAt apos.atName
      let (f, first) ← holding [ov] (getMethod ov "__init__" (pl env))
      callWith pos f first (backTo pos (starEach (e :: es) env)) []) := by intro _; rfl)
    (hbody : ∀ (A : Around) (outer : List Env) (s : Shared) (H : Hp) (vs : List V) (Q : VK) (E : XK), Room k (A.deeper (envF (supF qual params (supStmt e es p0 p1 apos pos spos :: rest) scope cc cd) f s.heap.objs.size)) → sp vs H Q E →
      ∃ x dx fs t u, (startF N vs [some (.ref C)])[0]? = some (some (.ref x)) ∧ H x = some (.ins C dx fs) ∧ PA (ncx CX0 P w K mg base N (supF qual params (supStmt e es p0 p1 apos pos spos :: rest) scope cc cd) f A outer s H E) (e :: es) t ∧
        PSs (ncx CX0 P w K mg base N (supF qual params (supStmt e es p0 p1 apos pos spos :: rest) scope cc cd) f A outer s H E) rest u ∧
        t (startF N vs [some (.ref C)]) H fun ys H1 => spB (.ref x :: ys) H1 (fun _ H2 => u { nx := fun _ H' => Q .non H', rt := Q } (startF N vs [some (.ref C)]) H2) E0) :
    ∃ fd, (∃ (oc : Value) (od : Option Addr) (doc pm ct : Value) (an : Option Addr) (osl : Array (Option Value)), fd = PySem.W.fnX "__init__" qual params (supStmt e es p0 p1 apos pos spos :: rest) scope [("__class__", cc)] .none .none doc pm an (.ref cd) ct ∧ K.lookup f = some ⟨oc, od, .func fd, osl⟩) ∧
      FnOk P w K mg base CX0 (k + 1) f fd ps sp := by
  obtain ⟨oc, od, doc, pm, ct, an, osl, lk⟩ := S.lk
  refine ⟨_, ⟨oc, od, doc, pm, ct, an, osl, rfl, lk⟩, len, fun A outer s H args us vs Q E hr e0 hb r hsp => ?_⟩
  have hl := len _ _ _ _ hsp
  have KX : K.In s.heap := e0.mod.kin.keeps fun b o z => (e0.bs b o z).1
  have lim : s.heap.NoLimit := e0.mod.nolimit.keeps fun b o z => (e0.bs b o z).1
  obtain ⟨c1, c2, c3, hc⟩ := S.cell
  have CA := cell_of (e0.mod.kin _ _ hc) e0
  refine ks_codeAny_call_defAt hr.depth (KX _ _ lk) rfl lim (PySem.W.codeRec_of KX S.code) rfl hb Sc.nocell (fun y hy => hloc y.1 (List.of_mem_zip hy).1) (fun h₁ hns kp => ?_) Sc.co Sc.gen Sc.kind
  obtain ⟨x, dx, fs, t, u, hx, hi, pa, psr, hq⟩ := hbody A outer s H vs Q E (hr.deeper _) hsp
  have I : L2.Inv (ncx CX0 P w K mg base N (supF qual params (supStmt e es p0 p1 apos pos spos :: rest) scope cc cd) f A outer s H E) [] (startF N vs [some (.ref C)]) H { s with heap := h₁, toks := s.toks + (ps.zip us).length } :=
    inv_startN Sc hr.hd e0 hl r CA hns kp
  have hr2 := hr.deeper (envF (supF qual params (supStmt e es p0 p1 apos pos spos :: rest) scope cc cd) f s.heap.objs.size)
  have st := super_stmt (X := ncx CX0 P w K mg base N (supF qual params (supStmt e es p0 p1 apos pos spos :: rest) scope cc cd) f A outer s H E) (body := supStmt e es p0 p1 apos pos spos :: rest) (spos := spos) (pl := pl _) S lk hp hks (Sc.frk _ (List.mem_singleton.mpr rfl)) rfl rfl rfl hN hpl htop mgS B hr2 (hst _) (hpln _) I.quiet (hsw _) (he _) pa I hx hi hq
  refine ks_wpAt_mono (ks_wpAt_execs_cons (ks_wpAt_mono st (fun fl s' z => ?_) fun _ _ z => z)) (Q := fun fl s' => SP (ncx CX0 P w K mg base N (supF qual params (supStmt e es p0 p1 apos pos spos :: rest) scope cc cd) f A outer s H E) [] { nx := fun _ H' => Q .non H', rt := Q } fl s') (fun fl s' hs => ?_) fun e s' hs => hs
  · obtain ⟨rfl, H2, I2, q2⟩ := z
    exact wpAt_of_wpAny (psr.run [] s' _ H2 _ I2 q2)
  · have fin : ∀ {σ' : L2.St} {H' : Hp} {v : V} {u : Value}, L2.Inv (ncx CX0 P w K mg base N (supF qual params (supStmt e es p0 p1 apos pos spos :: rest) scope cc cd) f A outer s H E) [] σ' H' s' → L2.RelV v u → Q v H' → CE outer P w H s Q u s' :=
      fun {_ H' v _} J rv q => ⟨v, H', J.os, J.bare, J.base, J.hok, rv, q⟩
    cases fl with
    | ret u => obtain ⟨v, σ', H', J, rv, q⟩ := hs; exact fin J rv q
    | next => obtain ⟨σ', H', J, q⟩ := hs; exact fin (v := V.non) (u := Value.none) J rfl q
    | brk => exact hs.elim fun _ ⟨_, _, q⟩ => False.elim q
    | cont => exact hs.elim fun _ ⟨_, _, q⟩ => False.elim q
end
end RB
set_option Elab.async false
set_option linter.all false
set_option maxRecDepth 100000
set_option maxHeartbeats 2000000
/-! Expressions that compute on data: what a slot holds is data that stands in the heap; an expression is read as a partial function of the slots' data. -/
namespace RB
open PySem PySem.Spec PyProof.Rows L2
/-! ### data in tracked objects -/
mutual
inductive Tp (H : Hp) : V → PyData → Prop
  | non : Tp H .non .none
  | bl (b : Bool) : Tp H (.bl b) (.bool b)
  | int (i : Int) : Tp H (.int i) (.int i)
  | str (x : Str) : Tp H (.str x) (.str x)
  | lst {a : Addr} {xs : List V} {ds : List PyData} : H a = some (.lst xs) → TpAll H xs ds → Tp H (.ref a) (.list ds)
  | tup {a : Addr} {xs : List V} {ds : List PyData} : H a = some (.tup xs) → TpAll H xs ds → Tp H (.ref a) (.tuple ds)
inductive TpAll (H : Hp) : List V → List PyData → Prop
  | nil : TpAll H [] []
  | cons {v : V} {vs : List V} {d : PyData} {ds : List PyData} : Tp H v d → TpAll H vs ds → TpAll H (v :: vs) (d :: ds)
end
section
variable {K : PySem.W.Frag} {H H' : Hp}
mutual
theorem Tp.up (e : Same H H') : ∀ (d : PyData) (v : V), Tp H v d → Tp H' v d
  | .none, _, h => by cases h; exact .non
  | .bool _, _, h => by cases h; exact .bl _
  | .int _, _, h => by cases h; exact .int _
  | .str _, _, h => by cases h; exact .str _
  | .list ds, _, h => by
    cases h with
    | lst h1 h2 => exact .lst (e _ _ h1) (TpAll.up e ds _ h2)
  | .tuple ds, _, h => by
    cases h with
    | tup h1 h2 => exact .tup (e _ _ h1) (TpAll.up e ds _ h2)
  | .dict _, _, h => by cases h
theorem TpAll.up (e : Same H H') : ∀ (ds : List PyData) (vs : List V), TpAll H vs ds → TpAll H' vs ds
  | [], _, h => by cases h; exact .nil
  | d :: ds, _, h => by
    cases h with
    | cons h1 h2 => exact .cons (Tp.up e d _ h1) (TpAll.up e ds _ h2)
end
mutual
theorem Tp.dp : ∀ (d : PyData) (v : V), Tp H v d → Dp K H v d
  | .none, _, h => by cases h; exact .non
  | .bool _, _, h => by cases h; exact .bl _
  | .int _, _, h => by cases h; exact .int _
  | .str _, _, h => by cases h; exact .str _
  | .list ds, _, h => by
    cases h with
    | lst h1 h2 => exact .lst (SqL.of h1) (TpAll.dp ds _ h2)
  | .tuple ds, _, h => by
    cases h with
    | tup h1 h2 => exact .tup (SqT.of h1) (TpAll.dp ds _ h2)
  | .dict _, _, h => by cases h
theorem TpAll.dp : ∀ (ds : List PyData) (vs : List V), TpAll H vs ds → DpAll K H vs ds
  | [], _, h => by cases h; exact .nil
  | d :: ds, _, h => by
    cases h with
    | cons h1 h2 => exact .cons (Tp.dp d _ h1) (TpAll.dp ds _ h2)
end
theorem TpAll.length : ∀ {vs : List V} {ds : List PyData}, TpAll H vs ds → vs.length = ds.length
  | _, _, .nil => rfl
  | _, _, .cons _ t => congrArg Nat.succ (TpAll.length t)
theorem TpAll.append : ∀ {xs ys : List V} {ds es : List PyData}, TpAll H xs ds → TpAll H ys es → TpAll H (xs ++ ys) (ds ++ es)
  | _, _, _, _, .nil, h => h
  | _, _, _, _, .cons h t, g => .cons h (TpAll.append t g)
theorem TpAll.get : ∀ {vs : List V} {ds : List PyData} {i : Nat} {d : PyData}, TpAll H vs ds → ds[i]? = some d → ∃ v, vs[i]? = some v ∧ Tp H v d
  | _, _, _, _, .nil, e => by cases e
  | _, _, 0, _, .cons h _, e => ⟨_, rfl, by
    obtain rfl := Option.some.inj e
    exact h⟩
  | _, _, i + 1, _, .cons _ t, e => TpAll.get (i := i) t e
theorem TpAll.at_ : ∀ {vs : List V} {ds : List PyData} {i : Nat} {v : V}, TpAll H vs ds → vs[i]? = some v → ∃ d, ds[i]? = some d ∧ Tp H v d
  | _, _, _, _, .nil, e => by cases e
  | _, _, 0, _, .cons h _, e => ⟨_, rfl, by
    obtain rfl := Option.some.inj e
    exact h⟩
  | _, _, i + 1, _, .cons _ t, e => TpAll.at_ (i := i) t e
theorem TpAll.drop : ∀ {vs : List V} {ds : List PyData} (n : Nat), TpAll H vs ds → TpAll H (vs.drop n) (ds.drop n)
  | _, _, 0, h => h
  | _, _, _ + 1, .nil => .nil
  | _, _, n + 1, .cons _ t => TpAll.drop n t
theorem TpAll.take : ∀ {vs : List V} {ds : List PyData} (n : Nat), TpAll H vs ds → TpAll H (vs.take n) (ds.take n)
  | _, _, 0, _ => .nil
  | _, _, _ + 1, .nil => .nil
  | _, _, n + 1, .cons h t => .cons h (TpAll.take n t)
theorem TpAll.ints : ∀ {ns : List Int} {vs : List V}, TpAll H vs (ns.map PyData.int) → vs = ns.map V.int
  | [], _, h => by cases h; rfl
  | n :: ns, _, h => by
    cases h with
    | cons h1 h2 =>
      cases h1
      rw [TpAll.ints h2]; rfl
theorem TpAll.of_ints : ∀ ns : List Int, TpAll H (ns.map V.int) (ns.map PyData.int)
  | [] => .nil
  | n :: ns => .cons (.int n) (TpAll.of_ints ns)
theorem TpAll.bools : ∀ {bs : List Bool} {vs : List V}, TpAll H vs (bs.map PyData.bool) → vs = bs.map V.bl
  | [], _, h => by cases h; rfl
  | n :: ns, _, h => by
    cases h with
    | cons h1 h2 =>
      cases h1
      rw [TpAll.bools h2]; rfl
theorem TpAll.paired : ∀ {vs : List V} {ds : List PyData}, TpAll H vs ds → Paired (fun v d => Tp H v d) vs ds
  | _, _, .nil => .nil
  | _, _, .cons h t => .cons h (TpAll.paired t)
theorem TpAll.of_paired : ∀ {vs : List V} {ds : List PyData}, Paired (fun v d => Tp H v d) vs ds → TpAll H vs ds
  | _, _, .nil => .nil
  | _, _, .cons h t => .cons h (TpAll.of_paired t)
end
/-! ### what may not be looked at, objects with attributes, slots -/
def cut (O : List Addr) (H : Hp) : Hp := fun a => if a ∈ O then none else H a
theorem cut_sub {O : List Addr} {H : Hp} : Same (cut O H) H := fun b o h => by
  unfold cut at h
  split at h
  · cases h
  · exact h
theorem cut_out {O : List Addr} {H : Hp} {a : Addr} (h : a ∉ O) : cut O H a = H a := if_neg h
theorem cut_nil {H : Hp} : cut [] H = H := funext fun a => if_neg (by simp)
theorem cutS {O : List Addr} {H H' : Hp} (e : Same H H') : Same (cut O H) (cut O H') := fun b o h => by
  unfold cut at h ⊢
  split at h
  · cases h
  · rename_i n
    rw [if_neg n]; exact e _ _ h
theorem same_upd {H : Hp} {p : Addr} {o : HO} (h : H p = none) : Same H (upd H p o) := fun b u e => by
  rw [upd_ne (ne_of_none e h)]
  exact e
/-- what is owned stands -/
def Own (O : List Addr) (H : Hp) : Prop := ∀ a ∈ O, H a ≠ none
theorem Own.up {O : List Addr} {H H' : Hp} (w : Own O H) (e : Same H H') : Own O H' := fun a ha z => w a ha (e.free z)
theorem Own.new {O : List Addr} {H : Hp} {p : Addr} (w : Own O H) (h : H p = none) : p ∉ O := fun z => w p z h
theorem Own.nil {H : Hp} : Own [] H := fun a ha => absurd ha (by simp)
theorem Own.cons {O : List Addr} {H : Hp} {p : Addr} (w : Own O H) (h : H p ≠ none) : Own (p :: O) H := fun a ha => by
  obtain rfl | ha := List.mem_cons.mp ha
  · exact h
  · exact w a ha
theorem cut_new {O : List Addr} {H : Hp} {p : Addr} {o : HO} (w : Own O H) (h : H p = none) : cut O (upd H p o) p = some o := by
  rw [cut_out (w.new h)]; exact upd_same
/-- data, or the object that stands there -/
inductive D where
  | p (d : PyData)
  | o (a : Addr)
def Rep (H : Hp) (v : V) : D → Prop
  | .p d => Tp H v d
  | .o a => v = .ref a
theorem Rep.up {H H' : Hp} (e : Same H H') {v : V} : ∀ {d : D}, Rep H v d → Rep H' v d
  | .p d, h => Tp.up e d v h
  | .o _, h => h
/-- objects by their attributes -/
abbrev Ob := Addr → Option (Addr × List (Str × PyData))
def ObOk (H : Hp) (ob : Ob) : Prop := ∀ a C fs, ob a = some (C, fs) → ∃ dx vs, H a = some (.ins C dx vs) ∧ ∀ nm d, fs.lookup nm = some d → ∃ v, vs.lookup nm = some v ∧ Tp H v d
theorem ObOk.up {H H' : Hp} {ob : Ob} (e : Same H H') (h : ObOk H ob) : ObOk H' ob := fun a C fs z => by
  obtain ⟨dx, vs, h1, h2⟩ := h a C fs z
  exact ⟨dx, vs, e _ _ h1, fun nm d z => by
    obtain ⟨v, k1, k2⟩ := h2 nm d z
    exact ⟨v, k1, Tp.up e d v k2⟩⟩
structure Gm where
  sl : List (Option D)
  ob : Ob
structure Hs (H : Hp) (σ : L2.St) (Γ : Gm) : Prop where
  len : Γ.sl.length = σ.length
  sl : ∀ (i : Nat) (d : D), Γ.sl[i]? = some (some d) → ∃ v, σ[i]? = some (some v) ∧ Rep H v d
  ob : ObOk H Γ.ob
theorem Hs.up {H H' : Hp} {σ : L2.St} {Γ : Gm} (h : Hs H σ Γ) (e : Same H H') : Hs H' σ Γ := ⟨h.len, fun i d z => by
  obtain ⟨v, h1, h2⟩ := h.sl i d z
  exact ⟨v, h1, h2.up e⟩, h.ob.up e⟩
theorem Hs.set {H : Hp} {σ : L2.St} {sl : List (Option D)} {ob : Ob} (h : Hs H σ ⟨sl, ob⟩) (i : Nat) {v : V} {d : D} (r : Rep H v d) : Hs H (σ.set i (some v)) ⟨sl.set i (some d), ob⟩ := ⟨by
  show (sl.set i (some d)).length = _
  rw [List.length_set, List.length_set]; exact h.len, fun j e z => by
  have z : (sl.set i (some d))[j]? = some (some e) := z
  by_cases hij : i = j
  · subst hij
    have hl : i < sl.length := by
      have := (List.getElem?_eq_some_iff.mp z).1
      rwa [List.length_set] at this
    rw [List.getElem?_set_self hl] at z
    obtain rfl := Option.some.inj (Option.some.inj z)
    have hl' : i < σ.length := by
      have q : sl.length = σ.length := h.len
      omega
    exact ⟨v, List.getElem?_set_self hl', r⟩
  · rw [List.getElem?_set_ne hij] at z ⊢
    exact h.sl j e z, h.ob⟩
theorem Hs.unset {H : Hp} {σ : L2.St} {sl : List (Option D)} {ob : Ob} (h : Hs H σ ⟨sl, ob⟩) (i : Nat) {w : Option V} : Hs H (σ.set i w) ⟨sl.set i none, ob⟩ := ⟨by
  show (sl.set i none).length = _
  rw [List.length_set, List.length_set]; exact h.len, fun j e z => by
  have z : (sl.set i none)[j]? = some (some e) := z
  by_cases hij : i = j
  · subst hij
    have hl : i < sl.length := by
      have := (List.getElem?_eq_some_iff.mp z).1
      rwa [List.length_set] at this
    rw [List.getElem?_set_self hl] at z
    cases Option.some.inj z
  · rw [List.getElem?_set_ne hij] at z ⊢
    exact h.sl j e z, h.ob⟩
/-! ### readings -/
abbrev Ev := Gm → Option D
abbrev Evs := Gm → Option (List D)
def tOf (f : Ev) : TE := fun σ H Q => ∃ O Γ d, Own O H ∧ Hs (cut O H) σ Γ ∧ f Γ = some d ∧ ∀ v H', Same H H' → Rep (cut O H') v d → Q v H'
def ttOf (f : Ev) : TT := fun σ H Q => ∃ O Γ b, Own O H ∧ Hs (cut O H) σ Γ ∧ f Γ = some (.p (.bool b)) ∧ ∀ H', Same H H' → Q b H'
def taOf (f : Evs) : TA := fun σ H Q => ∃ O Γ ds, Own O H ∧ Hs (cut O H) σ Γ ∧ f Γ = some ds ∧ ∀ vs H', Same H H' → Paired (Rep (cut O H')) vs ds → Q vs H'
def allP : List D → Option (List PyData)
  | [] => some []
  | .p d :: r => (allP r).map (d :: ·)
  | .o _ :: _ => none
theorem allP_rep {H : Hp} : ∀ {vs : List V} {ds : List D} {xs : List PyData}, Paired (Rep H) vs ds → allP ds = some xs → TpAll H vs xs
  | _, _, _, .nil, e => by cases e; exact .nil
  | _, .p d :: r, _, .cons h t, e => by
    obtain ⟨ys, h1, h2⟩ := Option.map_eq_some_iff.mp (show (allP r).map (d :: ·) = some _ from e)
    subst h2
    exact .cons h (allP_rep t h1)
  | _, .o a :: r, _, .cons h t, e => by cases e
theorem paired_up {H H' : Hp} (e : Same H H') {vs : List V} {ds : List D} (h : Paired (Rep H) vs ds) : Paired (Rep H') vs ds := h.mono fun _ _ r => r.up e
section
variable {X : Cx} {e : Expr} {es : List Expr} {f : Ev} {fs : Evs}
theorem pe_imp {t u : TE} (h : PE X e t) (i : ∀ σ H Q, u σ H Q → t σ H Q) : PE X e u := ⟨fun pins s σ H Q I q => h.run pins s σ H Q I (i σ H Q q)⟩
theorem pt_imp {t u : TT} (h : PT X e t) (i : ∀ σ H Q, u σ H Q → t σ H Q) : PT X e u := ⟨fun pins s σ H Q I q => h.run pins s σ H Q I (i σ H Q q)⟩
theorem pa_imp {t u : TA} (h : PA X es t) (i : ∀ σ H Q, u σ H Q → t σ H Q) : PA X es u := ⟨fun pos pins s σ H Q I q => h.run pos pins s σ H Q I (i σ H Q q)⟩
theorem pi_imp {tg : Expr} {t u : TI} (h : PI X tg e t) (i : ∀ σ H Q, u σ H Q → t σ H Q) : PI X tg e u := ⟨fun pins s σ H Q I q => h.run pins s σ H Q I (i σ H Q q)⟩
theorem ps_imp {st : Stmt} {t u : TS} (h : PS X st t) (i : ∀ D σ H, u D σ H → t D σ H) : PS X st u := ⟨fun pins s σ H D I q => h.run pins s σ H D I (i D σ H q)⟩
/-! ### names, constants -/
def eVar (i : Nat) : Ev := fun Γ => match Γ.sl[i]? with
  | some (some d) => some d
  | _ => none
theorem ev_var (i : Nat) {x : Str} {pos : Pos} (hN : X.N[i]? = some x := by rfl) (hv : Vis X.env.scope x := by first | exact Or.inl rfl | exact Or.inr (Or.inl rfl) | exact Or.inr (Or.inr rfl)) (hd : (x == ("__debug__" : Str)) = false := by decide)
    (hcd : (x == ("__classdict__" : Str)) = false := by decide) : PE X (.Name x pos) (tOf (eVar i)) := by
  refine pe_imp (pe_var hN hv hd hcd) fun σ H Q h => ?_
  obtain ⟨O, Γ, d, w, hs, e, q⟩ := h
  unfold eVar at e
  split at e
  · rename_i d' z
    obtain rfl := Option.some.inj e
    obtain ⟨v, h1, h2⟩ := hs.sl i _ z
    exact ⟨v, h1, q v H (Same.refl H) h2⟩
  · cases e
def eC (d : PyData) : Ev := fun _ => some (.p d)
theorem ev_c {v : V} {d : PyData} (h : PE X e (tC v)) (hd : ∀ H, Tp H v d) : PE X e (tOf (eC d)) := pe_imp h fun σ H Q h => by
  obtain ⟨O, Γ, d', w, hs, e, q⟩ := h
  obtain rfl := Option.some.inj e
  exact q v H (Same.refl H) (hd _)
/-! ### two operands -/
def eB (g : PyData → PyData → Option PyData) (f1 f2 : Ev) : Ev := fun Γ => match f1 Γ, f2 Γ with
  | some (.p a), some (.p b) => (g a b).map .p
  | _, _ => none
def BinS (r : R2) (g : PyData → PyData → Option PyData) : Prop := ∀ {O : List Addr} {H : Hp} {x y : V} {a b c : PyData} {Q : VK}, Own O H → Tp (cut O H) x a → Tp (cut O H) y b → g a b = some c → (∀ v H', Same H H' → Tp (cut O H') v c → Q v H') → r x y H Q
theorem eB_some {g : PyData → PyData → Option PyData} {f1 f2 : Ev} {Γ : Gm} {d : D} (h : eB g f1 f2 Γ = some d) : ∃ a b c, f1 Γ = some (.p a) ∧ f2 Γ = some (.p b) ∧ g a b = some c ∧ d = .p c := by
  unfold eB at h
  split at h
  · rename_i a b h1 h2
    obtain ⟨c, h3, h4⟩ := Option.map_eq_some_iff.mp h
    exact ⟨a, b, c, h1, h2, h3, h4.symm⟩
  · cases h
theorem bin_read {r : R2} {g : PyData → PyData → Option PyData} {f1 f2 : Ev} (s : BinS r g) (σ : L2.St) (H : Hp) (Q : VK) (h : tOf (eB g f1 f2) σ H Q) : tOp r (tOf f1) (tOf f2) σ H Q := by
  obtain ⟨O, Γ, d, w, hs, e, q⟩ := h
  obtain ⟨a, b, c, h1, h2, h3, rfl⟩ := eB_some e
  refine ⟨O, Γ, _, w, hs, h1, fun x H1 s1 r1 => ⟨O, Γ, _, w.up s1, hs.up (cutS s1), h2, fun y H2 s2 r2 => ?_⟩⟩
  exact s ((w.up s1).up s2) (Tp.up (cutS s2) _ _ r1) r2 h3 fun v H3 s3 t => q v H3 ((s1.trans s2).trans s3) t
theorem ev_op {op : Operator} {r : R2} {g : PyData → PyData → Option PyData} {a b : Expr} {f1 f2 : Ev} {pos : Pos} (ho : OpR X (binaryOp op) r) (s : BinS r g) (ha : PE X a (tOf f1)) (hb : PE X b (tOf f2)) : PE X (.BinOp a op b pos) (tOf (eB g f1 f2)) :=
  pe_imp (pe_op ho ha hb) (bin_read s)
theorem ev_cmp {op : CmpOp} {r : R2} {g : PyData → PyData → Option PyData} {a b : Expr} {f1 f2 : Ev} {pos : Pos} (ho : OpR X (compareOp op) r) (s : BinS r g) (ha : PE X a (tOf f1)) (hb : PE X b (tOf f2)) (hm : behindInMarks op b = false) : PE X (.Compare a [op] [b] pos) (tOf (eB g f1 f2)) :=
  pe_imp (pe_cmpR ho ha hb hm) (bin_read s)
theorem ev_ix {r : R2} {g : PyData → PyData → Option PyData} {a b : Expr} {f1 f2 : Ev} {pos : Pos} (hr : IxR X r) (s : BinS r g) (ha : PE X a (tOf f1)) (hb : PE X b (tOf f2)) (hs : PlainIx b) : PE X (.Subscript a b pos) (tOf (eB g f1 f2)) :=
  pe_imp (pe_ix hr ha hb hs) (bin_read s)
end
end RB
set_option Elab.async false
set_option linter.all false
set_option maxRecDepth 100000
set_option maxHeartbeats 2000000
/-! The operators and built-in functions on data. -/
namespace RB
open PySem PySem.Spec PyProof.Rows L2
open PySem.W (AllAlike Sortable dataLe)
/-! ### operators -/
instance (i j : Int) : Decidable (CMul i j) := by unfold CMul; infer_instance
instance (i j : Int) : Decidable (CDivN i j) := by unfold CDivN; infer_instance
instance (i j : Int) : Decidable (CPow i j) := by unfold CPow; infer_instance
theorem opR_or {X : Cx} {f : Value → Value → Sem Value} {r1 r2 : R2} (h1 : OpR X f r1) (h2 : OpR X f r2) : OpR X f (fun x y H Q => r1 x y H Q ∨ r2 x y H Q) := fun pins s σ H x y v u Q I rx ry h =>
  h.elim (h1 pins s σ H x y v u Q I rx ry) (h2 pins s σ H x y v u Q I rx ry)
theorem callR_or {X : Cx} {f : Value} {r1 r2 : List V → Hp → VK → Prop} (h1 : CallR X f r1) (h2 : CallR X f r2) : CallR X f (fun vs H Q => r1 vs H Q ∨ r2 vs H Q) := fun pins s σ H vs us Q I r h =>
  h.elim (h1 pins s σ H vs us Q I r) (h2 pins s σ H vs us Q I r)
theorem BinS.inl {r1 r2 : R2} {g : PyData → PyData → Option PyData} (h : BinS r1 g) : BinS (fun x y H Q => r1 x y H Q ∨ r2 x y H Q) g := fun w a b c q => .inl (h w a b c q)
/-- whole numbers -/
def gI (c : Int → Int → Bool) (k : Int → Int → PyData) : PyData → PyData → Option PyData
  | .int i, .int j => if c i j then some (k i j) else none
  | _, _ => none
def gI0 (k : Int → Int → PyData) : PyData → PyData → Option PyData
  | .int i, .int j => some (k i j)
  | _, _ => none
theorem bin_I {C : Int → Int → Prop} {c : Int → Int → Bool} {k : Int → Int → PyData} {kv : Int → Int → V} (hc : ∀ i j, c i j = true → C i j) (hk : ∀ i j H, Tp H (kv i j) (k i j)) : BinS (rI C kv) (gI c k) := fun {O H x y a b d Q} w ha hb hg q => by
  unfold gI at hg
  split at hg
  · split at hg
    · rename_i i j z
      obtain rfl := Option.some.inj hg
      cases ha
      cases hb
      exact ⟨i, j, rfl, rfl, hc i j z, q _ H (Same.refl H) (hk i j _)⟩
    · cases hg
  · cases hg
theorem bin_I0 {k : Int → Int → PyData} {kv : Int → Int → V} (hk : ∀ i j H, Tp H (kv i j) (k i j)) : BinS (rI0 kv) (gI0 k) := fun {O H x y a b d Q} w ha hb hg q => by
  unfold gI0 at hg
  split at hg
  · rename_i i j
    obtain rfl := Option.some.inj hg
    cases ha
    cases hb
    exact ⟨i, j, rfl, rfl, q _ H (Same.refl H) (hk i j _)⟩
  · cases hg
/-- a + b -/
def gAdd : PyData → PyData → Option PyData
  | .int i, .int j => some (.int (i + j))
  | .list a, .list b => if a.length + b.length ≤ sizeLine then some (.list (a ++ b)) else none
  | .tuple a, .tuple b => if a.length + b.length ≤ sizeLine then some (.tuple (a ++ b)) else none
  | _, _ => none
theorem bin_add {K : PySem.W.Frag} : BinS (fun x y H Q => rI0 (fun i j => .int (i + j)) x y H Q ∨ rCat x y H Q ∨ rCatA K x y H Q) gAdd := fun {O H x y a b d Q} w ha hb hg q => by
  unfold gAdd at hg
  split at hg
  · obtain rfl := Option.some.inj hg
    cases ha
    cases hb
    exact .inl ⟨_, _, rfl, rfl, q _ H (Same.refl H) (.int _)⟩
  · split at hg
    · rename_i hz
      obtain rfl := Option.some.inj hg
      cases ha with
      | lst h1 h2 => cases hb with
        | lst h3 h4 =>
          refine .inr (.inl ⟨_, _, _, _, rfl, rfl, cut_sub _ _ h1, cut_sub _ _ h3, by rw [h2.length, h4.length]; exact hz, fun p hp => q _ _ (same_upd hp) (.lst (cut_new w hp) ?_)⟩)
          exact TpAll.up (cutS (same_upd hp)) _ _ (h2.append h4)
    · cases hg
  · split at hg
    · rename_i hz
      obtain rfl := Option.some.inj hg
      cases ha with
      | tup h1 h2 => cases hb with
        | tup h3 h4 =>
          refine .inr (.inr ⟨_, _, _, _, rfl, rfl, SqT.of (cut_sub _ _ h1), SqT.of (cut_sub _ _ h3), by rw [h2.length, h4.length]; exact hz, fun z => ?_, fun _ z => ?_, fun _ _ p hp => q _ _ (same_upd hp) (.tup (cut_new w hp) ?_)⟩)
          · subst z
            cases h2
            exact q _ H (Same.refl H) (.tup h3 h4)
          · subst z
            cases h4
            rw [List.append_nil] at q
            exact q _ H (Same.refl H) (.tup h1 h2)
          · exact TpAll.up (cutS (same_upd hp)) _ _ (h2.append h4)
    · cases hg
  · cases hg
section
variable {X : Cx} {a b : Expr} {f1 f2 : Ev} {pos : Pos}
theorem ev_add (ha : PE X a (tOf f1)) (hb : PE X b (tOf f2)) : PE X (.BinOp a .Add b pos) (tOf (eB gAdd f1 f2)) := ev_op (opR_or op_add (opR_or op_cat op_catA)) bin_add ha hb
abbrev gSub := gI0 fun i j => .int (i - j)
theorem ev_sub (ha : PE X a (tOf f1)) (hb : PE X b (tOf f2)) : PE X (.BinOp a .Sub b pos) (tOf (eB gSub f1 f2)) := ev_op op_sub (bin_I0 fun _ _ _ => .int _) ha hb
abbrev gMul := gI (fun i j => decide (CMul i j)) fun i j => .int (i * j)
theorem ev_mul (ha : PE X a (tOf f1)) (hb : PE X b (tOf f2)) : PE X (.BinOp a .Mult b pos) (tOf (eB gMul f1 f2)) := ev_op op_mul (bin_I (fun _ _ z => of_decide_eq_true z) fun _ _ _ => .int _) ha hb
abbrev gDiv := gI (fun i j => decide (CDivN i j)) fun i j => .int (i.fdiv j)
theorem ev_div (ha : PE X a (tOf f1)) (hb : PE X b (tOf f2)) : PE X (.BinOp a .FloorDiv b pos) (tOf (eB gDiv f1 f2)) := ev_op op_fdivN (bin_I (fun _ _ z => of_decide_eq_true z) fun _ _ _ => .int _) ha hb
abbrev gMod := gI (fun _ j => decide (j ≠ 0)) fun i j => .int (i.fmod j)
theorem ev_mod (ha : PE X a (tOf f1)) (hb : PE X b (tOf f2)) : PE X (.BinOp a .Mod b pos) (tOf (eB gMod f1 f2)) := ev_op op_modN (bin_I (fun _ _ z => of_decide_eq_true z) fun _ _ _ => .int _) ha hb
abbrev gPow := gI (fun i j => decide (CPow i j)) fun i j => .int (i ^ j.toNat)
theorem ev_pow (ha : PE X a (tOf f1)) (hb : PE X b (tOf f2)) : PE X (.BinOp a .Pow b pos) (tOf (eB gPow f1 f2)) := ev_op op_pow (bin_I (fun _ _ z => of_decide_eq_true z) fun _ _ _ => .int _) ha hb
abbrev gShl := gI (fun i j => decide (CPow i j)) fun i j => .int (i * 2 ^ j.toNat)
theorem ev_shl (ha : PE X a (tOf f1)) (hb : PE X b (tOf f2)) : PE X (.BinOp a .LShift b pos) (tOf (eB gShl f1 f2)) := ev_op op_shl (bin_I (fun _ _ z => of_decide_eq_true z) fun _ _ _ => .int _) ha hb
abbrev gShr := gI (fun _ j => decide (0 ≤ j)) fun i j => .int (i / 2 ^ j.toNat)
theorem ev_shr (ha : PE X a (tOf f1)) (hb : PE X b (tOf f2)) : PE X (.BinOp a .RShift b pos) (tOf (eB gShr f1 f2)) := ev_op op_shr (bin_I (fun _ _ z => of_decide_eq_true z) fun _ _ _ => .int _) ha hb
abbrev gAnd := gI0 fun i j => .int (Builtin.bitAnd i j)
theorem ev_band (ha : PE X a (tOf f1)) (hb : PE X b (tOf f2)) : PE X (.BinOp a .BitAnd b pos) (tOf (eB gAnd f1 f2)) := ev_op op_and (bin_I0 fun _ _ _ => .int _) ha hb
abbrev gOr := gI0 fun i j => .int (Builtin.bitOr i j)
theorem ev_bor (ha : PE X a (tOf f1)) (hb : PE X b (tOf f2)) : PE X (.BinOp a .BitOr b pos) (tOf (eB gOr f1 f2)) := ev_op op_or (bin_I0 fun _ _ _ => .int _) ha hb
/-! ### comparisons -/
abbrev gLt := gI0 fun i j => .bool (decide (i < j))
abbrev gLe := gI0 fun i j => .bool (decide (i ≤ j))
abbrev gGt := gI0 fun i j => .bool (decide (j < i))
abbrev gGe := gI0 fun i j => .bool (decide (j ≤ i))
theorem ev_lt (ha : PE X a (tOf f1)) (hb : PE X b (tOf f2)) : PE X (.Compare a [.Lt] [b] pos) (tOf (eB gLt f1 f2)) := ev_cmp op_lt (bin_I0 fun _ _ _ => .bl _) ha hb (nomark _)
theorem ev_le (ha : PE X a (tOf f1)) (hb : PE X b (tOf f2)) : PE X (.Compare a [.LtE] [b] pos) (tOf (eB gLe f1 f2)) := ev_cmp op_le (bin_I0 fun _ _ _ => .bl _) ha hb (nomark _)
theorem ev_gt (ha : PE X a (tOf f1)) (hb : PE X b (tOf f2)) : PE X (.Compare a [.Gt] [b] pos) (tOf (eB gGt f1 f2)) := ev_cmp op_gt (bin_I0 fun _ _ _ => .bl _) ha hb (nomark _)
theorem ev_ge (ha : PE X a (tOf f1)) (hb : PE X b (tOf f2)) : PE X (.Compare a [.GtE] [b] pos) (tOf (eB gGe f1 f2)) := ev_cmp op_ge (bin_I0 fun _ _ _ => .bl _) ha hb (nomark _)
def gEq (a b : PyData) : Option PyData := if (SeqAt.shaped a && SeqAt.shaped b) = true then some (.bool (PyData.eqv a b)) else none
def gNe (a b : PyData) : Option PyData := if (SeqAt.shaped a && SeqAt.shaped b) = true then some (.bool (!PyData.eqv a b)) else none
theorem bin_eq {K : PySem.W.Frag} : BinS (rEqD K) gEq := fun {O H x y a b d Q} w ha hb hg q => by
  unfold gEq at hg
  split at hg
  · rename_i z
    obtain rfl := Option.some.inj hg
    obtain ⟨z1, z2⟩ := Bool.and_eq_true_iff.mp z
    exact ⟨a, b, Tp.dp _ _ (Tp.up cut_sub _ _ ha), Tp.dp _ _ (Tp.up cut_sub _ _ hb), z1, z2, q _ H (Same.refl H) (.bl _)⟩
  · cases hg
theorem bin_ne {K : PySem.W.Frag} : BinS (rNeD K) gNe := fun {O H x y a b d Q} w ha hb hg q => by
  unfold gNe at hg
  split at hg
  · rename_i z
    obtain rfl := Option.some.inj hg
    obtain ⟨z1, z2⟩ := Bool.and_eq_true_iff.mp z
    exact ⟨a, b, Tp.dp _ _ (Tp.up cut_sub _ _ ha), Tp.dp _ _ (Tp.up cut_sub _ _ hb), z1, z2, q _ H (Same.refl H) (.bl _)⟩
  · cases hg
theorem ev_eq {k : Nat} (hr : Room k X.A) (ha : PE X a (tOf f1)) (hb : PE X b (tOf f2)) : PE X (.Compare a [.Eq] [b] pos) (tOf (eB gEq f1 f2)) := ev_cmp (op_eqD hr.units) bin_eq ha hb (nomark _)
theorem ev_ne {k : Nat} (hr : Room k X.A) (ha : PE X a (tOf f1)) (hb : PE X b (tOf f2)) : PE X (.Compare a [.NotEq] [b] pos) (tOf (eB gNe f1 f2)) := ev_cmp (op_neD hr.units) bin_ne ha hb (nomark _)
def isNone : PyData → Bool
  | .none => true
  | _ => false
/-- is None, is True, is False -/
def gIs : PyData → PyData → Option PyData
  | a, .none => some (.bool (isNone a))
  | .bool a, .bool b => some (.bool (decide (a = b)))
  | _, _ => none
def gIsNot : PyData → PyData → Option PyData
  | a, .none => some (.bool (!isNone a))
  | .bool a, .bool b => some (.bool (!decide (a = b)))
  | _, _ => none
theorem tp_none {H : Hp} {x : V} {d : PyData} (h : Tp H x d) : decide (x = .non) = isNone d := by
  cases h <;> first | rfl | (exact decide_eq_false (by intro z; cases z))
theorem ev_is (ha : PE X a (tOf f1)) (hb : PE X b (tOf f2)) : PE X (.Compare a [.Is] [b] pos) (tOf (eB gIs f1 f2)) := ev_cmp (opR_or op_isN op_isBl) (fun {O H x y a b d Q} w ha hb hg q => by
  unfold gIs at hg
  split at hg
  · obtain rfl := Option.some.inj hg
    cases hb
    exact .inl ⟨rfl, by rw [tp_none ha]; exact q _ H (Same.refl H) (.bl _)⟩
  · obtain rfl := Option.some.inj hg
    cases ha
    cases hb
    exact .inr ⟨_, _, rfl, rfl, q _ H (Same.refl H) (.bl _)⟩
  · cases hg) ha hb (nomark _)
theorem ev_isNot (ha : PE X a (tOf f1)) (hb : PE X b (tOf f2)) : PE X (.Compare a [.IsNot] [b] pos) (tOf (eB gIsNot f1 f2)) := ev_cmp (opR_or op_notN op_notBl) (fun {O H x y a b d Q} w ha hb hg q => by
  unfold gIsNot at hg
  split at hg
  · obtain rfl := Option.some.inj hg
    cases hb
    exact .inl ⟨rfl, by rw [tp_none ha]; exact q _ H (Same.refl H) (.bl _)⟩
  · obtain rfl := Option.some.inj hg
    cases ha
    cases hb
    exact .inr ⟨_, _, rfl, rfl, q _ H (Same.refl H) (.bl _)⟩
  · cases hg) ha hb (nomark _)
def allInts : List PyData → Option (List Int)
  | [] => some []
  | .int i :: r => (allInts r).map (i :: ·)
  | _ :: _ => none
theorem allInts_eq : ∀ {ds : List PyData} {ns : List Int}, allInts ds = some ns → ds = ns.map .int
  | [], _, h => by cases h; rfl
  | .int i :: r, _, h => by
    obtain ⟨ys, h1, h2⟩ := Option.map_eq_some_iff.mp (show (allInts r).map (i :: ·) = some _ from h)
    subst h2
    rw [allInts_eq h1]; rfl
  | .none :: _, _, h => by cases h
  | .bool _ :: _, _, h => by cases h
  | .str _ :: _, _, h => by cases h
  | .list _ :: _, _, h => by cases h
  | .tuple _ :: _, _, h => by cases h
  | .dict _ :: _, _, h => by cases h
theorem allInts_map : ∀ ns : List Int, allInts (ns.map .int) = some ns
  | [] => rfl
  | n :: ns => by
    show (allInts (ns.map .int)).map (n :: ·) = _
    rw [allInts_map ns]; rfl
def allBools : List PyData → Option (List Bool)
  | [] => some []
  | .bool i :: r => (allBools r).map (i :: ·)
  | _ :: _ => none
theorem allBools_eq : ∀ {ds : List PyData} {ns : List Bool}, allBools ds = some ns → ds = ns.map .bool
  | [], _, h => by cases h; rfl
  | .bool i :: r, _, h => by
    obtain ⟨ys, h1, h2⟩ := Option.map_eq_some_iff.mp (show (allBools r).map (i :: ·) = some _ from h)
    subst h2
    rw [allBools_eq h1]; rfl
  | .none :: _, _, h => by cases h
  | .int _ :: _, _, h => by cases h
  | .str _ :: _, _, h => by cases h
  | .list _ :: _, _, h => by cases h
  | .tuple _ :: _, _, h => by cases h
  | .dict _ :: _, _, h => by cases h
theorem allBools_map : ∀ ns : List Bool, allBools (ns.map .bool) = some ns
  | [] => rfl
  | n :: ns => by
    show (allBools (ns.map .bool)).map (n :: ·) = _
    rw [allBools_map ns]; rfl
/-- x in xs: data in a list, a number in a tuple of numbers -/
def gIn (neg : Bool) : PyData → PyData → Option PyData
  | d, .list ds => if (SeqAt.shaped d && SeqAt.shaped (.list ds)) = true then some (.bool (neg ^^ ds.any fun z => PyData.eqv z d)) else none
  | .int i, .tuple ds => (allInts ds).map fun ns => .bool (neg ^^ ns.any fun n => decide (n = i))
  | _, _ => none
theorem inV_ints (i : Int) (ns : List Int) : inV (.int i) (ns.map V.int) = ns.any fun n => decide (n = i) := by
  unfold inV
  rw [List.any_map]
  congr 1
theorem flat_ints (ns : List Int) : (ns.map V.int).all flatV = true := by
  rw [List.all_map]
  rw [List.all_eq_true]; exact fun _ _ => rfl
theorem ev_in {k : Nat} (hr : Room k X.A) (hm : behindInMarks .In b = false) (ha : PE X a (tOf f1)) (hb : PE X b (tOf f2)) : PE X (.Compare a [.In] [b] pos) (tOf (eB (gIn false) f1 f2)) :=
  ev_cmp (opR_or (op_inD (by have := hr.un; omega)) op_in_seq) (fun {O H x y a b d Q} w ha hb hg q => by
  unfold gIn at hg
  split at hg
  · split at hg
    · rename_i z
      obtain rfl := Option.some.inj hg
      obtain ⟨z1, z2⟩ := Bool.and_eq_true_iff.mp z
      exact .inl ⟨_, _, Tp.dp _ _ (Tp.up cut_sub _ _ ha), Tp.dp _ _ (Tp.up cut_sub _ _ hb), z1, z2, by simpa using q _ H (Same.refl H) (.bl _)⟩
    · cases hg
  · obtain ⟨ns, h1, rfl⟩ := Option.map_eq_some_iff.mp hg
    have h1 := allInts_eq h1
    subst h1
    cases ha
    cases hb with
    | tup k1 k2 =>
      have := TpAll.ints k2
      subst this
      refine .inr ⟨_, _, rfl, .inr (SqT.of (cut_sub _ _ k1)), rfl, flat_ints _, ?_⟩
      rw [inV_ints]
      simpa using q _ H (Same.refl H) (.bl _)
  · cases hg) ha hb hm
theorem ev_notIn {k : Nat} (hr : Room k X.A) (hm : behindInMarks .NotIn b = false) (ha : PE X a (tOf f1)) (hb : PE X b (tOf f2)) : PE X (.Compare a [.NotIn] [b] pos) (tOf (eB (gIn true) f1 f2)) :=
  ev_cmp (opR_or (op_notInD (by have := hr.un; omega)) op_notIn_seq) (fun {O H x y a b d Q} w ha hb hg q => by
  unfold gIn at hg
  split at hg
  · split at hg
    · rename_i z
      obtain rfl := Option.some.inj hg
      obtain ⟨z1, z2⟩ := Bool.and_eq_true_iff.mp z
      exact .inl ⟨_, _, Tp.dp _ _ (Tp.up cut_sub _ _ ha), Tp.dp _ _ (Tp.up cut_sub _ _ hb), z1, z2, by simpa using q _ H (Same.refl H) (.bl _)⟩
    · cases hg
  · obtain ⟨ns, h1, rfl⟩ := Option.map_eq_some_iff.mp hg
    have h1 := allInts_eq h1
    subst h1
    cases ha
    cases hb with
    | tup k1 k2 =>
      have := TpAll.ints k2
      subst this
      refine .inr ⟨_, _, rfl, .inr (SqT.of (cut_sub _ _ k1)), rfl, flat_ints _, ?_⟩
      rw [inV_ints]
      simpa using q _ H (Same.refl H) (.bl _)
  · cases hg) ha hb hm
end
end RB
set_option Elab.async false
set_option linter.all false
set_option maxRecDepth 100000
set_option maxHeartbeats 2000000
/-! Further expressions on data: truth, attributes, displays, calls, parts. -/
namespace RB
open PySem PySem.Spec PyProof.Rows L2
open PySem.W (AllAlike Sortable dataLe)
section
variable {X : Cx} {e a b c : Expr} {es : List Expr} {f f1 f2 f3 : Ev} {fs : Evs} {pos : Pos} {rest : List Expr}
/-! ### one operand -/
def eU (g : PyData → Option PyData) (f : Ev) : Ev := fun Γ => match f Γ with
  | some (.p d) => (g d).map .p
  | _ => none
theorem eU_some {g : PyData → Option PyData} {f : Ev} {Γ : Gm} {d : D} (h : eU g f Γ = some d) : ∃ x y, f Γ = some (.p x) ∧ g x = some y ∧ d = .p y := by
  unfold eU at h
  split at h
  · rename_i x h1
    obtain ⟨y, h2, h3⟩ := Option.map_eq_some_iff.mp h
    exact ⟨x, y, h1, h2, h3.symm⟩
  · cases h
def gNeg : PyData → Option PyData
  | .int i => some (.int (-i))
  | _ => none
def gInv : PyData → Option PyData
  | .int i => some (.int (Builtin.bitNot i))
  | _ => none
def gNot : PyData → Option PyData
  | .bool b => some (.bool (!b))
  | _ => none
theorem ev_neg (ha : PE X a (tOf f)) : PE X (.UnaryOp .USub a pos) (tOf (eU gNeg f)) := pe_imp (pe_un un_neg ha) fun σ H Q h => by
  obtain ⟨O, Γ, d, w, hs, e, q⟩ := h
  obtain ⟨x, y, h1, h2, rfl⟩ := eU_some e
  refine ⟨O, Γ, _, w, hs, h1, fun v H1 s1 r1 => ?_⟩
  unfold gNeg at h2
  split at h2
  · obtain rfl := Option.some.inj h2
    cases r1
    exact ⟨_, rfl, q _ H1 s1 (.int _)⟩
  · cases h2
theorem ev_inv (ha : PE X a (tOf f)) : PE X (.UnaryOp .Invert a pos) (tOf (eU gInv f)) := pe_imp (pe_un un_inv ha) fun σ H Q h => by
  obtain ⟨O, Γ, d, w, hs, e, q⟩ := h
  obtain ⟨x, y, h1, h2, rfl⟩ := eU_some e
  refine ⟨O, Γ, _, w, hs, h1, fun v H1 s1 r1 => ?_⟩
  unfold gInv at h2
  split at h2
  · obtain rfl := Option.some.inj h2
    cases r1
    exact ⟨_, rfl, q _ H1 s1 (.int _)⟩
  · cases h2
theorem ev_not (ha : PE X a (tOf f)) : PE X (.UnaryOp .Not a pos) (tOf (eU gNot f)) := pe_imp (pe_not ha) fun σ H Q h => by
  obtain ⟨O, Γ, d, w, hs, e, q⟩ := h
  obtain ⟨x, y, h1, h2, rfl⟩ := eU_some e
  refine ⟨O, Γ, _, w, hs, h1, fun v H1 s1 r1 => ?_⟩
  unfold gNot at h2
  split at h2
  · obtain rfl := Option.some.inj h2
    cases r1
    exact ⟨_, rfl, q _ H1 s1 (.bl _)⟩
  · cases h2
/-! ### and, or, a test -/
def eAnd (f1 f2 : Ev) : Ev := fun Γ => match f1 Γ with
  | some (.p (.bool true)) => f2 Γ
  | some (.p (.bool false)) => some (.p (.bool false))
  | _ => none
def eOr (f1 f2 : Ev) : Ev := fun Γ => match f1 Γ with
  | some (.p (.bool false)) => f2 Γ
  | some (.p (.bool true)) => some (.p (.bool true))
  | _ => none
def eIf (c f1 f2 : Ev) : Ev := fun Γ => match c Γ with
  | some (.p (.bool true)) => f1 Γ
  | some (.p (.bool false)) => f2 Γ
  | _ => none
theorem ev_one {op : BoolOp} (ha : PE X a (tOf f)) : PE X (.BoolOp op [a] pos) (tOf f) := pe_one ha
theorem ev_and (ha : PE X a (tOf f1)) (hb : PE X (.BoolOp .And (b :: rest) pos) (tOf f2)) : PE X (.BoolOp .And (a :: b :: rest) pos) (tOf (eAnd f1 f2)) := pe_imp (pe_and ha hb) fun σ H Q h => by
  obtain ⟨O, Γ, d, w, hs, e, q⟩ := h
  unfold eAnd at e
  split at e
  · rename_i h1
    refine ⟨O, Γ, _, w, hs, h1, fun v H1 s1 r1 => ?_⟩
    cases (show v = V.bl true from by cases r1; rfl)
    exact ⟨true, rfl, iteT ⟨O, Γ, d, w.up s1, hs.up (cutS s1), e, fun v H2 s2 r2 => q v H2 (s1.trans s2) r2⟩⟩
  · rename_i h1
    refine ⟨O, Γ, _, w, hs, h1, fun v H1 s1 r1 => ?_⟩
    cases (show v = V.bl false from by cases r1; rfl)
    obtain rfl := Option.some.inj e
    exact ⟨false, rfl, iteF (q _ H1 s1 (.bl _))⟩
  · cases e
theorem ev_or (ha : PE X a (tOf f1)) (hb : PE X (.BoolOp .Or (b :: rest) pos) (tOf f2)) : PE X (.BoolOp .Or (a :: b :: rest) pos) (tOf (eOr f1 f2)) := pe_imp (pe_or ha hb) fun σ H Q h => by
  obtain ⟨O, Γ, d, w, hs, e, q⟩ := h
  unfold eOr at e
  split at e
  · rename_i h1
    refine ⟨O, Γ, _, w, hs, h1, fun v H1 s1 r1 => ?_⟩
    cases (show v = V.bl false from by cases r1; rfl)
    exact ⟨false, rfl, iteF ⟨O, Γ, d, w.up s1, hs.up (cutS s1), e, fun v H2 s2 r2 => q v H2 (s1.trans s2) r2⟩⟩
  · rename_i h1
    refine ⟨O, Γ, _, w, hs, h1, fun v H1 s1 r1 => ?_⟩
    cases (show v = V.bl true from by cases r1; rfl)
    obtain rfl := Option.some.inj e
    exact ⟨true, rfl, iteT (q _ H1 s1 (.bl _))⟩
  · cases e
/-- a test, by its value -/
theorem et_val (h : PE X e (tOf f)) (he : ∀ whole, isTrue e X.env whole = (do let v ← whole; standAt e.pos; holding [v] (truthy v)) := by intro _; rfl) : PT X e (ttOf f) := pt_imp (pt_val h he) fun σ H Q h => by
  obtain ⟨O, Γ, b, w, hs, e, q⟩ := h
  exact ⟨O, Γ, _, w, hs, e, fun v H1 s1 r1 => by
    cases (show v = V.bl b from by cases r1; rfl)
    exact ⟨b, rfl, q H1 s1⟩⟩
theorem et_cmp {op : CmpOp} {r : R2} {g : PyData → PyData → Option PyData} (ho : OpR X (compareOp op) r) (s : BinS r g) (ha : PE X a (tOf f1)) (hb : PE X b (tOf f2)) (hm : behindInMarks op b = false) : PT X (.Compare a [op] [b] pos) (ttOf (eB g f1 f2)) :=
  pt_imp (pt_cmpR ho ha hb hm) fun σ H Q h => by
    obtain ⟨O, Γ, b, w, hs, e, q⟩ := h
    refine bin_read s σ H _ ⟨O, Γ, _, w, hs, e, fun v H1 s1 r1 => ?_⟩
    cases (show v = V.bl b from by cases r1; rfl)
    exact ⟨b, rfl, q H1 s1⟩
theorem et_not (ha : PT X a (ttOf f)) : PT X (.UnaryOp .Not a pos) (ttOf (eU gNot f)) := pt_imp (pt_not ha) fun σ H Q h => by
  obtain ⟨O, Γ, b, w, hs, e, q⟩ := h
  obtain ⟨x, y, h1, h2, h3⟩ := eU_some e
  cases h3
  unfold gNot at h2
  split at h2
  · rename_i k
    cases h2
    exact ⟨O, Γ, k, w, hs, h1, fun H1 s1 => q H1 s1⟩
  · cases h2
theorem ew_and1 (ha : PT X a (ttOf f)) : PW X (.BoolOp .And [a] pos) (ttOf f) := pw_and1 ha
theorem ew_or1 (ha : PT X a (ttOf f)) : PW X (.BoolOp .Or [a] pos) (ttOf f) := pw_or1 ha
theorem pw_imp {t u : TT} (h : PW X e t) (i : ∀ σ H Q, u σ H Q → t σ H Q) : PW X e u := ⟨fun wh pins s σ H Q I q => h.run wh pins s σ H Q I (i σ H Q q)⟩
theorem ew_and (ha : PT X a (ttOf f1)) (hb : PW X (.BoolOp .And (b :: rest) pos) (ttOf f2)) : PW X (.BoolOp .And (a :: b :: rest) pos) (ttOf (eAnd f1 f2)) := pw_imp (pw_and ha hb) fun σ H Q h => by
  obtain ⟨O, Γ, k, w, hs, e, q⟩ := h
  unfold eAnd at e
  split at e
  · rename_i h1
    exact ⟨O, Γ, true, w, hs, h1, fun H1 s1 => iteT ⟨O, Γ, k, w.up s1, hs.up (cutS s1), e, fun H2 s2 => q H2 (s1.trans s2)⟩⟩
  · rename_i h1
    cases e
    exact ⟨O, Γ, false, w, hs, h1, fun H1 s1 => iteF (q H1 s1)⟩
  · cases e
theorem ew_or (ha : PT X a (ttOf f1)) (hb : PW X (.BoolOp .Or (b :: rest) pos) (ttOf f2)) : PW X (.BoolOp .Or (a :: b :: rest) pos) (ttOf (eOr f1 f2)) := pw_imp (pw_or ha hb) fun σ H Q h => by
  obtain ⟨O, Γ, k, w, hs, e, q⟩ := h
  unfold eOr at e
  split at e
  · rename_i h1
    exact ⟨O, Γ, false, w, hs, h1, fun H1 s1 => iteF ⟨O, Γ, k, w.up s1, hs.up (cutS s1), e, fun H2 s2 => q H2 (s1.trans s2)⟩⟩
  · rename_i h1
    cases e
    exact ⟨O, Γ, true, w, hs, h1, fun H1 s1 => iteT (q H1 s1)⟩
  · cases e
theorem ew_pt (h : PW X e (ttOf f)) : PT X e (ttOf f) := h.pt
theorem ev_ifExp (hc : PT X c (ttOf f3)) (ha : PE X a (tOf f1)) (hb : PE X b (tOf f2)) : PE X (.IfExp c a b pos) (tOf (eIf f3 f1 f2)) := pe_imp (pe_ifExp hc ha hb) fun σ H Q h => by
  obtain ⟨O, Γ, d, w, hs, e, q⟩ := h
  unfold eIf at e
  split at e
  · rename_i h1
    exact ⟨O, Γ, true, w, hs, h1, fun H1 s1 => iteT ⟨O, Γ, d, w.up s1, hs.up (cutS s1), e, fun v H2 s2 r2 => q v H2 (s1.trans s2) r2⟩⟩
  · rename_i h1
    exact ⟨O, Γ, false, w, hs, h1, fun H1 s1 => iteF ⟨O, Γ, d, w.up s1, hs.up (cutS s1), e, fun v H2 s2 r2 => q v H2 (s1.trans s2) r2⟩⟩
  · cases e
/-! ### attributes -/
def eFld (C0 : Addr) (nm : Str) (f : Ev) : Ev := fun Γ => match f Γ with
  | some (.o a) => (match Γ.ob a with
    | some (C, fs) => if C = C0 then (fs.lookup nm).map .p else none
    | none => none)
  | _ => none
theorem ev_fld {C0 : Addr} {nm : Str} (cl : Cls X.K C0) (na : NoAttr X.K C0 nm) (he : PE X e (tOf f)) (hb : attributeBase e nm X.env (eval e X.env) = eval e X.env := by rfl) : PE X (.Attribute e nm pos) (tOf (eFld C0 nm f)) := pe_imp (pe_fld he hb) fun σ H Q h => by
  obtain ⟨O, Γ, d, w, hs, e, q⟩ := h
  unfold eFld at e
  split at e
  · rename_i a h1
    split at e
    · rename_i C fs h2
      split at e
      · rename_i h3
        subst h3
        obtain ⟨x, h4, rfl⟩ := Option.map_eq_some_iff.mp e
        refine ⟨O, Γ, _, w, hs, h1, fun v H1 s1 r1 => ?_⟩
        obtain ⟨dx, vs, h5, h6⟩ := (hs.ob.up (cutS s1)) a C fs h2
        obtain ⟨y, h7, h8⟩ := h6 nm x h4
        exact ⟨a, C, dx, vs, y, r1, cut_sub _ _ h5, cl, na, h7, q y H1 s1 h8⟩
      · cases e
    · cases e
  · cases e
/-! ### argument lists, displays -/
def eNil : Evs := fun _ => some []
def eCons (f : Ev) (fs : Evs) : Evs := fun Γ => match f Γ, fs Γ with
  | some x, some xs => some (x :: xs)
  | _, _ => none
def eStar (f : Ev) (fs : Evs) : Evs := fun Γ => match f Γ, fs Γ with
  | some (.p (.list xs)), some ds => some (xs.map .p ++ ds)
  | some (.p (.tuple xs)), some ds => some (xs.map .p ++ ds)
  | _, _ => none
theorem ea_nil : PA X [] (taOf eNil) := pa_imp pa_nil fun σ H Q h => by
  obtain ⟨O, Γ, ds, w, hs, e, q⟩ := h
  obtain rfl := Option.some.inj e
  exact q [] H (Same.refl H) .nil
theorem ea_cons (ha : PE X a (tOf f)) (hr : PA X es (taOf fs)) (hs : starEach (a :: es) X.env = (false, eval a X.env) :: starEach es X.env := by rfl) : PA X (a :: es) (taOf (eCons f fs)) := pa_imp (pa_cons ha hr hs) fun σ H Q h => by
  obtain ⟨O, Γ, ds, w, hs, e, q⟩ := h
  unfold eCons at e
  split at e
  · rename_i d r h1 h2
    obtain rfl := Option.some.inj e
    exact ⟨O, Γ, _, w, hs, h1, fun v H1 s1 r1 => ⟨O, Γ, _, w.up s1, hs.up (cutS s1), h2, fun vs H2 s2 r2 => q (v :: vs) H2 (s1.trans s2) (.cons (r1.up (cutS s2)) r2)⟩⟩
  · cases e
theorem rep_of_all {H : Hp} : ∀ {vs : List V} {xs : List PyData}, TpAll H vs xs → Paired (Rep H) vs (xs.map .p)
  | _, _, .nil => .nil
  | _, _, .cons h t => .cons h (rep_of_all t)
theorem paired_app {α β : Type} {R : α → β → Prop} : ∀ {a c : List α} {b d : List β}, Paired R a b → Paired R c d → Paired R (a ++ c) (b ++ d)
  | _, _, _, _, .nil, h => h
  | _, _, _, _, .cons h t, g => .cons h (paired_app t g)
theorem ea_star {p : Pos} (ha : PE X a (tOf f)) (hr : PA X es (taOf fs)) (hs : starEach (.Starred a p :: es) X.env = (true, eval a X.env) :: starEach es X.env := by rfl) : PA X (.Starred a p :: es) (taOf (eStar f fs)) := pa_imp (StX.pa_star ha hr hs) fun σ H Q h => by
  obtain ⟨O, Γ, ds, w, hs, e, q⟩ := h
  unfold eStar at e
  split at e
  · rename_i xs r h1 h2
    obtain rfl := Option.some.inj e
    refine ⟨O, Γ, _, w, hs, h1, fun v H1 s1 r1 => ?_⟩
    cases r1 with
    | lst k1 k2 => exact ⟨_, _, rfl, .inr (SqL.of (cut_sub _ _ k1)), O, Γ, _, w.up s1, hs.up (cutS s1), h2, fun vs H2 s2 r2 => q _ H2 (s1.trans s2) (paired_app (rep_of_all (TpAll.up (cutS s2) _ _ k2)) r2)⟩
  · rename_i xs r h1 h2
    obtain rfl := Option.some.inj e
    refine ⟨O, Γ, _, w, hs, h1, fun v H1 s1 r1 => ?_⟩
    cases r1 with
    | tup k1 k2 => exact ⟨_, _, rfl, .inl (SqT.of (cut_sub _ _ k1)), O, Γ, _, w.up s1, hs.up (cutS s1), h2, fun vs H2 s2 r2 => q _ H2 (s1.trans s2) (paired_app (rep_of_all (TpAll.up (cutS s2) _ _ k2)) r2)⟩
  · cases e
def eData (fs : Evs) (k : List PyData → Option PyData) : Ev := fun Γ => ((fs Γ).bind allP).bind fun xs => (k xs).map .p
theorem eData_some {fs : Evs} {k : List PyData → Option PyData} {Γ : Gm} {d : D} (h : eData fs k Γ = some d) : ∃ ds xs y, fs Γ = some ds ∧ allP ds = some xs ∧ k xs = some y ∧ d = .p y := by
  obtain ⟨xs, h1, h2⟩ := Option.bind_eq_some_iff.mp h
  obtain ⟨ds, h3, h4⟩ := Option.bind_eq_some_iff.mp h1
  obtain ⟨y, h5, h6⟩ := Option.map_eq_some_iff.mp h2
  exact ⟨ds, xs, y, h3, h4, h5, h6.symm⟩
def kTup (xs : List PyData) : Option PyData := if xs.length ≤ sizeLine then some (.tuple xs) else none
def kLst (xs : List PyData) : Option PyData := if xs.length ≤ sizeLine then some (.list xs) else none
theorem ev_tup {x1} (h : PA X es (taOf fs)) : PE X (.Tuple es x1 pos) (tOf (eData fs kTup)) := pe_imp (pe_tup h) fun σ H Q h => by
  obtain ⟨O, Γ, d, w, hs, e, q⟩ := h
  obtain ⟨ds, xs, y, h1, h2, h3, rfl⟩ := eData_some e
  unfold kTup at h3
  split at h3
  · rename_i hz
    obtain rfl := Option.some.inj h3
    refine ⟨O, Γ, _, w, hs, h1, fun vs H1 s1 r1 => ?_⟩
    have t := allP_rep r1 h2
    exact ⟨by rw [t.length]; exact hz, fun p hp => q _ _ (s1.trans (same_upd hp)) (.tup (cut_new (w.up s1) hp) (TpAll.up (cutS (same_upd hp)) _ _ t))⟩
  · cases h3
theorem ev_lst (h : PA X es (taOf fs)) : PE X (.List es pos) (tOf (eData fs kLst)) := pe_imp (pe_lst h) fun σ H Q h => by
  obtain ⟨O, Γ, d, w, hs, e, q⟩ := h
  obtain ⟨ds, xs, y, h1, h2, h3, rfl⟩ := eData_some e
  unfold kLst at h3
  split at h3
  · rename_i hz
    obtain rfl := Option.some.inj h3
    refine ⟨O, Γ, _, w, hs, h1, fun vs H1 s1 r1 => ?_⟩
    have t := allP_rep r1 h2
    exact ⟨by rw [t.length]; exact hz, fun p hp => q _ _ (s1.trans (same_upd hp)) (.lst (cut_new (w.up s1) hp) (TpAll.up (cutS (same_upd hp)) _ _ t))⟩
  · cases h3
/-! ### calls of built-in functions -/
def CallS (r : List V → Hp → VK → Prop) (g : List PyData → Option PyData) : Prop := ∀ {O : List Addr} {H : Hp} {vs : List V} {ds : List PyData} {c : PyData} {Q : VK}, Own O H → TpAll (cut O H) vs ds → g ds = some c → (∀ v H', Same H H' → Tp (cut O H') v c → Q v H') → r vs H Q
theorem call_read {r : List V → Hp → VK → Prop} {g : List PyData → Option PyData} (s : CallS r g) (σ : L2.St) (H : Hp) (Q : VK) (h : tOf (eData fs g) σ H Q) : tCB r (taOf fs) σ H Q := by
  obtain ⟨O, Γ, d, w, hs, e, q⟩ := h
  obtain ⟨ds, xs, y, h1, h2, h3, rfl⟩ := eData_some e
  exact ⟨O, Γ, _, w, hs, h1, fun vs H1 s1 r1 => s (w.up s1) (allP_rep r1 h2) h3 fun v H2 s2 t => q v H2 (s1.trans s2) t⟩
variable {x : Str} {p : Pos} {bid T : String} {r : List V → Hp → VK → Prop} {g : List PyData → Option PyData}
theorem ev_callB (hc : CallR X (.builtin bid) r) (s : CallS r g) (hg : Gl X x) (hm : X.mg x = none) (hv : bootBuiltins x = some (.builtin bid)) (ha : PA X (e :: es) (taOf fs)) (hn : x ≠ "__name__" := by decide) (hdb : (x == ("__debug__" : Str)) = false := by decide)
    (he : starEach (e :: es) X.env = (false, eval e X.env) :: starEach es X.env := by rfl) (hpl : (backTo pos (starEach es X.env)).any (·.1) = false := by rfl) : PE X (.Call (.Name x p) (e :: es) [] pos) (tOf (eData fs g)) :=
  pe_imp (pe_callB hc hg hm hv ha hn hdb he hpl) (call_read s)
theorem ev_callTy (hc : CallR X (.type T) r) (s : CallS r g) (hg : Gl X x) (hm : X.mg x = none) (hv : bootBuiltins x = some (.type T)) (ha : PA X (e :: es) (taOf fs)) (hn : x ≠ "__name__" := by decide) (hdb : (x == ("__debug__" : Str)) = false := by decide)
    (he : starEach (e :: es) X.env = (false, eval e X.env) :: starEach es X.env := by rfl) (hpl : (backTo pos (starEach es X.env)).any (·.1) = false := by rfl) : PE X (.Call (.Name x p) (e :: es) [] pos) (tOf (eData fs g)) :=
  pe_imp (pe_callTy hc hg hm hv ha hn hdb he hpl) (call_read s)
theorem tp1 {H : Hp} {vs : List V} {d : PyData} (h : TpAll H vs [d]) : ∃ v, vs = [v] ∧ Tp H v d := by
  cases h with
  | cons h t => cases t; exact ⟨_, rfl, h⟩
/-- len(xs) -/
def gLen : List PyData → Option PyData
  | [.list xs] => some (.int xs.length)
  | [.tuple xs] => some (.int xs.length)
  | _ => none
theorem ev_len (hg : Gl X "len") (hm : X.mg "len" = none) (ha : PA X [e] (taOf fs)) (he : starEach [e] X.env = (false, eval e X.env) :: starEach [] X.env := by rfl) : PE X (.Call (.Name "len" p) [e] [] pos) (tOf (eData fs gLen)) :=
  ev_callB call_len_seq (fun {O H vs ds c Q} w ht hg q => by
    unfold gLen at hg
    split at hg
    · obtain rfl := Option.some.inj hg
      obtain ⟨v, rfl, t⟩ := tp1 ht
      cases t with
      | lst h1 h2 => exact ⟨_, _, rfl, .inl (SqL.of (cut_sub _ _ h1)), by rw [h2.length]; exact q _ H (Same.refl H) (.int _)⟩
    · obtain rfl := Option.some.inj hg
      obtain ⟨v, rfl, t⟩ := tp1 ht
      cases t with
      | tup h1 h2 => exact ⟨_, _, rfl, .inr (SqT.of (cut_sub _ _ h1)), by rw [h2.length]; exact q _ H (Same.refl H) (.int _)⟩
    · cases hg) hg hm boot_len ha (he := he)
/-- sum(ns) -/
def gSum : List PyData → Option PyData
  | [.list xs] => (allInts xs).map fun ns => .int ns.sum
  | [.tuple xs] => (allInts xs).map fun ns => .int ns.sum
  | _ => none
theorem ev_sum (hc : X.calm = true) (hg : Gl X "sum") (hm : X.mg "sum" = none) (ha : PA X [e] (taOf fs)) (he : starEach [e] X.env = (false, eval e X.env) :: starEach [] X.env := by rfl) : PE X (.Call (.Name "sum" p) [e] [] pos) (tOf (eData fs gSum)) :=
  ev_callB (callR_or (cr_sum hc) (cr_sumT hc)) (fun {O H vs ds c Q} w ht hg q => by
    unfold gSum at hg
    split at hg
    · obtain ⟨ns, h1, rfl⟩ := Option.map_eq_some_iff.mp hg
      have := allInts_eq h1
      subst this
      obtain ⟨v, rfl, t⟩ := tp1 ht
      cases t with
      | lst k1 k2 =>
        have := TpAll.ints k2
        subst this
        exact .inl ⟨_, ns, rfl, SqL.of (cut_sub _ _ k1), q _ H (Same.refl H) (.int _)⟩
    · obtain ⟨ns, h1, rfl⟩ := Option.map_eq_some_iff.mp hg
      have := allInts_eq h1
      subst this
      obtain ⟨v, rfl, t⟩ := tp1 ht
      cases t with
      | tup k1 k2 =>
        have := TpAll.ints k2
        subst this
        exact .inr ⟨_, ns, rfl, SqT.of (cut_sub _ _ k1), q _ H (Same.refl H) (.int _)⟩
    · cases hg) hg hm (by decide +kernel) ha (he := he)
/-- any(bs), all(bs) -/
def gAny : List PyData → Option PyData
  | [.list xs] => (allBools xs).map fun bs => .bool (bs.any id)
  | _ => none
def gAll : List PyData → Option PyData
  | [.list xs] => (allBools xs).map fun bs => .bool (bs.all id)
  | _ => none
theorem ev_any (hc : X.calm = true) (hg : Gl X "any") (hm : X.mg "any" = none) (ha : PA X [e] (taOf fs)) (he : starEach [e] X.env = (false, eval e X.env) :: starEach [] X.env := by rfl) : PE X (.Call (.Name "any" p) [e] [] pos) (tOf (eData fs gAny)) :=
  ev_callB (cr_any hc) (fun {O H vs ds c Q} w ht hg q => by
    unfold gAny at hg
    split at hg
    · obtain ⟨bs, h1, rfl⟩ := Option.map_eq_some_iff.mp hg
      have := allBools_eq h1
      subst this
      obtain ⟨v, rfl, t⟩ := tp1 ht
      cases t with
      | lst k1 k2 =>
        have := TpAll.bools k2
        subst this
        exact ⟨_, bs, rfl, SqL.of (cut_sub _ _ k1), q _ H (Same.refl H) (.bl _)⟩
    · cases hg) hg hm (by decide +kernel) ha (he := he)
theorem ev_all (hc : X.calm = true) (hg : Gl X "all") (hm : X.mg "all" = none) (ha : PA X [e] (taOf fs)) (he : starEach [e] X.env = (false, eval e X.env) :: starEach [] X.env := by rfl) : PE X (.Call (.Name "all" p) [e] [] pos) (tOf (eData fs gAll)) :=
  ev_callB (cr_all hc) (fun {O H vs ds c Q} w ht hg q => by
    unfold gAll at hg
    split at hg
    · obtain ⟨bs, h1, rfl⟩ := Option.map_eq_some_iff.mp hg
      have := allBools_eq h1
      subst this
      obtain ⟨v, rfl, t⟩ := tp1 ht
      cases t with
      | lst k1 k2 =>
        have := TpAll.bools k2
        subst this
        exact ⟨_, bs, rfl, SqL.of (cut_sub _ _ k1), q _ H (Same.refl H) (.bl _)⟩
    · cases hg) hg hm (by decide +kernel) ha (he := he)
/-- tuple(xs), list(xs) -/
def gTuple : List PyData → Option PyData
  | [.list xs] => some (.tuple xs)
  | [.tuple xs] => some (.tuple xs)
  | _ => none
def gList : List PyData → Option PyData
  | [.list xs] => some (.list xs)
  | [.tuple xs] => some (.list xs)
  | _ => none
theorem ev_tuple (hg : Gl X "tuple") (hm : X.mg "tuple" = none) (ha : PA X [e] (taOf fs)) (he : starEach [e] X.env = (false, eval e X.env) :: starEach [] X.env := by rfl) : PE X (.Call (.Name "tuple" p) [e] [] pos) (tOf (eData fs gTuple)) :=
  ev_callTy call_tuple_of (fun {O H vs ds c Q} w ht hg q => by
    unfold gTuple at hg
    split at hg
    · obtain rfl := Option.some.inj hg
      obtain ⟨v, rfl, t⟩ := tp1 ht
      cases t with
      | lst k1 k2 => exact ⟨_, _, rfl, .inl ⟨SqL.of (cut_sub _ _ k1), fun l hl => q _ _ (same_upd hl) (.tup (cut_new w hl) (TpAll.up (cutS (same_upd hl)) _ _ k2))⟩⟩
    · obtain rfl := Option.some.inj hg
      obtain ⟨v, rfl, t⟩ := tp1 ht
      cases t with
      | tup k1 k2 => exact ⟨_, _, rfl, .inr ⟨SqT.of (cut_sub _ _ k1), q _ H (Same.refl H) (.tup k1 k2)⟩⟩
    · cases hg) hg hm (by decide +kernel) ha (he := he)
theorem ev_list (hg : Gl X "list") (hm : X.mg "list" = none) (ha : PA X [e] (taOf fs)) (he : starEach [e] X.env = (false, eval e X.env) :: starEach [] X.env := by rfl) : PE X (.Call (.Name "list" p) [e] [] pos) (tOf (eData fs gList)) :=
  ev_callTy call_list_of (fun {O H vs ds c Q} w ht hg q => by
    unfold gList at hg
    split at hg
    · obtain rfl := Option.some.inj hg
      obtain ⟨v, rfl, t⟩ := tp1 ht
      cases t with
      | lst k1 k2 => exact ⟨_, _, rfl, .inl (SqL.of (cut_sub _ _ k1)), fun l hl => q _ _ (same_upd hl) (.lst (cut_new w hl) (TpAll.up (cutS (same_upd hl)) _ _ k2))⟩
    · obtain rfl := Option.some.inj hg
      obtain ⟨v, rfl, t⟩ := tp1 ht
      cases t with
      | tup k1 k2 => exact ⟨_, _, rfl, .inr (SqT.of (cut_sub _ _ k1)), fun l hl => q _ _ (same_upd hl) (.lst (cut_new w hl) (TpAll.up (cutS (same_upd hl)) _ _ k2))⟩
    · cases hg) hg hm (by decide +kernel) ha (he := he)
/-- int(n) of a number, bool(b) of a truth, abs(n) -/
def gInt : List PyData → Option PyData
  | [.int i] => some (.int i)
  | _ => none
def gBool : List PyData → Option PyData
  | [.bool b] => some (.bool b)
  | _ => none
def gAbs : List PyData → Option PyData
  | [.int i] => some (.int (if i < 0 then -i else i))
  | _ => none
theorem ev_int (hg : Gl X "int") (hm : X.mg "int" = none) (ha : PA X [e] (taOf fs)) (he : starEach [e] X.env = (false, eval e X.env) :: starEach [] X.env := by rfl) : PE X (.Call (.Name "int" p) [e] [] pos) (tOf (eData fs gInt)) :=
  ev_callTy call_int1 (fun {O H vs ds c Q} w ht hg q => by
    unfold gInt at hg
    split at hg
    · obtain rfl := Option.some.inj hg
      obtain ⟨v, rfl, t⟩ := tp1 ht
      cases t
      exact .inl ⟨_, rfl, q _ H (Same.refl H) (.int _)⟩
    · cases hg) hg hm (by decide +kernel) ha (he := he)
theorem ev_bool (hg : Gl X "bool") (hm : X.mg "bool" = none) (ha : PA X [e] (taOf fs)) (he : starEach [e] X.env = (false, eval e X.env) :: starEach [] X.env := by rfl) : PE X (.Call (.Name "bool" p) [e] [] pos) (tOf (eData fs gBool)) :=
  ev_callTy call_bool1 (fun {O H vs ds c Q} w ht hg q => by
    unfold gBool at hg
    split at hg
    · obtain rfl := Option.some.inj hg
      obtain ⟨v, rfl, t⟩ := tp1 ht
      cases t
      exact .inr ⟨_, rfl, q _ H (Same.refl H) (.bl _)⟩
    · cases hg) hg hm (by decide +kernel) ha (he := he)
theorem ev_abs (hg : Gl X "abs") (hm : X.mg "abs" = none) (ha : PA X [e] (taOf fs)) (he : starEach [e] X.env = (false, eval e X.env) :: starEach [] X.env := by rfl) : PE X (.Call (.Name "abs" p) [e] [] pos) (tOf (eData fs gAbs)) :=
  ev_callB call_abs (fun {O H vs ds c Q} w ht hg q => by
    unfold gAbs at hg
    split at hg
    · obtain rfl := Option.some.inj hg
      obtain ⟨v, rfl, t⟩ := tp1 ht
      cases t
      exact ⟨_, rfl, q _ H (Same.refl H) (.int _)⟩
    · cases hg) hg hm (by decide +kernel) ha (he := he)
/-- sorted(xs) -/
def SortOk (ds : List PyData) : Prop := AllAlike ds ∧ Sortable ds ∧ ∀ d ∈ ds, d.depth ≤ 60
open Classical in
noncomputable def gSorted : List PyData → Option PyData
  | [.list xs] => if SortOk xs then some (.list (xs.mergeSort (dataLe false id))) else none
  | [.tuple xs] => if SortOk xs then some (.list (xs.mergeSort (dataLe false id))) else none
  | _ => none
theorem ev_sorted {k : Nat} (hr : Room k X.A) (hg : Gl X "sorted") (hm : X.mg "sorted" = none) (ha : PA X [e] (taOf fs)) (he : starEach [e] X.env = (false, eval e X.env) :: starEach [] X.env := by rfl) : PE X (.Call (.Name "sorted" p) [e] [] pos) (tOf (eData fs gSorted)) := by
  refine pe_imp (pe_callB (id := "sorted") (r := fun vs H Q => ∃ O, Own O H ∧ rSortD (id : PyData → PyData) (fun x d => Tp (cut O H) x d) X vs H Q) (fun pins s σ H vs us Q I r h => ?_) hg hm (by decide +kernel) ha (he := he)) fun σ H Q h => ?_
  · obtain ⟨O, _, h⟩ := h
    exact cr_sortD hr.units pins s σ H vs us Q I r h
  · obtain ⟨O, Γ, d, w, hs, e, q⟩ := h
    obtain ⟨ds, xs, y, h1, h2, h3, rfl⟩ := eData_some e
    refine ⟨O, Γ, _, w, hs, h1, fun vs H1 s1 r1 => ⟨O, w.up s1, ?_⟩⟩
    have t := allP_rep r1 h2
    have fin : ∀ {a : Addr} {us : List V} {zs : List PyData}, vs = [V.ref a] → (SqL X.K H1 a us ∨ SqT X.K H1 a us) → TpAll (cut O H1) us zs → SortOk zs → y = .list (zs.mergeSort (dataLe false id)) → rSortD (id : PyData → PyData) (fun x d => Tp (cut O H1) x d) X vs H1 Q := fun {a us zs} ev hq tz so ey => by
      obtain ⟨so1, so2, so3⟩ := so
      refine ⟨a, us, zs, ev, hq, tz.paired, fun x b hx => Tp.dp _ _ (Tp.up cut_sub _ _ hx), by rw [List.map_id]; exact so1, by rw [List.map_id]; exact so2, so3, fun ys p hy hp => ?_⟩
      subst ey
      exact q _ _ (s1.trans (same_upd hp)) (.lst (cut_new (w.up s1) hp) (TpAll.up (cutS (same_upd hp)) _ _ (TpAll.of_paired hy)))
    unfold gSorted at h3
    split at h3
    · split at h3
      · rename_i so
        obtain rfl := Option.some.inj h3
        obtain ⟨v, rfl, tv⟩ := tp1 t
        cases tv with
        | lst k1 k2 => exact fin rfl (.inl (SqL.of (cut_sub _ _ k1))) k2 so rfl
      · cases h3
    · split at h3
      · rename_i so
        obtain rfl := Option.some.inj h3
        obtain ⟨v, rfl, tv⟩ := tp1 t
        cases tv with
        | tup k1 k2 => exact fin rfl (.inr (SqT.of (cut_sub _ _ k1))) k2 so rfl
      · cases h3
    · cases h3
end
end RB
set_option Elab.async false
set_option linter.all false
set_option maxRecDepth 100000
set_option maxHeartbeats 2000000
/-! Parts, own classes, calls of defs, what a loop walks, comprehensions. -/
namespace RB
open PySem PySem.Spec PyProof.Rows L2
section
variable {X : Cx} {e a b c : Expr} {es : List Expr} {f f1 f2 f3 : Ev} {fs : Evs} {pos : Pos} {rest : List Expr}
/-! ### xs[i], xs[lo:hi] -/
def gIx : PyData → PyData → Option PyData
  | .list ds, .int i => atI ds i
  | .tuple ds, .int i => atI ds i
  | _, _ => none
theorem at_rep {H : Hp} {vs : List V} {ds : List PyData} {i : Int} {d : PyData} (h : TpAll H vs ds) (e : atI ds i = some d) : ∃ v, atI vs i = some v ∧ Tp H v d := by
  unfold atI at e ⊢
  rw [h.length]
  obtain ⟨j, h1, h2⟩ := Option.bind_eq_some_iff.mp e
  rw [h1]
  exact h.get h2
theorem ev_at (ha : PE X a (tOf f1)) (hb : PE X b (tOf f2)) (hs : PlainIx b := by intro _ _; rfl) : PE X (.Subscript a b pos) (tOf (eB gIx f1 f2)) := ev_ix ix_seq (fun {O H x y p q d Q} w ha hb hg k => by
  unfold gIx at hg
  split at hg
  · cases hb
    cases ha with
    | lst h1 h2 =>
      obtain ⟨v, h3, h4⟩ := at_rep h2 hg
      exact .inl ⟨_, _, _, v, rfl, rfl, SqL.of (cut_sub _ _ h1), h3, k v H (Same.refl H) h4⟩
  · cases hb
    cases ha with
    | tup h1 h2 =>
      obtain ⟨v, h3, h4⟩ := at_rep h2 hg
      exact .inr (.inl ⟨_, _, _, v, rfl, rfl, SqT.of (cut_sub _ _ h1), h3, k v H (Same.refl H) h4⟩)
  · cases hg) ha hb hs
def cutD (xs : List PyData) (lo hi : Option Int) : List PyData := (xs.drop (HT.sIx xs.length 0 lo)).take (HT.sIx xs.length xs.length hi - HT.sIx xs.length 0 lo)
theorem cut_rep {H : Hp} {vs : List V} {ds : List PyData} (h : TpAll H vs ds) (lo hi : Option Int) : TpAll H (cutV vs lo hi) (cutD ds lo hi) := by
  unfold cutV cutD
  rw [h.length]
  exact (h.drop _).take _
/-- a part: nothing, or a number -/
abbrev Ep := Gm → Option (Option Int)
def toOf (f : Ep) : TO := fun σ H Q => ∃ O Γ i, Own O H ∧ Hs (cut O H) σ Γ ∧ f Γ = some i ∧ ∀ H', Same H H' → Q i H'
def eP0 : Ep := fun _ => some none
def eP (f : Ev) : Ep := fun Γ => match f Γ with
  | some (.p (.int i)) => some (some i)
  | _ => none
theorem po_imp {o : Option Expr} {t u : TO} (h : PO X o t) (i : ∀ σ H Q, u σ H Q → t σ H Q) : PO X o u := ⟨fun pins s σ H Q I q => h.run pins s σ H Q I (i σ H Q q)⟩
theorem ep_none : PO X none (toOf eP0) := po_imp po_none fun σ H Q h => by
  obtain ⟨O, Γ, i, w, hs, e, q⟩ := h
  obtain rfl := Option.some.inj e
  exact q H (Same.refl H)
theorem ep_some (h : PE X e (tOf f)) : PO X (some e) (toOf (eP f)) := po_imp (po_some h) fun σ H Q h => by
  obtain ⟨O, Γ, i, w, hs, e, q⟩ := h
  unfold eP at e
  split at e
  · rename_i j h1
    obtain rfl := Option.some.inj e
    exact ⟨O, Γ, _, w, hs, h1, fun v H1 s1 r1 => by
      cases r1
      exact ⟨j, rfl, q H1 s1⟩⟩
  · cases e
def eSl (f : Ev) (lo hi : Ep) : Ev := fun Γ => match f Γ, lo Γ, hi Γ with
  | some (.p (.list xs)), some l, some h => some (.p (.list (cutD xs l h)))
  | some (.p (.tuple xs)), some l, some h => some (.p (.tuple (cutD xs l h)))
  | _, _, _ => none
theorem ev_slice {lo hi : Option Expr} {fl fh : Ep} {p2 : Pos} (he : PE X e (tOf f)) (hl : PO X lo (toOf fl)) (hu : PO X hi (toOf fh)) : PE X (.Subscript e (.Slice lo hi none p2) pos) (tOf (eSl f fl fh)) := pe_imp (pe_slice (SlR.or sl_list sl_tupA) he hl hu) fun σ H Q h => by
  obtain ⟨O, Γ, d, w, hs, e, q⟩ := h
  unfold eSl at e
  split at e
  · rename_i xs l h h1 h2 h3
    obtain rfl := Option.some.inj e
    refine ⟨O, Γ, _, w, hs, h1, fun v H1 s1 r1 => ⟨O, Γ, l, w.up s1, hs.up (cutS s1), h2, fun H2 s2 => ⟨O, Γ, h, (w.up s1).up s2, (hs.up (cutS s1)).up (cutS s2), h3, fun H3 s3 => .inl ?_⟩⟩⟩
    have r1 := Tp.up (cutS (s2.trans s3)) _ _ r1
    have s4 := (s1.trans s2).trans s3
    cases r1 with
    | lst k1 k2 => exact ⟨_, _, rfl, SqL.of (cut_sub _ _ k1), fun p hp => q _ _ (s4.trans (same_upd hp)) (.lst (cut_new (w.up s4) hp) (TpAll.up (cutS (same_upd hp)) _ _ (cut_rep k2 l h)))⟩
  · rename_i xs l h h1 h2 h3
    obtain rfl := Option.some.inj e
    refine ⟨O, Γ, _, w, hs, h1, fun v H1 s1 r1 => ⟨O, Γ, l, w.up s1, hs.up (cutS s1), h2, fun H2 s2 => ⟨O, Γ, h, (w.up s1).up s2, (hs.up (cutS s1)).up (cutS s2), h3, fun H3 s3 => .inr ?_⟩⟩⟩
    have r1 := Tp.up (cutS (s2.trans s3)) _ _ r1
    have s4 := (s1.trans s2).trans s3
    cases r1 with
    | @tup a vs _ k1 k2 =>
      refine ⟨_, _, rfl, SqT.of (cut_sub _ _ k1), fun z => q _ _ s4 ?_, fun _ p hp => q _ _ (s4.trans (same_upd hp)) (.tup (cut_new (w.up s4) hp) (TpAll.up (cutS (same_upd hp)) _ _ (cut_rep k2 l h)))⟩
      have ez : cutD xs l h = xs := by
        rw [k2.length] at z
        unfold cutD
        rw [z.1, z.2, List.drop_zero, Nat.sub_zero, List.take_length]
      rw [ez]
      exact .tup k1 k2
  · cases e
/-! ### isinstance -/
def isInt : PyData → Bool
  | .int _ => true
  | .bool _ => true
  | _ => false
def isBool : PyData → Bool
  | .bool _ => true
  | _ => false
def isSeq : PyData → Bool
  | .list _ => true
  | .tuple _ => true
  | _ => false
def isTup : PyData → Bool
  | .tuple _ => true
  | _ => false
def tyN : PyData → String
  | .none => "NoneType"
  | .bool _ => "bool"
  | .int _ => "int"
  | .str _ => "str"
  | .list _ => "list"
  | .tuple _ => "tuple"
  | .dict _ => "dict"
theorem tyX_of {K : PySem.W.Frag} {O : List Addr} {H : Hp} {v : V} {d : PyData} (h : Tp (cut O H) v d) : TyX K H v (.type (tyN d)) := by
  cases h with
  | non => exact .base .non
  | bl b => exact .base (.bl b)
  | int i => exact .base (.int i)
  | str x => exact .base (.str x)
  | lst h1 _ => exact .base (.lst (cut_sub _ _ h1))
  | tup h1 _ => exact .base (.tup (cut_sub _ _ h1))
def eIs (g : PyData → Bool) (f : Ev) : Ev := eU (fun d => some (.bool (g d))) f
theorem kit_int (d : PyData) (h : ∀ kvs, d ≠ .dict kvs) : kitB (tyN d) "int" = some (isInt d) := by
  cases d with
  | dict kvs => exact absurd rfl (h kvs)
  | none => show kitB "NoneType" "int" = some false; decide +kernel
  | bool b => show kitB "bool" "int" = some true; decide +kernel
  | int b => show kitB "int" "int" = some true; decide +kernel
  | str b => show kitB "str" "int" = some false; decide +kernel
  | list b => show kitB "list" "int" = some false; decide +kernel
  | tuple b => show kitB "tuple" "int" = some false; decide +kernel
theorem kit_bool (d : PyData) (h : ∀ kvs, d ≠ .dict kvs) : kitB (tyN d) "bool" = some (isBool d) := by
  cases d with
  | dict kvs => exact absurd rfl (h kvs)
  | none => show kitB "NoneType" "bool" = some false; decide +kernel
  | bool b => show kitB "bool" "bool" = some true; decide +kernel
  | int b => show kitB "int" "bool" = some false; decide +kernel
  | str b => show kitB "str" "bool" = some false; decide +kernel
  | list b => show kitB "list" "bool" = some false; decide +kernel
  | tuple b => show kitB "tuple" "bool" = some false; decide +kernel
theorem kit_tuple (d : PyData) (h : ∀ kvs, d ≠ .dict kvs) : kitB (tyN d) "tuple" = some (isTup d) := by
  cases d with
  | dict kvs => exact absurd rfl (h kvs)
  | none => show kitB "NoneType" "tuple" = some false; decide +kernel
  | bool b => show kitB "bool" "tuple" = some false; decide +kernel
  | int b => show kitB "int" "tuple" = some false; decide +kernel
  | str b => show kitB "str" "tuple" = some false; decide +kernel
  | list b => show kitB "list" "tuple" = some false; decide +kernel
  | tuple b => show kitB "tuple" "tuple" = some true; decide +kernel
theorem kit_list (d : PyData) (h : ∀ kvs, d ≠ .dict kvs) : kitB (tyN d) "list" = some (isSeq d && !isTup d) := by
  cases d with
  | dict kvs => exact absurd rfl (h kvs)
  | none => show kitB "NoneType" "list" = some false; decide +kernel
  | bool b => show kitB "bool" "list" = some false; decide +kernel
  | int b => show kitB "int" "list" = some false; decide +kernel
  | str b => show kitB "str" "list" = some false; decide +kernel
  | list b => show kitB "list" "list" = some true; decide +kernel
  | tuple b => show kitB "tuple" "list" = some false; decide +kernel
theorem no_dict {H : Hp} {v : V} {d : PyData} (h : Tp H v d) (kvs) : d ≠ .dict kvs := fun z => by
  subst z
  cases h
variable {p p1 p2 : Pos}
theorem isTy_core {T : String} {g : PyData → Bool} (hk : ∀ d, (∀ kvs, d ≠ .dict kvs) → kitB (tyN d) T = some (g d)) (hg : Gl X "isinstance") (hm : X.mg "isinstance" = none) (ha : PE X e (tOf f)) (hT : PE X b (tC (.ty T)))
    (he : starEach [e, b] X.env = (false, eval e X.env) :: starEach [b] X.env) (he2 : starEach [b] X.env = (false, eval b X.env) :: starEach [] X.env) (hpl : (backTo pos (starEach [b] X.env)).any (·.1) = false) :
    PE X (.Call (.Name "isinstance" p) [e, b] [] pos) (tOf (eIs g f)) := pe_imp (pe_callB call_isi hg hm (by decide +kernel) (pa_cons ha (pa_cons hT pa_nil he2) he) (he := he) (hpl := hpl)) fun σ H Q h => by
  obtain ⟨O, Γ, d, w, hs, e, q⟩ := h
  obtain ⟨x, y, h1, h2, rfl⟩ := eU_some e
  obtain rfl := Option.some.inj h2
  exact ⟨O, Γ, _, w, hs, h1, fun v H1 s1 r1 => ⟨v, _, _, _, _, rfl, .ty T, tyX_of r1, kit_ty (hk x (no_dict r1)), q _ H1 s1 (.bl _)⟩⟩
theorem ev_isInt (hg : Gl X "isinstance") (hm : X.mg "isinstance" = none) (hgT : Gl X "int") (hmT : X.mg "int" = none) (ha : PE X e (tOf f)) (he : starEach [e, .Name "int" p1] X.env = (false, eval e X.env) :: starEach [.Name "int" p1] X.env := by rfl) :
    PE X (.Call (.Name "isinstance" p) [e, .Name "int" p1] [] pos) (tOf (eIs isInt f)) := isTy_core kit_int hg hm ha (pe_bltn (v := .ty "int") hgT hmT (by decide +kernel) rfl) he rfl rfl
theorem ev_isBool (hg : Gl X "isinstance") (hm : X.mg "isinstance" = none) (hgT : Gl X "bool") (hmT : X.mg "bool" = none) (ha : PE X e (tOf f)) (he : starEach [e, .Name "bool" p1] X.env = (false, eval e X.env) :: starEach [.Name "bool" p1] X.env := by rfl) :
    PE X (.Call (.Name "isinstance" p) [e, .Name "bool" p1] [] pos) (tOf (eIs isBool f)) := isTy_core kit_bool hg hm ha (pe_bltn (v := .ty "bool") hgT hmT (by decide +kernel) rfl) he rfl rfl
theorem ev_isTup (hg : Gl X "isinstance") (hm : X.mg "isinstance" = none) (hgT : Gl X "tuple") (hmT : X.mg "tuple" = none) (ha : PE X e (tOf f)) (he : starEach [e, .Name "tuple" p1] X.env = (false, eval e X.env) :: starEach [.Name "tuple" p1] X.env := by rfl) :
    PE X (.Call (.Name "isinstance" p) [e, .Name "tuple" p1] [] pos) (tOf (eIs isTup f)) := isTy_core kit_tuple hg hm ha (pe_bltn (v := .ty "tuple") hgT hmT (by decide +kernel) rfl) he rfl rfl
theorem ev_isSeq {k : Nat} {p3 : Pos} (hg : Gl X "isinstance") (hm : X.mg "isinstance" = none) (hgL : Gl X "list") (hmL : X.mg "list" = none) (hgT : Gl X "tuple") (hmT : X.mg "tuple" = none) (ha : PE X e (tOf f))
    (he : starEach [e, .Tuple [.Name "list" p1, .Name "tuple" p2] k p3] X.env = (false, eval e X.env) :: starEach [.Tuple [.Name "list" p1, .Name "tuple" p2] k p3] X.env := by rfl) :
    PE X (.Call (.Name "isinstance" p) [e, .Tuple [.Name "list" p1, .Name "tuple" p2] k p3] [] pos) (tOf (eIs isSeq f)) :=
  pe_imp (pe_callB call_isiT hg hm (by decide +kernel) (pa_cons ha (pa_cons (pe_tup (pa_cons (pe_bltn (v := .ty "list") hgL hmL (by decide +kernel) rfl) (pa_cons (pe_bltn (v := .ty "tuple") hgT hmT (by decide +kernel) rfl) pa_nil))) pa_nil) he) (he := he)) fun σ H Q h => by
  obtain ⟨O, Γ, d, w, hs, e, q⟩ := h
  obtain ⟨x, y, h1, h2, rfl⟩ := eU_some e
  obtain rfl := Option.some.inj h2
  refine ⟨O, Γ, _, w, hs, h1, fun v H1 s1 r1 => ⟨by show 2 ≤ sizeLine; decide, fun t ht => ⟨v, t, [.ty "list", .ty "tuple"], .type (tyN x), [.type "list", .type "tuple"], isSeq x, rfl, upd_same, .cons (.ty _) (.cons (.ty _) .nil), tyX_of (Tp.up (cutS (same_upd ht)) _ _ r1), ?_, q _ _ (s1.trans (same_upd ht)) (.bl _)⟩⟩⟩
  have n := no_dict r1
  refine kitAny_cons (kit_ty (kit_list x n)) (fun z => kitAny_cons (kit_ty (kit_tuple x n)) (fun z2 => ?_) fun z2 => ?_) fun z => ?_
  · rw [kitAny_nil]
    cases x <;> first | rfl | (cases z; done) | (cases z2; done)
  · cases x <;> first | rfl | (cases z2; done)
  · cases x <;> first | rfl | (cases z; done)
/-- isinstance at a class of the program: what must be known -/
structure InsK (K : PySem.W.Frag) (C : Addr) : Prop where
  cl : Cls K C
  ca : PySem.W.findIn K (.ref C) "__class__"
    = some (some (.builtin "object.__class__"))
  cg : PySem.W.specialIn K (.builtin "object.__class__") "__get__" = some (some (.builtin "getset_descriptor.__get__"))
  ct : PySem.W.takesIn K (.builtin "object.__class__")
    = some true
  ob : PySem.W.mroIn K C (.type "object") = some true
def eIsC (tab : Addr → Option Bool) (f : Ev) : Ev := fun Γ => match f Γ with
  | some (.o a) => (match Γ.ob a with
    | some (C, _) => (tab C).map fun b => .p (.bool b)
    | none => none)
  | _ => none
theorem ev_isC {C1 : Addr} {nm : Str} {tab : Addr → Option Bool} (ht : ∀ C b, tab C = some b → InsK X.K C ∧ PySem.W.kitOne X.K (.ref C) (.ref C1) = some b) (hg : Gl X "isinstance") (hm : X.mg "isinstance" = none) (hgC : Gl X nm) (hmC : X.mg nm = some (.ref C1)) (ha : PE X e (tOf f))
    (hd : (nm == ("__debug__" : Str)) = false := by decide) (he : starEach [e, .Name nm p1] X.env = (false, eval e X.env) :: starEach [.Name nm p1] X.env := by rfl) :
    PE X (.Call (.Name "isinstance" p) [e, .Name nm p1] [] pos) (tOf (eIsC tab f)) := pe_imp (pe_callB call_isi hg hm (by decide +kernel) (pa_cons ha (pa_cons (pe_glob (v := .ref C1) hgC hmC rfl hd) pa_nil) he) (he := he)) fun σ H Q h => by
  obtain ⟨O, Γ, d, w, hs, e, q⟩ := h
  unfold eIsC at e
  split at e
  · rename_i a h1
    split at e
    · rename_i C fs h2
      obtain ⟨b, h3, rfl⟩ := Option.map_eq_some_iff.mp e
      obtain ⟨k1, k2⟩ := ht C b h3
      refine ⟨O, Γ, _, w, hs, h1, fun v H1 s1 r1 => ?_⟩
      obtain ⟨dx, vs, h5, _⟩ := (hs.ob.up (cutS s1)) a C fs h2
      obtain rfl : v = .ref a := r1
      exact ⟨_, _, _, _, b, rfl, .own C1, .base (.ins (cut_sub _ _ h5) k1.cl k1.ca k1.cg k1.ct k1.ob), k2, q _ H1 s1 (.bl _)⟩
    · cases e
  · cases e
/-! ### calls of defs -/
abbrev Gf := Ob → List D → Option D
def spE (g : Gf) : Sp := fun vs H Q _ => ∃ O ob ds d, Own O H ∧ ObOk (cut O H) ob ∧ Paired (Rep (cut O H)) vs ds ∧ g ob ds = some d ∧ ∀ v H', Same H H' → Rep (cut O H') v d → Q v H'
/-- a def that may be called by its name -/
structure CalE (P : Program) (w : World) (K : PySem.W.Frag) (mg : Str → Option Value) (base : Heap) (k : Nat) (x : Str) (sp : Sp) : Prop where
  ex : ∃ (f : Addr) (fd : FuncData) (ps : List Str), FnOk P w K mg base CX0 k f fd ps sp ∧ mg x = some (.ref f) ∧ PySem.W.keepIn K (.ref f) = true ∧ L2.Binds K fd ps [] ∧ ∃ st, FunD K x x (defArgs st) (defBody st) (defScope st) [] [] f fd ∧ ((defArgs st).posonlyargs ++ (defArgs st).args).map (·.arg) = ps
def eCall (g : Gf) (fs : Evs) : Ev := fun Γ => (fs Γ).bind (g Γ.ob)
theorem pe_cal {sp : Sp} {x : Str} {k j : Nat} {t : TA} (c : CalE X.prog X.w X.K X.mg X.base k x sp) (hr : Room j X.A) (hk : k ≤ j) (hg : Gl X x) (ha : PA X (e :: es) t) (hdb : (x == ("__debug__" : Str)) = false := by decide)
    (he : starEach (e :: es) X.env = (false, eval e X.env) :: starEach es X.env := by rfl) (hpl : (backTo pos (starEach es X.env)).any (·.1) = false := by rfl) : PE X (.Call (.Name x p) (e :: es) [] pos) (fun σ H Q => t σ H fun vs H1 => sp vs H1 Q E0) := by
  obtain ⟨f, fd, ps, G, m, kp, bn, _⟩ := c.ex
  exact pe_imp (pe_call G (hr.mono hk) hg m kp bn .nil pass0 ha hdb he hpl) fun σ H Q h => by
    show t σ H fun vs H1 => sp (vs ++ []) H1 Q E0
    simpa only [List.append_nil] using h
theorem ev_call {g : Gf} {x : Str} {k j : Nat} (c : CalE X.prog X.w X.K X.mg X.base k x (spE g)) (hr : Room j X.A) (hk : k ≤ j) (hg : Gl X x) (ha : PA X (e :: es) (taOf fs)) (hdb : (x == ("__debug__" : Str)) = false := by decide)
    (he : starEach (e :: es) X.env = (false, eval e X.env) :: starEach es X.env := by rfl) (hpl : (backTo pos (starEach es X.env)).any (·.1) = false := by rfl) : PE X (.Call (.Name x p) (e :: es) [] pos) (tOf (eCall g fs)) :=
  pe_imp (pe_cal c hr hk hg ha hdb he hpl) fun σ H Q h => by
    obtain ⟨O, Γ, d, w, hs, e, q⟩ := h
    obtain ⟨ds, h1, h2⟩ := Option.bind_eq_some_iff.mp e
    exact ⟨O, Γ, ds, w, hs, h1, fun vs H1 s1 r1 => ⟨O, Γ.ob, ds, d, w.up s1, hs.ob.up (cutS s1), r1, h2, fun v H2 s2 r2 => q v H2 (s1.trans s2) r2⟩⟩
end
end RB
set_option Elab.async false
set_option linter.all false
set_option maxRecDepth 100000
set_option maxHeartbeats 2000000
/-! What is walked, targets, list comprehensions. -/
namespace RB
open PySem PySem.Spec PyProof.Rows L2
/-! ### what is walked -/
/-- the walk J gives these data in turn, from whatever heap that still has B -/
def ItOk (J : It) (B : Hp) (xs : List PyData) : Prop := ∀ (O : List Addr) (i : Nat) (H : Hp), Own O H → Same B (cut O H) → (xs.length ≤ i → J.stop i H) ∧ ∀ x, xs[i]? = some x → J.go i H ∧ ∀ v H', J.yld i H v H' → Same H H' ∧ Tp (cut O H') v x
abbrev Ew := Gm → Option (List PyData)
def iOf (f : Ew) : TI := fun σ H R => ∃ O Γ xs, Own O H ∧ Hs (cut O H) σ Γ ∧ f Γ = some xs ∧ ∀ J H', Same H H' → ItOk J (cut O H') xs → R J H'
theorem it_list {K : PySem.W.Frag} {B : Hp} {a : Addr} {vs : List V} {xs : List PyData} (h : B a = some (.lst vs)) (t : TpAll B vs xs) : ItOk (Itl K a) B xs := fun O i H w s => by
  have h1 : SqL K H a vs := SqL.of (cut_sub _ _ (s _ _ h))
  refine ⟨fun z => ⟨vs, h1, by rw [t.length]; exact z⟩, fun x hx => ?_⟩
  obtain ⟨v, h2, h3⟩ := t.get hx
  refine ⟨⟨vs, v, h1, h2⟩, fun u H' z => ?_⟩
  obtain ⟨rfl, z⟩ := z
  have h4 := z vs h1
  rw [h2] at h4
  obtain rfl := Option.some.inj h4
  exact ⟨Same.refl _, Tp.up s _ _ h3⟩
theorem it_tup {K : PySem.W.Frag} {B : Hp} {a : Addr} {vs : List V} {xs : List PyData} (h : B a = some (.tup vs)) (t : TpAll B vs xs) : ItOk (Itt K a) B xs := fun O i H w s => by
  have h1 : SqT K H a vs := SqT.of (cut_sub _ _ (s _ _ h))
  refine ⟨fun z => ⟨vs, h1, by rw [t.length]; exact z⟩, fun x hx => ?_⟩
  obtain ⟨v, h2, h3⟩ := t.get hx
  refine ⟨⟨vs, v, h1, h2⟩, fun u H' z => ?_⟩
  obtain ⟨rfl, z⟩ := z
  have h4 := z vs h1
  rw [h2] at h4
  obtain rfl := Option.some.inj h4
  exact ⟨Same.refl _, Tp.up s _ _ h3⟩
def eSeq (f : Ev) : Ew := fun Γ => match f Γ with
  | some (.p (.list xs)) => some xs
  | some (.p (.tuple xs)) => some xs
  | _ => none
theorem pi_or {X : Cx} {tg e : Expr} {t u : TI} (h1 : PI X tg e t) (h2 : PI X tg e u) : PI X tg e (fun σ H R => t σ H R ∨ u σ H R) := ⟨fun pins s σ H R I h => h.elim (h1.run pins s σ H R I) (h2.run pins s σ H R I)⟩
/-- the whole numbers lo, lo + 1, .. n of them -/
def numsD (lo : Int) (n : Nat) : List PyData := (List.range n).map fun k => .int (lo + (k : Nat))
def eRng : List D → Option (List PyData)
  | [.p (.int j)] => if -(2 ^ 62) ≤ j ∧ j < 2 ^ 62 then some (numsD 0 j.toNat) else none
  | [.p (.int i), .p (.int j)] => if -(2 ^ 62) ≤ i ∧ i < 2 ^ 62 ∧ -(2 ^ 62) ≤ j ∧ j < 2 ^ 62 then some (numsD i (j - i).toNat) else none
  | _ => none
def eRange (fs : Evs) : Ew := fun Γ => match fs Γ with
  | some [d] => eRng [d]
  | _ => none
def eRange2 (fs : Evs) : Ew := fun Γ => match fs Γ with
  | some [d, d'] => eRng [d, d']
  | _ => none
theorem it_nums {B : Hp} (lo : Int) (n : Nat) : ItOk (Itr lo n) B (numsD lo n) := fun O i H w s => by
  have hl : (numsD lo n).length = n := by unfold numsD; rw [List.length_map, List.length_range]
  refine ⟨fun z => by rw [hl] at z; exact z, fun x hx => ?_⟩
  have hi : i < n := by
    have := (List.getElem?_eq_some_iff.mp hx).1
    rwa [hl] at this
  refine ⟨hi, fun v H' z => ?_⟩
  obtain ⟨rfl, rfl⟩ := z
  refine ⟨Same.refl _, ?_⟩
  unfold numsD at hx
  rw [List.getElem?_map, List.getElem?_range hi] at hx
  obtain rfl := Option.some.inj hx
  exact .int _
def enumD : Nat → List PyData → List PyData
  | _, [] => []
  | n, x :: r => .tuple [.int (n : Nat), x] :: enumD (n + 1) r
theorem enumD_length : ∀ (n : Nat) (xs : List PyData), (enumD n xs).length = xs.length
  | _, [] => rfl
  | n, _ :: r => congrArg Nat.succ (enumD_length (n + 1) r)
theorem enumD_get : ∀ {n i : Nat} {xs : List PyData} {y : PyData}, (enumD n xs)[i]? = some y → ∃ x, xs[i]? = some x ∧ y = .tuple [.int ((n + i : Nat) : Int), x]
  | n, i, [], y, h => by cases h
  | n, 0, x :: r, y, h => ⟨x, rfl, (Option.some.inj h).symm⟩
  | n, i + 1, x :: r, y, h => by
    obtain ⟨z, h1, h2⟩ := enumD_get (n := n + 1) (i := i) (xs := r) h
    exact ⟨z, h1, by rw [h2]; congr 4; omega⟩
theorem it_enum {K : PySem.W.Frag} {B : Hp} {a : Addr} {vs : List V} {xs : List PyData} (h : B a = some (.lst vs)) (t : TpAll B vs xs) : ItOk (Ite K a) B (enumD 0 xs) := fun O i H w s => by
  have h1 : SqL K H a vs := SqL.of (cut_sub _ _ (s _ _ h))
  refine ⟨fun z => ⟨vs, h1, by rw [enumD_length] at z; rw [t.length]; exact z⟩, fun y hy => ?_⟩
  obtain ⟨x, hx, rfl⟩ := enumD_get hy
  obtain ⟨v, h2, h3⟩ := t.get hx
  refine ⟨⟨vs, v, h1, h2⟩, fun u H' z => ?_⟩
  obtain ⟨T, x', rfl, hT, rfl, z⟩ := z
  have h4 := z vs h1
  rw [h2] at h4
  obtain rfl := Option.some.inj h4
  refine ⟨same_upd hT, .tup (cut_new w hT) (.cons ?_ (.cons (Tp.up (cutS (same_upd hT)) _ _ (Tp.up s _ _ h3)) .nil))⟩
  rw [Nat.zero_add]
  exact .int _
def eEnum (fs : Evs) : Ew := fun Γ => match fs Γ with
  | some [.p (.list xs)] => some (enumD 0 xs)
  | _ => none
def zipD (xs ys : List PyData) : List PyData := List.zipWith (fun a b => .tuple [a, b]) xs ys
theorem zipD_get : ∀ {i : Nat} {xs ys : List PyData} {y : PyData}, (zipD xs ys)[i]? = some y → ∃ a b, xs[i]? = some a ∧ ys[i]? = some b ∧ y = .tuple [a, b]
  | i, [], ys, y, h => by cases h
  | i, x :: xs, [], y, h => by cases h
  | 0, x :: xs, b :: ys, y, h => ⟨x, b, rfl, rfl, (Option.some.inj h).symm⟩
  | i + 1, x :: xs, b :: ys, y, h => zipD_get (i := i) (xs := xs) (ys := ys) h
theorem it_zipL {K : PySem.W.Frag} {B : Hp} {a b : Addr} {vs ws : List V} {xs ys : List PyData} (ha : B a = some (.lst vs)) (hb : B b = some (.lst ws)) (t : TpAll B vs xs) (u : TpAll B ws ys) : ItOk (Itz K a b) B (zipD xs ys) := fun O i H w s => by
  have h1 : SqL K H a vs := SqL.of (cut_sub _ _ (s _ _ ha))
  have h2 : SqL K H b ws := SqL.of (cut_sub _ _ (s _ _ hb))
  refine ⟨fun z => ⟨vs, ws, h1, h2, ?_⟩, fun y hy => ?_⟩
  · unfold zipD at z
    rw [List.length_zipWith] at z
    rw [t.length, u.length]
    omega
  obtain ⟨x, y', hx, hy2, rfl⟩ := zipD_get hy
  obtain ⟨v, h3, h4⟩ := t.get hx
  obtain ⟨v', h5, h6⟩ := u.get hy2
  refine ⟨⟨vs, ws, v, v', h1, h2, h3, h5⟩, fun q H' z => ?_⟩
  obtain ⟨T, x', y2, rfl, hT, rfl, z1, z2⟩ := z
  have h7 := z1 vs h1
  have h8 := z2 ws h2
  rw [h3] at h7
  rw [h5] at h8
  obtain rfl := Option.some.inj h7
  obtain rfl := Option.some.inj h8
  exact ⟨same_upd hT, .tup (cut_new w hT) (.cons (Tp.up (cutS (same_upd hT)) _ _ (Tp.up s _ _ h4)) (.cons (Tp.up (cutS (same_upd hT)) _ _ (Tp.up s _ _ h6)) .nil))⟩
theorem it_zipT {K : PySem.W.Frag} {B : Hp} {a b : Addr} {vs ws : List V} {xs ys : List PyData} (ha : B a = some (.tup vs)) (hb : B b = some (.tup ws)) (t : TpAll B vs xs) (u : TpAll B ws ys) : ItOk (RZ.ItzT K a b) B (zipD xs ys) := fun O i H w s => by
  have h1 : SqT K H a vs := SqT.of (cut_sub _ _ (s _ _ ha))
  have h2 : SqT K H b ws := SqT.of (cut_sub _ _ (s _ _ hb))
  refine ⟨fun z => ⟨vs, ws, h1, h2, ?_⟩, fun y hy => ?_⟩
  · unfold zipD at z
    rw [List.length_zipWith] at z
    rw [t.length, u.length]
    omega
  obtain ⟨x, y', hx, hy2, rfl⟩ := zipD_get hy
  obtain ⟨v, h3, h4⟩ := t.get hx
  obtain ⟨v', h5, h6⟩ := u.get hy2
  refine ⟨⟨vs, ws, v, v', h1, h2, h3, h5⟩, fun q H' z => ?_⟩
  obtain ⟨T, x', y2, rfl, hT, rfl, z1, z2⟩ := z
  have h7 := z1 vs h1
  have h8 := z2 ws h2
  rw [h3] at h7
  rw [h5] at h8
  obtain rfl := Option.some.inj h7
  obtain rfl := Option.some.inj h8
  exact ⟨same_upd hT, .tup (cut_new w hT) (.cons (Tp.up (cutS (same_upd hT)) _ _ (Tp.up s _ _ h4)) (.cons (Tp.up (cutS (same_upd hT)) _ _ (Tp.up s _ _ h6)) .nil))⟩
def eZip (fs : Evs) : Ew := fun Γ => match fs Γ with
  | some [.p (.list xs), .p (.list ys)] => some (zipD xs ys)
  | some [.p (.tuple xs), .p (.tuple ys)] => some (zipD xs ys)
  | _ => none
theorem rep2 {H : Hp} {vs : List V} {d e : D} (h : Paired (Rep H) vs [d, e]) : ∃ v u, vs = [v, u] ∧ Rep H v d ∧ Rep H u e := by
  cases h with
  | cons a t => cases t with
    | cons b t => cases t; exact ⟨_, _, rfl, a, b⟩
theorem rep1 {H : Hp} {vs : List V} {d : D} (h : Paired (Rep H) vs [d]) : ∃ v, vs = [v] ∧ Rep H v d := by
  cases h with
  | cons a t => cases t; exact ⟨_, rfl, a⟩
section
variable {X : Cx} {tg e b : Expr} {f : Ev} {fs : Evs} {p pos tpos : Pos} {elts : List Expr} {kk : Nat}
theorem ei_seq (h : PE X e (tOf f)) : PI X tg e (iOf (eSeq f)) := pi_imp (pi_or (pi_list h) (pi_tup h)) fun σ H R h => by
  obtain ⟨O, Γ, xs, w, hs, e, q⟩ := h
  unfold eSeq at e
  split at e
  · rename_i ys h1
    obtain rfl := Option.some.inj e
    exact .inl ⟨O, Γ, _, w, hs, h1, fun v H1 s1 r1 => by
      cases r1 with
      | lst h2 h3 => exact ⟨_, rfl, ⟨_, SqL.of (cut_sub _ _ h2)⟩, q _ H1 s1 (it_list h2 h3)⟩⟩
  · rename_i ys h1
    obtain rfl := Option.some.inj e
    exact .inr ⟨O, Γ, _, w, hs, h1, fun v H1 s1 r1 => by
      cases r1 with
      | tup h2 h3 => exact ⟨_, rfl, ⟨_, SqT.of (cut_sub _ _ h2)⟩, q _ H1 s1 (it_tup h2 h3)⟩⟩
  · cases e
theorem ei_range1 (hg : Gl X "range") (hm : X.mg "range" = none) (ha : PA X [e] (taOf fs)) (hs : starEach [e] X.env = [(false, eval e X.env)] := by rfl) : PI X tg (.Call (.Name "range" p) [e] [] pos) (iOf (eRange fs)) := pi_imp (pi_range1 hg hm ha hs) fun σ H R h => by
  obtain ⟨O, Γ, xs, w, hs, e, q⟩ := h
  unfold eRange at e
  split at e
  · rename_i d h1
    unfold eRng at e
    split at e
    · rename_i j z
      cases z
      split at e
      · rename_i z
        obtain rfl := Option.some.inj e
        refine ⟨O, Γ, _, w, hs, h1, fun vs H1 s1 r1 => ?_⟩
        obtain ⟨v, rfl, r⟩ := rep1 r1
        cases r
        exact ⟨j, rfl, z.1, z.2, q _ H1 s1 (it_nums 0 _)⟩
      · cases e
    · rename_i z; cases z
    · cases e
  · cases e
theorem ei_range2 (hg : Gl X "range") (hm : X.mg "range" = none) (ha : PA X [e, b] (taOf fs)) (hs : starEach [e, b] X.env = [(false, eval e X.env), (false, eval b X.env)] := by rfl) (hs2 : starEach [b] X.env = [(false, eval b X.env)] := by rfl) :
    PI X tg (.Call (.Name "range" p) [e, b] [] pos) (iOf (eRange2 fs)) := pi_imp (pi_range2 hg hm ha hs hs2) fun σ H R h => by
  obtain ⟨O, Γ, xs, w, hs, e, q⟩ := h
  unfold eRange2 at e
  split at e
  · rename_i d d' h1
    unfold eRng at e
    split at e
    · rename_i z; cases z
    · rename_i i j z
      cases z
      split at e
      · rename_i z
        obtain rfl := Option.some.inj e
        refine ⟨O, Γ, _, w, hs, h1, fun vs H1 s1 r1 => ?_⟩
        obtain ⟨v, u, rfl, r, r'⟩ := rep2 r1
        cases r
        cases r'
        exact ⟨i, j, rfl, z, q _ H1 s1 (it_nums i _)⟩
      · cases e
    · cases e
  · cases e
theorem ei_enum (hg : Gl X "enumerate") (hm : X.mg "enumerate" = none) (ha : PA X [e] (taOf fs)) (hs : starEach [e] X.env = [(false, eval e X.env)] := by rfl) : PI X (.Tuple elts kk tpos) (.Call (.Name "enumerate" p) [e] [] pos) (iOf (eEnum fs)) := pi_imp (pi_enum hg hm ha hs) fun σ H R h => by
  obtain ⟨O, Γ, xs, w, hs, e, q⟩ := h
  unfold eEnum at e
  split at e
  · rename_i ys h1
    obtain rfl := Option.some.inj e
    refine ⟨O, Γ, _, w, hs, h1, fun vs H1 s1 r1 => ?_⟩
    obtain ⟨v, rfl, r⟩ := rep1 r1
    cases r with
    | lst h2 h3 => exact ⟨_, _, rfl, SqL.of (cut_sub _ _ h2), q _ H1 s1 (it_enum h2 h3)⟩
  · cases e
theorem ei_zip (hg : Gl X "zip") (hm : X.mg "zip" = none) (ha : PA X [e, b] (taOf fs)) (hs : starEach [e, b] X.env = (false, eval e X.env) :: starEach [b] X.env := by rfl) (hpl : (backTo pos (starEach [b] X.env)).any (·.1) = false := by rfl) :
    PI X (.Tuple elts kk tpos) (.Call (.Name "zip" p) [e, b] [] pos) (iOf (eZip fs)) := pi_imp (RZ.pi_zipA hg hm ha hs hpl) fun σ H R h => by
  obtain ⟨O, Γ, xs, w, hs, e, q⟩ := h
  unfold eZip at e
  split at e
  · rename_i ys zs h1
    obtain rfl := Option.some.inj e
    refine ⟨O, Γ, _, w, hs, h1, fun vs H1 s1 r1 => ?_⟩
    obtain ⟨v, u, rfl, r, r'⟩ := rep2 r1
    cases r with
    | lst h2 h3 => cases r' with
      | lst h4 h5 => exact ⟨_, _, _, _, rfl, .inl ⟨SqL.of (cut_sub _ _ h2), SqL.of (cut_sub _ _ h4), q _ H1 s1 (it_zipL h2 h4 h3 h5)⟩⟩
  · rename_i ys zs h1
    obtain rfl := Option.some.inj e
    refine ⟨O, Γ, _, w, hs, h1, fun vs H1 s1 r1 => ?_⟩
    obtain ⟨v, u, rfl, r, r'⟩ := rep2 r1
    cases r with
    | tup h2 h3 => cases r' with
      | tup h4 h5 => exact ⟨_, _, _, _, rfl, .inr ⟨SqT.of (cut_sub _ _ h2), SqT.of (cut_sub _ _ h4), q _ H1 s1 (it_zipT h2 h4 h3 h5)⟩⟩
  · cases e
end
/-! ### targets -/
abbrev Ut := PyData → List (Option D) → Option (List (Option D))
def wipeD (sl : List (Option D)) : List Nat → List (Option D)
  | [] => sl
  | v :: vs => (wipeD sl vs).set v none
theorem Hs.wipe {H : Hp} {σ : L2.St} {sl : List (Option D)} {ob : Ob} (h : Hs H σ ⟨sl, ob⟩) : ∀ vs : List Nat, Hs H (L2.wipe σ vs) ⟨wipeD sl vs, ob⟩
  | [] => h
  | v :: vs => (Hs.wipe h vs).unset v
theorem wipe_at (σ : L2.St) (j : Nat) : ∀ vs : List Nat, (L2.wipe σ vs)[j]? = if j ∈ vs then (σ[j]?).map fun _ => none else σ[j]?
  | [] => by simp [L2.wipe]
  | v :: vs => by
    show ((L2.wipe σ vs).set v none)[j]? = _
    by_cases hj : v = j
    · subst hj
      rw [if_pos List.mem_cons_self, List.getElem?_set]
      simp only [if_true]
      have hl : (L2.wipe σ vs).length = σ.length := wipe_length σ vs
      by_cases hv : v < σ.length
      · rw [if_pos (by rw [hl]; exact hv), List.getElem?_eq_getElem hv]; rfl
      · rw [if_neg (by rw [hl]; exact hv), List.getElem?_eq_none (by omega)]; rfl
    · rw [List.getElem?_set_ne hj, wipe_at σ j vs]
      by_cases h : j ∈ vs
      · rw [if_pos h, if_pos (List.mem_cons_of_mem _ h)]
      · rw [if_neg h, if_neg (by simp only [List.mem_cons, not_or]; exact ⟨Ne.symm hj, h⟩)]
theorem wipe_idem (σ : L2.St) (vs : List Nat) : L2.wipe (L2.wipe σ vs) vs = L2.wipe σ vs := List.ext_getElem? fun j => by
  rw [wipe_at, wipe_at]
  split
  · cases σ[j]? <;> rfl
  · rfl
theorem wipe_set (σ : L2.St) (i : Nat) (w : Option V) (vs : List Nat) (h : i ∈ vs) : L2.wipe (σ.set i w) vs = L2.wipe σ vs := List.ext_getElem? fun j => by
  rw [wipe_at, wipe_at]
  by_cases hj : i = j
  · subst hj
    rw [if_pos h, if_pos h, List.getElem?_set]
    by_cases hi : i < σ.length
    · simp [hi]
    · simp [hi]
  · rw [List.getElem?_set_ne hj]
def GS (g : TG) (u : Ut) (vs : List Nat) : Prop := ∀ {O : List Addr} {H : Hp} {σ : L2.St} {sl : List (Option D)} {ob : Ob} {v : V} {x : PyData} {sl' : List (Option D)} {Q : L2.St → Hp → Prop}, Own O H → Hs (cut O H) σ ⟨sl, ob⟩ → Tp (cut O H) v x → u x sl = some sl' →
  (∀ σ', Hs (cut O H) σ' ⟨sl', ob⟩ → L2.wipe σ' vs = L2.wipe σ vs → Q σ' H) → g v σ H Q
def u1 (i : Nat) : Ut := fun x sl => some (sl.set i (some (.p x)))
def u2 (i j : Nat) : Ut := fun x sl => match x with
  | .tuple [a, b] => some ((sl.set i (some (.p a))).set j (some (.p b)))
  | _ => none
theorem gs_name {i : Nat} {vs : List Nat} (h : i ∈ vs) : GS (gName i) (u1 i) vs := fun {O H σ sl ob v x sl' Q} w hs t e q => by
  obtain rfl := Option.some.inj e
  exact q _ (hs.set i (d := .p x) t) (wipe_set σ i _ vs h)
theorem gs_pair {K : PySem.W.Frag} {i j : Nat} {vs : List Nat} (hi : i ∈ vs) (hj : j ∈ vs) : GS (gTup K 2 (gCons (gName i) (gCons (gName j) gNil))) (u2 i j) vs := fun {O H σ sl ob v x sl' Q} w hs t e q => by
  unfold u2 at e
  split at e
  · rename_i a b
    obtain rfl := Option.some.inj e
    cases t with
    | tup h1 h2 =>
      cases h2 with
      | cons h3 h4 => cases h4 with
        | cons h5 h6 =>
          cases h6
          exact ⟨_, _, rfl, SqT.of (cut_sub _ _ h1), rfl, _, _, rfl, _, _, rfl, rfl, q _ ((hs.set i (d := .p a) h3).set j (d := .p b) h5) (by rw [wipe_set _ j _ vs hj, wipe_set _ i _ vs hi])⟩
  · cases e
/-! ### comprehensions -/
def compGo (step : PyData → Option (Option PyData)) : List PyData → Option (List PyData)
  | [] => some []
  | x :: r => match step x, compGo step r with
    | some o, some ys => some (match o with
      | some y => y :: ys
      | none => ys)
    | _, _ => none
def stepOf (u : Ut) (test elt : Ev) (sl : List (Option D)) (ob : Ob) : PyData → Option (Option PyData) := fun x => match u x sl with
  | none => none
  | some sl' => (match test ⟨sl', ob⟩ with
    | some (.p (.bool true)) => (match elt ⟨sl', ob⟩ with
      | some (.p y) => some (some y)
      | _ => none)
    | some (.p (.bool false)) => some none
    | _ => none)
def eComp (src : Ew) (u : Ut) (test elt : Ev) (vs : List Nat) : Ev := fun Γ => match src Γ with
  | none => none
  | some xs => if xs.length ≤ sizeLine then (compGo (stepOf u test elt (wipeD Γ.sl vs) Γ.ob) xs).map fun ys => .p (.list ys) else none
theorem cut_cons {O : List Addr} {H H' : Hp} {p : Addr} (hp : H p = none) (s : Same H H') : Same (cut O H) (cut (p :: O) H') := fun b o h => by
  unfold cut at h ⊢
  split at h
  · cases h
  · rename_i n
    have hb : b ≠ p := ne_of_none h hp
    rw [if_neg (by simp only [List.mem_cons, not_or]; exact ⟨hb, n⟩)]
    exact s _ _ h
theorem cut_drop {O : List Addr} {H : Hp} {p : Addr} : Same (cut (p :: O) H) (cut O H) := fun b o h => by
  unfold cut at h ⊢
  split at h
  · cases h
  · rename_i n
    simp only [List.mem_cons, not_or] at n
    rw [if_neg n.2]; exact h
theorem cut_own {O : List Addr} {H : Hp} {p : Addr} {o : HO} (hp : p ∈ O) : cut O (upd H p o) = cut O H := funext fun b => by
  unfold cut
  split
  · rfl
  · rename_i n
    exact upd_ne fun z => n (by rw [z]; exact hp)
theorem compGo_cons {step : PyData → Option (Option PyData)} {x : PyData} {r ys : List PyData} (h : compGo step (x :: r) = some ys) : ∃ o zs, step x = some o ∧ compGo step r = some zs ∧ ys = (match o with
    | some y => y :: zs
    | none => zs) := by
  unfold compGo at h
  split at h
  · rename_i o zs h1 h2
    exact ⟨o, zs, h1, h2, (Option.some.inj h).symm⟩
  · cases h
/-- one turn's test and item, the list at p being made -/
theorem turn_comp {O : List Addr} {p : Addr} {H : Hp} {σ : L2.St} {sl : List (Option D)} {ob : Ob} {v : V} {x : PyData} {o : Option PyData} {g : TG} {u : Ut} {vs : List Nat} {test elt : Ev} {N : Hp → Prop} {acc : List V} {done : List PyData}
    (gs : GS g u vs) (hO : p ∈ O) (w : Own O H) (hs : Hs (cut O H) σ ⟨sl, ob⟩) (t : Tp (cut O H) v x) (e : stepOf u test elt sl ob x = some o) (hp : H p = some (.lst acc)) (hz : acc.length < sizeLine)
    (q : ∀ H' acc', Same H H' ∨ (∃ H1, Same H H1 ∧ H' = upd H1 p (.lst acc')) → H' p = some (.lst acc') → (TpAll (cut O H) acc done → TpAll (cut O H') acc' (match o with
      | some y => done ++ [y]
      | none => done)) → acc'.length ≤ acc.length + 1 → N H') :
    g v σ H fun σ2 H2 => L2.wipe σ2 vs = L2.wipe σ vs ∧ ttOf test σ2 H2 fun b H3 => if b = true then tOf elt σ2 H3 fun y H4 => ∃ acc, H4 p = some (.lst acc) ∧ acc.length < sizeLine ∧ N (upd H4 p (.lst (acc ++ [y]))) else N H3 := by
  unfold stepOf at e
  split at e
  · cases e
  · rename_i sl' h1
    refine gs w hs t h1 fun σ' hs' hw => ⟨hw, ?_⟩
    split at e
    · rename_i h2
      split at e
      · rename_i y h3
        obtain rfl := Option.some.inj e
        refine ⟨O, ⟨sl', ob⟩, true, w, hs', h2, fun H3 s3 => iteT ⟨O, ⟨sl', ob⟩, _, w.up s3, hs'.up (cutS s3), h3, fun z H4 s4 r4 => ?_⟩⟩
        have s := s3.trans s4
        refine ⟨acc, s _ _ hp, hz, q _ (acc ++ [z]) (.inr ⟨H4, s, rfl⟩) upd_same (fun ta => ?_) (by rw [List.length_append]; exact Nat.le_refl _)⟩
        rw [cut_own hO]
        exact (TpAll.up (cutS s) _ _ ta).append (.cons r4 .nil)
      · cases e
    · rename_i h2
      obtain rfl := Option.some.inj e
      exact ⟨O, ⟨sl', ob⟩, false, w, hs', h2, fun H3 s3 => iteF (q H3 acc (.inl s3) (s3 _ _ hp) (fun ta => TpAll.up (cutS s3) _ _ ta) (Nat.le_succ _))⟩
    · cases e
theorem comp_read {src : Ew} {u : Ut} {test elt : Ev} {vs : List Nat} {g : TG} (gs : GS g u vs) (σ : L2.St) (H : Hp) (Q : VK) (h : tOf (eComp src u test elt vs) σ H Q) : tLc (iOf src) g (ttOf test) (tOf elt) vs σ H Q := by
  obtain ⟨O, Γ, d, w, hs, e, q⟩ := h
  unfold eComp at e
  split at e
  · cases e
  · rename_i xs h1
    split at e
    · rename_i hz
      obtain ⟨ys, h2, rfl⟩ := Option.map_eq_some_iff.mp e
      refine ⟨O, Γ, xs, w, hs, h1, fun J H1 s1 hJ p hp => ?_⟩
      have hs1 := hs.up (cutS s1)
      have w1 := w.up s1
      refine ⟨fun i m H => i ≤ xs.length ∧ m = xs.length - i ∧ Same H1 H ∧ ∃ acc done rest, H p = some (.lst acc) ∧ TpAll (cut (p :: O) H) acc done ∧ done.length ≤ i ∧ compGo (stepOf u test elt (wipeD Γ.sl vs) Γ.ob) (xs.drop i) = some rest ∧ ys = done ++ rest,
        ⟨_, Nat.zero_le _, rfl, same_upd hp, [], [], ys, upd_same, .nil, Nat.le_refl _, h2, rfl⟩, fun i m H2 hW => ?_⟩
      obtain ⟨hi, hm, s2, acc, done, rest, ha, ta, hd, hr, hy⟩ := hW
      have w2 : Own (p :: O) H2 := (w1.up s2).cons (by rw [ha]; exact fun z => nomatch z)
      have sB : Same (cut O H1) (cut (p :: O) H2) := cut_cons hp s2
      obtain ⟨st, go⟩ := hJ (p :: O) i H2 w2 sB
      rcases Nat.lt_or_ge i xs.length with hlt | hge
      · right
        obtain ⟨g1, g2⟩ := go _ (List.getElem?_eq_getElem hlt)
        refine ⟨g1, fun H' => ∃ m', m' < m ∧ (i + 1 ≤ xs.length ∧ m' = xs.length - (i + 1) ∧ Same H1 H' ∧ ∃ acc done rest, H' p = some (.lst acc) ∧ TpAll (cut (p :: O) H') acc done ∧ done.length ≤ i + 1 ∧ compGo (stepOf u test elt (wipeD Γ.sl vs) Γ.ob) (xs.drop (i + 1)) = some rest ∧ ys = done ++ rest), fun H' z => z, fun v H3 hy3 => ?_⟩
        obtain ⟨s3, t3⟩ := g2 v H3 hy3
        rw [List.drop_eq_getElem_cons hlt] at hr
        obtain ⟨o, zs, hstep, hgo, hzs⟩ := compGo_cons hr
        have hs3 := (hs1.up (sB.trans (cutS s3)))
        have hlen : acc.length < sizeLine := by
          rw [ta.length]
          omega
        have tc := turn_comp (p := p) (O := p :: O) (N := fun H' => ∃ m', m' < m ∧ (i + 1 ≤ xs.length ∧ m' = xs.length - (i + 1) ∧ Same H1 H' ∧ ∃ acc done rest, H' p = some (.lst acc) ∧ TpAll (cut (p :: O) H') acc done ∧ done.length ≤ i + 1 ∧ compGo (stepOf u test elt (wipeD Γ.sl vs) Γ.ob) (xs.drop (i + 1)) = some rest ∧ ys = done ++ rest))
          (done := done) gs List.mem_cons_self (w2.up s3) (hs3.wipe vs) t3 hstep (s3 _ _ ha) hlen fun H' acc' hH' hp' ht' hl' => ?_
        · rw [wipe_idem] at tc
          exact tc
        · have sH : Same H1 H' := by
            rcases hH' with z | ⟨H4, z, rfl⟩
            · exact (s2.trans s3).trans z
            · intro b k hb
              rw [upd_ne (ne_of_none hb hp)]
              exact ((s2.trans s3).trans z) _ _ hb
          refine ⟨xs.length - (i + 1), by omega, hlt, rfl, sH, acc', _, zs, hp', ht' (TpAll.up (cutS s3) _ _ ta), ?_, hgo, ?_⟩
          · cases o with
            | some y =>
              show (done ++ [y]).length ≤ _
              rw [List.length_append]
              rw [List.length_singleton]
              omega
            | none => exact Nat.le_succ_of_le hd
          · rw [hy, hzs]
            cases o with
            | some y => show _ = (done ++ [y]) ++ zs; rw [List.append_assoc]; rfl
            | none => rfl
      · left
        have : xs.drop i = [] := List.drop_of_length_le hge
        rw [this] at hr
        obtain rfl := Option.some.inj hr
        rw [List.append_nil] at hy
        subst hy
        refine ⟨st hge, q _ H2 (s1.trans s2) (.lst ?_ (TpAll.up cut_drop _ _ ta))⟩
        rw [cut_out (w1.new hp)]
        exact ha
    · cases e
section
variable {X : Cx}
theorem ets_nil : PTs X [] (ttOf (eC (.bool true))) := ⟨fun pins s σ H Q I h => pts_nil.run pins s σ H Q I (by
  obtain ⟨O, Γ, b, w, hs, e, q⟩ := h
  cases e
  exact q H (Same.refl H))⟩
theorem ets_one {c : Expr} {f : Ev} (h : PT X c (ttOf f)) : PTs X [c] (ttOf f) := pts_one h
theorem ev_lc {elt tg iter : Expr} {ifs : List Expr} {scope : Scope} {own : List (Str × Nat)} {pos : Pos} {src : Ew} {g : TG} {u : Ut} {test fe : Ev} (hc : X.calm = true) (hN : X.N.Nodup) (hi : PI X tg iter (iOf src)) (ok : BlkOk X.N X.env.scope scope own) (gs : GS g u (own.map (·.2)))
    (hg : ∀ (s : Shared) (H : Hp) (C : Addr) (cl : List (Str × Addr)) (fp : List Addr), PG (X.blk s H scope (compEnvC scope cl C X.env) fp) tg g) (ht : ∀ (s : Shared) (H : Hp) (C : Addr) (cl : List (Str × Addr)) (fp : List Addr), PTs (X.blk s H scope (compEnvC scope cl C X.env) fp) ifs (ttOf test))
    (he : ∀ (s : Shared) (H : Hp) (C : Addr) (cl : List (Str × Addr)) (fp : List Addr), PE (X.blk s H scope (compEnvC scope cl C X.env) fp) elt (tOf fe)) (hs : ∀ x, foldedSetIterable iter X.env x = pure x := by intro _; rfl) :
    PE X (.ListComp elt [⟨tg, iter, ifs, 0⟩] scope pos) (tOf (eComp src u test fe (own.map (·.2)))) := pe_imp (pe_lc hc hN hi ok hg ht he hs) (comp_read gs)
end
end RB
set_option Elab.async false
set_option linter.all false
set_option maxRecDepth 100000
set_option maxHeartbeats 2000000
/-! Comprehensions with two clauses, statements that store in slots alone, defs. -/
namespace RB
open PySem PySem.Spec PyProof.Rows L2
/-! ### [.. for .. in .. for .. in ..] -/
def compGo2 (step : PyData → Option (List PyData)) : List PyData → Option (List PyData)
  | [] => some []
  | x :: r => match step x, compGo2 step r with
    | some ys, some zs => some (ys ++ zs)
    | _, _ => none
theorem compGo2_cons {step : PyData → Option (List PyData)} {x : PyData} {r ys : List PyData} (h : compGo2 step (x :: r) = some ys) : ∃ os zs, step x = some os ∧ compGo2 step r = some zs ∧ ys = os ++ zs := by
  unfold compGo2 at h
  split at h
  · rename_i o zs h1 h2
    exact ⟨o, zs, h1, h2, (Option.some.inj h).symm⟩
  · cases h
def stepOf2 (u : Ut) (src1 : Ew) (u' : Ut) (elt : Ev) (vs1 : List Nat) (sl : List (Option D)) (ob : Ob) : PyData → Option (List PyData) := fun x => match u x sl with
  | none => none
  | some sl' => (match src1 ⟨sl', ob⟩ with
    | none => none
    | some xs => compGo (stepOf u' (eC (.bool true)) elt (wipeD sl' vs1) ob) xs)
def eComp2 (src : Ew) (u : Ut) (src1 : Ew) (u' : Ut) (elt : Ev) (vs vs1 : List Nat) : Ev := fun Γ => match src Γ with
  | none => none
  | some xs => (match compGo2 (stepOf2 u src1 u' elt vs1 (wipeD Γ.sl vs) Γ.ob) xs with
    | none => none
    | some ys => if ys.length < sizeLine then some (.p (.list ys)) else none)
theorem comp2_read {src src1 : Ew} {u u' : Ut} {elt : Ev} {vs vs1 : List Nat} {g g' : TG} (gs : GS g u vs) (gs' : GS g' u' vs1) (σ : L2.St) (H : Hp) (Q : VK) (h : tOf (eComp2 src u src1 u' elt vs vs1) σ H Q) :
    tLc2 (iOf src) g (ttOf (eC (.bool true))) (iOf src1) g' (ttOf (eC (.bool true))) (tOf elt) vs vs1 σ H Q := by
  obtain ⟨O, Γ, d, w, hs, e, q⟩ := h
  unfold eComp2 at e
  split at e
  · cases e
  · rename_i xs h1
    split at e
    · cases e
    · rename_i ys h2
      split at e
      · rename_i hz
        obtain rfl := Option.some.inj e
        refine ⟨O, Γ, xs, w, hs, h1, fun J H1 s1 hJ p hp => ?_⟩
        have hs1 := hs.up (cutS s1)
        have w1 := w.up s1
        refine ⟨fun i m H => i ≤ xs.length ∧ m = xs.length - i ∧ Same H1 H ∧ ∃ acc done rest, H p = some (.lst acc) ∧ TpAll (cut (p :: O) H) acc done ∧ compGo2 (stepOf2 u src1 u' elt vs1 (wipeD Γ.sl vs) Γ.ob) (xs.drop i) = some rest ∧ ys = done ++ rest,
          ⟨_, Nat.zero_le _, rfl, same_upd hp, [], [], ys, upd_same, .nil, h2, rfl⟩, fun i m H2 hW => ?_⟩
        obtain ⟨hi, hm, s2, acc, done, rest, ha, ta, hr, hy⟩ := hW
        have w2 : Own (p :: O) H2 := (w1.up s2).cons (by rw [ha]; exact fun z => nomatch z)
        have sB : Same (cut O H1) (cut (p :: O) H2) := cut_cons hp s2
        obtain ⟨st, go⟩ := hJ (p :: O) i H2 w2 sB
        rcases Nat.lt_or_ge i xs.length with hlt | hge
        · right
          obtain ⟨g1, g2⟩ := go _ (List.getElem?_eq_getElem hlt)
          refine ⟨g1, fun H' => ∃ m', m' < m ∧ (i + 1 ≤ xs.length ∧ m' = xs.length - (i + 1) ∧ Same H1 H' ∧ ∃ acc done rest, H' p = some (.lst acc) ∧ TpAll (cut (p :: O) H') acc done ∧ compGo2 (stepOf2 u src1 u' elt vs1 (wipeD Γ.sl vs) Γ.ob) (xs.drop (i + 1)) = some rest ∧ ys = done ++ rest), fun H' z => z, fun v H3 hy3 => ?_⟩
          obtain ⟨s3, t3⟩ := g2 v H3 hy3
          rw [List.drop_eq_getElem_cons hlt] at hr
          obtain ⟨os, zs, hstep, hgo, hzs⟩ := compGo2_cons hr
          have hs3 := (hs1.up (sB.trans (cutS s3))).wipe vs
          unfold stepOf2 at hstep
          split at hstep
          · cases hstep
          · rename_i sl' k1
            split at hstep
            · cases hstep
            · rename_i xs1 k2
              refine gs (w2.up s3) hs3 t3 k1 fun σ' hs' hw => ⟨by rw [hw, wipe_idem], ?_⟩
              refine ⟨p :: O, ⟨sl', Γ.ob⟩, true, w2.up s3, hs', rfl, fun H4 s4 => iteT ?_⟩
              refine ⟨p :: O, ⟨sl', Γ.ob⟩, xs1, (w2.up s3).up s4, hs'.up (cutS s4), k2, fun J1 H5 s5 hJ1 => ?_⟩
              have s35 := (s3.trans s4).trans s5
              have w5 := w2.up s35
              have hs5 := hs'.up (cutS (s4.trans s5))
              refine ⟨fun j k H => j ≤ xs1.length ∧ k = xs1.length - j ∧ (∀ b o, b ≠ p → H5 b = some o → H b = some o) ∧ ∃ acc1 done1 rest1, H p = some (.lst acc1) ∧ TpAll (cut (p :: O) H) acc1 done1 ∧ compGo (stepOf u' (eC (.bool true)) elt (wipeD sl' vs1) Γ.ob) (xs1.drop j) = some rest1 ∧ done ++ os = done1 ++ rest1,
                ⟨_, Nat.zero_le _, rfl, fun b o _ h => h, acc, done, os, s35 _ _ ha, TpAll.up (cutS s35) _ _ ta, hstep, rfl⟩, fun j k H6 hW1 => ?_⟩
              obtain ⟨hj, hk, s6, acc1, done1, rest1, ha1, ta1, hr1, hy1⟩ := hW1
              have cp : Same (cut (p :: O) H5) (cut (p :: O) H6) := fun b o h => by
                unfold cut at h ⊢
                split at h
                · cases h
                · rename_i n
                  rw [if_neg n]
                  exact s6 b o (fun z => n (by rw [z]; exact List.mem_cons_self)) h
              have w6 : Own (p :: O) H6 := fun b hb => by
                by_cases hbp : b = p
                · rw [hbp, ha1]; exact fun z => nomatch z
                · cases q5 : H5 b with
                  | none => exact absurd q5 (w5 b hb)
                  | some o => rw [s6 b o hbp q5]; exact fun z => nomatch z
              have sH16 : Same H1 H6 := fun b o h => s6 b o (ne_of_none h hp) (s35 _ _ (s2 _ _ h))
              obtain ⟨st1, go1⟩ := hJ1 (p :: O) j H6 w6 cp
              rcases Nat.lt_or_ge j xs1.length with hlt1 | hge1
              · right
                obtain ⟨g3, g4⟩ := go1 _ (List.getElem?_eq_getElem hlt1)
                refine ⟨g3, fun H' => ∃ k', k' < k ∧ (j + 1 ≤ xs1.length ∧ k' = xs1.length - (j + 1) ∧ (∀ b o, b ≠ p → H5 b = some o → H' b = some o) ∧ ∃ acc1 done1 rest1, H' p = some (.lst acc1) ∧ TpAll (cut (p :: O) H') acc1 done1 ∧ compGo (stepOf u' (eC (.bool true)) elt (wipeD sl' vs1) Γ.ob) (xs1.drop (j + 1)) = some rest1 ∧ done ++ os = done1 ++ rest1), fun H' z => z, fun v1 H7 hy7 => ?_⟩
                obtain ⟨s7, t7⟩ := g4 v1 H7 hy7
                rw [List.drop_eq_getElem_cons hlt1] at hr1
                obtain ⟨o1, zs1, hstep1, hgo1, hzs1⟩ := compGo_cons hr1
                have hso : ∃ y, o1 = some y := by
                  unfold stepOf at hstep1
                  split at hstep1
                  · cases hstep1
                  · split at hstep1
                    · split at hstep1
                      · rename_i y _
                        exact ⟨y, (Option.some.inj hstep1).symm⟩
                      · cases hstep1
                    · rename_i z; cases z
                    · cases hstep1
                obtain ⟨y1, rfl⟩ := hso
                have hlen : acc1.length < sizeLine := by
                  rw [ta1.length]
                  have e1 : (done ++ os).length ≤ ys.length := by
                    rw [hy, hzs]
                    simp only [List.length_append]
                    omega
                  have e2 : done1.length ≤ (done ++ os).length := by
                    rw [hy1, List.length_append]
                    omega
                  omega
                have tc := turn_comp (p := p) (O := p :: O) (N := fun H' => ∃ k', k' < k ∧ (j + 1 ≤ xs1.length ∧ k' = xs1.length - (j + 1) ∧ (∀ b o, b ≠ p → H5 b = some o → H' b = some o) ∧ ∃ acc1 done1 rest1, H' p = some (.lst acc1) ∧ TpAll (cut (p :: O) H') acc1 done1 ∧ compGo (stepOf u' (eC (.bool true)) elt (wipeD sl' vs1) Γ.ob) (xs1.drop (j + 1)) = some rest1 ∧ done ++ os = done1 ++ rest1))
                  (done := done1) gs' List.mem_cons_self (w6.up s7) (((hs5.up cp).up (cutS s7)).wipe vs1) t7 hstep1 (s7 _ _ ha1) hlen fun H' acc' hH' hp' ht' hl' => ?_
                · rw [wipe_idem] at tc
                  exact tc
                · refine ⟨xs1.length - (j + 1), by omega, hlt1, rfl, ?_, acc', _, zs1, hp', ht' (TpAll.up (cutS s7) _ _ ta1), hgo1, ?_⟩
                  · intro b o hb h
                    rcases hH' with z | ⟨H8, z, rfl⟩
                    · exact z _ _ (s7 _ _ (s6 b o hb h))
                    · rw [upd_ne hb]
                      exact z _ _ (s7 _ _ (s6 b o hb h))
                  · show _ = (done1 ++ [y1]) ++ zs1
                    rw [hy1, hzs1, List.append_assoc]; rfl
              · left
                have z : xs1.drop j = [] := List.drop_of_length_le hge1
                rw [z] at hr1
                obtain rfl := Option.some.inj hr1
                rw [List.append_nil] at hy1
                exact ⟨st1 hge1, xs.length - (i + 1), by omega, hlt, rfl, sH16, acc1, done1, zs, ha1, ta1, hgo, by rw [hy, hzs, ← hy1, List.append_assoc]⟩
        · left
          have z : xs.drop i = [] := List.drop_of_length_le hge
          rw [z] at hr
          obtain rfl := Option.some.inj hr
          rw [List.append_nil] at hy
          subst hy
          refine ⟨st hge, q _ H2 (s1.trans s2) (.lst ?_ (TpAll.up cut_drop _ _ ta))⟩
          rw [cut_out (w1.new hp)]
          exact ha
      · cases e
section
variable {X : Cx}
theorem ev_lc2 {elt tg iter tg1 iter1 : Expr} {scope : Scope} {own : List (Str × Nat)} {vs1 : List Nat} {pos : Pos} {src src1 : Ew} {g g1 : TG} {u u' : Ut} {fe : Ev} (hc : X.calm = true) (hN : X.N.Nodup) (hi : PI X tg iter (iOf src)) (ok : BlkOk X.N X.env.scope scope own) (hv : ∀ i ∈ vs1, i ∈ own.map (·.2)) (gs : GS g u (own.map (·.2))) (gs' : GS g1 u' vs1)
    (hg : ∀ (s : Shared) (H : Hp) (C : Addr) (cl : List (Str × Addr)) (fp : List Addr), PG (X.blk s H scope (compEnvC scope cl C X.env) fp) tg g) (hi1 : ∀ (s : Shared) (H : Hp) (C : Addr) (cl : List (Str × Addr)) (fp : List Addr), PI (X.blk s H scope (compEnvC scope cl C X.env) fp) tg1 iter1 (iOf src1))
    (hg1 : ∀ (s : Shared) (H : Hp) (D : Addr) (cl : List (Str × Addr)) (fp : List Addr), PG (X.blk s H scope (compEnvC scope cl D X.env) fp) tg1 g1)
    (he : ∀ (s : Shared) (H : Hp) (C : Addr) (cl : List (Str × Addr)) (fp : List Addr), PE (X.blk s H scope (compEnvC scope cl C X.env) fp) elt (tOf fe)) (hs : ∀ x, foldedSetIterable iter X.env x = pure x := by intro _; rfl) (hs1 : ∀ env x, foldedSetIterable iter1 env x = pure x := by intro _ _; rfl) :
    PE X (.ListComp elt [⟨tg, iter, [], 0⟩, ⟨tg1, iter1, [], 0⟩] scope pos) (tOf (eComp2 src u src1 u' fe (own.map (·.2)) vs1)) :=
  pe_imp (pe_lc2 hc hN hi ok hv hg (fun _ _ _ _ _ => ets_nil) hi1 hg1 (fun _ _ _ _ _ => ets_nil) he hs hs1) (comp2_read gs gs')
end
/-! ### statements -/
inductive Res where
  | ret (d : D)
  | nx (sl : List (Option D))
abbrev Sv := Gm → Option Res
def After (O : List Addr) (ob : Ob) (D' : Ends) (r : Res) (H : Hp) : Prop := match r with
  | .ret d => ∀ v, Rep (cut O H) v d → D'.rt v H
  | .nx sl => ∀ σ, Hs (cut O H) σ ⟨sl, ob⟩ → D'.nx σ H
def sOf (s : Sv) : TS := fun D' σ H => ∃ O Γ r, Own O H ∧ Hs (cut O H) σ Γ ∧ s Γ = some r ∧ ∀ H', Same H H' → After O Γ.ob D' r H'
section
variable {X : Cx} {e a b c : Expr} {st : Stmt} {sts rest : List Stmt} {f : Ev} {fs : Evs} {s s1 s2 : Sv} {pos : Pos}
theorem pss_imp {t u : TS} (h : PSs X sts t) (i : ∀ D σ H, u D σ H → t D σ H) : PSs X sts u := ⟨fun pins s σ H D I q => h.run pins s σ H D I (i D σ H q)⟩
def sNil : Sv := fun Γ => some (.nx Γ.sl)
def sSeq (s1 s2 : Sv) : Sv := fun Γ => match s1 Γ with
  | some (.nx sl) => s2 ⟨sl, Γ.ob⟩
  | r => r
def sRet (f : Ev) : Sv := fun Γ => (f Γ).map .ret
def sAsg (f : Ev) (i : Nat) : Sv := fun Γ => (f Γ).map fun d => .nx (Γ.sl.set i (some d))
def sIf (c : Ev) (s1 s2 : Sv) : Sv := fun Γ => match c Γ with
  | some (.p (.bool true)) => s1 Γ
  | some (.p (.bool false)) => s2 Γ
  | _ => none
def sExp (f : Ev) : Sv := fun Γ => (f Γ).map fun _ => .nx Γ.sl
def sNever : Sv := fun _ => none
def sPar (i j : Nat) (fs : Evs) : Sv := fun Γ => match fs Γ with
  | some [d, d'] => some (.nx ((Γ.sl.set i (some d)).set j (some d')))
  | _ => none
theorem ess_nil : PSs X [] (sOf sNil) := pss_imp pss_nil fun D' σ H h => by
  obtain ⟨O, Γ, r, w, hs, e, q⟩ := h
  obtain rfl := Option.some.inj e
  exact q H (Same.refl H) σ hs
theorem ess_cons (h1 : PS X st (sOf s1)) (h2 : PSs X rest (sOf s2)) : PSs X (st :: rest) (sOf (sSeq s1 s2)) := pss_imp (pss_cons h1 h2) fun D' σ H h => by
  obtain ⟨O, Γ, r, w, hs, e, q⟩ := h
  unfold sSeq at e
  split at e
  · rename_i sl h1
    exact ⟨O, Γ, _, w, hs, h1, fun H1 s1 σ1 hs1 => ⟨O, ⟨sl, Γ.ob⟩, r, w.up s1, hs1, e, fun H2 s2 => q H2 (s1.trans s2)⟩⟩
  · rename_i h1
    refine ⟨O, Γ, r, w, hs, e, fun H1 s1 => ?_⟩
    cases r with
    | ret d => exact q H1 s1
    | nx sl => exact absurd e (h1 sl)
theorem es_ret (h : PE X e (tOf f)) : PS X (.Return (some e) pos) (sOf (sRet f)) := ps_imp (ps_ret h) fun D' σ H h => by
  obtain ⟨O, Γ, r, w, hs, e, q⟩ := h
  obtain ⟨d, h1, rfl⟩ := Option.map_eq_some_iff.mp e
  exact ⟨O, Γ, d, w, hs, h1, fun v H1 s1 r1 => q H1 s1 v r1⟩
theorem asg_read {i : Nat} (D' : Ends) (σ : L2.St) (H : Hp) (h : sOf (sAsg f i) D' σ H) : tAsg (tOf f) (gName i) D' σ H := by
  obtain ⟨O, Γ, r, w, hs, e, q⟩ := h
  obtain ⟨d, h1, rfl⟩ := Option.map_eq_some_iff.mp e
  exact ⟨O, Γ, d, w, hs, h1, fun v H1 s1 r1 => q H1 s1 _ ((hs.up (cutS s1)).set i r1)⟩
theorem es_set {i : Nat} {x : Str} {pos' : Pos} (hN : X.N.Nodup) (hi : X.N[i]? = some x) (hx : Loc X.env.scope x) (he : PE X e (tOf f)) (hs : swapsWith e (some (.Name x pos')) pos.line X.env = pure false := by rfl)
    (hf : X.fn x = true ∨ X.env.scope.names.lookup x = some .local := by first | exact .inl rfl | exact .inr rfl | assumption) : PS X (.Assign [.Name x pos'] e pos) (sOf (sAsg f i)) := ps_imp (ps_set hN hi hx he hs hf) asg_read
theorem es_if (hc : PT X c (ttOf f)) (ha : PSs X sts (sOf s1)) (hb : PSs X rest (sOf s2)) : PS X (.If c sts rest pos) (sOf (sIf f s1 s2)) := ps_imp (ps_if hc ha hb) fun D' σ H h => by
  obtain ⟨O, Γ, r, w, hs, e, q⟩ := h
  unfold sIf at e
  split at e
  · rename_i h1
    exact ⟨O, Γ, true, w, hs, h1, fun H1 s1 => iteT ⟨O, Γ, r, w.up s1, hs.up (cutS s1), e, fun H2 s2 => q H2 (s1.trans s2)⟩⟩
  · rename_i h1
    exact ⟨O, Γ, false, w, hs, h1, fun H1 s1 => iteF ⟨O, Γ, r, w.up s1, hs.up (cutS s1), e, fun H2 s2 => q H2 (s1.trans s2)⟩⟩
  · cases e
theorem es_expr (he : PE X e (tOf f)) (hs : swapsWith e none pos.line X.env = pure false := by rfl) : PS X (.Expr e pos) (sOf (sExp f)) := ps_imp (ps_expr he hs) fun D' σ H h => by
  obtain ⟨O, Γ, r, w, hs, e, q⟩ := h
  obtain ⟨d, h1, rfl⟩ := Option.map_eq_some_iff.mp e
  exact ⟨O, Γ, d, w, hs, h1, fun v H1 s1 r1 => q H1 s1 σ (hs.up (cutS s1))⟩
theorem es_never : PS X st (sOf sNever) := ps_imp ps_never fun D' σ H h => by
  obtain ⟨O, Γ, r, w, hs, e, q⟩ := h
  cases e
theorem es_par {i j : Nat} {x y : Str} {px py pt : Pos} {kt k2 pt2} (hc : X.calm = true) (hN : X.N.Nodup) (hi : X.N[i]? = some x) (hj : X.N[j]? = some y) (hij : i ≠ j)
    (hx : X.env.scope.names.lookup x = some .local) (hy : X.env.scope.names.lookup y = some .local) (ha : PA X [a, b] (taOf fs))
    (hw : swappedStores [.Tuple [.Name x px, .Name y py] kt pt] (.Tuple [a, b] k2 pt2) X.env = pure (some [x, y])) (hs : swapsWithSole [.Tuple [.Name x px, .Name y py] kt pt] (.Tuple [a, b] k2 pt2) pos.line X.env = pure false := by rfl) : PS X (.Assign [.Tuple [.Name x px, .Name y py] kt pt] (.Tuple [a, b] k2 pt2) pos) (sOf (sPar i j fs)) := ps_imp (ps_par hc hN hi hj hij hx hy ha hw hs) fun D' σ H h => by
  obtain ⟨O, Γ, r, w, hs, e, q⟩ := h
  unfold sPar at e
  split at e
  · rename_i d d' h1
    obtain rfl := Option.some.inj e
    refine ⟨O, Γ, _, w, hs, h1, fun vs H1 s1 r1 => ?_⟩
    obtain ⟨v, u, rfl, r2, r3⟩ := rep2 r1
    exact ⟨v, u, rfl, q H1 s1 _ (((hs.up (cutS s1)).set i r2).set j r3)⟩
  · cases e
/-! ### for -/
def forGo (step : PyData → List (Option D) → Option Res) : List PyData → List (Option D) → Option Res
  | [], sl => some (.nx sl)
  | x :: r, sl => match step x sl with
    | some (.nx sl') => forGo step r sl'
    | some (.ret d) => some (.ret d)
    | none => none
def sFor (src : Ew) (u : Ut) (body : Sv) : Sv := fun Γ => match src Γ with
  | none => none
  | some xs => forGo (fun x sl => match u x sl with
    | none => none
    | some sl' => body ⟨sl', Γ.ob⟩) xs Γ.sl
theorem es_for {tg iter : Expr} {src : Ew} {g : TG} {u : Ut} {vs : List Nat} (hp : PassesOwn (model X.prog X.w) X.A X.env X.xe) (hc : X.calm = true) (hi : PI X tg iter (iOf src)) (gs : GS g u vs) (hg : PG X tg g) (hb : PSs X sts (sOf s))
    (hs : ∀ x, foldedSetIterable iter X.env x = pure x := by intro _; rfl) : PS X (.For tg iter sts [] pos) (sOf (sFor src u s)) := ps_imp (ps_for hp hc hi hg hb hs) fun D' σ H h => by
  obtain ⟨O, Γ, r, w, hs, e, q⟩ := h
  unfold sFor at e
  split at e
  · cases e
  · rename_i xs h1
    refine ⟨O, Γ, xs, w, hs, h1, fun J H1 s1 hJ => ?_⟩
    have w1 := w.up s1
    generalize hstep : (fun x sl => match u x sl with
      | none => none
      | some sl' => s ⟨sl', Γ.ob⟩) = step at e
    refine ⟨fun i m σ H => i ≤ xs.length ∧ m = xs.length - i ∧ Same H1 H ∧ ∃ sl, Hs (cut O H) σ ⟨sl, Γ.ob⟩ ∧ forGo step (xs.drop i) sl = some r, ⟨_, Nat.zero_le _, rfl, Same.refl _, Γ.sl, hs.up (cutS s1), e⟩, fun i m σ2 H2 hW => ?_⟩
    obtain ⟨hi, hm, s2, sl, hs2, hr⟩ := hW
    obtain ⟨st, go⟩ := hJ O i H2 (w1.up s2) (cutS s2)
    rcases Nat.lt_or_ge i xs.length with hlt | hge
    · right
      obtain ⟨g1, g2⟩ := go _ (List.getElem?_eq_getElem hlt)
      refine ⟨g1, fun σ' H' => ∃ m', m' < m ∧ (i + 1 ≤ xs.length ∧ m' = xs.length - (i + 1) ∧ Same H1 H' ∧ ∃ sl, Hs (cut O H') σ' ⟨sl, Γ.ob⟩ ∧ forGo step (xs.drop (i + 1)) sl = some r), fun σ' H' z => z, fun v H3 hy3 => ?_⟩
      obtain ⟨s3, t3⟩ := g2 v H3 hy3
      rw [List.drop_eq_getElem_cons hlt] at hr
      unfold forGo at hr
      have hst : step xs[i] sl = (match u xs[i] sl with
        | none => none
        | some sl' => s ⟨sl', Γ.ob⟩) := by rw [← hstep]
      rw [hst] at hr
      cases k1 : u xs[i] sl with
      | none =>
        rw [k1] at hr
        cases hr
      | some sl' =>
        rw [k1] at hr
        refine gs ((w1.up s2).up s3) (hs2.up (cutS s3)) t3 k1 fun σ' hs' hw => ?_
        cases k2 : s ⟨sl', Γ.ob⟩ with
        | none =>
          have hr : (match s ⟨sl', Γ.ob⟩ with
            | some (.nx sl') => forGo step (xs.drop (i + 1)) sl'
            | some (.ret d) => some (.ret d)
            | none => none) = some r := hr
          rw [k2] at hr
          cases hr
        | some r1 =>
          have hr : (match s ⟨sl', Γ.ob⟩ with
            | some (.nx sl') => forGo step (xs.drop (i + 1)) sl'
            | some (.ret d) => some (.ret d)
            | none => none) = some r := hr
          rw [k2] at hr
          refine ⟨O, ⟨sl', Γ.ob⟩, r1, (w1.up s2).up s3, hs', k2, fun H4 s4 => ?_⟩
          cases r1 with
          | nx sl2 => exact fun σ4 hs4 => ⟨xs.length - (i + 1), by omega, hlt, rfl, (s2.trans s3).trans s4, sl2, hs4, hr⟩
          | ret d =>
            obtain rfl := Option.some.inj hr
            exact fun v r => q H4 (((s1.trans s2).trans s3).trans s4) v r
    · left
      have z : xs.drop i = [] := List.drop_of_length_le hge
      rw [z] at hr
      obtain rfl := Option.some.inj hr
      exact ⟨st hge, q H2 (s1.trans s2) σ2 hs2⟩
end
/-! ### defs -/
/-- what a def computes: its body on its arguments, the other names unset -/
def runE (s : Sv) (n m : Nat) : Gf := fun ob ds => if ds.length = m then (match s ⟨ds.map some ++ List.replicate (n - m) none, ob⟩ with
  | some (.ret d) => some d
  | some (.nx _) => some (.p .none)
  | none => none) else none
theorem start_hs {H : Hp} {N : List Str} {vs : List V} {ds : List D} {ob : Ob} (r : Paired (Rep H) vs ds) (o : ObOk H ob) : Hs H (L2.start N vs) ⟨ds.map some ++ List.replicate (N.length - ds.length) none, ob⟩ := by
  have hl := r.length
  refine ⟨?_, fun i d h => ?_, o⟩
  · show (ds.map some ++ List.replicate (N.length - ds.length) none).length = (L2.start N vs).length
    unfold L2.start
    simp only [List.length_append, List.length_map, List.length_replicate, hl]
  · have h : (ds.map some ++ List.replicate (N.length - ds.length) none)[i]? = some (some d) := h
    by_cases hi : i < ds.length
    · rw [List.getElem?_append_left (by simpa using hi), List.getElem?_map] at h
      obtain ⟨d', h1, h2⟩ := Option.map_eq_some_iff.mp h
      obtain rfl := Option.some.inj h2
      have get : ∀ {vs : List V} {ds : List D} {i : Nat} {d : D}, Paired (Rep H) vs ds → ds[i]? = some d → ∃ v, vs[i]? = some v ∧ Rep H v d := by
        intro vs ds i d r
        induction r generalizing i with
        | nil => intro z; cases z
        | cons a t ih =>
          intro z
          cases i with
          | zero => exact ⟨_, rfl, by obtain rfl := Option.some.inj z; exact a⟩
          | succ i => exact ih z
      obtain ⟨v, h3, h4⟩ := get r h1
      refine ⟨v, ?_, h4⟩
      unfold L2.start
      rw [List.getElem?_append_left (by rw [List.length_map, hl]; exact hi), List.getElem?_map, h3]; rfl
    · rw [List.getElem?_append_right (by simpa using hi), List.getElem?_replicate] at h
      split at h
      · cases Option.some.inj h
      · cases h
section
variable {P : Program}
variable {w : World} {K : PySem.W.Frag} {mg : Str → Option Value} {base : Heap}
theorem fnE {x qual : Str} {params : Arguments} {body : List Stmt} {scope : Scope} {f : Addr} {fd : FuncData} {N ps : List Str} {k : Nat} {sv : Sv} (F : FunD K x qual params body scope [] [] f fd) (S : FnScope N ps scope)
    (hbody : ∀ (cdv : Value) (A : Around) (outer : List Env) (s : Shared) (H : Hp) (E : XK), Room k (A.deeper (envOfC qual scope s.heap.objs.size f cdv)) → PSs (cxOf CX0 P w K mg base N qual scope f cdv A outer s H E).nox body (sOf sv)) :
    FnOk P w K mg base CX0 (k + 1) f fd ps (spE (runE sv N.length ps.length)) := by
  refine F.ok S (fun vs H Q E h => ?_) fun cdv A outer s H vs Q E hr h => ⟨_, PSs.nox (hbody cdv A outer s H E hr), ?_⟩
  · obtain ⟨O, ob, ds, d, _, _, r, e, _⟩ := h
    unfold runE at e
    split at e
    · rename_i hl
      exact r.length.trans hl
    · cases e
  · obtain ⟨O, ob, ds, d, w', o, r, e, q⟩ := h
    unfold runE at e
    split at e
    · rename_i hl
      split at e
      · rename_i d' h1
        obtain rfl := Option.some.inj e
        rw [← hl] at h1
        exact ⟨O, _, _, w', start_hs r o, h1, fun H1 s1 v rv => q v H1 s1 rv⟩
      · rename_i sl h1
        obtain rfl := Option.some.inj e
        rw [← hl] at h1
        exact ⟨O, _, _, w', start_hs r o, h1, fun H1 s1 σ _ => q .non H1 s1 .non⟩
      · cases e
    · cases e
theorem calE {x : Str} {st : Stmt} {f : Addr} {fd : FuncData} {N ps : List Str} {k : Nat} {sv : Sv} (F : FunD K x x (defArgs st) (defBody st) (defScope st) [] [] f fd) (m : mg x = some (.ref f)) (S : FnScope N ps (defScope st))
    (hb : ∀ (kV doc pm : Value) (an : Option Addr) (cdv ct : Value) (us : List Value), us.length = ps.length → bindArgs (PySem.W.fnOf x x (defArgs st) (defBody st) (defScope st) .none kV doc pm an cdv ct) ⟨us, []⟩ = pure (ps.zip us))
    (hbody : ∀ (cdv : Value) (A : Around) (outer : List Env) (s : Shared) (H : Hp) (E : XK), Room k (A.deeper (envOfC x (defScope st) s.heap.objs.size f cdv)) → PSs (cxOf CX0 P w K mg base N x (defScope st) f cdv A outer s H E).nox (defBody st) (sOf sv)) (hps : ((defArgs st).posonlyargs ++ (defArgs st).args).map (·.arg) = ps := by rfl) :
    CalE P w K mg base (k + 1) x (spE (runE sv N.length ps.length)) := ⟨f, fd, ps, fnE F S hbody, m, F.kp, F.bindsN hb, st, F, hps⟩
theorem CalE.mono {k j : Nat} {x : Str} {sp : Sp} (c : CalE P w K mg base k x sp) (h : k ≤ j) : CalE P w K mg base j x sp := by
  obtain ⟨f, fd, ps, G, r⟩ := c.ex
  exact ⟨f, fd, ps, G.mono h, r⟩
theorem CalE.imp {k : Nat} {x : Str} {sp sp' : Sp} (c : CalE P w K mg base k x sp) (h : ∀ vs H Q E, sp' vs H Q E → sp vs H Q E) : CalE P w K mg base k x sp' := by
  obtain ⟨f, fd, ps, G, r⟩ := c.ex
  exact ⟨f, fd, ps, G.imp h, r⟩
end
end RB
set_option Elab.async false
set_option linter.all false
set_option maxRecDepth 100000
set_option maxHeartbeats 2000000
/-! Tests by comparison, sorts by a def as key, names that get a list comprehension. -/
namespace RB
open PySem PySem.Spec PyProof.Rows L2
open PySem.W (AllAlike Sortable dataLe)
section
variable {X : Cx} {a b e : Expr} {f1 f2 f : Ev} {fs : Evs} {pos : Pos} {k : Nat}
theorem et_lt (ha : PE X a (tOf f1)) (hb : PE X b (tOf f2)) : PT X (.Compare a [.Lt] [b] pos) (ttOf (eB gLt f1 f2)) := et_cmp op_lt (bin_I0 fun _ _ _ => .bl _) ha hb (nomark _)
theorem et_le (ha : PE X a (tOf f1)) (hb : PE X b (tOf f2)) : PT X (.Compare a [.LtE] [b] pos) (ttOf (eB gLe f1 f2)) := et_cmp op_le (bin_I0 fun _ _ _ => .bl _) ha hb (nomark _)
theorem et_gt (ha : PE X a (tOf f1)) (hb : PE X b (tOf f2)) : PT X (.Compare a [.Gt] [b] pos) (ttOf (eB gGt f1 f2)) := et_cmp op_gt (bin_I0 fun _ _ _ => .bl _) ha hb (nomark _)
theorem et_ge (ha : PE X a (tOf f1)) (hb : PE X b (tOf f2)) : PT X (.Compare a [.GtE] [b] pos) (ttOf (eB gGe f1 f2)) := et_cmp op_ge (bin_I0 fun _ _ _ => .bl _) ha hb (nomark _)
theorem et_eq (hr : Room k X.A) (ha : PE X a (tOf f1)) (hb : PE X b (tOf f2)) : PT X (.Compare a [.Eq] [b] pos) (ttOf (eB gEq f1 f2)) := et_cmp (op_eqD hr.units) bin_eq ha hb (nomark _)
theorem et_ne (hr : Room k X.A) (ha : PE X a (tOf f1)) (hb : PE X b (tOf f2)) : PT X (.Compare a [.NotEq] [b] pos) (ttOf (eB gNe f1 f2)) := et_cmp (op_neD hr.units) bin_ne ha hb (nomark _)
/-- a comparison whose value is known, as a test -/
theorem et_of {op : CmpOp} {g : PyData → PyData → Option PyData} (h : PE X (.Compare a [op] [b] pos) (tOf f)) (hm : behindInMarks op b = false) (c : PE X (.Compare a [op] [b] pos) (tOf f) → PC X op a b (tOf f)) : PT X (.Compare a [op] [b] pos) (ttOf f) := pt_imp (pt_cmp (c h) hm) fun σ H Q h => by
  obtain ⟨O, Γ, d, w, hs, e, q⟩ := h
  exact ⟨O, Γ, _, w, hs, e, fun v H1 s1 r1 => by
    cases (show v = V.bl d from by cases r1; rfl)
    exact ⟨d, rfl, q H1 s1⟩⟩
theorem bin_is : BinS (fun x y H Q => (y = .non ∧ Q (.bl (decide (x = .non))) H) ∨ rIsB x y H Q) gIs := fun {O H x y a b d Q} w ha hb hg q => by
  unfold gIs at hg
  split at hg
  · obtain rfl := Option.some.inj hg
    cases hb
    exact .inl ⟨rfl, by rw [tp_none ha]; exact q _ H (Same.refl H) (.bl _)⟩
  · obtain rfl := Option.some.inj hg
    cases ha
    cases hb
    exact .inr ⟨_, _, rfl, rfl, q _ H (Same.refl H) (.bl _)⟩
  · cases hg
theorem bin_isNot : BinS (fun x y H Q => (y = .non ∧ Q (.bl (!decide (x = .non))) H) ∨ rNotB x y H Q) gIsNot := fun {O H x y a b d Q} w ha hb hg q => by
  unfold gIsNot at hg
  split at hg
  · obtain rfl := Option.some.inj hg
    cases hb
    exact .inl ⟨rfl, by rw [tp_none ha]; exact q _ H (Same.refl H) (.bl _)⟩
  · obtain rfl := Option.some.inj hg
    cases ha
    cases hb
    exact .inr ⟨_, _, rfl, rfl, q _ H (Same.refl H) (.bl _)⟩
  · cases hg
theorem et_is (ha : PE X a (tOf f1)) (hb : PE X b (tOf f2)) : PT X (.Compare a [.Is] [b] pos) (ttOf (eB gIs f1 f2)) := et_cmp (opR_or op_isN op_isBl) bin_is ha hb (nomark _)
theorem et_isNot (ha : PE X a (tOf f1)) (hb : PE X b (tOf f2)) : PT X (.Compare a [.IsNot] [b] pos) (ttOf (eB gIsNot f1 f2)) := et_cmp (opR_or op_notN op_notBl) bin_isNot ha hb (nomark _)
theorem bin_in {K : PySem.W.Frag} : BinS (fun x y H Q => rInD K x y H Q ∨ rIn K false x y H Q) (gIn false) := fun {O H x y a b d Q} w ha hb hg q => by
  unfold gIn at hg
  split at hg
  · split at hg
    · rename_i z
      obtain rfl := Option.some.inj hg
      obtain ⟨z1, z2⟩ := Bool.and_eq_true_iff.mp z
      exact .inl ⟨_, _, Tp.dp _ _ (Tp.up cut_sub _ _ ha), Tp.dp _ _ (Tp.up cut_sub _ _ hb), z1, z2, by simpa using q _ H (Same.refl H) (.bl _)⟩
    · cases hg
  · obtain ⟨ns, h1, rfl⟩ := Option.map_eq_some_iff.mp hg
    have h1 := allInts_eq h1
    subst h1
    cases ha
    cases hb with
    | tup k1 k2 =>
      have := TpAll.ints k2
      subst this
      refine .inr ⟨_, _, rfl, .inr (SqT.of (cut_sub _ _ k1)), rfl, flat_ints _, ?_⟩
      rw [inV_ints]
      simpa using q _ H (Same.refl H) (.bl _)
  · cases hg
theorem bin_notIn {K : PySem.W.Frag} : BinS (fun x y H Q => rNotInD K x y H Q ∨ rIn K true x y H Q) (gIn true) := fun {O H x y a b d Q} w ha hb hg q => by
  unfold gIn at hg
  split at hg
  · split at hg
    · rename_i z
      obtain rfl := Option.some.inj hg
      obtain ⟨z1, z2⟩ := Bool.and_eq_true_iff.mp z
      exact .inl ⟨_, _, Tp.dp _ _ (Tp.up cut_sub _ _ ha), Tp.dp _ _ (Tp.up cut_sub _ _ hb), z1, z2, by simpa using q _ H (Same.refl H) (.bl _)⟩
    · cases hg
  · obtain ⟨ns, h1, rfl⟩ := Option.map_eq_some_iff.mp hg
    have h1 := allInts_eq h1
    subst h1
    cases ha
    cases hb with
    | tup k1 k2 =>
      have := TpAll.ints k2
      subst this
      refine .inr ⟨_, _, rfl, .inr (SqT.of (cut_sub _ _ k1)), rfl, flat_ints _, ?_⟩
      rw [inV_ints]
      simpa using q _ H (Same.refl H) (.bl _)
  · cases hg
theorem et_in (hr : Room k X.A) (hm : behindInMarks .In b = false) (ha : PE X a (tOf f1)) (hb : PE X b (tOf f2)) : PT X (.Compare a [.In] [b] pos) (ttOf (eB (gIn false) f1 f2)) := et_cmp (opR_or (op_inD (by have := hr.un; omega)) op_in_seq) bin_in ha hb hm
theorem et_notIn (hr : Room k X.A) (hm : behindInMarks .NotIn b = false) (ha : PE X a (tOf f1)) (hb : PE X b (tOf f2)) : PT X (.Compare a [.NotIn] [b] pos) (ttOf (eB (gIn true) f1 f2)) := et_cmp (opR_or (op_notInD (by have := hr.un; omega)) op_notIn_seq) bin_notIn ha hb hm
/-! ### attributes of one of several classes -/
def eFlds (Cs : List Addr) (nm : Str) (f : Ev) : Ev := fun Γ => match f Γ with
  | some (.o a) => (match Γ.ob a with
    | some (C, fs) => if C ∈ Cs then (fs.lookup nm).map .p else none
    | none => none)
  | _ => none
theorem ev_flds {Cs : List Addr} {nm : Str} (cl : ∀ C ∈ Cs, Cls X.K C ∧ NoAttr X.K C nm) (he : PE X e (tOf f)) (hb : attributeBase e nm X.env (eval e X.env) = eval e X.env := by rfl) : PE X (.Attribute e nm pos) (tOf (eFlds Cs nm f)) := pe_imp (pe_fld he hb) fun σ H Q h => by
  obtain ⟨O, Γ, d, w, hs, e, q⟩ := h
  unfold eFlds at e
  split at e
  · rename_i a h1
    split at e
    · rename_i C fs h2
      split at e
      · rename_i h3
        obtain ⟨x, h4, rfl⟩ := Option.map_eq_some_iff.mp e
        refine ⟨O, Γ, _, w, hs, h1, fun v H1 s1 r1 => ?_⟩
        obtain ⟨dx, vs, h5, h6⟩ := (hs.ob.up (cutS s1)) a C fs h2
        obtain ⟨y, h7, h8⟩ := h6 nm x h4
        exact ⟨a, C, dx, vs, y, r1, cut_sub _ _ h5, (cl C h3).1, (cl C h3).2, h7, q y H1 s1 h8⟩
      · cases e
    · cases e
  · cases e
/-! ### sorted(xs, key=f) -/
def kOf (g : Gf) (d : PyData) : PyData := match g (fun _ => none) [.p d] with
  | some (.p y) => if noLst y = true then y else .none
  | _ => .none
theorem kOf_noLst (g : Gf) (d : PyData) : noLst (kOf g d) = true := by
  unfold kOf
  split
  · split
    · assumption
    · rfl
  · rfl
def SortKOk (g : Gf) (ds : List PyData) : Prop := (∀ d ∈ ds, g (fun _ => none) [.p d] = some (.p (kOf g d))) ∧ AllAlike (ds.map (kOf g)) ∧ Sortable (ds.map (kOf g)) ∧ ∀ d ∈ ds, (kOf g d).depth ≤ 60
open Classical in
noncomputable def gSortK (g : Gf) : PyData → Option PyData
  | .list xs => if SortKOk g xs then some (.list (xs.mergeSort (dataLe false (kOf g)))) else none
  | .tuple xs => if SortKOk g xs then some (.list (xs.mergeSort (dataLe false (kOf g)))) else none
  | _ => none
theorem ev_sortK {g : Gf} {x : Str} {j : Nat} {np xp kp : Pos} (c : CalE X.prog X.w X.K X.mg X.base k x (spE g)) (hr : Room j X.A) (hk : k + 2 ≤ j) (hg : Gl X "sorted") (hm : X.mg "sorted" = none) (hx : Gl X x) (ha : PE X e (tOf f)) (hd : (x == ("__debug__" : Str)) = false := by decide)
    (he : starEach [e] X.env = (false, eval e X.env) :: starEach [] X.env := by rfl)
    (hall : (backToKw pos (keywordEach [⟨some "key", .Name x xp, kp⟩] X.env)).all (·.1.isSome) = true := by rfl) (hnone : (backToKw pos (keywordEach [⟨some "key", .Name x xp, kp⟩] X.env)).any (·.1.isNone) = false := by rfl) (hks : (backToKw pos (keywordEach [⟨some "key", .Name x xp, kp⟩] X.env)).filterMap (·.1) = [("key" : Str)] := by rfl)
    (hbe : backTo pos (starEach [e] X.env) = (false, eval e X.env) :: backTo pos (starEach [] X.env) := by rfl) (hpl : (backTo pos (starEach [e] X.env)).any (·.1) = false := by rfl) :
    PE X (.Call (.Name "sorted" np) [e] [⟨some "key", .Name x xp, kp⟩] pos) (tOf (eU (gSortK g) f)) := by
  obtain ⟨fa, fd, ps, G, m, kp', bn, _⟩ := c.ex
  have key : ∀ (O : List Addr) (bs : List PyData), (∀ d ∈ bs, g (fun _ => none) [.p d] = some (.p (kOf g d))) → FnOk X.prog X.w X.K X.mg X.base CX0 k fa fd ps (spKey X.K (fun H x d => Own O H ∧ Tp (cut O H) x d) (kOf g) bs) := fun O bs hb => G.imp fun vs H Q E h => by
    obtain ⟨x, b, rfl, hb', ⟨w, t⟩, q⟩ := h
    exact ⟨O, fun _ => none, [.p b], .p (kOf g b), w, (fun a C fs z => by cases z), .cons t .nil, hb b hb', fun v H' s r => q v H' s (Tp.dp _ _ (Tp.up cut_sub _ _ r))⟩
  have up : ∀ {O : List Addr} {H H' : Hp}, Same H H' → ∀ x d, (Own O H ∧ Tp (cut O H) x d) → (Own O H' ∧ Tp (cut O H') x d) := fun s x d h => ⟨h.1.up s, Tp.up (cutS s) _ _ h.2⟩
  have hc : CallRK X (.builtin "sorted") [("key" : Str)] (fun vs zs H Q => ∃ O bs, (∀ d ∈ bs, g (fun _ => none) [.p d] = some (.p (kOf g d))) ∧ rSortK X fa (fun H x d => Own O H ∧ Tp (cut O H) x d) (kOf g) bs vs zs H Q) := fun pins s σ H vs zs us ws Q I r1 r2 h => by
    obtain ⟨O, bs, hb, h⟩ := h
    exact cr_sortK (key O bs hb) (hr.mono hk) bn up hr.units pins s σ H vs zs us ws Q I r1 r2 h
  refine pe_imp (pe_callBK hc hg hm (by decide +kernel) (pa_cons ha pa_nil he) (pk_cons (pe_glob (v := .ref fa) hx m rfl hd) pk_nil) (he := hbe) (hpl := hpl) (hall := hall) (hnone := hnone) (hks := hks)) fun σ H Q h => ?_
  obtain ⟨O, Γ, d, w, hs, e, q⟩ := h
  obtain ⟨x, y, h1, h2, rfl⟩ := eU_some e
  refine ⟨O, Γ, _, w, hs, h1, fun v H1 s1 r1 => ?_⟩
  have fin : ∀ {a : Addr} {us : List V} {zs : List PyData}, v = V.ref a → (SqL X.K H1 a us ∨ SqT X.K H1 a us) → TpAll (cut O H1) us zs → SortKOk g zs → y = .list (zs.mergeSort (dataLe false (kOf g))) →
      ∃ O bs, (∀ d ∈ bs, g (fun _ => none) [.p d] = some (.p (kOf g d))) ∧ rSortK X fa (fun H x d => Own O H ∧ Tp (cut O H) x d) (kOf g) bs [v] [.ref fa] H1 Q := fun {a us zs} ev hq tz so ey => by
    obtain ⟨so1, so2, so3, so4⟩ := so
    refine ⟨O, zs, so1, a, us, by rw [ev], rfl, hq, tz.paired.mono fun x d t => ⟨w.up s1, t⟩, so2, so3, kOf_noLst g, so4, fun ys p H' s2 hp hH' hy => ?_⟩
    subst ey
    refine q _ _ (s1.trans s2) (.lst ?_ (TpAll.of_paired (hy.mono fun x d t => Tp.up (cutS s2) _ _ t.2)))
    rw [cut_out ((w.up s1).new hp)]
    exact hH'
  unfold gSortK at h2
  split at h2
  · split at h2
    · rename_i so
      obtain rfl := Option.some.inj h2
      cases r1 with
      | lst k1 k2 => exact fin rfl (.inl (SqL.of (cut_sub _ _ k1))) k2 so rfl
    · cases h2
  · split at h2
    · rename_i so
      obtain rfl := Option.some.inj h2
      cases r1 with
      | tup k1 k2 => exact fin rfl (.inr (SqT.of (cut_sub _ _ k1))) k2 so rfl
    · cases h2
  · cases h2
/-! ### y = [..] on one line -/
theorem es_setLc {i : Nat} {y : Str} {py : Pos} {elt tg iter : Expr} {ifs : List Expr} {scope : Scope} {own : List (Str × Nat)} {spos : Pos} {src : Ew} {gt : TG} {u : Ut} {test fe : Ev} (hc : X.calm = true) (hN : X.N.Nodup) (hy : X.N[i]? = some y) (hyl : X.env.scope.names.lookup y = some .local)
    (hsw : swapsWith (.ListComp elt [⟨tg, iter, ifs, 0⟩] scope pos) (some (.Name y py)) spos.line X.env = pure true) (hi : PI X tg iter (iOf src)) (ok : BlkOk X.N X.env.scope scope own) (gs : GS gt u (own.map (·.2)))
    (hg : ∀ (s : Shared) (H : Hp) (C : Addr) (cl : List (Str × Addr)) (fp : List Addr), PG (X.blk s H scope (compEnvC scope cl C X.env) fp) tg gt) (ht : ∀ (s : Shared) (H : Hp) (C : Addr) (cl : List (Str × Addr)) (fp : List Addr), PTs (X.blk s H scope (compEnvC scope cl C X.env) fp) ifs (ttOf test))
    (he : ∀ (s : Shared) (H : Hp) (C : Addr) (cl : List (Str × Addr)) (fp : List Addr), PE (X.blk s H scope (compEnvC scope cl C X.env) fp) elt (tOf fe)) (hs : ∀ x, foldedSetIterable iter X.env x = pure x := by intro _; rfl) :
    PS X (.Assign [.Name y py] (.ListComp elt [⟨tg, iter, ifs, 0⟩] scope pos) spos) (sOf (sAsg (eComp src u test fe (own.map (·.2))) i)) :=
  ps_imp (ps_setLc hc hN hy hyl hsw hi ok hg ht he hs) fun D' σ H h => comp_read gs σ H _ (asg_read D' σ H h)
end
end RB
set_option Elab.async false
set_option linter.all false
set_option maxRecDepth 100000
set_option maxHeartbeats 4000000
/-! What the walk asks of the module behind its top. Printed by walk.py. -/
namespace RB
open PySem PySem.Spec PyProof.Rows L2
def defs0 : List (Str × Stmt) := [("is_integer", s_is_integer), ("is_within", s_is_within), ("is_numbers", s_is_numbers), ("is_lot", s_is_lot), ("first_twice", s_first_twice), ("need_lot_of", s_need_lot_of), ("lot_in", s_lot_in), ("lots_in", s_lots_in), ("fixed", s_fixed), ("lot_key", s_lot_key), ("mask_of", s_mask_of), ("lot_of", s_lot_of), ("table_by", s_table_by), ("is_parted", s_is_parted), ("greatest_of", s_greatest_of), ("need_book", s_need_book), ("beaten_lot", s_beaten_lot), ("at_odds", s_at_odds), ("are_equals", s_are_equals), ("equals", s_equals)]
def defs1 : List (Str × Stmt) := [("are_lengths", s_are_lengths), ("are_had", s_are_had), ("has_lengths", s_has_lengths), ("rising", s_rising), ("least_lengths", s_least_lengths), ("shorts_with", s_shorts_with), ("trade_by", s_trade_by), ("lengths_for", s_lengths_for), ("are_lots", s_are_lots), ("is_trade", s_is_trade), ("shows_lengths", s_shows_lengths), ("_law_hat", s_L_hat), ("_law_lot", s_L_lot), ("_law_one", s_L_one), ("_law_lots", s_L_lots), ("_law_others", s_L_others), ("_law_lies", s_L_lies), ("_law_greatest", s_L_greatest), ("_law_of_lengths", s_L_of_lengths), ("_law_stepped", s_L_stepped)]
def defs2 : List (Str × Stmt) := [("_law_lengths", s_L_lengths), ("_law_shorts", s_L_shorts), ("_law_mixed", s_L_mixed), ("_law_book", s_L_book), ("_law_beaten", s_L_beaten), ("_law_odds", s_L_odds), ("_law_is_trade", s_L_is_trade), ("_law_lengths_right", s_L_lengths_right), ("_law_trade_right", s_L_trade_right), ("law", s_law)]
def defsL : List (Str × Stmt) := defs0 ++ defs1 ++ defs2
def frees : List Str := ["isinstance", "int", "bool", "list", "tuple", "all", "any", "zip", "range", "sorted", "sum", "enumerate", "len", "abs", "super"]
/-- the classes' addresses -/
structure Cs where
  B : Addr
  L : Addr
  T : Addr
  P : Addr
  D : Addr
  /-- the table of the code object of the one def that makes a lambda -/
  tab : Addr
/-- which class stands for an isinstance's answer -/
def Cs.isBook (c : Cs) (C : Addr) : Option Bool := if C = c.B then some true else none
def Cs.isLengths (c : Cs) (C : Addr) : Option Bool := if C = c.L then some true else none
def Cs.isTrade (c : Cs) (C : Addr) : Option Bool := if C = c.T then some true else if C = c.L then some false else none
def Cs.isPaper (c : Cs) (C : Addr) : Option Bool := if C = c.T then some true else if C = c.L then some true else none
def Cs.isDenial (c : Cs) (C : Addr) : Option Bool := if C = c.T then some true else if C = c.L then some false else none
structure En (P : Program) (w : World) (K : PySem.W.Frag) (mg : Str → Option Value) (base : Heap) (c : Cs) : Prop where
  df : ∀ p ∈ defsL, ∃ f fd, FunD K p.1 p.1 (defArgs p.2) (defBody p.2) (defScope p.2) [] [] f fd ∧ mg p.1 = some (.ref f)
  fr : ∀ x ∈ frees, mg x = none
  most : ∃ t, mg "MOST" = some (.int 6 t)
  few : ∃ t, mg "FEWEST" = some (.int 3 t)
  cB : mg "Book" = some (.ref c.B)
  cL : mg "Lengths" = some (.ref c.L)
  cT : mg "Trade" = some (.ref c.T)
  cP : mg "Paper" = some (.ref c.P)
  cD : mg "Denial" = some (.ref c.D)
  iB : InsK K c.B
  iL : InsK K c.L
  iT : InsK K c.T
  nB : ∀ x ∈ [("table" : Str), "many", "greatest"], NoAttr K c.B x
  nL : ∀ x ∈ [("word" : Str), "parts", "lengths"], NoAttr K c.L x
  nT : ∀ x ∈ [("word" : Str), "parts", "short", "long"], NoAttr K c.T x
  kBB : PySem.W.kitOne K (.ref c.B) (.ref c.B) = some true
  kLL : PySem.W.kitOne K (.ref c.L) (.ref c.L) = some true
  kLT : PySem.W.kitOne K (.ref c.L) (.ref c.T) = some false
  kTT : PySem.W.kitOne K (.ref c.T) (.ref c.T) = some true
  kLP : PySem.W.kitOne K (.ref c.L) (.ref c.P) = some true
  kTP : PySem.W.kitOne K (.ref c.T) (.ref c.P) = some true
  kLD : PySem.W.kitOne K (.ref c.L) (.ref c.D) = some false
  kTD : PySem.W.kitOne K (.ref c.T) (.ref c.D) = some true
  bP : ∃ f fd, FunD K "__bool__" "Paper.__bool__" (defArgs s_Paper_bool) (defBody s_Paper_bool) (defScope s_Paper_bool) [] [] f fd ∧ PySem.W.findIn K (.ref c.L) "__bool__" = some (some (.ref f)) ∧ PySem.W.isFn K (.ref f) = true
  bD : ∃ f fd, FunD K "__bool__" "Denial.__bool__" (defArgs s_Denial_bool) (defBody s_Denial_bool) (defScope s_Denial_bool) [] [] f fd ∧ PySem.W.findIn K (.ref c.T) "__bool__" = some (some (.ref f)) ∧ PySem.W.isFn K (.ref f) = true
  eP : ∃ f fd, FunD K "__eq__" "Paper.__eq__" (defArgs s_Paper_eq) (defBody s_Paper_eq) (defScope s_Paper_eq) [] [] f fd ∧ OwnNe K c.L f ∧ OwnNe K c.T f
  nmL : ClsName K c.L "Lengths"
  nmT : ClsName K c.T "Trade"
  mB : ∃ f fd, FunD K "__init__" "Book.__init__" (defArgs s_Book_init) (defBody s_Book_init) (defScope s_Book_init) [] [] f fd ∧ Mk K c.B f
  mP : ∃ f2 fd2, FunD K "__init__" "Paper.__init__" (defArgs s_Paper_init) (defBody s_Paper_init) (defScope s_Paper_init) [] [] f2 fd2 ∧
    (∃ f cc cd, SupK P K c.L f f2 cc cd "Lengths.__init__" (defArgs s_Lengths_init) (defBody s_Lengths_init) (defScope s_Lengths_init) ∧ Mk K c.L f) ∧
    ∃ f cc cd, SupK P K c.T f f2 cc cd "Trade.__init__" (defArgs s_Trade_init) (defBody s_Trade_init) (defScope s_Trade_init) ∧ Mk K c.T f
  lam : ∃ f fd oc od dV kV doc pm an cc ct osl, FunD K "least_lengths" "least_lengths" (defArgs s_least_lengths) (defBody s_least_lengths) (defScope s_least_lengths) [] [] f fd ∧ mg "least_lengths" = some (.ref f) ∧
    fd = PySem.W.fnOf "least_lengths" "least_lengths" (defArgs s_least_lengths) (defBody s_least_lengths) (defScope s_least_lengths) dV kV doc pm an (.ref cc) ct ∧ K.lookup f = some ⟨oc, od, .func fd, osl⟩ ∧ PySem.W.codeIn K (.ref cc) "least_lengths" = true ∧ LamX.TabB base mg cc c.tab
  top : (P.main.scope.names.lookup ("super" : Str)).isSome = false
section
variable {P : Program} {w : World} {K : PySem.W.Frag} {mg : Str → Option Value} {base : Heap} {cs : Cs}
theorem En.pMOST (E : En P w K mg base cs) {X : Cx} {pos : Pos} (hg : Gl X "MOST") (hm : X.mg = mg) : PE X (.Name "MOST" pos) (tC (.int 6)) := by
  obtain ⟨t, h⟩ := E.most
  exact pe_glob hg (by rw [hm]; exact h) ⟨t, rfl⟩
theorem En.pFEWEST (E : En P w K mg base cs) {X : Cx} {pos : Pos} (hg : Gl X "FEWEST") (hm : X.mg = mg) : PE X (.Name "FEWEST" pos) (tC (.int 3)) := by
  obtain ⟨t, h⟩ := E.few
  exact pe_glob hg (by rw [hm]; exact h) ⟨t, rfl⟩
theorem En.oneB (E : En P w K mg base cs) {x : Str} (hx : x ∈ [("table" : Str), "many", "greatest"]) : ∀ C ∈ [cs.B], Cls K C ∧ NoAttr K C x := fun C hC => by
  rw [List.mem_singleton.mp hC]
  exact ⟨E.iB.cl, E.nB x hx⟩
theorem En.fld_table (E : En P w K mg base cs) : ∀ C ∈ [cs.B], Cls K C ∧ NoAttr K C "table" := E.oneB (by decide)
theorem En.fld_many (E : En P w K mg base cs) : ∀ C ∈ [cs.B], Cls K C ∧ NoAttr K C "many" := E.oneB (by decide)
theorem En.fld_greatest (E : En P w K mg base cs) : ∀ C ∈ [cs.B], Cls K C ∧ NoAttr K C "greatest" := E.oneB (by decide)
theorem En.fld_lengths (E : En P w K mg base cs) : ∀ C ∈ [cs.L], Cls K C ∧ NoAttr K C "lengths" := fun C hC => by
  rw [List.mem_singleton.mp hC]
  exact ⟨E.iL.cl, E.nL _ (by decide)⟩
theorem En.fld_short (E : En P w K mg base cs) : ∀ C ∈ [cs.T], Cls K C ∧ NoAttr K C "short" := fun C hC => by
  rw [List.mem_singleton.mp hC]
  exact ⟨E.iT.cl, E.nT _ (by decide)⟩
theorem En.fld_long (E : En P w K mg base cs) : ∀ C ∈ [cs.T], Cls K C ∧ NoAttr K C "long" := fun C hC => by
  rw [List.mem_singleton.mp hC]
  exact ⟨E.iT.cl, E.nT _ (by decide)⟩
theorem En.fld_word (E : En P w K mg base cs) : ∀ C ∈ [cs.L, cs.T], Cls K C ∧ NoAttr K C "word" := fun C hC => by
  rcases List.mem_cons.mp hC with h | h
  · rw [h]; exact ⟨E.iL.cl, E.nL _ (by decide)⟩
  · rw [List.mem_singleton.mp h]; exact ⟨E.iT.cl, E.nT _ (by decide)⟩
theorem En.fld_parts (E : En P w K mg base cs) : ∀ C ∈ [cs.L, cs.T], Cls K C ∧ NoAttr K C "parts" := fun C hC => by
  rcases List.mem_cons.mp hC with h | h
  · rw [h]; exact ⟨E.iL.cl, E.nL _ (by decide)⟩
  · rw [List.mem_singleton.mp h]; exact ⟨E.iT.cl, E.nT _ (by decide)⟩
theorem En.isBook (E : En P w K mg base cs) (C : Addr) (b : Bool) (h : cs.isBook C = some b) : InsK K C ∧ PySem.W.kitOne K (.ref C) (.ref cs.B) = some b := by
  unfold Cs.isBook at h
  split at h
  · rename_i e; cases h; rw [e]; exact ⟨E.iB, E.kBB⟩
  · cases h
theorem En.isLengths (E : En P w K mg base cs) (C : Addr) (b : Bool) (h : cs.isLengths C = some b) : InsK K C ∧ PySem.W.kitOne K (.ref C) (.ref cs.L) = some b := by
  unfold Cs.isLengths at h
  split at h
  · rename_i e; cases h; rw [e]; exact ⟨E.iL, E.kLL⟩
  · cases h
theorem En.isTrade (E : En P w K mg base cs) (C : Addr) (b : Bool) (h : cs.isTrade C = some b) : InsK K C ∧ PySem.W.kitOne K (.ref C) (.ref cs.T) = some b := by
  unfold Cs.isTrade at h
  split at h
  · rename_i e; cases h; rw [e]; exact ⟨E.iT, E.kTT⟩
  · split at h
    · rename_i e; cases h; rw [e]; exact ⟨E.iL, E.kLT⟩
    · cases h
theorem En.isPaper (E : En P w K mg base cs) (C : Addr) (b : Bool) (h : cs.isPaper C = some b) : InsK K C ∧ PySem.W.kitOne K (.ref C) (.ref cs.P) = some b := by
  unfold Cs.isPaper at h
  split at h
  · rename_i e; cases h; rw [e]; exact ⟨E.iT, E.kTP⟩
  · split at h
    · rename_i e; cases h; rw [e]; exact ⟨E.iL, E.kLP⟩
    · cases h
theorem En.isDenial (E : En P w K mg base cs) (C : Addr) (b : Bool) (h : cs.isDenial C = some b) : InsK K C ∧ PySem.W.kitOne K (.ref C) (.ref cs.D) = some b := by
  unfold Cs.isDenial at h
  split at h
  · rename_i e; cases h; rw [e]; exact ⟨E.iT, E.kTD⟩
  · split at h
    · rename_i e; cases h; rw [e]; exact ⟨E.iL, E.kLD⟩
    · cases h
end
end RB
set_option Elab.async false
set_option linter.all false
set_option maxRecDepth 100000
set_option maxHeartbeats 4000000
/-! The walk of the pure defs of the program. Printed by walk.py. -/
namespace RB
open PySem PySem.Spec PyProof.Rows L2
section
variable {P : Program} {w : World} {K : PySem.W.Frag} {mg : Str → Option Value} {base : Heap} {cs : Cs}
noncomputable def b_is_integer : Sv := (sSeq (sRet (eAnd (eIs isInt (eVar 0)) (eU gNot (eIs isBool (eVar 0))))) sNil)
noncomputable def g_is_integer : Gf := runE (b_is_integer) 1 1
theorem c_is_integer (E : En P w K mg base cs) : CalE P w K mg base 1 "is_integer" (spE (g_is_integer)) := by
  obtain ⟨f, fd, F, m⟩ := E.df ("is_integer", s_is_integer) (List.mem_of_getElem? (i := 0) rfl)
  have nd := sc_is_integer.nd
  exact calE (k := 0) (sv := b_is_integer) F m sc_is_integer (fun _ _ _ _ _ _ us hl => match us, hl with | [_], _ => rfl) fun cdv A outer s H E0 hr =>
    (ess_cons (es_ret (ev_and (ev_isInt rfl (E.fr "isinstance" (by decide)) rfl (E.fr "int" (by decide)) (ev_var 0)) (ev_one (ev_not (ev_isBool rfl (E.fr "isinstance" (by decide)) rfl (E.fr "bool" (by decide)) (ev_var 0)))))) ess_nil)
noncomputable def b_lot_key : Sv := (sSeq (sRet (eData (eCons (eData (eCons (eVar 0) eNil) gLen) (eCons (eVar 0) eNil)) kTup)) sNil)
noncomputable def g_lot_key : Gf := runE (b_lot_key) 1 1
theorem c_lot_key (E : En P w K mg base cs) : CalE P w K mg base 1 "lot_key" (spE (g_lot_key)) := by
  obtain ⟨f, fd, F, m⟩ := E.df ("lot_key", s_lot_key) (List.mem_of_getElem? (i := 9) rfl)
  have nd := sc_lot_key.nd
  exact calE (k := 0) (sv := b_lot_key) F m sc_lot_key (fun _ _ _ _ _ _ us hl => match us, hl with | [_], _ => rfl) fun cdv A outer s H E0 hr =>
    (ess_cons (es_ret (ev_tup (ea_cons (ev_len rfl (E.fr "len" (by decide)) (ea_cons (ev_var 0) ea_nil)) (ea_cons (ev_var 0) ea_nil)))) ess_nil)
noncomputable def b_mask_of : Sv := (sSeq (sRet (eData (eCons (eComp (eSeq (eVar 0)) (u1 1) (eC (.bool true)) (eB gShl (eC (.int 1)) (eVar 1)) [1]) eNil) gSum)) sNil)
noncomputable def g_mask_of : Gf := runE (b_mask_of) 2 1
theorem c_mask_of (E : En P w K mg base cs) : CalE P w K mg base 1 "mask_of" (spE (g_mask_of)) := by
  obtain ⟨f, fd, F, m⟩ := E.df ("mask_of", s_mask_of) (List.mem_of_getElem? (i := 10) rfl)
  have nd := sc_mask_of.nd
  exact calE (k := 0) (sv := b_mask_of) F m sc_mask_of (fun _ _ _ _ _ _ us hl => match us, hl with | [_], _ => rfl) fun cdv A outer s H E0 hr =>
    (ess_cons (es_ret (ev_sum rfl rfl (E.fr "sum" (by decide)) (ea_cons (ev_lc (own := [("bar", 1)]) rfl nd (ei_seq (ev_var 0)) (blkOk_by (N := ["lot", "bar"]) (sc := (defScope s_mask_of)) (own := [("bar", 1)]) (by first | decide +kernel | rfl)) (gs_name (i := 1) (vs := [1]) (by decide)) (fun _ _ _ _ _ => (pg_name (i := 1) nd rfl (by first | exact .inl rfl | exact .inr rfl))) (fun _ _ _ _ _ => ets_nil) (fun _ _ _ _ _ => (ev_shl (ev_c pe_int (fun _ => .int _)) (ev_var 1)))) ea_nil))) ess_nil)
noncomputable def b_lot_of : Sv := (sSeq (sRet (eData (eCons (eComp (eRange (eCons (eC (.int 6)) eNil)) (u1 1) (eB gEq (eB gAnd (eB gShr (eVar 0) (eVar 1)) (eC (.int 1))) (eC (.int 1))) (eVar 1) [1]) eNil) gTuple)) sNil)
noncomputable def g_lot_of : Gf := runE (b_lot_of) 2 1
theorem c_lot_of (E : En P w K mg base cs) : CalE P w K mg base 1 "lot_of" (spE (g_lot_of)) := by
  obtain ⟨f, fd, F, m⟩ := E.df ("lot_of", s_lot_of) (List.mem_of_getElem? (i := 11) rfl)
  have nd := sc_lot_of.nd
  exact calE (k := 0) (sv := b_lot_of) F m sc_lot_of (fun _ _ _ _ _ _ us hl => match us, hl with | [_], _ => rfl) fun cdv A outer s H E0 hr =>
    (ess_cons (es_ret (ev_tuple rfl (E.fr "tuple" (by decide)) (ea_cons (ev_lc (own := [("bar", 1)]) rfl nd (ei_range1 rfl (E.fr "range" (by decide)) (ea_cons (ev_c (E.pMOST rfl rfl) (fun _ => .int _)) ea_nil)) (blkOk_by (N := ["mask", "bar"]) (sc := (defScope s_lot_of)) (own := [("bar", 1)]) (by first | decide +kernel | rfl)) (gs_name (i := 1) (vs := [1]) (by decide)) (fun _ _ _ _ _ => (pg_name (i := 1) nd rfl (by first | exact .inl rfl | exact .inr rfl))) (fun _ _ _ _ _ => (ets_one (et_eq hr (ev_band (ev_shr (ev_var 0) (ev_var 1)) (ev_c pe_int (fun _ => .int _))) (ev_c pe_int (fun _ => .int _))))) (fun _ _ _ _ _ => (ev_var 1))) ea_nil))) ess_nil)
noncomputable def b_is_parted : Sv := (sSeq (sRet (eData (eCons (eComp (eEnum (eCons (eVar 0) eNil)) (u2 1 2) (eC (.bool true)) (eB gNe (eVar 2) (eB gIx (eVar 0) (eB gSub (eU gNeg (eC (.int 1))) (eVar 1)))) [1, 2]) eNil) gAll)) sNil)
noncomputable def g_is_parted : Gf := runE (b_is_parted) 3 1
theorem c_is_parted (E : En P w K mg base cs) : CalE P w K mg base 1 "is_parted" (spE (g_is_parted)) := by
  obtain ⟨f, fd, F, m⟩ := E.df ("is_parted", s_is_parted) (List.mem_of_getElem? (i := 13) rfl)
  have nd := sc_is_parted.nd
  exact calE (k := 0) (sv := b_is_parted) F m sc_is_parted (fun _ _ _ _ _ _ us hl => match us, hl with | [_], _ => rfl) fun cdv A outer s H E0 hr =>
    (ess_cons (es_ret (ev_all rfl rfl (E.fr "all" (by decide)) (ea_cons (ev_lc (own := [("mask", 1), ("is_short", 2)]) rfl nd (ei_enum rfl (E.fr "enumerate" (by decide)) (ea_cons (ev_var 0) ea_nil)) (blkOk_by (N := ["table", "mask", "is_short"]) (sc := (defScope s_is_parted)) (own := [("mask", 1), ("is_short", 2)]) (by first | decide +kernel | rfl)) (gs_pair (K := K) (i := 1) (j := 2) (vs := [1, 2]) (by decide) (by decide)) (fun _ _ _ _ _ => (pg_tup rfl (pgs_cons (pg_name (i := 1) nd rfl (by first | exact .inl rfl | exact .inr rfl)) (pgs_cons (pg_name (i := 2) nd rfl (by first | exact .inl rfl | exact .inr rfl)) pgs_nil)))) (fun _ _ _ _ _ => ets_nil) (fun _ _ _ _ _ => (ev_ne hr (ev_var 2) (ev_at (ev_var 0) (ev_sub (ev_neg (ev_c pe_int (fun _ => .int _))) (ev_var 1)))))) ea_nil))) ess_nil)
noncomputable def b_need_book (cs : Cs) : Sv := (sSeq (sIf (eU gNot (eIsC cs.isBook (eVar 0))) (sSeq sNever sNil) sNil) sNil)
noncomputable def g_need_book (cs : Cs) : Gf := runE (b_need_book cs) 2 2
theorem c_need_book (E : En P w K mg base cs) : CalE P w K mg base 1 "need_book" (spE (g_need_book cs)) := by
  obtain ⟨f, fd, F, m⟩ := E.df ("need_book", s_need_book) (List.mem_of_getElem? (i := 15) rfl)
  have nd := sc_need_book.nd
  exact calE (k := 0) (sv := b_need_book cs) F m sc_need_book (fun _ _ _ _ _ _ us hl => match us, hl with | [_, _], _ => rfl) fun cdv A outer s H E0 hr =>
    (ess_cons (es_if (et_not (et_val (ev_isC E.isBook rfl (E.fr "isinstance" (by decide)) rfl E.cB (ev_var 0)))) (ess_cons es_never ess_nil) ess_nil) ess_nil)
noncomputable def b_beaten_lot (cs : Cs) : Sv := (sSeq (sFor (eRange (eCons (eData (eCons (eFlds [cs.B] "table" (eVar 0)) eNil) gLen) eNil)) (u1 3) (sSeq (sIf (eAnd (eB gEq (eB gAnd (eVar 3) (eB gOr (eB gShl (eC (.int 1)) (eVar 1)) (eB gShl (eC (.int 1)) (eVar 2)))) (eC (.int 0))) (eAnd (eU gNot (eB gIx (eFlds [cs.B] "table" (eVar 0)) (eB gOr (eVar 3) (eB gShl (eC (.int 1)) (eVar 1))))) (eB gIx (eFlds [cs.B] "table" (eVar 0)) (eB gOr (eVar 3) (eB gShl (eC (.int 1)) (eVar 2)))))) (sSeq (sRet (eVar 3)) sNil) sNil) sNil)) (sSeq (sRet (eC .none)) sNil))
noncomputable def g_beaten_lot (cs : Cs) : Gf := runE (b_beaten_lot cs) 4 3
theorem c_beaten_lot (E : En P w K mg base cs) : CalE P w K mg base 1 "beaten_lot" (spE (g_beaten_lot cs)) := by
  obtain ⟨f, fd, F, m⟩ := E.df ("beaten_lot", s_beaten_lot) (List.mem_of_getElem? (i := 16) rfl)
  have nd := sc_beaten_lot.nd
  exact calE (k := 0) (sv := b_beaten_lot cs) F m sc_beaten_lot (fun _ _ _ _ _ _ us hl => match us, hl with | [_, _, _], _ => rfl) fun cdv A outer s H E0 hr =>
    (ess_cons (es_for PassesOwn.never rfl (ei_range1 rfl (E.fr "range" (by decide)) (ea_cons (ev_len rfl (E.fr "len" (by decide)) (ea_cons (ev_flds (E.fld_table) (ev_var 0)) ea_nil)) ea_nil)) (gs_name (i := 3) (vs := [3]) (by decide)) (pg_name (i := 3) nd rfl (by first | exact .inl rfl | exact .inr rfl)) (ess_cons (es_if (ew_pt (ew_and (et_eq hr (ev_band (ev_var 3) (ev_bor (ev_shl (ev_c pe_int (fun _ => .int _)) (ev_var 1)) (ev_shl (ev_c pe_int (fun _ => .int _)) (ev_var 2)))) (ev_c pe_int (fun _ => .int _))) (ew_and (et_not (et_val (ev_at (ev_flds (E.fld_table) (ev_var 0)) (ev_bor (ev_var 3) (ev_shl (ev_c pe_int (fun _ => .int _)) (ev_var 1)))))) (ew_and1 (et_val (ev_at (ev_flds (E.fld_table) (ev_var 0)) (ev_bor (ev_var 3) (ev_shl (ev_c pe_int (fun _ => .int _)) (ev_var 2))))))))) (ess_cons (es_ret (ev_var 3)) ess_nil) ess_nil) ess_nil)) (ess_cons (es_ret (ev_c pe_non (fun _ => .non))) ess_nil))
noncomputable def b_shorts_with (cs : Cs) : Sv := (sSeq (sRet (eData (eCons (eComp (eEnum (eCons (eFlds [cs.B] "table" (eVar 0)) eNil)) (u2 2 3) (eAnd (eVar 3) (eB gEq (eB gAnd (eB gShr (eVar 2) (eVar 1)) (eC (.int 1))) (eC (.int 1)))) (eVar 2) [2, 3]) eNil) gLen)) sNil)
noncomputable def g_shorts_with (cs : Cs) : Gf := runE (b_shorts_with cs) 4 2
theorem c_shorts_with (E : En P w K mg base cs) : CalE P w K mg base 1 "shorts_with" (spE (g_shorts_with cs)) := by
  obtain ⟨f, fd, F, m⟩ := E.df ("shorts_with", s_shorts_with) (List.mem_of_getElem? (i := 25) rfl)
  have nd := sc_shorts_with.nd
  exact calE (k := 0) (sv := b_shorts_with cs) F m sc_shorts_with (fun _ _ _ _ _ _ us hl => match us, hl with | [_, _], _ => rfl) fun cdv A outer s H E0 hr =>
    (ess_cons (es_ret (ev_len rfl (E.fr "len" (by decide)) (ea_cons (ev_lc (own := [("mask", 2), ("is_short", 3)]) rfl nd (ei_enum rfl (E.fr "enumerate" (by decide)) (ea_cons (ev_flds (E.fld_table) (ev_var 0)) ea_nil)) (blkOk_by (N := ["book", "bar", "mask", "is_short"]) (sc := (defScope s_shorts_with)) (own := [("mask", 2), ("is_short", 3)]) (by first | decide +kernel | rfl)) (gs_pair (K := K) (i := 2) (j := 3) (vs := [2, 3]) (by decide) (by decide)) (fun _ _ _ _ _ => (pg_tup rfl (pgs_cons (pg_name (i := 2) nd rfl (by first | exact .inl rfl | exact .inr rfl)) (pgs_cons (pg_name (i := 3) nd rfl (by first | exact .inl rfl | exact .inr rfl)) pgs_nil)))) (fun _ _ _ _ _ => (ets_one (ew_pt (ew_and (et_val (ev_var 3)) (ew_and1 (et_eq hr (ev_band (ev_shr (ev_var 2) (ev_var 1)) (ev_c pe_int (fun _ => .int _))) (ev_c pe_int (fun _ => .int _)))))))) (fun _ _ _ _ _ => (ev_var 2))) ea_nil))) ess_nil)
noncomputable def b_is_within : Sv := (sSeq (sIf (eOr (eU gNot (eCall g_is_integer (eCons (eVar 0) eNil))) (eAnd (eB gIsNot (eVar 1) (eC .none)) (eB gLt (eVar 0) (eVar 1)))) (sSeq (sRet (eC (.bool false))) sNil) sNil) (sSeq (sRet (eOr (eB gIs (eVar 2) (eC .none)) (eB gLe (eVar 0) (eVar 2)))) sNil))
noncomputable def g_is_within : Gf := runE (b_is_within) 3 3
theorem c_is_within (E : En P w K mg base cs) : CalE P w K mg base 2 "is_within" (spE (g_is_within)) := by
  obtain ⟨f, fd, F, m⟩ := E.df ("is_within", s_is_within) (List.mem_of_getElem? (i := 1) rfl)
  have nd := sc_is_within.nd
  exact calE (k := 1) (sv := b_is_within) F m sc_is_within (fun _ _ _ _ _ _ us hl => match us, hl with | [_, _, _], _ => rfl) fun cdv A outer s H E0 hr =>
    (ess_cons (es_if (ew_pt (ew_or (et_not (et_val (ev_call (c_is_integer E) hr (by decide) rfl (ea_cons (ev_var 0) ea_nil)))) (ew_or1 (ew_pt (ew_and (et_isNot (ev_var 1) (ev_c pe_non (fun _ => .non))) (ew_and1 (et_lt (ev_var 0) (ev_var 1)))))))) (ess_cons (es_ret (ev_c pe_bl (fun _ => .bl _))) ess_nil) ess_nil) (ess_cons (es_ret (ev_or (ev_is (ev_var 2) (ev_c pe_non (fun _ => .non))) (ev_one (ev_le (ev_var 0) (ev_var 2))))) ess_nil))
noncomputable def b_is_numbers : Sv := (sSeq (sRet (eAnd (eIs isSeq (eVar 0)) (eData (eCons (eComp (eSeq (eVar 0)) (u1 1) (eC (.bool true)) (eCall g_is_integer (eCons (eVar 1) eNil)) [1]) eNil) gAll))) sNil)
noncomputable def g_is_numbers : Gf := runE (b_is_numbers) 2 1
theorem c_is_numbers (E : En P w K mg base cs) : CalE P w K mg base 2 "is_numbers" (spE (g_is_numbers)) := by
  obtain ⟨f, fd, F, m⟩ := E.df ("is_numbers", s_is_numbers) (List.mem_of_getElem? (i := 2) rfl)
  have nd := sc_is_numbers.nd
  exact calE (k := 1) (sv := b_is_numbers) F m sc_is_numbers (fun _ _ _ _ _ _ us hl => match us, hl with | [_], _ => rfl) fun cdv A outer s H E0 hr =>
    (ess_cons (es_ret (ev_and (ev_isSeq rfl (E.fr "isinstance" (by decide)) rfl (E.fr "list" (by decide)) rfl (E.fr "tuple" (by decide)) (ev_var 0)) (ev_one (ev_all rfl rfl (E.fr "all" (by decide)) (ea_cons (ev_lc (own := [("part", 1)]) rfl nd (ei_seq (ev_var 0)) (blkOk_by (N := ["value", "part"]) (sc := (defScope s_is_numbers)) (own := [("part", 1)]) (by first | decide +kernel | rfl)) (gs_name (i := 1) (vs := [1]) (by decide)) (fun _ _ _ _ _ => (pg_name (i := 1) nd rfl (by first | exact .inl rfl | exact .inr rfl))) (fun _ _ _ _ _ => ets_nil) (fun _ _ _ _ _ => (ev_call (c_is_integer E) hr (by decide) rfl (ea_cons (ev_var 1) ea_nil)))) ea_nil))))) ess_nil)
noncomputable def b_table_by : Sv := (sSeq (sAsg (eComp (eSeq (eVar 1)) (u1 3) (eC (.bool true)) (eCall g_mask_of (eCons (eVar 3) eNil)) [3]) 2) (sSeq (sRet (eComp (eRange (eCons (eB gShl (eC (.int 1)) (eVar 0)) eNil)) (u1 4) (eC (.bool true)) (eData (eCons (eComp (eSeq (eVar 2)) (u1 5) (eC (.bool true)) (eB gEq (eB gAnd (eVar 4) (eU gInv (eVar 5))) (eC (.int 0))) [5]) eNil) gAny) [4])) sNil))
noncomputable def g_table_by : Gf := runE (b_table_by) 6 2
theorem c_table_by (E : En P w K mg base cs) : CalE P w K mg base 2 "table_by" (spE (g_table_by)) := by
  obtain ⟨f, fd, F, m⟩ := E.df ("table_by", s_table_by) (List.mem_of_getElem? (i := 12) rfl)
  have nd := sc_table_by.nd
  exact calE (k := 1) (sv := b_table_by) F m sc_table_by (fun _ _ _ _ _ _ us hl => match us, hl with | [_, _], _ => rfl) fun cdv A outer s H E0 hr =>
    (ess_cons (by first | exact es_set (i := 2) nd rfl (by first | exact .inl rfl | exact .inr rfl) (ev_lc (own := [("lot", 3)]) rfl nd (ei_seq (ev_var 1)) (blkOk_by (N := ["many", "lots", "masks", "lot", "mask", "one"]) (sc := (defScope s_table_by)) (own := [("lot", 3)]) (by first | decide +kernel | rfl)) (gs_name (i := 3) (vs := [3]) (by decide)) (fun _ _ _ _ _ => (pg_name (i := 3) nd rfl (by first | exact .inl rfl | exact .inr rfl))) (fun _ _ _ _ _ => ets_nil) (fun _ _ _ _ _ => (ev_call (c_mask_of E) hr (by decide) rfl (ea_cons (ev_var 3) ea_nil)))) | exact es_setLc (i := 2) (own := [("lot", 3)]) rfl nd rfl rfl (sw_true rfl rfl rfl (by decide +kernel)) (ei_seq (ev_var 1)) (blkOk_by (N := ["many", "lots", "masks", "lot", "mask", "one"]) (sc := (defScope s_table_by)) (own := [("lot", 3)]) (by first | decide +kernel | rfl)) (gs_name (i := 3) (vs := [3]) (by decide)) (fun _ _ _ _ _ => (pg_name (i := 3) nd rfl (by first | exact .inl rfl | exact .inr rfl))) (fun _ _ _ _ _ => ets_nil) (fun _ _ _ _ _ => (ev_call (c_mask_of E) hr (by decide) rfl (ea_cons (ev_var 3) ea_nil)))) (ess_cons (es_ret (ev_lc (own := [("mask", 4)]) rfl nd (ei_range1 rfl (E.fr "range" (by decide)) (ea_cons (ev_shl (ev_c pe_int (fun _ => .int _)) (ev_var 0)) ea_nil)) (blkOk_by (N := ["many", "lots", "masks", "lot", "mask", "one"]) (sc := (defScope s_table_by)) (own := [("mask", 4)]) (by first | decide +kernel | rfl)) (gs_name (i := 4) (vs := [4]) (by decide)) (fun _ _ _ _ _ => (pg_name (i := 4) nd rfl (by first | exact .inl rfl | exact .inr rfl))) (fun _ _ _ _ _ => ets_nil) (fun _ _ _ _ _ => (ev_any rfl rfl (E.fr "any" (by decide)) (ea_cons (ev_lc (own := [("one", 5)]) rfl nd (ei_seq (ev_var 2)) (blkOk_by (N := ["many", "lots", "masks", "lot", "mask", "one"]) (sc := _) (own := [("one", 5)]) (by first | decide +kernel | rfl)) (gs_name (i := 5) (vs := [5]) (by decide)) (fun _ _ _ _ _ => (pg_name (i := 5) nd rfl (by first | exact .inl rfl | exact .inr rfl))) (fun _ _ _ _ _ => ets_nil) (fun _ _ _ _ _ => (ev_eq hr (ev_band (ev_var 4) (ev_inv (ev_var 5))) (ev_c pe_int (fun _ => .int _))))) ea_nil))))) ess_nil))
noncomputable def b_at_odds (cs : Cs) : Sv := (sSeq (sExp (eCall (g_need_book cs) (eCons (eVar 0) (eCons (eC (.str "book")) eNil)))) (sSeq (sFor (eRange (eCons (eFlds [cs.B] "many" (eVar 0)) eNil)) (u1 1) (sSeq (sFor (eRange2 (eCons (eB gAdd (eVar 1) (eC (.int 1))) (eCons (eFlds [cs.B] "many" (eVar 0)) eNil))) (u1 2) (sSeq (sIf (eAnd (eB gIsNot (eCall (g_beaten_lot cs) (eCons (eVar 0) (eCons (eVar 1) (eCons (eVar 2) eNil)))) (eC .none)) (eB gIsNot (eCall (g_beaten_lot cs) (eCons (eVar 0) (eCons (eVar 2) (eCons (eVar 1) eNil)))) (eC .none))) (sSeq (sRet (eData (eCons (eVar 1) (eCons (eVar 2) eNil)) kTup)) sNil) sNil) sNil)) sNil)) (sSeq (sRet (eC .none)) sNil)))
noncomputable def g_at_odds (cs : Cs) : Gf := runE (b_at_odds cs) 3 1
theorem c_at_odds (E : En P w K mg base cs) : CalE P w K mg base 2 "at_odds" (spE (g_at_odds cs)) := by
  obtain ⟨f, fd, F, m⟩ := E.df ("at_odds", s_at_odds) (List.mem_of_getElem? (i := 17) rfl)
  have nd := sc_at_odds.nd
  exact calE (k := 1) (sv := b_at_odds cs) F m sc_at_odds (fun _ _ _ _ _ _ us hl => match us, hl with | [_], _ => rfl) fun cdv A outer s H E0 hr =>
    (ess_cons (es_expr (ev_call (c_need_book E) hr (by decide) rfl (ea_cons (ev_var 0) (ea_cons (ev_c pe_str (fun _ => .str _)) ea_nil)))) (ess_cons (es_for PassesOwn.never rfl (ei_range1 rfl (E.fr "range" (by decide)) (ea_cons (ev_flds (E.fld_many) (ev_var 0)) ea_nil)) (gs_name (i := 1) (vs := [1]) (by decide)) (pg_name (i := 1) nd rfl (by first | exact .inl rfl | exact .inr rfl)) (ess_cons (es_for PassesOwn.never rfl (ei_range2 rfl (E.fr "range" (by decide)) (ea_cons (ev_add (ev_var 1) (ev_c pe_int (fun _ => .int _))) (ea_cons (ev_flds (E.fld_many) (ev_var 0)) ea_nil))) (gs_name (i := 2) (vs := [2]) (by decide)) (pg_name (i := 2) nd rfl (by first | exact .inl rfl | exact .inr rfl)) (ess_cons (es_if (ew_pt (ew_and (et_isNot (ev_call (c_beaten_lot E) hr (by decide) rfl (ea_cons (ev_var 0) (ea_cons (ev_var 1) (ea_cons (ev_var 2) ea_nil)))) (ev_c pe_non (fun _ => .non))) (ew_and1 (et_isNot (ev_call (c_beaten_lot E) hr (by decide) rfl (ea_cons (ev_var 0) (ea_cons (ev_var 2) (ea_cons (ev_var 1) ea_nil)))) (ev_c pe_non (fun _ => .non)))))) (ess_cons (es_ret (ev_tup (ea_cons (ev_var 1) (ea_cons (ev_var 2) ea_nil)))) ess_nil) ess_nil) ess_nil)) ess_nil)) (ess_cons (es_ret (ev_c pe_non (fun _ => .non))) ess_nil)))
noncomputable def b_are_equals (cs : Cs) : Sv := (sSeq (sRet (eAnd (eB gIs (eCall (g_beaten_lot cs) (eCons (eVar 0) (eCons (eVar 1) (eCons (eVar 2) eNil)))) (eC .none)) (eB gIs (eCall (g_beaten_lot cs) (eCons (eVar 0) (eCons (eVar 2) (eCons (eVar 1) eNil)))) (eC .none)))) sNil)
noncomputable def g_are_equals (cs : Cs) : Gf := runE (b_are_equals cs) 3 3
theorem c_are_equals (E : En P w K mg base cs) : CalE P w K mg base 2 "are_equals" (spE (g_are_equals cs)) := by
  obtain ⟨f, fd, F, m⟩ := E.df ("are_equals", s_are_equals) (List.mem_of_getElem? (i := 18) rfl)
  have nd := sc_are_equals.nd
  exact calE (k := 1) (sv := b_are_equals cs) F m sc_are_equals (fun _ _ _ _ _ _ us hl => match us, hl with | [_, _, _], _ => rfl) fun cdv A outer s H E0 hr =>
    (ess_cons (es_ret (ev_and (ev_is (ev_call (c_beaten_lot E) hr (by decide) rfl (ea_cons (ev_var 0) (ea_cons (ev_var 1) (ea_cons (ev_var 2) ea_nil)))) (ev_c pe_non (fun _ => .non))) (ev_one (ev_is (ev_call (c_beaten_lot E) hr (by decide) rfl (ea_cons (ev_var 0) (ea_cons (ev_var 2) (ea_cons (ev_var 1) ea_nil)))) (ev_c pe_non (fun _ => .non)))))) ess_nil)
noncomputable def b_are_had (cs : Cs) : Sv := (sSeq (sAsg (eData (eCons (eVar 1) eNil) gSum) 2) (sSeq (sFor (eEnum (eCons (eFlds [cs.B] "table" (eVar 0)) eNil)) (u2 3 4) (sSeq (sAsg (eB gMul (eC (.int 2)) (eData (eCons (eComp (eSeq (eCall g_lot_of (eCons (eVar 3) eNil))) (u1 6) (eC (.bool true)) (eB gIx (eVar 1) (eVar 6)) [6]) eNil) gSum)) 5) (sSeq (sIf (eOr (eB gEq (eVar 5) (eVar 2)) (eB gNe (eB gLt (eVar 5) (eVar 2)) (eVar 4))) (sSeq (sRet (eC (.bool false))) sNil) sNil) sNil))) (sSeq (sRet (eC (.bool true))) sNil)))
noncomputable def g_are_had (cs : Cs) : Gf := runE (b_are_had cs) 7 2
theorem c_are_had (E : En P w K mg base cs) : CalE P w K mg base 2 "are_had" (spE (g_are_had cs)) := by
  obtain ⟨f, fd, F, m⟩ := E.df ("are_had", s_are_had) (List.mem_of_getElem? (i := 21) rfl)
  have nd := sc_are_had.nd
  exact calE (k := 1) (sv := b_are_had cs) F m sc_are_had (fun _ _ _ _ _ _ us hl => match us, hl with | [_, _], _ => rfl) fun cdv A outer s H E0 hr =>
    (ess_cons (es_set (i := 2) nd rfl (by first | exact .inl rfl | exact .inr rfl) (ev_sum rfl rfl (E.fr "sum" (by decide)) (ea_cons (ev_var 1) ea_nil))) (ess_cons (es_for PassesOwn.never rfl (ei_enum rfl (E.fr "enumerate" (by decide)) (ea_cons (ev_flds (E.fld_table) (ev_var 0)) ea_nil)) (gs_pair (K := K) (i := 3) (j := 4) (vs := [3, 4]) (by decide) (by decide)) (pg_tup rfl (pgs_cons (pg_name (i := 3) nd rfl (by first | exact .inl rfl | exact .inr rfl)) (pgs_cons (pg_name (i := 4) nd rfl (by first | exact .inl rfl | exact .inr rfl)) pgs_nil))) (ess_cons (es_set (i := 5) nd rfl (by first | exact .inl rfl | exact .inr rfl) (ev_mul (ev_c pe_int (fun _ => .int _)) (ev_sum rfl rfl (E.fr "sum" (by decide)) (ea_cons (ev_lc (own := [("bar", 6)]) rfl nd (ei_seq (ev_call (c_lot_of E) hr (by decide) rfl (ea_cons (ev_var 3) ea_nil))) (blkOk_by (N := ["book", "lengths", "total", "mask", "is_short", "twice", "bar"]) (sc := (defScope s_are_had)) (own := [("bar", 6)]) (by first | decide +kernel | rfl)) (gs_name (i := 6) (vs := [6]) (by decide)) (fun _ _ _ _ _ => (pg_name (i := 6) nd rfl (by first | exact .inl rfl | exact .inr rfl))) (fun _ _ _ _ _ => ets_nil) (fun _ _ _ _ _ => (ev_at (ev_var 1) (ev_var 6)))) ea_nil)))) (ess_cons (es_if (ew_pt (ew_or (et_eq hr (ev_var 5) (ev_var 2)) (ew_or1 (et_ne hr (ev_lt (ev_var 5) (ev_var 2)) (ev_var 4))))) (ess_cons (es_ret (ev_c pe_bl (fun _ => .bl _))) ess_nil) ess_nil) ess_nil))) (ess_cons (es_ret (ev_c pe_bl (fun _ => .bl _))) ess_nil)))
noncomputable def b_is_lot : Sv := (sSeq (sIf (eOr (eU gNot (eCall g_is_numbers (eCons (eVar 0) eNil))) (eU gNot (eData (eCons (eComp (eSeq (eVar 0)) (u1 1) (eC (.bool true)) (eB gGe (eVar 1) (eC (.int 0))) [1]) eNil) gAll))) (sSeq (sRet (eC (.bool false))) sNil) sNil) (sSeq (sRet (eData (eCons (eComp (eZip (eCons (eSl (eVar 0) eP0 (eP (eU gNeg (eC (.int 1))))) (eCons (eSl (eVar 0) (eP (eC (.int 1))) eP0) eNil))) (u2 2 3) (eC (.bool true)) (eB gLt (eVar 2) (eVar 3)) [2, 3]) eNil) gAll)) sNil))
noncomputable def g_is_lot : Gf := runE (b_is_lot) 4 1
theorem c_is_lot (E : En P w K mg base cs) : CalE P w K mg base 3 "is_lot" (spE (g_is_lot)) := by
  obtain ⟨f, fd, F, m⟩ := E.df ("is_lot", s_is_lot) (List.mem_of_getElem? (i := 3) rfl)
  have nd := sc_is_lot.nd
  exact calE (k := 2) (sv := b_is_lot) F m sc_is_lot (fun _ _ _ _ _ _ us hl => match us, hl with | [_], _ => rfl) fun cdv A outer s H E0 hr =>
    (ess_cons (es_if (ew_pt (ew_or (et_not (et_val (ev_call (c_is_numbers E) hr (by decide) rfl (ea_cons (ev_var 0) ea_nil)))) (ew_or1 (et_not (et_val (ev_all rfl rfl (E.fr "all" (by decide)) (ea_cons (ev_lc (own := [("part", 1)]) rfl nd (ei_seq (ev_var 0)) (blkOk_by (N := ["value", "part", "one", "other"]) (sc := (defScope s_is_lot)) (own := [("part", 1)]) (by first | decide +kernel | rfl)) (gs_name (i := 1) (vs := [1]) (by decide)) (fun _ _ _ _ _ => (pg_name (i := 1) nd rfl (by first | exact .inl rfl | exact .inr rfl))) (fun _ _ _ _ _ => ets_nil) (fun _ _ _ _ _ => (ev_ge (ev_var 1) (ev_c pe_int (fun _ => .int _))))) ea_nil))))))) (ess_cons (es_ret (ev_c pe_bl (fun _ => .bl _))) ess_nil) ess_nil) (ess_cons (es_ret (ev_all rfl rfl (E.fr "all" (by decide)) (ea_cons (ev_lc (own := [("one", 2), ("other", 3)]) rfl nd (ei_zip rfl (E.fr "zip" (by decide)) (ea_cons (ev_slice (ev_var 0) ep_none (ep_some (ev_neg (ev_c pe_int (fun _ => .int _))))) (ea_cons (ev_slice (ev_var 0) (ep_some (ev_c pe_int (fun _ => .int _))) ep_none) ea_nil))) (blkOk_by (N := ["value", "part", "one", "other"]) (sc := (defScope s_is_lot)) (own := [("one", 2), ("other", 3)]) (by first | decide +kernel | rfl)) (gs_pair (K := K) (i := 2) (j := 3) (vs := [2, 3]) (by decide) (by decide)) (fun _ _ _ _ _ => (pg_tup rfl (pgs_cons (pg_name (i := 2) nd rfl (by first | exact .inl rfl | exact .inr rfl)) (pgs_cons (pg_name (i := 3) nd rfl (by first | exact .inl rfl | exact .inr rfl)) pgs_nil)))) (fun _ _ _ _ _ => ets_nil) (fun _ _ _ _ _ => (ev_lt (ev_var 2) (ev_var 3)))) ea_nil))) ess_nil))
noncomputable def b_are_lengths : Sv := (sSeq (sRet (eAnd (eCall g_is_numbers (eCons (eVar 0) eNil)) (eAnd (eB gEq (eData (eCons (eVar 0) eNil) gLen) (eVar 1)) (eData (eCons (eComp (eSeq (eVar 0)) (u1 2) (eC (.bool true)) (eB gGt (eVar 2) (eC (.int 0))) [2]) eNil) gAll)))) sNil)
noncomputable def g_are_lengths : Gf := runE (b_are_lengths) 3 2
theorem c_are_lengths (E : En P w K mg base cs) : CalE P w K mg base 3 "are_lengths" (spE (g_are_lengths)) := by
  obtain ⟨f, fd, F, m⟩ := E.df ("are_lengths", s_are_lengths) (List.mem_of_getElem? (i := 20) rfl)
  have nd := sc_are_lengths.nd
  exact calE (k := 2) (sv := b_are_lengths) F m sc_are_lengths (fun _ _ _ _ _ _ us hl => match us, hl with | [_, _], _ => rfl) fun cdv A outer s H E0 hr =>
    (ess_cons (es_ret (ev_and (ev_call (c_is_numbers E) hr (by decide) rfl (ea_cons (ev_var 0) ea_nil)) (ev_and (ev_eq hr (ev_len rfl (E.fr "len" (by decide)) (ea_cons (ev_var 0) ea_nil)) (ev_var 1)) (ev_one (ev_all rfl rfl (E.fr "all" (by decide)) (ea_cons (ev_lc (own := [("length", 2)]) rfl nd (ei_seq (ev_var 0)) (blkOk_by (N := ["value", "many", "length"]) (sc := (defScope s_are_lengths)) (own := [("length", 2)]) (by first | decide +kernel | rfl)) (gs_name (i := 2) (vs := [2]) (by decide)) (fun _ _ _ _ _ => (pg_name (i := 2) nd rfl (by first | exact .inl rfl | exact .inr rfl))) (fun _ _ _ _ _ => ets_nil) (fun _ _ _ _ _ => (ev_gt (ev_var 2) (ev_c pe_int (fun _ => .int _))))) ea_nil)))))) ess_nil)
noncomputable def b_has_lengths (cs : Cs) : Sv := (sSeq (sExp (eCall (g_need_book cs) (eCons (eVar 0) (eCons (eC (.str "book")) eNil)))) (sSeq (sIf (eU gNot (eCall g_are_lengths (eCons (eVar 1) (eCons (eFlds [cs.B] "many" (eVar 0)) eNil)))) (sSeq sNever sNil) sNil) (sSeq (sRet (eCall (g_are_had cs) (eCons (eVar 0) (eCons (eVar 1) eNil)))) sNil)))
noncomputable def g_has_lengths (cs : Cs) : Gf := runE (b_has_lengths cs) 2 2
theorem c_has_lengths (E : En P w K mg base cs) : CalE P w K mg base 4 "has_lengths" (spE (g_has_lengths cs)) := by
  obtain ⟨f, fd, F, m⟩ := E.df ("has_lengths", s_has_lengths) (List.mem_of_getElem? (i := 22) rfl)
  have nd := sc_has_lengths.nd
  exact calE (k := 3) (sv := b_has_lengths cs) F m sc_has_lengths (fun _ _ _ _ _ _ us hl => match us, hl with | [_, _], _ => rfl) fun cdv A outer s H E0 hr =>
    (ess_cons (es_expr (ev_call (c_need_book E) hr (by decide) rfl (ea_cons (ev_var 0) (ea_cons (ev_c pe_str (fun _ => .str _)) ea_nil)))) (ess_cons (es_if (et_not (et_val (ev_call (c_are_lengths E) hr (by decide) rfl (ea_cons (ev_var 1) (ea_cons (ev_flds (E.fld_many) (ev_var 0)) ea_nil))))) (ess_cons es_never ess_nil) ess_nil) (ess_cons (es_ret (ev_call (c_are_had E) hr (by decide) rfl (ea_cons (ev_var 0) (ea_cons (ev_var 1) ea_nil)))) ess_nil)))
noncomputable def b_are_lots : Sv := (sSeq (sRet (eAnd (eIs isTup (eVar 0)) (eData (eCons (eComp (eSeq (eVar 0)) (u1 2) (eC (.bool true)) (eAnd (eCall g_is_lot (eCons (eVar 2) eNil)) (eData (eCons (eComp (eSeq (eVar 2)) (u1 3) (eC (.bool true)) (eB gLt (eVar 3) (eVar 1)) [3]) eNil) gAll)) [2]) eNil) gAll))) sNil)
noncomputable def g_are_lots : Gf := runE (b_are_lots) 4 2
theorem c_are_lots (E : En P w K mg base cs) : CalE P w K mg base 4 "are_lots" (spE (g_are_lots)) := by
  obtain ⟨f, fd, F, m⟩ := E.df ("are_lots", s_are_lots) (List.mem_of_getElem? (i := 28) rfl)
  have nd := sc_are_lots.nd
  exact calE (k := 3) (sv := b_are_lots) F m sc_are_lots (fun _ _ _ _ _ _ us hl => match us, hl with | [_, _], _ => rfl) fun cdv A outer s H E0 hr =>
    (ess_cons (es_ret (ev_and (ev_isTup rfl (E.fr "isinstance" (by decide)) rfl (E.fr "tuple" (by decide)) (ev_var 0)) (ev_one (ev_all rfl rfl (E.fr "all" (by decide)) (ea_cons (ev_lc (own := [("lot", 2)]) rfl nd (ei_seq (ev_var 0)) (blkOk_by (N := ["value", "many", "lot", "bar"]) (sc := (defScope s_are_lots)) (own := [("lot", 2)]) (by first | decide +kernel | rfl)) (gs_name (i := 2) (vs := [2]) (by decide)) (fun _ _ _ _ _ => (pg_name (i := 2) nd rfl (by first | exact .inl rfl | exact .inr rfl))) (fun _ _ _ _ _ => ets_nil) (fun _ _ _ _ _ => (ev_and (ev_call (c_is_lot E) hr (by decide) rfl (ea_cons (ev_var 2) ea_nil)) (ev_one (ev_all rfl rfl (E.fr "all" (by decide)) (ea_cons (ev_lc (own := [("bar", 3)]) rfl nd (ei_seq (ev_var 2)) (blkOk_by (N := ["value", "many", "lot", "bar"]) (sc := _) (own := [("bar", 3)]) (by first | decide +kernel | rfl)) (gs_name (i := 3) (vs := [3]) (by decide)) (fun _ _ _ _ _ => (pg_name (i := 3) nd rfl (by first | exact .inl rfl | exact .inr rfl))) (fun _ _ _ _ _ => ets_nil) (fun _ _ _ _ _ => (ev_lt (ev_var 3) (ev_var 1)))) ea_nil)))))) ea_nil))))) ess_nil)
noncomputable def b_is_trade (cs : Cs) : Sv := (sSeq (sIf (eOr (eU gNot (eCall g_are_lots (eCons (eFlds [cs.T] "short" (eVar 1)) (eCons (eFlds [cs.B] "many" (eVar 0)) eNil)))) (eU gNot (eCall g_are_lots (eCons (eFlds [cs.T] "long" (eVar 1)) (eCons (eFlds [cs.B] "many" (eVar 0)) eNil))))) (sSeq (sRet (eC (.bool false))) sNil) sNil) (sSeq (sIf (eOr (eB gNe (eData (eCons (eFlds [cs.T] "short" (eVar 1)) eNil) gLen) (eData (eCons (eFlds [cs.T] "long" (eVar 1)) eNil) gLen)) (eB gEq (eData (eCons (eFlds [cs.T] "short" (eVar 1)) eNil) gLen) (eC (.int 0)))) (sSeq (sRet (eC (.bool false))) sNil) sNil) (sSeq (sIf (eU gNot (eData (eCons (eComp (eSeq (eFlds [cs.T] "short" (eVar 1))) (u1 2) (eC (.bool true)) (eB gIx (eFlds [cs.B] "table" (eVar 0)) (eCall g_mask_of (eCons (eVar 2) eNil))) [2]) eNil) gAll)) (sSeq (sRet (eC (.bool false))) sNil) sNil) (sSeq (sIf (eData (eCons (eComp (eSeq (eFlds [cs.T] "long" (eVar 1))) (u1 2) (eC (.bool true)) (eB gIx (eFlds [cs.B] "table" (eVar 0)) (eCall g_mask_of (eCons (eVar 2) eNil))) [2]) eNil) gAny) (sSeq (sRet (eC (.bool false))) sNil) sNil) (sSeq (sRet (eB gEq (eData (eCons (eComp2 (eSeq (eFlds [cs.T] "short" (eVar 1))) (u1 2) (eSeq (eVar 2)) (u1 3) (eVar 3) [2, 3] [3]) eNil) gSorted) (eData (eCons (eComp2 (eSeq (eFlds [cs.T] "long" (eVar 1))) (u1 2) (eSeq (eVar 2)) (u1 3) (eVar 3) [2, 3] [3]) eNil) gSorted))) sNil)))))
noncomputable def g_is_trade (cs : Cs) : Gf := runE (b_is_trade cs) 4 2
theorem c_is_trade (E : En P w K mg base cs) : CalE P w K mg base 5 "is_trade" (spE (g_is_trade cs)) := by
  obtain ⟨f, fd, F, m⟩ := E.df ("is_trade", s_is_trade) (List.mem_of_getElem? (i := 29) rfl)
  have nd := sc_is_trade.nd
  exact calE (k := 4) (sv := b_is_trade cs) F m sc_is_trade (fun _ _ _ _ _ _ us hl => match us, hl with | [_, _], _ => rfl) fun cdv A outer s H E0 hr =>
    (ess_cons (es_if (ew_pt (ew_or (et_not (et_val (ev_call (c_are_lots E) hr (by decide) rfl (ea_cons (ev_flds (E.fld_short) (ev_var 1)) (ea_cons (ev_flds (E.fld_many) (ev_var 0)) ea_nil))))) (ew_or1 (et_not (et_val (ev_call (c_are_lots E) hr (by decide) rfl (ea_cons (ev_flds (E.fld_long) (ev_var 1)) (ea_cons (ev_flds (E.fld_many) (ev_var 0)) ea_nil)))))))) (ess_cons (es_ret (ev_c pe_bl (fun _ => .bl _))) ess_nil) ess_nil) (ess_cons (es_if (ew_pt (ew_or (et_ne hr (ev_len rfl (E.fr "len" (by decide)) (ea_cons (ev_flds (E.fld_short) (ev_var 1)) ea_nil)) (ev_len rfl (E.fr "len" (by decide)) (ea_cons (ev_flds (E.fld_long) (ev_var 1)) ea_nil))) (ew_or1 (et_eq hr (ev_len rfl (E.fr "len" (by decide)) (ea_cons (ev_flds (E.fld_short) (ev_var 1)) ea_nil)) (ev_c pe_int (fun _ => .int _)))))) (ess_cons (es_ret (ev_c pe_bl (fun _ => .bl _))) ess_nil) ess_nil) (ess_cons (es_if (et_not (et_val (ev_all rfl rfl (E.fr "all" (by decide)) (ea_cons (ev_lc (own := [("lot", 2)]) rfl nd (ei_seq (ev_flds (E.fld_short) (ev_var 1))) (blkOk_by (N := ["book", "value", "lot", "bar"]) (sc := (defScope s_is_trade)) (own := [("lot", 2)]) (by first | decide +kernel | rfl)) (gs_name (i := 2) (vs := [2]) (by decide)) (fun _ _ _ _ _ => (pg_name (i := 2) nd rfl (by first | exact .inl rfl | exact .inr rfl))) (fun _ _ _ _ _ => ets_nil) (fun _ _ _ _ _ => (ev_at (ev_flds (E.fld_table) (ev_var 0)) (ev_call (c_mask_of E) hr (by decide) rfl (ea_cons (ev_var 2) ea_nil))))) ea_nil)))) (ess_cons (es_ret (ev_c pe_bl (fun _ => .bl _))) ess_nil) ess_nil) (ess_cons (es_if (et_val (ev_any rfl rfl (E.fr "any" (by decide)) (ea_cons (ev_lc (own := [("lot", 2)]) rfl nd (ei_seq (ev_flds (E.fld_long) (ev_var 1))) (blkOk_by (N := ["book", "value", "lot", "bar"]) (sc := (defScope s_is_trade)) (own := [("lot", 2)]) (by first | decide +kernel | rfl)) (gs_name (i := 2) (vs := [2]) (by decide)) (fun _ _ _ _ _ => (pg_name (i := 2) nd rfl (by first | exact .inl rfl | exact .inr rfl))) (fun _ _ _ _ _ => ets_nil) (fun _ _ _ _ _ => (ev_at (ev_flds (E.fld_table) (ev_var 0)) (ev_call (c_mask_of E) hr (by decide) rfl (ea_cons (ev_var 2) ea_nil))))) ea_nil))) (ess_cons (es_ret (ev_c pe_bl (fun _ => .bl _))) ess_nil) ess_nil) (ess_cons (es_ret (ev_eq hr (ev_sorted hr rfl (E.fr "sorted" (by decide)) (ea_cons (ev_lc2 (own := [("lot", 2), ("bar", 3)]) (vs1 := [3]) rfl nd (ei_seq (ev_flds (E.fld_short) (ev_var 1))) (blkOk_by (N := ["book", "value", "lot", "bar"]) (sc := (defScope s_is_trade)) (own := [("lot", 2), ("bar", 3)]) (by first | decide +kernel | rfl)) (by decide) (gs_name (i := 2) (vs := [2, 3]) (by decide)) (gs_name (i := 3) (vs := [3]) (by decide)) (fun _ _ _ _ _ => (pg_name (i := 2) nd rfl (by first | exact .inl rfl | exact .inr rfl))) (fun _ _ _ _ _ => (ei_seq (ev_var 2))) (fun _ _ _ _ _ => (pg_name (i := 3) nd rfl (by first | exact .inl rfl | exact .inr rfl))) (fun _ _ _ _ _ => (ev_var 3))) ea_nil)) (ev_sorted hr rfl (E.fr "sorted" (by decide)) (ea_cons (ev_lc2 (own := [("lot", 2), ("bar", 3)]) (vs1 := [3]) rfl nd (ei_seq (ev_flds (E.fld_long) (ev_var 1))) (blkOk_by (N := ["book", "value", "lot", "bar"]) (sc := (defScope s_is_trade)) (own := [("lot", 2), ("bar", 3)]) (by first | decide +kernel | rfl)) (by decide) (gs_name (i := 2) (vs := [2, 3]) (by decide)) (gs_name (i := 3) (vs := [3]) (by decide)) (fun _ _ _ _ _ => (pg_name (i := 2) nd rfl (by first | exact .inl rfl | exact .inr rfl))) (fun _ _ _ _ _ => (ei_seq (ev_var 2))) (fun _ _ _ _ _ => (pg_name (i := 3) nd rfl (by first | exact .inl rfl | exact .inr rfl))) (fun _ _ _ _ _ => (ev_var 3))) ea_nil)))) ess_nil)))))
noncomputable def b_shows_lengths (cs : Cs) : Sv := (sSeq (sExp (eCall (g_need_book cs) (eCons (eVar 0) (eCons (eC (.str "book")) eNil)))) (sSeq (sIf (eIsC cs.isTrade (eVar 1)) (sSeq (sRet (eCall (g_is_trade cs) (eCons (eVar 0) (eCons (eVar 1) eNil)))) sNil) sNil) (sSeq (sRet (eAnd (eIsC cs.isLengths (eVar 1)) (eAnd (eCall g_are_lengths (eCons (eFlds [cs.L] "lengths" (eVar 1)) (eCons (eFlds [cs.B] "many" (eVar 0)) eNil))) (eCall (g_are_had cs) (eCons (eVar 0) (eCons (eFlds [cs.L] "lengths" (eVar 1)) eNil)))))) sNil)))
noncomputable def g_shows_lengths (cs : Cs) : Gf := runE (b_shows_lengths cs) 2 2
theorem c_shows_lengths (E : En P w K mg base cs) : CalE P w K mg base 6 "shows_lengths" (spE (g_shows_lengths cs)) := by
  obtain ⟨f, fd, F, m⟩ := E.df ("shows_lengths", s_shows_lengths) (List.mem_of_getElem? (i := 30) rfl)
  have nd := sc_shows_lengths.nd
  exact calE (k := 5) (sv := b_shows_lengths cs) F m sc_shows_lengths (fun _ _ _ _ _ _ us hl => match us, hl with | [_, _], _ => rfl) fun cdv A outer s H E0 hr =>
    (ess_cons (es_expr (ev_call (c_need_book E) hr (by decide) rfl (ea_cons (ev_var 0) (ea_cons (ev_c pe_str (fun _ => .str _)) ea_nil)))) (ess_cons (es_if (et_val (ev_isC E.isTrade rfl (E.fr "isinstance" (by decide)) rfl E.cT (ev_var 1))) (ess_cons (es_ret (ev_call (c_is_trade E) hr (by decide) rfl (ea_cons (ev_var 0) (ea_cons (ev_var 1) ea_nil)))) ess_nil) ess_nil) (ess_cons (es_ret (ev_and (ev_isC E.isLengths rfl (E.fr "isinstance" (by decide)) rfl E.cL (ev_var 1)) (ev_and (ev_call (c_are_lengths E) hr (by decide) rfl (ea_cons (ev_flds (E.fld_lengths) (ev_var 1)) (ea_cons (ev_flds (E.fld_many) (ev_var 0)) ea_nil))) (ev_one (ev_call (c_are_had E) hr (by decide) rfl (ea_cons (ev_var 0) (ea_cons (ev_flds (E.fld_lengths) (ev_var 1)) ea_nil))))))) ess_nil)))
end
end RB
set_option Elab.async false
set_option linter.all false
set_option maxRecDepth 100000
set_option maxHeartbeats 4000000
/-! The walk of the pure defs of the law. Printed by walk.py. -/
namespace RB
open PySem PySem.Spec PyProof.Rows L2
section
variable {P : Program} {w : World} {K : PySem.W.Frag} {mg : Str → Option Value} {base : Heap} {cs : Cs}
noncomputable def b_L_lots : Sv := (sSeq (sAsg (eData (eCons (eData eNil kTup) eNil) kLst) 1) (sSeq (sFor (eRange (eCons (eVar 0) eNil)) (u1 2) (sSeq (sAsg (eB gAdd (eVar 1) (eComp (eSeq (eVar 1)) (u1 3) (eC (.bool true)) (eB gAdd (eVar 3) (eData (eCons (eVar 2) eNil) kTup)) [3])) 1) sNil)) (sSeq (sRet (eComp (eSeq (eData (eCons (eComp (eSeq (eVar 1)) (u1 3) (eC (.bool true)) (eData (eCons (eData (eCons (eVar 3) eNil) gLen) (eCons (eVar 3) eNil)) kTup) [3]) eNil) gSorted)) (u1 4) (eC (.bool true)) (eB gIx (eVar 4) (eC (.int 1))) [4])) sNil)))
noncomputable def g_L_lots : Gf := runE (b_L_lots) 5 1
theorem c_L_lots (E : En P w K mg base cs) : CalE P w K mg base 1 "_law_lots" (spE (g_L_lots)) := by
  obtain ⟨f, fd, F, m⟩ := E.df ("_law_lots", s_L_lots) (List.mem_of_getElem? (i := 34) rfl)
  have nd := sc_L_lots.nd
  exact calE (k := 0) (sv := b_L_lots) F m sc_L_lots (fun _ _ _ _ _ _ us hl => match us, hl with | [_], _ => rfl) fun cdv A outer s H E0 hr =>
    (ess_cons (es_set (i := 1) nd rfl (by first | exact .inl rfl | exact .inr rfl) (ev_lst (ea_cons (ev_tup ea_nil) ea_nil))) (ess_cons (es_for PassesOwn.never rfl (ei_range1 rfl (E.fr "range" (by decide)) (ea_cons (ev_var 0) ea_nil)) (gs_name (i := 2) (vs := [2]) (by decide)) (pg_name (i := 2) nd rfl (by first | exact .inl rfl | exact .inr rfl)) (ess_cons (es_set (i := 1) nd rfl (by first | exact .inl rfl | exact .inr rfl) (ev_add (ev_var 1) (ev_lc (own := [("_law_lot_here", 3)]) rfl nd (ei_seq (ev_var 1)) (blkOk_by (N := ["_law_many", "_law_found", "_law_bar", "_law_lot_here", "_law_pair"]) (sc := (defScope s_L_lots)) (own := [("_law_lot_here", 3)]) (by first | decide +kernel | rfl)) (gs_name (i := 3) (vs := [3]) (by decide)) (fun _ _ _ _ _ => (pg_name (i := 3) nd rfl (by first | exact .inl rfl | exact .inr rfl))) (fun _ _ _ _ _ => ets_nil) (fun _ _ _ _ _ => (ev_add (ev_var 3) (ev_tup (ea_cons (ev_var 2) ea_nil))))))) ess_nil)) (ess_cons (es_ret (ev_lc (own := [("_law_pair", 4)]) rfl nd (ei_seq (ev_sorted hr rfl (E.fr "sorted" (by decide)) (ea_cons (ev_lc (own := [("_law_lot_here", 3)]) rfl nd (ei_seq (ev_var 1)) (blkOk_by (N := ["_law_many", "_law_found", "_law_bar", "_law_lot_here", "_law_pair"]) (sc := (defScope s_L_lots)) (own := [("_law_lot_here", 3)]) (by first | decide +kernel | rfl)) (gs_name (i := 3) (vs := [3]) (by decide)) (fun _ _ _ _ _ => (pg_name (i := 3) nd rfl (by first | exact .inl rfl | exact .inr rfl))) (fun _ _ _ _ _ => ets_nil) (fun _ _ _ _ _ => (ev_tup (ea_cons (ev_len rfl (E.fr "len" (by decide)) (ea_cons (ev_var 3) ea_nil)) (ea_cons (ev_var 3) ea_nil))))) ea_nil))) (blkOk_by (N := ["_law_many", "_law_found", "_law_bar", "_law_lot_here", "_law_pair"]) (sc := (defScope s_L_lots)) (own := [("_law_pair", 4)]) (by first | decide +kernel | rfl)) (gs_name (i := 4) (vs := [4]) (by decide)) (fun _ _ _ _ _ => (pg_name (i := 4) nd rfl (by first | exact .inl rfl | exact .inr rfl))) (fun _ _ _ _ _ => ets_nil) (fun _ _ _ _ _ => (ev_at (ev_var 4) (ev_c pe_int (fun _ => .int _)))))) ess_nil)))
noncomputable def b_L_others : Sv := (sSeq (sRet (eData (eCons (eComp (eRange (eCons (eVar 1) eNil)) (u1 2) (eB (gIn true) (eVar 2) (eVar 0)) (eVar 2) [2]) eNil) gTuple)) sNil)
noncomputable def g_L_others : Gf := runE (b_L_others) 3 2
theorem c_L_others (E : En P w K mg base cs) : CalE P w K mg base 1 "_law_others" (spE (g_L_others)) := by
  obtain ⟨f, fd, F, m⟩ := E.df ("_law_others", s_L_others) (List.mem_of_getElem? (i := 35) rfl)
  have nd := sc_L_others.nd
  exact calE (k := 0) (sv := b_L_others) F m sc_L_others (fun _ _ _ _ _ _ us hl => match us, hl with | [_, _], _ => rfl) fun cdv A outer s H E0 hr =>
    (ess_cons (es_ret (ev_tuple rfl (E.fr "tuple" (by decide)) (ea_cons (ev_lc (own := [("_law_bar", 2)]) rfl nd (ei_range1 rfl (E.fr "range" (by decide)) (ea_cons (ev_var 1) ea_nil)) (blkOk_by (N := ["_law_lot_here", "_law_many", "_law_bar"]) (sc := (defScope s_L_others)) (own := [("_law_bar", 2)]) (by first | decide +kernel | rfl)) (gs_name (i := 2) (vs := [2]) (by decide)) (fun _ _ _ _ _ => (pg_name (i := 2) nd rfl (by first | exact .inl rfl | exact .inr rfl))) (fun _ _ _ _ _ => (ets_one (et_notIn hr (by rfl) (ev_var 2) (ev_var 0)))) (fun _ _ _ _ _ => (ev_var 2))) ea_nil))) ess_nil)
noncomputable def b_L_lies : Sv := (sSeq (sRet (eB gEq (eComp (eSeq (eVar 0)) (u1 2) (eB (gIn true) (eVar 2) (eVar 1)) (eVar 2) [2]) (eData eNil kLst))) sNil)
noncomputable def g_L_lies : Gf := runE (b_L_lies) 3 2
theorem c_L_lies (E : En P w K mg base cs) : CalE P w K mg base 1 "_law_lies" (spE (g_L_lies)) := by
  obtain ⟨f, fd, F, m⟩ := E.df ("_law_lies", s_L_lies) (List.mem_of_getElem? (i := 36) rfl)
  have nd := sc_L_lies.nd
  exact calE (k := 0) (sv := b_L_lies) F m sc_L_lies (fun _ _ _ _ _ _ us hl => match us, hl with | [_, _], _ => rfl) fun cdv A outer s H E0 hr =>
    (ess_cons (es_ret (ev_eq hr (ev_lc (own := [("_law_bar", 2)]) rfl nd (ei_seq (ev_var 0)) (blkOk_by (N := ["_law_one_here", "_law_other", "_law_bar"]) (sc := (defScope s_L_lies)) (own := [("_law_bar", 2)]) (by first | decide +kernel | rfl)) (gs_name (i := 2) (vs := [2]) (by decide)) (fun _ _ _ _ _ => (pg_name (i := 2) nd rfl (by first | exact .inl rfl | exact .inr rfl))) (fun _ _ _ _ _ => (ets_one (et_notIn hr (by rfl) (ev_var 2) (ev_var 1)))) (fun _ _ _ _ _ => (ev_var 2))) (ev_lst ea_nil))) ess_nil)
noncomputable def b_L_of_lengths : Sv := (sSeq (sAsg (eData (eCons (eVar 0) eNil) gSum) 1) (sSeq (sRet (eComp (eSeq (eCall g_L_lots (eCons (eData (eCons (eVar 0) eNil) gLen) eNil))) (u1 2) (eB gLt (eB gMul (eC (.int 2)) (eData (eCons (eComp (eSeq (eVar 2)) (u1 3) (eC (.bool true)) (eB gIx (eVar 0) (eVar 3)) [3]) eNil) gSum)) (eVar 1)) (eVar 2) [2])) sNil))
noncomputable def g_L_of_lengths : Gf := runE (b_L_of_lengths) 4 1
theorem c_L_of_lengths (E : En P w K mg base cs) : CalE P w K mg base 2 "_law_of_lengths" (spE (g_L_of_lengths)) := by
  obtain ⟨f, fd, F, m⟩ := E.df ("_law_of_lengths", s_L_of_lengths) (List.mem_of_getElem? (i := 38) rfl)
  have nd := sc_L_of_lengths.nd
  exact calE (k := 1) (sv := b_L_of_lengths) F m sc_L_of_lengths (fun _ _ _ _ _ _ us hl => match us, hl with | [_], _ => rfl) fun cdv A outer s H E0 hr =>
    (ess_cons (es_set (i := 1) nd rfl (by first | exact .inl rfl | exact .inr rfl) (ev_sum rfl rfl (E.fr "sum" (by decide)) (ea_cons (ev_var 0) ea_nil))) (ess_cons (es_ret (ev_lc (own := [("_law_lot_here", 2)]) rfl nd (ei_seq (ev_call (c_L_lots E) hr (by decide) rfl (ea_cons (ev_len rfl (E.fr "len" (by decide)) (ea_cons (ev_var 0) ea_nil)) ea_nil))) (blkOk_by (N := ["_law_lengths_here", "_law_total", "_law_lot_here", "_law_bar"]) (sc := (defScope s_L_of_lengths)) (own := [("_law_lot_here", 2)]) (by first | decide +kernel | rfl)) (gs_name (i := 2) (vs := [2]) (by decide)) (fun _ _ _ _ _ => (pg_name (i := 2) nd rfl (by first | exact .inl rfl | exact .inr rfl))) (fun _ _ _ _ _ => (ets_one (et_lt (ev_mul (ev_c pe_int (fun _ => .int _)) (ev_sum rfl rfl (E.fr "sum" (by decide)) (ea_cons (ev_lc (own := [("_law_bar", 3)]) rfl nd (ei_seq (ev_var 2)) (blkOk_by (N := ["_law_lengths_here", "_law_total", "_law_lot_here", "_law_bar"]) (sc := _) (own := [("_law_bar", 3)]) (by first | decide +kernel | rfl)) (gs_name (i := 3) (vs := [3]) (by decide)) (fun _ _ _ _ _ => (pg_name (i := 3) nd rfl (by first | exact .inl rfl | exact .inr rfl))) (fun _ _ _ _ _ => ets_nil) (fun _ _ _ _ _ => (ev_at (ev_var 0) (ev_var 3)))) ea_nil))) (ev_var 1)))) (fun _ _ _ _ _ => (ev_var 2)))) ess_nil))
noncomputable def b_L_stepped : Sv := (sSeq (sAsg (eB gAdd (eComp (eSeq (eVar 0)) (u1 4) (eB gNe (eVar 4) (eVar 1)) (eData (eCons (eData (eCons (eVar 4) eNil) gLen) (eCons (eVar 4) eNil)) kTup) [4]) (eData (eCons (eData (eCons (eB gSub (eVar 2) (eData (eCons (eVar 1) eNil) gLen)) (eCons (eCall g_L_others (eCons (eVar 1) (eCons (eVar 2) eNil))) eNil)) kTup) eNil) kLst)) 3) (sSeq (sRet (eComp (eSeq (eData (eCons (eVar 3) eNil) gSorted)) (u1 5) (eC (.bool true)) (eB gIx (eVar 5) (eC (.int 1))) [5])) sNil))
noncomputable def g_L_stepped : Gf := runE (b_L_stepped) 6 3
theorem c_L_stepped (E : En P w K mg base cs) : CalE P w K mg base 2 "_law_stepped" (spE (g_L_stepped)) := by
  obtain ⟨f, fd, F, m⟩ := E.df ("_law_stepped", s_L_stepped) (List.mem_of_getElem? (i := 39) rfl)
  have nd := sc_L_stepped.nd
  exact calE (k := 1) (sv := b_L_stepped) F m sc_L_stepped (fun _ _ _ _ _ _ us hl => match us, hl with | [_, _, _], _ => rfl) fun cdv A outer s H E0 hr =>
    (ess_cons (es_set (i := 3) nd rfl (by first | exact .inl rfl | exact .inr rfl) (ev_add (ev_lc (own := [("_law_one_here", 4)]) rfl nd (ei_seq (ev_var 0)) (blkOk_by (N := ["_law_shorts_here", "_law_lot_here", "_law_many", "_law_told", "_law_one_here", "_law_pair"]) (sc := (defScope s_L_stepped)) (own := [("_law_one_here", 4)]) (by first | decide +kernel | rfl)) (gs_name (i := 4) (vs := [4]) (by decide)) (fun _ _ _ _ _ => (pg_name (i := 4) nd rfl (by first | exact .inl rfl | exact .inr rfl))) (fun _ _ _ _ _ => (ets_one (et_ne hr (ev_var 4) (ev_var 1)))) (fun _ _ _ _ _ => (ev_tup (ea_cons (ev_len rfl (E.fr "len" (by decide)) (ea_cons (ev_var 4) ea_nil)) (ea_cons (ev_var 4) ea_nil))))) (ev_lst (ea_cons (ev_tup (ea_cons (ev_sub (ev_var 2) (ev_len rfl (E.fr "len" (by decide)) (ea_cons (ev_var 1) ea_nil))) (ea_cons (ev_call (c_L_others E) hr (by decide) rfl (ea_cons (ev_var 1) (ea_cons (ev_var 2) ea_nil))) ea_nil))) ea_nil)))) (ess_cons (es_ret (ev_lc (own := [("_law_pair", 5)]) rfl nd (ei_seq (ev_sorted hr rfl (E.fr "sorted" (by decide)) (ea_cons (ev_var 3) ea_nil))) (blkOk_by (N := ["_law_shorts_here", "_law_lot_here", "_law_many", "_law_told", "_law_one_here", "_law_pair"]) (sc := (defScope s_L_stepped)) (own := [("_law_pair", 5)]) (by first | decide +kernel | rfl)) (gs_name (i := 5) (vs := [5]) (by decide)) (fun _ _ _ _ _ => (pg_name (i := 5) nd rfl (by first | exact .inl rfl | exact .inr rfl))) (fun _ _ _ _ _ => ets_nil) (fun _ _ _ _ _ => (ev_at (ev_var 5) (ev_c pe_int (fun _ => .int _)))))) ess_nil))
noncomputable def b_L_beaten : Sv := (sSeq (sFor (eSeq (eCall g_L_lots (eCons (eVar 1) eNil))) (u1 4) (sSeq (sIf (eAnd (eB (gIn true) (eVar 2) (eVar 4)) (eB (gIn true) (eVar 3) (eVar 4))) (sSeq (sIf (eAnd (eB (gIn true) (eData (eCons (eData (eCons (eB gAdd (eVar 4) (eData (eCons (eVar 2) eNil) kTup)) eNil) gSorted) eNil) gTuple) (eVar 0)) (eB (gIn false) (eData (eCons (eData (eCons (eB gAdd (eVar 4) (eData (eCons (eVar 3) eNil) kTup)) eNil) gSorted) eNil) gTuple) (eVar 0))) (sSeq (sRet (eVar 4)) sNil) sNil) sNil) sNil) sNil)) (sSeq (sRet (eC .none)) sNil))
noncomputable def g_L_beaten : Gf := runE (b_L_beaten) 5 4
theorem c_L_beaten (E : En P w K mg base cs) : CalE P w K mg base 2 "_law_beaten" (spE (g_L_beaten)) := by
  obtain ⟨f, fd, F, m⟩ := E.df ("_law_beaten", s_L_beaten) (List.mem_of_getElem? (i := 44) rfl)
  have nd := sc_L_beaten.nd
  exact calE (k := 1) (sv := b_L_beaten) F m sc_L_beaten (fun _ _ _ _ _ _ us hl => match us, hl with | [_, _, _, _], _ => rfl) fun cdv A outer s H E0 hr =>
    (ess_cons (es_for PassesOwn.never rfl (ei_seq (ev_call (c_L_lots E) hr (by decide) rfl (ea_cons (ev_var 1) ea_nil))) (gs_name (i := 4) (vs := [4]) (by decide)) (pg_name (i := 4) nd rfl (by first | exact .inl rfl | exact .inr rfl)) (ess_cons (es_if (ew_pt (ew_and (et_notIn hr (by rfl) (ev_var 2) (ev_var 4)) (ew_and1 (et_notIn hr (by rfl) (ev_var 3) (ev_var 4))))) (ess_cons (es_if (ew_pt (ew_and (et_notIn hr (by rfl) (ev_tuple rfl (E.fr "tuple" (by decide)) (ea_cons (ev_sorted hr rfl (E.fr "sorted" (by decide)) (ea_cons (ev_add (ev_var 4) (ev_tup (ea_cons (ev_var 2) ea_nil))) ea_nil)) ea_nil)) (ev_var 0)) (ew_and1 (et_in hr (by rfl) (ev_tuple rfl (E.fr "tuple" (by decide)) (ea_cons (ev_sorted hr rfl (E.fr "sorted" (by decide)) (ea_cons (ev_add (ev_var 4) (ev_tup (ea_cons (ev_var 3) ea_nil))) ea_nil)) ea_nil)) (ev_var 0))))) (ess_cons (es_ret (ev_var 4)) ess_nil) ess_nil) ess_nil) ess_nil) ess_nil)) (ess_cons (es_ret (ev_c pe_non (fun _ => .non))) ess_nil))
noncomputable def b_L_is_trade : Sv := (sSeq (sIf (eOr (eB gNe (eData (eCons (eVar 2) eNil) gLen) (eData (eCons (eVar 3) eNil) gLen)) (eOr (eB gEq (eData (eCons (eVar 2) eNil) gLen) (eC (.int 0))) (eB gNe (eComp (eSeq (eVar 2)) (u1 5) (eB (gIn true) (eVar 5) (eVar 0)) (eVar 5) [5]) (eData eNil kLst)))) (sSeq (sRet (eC (.bool false))) sNil) sNil) (sSeq (sIf (eB gNe (eComp (eSeq (eVar 3)) (u1 5) (eOr (eB (gIn false) (eVar 5) (eVar 0)) (eB (gIn true) (eVar 5) (eCall g_L_lots (eCons (eVar 1) eNil)))) (eVar 5) [5]) (eData eNil kLst)) (sSeq (sRet (eC (.bool false))) sNil) sNil) (sSeq (sAsg (eComp (eSeq (eData (eCons (eVar 2) (eCons (eVar 3) eNil)) kTup)) (u1 6) (eC (.bool true)) (eComp (eRange (eCons (eVar 1) eNil)) (u1 7) (eC (.bool true)) (eData (eCons (eComp (eSeq (eVar 6)) (u1 5) (eB (gIn false) (eVar 7) (eVar 5)) (eVar 5) [5]) eNil) gLen) [7]) [6]) 4) (sSeq (sRet (eB gEq (eB gIx (eVar 4) (eC (.int 0))) (eB gIx (eVar 4) (eC (.int 1))))) sNil))))
noncomputable def g_L_is_trade : Gf := runE (b_L_is_trade) 8 4
theorem c_L_is_trade (E : En P w K mg base cs) : CalE P w K mg base 2 "_law_is_trade" (spE (g_L_is_trade)) := by
  obtain ⟨f, fd, F, m⟩ := E.df ("_law_is_trade", s_L_is_trade) (List.mem_of_getElem? (i := 46) rfl)
  have nd := sc_L_is_trade.nd
  exact calE (k := 1) (sv := b_L_is_trade) F m sc_L_is_trade (fun _ _ _ _ _ _ us hl => match us, hl with | [_, _, _, _], _ => rfl) fun cdv A outer s H E0 hr =>
    (ess_cons (es_if (ew_pt (ew_or (et_ne hr (ev_len rfl (E.fr "len" (by decide)) (ea_cons (ev_var 2) ea_nil)) (ev_len rfl (E.fr "len" (by decide)) (ea_cons (ev_var 3) ea_nil))) (ew_or (et_eq hr (ev_len rfl (E.fr "len" (by decide)) (ea_cons (ev_var 2) ea_nil)) (ev_c pe_int (fun _ => .int _))) (ew_or1 (et_ne hr (ev_lc (own := [("_law_lot_here", 5)]) rfl nd (ei_seq (ev_var 2)) (blkOk_by (N := ["_law_shorts_here", "_law_many", "_law_mine", "_law_its", "_law_sums", "_law_lot_here", "_law_lots_here", "_law_bar"]) (sc := (defScope s_L_is_trade)) (own := [("_law_lot_here", 5)]) (by first | decide +kernel | rfl)) (gs_name (i := 5) (vs := [5]) (by decide)) (fun _ _ _ _ _ => (pg_name (i := 5) nd rfl (by first | exact .inl rfl | exact .inr rfl))) (fun _ _ _ _ _ => (ets_one (et_notIn hr (by rfl) (ev_var 5) (ev_var 0)))) (fun _ _ _ _ _ => (ev_var 5))) (ev_lst ea_nil)))))) (ess_cons (es_ret (ev_c pe_bl (fun _ => .bl _))) ess_nil) ess_nil) (ess_cons (es_if (et_ne hr (ev_lc (own := [("_law_lot_here", 5)]) rfl nd (ei_seq (ev_var 3)) (blkOk_by (N := ["_law_shorts_here", "_law_many", "_law_mine", "_law_its", "_law_sums", "_law_lot_here", "_law_lots_here", "_law_bar"]) (sc := (defScope s_L_is_trade)) (own := [("_law_lot_here", 5)]) (by first | decide +kernel | rfl)) (gs_name (i := 5) (vs := [5]) (by decide)) (fun _ _ _ _ _ => (pg_name (i := 5) nd rfl (by first | exact .inl rfl | exact .inr rfl))) (fun _ _ _ _ _ => (ets_one (ew_pt (ew_or (et_in hr (by rfl) (ev_var 5) (ev_var 0)) (ew_or1 (et_notIn hr (by rfl) (ev_var 5) (ev_call (c_L_lots E) hr (by decide) rfl (ea_cons (ev_var 1) ea_nil)))))))) (fun _ _ _ _ _ => (ev_var 5))) (ev_lst ea_nil)) (ess_cons (es_ret (ev_c pe_bl (fun _ => .bl _))) ess_nil) ess_nil) (ess_cons (by first | exact es_set (i := 4) nd rfl (by first | exact .inl rfl | exact .inr rfl) (ev_lc (own := [("_law_lots_here", 6)]) rfl nd (ei_seq (ev_tup (ea_cons (ev_var 2) (ea_cons (ev_var 3) ea_nil)))) (blkOk_by (N := ["_law_shorts_here", "_law_many", "_law_mine", "_law_its", "_law_sums", "_law_lot_here", "_law_lots_here", "_law_bar"]) (sc := (defScope s_L_is_trade)) (own := [("_law_lots_here", 6)]) (by first | decide +kernel | rfl)) (gs_name (i := 6) (vs := [6]) (by decide)) (fun _ _ _ _ _ => (pg_name (i := 6) nd rfl (by first | exact .inl rfl | exact .inr rfl))) (fun _ _ _ _ _ => ets_nil) (fun _ _ _ _ _ => (ev_lc (own := [("_law_bar", 7)]) rfl nd (ei_range1 rfl (E.fr "range" (by decide)) (ea_cons (ev_var 1) ea_nil)) (blkOk_by (N := ["_law_shorts_here", "_law_many", "_law_mine", "_law_its", "_law_sums", "_law_lot_here", "_law_lots_here", "_law_bar"]) (sc := _) (own := [("_law_bar", 7)]) (by first | decide +kernel | rfl)) (gs_name (i := 7) (vs := [7]) (by decide)) (fun _ _ _ _ _ => (pg_name (i := 7) nd rfl (by first | exact .inl rfl | exact .inr rfl))) (fun _ _ _ _ _ => ets_nil) (fun _ _ _ _ _ => (ev_len rfl (E.fr "len" (by decide)) (ea_cons (ev_lc (own := [("_law_lot_here", 5)]) rfl nd (ei_seq (ev_var 6)) (blkOk_by (N := ["_law_shorts_here", "_law_many", "_law_mine", "_law_its", "_law_sums", "_law_lot_here", "_law_lots_here", "_law_bar"]) (sc := _) (own := [("_law_lot_here", 5)]) (by first | decide +kernel | rfl)) (gs_name (i := 5) (vs := [5]) (by decide)) (fun _ _ _ _ _ => (pg_name (i := 5) nd rfl (by first | exact .inl rfl | exact .inr rfl))) (fun _ _ _ _ _ => (ets_one (et_in hr (by rfl) (ev_var 7) (ev_var 5)))) (fun _ _ _ _ _ => (ev_var 5))) ea_nil)))))) | exact es_setLc (i := 4) (own := [("_law_lots_here", 6)]) rfl nd rfl rfl (sw_true rfl rfl rfl (by decide +kernel)) (ei_seq (ev_tup (ea_cons (ev_var 2) (ea_cons (ev_var 3) ea_nil)))) (blkOk_by (N := ["_law_shorts_here", "_law_many", "_law_mine", "_law_its", "_law_sums", "_law_lot_here", "_law_lots_here", "_law_bar"]) (sc := (defScope s_L_is_trade)) (own := [("_law_lots_here", 6)]) (by first | decide +kernel | rfl)) (gs_name (i := 6) (vs := [6]) (by decide)) (fun _ _ _ _ _ => (pg_name (i := 6) nd rfl (by first | exact .inl rfl | exact .inr rfl))) (fun _ _ _ _ _ => ets_nil) (fun _ _ _ _ _ => (ev_lc (own := [("_law_bar", 7)]) rfl nd (ei_range1 rfl (E.fr "range" (by decide)) (ea_cons (ev_var 1) ea_nil)) (blkOk_by (N := ["_law_shorts_here", "_law_many", "_law_mine", "_law_its", "_law_sums", "_law_lot_here", "_law_lots_here", "_law_bar"]) (sc := _) (own := [("_law_bar", 7)]) (by first | decide +kernel | rfl)) (gs_name (i := 7) (vs := [7]) (by decide)) (fun _ _ _ _ _ => (pg_name (i := 7) nd rfl (by first | exact .inl rfl | exact .inr rfl))) (fun _ _ _ _ _ => ets_nil) (fun _ _ _ _ _ => (ev_len rfl (E.fr "len" (by decide)) (ea_cons (ev_lc (own := [("_law_lot_here", 5)]) rfl nd (ei_seq (ev_var 6)) (blkOk_by (N := ["_law_shorts_here", "_law_many", "_law_mine", "_law_its", "_law_sums", "_law_lot_here", "_law_lots_here", "_law_bar"]) (sc := _) (own := [("_law_lot_here", 5)]) (by first | decide +kernel | rfl)) (gs_name (i := 5) (vs := [5]) (by decide)) (fun _ _ _ _ _ => (pg_name (i := 5) nd rfl (by first | exact .inl rfl | exact .inr rfl))) (fun _ _ _ _ _ => (ets_one (et_in hr (by rfl) (ev_var 7) (ev_var 5)))) (fun _ _ _ _ _ => (ev_var 5))) ea_nil)))))) (ess_cons (es_ret (ev_eq hr (ev_at (ev_var 4) (ev_c pe_int (fun _ => .int _))) (ev_at (ev_var 4) (ev_c pe_int (fun _ => .int _))))) ess_nil))))
end
end RB
set_option Elab.async false
set_option linter.all false
set_option maxRecDepth 100000
set_option maxHeartbeats 2000000
/-! Statements of a def that makes one list: xs = [], xs.append(..), xs.extend(..). -/
namespace RB
open PySem PySem.Spec PyProof.Rows L2
/-- all but the object at p is kept -/
def StepA (p : Addr) (H H' : Hp) : Prop := ∀ b o, b ≠ p → H b = some o → H' b = some o
theorem StepA.trans {p : Addr} {H H1 H2 : Hp} (a : StepA p H H1) (b : StepA p H1 H2) : StepA p H H2 := fun c o n h => b c o n (a c o n h)
theorem StepA.of {p : Addr} {H H' : Hp} (s : Same H H') : StepA p H H' := fun b o _ h => s b o h
theorem StepA.upd {p : Addr} {H : Hp} {o : HO} : StepA p H (upd H p o) := fun b u n h => by rw [upd_ne n]; exact h
theorem StepA.cut {O : List Addr} {p : Addr} {H H' : Hp} (s : StepA p H H') : Same (cut (p :: O) H) (cut (p :: O) H') := fun b o h => by
  unfold RB.cut at h ⊢
  split at h
  · cases h
  · rename_i n
    rw [if_neg n]
    exact s b o (fun z => n (by rw [z]; exact List.mem_cons_self)) h
theorem StepA.own {O : List Addr} {p : Addr} {H H' : Hp} (s : StepA p H H') (hp : p ∉ O) (w : Own O H) : Own O H' := fun b hb => by
  cases q : H b with
  | none => exact absurd q (w b hb)
  | some o => rw [s b o (fun z => hp (by rw [← z]; exact hb)) q]; exact fun z => nomatch z
abbrev Sa := Addr → Gm → List PyData → Option (Res × List PyData)
def AfterA (O : List Addr) (p : Addr) (ob : Ob) (D' : Ends) (r : Res) (H : Hp) : Prop := match r with
  | .ret d => ∀ v, Rep (cut O H) v d → D'.rt v H
  | .nx sl => ∀ σ, Hs (cut (p :: O) H) σ ⟨sl, ob⟩ → D'.nx σ H
def sOfA (s : Sa) : TS := fun D' σ H => ∃ O p Γ vs ds r ds', Own O H ∧ p ∉ O ∧ Hs (cut (p :: O) H) σ Γ ∧ H p = some (.lst vs) ∧ TpAll (cut (p :: O) H) vs ds ∧ s p Γ ds = some (r, ds') ∧
  ∀ H' vs', StepA p H H' → H' p = some (.lst vs') → TpAll (cut (p :: O) H') vs' ds' → AfterA O p Γ.ob D' r H'
def sLft (s : Sv) : Sa := fun _ Γ ds => (s Γ).map fun r => (r, ds)
def sSeqA (s1 s2 : Sa) : Sa := fun p Γ ds => match s1 p Γ ds with
  | some (.nx sl, ds1) => s2 p ⟨sl, Γ.ob⟩ ds1
  | r => r
def sIfA (c : Ev) (s1 s2 : Sa) : Sa := fun p Γ ds => match c Γ with
  | some (.p (.bool true)) => s1 p Γ ds
  | some (.p (.bool false)) => s2 p Γ ds
  | _ => none
def sNilA : Sa := fun _ Γ ds => some (.nx Γ.sl, ds)
def sApp (i : Nat) (f : Ev) : Sa := fun p Γ ds => match Γ.sl[i]?, f Γ with
  | some (some (.o q)), some (.p d) => if q = p ∧ ds.length < sizeLine then some (.nx Γ.sl, ds ++ [d]) else none
  | _, _ => none
def sExt (i : Nat) (f : Ev) : Sa := fun p Γ ds => match Γ.sl[i]?, f Γ with
  | some (some (.o q)), some (.p (.list es)) => if q = p ∧ ds.length + es.length ≤ sizeLine then some (.nx Γ.sl, ds ++ es) else none
  | _, _ => none
def sRetA (i : Nat) (f : Ev) : Sa := fun p Γ ds => match Γ.sl[i]? with
  | some (some (.o q)) => if q = p then (f ⟨Γ.sl.set i (some (.p (.list ds))), Γ.ob⟩).map fun d => (.ret d, ds) else none
  | _ => none
open Classical in
noncomputable def sNew (i : Nat) (s : Sa) : Sv := fun Γ => if h : ∃ r, ∀ p, ∃ ds', s p ⟨Γ.sl.set i (some (.o p)), Γ.ob⟩ [] = some (r, ds') then some h.choose else none
theorem sNew_eq {i : Nat} {s : Sa} {Γ : Gm} {r : Res} (h : ∀ p, ∃ ds', s p ⟨Γ.sl.set i (some (.o p)), Γ.ob⟩ [] = some (r, ds')) : sNew i s Γ = some r := by
  have h' : ∃ r, ∀ p, ∃ ds', s p ⟨Γ.sl.set i (some (.o p)), Γ.ob⟩ [] = some (r, ds') := ⟨r, h⟩
  unfold sNew
  rw [dif_pos h']
  obtain ⟨d1, e1⟩ := h 0
  obtain ⟨d2, e2⟩ := h'.choose_spec 0
  rw [e1] at e2
  have := Option.some.inj e2
  rw [(Prod.mk.inj this).1]
def forGoA (step : PyData → List (Option D) → List PyData → Option (Res × List PyData)) : List PyData → List (Option D) → List PyData → Option (Res × List PyData)
  | [], sl, ds => some (.nx sl, ds)
  | x :: r, sl, ds => match step x sl ds with
    | some (.nx sl', ds1) => forGoA step r sl' ds1
    | some (.ret d, ds1) => some (.ret d, ds1)
    | none => none
def sForA (src : Ew) (u : Ut) (body : Sa) : Sa := fun p Γ ds => match src Γ with
  | none => none
  | some xs => forGoA (fun x sl ds => match u x sl with
    | none => none
    | some sl' => body p ⟨sl', Γ.ob⟩ ds) xs Γ.sl ds
section
variable {X : Cx} {e c : Expr} {st : Stmt} {sts rest : List Stmt} {f : Ev} {s1 s2 s : Sa} {pos : Pos}
theorem el_lift {sv : Sv} (h : PS X st (sOf sv)) : PS X st (sOfA (sLft sv)) := ps_imp h fun D' σ H h => by
  obtain ⟨O, p, Γ, vs, ds, r, ds', w, hp, hs, hv, t, e, q⟩ := h
  obtain ⟨r', h1, h2⟩ := Option.map_eq_some_iff.mp e
  obtain ⟨rfl, rfl⟩ := Prod.mk.inj h2
  refine ⟨p :: O, Γ, r', w.cons (by rw [hv]; exact fun z => nomatch z), hs, h1, fun H1 sm => ?_⟩
  have a := q H1 vs (.of sm) (sm _ _ hv) (TpAll.up (cutS sm) _ _ t)
  cases r' with
  | ret d => exact fun v rv => a v (rv.up cut_drop)
  | nx sl => exact a
theorem el_nil : PSs X [] (sOfA sNilA) := pss_imp pss_nil fun D' σ H h => by
  obtain ⟨O, p, Γ, vs, ds, r, ds', w, hp, hs, hv, t, e, q⟩ := h
  obtain ⟨rfl, rfl⟩ := Prod.mk.inj (Option.some.inj e)
  exact q H vs (.of (Same.refl H)) hv t σ hs
theorem el_cons (h1 : PS X st (sOfA s1)) (h2 : PSs X rest (sOfA s2)) : PSs X (st :: rest) (sOfA (sSeqA s1 s2)) := pss_imp (pss_cons h1 h2) fun D' σ H h => by
  obtain ⟨O, p, Γ, vs, ds, r, ds', w, hp, hs, hv, t, e, q⟩ := h
  unfold sSeqA at e
  split at e
  · rename_i sl ds1 h3
    refine ⟨O, p, Γ, vs, ds, .nx sl, ds1, w, hp, hs, hv, t, h3, fun H1 vs1 st1 hv1 t1 σ1 hs1 => ?_⟩
    exact ⟨O, p, ⟨sl, Γ.ob⟩, vs1, ds1, r, ds', st1.own hp w, hp, hs1, hv1, t1, e, fun H2 vs2 st2 => q H2 vs2 (st1.trans st2)⟩
  · rename_i h3
    refine ⟨O, p, Γ, vs, ds, r, ds', w, hp, hs, hv, t, e, fun H1 vs1 st1 hv1 t1 => ?_⟩
    cases r with
    | ret d => exact q H1 vs1 st1 hv1 t1
    | nx sl => exact absurd e (h3 sl ds')
theorem el_if (hc : PT X c (ttOf f)) (ha : PSs X sts (sOfA s1)) (hb : PSs X rest (sOfA s2)) : PS X (.If c sts rest pos) (sOfA (sIfA f s1 s2)) := ps_imp (ps_if hc ha hb) fun D' σ H h => by
  obtain ⟨O, p, Γ, vs, ds, r, ds', w, hp, hs, hv, t, e, q⟩ := h
  have wp : Own (p :: O) H := w.cons (by rw [hv]; exact fun z => nomatch z)
  unfold sIfA at e
  split at e
  · rename_i h1
    exact ⟨p :: O, Γ, true, wp, hs, h1, fun H1 sm => iteT ⟨O, p, Γ, vs, ds, r, ds', w.up sm, hp, hs.up (cutS sm), sm _ _ hv, TpAll.up (cutS sm) _ _ t, e, fun H2 vs2 st2 => q H2 vs2 ((StepA.of sm).trans st2)⟩⟩
  · rename_i h1
    exact ⟨p :: O, Γ, false, wp, hs, h1, fun H1 sm => iteF ⟨O, p, Γ, vs, ds, r, ds', w.up sm, hp, hs.up (cutS sm), sm _ _ hv, TpAll.up (cutS sm) _ _ t, e, fun H2 vs2 st2 => q H2 vs2 ((StepA.of sm).trans st2)⟩⟩
  · cases e
/-- xs.append(e), xs.extend(e): the call's own reading is given by PE (pe_bm ..) -/
theorem el_app {i : Nat} {m : Expr} (h : PE X m (tBM X.K "list" rAppend (tVar i) (tCons (tOf f) tNil))) (hsw : swapsWith m none pos.line X.env = pure false := by rfl) : PS X (.Expr m pos) (sOfA (sApp i f)) := ps_imp (ps_expr h hsw) fun D' σ H h => by
  obtain ⟨O, p, Γ, vs, ds, r, ds', w, hp, hs, hv, t, e, q⟩ := h
  have wp : Own (p :: O) H := w.cons (by rw [hv]; exact fun z => nomatch z)
  unfold sApp at e
  split at e
  · rename_i p' d h1 h2
    split at e
    · rename_i hz
      obtain ⟨rfl, hz⟩ := hz
      obtain ⟨rfl, rfl⟩ := Prod.mk.inj (Option.some.inj e)
      obtain ⟨v, h3, h4⟩ := hs.sl i _ h1
      obtain rfl : v = .ref p' := h4
      refine ⟨_, h3, Or.inl ⟨rfl, _, Or.inl (Or.inl hv)⟩, p' :: O, Γ, _, wp, hs, h2, fun y H1 s1 r1 => ?_⟩
      refine ⟨p', vs, y, rfl, rfl, s1 _ _ hv, by rw [t.length]; exact hz, ?_⟩
      refine q _ (vs ++ [y]) ((StepA.of s1).trans .upd) upd_same ?_ σ ?_
      · rw [cut_own List.mem_cons_self]
        exact (TpAll.up (cutS s1) _ _ t).append (.cons r1 .nil)
      · rw [cut_own List.mem_cons_self]
        exact hs.up (cutS s1)
    · cases e
  · cases e
theorem el_ext {i : Nat} {m : Expr} (h : PE X m (tBM X.K "list" rExtend (tVar i) (tCons (tOf f) tNil))) (hsw : swapsWith m none pos.line X.env = pure false := by rfl) : PS X (.Expr m pos) (sOfA (sExt i f)) := ps_imp (ps_expr h hsw) fun D' σ H h => by
  obtain ⟨O, p, Γ, vs, ds, r, ds', w, hp, hs, hv, t, e, q⟩ := h
  have wp : Own (p :: O) H := w.cons (by rw [hv]; exact fun z => nomatch z)
  unfold sExt at e
  split at e
  · rename_i p' es h1 h2
    split at e
    · rename_i hz
      obtain ⟨rfl, hz⟩ := hz
      obtain ⟨rfl, rfl⟩ := Prod.mk.inj (Option.some.inj e)
      obtain ⟨v, h3, h4⟩ := hs.sl i _ h1
      obtain rfl : v = .ref p' := h4
      refine ⟨_, h3, Or.inl ⟨rfl, _, Or.inl (Or.inl hv)⟩, p' :: O, Γ, _, wp, hs, h2, fun y H1 s1 r1 => ?_⟩
      cases r1 with
      | lst k1 k2 =>
        refine ⟨p', _, vs, _, rfl, rfl, s1 _ _ hv, cut_sub _ _ k1, by rw [t.length, k2.length]; exact hz, ?_⟩
        refine q _ _ ((StepA.of s1).trans .upd) upd_same ?_ σ ?_
        · rw [cut_own List.mem_cons_self]
          exact (TpAll.up (cutS s1) _ _ t).append k2
        · rw [cut_own List.mem_cons_self]
          exact hs.up (cutS s1)
    · cases e
  · cases e
theorem el_for {tg iter : Expr} {src : Ew} {g : TG} {u : Ut} {vs : List Nat} (hp : PassesOwn (model X.prog X.w) X.A X.env X.xe) (hc : X.calm = true) (hi : PI X tg iter (iOf src)) (gs : GS g u vs) (hg : PG X tg g) (hb : PSs X sts (sOfA s))
    (hs : ∀ x, foldedSetIterable iter X.env x = pure x := by intro _; rfl) : PS X (.For tg iter sts [] pos) (sOfA (sForA src u s)) := ps_imp (ps_for hp hc hi hg hb hs) fun D' σ H h => by
  obtain ⟨O, p, Γ, ws, ds, r, ds', w, hp, hs, hv, t, e, q⟩ := h
  have wp : Own (p :: O) H := w.cons (by rw [hv]; exact fun z => nomatch z)
  unfold sForA at e
  split at e
  · cases e
  · rename_i xs h1
    refine ⟨p :: O, Γ, xs, wp, hs, h1, fun J H1 s1 hJ => ?_⟩
    generalize hstep : (fun x sl ds => match u x sl with
      | none => none
      | some sl' => s p ⟨sl', Γ.ob⟩ ds) = step at e
    refine ⟨fun i m σ H => i ≤ xs.length ∧ m = xs.length - i ∧ StepA p H1 H ∧ ∃ sl ws1 ds1, H p = some (.lst ws1) ∧ TpAll (cut (p :: O) H) ws1 ds1 ∧ Hs (cut (p :: O) H) σ ⟨sl, Γ.ob⟩ ∧ forGoA step (xs.drop i) sl ds1 = some (r, ds'),
      ⟨_, Nat.zero_le _, rfl, .of (Same.refl _), Γ.sl, ws, ds, s1 _ _ hv, TpAll.up (cutS s1) _ _ t, hs.up (cutS s1), e⟩, fun i m σ2 H2 hW => ?_⟩
    obtain ⟨hi, hm, st2, sl, ws1, ds1, hv2, t2, hs2, hr⟩ := hW
    have w2 : Own O H2 := st2.own hp (w.up s1)
    have wp2 : Own (p :: O) H2 := w2.cons (by rw [hv2]; exact fun z => nomatch z)
    obtain ⟨st, go⟩ := hJ (p :: O) i H2 wp2 st2.cut
    rcases Nat.lt_or_ge i xs.length with hlt | hge
    · right
      obtain ⟨g1, g2⟩ := go _ (List.getElem?_eq_getElem hlt)
      refine ⟨g1, fun σ' H' => ∃ m', m' < m ∧ (i + 1 ≤ xs.length ∧ m' = xs.length - (i + 1) ∧ StepA p H1 H' ∧ ∃ sl ws1 ds1, H' p = some (.lst ws1) ∧ TpAll (cut (p :: O) H') ws1 ds1 ∧ Hs (cut (p :: O) H') σ' ⟨sl, Γ.ob⟩ ∧ forGoA step (xs.drop (i + 1)) sl ds1 = some (r, ds')), fun σ' H' z => z, fun v H3 hy3 => ?_⟩
      obtain ⟨s3, t3⟩ := g2 v H3 hy3
      rw [List.drop_eq_getElem_cons hlt] at hr
      unfold forGoA at hr
      have hst : step xs[i] sl ds1 = (match u xs[i] sl with
        | none => none
        | some sl' => s p ⟨sl', Γ.ob⟩ ds1) := by rw [← hstep]
      rw [hst] at hr
      cases k1 : u xs[i] sl with
      | none =>
        rw [k1] at hr
        cases hr
      | some sl' =>
        rw [k1] at hr
        have hr : (match s p ⟨sl', Γ.ob⟩ ds1 with
            | some (.nx sl', ds1) => forGoA step (xs.drop (i + 1)) sl' ds1
            | some (.ret d, ds1) => some (.ret d, ds1)
            | none => none) = some (r, ds') := hr
        refine gs (wp2.up s3) (hs2.up (cutS s3)) t3 k1 fun σ' hs' hw => ?_
        cases k2 : s p ⟨sl', Γ.ob⟩ ds1 with
        | none =>
          rw [k2] at hr
          cases hr
        | some r1 =>
          obtain ⟨r1, ds2⟩ := r1
          rw [k2] at hr
          refine ⟨O, p, ⟨sl', Γ.ob⟩, ws1, ds1, r1, ds2, w2.up s3, hp, hs', s3 _ _ hv2, TpAll.up (cutS s3) _ _ t2, k2, fun H4 ws4 st4 hv4 t4 => ?_⟩
          have stt := (st2.trans (.of s3)).trans st4
          cases r1 with
          | nx sl2 => exact fun σ4 hs4 => ⟨xs.length - (i + 1), by omega, hlt, rfl, stt, sl2, ws4, ds2, hv4, t4, hs4, hr⟩
          | ret d =>
            obtain ⟨rfl, rfl⟩ := Prod.mk.inj (Option.some.inj hr)
            exact fun v r => q H4 ws4 ((StepA.of s1).trans stt) hv4 t4 v r
    · left
      have z : xs.drop i = [] := List.drop_of_length_le hge
      rw [z] at hr
      obtain ⟨rfl, rfl⟩ := Prod.mk.inj (Option.some.inj hr)
      exact ⟨st hge, q H2 ws1 ((StepA.of s1).trans st2) hv2 t2 σ2 hs2⟩
theorem el_ret {i : Nat} (h : PE X e (tOf f)) : PS X (.Return (some e) pos) (sOfA (sRetA i f)) := ps_imp (ps_ret h) fun D' σ H h => by
  obtain ⟨O, p, Γ, vs, ds, r, ds', w, hp, hs, hv, t, e, q⟩ := h
  unfold sRetA at e
  split at e
  · rename_i p' h1
    split at e
    · rename_i hz
      subst hz
      obtain ⟨d, h2, h3⟩ := Option.map_eq_some_iff.mp e
      obtain ⟨rfl, rfl⟩ := Prod.mk.inj h3
      obtain ⟨v, h4, h5⟩ := hs.sl i _ h1
      obtain rfl : v = .ref p' := h5
      have hs' : Hs (cut O H) (σ.set i (some (.ref p'))) ⟨Γ.sl.set i (some (.p (.list ds))), Γ.ob⟩ := (Hs.up (Γ := ⟨Γ.sl, Γ.ob⟩) hs cut_drop).set i (d := .p (.list ds)) (.lst (by rw [cut_out hp]; exact hv) (TpAll.up cut_drop _ _ t))
      have es : σ.set i (some (.ref p')) = σ := List.ext_getElem? fun j => by
        by_cases hij : i = j
        · subst hij
          rw [List.getElem?_set_self (List.getElem?_eq_some_iff.mp h4).1, h4]
        · rw [List.getElem?_set_ne hij]
      rw [es] at hs'
      exact ⟨O, _, d, w, hs', h2, fun v H1 s1 r1 => q H1 vs (.of s1) (s1 _ _ hv) (TpAll.up (cutS s1) _ _ t) v r1⟩
    · cases e
  · cases e
/-- xs = [], then the rest -/
theorem es_new {i : Nat} {x : Str} {p1 p2 : Pos} (hN : X.N.Nodup) (hi : X.N[i]? = some x) (hx : Loc X.env.scope x) (h2 : PSs X rest (sOfA s)) (hs : swapsWith (.List [] p2) (some (.Name x p1)) pos.line X.env = pure false := by rfl)
    (hf : X.fn x = true ∨ X.env.scope.names.lookup x = some .local := by first | exact .inl rfl | exact .inr rfl | assumption) : PSs X (.Assign [.Name x p1] (.List [] p2) pos :: rest) (sOf (sNew i s)) := pss_imp (pss_cons (ps_set (i := i) hN hi hx (pe_lst pa_nil) hs hf) h2) fun D' σ H h => by
  obtain ⟨O, Γ, r, w, hs, e, q⟩ := h
  unfold sNew at e
  split at e
  · rename_i hex
    obtain rfl := Option.some.inj e
    refine ⟨by show 0 ≤ sizeLine; decide, fun p hp => ?_⟩
    obtain ⟨ds', h3⟩ := hex.choose_spec p
    have hs' : Hs (cut (p :: O) (upd H p (.lst []))) (σ.set i (some (.ref p))) ⟨Γ.sl.set i (some (.o p)), Γ.ob⟩ := (Hs.up (Γ := ⟨Γ.sl, Γ.ob⟩) hs (cut_cons hp (same_upd hp))).set i (d := .o p) rfl
    refine ⟨O, p, _, [], [], _, ds', w.up (same_upd hp), w.new hp, hs', upd_same, .nil, h3, fun H1 vs1 st1 hv1 t1 => ?_⟩
    have sm : Same H H1 := fun b o hb => st1 b o (ne_of_none hb hp) (same_upd hp b o hb)
    have a := q H1 sm
    generalize hex.choose = r at a
    cases r with
    | ret d => exact a
    | nx sl => exact fun σ1 hs1 => a σ1 (hs1.up cut_drop)
  · cases e
end
section
variable {P : Program}
variable {w : World} {K : PySem.W.Frag} {mg : Str → Option Value} {base : Heap}
/-- a def of which nothing is promised -/
theorem cal0 {x : Str} {st : Stmt} {f : Addr} {fd : FuncData} {ps : List Str} (F : FunD K x x (defArgs st) (defBody st) (defScope st) [] [] f fd) (m : mg x = some (.ref f))
    (hb : ∀ (kV doc pm : Value) (an : Option Addr) (cdv ct : Value) (us : List Value), us.length = ps.length → bindArgs (PySem.W.fnOf x x (defArgs st) (defBody st) (defScope st) .none kV doc pm an cdv ct) ⟨us, []⟩ = pure (ps.zip us)) (hps : ((defArgs st).posonlyargs ++ (defArgs st).args).map (·.arg) = ps := by rfl) :
    CalE P w K mg base 0 x (spE fun _ _ => none) := by
  have no : ∀ {vs : List V} {H : Hp} {Q : VK} {E : XK}, ¬ spE (fun _ _ => none) vs H Q E := fun {vs H Q E} h => by
    obtain ⟨O, ob, ds, d, _, _, _, e, _⟩ := h
    cases e
  exact ⟨f, fd, ps, ⟨fun vs H Q E h => absurd h no, fun A outer s H args us vs Q E hr e0 b r h => absurd h no⟩, m, F.kp, F.bindsN hb, st, F, hps⟩
end
end RB
set_option Elab.async false
set_option linter.all false
set_option maxRecDepth 100000
set_option maxHeartbeats 4000000
/-! The walk of the defs that make a list, of those that call themselves. Printed by walk.py. -/
namespace RB
open PySem PySem.Spec PyProof.Rows L2
section
variable {P : Program} {w : World} {K : PySem.W.Frag} {mg : Str → Option Value} {base : Heap} {cs : Cs}
noncomputable def b_rising (gr : Gf) : Sv := (sSeq (sIf (eB gEq (eVar 0) (eData eNil kLst)) (sSeq (sRet (eIf (eB gEq (eVar 2) (eC (.int 0))) (eData (eCons (eData eNil kLst) eNil) kLst) (eData eNil kLst))) sNil) sNil) (sNew 3 (sSeqA (sForA (eRange2 (eCons (eVar 1) (eCons (eB gAdd (eB gDiv (eVar 2) (eB gIx (eVar 0) (eC (.int 0)))) (eC (.int 1))) eNil))) (u1 4) (sSeqA (sExt 3 (eComp (eSeq (eCall gr (eCons (eSl (eVar 0) (eP (eC (.int 1))) eP0) (eCons (eB gAdd (eVar 4) (eC (.int 1))) (eCons (eB gSub (eVar 2) (eB gMul (eB gIx (eVar 0) (eC (.int 0))) (eVar 4))) eNil))))) (u1 5) (eC (.bool true)) (eData (eCons (eVar 4) (eStar (eVar 5) eNil)) kLst) [5])) sNilA)) (sSeqA (sRetA 3 (eVar 3)) sNilA))))
noncomputable def g_rising : Nat → Gf
  | 0 => fun _ _ => none
  | n + 1 => runE (b_rising (g_rising n)) 6 3
theorem c_rising (E : En P w K mg base cs) : ∀ k : Nat, CalE P w K mg base k "rising" (spE (g_rising k)) := by
  obtain ⟨f, fd, F, m⟩ := E.df ("rising", s_rising) (List.mem_of_getElem? (i := 23) rfl)
  have nd := sc_rising.nd
  intro k
  induction k with
  | zero => exact cal0 F m (ps := ["sizes", "least", "total"]) (fun _ _ _ _ _ _ us hl => match us, hl with | [_, _, _], _ => rfl)
  | succ k ih =>
    have hrec := ih
    exact calE (k := k) (sv := b_rising (g_rising k)) F m sc_rising (fun _ _ _ _ _ _ us hl => match us, hl with | [_, _, _], _ => rfl) fun cdv A outer s H E0 hr =>
    (ess_cons (es_if (et_eq hr (ev_var 0) (ev_lst ea_nil)) (ess_cons (es_ret (ev_ifExp (et_eq hr (ev_var 2) (ev_c pe_int (fun _ => .int _))) (ev_lst (ea_cons (ev_lst ea_nil) ea_nil)) (ev_lst ea_nil))) ess_nil) ess_nil) (es_new (i := 3) nd rfl (by first | exact .inl rfl | exact .inr rfl) (el_cons (el_for PassesOwn.never rfl (ei_range2 rfl (E.fr "range" (by decide)) (ea_cons (ev_var 1) (ea_cons (ev_add (ev_div (ev_var 2) (ev_at (ev_var 0) (ev_c pe_int (fun _ => .int _)))) (ev_c pe_int (fun _ => .int _))) ea_nil))) (gs_name (i := 4) (vs := [4]) (by decide)) (pg_name (i := 4) nd rfl (by first | exact .inl rfl | exact .inr rfl)) (el_cons (el_ext (pe_bm PySem.F.plainAttrs_list PySem.F.slot_list_extend PySem.F.type_list_extend mt_extend (pv 3) (pa_cons (ev_lc (own := [("rest", 5)]) rfl nd (ei_seq (ev_call hrec hr (Nat.le_refl _) rfl (ea_cons (ev_slice (ev_var 0) (ep_some (ev_c pe_int (fun _ => .int _))) ep_none) (ea_cons (ev_add (ev_var 4) (ev_c pe_int (fun _ => .int _))) (ea_cons (ev_sub (ev_var 2) (ev_mul (ev_at (ev_var 0) (ev_c pe_int (fun _ => .int _))) (ev_var 4))) ea_nil))))) (blkOk_by (N := ["sizes", "least", "total", "found", "length", "rest"]) (sc := (defScope s_rising)) (own := [("rest", 5)]) (by first | decide +kernel | rfl)) (gs_name (i := 5) (vs := [5]) (by decide)) (fun _ _ _ _ _ => (pg_name (i := 5) nd rfl (by first | exact .inl rfl | exact .inr rfl))) (fun _ _ _ _ _ => ets_nil) (fun _ _ _ _ _ => (ev_lst (ea_cons (ev_var 4) (ea_star (ev_var 5) ea_nil))))) pa_nil))) el_nil)) (el_cons (el_ret (ev_var 3)) el_nil))))
noncomputable def b_fixed (gr : Gf) : Sv := (sSeq (sIf (eU gNot (eIs isSeq (eVar 0))) (sSeq (sRet (eVar 0)) sNil) sNil) (sSeq (sRet (eData (eCons (eComp (eSeq (eVar 0)) (u1 1) (eC (.bool true)) (eCall gr (eCons (eVar 1) eNil)) [1]) eNil) gTuple)) sNil))
noncomputable def g_fixed : Nat → Gf
  | 0 => fun _ _ => none
  | n + 1 => runE (b_fixed (g_fixed n)) 2 1
theorem c_fixed (E : En P w K mg base cs) : ∀ k : Nat, CalE P w K mg base k "fixed" (spE (g_fixed k)) := by
  obtain ⟨f, fd, F, m⟩ := E.df ("fixed", s_fixed) (List.mem_of_getElem? (i := 8) rfl)
  have nd := sc_fixed.nd
  intro k
  induction k with
  | zero => exact cal0 F m (ps := ["value"]) (fun _ _ _ _ _ _ us hl => match us, hl with | [_], _ => rfl)
  | succ k ih =>
    have hrec := ih
    exact calE (k := k) (sv := b_fixed (g_fixed k)) F m sc_fixed (fun _ _ _ _ _ _ us hl => match us, hl with | [_], _ => rfl) fun cdv A outer s H E0 hr =>
    (ess_cons (es_if (et_not (et_val (ev_isSeq rfl (E.fr "isinstance" (by decide)) rfl (E.fr "list" (by decide)) rfl (E.fr "tuple" (by decide)) (ev_var 0)))) (ess_cons (es_ret (ev_var 0)) ess_nil) ess_nil) (ess_cons (es_ret (ev_tuple rfl (E.fr "tuple" (by decide)) (ea_cons (ev_lc (own := [("part", 1)]) rfl nd (ei_seq (ev_var 0)) (blkOk_by (N := ["value", "part"]) (sc := (defScope s_fixed)) (own := [("part", 1)]) (by first | decide +kernel | rfl)) (gs_name (i := 1) (vs := [1]) (by decide)) (fun _ _ _ _ _ => (pg_name (i := 1) nd rfl (by first | exact .inl rfl | exact .inr rfl))) (fun _ _ _ _ _ => ets_nil) (fun _ _ _ _ _ => (ev_call hrec hr (Nat.le_refl _) rfl (ea_cons (ev_var 1) ea_nil)))) ea_nil))) ess_nil))
noncomputable def b_greatest_of : Sv := (sNew 1 (sSeqA (sForA (eEnum (eCons (eVar 0) eNil)) (u2 2 3) (sSeqA (sLft (sAsg (eComp (eRange (eCons (eC (.int 6)) eNil)) (u1 5) (eAnd (eB gLt (eB gShl (eC (.int 1)) (eVar 5)) (eData (eCons (eVar 0) eNil) gLen)) (eB gEq (eB gAnd (eB gShr (eVar 2) (eVar 5)) (eC (.int 1))) (eC (.int 0)))) (eB gOr (eVar 2) (eB gShl (eC (.int 1)) (eVar 5))) [5]) 4)) (sSeqA (sIfA (eAnd (eVar 3) (eU gNot (eData (eCons (eComp (eSeq (eVar 4)) (u1 6) (eC (.bool true)) (eB gIx (eVar 0) (eVar 6)) [6]) eNil) gAny))) (sSeqA (sApp 1 (eCall g_lot_of (eCons (eVar 2) eNil))) sNilA) sNilA) sNilA))) (sSeqA (sRetA 1 (eU (gSortK g_lot_key) (eVar 1))) sNilA)))
noncomputable def g_greatest_of : Gf := runE (b_greatest_of) 7 1
theorem c_greatest_of (E : En P w K mg base cs) : CalE P w K mg base 4 "greatest_of" (spE (g_greatest_of)) := by
  obtain ⟨f, fd, F, m⟩ := E.df ("greatest_of", s_greatest_of) (List.mem_of_getElem? (i := 14) rfl)
  have nd := sc_greatest_of.nd
  exact calE (k := 3) (sv := b_greatest_of) F m sc_greatest_of (fun _ _ _ _ _ _ us hl => match us, hl with | [_], _ => rfl) fun cdv A outer s H E0 hr =>
    (es_new (i := 1) nd rfl (by first | exact .inl rfl | exact .inr rfl) (el_cons (el_for PassesOwn.never rfl (ei_enum rfl (E.fr "enumerate" (by decide)) (ea_cons (ev_var 0) ea_nil)) (gs_pair (K := K) (i := 2) (j := 3) (vs := [2, 3]) (by decide) (by decide)) (pg_tup rfl (pgs_cons (pg_name (i := 2) nd rfl (by first | exact .inl rfl | exact .inr rfl)) (pgs_cons (pg_name (i := 3) nd rfl (by first | exact .inl rfl | exact .inr rfl)) pgs_nil))) (el_cons (el_lift (by first | exact es_set (i := 4) nd rfl (by first | exact .inl rfl | exact .inr rfl) (ev_lc (own := [("bar", 5)]) rfl nd (ei_range1 rfl (E.fr "range" (by decide)) (ea_cons (ev_c (E.pMOST rfl rfl) (fun _ => .int _)) ea_nil)) (blkOk_by (N := ["table", "found", "mask", "is_short", "above", "bar", "one"]) (sc := (defScope s_greatest_of)) (own := [("bar", 5)]) (by first | decide +kernel | rfl)) (gs_name (i := 5) (vs := [5]) (by decide)) (fun _ _ _ _ _ => (pg_name (i := 5) nd rfl (by first | exact .inl rfl | exact .inr rfl))) (fun _ _ _ _ _ => (ets_one (ew_pt (ew_and (et_lt (ev_shl (ev_c pe_int (fun _ => .int _)) (ev_var 5)) (ev_len rfl (E.fr "len" (by decide)) (ea_cons (ev_var 0) ea_nil))) (ew_and1 (et_eq hr (ev_band (ev_shr (ev_var 2) (ev_var 5)) (ev_c pe_int (fun _ => .int _))) (ev_c pe_int (fun _ => .int _)))))))) (fun _ _ _ _ _ => (ev_bor (ev_var 2) (ev_shl (ev_c pe_int (fun _ => .int _)) (ev_var 5))))) | exact es_setLc (i := 4) (own := [("bar", 5)]) rfl nd rfl rfl (sw_true rfl rfl rfl (by decide +kernel)) (ei_range1 rfl (E.fr "range" (by decide)) (ea_cons (ev_c (E.pMOST rfl rfl) (fun _ => .int _)) ea_nil)) (blkOk_by (N := ["table", "found", "mask", "is_short", "above", "bar", "one"]) (sc := (defScope s_greatest_of)) (own := [("bar", 5)]) (by first | decide +kernel | rfl)) (gs_name (i := 5) (vs := [5]) (by decide)) (fun _ _ _ _ _ => (pg_name (i := 5) nd rfl (by first | exact .inl rfl | exact .inr rfl))) (fun _ _ _ _ _ => (ets_one (ew_pt (ew_and (et_lt (ev_shl (ev_c pe_int (fun _ => .int _)) (ev_var 5)) (ev_len rfl (E.fr "len" (by decide)) (ea_cons (ev_var 0) ea_nil))) (ew_and1 (et_eq hr (ev_band (ev_shr (ev_var 2) (ev_var 5)) (ev_c pe_int (fun _ => .int _))) (ev_c pe_int (fun _ => .int _)))))))) (fun _ _ _ _ _ => (ev_bor (ev_var 2) (ev_shl (ev_c pe_int (fun _ => .int _)) (ev_var 5)))))) (el_cons (el_if (ew_pt (ew_and (et_val (ev_var 3)) (ew_and1 (et_not (et_val (ev_any rfl rfl (E.fr "any" (by decide)) (ea_cons (ev_lc (own := [("one", 6)]) rfl nd (ei_seq (ev_var 4)) (blkOk_by (N := ["table", "found", "mask", "is_short", "above", "bar", "one"]) (sc := (defScope s_greatest_of)) (own := [("one", 6)]) (by first | decide +kernel | rfl)) (gs_name (i := 6) (vs := [6]) (by decide)) (fun _ _ _ _ _ => (pg_name (i := 6) nd rfl (by first | exact .inl rfl | exact .inr rfl))) (fun _ _ _ _ _ => ets_nil) (fun _ _ _ _ _ => (ev_at (ev_var 0) (ev_var 6)))) ea_nil))))))) (el_cons (el_app (pe_bm PySem.F.plainAttrs_list PySem.F.slot_list_append PySem.F.type_list_append mt_append (pv 1) (pa_cons (ev_call (c_lot_of E) hr (by decide) rfl (ea_cons (ev_var 2) ea_nil)) pa_nil))) el_nil) el_nil) el_nil))) (el_cons (el_ret (ev_sortK (c_lot_key E) hr (by decide) rfl (E.fr "sorted" (by decide)) rfl (ev_var 1))) el_nil)))
noncomputable def b_L_greatest : Sv := (sNew 1 (sSeqA (sForA (eSeq (eVar 0)) (u1 2) (sSeqA (sIfA (eB gEq (eComp (eSeq (eVar 0)) (u1 3) (eAnd (eB gNe (eVar 3) (eVar 2)) (eCall g_L_lies (eCons (eVar 2) (eCons (eVar 3) eNil)))) (eVar 3) [3]) (eData eNil kLst)) (sSeqA (sApp 1 (eData (eCons (eData (eCons (eVar 2) eNil) gLen) (eCons (eVar 2) eNil)) kTup)) sNilA) sNilA) sNilA)) (sSeqA (sRetA 1 (eComp (eSeq (eData (eCons (eVar 1) eNil) gSorted)) (u1 4) (eC (.bool true)) (eB gIx (eVar 4) (eC (.int 1))) [4])) sNilA)))
noncomputable def g_L_greatest : Gf := runE (b_L_greatest) 5 1
theorem c_L_greatest (E : En P w K mg base cs) : CalE P w K mg base 2 "_law_greatest" (spE (g_L_greatest)) := by
  obtain ⟨f, fd, F, m⟩ := E.df ("_law_greatest", s_L_greatest) (List.mem_of_getElem? (i := 37) rfl)
  have nd := sc_L_greatest.nd
  exact calE (k := 1) (sv := b_L_greatest) F m sc_L_greatest (fun _ _ _ _ _ _ us hl => match us, hl with | [_], _ => rfl) fun cdv A outer s H E0 hr =>
    (es_new (i := 1) nd rfl (by first | exact .inl rfl | exact .inr rfl) (el_cons (el_for PassesOwn.never rfl (ei_seq (ev_var 0)) (gs_name (i := 2) (vs := [2]) (by decide)) (pg_name (i := 2) nd rfl (by first | exact .inl rfl | exact .inr rfl)) (el_cons (el_if (et_eq hr (ev_lc (own := [("_law_other", 3)]) rfl nd (ei_seq (ev_var 0)) (blkOk_by (N := ["_law_shorts_here", "_law_found", "_law_lot_here", "_law_other", "_law_pair"]) (sc := (defScope s_L_greatest)) (own := [("_law_other", 3)]) (by first | decide +kernel | rfl)) (gs_name (i := 3) (vs := [3]) (by decide)) (fun _ _ _ _ _ => (pg_name (i := 3) nd rfl (by first | exact .inl rfl | exact .inr rfl))) (fun _ _ _ _ _ => (ets_one (ew_pt (ew_and (et_ne hr (ev_var 3) (ev_var 2)) (ew_and1 (et_val (ev_call (c_L_lies E) hr (by decide) rfl (ea_cons (ev_var 2) (ea_cons (ev_var 3) ea_nil))))))))) (fun _ _ _ _ _ => (ev_var 3))) (ev_lst ea_nil)) (el_cons (el_app (pe_bm PySem.F.plainAttrs_list PySem.F.slot_list_append PySem.F.type_list_append mt_append (pv 1) (pa_cons (ev_tup (ea_cons (ev_len rfl (E.fr "len" (by decide)) (ea_cons (ev_var 2) ea_nil)) (ea_cons (ev_var 2) ea_nil))) pa_nil))) el_nil) el_nil) el_nil)) (el_cons (el_ret (ev_lc (own := [("_law_pair", 4)]) rfl nd (ei_seq (ev_sorted hr rfl (E.fr "sorted" (by decide)) (ea_cons (ev_var 1) ea_nil))) (blkOk_by (N := ["_law_shorts_here", "_law_found", "_law_lot_here", "_law_other", "_law_pair"]) (sc := (defScope s_L_greatest)) (own := [("_law_pair", 4)]) (by first | decide +kernel | rfl)) (gs_name (i := 4) (vs := [4]) (by decide)) (fun _ _ _ _ _ => (pg_name (i := 4) nd rfl (by first | exact .inl rfl | exact .inr rfl))) (fun _ _ _ _ _ => ets_nil) (fun _ _ _ _ _ => (ev_at (ev_var 4) (ev_c pe_int (fun _ => .int _)))))) el_nil)))
noncomputable def b_L_odds : Sv := (sNew 2 (sSeqA (sForA (eRange (eCons (eVar 1) eNil)) (u1 3) (sSeqA (sForA (eRange2 (eCons (eB gAdd (eVar 3) (eC (.int 1))) (eCons (eVar 1) eNil))) (u1 4) (sSeqA (sLft (sPar 5 6 (eCons (eCall g_L_beaten (eCons (eVar 0) (eCons (eVar 1) (eCons (eVar 3) (eCons (eVar 4) eNil))))) (eCons (eCall g_L_beaten (eCons (eVar 0) (eCons (eVar 1) (eCons (eVar 4) (eCons (eVar 3) eNil))))) eNil)))) (sSeqA (sIfA (eAnd (eB gIsNot (eVar 5) (eC .none)) (eB gIsNot (eVar 6) (eC .none))) (sSeqA (sApp 2 (eData (eCons (eVar 3) (eCons (eVar 4) (eCons (eVar 5) (eCons (eVar 6) eNil)))) kTup)) sNilA) sNilA) sNilA))) sNilA)) (sSeqA (sRetA 2 (eVar 2)) sNilA)))
noncomputable def g_L_odds : Gf := runE (b_L_odds) 7 2
theorem c_L_odds (E : En P w K mg base cs) : CalE P w K mg base 3 "_law_odds" (spE (g_L_odds)) := by
  obtain ⟨f, fd, F, m⟩ := E.df ("_law_odds", s_L_odds) (List.mem_of_getElem? (i := 45) rfl)
  have nd := sc_L_odds.nd
  exact calE (k := 2) (sv := b_L_odds) F m sc_L_odds (fun _ _ _ _ _ _ us hl => match us, hl with | [_, _], _ => rfl) fun cdv A outer s H E0 hr =>
    (es_new (i := 2) nd rfl (by first | exact .inl rfl | exact .inr rfl) (el_cons (el_for PassesOwn.never rfl (ei_range1 rfl (E.fr "range" (by decide)) (ea_cons (ev_var 1) ea_nil)) (gs_name (i := 3) (vs := [3]) (by decide)) (pg_name (i := 3) nd rfl (by first | exact .inl rfl | exact .inr rfl)) (el_cons (el_for PassesOwn.never rfl (ei_range2 rfl (E.fr "range" (by decide)) (ea_cons (ev_add (ev_var 3) (ev_c pe_int (fun _ => .int _))) (ea_cons (ev_var 1) ea_nil))) (gs_name (i := 4) (vs := [4]) (by decide)) (pg_name (i := 4) nd rfl (by first | exact .inl rfl | exact .inr rfl)) (el_cons (el_lift (es_par (i := 5) (j := 6) rfl nd rfl rfl (by decide) rfl rfl (ea_cons (ev_call (c_L_beaten E) hr (by decide) rfl (ea_cons (ev_var 0) (ea_cons (ev_var 1) (ea_cons (ev_var 3) (ea_cons (ev_var 4) ea_nil))))) (ea_cons (ev_call (c_L_beaten E) hr (by decide) rfl (ea_cons (ev_var 0) (ea_cons (ev_var 1) (ea_cons (ev_var 4) (ea_cons (ev_var 3) ea_nil))))) ea_nil)) (by rfl))) (el_cons (el_if (ew_pt (ew_and (et_isNot (ev_var 5) (ev_c pe_non (fun _ => .non))) (ew_and1 (et_isNot (ev_var 6) (ev_c pe_non (fun _ => .non)))))) (el_cons (el_app (pe_bm PySem.F.plainAttrs_list PySem.F.slot_list_append PySem.F.type_list_append mt_append (pv 2) (pa_cons (ev_tup (ea_cons (ev_var 3) (ea_cons (ev_var 4) (ea_cons (ev_var 5) (ea_cons (ev_var 6) ea_nil))))) pa_nil))) el_nil) el_nil) el_nil))) el_nil)) (el_cons (el_ret (ev_var 2)) el_nil)))
end
end RB
set_option Elab.async false
set_option linter.all false
set_option maxRecDepth 100000
set_option maxHeartbeats 4000000
/-! first_twice: the numbers seen so far, in a dict. -/
namespace RB
open PySem PySem.Spec PyProof.Rows L2
section
variable {P : Program} {w : World} {K : PySem.W.Frag} {mg : Str → Option Value} {base : Heap} {cs : Cs}
/-- a def by its own promise -/
theorem calR {x : Str} {st : Stmt} {f : Addr} {fd : FuncData} {N ps : List Str} {k : Nat} {sp : Sp} (F : FunD K x x (defArgs st) (defBody st) (defScope st) [] [] f fd) (m : mg x = some (.ref f)) (S : FnScope N ps (defScope st))
    (hb : ∀ (kV doc pm : Value) (an : Option Addr) (cdv ct : Value) (us : List Value), us.length = ps.length → bindArgs (PySem.W.fnOf x x (defArgs st) (defBody st) (defScope st) .none kV doc pm an cdv ct) ⟨us, []⟩ = pure (ps.zip us))
    (len : ∀ ws H Q E, sp ws H Q E → ws.length = ps.length)
    (hbody : ∀ (cdv : Value) (A : Around) (outer : List Env) (s : Shared) (H : Hp) (vs : List V) (Q : VK) (E : XK), Room k (A.deeper (envOfC x (defScope st) s.heap.objs.size f cdv)) → sp vs H Q E →
      ∃ t, PSs (cxOf CX0 P w K mg base N x (defScope st) f cdv A outer s H E).nox (defBody st) t ∧ t { nx := fun _ H' => Q .non H', rt := Q } (L2.start N vs) H) (hps : ((defArgs st).posonlyargs ++ (defArgs st).args).map (·.arg) = ps := by rfl) : CalE P w K mg base (k + 1) x sp :=
  ⟨f, fd, ps, F.ok S len (fun cdv A outer s H vs Q E hr h => by
    obtain ⟨t, h1, h2⟩ := hbody cdv A outer s H vs Q E hr h
    exact ⟨t, h1.nox, h2⟩), m, F.kp, F.bindsN hb, st, F, hps⟩
def seqI : PyData → Option (List Int)
  | .list xs => allInts xs
  | .tuple xs => allInts xs
  | _ => none
def g_first_twice : Gf := fun _ ds => match ds with
  | [.p d] => (match seqI d with
    | some ns => if ns.Nodup ∧ ns.length ≤ sizeLine then some (.p .none) else none
    | none => none)
  | _ => none
theorem seqI_seq {d : PyData} {ns : List Int} (h : seqI d = some ns) {sl : List (Option D)} {ob : Ob} (e : sl[0]? = some (some (.p d))) : eSeq (eVar 0) ⟨sl, ob⟩ = some (ns.map .int) := by
  unfold eSeq eVar
  show (match (match sl[0]? with
    | some (some d) => some d
    | _ => none) with
  | some (D.p (.list xs)) => some xs
  | some (D.p (.tuple xs)) => some xs
  | _ => none) = _
  rw [e]
  unfold seqI at h
  split at h
  · rw [allInts_eq h]
  · rw [allInts_eq h]
  · cases h
theorem c_first_twice (E : En P w K mg base cs) : CalE P w K mg base 1 "first_twice" (spE g_first_twice) := by
  obtain ⟨f, fd, F, m⟩ := E.df ("first_twice", s_first_twice) (List.mem_of_getElem? (i := 4) rfl)
  have nd := sc_first_twice.nd
  refine calR F m sc_first_twice (fun _ _ _ _ _ _ us hl => match us, hl with | [_], _ => rfl) (fun vs H Q E h => ?_) fun cdv A outer s H vs Q E hr h => ⟨_,
    pss_cons (ps_set (i := 1) nd rfl (.inl rfl) pe_dnewK)
      (pss_cons (ps_for PassesOwn.never rfl (ei_seq (ev_var 0)) (pg_name (i := 2) nd rfl (.inl rfl))
        (pss_cons (ps_if (pt_cmp (pc_din (hu_of hr) (pv 2) (pv 1))) (pss_one (ps_ret (pv 2))) pss_nil) (pss_one (ps_dput (hu_of hr) (pv 1) (pv 2) pe_bl rfl))))
      (pss_one (ps_ret pe_non))), ?_⟩
  · obtain ⟨O, ob, ds, d, _, _, r, e, _⟩ := h
    unfold g_first_twice at e
    split at e
    · exact r.length
    · cases e
  obtain ⟨O, ob, ds, d, w', o, r, e, q⟩ := h
  unfold g_first_twice at e
  split at e
  · rename_i d0
    obtain ⟨v0, rfl, t0⟩ := rep1 r
    split at e
    · rename_i ns hns
      split at e
      · rename_i nod
        obtain rfl := Option.some.inj e
        intro dd hd
        have hw : Own (dd :: O) (upd H dd (.dK [])) := (w'.up (same_upd hd)).cons (by rw [upd_same]; exact fun z => nomatch z)
        have hst : Hs (cut (dd :: O) (upd H dd (.dK []))) [some v0, some (.ref dd), none] ⟨[some (.p d0), none, none], ob⟩ := by
          refine ⟨rfl, fun i d z => ?_, o.up (cut_cons hd (same_upd hd))⟩
          match i, z with
          | 0, z => cases z; exact ⟨v0, rfl, Tp.up (cut_cons hd (same_upd hd)) _ _ t0⟩
          | 1, z => cases z
          | 2, z => cases z
          | i + 3, z => cases z
        refine ⟨dd :: O, ⟨[some (.p d0), none, none], ob⟩, ns.map .int, hw, hst, seqI_seq hns rfl, fun J H1 s1 hJ => ?_⟩
        have len : (ns.map PyData.int).length = ns.length := List.length_map _
        refine ⟨fun i m σ H' => i ≤ ns.length ∧ m = ns.length - i ∧ StepA dd H1 H' ∧ ∃ kvs u, H' dd = some (.dK kvs) ∧ kvs.length ≤ i ∧ (∀ z : Int, valV kvs (Sum.inl z) ≠ none → z ∈ ns.take i) ∧ σ = [some v0, some (.ref dd), u],
          ⟨_, Nat.zero_le _, rfl, .of (Same.refl _), [], none, s1 _ _ upd_same, Nat.le_refl _, fun z hz => absurd valV_nil hz, rfl⟩, fun i m σ H2 hW => ?_⟩
        obtain ⟨hi, hm, st2, kvs, u, hk, hkl, hkv, rfl⟩ := hW
        have w2 : Own (dd :: O) H2 := fun b hb => by
          by_cases hbd : b = dd
          · rw [hbd, hk]; exact fun z => nomatch z
          · have hb' : b ∈ O := by
              obtain h | h := List.mem_cons.mp hb
              · exact absurd h hbd
              · exact h
            exact st2.own (w'.new hd) ((w'.up (same_upd hd)).up s1) b hb'
        obtain ⟨st, go⟩ := hJ (dd :: O) i H2 w2 st2.cut
        rcases Nat.lt_or_ge i ns.length with hlt | hge
        · right
          obtain ⟨g1, g2⟩ := go (.int ns[i]) (by rw [List.getElem?_map, List.getElem?_eq_getElem hlt]; rfl)
          refine ⟨g1, fun σ' H' => ∃ m', m' < m ∧ (i + 1 ≤ ns.length ∧ m' = ns.length - (i + 1) ∧ StepA dd H1 H' ∧ ∃ kvs u, H' dd = some (.dK kvs) ∧ kvs.length ≤ i + 1 ∧ (∀ z : Int, valV kvs (Sum.inl z) ≠ none → z ∈ ns.take (i + 1)) ∧ σ' = [some v0, some (.ref dd), u]), fun σ' H' z => z, fun v H3 hy => ?_⟩
          obtain ⟨s3, t3⟩ := g2 v H3 hy
          cases t3
          have hk3 := s3 _ _ hk
          have hno : valV kvs (Sum.inl ns[i]) = none := by
            cases q5 : valV kvs (Sum.inl ns[i]) with
            | none => rfl
            | some y =>
              have hmem := hkv ns[i] (by rw [q5]; exact fun z => nomatch z)
              obtain ⟨j, hj, hje⟩ := List.mem_iff_getElem.mp hmem
              rw [List.length_take] at hj
              rw [List.getElem_take] at hje
              have := (List.getElem_inj nod.1).mp hje
              omega
          refine ⟨_, rfl, _, rfl, dd, valV kvs (Sum.inl ns[i]), rfl, DGet.k (k := Sum.inl ns[i]) hk3, _, rfl, ?_⟩
          rw [hno]
          refine iteF ⟨_, rfl, _, rfl, dd, _, rfl, DPut.k (k := Sum.inl ns[i]) hk3 ?_, ?_⟩
          · have := nod.2
            omega
          · refine ⟨ns.length - (i + 1), by omega, hlt, rfl, (st2.trans (.of s3)).trans .upd, _, _, upd_same, ?_, fun z hz => ?_, rfl⟩
            · unfold putK
              rw [valV_any, hno]
              show (if (none : Option V).isSome = true then _ else kvs ++ _).length ≤ _
              rw [if_neg (by simp), List.length_append]
              exact Nat.succ_le_succ hkl
            · rw [valV_put] at hz
              rw [List.take_add_one, List.getElem?_eq_getElem hlt]
              split at hz
              · rename_i hzz
                exact List.mem_append_right _ (by rw [Sum.inl.inj hzz]; simp)
              · exact List.mem_append_left _ (hkv z hz)
        · left
          refine ⟨st (by rw [len]; exact hge), ?_⟩
          refine q .non H2 (fun b o hb => ?_) .non
          exact st2 b o (ne_of_none hb hd) (s1 _ _ (same_upd hd _ _ hb))
      · cases e
    · cases e
  · cases e
end
end RB
set_option Elab.async false
set_option linter.all false
set_option maxRecDepth 100000
set_option maxHeartbeats 4000000
/-! The walk of the defs that read lots. Printed by walk.py. -/
namespace RB
open PySem PySem.Spec PyProof.Rows L2
section
variable {P : Program} {w : World} {K : PySem.W.Frag} {mg : Str → Option Value} {base : Heap} {cs : Cs}
noncomputable def b_need_lot_of : Sv := (sSeq (sIf (eU gNot (eCall g_is_numbers (eCons (eVar 1) eNil))) (sSeq sNever sNil) sNil) (sSeq (sFor (eSeq (eVar 1)) (u1 3) (sSeq (sIf (eU gNot (eCall g_is_within (eCons (eVar 3) (eCons (eC (.int 0)) (eCons (eB gSub (eVar 0) (eC (.int 1))) eNil))))) (sSeq sNever sNil) sNil) sNil)) (sSeq (sAsg (eCall g_first_twice (eCons (eVar 1) eNil)) 4) (sSeq (sIf (eB gIsNot (eVar 4) (eC .none)) (sSeq sNever sNil) sNil) sNil))))
noncomputable def g_need_lot_of : Gf := runE (b_need_lot_of) 5 3
theorem c_need_lot_of (E : En P w K mg base cs) : CalE P w K mg base 3 "need_lot_of" (spE (g_need_lot_of)) := by
  obtain ⟨f, fd, F, m⟩ := E.df ("need_lot_of", s_need_lot_of) (List.mem_of_getElem? (i := 5) rfl)
  have nd := sc_need_lot_of.nd
  exact calE (k := 2) (sv := b_need_lot_of) F m sc_need_lot_of (fun _ _ _ _ _ _ us hl => match us, hl with | [_, _, _], _ => rfl) fun cdv A outer s H E0 hr =>
    (ess_cons (es_if (et_not (et_val (ev_call (c_is_numbers E) hr (by decide) rfl (ea_cons (ev_var 1) ea_nil)))) (ess_cons es_never ess_nil) ess_nil) (ess_cons (es_for PassesOwn.never rfl (ei_seq (ev_var 1)) (gs_name (i := 3) (vs := [3]) (by decide)) (pg_name (i := 3) nd rfl (by first | exact .inl rfl | exact .inr rfl)) (ess_cons (es_if (et_not (et_val (ev_call (c_is_within E) hr (by decide) rfl (ea_cons (ev_var 3) (ea_cons (ev_c pe_int (fun _ => .int _)) (ea_cons (ev_sub (ev_var 0) (ev_c pe_int (fun _ => .int _))) ea_nil)))))) (ess_cons es_never ess_nil) ess_nil) ess_nil)) (ess_cons (es_set (i := 4) nd rfl (by first | exact .inl rfl | exact .inr rfl) (ev_call (c_first_twice E) hr (by decide) rfl (ea_cons (ev_var 1) ea_nil))) (ess_cons (es_if (et_isNot (ev_var 4) (ev_c pe_non (fun _ => .non))) (ess_cons es_never ess_nil) ess_nil) ess_nil))))
noncomputable def b_lot_in : Sv := (sSeq (sExp (eCall g_need_lot_of (eCons (eVar 1) (eCons (eVar 0) (eCons (eVar 2) eNil))))) (sSeq (sRet (eData (eCons (eData (eCons (eVar 0) eNil) gSorted) eNil) gTuple)) sNil))
noncomputable def g_lot_in : Gf := runE (b_lot_in) 3 3
theorem c_lot_in (E : En P w K mg base cs) : CalE P w K mg base 4 "lot_in" (spE (g_lot_in)) := by
  obtain ⟨f, fd, F, m⟩ := E.df ("lot_in", s_lot_in) (List.mem_of_getElem? (i := 6) rfl)
  have nd := sc_lot_in.nd
  exact calE (k := 3) (sv := b_lot_in) F m sc_lot_in (fun _ _ _ _ _ _ us hl => match us, hl with | [_, _, _], _ => rfl) fun cdv A outer s H E0 hr =>
    (ess_cons (es_expr (ev_call (c_need_lot_of E) hr (by decide) rfl (ea_cons (ev_var 1) (ea_cons (ev_var 0) (ea_cons (ev_var 2) ea_nil))))) (ess_cons (es_ret (ev_tuple rfl (E.fr "tuple" (by decide)) (ea_cons (ev_sorted hr rfl (E.fr "sorted" (by decide)) (ea_cons (ev_var 0) ea_nil)) ea_nil))) ess_nil))
noncomputable def b_lots_in : Sv := (sSeq (sIf (eOr (eU gNot (eIs isSeq (eVar 0))) (eU gNot (eData (eCons (eComp (eSeq (eVar 0)) (u1 3) (eC (.bool true)) (eCall g_is_numbers (eCons (eVar 3) eNil)) [3]) eNil) gAll))) (sSeq sNever sNil) sNil) (sSeq (sRet (eComp (eSeq (eVar 0)) (u1 3) (eC (.bool true)) (eCall g_lot_in (eCons (eVar 3) (eCons (eVar 1) (eCons (eVar 2) eNil)))) [3])) sNil))
noncomputable def g_lots_in : Gf := runE (b_lots_in) 4 3
theorem c_lots_in (E : En P w K mg base cs) : CalE P w K mg base 5 "lots_in" (spE (g_lots_in)) := by
  obtain ⟨f, fd, F, m⟩ := E.df ("lots_in", s_lots_in) (List.mem_of_getElem? (i := 7) rfl)
  have nd := sc_lots_in.nd
  exact calE (k := 4) (sv := b_lots_in) F m sc_lots_in (fun _ _ _ _ _ _ us hl => match us, hl with | [_, _, _], _ => rfl) fun cdv A outer s H E0 hr =>
    (ess_cons (es_if (ew_pt (ew_or (et_not (et_val (ev_isSeq rfl (E.fr "isinstance" (by decide)) rfl (E.fr "list" (by decide)) rfl (E.fr "tuple" (by decide)) (ev_var 0)))) (ew_or1 (et_not (et_val (ev_all rfl rfl (E.fr "all" (by decide)) (ea_cons (ev_lc (own := [("lot", 3)]) rfl nd (ei_seq (ev_var 0)) (blkOk_by (N := ["value", "many", "part", "lot"]) (sc := (defScope s_lots_in)) (own := [("lot", 3)]) (by first | decide +kernel | rfl)) (gs_name (i := 3) (vs := [3]) (by decide)) (fun _ _ _ _ _ => (pg_name (i := 3) nd rfl (by first | exact .inl rfl | exact .inr rfl))) (fun _ _ _ _ _ => ets_nil) (fun _ _ _ _ _ => (ev_call (c_is_numbers E) hr (by decide) rfl (ea_cons (ev_var 3) ea_nil)))) ea_nil))))))) (ess_cons es_never ess_nil) ess_nil) (ess_cons (es_ret (ev_lc (own := [("lot", 3)]) rfl nd (ei_seq (ev_var 0)) (blkOk_by (N := ["value", "many", "part", "lot"]) (sc := (defScope s_lots_in)) (own := [("lot", 3)]) (by first | decide +kernel | rfl)) (gs_name (i := 3) (vs := [3]) (by decide)) (fun _ _ _ _ _ => (pg_name (i := 3) nd rfl (by first | exact .inl rfl | exact .inr rfl))) (fun _ _ _ _ _ => ets_nil) (fun _ _ _ _ _ => (ev_call (c_lot_in E) hr (by decide) rfl (ea_cons (ev_var 3) (ea_cons (ev_var 1) (ea_cons (ev_var 2) ea_nil))))))) ess_nil))
end
end RB
set_option Elab.async false
set_option linter.all false
set_option maxRecDepth 100000
set_option maxHeartbeats 4000000
/-! The methods of the papers. -/
namespace RB
open PySem PySem.Spec PyProof.Rows L2
section
variable {P : Program} {w : World} {K : PySem.W.Frag} {mg : Str → Option Value} {base : Heap} {cs : Cs}
/-! ### truth -/
def g_true : Gf := runE (sSeq (sRet (eC (.bool true))) sNil) 1 1
def g_false : Gf := runE (sSeq (sRet (eC (.bool false))) sNil) 1 1
theorem c_Paper_bool {f : Addr} {fd : FuncData} (F : FunD K "__bool__" "Paper.__bool__" (defArgs s_Paper_bool) (defBody s_Paper_bool) (defScope s_Paper_bool) [] [] f fd) : FnOk P w K mg base CX0 1 f fd ["self"] (spE g_true) :=
  fnE (k := 0) (N := ["self"]) F sc_Paper_bool fun cdv A outer s H E0 hr => ess_cons (es_ret (ev_c pe_bl (fun _ => .bl _))) ess_nil
theorem c_Denial_bool {f : Addr} {fd : FuncData} (F : FunD K "__bool__" "Denial.__bool__" (defArgs s_Denial_bool) (defBody s_Denial_bool) (defScope s_Denial_bool) [] [] f fd) : FnOk P w K mg base CX0 1 f fd ["self"] (spE g_false) :=
  fnE (k := 0) (N := ["self"]) F sc_Denial_bool fun cdv A outer s H E0 hr => ess_cons (es_ret (ev_c pe_bl (fun _ => .bl _))) ess_nil
/-! ### equality -/
def eNm (tab : Addr → Option Str) (f : Ev) : Ev := fun Γ => match f Γ with
  | some (.o a) => (match Γ.ob a with
    | some (C, _) => (tab C).map fun x => .p (.str x)
    | none => none)
  | _ => none
theorem ev_clsName {X : Cx} {e : Expr} {f : Ev} {p1 p2 : Pos} {tab : Addr → Option Str} (ht : ∀ C x, tab C = some x → ClsName X.K C x) (he : PE X e (tOf f)) (h1 : attributeBase e "__class__" X.env (eval e X.env) = eval e X.env := by rfl)
    (h2 : attributeBase (.Attribute e "__class__" p1) "__name__" X.env (eval (.Attribute e "__class__" p1) X.env) = eval (.Attribute e "__class__" p1) X.env := by rfl) : PE X (.Attribute (.Attribute e "__class__" p1) "__name__" p2) (tOf (eNm tab f)) := pe_imp (pe_clsName he h1 h2) fun σ H Q h => by
  obtain ⟨O, Γ, d, w, hs, e, q⟩ := h
  unfold eNm at e
  split at e
  · rename_i a h1
    split at e
    · rename_i C fs h2
      obtain ⟨x, h3, rfl⟩ := Option.map_eq_some_iff.mp e
      refine ⟨O, Γ, _, w, hs, h1, fun v H1 s1 r1 => ?_⟩
      obtain ⟨dx, vs, h5, _⟩ := (hs.ob.up (cutS s1)) a C fs h2
      exact ⟨a, C, dx, vs, x, r1, cut_sub _ _ h5, ht C x h3, q _ H1 s1 (.str _)⟩
    · cases e
  · cases e
def Cs.nm (c : Cs) (C : Addr) : Option Str := if C = c.T then some "Trade" else if C = c.L then some "Lengths" else none
theorem En.nm (E : En P w K mg base cs) (C : Addr) (x : Str) (h : cs.nm C = some x) : ClsName K C x := by
  unfold Cs.nm at h
  split at h
  · rename_i e; cases h; rw [e]; exact E.nmT
  · split at h
    · rename_i e; cases h; rw [e]; exact E.nmL
    · cases h
noncomputable def b_Paper_eq (cs : Cs) : Sv := sSeq (sIf (eOr (eU gNot (eIsC cs.isPaper (eVar 1))) (eB gNe (eNm cs.nm (eVar 0)) (eNm cs.nm (eVar 1)))) (sSeq (sRet (eC (.bool false))) sNil) sNil)
  (sSeq (sRet (eData (eCons (eAnd (eB gEq (eFlds [cs.L, cs.T] "word" (eVar 0)) (eFlds [cs.L, cs.T] "word" (eVar 1))) (eB gEq (eFlds [cs.L, cs.T] "parts" (eVar 0)) (eFlds [cs.L, cs.T] "parts" (eVar 1)))) eNil) gBool)) sNil)
noncomputable def g_Paper_eq (cs : Cs) : Gf := runE (b_Paper_eq cs) 2 2
theorem c_Paper_eq (E : En P w K mg base cs) {f : Addr} {fd : FuncData} (F : FunD K "__eq__" "Paper.__eq__" (defArgs s_Paper_eq) (defBody s_Paper_eq) (defScope s_Paper_eq) [] [] f fd) : FnOk P w K mg base CX0 1 f fd ["self", "other"] (spE (g_Paper_eq cs)) :=
  fnE (k := 0) (N := ["self", "other"]) (sv := b_Paper_eq cs) F sc_Paper_eq fun cdv A outer s H E0 hr =>
    ess_cons (es_if (ew_pt (ew_or (et_not (et_val (ev_isC E.isPaper rfl (E.fr "isinstance" (by decide)) rfl E.cP (ev_var 1)))) (ew_or1 (et_ne hr (ev_clsName E.nm (ev_var 0)) (ev_clsName E.nm (ev_var 1))))))
      (ess_cons (es_ret (ev_c pe_bl (fun _ => .bl _))) ess_nil) ess_nil)
    (ess_cons (es_ret (ev_bool rfl (E.fr "bool" (by decide)) (ea_cons (ev_and (ev_eq hr (ev_flds E.fld_word (ev_var 0)) (ev_flds E.fld_word (ev_var 1))) (ev_one (ev_eq hr (ev_flds E.fld_parts (ev_var 0)) (ev_flds E.fld_parts (ev_var 1))))) ea_nil))) ess_nil)
/-! ### making -/
/-- at a an object of the class C with these attributes -/
def ObAt (H : Hp) (a C : Addr) (fs : List (Str × PyData)) : Prop := ∃ dx vs, H a = some (.ins C dx vs) ∧ ∀ nm d, fs.lookup nm = some d → ∃ v, vs.lookup nm = some v ∧ Tp H v d
theorem ObAt.up {H H' : Hp} {a C : Addr} {fs : List (Str × PyData)} (h : ObAt H a C fs) (e : Same H H') : ObAt H' a C fs := by
  obtain ⟨dx, vs, h1, h2⟩ := h
  exact ⟨dx, vs, e _ _ h1, fun nm d z => by
    obtain ⟨v, k1, k2⟩ := h2 nm d z
    exact ⟨v, k1, Tp.up e d v k2⟩⟩
/-- the promise of an __init__ whose object is new: the rest of the heap is kept, the object gets these attributes -/
def spNew (C : Addr) (g : List PyData → Option (List (Str × PyData))) : Sp := fun vs H Q _ => ∃ O x dx ws ds fs, vs = V.ref x :: ws ∧ Own O H ∧ x ∉ O ∧ TpAll (cut (x :: O) H) ws ds ∧ H x = some (.ins C dx []) ∧ g ds = some fs ∧
  ∀ H', StepA x H H' → (∃ us, H' x = some (.ins C dx us) ∧ ∀ nm d, fs.lookup nm = some d → ∃ v, us.lookup nm = some v ∧ Tp (cut (x :: O) H') v d) → Q .non H'
/-! ### Paper.__init__ -/
noncomputable def fixedOf (d : PyData) : Option PyData := match g_fixed 5 (fun _ => none) [.p d] with
  | some (.p y) => some y
  | _ => none
theorem fixedOf_some {d y : PyData} (h : fixedOf d = some y) : g_fixed 5 (fun _ => none) [.p d] = some (.p y) := by
  unfold fixedOf at h
  split at h
  · rename_i z e
    rw [e, Option.some.inj h]
  · cases h
def spPap (C : Addr) : Sp := fun vs H Q _ => ∃ O x dx wd rest ds fx, vs = [V.ref x, .str wd] ++ rest ∧ Own O H ∧ x ∉ O ∧ TpAll (cut (x :: O) H) rest ds ∧ H x = some (.ins C dx []) ∧ rest.length ≤ sizeLine ∧ fixedOf (.tuple ds) = some fx ∧
  ∀ H' vp, StepA x H H' → H' x = some (.ins C dx [("word", .str wd), ("parts", vp)]) → Tp (cut (x :: O) H') vp fx → Q .non H'
theorem c_Paper_init (E : En P w K mg base cs) {f : Addr} {fd : FuncData} (F : FunD K "__init__" "Paper.__init__" (defArgs s_Paper_init) (defBody s_Paper_init) (defScope s_Paper_init) [] [] f fd) {C : Addr} (hC : C ∈ [cs.L, cs.T]) :
    FnR P w K mg base CX0 6 f (spPap C) := by
  rcases F.ex with ⟨oc, od, dV, kV, doc, pm, an, cdv, ct, osl, rfl, lk, hcd, hD, hK⟩
  have e0 : dV = .none := by
    rcases hD with ⟨_, e⟩ | ⟨e, _⟩
    · exact e
    · exact absurd rfl e
  subst e0
  have nd := sc_Paper_init.nd
  refine (StX.fn_star (k := 5) (ps := ["self", "word"]) (pv := "parts") (sp := fun vs H Q _ => ∃ O x dx wd p rest ds fx, vs = [V.ref x, .str wd, .ref p] ∧ H p = some (.tup rest) ∧ Own O H ∧ x ∉ O ∧ p ≠ x ∧ p ∉ O ∧ TpAll (cut (x :: O) H) rest ds ∧ H x = some (.ins C dx []) ∧ fixedOf (.tuple ds) = some fx ∧
      ∀ H' vp, StepA x H H' → H' x = some (.ins C dx [("word", .str wd), ("parts", vp)]) → Tp (cut (x :: O) H') vp fx → Q .non H') lk hcd sc_Paper_init StX.cxUp_none (StX.bind_star2 (B := fun l => bindArgs (PySem.W.fnOf "__init__" "Paper.__init__" (defArgs s_Paper_init) (defBody s_Paper_init) (defScope s_Paper_init) .none kV doc pm an cdv ct) ⟨l, []⟩) (fun _ _ => rfl) (fun _ _ _ _ => rfl)) fun A outer s H vs Q E' hr h =>
      ⟨_, PSs.nox (pss_cons (ps_fld (pv 0) (pv 1) rfl) (pss_one (ps_fld (pv 0) (pe_cal (c_fixed E 5) hr (Nat.le_refl _) rfl (pa_cons (pv 2) pa_nil)) rfl))), ?_⟩).imp fun vs H Q E' h => ?_
  · obtain ⟨O, x, dx, wd, p, rest, ds, fx, rfl, hp, w', hx, hpx, hpO, t, hi, hfx, q⟩ := h
    refine ⟨_, rfl, _, rfl, x, C, dx, [], rfl, hi, (E.fld_word C hC).1, (E.fld_word C hC).2, by decide, ?_⟩
    have hxO : x ∈ x :: O := List.mem_cons_self
    refine ⟨_, rfl, x :: O, fun _ => none, [.p (.tuple ds)], .p fx, ?_, (fun a C fs z => by cases z), .cons (.tup ?_ (by rw [cut_own hxO]; exact t)) .nil, fixedOf_some hfx, fun v H1 s1 r1 => ?_⟩
    · exact (StepA.upd.own hx w').cons (by rw [upd_same]; exact fun z => nomatch z)
    · rw [cut_own hxO, cut_out (by simp only [List.mem_cons, not_or]; exact ⟨hpx, hpO⟩)]
      exact hp
    · refine ⟨_, rfl, x, C, dx, [("word", .str wd)], rfl, s1 _ _ upd_same, (E.fld_parts C hC).1, (E.fld_parts C hC).2, by show 1 < 1000; decide, ?_⟩
      refine q _ v ((StepA.upd.trans (.of s1)).trans .upd) ?_ (by rw [cut_own hxO]; exact r1)
      rw [upd_same]
      rfl
  · obtain ⟨O, x, dx, wd, rest, ds, fx, rfl, w', hx, t, hi, hz, hfx, q⟩ := h
    refine ⟨[.ref x, .str wd], rest, rfl, rfl, hz, fun p hp => ?_⟩
    have hpx : p ≠ x := fun z => by rw [z, hi] at hp; cases hp
    refine ⟨O, x, dx, wd, p, rest, ds, fx, rfl, upd_same, w'.up (same_upd hp), hx, hpx, w'.new hp, TpAll.up (cutS (same_upd hp)) _ _ t, by rw [upd_ne hpx.symm]; exact hi, hfx, fun H' vp st => q H' vp fun b o hb h => st b o hb (same_upd hp _ _ h)⟩
/-! ### Lengths, Trade -/
noncomputable def newLengths : List PyData → Option (List (Str × PyData))
  | [d] => (match fixedOf (.tuple [d]) with
    | some (.tuple [fd]) => some [("word", .str "lengths"), ("parts", .tuple [fd]), ("lengths", fd)]
    | _ => none)
  | _ => none
noncomputable def newTrade : List PyData → Option (List (Str × PyData))
  | [d, e] => (match fixedOf (.tuple [d, e]) with
    | some (.tuple [fd, fe]) => some [("word", .str "trade"), ("parts", .tuple [fd, fe]), ("short", fd), ("long", fe)]
    | _ => none)
  | _ => none
theorem lk_cons {α : Type} {k x : Str} {a v : α} {r : List (Str × α)} (h : ((k, a) :: r).lookup x = some v) : (x = k ∧ v = a) ∨ r.lookup x = some v := by
  show _ ∨ _
  have h : (match x == k with
    | true => some a
    | false => r.lookup x) = some v := h
  split at h
  · rename_i e
    exact .inl ⟨beq_iff_eq.mp e, (Option.some.inj h).symm⟩
  · exact .inr h
theorem c_Lengths_init (E : En P w K mg base cs) {f f2 cc cd : Addr} {fd2 : FuncData} (F2 : FunD K "__init__" "Paper.__init__" (defArgs s_Paper_init) (defBody s_Paper_init) (defScope s_Paper_init) [] [] f2 fd2)
    (S : SupK P K cs.L f f2 cc cd "Lengths.__init__" (defArgs s_Lengths_init) (defBody s_Lengths_init) (defScope s_Lengths_init)) :
    ∃ fd, FnOk P w K mg base CX0 7 f fd ["self", "lengths"] (spNew cs.L newLengths) ∧ L2.Binds K fd ["self", "lengths"] [] := by
  have B := c_Paper_init E F2 (C := cs.L) List.mem_cons_self
  have Sc : NdefX.NScope ["self", "lengths", "__class__"] ["self", "lengths"] ["__class__"] (defScope s_Lengths_init) := NdefX.nscope_by (by decide +kernel)
  have nd := Sc.nd
  have len : ∀ (vs : List V) (H : Hp) (Q : VK) (E' : XK), spNew cs.L newLengths vs H Q E' → vs.length = ["self", "lengths"].length := fun vs H Q E' h => by
    obtain ⟨O, x, dx, ws, ds, fs, rfl, _, _, t, _, e, _⟩ := h
    unfold newLengths at e
    split at e
    · show ws.length + 1 = 2
      rw [t.length]; rfl
    · cases e
  obtain ⟨fd, ⟨oc, od, doc, pm, ct, an, osl, e, lk⟩, G⟩ := fn_super (k := 6) (N := ["self", "lengths", "__class__"]) (ps := ["self", "lengths"]) (sp := spNew cs.L newLengths) S Sc rfl rfl (by decide +kernel) (by decide +kernel) E.top (E.fr "super" (by decide)) (by decide +kernel) B len (fun _ => rfl) (fun _ => rfl) (fun env => pure false) (fun _ => rfl) (fun _ => rfl) fun A outer s H vs Q E' hr h => by
    obtain ⟨O, x, dx, ws, ds, fs, rfl, w', hx, t, hi, e, q⟩ := h
    unfold newLengths at e
    split at e
    · rename_i d
      obtain ⟨v, rfl, tv⟩ := tp1 t
      split at e
      · rename_i fd hfx
        obtain rfl := Option.some.inj e
        refine ⟨x, dx, [], _, _, rfl, hi, pa_cons pe_str (pa_cons (pv 1) pa_nil), pss_one (ps_fld (pv 0) (pe_ix ix_seq (pe_fld (pv 0) rfl) pe_int (fun _ _ => rfl)) rfl), ?_⟩
        refine ⟨v, rfl, O, x, dx, "lengths", [v], [d], .tuple [fd], rfl, w', hx, t, hi, by show 1 ≤ sizeLine; decide, hfx, fun H' vp st hx' tv' => ?_⟩
        cases tv' with
        | tup k1 k2 =>
          obtain ⟨y, rfl, ty⟩ := tp1 k2
          refine ⟨_, rfl, x, cs.L, dx, _, _, rfl, hx', E.iL.cl, E.nL _ (by decide), rfl, .inr (.inl ⟨_, [y], 0, y, rfl, rfl, SqT.of (cut_sub _ _ k1), rfl, ?_⟩)⟩
          refine ⟨_, rfl, x, cs.L, dx, _, rfl, hx', E.iL.cl, E.nL _ (by decide), by show 2 < 1000; decide, ?_⟩
          refine q _ (st.trans .upd) ⟨_, upd_same, fun nm dd hl => ?_⟩
          rw [cut_own List.mem_cons_self]
          rcases lk_cons hl with ⟨rfl, rfl⟩ | hl
          · exact ⟨_, rfl, .str _⟩
          rcases lk_cons hl with ⟨rfl, rfl⟩ | hl
          · exact ⟨_, rfl, .tup k1 (.cons ty .nil)⟩
          rcases lk_cons hl with ⟨rfl, rfl⟩ | hl
          · exact ⟨_, rfl, ty⟩
          · cases hl
      · cases e
    · cases e
  refine ⟨fd, G, ?_⟩
  subst e
  exact .all fun us hl => match us, hl with
    | [_, _], _ => rfl
theorem tp2 {H : Hp} {vs : List V} {d e : PyData} (h : TpAll H vs [d, e]) : ∃ v u, vs = [v, u] ∧ Tp H v d ∧ Tp H u e := by
  cases h with
  | cons h t =>
    obtain ⟨u, rfl, hu⟩ := tp1 t
    exact ⟨_, u, rfl, h, hu⟩
theorem c_Trade_init (E : En P w K mg base cs) {f f2 cc cd : Addr} {fd2 : FuncData} (F2 : FunD K "__init__" "Paper.__init__" (defArgs s_Paper_init) (defBody s_Paper_init) (defScope s_Paper_init) [] [] f2 fd2)
    (S : SupK P K cs.T f f2 cc cd "Trade.__init__" (defArgs s_Trade_init) (defBody s_Trade_init) (defScope s_Trade_init)) :
    ∃ fd, FnOk P w K mg base CX0 7 f fd ["self", "short", "long"] (spNew cs.T newTrade) ∧ L2.Binds K fd ["self", "short", "long"] [] ∧ L2.KBn K fd ["self", "short", "long"] 1 ["long", "short"] (fun us ws => us ++ ws.reverse) (fun vs zs => vs ++ zs.reverse) := by
  have B := c_Paper_init E F2 (C := cs.T) (List.mem_cons_of_mem _ List.mem_cons_self)
  have Sc : NdefX.NScope ["self", "short", "long", "__class__"] ["self", "short", "long"] ["__class__"] (defScope s_Trade_init) := NdefX.nscope_by (by decide +kernel)
  have nd := Sc.nd
  have len : ∀ (vs : List V) (H : Hp) (Q : VK) (E' : XK), spNew cs.T newTrade vs H Q E' → vs.length = ["self", "short", "long"].length := fun vs H Q E' h => by
    obtain ⟨O, x, dx, ws, ds, fs, rfl, _, _, t, _, e, _⟩ := h
    unfold newTrade at e
    split at e
    · show ws.length + 1 = 3
      rw [t.length]; rfl
    · cases e
  obtain ⟨fd, ⟨oc, od, doc, pm, ct, an, osl, e, lk⟩, G⟩ := fn_super (k := 6) (N := ["self", "short", "long", "__class__"]) (ps := ["self", "short", "long"]) (sp := spNew cs.T newTrade) S Sc rfl rfl (by decide +kernel) (by decide +kernel) E.top (E.fr "super" (by decide)) (by decide +kernel) B len (fun _ => rfl) (fun _ => rfl) (fun env => pure false) (fun _ => rfl) (fun _ => rfl) fun A outer s H vs Q E' hr h => by
    obtain ⟨O, x, dx, ws, ds, fs, rfl, w', hx, t, hi, e, q⟩ := h
    unfold newTrade at e
    split at e
    · rename_i d d'
      obtain ⟨v, v', rfl, tv, tv'⟩ := tp2 t
      split at e
      · rename_i fd fd' hfx
        obtain rfl := Option.some.inj e
        refine ⟨x, dx, [], _, _, rfl, hi, pa_cons pe_str (pa_cons (pv 1) (pa_cons (pv 2) pa_nil)), pss_one (ps_asg (pe_fld (pv 0) rfl) (pg_tup rfl (pgs_cons (pg_attr (pv 0)) (pgs_cons (pg_attr (pv 0)) pgs_nil)))), ?_⟩
        refine ⟨v, rfl, v', rfl, O, x, dx, "trade", [v, v'], [d, d'], .tuple [fd, fd'], rfl, w', hx, t, hi, by show 2 ≤ sizeLine; decide, hfx, fun H' vp st hx' tv' => ?_⟩
        cases tv' with
        | tup k1 k2 =>
          obtain ⟨y, y', rfl, ty, ty'⟩ := tp2 k2
          refine ⟨_, rfl, x, cs.T, dx, _, _, rfl, hx', E.iT.cl, E.nT _ (by decide), rfl, _, [y, y'], rfl, SqT.of (cut_sub _ _ k1), rfl, y, [y'], rfl, ?_⟩
          refine ⟨_, rfl, x, cs.T, dx, _, rfl, hx', E.iT.cl, E.nT _ (by decide), by show 2 < 1000; decide, y', [], rfl, ?_⟩
          refine ⟨_, rfl, x, cs.T, dx, _, rfl, upd_same, E.iT.cl, E.nT _ (by decide), by show 3 < 1000; decide, rfl, ?_⟩
          refine q _ ((st.trans .upd).trans .upd) ⟨_, upd_same, fun nm dd hl => ?_⟩
          rw [cut_own List.mem_cons_self, cut_own List.mem_cons_self]
          rcases lk_cons hl with ⟨rfl, rfl⟩ | hl
          · exact ⟨_, rfl, .str _⟩
          rcases lk_cons hl with ⟨rfl, rfl⟩ | hl
          · exact ⟨_, rfl, .tup k1 (.cons ty (.cons ty' .nil))⟩
          rcases lk_cons hl with ⟨rfl, rfl⟩ | hl
          · exact ⟨_, rfl, ty⟩
          rcases lk_cons hl with ⟨rfl, rfl⟩ | hl
          · exact ⟨_, rfl, ty'⟩
          · cases hl
      · cases e
    · cases e
  subst e
  refine ⟨_, G, .all fun us hl => match us, hl with
    | [_, _, _], _ => rfl, ⟨fun s us ws _ h1 h2 => .of_eq ?_, fun r r2 => r.append ?_⟩⟩
  · match us, h1, ws, h2 with
    | [_], _, [_, _], _ => rfl
  · have rev : ∀ {a : List V} {b : List Value}, Vals a b → Vals a.reverse b.reverse := by
      intro a b r
      induction r with
      | nil => exact .nil
      | cons h t ih =>
        rw [List.reverse_cons]
        rw [List.reverse_cons]
        exact ih.append (.cons h .nil)
    exact rev r2
end
end RB
set_option Elab.async false
set_option linter.all false
set_option maxRecDepth 100000
set_option maxHeartbeats 2000000
/-! What the readings give, step by step. -/
namespace RB
open PySem PySem.Spec PyProof.Rows L2
open PySem.W (AllAlike Sortable dataLe)
abbrev ob0 : Ob := fun _ => none
theorem ob0_ok {H : Hp} : ObOk H ob0 := fun a C fs z => by cases z
section
variable {Γ : Gm} {f f1 f2 c : Ev} {fs : Evs} {x y a b : PyData} {d : D} {ds : List D} {xs ys : List PyData}
theorem eVar_of {i : Nat} (h : Γ.sl[i]? = some (some d)) : eVar i Γ = some d := by
  unfold eVar
  rw [h]
theorem eU_of {g : PyData → Option PyData} (h : f Γ = some (.p x)) (k : g x = some y) : eU g f Γ = some (.p y) := by
  unfold eU
  rw [h]
  dsimp only
  rw [k]; rfl
theorem eB_of {g : PyData → PyData → Option PyData} (h1 : f1 Γ = some (.p a)) (h2 : f2 Γ = some (.p b)) (k : g a b = some y) : eB g f1 f2 Γ = some (.p y) := by
  unfold eB
  rw [h1, h2]
  dsimp only
  rw [k]; rfl
theorem eAnd_t {r : Option D} (h1 : f1 Γ = some (.p (.bool true))) (h2 : f2 Γ = r) : eAnd f1 f2 Γ = r := by
  unfold eAnd
  rw [h1]; exact h2
theorem eAnd_f (h1 : f1 Γ = some (.p (.bool false))) : eAnd f1 f2 Γ = some (.p (.bool false)) := by
  unfold eAnd
  rw [h1]
theorem eAnd_of {p q : Bool} (h1 : f1 Γ = some (.p (.bool p))) (h2 : p = true → f2 Γ = some (.p (.bool q))) : eAnd f1 f2 Γ = some (.p (.bool (p && q))) := by
  cases p with
  | true => exact eAnd_t h1 (h2 rfl)
  | false => exact eAnd_f h1
theorem eOr_t (h1 : f1 Γ = some (.p (.bool true))) : eOr f1 f2 Γ = some (.p (.bool true)) := by
  unfold eOr
  rw [h1]
theorem eOr_f {r : Option D} (h1 : f1 Γ = some (.p (.bool false))) (h2 : f2 Γ = r) : eOr f1 f2 Γ = r := by
  unfold eOr
  rw [h1]; exact h2
theorem eOr_of {p q : Bool} (h1 : f1 Γ = some (.p (.bool p))) (h2 : p = false → f2 Γ = some (.p (.bool q))) : eOr f1 f2 Γ = some (.p (.bool (p || q))) := by
  cases p with
  | true => exact eOr_t h1
  | false => exact eOr_f h1 (h2 rfl)
theorem eIf_t {r : Option D} (h1 : c Γ = some (.p (.bool true))) (h2 : f1 Γ = r) : eIf c f1 f2 Γ = r := by
  unfold eIf
  rw [h1]; exact h2
theorem eIf_f {r : Option D} (h1 : c Γ = some (.p (.bool false))) (h2 : f2 Γ = r) : eIf c f1 f2 Γ = r := by
  unfold eIf
  rw [h1]; exact h2
theorem eNot_of {p : Bool} (h : f Γ = some (.p (.bool p))) : eU gNot f Γ = some (.p (.bool (!p))) := eU_of h rfl
theorem eCons_of (h1 : f Γ = some d) (h2 : fs Γ = some ds) : eCons f fs Γ = some (d :: ds) := by
  unfold eCons
  rw [h1, h2]
theorem allP_map : ∀ xs : List PyData, allP (xs.map .p) = some xs
  | [] => rfl
  | x :: r => by
    show (allP (r.map .p)).map (x :: ·) = _
    rw [allP_map r]; rfl
theorem eData_of {k : List PyData → Option PyData} (h1 : fs Γ = some (xs.map .p)) (h2 : k xs = some y) : eData fs k Γ = some (.p y) := by
  unfold eData
  rw [h1]
  rw [Option.bind_some, allP_map, Option.bind_some, h2]; rfl
theorem eData1 {k : List PyData → Option PyData} (h1 : f Γ = some (.p x)) (h2 : k [x] = some y) : eData (eCons f eNil) k Γ = some (.p y) := eData_of (xs := [x]) (eCons_of h1 rfl) h2
theorem eCall_of {g : Gf} (h1 : fs Γ = some ds) (h2 : g Γ.ob ds = some d) : eCall g fs Γ = some d := by
  unfold eCall
  rw [h1]; exact h2
theorem eSeq_l (h : f Γ = some (.p (.list xs))) : eSeq f Γ = some xs := by
  unfold eSeq
  rw [h]
theorem eSeq_t (h : f Γ = some (.p (.tuple xs))) : eSeq f Γ = some xs := by
  unfold eSeq
  rw [h]
theorem eIs_of {g : PyData → Bool} (h : f Γ = some (.p x)) : eIs g f Γ = some (.p (.bool (g x))) := eU_of h rfl
theorem eFlds_of {Cs : List Addr} {nm : Str} {q C : Addr} {as : List (Str × PyData)} (h1 : f Γ = some (.o q)) (h2 : Γ.ob q = some (C, as)) (h3 : C ∈ Cs) (h4 : as.lookup nm = some x) : eFlds Cs nm f Γ = some (.p x) := by
  unfold eFlds
  rw [h1]
  dsimp only
  rw [h2]
  dsimp only
  rw [if_pos h3, h4]; rfl
theorem eIsC_of {tab : Addr → Option Bool} {q C : Addr} {as : List (Str × PyData)} {p : Bool} (h1 : f Γ = some (.o q)) (h2 : Γ.ob q = some (C, as)) (h3 : tab C = some p) : eIsC tab f Γ = some (.p (.bool p)) := by
  unfold eIsC
  rw [h1]
  dsimp only
  rw [h2]
  dsimp only
  rw [h3]; rfl
/-! ### what is walked -/
theorem eRange_of {j : Int} (h : fs Γ = some [.p (.int j)]) (h1 : 0 ≤ j) (h2 : j < 2 ^ 62) : eRange fs Γ = some (numsD 0 j.toNat) := by
  unfold eRange
  rw [h]
  dsimp only [eRng]
  rw [if_pos (⟨by omega, h2⟩)]
theorem eRange2_of {i j : Int} (h : fs Γ = some [.p (.int i), .p (.int j)]) (h1 : 0 ≤ i) (h2 : i < 2 ^ 62) (h3 : 0 ≤ j) (h4 : j < 2 ^ 62) : eRange2 fs Γ = some (numsD i (j - i).toNat) := by
  unfold eRange2
  rw [h]
  dsimp only [eRng]
  rw [if_pos (⟨by omega, h2, by omega, h4⟩)]
theorem eEnum_of (h : fs Γ = some [.p (.list xs)]) : eEnum fs Γ = some (enumD 0 xs) := by
  unfold eEnum
  rw [h]
/-! ### comprehensions -/
theorem compGo_of {step : PyData → Option (Option PyData)} {o : PyData → Option PyData} : ∀ xs : List PyData, (∀ x ∈ xs, step x = some (o x)) → compGo step xs = some (xs.filterMap o)
  | [], _ => rfl
  | x :: r, h => by
    unfold compGo
    rw [h x List.mem_cons_self, compGo_of r fun y hy => h y (List.mem_cons_of_mem _ hy)]
    dsimp only
    rw [List.filterMap_cons]
    cases o x <;> rfl
/-- over encoded things, each kept or not by p, told by e -/
theorem compGo_enc {α : Type} {step : PyData → Option (Option PyData)} {enc : α → PyData} {p : α → Bool} {e : α → PyData} : ∀ l : List α, (∀ x ∈ l, step (enc x) = some (if p x = true then some (e x) else none)) → compGo step (l.map enc) = some ((l.filter p).map e)
  | [], _ => rfl
  | x :: r, h => by
    rw [List.map_cons]
    unfold compGo
    rw [h x List.mem_cons_self, compGo_enc r fun y hy => h y (List.mem_cons_of_mem _ hy)]
    dsimp only
    rw [List.filter_cons]
    cases p x <;> rfl
theorem compGo_all {α : Type} {step : PyData → Option (Option PyData)} {enc : α → PyData} {e : α → PyData} : ∀ l : List α, (∀ x ∈ l, step (enc x) = some (some (e x))) → compGo step (l.map enc) = some (l.map e)
  | [], _ => rfl
  | x :: r, h => by
    rw [List.map_cons]
    unfold compGo
    rw [h x List.mem_cons_self, compGo_all r fun y hy => h y (List.mem_cons_of_mem _ hy)]
    rfl
theorem stepOf_if {u : Ut} {test elt : Ev} {sl sl' : List (Option D)} {ob : Ob} {p : Bool} (h1 : u x sl = some sl') (h2 : test ⟨sl', ob⟩ = some (.p (.bool p))) (h3 : p = true → elt ⟨sl', ob⟩ = some (.p y)) : stepOf u test elt sl ob x = some (if p = true then some y else none) := by
  unfold stepOf
  rw [h1]
  dsimp only
  rw [h2]
  cases p with
  | true =>
    dsimp only
    rw [h3 rfl]; rfl
  | false => rfl
theorem stepOf_all {u : Ut} {elt : Ev} {sl sl' : List (Option D)} {ob : Ob} (h1 : u x sl = some sl') (h3 : elt ⟨sl', ob⟩ = some (.p y)) : stepOf u (eC (.bool true)) elt sl ob x = some (some y) := by
  have := stepOf_if (u := u) (test := eC (.bool true)) (elt := elt) (p := true) h1 rfl fun _ => h3
  simpa using this
theorem eComp_of {src : Ew} {u : Ut} {test elt : Ev} {vs : List Nat} (h1 : src Γ = some xs) (h2 : xs.length ≤ sizeLine) (h3 : compGo (stepOf u test elt (wipeD Γ.sl vs) Γ.ob) xs = some ys) : eComp src u test elt vs Γ = some (.p (.list ys)) := by
  unfold eComp
  rw [h1]
  dsimp only
  rw [if_pos h2, h3]; rfl
theorem compGo2_all {α : Type} {step : PyData → Option (List PyData)} {enc : α → PyData} {e : α → List PyData} : ∀ l : List α, (∀ x ∈ l, step (enc x) = some (e x)) → compGo2 step (l.map enc) = some (l.flatMap e)
  | [], _ => rfl
  | x :: r, h => by
    rw [List.map_cons]
    unfold compGo2
    rw [h x List.mem_cons_self, compGo2_all r fun y hy => h y (List.mem_cons_of_mem _ hy)]
    rfl
theorem eComp2_of {src src1 : Ew} {u u' : Ut} {elt : Ev} {vs vs1 : List Nat} (h1 : src Γ = some xs) (h3 : compGo2 (stepOf2 u src1 u' elt vs1 (wipeD Γ.sl vs) Γ.ob) xs = some ys) (h2 : ys.length < sizeLine) : eComp2 src u src1 u' elt vs vs1 Γ = some (.p (.list ys)) := by
  unfold eComp2
  rw [h1]
  dsimp only
  rw [h3]
  dsimp only
  rw [if_pos h2]
/-! ### statements -/
variable {s s1 s2 : Sv} {sl sl' : List (Option D)} {r : Option Res}
theorem sSeq_nx (h1 : s1 Γ = some (.nx sl)) (h2 : s2 ⟨sl, Γ.ob⟩ = r) : sSeq s1 s2 Γ = r := by
  unfold sSeq
  rw [h1]; exact h2
theorem sSeq_ret (h1 : s1 Γ = some (.ret d)) : sSeq s1 s2 Γ = some (.ret d) := by
  unfold sSeq
  rw [h1]
theorem sIf_t (h1 : c Γ = some (.p (.bool true))) (h2 : s1 Γ = r) : sIf c s1 s2 Γ = r := by
  unfold sIf
  rw [h1]; exact h2
theorem sIf_f (h1 : c Γ = some (.p (.bool false))) (h2 : s2 Γ = r) : sIf c s1 s2 Γ = r := by
  unfold sIf
  rw [h1]; exact h2
theorem sIf_of {p : Bool} (h1 : c Γ = some (.p (.bool p))) : sIf c s1 s2 Γ = if p = true then s1 Γ else s2 Γ := by
  unfold sIf
  rw [h1]
  cases p <;> rfl
theorem sRet_of (h : f Γ = some d) : sRet f Γ = some (.ret d) := by
  unfold sRet
  rw [h]; rfl
theorem sRet1 (h : f Γ = some d) : sSeq (sRet f) s Γ = some (.ret d) := sSeq_ret (sRet_of h)
theorem sAsg_of {i : Nat} (h : f Γ = some d) : sAsg f i Γ = some (.nx (Γ.sl.set i (some d))) := by
  unfold sAsg
  rw [h]; rfl
theorem sExp_of (h : f Γ = some d) : sExp f Γ = some (.nx Γ.sl) := by
  unfold sExp
  rw [h]; rfl
theorem runE_ret {n m : Nat} {ob : Ob} (hl : ds.length = m) (h : s ⟨ds.map some ++ List.replicate (n - m) none, ob⟩ = some (.ret d)) : runE s n m ob ds = some d := by
  unfold runE
  rw [if_pos hl, h]
theorem runE_nx {n m : Nat} {ob : Ob} (hl : ds.length = m) (h : s ⟨ds.map some ++ List.replicate (n - m) none, ob⟩ = some (.nx sl)) : runE s n m ob ds = some (.p .none) := by
  unfold runE
  rw [if_pos hl, h]
theorem sFor_of {src : Ew} {u : Ut} {body : Sv} (h1 : src Γ = some xs) : sFor src u body Γ = forGo (fun x sl => match u x sl with
    | none => none
    | some sl' => body ⟨sl', Γ.ob⟩) xs Γ.sl := by
  unfold sFor
  rw [h1] <;> rfl
/-- a loop none of whose turns returns, its slots as Inv tells -/
theorem forGo_nx {α : Type} {step : PyData → List (Option D) → Option Res} {enc : α → PyData} {Inv : List (Option D) → Prop} : ∀ (l : List α) (sl : List (Option D)), (∀ x ∈ l, ∀ sl, Inv sl → ∃ sl', step (enc x) sl = some (.nx sl') ∧ Inv sl') → Inv sl → ∃ sl', forGo step (l.map enc) sl = some (.nx sl') ∧ Inv sl'
  | [], sl, _, i => ⟨sl, rfl, i⟩
  | x :: r, sl, h, i => by
    obtain ⟨sl1, h1, i1⟩ := h x List.mem_cons_self sl i
    obtain ⟨sl2, h2, i2⟩ := forGo_nx r sl1 (fun y hy => h y (List.mem_cons_of_mem _ hy)) i1
    refine ⟨sl2, ?_, i2⟩
    rw [List.map_cons]
    unfold forGo
    rw [h1]; exact h2
/-- a loop that returns at the first x with p -/
theorem forGo_find {α : Type} {step : PyData → List (Option D) → Option Res} {enc : α → PyData} {p : α → Bool} {e : α → D} {Inv : List (Option D) → Prop} : ∀ (l : List α) (sl : List (Option D)), (∀ x ∈ l, ∀ sl, Inv sl → (p x = true → step (enc x) sl = some (.ret (e x))) ∧ (p x = false → ∃ sl', step (enc x) sl = some (.nx sl') ∧ Inv sl')) → Inv sl →
    (∀ x, l.find? p = some x → forGo step (l.map enc) sl = some (.ret (e x))) ∧ (l.find? p = none → ∃ sl', forGo step (l.map enc) sl = some (.nx sl') ∧ Inv sl')
  | [], sl, _, i => ⟨fun x z => by (cases z), fun _ => ⟨sl, rfl, i⟩⟩
  | x :: r, sl, h, i => by
    obtain ⟨h1, h2⟩ := h x List.mem_cons_self sl i
    rw [List.find?_cons, List.map_cons]
    cases hp : p x with
    | true =>
      dsimp only
      refine ⟨fun y z => ?_, fun z => by cases z⟩
      obtain rfl := Option.some.inj z
      unfold forGo
      rw [h1 hp]
    | false =>
      dsimp only
      obtain ⟨sl1, h3, i1⟩ := h2 hp
      unfold forGo
      rw [h3]
      exact forGo_find r sl1 (fun y hy => h y (List.mem_cons_of_mem _ hy)) i1
end
end RB
set_option Elab.async false
set_option linter.all false
set_option maxRecDepth 100000
set_option maxHeartbeats 4000000
/-! Book.__init__. -/
namespace RB
open PySem PySem.Spec PyProof.Rows L2
/-! ### data stands in lists and tuples alone -/
section
variable {H H' : Hp}
mutual
theorem Tp.up2 (e : ∀ a xs, (H a = some (.lst xs) → H' a = some (.lst xs)) ∧ (H a = some (.tup xs) → H' a = some (.tup xs))) : ∀ (d : PyData) (v : V), Tp H v d → Tp H' v d
  | .none, _, h => by cases h; exact .non
  | .bool _, _, h => by cases h; exact .bl _
  | .int _, _, h => by cases h; exact .int _
  | .str _, _, h => by cases h; exact .str _
  | .list ds, _, h => by
    cases h with
    | lst h1 h2 => exact .lst ((e _ _).1 h1) (TpAll.up2 e ds _ h2)
  | .tuple ds, _, h => by
    cases h with
    | tup h1 h2 => exact .tup ((e _ _).2 h1) (TpAll.up2 e ds _ h2)
  | .dict _, _, h => by cases h
theorem TpAll.up2 (e : ∀ a xs, (H a = some (.lst xs) → H' a = some (.lst xs)) ∧ (H a = some (.tup xs) → H' a = some (.tup xs))) : ∀ (ds : List PyData) (vs : List V), TpAll H vs ds → TpAll H' vs ds
  | [], _, h => by cases h; exact .nil
  | d :: ds, _, h => by
    cases h with
    | cons h1 h2 => exact .cons (Tp.up2 e d _ h1) (TpAll.up2 e ds _ h2)
end
theorem Tp.hide {O : List Addr} {x C : Addr} {dx} {us : List (Str × V)} {v : V} {d : PyData} (h : H x = some (.ins C dx us)) (t : Tp (cut O H) v d) : Tp (cut (x :: O) H) v d := Tp.up2 (fun a xs => by
  have key : ∀ o, cut O H a = some o → (∀ C dx us, o ≠ .ins C dx us) → cut (x :: O) H a = some o := fun o ho hn => by
    have ho' := cut_sub _ _ ho
    have hax : a ≠ x := fun z => by
      rw [z, h] at ho'
      exact hn _ _ _ (Option.some.inj ho').symm
    unfold cut at ho ⊢
    split at ho
    · cases ho
    · rename_i n
      rw [if_neg (by simp only [List.mem_cons, not_or]; exact ⟨hax, n⟩)]
      exact ho
  exact ⟨fun z => key _ z (fun _ _ _ z => nomatch z), fun z => key _ z (fun _ _ _ z => nomatch z)⟩) d v t
end
/-- a def on data alone -/
def ap (g : Gf) (ds : List PyData) : Option PyData := match g ob0 (ds.map .p) with
  | some (.p y) => some y
  | _ => none
theorem ap_some {g : Gf} {ds : List PyData} {y : PyData} (h : ap g ds = some y) : g ob0 (ds.map .p) = some (.p y) := by
  unfold ap at h
  split at h
  · rename_i z e
    rw [e, Option.some.inj h]
  · cases h
theorem ap_of {g : Gf} {ds : List PyData} {y : PyData} (h : g ob0 (ds.map .p) = some (.p y)) : ap g ds = some y := by
  unfold ap
  rw [h]
/-- a call of a def that looks at no object -/
def eCall0 (g : Gf) (fs : Evs) : Ev := fun Γ => (fs Γ).bind (g ob0)
theorem ev_call0 {X : Cx} {e : Expr} {es : List Expr} {fs : Evs} {p pos : Pos} {g : Gf} {x : Str} {k j : Nat} (c : CalE X.prog X.w X.K X.mg X.base k x (spE g)) (hr : Room j X.A) (hk : k ≤ j) (hg : Gl X x) (ha : PA X (e :: es) (taOf fs)) (hdb : (x == ("__debug__" : Str)) = false := by decide)
    (he : starEach (e :: es) X.env = (false, eval e X.env) :: starEach es X.env := by rfl) (hpl : (backTo pos (starEach es X.env)).any (·.1) = false := by rfl) : PE X (.Call (.Name x p) (e :: es) [] pos) (tOf (eCall0 g fs)) :=
  pe_imp (pe_cal c hr hk hg ha hdb he hpl) fun σ H Q h => by
    obtain ⟨O, Γ, d, w, hs, e, q⟩ := h
    obtain ⟨ds, h1, h2⟩ := Option.bind_eq_some_iff.mp e
    exact ⟨O, Γ, ds, w, hs, h1, fun vs H1 s1 r1 => ⟨O, ob0, ds, d, w.up s1, ob0_ok, r1, h2, fun v H2 s2 r2 => q v H2 (s1.trans s2) r2⟩⟩
theorem eCall0_of {g : Gf} {fs : Evs} {Γ : Gm} {ds : List PyData} {y : PyData} (h1 : fs Γ = some (ds.map .p)) (h2 : ap g ds = some y) : eCall0 g fs Γ = some (.p y) := by
  unfold eCall0
  rw [h1]
  exact ap_some h2
/-- what a book gets, of its number of bars and its greatest lots -/
noncomputable def newBook : List PyData → Option (List (Str × PyData))
  | [md, gd] => (ap g_lots_in [gd, md, .str "greatest"]).bind fun lots => (ap g_table_by [md, lots]).bind fun td => (ap g_greatest_of [td]).bind fun gr => (gSortK g_lot_key lots).bind fun so => (gTuple [gr]).bind fun gt =>
    match ap g_is_within [md, .int 3, .int 6], ap g_is_parted [td], gNe so gr with
    | some (.bool true), some (.bool true), some (.bool false) => some [("table", td), ("many", md), ("greatest", gt)]
    | _, _, _ => none
  | _ => none
theorem newBook_some {ds : List PyData} {fs : List (Str × PyData)} (h : newBook ds = some fs) : ∃ md gd lots td gr so gt, ds = [md, gd] ∧ ap g_lots_in [gd, md, .str "greatest"] = some lots ∧ ap g_table_by [md, lots] = some td ∧ ap g_greatest_of [td] = some gr ∧ gSortK g_lot_key lots = some so ∧ gTuple [gr] = some gt ∧
    ap g_is_within [md, .int 3, .int 6] = some (.bool true) ∧ ap g_is_parted [td] = some (.bool true) ∧ gNe so gr = some (.bool false) ∧ fs = ([("table", td), ("many", md), ("greatest", gt)] : List (Str × PyData)) := by
  unfold newBook at h
  split at h
  · rename_i md gd
    obtain ⟨lots, h1, h⟩ := Option.bind_eq_some_iff.mp h
    obtain ⟨td, h2, h⟩ := Option.bind_eq_some_iff.mp h
    obtain ⟨gr, h3, h⟩ := Option.bind_eq_some_iff.mp h
    obtain ⟨so, h4, h⟩ := Option.bind_eq_some_iff.mp h
    obtain ⟨gt, h5, h⟩ := Option.bind_eq_some_iff.mp h
    split at h
    · rename_i a b c
      exact ⟨md, gd, lots, td, gr, so, gt, rfl, h1, h2, h3, h4, h5, a, b, c, (Option.some.inj h).symm⟩
    · cases h
  · cases h
section
variable {P : Program} {w : World} {K : PySem.W.Frag} {mg : Str → Option Value} {base : Heap} {cs : Cs}
noncomputable def b_Book1 : Sv := sSeq (sIf (eU gNot (eCall0 g_is_within (eCons (eVar 1) (eCons (eC (.int 3)) (eCons (eC (.int 6)) eNil))))) (sSeq sNever sNil) sNil) (sSeq (sAsg (eCall0 g_lots_in (eCons (eVar 2) (eCons (eVar 1) (eCons (eC (.str "greatest")) eNil)))) 3) sNil)
noncomputable def b_Book2 (cs : Cs) : Ev := eOr (eU gNot (eCall0 g_is_parted (eCons (eFlds [cs.B] "table" (eVar 0)) eNil))) (eB gNe (eU (gSortK g_lot_key) (eVar 3)) (eCall0 g_greatest_of (eCons (eFlds [cs.B] "table" (eVar 0)) eNil)))
noncomputable def b_Book3 (cs : Cs) : Ev := eData (eCons (eCall0 g_greatest_of (eCons (eFlds [cs.B] "table" (eVar 0)) eNil)) eNil) gTuple
def obB (cs : Cs) (x : Addr) (fs : List (Str × PyData)) : Ob := fun a => if a = x then some (cs.B, fs) else none
theorem obB_ok {cs : Cs} {x : Addr} {fs : List (Str × PyData)} {H : Hp} {dx} {us : List (Str × V)} (h : H x = some (.ins cs.B dx us)) (hf : ∀ nm d, fs.lookup nm = some d → ∃ v, us.lookup nm = some v ∧ Tp H v d) : ObOk H (obB cs x fs) := fun a C gs z => by
  unfold obB at z
  split at z
  · rename_i e
    subst e
    obtain ⟨rfl, rfl⟩ := Prod.mk.inj (Option.some.inj z)
    exact ⟨dx, us, h, hf⟩
  · cases z
theorem fld_self {cs : Cs} {x : Addr} {sl : List (Option D)} {td : PyData} {fs : List (Str × PyData)} (h0 : sl[0]? = some (some (.o x))) (hf : fs.lookup ("table" : Str) = some td) : eFlds [cs.B] "table" (eVar 0) ⟨sl, obB cs x fs⟩ = some (.p td) := by
  unfold eFlds eVar
  dsimp only
  rw [h0]
  dsimp only
  unfold obB
  rw [if_pos rfl]
  dsimp only
  rw [if_pos List.mem_cons_self, hf]
  rfl
theorem c_Book_init (E : En P w K mg base cs) {f : Addr} {fd : FuncData} (F : FunD K "__init__" "Book.__init__" (defArgs s_Book_init) (defBody s_Book_init) (defScope s_Book_init) [] [] f fd) :
    FnOk P w K mg base CX0 6 f fd ["self", "many", "greatest"] (spNew cs.B newBook) := by
  have nd := sc_Book_init.nd
  refine F.ok (k := 5) (N := ["self", "many", "greatest", "lots"]) sc_Book_init (fun vs H Q E h => ?_) fun cdv A outer s H vs Q E' hr h => ⟨_, PSs.nox
    (pss_cons (es_if (et_not (et_val (ev_call0 (c_is_within E) hr (by decide) rfl (ea_cons (ev_var 1) (ea_cons (ev_c (E.pFEWEST rfl rfl) (fun _ => .int _)) (ea_cons (ev_c (E.pMOST rfl rfl) (fun _ => .int _)) ea_nil)))))) (ess_cons es_never ess_nil) ess_nil)
    (pss_cons (es_set (i := 3) nd rfl (by first | exact .inl rfl | exact .inr rfl) (ev_call0 (c_lots_in E) hr (by decide) rfl (ea_cons (ev_var 2) (ea_cons (ev_var 1) (ea_cons (ev_c pe_str (fun _ => .str _)) ea_nil)))))
    (pss_cons (ps_fld (pv 0) (ev_call0 (c_table_by E) hr (by decide) rfl (ea_cons (ev_var 1) (ea_cons (ev_var 3) ea_nil))) rfl)
    (pss_cons (es_if (f := b_Book2 cs) (ew_pt (ew_or (et_not (et_val (ev_call0 (c_is_parted E) hr (by decide) rfl (ea_cons (ev_flds E.fld_table (ev_var 0)) ea_nil)))) (ew_or1 (et_ne hr (ev_sortK (c_lot_key E) hr (by decide) rfl (E.fr "sorted" (by decide)) rfl (ev_var 3)) (ev_call0 (c_greatest_of E) hr (by decide) rfl (ea_cons (ev_flds E.fld_table (ev_var 0)) ea_nil)))))) (ess_cons es_never ess_nil) ess_nil)
    (pss_cons (ps_fld (pv 0) (pv 1) rfl)
    (pss_one (ps_fld (pv 0) (ev_tuple rfl (E.fr "tuple" (by decide)) (ea_cons (ev_call0 (c_greatest_of E) hr (by decide) rfl (ea_cons (ev_flds E.fld_table (ev_var 0)) ea_nil)) ea_nil)) rfl))))))), ?_⟩
  · obtain ⟨O, x, dx, ws, ds, fs, rfl, _, _, t, _, e, _⟩ := h
    obtain ⟨md, gd, lots, td, gr, so, gt, rfl, _⟩ := newBook_some e
    show ws.length + 1 = 3
    rw [t.length]; rfl
  · obtain ⟨O, x, dx, ws, ds, fs, rfl, w', hx, t, hi, e, q⟩ := h
    obtain ⟨md, gd, lots, td, gr, so, gt, rfl, h1, h2, h3, h4, h5, h6, h7, h8, rfl⟩ := newBook_some e
    obtain ⟨vm, vg, rfl, tm, tg⟩ := tp2 t
    have wx : Own (x :: O) H := w'.cons (by rw [hi]; exact fun z => nomatch z)
    have hs1 : Hs (cut (x :: O) H) [some (.ref x), some vm, some vg, none] ⟨[some (.o x), some (.p md), some (.p gd), none], ob0⟩ := by
      refine ⟨rfl, fun i d z => ?_, ob0_ok⟩
      match i, z with
      | 0, z => cases z; exact ⟨_, rfl, rfl⟩
      | 1, z => cases z; exact ⟨_, rfl, tm⟩
      | 2, z => cases z; exact ⟨_, rfl, tg⟩
      | 3, z => cases z
      | i + 4, z => cases z
    have r1 : sIf (eU gNot (eCall0 g_is_within (eCons (eVar 1) (eCons (eC (.int 3)) (eCons (eC (.int 6)) eNil))))) (sSeq sNever sNil) sNil ⟨[some (.o x), some (.p md), some (.p gd), none], ob0⟩ = some (.nx [some (.o x), some (.p md), some (.p gd), none]) := by
      unfold sIf eU
      rw [eCall0_of (ds := [md, .int 3, .int 6]) rfl h6]
      rfl
    refine ⟨x :: O, _, _, wx, hs1, r1, fun H1 s1 σ1 hs1 => ?_⟩
    have r2 : sAsg (eCall0 g_lots_in (eCons (eVar 2) (eCons (eVar 1) (eCons (eC (.str "greatest")) eNil)))) 3 ⟨[some (.o x), some (.p md), some (.p gd), none], ob0⟩ = some (.nx [some (.o x), some (.p md), some (.p gd), some (.p lots)]) := by
      unfold sAsg
      rw [eCall0_of (ds := [gd, md, .str "greatest"]) rfl h1]
      rfl
    refine ⟨x :: O, _, _, wx.up s1, hs1, r2, fun H2 s2 σ2 hs2 => ?_⟩
    have s12 := s1.trans s2
    obtain ⟨v0, hv0, e0⟩ := hs2.sl 0 _ rfl
    obtain rfl : v0 = .ref x := e0
    obtain ⟨v1, hv1, t1⟩ := hs2.sl 1 _ rfl
    refine ⟨x :: O, _, _, wx.up s12, hs2, eCall0_of (ds := [md, lots]) rfl h2, fun vt H3 s3 t3 => ?_⟩
    have s13 := s12.trans s3
    have hx3 := s13 _ _ hi
    refine ⟨_, hv0, x, cs.B, dx, [], rfl, hx3, E.iB.cl, E.nB _ (by decide), by decide, ?_⟩
    have w3 : Own O (upd H3 x (.ins cs.B dx [("table", vt)])) := (StepA.upd (p := x)).own hx (w'.up s13)
    have t4 : Tp (cut O (upd H3 x (.ins cs.B dx [("table", vt)]))) vt td := by
      refine Tp.up ?_ _ _ t3
      intro b o hb
      have := cut_own (O := x :: O) (H := H3) (o := .ins cs.B dx [("table", vt)]) List.mem_cons_self
      rw [← this] at hb
      exact cut_drop _ _ hb
    have sub : Same (cut (x :: O) H3) (cut O (upd H3 x (.ins cs.B dx [("table", vt)]))) := fun b o hb => by
      rw [← cut_own (O := x :: O) (H := H3) (o := .ins cs.B dx [("table", vt)]) List.mem_cons_self] at hb
      exact cut_drop _ _ hb
    have hs4 : Hs (cut O (upd H3 x (.ins cs.B dx [("table", vt)]))) σ2 ⟨[some (.o x), some (.p md), some (.p gd), some (.p lots)], obB cs x [("table", td)]⟩ := by
      have := (Hs.up (Γ := ⟨[some (.o x), some (.p md), some (.p gd), some (.p lots)], ob0⟩) hs2 (cutS s3)).up sub
      refine ⟨this.len, this.sl, obB_ok (us := [("table", vt)]) (by rw [cut_out hx, upd_same]) fun nm d hl => ?_⟩
      rcases lk_cons hl with ⟨rfl, rfl⟩ | hl
      · exact ⟨_, rfl, t4⟩
      · cases hl
    have r4 : sIf (b_Book2 cs) (sSeq sNever sNil) sNil ⟨[some (.o x), some (.p md), some (.p gd), some (.p lots)], obB cs x [("table", td)]⟩ = some (.nx [some (.o x), some (.p md), some (.p gd), some (.p lots)]) := by
      have f1 : eFlds [cs.B] "table" (eVar 0) ⟨[some (.o x), some (.p md), some (.p gd), some (.p lots)], obB cs x [("table", td)]⟩ = some (.p td) := fld_self rfl rfl
      have f2 : eCons (eFlds [cs.B] "table" (eVar 0)) eNil ⟨[some (.o x), some (.p md), some (.p gd), some (.p lots)], obB cs x [("table", td)]⟩ = some ([td].map .p) := by
        unfold eCons
        rw [f1]; rfl
      exact sIf_f (eOr_f (eNot_of (p := true) (eCall0_of f2 h7)) (eB_of (eU_of rfl h4) (eCall0_of f2 h3) h8)) rfl
    refine ⟨O, _, _, w3, hs4, r4, fun H5 s5 σ5 hs5 => ?_⟩
    obtain ⟨v0, hv0, e0⟩ := hs5.sl 0 _ rfl
    obtain rfl : v0 = .ref x := e0
    obtain ⟨v1, hv1, t1⟩ := hs5.sl 1 _ rfl
    have hx5 := s5 _ _ (upd_same (H := H3) (a := x) (o := .ins cs.B dx [("table", vt)]))
    refine ⟨v1, hv1, _, hv0, x, cs.B, dx, _, rfl, hx5, E.iB.cl, E.nB _ (by decide), by show 1 < 1000; decide, ?_⟩
    have xO : x ∈ x :: O := List.mem_cons_self
    have tt5 : Tp (cut (x :: O) H5) vt td := Tp.hide hx5 (Tp.up (cutS s5) _ _ t4)
    have tm5 : Tp (cut (x :: O) H5) v1 md := Tp.hide hx5 t1
    have w5 : Own O (upd H5 x (.ins cs.B dx [("table", vt), ("many", v1)])) := (StepA.upd (p := x)).own hx (w3.up s5)
    have sub5 : Same (cut (x :: O) H5) (cut O (upd H5 x (.ins cs.B dx [("table", vt), ("many", v1)]))) := fun b o hb => by
      rw [← cut_own (O := x :: O) (H := H5) (o := .ins cs.B dx [("table", vt), ("many", v1)]) xO] at hb
      exact cut_drop _ _ hb
    have hs6 : Hs (cut O (upd H5 x (.ins cs.B dx [("table", vt), ("many", v1)]))) σ5 ⟨[some (.o x), some (.p md), some (.p gd), some (.p lots)], obB cs x [("table", td)]⟩ := by
      refine ⟨hs5.len, fun i d z => ?_, obB_ok (us := [("table", vt), ("many", v1)]) (by rw [cut_out hx, upd_same]) fun nm d hl => ?_⟩
      · obtain ⟨v, k1, k2⟩ := hs5.sl i d z
        refine ⟨v, k1, ?_⟩
        cases d with
        | p d => exact Tp.up sub5 _ _ (Tp.hide hx5 k2)
        | o a => exact k2
      · rcases lk_cons hl with ⟨rfl, rfl⟩ | hl
        · exact ⟨_, rfl, Tp.up sub5 _ _ tt5⟩
        · cases hl
    have r6 : b_Book3 cs ⟨[some (.o x), some (.p md), some (.p gd), some (.p lots)], obB cs x [("table", td)]⟩ = some (.p gt) := by
      have f1 : eFlds [cs.B] "table" (eVar 0) ⟨[some (.o x), some (.p md), some (.p gd), some (.p lots)], obB cs x [("table", td)]⟩ = some (.p td) := fld_self rfl rfl
      exact eData1 (eCall0_of (ds := [td]) (eCons_of f1 rfl) h3) h5
    refine ⟨O, _, _, w5, hs6, r6, fun vg7 H6 s6 t6 => ?_⟩
    have hx6 := s6 _ _ (upd_same (H := H5) (a := x) (o := .ins cs.B dx [("table", vt), ("many", v1)]))
    refine ⟨_, hv0, x, cs.B, dx, _, rfl, hx6, E.iB.cl, E.nB _ (by decide), by show 2 < 1000; decide, ?_⟩
    refine q _ ((((((StepA.of s13).trans .upd).trans (.of s5)).trans .upd).trans (.of s6)).trans .upd) ⟨_, upd_same, fun nm d hl => ?_⟩
    rw [cut_own xO]
    rcases lk_cons hl with ⟨rfl, rfl⟩ | hl
    · exact ⟨_, rfl, Tp.hide hx6 (Tp.up (cutS s6) _ _ (Tp.up sub5 _ _ tt5))⟩
    rcases lk_cons hl with ⟨rfl, rfl⟩ | hl
    · exact ⟨_, rfl, Tp.hide hx6 (Tp.up (cutS s6) _ _ (Tp.up sub5 _ _ tm5))⟩
    rcases lk_cons hl with ⟨rfl, rfl⟩ | hl
    · exact ⟨_, rfl, Tp.hide hx6 t6⟩
    · cases hl
end
end RB
set_option Elab.async false
set_option linter.all false
set_option maxRecDepth 100000
set_option maxHeartbeats 2000000
/-! Lots, tables, books as data; comprehensions that pass on references. -/
namespace RB
open PySem PySem.Spec PyProof.Rows L2
/-- a list of bars as a tuple -/
def encL (l : List Nat) : PyData := .tuple (l.map fun b => .int (b : Nat))
/-- a table: for each lot whether it is short -/
def encT (n : Nat) (T : Nat → Bool) : PyData := .list ((List.range (2 ^ n)).map fun m => .bool (T m))
def bookFs (n : Nat) (T : Nat → Bool) (gr : PyData) : List (Str × PyData) := [("table", encT n T), ("many", .int (n : Nat)), ("greatest", gr)]
/-- at b a book of n bars whose short lots T tells -/
def BookAt (cs : Cs) (ob : Ob) (b n : Nat) (T : Nat → Bool) (gr : PyData) : Prop := ob b = some (cs.B, bookFs n T gr)
section
variable {cs : Cs} {ob : Ob} {b n : Nat} {T : Nat → Bool} {gr : PyData} {f : Ev} {sl : List (Option D)}
theorem BookAt.table (B : BookAt cs ob b n T gr) (h : f ⟨sl, ob⟩ = some (.o b)) : eFlds [cs.B] "table" f ⟨sl, ob⟩ = some (.p (encT n T)) := eFlds_of h B List.mem_cons_self rfl
theorem BookAt.many (B : BookAt cs ob b n T gr) (h : f ⟨sl, ob⟩ = some (.o b)) : eFlds [cs.B] "many" f ⟨sl, ob⟩ = some (.p (.int (n : Nat))) := eFlds_of h B List.mem_cons_self rfl
theorem Cs.isBook_B (cs : Cs) : cs.isBook cs.B = some true := if_pos rfl
theorem BookAt.need (B : BookAt cs ob b n T gr) (x : PyData) : g_need_book cs ob [.o b, .p x] = some (.p .none) :=
  runE_nx rfl (sSeq_nx (sl := [some (.o b), some (.p x)]) (sIf_f (eNot_of (p := true) (eIsC_of rfl B cs.isBook_B)) rfl) rfl)
end
/-! ### parts of lists -/
theorem atI_nat {α : Type} (xs : List α) (i : Nat) : atI xs (i : Int) = xs[i]? := by
  unfold atI ixN
  by_cases h : i < xs.length
  · rw [if_pos (by omega), if_pos (by omega), Option.bind_some, Int.toNat_natCast]
  · rw [List.getElem?_eq_none (by omega), if_pos (by omega), if_neg (by omega)]; rfl
theorem atI_back {α : Type} (xs : List α) (i : Nat) (h : i < xs.length) : atI xs (-1 - (i : Int)) = xs[xs.length - 1 - i]? := by
  unfold atI ixN
  rw [if_neg (by omega), if_pos (by omega), Option.bind_some]
  congr 1
  omega
theorem gIx_l (xs : List PyData) (i : Nat) : gIx (.list xs) (.int (i : Nat)) = xs[i]? := atI_nat xs i
theorem gIx_t (xs : List PyData) (i : Nat) : gIx (.tuple xs) (.int (i : Nat)) = xs[i]? := atI_nat xs i
theorem gIx_l0 (x : PyData) (xs : List PyData) : gIx (.list (x :: xs)) (.int 0) = some x := gIx_l (x :: xs) 0
theorem gIx_t0 (x : PyData) (xs : List PyData) : gIx (.tuple (x :: xs)) (.int 0) = some x := gIx_t (x :: xs) 0
theorem gIx_t1 (x y : PyData) (xs : List PyData) : gIx (.tuple (x :: y :: xs)) (.int 1) = some y := gIx_t (x :: y :: xs) 1
theorem gIx_l1 (x y : PyData) (xs : List PyData) : gIx (.list (x :: y :: xs)) (.int 1) = some y := gIx_l (x :: y :: xs) 1
theorem gIx_T {n m : Nat} {T : Nat → Bool} (h : m < 2 ^ n) : gIx (encT n T) (.int (m : Nat)) = some (.bool (T m)) := by
  unfold encT
  rw [gIx_l, List.getElem?_map, List.getElem?_range h]; rfl
/-! ### what may be compared -/
structure Shp (k : Nat) (d : PyData) : Prop where
  lay : d.canLay0 = true
  dep : d.depth ≤ k
theorem Shp.int {k : Nat} (i : Int) : Shp k (.int i) := ⟨by simp only [PyData.canLay0], by simp only [PyData.depth]; omega⟩
theorem Shp.bool {k : Nat} (i : Bool) : Shp k (.bool i) := ⟨by simp only [PyData.canLay0], by simp only [PyData.depth]; omega⟩
theorem Shp.none {k : Nat} : Shp k .none := ⟨by simp only [PyData.canLay0], by simp only [PyData.depth]; omega⟩
theorem lay_all {k : Nat} : ∀ {xs : List PyData}, (∀ x ∈ xs, Shp k x) → PyData.canLayAll0 xs = true ∧ PyData.depthAll xs ≤ k
  | [], _ => ⟨by simp only [PyData.canLayAll0], by simp only [PyData.depthAll]; omega⟩
  | x :: xs, h => by
    obtain ⟨h1, h2⟩ := h x List.mem_cons_self
    obtain ⟨h3, h4⟩ := lay_all fun y hy => h y (List.mem_cons_of_mem _ hy)
    refine ⟨by simp only [PyData.canLayAll0, h1, h3, Bool.and_self], ?_⟩
    simp only [PyData.depthAll]
    omega
theorem Shp.list {k : Nat} {xs : List PyData} (h : ∀ x ∈ xs, Shp k x) : Shp (k + 1) (.list xs) := by
  obtain ⟨h1, h2⟩ := lay_all h
  exact ⟨by simp only [PyData.canLay0, h1], by simp only [PyData.depth]; omega⟩
theorem Shp.tup {k : Nat} {xs : List PyData} (h : ∀ x ∈ xs, Shp k x) : Shp (k + 1) (.tuple xs) := by
  obtain ⟨h1, h2⟩ := lay_all h
  exact ⟨by simp only [PyData.canLay0, h1], by simp only [PyData.depth]; omega⟩
theorem Shp.sh {k : Nat} {d : PyData} (h : Shp k d) (hk : k ≤ 64) : SeqAt.shaped d = true := by
  unfold SeqAt.shaped
  rw [h.lay, Bool.true_and]
  exact decide_eq_true (Nat.le_trans h.dep hk)
theorem Shp.nats {k : Nat} (l : List Nat) : ∀ x ∈ l.map fun b => PyData.int (b : Nat), Shp k x := fun x hx => by
  obtain ⟨b, _, rfl⟩ := List.mem_map.mp hx
  exact .int _
theorem Shp.encL (l : List Nat) : Shp 1 (encL l) := .tup (k := 0) (Shp.nats l)
theorem Shp.map {α : Type} {k : Nat} {e : α → PyData} (h : ∀ x, Shp k (e x)) (l : List α) : ∀ x ∈ l.map e, Shp k x := fun x hx => by
  obtain ⟨b, _, rfl⟩ := List.mem_map.mp hx
  exact h b
theorem gEq_of {k : Nat} {a b : PyData} {r : Bool} (ha : Shp k a) (hb : Shp k b) (h : PyData.eqv a b = r) (hk : k ≤ 64 := by omega) : gEq a b = some (.bool r) := by
  unfold gEq
  rw [ha.sh hk, hb.sh hk, h]; rfl
theorem gNe_of {k : Nat} {a b : PyData} {r : Bool} (ha : Shp k a) (hb : Shp k b) (h : PyData.eqv a b = r) (hk : k ≤ 64 := by omega) : gNe a b = some (.bool (!r)) := by
  unfold gNe
  rw [ha.sh hk, hb.sh hk, h]; rfl
theorem eqv_nil (xs : List PyData) : PyData.eqv (.list xs) (.list []) = xs.isEmpty := by
  cases xs <;> simp only [PyData.eqv, PyData.eqvAll, List.isEmpty]
theorem eqv_int (i j : Int) : PyData.eqv (.int i) (.int j) = decide (i = j) := by
  simp only [PyData.eqv]
  exact Bool.beq_eq_decide_eq i j
theorem eqvAll_enc {α : Type} [DecidableEq α] {e : α → PyData} : ∀ l m : List α, (∀ x ∈ l, ∀ y ∈ m, PyData.eqv (e x) (e y) = decide (x = y)) → PyData.eqvAll (l.map e) (m.map e) = decide (l = m)
  | [], [], _ => by simp [PyData.eqvAll]
  | x :: l, [], _ => by simp [PyData.eqvAll]
  | [], y :: m, _ => by simp [PyData.eqvAll]
  | x :: l, y :: m, h => by
    rw [List.map_cons]
    rw [List.map_cons]
    simp only [PyData.eqvAll]
    rw [h x List.mem_cons_self y List.mem_cons_self, eqvAll_enc l m fun a ha b hb => h a (List.mem_cons_of_mem _ ha) b (List.mem_cons_of_mem _ hb)]
    by_cases h1 : x = y <;> by_cases h2 : l = m <;> simp [h1, h2]
theorem eqv_nats (l m : List Nat) : PyData.eqvAll (l.map fun b => PyData.int (b : Nat)) (m.map fun b => PyData.int (b : Nat)) = decide (l = m) := eqvAll_enc l m fun x _ y _ => by
  rw [eqv_int]
  exact decide_eq_decide.mpr Int.ofNat_inj
theorem eqv_encL (l m : List Nat) : PyData.eqv (encL l) (encL m) = decide (l = m) := by
  unfold encL
  simp only [PyData.eqv]
  exact eqv_nats l m
theorem eqv_encLs (l m : List (List Nat)) : PyData.eqv (.list (l.map encL)) (.list (m.map encL)) = decide (l = m) := by
  simp only [PyData.eqv]
  exact eqvAll_enc l m fun x _ y _ => eqv_encL x y
/-! ### [x for x in xs if ..], the items passed on as they are -/
theorem upd_upd_ne {H : Hp} {a b : Addr} {o : HO} (h : b ≠ a) : upd H a o b = H b := upd_ne h
theorem comp_ref {K : PySem.W.Frag} {α : Type} {ad : α → Addr} {keep : α → Bool} {σ : L2.St} {H : Hp} {Q : VK} {i j : Nat} {p : Addr} {l : List α} {tt : TT} (hi : σ[i]? = some (some (.ref p))) (hj : j < σ.length) (hp : H p = some (.lst (l.map fun x => .ref (ad x)))) (hl : l.length ≤ sizeLine)
    (ht : ∀ x ∈ l, ∀ H', Same H H' → ∀ R : Bool → Hp → Prop, (∀ H'', Same H' H'' → R (keep x) H'') → tt ((L2.wipe σ [j]).set j (some (.ref (ad x)))) H' R)
    (q : ∀ q H', H q = none → Same H H' → H' q = some (.lst ((l.filter keep).map fun x => .ref (ad x))) → Q (.ref q) H') : tLc (iList K (tVar i)) (gName j) tt (tVar j) [j] σ H Q := by
  refine ⟨_, hi, p, rfl, ⟨_, SqL.of hp⟩, fun D hD => ?_⟩
  have hpD : p ≠ D := ne_of_none hp hD
  refine ⟨fun i m H' => i ≤ l.length ∧ m = l.length - i ∧ Same H H' ∧ ∃ acc, H' D = some (.lst acc) ∧ acc = ((l.take i).filter keep).map fun x => V.ref (ad x), ⟨_, Nat.zero_le _, rfl, same_upd hD, [], upd_same, rfl⟩, fun i m H2 hW => ?_⟩
  obtain ⟨hi, hm, s2, acc, ha, ea⟩ := hW
  rcases Nat.lt_or_ge i l.length with hlt | hge
  · right
    have hx : (l.map fun x => V.ref (ad x))[i]? = some (.ref (ad l[i])) := by rw [List.getElem?_map, List.getElem?_eq_getElem hlt]; rfl
    refine ⟨⟨_, _, SqL.of (s2 _ _ hp), hx⟩, fun H' => ∃ m', m' < m ∧ (i + 1 ≤ l.length ∧ m' = l.length - (i + 1) ∧ Same H H' ∧ ∃ acc, H' D = some (.lst acc) ∧ acc = ((l.take (i + 1)).filter keep).map fun x => V.ref (ad x)), fun H' z => z, fun v H3 hy => ?_⟩
    obtain ⟨rfl, hy⟩ := hy
    have hv := hy _ (SqL.of (s2 _ _ hp))
    rw [hx] at hv
    obtain rfl := Option.some.inj hv
    have ew : L2.wipe ((L2.wipe σ [j]).set j (some (.ref (ad l[i])))) [j] = L2.wipe σ [j] := by
      rw [wipe_set _ j _ [j] List.mem_cons_self]
      exact wipe_idem σ [j]
    refine ⟨ew, ht l[i] (List.getElem_mem hlt) _ s2 _ fun H4 s4 => ?_⟩
    have htake : l.take (i + 1) = l.take i ++ [l[i]] := by rw [List.take_add_one, List.getElem?_eq_getElem hlt]; rfl
    cases hk : keep l[i] with
    | true =>
      refine iteT ⟨.ref (ad l[i]), ?_, acc, s4 _ _ ha, ?_, l.length - (i + 1), by omega, hlt, rfl, ?_, _, upd_same, ?_⟩
      · exact List.getElem?_set_self (by rw [wipe_length]; exact hj)
      · rw [ea, List.length_map]
        have := List.length_filter_le keep (l.take i)
        rw [List.length_take] at this
        omega
      · intro b o hb
        rw [upd_ne (ne_of_none hb hD)]
        exact s4 _ _ (s2 _ _ hb)
      · rw [htake, List.filter_append, List.map_append, ea, List.filter_cons, hk]
        rfl
    | false =>
      refine iteF ⟨l.length - (i + 1), by omega, hlt, rfl, s2.trans s4, acc, s4 _ _ ha, ?_⟩
      rw [htake, List.filter_append, List.map_append, ea, List.filter_cons, hk]
      simp
  · left
    refine ⟨⟨_, SqL.of (s2 _ _ hp), by rw [List.length_map]; exact hge⟩, q D H2 hD s2 ?_⟩
    rw [ha, ea, List.take_of_length_le hge]
end RB
set_option Elab.async false
set_option linter.all false
set_option maxRecDepth 100000
set_option maxHeartbeats 4000000
/-! equals: the classes of bars of which none beats another. -/
namespace RB
open PySem PySem.Spec PyProof.Rows L2
def addTo (eq : Nat → Nat → Bool) (bar : Nat) : List (List Nat) → List (List Nat)
  | [] => [[bar]]
  | c :: r => if eq (c.headD 0) bar = true then (c ++ [bar]) :: r else c :: addTo eq bar r
def classes (eq : Nat → Nat → Bool) : Nat → List (List Nat)
  | 0 => []
  | k + 1 => addTo eq k (classes eq k)
theorem addTo_none {eq : Nat → Nat → Bool} {bar : Nat} : ∀ l : List (List Nat), (∀ c ∈ l, eq (c.headD 0) bar = false) → addTo eq bar l = l ++ [[bar]]
  | [], _ => rfl
  | c :: r, h => by
    unfold addTo
    rw [h c List.mem_cons_self, addTo_none r fun d hd => h d (List.mem_cons_of_mem _ hd)]
    rfl
/-- where the bar is put: the lists by their addresses -/
def putAt (a : Addr) (bar : Nat) (l : List (Addr × List Nat)) : List (Addr × List Nat) := l.map fun y => if y.1 = a then (y.1, y.2 ++ [bar]) else y
theorem putAt_fst (a : Addr) (bar : Nat) (l : List (Addr × List Nat)) : (putAt a bar l).map (·.1) = l.map (·.1) := by
  unfold putAt
  rw [List.map_map]
  refine List.map_congr_left fun y _ => ?_
  show (if y.1 = a then (y.1, y.2 ++ [bar]) else y).1 = y.1
  split <;> rfl
theorem putAt_not {a : Addr} {bar : Nat} : ∀ {l : List (Addr × List Nat)}, (∀ y ∈ l, y.1 ≠ a) → putAt a bar l = l
  | [], _ => rfl
  | y :: r, h => by
    show (if y.1 = a then _ else y) :: putAt a bar r = _
    rw [if_neg (h y List.mem_cons_self), putAt_not fun z hz => h z (List.mem_cons_of_mem _ hz)]
theorem addTo_first {eq : Nat → Nat → Bool} {bar : Nat} : ∀ (l : List (Addr × List Nat)) (x : Addr × List Nat) (r : List (Addr × List Nat)), (l.map (·.1)).Nodup → l.filter (fun y => eq (y.2.headD 0) bar) = x :: r → x ∈ l ∧ (putAt x.1 bar l).map (·.2) = addTo eq bar (l.map (·.2))
  | [], _, _, _, e => by cases e
  | y :: l, x, r, nd, e => by
    rw [List.map_cons] at nd
    rw [List.nodup_cons] at nd
    rw [List.filter_cons] at e
    unfold addTo
    cases hk : eq (y.2.headD 0) bar with
    | true =>
      rw [hk, if_pos rfl] at e
      obtain ⟨rfl, _⟩ := List.cons.inj e
      refine ⟨List.mem_cons_self, ?_⟩
      have nx : ∀ z ∈ l, z.1 ≠ y.1 := fun z hz q => nd.1 (q ▸ List.mem_map_of_mem hz)
      have : putAt y.1 bar (y :: l) = (y.1, y.2 ++ [bar]) :: l := by
        show (if y.1 = y.1 then (y.1, y.2 ++ [bar]) else y) :: putAt y.1 bar l = _
        rw [if_pos rfl, putAt_not nx]
      rw [this]
      show _ = (if eq (y.2.headD 0) bar = true then _ else _)
      rw [hk, if_pos rfl]
      rfl
    | false =>
      rw [hk, if_neg (by simp)] at e
      obtain ⟨hx, ih⟩ := addTo_first l x r nd.2 e
      refine ⟨List.mem_cons_of_mem _ hx, ?_⟩
      have ny : y.1 ≠ x.1 := fun q => nd.1 (q ▸ List.mem_map_of_mem hx)
      show ((if y.1 = x.1 then (y.1, y.2 ++ [bar]) else y) :: putAt x.1 bar l).map (·.2) = (if eq (y.2.headD 0) bar = true then _ else _)
      rw [if_neg ny, hk, if_neg (by simp), List.map_cons, ih]
theorem inj_of_nodup {α β : Type} {f : α → β} : ∀ {l : List α}, (l.map f).Nodup → ∀ {x y : α}, x ∈ l → y ∈ l → f x = f y → x = y
  | [], _, _, _, h, _, _ => by cases h
  | z :: l, nd, x, y, hx, hy, e => by
    rw [List.map_cons] at nd
    rw [List.nodup_cons] at nd
    obtain rfl | hx' := List.mem_cons.mp hx
    · rcases List.mem_cons.mp hy with rfl | hy'
      · rfl
      · exact absurd (List.mem_map.mpr ⟨y, hy', e.symm⟩) nd.1
    · rcases List.mem_cons.mp hy with rfl | hy'
      · exact absurd (List.mem_map.mpr ⟨x, hx', e⟩) nd.1
      · exact inj_of_nodup nd.2 hx' hy' e
abbrev vL (c : List Nat) : List V := c.map fun b => V.int (b : Nat)
abbrev dL (c : List Nat) : List PyData := c.map fun b => PyData.int (b : Nat)
theorem tp_nats {H : Hp} : ∀ c : List Nat, TpAll H (vL c) (dL c)
  | [] => .nil
  | b :: c => .cons (.int _) (tp_nats c)
/-- the lists found so far -/
structure Fd (H0 H : Hp) (p : Addr) (l : List (Addr × List Nat)) : Prop where
  sm : Same H0 H
  fr : H0 p = none
  at_ : H p = some (.lst (l.map fun x => .ref x.1))
  nd : (p :: l.map (·.1)).Nodup
  new : ∀ x ∈ l, H0 x.1 = none
  it : ∀ x ∈ l, H x.1 = some (.lst (vL x.2))
  ne : ∀ x ∈ l, x.2 ≠ []
theorem Fd.up {H0 H H' : Hp} {p : Addr} {l : List (Addr × List Nat)} (F : Fd H0 H p l) (s : Same H H') : Fd H0 H' p l := ⟨F.sm.trans s, F.fr, s _ _ F.at_, F.nd, F.new, fun x hx => s _ _ (F.it x hx), F.ne⟩
theorem Fd.tp {H0 H : Hp} {p : Addr} {l : List (Addr × List Nat)} {O : List Addr} (F : Fd H0 H p l) (w : Own O H0) : TpAll (cut O H) (l.map fun x => .ref x.1) (l.map fun x => .list (dL x.2)) := by
  have h1 := F.it
  have h2 := F.new
  clear F
  induction l with
  | nil => exact .nil
  | cons x l ih =>
    refine .cons (.lst ?_ (tp_nats x.2)) (ih (fun y hy => h1 y (List.mem_cons_of_mem _ hy)) fun y hy => h2 y (List.mem_cons_of_mem _ hy))
    rw [cut_out (w.new (h2 x List.mem_cons_self))]
    exact h1 x List.mem_cons_self
/-- equals: of a book at b -/
def spEq (cs : Cs) : Sp := fun vs H Q _ => ∃ O ob b n T gr eq, vs = [V.ref b] ∧ Own O H ∧ ObOk (cut O H) ob ∧ BookAt cs ob b n T gr ∧ n ≤ 6 ∧ (∀ i j, i < n → j < n → g_are_equals cs ob [.o b, .p (.int (i : Nat)), .p (.int (j : Nat))] = some (.p (.bool (eq i j)))) ∧
  ∀ v H', Same H H' → Tp (cut O H') v (.tuple ((classes eq n).map encL)) → Q v H'
theorem numsD_nat (n : Nat) : numsD 0 n = (List.range n).map fun k => .int (k : Nat) := by
  unfold numsD
  apply List.map_congr_left; intro k _
  rw [Int.zero_add]
section
variable {P : Program} {w : World} {K : PySem.W.Frag} {mg : Str → Option Value} {base : Heap} {cs : Cs}
theorem c_equals (E : En P w K mg base cs) : CalE P w K mg base 3 "equals" (spEq cs) := by
  obtain ⟨f, fd, F, m⟩ := E.df ("equals", s_equals) (List.mem_of_getElem? (i := 19) rfl)
  have nd := sc_equals.nd
  refine calR (k := 2) F m sc_equals (fun _ _ _ _ _ _ us hl => match us, hl with | [_], _ => rfl) (fun vs H Q E h => ?_) fun cdv A outer s H vs Q E0 hr h => ⟨_,
    pss_cons (es_expr (ev_call (c_need_book E) hr (by decide) rfl (ea_cons (ev_var 0) (ea_cons (ev_c pe_str (fun _ => .str _)) ea_nil))))
    (pss_cons (ps_set (i := 1) nd rfl (.inl rfl) (pe_lst pa_nil))
    (pss_cons (ps_for PassesOwn.never rfl (ei_range1 rfl (E.fr "range" (by decide)) (ea_cons (ev_flds E.fld_many (ev_var 0)) ea_nil)) (pg_name (i := 2) nd rfl (by first | exact .inl rfl | exact .inr rfl))
      (pss_cons (ps_setLc (i := 3) (own := [("lot", 4)]) rfl nd rfl rfl (sw_true rfl rfl rfl (by decide +kernel)) (pi_list (pv 1)) (blkOk_by (N := ["book", "found", "bar", "lots", "lot"]) (sc := (defScope s_equals)) (own := [("lot", 4)]) (by first | decide +kernel | rfl)) (fun _ _ _ _ _ => pg_name (i := 4) nd rfl (.inl rfl))
          (fun _ _ _ _ _ => ets_one (et_val (ev_call (c_are_equals E) hr (by decide) rfl (ea_cons (ev_var 0) (ea_cons (ev_at (ev_var 4) (ev_c pe_int (fun _ => .int _))) (ea_cons (ev_var 2) ea_nil)))))) (fun _ _ _ _ _ => pv 4))
        (pss_one (ps_if (et_eq hr (ev_var 3) (ev_lst ea_nil))
          (pss_one (ps_expr (pe_bm PySem.F.plainAttrs_list PySem.F.slot_list_append PySem.F.type_list_append mt_append (pv 1) (pa_cons (pe_lst (pa_cons (pv 2) pa_nil)) pa_nil))))
          (pss_one (ps_expr (pe_bm PySem.F.plainAttrs_list PySem.F.slot_list_append PySem.F.type_list_append mt_append (pe_ix ix_seq (pv 3) pe_int (fun _ _ => rfl)) (pa_cons (pv 2) pa_nil))))))))
    (pss_one (es_ret (ev_tuple rfl (E.fr "tuple" (by decide)) (ea_cons (ev_lc (own := [("lot", 4)]) rfl nd (ei_seq (ev_var 1)) (blkOk_by (N := ["book", "found", "bar", "lots", "lot"]) (sc := (defScope s_equals)) (own := [("lot", 4)]) (by first | decide +kernel | rfl)) (gs_name (i := 4) (vs := [4]) (by decide)) (fun _ _ _ _ _ => (pg_name (i := 4) nd rfl (by first | exact .inl rfl | exact .inr rfl))) (fun _ _ _ _ _ => ets_nil) (fun _ _ _ _ _ => (ev_tuple rfl (E.fr "tuple" (by decide)) (ea_cons (ev_var 4) ea_nil)))) ea_nil)))))), ?_⟩
  · obtain ⟨O, ob, b, n, T, gr, eq, rfl, _⟩ := h
    rfl
  obtain ⟨O, ob, b, n, T, gr, eq, rfl, w', o, B, hn, heq, q⟩ := h
  have mk : ∀ {H1 : Hp} {x1 x2 x3 x4 : Option V} {d1 d2 d3 d4 : Option D}, Same H H1 → (∀ d, d1 = some d → ∃ v, x1 = some v ∧ Rep (cut O H1) v d) → (∀ d, d2 = some d → ∃ v, x2 = some v ∧ Rep (cut O H1) v d) → (∀ d, d3 = some d → ∃ v, x3 = some v ∧ Rep (cut O H1) v d) → (∀ d, d4 = some d → ∃ v, x4 = some v ∧ Rep (cut O H1) v d) →
      Hs (cut O H1) [some (.ref b), x1, x2, x3, x4] ⟨[some (.o b), d1, d2, d3, d4], ob⟩ := fun {H1 x1 x2 x3 x4 d1 d2 d3 d4} s h1 h2 h3 h4 => by
    refine ⟨rfl, fun i d z => ?_, o.up (cutS s)⟩
    match i, z with
    | 0, z => cases z; exact ⟨_, rfl, rfl⟩
    | 1, z => obtain ⟨v, rfl, r⟩ := h1 d (Option.some.inj z); exact ⟨v, rfl, r⟩
    | 2, z => obtain ⟨v, rfl, r⟩ := h2 d (Option.some.inj z); exact ⟨v, rfl, r⟩
    | 3, z => obtain ⟨v, rfl, r⟩ := h3 d (Option.some.inj z); exact ⟨v, rfl, r⟩
    | 4, z => obtain ⟨v, rfl, r⟩ := h4 d (Option.some.inj z); exact ⟨v, rfl, r⟩
    | i + 5, z => cases z
  have no : ∀ {O : List Addr} {H1 : Hp} {x : Option V} (d : D), (none : Option D) = some d → ∃ v, x = some v ∧ Rep (cut O H1) v d := fun d z => by cases z
  refine ⟨O, ⟨[some (.o b), none, none, none, none], ob⟩, _, w', mk (Same.refl H) no no no no, sExp_of (eCall_of (eCons_of rfl (eCons_of rfl rfl)) (B.need _)), fun H1 s1 σ1 hs1 => ?_⟩
  have five : ∀ {H1 : Hp} {σ : L2.St} {d1 d2 d3 d4 : Option D}, Hs (cut O H1) σ ⟨[some (.o b), d1, d2, d3, d4], ob⟩ → ∃ x1 x2 x3 x4, σ = [some (.ref b), x1, x2, x3, x4] := fun {H1 σ d1 d2 d3 d4} h => by
    have hl := h.len
    match σ, hl with
    | [x0, x1, x2, x3, x4], _ =>
      obtain ⟨v, h1, h2⟩ := h.sl 0 (.o b) rfl
      have h2 : v = .ref b := h2
      subst h2
      exact ⟨x1, x2, x3, x4, by rw [Option.some.inj h1]⟩
  obtain ⟨x1, x2, x3, x4, rfl⟩ := five hs1
  refine ⟨by show 0 ≤ sizeLine; decide, fun p hp => ?_⟩
  have sp : Same H (upd H1 p (.lst [])) := s1.trans (same_upd hp)
  have wp : Own (p :: O) (upd H1 p (.lst [])) := (w'.up sp).cons (by rw [upd_same]; exact fun z => nomatch z)
  have w1 : Own O H1 := w'.up s1
  have hpO : p ∉ O := w1.new hp
  have mkp : ∀ {H1' : Hp} {x1 x2 x3 x4 : Option V} {d1 d2 d3 d4 : Option D}, Same H1 H1' → (∀ d, d1 = some d → ∃ v, x1 = some v ∧ Rep (cut (p :: O) H1') v d) → (∀ d, d2 = some d → ∃ v, x2 = some v ∧ Rep (cut (p :: O) H1') v d) → (∀ d, d3 = some d → ∃ v, x3 = some v ∧ Rep (cut (p :: O) H1') v d) → (∀ d, d4 = some d → ∃ v, x4 = some v ∧ Rep (cut (p :: O) H1') v d) →
      Hs (cut (p :: O) H1') [some (.ref b), x1, x2, x3, x4] ⟨[some (.o b), d1, d2, d3, d4], ob⟩ := fun {H1' x1 x2 x3 x4 d1 d2 d3 d4} s h1 h2 h3 h4 => by
    refine ⟨rfl, fun i d z => ?_, o.up ((cutS s1).trans (cut_cons hp s))⟩
    match i, z with
    | 0, z => cases z; exact ⟨_, rfl, rfl⟩
    | 1, z => obtain ⟨v, rfl, r⟩ := h1 d (Option.some.inj z); exact ⟨v, rfl, r⟩
    | 2, z => obtain ⟨v, rfl, r⟩ := h2 d (Option.some.inj z); exact ⟨v, rfl, r⟩
    | 3, z => obtain ⟨v, rfl, r⟩ := h3 d (Option.some.inj z); exact ⟨v, rfl, r⟩
    | 4, z => obtain ⟨v, rfl, r⟩ := h4 d (Option.some.inj z); exact ⟨v, rfl, r⟩
    | i + 5, z => cases z
  refine ⟨p :: O, ⟨[some (.o b), none, none, none, none], ob⟩, _, wp, mkp (same_upd hp) no no no no, eRange_of (eCons_of (B.many rfl) rfl) (by omega) (by omega), fun J H2 s2 hJ => ?_⟩
  rw [Int.toNat_natCast, numsD_nat] at hJ
  have len : ((List.range n).map fun k => PyData.int (k : Nat)).length = n := by rw [List.length_map, List.length_range]
  have F0 : Fd H1 H2 p [] := ⟨(same_upd hp).trans s2, hp, s2 _ _ upd_same, by simp, fun x hx => (by cases hx), fun x hx => (by cases hx), fun x hx => (by cases hx)⟩
  refine ⟨fun i m σ H' => i ≤ n ∧ m = n - i ∧ ∃ l x2 x3 x4, σ = [some (.ref b), some (.ref p), x2, x3, x4] ∧ Fd H1 H' p l ∧ l.map (·.2) = classes eq i ∧ StepA p H2 H' ∧ l.length ≤ i ∧ ∀ x ∈ l, H2 x.1 = none ∧ x.2.length ≤ i ∧ ∀ y ∈ x.2, y < i, ⟨_, Nat.zero_le _, rfl, [], _, _, _, rfl, F0, rfl, .of (Same.refl _), Nat.le_refl _, fun x hx => (by cases hx)⟩, fun i m σ2 H3 hW => ?_⟩
  obtain ⟨hi, hm, l, x2, x3, x4, rfl, F3, hcl, st3, hll, hlt'⟩ := hW
  have w3 : Own O H3 := w1.up F3.sm
  have wp3 : Own (p :: O) H3 := w3.cons (by rw [F3.at_]; exact fun z => nomatch z)
  obtain ⟨st, go⟩ := hJ (p :: O) i H3 wp3 st3.cut
  rcases Nat.lt_or_ge i n with hlt | hge
  · right
    obtain ⟨g1, g2⟩ := go (.int (i : Nat)) (by rw [List.getElem?_map, List.getElem?_range hlt]; rfl)
    refine ⟨g1, fun σ' H' => ∃ m', m' < m ∧ (i + 1 ≤ n ∧ m' = n - (i + 1) ∧ ∃ l x2 x3 x4, σ' = [some (.ref b), some (.ref p), x2, x3, x4] ∧ Fd H1 H' p l ∧ l.map (·.2) = classes eq (i + 1) ∧ StepA p H2 H' ∧ l.length ≤ i + 1 ∧ ∀ x ∈ l, H2 x.1 = none ∧ x.2.length ≤ i + 1 ∧ ∀ y ∈ x.2, y < i + 1), fun σ' H' z => z, fun v H4 hy => ?_⟩
    obtain ⟨s4, t4⟩ := g2 v H4 hy
    cases t4
    have F4 := F3.up s4
    have lline : l.length ≤ sizeLine := by
      have : (6 : Nat) ≤ sizeLine := by decide
      omega
    show tSeq _ _ _ [some (.ref b), some (.ref p), some (.int (i : Nat)), x3, x4] H4
    show tAsg _ _ _ [some (.ref b), some (.ref p), some (.int (i : Nat)), x3, x4] H4
    refine comp_ref (σ := [some (.ref b), some (.ref p), some (.int (i : Nat)), x3, x4]) (i := 1) (j := 4) (ad := fun x : Addr × List Nat => x.1) (keep := fun y => eq (y.2.headD 0) i) rfl (by show 4 < 5; decide) F4.at_ lline (fun x hx H5 s5 R hR => ?_) fun q1 H5 hq1 s5 hq1' => ?_
    · have F5 := F4.up s5
      have hxn := F5.ne x hx
      have tx : Tp (cut O H5) (.ref x.1) (.list (dL x.2)) := .lst (by rw [cut_out (w1.new (F5.new x hx))]; exact F5.it x hx) (tp_nats _)
      refine ⟨O, ⟨[some (.o b), none, some (.p (.int (i : Nat))), none, some (.p (.list (dL x.2)))], ob⟩, _, w1.up F5.sm, ?_, ?_, fun H6 s6 => hR H6 s6⟩
      · exact mk (s1.trans F5.sm) no (fun d z => by cases z; exact ⟨_, rfl, .int _⟩) no (fun d z => by cases z; exact ⟨_, rfl, tx⟩)
      · refine eCall_of (eCons_of rfl (eCons_of (eB_of (y := .int ((x.2.headD 0 : Nat) : Int)) rfl rfl ?_) (eCons_of rfl rfl))) (heq _ _ ?_ hlt)
        · cases hx2 : x.2 with
          | nil => exact absurd hx2 hxn
          | cons y r => exact gIx_l0 _ _
        · cases hx2 : x.2 with
          | nil => exact absurd hx2 hxn
          | cons y r =>
            have := (hlt' x hx).2.2 y (by rw [hx2]; exact List.mem_cons_self)
            show y < n
            omega
    · have F5 := F4.up s5
      have q1p : q1 ∉ O := (w1.up F4.sm).new hq1
      have w5 : Own O H5 := w1.up F5.sm
      have tq : TpAll (cut O H5) ((l.filter fun y => eq (y.2.headD 0) i).map fun x => .ref x.1) ((l.filter fun y => eq (y.2.headD 0) i).map fun x => .list (dL x.2)) := by
        have sub : ∀ l' : List (Addr × List Nat), (∀ x ∈ l', x ∈ l) → TpAll (cut O H5) (l'.map fun x => .ref x.1) (l'.map fun x => .list (dL x.2)) := fun l' => by
          induction l' with
          | nil => exact fun _ => .nil
          | cons x r ih => exact fun hx => .cons (.lst (by rw [cut_out (w1.new (F5.new x (hx x List.mem_cons_self)))]; exact F5.it x (hx x List.mem_cons_self)) (tp_nats _)) (ih fun y hy => hx y (List.mem_cons_of_mem _ hy))
        exact sub _ fun x hx => (List.mem_filter.mp hx).1
      have shp : Shp 2 (.list ((l.filter fun y => eq (y.2.headD 0) i).map fun x => .list (dL x.2))) := .list (Shp.map (fun x => .list (Shp.nats _)) _)
      refine ⟨O, ⟨[some (.o b), none, none, some (.p (.list ((l.filter fun y => eq (y.2.headD 0) i).map fun x => .list (dL x.2)))), none], ob⟩, _, w5, mk (s1.trans F5.sm) no no (fun d z => by cases z; exact ⟨_, rfl, .lst (by rw [cut_out q1p]; exact hq1') tq⟩) no, eB_of rfl rfl (gEq_of shp (.list (fun x hx => (by cases hx))) (eqv_nil _)), fun H6 s6 => ?_⟩
      have F6 := F5.up s6
      cases hf : l.filter fun y => eq (y.2.headD 0) i with
      | nil =>
        refine iteT ?_
        refine ⟨_, rfl, Or.inl ⟨rfl, _, Or.inl (Or.inl F6.at_)⟩, ?_⟩
        refine ⟨_, rfl, by show 1 ≤ sizeLine; decide, fun a ha => ?_⟩
        have hap : a ≠ p := fun z => by rw [z, F6.at_] at ha; cases ha
        have F7 := F6.up (same_upd (o := .lst [.int (i : Nat)]) ha)
        refine ⟨p, _, _, rfl, rfl, F7.at_, by rw [List.length_map]; have : (6 : Nat) < sizeLine := (by decide); omega, ?_⟩
        have none' : ∀ x ∈ l, eq (x.2.headD 0) i = false := fun x hx => by
          cases hq : eq (x.2.headD 0) i with
          | false => rfl
          | true =>
            have : x ∈ l.filter fun y => eq (y.2.headD 0) i := List.mem_filter.mpr ⟨hx, hq⟩
            rw [hf] at this
            cases this
        refine ⟨n - (i + 1), by omega, hlt, rfl, l ++ [(a, [i])], _, _, _, rfl, ⟨?_, F7.fr, ?_, ?_, ?_, ?_, ?_⟩, ?_, ?_, ?_, ?_⟩
        · intro b o hb
          rw [upd_ne (ne_of_none hb hp)]
          exact F7.sm _ _ hb
        · rw [upd_same, List.map_append]; rfl
        · rw [List.map_append, ← List.cons_append, List.nodup_append]
          refine ⟨F7.nd, by simp, fun x hx y hy => ?_⟩
          obtain rfl : y = a := by simpa using hy
          intro z
          subst z
          obtain h | h := List.mem_cons.mp hx
          · exact hap h
          · obtain ⟨x', hx', e⟩ := List.mem_map.mp h
            have := F6.it x' hx'
            rw [e, ha] at this
            cases this
        · intro x hx
          rcases List.mem_append.mp hx with h | h
          · exact F7.new x h
          · obtain rfl : x = (a, [i]) := by simpa using h
            exact F6.sm.free ha
        · intro x hx
          have hxp : x.1 ≠ p := by
            rcases List.mem_append.mp hx with h | h
            · intro z
              exact (List.nodup_cons.mp F7.nd).1 (List.mem_map.mpr ⟨x, h, z⟩)
            · obtain rfl : x = (a, [i]) := by simpa using h
              exact hap
          rw [upd_ne hxp]
          rcases List.mem_append.mp hx with h | h
          · exact F7.it x h
          · obtain rfl : x = (a, [i]) := by simpa using h
            exact upd_same
        · intro x hx
          rcases List.mem_append.mp hx with h | h
          · exact F7.ne x h
          · obtain rfl : x = (a, [i]) := by simpa using h
            simp
        · rw [List.map_append]
          show _ = addTo eq i (classes eq i)
          rw [← hcl, addTo_none _ fun c hc => by
            obtain ⟨x, hx, rfl⟩ := List.mem_map.mp hc
            exact none' x hx]
          rfl
        · exact ((((st3.trans (.of s4)).trans (.of s5)).trans (.of s6)).trans (.of (same_upd ha))).trans .upd
        · rw [List.length_append]
          show l.length + 1 ≤ i + 1
          omega
        · intro x hx
          rcases List.mem_append.mp hx with h | h
          · obtain ⟨h0, h1, h2⟩ := hlt' x h
            exact ⟨h0, by omega, fun y hy => Nat.lt_succ_of_lt (h2 y hy)⟩
          · obtain rfl : x = (a, [i]) := by simpa using h
            refine ⟨?_, by show 1 ≤ i + 1; omega, fun y hy => by
              obtain rfl : y = i := by simpa using hy
              exact Nat.lt_succ_self _⟩
            show H2 a = none
            cases hz : H2 a with
            | none => rfl
            | some o =>
              have := (((st3.trans (.of s4)).trans (.of s5)).trans (.of s6)) a o hap hz
              rw [ha] at this
              cases this
      | cons x r =>
        refine iteF ?_
        obtain ⟨hxl, hput⟩ := addTo_first l x r (List.nodup_cons.mp F6.nd).2 hf
        have hq6 := s6 _ _ hq1'
        rw [hf] at hq6
        refine ⟨_, rfl, .inl ⟨_, _, 0, .ref x.1, rfl, rfl, SqL.of hq6, atI_nat _ 0, ?_⟩⟩
        refine ⟨Or.inl ⟨rfl, _, Or.inl (Or.inl (F6.it x hxl))⟩, _, rfl, ?_⟩
        refine ⟨x.1, _, _, rfl, rfl, F6.it x hxl, by rw [List.length_map]; have := (hlt' x hxl).2.1; have : (6 : Nat) < sizeLine := (by decide); omega, ?_⟩
        have hxp : ∀ y ∈ l, y.1 ≠ p := fun y hy z => (List.nodup_cons.mp F6.nd).1 (List.mem_map.mpr ⟨y, hy, z⟩)
        refine ⟨n - (i + 1), by omega, hlt, rfl, putAt x.1 i l, _, _, _, rfl, ⟨?_, F6.fr, ?_, ?_, ?_, ?_, ?_⟩, ?_, ?_, ?_, ?_⟩
        · intro b o hb
          rw [upd_ne (ne_of_none hb (F6.new x hxl))]
          exact F6.sm _ _ hb
        · rw [upd_ne (hxp x hxl).symm, F6.at_]
          have := putAt_fst x.1 i l
          have e : (putAt x.1 i l).map (fun y => V.ref y.1) = ((putAt x.1 i l).map (·.1)).map V.ref := by rw [List.map_map]; rfl
          rw [e, this, List.map_map]; rfl
        · rw [putAt_fst]; exact F6.nd
        · intro y hy
          obtain ⟨y', hy', rfl⟩ := List.mem_map.mp hy
          split
          · exact F6.new y' hy'
          · exact F6.new y' hy'
        · intro y hy
          obtain ⟨y', hy', rfl⟩ := List.mem_map.mp hy
          by_cases hyx : y'.1 = x.1
          · rw [if_pos hyx]
            have hy2 : y' = x := by
              have nd := (List.nodup_cons.mp F6.nd).2
              exact inj_of_nodup nd hy' hxl hyx
            subst hy2
            rw [upd_same]
            show some (HO.lst (vL y'.2 ++ [.int (i : Nat)])) = some (.lst (vL (y'.2 ++ [i])))
            unfold vL
            rw [List.map_append]; rfl
          · rw [if_neg hyx, upd_ne hyx]
            exact F6.it y' hy'
        · intro y hy
          obtain ⟨y', hy', rfl⟩ := List.mem_map.mp hy
          split
          · simp
          · exact F6.ne y' hy'
        · rw [hput, hcl]; rfl
        · intro b o hb hH
          have h6 : H6 b = some o := ((((st3.trans (.of s4)).trans (.of s5)).trans (.of s6))) b o hb hH
          have hbx : b ≠ x.1 := fun z => by
            have := (hlt' x hxl).1
            rw [← z, hH] at this
            cases this
          rw [upd_ne hbx]
          exact h6
        · unfold putAt
          rw [List.length_map]; omega
        · intro y hy
          obtain ⟨y', hy', rfl⟩ := List.mem_map.mp hy
          obtain ⟨h0, h1, h2⟩ := hlt' y' hy'
          split
          · refine ⟨h0, ?_, fun z hz => ?_⟩
            · show (y'.2 ++ [i]).length ≤ i + 1
              rw [List.length_append]
              show y'.2.length + 1 ≤ i + 1
              omega
            · rcases List.mem_append.mp hz with h | h
              · exact Nat.lt_succ_of_lt (h2 z h)
              · obtain rfl : z = i := by simpa using h
                exact Nat.lt_succ_self _
          · exact ⟨h0, by omega, fun z hz => Nat.lt_succ_of_lt (h2 z hz)⟩
  · left
    obtain rfl : i = n := by omega
    refine ⟨st (by rw [len]; exact hge), ?_⟩
    have tf : Tp (cut O H3) (.ref p) (.list (l.map fun x => .list (dL x.2))) := .lst (by rw [cut_out hpO]; exact F3.at_) (F3.tp w1)
    refine ⟨O, ⟨[some (.o b), some (.p (.list (l.map fun x => .list (dL x.2)))), none, none, none], ob⟩, _, w3, mk (s1.trans F3.sm) (fun d z => by cases z; exact ⟨_, rfl, tf⟩) no no no, sRet_of (eData1 (eComp_of (eSeq_l rfl) ?_ (compGo_all (e := fun x => encL x.2) l fun x hx => stepOf_all rfl (eData1 rfl rfl))) rfl), fun H4 s4 v r => ?_⟩
    · rw [List.length_map]
      have : (6 : Nat) ≤ sizeLine := by decide
      omega
    · refine q v H4 ((s1.trans F3.sm).trans s4) ?_
      rw [← hcl, List.map_map]
      exact r
end
end RB
set_option Elab.async false
set_option linter.all false
set_option maxRecDepth 100000
set_option maxHeartbeats 4000000
/-! Objects made by calls of the classes; trade_by. -/
namespace RB
open PySem PySem.Spec PyProof.Rows L2
theorem Room.le {j k : Nat} {A : Around} (h : Room k A) (hj : j ≤ k) : Room j A := h.mono hj
/-- C(..): a new object with these attributes -/
def nOf (C : Addr) (g : List PyData → Option (List (Str × PyData))) (fs : Evs) : TE := fun σ H Q => ∃ O Γ ds xs as, Own O H ∧ Hs (cut O H) σ Γ ∧ fs Γ = some ds ∧ allP ds = some xs ∧ g xs = some as ∧ ∀ a H', Same H H' → H a = none → ObAt (cut O H') a C as → Q (.ref a) H'
theorem make_read {C : Addr} {g : List PyData → Option (List (Str × PyData))} {fs : Evs} (σ : L2.St) (H : Hp) (Q : VK) (h : nOf C g fs σ H Q) : tMake C (spNew C g) [] E0 (taOf fs) σ H Q := by
  obtain ⟨O, Γ, ds, xs, as, w, hs, e1, e2, e3, q⟩ := h
  refine ⟨O, Γ, ds, w, hs, e1, fun vs H1 s1 r1 x dx hx hdx hne => ?_⟩
  have w1 := w.up s1
  have sx : Same H1 (upd (upd H1 dx (.own x)) x (.ins C dx [])) := (same_upd hdx).trans (same_upd (by rw [upd_ne hne.symm]; exact hx))
  have hxO : x ∉ O := w1.new hx
  refine ⟨O, x, dx, vs, xs, as, by rw [List.append_nil], w1.up sx, hxO, TpAll.up (cut_cons hx sx) _ _ (allP_rep r1 e2), upd_same, e3, fun H' st hH' => ⟨rfl, ?_⟩⟩
  obtain ⟨us, hu, hf⟩ := hH'
  refine q x H' (fun b o hb => ?_) ?_ ⟨dx, us, by rw [cut_out hxO]; exact hu, fun nm d hl => ?_⟩
  · have h1 := s1 _ _ hb
    exact st b o (ne_of_none h1 hx) (sx _ _ h1)
  · cases hz : H x with
    | none => rfl
    | some o => rw [s1 _ _ hz] at hx; cases hx
  · obtain ⟨v, h1, h2⟩ := hf nm d hl
    exact ⟨v, h1, Tp.up cut_drop _ _ h2⟩
section
variable {X : Cx} {cs : Cs} {e a b : Expr} {fs : Evs} {p pos : Pos} {j : Nat}
theorem en_L (E : En X.prog X.w X.K X.mg X.base cs) (hr : Room j X.A) (hj : 8 ≤ j) (hg : Gl X "Lengths") (ha : PA X [e] (taOf fs)) (he : starEach [e] X.env = (false, eval e X.env) :: starEach [] X.env := by rfl) (hpl : (backTo pos (starEach [] X.env)).any (·.1) = false := by rfl) :
    PE X (.Call (.Name "Lengths" p) [e] [] pos) (nOf cs.L newLengths fs) := by
  obtain ⟨f2, fd2, F2, ⟨f, cc, cd, S, M⟩, _⟩ := E.mP
  obtain ⟨fd, G, B⟩ := c_Lengths_init E F2 S
  exact pe_imp (pe_make M G (hr.mono hj) hg E.cL B .nil pass0 ha (he := he) (hpl := hpl)) make_read
theorem en_T (E : En X.prog X.w X.K X.mg X.base cs) (hr : Room j X.A) (hj : 8 ≤ j) (hg : Gl X "Trade") (ha : PA X [a, b] (taOf fs)) (he : starEach [a, b] X.env = (false, eval a X.env) :: starEach [b] X.env := by rfl) (hpl : (backTo pos (starEach [b] X.env)).any (·.1) = false := by rfl) :
    PE X (.Call (.Name "Trade" p) [a, b] [] pos) (nOf cs.T newTrade fs) := by
  obtain ⟨f2, fd2, F2, _, ⟨f, cc, cd, S, M⟩⟩ := E.mP
  obtain ⟨fd, G, B, _⟩ := c_Trade_init E F2 S
  exact pe_imp (pe_make M G (hr.mono hj) hg E.cT B .nil pass0 ha (he := he) (hpl := hpl)) make_read
end
/-! ### trade_by -/
noncomputable def f_sh : Ev := (eData (eCons (eData (eCons (eCall g_lot_of (eCons (eB gOr (eVar 3) (eB gShl (eC (.int 1)) (eVar 2))) eNil)) (eCons (eCall g_lot_of (eCons (eB gOr (eVar 4) (eB gShl (eC (.int 1)) (eVar 1))) eNil)) eNil)) kLst) eNil) gSorted)
noncomputable def f_lg : Ev := (eData (eCons (eData (eCons (eCall g_lot_of (eCons (eB gOr (eVar 3) (eB gShl (eC (.int 1)) (eVar 1))) eNil)) (eCons (eCall g_lot_of (eCons (eB gOr (eVar 4) (eB gShl (eC (.int 1)) (eVar 2))) eNil)) eNil)) kLst) eNil) gSorted)
def spTr (cs : Cs) : Sp := fun vs H Q _ => ∃ O ob b i j lo hi sh lg as, vs = [V.ref b, .int i, .int j] ∧ Own O H ∧ ObOk (cut O H) ob ∧ g_beaten_lot cs ob [.o b, .p (.int i), .p (.int j)] = some (.p lo) ∧ g_beaten_lot cs ob [.o b, .p (.int j), .p (.int i)] = some (.p hi) ∧
  f_sh ⟨[some (.o b), some (.p (.int i)), some (.p (.int j)), some (.p lo), some (.p hi), none], ob⟩ = some (.p sh) ∧ f_lg ⟨[some (.o b), some (.p (.int i)), some (.p (.int j)), some (.p lo), some (.p hi), some (.p sh)], ob⟩ = some (.p lg) ∧ newTrade [sh, lg] = some as ∧
  ∀ a H', Same H H' → H a = none → ObAt (cut O H') a cs.T as → Q (.ref a) H'
section
variable {P : Program} {w : World} {K : PySem.W.Frag} {mg : Str → Option Value} {base : Heap} {cs : Cs}
theorem c_trade_by (E : En P w K mg base cs) : CalE P w K mg base 9 "trade_by" (spTr cs) := by
  obtain ⟨f, fd, F, m⟩ := E.df ("trade_by", s_trade_by) (List.mem_of_getElem? (i := 26) rfl)
  have nd := sc_trade_by.nd
  refine calR (k := 8) F m sc_trade_by (fun _ _ _ _ _ _ us hl => match us, hl with | [_, _, _], _ => rfl) (fun vs H Q E h => ?_) fun cdv A outer s H vs Q E0 hr h => ⟨_,
    pss_cons (es_par (i := 3) (j := 4) rfl nd rfl rfl (by decide) rfl rfl (ea_cons (ev_call (c_beaten_lot E) hr (by decide) rfl (ea_cons (ev_var 0) (ea_cons (ev_var 1) (ea_cons (ev_var 2) ea_nil)))) (ea_cons (ev_call (c_beaten_lot E) hr (by decide) rfl (ea_cons (ev_var 0) (ea_cons (ev_var 2) (ea_cons (ev_var 1) ea_nil)))) ea_nil)) (by rfl))
    (pss_cons (es_set (i := 5) (f := f_sh) nd rfl (by first | exact .inl rfl | exact .inr rfl) (ev_sorted hr rfl (E.fr "sorted" (by decide)) (ea_cons (ev_lst (ea_cons (ev_call (c_lot_of E) hr (by decide) rfl (ea_cons (ev_bor (ev_var 3) (ev_shl (ev_c pe_int (fun _ => .int _)) (ev_var 2))) ea_nil)) (ea_cons (ev_call (c_lot_of E) hr (by decide) rfl (ea_cons (ev_bor (ev_var 4) (ev_shl (ev_c pe_int (fun _ => .int _)) (ev_var 1))) ea_nil)) ea_nil))) ea_nil)))
    (pss_one (ps_ret (en_T (fs := eCons (eVar 5) (eCons f_lg eNil)) E hr (by decide) rfl (ea_cons (ev_var 5) (ea_cons (ev_sorted hr rfl (E.fr "sorted" (by decide)) (ea_cons (ev_lst (ea_cons (ev_call (c_lot_of E) hr (by decide) rfl (ea_cons (ev_bor (ev_var 3) (ev_shl (ev_c pe_int (fun _ => .int _)) (ev_var 1))) ea_nil)) (ea_cons (ev_call (c_lot_of E) hr (by decide) rfl (ea_cons (ev_bor (ev_var 4) (ev_shl (ev_c pe_int (fun _ => .int _)) (ev_var 2))) ea_nil)) ea_nil))) ea_nil)) ea_nil)))))), ?_⟩
  · obtain ⟨O, ob, b, i, j, lo, hi, sh, lg, as, rfl, _⟩ := h
    rfl
  obtain ⟨O, ob, b, i, j, lo, hi, sh, lg, as, rfl, w', o, h1, h2, h3, h4, h5, q⟩ := h
  have hs0 : Hs (cut O H) [some (.ref b), some (.int i), some (.int j), none, none, none] ⟨[some (.o b), some (.p (.int i)), some (.p (.int j)), none, none, none], ob⟩ := start_hs (N := ["book", "one", "other", "low", "high", "short"]) (vs := [.ref b, .int i, .int j]) (ds := [.o b, .p (.int i), .p (.int j)]) (.cons rfl (.cons (.int _) (.cons (.int _) .nil))) o
  have r1 : sPar 3 4 (eCons (eCall (g_beaten_lot cs) (eCons (eVar 0) (eCons (eVar 1) (eCons (eVar 2) eNil)))) (eCons (eCall (g_beaten_lot cs) (eCons (eVar 0) (eCons (eVar 2) (eCons (eVar 1) eNil)))) eNil)) ⟨[some (.o b), some (.p (.int i)), some (.p (.int j)), none, none, none], ob⟩ = some (.nx [some (.o b), some (.p (.int i)), some (.p (.int j)), some (.p lo), some (.p hi), none]) := by
    unfold sPar
    rw [eCons_of (eCall_of (g := g_beaten_lot cs) (ds := [.o b, .p (.int i), .p (.int j)]) rfl h1) (eCons_of (eCall_of (g := g_beaten_lot cs) (ds := [.o b, .p (.int j), .p (.int i)]) rfl h2) rfl)]
    rfl
  refine ⟨O, _, _, w', hs0, r1, fun H1 s1 σ1 hs1 => ?_⟩
  refine ⟨O, _, _, w'.up s1, hs1, sAsg_of h3, fun H2 s2 σ2 hs2 => ?_⟩
  exact ⟨O, _, _, [sh, lg], as, (w'.up s1).up s2, hs2, eCons_of rfl (eCons_of h4 rfl), rfl, h5, fun a H' s3 ha hob => q a H' ((s1.trans s2).trans s3) ((s1.trans s2).free ha) hob⟩
end
end RB
set_option Elab.async false
set_option linter.all false
set_option maxRecDepth 100000
set_option maxHeartbeats 4000000
/-! A dict by two fors over lots, a list of numbers by any expression. -/
namespace RB
open PySem PySem.Spec PyProof.Rows L2
theorem pe_dc2L {X : Cx} {kx vx e0 i0 e1 i1 : Expr} {scope : Scope} {own : List (Str × Nat)} {vs1 : List Nat} {pos : Pos} {wi wi1 : TI} {g g1 : TG} {tk tv : TE} (hc : X.calm = true) (nd : X.N.Nodup) (hi : PI X e0 i0 wi) (ok : BlkOk X.N X.env.scope scope own) (hv : ∀ i ∈ vs1, i ∈ own.map (·.2))
    (hg : ∀ (s : Shared) (H : Hp) (C : Addr) (cl : List (Str × Addr)) (fp : List Addr), PG (X.blk s H scope (compEnvC scope cl C X.env) fp) e0 g) (hi1 : ∀ (s : Shared) (H : Hp) (C : Addr) (cl : List (Str × Addr)) (fp : List Addr), PI (X.blk s H scope (compEnvC scope cl C X.env) fp) e1 i1 wi1)
    (hg1 : ∀ (s : Shared) (H : Hp) (C : Addr) (cl : List (Str × Addr)) (fp : List Addr), PG (X.blk s H scope (compEnvC scope cl C X.env) fp) e1 g1) (hk : ∀ (s : Shared) (H : Hp) (C : Addr) (cl : List (Str × Addr)) (fp : List Addr), PE (X.blk s H scope (compEnvC scope cl C X.env) fp) kx tk)
    (he : ∀ (s : Shared) (H : Hp) (C : Addr) (cl : List (Str × Addr)) (fp : List Addr), PE (X.blk s H scope (compEnvC scope cl C X.env) fp) vx tv)
    (f0 : ∀ x, foldedSetIterable i0 X.env x = pure x := by intro _; rfl) (f1 : ∀ env x, foldedSetIterable i1 env x = pure x := by intro _ _; rfl) :
    PE X (.DictComp kx vx [⟨e0, i0, [], 0⟩, ⟨e1, i1, [], 0⟩] scope pos) (tDc2 wi g wi1 g1 tk tv (own.map (·.2)) vs1) := pe_dc2 hc nd hi ok hv hg hi1 hg1 hk he f0 f1
/-- what a dict tells behind these puts -/
def toldF : List (Nat × Nat) → Nat → Option Nat
  | [], _ => none
  | p :: r, k => match toldF r k with
    | some x => some x
    | none => if k = p.1 then some p.2 else none
theorem toldF_snoc (p : Nat × Nat) (k : Nat) : ∀ l : List (Nat × Nat), toldF (l ++ [p]) k = if k = p.1 then some p.2 else toldF l k
  | [] => by
    show (match toldF [] k with
      | some x => some x
      | none => if k = p.1 then some p.2 else none) = _
    rfl
  | q :: l => by
    show (match toldF (l ++ [p]) k with
      | some x => some x
      | none => if k = q.1 then some q.2 else none) = _
    rw [toldF_snoc p k l]
    by_cases h : k = p.1
    · rw [if_pos h, if_pos h]
    · rw [if_neg h, if_neg h]; rfl
def flatL (prs : List (List Nat × Nat)) : List (Nat × Nat) := prs.flatMap fun p => p.1.map fun b => (b, p.2)
theorem flatL_take {prs : List (List Nat × Nat)} {i : Nat} (h : i < prs.length) : flatL (prs.take (i + 1)) = flatL (prs.take i) ++ prs[i].1.map fun b => (b, prs[i].2) := by
  unfold flatL
  rw [List.take_add_one, List.getElem?_eq_getElem h, Option.toList_some, List.flatMap_append, List.flatMap_cons, List.flatMap_nil, List.append_nil]
def Tells (H : Hp) (D : Addr) (l : List (Nat × Nat)) : Prop := ∃ kvs, H D = some (.dK kvs) ∧ kvs.length ≤ l.length ∧ ∀ k : Nat, valV kvs (Sum.inl (k : Int)) = (toldF l k).map fun x => V.int (x : Nat)
theorem putK_length (kvs : List (Key × V)) (k : Key) (y : V) : (putK kvs k y).length ≤ kvs.length + 1 := by
  unfold putK
  split
  · rw [List.length_map]; omega
  · rw [List.length_append]; exact Nat.le_refl _
theorem dc2_read {K : PySem.W.Frag} {src : Ew} {g g1 : TG} {a b c : Nat} {O : List Addr} {Γ : Gm} {prs : List (List Nat × Nat)} {σ : L2.St} {H : Hp} {Q : VK} (gs : GS g (u2 a b) [a, b, c]) (gs1 : GS g1 (u1 c) [c]) (hab : a ≠ b) (hac : a ≠ c) (hbc : b ≠ c) (hl : a < σ.length ∧ b < σ.length ∧ c < σ.length)
    (w : Own O H) (hs : Hs (cut O H) σ Γ) (h1 : src Γ = some (prs.map fun p => .tuple [encL p.1, .int (p.2 : Nat)])) (hz : (flatL prs).length < sizeLine)
    (q : ∀ D H', H D = none → Same H H' → Tells H' D (flatL prs) → Q (.ref D) H') : tDc2 (iOf src) g (iOf (eSeq (eVar a))) g1 (tVar c) (tVar b) [a, b, c] [c] σ H Q := by
  refine ⟨O, Γ, _, w, hs, h1, fun J H1 s1 hJ D hD => ?_⟩
  have w1 := w.up s1
  have hs1 := hs.up (cutS s1)
  have hDn : H D = none := s1.free hD
  have lenp : (prs.map fun p => PyData.tuple [encL p.1, .int (p.2 : Nat)]).length = prs.length := List.length_map _
  have sl3 : Γ.sl.length = σ.length := hs.len
  refine ⟨fun i m H => i ≤ prs.length ∧ m = prs.length - i ∧ Same H1 H ∧ Tells H D (flatL (prs.take i)), ⟨_, Nat.zero_le _, rfl, same_upd hD, [], upd_same, Nat.zero_le _, fun k => rfl⟩, fun i m H2 hW => ?_⟩
  obtain ⟨hi, hm, s2, kvs, hk, hkl, hkv⟩ := hW
  have w2 : Own (D :: O) H2 := (w1.up s2).cons (by rw [hk]; exact fun z => nomatch z)
  have sB : Same (cut O H1) (cut (D :: O) H2) := cut_cons hD s2
  obtain ⟨st, go⟩ := hJ (D :: O) i H2 w2 sB
  rcases Nat.lt_or_ge i prs.length with hlt | hge
  · right
    obtain ⟨g1', g2⟩ := go (.tuple [encL prs[i].1, .int (prs[i].2 : Nat)]) (by rw [List.getElem?_map, List.getElem?_eq_getElem hlt]; rfl)
    refine ⟨g1', fun H' => ∃ m', m' < m ∧ (i + 1 ≤ prs.length ∧ m' = prs.length - (i + 1) ∧ Same H1 H' ∧ Tells H' D (flatL (prs.take (i + 1)))), fun H' z => z, fun v H3 hy => ?_⟩
    obtain ⟨s3, t3⟩ := g2 v H3 hy
    have hs3 := (hs1.up (sB.trans (cutS s3))).wipe [a, b, c]
    refine gs (w2.up s3) hs3 t3 rfl fun σ' hs' hw => ⟨by rw [hw, wipe_idem], ?_⟩
    have lw : (wipeD Γ.sl [a, b, c]).length = σ.length := by
      show (((Γ.sl.set c none).set b none).set a none).length = _
      rw [List.length_set, List.length_set, List.length_set, sl3]
    have ga : ((((wipeD Γ.sl [a, b, c]).set a (some (.p (encL prs[i].1)))).set b (some (.p (.int (prs[i].2 : Nat))))))[a]? = some (some (.p (encL prs[i].1))) := by
      rw [List.getElem?_set_ne hab.symm, List.getElem?_set_self (by rw [lw]; exact hl.1)]
    refine ⟨D :: O, ⟨_, Γ.ob⟩, prs[i].1.map fun b => .int (b : Nat), w2.up s3, hs', eSeq_t (eVar_of ga), fun J1 H4 s4 hJ1 => ?_⟩
    have s34 := s3.trans s4
    have w4 := w2.up s34
    have len1 : (prs[i].1.map fun b => PyData.int (b : Nat)).length = prs[i].1.length := List.length_map _
    have hkk := s34 _ _ hk
    refine ⟨fun j k H => j ≤ prs[i].1.length ∧ k = prs[i].1.length - j ∧ StepA D H4 H ∧ Tells H D (flatL (prs.take i) ++ (prs[i].1.take j).map fun b => (b, prs[i].2)),
      ⟨_, Nat.zero_le _, rfl, .of (Same.refl _), kvs, hkk, by simpa using hkl, fun k => by simpa using hkv k⟩, fun j k H5 hW1 => ?_⟩
    obtain ⟨hj, hkm, st5, kvs5, hk5, hkl5, hkv5⟩ := hW1
    have sH15 : Same H1 H5 := fun x o hx => st5 x o (ne_of_none hx hD) (s34 _ _ (s2 _ _ hx))
    have w5 : Own (D :: O) H5 := (w1.up sH15).cons (by rw [hk5]; exact fun z => nomatch z)
    obtain ⟨st1, go1⟩ := hJ1 (D :: O) j H5 w5 st5.cut
    rcases Nat.lt_or_ge j prs[i].1.length with hlt1 | hge1
    · right
      obtain ⟨g3, g4⟩ := go1 (.int (prs[i].1[j] : Nat)) (by rw [List.getElem?_map, List.getElem?_eq_getElem hlt1]; rfl)
      refine ⟨g3, fun H' => ∃ k', k' < k ∧ (j + 1 ≤ prs[i].1.length ∧ k' = prs[i].1.length - (j + 1) ∧ StepA D H4 H' ∧ Tells H' D (flatL (prs.take i) ++ (prs[i].1.take (j + 1)).map fun b => (b, prs[i].2))), fun H' z => z, fun v1 H6 hy1 => ?_⟩
      obtain ⟨s6, t6⟩ := g4 v1 H6 hy1
      refine gs1 (ob := Γ.ob) (sl := wipeD ((((wipeD Γ.sl [a, b, c]).set a (some (.p (encL prs[i].1)))).set b (some (.p (.int (prs[i].2 : Nat)))))) [c]) (w5.up s6) ?_ t6 rfl fun σ2 hs2 hw2 => ⟨by rw [hw2, wipe_idem], ?_⟩
      · exact ((hs'.up (cutS s4)).up (st5.cut.trans (cutS s6))).wipe [c]
      · have lw2 : (wipeD ((((wipeD Γ.sl [a, b, c]).set a (some (.p (encL prs[i].1)))).set b (some (.p (.int (prs[i].2 : Nat)))))) [c]).length = σ.length := by
          show (((((wipeD Γ.sl [a, b, c]).set a _).set b _)).set c none).length = _
          rw [List.length_set, List.length_set, List.length_set, lw]
        obtain ⟨vk, hvk, rk⟩ := hs2.sl c (.p (.int (prs[i].1[j] : Nat))) (List.getElem?_set_self (by rw [lw2]; exact hl.2.2))
        obtain ⟨vz, hvz, rz⟩ := hs2.sl b (.p (.int (prs[i].2 : Nat))) (by
          show ((((((wipeD Γ.sl [a, b, c]).set a _).set b _)).set c none).set c _)[b]? = _
          rw [List.getElem?_set_ne hbc.symm, List.getElem?_set_ne hbc.symm, List.getElem?_set_self (by rw [List.length_set, lw]; exact hl.2.1)])
        cases rk
        cases rz
        have hk6 := s6 _ _ hk5
        have hle : (flatL (prs.take i) ++ (prs[i].1.take (j + 1)).map fun b => (b, prs[i].2)).length ≤ (flatL prs).length := by
          have e1 : (flatL prs).length = (flatL (prs.take (i + 1))).length + (flatL (prs.drop (i + 1))).length := by
            rw [← List.length_append]
            unfold flatL
            rw [← List.flatMap_append, List.take_append_drop]
          rw [e1, flatL_take hlt, List.length_append, List.length_append, List.length_map, List.length_map, List.length_take]
          omega
        have htk : (prs[i].1.take (j + 1)).map (fun b => (b, prs[i].2)) = (prs[i].1.take j).map (fun b => (b, prs[i].2)) ++ [(prs[i].1[j], prs[i].2)] := by
          rw [List.take_add_one, List.getElem?_eq_getElem hlt1, List.map_append]; rfl
        rw [htk, ← List.append_assoc, List.length_append] at hle
        refine ⟨_, hvk, _, hvz, kvs5, Sum.inl ((prs[i].1[j] : Nat) : Int), rfl, hk6, ?_, prs[i].1.length - (j + 1), by omega, hlt1, rfl, (st5.trans (.of s6)).trans .upd, _, upd_same, ?_, fun k => ?_⟩
        · have : [(prs[i].1[j], prs[i].2)].length = 1 := rfl
          omega
        · rw [htk, ← List.append_assoc, List.length_append]
          exact Nat.le_trans (putK_length _ _ _) (Nat.succ_le_succ hkl5)
        · rw [valV_put, htk, ← List.append_assoc, toldF_snoc]
          by_cases hkj : k = prs[i].1[j]
          · rw [if_pos hkj, if_pos (by rw [hkj])]
            rfl
          · rw [if_neg hkj, if_neg (fun z => hkj (Int.ofNat_inj.mp (Sum.inl.inj z)))]
            exact hkv5 k
    · left
      obtain rfl : j = prs[i].1.length := by omega
      refine ⟨st1 (by rw [len1]; exact Nat.le_refl _), prs.length - (i + 1), by omega, hlt, rfl, sH15, ?_⟩
      rw [flatL_take hlt]
      rw [List.take_length] at hkl5 hkv5
      exact ⟨kvs5, hk5, hkl5, hkv5⟩
  · left
    obtain rfl : i = prs.length := by omega
    refine ⟨st (by rw [lenp]; exact Nat.le_refl _), q D H2 hDn (s1.trans s2) ?_⟩
    rw [List.take_length] at hkl hkv
    exact ⟨kvs, hk, hkl, hkv⟩
/-- [e(k) for k in range(n)], e any expression that gives numbers -/
theorem comp_ints {src : Ew} {te : TE} {j n : Nat} {e : Nat → Nat} {O : List Addr} {Γ : Gm} {σ : L2.St} {H : Hp} {Q : VK} (w : Own O H) (hs : Hs (cut O H) σ Γ) (hj : j < σ.length) (h1 : src Γ = some ((List.range n).map fun k => .int (k : Nat))) (hz : n ≤ sizeLine)
    (ht : ∀ k, k < n → ∀ H', Same H H' → ∀ R : VK, (∀ H'', Same H' H'' → R (.int (e k : Nat)) H'') → te ((L2.wipe σ [j]).set j (some (.int (k : Nat)))) H' R)
    (q : ∀ D H', H D = none → Same H H' → H' D = some (.lst (vL ((List.range n).map e))) → Q (.ref D) H') : tLc (iOf src) (gName j) (ttOf (eC (.bool true))) te [j] σ H Q := by
  refine ⟨O, Γ, _, w, hs, h1, fun J H1 s1 hJ D hD => ?_⟩
  have w1 := w.up s1
  have hDn : H D = none := s1.free hD
  have len : ((List.range n).map fun k => PyData.int (k : Nat)).length = n := by rw [List.length_map, List.length_range]
  refine ⟨fun i m H' => i ≤ n ∧ m = n - i ∧ Same H1 H' ∧ H' D = some (.lst (vL ((List.range i).map e))), ⟨_, Nat.zero_le _, rfl, same_upd hD, upd_same⟩, fun i m H2 hW => ?_⟩
  obtain ⟨hi, hm, s2, ha⟩ := hW
  have w2 : Own (D :: O) H2 := (w1.up s2).cons (by rw [ha]; exact fun z => nomatch z)
  obtain ⟨st, go⟩ := hJ (D :: O) i H2 w2 (cut_cons hD s2)
  rcases Nat.lt_or_ge i n with hlt | hge
  · right
    obtain ⟨g1, g2⟩ := go (.int (i : Nat)) (by rw [List.getElem?_map, List.getElem?_range hlt]; rfl)
    refine ⟨g1, fun H' => ∃ m', m' < m ∧ (i + 1 ≤ n ∧ m' = n - (i + 1) ∧ Same H1 H' ∧ H' D = some (.lst (vL ((List.range (i + 1)).map e)))), fun H' z => z, fun v H3 hy => ?_⟩
    obtain ⟨s3, t3⟩ := g2 v H3 hy
    cases t3
    have ew : L2.wipe ((L2.wipe σ [j]).set j (some (.int (i : Nat)))) [j] = L2.wipe σ [j] := by
      rw [wipe_set _ j _ [j] List.mem_cons_self]
      exact wipe_idem σ [j]
    have s03 := (s1.trans s2).trans s3
    refine ⟨ew, [], ⟨List.replicate σ.length none, ob0⟩, true, Own.nil, ⟨?_, fun i' d z => ?_, ob0_ok⟩, rfl, fun H4 s4 => iteT (ht i hlt H4 (s03.trans s4) _ fun H5 s5 => ?_)⟩
    · rw [List.length_replicate, List.length_set, wipe_length]
    · rw [List.getElem?_replicate] at z
      split at z
      · cases Option.some.inj z
      · cases z
    · have ha5 := s5 _ _ (s4 _ _ (s3 _ _ ha))
      refine ⟨_, ha5, by rw [List.length_map, List.length_map, List.length_range]; omega, n - (i + 1), by omega, hlt, rfl, fun b o hb => ?_, ?_⟩
      · rw [upd_ne (ne_of_none hb hD)]
        exact s5 _ _ (s4 _ _ (s3 _ _ (s2 _ _ hb)))
      · rw [upd_same, List.range_succ, List.map_append]
        unfold vL
        rw [List.map_append]; rfl
  · left
    obtain rfl : i = n := by omega
    exact ⟨st (by rw [len]; exact Nat.le_refl _), q D H2 hDn (s1.trans s2) ha⟩
end RB
set_option Elab.async false
set_option linter.all false
set_option maxRecDepth 100000
set_option maxHeartbeats 1000000
/-! least_lengths. -/
namespace RB
open PySem PySem.Spec PyProof.Rows L2
open PySem.W (AllAlike Sortable dataLe)
/-! ### all but the tables stays -/
section
variable {H H' : Hp} {O : List Addr}
theorem cut_extN (e : LamX.ExtN H H') : ∀ a xs, (cut O H a = some (.lst xs) → cut O H' a = some (.lst xs)) ∧ (cut O H a = some (.tup xs) → cut O H' a = some (.tup xs)) := fun a xs => by
  unfold cut
  by_cases h : a ∈ O
  · rw [if_pos h]
    exact ⟨fun z => (nomatch z), fun z => (nomatch z)⟩
  · rw [if_neg h, if_neg h]
    exact ⟨fun z => e _ _ z (fun _ q => (nomatch q)), fun z => e _ _ z (fun _ q => (nomatch q))⟩
theorem Tp.extN (e : LamX.ExtN H H') {v : V} {d : PyData} (t : Tp (cut O H) v d) : Tp (cut O H') v d := Tp.up2 (cut_extN e) d v t
theorem TpAll.extN (e : LamX.ExtN H H') {vs : List V} {ds : List PyData} (t : TpAll (cut O H) vs ds) : TpAll (cut O H') vs ds := TpAll.up2 (cut_extN e) ds vs t
theorem ObOk.extN (e : LamX.ExtN H H') {ob : Ob} (o : ObOk (cut O H) ob) : ObOk (cut O H') ob := fun a C fs z => by
  obtain ⟨dx, vs, h1, h2⟩ := o a C fs z
  refine ⟨dx, vs, ?_, fun nm d q => ?_⟩
  · unfold cut at h1 ⊢
    by_cases h : a ∈ O
    · rw [if_pos h] at h1; cases h1
    · rw [if_neg h] at h1 ⊢
      exact e _ _ h1 fun _ q => nomatch q
  · obtain ⟨v, k1, k2⟩ := h2 nm d q
    exact ⟨v, k1, k2.extN e⟩
theorem Rep.extN (e : LamX.ExtN H H') {v : V} : ∀ {d : D}, Rep (cut O H) v d → Rep (cut O H') v d
  | .p d, h => Tp.extN e h
  | .o _, h => h
theorem Hs.extN (e : LamX.ExtN H H') {σ : L2.St} {Γ : Gm} (h : Hs (cut O H) σ Γ) : Hs (cut O H') σ Γ := ⟨h.len, fun i d z => by
  obtain ⟨v, h1, h2⟩ := h.sl i d z
  exact ⟨v, h1, h2.extN e⟩, h.ob.extN e⟩
end
theorem paired_map {α β γ : Type} {R : α → γ → Prop} {f : β → γ} : ∀ {as : List α} {bs : List β}, Paired R as (bs.map f) → Paired (fun a b => R a (f b)) as bs
  | _, [], h => by
    have h' : Paired R _ [] := h
    cases h'; exact .nil
  | _, b :: bs, h => by
    have h' : Paired R _ (f b :: bs.map f) := h
    cases h' with
    | cons h1 h2 => exact .cons h1 (paired_map h2)
theorem paired_map' {α β γ : Type} {R : α → γ → Prop} {f : β → γ} : ∀ {as : List α} {bs : List β}, Paired (fun a b => R a (f b)) as bs → Paired R as (bs.map f)
  | _, _, .nil => .nil
  | _, _, .cons h t => .cons h (paired_map' t)
/-- owned, and no table -/
def OwnN (O : List Addr) (H : Hp) : Prop := ∀ a ∈ O, ∃ o, H a = some o ∧ ∀ ps, o ≠ .tbl ps
theorem OwnN.own {O : List Addr} {H : Hp} (w : OwnN O H) : Own O H := fun a ha z => by
  obtain ⟨o, h, _⟩ := w a ha
  rw [h] at z; cases z
theorem OwnN.ext {O : List Addr} {H H' : Hp} (w : OwnN O H) (e : LamX.ExtN H H') : OwnN O H' := fun a ha => by
  obtain ⟨o, h, n⟩ := w a ha
  exact ⟨o, e _ _ h n, n⟩
theorem extN_of {H H' : Hp} (s : Same H H') : LamX.ExtN H H' := LamX.ExtN.of s
def qualL (x : Str) : Str := x ++ ".<locals>."
def lamQ (q : Str) : Str := q ++ "<lambda>"
abbrev tabT (cs : Cs) : List (Addr × Str) := [(cs.tab, lamQ (qualL "least_lengths"))]
theorem tabT_mem {cs : Cs} {q : Str} (h : q = qualL "least_lengths") : (cs.tab, q ++ "<lambda>") ∈ tabT cs := by
  rw [h]
  exact List.mem_cons_self
theorem tabT_uniq {cs : Cs} {q : Str} (h : q = qualL "least_lengths") (p : Addr × Str) (hp : p ∈ tabT cs) (_ : p.1 = cs.tab) : p.2 = q ++ "<lambda>" := by
  rw [List.mem_singleton.mp hp, h]
  rfl
/-! ### what is found -/
def keyL (cnt : Nat → Nat) (l : List Nat) : PyData := .int (-(cnt (l.headD 0) : Nat))
noncomputable def sortedL (cnt : Nat → Nat) (cl : List (List Nat)) : List (List Nat) := cl.mergeSort (dataLe false (keyL cnt))
def lenOf (lots : List (List Nat)) (r : List Nat) (bar : Nat) : Nat := (toldF (flatL (lots.zip r)) bar).getD 0
def rowL (n : Nat) (lots : List (List Nat)) (r : List Nat) : List Nat := (List.range n).map (lenOf lots r)
def scan {α : Type} (f : Nat → Option α) (t : Nat) : Nat → Option α
  | 0 => none
  | k + 1 => match f t with
    | some r => some r
    | none => scan f (t + 2) k
def t0 (n : Nat) : Nat := if n % 2 = 1 then n else n + 1
structure LeastOk (cs : Cs) (ob : Ob) (b n : Nat) (T : Nat → Bool) (gr : PyData) (eq : Nat → Nat → Bool) (cnt : Nat → Nat) (had : List Nat → Bool) (rows : Nat → List (List Nat)) (lots : List (List Nat)) (fuel : Nat) (r : List Nat) : Prop where
  bk : BookAt cs ob b n T gr
  n1 : 1 ≤ n
  n6 : n ≤ 6
  eq_ : ∀ i j, i < n → j < n → g_are_equals cs ob [.o b, .p (.int (i : Nat)), .p (.int (j : Nat))] = some (.p (.bool (eq i j)))
  cnt_ : ∀ i, i < n → g_shorts_with cs ob [.o b, .p (.int (i : Nat))] = some (.p (.int (cnt i : Nat)))
  cl : ∀ c ∈ classes eq n, ∃ x r, c = x :: r ∧ x < n
  lots_ : lots = sortedL cnt (classes eq n)
  few : (classes eq n).length ≤ 6
  rise : ∀ t, t ≤ t0 n + 2 * fuel → g_rising 7 ob [.p (.list (lots.map fun l => .int (l.length : Nat))), .p (.int 1), .p (.int (t : Nat))] = some (.p (.list ((rows t).map fun r => .list (dL r))))
  told : ∀ t, t ≤ t0 n + 2 * fuel → ∀ r ∈ rows t, r.length = lots.length ∧ (flatL (lots.zip r)).length ≤ 100 ∧ ∀ bar, bar < n → (toldF (flatL (lots.zip r)) bar).isSome = true
  had_ : ∀ t, t ≤ t0 n + 2 * fuel → ∀ r ∈ rows t, g_are_had cs ob [.o b, .p (.list (dL (rowL n lots r)))] = some (.p (.bool (had (rowL n lots r))))
  found : scan (fun t => (rows t).find? fun r => had (rowL n lots r)) (t0 n) fuel = some r
def spLeast (cs : Cs) : Sp := fun vs H Q _ => ∃ O ob b n T gr eq cnt had rows lots fuel r, vs = [V.ref b] ∧ OwnN O H ∧ LamX.Tabs (tabT cs) H ∧ ObOk (cut O H) ob ∧ LeastOk cs ob b n T gr eq cnt had rows lots fuel r ∧
  ∀ v H', LamX.ExtN H H' → LamX.Tabs (tabT cs) H' → Tp (cut O H') v (.list (dL (rowL n lots r))) → Q v H'
section
variable {P : Program} {w : World} {K : PySem.W.Frag} {mg : Str → Option Value} {base : Heap} {cs : Cs}
theorem c_least_lengths (E : En P w K mg base cs) : CalE P w K mg base 8 "least_lengths" (spLeast cs) := by
  obtain ⟨f, fd, oc, od, dV, kV, doc, pm, an, cc, ct, osl, F, m, efd, lk, hcd, TB⟩ := E.lam
  have nd := sc_least_lengths.nd
  refine ⟨f, fd, ["book"], ?_, m, F.kp, F.bindsN (fun _ _ _ _ _ _ us hl => match us, hl with | [_], _ => rfl), s_least_lengths, F, rfl⟩
  subst efd
  refine fn_of (k := 7) lk hcd sc_least_lengths (fun vs H Q E h => ?_) fun A outer s H vs Q E0 hr h => ?_
  · obtain ⟨O, ob, b, n, T, gr, eq, cnt, had, rows, lots, fuel, r, rfl, _⟩ := h
    rfl
  obtain ⟨O, ob, b, n, T, gr, eq, cnt, had, rows, lots, fuel, r, rfl, w', tb, o, L, q⟩ := h
  refine ⟨_, PSs.nox
    (pss_cons (ps_set (i := 1) nd rfl (by first | exact .inl rfl | exact .inr rfl) (pe_sortLam (T := tabT cs) (n := 2) (j := 6) (p := "lot") (c := cc) (P := cs.tab) (β := List Nat) (Pr := fun H v c => Tp (cut O H) v (encL c)) (k := keyL cnt)
        (tb := tOf (eU gNeg (eCall (g_shorts_with cs) (eCons (eVar 0) (eCons (eB gIx (eVar 6) (eC (.int 0))) eNil)))))
        (pe_cal (c_equals E) hr (by decide) rfl (pa_cons (pv 0) pa_nil)) rfl (E.fr "sorted" (by decide)) (lamP_by (N := ["book", "lots", "total", "row", "told", "lengths", "lot", "length", "bar"]) (sc := (defScope s_least_lengths)) (p := "lot") (j := 6) (by first | decide +kernel | rfl)) TB rfl (tabT_mem rfl) (tabT_uniq rfl) (hr.mono (by decide)) rfl
        (fun s H f c' hr' => ev_neg (ev_call (c_shorts_with E) hr' (by decide) rfl (ea_cons (ev_var 0) (ea_cons (ev_at (ev_var 6) (ev_c pe_int (fun _ => .int _))) ea_nil)))) (fun _ _ _ _ _ _ => rfl)))
    (pss_cons (es_set (i := 2) nd rfl (by first | exact .inl rfl | exact .inr rfl) (ev_ifExp (et_eq hr (ev_mod (ev_flds (E.fld_many) (ev_var 0)) (ev_c pe_int (fun _ => .int _))) (ev_c pe_int (fun _ => .int _))) (ev_flds (E.fld_many) (ev_var 0)) (ev_add (ev_flds (E.fld_many) (ev_var 0)) (ev_c pe_int (fun _ => .int _)))))
    (pss_one (ps_while PassesOwn.never (et_val (ev_c pe_bl (fun _ => .bl _)))
      (pss_cons (ps_for PassesOwn.never rfl (ei_seq (ev_call (c_rising E 7) hr (by decide) rfl (ea_cons (ev_lc (own := [("lot", 6)]) rfl nd (ei_seq (ev_var 1)) (blkOk_by (N := ["book", "lots", "total", "row", "told", "lengths", "lot", "length", "bar"]) (sc := (defScope s_least_lengths)) (own := [("lot", 6)]) (by first | decide +kernel | rfl)) (gs_name (i := 6) (vs := [6]) (by decide)) (fun _ _ _ _ _ => (pg_name (i := 6) nd rfl (by first | exact .inl rfl | exact .inr rfl))) (fun _ _ _ _ _ => ets_nil) (fun _ _ _ _ _ => (ev_len rfl (E.fr "len" (by decide)) (ea_cons (ev_var 6) ea_nil)))) (ea_cons (ev_c pe_int (fun _ => .int _)) (ea_cons (ev_var 2) ea_nil))))) (pg_name (i := 3) nd rfl (by first | exact .inl rfl | exact .inr rfl))
        (pss_cons (ps_set (i := 4) nd rfl (by first | exact .inl rfl | exact .inr rfl) (pe_dc2L (g := gTup K 2 (gCons (gName 6) (gCons (gName 7) gNil))) (own := [("lot", 6), ("length", 7), ("bar", 8)]) (vs1 := [8]) rfl nd (ei_zip rfl (E.fr "zip" (by decide)) (ea_cons (ev_var 1) (ea_cons (ev_var 3) ea_nil)))
            (blkOk_by (N := ["book", "lots", "total", "row", "told", "lengths", "lot", "length", "bar"]) (sc := (defScope s_least_lengths)) (own := [("lot", 6), ("length", 7), ("bar", 8)]) (by first | decide +kernel | rfl)) (by decide)
            (fun _ _ _ _ _ => pg_tup rfl (pgs_cons (pg_name (i := 6) nd rfl (by first | exact .inl rfl | exact .inr rfl)) (pgs_cons (pg_name (i := 7) nd rfl (by first | exact .inl rfl | exact .inr rfl)) pgs_nil)))
            (fun _ _ _ _ _ => ei_seq (ev_var 6)) (fun _ _ _ _ _ => pg_name (i := 8) nd rfl (by first | exact .inl rfl | exact .inr rfl)) (fun _ _ _ _ _ => pv 8) (fun _ _ _ _ _ => pv 7)))
        (pss_cons (ps_setLc (i := 5) (own := [("bar", 8)]) rfl nd rfl rfl (sw_true rfl rfl rfl (by decide +kernel)) (ei_range1 rfl (E.fr "range" (by decide)) (ea_cons (ev_flds E.fld_many (ev_var 0)) ea_nil)) (blkOk_by (N := ["book", "lots", "total", "row", "told", "lengths", "lot", "length", "bar"]) (sc := (defScope s_least_lengths)) (own := [("bar", 8)]) (by first | decide +kernel | rfl)) (fun _ _ _ _ _ => (pg_name (i := 8) nd rfl (by first | exact .inl rfl | exact .inr rfl))) (fun _ _ _ _ _ => ets_nil)
            (fun _ _ _ _ _ => pe_dget (hu_of hr) (pv 4) (pv 8) (fun _ _ => rfl)))
        (pss_one (es_if (et_val (ev_call (c_are_had E) hr (by decide) rfl (ea_cons (ev_var 0) (ea_cons (ev_var 5) ea_nil)))) (ess_cons (es_ret (ev_var 5)) ess_nil) ess_nil)))))
      (pss_one (es_set (i := 2) nd rfl (by first | exact .inl rfl | exact .inr rfl) (ev_add (ev_var 2) (ev_c pe_int (fun _ => .int _))))))))))
    , ?_⟩
  have w0 := w'.own
  have B := L.bk
  have n6 := L.n6
  have mk : ∀ {H1 : Hp} {x1 x2 x3 x4 x5 x6 x7 x8 : Option V} {d1 d2 d3 d4 d5 d6 d7 d8 : Option D}, LamX.ExtN H H1 → (∀ d, d1 = some d → ∃ v, x1 = some v ∧ Rep (cut O H1) v d) → (∀ d, d2 = some d → ∃ v, x2 = some v ∧ Rep (cut O H1) v d) → (∀ d, d3 = some d → ∃ v, x3 = some v ∧ Rep (cut O H1) v d) →
      (∀ d, d4 = some d → ∃ v, x4 = some v ∧ Rep (cut O H1) v d) → (∀ d, d5 = some d → ∃ v, x5 = some v ∧ Rep (cut O H1) v d) → (∀ d, d6 = some d → ∃ v, x6 = some v ∧ Rep (cut O H1) v d) → (∀ d, d7 = some d → ∃ v, x7 = some v ∧ Rep (cut O H1) v d) → (∀ d, d8 = some d → ∃ v, x8 = some v ∧ Rep (cut O H1) v d) →
      Hs (cut O H1) [some (.ref b), x1, x2, x3, x4, x5, x6, x7, x8] ⟨[some (.o b), d1, d2, d3, d4, d5, d6, d7, d8], ob⟩ := fun {H1 x1 x2 x3 x4 x5 x6 x7 x8 d1 d2 d3 d4 d5 d6 d7 d8} s h1 h2 h3 h4 h5 h6 h7 h8 => by
    refine ⟨rfl, fun i d z => ?_, o.extN s⟩
    match i, z with
    | 0, z => cases z; exact ⟨_, rfl, rfl⟩
    | 1, z => obtain ⟨v, rfl, r⟩ := h1 d (Option.some.inj z); exact ⟨v, rfl, r⟩
    | 2, z => obtain ⟨v, rfl, r⟩ := h2 d (Option.some.inj z); exact ⟨v, rfl, r⟩
    | 3, z => obtain ⟨v, rfl, r⟩ := h3 d (Option.some.inj z); exact ⟨v, rfl, r⟩
    | 4, z => obtain ⟨v, rfl, r⟩ := h4 d (Option.some.inj z); exact ⟨v, rfl, r⟩
    | 5, z => obtain ⟨v, rfl, r⟩ := h5 d (Option.some.inj z); exact ⟨v, rfl, r⟩
    | 6, z => obtain ⟨v, rfl, r⟩ := h6 d (Option.some.inj z); exact ⟨v, rfl, r⟩
    | 7, z => obtain ⟨v, rfl, r⟩ := h7 d (Option.some.inj z); exact ⟨v, rfl, r⟩
    | 8, z => obtain ⟨v, rfl, r⟩ := h8 d (Option.some.inj z); exact ⟨v, rfl, r⟩
    | i + 9, z => cases z
  have no : ∀ {O : List Addr} {H1 : Hp} {x : Option V} (d : D), (none : Option D) = some d → ∃ v, x = some v ∧ Rep (cut O H1) v d := fun d z => by cases z
  refine ⟨_, rfl, O, ob, b, n, T, gr, eq, rfl, w0, o, B, n6, L.eq_, fun v1 H1 s1 t1 => ⟨tb.ext s1, fun H2 e2 tb2 => ?_⟩⟩
  have e02 : LamX.ExtN H H2 := (extN_of s1).trans e2
  have t2 := t1.extN e2
  cases t2 with
  | @tup a xs _ k1 k2 =>
    have lsh : ∀ b b', PySem.W.alike (keyL cnt b) (keyL cnt b') = true := fun b b' => by
      unfold keyL
      simp [PySem.W.alike]
    refine ⟨a, xs, classes eq n, rfl, .inr (SqT.of (cut_sub _ _ k1)), paired_map k2.paired, AllAlike.of lsh, Sortable.others fun b => ⟨fun z => (by cases z), fun xs z => (by cases z)⟩, fun b => rfl, fun b _ => by unfold keyL; simp only [PyData.depth]; omega, fun y c H3 s3 hy hc => ?_, fun ys p H3 s3 hp hp3 hpr => ?_⟩
    · obtain ⟨x, r, rfl, hx⟩ := L.cl c hc
      have w3 : Own O H3 := (w'.ext (e02.trans (extN_of s3))).own
      refine ⟨O, ⟨[some (.o b), none, none, none, none, none, some (.p (encL (x :: r))), none, none], ob⟩, .p (.int (-(cnt x : Nat))), w3, mk (e02.trans (extN_of s3)) no no no no no (fun d z => by cases z; exact ⟨_, rfl, Tp.up (cutS s3) _ _ hy⟩) no no, ?_, fun v H4 s4 r4 => ⟨s4, Tp.dp _ _ (Tp.up cut_sub _ _ r4)⟩⟩
      exact eU_of (eCall_of (eCons_of rfl (eCons_of (eB_of rfl rfl (gIx_t0 _ _)) rfl)) (L.cnt_ x hx)) rfl
    · have e03 : LamX.ExtN H H3 := e02.trans (extN_of s3)
      have w3 := (w'.ext e03).own
      have tb3 := tb2.ext s3
      have hpO : p ∉ O := ((w'.ext e02).own).new hp
      have tl : Tp (cut O H3) (.ref p) (.list (lots.map encL)) := by
        refine .lst (by rw [cut_out hpO]; exact hp3) (TpAll.of_paired (paired_map' ?_))
        rw [L.lots_]
        exact hpr.mono fun x c t => Tp.up (cutS s3) _ _ t
      have tot : eIf (eB gEq (eB gMod (eFlds [cs.B] "many" (eVar 0)) (eC (.int 2))) (eC (.int 1))) (eFlds [cs.B] "many" (eVar 0)) (eB gAdd (eFlds [cs.B] "many" (eVar 0)) (eC (.int 1))) ⟨[some (.o b), some (.p (.list (lots.map encL))), none, none, none, none, none, none, none], ob⟩ = some (.p (.int (t0 n : Nat))) := by
        have hm : eB gMod (eFlds [cs.B] "many" (eVar 0)) (eC (.int 2)) ⟨[some (.o b), some (.p (.list (lots.map encL))), none, none, none, none, none, none, none], ob⟩ = some (.p (.int ((n % 2 : Nat) : Int))) := eB_of (B.many rfl) rfl (by
          show (if decide ((2 : Int) ≠ 0) = true then some (PyData.int ((n : Int).fmod 2)) else none) = _
          rw [if_pos (by decide), Int.fmod_eq_emod_of_nonneg _ (by decide)]
          rfl)
        have ht : eB gEq (eB gMod (eFlds [cs.B] "many" (eVar 0)) (eC (.int 2))) (eC (.int 1)) ⟨[some (.o b), some (.p (.list (lots.map encL))), none, none, none, none, none, none, none], ob⟩ = some (.p (.bool (decide (n % 2 = 1)))) := eB_of hm rfl (gEq_of (k := 0) (.int _) (.int _) (by
          rw [eqv_int]
          exact decide_eq_decide.mpr (by omega)))
        unfold t0
        by_cases h2 : n % 2 = 1
        · rw [decide_eq_true h2] at ht
          rw [if_pos h2]
          exact eIf_t ht (B.many rfl)
        · rw [decide_eq_false h2] at ht
          rw [if_neg h2]
          exact eIf_f ht (eB_of (B.many rfl) rfl rfl)
      refine ⟨O, ⟨[some (.o b), some (.p (.list (lots.map encL))), none, none, none, none, none, none, none], ob⟩, _, w3, mk e03 (fun d z => by cases z; exact ⟨_, rfl, tl⟩) no no no no no no no, sAsg_of tot, fun H4 s4 σ4 hs4 => ?_⟩
      have nine : ∀ {H' : Hp} {σ : L2.St} {t : Nat} {d3 d4 d5 d6 d7 d8 : Option D}, Hs (cut O H') σ ⟨[some (.o b), some (.p (.list (lots.map encL))), some (.p (.int (t : Nat))), d3, d4, d5, d6, d7, d8], ob⟩ → ∃ v x3 x4 x5 x6 x7 x8, σ = [some (.ref b), some v, some (.int (t : Nat)), x3, x4, x5, x6, x7, x8] ∧ Tp (cut O H') v (.list (lots.map encL)) := fun {H' σ t d3 d4 d5 d6 d7 d8} hs4 => by
        have hl := hs4.len
        match σ, hl with
        | [y0, y1, y2, y3, y4, y5, y6, y7, y8], _ =>
          obtain ⟨v0, h0, r0⟩ := hs4.sl 0 (.o b) rfl
          obtain ⟨v1, h1, r1⟩ := hs4.sl 1 (.p (.list (lots.map encL))) rfl
          obtain ⟨v2, h2, r2⟩ := hs4.sl 2 (.p (.int (t : Nat))) rfl
          have r0 : v0 = .ref b := r0
          subst r0
          cases r2
          exact ⟨v1, y3, y4, y5, y6, y7, y8, by rw [Option.some.inj h0, Option.some.inj h1, Option.some.inj h2], r1⟩
      obtain ⟨vl, x3, x4, x5, x6, x7, x8, rfl, tl4⟩ := nine hs4
      have e04 : LamX.ExtN H H4 := e03.trans (extN_of s4)
      have tb4 := tb3.ext s4
      have w4 := w3.up s4
      refine ⟨fun m σ H' => ∃ t vl x3 x4 x5 x6 x7 x8, σ = [some (.ref b), some vl, some (.int (t : Nat)), x3, x4, x5, x6, x7, x8] ∧ Tp (cut O H') vl (.list (lots.map encL)) ∧ Same H4 H' ∧ t + 2 * m = t0 n + 2 * fuel ∧ scan (fun t => (rows t).find? fun r => had (rowL n lots r)) t m = some r,
        ⟨fuel, _, _, _, _, _, _, _, _, rfl, tl4, Same.refl _, rfl, L.found⟩, fun m σ5 H5 hW => ?_⟩
      obtain ⟨t, vl, x3, x4, x5, x6, x7, x8, rfl, tl5, s5, htm, hsc⟩ := hW
      have e05 := e04.trans (extN_of s5)
      have w5 := w4.up s5
      refine ⟨O, ⟨[some (.o b), none, none, none, none, none, none, none, none], ob⟩, true, w5, mk e05 no no no no no no no no, rfl, fun H6 s6 => iteT ?_⟩
      cases m with
      | zero => cases hsc
      | succ m =>
        refine ⟨fun σ' H' => ∃ m', m' < m + 1 ∧ ∃ t vl x3 x4 x5 x6 x7 x8, σ' = [some (.ref b), some vl, some (.int (t : Nat)), x3, x4, x5, x6, x7, x8] ∧ Tp (cut O H') vl (.list (lots.map encL)) ∧ Same H4 H' ∧ t + 2 * m' = t0 n + 2 * fuel ∧ scan (fun t => (rows t).find? fun r => had (rowL n lots r)) t m' = some r, fun σ' H' z => z, ?_⟩
        have ht : t ≤ t0 n + 2 * fuel := by omega
        have s36 := s5.trans s6
        have e06 := e04.trans (extN_of s36)
        have w6 := w4.up s36
        have tl6 : Tp (cut O H6) vl (.list (lots.map encL)) := Tp.up (cutS s6) _ _ tl5
        have hs6 : Hs (cut O H6) [some (.ref b), some vl, some (.int (t : Nat)), x3, x4, x5, x6, x7, x8] ⟨[some (.o b), some (.p (.list (lots.map encL))), some (.p (.int (t : Nat))), none, none, none, none, none, none], ob⟩ := mk e06 (fun d z => by cases z; exact ⟨_, rfl, tl6⟩) (fun d z => by cases z; exact ⟨_, rfl, .int _⟩) no no no no no no
        have lo6 : lots.length ≤ 6 := by
          rw [L.lots_]
          unfold sortedL
          rw [List.length_mergeSort]
          exact L.few
        have six : (6 : Nat) ≤ sizeLine := by decide
        have hsz : eComp (eSeq (eVar 1)) (u1 6) (eC (.bool true)) (eData (eCons (eVar 6) eNil) gLen) [6] ⟨[some (.o b), some (.p (.list (lots.map encL))), some (.p (.int (t : Nat))), none, none, none, none, none, none], ob⟩ = some (.p (.list (lots.map fun l => .int (l.length : Nat)))) :=
          eComp_of (eSeq_l rfl) (by rw [List.length_map]; omega) (compGo_all lots fun l _ => stepOf_all rfl (eData1 rfl (by
            show some (PyData.int ((l.map fun b => PyData.int (b : Nat)).length : Nat)) = _
            rw [List.length_map])))
        refine ⟨O, _, _, w6, hs6, eSeq_l (eCall_of (eCons_of hsz (eCons_of rfl (eCons_of rfl rfl))) (L.rise t ht)), fun J H7 s7 hJ => ?_⟩
        have lenr : ((rows t).map fun r => PyData.list (dL r)).length = (rows t).length := List.length_map _
        refine ⟨fun i m' σ H' => i ≤ (rows t).length ∧ m' = (rows t).length - i ∧ Same H7 H' ∧ (∃ vl x3 x4 x5 x6 x7 x8, σ = [some (.ref b), some vl, some (.int (t : Nat)), x3, x4, x5, x6, x7, x8] ∧ Tp (cut O H') vl (.list (lots.map encL))) ∧ ∀ z ∈ (rows t).take i, had (rowL n lots z) = false,
          ⟨_, Nat.zero_le _, rfl, Same.refl _, ⟨_, _, _, _, _, _, _, rfl, Tp.up (cutS s7) _ _ tl6⟩, fun z hz => (by cases hz)⟩, fun i m' σ8 H8 hW => ?_⟩
        obtain ⟨hi, hm', s8, ⟨vl, x3, x4, x5, x6, x7, x8, rfl, tl8⟩, hno⟩ := hW
        have s48 := (s36.trans s7).trans s8
        have w8 := w4.up s48
        obtain ⟨st, go⟩ := hJ O i H8 w8 (cutS s8)
        rcases Nat.lt_or_ge i (rows t).length with hlt | hge
        · right
          obtain ⟨g1, g2⟩ := go (.list (dL (rows t)[i])) (by rw [List.getElem?_map, List.getElem?_eq_getElem hlt]; rfl)
          refine ⟨g1, fun σ' H' => ∃ k, k < m' ∧ (i + 1 ≤ (rows t).length ∧ k = (rows t).length - (i + 1) ∧ Same H7 H' ∧ (∃ vl x3 x4 x5 x6 x7 x8, σ' = [some (.ref b), some vl, some (.int (t : Nat)), x3, x4, x5, x6, x7, x8] ∧ Tp (cut O H') vl (.list (lots.map encL))) ∧ ∀ z ∈ (rows t).take (i + 1), had (rowL n lots z) = false), fun σ' H' z => z, fun vr H9 hy => ?_⟩
          obtain ⟨s9, tr⟩ := g2 vr H9 hy
          have hmem : (rows t)[i] ∈ rows t := List.getElem_mem hlt
          obtain ⟨hrl, hfl, htold⟩ := L.told t ht _ hmem
          have hhad := L.had_ t ht _ hmem
          have hundred : (100 : Nat) < sizeLine := by decide
          have s49 := s48.trans s9
          have e09 := e04.trans (extN_of s49)
          have w9 := w4.up s49
          have tl9 : Tp (cut O H9) vl (.list (lots.map encL)) := Tp.up (cutS s9) _ _ tl8
          show tSeq _ _ _ [some (.ref b), some vl, some (.int (t : Nat)), some vr, x4, x5, x6, x7, x8] H9
          show tAsg _ _ _ [some (.ref b), some vl, some (.int (t : Nat)), some vr, x4, x5, x6, x7, x8] H9
          have hs9 : Hs (cut O H9) [some (.ref b), some vl, some (.int (t : Nat)), some vr, x4, x5, x6, x7, x8] ⟨[some (.o b), some (.p (.list (lots.map encL))), none, some (.p (.list (dL (rows t)[i]))), none, none, none, none, none], ob⟩ := mk e09 (fun d z => by cases z; exact ⟨_, rfl, tl9⟩) no (fun d z => by cases z; exact ⟨_, rfl, tr⟩) no no no no no
          have hz : eZip (eCons (eVar 1) (eCons (eVar 3) eNil)) ⟨[some (.o b), some (.p (.list (lots.map encL))), none, some (.p (.list (dL (rows t)[i]))), none, none, none, none, none], ob⟩ = some ((lots.zip (rows t)[i]).map fun p => .tuple [encL p.1, .int (p.2 : Nat)]) := by
            show some (zipD (lots.map encL) (dL (rows t)[i])) = _
            unfold zipD
            rw [List.zipWith_map, List.zip_eq_zipWith, List.map_zipWith]
          refine dc2_read (K := K) (a := 6) (b := 7) (c := 8) (σ := [some (.ref b), some vl, some (.int (t : Nat)), some vr, x4, x5, x6, x7, x8]) (gs_pair (by decide) (by decide)) (gs_name (by decide)) (by decide) (by decide) (by decide) ⟨by show 6 < 9; decide, by show 7 < 9; decide, by show 8 < 9; decide⟩ w9 hs9 hz (by omega) fun D HA hD sA hTell => ?_
          have s4A := s49.trans sA
          have e0A := e04.trans (extN_of s4A)
          have wA := w4.up s4A
          dsimp only [gName]
          unfold tSeq
          unfold tAsg
          have hsA : Hs (cut O HA) [some (.ref b), some vl, some (.int (t : Nat)), some vr, some (.ref D), x5, x6, x7, x8] ⟨[some (.o b), none, none, none, none, none, none, none, none], ob⟩ := mk e0A no no no no no no no no
          refine comp_ints (n := n) (e := lenOf lots (rows t)[i]) (σ := [some (.ref b), some vl, some (.int (t : Nat)), some vr, some (.ref D), x5, x6, x7, x8]) wA hsA (by show 8 < 9; decide) (by
              rw [eRange_of (eCons_of (B.many rfl) rfl) (by omega) (by omega), Int.toNat_natCast, numsD_nat]) (by omega) (fun k hk HB sB R hR => ?_) fun D2 HB hD2 sB hlst => ?_
          · obtain ⟨kvs, hkv, _, hval⟩ := hTell
            refine ⟨_, rfl, _, rfl, D, .int (lenOf lots (rows t)[i] k : Nat), rfl, ?_, hR HB (Same.refl _)⟩
            have := DGet.k (k := Sum.inl (k : Int)) (sB _ _ hkv)
            rw [hval k] at this
            obtain ⟨x, hx⟩ := Option.isSome_iff_exists.mp (htold k hk)
            rw [hx] at this
            have e : lenOf lots (rows t)[i] k = x := by unfold lenOf; rw [hx]; rfl
            rw [e]
            exact this
          · have s4B := s4A.trans sB
            have e0B := e04.trans (extN_of s4B)
            have wB := w4.up s4B
            have hD2O : D2 ∉ O := wA.new hD2
            have tls : Tp (cut O HB) (.ref D2) (.list (dL (rowL n lots (rows t)[i]))) := .lst (by rw [cut_out hD2O]; exact hlst) (tp_nats _)
            have hsB : Hs (cut O HB) [some (.ref b), some vl, some (.int (t : Nat)), some vr, some (.ref D), some (.ref D2), x6, x7, x8] ⟨[some (.o b), some (.p (.list (lots.map encL))), some (.p (.int (t : Nat))), none, none, some (.p (.list (dL (rowL n lots (rows t)[i])))), none, none, none], ob⟩ := mk e0B (fun d z => by cases z; exact ⟨_, rfl, Tp.up (cutS (sA.trans sB)) _ _ tl9⟩) (fun d z => by cases z; exact ⟨_, rfl, .int _⟩) no no (fun d z => by cases z; exact ⟨_, rfl, tls⟩) no no no
            cases hh : had (rowL n lots (rows t)[i]) with
            | true =>
              rw [hh] at hhad
              have hr : r = (rows t)[i] := by
                unfold scan at hsc
                have hf : (rows t).find? (fun r => had (rowL n lots r)) = some (rows t)[i] := by
                  refine List.find?_eq_some_iff_getElem.mpr ?_
                  refine ⟨hh, i, hlt, rfl, fun j hj => ?_⟩
                  rw [hno _ (List.mem_take_iff_getElem.mpr ⟨j, by omega, rfl⟩)]
                  rfl
                rw [hf] at hsc
                exact (Option.some.inj hsc).symm
              refine ⟨O, _, _, wB, hsB, sIf_t (eCall_of (eCons_of rfl (eCons_of rfl rfl)) hhad) (sRet1 rfl), fun HC sC v rv => ?_⟩
              subst hr
              exact q v HC (e0B.trans (extN_of sC)) ((tb4.ext s4B).ext sC) rv
            | false =>
              rw [hh] at hhad
              refine ⟨O, _, _, wB, hsB, sIf_f (eCall_of (eCons_of rfl (eCons_of rfl rfl)) hhad) rfl, fun HC sC σC hsC => ?_⟩
              obtain ⟨vl', y3, y4, y5, y6, y7, y8, rfl, tlC⟩ := nine hsC
              refine ⟨(rows t).length - (i + 1), by omega, hlt, rfl, (((s8.trans s9).trans sA).trans sB).trans sC, ⟨_, _, _, _, _, _, _, rfl, tlC⟩, fun z hz => ?_⟩
              rw [List.take_add_one, List.getElem?_eq_getElem hlt] at hz
              rcases List.mem_append.mp hz with h | h
              · exact hno z h
              · obtain rfl : z = (rows t)[i] := by simpa using h
                exact hh
        · left
          refine ⟨st (by rw [lenr]; exact hge), ?_⟩
          have hsE : Hs (cut O H8) [some (.ref b), some vl, some (.int (t : Nat)), x3, x4, x5, x6, x7, x8] ⟨[some (.o b), some (.p (.list (lots.map encL))), some (.p (.int (t : Nat))), none, none, none, none, none, none], ob⟩ := mk (e04.trans (extN_of s48)) (fun d z => by cases z; exact ⟨_, rfl, tl8⟩) (fun d z => by cases z; exact ⟨_, rfl, .int _⟩) no no no no no no
          refine ⟨O, _, _, w8, hsE, sAsg_of (eB_of (y := .int ((t + 2 : Nat) : Int)) rfl rfl (by show some (PyData.int ((t : Int) + 2)) = _; rfl)), fun HC sC σC hsC => ?_⟩
          obtain ⟨vl', y3, y4, y5, y6, y7, y8, rfl, tlC⟩ := nine hsC
          refine ⟨m, Nat.lt_succ_self _, t + 2, _, _, _, _, _, _, _, rfl, tlC, s48.trans sC, by omega, ?_⟩
          unfold scan at hsc
          have hf : (rows t).find? (fun r => had (rowL n lots r)) = none := by
            rw [List.find?_eq_none]
            intro z hz
            rw [hno z (by rw [List.take_of_length_le hge]; exact hz)]
            simp
          rw [hf] at hsc
          exact hsc
end
end RB
set_option Elab.async false
set_option linter.all false
set_option maxRecDepth 100000
set_option maxHeartbeats 4000000
/-! lengths_for. -/
namespace RB
open PySem PySem.Spec PyProof.Rows L2
theorem make_at {C : Addr} {g : List PyData → Option (List (Str × PyData))} {H1 : Hp} {vs : List V} {xs : List PyData} {as : List (Str × PyData)} {O : List Addr} {Q : VK} (w1 : Own O H1) (t : TpAll (cut O H1) vs xs) (e3 : g xs = some as)
    (q : ∀ a H', Same H1 H' → H1 a = none → ObAt (cut O H') a C as → Q (.ref a) H') (x dx : Addr) (hx : H1 x = none) (hdx : H1 dx = none) (hne : dx ≠ x) : spNew C g (.ref x :: (vs ++ [])) (upd (upd H1 dx (.own x)) x (.ins C dx [])) (fun v H2 => v = .non ∧ Q (.ref x) H2) E0 := by
  have sx : Same H1 (upd (upd H1 dx (.own x)) x (.ins C dx [])) := (same_upd hdx).trans (same_upd (by rw [upd_ne hne.symm]; exact hx))
  have hxO : x ∉ O := w1.new hx
  refine ⟨O, x, dx, vs, xs, as, by rw [List.append_nil], w1.up sx, hxO, TpAll.up (cut_cons hx sx) _ _ t, upd_same, e3, fun H' st hH' => ⟨rfl, ?_⟩⟩
  obtain ⟨us, hu, hf⟩ := hH'
  refine q x H' (fun b o hb => st b o (ne_of_none hb hx) (sx _ _ hb)) hx ⟨dx, us, by rw [cut_out hxO]; exact hu, fun nm d hl => ?_⟩
  obtain ⟨v, h1, h2⟩ := hf nm d hl
  exact ⟨v, h1, Tp.up cut_drop _ _ h2⟩
/-- what lengths_for makes of a book -/
inductive Outc (cs : Cs) (ob : Ob) (b : Nat) : Addr → List (Str × PyData) → Prop
  | len {n T gr eq cnt had rows lots fuel r as} : g_at_odds cs ob [.o b] = some (.p .none) → LeastOk cs ob b n T gr eq cnt had rows lots fuel r → newLengths [.list (dL (rowL n lots r))] = some as → Outc cs ob b cs.L as
  | trd {i j : Int} {lo hi sh lg : PyData} {as} : g_at_odds cs ob [.o b] = some (.p (.tuple [.int i, .int j])) → g_beaten_lot cs ob [.o b, .p (.int i), .p (.int j)] = some (.p lo) → g_beaten_lot cs ob [.o b, .p (.int j), .p (.int i)] = some (.p hi) →
      f_sh ⟨[some (.o b), some (.p (.int i)), some (.p (.int j)), some (.p lo), some (.p hi), none], ob⟩ = some (.p sh) → f_lg ⟨[some (.o b), some (.p (.int i)), some (.p (.int j)), some (.p lo), some (.p hi), some (.p sh)], ob⟩ = some (.p lg) → newTrade [sh, lg] = some as → Outc cs ob b cs.T as
/-- nothing but a table stood there -/
def Frs (H : Hp) (a : Addr) : Prop := ∀ o, H a = some o → ∃ ps, o = .tbl ps
theorem Frs.of {H : Hp} {a : Addr} (h : H a = none) : Frs H a := fun o z => by rw [h] at z; cases z
theorem Frs.back {H H1 : Hp} {a : Addr} (h : Frs H1 a) (e : LamX.ExtN H H1) : Frs H a := fun o z => by
  apply Classical.byContradiction
  intro n
  have hn : ∀ ps, o ≠ .tbl ps := fun ps q => n ⟨ps, q⟩
  obtain ⟨ps, e2⟩ := h o (e _ _ z hn)
  exact hn ps e2
def spLf (cs : Cs) : Sp := fun vs H Q _ => ∃ O ob b C as, vs = [V.ref b] ∧ OwnN O H ∧ LamX.Tabs (tabT cs) H ∧ ObOk (cut O H) ob ∧ Outc cs ob b C as ∧
  ∀ a H', LamX.ExtN H H' → LamX.Tabs (tabT cs) H' → Frs H a → ObAt (cut O H') a C as → Q (.ref a) H'
section
variable {P : Program} {w : World} {K : PySem.W.Frag} {mg : Str → Option Value} {base : Heap} {cs : Cs}
theorem c_lengths_for (E : En P w K mg base cs) : CalE P w K mg base 10 "lengths_for" (spLf cs) := by
  obtain ⟨f, fd, F, m⟩ := E.df ("lengths_for", s_lengths_for) (List.mem_of_getElem? (i := 27) rfl)
  have nd := sc_lengths_for.nd
  obtain ⟨f2, fd2, F2, ⟨fL, cc, cd, S, M⟩, _⟩ := E.mP
  obtain ⟨fdL, GL, BL⟩ := c_Lengths_init E F2 S
  refine calR (k := 9) F m sc_lengths_for (fun _ _ _ _ _ _ us hl => match us, hl with | [_], _ => rfl) (fun vs H Q E h => ?_) fun cdv A outer s H vs Q E0' hr h => ⟨_,
    pss_cons (es_set (i := 1) nd rfl (by first | exact .inl rfl | exact .inr rfl) (ev_call (c_at_odds E) hr (by decide) rfl (ea_cons (ev_var 0) ea_nil)))
    (pss_one (ps_ret (pe_ifExp (et_is (ev_var 1) (ev_c pe_non (fun _ => .non)))
      (pe_make M GL (hr.mono (by decide)) rfl E.cL BL .nil pass0 (pa_cons (pe_cal (c_least_lengths E) hr (by decide) rfl (pa_cons (pv 0) pa_nil)) pa_nil))
      (pe_cal (c_trade_by E) hr (by decide) rfl (ea_cons (ev_var 0) (ea_cons (ev_at (ev_var 1) (ev_c pe_int (fun _ => .int _))) (ea_cons (ev_at (ev_var 1) (ev_c pe_int (fun _ => .int _))) ea_nil))))))), ?_⟩
  · obtain ⟨O, ob, b, C, as, rfl, _⟩ := h
    rfl
  obtain ⟨O, ob, b, C, as, rfl, w', tb, o, L, q⟩ := h
  have w0 := w'.own
  have hs0 : Hs (cut O H) [some (.ref b), none] ⟨[some (.o b), none], ob⟩ := start_hs (N := ["book", "bars"]) (vs := [.ref b]) (ds := [.o b]) (.cons rfl .nil) o
  cases L with
  | @len n T gr eq cnt had rows lots fuel r as h1 h2 h3 =>
    refine ⟨O, _, _, w0, hs0, sAsg_of (eCall_of (ds := [.o b]) rfl h1), fun H1 s1 σ1 hs1 => ?_⟩
    refine ⟨O, _, true, w0.up s1, hs1, eB_of rfl rfl rfl, fun H2 s2 => iteT ?_⟩
    obtain ⟨v0, hv0, r0⟩ := hs1.sl 0 (.o b) rfl
    have r0 : v0 = .ref b := r0
    subst r0
    have s12 := s1.trans s2
    refine ⟨_, hv0, O, ob, b, n, T, gr, eq, cnt, had, rows, lots, fuel, r, rfl, w'.ext (extN_of s12), tb.ext s12, o.up (cutS s12), h2, fun v H3 e3 tb3 t3 => ?_⟩
    have e03 : LamX.ExtN H H3 := (extN_of s12).trans e3
    exact make_at (w'.ext e03).own (.cons t3 .nil) h3 fun a H' s4 ha hob => q a H' (e03.trans (extN_of s4)) (tb3.ext s4) ((Frs.of ha).back e03) hob
  | @trd i j lo hi sh lg as h1 h2 h3 h4 h5 h6 =>
    refine ⟨O, _, _, w0, hs0, sAsg_of (eCall_of (ds := [.o b]) rfl h1), fun H1 s1 σ1 hs1 => ?_⟩
    refine ⟨O, _, false, w0.up s1, hs1, eB_of rfl rfl rfl, fun H2 s2 => iteF ?_⟩
    have s12 := s1.trans s2
    refine ⟨O, _, [.o b, .p (.int i), .p (.int j)], w0.up s12, hs1.up (cutS s2), eCons_of rfl (eCons_of (eB_of rfl rfl (gIx_t0 _ _)) (eCons_of (eB_of rfl rfl (gIx_t1 _ _ _)) rfl)), fun vs H3 s3 r3 => ?_⟩
    have s13 := s12.trans s3
    have ev : vs = [.ref b, .int i, .int j] := by
      cases r3 with
      | cons a1 t => cases t with
        | cons a2 t => cases t with
          | cons a3 t =>
            cases t
            cases a2
            cases a3
            have a1 : _ = V.ref b := a1
            rw [a1]
    refine ⟨O, ob, b, i, j, lo, hi, sh, lg, as, ev, w0.up s13, o.up (cutS s13), h2, h3, h4, h5, h6, fun a H' s4 ha hob => q a H' (extN_of (s13.trans s4)) (tb.ext (s13.trans s4)) (Frs.of (s13.free ha)) hob⟩
end
end RB
set_option Elab.async false
set_option linter.all false
set_option maxRecDepth 100000
set_option maxHeartbeats 4000000
/-! The hat: the drawn numbers. -/
namespace RB
open PySem PySem.Spec PyProof.Rows L2
/-- at a the hat: the script's numbers at l, the place, the great rest -/
structure HV (H : Hp) (a l : Addr) (ns : List Int) (at_ gr : Int) : Prop where
  hat : H a = some (.lst [.ref l, .int at_, .int gr])
  lst : H l = some (.lst (ns.map V.int))
theorem HV.ne {H : Hp} {a l : Addr} {ns : List Int} {at_ gr : Int} (h : HV H a l ns at_ gr) : l ≠ a := fun z => by
  have h1 := h.lst
  rw [z, h.hat] at h1
  have h2 := Option.some.inj h1
  match ns, h2 with
  | [], h2 => cases h2
  | n :: r, h2 => cases h2
theorem HV.up {H H' : Hp} {a l : Addr} {ns : List Int} {at_ gr : Int} (h : HV H a l ns at_ gr) (s : Same H H') : HV H' a l ns at_ gr := ⟨s _ _ h.hat, s _ _ h.lst⟩
theorem HV.set {H : Hp} {a l : Addr} {ns : List Int} {at_ gr : Int} (h : HV H a l ns at_ gr) (at' gr' : Int) : HV (upd H a (.lst [.ref l, .int at', .int gr'])) a l ns at' gr' := ⟨upd_same, by rw [upd_ne h.ne]; exact h.lst⟩
def hatD (ns : List Int) (at_ gr : Int) : PyData := .list [.list (ns.map .int), .int at_, .int gr]
theorem HV.tp {H : Hp} {a l : Addr} {ns : List Int} {at_ gr : Int} (h : HV H a l ns at_ gr) : Tp (cut [] H) (.ref a) (hatD ns at_ gr) := by
  rw [cut_nil]
  exact .lst h.hat (.cons (.lst h.lst (TpAll.of_ints ns)) (.cons (.int _) (.cons (.int _) .nil)))
/-- the hat at a (its list at l), of which at most n numbers are drawn -/
def HatAt (H : Hp) (a l : Addr) (n : Nat) : Prop := ∃ ns at_ gr, HV H a l ns at_ gr ∧ 0 ≤ at_ ∧ at_ ≤ (n : Int)
theorem HatAt.up {H H' : Hp} {a l : Addr} {n : Nat} (h : HatAt H a l n) (s : Same H H') : HatAt H' a l n := by
  obtain ⟨ns, at_, gr, v, h1, h2⟩ := h
  exact ⟨ns, at_, gr, v.up s, h1, h2⟩
theorem HatAt.ext {H H' : Hp} {a l : Addr} {n : Nat} (h : HatAt H a l n) (s : LamX.ExtN H H') : HatAt H' a l n := by
  obtain ⟨ns, at_, gr, v, h1, h2⟩ := h
  exact ⟨ns, at_, gr, ⟨s _ _ v.hat (fun _ z => nomatch z), s _ _ v.lst (fun _ z => nomatch z)⟩, h1, h2⟩
theorem HatAt.mono {H : Hp} {a l : Addr} {n m : Nat} (h : HatAt H a l n) (e : n ≤ m) : HatAt H a l m := by
  obtain ⟨ns, at_, gr, v, h1, h2⟩ := h
  exact ⟨ns, at_, gr, v, h1, by omega⟩
theorem HatAt.ne {H : Hp} {a l : Addr} {n : Nat} (h : HatAt H a l n) : H a ≠ none := by
  obtain ⟨ns, at_, gr, v, _⟩ := h
  rw [v.hat]; exact fun z => nomatch z
theorem HatAt.nel {H : Hp} {a l : Addr} {n : Nat} (h : HatAt H a l n) : H l ≠ none := by
  obtain ⟨ns, at_, gr, v, _⟩ := h
  rw [v.lst]; exact fun z => nomatch z
/-- one number drawn, below many -/
def spLot : Sp := fun vs H Q _ => ∃ a l n many, vs = [V.ref a, .int (many : Nat)] ∧ 1 ≤ many ∧ many ≤ 1000 ∧ n < 1000000 ∧ HatAt H a l n ∧ ∀ (d : Nat) H', d < many → StepA a H H' → HatAt H' a l (n + 1) → Q (.int (d : Nat)) H'
theorem fmod_lt {x : Int} {m : Nat} (h : 1 ≤ m) : ∃ d : Nat, x.fmod (m : Int) = (d : Int) ∧ d < m := by
  rw [Int.fmod_eq_emod_of_nonneg _ <| by omega]
  have h1 := Int.emod_nonneg x (b := (m : Int)) (by omega)
  have h2 := Int.emod_lt_of_pos x (b := (m : Int)) (by omega)
  exact ⟨(x % (m : Int)).toNat, by omega, by omega⟩
theorem gMod_nat {x : Int} {m d : Nat} (h : 1 ≤ m) (e : x.fmod (m : Int) = (d : Int)) : gMod (.int x) (.int (m : Nat)) = some (.int (d : Nat)) := by
  show (if decide ((m : Int) ≠ 0) = true then some (PyData.int (x.fmod (m : Int))) else none) = _
  rw [if_pos (decide_eq_true (by omega)), e]
theorem gMod_pos {x m : Int} (h : 0 < m) : gMod (.int x) (.int m) = some (.int (x % m)) := by
  show (if decide (m ≠ 0) = true then some (PyData.int (x.fmod m)) else none) = _
  rw [if_pos (decide_eq_true (by omega)), Int.fmod_eq_emod_of_nonneg _ (by omega)]
theorem gDiv_pos {x m : Int} (h : 0 < m) (h2 : m < 1073741824) : gDiv (.int x) (.int m) = some (.int (x.fdiv m)) := by
  show (if decide (CDivN x m) = true then some (PyData.int (x.fdiv m)) else none) = _
  rw [if_pos (decide_eq_true (by unfold CDivN; omega))]
theorem gMul_l {x y : Int} (h1 : -(2 ^ 64) < x) (h2 : x < 2 ^ 64) : gMul (.int x) (.int y) = some (.int (x * y)) := by
  show (if decide (CMul x y) = true then some (PyData.int (x * y)) else none) = _
  have c : CMul x y := .inl ⟨h1, h2⟩
  rw [if_pos (decide_eq_true c)]
theorem gMul_r {x y : Int} (h1 : -(2 ^ 64) < y) (h2 : y < 2 ^ 64) : gMul (.int x) (.int y) = some (.int (x * y)) := by
  show (if decide (CMul x y) = true then some (PyData.int (x * y)) else none) = _
  have c : CMul x y := .inr ⟨h1, h2⟩
  rw [if_pos (decide_eq_true c)]
theorem gPow_of {x : Int} {k : Nat} (hk : k ≤ 1000000) (h1 : 0 ≤ x) (h2 : x < 2 ^ 64) : gPow (.int x) (.int (k : Nat)) = some (.int (x ^ k)) := by
  show (if decide (CPow x (k : Nat)) = true then some (PyData.int (x ^ (k : Int).toNat)) else none) = _
  rw [if_pos (decide_eq_true (by unfold CPow; omega)), Int.toNat_natCast]
/-- a test's two arms come to the same -/
theorem fork {tA tB : TS} {D : Ends} {σ : L2.St} {H : Hp} {b : Bool} (Pv : L2.St → Hp → Prop) (h1 : b = true → ∀ D' : Ends, (∀ σ' H', Pv σ' H' → D'.nx σ' H') → tA D' σ H) (h2 : b = false → ∀ D' : Ends, (∀ σ' H', Pv σ' H' → D'.nx σ' H') → tB D' σ H)
    (h : ∀ σ' H', Pv σ' H' → D.nx σ' H') : if b = true then tA D σ H else tB D σ H := by
  cases b with
  | true => exact iteT (h1 rfl D h)
  | false => exact iteF (h2 rfl D h)
section
variable {P : Program} {w : World} {K : PySem.W.Frag} {mg : Str → Option Value} {base : Heap} {cs : Cs}
theorem c_L_lot (E : En P w K mg base cs) : CalE P w K mg base 1 "_law_lot" spLot := by
  obtain ⟨f, fd, F, m⟩ := E.df ("_law_lot", s_L_lot) (List.mem_of_getElem? (i := 32) rfl)
  have nd := sc_L_lot.nd
  refine calR (k := 0) F m sc_L_lot (fun _ _ _ _ _ _ us hl => match us, hl with | [_, _], _ => rfl) (fun vs H Q E h => ?_) fun cdv A outer s H vs Q E0 hr h => ⟨_,
    pss_cons (ps_if (et_gt (ev_at (ev_var 0) (ev_c pe_int (fun _ => .int _))) (ev_c pe_int (fun _ => .int _)))
      (pss_cons (ps_set (i := 2) nd rfl (.inl rfl) (ev_mod (ev_int rfl (E.fr "int" (by decide)) (ea_cons (ev_at (ev_var 0) (ev_c pe_int (fun _ => .int _))) ea_nil)) (ev_var 1)))
        (pss_cons (ps_asg (ev_div (ev_int rfl (E.fr "int" (by decide)) (ea_cons (ev_at (ev_var 0) (ev_c pe_int (fun _ => .int _))) ea_nil)) (ev_var 1)) (pg_sub (pv 0) pe_int set_list))
        (pss_one (ps_ret (pv 2))))) pss_nil)
    (pss_cons (ps_set (i := 3) nd rfl (.inl rfl) (ev_at (ev_var 0) (ev_c pe_int (fun _ => .int _))))
    (pss_cons (ps_asg (ev_add (ev_var 3) (ev_c pe_int (fun _ => .int _))) (pg_sub (pv 0) pe_int set_list))
    (pss_cons (ps_set (i := 4) nd rfl (.inl rfl) (ev_add (ev_mul (ev_c pe_int (fun _ => .int _)) (ev_var 3)) (ev_c pe_int (fun _ => .int _))))
    (pss_cons (ps_if (et_ne hr (ev_at (ev_var 0) (ev_c pe_int (fun _ => .int _))) (ev_lst ea_nil))
      (pss_one (ps_set (i := 4) nd rfl (.inl rfl) (ev_at (ev_at (ev_var 0) (ev_c pe_int (fun _ => .int _))) (ev_mod (ev_int rfl (E.fr "int" (by decide)) (ea_cons (ev_var 3) ea_nil)) (ev_len rfl (E.fr "len" (by decide)) (ea_cons (ev_at (ev_var 0) (ev_c pe_int (fun _ => .int _))) ea_nil)))))) pss_nil)
    (pss_cons (ps_if (ew_pt (ew_and (et_lt (ev_var 3) (ev_len rfl (E.fr "len" (by decide)) (ea_cons (ev_at (ev_var 0) (ev_c pe_int (fun _ => .int _))) ea_nil))) (ew_and1 (et_ge (ev_abs rfl (E.fr "abs" (by decide)) (ea_cons (ev_var 4) ea_nil)) (ev_pow (ev_c pe_int (fun _ => .int _)) (ev_c pe_int (fun _ => .int _)))))))
      (pss_cons (ps_set (i := 5) nd rfl (.inl rfl) (ev_sub (ev_abs rfl (E.fr "abs" (by decide)) (ea_cons (ev_var 4) ea_nil)) (ev_pow (ev_c pe_int (fun _ => .int _)) (ev_c pe_int (fun _ => .int _)))))
        (pss_cons (ps_asg (ev_div (ev_int rfl (E.fr "int" (by decide)) (ea_cons (ev_var 5) ea_nil)) (ev_var 1)) (pg_sub (pv 0) pe_int set_list))
        (pss_one (ps_ret (ev_mod (ev_int rfl (E.fr "int" (by decide)) (ea_cons (ev_var 5) ea_nil)) (ev_var 1)))))) pss_nil)
    (pss_cons (es_set (i := 6) nd rfl (.inl rfl) (ev_mod (ev_int rfl (E.fr "int" (by decide)) (ea_cons (ev_pow (ev_add (ev_add (ev_mod (ev_int rfl (E.fr "int" (by decide)) (ea_cons (ev_var 4) ea_nil)) (ev_c pe_int (fun _ => .int _))) (ev_mul (ev_c pe_int (fun _ => .int _)) (ev_var 3))) (ev_c pe_int (fun _ => .int _))) (ev_c pe_int (fun _ => .int _))) ea_nil)) (ev_c pe_int (fun _ => .int _))))
    (pss_cons (es_set (i := 6) nd rfl (.inl rfl) (ev_mod (ev_int rfl (E.fr "int" (by decide)) (ea_cons (ev_pow (ev_add (ev_add (ev_mul (ev_var 6) (ev_add (ev_mul (ev_c pe_int (fun _ => .int _)) (ev_var 3)) (ev_c pe_int (fun _ => .int _)))) (ev_mul (ev_mul (ev_c pe_int (fun _ => .int _)) (ev_var 3)) (ev_var 3))) (ev_c pe_int (fun _ => .int _))) (ev_c pe_int (fun _ => .int _))) ea_nil)) (ev_c pe_int (fun _ => .int _))))
    (pss_one (es_ret (ev_mod (ev_int rfl (E.fr "int" (by decide)) (ea_cons (ev_div (ev_var 6) (ev_c pe_int (fun _ => .int _))) ea_nil)) (ev_var 1))))))))))), ?_⟩
  · obtain ⟨a, l, n, many, rfl, _⟩ := h
    rfl
  obtain ⟨a, l, n, many, rfl, m1, m2, hn, ⟨ns, at_, gr, v, a0, an⟩, q⟩ := h
  have mk : ∀ {H1 : Hp} {x2 x3 x4 x5 x6 : Option V} {d2 d3 d4 d5 d6 : Option Int} {at' gr' : Int}, HV H1 a l ns at' gr' → (∀ z, d2 = some z → x2 = some (.int z)) → (∀ z, d3 = some z → x3 = some (.int z)) → (∀ z, d4 = some z → x4 = some (.int z)) → (∀ z, d5 = some z → x5 = some (.int z)) → (∀ z, d6 = some z → x6 = some (.int z)) →
      Hs (cut [] H1) [some (.ref a), some (.int (many : Nat)), x2, x3, x4, x5, x6] ⟨[some (.p (hatD ns at' gr')), some (.p (.int (many : Nat))), d2.map fun z => .p (.int z), d3.map fun z => .p (.int z), d4.map fun z => .p (.int z), d5.map fun z => .p (.int z), d6.map fun z => .p (.int z)], ob0⟩ := fun {H1 x2 x3 x4 x5 x6 d2 d3 d4 d5 d6 at' gr'} v h2 h3 h4 h5 h6 => by
    refine ⟨rfl, fun i d z => ?_, ob0_ok⟩
    have one : ∀ {d' : Option Int} {x : Option V}, (∀ z, d' = some z → x = some (.int z)) → (d'.map fun z => D.p (.int z)) = some d → ∃ v, x = some v ∧ Rep (cut [] H1) v d := fun {d' x} h e => by
      obtain ⟨y, h1, rfl⟩ := Option.map_eq_some_iff.mp e
      exact ⟨_, h y h1, .int y⟩
    match i, z with
    | 0, z => cases z; exact ⟨_, rfl, v.tp⟩
    | 1, z => cases z; exact ⟨_, rfl, .int _⟩
    | 2, z => obtain ⟨v, rfl, r⟩ := one h2 (Option.some.inj z); exact ⟨v, rfl, r⟩
    | 3, z => obtain ⟨v, rfl, r⟩ := one h3 (Option.some.inj z); exact ⟨v, rfl, r⟩
    | 4, z => obtain ⟨v, rfl, r⟩ := one h4 (Option.some.inj z); exact ⟨v, rfl, r⟩
    | 5, z => obtain ⟨v, rfl, r⟩ := one h5 (Option.some.inj z); exact ⟨v, rfl, r⟩
    | 6, z => obtain ⟨v, rfl, r⟩ := one h6 (Option.some.inj z); exact ⟨v, rfl, r⟩
    | i + 7, z => cases z
  have no : ∀ {x : Option V} (z : Int), (none : Option Int) = some z → x = some (.int z) := fun z e => by cases e
  have ye : ∀ {y : Int} (z : Int), (some y : Option Int) = some z → (some (V.int y) : Option V) = some (.int z) := fun z e => by cases e; rfl
  have ix0 : ∀ at' gr', gIx (hatD ns at' gr') (.int 0) = some (.list (ns.map .int)) := fun at' gr' => gIx_l [_, _, _] 0
  have ix1 : ∀ at' gr', gIx (hatD ns at' gr') (.int 1) = some (.int at') := fun at' gr' => gIx_l [_, _, _] 1
  have ix2 : ∀ at' gr', gIx (hatD ns at' gr') (.int 2) = some (.int gr') := fun at' gr' => gIx_l [_, _, _] 2
  refine ⟨[], _, decide (0 < gr), Own.nil, mk (d2 := none) (d3 := none) (d4 := none) (d5 := none) (d6 := none) v no no no no no, eB_of (eB_of rfl rfl (ix2 _ _)) rfl rfl, fun H1 s1 => ?_⟩
  by_cases hg : 0 < gr
  · rw [decide_eq_true hg]
    refine iteT ?_
    obtain ⟨d, hd, hdm⟩ := fmod_lt (x := gr) m1
    have v1 := v.up s1
    refine ⟨[], _, .p (.int (d : Nat)), Own.nil, mk (d2 := none) (d3 := none) (d4 := none) (d5 := none) (d6 := none) v1 no no no no no, eB_of (eData1 (eB_of rfl rfl (ix2 _ _)) rfl) rfl (gMod_nat m1 hd), fun v2 H2 s2 r2 => ?_⟩
    cases r2
    have v2 := v1.up s2
    refine ⟨[], _, .p (.int (gr.fdiv (many : Nat))), Own.nil, mk (d2 := some (d : Int)) (d3 := none) (d4 := none) (d5 := none) (d6 := none) v2 ye no no no no, eB_of (eData1 (eB_of rfl rfl (ix2 _ _)) rfl) rfl (gDiv_pos (by omega) (by omega)), fun v3 H3 s3 r3 => ?_⟩
    cases r3
    have v3 := v2.up s3
    refine ⟨_, rfl, a, _, 2, 2, rfl, rfl, v3.hat, rfl, _, rfl, ?_⟩
    exact q d _ hdm ((((StepA.of s1).trans (.of s2)).trans (.of s3)).trans .upd) ⟨ns, at_, gr.fdiv (many : Nat), v3.set at_ _, a0, by omega⟩
  · rw [decide_eq_false hg]
    refine iteF ?_
    have v1 := v.up s1
    refine ⟨[], _, .p (.int at_), Own.nil, mk (d2 := none) (d3 := none) (d4 := none) (d5 := none) (d6 := none) v1 no no no no no, eB_of rfl rfl (ix1 _ _), fun v2 H2 s2 r2 => ?_⟩
    cases r2
    have v2 := v1.up s2
    refine ⟨[], _, .p (.int (at_ + 1)), Own.nil, mk (d2 := none) (d3 := some at_) (d4 := none) (d5 := none) (d6 := none) v2 no ye no no no, eB_of rfl rfl rfl, fun v3 H3 s3 r3 => ?_⟩
    cases r3
    have v3 := v2.up s3
    refine ⟨_, rfl, a, _, 1, 1, rfl, rfl, v3.hat, rfl, ?_⟩
    have v4 := v3.set (at_ + 1) gr
    have st4 : StepA a H (upd H3 a (.lst [.ref l, .int (at_ + 1), .int gr])) := (((StepA.of s1).trans (.of s2)).trans (.of s3)).trans .upd
    have hat' : ∀ {H' : Hp} {gr' : Int}, HV H' a l ns (at_ + 1) gr' → HatAt H' a l (n + 1) := fun {H' gr'} v' => ⟨ns, at_ + 1, gr', v', by omega, by omega⟩
    refine ⟨[], _, .p (.int (82007 * at_ + 10037)), Own.nil, mk (d2 := none) (d3 := some at_) (d4 := none) (d5 := none) (d6 := none) v4 no ye no no no, eB_of (eB_of rfl rfl (gMul_l (by decide) (by decide))) rfl rfl, fun v5 H5 s5 r5 => ?_⟩
    cases r5
    have v5 := v4.up s5
    have shp : Shp 1 (.list (ns.map .int)) := .list (k := 0) fun x hx => by
      obtain ⟨y, _, rfl⟩ := List.mem_map.mp hx
      exact .int y
    refine ⟨[], _, !(ns.map PyData.int).isEmpty, Own.nil, mk (d2 := none) (d3 := some at_) (d4 := none) (d5 := none) (d6 := none) v5 no ye no no no, eB_of (eB_of rfl rfl (ix0 _ _)) rfl (gNe_of shp (.list (fun x hx => (by cases hx))) (eqv_nil _)), fun H6 s6 => ?_⟩
    have v6 := v5.up s6
    refine fork (fun σ' H' => ∃ c : Int, σ' = [some (.ref a), some (.int (many : Nat)), none, some (.int at_), some (.int c), none, none] ∧ HV H' a l ns (at_ + 1) gr ∧ StepA a H H') (fun hb D' hD' => ?_) (fun hb D' hD' => ?_) fun σ' H' hP => ?_
    · have hl : ns ≠ [] := fun z => by
        rw [z] at hb
        cases hb
      have hlen : 1 ≤ ns.length := by
        cases ns with
        | nil => exact absurd rfl hl
        | cons x r => exact Nat.succ_le_succ (Nat.zero_le _)
      obtain ⟨j, hj, hjl⟩ := fmod_lt (x := at_) hlen
      have hget : (ns.map PyData.int)[j]? = some (.int ns[j]) := by rw [List.getElem?_map, List.getElem?_eq_getElem hjl]; rfl
      refine ⟨[], _, .p (.int ns[j]), Own.nil, mk (d2 := none) (d3 := some at_) (d4 := none) (d5 := none) (d6 := none) v6 no ye no no no, eB_of (eB_of rfl rfl (ix0 _ _)) (eB_of (eData1 rfl rfl) (eData1 (eB_of rfl rfl (ix0 _ _)) (by
          show some (PyData.int ((ns.map PyData.int).length : Nat)) = _
          rw [List.length_map])) (gMod_nat hlen hj)) ((gIx_l _ j).trans hget), fun v7 H7 s7 r7 => ?_⟩
      cases r7
      exact hD' _ _ ⟨ns[j], rfl, v6.up s7, ((st4.trans (.of s5)).trans (.of s6)).trans (.of s7)⟩
    · exact hD' _ _ ⟨82007 * at_ + 10037, rfl, v6, (st4.trans (.of s5)).trans (.of s6)⟩
    obtain ⟨c, rfl, v7, st7⟩ := hP
    have cond : ∃ b, eAnd (eB gLt (eVar 3) (eData (eCons (eB gIx (eVar 0) (eC (.int 0))) eNil) gLen)) (eB gGe (eData (eCons (eVar 4) eNil) gAbs) (eB gPow (eC (.int 10)) (eC (.int 18)))) ⟨[some (.p (hatD ns (at_ + 1) gr)), some (.p (.int (many : Nat))), none, some (.p (.int at_)), some (.p (.int c)), none, none], ob0⟩ = some (.p (.bool b)) :=
      ⟨_, eAnd_of (eB_of rfl (eData1 (eB_of rfl rfl (ix0 _ _)) rfl) rfl) fun _ => eB_of (eData1 rfl rfl) (eB_of rfl rfl (gPow_of (k := 18) (by decide) (by decide) (by decide))) rfl⟩
    obtain ⟨b, hb⟩ := cond
    refine ⟨[], _, b, Own.nil, mk (d2 := none) (d3 := some at_) (d4 := some c) (d5 := none) (d6 := none) v7 no ye ye no no, hb, fun H8 s8 => ?_⟩
    have v8 := v7.up s8
    have st8 := st7.trans (.of s8)
    cases b with
    | true =>
      refine iteT ?_
      refine ⟨[], _, .p (.int ((if c < 0 then -c else c) - 10 ^ 18)), Own.nil, mk (d2 := none) (d3 := some at_) (d4 := some c) (d5 := none) (d6 := none) v8 no ye ye no no, eB_of (eData1 rfl rfl) (eB_of rfl rfl (gPow_of (k := 18) (by decide) (by decide) (by decide))) rfl, fun v9 H9 s9 r9 => ?_⟩
      cases r9
      have v9 := v8.up s9
      generalize ((if c < 0 then -c else c) - 10 ^ 18) = g
      refine ⟨[], _, .p (.int (g.fdiv (many : Nat))), Own.nil, mk (d2 := none) (d3 := some at_) (d4 := some c) (d5 := some g) (d6 := none) v9 no ye ye ye no, eB_of (eData1 rfl rfl) rfl (gDiv_pos (by omega) (by omega)), fun v10 H10 s10 r10 => ?_⟩
      cases r10
      have v10 := v9.up s10
      refine ⟨_, rfl, a, _, 2, 2, rfl, rfl, v10.hat, rfl, ?_⟩
      have v11 := v10.set (at_ + 1) (g.fdiv (many : Nat))
      obtain ⟨d, hd, hdm⟩ := fmod_lt (x := g) m1
      refine ⟨[], _, .p (.int (d : Nat)), Own.nil, mk (d2 := none) (d3 := some at_) (d4 := some c) (d5 := some g) (d6 := none) v11 no ye ye ye no, eB_of (eData1 rfl rfl) rfl (gMod_nat m1 hd), fun v12 H12 s12 r12 => ?_⟩
      cases r12
      exact q d _ hdm ((((st8.trans (.of s9)).trans (.of s10)).trans .upd).trans (.of s12)) (hat' (v11.up s12))
    | false =>
      refine iteF ?_
      have a1 : at_ < 1000000 := by omega
      have p1 := Int.emod_nonneg c (b := 2147483587) (by decide)
      have p2 := Int.emod_lt_of_pos c (b := 2147483587) (by decide)
      generalize hA : c % 2147483587 = A at p1 p2
      have hs8 := mk (x2 := none) (x5 := none) (x6 := none) (d2 := none) (d3 := some at_) (d4 := some c) (d5 := none) (d6 := none) v8 no ye ye no no
      have e1 : eB gMod (eData (eCons (eB gPow (eB gAdd (eB gAdd (eB gMod (eData (eCons (eVar 4) eNil) gInt) (eC (.int 2147483587))) (eB gMul (eC (.int 90007)) (eVar 3))) (eC (.int 10037))) (eC (.int 5))) eNil) gInt) (eC (.int 2147483647)) ⟨[some (.p (hatD ns (at_ + 1) gr)), some (.p (.int (many : Nat))), none, some (.p (.int at_)), some (.p (.int c)), none, none], ob0⟩ = some (.p (.int ((A + 90007 * at_ + 10037) ^ 5 % 2147483647))) :=
        eB_of (eData1 (eB_of (eB_of (eB_of (eB_of (eData1 rfl rfl) rfl ((gMod_pos (by decide)).trans (by rw [hA]))) (eB_of rfl rfl (gMul_l (by decide) (by decide))) rfl) rfl rfl) rfl (gPow_of (k := 5) (by decide) (by omega) (by omega))) rfl) rfl (gMod_pos (by decide))
      refine ⟨[], _, _, Own.nil, hs8, sAsg_of e1, fun H9 s9 σ9 hs9 => ?_⟩
      have q1 := Int.emod_nonneg ((A + 90007 * at_ + 10037) ^ 5) (b := 2147483647) (by decide)
      have q2 := Int.emod_lt_of_pos ((A + 90007 * at_ + 10037) ^ 5) (b := 2147483647) (by decide)
      generalize (A + 90007 * at_ + 10037) ^ 5 % 2147483647 = M at q1 q2 hs9
      have b1 : M * (2 * at_ + 3011) ≤ 2147483647 * 2003011 := Int.mul_le_mul (by omega) (by omega) (by omega) (by decide)
      have b0 : 0 ≤ M * (2 * at_ + 3011) := Int.mul_nonneg q1 (by omega)
      have b2 : 82007 * at_ * at_ ≤ 82007000000 * 1000000 := Int.mul_le_mul (by omega) (by omega) (by omega) (by decide)
      have b3 : 0 ≤ 82007 * at_ * at_ := Int.mul_nonneg (by omega) a0
      have e2 : eB gMod (eData (eCons (eB gPow (eB gAdd (eB gAdd (eB gMul (eVar 6) (eB gAdd (eB gMul (eC (.int 2)) (eVar 3)) (eC (.int 3011)))) (eB gMul (eB gMul (eC (.int 82007)) (eVar 3)) (eVar 3))) (eC (.int 90007))) (eC (.int 3))) eNil) gInt) (eC (.int 2147483549)) ⟨[some (.p (hatD ns (at_ + 1) gr)), some (.p (.int (many : Nat))), none, some (.p (.int at_)), some (.p (.int c)), none, some (.p (.int M))], ob0⟩ = some (.p (.int ((M * (2 * at_ + 3011) + 82007 * at_ * at_ + 90007) ^ 3 % 2147483549))) :=
        eB_of (eData1 (eB_of (eB_of (eB_of (eB_of rfl (eB_of (eB_of rfl rfl (gMul_l (by decide) (by decide))) rfl rfl) (gMul_l (by omega) (by omega))) (eB_of (eB_of rfl rfl (gMul_l (by decide) (by decide))) rfl (gMul_r (by omega) (by omega))) rfl) rfl rfl) rfl (gPow_of (k := 3) (by decide) (by omega) (by omega))) rfl) rfl (gMod_pos (by decide))
      refine ⟨[], _, _, Own.nil, hs9, sAsg_of e2, fun H10 s10 σ10 hs10 => ?_⟩
      generalize (M * (2 * at_ + 3011) + 82007 * at_ * at_ + 90007) ^ 3 % 2147483549 = N at hs10
      obtain ⟨d, hd, hdm⟩ := fmod_lt (x := N.fdiv 32) m1
      have e3 : eB gMod (eData (eCons (eB gDiv (eVar 6) (eC (.int 32))) eNil) gInt) (eVar 1) ⟨[some (.p (hatD ns (at_ + 1) gr)), some (.p (.int (many : Nat))), none, some (.p (.int at_)), some (.p (.int c)), none, some (.p (.int N))], ob0⟩ = some (.p (.int (d : Nat))) :=
        eB_of (eData1 (eB_of rfl rfl (gDiv_pos (by decide) (by decide))) rfl) rfl (gMod_nat m1 hd)
      refine ⟨[], _, _, Own.nil, hs10, sRet_of e3, fun H11 s11 v11 r11 => ?_⟩
      cases r11
      have sm := (s9.trans s10).trans s11
      exact q d _ hdm (st8.trans (.of sm)) (hat' (v8.up sm))
end
end RB
set_option Elab.async false
set_option linter.all false
set_option maxRecDepth 100000
set_option maxHeartbeats 2000000
/-! The plain law: lots in order, sorts. -/
namespace RB
open PySem PySem.Spec PyProof.Rows L2
open PySem.W (AllAlike Sortable dataLe)
/-! ### lots by length, then by their bars -/
def leLot (a b : List Nat) : Bool := decide (a.length < b.length ∨ (a.length = b.length ∧ a ≤ b))
theorem leLot_trans : ∀ x y z, leLot x y = true → leLot y z = true → leLot x z = true := fun x y z h1 h2 => by
  simp only [leLot, decide_eq_true_eq] at *
  rcases h1 with h1 | ⟨h1, h1'⟩ <;> rcases h2 with h2 | ⟨h2, h2'⟩
  · exact .inl (by omega)
  · exact .inl (by omega)
  · exact .inl (by omega)
  · exact .inr ⟨by omega, List.le_trans h1' h2'⟩
theorem leLot_total : ∀ x y, (leLot x y || leLot y x) = true := fun x y => by
  simp only [leLot, Bool.or_eq_true, decide_eq_true_eq]
  rcases Nat.lt_trichotomy x.length y.length with h | h | h
  · exact .inl (.inl h)
  · rcases List.le_total x y with k | k
    · exact .inl (.inr ⟨h, k⟩)
    · exact .inr (.inr ⟨h.symm, k⟩)
  · exact .inr (.inl h)
theorem leLot_anti : ∀ x y, leLot x y = true → leLot y x = true → x = y := fun x y h1 h2 => by
  simp only [leLot, decide_eq_true_eq] at *
  rcases h1 with h1 | ⟨h1, h1'⟩
  · omega
  · rcases h2 with h2 | ⟨h2, h2'⟩
    · omega
    · exact List.le_antisymm h1' h2'
theorem sortLot_of {a l : List (List Nat)} (hp : a.Perm l) (ha : a.Pairwise fun x y => leLot x y = true) : a = l.mergeSort leLot := PySem.W.Srt.the_of_perm leLot leLot_trans leLot_total leLot_anti hp ha
/-- (len(lot), lot) -/
def encP (l : List Nat) : PyData := .tuple [.int (l.length : Nat), encL l]
theorem lt_nats (a b : List Nat) : PySem.W.dataLt (encL a) (encL b) = decide (a < b) := by
  unfold encL
  have e : ∀ l : List Nat, (l.map fun b => PyData.int (b : Nat)) = (l.map fun b => ((b : Nat) : Int)).map PyData.int := fun l => by rw [List.map_map]; rfl
  rw [PySem.W.dataLt_tuple, e a, e b]
  have h := PySem.W.dataLt_ints (a.map fun b => ((b : Nat) : Int)) (b.map fun b => ((b : Nat) : Int))
  unfold PySem.W.rowLt at h
  rw [h]
  refine decide_eq_decide.mpr ?_
  clear h
  induction a generalizing b with
  | nil => cases b <;> simp
  | cons x a ih => cases b with
    | nil => simp
    | cons y b =>
      rw [List.map_cons, List.map_cons, List.cons_lt_cons_iff, List.cons_lt_cons_iff, ih b]
      simp only [Int.ofNat_lt, Int.ofNat_inj]
theorem alike_L (a b : List Nat) : PySem.W.alike (encL a) (encL b) = true := by
  unfold encL
  have e : ∀ l : List Nat, (l.map fun b => PyData.int (b : Nat)) = (l.map fun b => ((b : Nat) : Int)).map PyData.int := fun l => by rw [List.map_map]; rfl
  rw [e a, e b]
  simp only [PySem.W.alike]
  exact PySem.W.alike_ints _ _
theorem alike_P (a b : List Nat) : PySem.W.alike (encP a) (encP b) = true := by
  unfold encP
  simp only [PySem.W.alike, PySem.W.alikeAll, alike_L, Bool.and_self]
theorem le_P (a b : List Nat) : leLot a b = dataLe false id (encP a) (encP b) := by
  show leLot a b = !PySem.W.dataLt (encP b) (encP a)
  unfold encP
  rw [PySem.W.dataLt_pair (by simp only [PySem.W.alike]) (alike_L _ _), lt_nats, PySem.W.dataLt_int, eqv_int, eqv_encL]
  unfold leLot
  by_cases h1 : b.length = a.length
  · have h1' : ((b.length : Nat) : Int) = ((a.length : Nat) : Int) := by omega
    rw [if_pos (decide_eq_true h1')]
    by_cases h2 : b = a
    · rw [if_pos (decide_eq_true h2)]
      subst h2
      simp [List.le_refl]
    · rw [if_neg (by simpa using h2)]
      by_cases h3 : b < a
      · have : ¬ a ≤ b := fun r => List.not_lt.mpr r h3
        simp [h3, h1, this]
      · have : a ≤ b := List.not_lt.mp h3
        simp [h3, h1, this]
  · have h1' : ¬ ((b.length : Nat) : Int) = ((a.length : Nat) : Int) := by omega
    rw [if_neg (by simpa using h1')]
    by_cases h3 : a.length < b.length
    · have : ¬ ((b.length : Nat) : Int) < ((a.length : Nat) : Int) := by omega
      simp [h3, this]
    · have : ((b.length : Nat) : Int) < ((a.length : Nat) : Int) := by omega
      simp [h3, this]
      omega
theorem depth_nats (l : List Nat) : PyData.depthAll (l.map fun b => PyData.int (b : Nat)) = 0 := by
  induction l with
  | nil => rfl
  | cons x l ih => simp only [List.map_cons, PyData.depthAll, PyData.depth, ih, Nat.max_self]
theorem depth_L (l : List Nat) : (encL l).depth = 1 := by
  unfold encL
  simp only [PyData.depth, depth_nats]
theorem depth_P (l : List Nat) : (encP l).depth = 2 := by
  unfold encP
  simp only [PyData.depth, PyData.depthAll, depth_L]
  rfl
/-- sorted([(len(lot), lot) ..]) -/
theorem gSorted_P {a l : List (List Nat)} (hp : a.Perm l) (ha : a.Pairwise fun x y => leLot x y = true) : gSorted [.list (l.map encP)] = some (.list (a.map encP)) := by
  have so : SortOk (l.map encP) := ⟨AllAlike.of alike_P, Sortable.tuples fun b => ⟨_, _, rfl⟩, fun d hd => by
    obtain ⟨x, _, rfl⟩ := List.mem_map.mp hd
    rw [depth_P]; decide⟩
  unfold gSorted
  dsimp only
  rw [if_pos so]
  refine congrArg some (congrArg PyData.list ?_)
  rw [← PySem.W.sort_maps (r := leLot) encP fun a _ b _ => le_P a b, ← sortLot_of hp ha]
/-- sorted(lots, key=lot_key) -/
theorem kOf_lot (l : List Nat) : g_lot_key ob0 [.p (encL l)] = some (.p (encP l)) := by
  refine runE_ret rfl (sRet1 (eData_of (xs := [.int (l.length : Nat), encL l]) (eCons_of (eData1 rfl (by
    show some (PyData.int ((l.map fun b => PyData.int (b : Nat)).length : Nat)) = _
    rw [List.length_map])) (eCons_of rfl rfl)) rfl))
theorem noLst_L (l : List Nat) : noLst (encL l) = true := by
  unfold encL
  have : ∀ l : List Nat, noLstAll (l.map fun b => PyData.int (b : Nat)) = true := fun l => by
    induction l with
    | nil => rfl
    | cons x l ih => simp only [List.map_cons, noLstAll, noLst, ih, Bool.and_self]
  simp only [noLst, this]
theorem noLst_P (l : List Nat) : noLst (encP l) = true := by
  unfold encP
  simp only [noLst, noLstAll, noLst_L, Bool.and_self]
theorem kOf_L (l : List Nat) : kOf g_lot_key (encL l) = encP l := by
  unfold kOf
  rw [show g_lot_key (fun _ => none) [.p (encL l)] = some (.p (encP l)) from kOf_lot l]
  dsimp only
  rw [if_pos (noLst_P l)]
theorem gSortK_L {a l : List (List Nat)} (hp : a.Perm l) (ha : a.Pairwise fun x y => leLot x y = true) : gSortK g_lot_key (.list (l.map encL)) = some (.list (a.map encL)) := by
  have so : SortKOk g_lot_key (l.map encL) := by
    refine ⟨fun d hd => ?_, ?_, ?_, fun d hd => ?_⟩
    · obtain ⟨x, _, rfl⟩ := List.mem_map.mp hd
      rw [kOf_L]
      exact kOf_lot x
    · rw [List.map_map]
      exact AllAlike.of fun b b' => by rw [Function.comp, Function.comp, kOf_L, kOf_L]; exact alike_P b b'
    · rw [List.map_map]
      exact Sortable.tuples fun b => ⟨_, _, by rw [Function.comp, kOf_L]; rfl⟩
    · obtain ⟨x, _, rfl⟩ := List.mem_map.mp hd
      rw [kOf_L, depth_P]; decide
  unfold gSortK
  dsimp only
  rw [if_pos so]
  refine congrArg some (congrArg PyData.list ?_)
  rw [← PySem.W.sort_maps (r := leLot) encL fun a _ b _ => by
    show leLot a b = dataLe false id (kOf g_lot_key (encL a)) (kOf g_lot_key (encL b))
    rw [kOf_L, kOf_L]
    exact le_P a b, ← sortLot_of hp ha]
/-- sorted(lots) -/
theorem gSorted_L {a l : List (List Nat)} (hp : a.Perm l) (hn : ∀ x ∈ l, x ≠ []) (ha : a.Pairwise fun x y => x ≤ y) : gSorted [.list (l.map encL)] = some (.list (a.map encL)) := by
  have so : SortOk (l.map encL) := ⟨AllAlike.of alike_L, .inl fun d hd => by
    obtain ⟨x, hx, rfl⟩ := List.mem_map.mp hd
    cases x with
    | nil => exact absurd rfl (hn _ hx)
    | cons y r => exact ⟨_, _, rfl⟩, fun d hd => by
    obtain ⟨x, _, rfl⟩ := List.mem_map.mp hd
    rw [depth_L]; decide⟩
  unfold gSorted
  dsimp only
  rw [if_pos so]
  refine congrArg some (congrArg PyData.list ?_)
  rw [← PySem.W.sort_maps (r := fun a b : List Nat => decide (a ≤ b)) encL fun a _ b _ => by
    show decide (a ≤ b) = !PySem.W.dataLt (encL b) (encL a)
    rw [lt_nats]
    by_cases h3 : b < a
    · have : ¬ a ≤ b := fun r => List.not_lt.mpr r h3
      simp [h3, this]
    · have : a ≤ b := List.not_lt.mp h3
      simp [h3, this]]
  congr 1
  exact (PySem.W.Srt.the_of_perm (fun a b : List Nat => decide (a ≤ b)) (fun x y z h1 h2 => by
    rw [decide_eq_true_eq] at *
    exact List.le_trans h1 h2) (fun x y => by
    rw [Bool.or_eq_true]
    rw [decide_eq_true_eq, decide_eq_true_eq]
    exact List.le_total x y) (fun x y h1 h2 => by
    rw [decide_eq_true_eq] at *
    exact List.le_antisymm h1 h2) hp (ha.imp fun h => decide_eq_true h)).symm
/-- sorted(numbers) -/
theorem gSorted_N {a l : List Nat} (hp : a.Perm l) (ha : a.Pairwise fun x y => x ≤ y) {d : PyData} (hd : d = .list (l.map fun b => .int (b : Nat)) ∨ d = .tuple (l.map fun b => .int (b : Nat))) : gSorted [d] = some (.list (a.map fun b => .int (b : Nat))) := by
  have so : SortOk (l.map fun b => .int (b : Nat)) := ⟨AllAlike.of fun b b' => by simp only [PySem.W.alike], Sortable.others fun b => ⟨fun z => (by cases z), fun xs z => (by cases z)⟩, fun d hd => by
    obtain ⟨x, _, rfl⟩ := List.mem_map.mp hd
    simp only [PyData.depth]; omega⟩
  have e : ((l.map fun b => PyData.int (b : Nat)).mergeSort (dataLe false id)) = a.map fun b => .int (b : Nat) := by
    rw [← PySem.W.sort_maps (r := fun a b : Nat => decide (a ≤ b)) (fun b : Nat => PyData.int (b : Nat)) fun a _ b _ => by
      show decide (a ≤ b) = !PySem.W.dataLt (.int (b : Nat)) (.int (a : Nat))
      rw [PySem.W.dataLt_int, PySem.W.not_lt_int]
      exact decide_eq_decide.mpr (by omega)]
    congr 1
    exact (PySem.W.Srt.the_of_perm (fun a b : Nat => decide (a ≤ b)) (fun x y z h1 h2 => by
      rw [decide_eq_true_eq] at *
      omega) (fun x y => by
      rw [Bool.or_eq_true]
      rw [decide_eq_true_eq, decide_eq_true_eq]
      omega) (fun x y h1 h2 => by
      rw [decide_eq_true_eq] at *
      omega) hp (ha.imp fun h => decide_eq_true h)).symm
  rcases hd with rfl | rfl
  · unfold gSorted
    dsimp only
    rw [if_pos so, e]
  · unfold gSorted
    dsimp only
    rw [if_pos so, e]
/-! ### all lots in order -/
/-- the masks of the lots of n bars, by length and then by bars -/
def ordM : Nat → List Nat
  | 3 => [0, 1, 2, 4, 3, 5, 6, 7]
  | 4 => [0, 1, 2, 4, 8, 3, 5, 9, 6, 10, 12, 7, 11, 13, 14, 15]
  | 5 => [0, 1, 2, 4, 8, 16, 3, 5, 9, 17, 6, 10, 18, 12, 20, 24, 7, 11, 19, 13, 21, 25, 14, 22, 26, 28, 15, 23, 27, 29, 30, 31]
  | 6 => [0, 1, 2, 4, 8, 16, 32, 3, 5, 9, 17, 33, 6, 10, 18, 34, 12, 20, 36, 24, 40, 48, 7, 11, 19, 35, 13, 21, 37, 25, 41, 49, 14, 22, 38, 26, 42, 50, 28, 44, 52, 56, 15, 23, 39, 27, 43, 51, 29, 45, 53, 57, 30, 46, 54, 58, 60, 31, 47, 55, 59, 61, 62, 63]
  | _ => []
theorem ordM_perm : ∀ n, 3 ≤ n → n ≤ 6 → (ordM n).Perm (List.range (2 ^ n)) := by
  intro n h1 h2
  have c : n = 3 ∨ n = 4 ∨ n = 5 ∨ n = 6 := by omega
  rcases c with rfl | rfl | rfl | rfl <;> decide +kernel
theorem ordM_sorted : ∀ n, 3 ≤ n → n ≤ 6 → ((ordM n).map lotOf).Pairwise fun x y => leLot x y = true := by
  intro n h1 h2
  have c : n = 3 ∨ n = 4 ∨ n = 5 ∨ n = 6 := by omega
  rcases c with rfl | rfl | rfl | rfl <;> decide +kernel
theorem mem_ordM {n m : Nat} (h1 : 3 ≤ n) (h2 : n ≤ 6) : m ∈ ordM n ↔ m < 2 ^ n := by
  rw [(ordM_perm n h1 h2).mem_iff, List.mem_range]
theorem ordM_nodup {n : Nat} (h1 : 3 ≤ n) (h2 : n ≤ 6) : (ordM n).Nodup := (ordM_perm n h1 h2).nodup_iff.mpr List.nodup_range
/-- lots by masks -/
def encM (ms : List Nat) : PyData := .list (ms.map fun m => encL (lotOf m))
end RB
set_option Elab.async false
set_option linter.all false
set_option maxRecDepth 100000
set_option maxHeartbeats 2000000
/-! The plain law: values of the law's own defs. -/
namespace RB
open PySem PySem.Spec PyProof.Rows L2
open PySem.W (AllAlike Sortable dataLe)
/-! ### small things -/
theorem thousand : (1000 : Nat) < sizeLine := by decide
theorem gAdd_l {xs ys : List PyData} (h : xs.length + ys.length ≤ 1000) : gAdd (.list xs) (.list ys) = some (.list (xs ++ ys)) := by
  show (if xs.length + ys.length ≤ sizeLine then some (PyData.list (xs ++ ys)) else none) = _
  rw [if_pos (by have := thousand; omega)]
theorem gAdd_t {xs ys : List PyData} (h : xs.length + ys.length ≤ 1000) : gAdd (.tuple xs) (.tuple ys) = some (.tuple (xs ++ ys)) := by
  show (if xs.length + ys.length ≤ sizeLine then some (PyData.tuple (xs ++ ys)) else none) = _
  rw [if_pos (by have := thousand; omega)]
theorem gAdd_L {a b : List Nat} (h : a.length + b.length ≤ 1000) : gAdd (encL a) (encL b) = some (encL (a ++ b)) := by
  unfold encL
  rw [gAdd_t (by rw [List.length_map, List.length_map]; exact h), List.map_append]
theorem kTup_of {xs : List PyData} (h : xs.length ≤ 1000) : kTup xs = some (.tuple xs) := if_pos (by have := thousand; omega)
theorem kLst_of {xs : List PyData} (h : xs.length ≤ 1000) : kLst xs = some (.list xs) := if_pos (by have := thousand; omega)
theorem gLen_L (l : List Nat) : gLen [encL l] = some (.int (l.length : Nat)) := by
  show some (PyData.int ((l.map fun b => PyData.int (b : Nat)).length : Nat)) = _
  rw [List.length_map]
theorem gLen_l {α : Type} (l : List α) (e : α → PyData) : gLen [.list (l.map e)] = some (.int (l.length : Nat)) := by
  show some (PyData.int ((l.map e).length : Nat)) = _
  rw [List.length_map]
theorem gLen_t {α : Type} (l : List α) (e : α → PyData) : gLen [.tuple (l.map e)] = some (.int (l.length : Nat)) := by
  show some (PyData.int ((l.map e).length : Nat)) = _
  rw [List.length_map]
theorem allInts_nats (l : List Nat) : allInts (l.map fun b => PyData.int (b : Nat)) = some (l.map fun b => ((b : Nat) : Int)) := by
  have e : (l.map fun b => PyData.int (b : Nat)) = (l.map fun b => ((b : Nat) : Int)).map PyData.int := by rw [List.map_map]; rfl
  rw [e, allInts_map]
theorem sum_nats : ∀ l : List Nat, (l.map fun b => ((b : Nat) : Int)).sum = ((l.sum : Nat) : Int)
  | [] => rfl
  | x :: l => by
    rw [List.map_cons, List.sum_cons, sum_nats l, List.sum_cons]
    omega
theorem gSum_l (l : List Nat) : gSum [.list (l.map fun b => .int (b : Nat))] = some (.int (l.sum : Nat)) := by
  show (allInts (l.map fun b => PyData.int (b : Nat))).map (fun ns => PyData.int ns.sum) = _
  rw [allInts_nats, Option.map_some, sum_nats]
theorem gSum_t (l : List Nat) : gSum [.tuple (l.map fun b => .int (b : Nat))] = some (.int (l.sum : Nat)) := by
  show (allInts (l.map fun b => PyData.int (b : Nat))).map (fun ns => PyData.int ns.sum) = _
  rw [allInts_nats, Option.map_some, sum_nats]
/-- b in lot -/
theorem gIn_L (neg : Bool) (b : Nat) (l : List Nat) : gIn neg (.int (b : Nat)) (encL l) = some (.bool (neg ^^ decide (b ∈ l))) := by
  unfold encL
  show (allInts (l.map fun b => PyData.int (b : Nat))).map (fun ns => PyData.bool (neg ^^ ns.any fun n => decide (n = (b : Int)))) = _
  rw [allInts_nats, Option.map_some]
  congr 3
  rw [List.any_map]
  rw [Bool.eq_iff_iff]
  rw [List.any_eq_true, decide_eq_true_eq]
  constructor
  · rintro ⟨x, hx, h⟩
    have h' : ((x : Nat) : Int) = (b : Int) := of_decide_eq_true h
    have : x = b := Int.ofNat_inj.mp h'
    rw [← this]; exact hx
  · intro h
    exact ⟨b, h, decide_eq_true rfl⟩
/-- lot in lots -/
theorem gIn_Ls (neg : Bool) (l : List Nat) (ls : List (List Nat)) : gIn neg (encL l) (.list (ls.map encL)) = some (.bool (neg ^^ decide (l ∈ ls))) := by
  have s1 : SeqAt.shaped (encL l) = true := (Shp.encL l).sh (by decide)
  have s2 : SeqAt.shaped (.list (ls.map encL)) = true := (Shp.list (Shp.map Shp.encL ls)).sh (by decide)
  show (if (SeqAt.shaped (encL l) && SeqAt.shaped (.list (ls.map encL))) = true then some (PyData.bool (neg ^^ (ls.map encL).any fun z => PyData.eqv z (encL l))) else none) = _
  rw [s1, s2, Bool.and_self, if_pos rfl]
  congr 3
  rw [List.any_map, Bool.eq_iff_iff]
  rw [List.any_eq_true, decide_eq_true_eq]
  constructor
  · rintro ⟨x, hx, h⟩
    have h' : PyData.eqv (encL x) (encL l) = true := h
    rw [eqv_encL, decide_eq_true_eq] at h'
    rw [← h']; exact hx
  · intro h
    refine ⟨l, h, ?_⟩
    show PyData.eqv (encL l) (encL l) = true
    rw [eqv_encL]; exact decide_eq_true rfl
theorem forGo_snoc {step : PyData → List (Option D) → Option Res} (x : PyData) : ∀ (l : List PyData) (sl sl' : List (Option D)), forGo step l sl = some (.nx sl') → forGo step (l ++ [x]) sl = step x sl'
  | [], sl, sl', h => by
    obtain rfl : sl = sl' := Res.nx.inj (Option.some.inj h)
    show (match step x sl with
      | some (.nx sl') => forGo step [] sl'
      | some (.ret d) => some (.ret d)
      | none => none) = _
    cases step x sl with
    | none => rfl
    | some r => cases r <;> rfl
  | y :: l, sl, sl', h => by
    rw [List.cons_append]
    unfold forGo at h ⊢
    cases hs : step y sl with
    | none => simp [hs] at h
    | some r =>
      rw [hs] at h
      cases r with
      | ret d => cases h
      | nx s2 => exact forGo_snoc x l s2 sl' h
theorem range_add (k : Nat) : List.range (2 ^ (k + 1)) = List.range (2 ^ k) ++ (List.range (2 ^ k)).map (· + 2 ^ k) := by
  rw [Nat.pow_succ, Nat.mul_two, List.range_add]
  congr 1
  exact List.map_congr_left fun x _ => Nat.add_comm _ _
theorem lot_add : ∀ k, k < 6 → ∀ m, m < 2 ^ k → lotOf (m + 2 ^ k) = lotOf m ++ [k] := by decide +kernel
theorem lot_short : ∀ m, (lotOf m).length ≤ 6 := fun m => by
  unfold lotOf
  exact Nat.le_trans (List.length_filter_le _ _) (by rw [List.length_range]; exact Nat.le_refl _)
/-! ### all lots -/
theorem pow_le6 {k : Nat} (h : k ≤ 6) : 2 ^ k ≤ 64 := Nat.pow_le_pow_right (by decide) h
def slL (n k : Nat) (x : Option D) : List (Option D) := [some (.p (.int (n : Nat))), some (.p (encM (List.range (2 ^ k)))), x, none, none]
theorem v_L_lots (ob : Ob) {n : Nat} (h1 : 3 ≤ n) (h2 : n ≤ 6) : g_L_lots ob [.p (.int (n : Nat))] = some (.p (encM (ordM n))) := by
  have loop : ∀ k, k ≤ 6 → ∃ x, forGo (fun x sl => match u1 2 x sl with
      | none => none
      | some sl' => sSeq (sAsg (eB gAdd (eVar 1) (eComp (eSeq (eVar 1)) (u1 3) (eC (.bool true)) (eB gAdd (eVar 3) (eData (eCons (eVar 2) eNil) kTup)) [3])) 1) sNil ⟨sl', ob⟩) ((List.range k).map fun k => .int (k : Nat)) (slL n 0 none) = some (.nx (slL n k x)) := by
    intro k
    induction k with
    | zero => exact fun _ => ⟨none, rfl⟩
    | succ k ih =>
      intro hk
      obtain ⟨x, hx⟩ := ih (by omega)
      have p6 := pow_le6 (k := k) (by omega)
      refine ⟨some (.p (.int (k : Nat))), ?_⟩
      rw [List.range_succ, List.map_append, List.map_cons, List.map_nil, forGo_snoc _ _ _ _ hx]
      have e1 : eB gAdd (eVar 1) (eComp (eSeq (eVar 1)) (u1 3) (eC (.bool true)) (eB gAdd (eVar 3) (eData (eCons (eVar 2) eNil) kTup)) [3]) ⟨slL n k (some (.p (.int (k : Nat)))), ob⟩ = some (.p (encM (List.range (2 ^ (k + 1))))) := by
        have e2 : eComp (eSeq (eVar 1)) (u1 3) (eC (.bool true)) (eB gAdd (eVar 3) (eData (eCons (eVar 2) eNil) kTup)) [3] ⟨slL n k (some (.p (.int (k : Nat)))), ob⟩ = some (.p (.list ((List.range (2 ^ k)).map fun m => encL (lotOf (m + 2 ^ k))))) :=
          eComp_of (eSeq_l rfl) (by rw [List.length_map, List.length_range]; have := thousand; omega) (compGo_all _ fun m hm => by
            have hm' := List.mem_range.mp hm
            refine stepOf_all rfl (eB_of rfl (eData_of (xs := [.int (k : Nat)]) (y := encL [k]) (eCons_of rfl rfl) rfl) ?_)
            rw [gAdd_L (by have := lot_short m; simp; omega), lot_add k (by omega) m hm'])
        refine eB_of rfl e2 ?_
        unfold encM
        rw [gAdd_l (by rw [List.length_map, List.length_map, List.length_range]; omega), range_add, List.map_append, List.map_map]
        rfl
      show sSeq _ sNil ⟨slL n k (some (.p (.int (k : Nat)))), ob⟩ = _
      exact sSeq_nx (sAsg_of e1) rfl
  obtain ⟨x, hx⟩ := loop n h2
  have r0 : eRange (eCons (eVar 0) eNil) ⟨slL n 0 none, ob⟩ = some ((List.range n).map fun k => .int (k : Nat)) := by
    rw [eRange_of (j := (n : Int)) (eCons_of rfl rfl) (by omega) (by omega), Int.toNat_natCast, numsD_nat]
  have p6 := pow_le6 h2
  have h3 : sAsg (eData (eCons (eData eNil kTup) eNil) kLst) 1 ⟨[some (.p (.int (n : Nat))), none, none, none, none], ob⟩ = some (.nx (slL n 0 none)) := by
    rw [sAsg_of (d := .p (encM (List.range 1))) (eData1 (x := encL []) (eData_of (xs := []) rfl (kTup_of (by decide))) (kLst_of (by decide)))]
    rfl
  have h4 : sFor (eRange (eCons (eVar 0) eNil)) (u1 2) (sSeq (sAsg (eB gAdd (eVar 1) (eComp (eSeq (eVar 1)) (u1 3) (eC (.bool true)) (eB gAdd (eVar 3) (eData (eCons (eVar 2) eNil) kTup)) [3])) 1) sNil) ⟨slL n 0 none, ob⟩ = some (.nx (slL n n x)) := by
    rw [sFor_of r0]
    exact hx
  refine runE_ret rfl ?_
  refine sSeq_nx h3 (sSeq_nx h4 (sRet1 ?_))
  have e3 : eComp (eSeq (eVar 1)) (u1 3) (eC (.bool true)) (eData (eCons (eData (eCons (eVar 3) eNil) gLen) (eCons (eVar 3) eNil)) kTup) [3] ⟨slL n n x, ob⟩ = some (.p (.list (((List.range (2 ^ n)).map lotOf).map encP))) := by
    rw [List.map_map]
    exact eComp_of (eSeq_l rfl) (by rw [List.length_map, List.length_range]; have := thousand; omega) (compGo_all _ fun m _ => stepOf_all rfl (eData_of (xs := [.int ((lotOf m).length : Nat), encL (lotOf m)]) (eCons_of (eData1 rfl (gLen_L _)) (eCons_of rfl rfl)) rfl))
  have e4 := gSorted_P (a := (ordM n).map lotOf) (l := (List.range (2 ^ n)).map lotOf) ((ordM_perm n h1 h2).map _) (ordM_sorted n h1 h2)
  have len : (ordM n).length = 2 ^ n := by rw [(ordM_perm n h1 h2).length_eq, List.length_range]
  refine (eComp_of (eSeq_l (eData1 e3 e4)) (by rw [List.length_map, List.length_map, len]; have := thousand; omega) (compGo_all _ fun l _ => stepOf_all rfl (eB_of rfl rfl (gIx_t1 _ _ _)))).trans ?_
  unfold encM
  rw [List.map_map]
  rfl
end RB
set_option Elab.async false
set_option linter.all false
set_option maxRecDepth 100000
set_option maxHeartbeats 2000000
/-! The plain law: others, lies, of_lengths, stepped, greatest. -/
namespace RB
open PySem PySem.Spec PyProof.Rows L2
open PySem.W (AllAlike Sortable dataLe)
theorem gIn_L1 (b : Nat) (l : List Nat) : gIn true (.int (b : Nat)) (encL l) = some (.bool (!decide (b ∈ l))) := by
  rw [gIn_L, Bool.true_xor]
theorem gIn_L0 (b : Nat) (l : List Nat) : gIn false (.int (b : Nat)) (encL l) = some (.bool (decide (b ∈ l))) := by
  rw [gIn_L, Bool.false_xor]
theorem gIn_Ls1 (l : List Nat) (ls : List (List Nat)) : gIn true (encL l) (.list (ls.map encL)) = some (.bool (!decide (l ∈ ls))) := by
  rw [gIn_Ls, Bool.true_xor]
theorem gIn_Ls0 (l : List Nat) (ls : List (List Nat)) : gIn false (encL l) (.list (ls.map encL)) = some (.bool (decide (l ∈ ls))) := by
  rw [gIn_Ls, Bool.false_xor]
theorem gMul_2 (x : Nat) : gMul (.int 2) (.int (x : Nat)) = some (.int ((2 * x : Nat) : Int)) := by
  have c : CMul 2 (x : Int) := .inl ⟨by decide, by decide⟩
  show (if decide (CMul 2 (x : Int)) = true then some (PyData.int (2 * (x : Int))) else none) = _
  rw [if_pos (decide_eq_true c)]
  rfl
theorem rng_of {fs : Evs} {Γ : Gm} {n : Nat} (h : fs Γ = some [.p (.int (n : Nat))]) (hn : n ≤ 1000) : eRange fs Γ = some ((List.range n).map fun k => .int (k : Nat)) := by
  rw [eRange_of (j := (n : Int)) h (by omega) (by omega), Int.toNat_natCast, numsD_nat]
theorem kLst_nil : eData eNil kLst = fun Γ => some (.p (.list [])) := by
  funext Γ
  exact eData_of (xs := []) rfl (kLst_of (by decide))
theorem v_L_others (ob : Ob) (l : List Nat) {n : Nat} (hn : n ≤ 6) : g_L_others ob [.p (encL l), .p (.int (n : Nat))] = some (.p (encL ((List.range n).filter fun b => !decide (b ∈ l)))) := by
  refine runE_ret rfl (sRet1 (eData1 (eComp_of (rng_of (eCons_of rfl rfl) (by omega)) (by rw [List.length_map, List.length_range]; have := thousand; omega) (compGo_enc (p := fun b => !decide (b ∈ l)) (e := fun b : Nat => PyData.int (b : Nat)) _ fun b _ => stepOf_if rfl (eB_of rfl rfl (gIn_L1 b l)) ?_)) rfl))
  exact fun _ => rfl
theorem v_L_lies (ob : Ob) (a b : List Nat) (ha : a.length ≤ 1000) : g_L_lies ob [.p (encL a), .p (encL b)] = some (.p (.bool (a.all fun x => decide (x ∈ b)))) := by
  have e : eComp (eSeq (eVar 0)) (u1 2) (eB (gIn true) (eVar 2) (eVar 1)) (eVar 2) [2] ⟨[some (.p (encL a)), some (.p (encL b)), none], ob⟩ = some (.p (.list ((a.filter fun x => !decide (x ∈ b)).map fun b => .int (b : Nat)))) :=
    eComp_of (eSeq_t rfl) (by rw [List.length_map]; have := thousand; omega) (compGo_enc (p := fun x => !decide (x ∈ b)) (e := fun b : Nat => PyData.int (b : Nat)) _ fun x _ => stepOf_if rfl (eB_of rfl rfl (gIn_L1 x b)) fun _ => rfl)
  have shp : Shp 1 (.list ((a.filter fun x => !decide (x ∈ b)).map fun b => PyData.int (b : Nat))) := .list (k := 0) (Shp.nats _)
  refine runE_ret rfl (sRet1 (eB_of e (by rw [kLst_nil]) ((gEq_of shp (.list (fun x hx => (by cases hx))) (eqv_nil _)).trans ?_)))
  congr 2
  rw [Bool.eq_iff_iff, List.isEmpty_iff, List.map_eq_nil_iff, List.filter_eq_nil_iff, List.all_eq_true]
  exact forall_congr' fun x => forall_congr' fun _ => by simp
/-! ### sums -/
def sumAt (ls : List Nat) (lot : List Nat) : Nat := (lot.map fun b => ls.getD b 0).sum
theorem sumAt_dot : ∀ (ls : List Nat) (m k : Nat), ls.length ≤ k → m < 2 ^ ls.length → sumAt ls ((List.range k).filter fun b => m.testBit b) = dot ls m
  | [], m, k, _, h => by
    have h : m < 1 := h
    obtain rfl : m = 0 := by omega
    unfold sumAt dot
    rw [List.filter_eq_nil_iff.mpr (by simp)]
    rfl
  | x :: r, m, 0, hk, _ => by simp at hk
  | x :: r, m, k + 1, hk, h => by
    have hl : m / 2 < 2 ^ r.length := by
      rw [List.length_cons, Nat.pow_succ] at h
      omega
    have ih := sumAt_dot r (m / 2) k (by simpa using hk) hl
    unfold sumAt at ih ⊢
    rw [List.range_succ_eq_map, List.filter_cons]
    have e : (((List.range k).map Nat.succ).filter fun b => m.testBit b) = ((List.range k).filter fun b => (m / 2).testBit b).map Nat.succ := by
      rw [List.filter_map]
      congr 1
      refine List.filter_congr fun b _ => ?_
      show m.testBit (b + 1) = _
      rw [Nat.testBit_succ]
    have e2 : ((((List.range k).map Nat.succ).filter fun b => m.testBit b).map fun b => (x :: r).getD b 0) = ((List.range k).filter fun b => (m / 2).testBit b).map fun b => r.getD b 0 := by
      rw [e, List.map_map]
      refine List.map_congr_left fun b _ => ?_
      rfl
    show _ = (if m % 2 = 1 then x else 0) + dot r (m / 2)
    rw [Nat.testBit_zero]
    by_cases h2 : m % 2 = 1
    · rw [decide_eq_true h2, if_pos rfl, if_pos h2, List.map_cons, List.sum_cons, e2, ih]
      rfl
    · rw [decide_eq_false h2, if_neg (by simp), if_neg h2, e2, ih, Nat.zero_add]
theorem sum_lot {ls : List Nat} {m : Nat} (h : ls.length ≤ 6) (hm : m < 2 ^ ls.length) : sumAt ls (lotOf m) = dot ls m := sumAt_dot ls m 6 h hm
theorem mem_lot_lt {n m b : Nat} (hm : m < 2 ^ n) (hb : b ∈ lotOf m) : b < n := by
  obtain ⟨_, h2⟩ := mem_lotOf.mp hb
  apply Classical.byContradiction
  intro q
  rw [Nat.testBit_lt_two_pow (Nat.lt_of_lt_of_le hm (Nat.pow_le_pow_right (by decide) (Nat.le_of_not_lt q)))] at h2
  cases h2
/-- sum([lengths[bar] for bar in lot]) -/
theorem sum_comp {ob : Ob} {sl : List (Option D)} {i j k : Nat} {ls lot : List Nat} {dl : PyData} (hd : dl = .list (ls.map fun b => .int (b : Nat)) ∨ dl = .tuple (ls.map fun b => .int (b : Nat))) (h0 : (sl.set k none)[i]? = some (some (.p dl))) (hik : i ≠ k) (hj : sl[j]? = some (some (.p (encL lot)))) (hk : k < sl.length)
    (hb : ∀ b ∈ lot, b < ls.length) (hlen : lot.length ≤ 1000) : eData (eCons (eComp (eSeq (eVar j)) (u1 k) (eC (.bool true)) (eB gIx (eVar i) (eVar k)) [k]) eNil) gSum ⟨sl, ob⟩ = some (.p (.int (sumAt ls lot : Nat))) := by
  have e : eComp (eSeq (eVar j)) (u1 k) (eC (.bool true)) (eB gIx (eVar i) (eVar k)) [k] ⟨sl, ob⟩ = some (.p (.list ((lot.map fun b => ls.getD b 0).map fun x => .int (x : Nat)))) := by
    rw [List.map_map]
    refine eComp_of (eSeq_t (eVar_of hj)) (by rw [List.length_map]; have := thousand; omega) (compGo_all lot fun b hbm => ?_)
    have hbl := hb b hbm
    refine stepOf_all rfl (eB_of (eVar_of (d := .p dl) ?_) (eVar_of (d := .p (.int (b : Nat))) ?_) ?_)
    · show ((sl.set k none).set k _)[i]? = _
      rw [List.getElem?_set_ne hik.symm]; exact h0
    · show ((sl.set k none).set k _)[k]? = _
      rw [List.getElem?_set_self (by rw [List.length_set]; exact hk)]
    · have g : (ls.map fun b => PyData.int (b : Nat))[b]? = some (.int (ls.getD b 0 : Nat)) := by
        rw [List.getElem?_map, List.getElem?_eq_getElem hbl, List.getD_eq_getElem?_getD, List.getElem?_eq_getElem hbl]; rfl
      rcases hd with rfl | rfl
      · exact (gIx_l _ b).trans g
      · exact (gIx_t _ b).trans g
  exact eData1 e (gSum_l _)
def hadBy (ls : List Nat) (m : Nat) : Bool := decide (2 * dot ls m < ls.sum)
theorem v_L_of_lengths (ob : Ob) {ls : List Nat} {n : Nat} (h1 : 3 ≤ n) (h2 : n ≤ 6) (hl : ls.length = n) {dl : PyData} (hd : dl = .list (ls.map fun b => .int (b : Nat)) ∨ dl = .tuple (ls.map fun b => .int (b : Nat))) : g_L_of_lengths ob [.p dl] = some (.p (encM ((ordM n).filter (hadBy ls)))) := by
  have es : eData (eCons (eVar 0) eNil) gSum ⟨[some (.p dl), none, none, none], ob⟩ = some (.p (.int (ls.sum : Nat))) := by
    rcases hd with rfl | rfl
    · exact eData1 rfl (gSum_l _)
    · exact eData1 rfl (gSum_t _)
  have el : eData (eCons (eVar 0) eNil) gLen ⟨[some (.p dl), some (.p (.int (ls.sum : Nat))), none, none], ob⟩ = some (.p (.int (n : Nat))) := by
    rw [← hl]
    rcases hd with rfl | rfl
    · exact eData1 rfl (gLen_l _ _)
    · exact eData1 rfl (gLen_t _ _)
  have len : (ordM n).length ≤ 64 := by rw [(ordM_perm n h1 h2).length_eq, List.length_range]; exact pow_le6 h2
  refine runE_ret rfl (sSeq_nx (sAsg_of es) (sRet1 (eComp_of (eSeq_l (eCall_of (eCons_of el rfl) (v_L_lots ob h1 h2))) (by rw [List.length_map]; have := thousand; omega) (compGo_enc (enc := fun m => encL (lotOf m)) (e := fun m => encL (lotOf m)) _ fun m hm => ?_))))
  have hm2 := (mem_ordM h1 h2).mp hm
  refine stepOf_if rfl ?_ fun _ => rfl
  have e1 := sum_comp (ob := ob) (sl := [some (.p dl), some (.p (.int (ls.sum : Nat))), some (.p (encL (lotOf m))), none]) (i := 0) (j := 2) (k := 3) (lot := lotOf m) hd rfl (by decide) rfl (by show 3 < 4; decide) (fun b hb => by rw [hl]; exact mem_lot_lt hm2 hb) (by have := lot_short m; omega)
  rw [sum_lot (by omega) (by rw [hl]; exact hm2)] at e1
  refine eB_of (eB_of (y := .int ((2 * dot ls m : Nat) : Int)) rfl e1 ((gMul_2 _).trans rfl)) rfl ?_
  show some (PyData.bool (decide (((2 * dot ls m : Nat) : Int) < ((ls.sum : Nat) : Int)))) = _
  unfold hadBy
  congr 2
  exact decide_eq_decide.mpr <| by omega
end RB
set_option Elab.async false
set_option linter.all false
set_option maxRecDepth 100000
set_option maxHeartbeats 2000000
/-! The plain law: greatest, stepped. -/
namespace RB
open PySem PySem.Spec PyProof.Rows L2
open PySem.W (AllAlike Sortable dataLe)
theorem forGoA_of {α : Type} {step : PyData → List (Option D) → List PyData → Option (Res × List PyData)} {enc : α → PyData} {add : α → List PyData} {Inv : List (Option D) → Prop} {lim : Nat} : ∀ (l : List α) (sl : List (Option D)) (ds : List PyData),
    (∀ x ∈ l, ∀ sl ds, Inv sl → ds.length + (add x).length ≤ lim → ∃ sl', step (enc x) sl ds = some (.nx sl', ds ++ add x) ∧ Inv sl') → Inv sl → (ds ++ l.flatMap add).length ≤ lim →
    ∃ sl', forGoA step (l.map enc) sl ds = some (.nx sl', ds ++ l.flatMap add) ∧ Inv sl'
  | [], sl, ds, _, i, _ => ⟨sl, by rw [List.flatMap_nil, List.append_nil]; rfl, i⟩
  | x :: l, sl, ds, h, i, hl => by
    rw [List.flatMap_cons, ← List.append_assoc] at hl ⊢
    have hl' := hl
    rw [List.length_append, List.length_append] at hl'
    obtain ⟨sl1, h1, i1⟩ := h x List.mem_cons_self sl ds i (by omega)
    obtain ⟨sl2, h2, i2⟩ := forGoA_of l sl1 (ds ++ add x) (fun y hy => h y (List.mem_cons_of_mem _ hy)) i1 hl
    refine ⟨sl2, ?_, i2⟩
    rw [List.map_cons]
    unfold forGoA
    rw [h1]; exact h2
theorem flatMap_if {α β : Type} (p : α → Bool) (e : α → β) : ∀ l : List α, (l.flatMap fun x => if p x = true then [e x] else []) = (l.filter p).map e
  | [] => rfl
  | x :: l => by
    rw [List.flatMap_cons, flatMap_if p e l, List.filter_cons]
    cases p x <;> rfl
section
variable {Γ : Gm} {p : Addr} {c : Ev} {s1 s2 : Sa} {ds ds1 : List PyData} {sl : List (Option D)} {d : D} {r : Option (Res × List PyData)}
theorem sSeqA_nx (h1 : s1 p Γ ds = some (.nx sl, ds1)) (h2 : s2 p ⟨sl, Γ.ob⟩ ds1 = r) : sSeqA s1 s2 p Γ ds = r := by
  unfold sSeqA
  rw [h1]; exact h2
theorem sSeqA_ret (h1 : s1 p Γ ds = some (.ret d, ds1)) : sSeqA s1 s2 p Γ ds = some (.ret d, ds1) := by
  unfold sSeqA
  rw [h1]
theorem sIfA_t (h1 : c Γ = some (.p (.bool true))) (h2 : s1 p Γ ds = r) : sIfA c s1 s2 p Γ ds = r := by
  unfold sIfA
  rw [h1]; exact h2
theorem sIfA_f (h1 : c Γ = some (.p (.bool false))) (h2 : s2 p Γ ds = r) : sIfA c s1 s2 p Γ ds = r := by
  unfold sIfA
  rw [h1]; exact h2
theorem sApp_of {i : Nat} {f : Ev} {x : PyData} (h1 : Γ.sl[i]? = some (some (.o p))) (h2 : f Γ = some (.p x)) (hz : ds.length < 1000) : sApp i f p Γ ds = some (.nx Γ.sl, ds ++ [x]) := by
  unfold sApp
  rw [h1, h2]
  dsimp only
  rw [if_pos ⟨rfl, by have := thousand; omega⟩]
theorem sExt_of {i : Nat} {f : Ev} {xs : List PyData} (h1 : Γ.sl[i]? = some (some (.o p))) (h2 : f Γ = some (.p (.list xs))) (hz : ds.length + xs.length ≤ 1000) : sExt i f p Γ ds = some (.nx Γ.sl, ds ++ xs) := by
  unfold sExt
  rw [h1, h2]
  dsimp only
  rw [if_pos ⟨rfl, by have := thousand; omega⟩]
theorem sRetA_of {i : Nat} {f : Ev} (h1 : Γ.sl[i]? = some (some (.o p))) (h2 : f ⟨Γ.sl.set i (some (.p (.list ds))), Γ.ob⟩ = some d) : sRetA i f p Γ ds = some (.ret d, ds) := by
  unfold sRetA
  rw [h1]
  dsimp only
  rw [if_pos rfl, h2]; rfl
theorem sLft_of {s : Sv} {r : Res} (h : s Γ = some r) : sLft s p Γ ds = some (r, ds) := by
  unfold sLft
  rw [h]; rfl
theorem sForA_of {src : Ew} {u : Ut} {body : Sa} {xs : List PyData} (h1 : src Γ = some xs) : sForA src u body p Γ ds = forGoA (fun x sl ds => match u x sl with
    | none => none
    | some sl' => body p ⟨sl', Γ.ob⟩ ds) xs Γ.sl ds := by
  unfold sForA
  rw [h1] <;> rfl
end
/-! ### the greatest -/
/-- the lot lies in the other -/
def inLot (a b : Nat) : Bool := (lotOf a).all fun x => decide (x ∈ lotOf b)
def isGrS (S : List Nat) (m : Nat) : Bool := (S.filter fun x => !decide (lotOf x = lotOf m) && inLot m x).isEmpty
theorem v_L_greatest (ob : Ob) {S : List Nat} (hS : S.length ≤ 64) (hs : (S.map lotOf).Pairwise fun x y => leLot x y = true) : g_L_greatest ob [.p (encM S)] = some (.p (encM (S.filter (isGrS S)))) := by
  have cond : ∀ (p : Addr) (m : Nat), eB gEq (eComp (eSeq (eVar 0)) (u1 3) (eAnd (eB gNe (eVar 3) (eVar 2)) (eCall g_L_lies (eCons (eVar 2) (eCons (eVar 3) eNil)))) (eVar 3) [3]) (eData eNil kLst) ⟨[some (.p (encM S)), some (.o p), some (.p (encL (lotOf m))), none, none], ob⟩ = some (.p (.bool (isGrS S m))) := fun p m => by
    have e : eComp (eSeq (eVar 0)) (u1 3) (eAnd (eB gNe (eVar 3) (eVar 2)) (eCall g_L_lies (eCons (eVar 2) (eCons (eVar 3) eNil)))) (eVar 3) [3] ⟨[some (.p (encM S)), some (.o p), some (.p (encL (lotOf m))), none, none], ob⟩ = some (.p (.list ((S.filter fun x => !decide (lotOf x = lotOf m) && inLot m x).map fun x => encL (lotOf x)))) :=
      eComp_of (eSeq_l rfl) (by rw [List.length_map]; have := thousand; omega) (compGo_enc (enc := fun x => encL (lotOf x)) (e := fun x => encL (lotOf x)) _ fun x _ => stepOf_if rfl (eAnd_of (eB_of rfl rfl (gNe_of (Shp.encL _) (Shp.encL _) (eqv_encL _ _))) fun _ => eCall_of (eCons_of rfl (eCons_of rfl rfl)) (v_L_lies ob _ _ (by have := lot_short m; omega))) fun _ => rfl)
    have shp : Shp 2 (.list ((S.filter fun x => !decide (lotOf x = lotOf m) && inLot m x).map fun x => encL (lotOf x))) := .list (Shp.map (fun x => Shp.encL _) _)
    refine eB_of e (by rw [kLst_nil]) ((gEq_of shp (.list (fun x hx => (by cases hx))) (eqv_nil _)).trans ?_)
    unfold isGrS
    congr 2
    rw [Bool.eq_iff_iff, List.isEmpty_iff, List.isEmpty_iff, List.map_eq_nil_iff]
  have flen : (S.filter (isGrS S)).length ≤ 64 := Nat.le_trans (List.length_filter_le _ _) hS
  have fsort : ((S.filter (isGrS S)).map lotOf).Pairwise fun x y => leLot x y = true := hs.sublist ((List.filter_sublist).map _)
  refine runE_ret rfl (sNew_eq fun p => ?_)
  obtain ⟨sl', h1, x2, hx2⟩ := forGoA_of (step := fun x sl ds => match u1 2 x sl with
      | none => none
      | some sl' => (sSeqA (sIfA (eB gEq (eComp (eSeq (eVar 0)) (u1 3) (eAnd (eB gNe (eVar 3) (eVar 2)) (eCall g_L_lies (eCons (eVar 2) (eCons (eVar 3) eNil)))) (eVar 3) [3]) (eData eNil kLst)) (sSeqA (sApp 1 (eData (eCons (eData (eCons (eVar 2) eNil) gLen) (eCons (eVar 2) eNil)) kTup)) sNilA) sNilA) sNilA) p ⟨sl', ob⟩ ds)
    (enc := fun m => encL (lotOf m)) (add := fun m => if isGrS S m = true then [encP (lotOf m)] else []) (Inv := fun sl => ∃ x2, sl = [some (.p (encM S)), some (.o p), x2, none, none]) (lim := 64) S [some (.p (encM S)), some (.o p), none, none, none] [] (fun m hm sl ds hsl hlen => by
      obtain ⟨x2, rfl⟩ := hsl
      refine ⟨_, ?_, some (.p (encL (lotOf m))), rfl⟩
      show sSeqA _ sNilA p ⟨[some (.p (encM S)), some (.o p), some (.p (encL (lotOf m))), none, none], ob⟩ ds = _
      cases hg : isGrS S m with
      | true =>
        rw [hg, if_pos rfl] at hlen
        have hlen : ds.length + 1 ≤ 64 := hlen
        rw [if_pos rfl]
        exact sSeqA_nx (sIfA_t (by rw [cond, hg]) (sSeqA_nx (sApp_of rfl (eData_of (xs := [.int ((lotOf m).length : Nat), encL (lotOf m)]) (eCons_of (eData1 rfl (gLen_L _)) (eCons_of rfl rfl)) (kTup_of (by show 2 ≤ 1000; decide))) (by omega)) rfl)) rfl
      | false =>
        rw [if_neg (by simp), List.append_nil]
        exact sSeqA_nx (sIfA_f (by rw [cond, hg]) rfl) rfl) ⟨none, rfl⟩ (by rw [flatMap_if, List.nil_append, List.length_map]; exact flen)
  subst hx2
  rw [flatMap_if, List.nil_append] at h1
  have e4 := gSorted_P (List.Perm.refl _) fsort
  rw [List.map_map] at e4
  refine ⟨_, sSeqA_nx ((sForA_of (eSeq_l rfl)).trans h1) (sSeqA_ret (sRetA_of rfl ((eComp_of (eSeq_l (eData1 rfl e4)) (by rw [List.length_map]; have := thousand; omega) (compGo_all (enc := encP ∘ lotOf) (e := fun m => encL (lotOf m)) _ fun m _ => stepOf_all rfl (eB_of rfl rfl (gIx_t1 _ _ _)))).trans rfl)))⟩
/-! ### a step: the lot m is short no more, all other bars are -/
def stepT (n : Nat) (T : Nat → Bool) (m x : Nat) : Bool := !decide (x = m) && (decide (x = 2 ^ n - 1 - m) || T x)
theorem others_lot : ∀ n, 3 ≤ n → n ≤ 6 → ∀ m, m < 2 ^ n → ((List.range n).filter fun b => !decide (b ∈ lotOf m)) = lotOf (2 ^ n - 1 - m) := by
  intro n h1 h2
  have c : n = 3 ∨ n = 4 ∨ n = 5 ∨ n = 6 := by omega
  rcases c with rfl | rfl | rfl | rfl <;> decide +kernel
theorem others_len : ∀ n, 3 ≤ n → n ≤ 6 → ∀ m, m < 2 ^ n → n = (lotOf m).length + (lotOf (2 ^ n - 1 - m)).length := by
  intro n h1 h2
  have c : n = 3 ∨ n = 4 ∨ n = 5 ∨ n = 6 := by omega
  rcases c with rfl | rfl | rfl | rfl <;> decide +kernel
theorem lot_inj {n a b : Nat} (hn : n ≤ 6) (ha : a < 2 ^ n) (hb : b < 2 ^ n) (h : lotOf a = lotOf b) : a = b := by
  have p := pow_le6 hn
  rw [← mask_lot a (by omega), ← mask_lot b (by omega), h]
theorem filter_len {n : Nat} (h1 : 3 ≤ n) (h2 : n ≤ 6) (T : Nat → Bool) : ((ordM n).filter T).length ≤ 64 := by
  refine Nat.le_trans (List.length_filter_le _ _) ?_
  rw [(ordM_perm n h1 h2).length_eq, List.length_range]
  exact pow_le6 h2
theorem filter_sorted {n : Nat} (h1 : 3 ≤ n) (h2 : n ≤ 6) (T : Nat → Bool) : (((ordM n).filter T).map lotOf).Pairwise fun x y => leLot x y = true := (ordM_sorted n h1 h2).sublist ((List.filter_sublist).map _)
theorem step_perm {n : Nat} (h1 : 3 ≤ n) (h2 : n ≤ 6) {T : Nat → Bool} (G : Good n T) {m : Nat} (hm : m < 2 ^ n) (hT : T m = true) : ((ordM n).filter (stepT n T m)).Perm ((((ordM n).filter T).filter fun x => !decide (lotOf x = lotOf m)) ++ [2 ^ n - 1 - m]) := by
  have nd := ordM_nodup h1 h2
  have hc : T (2 ^ n - 1 - m) = false := by rw [G.dual m hm, hT]; rfl
  have hcm : 2 ^ n - 1 - m ≠ m := fun z => by rw [z, hT] at hc; cases hc
  have hc2 : 2 ^ n - 1 - m < 2 ^ n := by omega
  rw [List.perm_ext_iff_of_nodup (nd.filter _) ?_]
  · intro x
    rw [List.mem_filter, List.mem_append, List.mem_filter, List.mem_filter, List.mem_singleton, mem_ordM h1 h2]
    unfold stepT
    constructor
    · rintro ⟨hx, h⟩
      rw [Bool.and_eq_true, Bool.or_eq_true, Bool.not_eq_true', decide_eq_false_iff_not, decide_eq_true_eq] at h
      rcases h.2 with q | q
      · exact .inr q
      · refine .inl ⟨⟨hx, q⟩, ?_⟩
        rw [Bool.not_eq_true', decide_eq_false_iff_not]
        exact fun z => h.1 (lot_inj h2 hx hm z)
    · rintro (⟨⟨hx, hTx⟩, h⟩ | rfl)
      · rw [Bool.not_eq_true', decide_eq_false_iff_not] at h
        refine ⟨hx, ?_⟩
        rw [hTx, Bool.or_true, Bool.and_true, Bool.not_eq_true', decide_eq_false_iff_not]
        exact fun z => h (by rw [z])
      · refine ⟨hc2, ?_⟩
        rw [decide_eq_false hcm, decide_eq_true rfl]
        rfl
  · rw [List.nodup_append]
    refine ⟨(nd.filter _).filter _, by simp, fun a ha b hb => ?_⟩
    rw [List.mem_singleton] at hb
    rw [List.mem_filter, List.mem_filter] at ha
    intro z
    rw [z, hb, hc] at ha
    exact Bool.false_ne_true ha.1.2
theorem v_L_stepped (ob : Ob) {n : Nat} (h1 : 3 ≤ n) (h2 : n ≤ 6) {T : Nat → Bool} (G : Good n T) {m : Nat} (hm : m < 2 ^ n) (hT : T m = true) :
    g_L_stepped ob [.p (encM ((ordM n).filter T)), .p (encL (lotOf m)), .p (.int (n : Nat))] = some (.p (encM ((ordM n).filter (stepT n T m)))) := by
  have len := filter_len h1 h2 T
  have e1 : eComp (eSeq (eVar 0)) (u1 4) (eB gNe (eVar 4) (eVar 1)) (eData (eCons (eData (eCons (eVar 4) eNil) gLen) (eCons (eVar 4) eNil)) kTup) [4] ⟨[some (.p (encM ((ordM n).filter T))), some (.p (encL (lotOf m))), some (.p (.int (n : Nat))), none, none, none], ob⟩ = some (.p (.list ((((ordM n).filter T).filter fun x => !decide (lotOf x = lotOf m)).map fun x => encP (lotOf x)))) :=
    eComp_of (eSeq_l rfl) (by rw [List.length_map]; have := thousand; omega) (compGo_enc (enc := fun x => encL (lotOf x)) (e := fun x => encP (lotOf x)) _ fun x _ => stepOf_if rfl (eB_of rfl rfl (gNe_of (Shp.encL _) (Shp.encL _) (eqv_encL _ _))) fun _ => eData_of (xs := [.int ((lotOf x).length : Nat), encL (lotOf x)]) (eCons_of (eData1 rfl (gLen_L _)) (eCons_of rfl rfl)) (kTup_of (by show 2 ≤ 1000; decide)))
  have e2 : eB gSub (eVar 2) (eData (eCons (eVar 1) eNil) gLen) ⟨[some (.p (encM ((ordM n).filter T))), some (.p (encL (lotOf m))), some (.p (.int (n : Nat))), none, none, none], ob⟩ = some (.p (.int ((lotOf (2 ^ n - 1 - m)).length : Nat))) := by
    refine eB_of rfl (eData1 rfl (gLen_L _)) ?_
    have := others_len n h1 h2 m hm
    show some (PyData.int ((n : Int) - ((lotOf m).length : Nat))) = _
    congr 2
    omega
  have e3 : eCall g_L_others (eCons (eVar 1) (eCons (eVar 2) eNil)) ⟨[some (.p (encM ((ordM n).filter T))), some (.p (encL (lotOf m))), some (.p (.int (n : Nat))), none, none, none], ob⟩ = some (.p (encL (lotOf (2 ^ n - 1 - m)))) := by
    rw [← others_lot n h1 h2 m hm]
    exact eCall_of (eCons_of rfl (eCons_of rfl rfl)) (v_L_others ob _ h2)
  have e4 := e2
  have e5 : eData (eCons (eData (eCons (eB gSub (eVar 2) (eData (eCons (eVar 1) eNil) gLen)) (eCons (eCall g_L_others (eCons (eVar 1) (eCons (eVar 2) eNil))) eNil)) kTup) eNil) kLst ⟨[some (.p (encM ((ordM n).filter T))), some (.p (encL (lotOf m))), some (.p (.int (n : Nat))), none, none, none], ob⟩ = some (.p (.list [encP (lotOf (2 ^ n - 1 - m))])) :=
    eData1 (eData_of (xs := [.int ((lotOf (2 ^ n - 1 - m)).length : Nat), encL (lotOf (2 ^ n - 1 - m))]) (eCons_of e2 (eCons_of e3 rfl)) (kTup_of (by show 2 ≤ 1000; decide))) (kLst_of (by show 1 ≤ 1000; decide))
  have fl : ((((ordM n).filter T).filter fun x => !decide (lotOf x = lotOf m))).length ≤ 64 := Nat.le_trans (List.length_filter_le _ _) len
  have e6 := eB_of e1 e5 (gAdd_l (by rw [List.length_map, List.length_singleton]; omega))
  have e7 : ((((ordM n).filter T).filter fun x => !decide (lotOf x = lotOf m)).map fun x => encP (lotOf x)) ++ [encP (lotOf (2 ^ n - 1 - m))] = (((((ordM n).filter T).filter fun x => !decide (lotOf x = lotOf m)) ++ [2 ^ n - 1 - m]).map lotOf).map encP := by
    rw [List.map_map, List.map_append]; rfl
  rw [e7] at e6
  have e8 := gSorted_P ((step_perm h1 h2 G hm hT).map lotOf) (filter_sorted h1 h2 _)
  have len2 := filter_len h1 h2 (stepT n T m)
  refine runE_ret rfl (sSeq_nx (sAsg_of e6) (sRet1 ((eComp_of (eSeq_l (eData1 rfl e8)) (by rw [List.length_map, List.length_map]; have := thousand; omega) (compGo_all (enc := encP) (e := encL) _ fun m _ => stepOf_all rfl (eB_of rfl rfl (gIx_t1 _ _ _)))).trans ?_)))
  unfold encM
  rw [List.map_map]
  rfl
theorem Good.low {n : Nat} {T : Nat → Bool} (G : Good n T) {m : Nat} (hm : m < 2 ^ n) (h : T m = true) : T (2 ^ n - 1 - m) = false := by
  rw [G.dual m hm, h]; rfl
/-- a step from a greatest short lot comes to a book again -/
theorem and_comp : ∀ n, 3 ≤ n → n ≤ 6 → ∀ a, a < 2 ^ n → ∀ b, b < 2 ^ n → a &&& b = a → (2 ^ n - 1 - b) &&& (2 ^ n - 1 - a) = 2 ^ n - 1 - b := by
  intro n h1 h2
  have c : n = 3 ∨ n = 4 ∨ n = 5 ∨ n = 6 := by omega
  rcases c with rfl | rfl | rfl | rfl <;> decide +kernel
theorem in_iff : ∀ a, a < 64 → ∀ b, b < 64 → inLot a b = decide (a &&& b = a) := by decide +kernel
theorem step_good {n : Nat} (h1 : 3 ≤ n) (h2 : n ≤ 6) {T : Nat → Bool} (G : Good n T) {m : Nat} (hm : m < 2 ^ n) (hT : T m = true) (hg : isGrS ((ordM n).filter T) m = true) : Good n (stepT n T m) := by
  have hc := G.low hm hT
  have hcm : 2 ^ n - 1 - m ≠ m := fun z => by rw [z, hT] at hc; cases hc
  have p6 := pow_le6 h2
  have top : ∀ x, x < 2 ^ n → m &&& x = m → T x = true → x = m := fun x hx hs hTx => by
    apply Classical.byContradiction
    intro q
    unfold isGrS at hg
    rw [List.isEmpty_iff, List.filter_eq_nil_iff] at hg
    refine hg x (List.mem_filter.mpr ⟨(mem_ordM h1 h2).mpr hx, hTx⟩) ?_
    rw [Bool.and_eq_true, Bool.not_eq_true', decide_eq_false_iff_not, in_iff m (by omega) x (by omega), decide_eq_true_eq]
    exact ⟨fun z => q (lot_inj h2 hx hm z), hs⟩
  constructor
  · intro x hx
    unfold stepT
    by_cases e1 : x = m
    · subst e1
      rw [decide_eq_true (p := 2 ^ n - 1 - x = 2 ^ n - 1 - x) rfl, decide_eq_false hcm, decide_eq_true (p := x = x) rfl]
      rfl
    · by_cases e2 : x = 2 ^ n - 1 - m
      · have e3 : 2 ^ n - 1 - x = m := by omega
        rw [decide_eq_true e3, decide_eq_true e2, decide_eq_false e1]
        rfl
      · have e3 : ¬ 2 ^ n - 1 - x = m := by omega
        have e4 : ¬ 2 ^ n - 1 - x = 2 ^ n - 1 - m := by omega
        rw [decide_eq_false e3, decide_eq_false e4, decide_eq_false e1, decide_eq_false e2, Bool.false_or, Bool.false_or, Bool.not_false, Bool.true_and, Bool.true_and]
        exact G.dual x hx
  · intro a b hb hab h
    have ha : a < 2 ^ n := Nat.lt_of_le_of_lt (by rw [← hab]; exact Nat.and_le_right) hb
    unfold stepT at h ⊢
    rw [Bool.and_eq_true, Bool.or_eq_true, Bool.not_eq_true', decide_eq_false_iff_not, decide_eq_true_eq] at h ⊢
    obtain ⟨hbm, hb2⟩ := h
    have ham : a ≠ m := fun z => by
      subst z
      rcases hb2 with q | q
      · -- m lies in the others of m: then the others are all, m is none
        have q2 : T b = false := by rw [q]; exact hc
        have d := and_comp n h1 h2 a ha b hb hab
        rw [q] at d
        have e : 2 ^ n - 1 - (2 ^ n - 1 - a) = a := by omega
        rw [e] at d
        -- a subset of its complement, so a = 0
        have z0 : a = 0 := by
          have c1 : a &&& (2 ^ n - 1 - a) = a := by rw [← q]; exact hab
          have key : ∀ n, 3 ≤ n → n ≤ 6 → ∀ a, a < 2 ^ n → a &&& (2 ^ n - 1 - a) = 0 := by
            intro n h1 h2
            have c : n = 3 ∨ n = 4 ∨ n = 5 ∨ n = 6 := by omega
            rcases c with rfl | rfl | rfl | rfl <;> decide +kernel
          rw [key n h1 h2 a ha] at c1
          exact c1.symm
        subst z0
        have n8 : 8 ≤ 2 ^ n := Nat.pow_le_pow_right (by decide : 0 < 2) h1
        cases t1 : T 1 with
        | true => exact absurd (top 1 (by omega) (by simp) t1) (by decide)
        | false =>
          have d1 := G.dual 1 (by omega)
          rw [t1] at d1
          exact absurd (top (2 ^ n - 1 - 1) (by omega) (by simp) d1) (by omega)
      · exact hbm (top b hb hab q)
    refine ⟨ham, ?_⟩
    rcases hb2 with q | q
    · by_cases e2 : a = 2 ^ n - 1 - m
      · exact .inl e2
      · refine .inr ?_
        have d := and_comp n h1 h2 a ha b hb hab
        have e : 2 ^ n - 1 - b = m := by omega
        rw [e] at d
        have na : T (2 ^ n - 1 - a) = false := by
          cases z : T (2 ^ n - 1 - a) with
          | false => rfl
          | true => exact absurd (top _ (by omega) d z) (by omega)
        have := G.dual a ha
        rw [na] at this
        cases z : T a with
        | true => rfl
        | false => rw [z] at this; cases this
    · exact .inr (G.down a b hb hab q)
end RB
set_option Elab.async false
set_option linter.all false
set_option maxRecDepth 100000
set_option maxHeartbeats 2000000
/-! The plain law: beaten, odds by lots. -/
namespace RB
open PySem PySem.Spec PyProof.Rows L2
open PySem.W (AllAlike Sortable dataLe)
/-- the lot m, with i and j out of it, is long with i and short with j -/
def btn (T : Nat → Bool) (i j m : Nat) : Bool := (!m.testBit i && !m.testBit j) && (!T (m + 2 ^ i) && T (m + 2 ^ j))
theorem bit_mem {m i : Nat} (hi : i < 6) : decide (i ∈ lotOf m) = m.testBit i := by
  rw [Bool.eq_iff_iff, decide_eq_true_eq, mem_lotOf]
  exact ⟨fun h => h.2, fun h => ⟨hi, h⟩⟩
theorem add_perm : ∀ i, i < 6 → ∀ m, m < 64 → m.testBit i = false → (lotOf (m + 2 ^ i)).Perm (lotOf m ++ [i]) := by decide +kernel
theorem add_lt6 : ∀ n, n ≤ 6 → ∀ i, i < n → ∀ m, m < 2 ^ n → m.testBit i = false → m + 2 ^ i < 2 ^ n := by
  have z : ∀ n, n < 7 → ∀ i, i < n → ∀ m, m < 2 ^ n → m.testBit i = false → m + 2 ^ i < 2 ^ n := by decide +kernel
  intro n hn
  exact z n (by omega)
theorem mem_shorts {n : Nat} (h1 : 3 ≤ n) (h2 : n ≤ 6) {T : Nat → Bool} {m : Nat} (hm : m < 2 ^ n) : decide (lotOf m ∈ ((ordM n).filter T).map lotOf) = T m := by
  rw [Bool.eq_iff_iff, decide_eq_true_eq, List.mem_map]
  constructor
  · rintro ⟨x, hx, e⟩
    rw [List.mem_filter, mem_ordM h1 h2] at hx
    rw [← lot_inj h2 hx.1 hm e]; exact hx.2
  · intro h
    exact ⟨m, List.mem_filter.mpr ⟨(mem_ordM h1 h2).mpr hm, h⟩, rfl⟩
theorem encM_eq (S : List Nat) : encM S = .list ((S.map lotOf).map encL) := by
  unfold encM
  rw [List.map_map]; rfl
theorem lot_le (m : Nat) : (lotOf m).Pairwise fun x y => x ≤ y := (lot_sorted m).imp fun h => Nat.le_of_lt h
/-- tuple(sorted(lot + (bar,))) -/
theorem sort_add {ob : Ob} {sl : List (Option D)} {i k m bar : Nat} (hi : sl[i]? = some (some (.p (encL (lotOf m))))) (hk : sl[k]? = some (some (.p (.int (bar : Nat))))) (hm : m < 64) (hb : bar < 6) (hn : m.testBit bar = false) :
    eData (eCons (eData (eCons (eB gAdd (eVar i) (eData (eCons (eVar k) eNil) kTup)) eNil) gSorted) eNil) gTuple ⟨sl, ob⟩ = some (.p (encL (lotOf (m + 2 ^ bar)))) := by
  have e1 : eB gAdd (eVar i) (eData (eCons (eVar k) eNil) kTup) ⟨sl, ob⟩ = some (.p (encL (lotOf m ++ [bar]))) :=
    eB_of (eVar_of hi) (eData_of (xs := [.int (bar : Nat)]) (y := encL [bar]) (eCons_of (eVar_of hk) rfl) (kTup_of (by show 1 ≤ 1000; decide))) (gAdd_L (by have := lot_short m; show _ + 1 ≤ 1000; omega))
  exact eData1 (eData1 e1 (gSorted_N (add_perm bar hb m hm hn) (lot_le _) (.inr rfl))) rfl
def bt (n : Nat) (T : Nat → Bool) (i j : Nat) : Option Nat := (ordM n).find? (btn T i j)
def encO : Option Nat → PyData
  | some m => encL (lotOf m)
  | none => .none
noncomputable def stepB (ob : Ob) : PyData → List (Option D) → Option Res := fun x sl => match u1 4 x sl with
      | none => none
      | some sl' => sSeq (sIf (eAnd (eB (gIn true) (eVar 2) (eVar 4)) (eB (gIn true) (eVar 3) (eVar 4))) (sSeq (sIf (eAnd (eB (gIn true) (eData (eCons (eData (eCons (eB gAdd (eVar 4) (eData (eCons (eVar 2) eNil) kTup)) eNil) gSorted) eNil) gTuple) (eVar 0)) (eB (gIn false) (eData (eCons (eData (eCons (eB gAdd (eVar 4) (eData (eCons (eVar 3) eNil) kTup)) eNil) gSorted) eNil) gTuple) (eVar 0))) (sSeq (sRet (eVar 4)) sNil) sNil) sNil) sNil) sNil ⟨sl', ob⟩
theorem v_L_beaten (ob : Ob) {n : Nat} (h1 : 3 ≤ n) (h2 : n ≤ 6) (T : Nat → Bool) {i j : Nat} (hi : i < n) (hj : j < n) :
    g_L_beaten ob [.p (encM ((ordM n).filter T)), .p (.int (n : Nat)), .p (.int (i : Nat)), .p (.int (j : Nat))] = some (.p (encO (bt n T i j))) := by
  have p6 := pow_le6 h2
  have turn : ∀ m ∈ ordM n, ∀ sl : List (Option D), (∃ x, sl = [some (.p (encM ((ordM n).filter T))), some (.p (.int (n : Nat))), some (.p (.int (i : Nat))), some (.p (.int (j : Nat))), x]) →
      (btn T i j m = true → stepB ob (encL (lotOf m)) sl = some (.ret (.p (encL (lotOf m))))) ∧
      (btn T i j m = false → ∃ sl', stepB ob (encL (lotOf m)) sl = some (.nx sl') ∧ ∃ x, sl' = [some (.p (encM ((ordM n).filter T))), some (.p (.int (n : Nat))), some (.p (.int (i : Nat))), some (.p (.int (j : Nat))), x]) := by
    intro m hm sl hsl
    obtain ⟨x, rfl⟩ := hsl
    have hm2 := (mem_ordM h1 h2).mp hm
    have c1 : eAnd (eB (gIn true) (eVar 2) (eVar 4)) (eB (gIn true) (eVar 3) (eVar 4)) ⟨[some (.p (encM ((ordM n).filter T))), some (.p (.int (n : Nat))), some (.p (.int (i : Nat))), some (.p (.int (j : Nat))), some (.p (encL (lotOf m)))], ob⟩ = some (.p (.bool (!m.testBit i && !m.testBit j))) := by
      rw [← bit_mem (m := m) (i := i) (by omega), ← bit_mem (m := m) (i := j) (by omega)]
      exact eAnd_of (eB_of rfl rfl (gIn_L1 _ _)) fun _ => eB_of rfl rfl (gIn_L1 _ _)
    have c2 : (!m.testBit i && !m.testBit j) = true → eAnd (eB (gIn true) (eData (eCons (eData (eCons (eB gAdd (eVar 4) (eData (eCons (eVar 2) eNil) kTup)) eNil) gSorted) eNil) gTuple) (eVar 0)) (eB (gIn false) (eData (eCons (eData (eCons (eB gAdd (eVar 4) (eData (eCons (eVar 3) eNil) kTup)) eNil) gSorted) eNil) gTuple) (eVar 0)) ⟨[some (.p (encM ((ordM n).filter T))), some (.p (.int (n : Nat))), some (.p (.int (i : Nat))), some (.p (.int (j : Nat))), some (.p (encL (lotOf m)))], ob⟩ = some (.p (.bool (!T (m + 2 ^ i) && T (m + 2 ^ j)))) := fun h => by
      rw [Bool.and_eq_true] at h
      rw [Bool.not_eq_true', Bool.not_eq_true'] at h
      have a1 := add_lt6 n h2 i hi m hm2 h.1
      have a2 := add_lt6 n h2 j hj m hm2 h.2
      rw [← mem_shorts h1 h2 (T := T) a1, ← mem_shorts h1 h2 (T := T) a2]
      have e0 : eVar 0 ⟨[some (.p (encM ((ordM n).filter T))), some (.p (.int (n : Nat))), some (.p (.int (i : Nat))), some (.p (.int (j : Nat))), some (.p (encL (lotOf m)))], ob⟩ = some (.p (.list ((((ordM n).filter T).map lotOf).map encL))) := by
        rw [← encM_eq]; rfl
      exact eAnd_of (eB_of (sort_add rfl rfl (by omega) (by omega) h.1) e0 (gIn_Ls1 _ _)) fun _ => eB_of (sort_add rfl rfl (by omega) (by omega) h.2) e0 (gIn_Ls0 _ _)
    constructor
    · intro hb
      unfold btn at hb
      rw [Bool.and_eq_true] at hb
      rw [hb.1] at c1
      have c2 := c2 hb.1
      rw [hb.2] at c2
      exact sSeq_ret ((sIf_t c1 (sSeq_ret (sIf_t c2 (sRet1 rfl)))))
    · intro hb
      refine ⟨_, ?_, some (.p (encL (lotOf m))), rfl⟩
      show sSeq _ sNil ⟨[some (.p (encM ((ordM n).filter T))), some (.p (.int (n : Nat))), some (.p (.int (i : Nat))), some (.p (.int (j : Nat))), some (.p (encL (lotOf m)))], ob⟩ = _
      cases ha : (!m.testBit i && !m.testBit j) with
      | false =>
        rw [ha] at c1
        exact sSeq_nx (sIf_f c1 rfl) rfl
      | true =>
        have c2 := c2 ha
        unfold btn at hb
        rw [ha, Bool.true_and] at hb
        rw [ha] at c1
        rw [hb] at c2
        exact sSeq_nx (sIf_t c1 (sSeq_nx (sIf_f c2 rfl) rfl)) rfl
  have loop := forGo_find (step := stepB ob) (Inv := fun sl => ∃ x, sl = [some (.p (encM ((ordM n).filter T))), some (.p (.int (n : Nat))), some (.p (.int (i : Nat))), some (.p (.int (j : Nat))), x]) (enc := fun m => encL (lotOf m)) (p := btn T i j) (e := fun m => D.p (encL (lotOf m))) (ordM n) [some (.p (encM ((ordM n).filter T))), some (.p (.int (n : Nat))), some (.p (.int (i : Nat))), some (.p (.int (j : Nat))), none] turn ⟨none, rfl⟩
  have src : eSeq (eCall g_L_lots (eCons (eVar 1) eNil)) ⟨[some (.p (encM ((ordM n).filter T))), some (.p (.int (n : Nat))), some (.p (.int (i : Nat))), some (.p (.int (j : Nat))), none], ob⟩ = some ((ordM n).map fun m => encL (lotOf m)) := eSeq_l (eCall_of (eCons_of rfl rfl) (v_L_lots ob h1 h2))
  refine runE_ret rfl ?_
  cases hf : bt n T i j with
  | some m => exact sSeq_ret ((sFor_of src).trans (loop.1 m hf))
  | none =>
    obtain ⟨sl', hl, x, rfl⟩ := loop.2 hf
    exact sSeq_nx ((sFor_of src).trans hl) (sRet1 rfl)
theorem sPar_of {i j : Nat} {fs : Evs} {Γ : Gm} {d d' : D} (h : fs Γ = some [d, d']) : sPar i j fs Γ = some (.nx ((Γ.sl.set i (some d)).set j (some d'))) := by
  unfold sPar
  rw [h]
/-! ### all pairs at odds -/
abbrev Od := Nat × Nat × Nat × Nat
def encOd (o : Od) : PyData := .tuple [.int (o.1 : Nat), .int (o.2.1 : Nat), encL (lotOf o.2.2.1), encL (lotOf o.2.2.2)]
def oddsJ (n : Nat) (T : Nat → Bool) (i j : Nat) : List Od := match bt n T i j, bt n T j i with
  | some a, some b => [(i, j, a, b)]
  | _, _ => []
def oddsI (n : Nat) (T : Nat → Bool) (i : Nat) : List Od := (List.range (n - (i + 1))).flatMap fun k => oddsJ n T i (i + 1 + k)
def oddsL (n : Nat) (T : Nat → Bool) : List Od := (List.range n).flatMap (oddsI n T)
theorem oddsJ_len (n : Nat) (T : Nat → Bool) (i j : Nat) : (oddsJ n T i j).length ≤ 1 := by
  unfold oddsJ
  split
  · exact Nat.le_refl _
  · exact Nat.zero_le _
theorem flatMap_len {α β : Type} {f : α → List β} {b : Nat} : ∀ l : List α, (∀ x ∈ l, (f x).length ≤ b) → (l.flatMap f).length ≤ l.length * b
  | [], _ => Nat.zero_le _
  | x :: l, h => by
    rw [List.flatMap_cons, List.length_append, List.length_cons, Nat.succ_mul]
    have h1 := h x List.mem_cons_self
    have h2 := flatMap_len l fun y hy => h y (List.mem_cons_of_mem _ hy)
    omega
theorem oddsI_len {n : Nat} (hn : n ≤ 6) (T : Nat → Bool) (i : Nat) : (oddsI n T i).length ≤ 6 := by
  have := flatMap_len (f := fun k => oddsJ n T i (i + 1 + k)) (b := 1) (List.range (n - (i + 1))) fun k _ => oddsJ_len _ _ _ _
  rw [List.length_range] at this
  unfold oddsI
  omega
theorem oddsL_len {n : Nat} (hn : n ≤ 6) (T : Nat → Bool) : (oddsL n T).length ≤ 36 := by
  have := flatMap_len (f := oddsI n T) (b := 6) (List.range n) fun k _ => oddsI_len hn _ _
  rw [List.length_range] at this
  unfold oddsL
  omega
theorem v_L_odds (ob : Ob) {n : Nat} (h1 : 3 ≤ n) (h2 : n ≤ 6) (T : Nat → Bool) : g_L_odds ob [.p (encM ((ordM n).filter T)), .p (.int (n : Nat))] = some (.p (.list ((oddsL n T).map encOd))) := by
  refine runE_ret rfl (sNew_eq fun p => ?_)
  -- the inner loop at one bar
  have inner : ∀ i, i < n → ∀ (ds : List PyData) (x4 x5 x6 : Option D), ds.length + 6 ≤ 64 → ∃ sl' : List (Option D), forGoA (fun x sl ds => match u1 4 x sl with
      | none => none
      | some sl' => (sSeqA (sLft (sPar 5 6 (eCons (eCall g_L_beaten (eCons (eVar 0) (eCons (eVar 1) (eCons (eVar 3) (eCons (eVar 4) eNil))))) (eCons (eCall g_L_beaten (eCons (eVar 0) (eCons (eVar 1) (eCons (eVar 4) (eCons (eVar 3) eNil))))) eNil)))) (sSeqA (sIfA (eAnd (eB gIsNot (eVar 5) (eC .none)) (eB gIsNot (eVar 6) (eC .none))) (sSeqA (sApp 2 (eData (eCons (eVar 3) (eCons (eVar 4) (eCons (eVar 5) (eCons (eVar 6) eNil)))) kTup)) sNilA) sNilA) sNilA)) p ⟨sl', ob⟩ ds)
      ((List.range (n - (i + 1))).map fun k => .int ((i + 1 + k : Nat) : Int)) [some (.p (encM ((ordM n).filter T))), some (.p (.int (n : Nat))), some (.o p), some (.p (.int (i : Nat))), x4, x5, x6] ds = some (.nx sl', ds ++ (oddsI n T i).map encOd) ∧ ∃ y4 y5 y6, sl' = [some (.p (encM ((ordM n).filter T))), some (.p (.int (n : Nat))), some (.o p), some (.p (.int (i : Nat))), y4, y5, y6] := by
    intro i hi ds x4 x5 x6 hds
    have key := forGoA_of (step := fun x sl ds => match u1 4 x sl with
      | none => none
      | some sl' => (sSeqA (sLft (sPar 5 6 (eCons (eCall g_L_beaten (eCons (eVar 0) (eCons (eVar 1) (eCons (eVar 3) (eCons (eVar 4) eNil))))) (eCons (eCall g_L_beaten (eCons (eVar 0) (eCons (eVar 1) (eCons (eVar 4) (eCons (eVar 3) eNil))))) eNil)))) (sSeqA (sIfA (eAnd (eB gIsNot (eVar 5) (eC .none)) (eB gIsNot (eVar 6) (eC .none))) (sSeqA (sApp 2 (eData (eCons (eVar 3) (eCons (eVar 4) (eCons (eVar 5) (eCons (eVar 6) eNil)))) kTup)) sNilA) sNilA) sNilA)) p ⟨sl', ob⟩ ds)
      (enc := fun k => PyData.int ((i + 1 + k : Nat) : Int)) (add := fun k => (oddsJ n T i (i + 1 + k)).map encOd) (lim := 64)
      (Inv := fun sl => ∃ y4 y5 y6, sl = [some (.p (encM ((ordM n).filter T))), some (.p (.int (n : Nat))), some (.o p), some (.p (.int (i : Nat))), y4, y5, y6])
      (List.range (n - (i + 1))) [some (.p (encM ((ordM n).filter T))), some (.p (.int (n : Nat))), some (.o p), some (.p (.int (i : Nat))), x4, x5, x6] ds (fun k hk sl ds hsl hlen => by
        obtain ⟨y4, y5, y6, rfl⟩ := hsl
        have hk := List.mem_range.mp hk
        have hj : i + 1 + k < n := by omega
        generalize hjj : i + 1 + k = j at hj hlen ⊢
        have pr : sPar 5 6 (eCons (eCall g_L_beaten (eCons (eVar 0) (eCons (eVar 1) (eCons (eVar 3) (eCons (eVar 4) eNil))))) (eCons (eCall g_L_beaten (eCons (eVar 0) (eCons (eVar 1) (eCons (eVar 4) (eCons (eVar 3) eNil))))) eNil)) ⟨[some (.p (encM ((ordM n).filter T))), some (.p (.int (n : Nat))), some (.o p), some (.p (.int (i : Nat))), some (.p (.int (j : Nat))), y5, y6], ob⟩ = some (.nx [some (.p (encM ((ordM n).filter T))), some (.p (.int (n : Nat))), some (.o p), some (.p (.int (i : Nat))), some (.p (.int (j : Nat))), some (.p (encO (bt n T i j))), some (.p (encO (bt n T j i)))]) := by
          have c1 : eCall g_L_beaten (eCons (eVar 0) (eCons (eVar 1) (eCons (eVar 3) (eCons (eVar 4) eNil)))) ⟨[some (.p (encM ((ordM n).filter T))), some (.p (.int (n : Nat))), some (.o p), some (.p (.int (i : Nat))), some (.p (.int (j : Nat))), y5, y6], ob⟩ = some (.p (encO (bt n T i j))) := eCall_of (eCons_of rfl (eCons_of rfl (eCons_of rfl (eCons_of rfl rfl)))) (v_L_beaten ob h1 h2 T hi hj)
          have c2 : eCall g_L_beaten (eCons (eVar 0) (eCons (eVar 1) (eCons (eVar 4) (eCons (eVar 3) eNil)))) ⟨[some (.p (encM ((ordM n).filter T))), some (.p (.int (n : Nat))), some (.o p), some (.p (.int (i : Nat))), some (.p (.int (j : Nat))), y5, y6], ob⟩ = some (.p (encO (bt n T j i))) := eCall_of (eCons_of rfl (eCons_of rfl (eCons_of rfl (eCons_of rfl rfl)))) (v_L_beaten ob h1 h2 T hj hi)
          exact sPar_of (eCons_of c1 (eCons_of c2 rfl))
        refine ⟨_, ?_, some (.p (.int (j : Nat))), some (.p (encO (bt n T i j))), some (.p (encO (bt n T j i))), rfl⟩
        show sSeqA _ _ p ⟨[some (.p (encM ((ordM n).filter T))), some (.p (.int (n : Nat))), some (.o p), some (.p (.int (i : Nat))), some (.p (.int (j : Nat))), y5, y6], ob⟩ ds = _
        refine sSeqA_nx (sLft_of pr) (sSeqA_nx ?_ rfl)
        unfold oddsJ at hlen ⊢
        cases ha : bt n T i j with
        | none => exact (sIfA_f (eAnd_f (eB_of rfl rfl rfl)) rfl).trans (by rw [List.map_nil, List.append_nil]; rfl)
        | some a =>
          cases hb : bt n T j i with
          | none => exact (sIfA_f ((eAnd_t (eB_of rfl rfl rfl) (eB_of rfl rfl rfl))) rfl).trans (by rw [List.map_nil, List.append_nil]; rfl)
          | some b =>
            rw [ha, hb] at hlen
            have hlen : ds.length + 1 ≤ 64 := by simpa using hlen
            exact sIfA_t (eAnd_t (eB_of rfl rfl rfl) (eB_of rfl rfl rfl)) (sSeqA_nx (sApp_of rfl (eData_of (xs := [.int (i : Nat), .int (j : Nat), encL (lotOf a), encL (lotOf b)]) (eCons_of rfl (eCons_of rfl (eCons_of rfl (eCons_of rfl rfl)))) (kTup_of (by show 4 ≤ 1000; decide))) (by omega)) rfl)) ⟨x4, x5, x6, rfl⟩ (by
        rw [← List.map_flatMap, List.length_append, List.length_map]
        have := oddsI_len h2 T i
        unfold oddsI at this
        omega)
    obtain ⟨sl', h, hsl⟩ := key
    refine ⟨sl', ?_, hsl⟩
    rw [← List.map_flatMap] at h
    exact h
  have outer := forGoA_of (step := fun x sl ds => match u1 3 x sl with
      | none => none
      | some sl' => (sSeqA (sForA (eRange2 (eCons (eB gAdd (eVar 3) (eC (.int 1))) (eCons (eVar 1) eNil))) (u1 4) (sSeqA (sLft (sPar 5 6 (eCons (eCall g_L_beaten (eCons (eVar 0) (eCons (eVar 1) (eCons (eVar 3) (eCons (eVar 4) eNil))))) (eCons (eCall g_L_beaten (eCons (eVar 0) (eCons (eVar 1) (eCons (eVar 4) (eCons (eVar 3) eNil))))) eNil)))) (sSeqA (sIfA (eAnd (eB gIsNot (eVar 5) (eC .none)) (eB gIsNot (eVar 6) (eC .none))) (sSeqA (sApp 2 (eData (eCons (eVar 3) (eCons (eVar 4) (eCons (eVar 5) (eCons (eVar 6) eNil)))) kTup)) sNilA) sNilA) sNilA))) sNilA) p ⟨sl', ob⟩ ds)
    (enc := fun i => PyData.int ((i : Nat) : Int)) (add := fun i => (oddsI n T i).map encOd) (lim := 58)
    (Inv := fun sl => ∃ y3 y4 y5 y6, sl = [some (.p (encM ((ordM n).filter T))), some (.p (.int (n : Nat))), some (.o p), y3, y4, y5, y6])
    (List.range n) [some (.p (encM ((ordM n).filter T))), some (.p (.int (n : Nat))), some (.o p), none, none, none, none] [] (fun i hi sl ds hsl hlen => by
      obtain ⟨y3, y4, y5, y6, rfl⟩ := hsl
      have hi := List.mem_range.mp hi
      obtain ⟨sl', h, z4, z5, z6, hz⟩ := inner i hi ds y4 y5 y6 (by omega)
      refine ⟨sl', ?_, _, z4, z5, z6, hz⟩
      have src : eRange2 (eCons (eB gAdd (eVar 3) (eC (.int 1))) (eCons (eVar 1) eNil)) ⟨[some (.p (encM ((ordM n).filter T))), some (.p (.int (n : Nat))), some (.o p), some (.p (.int (i : Nat))), y4, y5, y6], ob⟩ = some ((List.range (n - (i + 1))).map fun k => .int ((i + 1 + k : Nat) : Int)) := by
        have e1 : eB gAdd (eVar 3) (eC (.int 1)) ⟨[some (.p (encM ((ordM n).filter T))), some (.p (.int (n : Nat))), some (.o p), some (.p (.int (i : Nat))), y4, y5, y6], ob⟩ = some (.p (.int ((i : Int) + 1))) := eB_of rfl rfl rfl
        refine (eRange2_of (i := (i : Int) + 1) (j := (n : Int)) (eCons_of e1 (eCons_of rfl rfl)) (by omega) (by omega) (by omega) (by omega)).trans ?_
        unfold numsD
        have e2 : ((n : Int) - ((i : Int) + 1)).toNat = n - (i + 1) := by omega
        rw [e2]
        refine congrArg some (List.map_congr_left fun k _ => ?_)
        congr 1
      exact sSeqA_nx ((sForA_of src).trans h) rfl) ⟨none, none, none, none, rfl⟩ (by
      rw [← List.map_flatMap, List.nil_append, List.length_map]
      have := oddsL_len h2 T
      unfold oddsL at this
      omega)
  obtain ⟨sl', h, z3, z4, z5, z6, rfl⟩ := outer
  rw [← List.map_flatMap, List.nil_append] at h
  exact ⟨_, sSeqA_nx ((sForA_of (rng_of (eCons_of rfl rfl) (by omega))).trans h) (sSeqA_ret (sRetA_of rfl rfl))⟩
end RB
set_option Elab.async false
set_option linter.all false
set_option maxRecDepth 100000
set_option maxHeartbeats 2000000
/-! The plain law: masks, tables. -/
namespace RB
open PySem PySem.Spec PyProof.Rows L2
open PySem.W (AllAlike Sortable dataLe)
theorem gAnd_nat (a b : Nat) : gAnd (.int (a : Nat)) (.int (b : Nat)) = some (.int ((a &&& b : Nat) : Int)) := by
  show some (PyData.int (Builtin.bitAnd (a : Int) (b : Int))) = _
  rw [bitAnd_pp (by omega) (by omega), Int.toNat_natCast, Int.toNat_natCast]
theorem gOr_nat (a b : Nat) : gOr (.int (a : Nat)) (.int (b : Nat)) = some (.int ((a ||| b : Nat) : Int)) := by
  have h1 : ∀ x : Nat, ¬ 0 ≤ Builtin.bitNot (x : Int) := fun x => by unfold Builtin.bitNot; omega
  have h2 : ∀ x : Nat, Builtin.bitNot (Builtin.bitNot (x : Int)) = (x : Int) := fun x => by unfold Builtin.bitNot; omega
  show some (PyData.int (Builtin.bitNot (Builtin.bitAnd (Builtin.bitNot (a : Int)) (Builtin.bitNot (b : Int))))) = _
  rw [bitAnd_nn (h1 a) (h1 b), h2, h2, h2, Int.toNat_natCast, Int.toNat_natCast]
/-- mask & ~one -/
theorem gAnd_inv (a b : Nat) : gAnd (.int (a : Nat)) (.int (Builtin.bitNot (b : Int))) = some (.int ((a - (a &&& b) : Nat) : Int)) := by
  show some (PyData.int (Builtin.bitAnd (a : Int) (Builtin.bitNot (b : Int)))) = _
  rw [bitAnd_not, bitAnd_pp (by omega) (by omega), Int.toNat_natCast, Int.toNat_natCast]
  have : a &&& b ≤ a := Nat.and_le_left
  congr 2
  omega
theorem gShl_1 {b : Nat} (h : b ≤ 1000) : gShl (.int 1) (.int (b : Nat)) = some (.int ((2 ^ b : Nat) : Int)) := by
  have c : CPow 1 (b : Int) := ⟨by omega, by omega, by decide⟩
  show (if decide (CPow 1 (b : Int)) = true then some (PyData.int (1 * 2 ^ (b : Int).toNat)) else none) = _
  rw [if_pos (decide_eq_true c), Int.toNat_natCast, Int.one_mul]
  congr 2
theorem gShr_nat (m b : Nat) : gShr (.int (m : Nat)) (.int (b : Nat)) = some (.int ((m / 2 ^ b : Nat) : Int)) := by
  show (if decide (0 ≤ (b : Int)) = true then some (PyData.int ((m : Int) / 2 ^ (b : Int).toNat)) else none) = _
  rw [if_pos (decide_eq_true (by omega)), Int.toNat_natCast]
  congr 2
theorem gEq_nat (a b : Nat) : gEq (.int (a : Nat)) (.int (b : Nat)) = some (.bool (decide (a = b))) := gEq_of (k := 0) (.int _) (.int _) (by
  rw [eqv_int]
  exact decide_eq_decide.mpr Int.ofNat_inj)
/-- mask >> bar & 1 -/
theorem bit_of {ob : Ob} {sl : List (Option D)} {f1 f2 : Ev} {m b : Nat} (h1 : f1 ⟨sl, ob⟩ = some (.p (.int (m : Nat)))) (h2 : f2 ⟨sl, ob⟩ = some (.p (.int (b : Nat)))) : eB gAnd (eB gShr f1 f2) (eC (.int 1)) ⟨sl, ob⟩ = some (.p (.int ((if m.testBit b = true then 1 else 0 : Nat) : Int))) := by
  refine eB_of (eB_of h1 h2 (gShr_nat m b)) (b := .int ((1 : Nat) : Int)) rfl ?_
  rw [gAnd_nat]
  congr 3
  rw [Nat.and_one_is_mod, Nat.testBit_eq_decide_div_mod_eq]
  by_cases h : m / 2 ^ b % 2 = 1
  · rw [decide_eq_true h, if_pos rfl, h]
  · rw [decide_eq_false h, if_neg (by simp)]
    omega
theorem v_lot_of (ob : Ob) (m : Nat) : g_lot_of ob [.p (.int (m : Nat))] = some (.p (encL (lotOf m))) := by
  have e : eComp (eRange (eCons (eC (.int 6)) eNil)) (u1 1) (eB gEq (eB gAnd (eB gShr (eVar 0) (eVar 1)) (eC (.int 1))) (eC (.int 1))) (eVar 1) [1] ⟨[some (.p (.int (m : Nat))), none], ob⟩ = some (.p (.list ((lotOf m).map fun b => .int (b : Nat)))) :=
    eComp_of (rng_of (n := 6) (eCons_of rfl rfl) (by decide)) (by rw [List.length_map, List.length_range]; have := thousand; omega) (compGo_enc (p := fun b => m.testBit b) (e := fun b : Nat => PyData.int (b : Nat)) _ fun b _ => by
      refine stepOf_if rfl (eB_of (bit_of rfl rfl) (b := .int ((1 : Nat) : Int)) rfl ?_) fun _ => rfl
      rw [gEq_nat]
      cases m.testBit b <;> rfl)
  exact runE_ret rfl (sRet1 (eData1 e rfl))
theorem v_mask_of (ob : Ob) {l : List Nat} {d : PyData} (hd : d = encL l ∨ d = .list (l.map fun b => .int (b : Nat))) (hl : l.length ≤ 1000) (hb : ∀ b ∈ l, b ≤ 1000) : g_mask_of ob [.p d] = some (.p (.int (maskOf l : Nat))) := by
  have src : eSeq (eVar 0) ⟨[some (.p d), none], ob⟩ = some (l.map fun b => .int (b : Nat)) := by
    rcases hd with rfl | rfl
    · exact eSeq_t rfl
    · exact eSeq_l rfl
  have e : eComp (eSeq (eVar 0)) (u1 1) (eC (.bool true)) (eB gShl (eC (.int 1)) (eVar 1)) [1] ⟨[some (.p d), none], ob⟩ = some (.p (.list ((l.map fun b => 2 ^ b).map fun b => .int (b : Nat)))) := by
    rw [List.map_map]
    exact eComp_of src (by rw [List.length_map]; have := thousand; omega) (compGo_all l fun b hbm => stepOf_all rfl (eB_of rfl rfl (gShl_1 (hb b hbm))))
  exact runE_ret rfl (sRet1 (eData1 e (gSum_l _)))
theorem v_mask_lot (ob : Ob) {m : Nat} (hm : m < 64) : g_mask_of ob [.p (encL (lotOf m))] = some (.p (.int (m : Nat))) := by
  have := v_mask_of ob (l := lotOf m) (.inl rfl) (by have := lot_short m; omega) fun b hb => by have := (mem_lotOf.mp hb).1; omega
  rw [mask_lot m hm] at this
  exact this
/-- the table by the lots of these masks -/
def tabM (ms : List Nat) (m : Nat) : Bool := ms.any fun x => decide (m &&& x = m)
theorem gAny_l (bs : List Bool) : gAny [.list (bs.map .bool)] = some (.bool (bs.any id)) := by
  show (allBools (bs.map .bool)).map (fun bs => PyData.bool (bs.any id)) = _
  rw [allBools_map]; rfl
theorem gAll_l (bs : List Bool) : gAll [.list (bs.map .bool)] = some (.bool (bs.all id)) := by
  show (allBools (bs.map .bool)).map (fun bs => PyData.bool (bs.all id)) = _
  rw [allBools_map]; rfl
theorem v_table_by (ob : Ob) {n : Nat} (hn : n ≤ 6) {ms : List Nat} (hm : ∀ m ∈ ms, m < 64) (hl : ms.length ≤ 1000) : g_table_by ob [.p (.int (n : Nat)), .p (encM ms)] = some (.p (encT n (tabM ms))) := by
  have p6 := pow_le6 hn
  have e1 : eComp (eSeq (eVar 1)) (u1 3) (eC (.bool true)) (eCall g_mask_of (eCons (eVar 3) eNil)) [3] ⟨[some (.p (.int (n : Nat))), some (.p (encM ms)), none, none, none, none], ob⟩ = some (.p (.list (ms.map fun m => .int (m : Nat)))) :=
    eComp_of (eSeq_l rfl) (by rw [List.length_map]; have := thousand; omega) (compGo_all (enc := fun m => encL (lotOf m)) (e := fun m : Nat => PyData.int (m : Nat)) ms fun m hmm => stepOf_all rfl (eCall_of (eCons_of rfl rfl) (v_mask_lot ob (hm m hmm))))
  have e2 : eRange (eCons (eB gShl (eC (.int 1)) (eVar 0)) eNil) ⟨[some (.p (.int (n : Nat))), some (.p (encM ms)), some (.p (.list (ms.map fun m => .int (m : Nat)))), none, none, none], ob⟩ = some ((List.range (2 ^ n)).map fun k => .int (k : Nat)) := rng_of (eCons_of (eB_of rfl rfl (gShl_1 (by omega))) rfl) (by omega)
  refine runE_ret rfl (sSeq_nx (sAsg_of e1) (sRet1 (eComp_of e2 (by rw [List.length_map, List.length_range]; have := thousand; omega) (compGo_all (e := fun m => PyData.bool (tabM ms m)) _ fun m _ => stepOf_all rfl ?_))))
  have e3 : eComp (eSeq (eVar 2)) (u1 5) (eC (.bool true)) (eB gEq (eB gAnd (eVar 4) (eU gInv (eVar 5))) (eC (.int 0))) [5] ⟨[some (.p (.int (n : Nat))), some (.p (encM ms)), some (.p (.list (ms.map fun m => .int (m : Nat)))), none, some (.p (.int (m : Nat))), none], ob⟩ = some (.p (.list ((ms.map fun x => decide (m &&& x = m)).map .bool))) := by
    rw [List.map_map]
    refine eComp_of (eSeq_l rfl) (by rw [List.length_map]; have := thousand; omega) (compGo_all (enc := fun m : Nat => PyData.int (m : Nat)) ms fun x _ => stepOf_all rfl (eB_of (eB_of rfl (eU_of rfl rfl) (gAnd_inv m x)) (b := .int ((0 : Nat) : Int)) rfl ?_))
    rw [gEq_nat]
    have : m &&& x ≤ m := Nat.and_le_left
    refine congrArg (fun b => some (PyData.bool b)) (decide_eq_decide.mpr ?_)
    omega
  refine eData1 e3 ((gAny_l _).trans ?_)
  unfold tabM
  rw [List.any_map]
  rfl
end RB
set_option Elab.async false
set_option linter.all false
set_option maxRecDepth 100000
set_option maxHeartbeats 2000000
/-! The plain law: parted tables, greatest lots of a table. -/
namespace RB
open PySem PySem.Spec PyProof.Rows L2
open PySem.W (AllAlike Sortable dataLe)
theorem enumD_map {α : Type} (e : α → PyData) : ∀ (l : List α) (k : Nat), enumD k (l.map e) = (l.zipIdx k).map fun p => .tuple [.int (p.2 : Nat), e p.1]
  | [], _ => rfl
  | x :: l, k => by
    rw [List.map_cons, List.zipIdx_cons, List.map_cons]
    show PyData.tuple [.int (k : Nat), e x] :: enumD (k + 1) (l.map e) = _
    rw [enumD_map e l (k + 1)]
theorem zipIdx_range (n : Nat) : (List.range n).zipIdx = (List.range n).map fun m => (m, m) := by
  apply List.ext_getElem
  · simp
  · intro i h1 h2
    simp
/-- enumerate(table) -/
theorem enum_T {fs : Evs} {Γ : Gm} {n : Nat} {T : Nat → Bool} (h : fs Γ = some [.p (encT n T)]) : eEnum fs Γ = some ((List.range (2 ^ n)).map fun m => .tuple [.int (m : Nat), .bool (T m)]) := by
  rw [eEnum_of h]
  congr 1
  rw [enumD_map (fun m => PyData.bool (T m)), zipIdx_range, List.map_map]
  rfl
theorem encT_congr {n : Nat} {T T' : Nat → Bool} (h : ∀ m, m < 2 ^ n → T m = T' m) : encT n T = encT n T' := by
  unfold encT
  refine congrArg PyData.list (List.map_congr_left fun m hm => ?_)
  rw [h m (List.mem_range.mp hm)]
theorem gNe_bool (a b : Bool) : gNe (.bool a) (.bool b) = some (.bool (!decide (a = b))) := gNe_of (k := 0) (.bool _) (.bool _) (by
  simp only [PyData.eqv]
  cases a <;> cases b <;> rfl)
theorem gNe_bool' {a b : Bool} (h : a = !b) : gNe (.bool a) (.bool b) = some (.bool true) := by
  rw [gNe_bool, h]
  cases b <;> rfl
theorem v_is_parted (ob : Ob) {n : Nat} (hn : n ≤ 6) {T : Nat → Bool} (G : Good n T) : g_is_parted ob [.p (encT n T)] = some (.p (.bool true)) := by
  have p6 := pow_le6 hn
  have e : eComp (eEnum (eCons (eVar 0) eNil)) (u2 1 2) (eC (.bool true)) (eB gNe (eVar 2) (eB gIx (eVar 0) (eB gSub (eU gNeg (eC (.int 1))) (eVar 1)))) [1, 2] ⟨[some (.p (encT n T)), none, none], ob⟩ = some (.p (.list (((List.range (2 ^ n)).map fun _ => true).map .bool))) := by
    rw [List.map_map]
    refine eComp_of (enum_T (eCons_of rfl rfl)) (by rw [List.length_map, List.length_range]; have := thousand; omega) (compGo_all _ fun m hm => stepOf_all rfl (eB_of rfl (eB_of rfl (eB_of (eU_of rfl rfl) rfl rfl) ?_) (gNe_bool' (a := T m) (b := T (2 ^ n - 1 - m)) ?_)))
    · have hm2 := List.mem_range.mp hm
      show atI ((List.range (2 ^ n)).map fun m => PyData.bool (T m)) (-1 - (m : Int)) = _
      rw [atI_back _ _ (by rw [List.length_map, List.length_range]; exact hm2), List.length_map, List.length_range, List.getElem?_map, List.getElem?_range (by omega)]
      rfl
    · rw [G.dual m (List.mem_range.mp hm), Bool.not_not]
  refine runE_ret rfl (sRet1 (eData1 e ((gAll_l _).trans ?_)))
  rw [List.all_map]
  congr 2
  rw [List.all_eq_true]; exact fun _ _ => rfl
/-! ### greatest lots -/
def isTop (n : Nat) (T : Nat → Bool) (m : Nat) : Bool := T m && !(((List.range 6).filter fun b => decide (2 ^ b < 2 ^ n) && !m.testBit b).any fun b => T (m ||| 2 ^ b))
theorem or_lt {n m b : Nat} (hm : m < 2 ^ n) (hb : 2 ^ b < 2 ^ n) : m ||| 2 ^ b < 2 ^ n := Nat.or_lt_two_pow hm hb
theorem v_greatest_of (ob : Ob) {n : Nat} (h1 : 3 ≤ n) (h2 : n ≤ 6) (T : Nat → Bool) : g_greatest_of ob [.p (encT n T)] = some (.p (encM ((ordM n).filter (isTop n T)))) := by
  have p6 := pow_le6 h2
  have lenT : gLen [encT n T] = some (.int ((2 ^ n : Nat) : Int)) := by
    unfold encT
    rw [gLen_l, List.length_range]
  have turn : ∀ (p : Addr) (m : Nat), m < 2 ^ n → ∀ (x4 x5 x6 : Option D), eComp (eRange (eCons (eC (.int 6)) eNil)) (u1 5) (eAnd (eB gLt (eB gShl (eC (.int 1)) (eVar 5)) (eData (eCons (eVar 0) eNil) gLen)) (eB gEq (eB gAnd (eB gShr (eVar 2) (eVar 5)) (eC (.int 1))) (eC (.int 0)))) (eB gOr (eVar 2) (eB gShl (eC (.int 1)) (eVar 5))) [5] ⟨[some (.p (encT n T)), some (.o p), some (.p (.int (m : Nat))), some (.p (.bool (T m))), x4, x5, x6], ob⟩ = some (.p (.list (((List.range 6).filter fun b => decide (2 ^ b < 2 ^ n) && !m.testBit b).map fun b => .int ((m ||| 2 ^ b : Nat) : Int)))) := fun p m hm x4 x5 x6 =>
    eComp_of (rng_of (n := 6) (eCons_of rfl rfl) (by decide)) (by rw [List.length_map, List.length_range]; have := thousand; omega) (compGo_enc (p := fun b => decide (2 ^ b < 2 ^ n) && !m.testBit b) (e := fun b : Nat => PyData.int ((m ||| 2 ^ b : Nat) : Int)) _ fun b hb => by
      have hb6 := List.mem_range.mp hb
      refine stepOf_if rfl (eAnd_of (eB_of (eB_of rfl rfl (gShl_1 (by omega))) (eData1 rfl lenT) ?_) fun _ => eB_of (bit_of rfl rfl) (b := .int ((0 : Nat) : Int)) rfl ?_) fun _ => eB_of rfl (eB_of rfl rfl (gShl_1 (by omega))) (gOr_nat _ _)
      · show some (PyData.bool (decide (((2 ^ b : Nat) : Int) < ((2 ^ n : Nat) : Int)))) = _
        exact congrArg (fun b => some (PyData.bool b)) (decide_eq_decide.mpr Int.ofNat_lt)
      · rw [gEq_nat]
        cases m.testBit b <;> rfl)
  have any_ : ∀ (p : Addr) (m : Nat), m < 2 ^ n → ∀ (x5 x6 : Option D), eAnd (eVar 3) (eU gNot (eData (eCons (eComp (eSeq (eVar 4)) (u1 6) (eC (.bool true)) (eB gIx (eVar 0) (eVar 6)) [6]) eNil) gAny)) ⟨[some (.p (encT n T)), some (.o p), some (.p (.int (m : Nat))), some (.p (.bool (T m))), some (.p (.list (((List.range 6).filter fun b => decide (2 ^ b < 2 ^ n) && !m.testBit b).map fun b => .int ((m ||| 2 ^ b : Nat) : Int)))), x5, x6], ob⟩ = some (.p (.bool (isTop n T m))) := fun p m hm x5 x6 => by
    have e : eComp (eSeq (eVar 4)) (u1 6) (eC (.bool true)) (eB gIx (eVar 0) (eVar 6)) [6] ⟨[some (.p (encT n T)), some (.o p), some (.p (.int (m : Nat))), some (.p (.bool (T m))), some (.p (.list (((List.range 6).filter fun b => decide (2 ^ b < 2 ^ n) && !m.testBit b).map fun b => .int ((m ||| 2 ^ b : Nat) : Int)))), x5, x6], ob⟩ = some (.p (.list ((((List.range 6).filter fun b => decide (2 ^ b < 2 ^ n) && !m.testBit b).map fun b => T (m ||| 2 ^ b)).map .bool))) := by
      rw [List.map_map]
      refine eComp_of (eSeq_l rfl) (by
        rw [List.length_map]
        have := List.length_filter_le (fun b => decide (2 ^ b < 2 ^ n) && !m.testBit b) (List.range 6)
        rw [List.length_range] at this
        have := thousand
        omega) (compGo_all _ fun b hb => stepOf_all rfl (eB_of rfl rfl (gIx_T ?_)))
      rw [List.mem_filter, Bool.and_eq_true, decide_eq_true_eq] at hb
      exact or_lt hm hb.2.1
    unfold isTop
    refine eAnd_of rfl fun _ => eNot_of ((eData1 e (gAny_l _)).trans ?_)
    rw [List.any_map]
    rfl
  have flen := filter_len h1 h2 (isTop n T)
  have perm : ((ordM n).filter (isTop n T)).Perm ((List.range (2 ^ n)).filter (isTop n T)) := (ordM_perm n h1 h2).filter _
  refine runE_ret rfl (sNew_eq fun p => ?_)
  have loop := forGoA_of (step := fun x sl ds => match u2 2 3 x sl with
      | none => none
      | some sl' => (sSeqA (sLft (sAsg (eComp (eRange (eCons (eC (.int 6)) eNil)) (u1 5) (eAnd (eB gLt (eB gShl (eC (.int 1)) (eVar 5)) (eData (eCons (eVar 0) eNil) gLen)) (eB gEq (eB gAnd (eB gShr (eVar 2) (eVar 5)) (eC (.int 1))) (eC (.int 0)))) (eB gOr (eVar 2) (eB gShl (eC (.int 1)) (eVar 5))) [5]) 4)) (sSeqA (sIfA (eAnd (eVar 3) (eU gNot (eData (eCons (eComp (eSeq (eVar 4)) (u1 6) (eC (.bool true)) (eB gIx (eVar 0) (eVar 6)) [6]) eNil) gAny))) (sSeqA (sApp 1 (eCall g_lot_of (eCons (eVar 2) eNil))) sNilA) sNilA) sNilA)) p ⟨sl', ob⟩ ds)
    (enc := fun m => PyData.tuple [.int (m : Nat), .bool (T m)]) (add := fun m => if isTop n T m = true then [encL (lotOf m)] else []) (lim := 64)
    (Inv := fun sl => ∃ x2 x3 x4 x5 x6, sl = [some (.p (encT n T)), some (.o p), x2, x3, x4, x5, x6])
    (List.range (2 ^ n)) [some (.p (encT n T)), some (.o p), none, none, none, none, none] [] (fun m hm sl ds hsl hlen => by
      obtain ⟨x2, x3, x4, x5, x6, rfl⟩ := hsl
      have hm2 := List.mem_range.mp hm
      refine ⟨_, ?_, some (.p (.int (m : Nat))), some (.p (.bool (T m))), some (.p (.list (((List.range 6).filter fun b => decide (2 ^ b < 2 ^ n) && !m.testBit b).map fun b => .int ((m ||| 2 ^ b : Nat) : Int)))), x5, x6, rfl⟩
      show sSeqA _ _ p ⟨[some (.p (encT n T)), some (.o p), some (.p (.int (m : Nat))), some (.p (.bool (T m))), x4, x5, x6], ob⟩ ds = _
      refine sSeqA_nx (sLft_of (sAsg_of (turn p m hm2 x4 x5 x6))) (sSeqA_nx ?_ rfl)
      have an := any_ p m hm2 x5 x6
      cases hg : isTop n T m with
      | true =>
        rw [hg, if_pos rfl] at hlen
        have hlen : ds.length + 1 ≤ 64 := hlen
        rw [hg] at an
        rw [if_pos rfl]
        exact sIfA_t an (sSeqA_nx (sApp_of rfl (eCall_of (eCons_of rfl rfl) (v_lot_of ob m)) (by omega)) rfl)
      | false =>
        rw [hg] at an
        rw [if_neg (by simp), List.append_nil]
        exact sIfA_f an rfl) ⟨none, none, none, none, none, rfl⟩ (by
      rw [flatMap_if, List.nil_append, List.length_map, ← perm.length_eq]
      exact flen)
  obtain ⟨sl', h, x2, x3, x4, x5, x6, rfl⟩ := loop
  rw [flatMap_if, List.nil_append] at h
  have e4 := gSortK_L (perm.map lotOf) (filter_sorted h1 h2 (isTop n T))
  rw [← encM_eq, List.map_map] at e4
  exact ⟨_, sSeqA_nx ((sForA_of (enum_T (eCons_of rfl rfl))).trans h) (sSeqA_ret (sRetA_of rfl (eU_of rfl e4)))⟩
end RB
set_option Elab.async false
set_option linter.all false
set_option maxRecDepth 100000
set_option maxHeartbeats 2000000
/-! The plain law: what a book takes. -/
namespace RB
open PySem PySem.Spec PyProof.Rows L2
open PySem.W (AllAlike Sortable dataLe)
/-- a list, or a tuple -/
def sq (t : Bool) (ds : List PyData) : PyData := if t = true then .tuple ds else .list ds
theorem sq_cases (t : Bool) (ds : List PyData) : sq t ds = .list ds ∨ sq t ds = .tuple ds := by
  cases t
  · exact .inl rfl
  · exact .inr rfl
theorem eSeq_sq {f : Ev} {Γ : Gm} {t : Bool} {ds : List PyData} (h : f Γ = some (.p (sq t ds))) : eSeq f Γ = some ds := by
  cases t
  · exact eSeq_l h
  · exact eSeq_t h
theorem isSeq_sq (t : Bool) (ds : List PyData) : isSeq (sq t ds) = true := by cases t <;> rfl
theorem gLen_sq {α : Type} (t : Bool) (l : List α) (e : α → PyData) : gLen [sq t (l.map e)] = some (.int (l.length : Nat)) := by
  cases t
  · exact gLen_l l e
  · exact gLen_t l e
theorem gTuple_sq (t : Bool) (ds : List PyData) : gTuple [sq t ds] = some (.tuple ds) := by cases t <;> rfl
theorem gSum_sq (t : Bool) (l : List Nat) : gSum [sq t (l.map fun b => .int (b : Nat))] = some (.int (l.sum : Nat)) := by
  cases t
  · exact gSum_l l
  · exact gSum_t l
/-- numbers in a list or a tuple -/
def encS (t : Bool) (l : List Nat) : PyData := sq t (l.map fun b => .int (b : Nat))
theorem encS_true (l : List Nat) : encS true l = encL l := rfl
theorem v_is_integer (ob : Ob) (i : Int) : g_is_integer ob [.p (.int i)] = some (.p (.bool true)) := by
  exact runE_ret rfl (sRet1 (eAnd_t (eU_of (x := .int i) rfl rfl) (eNot_of (p := false) (eU_of (x := .int i) rfl rfl))))
theorem v_is_within (ob : Ob) (i lo hi : Int) : g_is_within ob [.p (.int i), .p (.int lo), .p (.int hi)] = some (.p (.bool (!decide (i < lo) && decide (i ≤ hi)))) := by
  have c : eOr (eU gNot (eCall g_is_integer (eCons (eVar 0) eNil))) (eAnd (eB gIsNot (eVar 1) (eC .none)) (eB gLt (eVar 0) (eVar 1))) ⟨[some (.p (.int i)), some (.p (.int lo)), some (.p (.int hi))], ob⟩ = some (.p (.bool (decide (i < lo)))) :=
    eOr_f (eNot_of (p := true) (eCall_of (eCons_of rfl rfl) (v_is_integer ob i))) (eAnd_t (eB_of rfl rfl rfl) (eB_of rfl rfl rfl))
  refine runE_ret rfl ?_
  cases h : decide (i < lo) with
  | true =>
    rw [h] at c
    exact sSeq_ret (sIf_t c (sRet1 rfl))
  | false =>
    rw [h] at c
    exact sSeq_nx (sIf_f c rfl) (sRet1 (eOr_f (eB_of rfl rfl rfl) (eB_of rfl rfl rfl)))
theorem v_is_numbers (ob : Ob) (t : Bool) {l : List Nat} (hl : l.length ≤ 1000) : g_is_numbers ob [.p (encS t l)] = some (.p (.bool true)) := by
  have e : eComp (eSeq (eVar 0)) (u1 1) (eC (.bool true)) (eCall g_is_integer (eCons (eVar 1) eNil)) [1] ⟨[some (.p (encS t l)), none], ob⟩ = some (.p (.list ((l.map fun _ => true).map .bool))) := by
    rw [List.map_map]
    exact eComp_of (eSeq_sq rfl) (by rw [List.length_map]; have := thousand; omega) (compGo_all l fun b _ => stepOf_all rfl (eCall_of (eCons_of rfl rfl) (v_is_integer ob _)))
  refine runE_ret rfl (sRet1 (eAnd_t (eU_of rfl (by rw [show isSeq (encS t l) = true from isSeq_sq t _])) (eData1 e ((gAll_l _).trans ?_))))
  rw [List.all_map]
  exact congrArg (fun b => some (PyData.bool b)) (List.all_eq_true.mpr fun _ _ => rfl)
theorem v_first_twice (ob : Ob) (t : Bool) {l : List Nat} (hl : l.length ≤ 1000) (hn : l.Nodup) : g_first_twice ob [.p (encS t l)] = some (.p .none) := by
  have s : seqI (encS t l) = some (l.map fun b => ((b : Nat) : Int)) := by
    cases t
    · exact allInts_nats l
    · exact allInts_nats l
  show (match seqI (encS t l) with
    | some ns => if ns.Nodup ∧ ns.length ≤ sizeLine then some (D.p .none) else none
    | none => none) = _
  rw [s]
  dsimp only
  rw [if_pos]
  refine ⟨?_, by rw [List.length_map]; have := thousand; omega⟩
  exact List.Pairwise.map _ (fun a b h z => h (Int.ofNat_inj.mp z)) hn
theorem v_need_lot_of (ob : Ob) (t : Bool) {n : Nat} {l : List Nat} (part : PyData) (hl : l.length ≤ 1000) (hn : l.Nodup) (hb : ∀ b ∈ l, b < n) : g_need_lot_of ob [.p (.int (n : Nat)), .p (encS t l), .p part] = some (.p .none) := by
  have c1 : eU gNot (eCall g_is_numbers (eCons (eVar 1) eNil)) ⟨[some (.p (.int (n : Nat))), some (.p (encS t l)), some (.p part), none, none], ob⟩ = some (.p (.bool false)) := eNot_of (p := true) (eCall_of (eCons_of rfl rfl) (v_is_numbers ob t hl))
  obtain ⟨sl', loop, x, rfl⟩ := forGo_nx (step := fun x sl => match u1 3 x sl with
      | none => none
      | some sl' => (sSeq (sIf (eU gNot (eCall g_is_within (eCons (eVar 3) (eCons (eC (.int 0)) (eCons (eB gSub (eVar 0) (eC (.int 1))) eNil))))) (sSeq sNever sNil) sNil) sNil) ⟨sl', ob⟩)
    (enc := fun b : Nat => PyData.int (b : Nat)) (Inv := fun sl => ∃ x, sl = [some (.p (.int (n : Nat))), some (.p (encS t l)), some (.p part), x, none]) l [some (.p (.int (n : Nat))), some (.p (encS t l)), some (.p part), none, none] (fun b hbm sl hsl => by
      obtain ⟨x, rfl⟩ := hsl
      refine ⟨_, ?_, some (.p (.int (b : Nat))), rfl⟩
      have hb := hb b hbm
      have w := v_is_within ob (b : Int) 0 ((n : Int) - 1)
      have e : (!decide ((b : Int) < 0) && decide ((b : Int) ≤ (n : Int) - 1)) = true := by
        rw [Bool.and_eq_true, Bool.not_eq_true', decide_eq_false_iff_not, decide_eq_true_eq]
        omega
      rw [e] at w
      show sSeq _ sNil ⟨[some (.p (.int (n : Nat))), some (.p (encS t l)), some (.p part), some (.p (.int (b : Nat))), none], ob⟩ = _
      exact sSeq_nx (sIf_f (eNot_of (p := true) (eCall_of (eCons_of rfl (eCons_of rfl (eCons_of (eB_of rfl rfl rfl) rfl))) w)) rfl) rfl) ⟨none, rfl⟩
  refine runE_nx rfl (sSeq_nx (sIf_f c1 rfl) (sSeq_nx ((sFor_of (eSeq_sq rfl)).trans loop) (sSeq_nx (sAsg_of (eCall_of (eCons_of rfl rfl) (v_first_twice ob t hl hn))) (sSeq_nx (sIf_f (eB_of rfl rfl rfl) rfl) rfl))))
theorem v_lot_in (ob : Ob) (t : Bool) {n : Nat} {l a : List Nat} (part : PyData) (hl : l.length ≤ 1000) (hn : l.Nodup) (hb : ∀ b ∈ l, b < n) (hp : a.Perm l) (ha : a.Pairwise fun x y => x ≤ y) : g_lot_in ob [.p (encS t l), .p (.int (n : Nat)), .p part] = some (.p (encL a)) := by
  refine runE_ret rfl (sSeq_nx (sExp_of (eCall_of (eCons_of rfl (eCons_of rfl (eCons_of rfl rfl))) (v_need_lot_of ob t part hl hn hb))) (sRet1 (eData1 (eData1 rfl (gSorted_N hp ha (sq_cases t _))) rfl)))
/-- the lots handed over: each a list or a tuple, its bars in any order; m the lot -/
structure Given (n : Nat) where
  t : Bool
  l : List Nat
  m : Nat
  lt : m < 2 ^ n
  perm : (lotOf m).Perm l
theorem Given.len {n : Nat} (g : Given n) : g.l.length ≤ 6 := by rw [← g.perm.length_eq]; exact lot_short _
theorem Given.nd {n : Nat} (g : Given n) : g.l.Nodup := g.perm.nodup_iff.mp ((lot_sorted g.m).imp fun h => Nat.ne_of_lt h)
theorem Given.lo {n : Nat} (g : Given n) : ∀ b ∈ g.l, b < n := fun b hb => mem_lot_lt g.lt (g.perm.mem_iff.mpr hb)
theorem v_lots_in (ob : Ob) (t : Bool) {n : Nat} (part : PyData) {gs : List (Given n)} (hl : gs.length ≤ 1000) : g_lots_in ob [.p (sq t (gs.map fun g => encS g.t g.l)), .p (.int (n : Nat)), .p part] = some (.p (encM (gs.map fun g => g.m))) := by
  have e1 : eComp (eSeq (eVar 0)) (u1 3) (eC (.bool true)) (eCall g_is_numbers (eCons (eVar 3) eNil)) [3] ⟨[some (.p (sq t (gs.map fun g => encS g.t g.l))), some (.p (.int (n : Nat))), some (.p part), none], ob⟩ = some (.p (.list ((gs.map fun _ => true).map .bool))) := by
    rw [List.map_map]
    exact eComp_of (eSeq_sq rfl) (by rw [List.length_map]; have := thousand; omega) (compGo_all gs fun g _ => stepOf_all rfl (eCall_of (eCons_of rfl rfl) (v_is_numbers ob g.t (by have := g.len; omega))))
  have e2 : eData (eCons (eComp (eSeq (eVar 0)) (u1 3) (eC (.bool true)) (eCall g_is_numbers (eCons (eVar 3) eNil)) [3]) eNil) gAll ⟨[some (.p (sq t (gs.map fun g => encS g.t g.l))), some (.p (.int (n : Nat))), some (.p part), none], ob⟩ = some (.p (.bool true)) := by
    refine eData1 e1 ((gAll_l _).trans ?_)
    rw [List.all_map]
    exact congrArg (fun b => some (PyData.bool b)) (List.all_eq_true.mpr fun _ _ => rfl)
  have c1 : eOr (eU gNot (eIs isSeq (eVar 0))) (eU gNot (eData (eCons (eComp (eSeq (eVar 0)) (u1 3) (eC (.bool true)) (eCall g_is_numbers (eCons (eVar 3) eNil)) [3]) eNil) gAll)) ⟨[some (.p (sq t (gs.map fun g => encS g.t g.l))), some (.p (.int (n : Nat))), some (.p part), none], ob⟩ = some (.p (.bool false)) :=
    eOr_f (eNot_of (p := true) ((eIs_of rfl).trans (by rw [isSeq_sq]))) (eNot_of (p := true) e2)
  refine runE_ret rfl (sSeq_nx (sIf_f c1 rfl) (sRet1 ((eComp_of (eSeq_sq rfl) (by rw [List.length_map]; have := thousand; omega) (compGo_all (e := fun g => encL (lotOf g.m)) gs fun g _ => stepOf_all rfl (eCall_of (eCons_of rfl (eCons_of rfl (eCons_of rfl rfl))) (v_lot_in ob g.t part (by have := g.len; omega) g.nd g.lo g.perm (lot_le _))))).trans ?_)))
  unfold encM
  rw [List.map_map]
  rfl
end RB
set_option Elab.async false
set_option linter.all false
set_option maxRecDepth 100000
set_option maxHeartbeats 2000000
/-! The plain law: the book of given greatest lots. -/
namespace RB
open PySem PySem.Spec PyProof.Rows L2
open PySem.W (AllAlike Sortable dataLe)
theorem or_add : ∀ b, b < 6 → ∀ m, m < 64 → m.testBit b = false → m ||| 2 ^ b = m + 2 ^ b := by decide +kernel
theorem sub_or : ∀ m, m < 64 → ∀ x, x < 64 → m &&& x = m → m ≠ x → ((List.range 6).any fun b => !m.testBit b && (x.testBit b && decide ((m ||| 2 ^ b) &&& x = m ||| 2 ^ b))) = true := by decide +kernel
theorem bit_lt : ∀ n, n ≤ 6 → ∀ x, x < 2 ^ n → ∀ b, b < 6 → x.testBit b = true → b < n := by
  have z : ∀ n, n < 7 → ∀ x, x < 2 ^ n → ∀ b, b < 6 → x.testBit b = true → b < n := by decide +kernel
  intro n hn
  exact z n (by omega)
theorem self_or : ∀ m, m < 64 → ∀ b, b < 6 → m &&& (m ||| 2 ^ b) = m := by decide +kernel
theorem sub_le {m x : Nat} (h : m &&& x = m) : m ≤ x := by
  rw [← h]; exact Nat.and_le_right
/-- no lot above is short: no lot with one bar more is -/
theorem top_eq {n : Nat} (h1 : 3 ≤ n) (h2 : n ≤ 6) {T : Nat → Bool} (G : Good n T) {m : Nat} (hm : m < 2 ^ n) : isTop n T m = (T m && isGrS ((ordM n).filter T) m) := by
  have p6 := pow_le6 h2
  unfold isTop
  cases hT : T m with
  | false => rfl
  | true =>
    rw [Bool.true_and, Bool.true_and, Bool.eq_iff_iff, Bool.not_eq_true', List.any_eq_false]
    unfold isGrS
    rw [List.isEmpty_iff, List.filter_eq_nil_iff]
    constructor
    · intro h x hx hc
      rw [List.mem_filter, mem_ordM h1 h2] at hx
      rw [Bool.and_eq_true, Bool.not_eq_true', decide_eq_false_iff_not, in_iff m (by omega) x (by omega), decide_eq_true_eq] at hc
      have hmx : m ≠ x := fun z => hc.1 (by rw [z])
      have so := sub_or m (by omega) x (by omega) hc.2 hmx
      rw [List.any_eq_true] at so
      obtain ⟨b, hb, hb'⟩ := so
      rw [Bool.and_eq_true, Bool.and_eq_true, Bool.not_eq_true', decide_eq_true_eq] at hb'
      obtain ⟨b1, b2, b3⟩ := hb'
      have hb := List.mem_range.mp hb
      have hbn := bit_lt n h2 x hx.1 b hb b2
      refine h b (List.mem_filter.mpr ⟨List.mem_range.mpr hb, ?_⟩) (G.down _ x hx.1 b3 hx.2)
      rw [Bool.and_eq_true, decide_eq_true_eq, b1]
      exact ⟨Nat.pow_lt_pow_right (by decide) hbn, rfl⟩
    · intro h b hb hTb
      rw [List.mem_filter, List.mem_range, Bool.and_eq_true, decide_eq_true_eq, Bool.not_eq_true'] at hb
      have lt := or_lt hm hb.2.1
      refine h (m ||| 2 ^ b) (List.mem_filter.mpr ⟨(mem_ordM h1 h2).mpr lt, hTb⟩) ?_
      rw [Bool.and_eq_true, Bool.not_eq_true', decide_eq_false_iff_not, in_iff m (by omega) _ (by omega), decide_eq_true_eq]
      refine ⟨fun z => ?_, self_or m (by omega) b hb.1⟩
      have e := lot_inj h2 lt hm z
      have := or_add b hb.1 m (by omega) hb.2.2
      have : 0 < 2 ^ b := Nat.two_pow_pos b
      omega
/-- the greatest short lots -/
def grM (n : Nat) (T : Nat → Bool) : List Nat := ((ordM n).filter T).filter (isGrS ((ordM n).filter T))
theorem grM_eq {n : Nat} (h1 : 3 ≤ n) (h2 : n ≤ 6) {T : Nat → Bool} (G : Good n T) : (ordM n).filter (isTop n T) = grM n T := by
  unfold grM
  rw [List.filter_filter]
  refine List.filter_congr fun m hm => ?_
  rw [top_eq h1 h2 G ((mem_ordM h1 h2).mp hm), Bool.and_comm]
theorem mem_grM {n : Nat} (h1 : 3 ≤ n) (h2 : n ≤ 6) {T : Nat → Bool} {m : Nat} (h : m ∈ grM n T) : m < 2 ^ n ∧ T m = true ∧ isGrS ((ordM n).filter T) m = true := by
  unfold grM at h
  rw [List.mem_filter, List.mem_filter, mem_ordM h1 h2] at h
  exact ⟨h.1.1, h.1.2, h.2⟩
theorem sub_trans : ∀ {a b c : Nat}, a &&& b = a → b &&& c = b → a &&& c = a := fun {a b c} h1 h2 => by
  rw [← h1, Nat.and_assoc, h2]
/-- each short lot lies in a greatest one -/
theorem below {n : Nat} (h1 : 3 ≤ n) (h2 : n ≤ 6) {T : Nat → Bool} : ∀ (k m : Nat), 2 ^ n - m ≤ k → m < 2 ^ n → T m = true → ∃ g ∈ grM n T, m &&& g = m
  | 0, m, hk, hm, _ => by omega
  | k + 1, m, hk, hm, hT => by
    have p6 := pow_le6 h2
    cases hg : isGrS ((ordM n).filter T) m with
    | true =>
      refine ⟨m, ?_, Nat.and_self m⟩
      unfold grM
      exact List.mem_filter.mpr ⟨List.mem_filter.mpr ⟨(mem_ordM h1 h2).mpr hm, hT⟩, hg⟩
    | false =>
      unfold isGrS at hg
      have ne : ((ordM n).filter T).filter (fun x => !decide (lotOf x = lotOf m) && inLot m x) ≠ [] := fun z => by
        rw [z] at hg
        cases hg
      obtain ⟨x, hx⟩ := List.exists_mem_of_ne_nil _ ne
      rw [List.mem_filter, List.mem_filter, mem_ordM h1 h2, Bool.and_eq_true, Bool.not_eq_true', decide_eq_false_iff_not] at hx
      obtain ⟨⟨hx1, hx2⟩, hx3, hx4⟩ := hx
      rw [in_iff m (by omega) x (by omega), decide_eq_true_eq] at hx4
      have hmx : m ≠ x := fun z => hx3 (by rw [z])
      have := sub_le hx4
      obtain ⟨g, hg1, hg2⟩ := below h1 h2 (T := T) k x (by omega) hx1 hx2
      exact ⟨g, hg1, sub_trans hx4 hg2⟩
/-- the table by the greatest lots is the book's -/
theorem tab_gr {n : Nat} (h1 : 3 ≤ n) (h2 : n ≤ 6) {T : Nat → Bool} (G : Good n T) {ms : List Nat} (hp : ms.Perm (grM n T)) {m : Nat} (hm : m < 2 ^ n) : tabM ms m = T m := by
  unfold tabM
  rw [Bool.eq_iff_iff, List.any_eq_true]
  constructor
  · rintro ⟨x, hx, h⟩
    rw [decide_eq_true_eq] at h
    obtain ⟨a, b, _⟩ := mem_grM h1 h2 (hp.mem_iff.mp hx)
    exact G.down m x a h b
  · intro h
    obtain ⟨g, hg1, hg2⟩ := below h1 h2 (T := T) _ m (Nat.le_refl _) hm h
    exact ⟨g, hp.mem_iff.mpr hg1, decide_eq_true hg2⟩
theorem grM_len {n : Nat} (h1 : 3 ≤ n) (h2 : n ≤ 6) (T : Nat → Bool) : (grM n T).length ≤ 64 := Nat.le_trans (List.length_filter_le _ _) (filter_len h1 h2 T)
theorem grM_sorted {n : Nat} (h1 : 3 ≤ n) (h2 : n ≤ 6) (T : Nat → Bool) : ((grM n T).map lotOf).Pairwise fun x y => leLot x y = true := (filter_sorted h1 h2 T).sublist ((List.filter_sublist).map _)
def grD (n : Nat) (T : Nat → Bool) : PyData := .tuple ((grM n T).map fun m => encL (lotOf m))
/-- Book(many, greatest) -/
theorem newBook_of {n : Nat} (h1 : 3 ≤ n) (h2 : n ≤ 6) {T : Nat → Bool} (G : Good n T) (t : Bool) {gs : List (Given n)} (hp : (gs.map fun g => g.m).Perm (grM n T)) :
    newBook [.int (n : Nat), sq t (gs.map fun g => encS g.t g.l)] = some (bookFs n T (grD n T)) := by
  have p6 := pow_le6 h2
  have glen : gs.length ≤ 64 := by
    have := hp.length_eq
    rw [List.length_map] at this
    rw [this]
    exact grM_len h1 h2 T
  have a1 : ap g_lots_in [sq t (gs.map fun g => encS g.t g.l), .int (n : Nat), .str "greatest"] = some (encM (gs.map fun g => g.m)) := ap_of (v_lots_in ob0 t (.str "greatest") (by omega))
  have a2 : ap g_table_by [.int (n : Nat), encM (gs.map fun g => g.m)] = some (encT n T) := by
    refine ap_of ((v_table_by ob0 h2 (fun m hm => ?_) (by rw [List.length_map]; omega)).trans ?_)
    · have := (mem_grM h1 h2 (hp.mem_iff.mp hm)).1
      omega
    · rw [encT_congr fun m hm => tab_gr h1 h2 G hp hm]
  have a3 : ap g_greatest_of [encT n T] = some (encM (grM n T)) := by
    rw [← grM_eq h1 h2 G]
    exact ap_of (v_greatest_of ob0 h1 h2 T)
  have a4 : gSortK g_lot_key (encM (gs.map fun g => g.m)) = some (encM (grM n T)) := by
    rw [encM_eq, encM_eq]
    exact gSortK_L (hp.symm.map lotOf) (grM_sorted h1 h2 T)
  have a5 : gTuple [encM (grM n T)] = some (grD n T) := rfl
  have a6 : ap g_is_within [.int (n : Nat), .int 3, .int 6] = some (.bool true) := by
    refine ap_of ((v_is_within ob0 _ _ _).trans ?_)
    have e : (!decide ((n : Int) < 3) && decide ((n : Int) ≤ 6)) = true := by
      rw [Bool.and_eq_true, Bool.not_eq_true', decide_eq_false_iff_not, decide_eq_true_eq]
      omega
    rw [e]
  have a7 : ap g_is_parted [encT n T] = some (.bool true) := ap_of (v_is_parted ob0 h2 G)
  have shp : Shp 2 (encM (grM n T)) := .list (Shp.map (fun x => Shp.encL _) _)
  have a8 : gNe (encM (grM n T)) (encM (grM n T)) = some (.bool false) := by
    refine (gNe_of (r := true) shp shp ?_).trans rfl
    rw [encM_eq, eqv_encLs]
    exact decide_eq_true rfl
  unfold newBook
  dsimp only
  rw [a1, Option.bind_some, a2, Option.bind_some, a3, Option.bind_some, a4, Option.bind_some, a5, Option.bind_some, a6, a7, a8]
  rfl
end RB
set_option Elab.async false
set_option linter.all false
set_option maxRecDepth 100000
set_option maxHeartbeats 2000000
/-! The plain law: bars that beat, bars at odds, by masks. -/
namespace RB
open PySem PySem.Spec PyProof.Rows L2
open PySem.W (AllAlike Sortable dataLe)
theorem and_two : ∀ i, i < 6 → ∀ j, j < 6 → ∀ m, m < 64 → decide (m &&& (2 ^ i ||| 2 ^ j) = 0) = (!m.testBit i && !m.testBit j) := by decide +kernel
/-- the first lot, by its number, that is long with i and short with j -/
def bm (n : Nat) (T : Nat → Bool) (i j : Nat) : Option Nat := (List.range (2 ^ n)).find? (btn T i j)
def encI : Option Nat → PyData
  | some m => .int (m : Nat)
  | none => .none
noncomputable def stepM (cs : Cs) (ob : Ob) : PyData → List (Option D) → Option Res := fun x sl => match u1 3 x sl with
  | none => none
  | some sl' => sSeq (sIf (eAnd (eB gEq (eB gAnd (eVar 3) (eB gOr (eB gShl (eC (.int 1)) (eVar 1)) (eB gShl (eC (.int 1)) (eVar 2)))) (eC (.int 0))) (eAnd (eU gNot (eB gIx (eFlds [cs.B] "table" (eVar 0)) (eB gOr (eVar 3) (eB gShl (eC (.int 1)) (eVar 1))))) (eB gIx (eFlds [cs.B] "table" (eVar 0)) (eB gOr (eVar 3) (eB gShl (eC (.int 1)) (eVar 2)))))) (sSeq (sRet (eVar 3)) sNil) sNil) sNil ⟨sl', ob⟩
section
variable {cs : Cs} {ob : Ob} {b n : Nat} {T : Nat → Bool} {gr : PyData}
theorem lenT (n : Nat) (T : Nat → Bool) : gLen [encT n T] = some (.int ((2 ^ n : Nat) : Int)) := by
  unfold encT
  rw [gLen_l, List.length_range]
theorem v_beaten_lot (B : BookAt cs ob b n T gr) (hn : n ≤ 6) {i j : Nat} (hi : i < n) (hj : j < n) : g_beaten_lot cs ob [.o b, .p (.int (i : Nat)), .p (.int (j : Nat))] = some (.p (encI (bm n T i j))) := by
  have p6 := pow_le6 hn
  have src : eRange (eCons (eData (eCons (eFlds [cs.B] "table" (eVar 0)) eNil) gLen) eNil) ⟨[some (.o b), some (.p (.int (i : Nat))), some (.p (.int (j : Nat))), none], ob⟩ = some ((List.range (2 ^ n)).map fun k => .int (k : Nat)) := rng_of (eCons_of (eData1 (B.table rfl) (lenT n T)) rfl) (by omega)
  have turn : ∀ m ∈ List.range (2 ^ n), ∀ sl : List (Option D), (∃ x, sl = [some (.o b), some (.p (.int (i : Nat))), some (.p (.int (j : Nat))), x]) →
      (btn T i j m = true → stepM cs ob (.int (m : Nat)) sl = some (.ret (.p (.int (m : Nat))))) ∧ (btn T i j m = false → ∃ sl', stepM cs ob (.int (m : Nat)) sl = some (.nx sl') ∧ ∃ x, sl' = [some (.o b), some (.p (.int (i : Nat))), some (.p (.int (j : Nat))), x]) := by
    intro m hm sl hsl
    obtain ⟨x, rfl⟩ := hsl
    have hm2 := List.mem_range.mp hm
    have s1 : eB gShl (eC (.int 1)) (eVar 1) ⟨[some (.o b), some (.p (.int (i : Nat))), some (.p (.int (j : Nat))), some (.p (.int (m : Nat)))], ob⟩ = some (.p (.int ((2 ^ i : Nat) : Int))) := eB_of rfl rfl (gShl_1 (by omega))
    have s2 : eB gShl (eC (.int 1)) (eVar 2) ⟨[some (.o b), some (.p (.int (i : Nat))), some (.p (.int (j : Nat))), some (.p (.int (m : Nat)))], ob⟩ = some (.p (.int ((2 ^ j : Nat) : Int))) := eB_of rfl rfl (gShl_1 (by omega))
    have c : eAnd (eB gEq (eB gAnd (eVar 3) (eB gOr (eB gShl (eC (.int 1)) (eVar 1)) (eB gShl (eC (.int 1)) (eVar 2)))) (eC (.int 0))) (eAnd (eU gNot (eB gIx (eFlds [cs.B] "table" (eVar 0)) (eB gOr (eVar 3) (eB gShl (eC (.int 1)) (eVar 1))))) (eB gIx (eFlds [cs.B] "table" (eVar 0)) (eB gOr (eVar 3) (eB gShl (eC (.int 1)) (eVar 2))))) ⟨[some (.o b), some (.p (.int (i : Nat))), some (.p (.int (j : Nat))), some (.p (.int (m : Nat)))], ob⟩ = some (.p (.bool (btn T i j m))) := by
      unfold btn
      refine eAnd_of (eB_of (eB_of rfl (eB_of s1 s2 (gOr_nat _ _)) (gAnd_nat _ _)) (b := .int ((0 : Nat) : Int)) rfl ((gEq_nat _ _).trans (by rw [and_two i (by omega) j (by omega) m (by omega)]))) fun h => ?_
      rw [Bool.and_eq_true] at h
      rw [Bool.not_eq_true', Bool.not_eq_true'] at h
      have a1 := add_lt6 n hn i hi m hm2 h.1
      have a2 := add_lt6 n hn j hj m hm2 h.2
      refine eAnd_of (eNot_of (eB_of (B.table rfl) (eB_of rfl s1 (gOr_nat _ _)) ?_)) fun _ => eB_of (B.table rfl) (eB_of rfl s2 (gOr_nat _ _)) ?_
      · rw [or_add i (by omega) m (by omega) h.1]
        exact gIx_T a1
      · rw [or_add j (by omega) m (by omega) h.2]
        exact gIx_T a2
    constructor
    · intro h
      rw [h] at c
      exact sSeq_ret (sIf_t c (sRet1 rfl))
    · intro h
      rw [h] at c
      refine ⟨_, ?_, some (.p (.int (m : Nat))), rfl⟩
      show sSeq _ sNil ⟨[some (.o b), some (.p (.int (i : Nat))), some (.p (.int (j : Nat))), some (.p (.int (m : Nat)))], ob⟩ = _
      exact sSeq_nx (sIf_f c rfl) rfl
  have loop := forGo_find (step := stepM cs ob) (Inv := fun sl => ∃ x, sl = [some (.o b), some (.p (.int (i : Nat))), some (.p (.int (j : Nat))), x]) (enc := fun m => PyData.int (m : Nat)) (p := btn T i j) (e := fun m => D.p (.int (m : Nat))) (List.range (2 ^ n)) [some (.o b), some (.p (.int (i : Nat))), some (.p (.int (j : Nat))), none] turn ⟨none, rfl⟩
  refine runE_ret rfl ?_
  cases hf : bm n T i j with
  | some m => exact sSeq_ret ((sFor_of src).trans (loop.1 m hf))
  | none =>
    obtain ⟨sl', hl, x, rfl⟩ := loop.2 hf
    exact sSeq_nx ((sFor_of src).trans hl) (sRet1 rfl)
theorem gIsNot_I (o : Option Nat) : gIsNot (encI o) .none = some (.bool o.isSome) := by cases o <;> rfl
theorem gIs_I (o : Option Nat) : gIs (encI o) .none = some (.bool o.isNone) := by cases o <;> rfl
/-- no bar beats the other -/
def eqB (n : Nat) (T : Nat → Bool) (i j : Nat) : Bool := (bm n T i j).isNone && (bm n T j i).isNone
def odB (n : Nat) (T : Nat → Bool) (i j : Nat) : Bool := (bm n T i j).isSome && (bm n T j i).isSome
theorem v_are_equals (B : BookAt cs ob b n T gr) (hn : n ≤ 6) {i j : Nat} (hi : i < n) (hj : j < n) : g_are_equals cs ob [.o b, .p (.int (i : Nat)), .p (.int (j : Nat))] = some (.p (.bool (eqB n T i j))) :=
  runE_ret rfl (sRet1 (eAnd_of (eB_of (eCall_of (eCons_of rfl (eCons_of rfl (eCons_of rfl rfl))) (v_beaten_lot B hn hi hj)) rfl (gIs_I _)) fun _ => eB_of (eCall_of (eCons_of rfl (eCons_of rfl (eCons_of rfl rfl))) (v_beaten_lot B hn hj hi)) rfl (gIs_I _)))
/-- the number of short lots with the bar -/
def cntB (n : Nat) (T : Nat → Bool) (i : Nat) : Nat := ((List.range (2 ^ n)).filter fun m => T m && m.testBit i).length
theorem v_shorts_with (B : BookAt cs ob b n T gr) (hn : n ≤ 6) {i : Nat} (hi : i < n) : g_shorts_with cs ob [.o b, .p (.int (i : Nat))] = some (.p (.int (cntB n T i : Nat))) := by
  have p6 := pow_le6 hn
  have e : eComp (eEnum (eCons (eFlds [cs.B] "table" (eVar 0)) eNil)) (u2 2 3) (eAnd (eVar 3) (eB gEq (eB gAnd (eB gShr (eVar 2) (eVar 1)) (eC (.int 1))) (eC (.int 1)))) (eVar 2) [2, 3] ⟨[some (.o b), some (.p (.int (i : Nat))), none, none], ob⟩ = some (.p (.list (((List.range (2 ^ n)).filter fun m => T m && m.testBit i).map fun m => .int (m : Nat)))) :=
    eComp_of (enum_T (eCons_of (B.table rfl) rfl)) (by rw [List.length_map, List.length_range]; have := thousand; omega) (compGo_enc (p := fun m => T m && m.testBit i) (e := fun m : Nat => PyData.int (m : Nat)) _ fun m _ => stepOf_if rfl (eAnd_of rfl fun _ => eB_of (bit_of rfl rfl) (b := .int ((1 : Nat) : Int)) rfl (by
      rw [gEq_nat]
      cases m.testBit i <;> rfl)) fun _ => rfl)
  exact runE_ret rfl (sRet1 (eData1 e (gLen_l _ _)))
end
end RB
set_option Elab.async false
set_option linter.all false
set_option maxRecDepth 100000
set_option maxHeartbeats 2000000
/-! The plain law: bars at odds, lengths that have a book. -/
namespace RB
open PySem PySem.Spec PyProof.Rows L2
open PySem.W (AllAlike Sortable dataLe)
theorem forGo_opt {α : Type} {step : PyData → List (Option D) → Option Res} {enc : α → PyData} {r : α → Option D} {Inv : List (Option D) → Prop} : ∀ (l : List α) (sl : List (Option D)),
    (∀ x ∈ l, ∀ sl, Inv sl → (∀ d, r x = some d → step (enc x) sl = some (.ret d)) ∧ (r x = none → ∃ sl', step (enc x) sl = some (.nx sl') ∧ Inv sl')) → Inv sl →
    (∀ d, l.findSome? r = some d → forGo step (l.map enc) sl = some (.ret d)) ∧ (l.findSome? r = none → ∃ sl', forGo step (l.map enc) sl = some (.nx sl') ∧ Inv sl')
  | [], sl, _, i => ⟨fun d z => by (cases z), fun _ => ⟨sl, rfl, i⟩⟩
  | x :: l, sl, h, i => by
    obtain ⟨h1, h2⟩ := h x List.mem_cons_self sl i
    rw [List.findSome?_cons, List.map_cons]
    unfold forGo
    cases e : r x with
    | some d =>
      rw [h1 d e]
      exact ⟨fun d' z => by rw [Option.some.inj z], fun z => by cases z⟩
    | none =>
      obtain ⟨sl', h3, i'⟩ := h2 e
      rw [h3]
      exact forGo_opt l sl' (fun y hy => h y (List.mem_cons_of_mem _ hy)) i'
/-! ### the first two bars at odds -/
theorem bm_bt {n : Nat} (h1 : 3 ≤ n) (h2 : n ≤ 6) (T : Nat → Bool) (i j : Nat) : (bm n T i j).isSome = (bt n T i j).isSome := by
  rw [Bool.eq_iff_iff]
  unfold bm bt
  rw [List.find?_isSome, List.find?_isSome]
  constructor
  · rintro ⟨x, hx, h⟩
    exact ⟨x, (mem_ordM h1 h2).mpr (List.mem_range.mp hx), h⟩
  · rintro ⟨x, hx, h⟩
    exact ⟨x, List.mem_range.mpr ((mem_ordM h1 h2).mp hx), h⟩
def prD (o : Od) : D := .p (.tuple [.int (o.1 : Nat), .int (o.2.1 : Nat)])
theorem odJ {n : Nat} (h1 : 3 ≤ n) (h2 : n ≤ 6) (T : Nat → Bool) (i j : Nat) : (oddsJ n T i j).head?.map prD = if odB n T i j = true then some (.p (.tuple [.int (i : Nat), .int (j : Nat)])) else none := by
  unfold odB oddsJ
  rw [bm_bt h1 h2, bm_bt h1 h2]
  cases bt n T i j <;> cases bt n T j i <;> rfl
theorem head_map {α β : Type} (g : α → β) (f : α → Option Od) : True := trivial
theorem findSome_map {α β γ : Type} (g : β → γ) (f : α → Option β) : ∀ l : List α, (l.findSome? f).map g = l.findSome? fun x => (f x).map g
  | [] => rfl
  | x :: l => by
    rw [List.findSome?_cons, List.findSome?_cons]
    cases f x with
    | some y => rfl
    | none => exact findSome_map g f l
theorem head_flat {α β : Type} (f : α → List β) : ∀ l : List α, (l.flatMap f).head? = l.findSome? fun x => (f x).head?
  | [] => rfl
  | x :: l => by
    rw [List.flatMap_cons, List.findSome?_cons]
    cases h : f x with
    | nil => exact head_flat f l
    | cons y r => rfl
section
variable {cs : Cs} {ob : Ob} {b n : Nat} {T : Nat → Bool} {gr : PyData}
noncomputable def stepO2 (cs : Cs) (ob : Ob) : PyData → List (Option D) → Option Res := fun x sl => match u1 2 x sl with
  | none => none
  | some sl' => sSeq (sIf (eAnd (eB gIsNot (eCall (g_beaten_lot cs) (eCons (eVar 0) (eCons (eVar 1) (eCons (eVar 2) eNil)))) (eC .none)) (eB gIsNot (eCall (g_beaten_lot cs) (eCons (eVar 0) (eCons (eVar 2) (eCons (eVar 1) eNil)))) (eC .none))) (sSeq (sRet (eData (eCons (eVar 1) (eCons (eVar 2) eNil)) kTup)) sNil) sNil) sNil ⟨sl', ob⟩
noncomputable def stepO1 (cs : Cs) (ob : Ob) : PyData → List (Option D) → Option Res := fun x sl => match u1 1 x sl with
  | none => none
  | some sl' => sSeq (sFor (eRange2 (eCons (eB gAdd (eVar 1) (eC (.int 1))) (eCons (eFlds [cs.B] "many" (eVar 0)) eNil))) (u1 2) (sSeq (sIf (eAnd (eB gIsNot (eCall (g_beaten_lot cs) (eCons (eVar 0) (eCons (eVar 1) (eCons (eVar 2) eNil)))) (eC .none)) (eB gIsNot (eCall (g_beaten_lot cs) (eCons (eVar 0) (eCons (eVar 2) (eCons (eVar 1) eNil)))) (eC .none))) (sSeq (sRet (eData (eCons (eVar 1) (eCons (eVar 2) eNil)) kTup)) sNil) sNil) sNil)) sNil ⟨sl', ob⟩
theorem rng2_of {fs : Evs} {Γ : Gm} {i n : Nat} (h : fs Γ = some [.p (.int ((i : Int) + 1)), .p (.int (n : Nat))]) (hi : i ≤ 1000) (hn : n ≤ 1000) : eRange2 fs Γ = some ((List.range (n - (i + 1))).map fun k => .int ((i + 1 + k : Nat) : Int)) := by
  refine (eRange2_of (i := (i : Int) + 1) (j := (n : Int)) h (by omega) (by omega) (by omega) (by omega)).trans ?_
  unfold numsD
  have e2 : ((n : Int) - ((i : Int) + 1)).toNat = n - (i + 1) := by omega
  rw [e2]
  refine congrArg some (List.map_congr_left fun k _ => ?_)
  congr 1
theorem odds_in (B : BookAt cs ob b n T gr) (h1 : 3 ≤ n) (h2 : n ≤ 6) {i : Nat} (hi : i < n) (x2 : Option D) :
    (∀ d, (oddsI n T i).head?.map prD = some d → forGo (stepO2 cs ob) ((List.range (n - (i + 1))).map fun k => .int ((i + 1 + k : Nat) : Int)) [some (.o b), some (.p (.int (i : Nat))), x2] = some (.ret d)) ∧
    ((oddsI n T i).head?.map prD = none → ∃ sl', forGo (stepO2 cs ob) ((List.range (n - (i + 1))).map fun k => .int ((i + 1 + k : Nat) : Int)) [some (.o b), some (.p (.int (i : Nat))), x2] = some (.nx sl') ∧ ∃ y2, sl' = [some (.o b), some (.p (.int (i : Nat))), y2]) := by
  have e : (oddsI n T i).head?.map prD = (List.range (n - (i + 1))).findSome? fun k => (oddsJ n T i (i + 1 + k)).head?.map prD := by
    unfold oddsI
    rw [head_flat, findSome_map]
  rw [e]
  refine forGo_opt (enc := fun k => PyData.int ((i + 1 + k : Nat) : Int)) (Inv := fun sl => ∃ y2, sl = [some (.o b), some (.p (.int (i : Nat))), y2]) _ _ (fun k hk sl hsl => ?_) ⟨x2, rfl⟩
  obtain ⟨y2, rfl⟩ := hsl
  have hk := List.mem_range.mp hk
  have hj : i + 1 + k < n := by omega
  generalize i + 1 + k = j at hj ⊢
  have c : eAnd (eB gIsNot (eCall (g_beaten_lot cs) (eCons (eVar 0) (eCons (eVar 1) (eCons (eVar 2) eNil)))) (eC .none)) (eB gIsNot (eCall (g_beaten_lot cs) (eCons (eVar 0) (eCons (eVar 2) (eCons (eVar 1) eNil)))) (eC .none)) ⟨[some (.o b), some (.p (.int (i : Nat))), some (.p (.int (j : Nat)))], ob⟩ = some (.p (.bool (odB n T i j))) :=
    eAnd_of (eB_of (eCall_of (eCons_of rfl (eCons_of rfl (eCons_of rfl rfl))) (v_beaten_lot B h2 hi hj)) rfl (gIsNot_I _)) fun _ => eB_of (eCall_of (eCons_of rfl (eCons_of rfl (eCons_of rfl rfl))) (v_beaten_lot B h2 hj hi)) rfl (gIsNot_I _)
  rw [odJ h1 h2]
  cases ho : odB n T i j with
  | true =>
    rw [ho] at c
    rw [if_pos rfl]
    refine ⟨fun d hd => ?_, fun z => by cases z⟩
    rw [← Option.some.inj hd]
    exact sSeq_ret (sIf_t c (sRet1 (eData_of (xs := [.int (i : Nat), .int (j : Nat)]) (eCons_of rfl (eCons_of rfl rfl)) (kTup_of (by show 2 ≤ 1000; decide)))))
  | false =>
    rw [ho] at c
    rw [if_neg (by simp)]
    refine ⟨fun d hd => (by cases hd), fun _ => ⟨_, ?_, some (.p (.int (j : Nat))), rfl⟩⟩
    show sSeq _ sNil ⟨[some (.o b), some (.p (.int (i : Nat))), some (.p (.int (j : Nat)))], ob⟩ = _
    exact sSeq_nx (sIf_f c rfl) rfl
theorem v_at_odds (B : BookAt cs ob b n T gr) (h1 : 3 ≤ n) (h2 : n ≤ 6) : g_at_odds cs ob [.o b] = some (((oddsL n T).head?.map prD).getD (.p .none)) := by
  have e : (oddsL n T).head?.map prD = (List.range n).findSome? fun i => (oddsI n T i).head?.map prD := by
    unfold oddsL
    rw [head_flat, findSome_map]
  have loop := forGo_opt (step := stepO1 cs ob) (enc := fun i => PyData.int ((i : Nat) : Int)) (r := fun i => (oddsI n T i).head?.map prD) (Inv := fun sl => ∃ y1 y2, sl = [some (.o b), y1, y2]) (List.range n) [some (.o b), none, none] (fun i hi sl hsl => by
    obtain ⟨y1, y2, rfl⟩ := hsl
    have hi := List.mem_range.mp hi
    obtain ⟨k1, k2⟩ := odds_in (T := T) B h1 h2 hi y2
    have src : eRange2 (eCons (eB gAdd (eVar 1) (eC (.int 1))) (eCons (eFlds [cs.B] "many" (eVar 0)) eNil)) ⟨[some (.o b), some (.p (.int (i : Nat))), y2], ob⟩ = some ((List.range (n - (i + 1))).map fun k => .int ((i + 1 + k : Nat) : Int)) :=
      rng2_of (eCons_of (eB_of rfl rfl rfl) (eCons_of (B.many rfl) rfl)) (by omega) (by omega)
    refine ⟨fun d hd => sSeq_ret ((sFor_of src).trans (k1 d hd)), fun hd => ?_⟩
    obtain ⟨sl', k3, z2, rfl⟩ := k2 hd
    exact ⟨_, sSeq_nx ((sFor_of src).trans k3) rfl, _, z2, rfl⟩) ⟨none, none, rfl⟩
  rw [← e] at loop
  have src : eRange (eCons (eFlds [cs.B] "many" (eVar 0)) eNil) ⟨[some (.o b), none, none], ob⟩ = some ((List.range n).map fun k => .int (k : Nat)) := rng_of (eCons_of (B.many rfl) rfl) (by omega)
  refine runE_ret rfl (sSeq_nx (sExp_of (eCall_of (eCons_of rfl (eCons_of rfl rfl)) (B.need _))) ?_)
  cases h : (oddsL n T).head?.map prD with
  | some d => exact sSeq_ret ((sFor_of src).trans (loop.1 d h))
  | none =>
    obtain ⟨sl', k, y1, y2, rfl⟩ := loop.2 h
    exact sSeq_nx ((sFor_of src).trans k) (sRet1 rfl)
/-! ### lengths -/
theorem v_are_lengths (ob : Ob) (t : Bool) {l : List Nat} {n : Nat} (hl : l.length = n) (hn : n ≤ 1000) (hp : ∀ x ∈ l, 1 ≤ x) : g_are_lengths ob [.p (encS t l), .p (.int (n : Nat))] = some (.p (.bool true)) := by
  have e : eComp (eSeq (eVar 0)) (u1 2) (eC (.bool true)) (eB gGt (eVar 2) (eC (.int 0))) [2] ⟨[some (.p (encS t l)), some (.p (.int (n : Nat))), none], ob⟩ = some (.p (.list ((l.map fun _ => true).map .bool))) := by
    rw [List.map_map]
    refine eComp_of (eSeq_sq rfl) (by rw [List.length_map]; have := thousand; omega) (compGo_all l fun x hx => stepOf_all rfl (eB_of rfl rfl ?_))
    have h := hp x hx
    show some (PyData.bool (decide ((0 : Int) < (x : Int)))) = _
    rw [decide_eq_true <| by omega]
    rfl
  refine runE_ret rfl (sRet1 (eAnd_t (eCall_of (eCons_of rfl rfl) (v_is_numbers ob t (by omega))) (eAnd_t (eB_of (eData1 rfl (gLen_sq t l _)) rfl ((gEq_nat _ _).trans (by rw [hl]; simp))) (eData1 e ((gAll_l _).trans ?_)))))
  rw [List.all_map]
  exact congrArg (fun b => some (PyData.bool b)) (List.all_eq_true.mpr fun _ _ => rfl)
/-- sum([lengths[bar] for bar in ..]) -/
theorem sum_compF {ob : Ob} {sl : List (Option D)} {i k : Nat} {ls lot : List Nat} {dl : PyData} {f : Ev} (hd : dl = .list (ls.map fun b => .int (b : Nat)) ∨ dl = .tuple (ls.map fun b => .int (b : Nat))) (h0 : (sl.set k none)[i]? = some (some (.p dl))) (hik : i ≠ k) (hj : f ⟨sl, ob⟩ = some (.p (encL lot))) (hk : k < sl.length)
    (hb : ∀ b ∈ lot, b < ls.length) (hlen : lot.length ≤ 1000) : eData (eCons (eComp (eSeq f) (u1 k) (eC (.bool true)) (eB gIx (eVar i) (eVar k)) [k]) eNil) gSum ⟨sl, ob⟩ = some (.p (.int (sumAt ls lot : Nat))) := by
  have e : eComp (eSeq f) (u1 k) (eC (.bool true)) (eB gIx (eVar i) (eVar k)) [k] ⟨sl, ob⟩ = some (.p (.list ((lot.map fun b => ls.getD b 0).map fun x => .int (x : Nat)))) := by
    rw [List.map_map]
    refine eComp_of (eSeq_t hj) (by rw [List.length_map]; have := thousand; omega) (compGo_all lot fun b hbm => ?_)
    have hbl := hb b hbm
    refine stepOf_all rfl (eB_of (eVar_of (d := .p dl) ?_) (eVar_of (d := .p (.int (b : Nat))) ?_) ?_)
    · show ((sl.set k none).set k _)[i]? = _
      rw [List.getElem?_set_ne hik.symm]; exact h0
    · show ((sl.set k none).set k _)[k]? = _
      rw [List.getElem?_set_self (by rw [List.length_set]; exact hk)]
    · have g : (ls.map fun b => PyData.int (b : Nat))[b]? = some (.int (ls.getD b 0 : Nat)) := by
        rw [List.getElem?_map, List.getElem?_eq_getElem hbl, List.getD_eq_getElem?_getD, List.getElem?_eq_getElem hbl]; rfl
      rcases hd with rfl | rfl
      · exact (gIx_l _ b).trans g
      · exact (gIx_t _ b).trans g
  exact eData1 e (gSum_l _)
/-- where the lengths do not have the book -/
def badB (T : Nat → Bool) (ls : List Nat) (m : Nat) : Bool := decide (2 * dot ls m = ls.sum) || !decide (decide (2 * dot ls m < ls.sum) = T m)
def hadB (n : Nat) (T : Nat → Bool) (ls : List Nat) : Bool := ((List.range (2 ^ n)).find? (badB T ls)).isNone
noncomputable def stepH (cs : Cs) (ob : Ob) : PyData → List (Option D) → Option Res := fun x sl => match u2 3 4 x sl with
  | none => none
  | some sl' => sSeq (sAsg (eB gMul (eC (.int 2)) (eData (eCons (eComp (eSeq (eCall g_lot_of (eCons (eVar 3) eNil))) (u1 6) (eC (.bool true)) (eB gIx (eVar 1) (eVar 6)) [6]) eNil) gSum)) 5) (sSeq (sIf (eOr (eB gEq (eVar 5) (eVar 2)) (eB gNe (eB gLt (eVar 5) (eVar 2)) (eVar 4))) (sSeq (sRet (eC (.bool false))) sNil) sNil) sNil) ⟨sl', ob⟩
theorem v_are_had (B : BookAt cs ob b n T gr) (hn : n ≤ 6) (t : Bool) {ls : List Nat} (hl : ls.length = n) : g_are_had cs ob [.o b, .p (encS t ls)] = some (.p (.bool (hadB n T ls))) := by
  have p6 := pow_le6 hn
  have loop := forGo_find (step := stepH cs ob) (Inv := fun sl => ∃ x3 x4 x5 x6, sl = [some (.o b), some (.p (encS t ls)), some (.p (.int (ls.sum : Nat))), x3, x4, x5, x6]) (enc := fun m => PyData.tuple [.int (m : Nat), .bool (T m)]) (p := badB T ls) (e := fun _ => D.p (.bool false)) (List.range (2 ^ n)) [some (.o b), some (.p (encS t ls)), some (.p (.int (ls.sum : Nat))), none, none, none, none] (fun m hm sl hsl => by
    obtain ⟨x3, x4, x5, x6, rfl⟩ := hsl
    have hm2 := List.mem_range.mp hm
    have s := sum_compF (ob := ob) (sl := [some (.o b), some (.p (encS t ls)), some (.p (.int (ls.sum : Nat))), some (.p (.int (m : Nat))), some (.p (.bool (T m))), x5, x6]) (i := 1) (k := 6) (ls := ls) (lot := lotOf m) (f := eCall g_lot_of (eCons (eVar 3) eNil)) (sq_cases t _) rfl (by decide) (eCall_of (eCons_of rfl rfl) (v_lot_of ob m)) (by show 6 < 7; decide) (fun c hc => by rw [hl]; exact mem_lot_lt hm2 hc) (by have := lot_short m; omega)
    rw [sum_lot (by omega) (by rw [hl]; exact hm2)] at s
    have a : sAsg (eB gMul (eC (.int 2)) (eData (eCons (eComp (eSeq (eCall g_lot_of (eCons (eVar 3) eNil))) (u1 6) (eC (.bool true)) (eB gIx (eVar 1) (eVar 6)) [6]) eNil) gSum)) 5 ⟨[some (.o b), some (.p (encS t ls)), some (.p (.int (ls.sum : Nat))), some (.p (.int (m : Nat))), some (.p (.bool (T m))), x5, x6], ob⟩ = some (.nx [some (.o b), some (.p (encS t ls)), some (.p (.int (ls.sum : Nat))), some (.p (.int (m : Nat))), some (.p (.bool (T m))), some (.p (.int ((2 * dot ls m : Nat) : Int))), x6]) := sAsg_of (eB_of rfl s (gMul_2 _))
    have c : eOr (eB gEq (eVar 5) (eVar 2)) (eB gNe (eB gLt (eVar 5) (eVar 2)) (eVar 4)) ⟨[some (.o b), some (.p (encS t ls)), some (.p (.int (ls.sum : Nat))), some (.p (.int (m : Nat))), some (.p (.bool (T m))), some (.p (.int ((2 * dot ls m : Nat) : Int))), x6], ob⟩ = some (.p (.bool (badB T ls m))) := by
      unfold badB
      refine eOr_of (eB_of rfl rfl (gEq_nat _ _)) fun _ => eB_of (eB_of rfl rfl (y := .bool (decide (2 * dot ls m < ls.sum))) ?_) rfl (gNe_bool _ _)
      show some (PyData.bool (decide (((2 * dot ls m : Nat) : Int) < ((ls.sum : Nat) : Int)))) = _
      congr 2
      exact decide_eq_decide.mpr <| by omega
    constructor
    · intro h
      rw [h] at c
      exact sSeq_nx a (sSeq_ret (sIf_t c (sRet1 rfl)))
    · intro h
      rw [h] at c
      exact ⟨_, sSeq_nx a (sSeq_nx (sIf_f c rfl) rfl), _, _, _, _, rfl⟩) ⟨none, none, none, none, rfl⟩
  have src : eEnum (eCons (eFlds [cs.B] "table" (eVar 0)) eNil) ⟨[some (.o b), some (.p (encS t ls)), some (.p (.int (ls.sum : Nat))), none, none, none, none], ob⟩ = some ((List.range (2 ^ n)).map fun m => .tuple [.int (m : Nat), .bool (T m)]) := enum_T (eCons_of (B.table rfl) rfl)
  refine runE_ret rfl (sSeq_nx (sAsg_of (eData1 rfl (gSum_sq t ls))) ?_)
  unfold hadB
  cases hf : (List.range (2 ^ n)).find? (badB T ls) with
  | some m => exact sSeq_ret ((sFor_of src).trans (loop.1 m hf))
  | none =>
    obtain ⟨sl', k, x3, x4, x5, x6, rfl⟩ := loop.2 hf
    exact sSeq_nx ((sFor_of src).trans k) (sRet1 rfl)
theorem v_has_lengths (B : BookAt cs ob b n T gr) (hn : n ≤ 6) (t : Bool) {ls : List Nat} (hl : ls.length = n) (hp : ∀ x ∈ ls, 1 ≤ x) : g_has_lengths cs ob [.o b, .p (encS t ls)] = some (.p (.bool (hadB n T ls))) :=
  runE_ret rfl (sSeq_nx (sExp_of (eCall_of (eCons_of rfl (eCons_of rfl rfl)) (B.need _))) (sSeq_nx (sIf_f (eNot_of (p := true) (eCall_of (eCons_of rfl (eCons_of (B.many rfl) rfl)) (v_are_lengths ob t hl (by omega) hp))) rfl) (sRet1 (eCall_of (eCons_of rfl (eCons_of rfl rfl)) (v_are_had B hn t hl)))))
/-- a paper of lengths -/
theorem v_shows_L (B : BookAt cs ob b n T gr) (hT : cs.L ≠ cs.T) (hn : n ≤ 6) {ls : List Nat} (hl : ls.length = n) (hp : ∀ x ∈ ls, 1 ≤ x) {a : Addr} {as : List (Str × PyData)} (ha : ob a = some (cs.L, as)) (h : as.lookup ("lengths" : Str) = some (encL ls)) : g_shows_lengths cs ob [.o b, .o a] = some (.p (.bool (hadB n T ls))) := by
  have e : eFlds [cs.L] "lengths" (eVar 1) ⟨[some (.o b), some (.o a)], ob⟩ = some (.p (encS true ls)) := eFlds_of rfl ha (List.mem_singleton.mpr rfl) h
  have i1 : cs.isTrade cs.L = some false := by
    unfold Cs.isTrade
    rw [if_neg hT, if_pos rfl]
  have i2 : cs.isLengths cs.L = some true := by
    unfold Cs.isLengths
    rw [if_pos rfl]
  refine runE_ret rfl (sSeq_nx (sExp_of (eCall_of (eCons_of rfl (eCons_of rfl rfl)) (B.need _))) (sSeq_nx (sIf_f (eIsC_of rfl ha i1) rfl) (sRet1 (eAnd_t (eIsC_of rfl ha i2) (eAnd_t (eCall_of (eCons_of e (eCons_of (B.many rfl) rfl)) (v_are_lengths ob true hl (by omega) hp)) (eCall_of (eCons_of rfl (eCons_of e rfl)) (v_are_had B hn true hl)))))))
end
end RB
set_option Elab.async false
set_option linter.all false
set_option maxRecDepth 100000
set_option maxHeartbeats 2000000
/-! The plain law: papers, trades. -/
namespace RB
open PySem PySem.Spec PyProof.Rows L2
open PySem.W (AllAlike Sortable dataLe)
/-! ### fixed -/
theorem v_fixed_i (ob : Ob) (k : Nat) (i : Int) : g_fixed (k + 1) ob [.p (.int i)] = some (.p (.int i)) :=
  runE_ret rfl (sSeq_ret (sIf_t (eNot_of (p := false) (eIs_of (x := .int i) rfl)) (sRet1 rfl)))
theorem v_fixed_seq (ob : Ob) (k : Nat) (t : Bool) {α : Type} {l : List α} {e f : α → PyData} (hl : l.length ≤ 1000) (h : ∀ x ∈ l, g_fixed k ob [.p (e x)] = some (.p (f x))) : g_fixed (k + 1) ob [.p (sq t (l.map e))] = some (.p (.tuple (l.map f))) := by
  have c : eComp (eSeq (eVar 0)) (u1 1) (eC (.bool true)) (eCall (g_fixed k) (eCons (eVar 1) eNil)) [1] ⟨[some (.p (sq t (l.map e))), none], ob⟩ = some (.p (.list (l.map f))) :=
    eComp_of (eSeq_sq rfl) (by rw [List.length_map]; have := thousand; omega) (compGo_all l fun x hx => stepOf_all rfl (eCall_of (eCons_of rfl rfl) (h x hx)))
  exact runE_ret rfl (sSeq_nx (sIf_f (eNot_of (p := true) ((eIs_of rfl).trans (by rw [isSeq_sq]))) rfl) (sRet1 (eData1 c rfl)))
theorem v_fixed_S (ob : Ob) (k : Nat) (t : Bool) {l : List Nat} (hl : l.length ≤ 1000) : g_fixed (k + 2) ob [.p (encS t l)] = some (.p (encL l)) := v_fixed_seq ob (k + 1) t hl fun x _ => v_fixed_i ob k _
theorem fixedOf_of {d y : PyData} (h : g_fixed 5 (fun _ => none) [.p d] = some (.p y)) : fixedOf d = some y := by
  unfold fixedOf
  rw [h]
def lenFs (ls : List Nat) : List (Str × PyData) := [("word", .str "lengths"), ("parts", .tuple [encL ls]), ("lengths", encL ls)]
theorem v_newLengths (t : Bool) {ls : List Nat} (hl : ls.length ≤ 1000) : newLengths [encS t ls] = some (lenFs ls) := by
  have h : fixedOf (.tuple [encS t ls]) = some (.tuple [encL ls]) := fixedOf_of (v_fixed_seq _ 4 true (l := [(encS t ls, encL ls)]) (e := Prod.fst) (f := Prod.snd) (by show 1 ≤ 1000; decide) fun x hx => by
    rw [List.mem_singleton.mp hx]
    exact v_fixed_S _ 2 t hl)
  show (match fixedOf (.tuple [encS t ls]) with
    | some (.tuple [fd]) => some ([("word", .str "lengths"), ("parts", .tuple [fd]), ("lengths", fd)] : List (Str × PyData))
    | _ => none) = _
  rw [h]
  rfl
/-- a row of lots, by their numbers -/
def encR (ms : List Nat) : PyData := .tuple (ms.map fun m => encL (lotOf m))
def trdFs (ms ls : List Nat) : List (Str × PyData) := [("word", .str "trade"), ("parts", .tuple [encR ms, encR ls]), ("short", encR ms), ("long", encR ls)]
/-- a row of lots as handed over: a list or a tuple of lists or tuples -/
def encG (t : Bool) (gs : List (Bool × Nat)) : PyData := sq t (gs.map fun g => encS g.1 (lotOf g.2))
theorem v_fixed_G (ob : Ob) (k : Nat) (t : Bool) {gs : List (Bool × Nat)} (hl : gs.length ≤ 1000) : g_fixed (k + 3) ob [.p (encG t gs)] = some (.p (encR (gs.map (·.2)))) := by
  have h := v_fixed_seq ob (k + 2) t (l := gs) (e := fun g => encS g.1 (lotOf g.2)) (f := fun g => encL (lotOf g.2)) hl fun g _ => v_fixed_S ob k g.1 (by have := lot_short g.2; omega)
  unfold encR
  rw [List.map_map]
  exact h
theorem v_newTrade (t u : Bool) {gs hs : List (Bool × Nat)} (hg : gs.length ≤ 1000) (hh : hs.length ≤ 1000) : newTrade [encG t gs, encG u hs] = some (trdFs (gs.map (·.2)) (hs.map (·.2))) := by
  have h : fixedOf (.tuple [encG t gs, encG u hs]) = some (.tuple [encR (gs.map (·.2)), encR (hs.map (·.2))]) := fixedOf_of (v_fixed_seq _ 4 true (l := [(encG t gs, encR (gs.map (·.2))), (encG u hs, encR (hs.map (·.2)))]) (e := Prod.fst) (f := Prod.snd) (by show 2 ≤ 1000; decide) fun x hx => by
    obtain rfl | hx := List.mem_cons.mp hx
    · exact v_fixed_G _ 1 t hg
    · rw [List.mem_singleton.mp hx]
      exact v_fixed_G _ 1 u hh)
  show (match fixedOf (.tuple [encG t gs, encG u hs]) with
    | some (.tuple [fd, fe]) => some ([("word", .str "trade"), ("parts", .tuple [fd, fe]), ("short", fd), ("long", fe)] : List (Str × PyData))
    | _ => none) = _
  rw [h]
  rfl
/-! ### the lots of the trade that is told -/
def srtM (x y : Nat) : List Nat := if lotOf x ≤ lotOf y then [x, y] else [y, x]
theorem srtM_perm (x y : Nat) : (srtM x y).Perm [x, y] := by
  unfold srtM
  split
  · exact List.Perm.refl _
  · exact List.Perm.swap _ _ _
theorem srtM_sorted (x y : Nat) : ((srtM x y).map lotOf).Pairwise fun a b => a ≤ b := by
  unfold srtM
  split
  · rename_i h
    exact List.pairwise_pair.mpr h
  · rename_i h
    exact List.pairwise_pair.mpr ((List.le_total _ _).resolve_left h)
theorem lot_ne : ∀ b, b < 6 → ∀ m, m < 64 → m.testBit b = false → lotOf (m + 2 ^ b) ≠ [] := by decide +kernel
theorem v_pair {Γ : Gm} {f g : Ev} {x y : Nat} (hf : f Γ = some (.p (encL (lotOf x)))) (hg : g Γ = some (.p (encL (lotOf y)))) (hx : lotOf x ≠ []) (hy : lotOf y ≠ []) : eData (eCons (eData (eCons f (eCons g eNil)) kLst) eNil) gSorted Γ = some (.p (encM (srtM x y))) := by
  have h := gSorted_L (a := (srtM x y).map lotOf) (l := [lotOf x, lotOf y]) ((srtM_perm x y).map lotOf) (fun z hz => by
    obtain rfl | hz := List.mem_cons.mp hz
    · exact hx
    · rw [List.mem_singleton.mp hz]; exact hy) (srtM_sorted x y)
  rw [encM_eq]
  exact eData1 (eData_of (xs := [encL (lotOf x), encL (lotOf y)]) (eCons_of hf (eCons_of hg rfl)) (kLst_of (by show 2 ≤ 1000; decide))) h
theorem v_orlot {Γ : Gm} {f g : Ev} {m b : Nat} (hf : f Γ = some (.p (.int (m : Nat)))) (hg : g Γ = some (.p (.int (b : Nat)))) (hm : m < 64) (hb : b < 6) (h : m.testBit b = false) : eCall g_lot_of (eCons (eB gOr f (eB gShl (eC (.int 1)) g)) eNil) Γ = some (.p (encL (lotOf (m + 2 ^ b)))) := by
  rw [← or_add b hb m hm h]
  exact eCall_of (eCons_of (eB_of hf (eB_of rfl hg (gShl_1 (by omega))) (gOr_nat _ _)) rfl) (v_lot_of _ _)
section
variable {n : Nat} {T : Nat → Bool}
theorem bm_some {i j m : Nat} (h : bm n T i j = some m) : m < 2 ^ n ∧ m.testBit i = false ∧ m.testBit j = false ∧ T (m + 2 ^ i) = false ∧ T (m + 2 ^ j) = true := by
  unfold bm at h
  have h1 := List.find?_some h
  have h2 := List.mem_range.mp (List.mem_of_find?_eq_some h)
  unfold btn at h1
  simp only [Bool.and_eq_true, Bool.not_eq_true'] at h1
  exact ⟨h2, h1.1.1, h1.1.2, h1.2.1, h1.2.2⟩
theorem bt_some {i j m : Nat} (h1 : 3 ≤ n) (h2 : n ≤ 6) (h : bt n T i j = some m) : m < 2 ^ n ∧ m.testBit i = false ∧ m.testBit j = false ∧ T (m + 2 ^ i) = false ∧ T (m + 2 ^ j) = true := by
  unfold bt at h
  have h3 := List.find?_some h
  have h4 := (mem_ordM h1 h2).mp (List.mem_of_find?_eq_some h)
  unfold btn at h3
  simp only [Bool.and_eq_true, Bool.not_eq_true'] at h3
  exact ⟨h4, h3.1.1, h3.1.2, h3.2.1, h3.2.2⟩
end
theorem v_sh {ob : Ob} {b n i j lo hi : Nat} {x : Option D} (h6 : n ≤ 6) (hi' : i < n) (hj : j < n) (h1 : lo < 2 ^ n) (h2 : hi < 2 ^ n) (h3 : lo.testBit j = false) (h4 : hi.testBit i = false) : f_sh ⟨[some (.o b), some (.p (.int (i : Nat))), some (.p (.int (j : Nat))), some (.p (.int (lo : Nat))), some (.p (.int (hi : Nat))), x], ob⟩ = some (.p (encM (srtM (lo + 2 ^ j) (hi + 2 ^ i)))) := by
  have p6 := pow_le6 h6
  exact v_pair (v_orlot rfl rfl (by omega) (by omega) h3) (v_orlot rfl rfl (by omega) (by omega) h4) (lot_ne j (by omega) lo (by omega) h3) (lot_ne i (by omega) hi (by omega) h4)
theorem v_lg {ob : Ob} {b n i j lo hi : Nat} {x : Option D} (h6 : n ≤ 6) (hi' : i < n) (hj : j < n) (h1 : lo < 2 ^ n) (h2 : hi < 2 ^ n) (h3 : lo.testBit i = false) (h4 : hi.testBit j = false) : f_lg ⟨[some (.o b), some (.p (.int (i : Nat))), some (.p (.int (j : Nat))), some (.p (.int (lo : Nat))), some (.p (.int (hi : Nat))), x], ob⟩ = some (.p (encM (srtM (lo + 2 ^ i) (hi + 2 ^ j)))) := by
  have p6 := pow_le6 h6
  exact v_pair (v_orlot rfl rfl (by omega) (by omega) h3) (v_orlot rfl rfl (by omega) (by omega) h4) (lot_ne i (by omega) lo (by omega) h3) (lot_ne j (by omega) hi (by omega) h4)
theorem encM_G (ms : List Nat) : encM ms = encG false (ms.map fun m => (true, m)) := by
  unfold encM encG
  rw [List.map_map]
  rfl
/-! ### a trade -/
structure Trd (n : Nat) (T : Nat → Bool) (ms ls : List Nat) : Prop where
  sh : ∀ m ∈ ms, m < 2 ^ n ∧ T m = true
  lg : ∀ m ∈ ls, m < 2 ^ n ∧ T m = false
  len : ms.length = ls.length
  ne : ms ≠ []
  few : ms.length ≤ 100
  perm : (ms.flatMap lotOf).Perm (ls.flatMap lotOf)
theorem zip_lt : ∀ (l : List Nat) (k k' : Nat), l.Pairwise (· < ·) → ∀ p ∈ (l.take k).zip ((l.drop 1).take k'), p.1 < p.2
  | [], k, k', _, p, h => by simp at h
  | [x], k, k', _, p, h => by simp at h
  | x :: y :: r, 0, k', _, p, h => by simp at h
  | x :: y :: r, k + 1, 0, _, p, h => by simp at h
  | x :: y :: r, k + 1, k' + 1, hp, p, h => by
    rw [List.pairwise_cons] at hp
    have h : p ∈ (x :: (y :: r).take k).zip (y :: r.take k') := h
    rw [List.zip_cons_cons] at h
    obtain rfl | h := List.mem_cons.mp h
    · exact hp.1 y List.mem_cons_self
    · exact zip_lt (y :: r) k k' hp.2 p h
theorem zipD_nats (l r : List Nat) : zipD (l.map fun b => .int (b : Nat)) (r.map fun b => .int (b : Nat)) = (l.zip r).map fun p => .tuple [.int (p.1 : Nat), .int (p.2 : Nat)] := by
  unfold zipD
  rw [List.zipWith_map, List.zip_eq_zipWith, List.map_zipWith]
theorem v_is_lot (ob : Ob) (m : Nat) : g_is_lot ob [.p (encL (lotOf m))] = some (.p (.bool true)) := by
  have hl := lot_short m
  have e1 : eComp (eSeq (eVar 0)) (u1 1) (eC (.bool true)) (eB gGe (eVar 1) (eC (.int 0))) [1] ⟨[some (.p (encL (lotOf m))), none, none, none], ob⟩ = some (.p (.list (((lotOf m).map fun _ => true).map .bool))) := by
    rw [List.map_map]
    refine eComp_of (eSeq_t rfl) (by rw [List.length_map]; have := thousand; omega) (compGo_all (lotOf m) fun x hx => stepOf_all rfl (eB_of rfl rfl ?_))
    show some (PyData.bool (decide ((0 : Int) ≤ (x : Int)))) = _
    rw [decide_eq_true <| by omega]
    rfl
  have c1 : eOr (eU gNot (eCall g_is_numbers (eCons (eVar 0) eNil))) (eU gNot (eData (eCons (eComp (eSeq (eVar 0)) (u1 1) (eC (.bool true)) (eB gGe (eVar 1) (eC (.int 0))) [1]) eNil) gAll)) ⟨[some (.p (encL (lotOf m))), none, none, none], ob⟩ = some (.p (.bool false)) := by
    refine eOr_f (eNot_of (p := true) (eCall_of (eCons_of rfl rfl) (v_is_numbers ob true (l := lotOf m) (by omega)))) (eNot_of (p := true) (eData1 e1 ((gAll_l _).trans ?_)))
    rw [List.all_map]
    exact congrArg (fun b => some (PyData.bool b)) (List.all_eq_true.mpr fun _ _ => rfl)
  obtain ⟨k, k', hk⟩ : ∃ k k', eZip (eCons (eSl (eVar 0) eP0 (eP (eU gNeg (eC (.int 1))))) (eCons (eSl (eVar 0) (eP (eC (.int 1))) eP0) eNil)) ⟨[some (.p (encL (lotOf m))), none, none, none], ob⟩ = some (((((lotOf m).take k).zip (((lotOf m).drop 1).take k')).map fun p => .tuple [.int (p.1 : Nat), .int (p.2 : Nat)])) := by
    have s1 : eSl (eVar 0) eP0 (eP (eU gNeg (eC (.int 1)))) ⟨[some (.p (encL (lotOf m))), none, none, none], ob⟩ = some (.p (.tuple (cutD ((lotOf m).map fun b => .int (b : Nat)) none (some (-1))))) := rfl
    have s2 : eSl (eVar 0) (eP (eC (.int 1))) eP0 ⟨[some (.p (encL (lotOf m))), none, none, none], ob⟩ = some (.p (.tuple (cutD ((lotOf m).map fun b => .int (b : Nat)) (some 1) none))) := rfl
    have z : eZip (eCons (eSl (eVar 0) eP0 (eP (eU gNeg (eC (.int 1))))) (eCons (eSl (eVar 0) (eP (eC (.int 1))) eP0) eNil)) ⟨[some (.p (encL (lotOf m))), none, none, none], ob⟩ = some (zipD (cutD ((lotOf m).map fun b => .int (b : Nat)) none (some (-1))) (cutD ((lotOf m).map fun b => .int (b : Nat)) (some 1) none)) := by
      unfold eZip
      rw [eCons_of s1 (eCons_of s2 rfl)]
    rw [z]
    generalize lotOf m = l
    cases l with
    | nil => exact ⟨0, 0, rfl⟩
    | cons x r =>
      refine ⟨((-1 : Int) + ((x :: r).length : Nat)).toNat - 0, (x :: r).length - 1, congrArg some (Eq.trans ?_ (zipD_nats _ _))⟩
      have c1 : cutD ((x :: r).map fun b => PyData.int (b : Nat)) none (some (-1)) = ((x :: r).take (((-1 : Int) + ((x :: r).length : Nat)).toNat - 0)).map fun b => PyData.int (b : Nat) := by
        unfold cutD
        rw [List.length_map, List.map_take]
        rfl
      have c2 : cutD ((x :: r).map fun b => PyData.int (b : Nat)) (some 1) none = (((x :: r).drop 1).take ((x :: r).length - 1)).map fun b => PyData.int (b : Nat) := by
        unfold cutD
        have e : HT.sIx (x :: r).length 0 (some 1) = 1 := by
          rw [show (1 : Int) = ((1 : Nat) : Int) from rfl, HT.sIx_nat]
          exact Nat.min_eq_left (Nat.succ_le_succ (Nat.zero_le _))
        rw [List.length_map, e, List.map_take, List.map_drop]
        rfl
      rw [c1, c2]
  have e2 : eComp (eZip (eCons (eSl (eVar 0) eP0 (eP (eU gNeg (eC (.int 1))))) (eCons (eSl (eVar 0) (eP (eC (.int 1))) eP0) eNil))) (u2 2 3) (eC (.bool true)) (eB gLt (eVar 2) (eVar 3)) [2, 3] ⟨[some (.p (encL (lotOf m))), none, none, none], ob⟩ = some (.p (.list (((((lotOf m).take k).zip (((lotOf m).drop 1).take k')).map fun _ => true).map .bool))) := by
    rw [List.map_map]
    refine eComp_of hk (by rw [List.length_map, List.length_zip, List.length_take]; have := thousand; omega) (compGo_all _ fun p hp => stepOf_all rfl (eB_of rfl rfl ?_))
    have h := zip_lt _ _ _ (lot_sorted m) p hp
    show some (PyData.bool (decide ((p.1 : Int) < (p.2 : Int)))) = _
    rw [decide_eq_true <| by omega]
    rfl
  refine runE_ret rfl (sSeq_nx (sIf_f c1 rfl) (sRet1 (eData1 e2 ((gAll_l _).trans ?_))))
  rw [List.all_map]
  exact congrArg (fun b => some (PyData.bool b)) (List.all_eq_true.mpr fun _ _ => rfl)
theorem v_are_lots (ob : Ob) {n : Nat} {ms : List Nat} (hm : ∀ m ∈ ms, m < 2 ^ n) (hl : ms.length ≤ 1000) : g_are_lots ob [.p (encR ms), .p (.int (n : Nat))] = some (.p (.bool true)) := by
  have one : ∀ m ∈ ms, eAnd (eCall g_is_lot (eCons (eVar 2) eNil)) (eData (eCons (eComp (eSeq (eVar 2)) (u1 3) (eC (.bool true)) (eB gLt (eVar 3) (eVar 1)) [3]) eNil) gAll) ⟨[some (.p (encR ms)), some (.p (.int (n : Nat))), some (.p (encL (lotOf m))), none], ob⟩ = some (.p (.bool true)) := fun m hmm => by
    have e : eComp (eSeq (eVar 2)) (u1 3) (eC (.bool true)) (eB gLt (eVar 3) (eVar 1)) [3] ⟨[some (.p (encR ms)), some (.p (.int (n : Nat))), some (.p (encL (lotOf m))), none], ob⟩ = some (.p (.list (((lotOf m).map fun _ => true).map .bool))) := by
      rw [List.map_map]
      refine eComp_of (eSeq_t rfl) (by rw [List.length_map]; have := lot_short m; have := thousand; omega) (compGo_all (lotOf m) fun x hx => stepOf_all rfl (eB_of rfl rfl ?_))
      have h := mem_lot_lt (hm m hmm) hx
      show some (PyData.bool (decide ((x : Int) < (n : Int)))) = _
      rw [decide_eq_true <| by omega]
      rfl
    refine eAnd_t (eCall_of (eCons_of rfl rfl) (v_is_lot ob m)) (eData1 e ((gAll_l _).trans ?_))
    rw [List.all_map]
    exact congrArg (fun b => some (PyData.bool b)) (List.all_eq_true.mpr fun _ _ => rfl)
  have e2 : eComp (eSeq (eVar 0)) (u1 2) (eC (.bool true)) (eAnd (eCall g_is_lot (eCons (eVar 2) eNil)) (eData (eCons (eComp (eSeq (eVar 2)) (u1 3) (eC (.bool true)) (eB gLt (eVar 3) (eVar 1)) [3]) eNil) gAll)) [2] ⟨[some (.p (encR ms)), some (.p (.int (n : Nat))), none, none], ob⟩ = some (.p (.list ((ms.map fun _ => true).map .bool))) := by
    rw [List.map_map]
    exact eComp_of (eSeq_t rfl) (by rw [List.length_map]; have := thousand; omega) (compGo_all ms fun m hm' => stepOf_all rfl (one m hm'))
  refine runE_ret rfl (sRet1 (eAnd_t (eIs_of (x := encR ms) rfl) (eData1 e2 ((gAll_l _).trans ?_))))
  rw [List.all_map]
  exact congrArg (fun b => some (PyData.bool b)) (List.all_eq_true.mpr fun _ _ => rfl)
def barsOf (ms : List Nat) : List Nat := (ms.flatMap lotOf).mergeSort fun a b => decide (a ≤ b)
theorem barsOf_sorted (ms : List Nat) : (barsOf ms).Pairwise fun x y => x ≤ y := by
  have h := List.pairwise_mergeSort (le := fun a b : Nat => decide (a ≤ b)) (fun a b c h1 h2 => by
    rw [decide_eq_true_eq] at h1 h2 ⊢
    exact Nat.le_trans h1 h2) (fun a b => by
    rw [Bool.or_eq_true]
    rw [decide_eq_true_eq, decide_eq_true_eq]
    exact Nat.le_total a b) (ms.flatMap lotOf)
  exact h.imp fun h => of_decide_eq_true h
theorem barsOf_perm {ms ls : List Nat} (h : (ms.flatMap lotOf).Perm (ls.flatMap lotOf)) : barsOf ms = barsOf ls := by
  refine List.Perm.eq_of_pairwise (le := fun a b : Nat => a ≤ b) (fun a b _ _ h1 h2 => Nat.le_antisymm h1 h2) (barsOf_sorted ms) (barsOf_sorted ls) ?_
  exact ((List.mergeSort_perm _ _).trans h).trans (List.mergeSort_perm _ _).symm
theorem bars_len (ms : List Nat) : (ms.flatMap lotOf).length ≤ ms.length * 6 := flatMap_len ms fun m _ => lot_short m
theorem v_bars {ob : Ob} {sl : List (Option D)} {f : Ev} {ms : List Nat} (hf : f ⟨sl, ob⟩ = some (.p (encR ms))) (hs : sl.length = 4) (hl : ms.length ≤ 100) : eData (eCons (eComp2 (eSeq f) (u1 2) (eSeq (eVar 2)) (u1 3) (eVar 3) [2, 3] [3]) eNil) gSorted ⟨sl, ob⟩ = some (.p (.list ((barsOf ms).map fun b => .int (b : Nat)))) := by
  match sl, hs with
  | [x0, x1, x2, x3], _ =>
  have e : eComp2 (eSeq f) (u1 2) (eSeq (eVar 2)) (u1 3) (eVar 3) [2, 3] [3] ⟨[x0, x1, x2, x3], ob⟩ = some (.p (.list ((ms.flatMap lotOf).map fun b => .int (b : Nat)))) := by
    rw [List.map_flatMap]
    refine eComp2_of (eSeq_t hf) (compGo2_all (e := fun m => (lotOf m).map fun b => PyData.int (b : Nat)) ms fun m hm => ?_) ?_
    · show compGo (stepOf (u1 3) (eC (.bool true)) (eVar 3) _ ob) ((lotOf m).map fun b => .int (b : Nat)) = _
      exact compGo_all (lotOf m) fun b _ => stepOf_all rfl rfl
    · rw [← List.map_flatMap, List.length_map]
      have := bars_len ms
      have := thousand
      omega
  exact eData1 e (gSorted_N (List.mergeSort_perm _ _) (barsOf_sorted ms) (.inl rfl))
section
variable {cs : Cs} {ob : Ob} {b n : Nat} {T : Nat → Bool} {gr : PyData} {ms ls : List Nat}
theorem v_is_trade (B : BookAt cs ob b n T gr) (hn : n ≤ 6) (h : Trd n T ms ls) {a : Addr} {as : List (Str × PyData)} (ha : ob a = some (cs.T, as)) (h1 : as.lookup ("short" : Str) = some (encR ms)) (h2 : as.lookup ("long" : Str) = some (encR ls)) : g_is_trade cs ob [.o b, .o a] = some (.p (.bool true)) := by
  have p6 := pow_le6 hn
  have hl := h.few
  have hl2 := h.len
  have ln := thousand
  have es : ∀ x y : Option D, eFlds [cs.T] "short" (eVar 1) ⟨[some (.o b), some (.o a), x, y], ob⟩ = some (.p (encR ms)) := fun x y => eFlds_of rfl ha (List.mem_singleton.mpr rfl) h1
  have el : ∀ x y : Option D, eFlds [cs.T] "long" (eVar 1) ⟨[some (.o b), some (.o a), x, y], ob⟩ = some (.p (encR ls)) := fun x y => eFlds_of rfl ha (List.mem_singleton.mpr rfl) h2
  have c1 := v_are_lots ob (n := n) (ms := ms) (fun m hm => (h.sh m hm).1) (by omega)
  have c2 := v_are_lots ob (n := n) (ms := ls) (fun m hm => (h.lg m hm).1) (by omega)
  have t1 : eComp (eSeq (eFlds [cs.T] "short" (eVar 1))) (u1 2) (eC (.bool true)) (eB gIx (eFlds [cs.B] "table" (eVar 0)) (eCall g_mask_of (eCons (eVar 2) eNil))) [2] ⟨[some (.o b), some (.o a), none, none], ob⟩ = some (.p (.list ((ms.map fun _ => true).map .bool))) := by
    rw [List.map_map]
    refine eComp_of (eSeq_t (es _ _)) (by rw [List.length_map]; omega) (compGo_all ms fun m hm => stepOf_all rfl (eB_of (B.table rfl) (eCall_of (eCons_of rfl rfl) (v_mask_lot ob (by have := (h.sh m hm).1; omega))) ?_))
    rw [gIx_T (h.sh m hm).1, (h.sh m hm).2]
    rfl
  have t2 : eComp (eSeq (eFlds [cs.T] "long" (eVar 1))) (u1 2) (eC (.bool true)) (eB gIx (eFlds [cs.B] "table" (eVar 0)) (eCall g_mask_of (eCons (eVar 2) eNil))) [2] ⟨[some (.o b), some (.o a), none, none], ob⟩ = some (.p (.list ((ls.map fun _ => false).map .bool))) := by
    rw [List.map_map]
    refine eComp_of (eSeq_t (el _ _)) (by rw [List.length_map]; omega) (compGo_all ls fun m hm => stepOf_all rfl (eB_of (B.table rfl) (eCall_of (eCons_of rfl rfl) (v_mask_lot ob (by have := (h.lg m hm).1; omega))) ?_))
    rw [gIx_T (h.lg m hm).1, (h.lg m hm).2]
    rfl
  have ne0 : decide (ms.length = 0) = false := decide_eq_false fun z => h.ne (List.length_eq_zero_iff.mp z)
  have a1 : gAll [.list ((ms.map fun _ => true).map PyData.bool)] = some (.bool true) := by
    rw [gAll_l, List.all_map]
    exact congrArg (fun b => some (PyData.bool b)) (List.all_eq_true.mpr fun _ _ => rfl)
  have a2 : gAny [.list ((ls.map fun _ => false).map PyData.bool)] = some (.bool false) := by
    rw [gAny_l, List.any_map]
    exact congrArg (fun b => some (PyData.bool b)) (List.any_eq_false.mpr fun _ _ => (by simp))
  have sh : ∀ l : List Nat, Shp 1 (.list (l.map fun b => PyData.int (b : Nat))) := fun l => .list (k := 0) (Shp.nats l)
  refine runE_ret rfl (sSeq_nx (sIf_f (eOr_f (eNot_of (p := true) (eCall_of (eCons_of (es _ _) (eCons_of (B.many rfl) rfl)) c1)) (eNot_of (p := true) (eCall_of (eCons_of (el _ _) (eCons_of (B.many rfl) rfl)) c2))) rfl) ?_)
  refine sSeq_nx (sIf_f (eOr_f (eB_of (eData1 (es _ _) (gLen_t ms _)) (eData1 (el _ _) (gLen_t ls _)) (y := .bool false) ?_) (eB_of (b := .int ((0 : Nat) : Int)) (eData1 (es _ _) (gLen_t ms _)) rfl ((gEq_nat _ _).trans (by rw [ne0])))) rfl) ?_
  · rw [hl2]
    exact gNe_of (k := 0) (Shp.int _) (Shp.int _) (r := true) (by rw [eqv_int]; simp)
  refine sSeq_nx (sIf_f (eNot_of (p := true) (eData1 t1 a1)) rfl) (sSeq_nx (sIf_f (eData1 t2 a2) rfl) (sRet1 (eB_of (v_bars (es _ _) rfl (by omega)) (v_bars (el _ _) rfl (by omega)) (gEq_of (sh _) (sh _) ?_))))
  rw [barsOf_perm h.perm]
  show PyData.eqvAll _ _ = true
  rw [eqv_nats]
  simp
theorem v_shows_T (B : BookAt cs ob b n T gr) (hn : n ≤ 6) (h : Trd n T ms ls) {a : Addr} {as : List (Str × PyData)} (ha : ob a = some (cs.T, as)) (h1 : as.lookup ("short" : Str) = some (encR ms)) (h2 : as.lookup ("long" : Str) = some (encR ls)) : g_shows_lengths cs ob [.o b, .o a] = some (.p (.bool true)) := by
  have i1 : cs.isTrade cs.T = some true := by
    unfold Cs.isTrade
    rw [if_pos rfl]
  exact runE_ret rfl (sSeq_nx (sExp_of (eCall_of (eCons_of rfl (eCons_of rfl rfl)) (B.need _))) (sSeq_ret (sIf_t (eIsC_of rfl ha i1) (sRet1 (eCall_of (eCons_of rfl (eCons_of rfl rfl)) (v_is_trade B hn h ha h1 h2))))))
end
/-! ### the law's own look at a trade -/
theorem cnt_of {bar : Nat} : ∀ ms : List Nat, (ms.filter fun m => decide (bar ∈ lotOf m)).length = (ms.flatMap lotOf).count bar
  | [] => rfl
  | m :: ms => by
    have nd : (lotOf m).Nodup := (lot_sorted m).imp fun h => Nat.ne_of_lt h
    rw [List.flatMap_cons, List.count_append, ← cnt_of ms, List.filter_cons]
    by_cases h : bar ∈ lotOf m
    · rw [if_pos (decide_eq_true h), List.length_cons, List.Nodup.count nd, if_pos h]
      omega
    · rw [if_neg (by rw [decide_eq_false h]; simp), List.count_eq_zero_of_not_mem h]
      omega
def cntR (n : Nat) (rs : List Nat) : List Nat := (List.range n).map fun bar => (rs.filter fun m => decide (bar ∈ lotOf m)).length
theorem v_L_is_trade (ob : Ob) {n : Nat} (h1 : 3 ≤ n) (h2 : n ≤ 6) {T : Nat → Bool} {ms ls : List Nat} (h : Trd n T ms ls) : g_L_is_trade ob [.p (encM ((ordM n).filter T)), .p (.int (n : Nat)), .p (encR ms), .p (encR ls)] = some (.p (.bool true)) := by
  have hl := h.few
  have hl2 := h.len
  have ln := thousand
  have ne0 : decide (ms.length = 0) = false := decide_eq_false fun z => h.ne (List.length_eq_zero_iff.mp z)
  have emp : ∀ xs : List PyData, xs = [] → gNe (.list xs) (.list []) = some (.bool false) := fun xs hx => by
    rw [hx]
    exact gNe_of (k := 1) (r := true) (.list (k := 0) fun x hx => by cases hx) (.list (k := 0) fun x hx => by cases hx) rfl
  have e1 : eComp (eSeq (eVar 2)) (u1 5) (eB (gIn true) (eVar 5) (eVar 0)) (eVar 5) [5] ⟨[some (.p (encM ((ordM n).filter T))), some (.p (.int (n : Nat))), some (.p (encR ms)), some (.p (encR ls)), none, none, none, none], ob⟩ = some (.p (.list ((ms.filter fun m => !T m).map fun m => encL (lotOf m)))) := by
    refine eComp_of (eSeq_t rfl) (by rw [List.length_map]; omega) (compGo_enc (p := fun m => !T m) (e := fun m => encL (lotOf m)) ms fun m hm => stepOf_if rfl (eB_of rfl rfl ?_) fun _ => rfl)
    rw [encM_eq, gIn_Ls1, mem_shorts h1 h2 (h.sh m hm).1]
  have n1 : (ms.filter fun m => !T m).map (fun m => encL (lotOf m)) = [] := by
    rw [List.map_eq_nil_iff, List.filter_eq_nil_iff]
    intro m hm
    rw [(h.sh m hm).2]
    simp
  have e2 : eComp (eSeq (eVar 3)) (u1 5) (eOr (eB (gIn false) (eVar 5) (eVar 0)) (eB (gIn true) (eVar 5) (eCall g_L_lots (eCons (eVar 1) eNil)))) (eVar 5) [5] ⟨[some (.p (encM ((ordM n).filter T))), some (.p (.int (n : Nat))), some (.p (encR ms)), some (.p (encR ls)), none, none, none, none], ob⟩ = some (.p (.list ((ls.filter fun m => T m).map fun m => encL (lotOf m)))) := by
    refine eComp_of (eSeq_t rfl) (by rw [List.length_map]; omega) (compGo_enc (p := fun m => T m) (e := fun m => encL (lotOf m)) ls fun m hm => stepOf_if rfl ?_ fun _ => rfl)
    rw [(h.lg m hm).2]
    refine eOr_f (eB_of rfl rfl ?_) (eB_of rfl (eCall_of (eCons_of rfl rfl) (v_L_lots ob h1 h2)) ?_)
    · rw [encM_eq, gIn_Ls0, mem_shorts h1 h2 (h.lg m hm).1, (h.lg m hm).2]
    · rw [encM_eq, gIn_Ls1, decide_eq_true (List.mem_map.mpr ⟨m, (mem_ordM h1 h2).mpr (h.lg m hm).1, rfl⟩)]
      rfl
  have n2 : (ls.filter fun m => T m).map (fun m => encL (lotOf m)) = [] := by
    rw [List.map_eq_nil_iff, List.filter_eq_nil_iff]
    intro m hm
    rw [(h.lg m hm).2]
    simp
  have row : ∀ (rs : List Nat) (x : Option D), rs.length ≤ 100 → eComp (eRange (eCons (eVar 1) eNil)) (u1 7) (eC (.bool true)) (eData (eCons (eComp (eSeq (eVar 6)) (u1 5) (eB (gIn false) (eVar 7) (eVar 5)) (eVar 5) [5]) eNil) gLen) [7] ⟨[some (.p (encM ((ordM n).filter T))), some (.p (.int (n : Nat))), some (.p (encR ms)), some (.p (encR ls)), none, none, some (.p (encR rs)), none], ob⟩ = some (.p (.list ((cntR n rs).map fun c => .int (c : Nat)))) := fun rs x hr => by
    unfold cntR
    rw [List.map_map]
    refine eComp_of (rng_of (eCons_of rfl rfl) (by omega)) (by rw [List.length_map, List.length_range]; omega) (compGo_all (List.range n) fun bar _ => stepOf_all rfl (eData1 (x := .list ((rs.filter fun m => decide (bar ∈ lotOf m)).map fun m => encL (lotOf m))) ?_ (gLen_l _ _)))
    exact eComp_of (eSeq_t rfl) (by rw [List.length_map]; omega) (compGo_enc (p := fun m => decide (bar ∈ lotOf m)) (e := fun m => encL (lotOf m)) rs fun m hm => stepOf_if rfl (eB_of rfl rfl (gIn_L0 bar _)) fun _ => rfl)
  have e3 : eComp (eSeq (eData (eCons (eVar 2) (eCons (eVar 3) eNil)) kTup)) (u1 6) (eC (.bool true)) (eComp (eRange (eCons (eVar 1) eNil)) (u1 7) (eC (.bool true)) (eData (eCons (eComp (eSeq (eVar 6)) (u1 5) (eB (gIn false) (eVar 7) (eVar 5)) (eVar 5) [5]) eNil) gLen) [7]) [6] ⟨[some (.p (encM ((ordM n).filter T))), some (.p (.int (n : Nat))), some (.p (encR ms)), some (.p (encR ls)), none, none, none, none], ob⟩ = some (.p (.list ([ms, ls].map fun rs => .list ((cntR n rs).map fun c => .int (c : Nat))))) := by
    refine eComp_of (xs := [ms, ls].map encR) (eSeq_t (eData_of (xs := [encR ms, encR ls]) (eCons_of rfl (eCons_of rfl rfl)) (kTup_of (by show 2 ≤ 1000; decide)))) (by show 2 ≤ sizeLine; omega) (compGo_all [ms, ls] fun rs hr => stepOf_all rfl (row rs none ?_))
    obtain rfl | hr := List.mem_cons.mp hr
    · exact hl
    · rw [List.mem_singleton.mp hr]; omega
  have ec : cntR n ms = cntR n ls := List.map_congr_left fun bar _ => by rw [cnt_of, cnt_of, h.perm.count_eq]
  have sh : ∀ l : List Nat, Shp 1 (.list (l.map fun b => PyData.int (b : Nat))) := fun l => .list (k := 0) (Shp.nats l)
  refine runE_ret rfl (sSeq_nx (sIf_f (eOr_f (eB_of (eData1 rfl (gLen_t ms _)) (eData1 rfl (gLen_t ls _)) (y := .bool false) ?_) (eOr_f (eB_of (b := .int ((0 : Nat) : Int)) (eData1 rfl (gLen_t ms _)) rfl ((gEq_nat _ _).trans (by rw [ne0]))) (eB_of e1 (by rw [kLst_nil]) (emp _ n1)))) rfl) (sSeq_nx (sIf_f (eB_of e2 (by rw [kLst_nil]) (emp _ n2)) rfl) (sSeq_nx (sAsg_of e3) (sRet1 (eB_of (eB_of rfl rfl (gIx_l0 _ _)) (eB_of rfl rfl (gIx_l1 _ _ _)) (gEq_of (sh _) (sh _) ?_))))))
  · rw [hl2]
    exact gNe_of (k := 0) (Shp.int _) (Shp.int _) (r := true) (by rw [eqv_int]; simp)
  · show PyData.eqvAll ((cntR n ms).map fun b => PyData.int (b : Nat)) ((cntR n ls).map fun b => PyData.int (b : Nat)) = true
    rw [ec, eqv_nats]
    simp
end RB
set_option Elab.async false
set_option linter.all false
set_option maxRecDepth 100000
set_option maxHeartbeats 2000000
/-! The plain law: rows of rising lengths. -/
namespace RB
open PySem PySem.Spec PyProof.Rows L2
open PySem.W (AllAlike Sortable dataLe)
def rise : List Nat → Nat → Nat → List (List Nat)
  | [], _, t => if t = 0 then [[]] else []
  | s :: r, l, t => (List.range (t / s + 1 - l)).flatMap fun k => (rise r (l + k + 1) (t - s * (l + k))).map fun row => (l + k) :: row
/-- ever longer, from l on -/
def Inc : Nat → List Nat → Prop
  | _, [] => True
  | l, x :: r => l ≤ x ∧ Inc (x + 1) r
def dotS : List Nat → List Nat → Nat
  | s :: ss, x :: r => s * x + dotS ss r
  | _, _ => 0
theorem mem_rise : ∀ (ss : List Nat) (l t : Nat) (row : List Nat), (∀ s ∈ ss, 1 ≤ s) → (row ∈ rise ss l t ↔ row.length = ss.length ∧ Inc l row ∧ dotS ss row = t)
  | [], l, t, row, _ => by
    unfold rise
    by_cases ht : t = 0
    · rw [if_pos ht, List.mem_singleton]
      constructor
      · rintro rfl
        exact ⟨rfl, trivial, ht.symm⟩
      · rintro ⟨h, _, _⟩
        exact List.length_eq_zero_iff.mp h
    · rw [if_neg ht]
      constructor
      · intro h
        cases h
      · rintro ⟨h, _, h3⟩
        have e := List.length_eq_zero_iff.mp h
        subst e
        exact absurd h3.symm ht
  | s :: ss, l, t, row, hs => by
    have s1 : 1 ≤ s := hs s List.mem_cons_self
    have ih := fun l t row => mem_rise ss l t row fun x hx => hs x (List.mem_cons_of_mem _ hx)
    unfold rise
    rw [List.mem_flatMap]
    constructor
    · rintro ⟨k, hk, h⟩
      obtain ⟨row', h', rfl⟩ := List.mem_map.mp h
      obtain ⟨h1, h2, h3⟩ := (ih _ _ _).mp h'
      have hk := List.mem_range.mp hk
      have hq : s * (l + k) ≤ t := by
        rw [Nat.mul_comm]
        exact (Nat.le_div_iff_mul_le s1).mp (by omega)
      refine ⟨by rw [List.length_cons, h1, List.length_cons], ⟨Nat.le_add_right _ _, h2⟩, ?_⟩
      show s * (l + k) + dotS ss row' = t
      rw [h3]
      omega
    · rintro ⟨h1, h2, h3⟩
      cases row with
      | nil => cases h1
      | cons x r =>
        obtain ⟨h4, h5⟩ := h2
        have h3 : s * x + dotS ss r = t := h3
        have hq : x ≤ t / s := (Nat.le_div_iff_mul_le s1).mpr (by rw [Nat.mul_comm]; omega)
        refine ⟨x - l, List.mem_range.mpr (by omega), List.mem_map.mpr ⟨r, (ih _ _ _).mpr ⟨by simpa using h1, ?_, ?_⟩, ?_⟩⟩
        · rw [show l + (x - l) + 1 = x + 1 by omega]
          exact h5
        · rw [show l + (x - l) = x by omega]
          omega
        · rw [show l + (x - l) = x by omega]
/-! ### how many -/
theorem pows : ∀ K N : Nat, K ≤ N → ((List.range K).map fun k => 2 ^ (N - 1 - k)).sum + 2 ^ (N - K) = 2 ^ N
  | 0, N, _ => by simp
  | K + 1, N, h => by
    have ih := pows K N (by omega)
    rw [List.range_succ, List.map_append, List.sum_append, List.map_singleton, List.sum_singleton]
    have e : 2 ^ (N - K) = 2 ^ (N - 1 - K) + 2 ^ (N - (K + 1)) := by
      rw [show N - K = (N - 1 - K) + 1 by omega, Nat.pow_succ, show N - (K + 1) = N - 1 - K by omega]
      omega
    omega
theorem sum_le {α : Type} {f g : α → Nat} : ∀ l : List α, (∀ x ∈ l, f x ≤ g x) → (l.map f).sum ≤ (l.map g).sum
  | [], _ => Nat.le_refl _
  | x :: l, h => by
    rw [List.map_cons, List.map_cons, List.sum_cons, List.sum_cons]
    have h1 := h x List.mem_cons_self
    have h2 := sum_le l fun y hy => h y (List.mem_cons_of_mem _ hy)
    omega
theorem rise_len : ∀ (ss : List Nat) (l t : Nat), (∀ s ∈ ss, 1 ≤ s) → (rise ss l t).length ≤ 2 ^ (t + 1 - l)
  | [], l, t, _ => by
    unfold rise
    have := Nat.two_pow_pos (t + 1 - l)
    split
    · exact this
    · exact Nat.zero_le _
  | s :: ss, l, t, hs => by
    have s1 : 1 ≤ s := hs s List.mem_cons_self
    have hd : t / s ≤ t := Nat.div_le_self t s
    unfold rise
    rw [List.length_flatMap]
    have h1 := sum_le (f := fun k => ((rise ss (l + k + 1) (t - s * (l + k))).map fun row => (l + k) :: row).length) (g := fun k => 2 ^ (t + 1 - l - 1 - k)) (List.range (t / s + 1 - l)) fun k hk => by
      rw [List.length_map]
      refine Nat.le_trans (rise_len ss _ _ fun x hx => hs x (List.mem_cons_of_mem _ hx)) (Nat.pow_le_pow_right (by decide) ?_)
      omega
    have h2 := pows (t / s + 1 - l) (t + 1 - l) (by omega)
    have h3 := Nat.two_pow_pos (t + 1 - l - (t / s + 1 - l))
    omega
/-! ### the def -/
theorem cutD_1 (x : PyData) (xs : List PyData) : cutD (x :: xs) (some 1) none = xs := by
  unfold cutD
  have e : HT.sIx (x :: xs).length 0 (some 1) = 1 := by
    rw [show (1 : Int) = ((1 : Nat) : Int) from rfl, HT.sIx_nat]
    exact Nat.min_eq_left (Nat.succ_le_succ (Nat.zero_le _))
  rw [e]
  show xs.take xs.length = xs
  exact List.take_length
theorem big : (2 ^ 21 : Nat) ≤ sizeLine := by decide
theorem sExt_big {Γ : Gm} {p : Addr} {ds : List PyData} {i : Nat} {f : Ev} {xs : List PyData} (h1 : Γ.sl[i]? = some (some (.o p))) (h2 : f Γ = some (.p (.list xs))) (hz : ds.length + xs.length ≤ 2 ^ 21) : sExt i f p Γ ds = some (.nx Γ.sl, ds ++ xs) := by
  unfold sExt
  rw [h1, h2]
  dsimp only
  rw [if_pos ⟨rfl, Nat.le_trans hz big⟩]
def encRows (rs : List (List Nat)) : PyData := .list (rs.map fun r => .list (dL r))
theorem gNil_eq (l : List Nat) : gEq (.list (l.map fun b => .int (b : Nat))) (.list []) = some (.bool l.isEmpty) := by
  have shp : Shp 1 (.list (l.map fun b => PyData.int (b : Nat))) := .list (k := 0) (Shp.nats _)
  refine (gEq_of shp (.list (fun x hx => (by cases hx))) (eqv_nil _)).trans ?_
  cases l <;> rfl
theorem v_rising (ob : Ob) : ∀ (k : Nat) (ss : List Nat) (l t : Nat), (∀ s ∈ ss, 1 ≤ s ∧ s ≤ 1000) → ss.length < k → ss.length ≤ 100 → 1 ≤ l → l ≤ 1000 → t ≤ 21 → g_rising k ob [.p (.list (ss.map fun s => .int (s : Nat))), .p (.int (l : Nat)), .p (.int (t : Nat))] = some (.p (encRows (rise ss l t)))
  | 0, ss, l, t, _, hk, _, _, _, _ => absurd hk (Nat.not_lt_zero _)
  | k + 1, [], l, t, _, _, _, _, _, _ => by
    refine runE_ret rfl (sSeq_ret (sIf_t (eB_of rfl (by rw [kLst_nil]) (gNil_eq [])) (sRet1 ?_)))
    unfold rise encRows
    by_cases ht : t = 0
    · rw [if_pos ht, ht]
      refine eIf_t (eB_of (b := .int ((0 : Nat) : Int)) rfl rfl (gEq_nat _ _)) (eData_of (xs := [.list []]) (eCons_of (by rw [kLst_nil]) rfl) (kLst_of (by show 1 ≤ 1000; decide)))
    · rw [if_neg ht]
      refine eIf_f (eB_of (b := .int ((0 : Nat) : Int)) rfl rfl ((gEq_nat _ _).trans (by rw [decide_eq_false ht]))) (by rw [kLst_nil]; rfl)
  | k + 1, s :: ss, l, t, hs, hk, hn, l1, l2, ht => by
    have s1 := hs s List.mem_cons_self
    have hs1 : ∀ x ∈ s :: ss, 1 ≤ x := fun x hx => (hs x hx).1
    have hd : t / s ≤ t := Nat.div_le_self t s
    have hn' : ss.length ≤ 100 := by rw [List.length_cons] at hn; omega
    have tot := rise_len (s :: ss) l t hs1
    have tot2 : (2 : Nat) ^ (t + 1 - l) ≤ 2 ^ 21 := Nat.pow_le_pow_right (by decide) (by omega)
    refine runE_ret rfl (sSeq_nx (sIf_f (eB_of rfl (by rw [kLst_nil]) (gNil_eq (s :: ss))) rfl) (sNew_eq fun p => ?_))
    have loop := forGoA_of (step := fun x sl ds => match u1 4 x sl with
        | none => none
        | some sl' => (sSeqA (sExt 3 (eComp (eSeq (eCall (g_rising k) (eCons (eSl (eVar 0) (eP (eC (.int 1))) eP0) (eCons (eB gAdd (eVar 4) (eC (.int 1))) (eCons (eB gSub (eVar 2) (eB gMul (eB gIx (eVar 0) (eC (.int 0))) (eVar 4))) eNil))))) (u1 5) (eC (.bool true)) (eData (eCons (eVar 4) (eStar (eVar 5) eNil)) kLst) [5])) sNilA) p ⟨sl', ob⟩ ds)
      (enc := fun k => PyData.int ((l + k : Nat) : Int)) (add := fun k => ((rise ss (l + k + 1) (t - s * (l + k))).map fun row => (l + k) :: row).map fun r => .list (dL r)) (lim := 2 ^ 21)
      (Inv := fun sl => ∃ x4, sl = [some (.p (.list ((s :: ss).map fun s => .int (s : Nat)))), some (.p (.int (l : Nat))), some (.p (.int (t : Nat))), some (.o p), x4, none])
      (List.range (t / s + 1 - l)) [some (.p (.list ((s :: ss).map fun s => .int (s : Nat)))), some (.p (.int (l : Nat))), some (.p (.int (t : Nat))), some (.o p), none, none] [] (fun j hj sl ds hsl hlen => by
        obtain ⟨x4, rfl⟩ := hsl
        have hj := List.mem_range.mp hj
        have hq : s * (l + j) ≤ t := by
          rw [Nat.mul_comm]
          exact (Nat.le_div_iff_mul_le s1.1).mp (by omega)
        have rec_ := v_rising ob k ss (l + j + 1) (t - s * (l + j)) (fun x hx => hs x (List.mem_cons_of_mem _ hx)) (by rw [List.length_cons] at hk; omega) hn' (by omega) (by omega) (by omega)
        refine ⟨_, ?_, some (.p (.int ((l + j : Nat) : Int))), rfl⟩
        show sSeqA _ sNilA p ⟨[some (.p (.list ((s :: ss).map fun s => .int (s : Nat)))), some (.p (.int (l : Nat))), some (.p (.int (t : Nat))), some (.o p), some (.p (.int ((l + j : Nat) : Int))), none], ob⟩ ds = _
        have call : eCall (g_rising k) (eCons (eSl (eVar 0) (eP (eC (.int 1))) eP0) (eCons (eB gAdd (eVar 4) (eC (.int 1))) (eCons (eB gSub (eVar 2) (eB gMul (eB gIx (eVar 0) (eC (.int 0))) (eVar 4))) eNil))) ⟨[some (.p (.list ((s :: ss).map fun s => .int (s : Nat)))), some (.p (.int (l : Nat))), some (.p (.int (t : Nat))), some (.o p), some (.p (.int ((l + j : Nat) : Int))), none], ob⟩ = some (.p (encRows (rise ss (l + j + 1) (t - s * (l + j))))) := by
          refine eCall_of (eCons_of (d := .p (.list (ss.map fun s => .int (s : Nat)))) ?_ (eCons_of (d := .p (.int ((l + j + 1 : Nat) : Int))) (eB_of rfl rfl rfl) (eCons_of (d := .p (.int ((t - s * (l + j) : Nat) : Int))) (eB_of rfl (eB_of (eB_of rfl rfl (gIx_l0 _ _)) rfl (gMul_l (by omega) (by omega))) ?_) rfl))) rec_
          · show some (D.p (.list (cutD ((s :: ss).map fun s => PyData.int (s : Nat)) (some 1) none))) = _
            rw [List.map_cons, cutD_1]
          · show some (PyData.int ((t : Int) - (s : Int) * ((l + j : Nat) : Int))) = _
            congr 2
            rw [← Int.natCast_mul]
            omega
        have comp : eComp (eSeq (eCall (g_rising k) (eCons (eSl (eVar 0) (eP (eC (.int 1))) eP0) (eCons (eB gAdd (eVar 4) (eC (.int 1))) (eCons (eB gSub (eVar 2) (eB gMul (eB gIx (eVar 0) (eC (.int 0))) (eVar 4))) eNil))))) (u1 5) (eC (.bool true)) (eData (eCons (eVar 4) (eStar (eVar 5) eNil)) kLst) [5] ⟨[some (.p (.list ((s :: ss).map fun s => .int (s : Nat)))), some (.p (.int (l : Nat))), some (.p (.int (t : Nat))), some (.o p), some (.p (.int ((l + j : Nat) : Int))), none], ob⟩ = some (.p (.list (((rise ss (l + j + 1) (t - s * (l + j))).map fun row => (l + j) :: row).map fun r => .list (dL r)))) := by
          rw [List.map_map]
          refine eComp_of (eSeq_l call) ?_ (compGo_all (rise ss (l + j + 1) (t - s * (l + j))) fun row hrow => stepOf_all rfl (eData_of (xs := .int ((l + j : Nat) : Int) :: dL row) ?_ (kLst_of ?_)))
          · rw [List.length_map]
            have := rise_len ss (l + j + 1) (t - s * (l + j)) fun x hx => (hs x (List.mem_cons_of_mem _ hx)).1
            have t2 : (2 : Nat) ^ (t - s * (l + j) + 1 - (l + j + 1)) ≤ 2 ^ 21 := Nat.pow_le_pow_right (by decide) (by omega)
            exact Nat.le_trans (Nat.le_trans this t2) big
          · refine eCons_of rfl ?_
            show some ((dL row).map D.p ++ []) = _
            rw [List.append_nil]
          · have := ((mem_rise ss _ _ row fun x hx => (hs x (List.mem_cons_of_mem _ hx)).1).mp hrow).1
            rw [List.length_cons, List.length_map]
            omega
        rw [List.length_map] at hlen
        exact sSeqA_nx (sExt_big rfl comp (by rw [List.length_map]; exact hlen)) rfl) ⟨none, rfl⟩ (by
        rw [← List.map_flatMap, List.nil_append, List.length_map]
        unfold rise at tot
        omega)
    obtain ⟨sl', h, x4, rfl⟩ := loop
    rw [← List.map_flatMap, List.nil_append] at h
    have src : eRange2 (eCons (eVar 1) (eCons (eB gAdd (eB gDiv (eVar 2) (eB gIx (eVar 0) (eC (.int 0)))) (eC (.int 1))) eNil)) ⟨[some (.p (.list ((s :: ss).map fun s => .int (s : Nat)))), some (.p (.int (l : Nat))), some (.p (.int (t : Nat))), some (.o p), none, none], ob⟩ = some ((List.range (t / s + 1 - l)).map fun k => .int ((l + k : Nat) : Int)) := by
      have dv : gDiv (.int (t : Nat)) (.int (s : Nat)) = some (.int ((t / s : Nat) : Int)) := by
        rw [gDiv_pos (by omega) (by omega), Int.fdiv_eq_ediv_of_nonneg _ (by omega)]
        rfl
      generalize t / s = q at dv hd ⊢
      refine (eRange2_of (i := (l : Int)) (j := ((q : Nat) : Int) + 1) (eCons_of rfl (eCons_of (eB_of (eB_of rfl (eB_of rfl rfl (gIx_l0 _ _)) dv) rfl rfl) rfl)) (by omega) (by omega) (by omega) (by omega)).trans ?_
      unfold numsD
      rw [show (((q : Nat) : Int) + 1 - (l : Int)).toNat = q + 1 - l by omega]
      rfl
    have en : encRows (rise (s :: ss) l t) = .list (((List.range (t / s + 1 - l)).flatMap fun k => (rise ss (l + k + 1) (t - s * (l + k))).map fun row => (l + k) :: row).map fun r => .list (dL r)) := rfl
    rw [en]
    exact ⟨_, sSeqA_nx ((sForA_of src).trans h) (sSeqA_ret (sRetA_of rfl rfl))⟩
end RB
set_option Elab.async false
set_option linter.all false
set_option maxRecDepth 100000
set_option maxHeartbeats 2000000
/-! The plain law: bars of one class are of one length; bars in more short lots are shorter. -/
namespace RB
open PySem PySem.Spec PyProof.Rows L2
open PySem.W (AllAlike Sortable dataLe)
/-! ### classes -/
section
variable {eq : Nat → Nat → Bool} {w : Nat → Nat} {bar : Nat}
theorem addTo_flat : ∀ cl : List (List Nat), (addTo eq bar cl).flatten.Perm (cl.flatten ++ [bar])
  | [] => List.Perm.refl _
  | c :: r => by
    unfold addTo
    split
    · rw [List.flatten_cons, List.flatten_cons, List.append_assoc, List.append_assoc]
      exact List.Perm.append_left c List.perm_append_comm
    · rw [List.flatten_cons, List.flatten_cons, List.append_assoc]
      exact List.Perm.append_left c (addTo_flat r)
theorem headD_snoc : ∀ {c : List Nat}, c ≠ [] → (c ++ [bar]).headD 0 = c.headD 0
  | [], h => absurd rfl h
  | _ :: _, _ => rfl
theorem addTo_mem : ∀ (cl : List (List Nat)) (d : List Nat), d ∈ addTo eq bar cl → d ∈ cl ∨ d = [bar] ∨ ∃ c ∈ cl, d = c ++ [bar] ∧ eq (c.headD 0) bar = true
  | [], d, h => .inr (.inl (List.mem_singleton.mp h))
  | c :: r, d, h => by
    unfold addTo at h
    split at h
    · rename_i e
      rcases List.mem_cons.mp h with h | h
      · exact .inr (.inr ⟨c, List.mem_cons_self, h, e⟩)
      · exact .inl (List.mem_cons_of_mem _ h)
    · rcases List.mem_cons.mp h with h | h
      · rw [h]; exact .inl List.mem_cons_self
      · rcases addTo_mem r d h with h | h | ⟨x, hx, h⟩
        · exact .inl (List.mem_cons_of_mem _ h)
        · exact .inr (.inl h)
        · exact .inr (.inr ⟨x, List.mem_cons_of_mem _ hx, h⟩)
theorem addTo_heads : ∀ cl : List (List Nat), (∀ c ∈ cl, c ≠ []) → (∀ c ∈ cl, eq (c.headD 0) bar = decide (w (c.headD 0) = w bar)) →
    (addTo eq bar cl).map (fun c => w (c.headD 0)) = if w bar ∈ cl.map (fun c => w (c.headD 0)) then cl.map (fun c => w (c.headD 0)) else cl.map (fun c => w (c.headD 0)) ++ [w bar]
  | [], _, _ => by rw [if_neg (by simp)]; rfl
  | c :: r, hn, he => by
    have ih := addTo_heads r (fun d hd => hn d (List.mem_cons_of_mem _ hd)) fun d hd => he d (List.mem_cons_of_mem _ hd)
    unfold addTo
    rw [he c List.mem_cons_self]
    by_cases h : w (c.headD 0) = w bar
    · rw [if_pos (decide_eq_true h), List.map_cons, headD_snoc (hn c List.mem_cons_self), if_pos (by rw [List.map_cons, h]; exact List.mem_cons_self)]
      rfl
    · rw [if_neg (by simpa using h), List.map_cons, List.map_cons, ih]
      by_cases h2 : w bar ∈ r.map fun c => w (c.headD 0)
      · rw [if_pos h2, if_pos (List.mem_cons_of_mem _ h2)]
      · rw [if_neg h2, if_neg]
        · rfl
        · intro z
          obtain z | z := List.mem_cons.mp z
          · exact h z.symm
          · exact h2 z
structure ClsOk (w : Nat → Nat) (k : Nat) (cl : List (List Nat)) : Prop where
  ne : ∀ c ∈ cl, c ≠ []
  all : ∀ c ∈ cl, ∀ b ∈ c, w b = w (c.headD 0)
  flat : cl.flatten.Perm (List.range k)
  nd : (cl.map fun c => w (c.headD 0)).Nodup
theorem ClsOk.lt {k : Nat} {cl : List (List Nat)} (h : ClsOk w k cl) {c : List Nat} (hc : c ∈ cl) {b : Nat} (hb : b ∈ c) : b < k := List.mem_range.mp (h.flat.mem_iff.mp (List.mem_flatten.mpr ⟨c, hc, hb⟩))
theorem headD_mem : ∀ {c : List Nat}, c ≠ [] → c.headD 0 ∈ c
  | [], h => absurd rfl h
  | _ :: _, _ => List.mem_cons_self
theorem classes_ok {n : Nat} (he : ∀ i j, i < n → j < n → eq i j = decide (w i = w j)) : ∀ k, k ≤ n → ClsOk w k (classes eq k)
  | 0, _ => ⟨fun c h => (by cases h), fun c h => (by cases h), List.Perm.refl _, List.nodup_nil⟩
  | k + 1, hk => by
    have ih := classes_ok he k (by omega)
    have e : ∀ c ∈ classes eq k, eq (c.headD 0) k = decide (w (c.headD 0) = w k) := fun c hc => he _ _ (by have := ih.lt hc (headD_mem (ih.ne c hc)); omega) (by omega)
    show ClsOk w (k + 1) (addTo eq k (classes eq k))
    refine ⟨fun d hd => ?_, fun d hd b hb => ?_, ?_, ?_⟩
    · rcases addTo_mem _ d hd with h | h | ⟨c, hc, h, _⟩
      · exact ih.ne d h
      · rw [h]; exact fun z => nomatch z
      · rw [h]
        exact fun z => by simp at z
    · rcases addTo_mem _ d hd with h | h | ⟨c, hc, h, h2⟩
      · exact ih.all d h b hb
      · rw [h] at hb ⊢
        rw [List.mem_singleton.mp hb]
        rfl
      · rw [h] at hb ⊢
        rw [headD_snoc (ih.ne c hc)]
        obtain hb | hb := List.mem_append.mp hb
        · exact ih.all c hc b hb
        · rw [List.eq_of_mem_singleton hb]
          rw [e c hc] at h2
          exact (of_decide_eq_true h2).symm
    · rw [List.range_succ]
      exact (addTo_flat _).trans (List.Perm.append_right [k] ih.flat)
    · rw [addTo_heads _ ih.ne e]
      split
      · exact ih.nd
      · rename_i h
        rw [List.nodup_append]
        refine ⟨ih.nd, List.pairwise_singleton _ _, fun a ha b hb z => h ?_⟩
        rw [List.mem_singleton.mp hb] at z
        rw [← z]; exact ha
theorem sum_const {c : Nat} : ∀ l : List Nat, (∀ x ∈ l, w x = c) → (l.map w).sum = l.length * c
  | [], _ => by simp
  | x :: l, h => by
    rw [List.map_cons, List.sum_cons, List.length_cons, h x List.mem_cons_self, sum_const l fun y hy => h y (List.mem_cons_of_mem _ hy), Nat.succ_mul]
    omega
theorem sum_classes : ∀ cl : List (List Nat), (∀ c ∈ cl, ∀ b ∈ c, w b = w (c.headD 0)) → dotS (cl.map List.length) (cl.map fun c => w (c.headD 0)) = (cl.flatten.map w).sum
  | [], _ => rfl
  | c :: r, h => by
    show c.length * w (c.headD 0) + dotS (r.map List.length) (r.map fun c => w (c.headD 0)) = _
    rw [sum_classes r fun d hd => h d (List.mem_cons_of_mem _ hd), List.flatten_cons, List.map_append, List.sum_append, sum_const c (h c List.mem_cons_self)]
end
/-! ### what a row tells -/
theorem told_none {k : Nat} : ∀ l : List (Nat × Nat), k ∉ l.map (·.1) → toldF l k = none
  | [], _ => rfl
  | p :: r, h => by
    rw [List.map_cons, List.mem_cons, not_or] at h
    unfold toldF
    rw [told_none r h.2]
    dsimp only
    rw [if_neg h.1]
theorem told_mem : ∀ l : List (Nat × Nat), (l.map (·.1)).Nodup → ∀ p ∈ l, toldF l p.1 = some p.2
  | [], _, p, hp => by cases hp
  | q :: r, nd, p, hp => by
    rw [List.map_cons] at nd
    rw [List.nodup_cons] at nd
    unfold toldF
    obtain rfl | hp := List.mem_cons.mp hp
    · rw [told_none r nd.1]
      dsimp only
      rw [if_pos rfl]
    · rw [told_mem r nd.2 p hp]
theorem flat_fst : ∀ (lots : List (List Nat)) (r : List Nat), r.length = lots.length → (flatL (lots.zip r)).map (·.1) = lots.flatten
  | [], [], _ => rfl
  | [], _ :: _, h => by cases h
  | _ :: _, [], h => by cases h
  | c :: lots, x :: r, h => by
    have ih := flat_fst lots r (by simpa using h)
    unfold flatL at ih ⊢
    rw [List.zip_cons_cons, List.flatMap_cons, List.map_append, ih, List.flatten_cons, List.map_map]
    congr 1
    exact List.map_id' c
theorem flat_snd : ∀ (lots : List (List Nat)) (r : List Nat), r.length = lots.length → ((flatL (lots.zip r)).map (·.2)).sum = dotS (lots.map List.length) r
  | [], [], _ => rfl
  | [], _ :: _, h => by cases h
  | _ :: _, [], h => by cases h
  | c :: lots, x :: r, h => by
    have ih := flat_snd lots r (by simpa using h)
    unfold flatL at ih ⊢
    rw [List.zip_cons_cons, List.flatMap_cons, List.map_append, List.sum_append, ih]
    show _ = c.length * x + dotS (lots.map List.length) r
    congr 1
    rw [List.map_map]
    exact sum_const (w := fun _ => x) c fun _ _ => rfl
theorem flat_mem {lots : List (List Nat)} {r : List Nat} {b x : Nat} (h : (b, x) ∈ flatL (lots.zip r)) : x ∈ r ∧ ∃ c, (c, x) ∈ lots.zip r ∧ b ∈ c := by
  unfold flatL at h
  obtain ⟨⟨c, y⟩, h1, h2⟩ := List.mem_flatMap.mp h
  obtain ⟨b', h3, h4⟩ := List.mem_map.mp h2
  have e1 : b' = b := congrArg Prod.fst h4
  have e2 : y = x := congrArg Prod.snd h4
  subst e1
  subst e2
  exact ⟨(List.of_mem_zip h1).2, c, h1, h3⟩
section
variable {n : Nat} {lots : List (List Nat)} {r : List Nat}
theorem flat_nd (hl : r.length = lots.length) (hp : lots.flatten.Perm (List.range n)) : ((flatL (lots.zip r)).map (·.1)).Nodup := by
  rw [flat_fst _ _ hl]
  exact hp.nodup_iff.mpr List.nodup_range
theorem len_mem (hl : r.length = lots.length) (hp : lots.flatten.Perm (List.range n)) {bar : Nat} (hb : bar < n) : ∃ x, (bar, x) ∈ flatL (lots.zip r) ∧ toldF (flatL (lots.zip r)) bar = some x ∧ lenOf lots r bar = x := by
  have h : bar ∈ (flatL (lots.zip r)).map (·.1) := by
    rw [flat_fst _ _ hl]
    exact hp.mem_iff.mpr (List.mem_range.mpr hb)
  obtain ⟨⟨b, x⟩, h1, h2⟩ := List.mem_map.mp h
  have h2 : b = bar := h2
  subst h2
  have h3 := told_mem _ (flat_nd hl hp) _ h1
  exact ⟨x, h1, h3, by unfold lenOf; rw [h3]; rfl⟩
theorem row_sum (hl : r.length = lots.length) (hp : lots.flatten.Perm (List.range n)) : (rowL n lots r).sum = dotS (lots.map List.length) r := by
  have e : (flatL (lots.zip r)).map (·.2) = ((flatL (lots.zip r)).map (·.1)).map (lenOf lots r) := by
    rw [List.map_map]
    refine List.map_congr_left fun p h => ?_
    have h3 := told_mem _ (flat_nd hl hp) _ h
    show p.2 = lenOf lots r p.1
    unfold lenOf
    rw [h3]
    rfl
  rw [← flat_snd _ _ hl, e, flat_fst _ _ hl]
  exact ((hp.map (lenOf lots r)).sum_nat).symm
theorem row_len : (rowL n lots r).length = n := by
  unfold rowL
  rw [List.length_map]
  rw [List.length_range]
theorem row_pos (hl : r.length = lots.length) (hp : lots.flatten.Perm (List.range n)) (h1 : ∀ x ∈ r, 1 ≤ x) : ∀ x ∈ rowL n lots r, 1 ≤ x := fun x hx => by
  rcases List.mem_map.mp hx with ⟨b, hb, rfl⟩
  obtain ⟨y, h2, _, h4⟩ := len_mem hl hp (List.mem_range.mp hb)
  rw [h4]
  exact h1 y (flat_mem h2).1
end
theorem inc_pos : ∀ (r : List Nat) (l : Nat), 1 ≤ l → Inc l r → ∀ x ∈ r, 1 ≤ x
  | [], _, _, _, x, h => by cases h
  | y :: r, l, hl, hi, x, h => by
    obtain ⟨h1, h2⟩ := hi
    obtain rfl | h := List.mem_cons.mp h
    · omega
    · exact inc_pos r (y + 1) (by omega) h2 x h
/-! ### bars that beat are longer -/
section
variable {n : Nat} {T : Nat → Bool} {ls : List Nat}
structure HadW (n : Nat) (T : Nat → Bool) (ls : List Nat) : Prop where
  len : ls.length = n
  had : ∀ m, m < 2 ^ n → T m = decide (2 * dot ls m < ls.sum)
theorem sumAt_perm {a b : List Nat} (h : a.Perm b) : sumAt ls a = sumAt ls b := (h.map _).sum_nat
theorem dot_add (hn : n ≤ 6) (hl : ls.length = n) {i m : Nat} (hi : i < n) (hm : m < 2 ^ n) (hb : m.testBit i = false) : dot ls (m + 2 ^ i) = dot ls m + ls.getD i 0 := by
  have p6 := pow_le6 hn
  have h2 := add_lt6 n hn i hi m hm hb
  rw [← sum_lot (m := m) (by omega) (by rw [hl]; exact hm), ← sum_lot (m := m + 2 ^ i) (by omega) (by rw [hl]; exact h2), sumAt_perm (add_perm i (by omega) m (by omega) hb)]
  unfold sumAt
  rw [List.map_append, List.sum_append]
  simp
theorem beats_lt (hn : n ≤ 6) (H : HadW n T ls) {i j : Nat} (hi : i < n) (hj : j < n) (h : Beats n T i j) : ls.getD j 0 < ls.getD i 0 := by
  obtain ⟨m, hm, b1, b2, h1, h2⟩ := h
  have a1 := add_lt6 n hn i hi m hm b1
  have a2 := add_lt6 n hn j hj m hm b2
  rw [H.had _ a1, dot_add hn H.len hi hm b1] at h1
  rw [H.had _ a2, dot_add hn H.len hj hm b2] at h2
  have h1 := of_decide_eq_false h1
  have h2 := of_decide_eq_true h2
  omega
theorem bm_iff {i j : Nat} : (bm n T i j).isSome = true ↔ Beats n T i j := by
  unfold bm Beats
  rw [List.find?_isSome]
  unfold btn
  constructor
  · rintro ⟨m, hm, h⟩
    simp only [Bool.not_eq_true', Bool.and_eq_true] at h
    exact ⟨m, List.mem_range.mp hm, h.1.1, h.1.2, h.2.1, h.2.2⟩
  · rintro ⟨m, hm, h1, h2, h3, h4⟩
    refine ⟨m, List.mem_range.mpr hm, ?_⟩
    simp only [Bool.and_eq_true, Bool.not_eq_true']
    exact ⟨⟨h1, h2⟩, h3, h4⟩
theorem bm_none {i j : Nat} : (bm n T i j).isNone = true ↔ ¬ Beats n T i j := by
  rw [← bm_iff]
  cases bm n T i j <;> simp
/-! ### two bars changed for one another -/
def swp (i j m : Nat) : Nat := if m.testBit i = m.testBit j then m else m ^^^ (2 ^ i ||| 2 ^ j)
theorem swp_perm : ∀ n, n < 7 → ∀ i, i < n → ∀ j, j < n → ((List.range (2 ^ n)).map (swp i j)).Perm (List.range (2 ^ n)) := by decide +kernel
theorem swp_bit : ∀ i, i < 6 → ∀ j, j < 6 → ∀ m, m < 64 → (swp i j m).testBit j = m.testBit i := by decide +kernel
theorem swp_both : ∀ i, i < 6 → ∀ j, j < 6 → ∀ m, m < 64 → m.testBit i = true → m.testBit j = true → swp i j m = m := by decide +kernel
theorem swp_oneB : ∀ i, i < 6 → ∀ j, j < 6 → ∀ m, m < 64 → (!(m.testBit i && !m.testBit j) || (decide (2 ^ i ≤ m) && (!(m - 2 ^ i).testBit i && (!(m - 2 ^ i).testBit j && decide (swp i j m = m - 2 ^ i + 2 ^ j))))) = true := by decide +kernel
theorem swp_one (i : Nat) (hi : i < 6) (j : Nat) (hj : j < 6) (m : Nat) (hm : m < 64) (h1 : m.testBit i = true) (h2 : m.testBit j = false) : 2 ^ i ≤ m ∧ (m - 2 ^ i).testBit i = false ∧ (m - 2 ^ i).testBit j = false ∧ swp i j m = m - 2 ^ i + 2 ^ j := by
  have h := swp_oneB i hi j hj m hm
  rw [h1, h2] at h
  simp only [Bool.not_false, Bool.and_true, Bool.not_true, Bool.false_or, Bool.and_eq_true, Bool.not_eq_true', decide_eq_true_eq] at h
  exact h
theorem filter_le_lt {α : Type} {p q : α → Bool} : ∀ l : List α, (∀ x ∈ l, p x = true → q x = true) → (l.filter p).length ≤ (l.filter q).length ∧ ((∃ x ∈ l, q x = true ∧ p x = false) → (l.filter p).length < (l.filter q).length)
  | [], _ => ⟨Nat.le_refl _, fun ⟨x, h, _⟩ => (by cases h)⟩
  | y :: l, h => by
    obtain ⟨ih1, ih2⟩ := filter_le_lt l fun x hx => h x (List.mem_cons_of_mem _ hx)
    have hy := h y List.mem_cons_self
    rw [List.filter_cons]
    rw [List.filter_cons]
    cases hp : p y with
    | true =>
      rw [if_pos rfl, if_pos (hy hp), List.length_cons, List.length_cons]
      refine ⟨by omega, fun ⟨x, hx, h1, h2⟩ => ?_⟩
      obtain rfl | hx := List.mem_cons.mp hx
      · rw [hp] at h2; cases h2
      · have := ih2 ⟨x, hx, h1, h2⟩
        omega
    | false =>
      rw [if_neg (by simp)]
      cases hq : q y with
      | true =>
        rw [if_pos rfl, List.length_cons]
        exact .intro (by omega) fun _ => by omega
      | false =>
        rw [if_neg (by simp)]
        refine ⟨ih1, fun ⟨x, hx, h1, h2⟩ => ?_⟩
        obtain rfl | hx := List.mem_cons.mp hx
        · rw [hq] at h1; cases h1
        · exact ih2 ⟨x, hx, h1, h2⟩
theorem cnt_swap (hn : n ≤ 6) {i j : Nat} (hi : i < n) (hj : j < n) : cntB n T j = ((List.range (2 ^ n)).filter fun m => T (swp i j m) && m.testBit i).length := by
  have p6 := pow_le6 hn
  unfold cntB
  rw [← ((swp_perm n (by omega) i hi j hj).filter fun m => T m && m.testBit j).length_eq, List.filter_map, List.length_map]
  congr 1
  refine List.filter_congr fun m hm => ?_
  have hm := List.mem_range.mp hm
  show (T (swp i j m) && (swp i j m).testBit j) = _
  rw [swp_bit i (by omega) j (by omega) m (by omega)]
theorem cnt_lt (hn : n ≤ 6) (H : HadW n T ls) {i j : Nat} (hi : i < n) (hj : j < n) (hw : ls.getD j 0 < ls.getD i 0) (hb : Beats n T i j) : cntB n T i < cntB n T j := by
  have p6 := pow_le6 hn
  rw [cnt_swap hn hi hj]
  unfold cntB
  refine (filter_le_lt (List.range (2 ^ n)) fun m hm h => ?_).2 ?_
  · have hm := List.mem_range.mp hm
    rw [Bool.and_eq_true] at h ⊢
    refine ⟨?_, h.2⟩
    cases hj2 : m.testBit j with
    | true => rw [swp_both i (by omega) j (by omega) m (by omega) h.2 hj2]; exact h.1
    | false =>
      obtain ⟨q1, q2, q3, q4⟩ := swp_one i (by omega) j (by omega) m (by omega) h.2 hj2
      have q5 : m - 2 ^ i < 2 ^ n := Nat.lt_of_le_of_lt (Nat.sub_le _ _) hm
      have e : m - 2 ^ i + 2 ^ i = m := Nat.sub_add_cancel q1
      have d1 := dot_add hn H.len hi q5 q2
      have d2 := dot_add hn H.len hj q5 q3
      have h1 := h.1
      rw [H.had m hm] at h1
      have h1 := of_decide_eq_true h1
      rw [e] at d1
      rw [q4, H.had _ (add_lt6 n hn j hj _ q5 q3)]
      exact decide_eq_true <| by omega
  · obtain ⟨m, hm, b1, b2, h1, h2⟩ := hb
    have a1 := add_lt6 n hn i hi m hm b1
    have sw : swp i j (m + 2 ^ i) = m + 2 ^ j ∧ (m + 2 ^ i).testBit i = true := by
      have c1 : i ∈ lotOf (m + 2 ^ i) := (add_perm i (by omega) m (by omega) b1).mem_iff.mpr (List.mem_append_right _ (List.mem_singleton.mpr rfl))
      have c2 := (mem_lotOf.mp c1).2
      have hij : i ≠ j := fun z => by rw [z] at hw; omega
      have c3 : (m + 2 ^ i).testBit j = false := by
        cases q : (m + 2 ^ i).testBit j with
        | false => rfl
        | true =>
          have := (add_perm i (by omega) m (by omega) b1).mem_iff.mp (mem_lotOf.mpr ⟨(by omega : j < 6), q⟩)
          rcases List.mem_append.mp this with this | this
          · have := (mem_lotOf.mp this).2
            rw [b2] at this; cases this
          · exact absurd (List.mem_singleton.mp this).symm hij
      obtain ⟨q1, q2, q3, q4⟩ := swp_one i (by omega) j (by omega) (m + 2 ^ i) (by omega) c2 c3
      rw [Nat.add_sub_cancel] at q4
      exact ⟨q4, c2⟩
    refine ⟨m + 2 ^ i, List.mem_range.mpr a1, ?_, ?_⟩
    · rw [sw.1, sw.2, h2]; rfl
    · rw [h1]; rfl
end
end RB
set_option Elab.async false
set_option linter.all false
set_option maxRecDepth 100000
set_option maxHeartbeats 2000000
/-! The plain law: the least lengths are found. -/
namespace RB
open PySem PySem.Spec PyProof.Rows L2
open PySem.W (AllAlike Sortable dataLe)
theorem hadB_iff {n : Nat} {T : Nat → Bool} {ls : List Nat} : hadB n T ls = true ↔ ∀ m, m < 2 ^ n → 2 * dot ls m ≠ ls.sum ∧ T m = decide (2 * dot ls m < ls.sum) := by
  unfold hadB
  rw [Option.isNone_iff_eq_none, List.find?_eq_none]
  constructor
  · intro h m hm
    have h := h m (List.mem_range.mpr hm)
    unfold badB at h
    rw [Bool.or_eq_true, not_or, decide_eq_true_eq, Bool.not_eq_true', decide_eq_false_iff_not, Classical.not_not] at h
    exact ⟨h.1, h.2.symm⟩
  · intro h m hm
    obtain ⟨h1, h2⟩ := h m (List.mem_range.mp hm)
    unfold badB
    rw [Bool.or_eq_true, not_or, decide_eq_true_eq, Bool.not_eq_true', decide_eq_false_iff_not, Classical.not_not]
    exact ⟨h1, h2.symm⟩
theorem HadW.of {n : Nat} {T : Nat → Bool} {ls : List Nat} (hl : ls.length = n) (h : hadB n T ls = true) : HadW n T ls := ⟨hl, fun m hm => (hadB_iff.mp h m hm).2⟩
theorem odds_mem {n : Nat} (h3 : 3 ≤ n) (h6 : n ≤ 6) {T : Nat → Bool} {i j : Nat} (hij : i < j) (hj : j < n) (h1 : Beats n T i j) (h2 : Beats n T j i) : oddsL n T ≠ [] := by
  have a1 := bm_iff.mpr h1
  have a2 := bm_iff.mpr h2
  rw [bm_bt h3 h6] at a1 a2
  obtain ⟨x, hx⟩ := Option.isSome_iff_exists.mp a1
  obtain ⟨y, hy⟩ := Option.isSome_iff_exists.mp a2
  have m : (i, j, x, y) ∈ oddsL n T := by
    unfold oddsL
    refine List.mem_flatMap.mpr ⟨i, List.mem_range.mpr (by omega), ?_⟩
    unfold oddsI
    refine List.mem_flatMap.mpr ⟨j - (i + 1), List.mem_range.mpr (by omega), ?_⟩
    rw [show i + 1 + (j - (i + 1)) = j by omega]
    unfold oddsJ
    rw [hx, hy]
    exact List.mem_singleton.mpr rfl
  exact fun z => by rw [z] at m; cases m
theorem of_odds {n : Nat} (h3 : 3 ≤ n) (h6 : n ≤ 6) {T : Nat → Bool} {o : Od} (h : o ∈ oddsL n T) : o.1 < o.2.1 ∧ o.2.1 < n ∧ bt n T o.1 o.2.1 = some o.2.2.1 ∧ bt n T o.2.1 o.1 = some o.2.2.2 := by
  unfold oddsL at h
  obtain ⟨i, hi, h⟩ := List.mem_flatMap.mp h
  unfold oddsI at h
  obtain ⟨k, hk, h⟩ := List.mem_flatMap.mp h
  have hi := List.mem_range.mp hi
  have hk := List.mem_range.mp hk
  unfold oddsJ at h
  split at h
  · rename_i a b h1 h2
    rw [List.mem_singleton.mp h]
    exact ⟨by show i < i + 1 + k; omega, by show i + 1 + k < n; omega, h1, h2⟩
  · cases h
theorem bt_beats {n : Nat} (h3 : 3 ≤ n) (h6 : n ≤ 6) {T : Nat → Bool} {i j m : Nat} (h : bt n T i j = some m) : Beats n T i j := by
  obtain ⟨a, b, c, d, e⟩ := bt_some h3 h6 h
  exact ⟨m, a, b, c, d, e⟩
/-- a book with bars at odds has no lengths -/
theorem no_had {n : Nat} (h3 : 3 ≤ n) (h6 : n ≤ 6) {T : Nat → Bool} {o : Od} (h : o ∈ oddsL n T) {ls : List Nat} (hl : ls.length = n) : hadB n T ls = false := by
  obtain ⟨h1, h2, h4, h5⟩ := of_odds h3 h6 h
  cases q : hadB n T ls with
  | false => rfl
  | true =>
    have H := HadW.of hl q
    have b1 := beats_lt h6 H (by omega) h2 (bt_beats h3 h6 h4)
    have b2 := beats_lt h6 H h2 (by omega) (bt_beats h3 h6 h5)
    omega
theorem six_odds {n : Nat} (h3 : 3 ≤ n) (h6 : n ≤ 6) {T : Nat → Bool} (G : Good n T) (h : oddsL n T ≠ []) : n = 6 := by
  obtain ⟨o, ho⟩ := List.exists_mem_of_ne_nil _ h
  obtain ⟨h1, h2, h4, h5⟩ := of_odds h3 h6 ho
  exact (books_all go6 h3 h6 G).1 ⟨o.1, o.2.1, h1, h2, bt_beats h3 h6 h4, bt_beats h3 h6 h5⟩
/-! ### scaled lengths -/
theorem dot_mul (k : Nat) : ∀ (ls : List Nat) (m : Nat), dot (ls.map (k * ·)) m = k * dot ls m
  | [], m => rfl
  | x :: r, m => by
    show (if m % 2 = 1 then k * x else 0) + dot (r.map (k * ·)) (m / 2) = k * ((if m % 2 = 1 then x else 0) + dot r (m / 2))
    rw [dot_mul k r, Nat.mul_add]
    split <;> simp
theorem sum_mul (k : Nat) : ∀ ls : List Nat, (ls.map (k * ·)).sum = k * ls.sum
  | [] => rfl
  | x :: r => by
    rw [List.map_cons, List.sum_cons, List.sum_cons, sum_mul k r, Nat.mul_add]
theorem had_mul {n : Nat} {T : Nat → Bool} {ls : List Nat} {k : Nat} (hk : 1 ≤ k) (h : hadB n T ls = true) : hadB n T (ls.map (k * ·)) = true := by
  rw [hadB_iff] at h ⊢
  intro m hm
  obtain ⟨h1, h2⟩ := h m hm
  rw [dot_mul, sum_mul, Nat.mul_left_comm]
  refine ⟨fun z => h1 (Nat.eq_of_mul_eq_mul_left hk z), h2.trans (decide_eq_decide.mpr ?_)⟩
  exact (Nat.mul_lt_mul_left hk).symm
/-! ### small things -/
theorem scan_some {α : Type} {f : Nat → Option α} : ∀ k j t, j < k → (f (t + 2 * j)).isSome = true → (scan f t k).isSome = true
  | 0, j, t, h, _ => absurd h (Nat.not_lt_zero _)
  | k + 1, j, t, h, e => by
    unfold scan
    cases q : f t with
    | some r => rfl
    | none =>
      cases j with
      | zero =>
        rw [Nat.mul_zero, Nat.add_zero, q] at e
        cases e
      | succ j => exact scan_some k j (t + 2) (by omega) (by rw [show t + 2 + 2 * j = t + 2 * (j + 1) by omega]; exact e)
theorem scan_found {α : Type} {f : Nat → Option α} {r : α} : ∀ k t, scan f t k = some r → ∃ j, j < k ∧ f (t + 2 * j) = some r
  | 0, t, h => by cases h
  | k + 1, t, h => by
    unfold scan at h
    cases q : f t with
    | some x =>
      rw [q] at h
      exact ⟨0, Nat.succ_pos _, q.trans h⟩
    | none =>
      rw [q] at h
      obtain ⟨j, h1, h2⟩ := scan_found k (t + 2) h
      exact ⟨j + 1, by omega, by rw [show t + 2 * (j + 1) = t + 2 + 2 * j by omega]; exact h2⟩
theorem inc_of : ∀ (l : List Nat) (k : Nat), l.Pairwise (· < ·) → (∀ x ∈ l, k ≤ x) → Inc k l
  | [], _, _, _ => trivial
  | x :: r, k, h, hk => by
    rw [List.pairwise_cons] at h
    exact ⟨hk x List.mem_cons_self, inc_of r (x + 1) h.2 fun y hy => h.1 y hy⟩
theorem flat_len : ∀ cl : List (List Nat), (∀ c ∈ cl, c ≠ []) → cl.length ≤ cl.flatten.length
  | [], _ => Nat.le_refl _
  | c :: r, h => by
    have h1 := List.length_pos_iff.mpr (h c List.mem_cons_self)
    have h2 := flat_len r fun d hd => h d (List.mem_cons_of_mem _ hd)
    rw [List.flatten_cons, List.length_append, List.length_cons]
    omega
theorem sum_ge : ∀ l : List Nat, (∀ x ∈ l, 1 ≤ x) → l.length ≤ l.sum
  | [], _ => Nat.le_refl _
  | x :: r, h => by
    have h1 := h x List.mem_cons_self
    have h2 := sum_ge r fun d hd => h d (List.mem_cons_of_mem _ hd)
    rw [List.sum_cons]
    rw [List.length_cons]
    omega
theorem zip_map {α β : Type} {f : α → β} {c : α} {x : β} : ∀ l : List α, (c, x) ∈ l.zip (l.map f) → x = f c
  | [], h => by cases h
  | a :: l, h => by
    rw [List.map_cons, List.zip_cons_cons] at h
    rcases List.mem_cons.mp h with h | h
    · obtain ⟨rfl, rfl⟩ := Prod.mk.inj h
      rfl
    · exact zip_map l h
theorem range_getD {w : List Nat} {n : Nat} (h : w.length = n) : (List.range n).map (fun i => w.getD i 0) = w := by
  refine List.ext_getElem (by rw [List.length_map, List.length_range, h]) fun i h1 h2 => ?_
  rw [List.getElem_map]
  rw [List.getElem_range, List.getD_eq_getElem?_getD, List.getElem?_eq_getElem h2]
  rfl
theorem le_key (cnt : Nat → Nat) (a b : List Nat) : dataLe false (keyL cnt) a b = decide (cnt (b.headD 0) ≤ cnt (a.headD 0)) := by
  show (!PySem.W.dataLt (keyL cnt b) (keyL cnt a)) = _
  unfold keyL
  rw [PySem.W.dataLt_int]
  rw [← decide_not]
  exact decide_eq_decide.mpr <| by omega
structure LenOk (n : Nat) (T : Nat → Bool) (ls : List Nat) : Prop where
  len : ls.length = n
  pos : ∀ x ∈ ls, 1 ≤ x
  odd : ls.sum % 2 = 1
  had : hadB n T ls = true
  most : ls.sum ≤ 1000
theorem least_of {n : Nat} {T : Nat → Bool} (G : Good n T) (h3 : 3 ≤ n) (h6 : n ≤ 6) {cs : Cs} {ob : Ob} {b : Nat} {gr : PyData} (B : BookAt cs ob b n T gr) (no : oddsL n T = []) :
    ∃ rows lots fuel r, LeastOk cs ob b n T gr (eqB n T) (cntB n T) (hadB n T) rows lots fuel r ∧ LenOk n T (rowL n lots r) := by
  obtain ⟨w, W⟩ := (books_all go6 h3 h6 G).2 fun ⟨i, j, h1, h2, h4, h5⟩ => odds_mem h3 h6 h1 h2 h4 h5 no
  have H : HadW n T w := ⟨W.len, W.had⟩
  have eq1 : ∀ i j, i < n → j < n → ¬ Beats n T i j → ¬ Beats n T j i → w.getD i 0 = w.getD j 0 := fun i j hi hj b1 b2 => by
    rcases Nat.lt_trichotomy i j with h | h | h
    · exact W.eq i j h hj b1 b2
    · rw [h]
    · exact (W.eq j i h hi b2 b1).symm
  have he : ∀ i j, i < n → j < n → eqB n T i j = decide (w.getD i 0 = w.getD j 0) := fun i j hi hj => by
    rw [Bool.eq_iff_iff]
    unfold eqB
    rw [Bool.and_eq_true, bm_none, bm_none, decide_eq_true_eq]
    constructor
    · rintro ⟨b1, b2⟩
      exact eq1 i j hi hj b1 b2
    · intro e
      exact ⟨fun z => by have := beats_lt h6 H hi hj z; omega, fun z => by have := beats_lt h6 H hj hi z; omega⟩
  have C := classes_ok (w := fun i => w.getD i 0) he n (Nat.le_refl _)
  have hp : (sortedL (cntB n T) (classes (eqB n T) n)).Perm (classes (eqB n T) n) := List.mergeSort_perm _ _
  have hs : (sortedL (cntB n T) (classes (eqB n T) n)).Pairwise fun a b => cntB n T (b.headD 0) ≤ cntB n T (a.headD 0) := by
    refine (List.pairwise_mergeSort (le := dataLe false (keyL (cntB n T))) (fun a b c h1 h2 => ?_) (fun a b => ?_) _).imp fun {a b} h => ?_
    · rw [le_key, decide_eq_true_eq] at h1 h2 ⊢
      omega
    · rw [le_key, le_key, Bool.or_eq_true, decide_eq_true_eq, decide_eq_true_eq]
      omega
    · rw [le_key, decide_eq_true_eq] at h
      exact h
  generalize hlots : sortedL (cntB n T) (classes (eqB n T) n) = lots at hp hs
  have L : ClsOk (fun i => w.getD i 0) n lots := ⟨fun c hc => C.ne c (hp.mem_iff.mp hc), fun c hc => C.all c (hp.mem_iff.mp hc), hp.flatten.trans C.flat, (hp.map _).nodup_iff.mpr C.nd⟩
  have up : (lots.map fun c => w.getD (c.headD 0) 0).Pairwise (· < ·) := by
    have nd := L.nd
    unfold List.Nodup at nd
    rw [List.pairwise_map] at nd ⊢
    refine (hs.and nd).imp_of_mem fun {a b} ha hb h => ?_
    have ia := L.lt ha (headD_mem (L.ne a ha))
    have ib := L.lt hb (headD_mem (L.ne b hb))
    have h2 : w.getD (a.headD 0) 0 ≠ w.getD (b.headD 0) 0 := h.2
    apply Classical.byContradiction
    intro nlt
    have gt : w.getD (b.headD 0) 0 < w.getD (a.headD 0) 0 := by omega
    have bt' : Beats n T (a.headD 0) (b.headD 0) := Classical.byContradiction fun nb => h2 (eq1 _ _ ia ib nb fun z => by have := beats_lt h6 H ib ia z; omega)
    have := cnt_lt h6 H ia ib gt bt'
    have := h.1
    omega
  have flen : lots.flatten.length = n := by rw [L.flat.length_eq, List.length_range]
  have few : lots.length ≤ 6 := by have := flat_len lots L.ne; omega
  have sz : ∀ s ∈ lots.map List.length, 1 ≤ s ∧ s ≤ 1000 := fun s h => by
    obtain ⟨c, hc, rfl⟩ := List.mem_map.mp h
    have h1 := List.length_pos_iff.mpr (L.ne c hc)
    have h2 := (List.sublist_flatten_of_mem hc).length_le
    omega
  have sz1 : ∀ s ∈ lots.map List.length, 1 ≤ s := fun s h => (sz s h).1
  -- the row of w
  have rl : (lots.map fun c => w.getD (c.headD 0) 0).length = lots.length := List.length_map ..
  have wpos : ∀ i, i < n → 1 ≤ w.getD i 0 := fun i hi => by
    rw [List.getD_eq_getElem?_getD, List.getElem?_eq_getElem (by rw [W.len]; exact hi)]
    exact W.pos _ (List.getElem_mem _)
  have rmem : (lots.map fun c => w.getD (c.headD 0) 0) ∈ rise (lots.map List.length) 1 w.sum := by
    refine (mem_rise _ _ _ _ sz1).mpr ⟨by rw [List.length_map, List.length_map], inc_of _ _ up fun x hx => ?_, ?_⟩
    · obtain ⟨c, hc, rfl⟩ := List.mem_map.mp hx
      exact wpos _ (L.lt hc (headD_mem (L.ne c hc)))
    · rw [sum_classes (w := fun i => w.getD i 0) lots L.all, (L.flat.map _).sum_nat, range_getD W.len]
  have rw_ : rowL n lots (lots.map fun c => w.getD (c.headD 0) 0) = w := by
    refine Eq.trans ?_ (range_getD W.len)
    unfold rowL
    refine List.map_congr_left fun bar hbar => ?_
    obtain ⟨x, h1, h2, h4⟩ := len_mem rl L.flat (List.mem_range.mp hbar)
    obtain ⟨_, c, hc, hb⟩ := flat_mem h1
    rw [h4, zip_map lots hc]
    exact (L.all c (List.of_mem_zip hc).1 bar hb).symm
  have whad : hadB n T w = true := hadB_iff.mpr fun m hm => ⟨fun z => by have := W.odd; omega, W.had m hm⟩
  have wsum := sum_ge w W.pos
  have wodd := W.odd
  have wmost := W.most
  rw [W.len] at wsum
  have t0o : t0 n % 2 = 1 ∧ n ≤ t0 n ∧ t0 n ≤ w.sum := by
    unfold t0
    split <;> omega
  obtain ⟨k, hk⟩ : ∃ k, w.sum = t0 n + 2 * k := ⟨(w.sum - t0 n) / 2, by omega⟩
  have found : (scan (fun t => (rise (lots.map List.length) 1 t).find? fun r => hadB n T (rowL n lots r)) (t0 n) (k + 1)).isSome = true := by
    refine scan_some (k + 1) k (t0 n) (Nat.lt_succ_self _) ?_
    rw [← hk]
    exact List.find?_isSome.mpr ⟨_, rmem, by rw [rw_]; exact whad⟩
  obtain ⟨r, hr⟩ := Option.isSome_iff_exists.mp found
  obtain ⟨j, hj, hr2⟩ := scan_found _ _ hr
  have rm := List.mem_of_find?_eq_some hr2
  have rh : hadB n T (rowL n lots r) = true := List.find?_some (p := fun r => hadB n T (rowL n lots r)) hr2
  obtain ⟨r1, r2, r3⟩ := (mem_rise _ _ _ _ sz1).mp rm
  rw [List.length_map] at r1
  refine ⟨fun t => rise (lots.map List.length) 1 t, lots, k + 1, r, ?_, ⟨row_len, row_pos r1 L.flat (inc_pos r 1 (Nat.le_refl _) r2), ?_, rh, ?_⟩⟩
  · refine ⟨B, by omega, h6, fun i j hi hj => v_are_equals B h6 hi hj, fun i hi => v_shorts_with B h6 hi, fun c hc => ?_, hlots.symm, ?_, fun t ht => ?_, fun t ht r hr => ?_, fun t ht r hr => ?_, hr⟩
    · have h1 := C.ne c hc
      cases c with
      | nil => exact absurd rfl h1
      | cons x r => exact ⟨x, r, rfl, C.lt hc List.mem_cons_self⟩
    · rw [← hp.length_eq]; exact few
    · have h := v_rising ob 7 (lots.map List.length) 1 t sz (by rw [List.length_map]; omega) (by rw [List.length_map]; omega) (by decide) (by decide) (by omega)
      rw [List.map_map] at h
      exact h
    · obtain ⟨q1, q2, q3⟩ := (mem_rise _ _ _ _ sz1).mp hr
      rw [List.length_map] at q1
      refine ⟨q1, ?_, fun bar hb => ?_⟩
      · have h := congrArg List.length (flat_fst lots r q1)
        rw [List.length_map, flen] at h
        omega
      · obtain ⟨x, _, h4, _⟩ := len_mem q1 L.flat hb
        rw [h4]; rfl
    · exact v_are_had B h6 false row_len
  · rw [row_sum r1 L.flat, r3]
    omega
  · rw [row_sum r1 L.flat, r3]
    omega
end RB
set_option Elab.async false
set_option linter.all false
set_option maxRecDepth 100000
set_option maxHeartbeats 4000000
/-! The hat hidden among what is owned; one of some values, some values in a drawn order. -/
namespace RB
open PySem PySem.Spec PyProof.Rows L2
/-- slots by what they hold -/
inductive HsL (H : Hp) : L2.St → List (Option D) → Prop
  | nil : HsL H [] []
  | s {v : V} {d : D} {σ : L2.St} {sl : List (Option D)} : Rep H v d → HsL H σ sl → HsL H (some v :: σ) (some d :: sl)
  | n {x : Option V} {σ : L2.St} {sl : List (Option D)} : HsL H σ sl → HsL H (x :: σ) (none :: sl)
theorem HsL.hs {H : Hp} {σ : L2.St} {sl : List (Option D)} {ob : Ob} (h : HsL H σ sl) (o : ObOk H ob) : Hs H σ ⟨sl, ob⟩ := by
  refine ⟨?_, ?_, o⟩
  · show sl.length = σ.length
    clear o
    induction h with
    | nil => rfl
    | s _ _ ih => rw [List.length_cons, List.length_cons, ih]
    | n _ ih => rw [List.length_cons, List.length_cons, ih]
  · show ∀ (i : Nat) (d : D), sl[i]? = some (some d) → ∃ v, σ[i]? = some (some v) ∧ Rep H v d
    clear o
    induction h with
    | nil => intro i d z; cases z
    | s r _ ih =>
      intro i d z
      cases i with
      | zero => cases z; exact ⟨_, rfl, r⟩
      | succ i => exact ih i d z
    | n _ ih =>
      intro i d z
      cases i with
      | zero => cases z
      | succ i => exact ih i d z
/-- the hat at a, of which at most n numbers are drawn, is hidden -/
structure Hat (O : List Addr) (a l : Addr) (n : Nat) (H : Hp) : Prop where
  mem : a ∈ O
  lm : l ∈ O
  own : Own O H
  hat : HatAt H a l n
section
variable {O : List Addr} {a l : Addr} {n m : Nat} {H H' : Hp}
theorem Hat.to (h : Hat O a l n H) (s : StepA a H H') (k : HatAt H' a l m) : Hat O a l m H' := ⟨h.mem, h.lm, fun b hb z => (by
  by_cases e : b = a
  · rw [e] at z
    exact k.ne z
  · cases q : H b with
    | none => exact h.own b hb q
    | some o => rw [s b o e q] at z; cases z), k⟩
theorem Hat.up (h : Hat O a l n H) (s : Same H H') : Hat O a l n H' := h.to (.of s) (h.hat.up s)
theorem Hat.cut (h : Hat O a l n H) (s : StepA a H H') : Same (cut O H) (cut O H') := fun b o (e : RB.cut O H b = some o) => by
  show RB.cut O H' b = some o
  unfold RB.cut at e ⊢
  split at e
  · cases e
  · rename_i hb
    rw [if_neg hb]
    exact s b o (fun z => hb (z ▸ h.mem)) e
theorem Hat.mono (h : Hat O a l n H) (e : n ≤ m) : Hat O a l m H := ⟨h.mem, h.lm, h.own, h.hat.mono e⟩
theorem Hat.new (h : Hat O a l n H) {p : Addr} {o : HO} (hp : H p = none) : Hat (p :: O) a l n (upd H p o) := ⟨List.mem_cons_of_mem _ h.mem, List.mem_cons_of_mem _ h.lm, (h.own.up (same_upd hp)).cons (by rw [upd_same]; exact fun z => nomatch z), h.hat.up (same_upd hp)⟩
/-- a change at another of what is owned -/
theorem Hat.put (h : Hat O a l n H) {p : Addr} {o : HO} (hpa : p ≠ a) (hpl : p ≠ l) : Hat O a l n (upd H p o) := ⟨h.mem, h.lm, fun b hb z => (by
  by_cases hbp : b = p
  · rw [hbp, upd_same] at z; cases z
  · rw [upd_ne hbp] at z
    exact h.own b hb z), by
  obtain ⟨ns, at_, gr, v, h1, h2⟩ := h.hat
  exact ⟨ns, at_, gr, ⟨by rw [upd_ne hpa.symm]; exact v.hat, by rw [upd_ne hpl.symm]; exact v.lst⟩, h1, h2⟩⟩
theorem Hat.nea (h : Hat O a l n H) {p : Addr} (hp : H p = none) : p ≠ a ∧ p ≠ l := ⟨fun z => h.own.new hp (z ▸ h.mem), fun z => h.own.new hp (z ▸ h.lm)⟩
theorem same_of_upd {p : Addr} {o : HO} : cut (p :: O) (upd H p o) = cut (p :: O) H := by
  funext b
  unfold RB.cut
  by_cases hb : b ∈ p :: O
  · rw [if_pos hb, if_pos hb]
  · rw [if_neg hb, if_neg hb, upd_ne (fun z => hb (by rw [z]; exact List.mem_cons_self))]
end
/-- one of some values -/
def spOne : Sp := fun vs H Q _ => ∃ O a l n v ds, vs = [V.ref a, v] ∧ Hat O a l n H ∧ Tp (cut O H) v (.list ds) ∧ 1 ≤ ds.length ∧ ds.length ≤ 1000 ∧ n < 1000000 ∧ ∀ (i : Nat) d v' H', ds[i]? = some d → StepA a H H' → HatAt H' a l (n + 1) → Tp (cut O H') v' d → Q v' H'
/-- some values in a drawn order -/
def spMixed : Sp := fun vs H Q _ => ∃ O a l n v t ds, vs = [V.ref a, v] ∧ Hat O a l n H ∧ Tp (cut O H) v (sq t ds) ∧ ds.length ≤ 100 ∧ n + ds.length < 1000000 ∧ ∀ ds' v' H', StepA a H H' → HatAt H' a l (n + ds.length) → Tp (cut O H') v' (.list ds') → ds'.Perm ds → Q v' H'
theorem tp_sq {H : Hp} {v : V} {t : Bool} {ds : List PyData} (h : Tp H v (sq t ds)) : ∃ p xs, v = .ref p ∧ TpAll H xs ds ∧ (H p = some (.lst xs) ∨ H p = some (.tup xs)) := by
  cases t with
  | false =>
    have h : Tp H v (.list ds) := h
    cases h with
    | lst h1 h2 => exact ⟨_, _, rfl, h2, .inl h1⟩
  | true =>
    have h : Tp H v (.tuple ds) := h
    cases h with
    | tup h1 h2 => exact ⟨_, _, rfl, h2, .inr h1⟩
theorem tp_lst {H : Hp} {v : V} {ds : List PyData} (h : Tp H v (.list ds)) : ∃ p xs, v = .ref p ∧ TpAll H xs ds ∧ H p = some (.lst xs) := by
  cases h with
  | lst h1 h2 => exact ⟨_, _, rfl, h2, h1⟩
theorem perm_ins {α : Type} (x : α) (l : List α) (i : Nat) : (l.take i ++ [x] ++ l.drop i).Perm (x :: l) := by
  rw [List.append_assoc]
  refine List.perm_middle.trans ?_
  show (x :: (l.take i ++ l.drop i)).Perm (x :: l)
  rw [List.take_append_drop]
section
variable {P : Program} {w : World} {K : PySem.W.Frag} {mg : Str → Option Value} {base : Heap} {cs : Cs}
theorem c_L_one (E : En P w K mg base cs) : CalE P w K mg base 2 "_law_one" spOne := by
  obtain ⟨f, fd, F, m⟩ := E.df ("_law_one", s_L_one) (List.mem_of_getElem? (i := 33) rfl)
  have nd := sc_L_one.nd
  refine calR (k := 1) F m sc_L_one (fun _ _ _ _ _ _ us hl => match us, hl with | [_, _], _ => rfl) (fun vs H Q E h => ?_) fun cdv A outer s H vs Q E0 hr h => ⟨_,
    pss_one (ps_ret (pe_ix ix_list (pv 1) (pe_cal (c_L_lot E) hr (by decide) rfl (pa_cons (pv 0) (pa_cons (pe_callB call_len_seq (by rfl) (E.fr "len" (by decide)) PySem.boot_len (pa_cons (pv 1) pa_nil)) pa_nil))) (fun _ _ => rfl))), ?_⟩
  · obtain ⟨O, a, l, n, v, ds, rfl, _⟩ := h
    rfl
  obtain ⟨O, a, l, n, v, ds, rfl, hat, t, l1, l2, hn, q⟩ := h
  obtain ⟨p, xs, rfl, tx, hp⟩ := tp_lst t
  have len := tx.length
  refine ⟨_, rfl, _, rfl, _, rfl, p, xs, rfl, .inl (SqL.of (cut_sub _ _ hp)), a, l, n, xs.length, rfl, by omega, by omega, hn, hat.hat, fun d H' hd st hat' => ?_⟩
  have sm := hat.cut st
  obtain ⟨e, he, te⟩ := TpAll.at_ tx (List.getElem?_eq_getElem hd)
  exact ⟨p, xs, _, xs[d], rfl, rfl, SqL.of (cut_sub _ _ (sm _ _ hp)), (atI_nat xs d).trans (List.getElem?_eq_getElem hd), q d e _ H' he st hat' (Tp.up sm _ _ te)⟩
theorem c_L_mixed (E : En P w K mg base cs) : CalE P w K mg base 2 "_law_mixed" spMixed := by
  obtain ⟨f, fd, F, m⟩ := E.df ("_law_mixed", s_L_mixed) (List.mem_of_getElem? (i := 42) rfl)
  have nd := sc_L_mixed.nd
  refine calR (k := 1) F m sc_L_mixed (fun _ _ _ _ _ _ us hl => match us, hl with | [_, _], _ => rfl) (fun vs H Q E h => ?_) fun cdv A outer s H vs Q E0 hr h => ⟨_,
    pss_cons (ps_set (i := 2) nd rfl (.inl rfl) (pe_lst pa_nil))
    (pss_cons (ps_for PassesOwn.never rfl (ei_seq (ev_var 1)) (pg_name (i := 3) nd rfl (.inl rfl))
      (pss_one (ps_expr (pe_bm PySem.F.plainAttrs_list PySem.F.slot_list_insert PySem.F.type_list_insert mt_insert (pv 2) (pa_cons (pe_cal (c_L_lot E) hr (by decide) rfl (pa_cons (pv 0) (pa_cons (pe_op op_add (pe_callB call_len_seq (by rfl) (E.fr "len" (by decide)) PySem.boot_len (pa_cons (pv 2) pa_nil)) pe_int) pa_nil))) (pa_cons (pv 3) pa_nil))))))
    (pss_one (ps_ret (pv 2)))), ?_⟩
  · obtain ⟨O, a, l, n, v, t, ds, rfl, _⟩ := h
    rfl
  obtain ⟨O, a, l, n, v, t, ds, rfl, hat, tv, l2, hn, q⟩ := h
  have line : (1000 : Nat) < sizeLine := thousand
  refine ⟨by show 0 ≤ sizeLine; decide, fun p hp => ?_⟩
  have hatp : Hat (p :: O) a l n (upd H p (.lst [])) := hat.new hp
  have hpO : p ∉ O := hat.own.new hp
  obtain ⟨hpa, hpl⟩ := hat.nea hp
  have tvp : Rep (cut (p :: O) (upd H p (.lst []))) v (.p (sq t ds)) := Tp.up (cut_cons hp (same_upd hp)) _ _ tv
  refine ⟨p :: O, ⟨[none, some (.p (sq t ds)), none, none], ob0⟩, ds, hatp.own, (HsL.n (.s tvp (.n (.n .nil)))).hs ob0_ok, eSeq_sq rfl, fun J H1 s1 hJ => ?_⟩
  have hat1 := hatp.up s1
  refine ⟨fun i m σ H' => i ≤ ds.length ∧ m = ds.length - i ∧ Same (cut (p :: O) H1) (cut (p :: O) H') ∧ (∀ b o, b ≠ a → b ≠ p → H b = some o → H' b = some o) ∧ Hat (p :: O) a l (n + i) H' ∧ ∃ x ys es, σ = [some (.ref a), some v, some (.ref p), x] ∧ H' p = some (.lst ys) ∧ TpAll (cut (p :: O) H') ys es ∧ es.Perm (ds.take i) ∧ ys.length = i,
    ⟨_, Nat.zero_le _, rfl, Same.refl _, fun b o h1 h2 h3 => s1 _ _ (same_upd hp _ _ h3), hat1, none, [], [], rfl, s1 _ _ upd_same, .nil, List.Perm.refl _, rfl⟩, fun i m σ H2 hW => ?_⟩
  obtain ⟨hi, hm, sm2, fr2, hat2, x, ys, es, rfl, hp2, ty, pm, hyl⟩ := hW
  obtain ⟨st, go⟩ := hJ (p :: O) i H2 hat2.own sm2
  rcases Nat.lt_or_ge i ds.length with hlt | hge
  · right
    obtain ⟨g1, g2⟩ := go _ (List.getElem?_eq_getElem hlt)
    refine ⟨g1, fun σ' H' => ∃ m', m' < m ∧ (i + 1 ≤ ds.length ∧ m' = ds.length - (i + 1) ∧ Same (cut (p :: O) H1) (cut (p :: O) H') ∧ (∀ b o, b ≠ a → b ≠ p → H b = some o → H' b = some o) ∧ Hat (p :: O) a l (n + (i + 1)) H' ∧ ∃ x ys es, σ' = [some (.ref a), some v, some (.ref p), x] ∧ H' p = some (.lst ys) ∧ TpAll (cut (p :: O) H') ys es ∧ es.Perm (ds.take (i + 1)) ∧ ys.length = i + 1), fun σ' H' z => z, fun v3 H3 hy3 => ?_⟩
    obtain ⟨s3, t3⟩ := g2 v3 H3 hy3
    have hat3 := hat2.up s3
    have hp3 := s3 _ _ hp2
    refine ⟨_, rfl, Or.inl ⟨rfl, _, Or.inl (Or.inl hp3)⟩, ?_⟩
    refine ⟨_, rfl, _, rfl, p, ys, rfl, .inl (SqL.of hp3), _, _, rfl, rfl, a, l, n + i, ys.length + 1, rfl, by omega, by omega, by omega, hat3.hat, fun d H4 hd st4 hat4 => ?_⟩
    have hp4 : H4 p = some (.lst ys) := st4 _ _ hpa hp3
    have sm4 := hat3.cut st4
    refine ⟨_, rfl, p, ys, _, _, rfl, rfl, hp4, by omega, by omega, by omega, ?_⟩
    have eqc : cut (p :: O) (upd H4 p (.lst (ys.take (d : Int).toNat ++ [v3] ++ ys.drop (d : Int).toNat))) = cut (p :: O) H4 := same_of_upd
    refine ⟨ds.length - (i + 1), by omega, hlt, rfl, ?_, fun b o h1 h2 h3 => ?_, ?_, _, _, es.take d ++ [ds[i]] ++ es.drop d, rfl, upd_same, ?_, ?_, ?_⟩
    · rw [eqc]
      exact (sm2.trans (cutS s3)).trans sm4
    · rw [upd_ne h2]
      exact st4 _ _ h1 (s3 _ _ (fr2 b o h1 h2 h3))
    · exact (hat3.to st4 hat4).put hpa hpl
    · rw [eqc, Int.toNat_natCast]
      have ty4 := TpAll.up ((cutS s3).trans sm4) _ _ ty
      exact ((TpAll.take d ty4).append (.cons (Tp.up sm4 _ _ t3) .nil)).append (TpAll.drop d ty4)
    · rw [List.take_add_one, List.getElem?_eq_getElem hlt]
      refine (perm_ins _ _ _).trans ?_
      exact ((List.Perm.cons _ pm).trans (List.perm_append_singleton _ _).symm)
    · rw [Int.toNat_natCast, List.length_append, List.length_append, List.length_take, List.length_drop, List.length_singleton]
      omega
  · left
    obtain rfl : i = ds.length := by omega
    refine ⟨st hge, _, rfl, ?_⟩
    rw [List.take_length] at pm
    have cu : cut O H2 p = some (.lst ys) := by rw [cut_out hpO]; exact hp2
    refine q es _ H2 (fun b o hb h => ?_) hat2.hat (.lst cu (TpAll.up cut_drop _ _ ty)) pm
    by_cases hbp : b = p
    · rw [hbp, hp] at h; cases h
    · exact fr2 b o hb hbp h
end
end RB
set_option Elab.async false
set_option linter.all false
set_option maxRecDepth 100000
set_option maxHeartbeats 4000000
/-! Comprehensions that draw; the hat; drawn lengths. -/
namespace RB
open PySem PySem.Spec PyProof.Rows L2
/-- what a list comprehension asks behind its source -/
def LcIn (J : It) (g : TG) (tt : TT) (te : TE) (vs : List Nat) (σ : L2.St) (H1 : Hp) (Q : VK) : Prop := tLc (fun _ H R => R J H) g tt te vs σ H1 Q
theorem lc_of {wi : TI} {g : TG} {tt : TT} {te : TE} {vs : List Nat} {σ : L2.St} {H : Hp} {Q : VK} (h : wi σ H fun J H1 => LcIn J g tt te vs σ H1 Q) : tLc wi g tt te vs σ H Q := h
theorem comp_hat {J : It} {te : TE} {g : TG} {u : Ut} {vs : List Nat} {O : List Addr} {a l : Addr} {n c : Nat} {Γ : Gm} {σ : L2.St} {H : Hp} {Q : VK} {xs : List PyData} {Rel : PyData → PyData → Prop} (gs : GS g u vs) (hat : Hat O a l n H) (hs : Hs (cut O H) σ Γ) (hJ : ItOk J (cut O H) xs) (hz : xs.length ≤ sizeLine)
    (hu : ∀ x ∈ xs, ∃ sl', u x (wipeD Γ.sl vs) = some sl')
    (turn : ∀ x ∈ xs, ∀ sl', u x (wipeD Γ.sl vs) = some sl' → ∀ O' σ' H' k, k + c ≤ c * xs.length → Hat O' a l (n + k) H' → Hs (cut O' H') σ' ⟨sl', Γ.ob⟩ → ∀ R : VK, (∀ v y H'', StepA a H' H'' → HatAt H'' a l (n + k + c) → Tp (cut O' H'') v y → Rel x y → R v H'') → te σ' H' R)
    (q : ∀ D ys H', H D = none → StepA a H H' → HatAt H' a l (n + c * xs.length) → Tp (cut O H') (.ref D) (.list ys) → Paired Rel xs ys → Q (.ref D) H') : LcIn J g (ttOf (eC (.bool true))) te vs σ H Q := by
  intro D hD
  have hatD : Hat (D :: O) a l n (upd H D (.lst [])) := hat.new hD
  obtain ⟨hDa, hDl⟩ := hat.nea hD
  have hDO : D ∉ O := hat.own.new hD
  refine ⟨fun i m H' => i ≤ xs.length ∧ m = xs.length - i ∧ StepA a H H' ∧ Hat (D :: O) a l (n + c * i) H' ∧ ∃ ys es, H' D = some (.lst ys) ∧ TpAll (cut (D :: O) H') ys es ∧ Paired Rel (xs.take i) es ∧ ys.length = i,
    ⟨_, Nat.zero_le _, rfl, .of (same_upd hD), hatD, [], [], upd_same, .nil, .nil, rfl⟩, fun i m H2 hW => ?_⟩
  obtain ⟨hi, hm, st2, hat2, ys, es, hD2, ty, pr, hyl⟩ := hW
  have smc : ∀ {H' : Hp}, StepA a H H' → Same (cut O H) (cut (D :: O) H') := fun {H'} st b o (e : cut O H b = some o) => by
    show cut (D :: O) H' b = some o
    unfold cut at e ⊢
    split at e
    · cases e
    · rename_i hb
      have hbD : b ≠ D := ne_of_none e hD
      rw [if_neg (fun z => by
        obtain z | z := List.mem_cons.mp z
        · exact hbD z
        · exact hb z)]
      exact st b o (fun z => hb (z ▸ hat.mem)) e
  obtain ⟨stp, go⟩ := hJ (D :: O) i H2 hat2.own (smc st2)
  rcases Nat.lt_or_ge i xs.length with hlt | hge
  · right
    obtain ⟨g1, g2⟩ := go _ (List.getElem?_eq_getElem hlt)
    refine ⟨g1, fun H' => ∃ m', m' < m ∧ (i + 1 ≤ xs.length ∧ m' = xs.length - (i + 1) ∧ StepA a H H' ∧ Hat (D :: O) a l (n + c * (i + 1)) H' ∧ ∃ ys es, H' D = some (.lst ys) ∧ TpAll (cut (D :: O) H') ys es ∧ Paired Rel (xs.take (i + 1)) es ∧ ys.length = i + 1), fun H' z => z, fun v3 H3 hy3 => ?_⟩
    obtain ⟨s3, t3⟩ := g2 v3 H3 hy3
    have hat3 := hat2.up s3
    have hD3 := s3 _ _ hD2
    have st3 := st2.trans (.of s3)
    have hmem : xs[i] ∈ xs := List.getElem_mem hlt
    obtain ⟨sl', hsl⟩ := hu xs[i] hmem
    refine gs hat3.own ((hs.up (smc st3)).wipe vs) t3 hsl fun σ' hs' hw => ⟨by rw [hw, wipe_idem], D :: O, ⟨sl', Γ.ob⟩, true, hat3.own, hs', rfl, fun H4 s4 => iteT ?_⟩
    have kc : c * i + c ≤ c * xs.length := by
      rw [← Nat.mul_succ]
      exact Nat.mul_le_mul_left c hlt
    have hat4 := hat3.up s4
    refine turn xs[i] hmem sl' hsl (D :: O) σ' H4 (c * i) kc hat4 (hs'.up (cutS s4)) _ fun v y H5 st5 hat5 t5 rel => ?_
    have hD5 : H5 D = some (.lst ys) := st5 _ _ hDa (s4 _ _ hD3)
    have hatn : Hat (D :: O) a l (n + c * (i + 1)) H5 := hat4.to st5 (by rw [Nat.mul_succ, ← Nat.add_assoc]; exact hat5)
    refine ⟨ys, hD5, by omega, xs.length - (i + 1), by omega, hlt, rfl, fun b o hb h => ?_, hatn.put hDa hDl, ys ++ [v], es ++ [y], upd_same, ?_, ?_, ?_⟩
    · rw [upd_ne (ne_of_none h hD)]
      exact st5 b o hb (s4 _ _ (st3 b o hb h))
    · rw [same_of_upd]
      exact (TpAll.up (((cutS s3).trans (cutS s4)).trans (hat4.cut st5)) _ _ ty).append (.cons t5 .nil)
    · rw [List.take_add_one, List.getElem?_eq_getElem hlt]
      exact paired_app pr (.cons rel .nil)
    · rw [List.length_append, hyl]
      rfl
  · left
    obtain rfl : i = xs.length := by omega
    rw [List.take_length] at pr
    exact ⟨stp hge, q D es H2 hD st2 hat2.hat (.lst (by rw [cut_out hDO]; exact hD2) (TpAll.up cut_drop _ _ ty)) pr⟩
/-! ### xs[i] += e -/
def rGetL (K : PySem.W.Frag) : V → V → Hp → VK → Prop := fun o i H Q => ∃ p xs k v, o = .ref p ∧ i = .int ((k : Nat) : Int) ∧ SqL K H p xs ∧ xs[k]? = some v ∧ Q v H
theorem get_list {X : Cx} : PGet X (rGetL X.K) := by
  intro pins s σ H o i ov iv Q I ro ri h
  obtain ⟨p, xs, k, v, rfl, rfl, hq, hv, q⟩ := h
  cases ro
  obtain ⟨t, rfl⟩ := ri
  rcases I.list hq with ⟨its, r, pl, hz⟩
  obtain ⟨u, eu, ru⟩ := r.get hv
  have hl := r.length
  have hn := line63
  have hk : k < xs.length := (List.getElem?_eq_some_iff.mp hv).1
  exact wpAny_getItem_list pl.isList (by omega) (by omega) (by rw [Int.toNat_natCast]; simpa using eu) ⟨v, H, I, ru, q⟩
/-! ### the hat -/
def spHat (K : PySem.W.Frag) : Sp := fun vs H Q _ => ∃ (s : Addr) (ns : List Int), vs = [V.ref s] ∧ SqL K H s (ns.map V.int) ∧ ∀ a l H', Same H H' → H a = none → H l = none → HatAt H' a l 0 → Q (.ref a) H'
/-- one number drawn after another -/
def spLens : Sp := fun vs H Q _ => ∃ O a l n many, vs = [V.ref a, .int (many : Nat)] ∧ Hat O a l n H ∧ 1 ≤ many ∧ many ≤ 6 ∧ n + 10 < 1000000 ∧ ∀ (ls : List Nat) v H', StepA a H H' → HatAt H' a l (n + 10) → Tp (cut O H') v (encS false ls) → ls.length = many → (∀ x ∈ ls, 1 ≤ x) → ls.sum % 2 = 1 → Q v H'
theorem cutV_map (ns : List Int) (lo hi : Option Int) : ∃ ms : List Int, cutV (ns.map V.int) lo hi = ms.map V.int := by
  unfold cutV
  exact ⟨(ns.drop (HT.sIx (ns.map V.int).length 0 lo)).take (HT.sIx (ns.map V.int).length (ns.map V.int).length hi - HT.sIx (ns.map V.int).length 0 lo), by rw [List.map_take, List.map_drop]⟩
theorem paired_nats {P : Nat → Prop} : ∀ {xs ys : List PyData}, Paired (fun _ y => ∃ z : Nat, P z ∧ y = .int (z : Nat)) xs ys → ∃ ns : List Nat, ys = ns.map (fun b => .int (b : Nat)) ∧ ns.length = xs.length ∧ ∀ z ∈ ns, P z
  | _, _, .nil => ⟨[], rfl, rfl, fun z h => (by cases h)⟩
  | _, _, .cons ⟨z, h1, h2⟩ t => by
    obtain ⟨ns, e1, e2, e3⟩ := paired_nats t
    refine ⟨z :: ns, by rw [h2, e1]; rfl, by rw [List.length_cons, List.length_cons, e2], fun y hy => ?_⟩
    obtain rfl | hy := List.mem_cons.mp hy
    · exact h1
    · exact e3 y hy
theorem sum_set : ∀ (l : List Nat) (i : Nat), i < l.length → (l.set i (l.getD i 0 + 1)).sum = l.sum + 1
  | [], _, h => (Nat.not_lt_zero _ h).elim
  | x :: l, 0, h => by
    show (x + 1 + l.sum) = x + l.sum + 1
    omega
  | x :: l, i + 1, h => by
    have ih := sum_set l i (by simpa using h)
    show x + (l.set i (l.getD i 0 + 1)).sum = x + l.sum + 1
    rw [ih]
    omega
section
variable {P : Program} {w : World} {K : PySem.W.Frag} {mg : Str → Option Value} {base : Heap} {cs : Cs}
theorem c_L_hat (E : En P w K mg base cs) : CalE P w K mg base 1 "_law_hat" (spHat K) := by
  obtain ⟨f, fd, F, m⟩ := E.df ("_law_hat", s_L_hat) (List.mem_of_getElem? (i := 31) rfl)
  have nd := sc_L_hat.nd
  refine calR (k := 0) F m sc_L_hat (fun _ _ _ _ _ _ us hl => match us, hl with | [_], _ => rfl) (fun vs H Q E h => ?_) fun cdv A outer s H vs Q E0 hr h => ⟨_,
    pss_one (ps_ret (pe_lst (pa_cons
      (pe_lc (own := [("_law_cell", 1)]) rfl nd (pi_list (pe_slice sl_list (pv 0) po_none (po_some pe_int))) (blkOk_by (N := ["_law_script", "_law_cell"]) (sc := (defScope s_L_hat)) (own := [("_law_cell", 1)]) (by first | decide +kernel | rfl)) (fun _ _ _ _ _ => pg_name (i := 1) nd rfl (.inl rfl)) (fun _ _ _ _ _ => ets_nil) (fun _ _ _ _ _ => ev_int rfl (E.fr "int" (by decide)) (ea_cons (ev_var 1) ea_nil)))
      (pa_cons pe_int (pa_cons pe_int pa_nil))))), ?_⟩
  · obtain ⟨s, ns, rfl, _⟩ := h
    rfl
  obtain ⟨sa, ns, rfl, hs, q⟩ := h
  obtain ⟨ms, hms⟩ := cutV_map ns none (some 60)
  refine ⟨_, rfl, _, rfl, sa, _, rfl, hs, fun p hp => ?_⟩
  have hz : ms.length ≤ sizeLine := by
    have e := congrArg List.length hms
    unfold cutV at e
    rw [show (60 : Int) = ((60 : Nat) : Int) from rfl, HT.sIx_nat] at e
    simp only [List.length_take, List.length_map, List.length_drop] at e
    have := thousand
    omega
  rw [hms]
  refine ⟨p, rfl, ⟨_, SqL.of upd_same⟩, ?_⟩
  have s1 : Same H (upd H p (.lst (ms.map V.int))) := same_upd hp
  have hJ : ItOk (Itl K p) (upd H p (.lst (ms.map V.int))) (ms.map .int) := it_list upd_same (TpAll.of_ints ms)
  generalize hH1 : upd H p (.lst (ms.map V.int)) = H1 at hJ s1 ⊢
  refine fun D hD => ?_
  have hDn : H D = none := s1.free hD
  have len : (ms.map PyData.int).length = ms.length := List.length_map _
  refine ⟨fun i m H' => i ≤ ms.length ∧ m = ms.length - i ∧ Same H1 H' ∧ H' D = some (.lst ((ms.take i).map V.int)), ⟨_, Nat.zero_le _, rfl, same_upd hD, upd_same⟩, fun i m H2 hW => ?_⟩
  obtain ⟨hi, hm, s2, ha⟩ := hW
  obtain ⟨st, go⟩ := hJ [] i H2 Own.nil (by rw [cut_nil]; exact s2)
  rcases Nat.lt_or_ge i ms.length with hlt | hge
  · right
    obtain ⟨g1, g2⟩ := go (.int ms[i]) (by rw [List.getElem?_map, List.getElem?_eq_getElem hlt]; rfl)
    refine ⟨g1, fun H' => ∃ m', m' < m ∧ (i + 1 ≤ ms.length ∧ m' = ms.length - (i + 1) ∧ Same H1 H' ∧ H' D = some (.lst ((ms.take (i + 1)).map V.int))), fun H' z => z, fun v H3 hy => ?_⟩
    obtain ⟨s3, t3⟩ := g2 v H3 hy
    cases t3
    refine ⟨rfl, [], ⟨[none, none], ob0⟩, true, Own.nil, (HsL.n (.n .nil)).hs ob0_ok, rfl, fun H4 s4 => iteT ?_⟩
    refine ⟨[], ⟨[none, some (.p (.int ms[i]))], ob0⟩, .p (.int ms[i]), Own.nil, (HsL.n (.s (d := .p (.int ms[i])) (.int _) .nil)).hs ob0_ok, eData1 rfl rfl, fun v5 H5 s5 r5 => ?_⟩
    cases r5
    have ha5 := s5 _ _ (s4 _ _ (s3 _ _ ha))
    refine ⟨_, ha5, by rw [List.length_map, List.length_take]; omega, ms.length - (i + 1), by omega, hlt, rfl, fun b o hb => ?_, ?_⟩
    · rw [upd_ne (ne_of_none hb hD)]
      exact s5 _ _ (s4 _ _ (s3 _ _ (s2 _ _ hb)))
    · rw [upd_same, List.take_add_one, List.getElem?_eq_getElem hlt, List.map_append]
      rfl
  · left
    obtain rfl : i = ms.length := by omega
    rw [List.take_length] at ha
    refine ⟨st (by rw [len]; exact Nat.le_refl _), by show 3 ≤ sizeLine; decide, fun a haN => ?_⟩
    have hnD : D ≠ a := ne_of_none ha haN
    have s12 := s1.trans s2
    refine q a D _ (s12.trans (same_upd haN)) (s12.free haN) hDn ⟨ms, 0, 0, ⟨upd_same, ?_⟩, by decide, by decide⟩
    rw [upd_ne hnD]
    exact ha
end
end RB
set_option Elab.async false
set_option linter.all false
set_option maxRecDepth 100000
set_option maxHeartbeats 4000000
/-! Drawn lengths. -/
namespace RB
open PySem PySem.Spec PyProof.Rows L2
theorem tp_natsR {H : Hp} : ∀ {ns : List Nat} {vs : List V}, TpAll H vs (ns.map fun b => .int (b : Nat)) → vs = vL ns
  | [], _, h => by cases h; rfl
  | n :: ns, _, h => by
    cases h with
    | cons h1 h2 =>
      cases h1
      rw [tp_natsR h2]
      rfl
theorem gMod_N (x k : Nat) (hk : 1 ≤ k) : gMod (.int (x : Nat)) (.int (k : Nat)) = some (.int ((x % k : Nat) : Int)) := gMod_nat hk (by
  rw [Int.fmod_eq_emod_of_nonneg _ <| by omega]
  rfl)
theorem ixN_of {n j : Nat} (hj : j < n) : ixN n (j : Int) = some j := by
  unfold ixN
  rw [if_pos (by omega), if_pos (by omega), Int.toNat_natCast]
section
variable {P : Program} {w : World} {K : PySem.W.Frag} {mg : Str → Option Value} {base : Heap} {cs : Cs}
theorem c_L_lengths (E : En P w K mg base cs) : CalE P w K mg base 3 "_law_lengths" spLens := by
  obtain ⟨f, fd, F, m⟩ := E.df ("_law_lengths", s_L_lengths) (List.mem_of_getElem? (i := 40) rfl)
  have nd := sc_L_lengths.nd
  refine calR (k := 2) F m sc_L_lengths (fun _ _ _ _ _ _ us hl => match us, hl with | [_, _], _ => rfl) (fun vs H Q E h => ?_) fun cdv A outer s H vs Q E0 hr h => ⟨_,
    pss_cons (ps_set (i := 2) nd rfl (.inr rfl) (pe_cal (c_L_one E) hr (by decide) rfl (pa_cons (pv 0) (pa_cons (ev_lst (ea_cons (ev_c pe_int (fun _ => .int _)) (ea_cons (ev_c pe_int (fun _ => .int _)) (ea_cons (ev_c pe_int (fun _ => .int _)) (ea_cons (ev_c pe_int (fun _ => .int _)) ea_nil))))) pa_nil))))
    (pss_cons (ps_setLc (i := 3) (own := [("_law_bar", 4)]) rfl nd rfl rfl (sw_true rfl rfl rfl (by decide +kernel)) (ei_range1 rfl (E.fr "range" (by decide)) (ea_cons (ev_var 1) ea_nil)) (blkOk_by (N := ["_law_hat_here", "_law_many", "_law_most", "_law_found", "_law_bar"]) (sc := (defScope s_L_lengths)) (own := [("_law_bar", 4)]) (by first | decide +kernel | rfl)) (fun _ _ _ _ _ => pg_name (i := 4) nd rfl (.inl rfl)) (fun _ _ _ _ _ => ets_nil)
      (fun _ _ _ _ _ => pe_op op_add pe_int (pe_cal (c_L_lot E) hr (by decide) rfl (pa_cons (pv 0) (pa_cons (pv 2) pa_nil)))))
    (pss_cons (ps_if (et_eq hr (ev_mod (ev_int rfl (E.fr "int" (by decide)) (ea_cons (ev_sum rfl rfl (E.fr "sum" (by decide)) (ea_cons (ev_var 3) ea_nil)) ea_nil)) (ev_c pe_int (fun _ => .int _))) (ev_c pe_int (fun _ => .int _)))
      (pss_one (ps_augS (pv 3) (pe_cal (c_L_lot E) hr (by decide) rfl (pa_cons (pv 0) (pa_cons (pv 1) pa_nil))) get_list pe_int ip_add set_list)) pss_nil)
    (pss_one (ps_ret (pv 3))))), ?_⟩
  · obtain ⟨O, a, l, n, many, rfl, _⟩ := h
    rfl
  obtain ⟨O, a, l, n, many, rfl, hat, m1, m6, hn, q⟩ := h
  have line := thousand
  -- the most
  refine ⟨_, rfl, O, ⟨[none, none, none, none, none], ob0⟩, _, hat.own, (HsL.n (.n (.n (.n (.n .nil))))).hs ob0_ok, eData_of (xs := [.int 2, .int 3, .int 5, .int 9]) rfl (kLst_of (by show 4 ≤ 1000; decide)), fun v1 H1 s1 r1 => ?_⟩
  have hat1 := hat.up s1
  refine ⟨O, a, l, n, v1, [.int 2, .int 3, .int 5, .int 9], rfl, hat1, r1, by decide, by decide, by omega, fun i d v2 H2 hd st2 at2 t2 => ?_⟩
  have hat2 := hat1.to st2 at2
  have st02 : StepA a H H2 := (StepA.of s1).trans st2
  obtain ⟨k, rfl, k1, k9⟩ : ∃ k : Nat, d = .int (k : Nat) ∧ 1 ≤ k ∧ k ≤ 9 := by
    match i, hd with
    | 0, hd => cases hd; exact ⟨2, rfl, by decide, by decide⟩
    | 1, hd => cases hd; exact ⟨3, rfl, by decide, by decide⟩
    | 2, hd => cases hd; exact ⟨5, rfl, by decide, by decide⟩
    | 3, hd => cases hd; exact ⟨9, rfl, by decide, by decide⟩
    | i + 4, hd => cases hd
  cases t2
  -- the lengths
  have hs2 : Hs (cut O H2) [some (.ref a), some (.int (many : Nat)), some (.int (k : Nat)), none, none] ⟨[some (.o a), some (.p (.int (many : Nat))), some (.p (.int (k : Nat))), none, none], ob0⟩ := (HsL.s (d := .o a) rfl (.s (d := .p (.int (many : Nat))) (.int _) (.s (d := .p (.int (k : Nat))) (.int _) (.n (.n .nil))))).hs ob0_ok
  dsimp only [gName]
  show tAsg (tLc _ _ _ _ _) _ _ _ _
  refine lc_of ⟨O, _, _, hat2.own, hs2, rng_of (n := many) (eCons_of rfl rfl) (by omega), fun J H3 s3 hJ => ?_⟩
  have hat3 := hat2.up s3
  have st03 := st02.trans (.of s3)
  have lenr : ((List.range many).map fun k => PyData.int (k : Nat)).length = many := by rw [List.length_map, List.length_range]
  refine comp_hat (c := 1) (n := n + 1) (Rel := fun _ y => ∃ z : Nat, 1 ≤ z ∧ y = .int (z : Nat)) (gs_name (i := 4) (vs := [4]) (by decide)) hat3 (hs2.up (cutS s3)) hJ (by rw [lenr]; omega) (fun x _ => ⟨_, rfl⟩) (fun x hx sl' hsl O' σ' H' kk hkk hat' hs' R hR => ?_) fun D ys H4 hD st4 at4 t4 pr => ?_
  · cases hsl
    rw [lenr] at hkk
    obtain ⟨v0, h0, r0⟩ := hs'.sl 0 (.o a) rfl
    obtain ⟨w2, h2, r2⟩ := hs'.sl 2 (.p (.int (k : Nat))) rfl
    have r0 : v0 = .ref a := r0
    subst r0
    cases r2
    refine ⟨_, h0, _, h2, a, l, _, k, rfl, k1, by omega, by omega, hat'.hat, fun d H'' hd st at'' => ⟨1, (d : Nat), rfl, rfl, hR _ (.int (1 + (d : Nat))) H'' st at'' (.int _) ⟨1 + d, by omega, ?_⟩⟩⟩
    congr 1
  have hat4 := hat3.to st4 at4
  have st04 := st03.trans st4
  have hDH : H D = none := by
    cases z : H D with
    | none => rfl
    | some o =>
      by_cases e : D = a
      · exact absurd hD (by rw [e]; exact hat3.hat.ne)
      · rw [st03 D o e z] at hD; cases hD
  have hDO : D ∉ O := hat.own.new hDH
  obtain ⟨hDa, hDl⟩ := hat.nea hDH
  obtain ⟨ns, rfl, nl, hns⟩ := paired_nats pr
  rw [lenr] at nl
  rw [lenr] at hat4
  have hs4 : Hs (cut O H4) [some (.ref a), some (.int (many : Nat)), some (.int (k : Nat)), some (.ref D), none] ⟨[none, none, none, some (.p (encS false ns)), none], ob0⟩ := (HsL.n (.n (.n (.s (d := .p (encS false ns)) t4 (.n .nil))))).hs ob0_ok
  have ev : eB gEq (eB gMod (eData (eCons (eData (eCons (eVar 3) eNil) gSum) eNil) gInt) (eC (.int 2))) (eC (.int 0)) ⟨[none, none, none, some (.p (encS false ns)), none], ob0⟩ = some (.p (.bool (decide (ns.sum % 2 = 0)))) :=
    eB_of (eB_of (a := .int (ns.sum : Nat)) (b := .int ((2 : Nat) : Int)) (eData1 (eData1 rfl (gSum_l ns)) rfl) rfl (gMod_N ns.sum 2 (by decide))) (b := .int ((0 : Nat) : Int)) rfl (gEq_nat _ _)
  refine ⟨O, _, _, hat4.own, hs4, ev, fun H5 s5 => ?_⟩
  have hat5 := hat4.up s5
  have st05 := st04.trans (.of s5)
  have t5 := Tp.up (cutS s5) _ _ t4
  obtain ⟨p, xs, e, tx, hp⟩ := tp_lst t5
  cases e
  obtain rfl := tp_natsR tx
  have hp' : H5 D = some (.lst (vL ns)) := cut_sub _ _ hp
  by_cases hev : ns.sum % 2 = 0
  · rw [decide_eq_true hev]
    refine iteT ?_
    refine ⟨_, rfl, _, rfl, _, rfl, a, l, _, many, rfl, m1, by omega, by omega, hat5.hat, fun d H6 hd st6 at6 => ?_⟩
    have hat6 := hat5.to st6 at6
    have h6 : H6 D = some (.lst (vL ns)) := st6 _ _ hDa hp'
    have hdl : d < ns.length := by omega
    have gd : (vL ns)[d]? = some (.int ((ns.getD d 0 : Nat) : Int)) := by
      rw [List.getElem?_map, List.getElem?_eq_getElem hdl, List.getD_eq_getElem?_getD, List.getElem?_eq_getElem hdl]
      rfl
    refine ⟨D, _, d, _, rfl, rfl, SqL.of h6, gd, _, _, rfl, rfl, D, _, _, d, rfl, rfl, h6, ixN_of (by rw [List.length_map]; exact hdl), _, rfl, ?_⟩
    have es : (vL ns).set d (.int (((ns.getD d 0 : Nat) : Int) + 1)) = vL (ns.set d (ns.getD d 0 + 1)) := by
      unfold vL
      rw [List.map_set]
      rfl
    rw [es]
    refine q (ns.set d (ns.getD d 0 + 1)) _ _ (fun b o hb h => ?_) ((hat6.put hDa hDl).hat.mono (by omega)) ?_ (by rw [List.length_set]; exact nl) (fun x hx => ?_) ?_
    · rw [upd_ne (ne_of_none h hDH)]
      exact st6 b o hb (st05 b o hb h)
    · exact .lst (by rw [cut_out hDO]; exact upd_same) (tp_nats _)
    · rcases List.mem_or_eq_of_mem_set hx with hx | rfl
      · exact hns x hx
      · omega
    · rw [sum_set ns d hdl]
      omega
  · rw [decide_eq_false hev]
    refine iteF ?_
    exact ⟨_, rfl, q ns _ H5 st05 (hat5.hat.mono (by omega)) t5 nl hns (by omega)⟩
end
end RB
set_option Elab.async false
set_option linter.all false
set_option maxRecDepth 100000
set_option maxHeartbeats 4000000
/-! The short lots of a drawn book. -/
namespace RB
open PySem PySem.Spec PyProof.Rows L2
theorem dot_compl : ∀ (ls : List Nat) (m : Nat), m < 2 ^ ls.length → dot ls (2 ^ ls.length - 1 - m) + dot ls m = ls.sum
  | [], m, h => rfl
  | x :: r, m, h => by
    rw [List.length_cons, Nat.pow_succ] at h
    have ih := dot_compl r (m / 2) (by omega)
    have e1 : (2 ^ (x :: r).length - 1 - m) / 2 = 2 ^ r.length - 1 - m / 2 := by
      rw [List.length_cons, Nat.pow_succ]
      omega
    have e2 : (2 ^ (x :: r).length - 1 - m) % 2 = 1 - m % 2 := by
      rw [List.length_cons, Nat.pow_succ]
      omega
    show (if (2 ^ (x :: r).length - 1 - m) % 2 = 1 then x else 0) + dot r ((2 ^ (x :: r).length - 1 - m) / 2) + ((if m % 2 = 1 then x else 0) + dot r (m / 2)) = x + r.sum
    rw [e1, e2]
    rcases Nat.mod_two_eq_zero_or_one m with h | h
    · rw [h, if_pos (by decide), if_neg (by decide)]
      omega
    · rw [h, if_neg (by decide), if_pos rfl]
      omega
theorem dot_le : ∀ (ls : List Nat) (a b : Nat), a &&& b = a → dot ls a ≤ dot ls b
  | [], _, _, _ => Nat.le_refl _
  | x :: r, a, b, h => by
    have h2 : (a / 2) &&& (b / 2) = a / 2 := by
      rw [← Nat.and_div_two, h]
    have ih := dot_le r (a / 2) (b / 2) h2
    have h0 : a % 2 = 1 → b % 2 = 1 := fun q => by
      have t : (a &&& b).testBit 0 = a.testBit 0 := by rw [h]
      rw [Nat.testBit_and, Nat.testBit_zero, Nat.testBit_zero, decide_eq_true q, Bool.true_and] at t
      exact of_decide_eq_true t
    show (if a % 2 = 1 then x else 0) + dot r (a / 2) ≤ (if b % 2 = 1 then x else 0) + dot r (b / 2)
    by_cases q : a % 2 = 1
    · rw [if_pos q, if_pos (h0 q)]
      omega
    · rw [if_neg q]
      omega
theorem had_good {n : Nat} {ls : List Nat} (hl : ls.length = n) (ho : ls.sum % 2 = 1) : Good n (hadBy ls) := by
  subst hl
  refine ⟨fun m hm => ?_, fun a b hb h hT => ?_⟩
  · have h := dot_compl ls m hm
    unfold hadBy
    rw [← decide_not]
    exact decide_eq_decide.mpr <| by omega
  · have h := dot_le ls a b h
    unfold hadBy at hT ⊢
    have hT := of_decide_eq_true hT
    exact decide_eq_true <| by omega
theorem Good.zero {n : Nat} {T : Nat → Bool} (G : Good n T) : T 0 = true := by
  cases h : T 0 with
  | true => rfl
  | false =>
    have p := Nat.two_pow_pos n
    have d := G.dual 0 p
    rw [h] at d
    have := G.down 0 (2 ^ n - 1 - 0) (by omega) (Nat.zero_and _) d
    rw [h] at this
    exact this
theorem gr_some {n : Nat} (h1 : 3 ≤ n) (h2 : n ≤ 6) {T : Nat → Bool} (G : Good n T) : 1 ≤ (grM n T).length := by
  obtain ⟨g, hg, _⟩ := below h1 h2 (T := T) (2 ^ n) 0 (Nat.sub_le _ _) (Nat.two_pow_pos n) G.zero
  exact List.length_pos_of_mem hg
def spShorts : Sp := fun vs H Q _ => ∃ O a l n many, vs = [V.ref a, .int (many : Nat)] ∧ Hat O a l n H ∧ 3 ≤ many ∧ many ≤ 6 ∧ n + 20 < 1000000 ∧ ∀ (T : Nat → Bool) v H', StepA a H H' → HatAt H' a l (n + 20) → Good many T → Tp (cut O H') v (encM ((ordM many).filter T)) → Q v H'
section
variable {P : Program} {w : World} {K : PySem.W.Frag} {mg : Str → Option Value} {base : Heap} {cs : Cs}
theorem c_L_shorts (E : En P w K mg base cs) : CalE P w K mg base 4 "_law_shorts" spShorts := by
  obtain ⟨f, fd, F, m⟩ := E.df ("_law_shorts", s_L_shorts) (List.mem_of_getElem? (i := 41) rfl)
  have nd := sc_L_shorts.nd
  refine calR (k := 3) F m sc_L_shorts (fun _ _ _ _ _ _ us hl => match us, hl with | [_, _], _ => rfl) (fun vs H Q E h => ?_) fun cdv A outer s H vs Q E0 hr h => ⟨_,
    pss_cons (ps_set (i := 2) nd rfl (by first | exact .inl rfl | exact .inr rfl) (pe_cal (c_L_of_lengths E) hr (by decide) rfl (pa_cons (pe_cal (c_L_lengths E) hr (by decide) rfl (pa_cons (pv 0) (pa_cons (pv 1) pa_nil))) pa_nil)))
    (pss_cons (ps_for PassesOwn.never rfl (pi_range1 rfl (E.fr "range" (by decide)) (pa_cons (pe_cal (c_L_one E) hr (by decide) rfl (pa_cons (pv 0) (pa_cons (ev_lst (ea_cons (ev_c pe_int (fun _ => .int _)) (ea_cons (ev_c pe_int (fun _ => .int _)) (ea_cons (ev_c pe_int (fun _ => .int _)) (ea_cons (ev_c pe_int (fun _ => .int _)) (ea_cons (ev_c pe_int (fun _ => .int _)) ea_nil)))))) pa_nil))) pa_nil)) (pg_name (i := 3) nd rfl (by first | exact .inl rfl | exact .inr rfl))
      (pss_one (ps_set (i := 2) nd rfl (by first | exact .inl rfl | exact .inr rfl) (pe_cal (c_L_stepped E) hr (by decide) rfl (pa_cons (pv 2) (pa_cons (pe_cal (c_L_one E) hr (by decide) rfl (pa_cons (pv 0) (pa_cons (pe_cal (c_L_greatest E) hr (by decide) rfl (pa_cons (pv 2) pa_nil)) pa_nil))) (pa_cons (pv 1) pa_nil)))))))
    (pss_one (ps_ret (pv 2)))), ?_⟩
  · obtain ⟨O, a, l, n, many, rfl, _⟩ := h
    rfl
  obtain ⟨O, a, l, n, many, rfl, hat, m3, m6, hn, q⟩ := h
  refine ⟨_, rfl, _, rfl, O, a, l, n, many, rfl, hat, by omega, m6, by omega, fun ls v1 H1 st1 at1 t1 len pos odd => ?_⟩
  have hat1 := hat.to st1 at1
  refine ⟨O, ob0, [.p (encS false ls)], .p (encM ((ordM many).filter (hadBy ls))), hat1.own, ob0_ok, .cons t1 .nil, v_L_of_lengths ob0 m3 m6 len (sq_cases false _), fun v2 H2 s2 r2 => ?_⟩
  have hat2 := hat1.up s2
  have st2 : StepA a H H2 := st1.trans (.of s2)
  refine ⟨_, rfl, O, ⟨[none, none, none, none], ob0⟩, _, hat2.own, (HsL.n (.n (.n (.n .nil)))).hs ob0_ok, eData_of (xs := [.int 0, .int 3, .int 1, .int 8, .int 5]) rfl (kLst_of (by show 5 ≤ 1000; decide)), fun v3 H3 s3 r3 => ?_⟩
  have hat3 := hat2.up s3
  have st3 := st2.trans (.of s3)
  refine ⟨O, a, l, n + 10, v3, [.int 0, .int 3, .int 1, .int 8, .int 5], rfl, hat3, r3, by decide, by decide, by omega, fun i d v4 H4 hd st4 at4 t4 => ?_⟩
  obtain ⟨k, rfl, k8⟩ : ∃ k : Nat, d = .int (k : Nat) ∧ k ≤ 8 := by
    match i, hd with
    | 0, hd => cases hd; exact ⟨0, rfl, by decide⟩
    | 1, hd => cases hd; exact ⟨3, rfl, by decide⟩
    | 2, hd => cases hd; exact ⟨1, rfl, by decide⟩
    | 3, hd => cases hd; exact ⟨8, rfl, by decide⟩
    | 4, hd => cases hd; exact ⟨5, rfl, by decide⟩
    | i + 5, hd => cases hd
  cases t4
  have hat4 := hat3.to st4 at4
  have r4 : Tp (cut O H4) v2 (encM ((ordM many).filter (hadBy ls))) := Tp.up (hat3.cut st4) _ _ (Tp.up (cutS s3) _ _ r2)
  refine ⟨_, rfl, by omega, by omega, ?_⟩
  rw [Int.toNat_natCast]
  refine for_range (lo := 0) (n := k) (fun i σ H' => ∃ T v x, σ = [some (.ref a), some (.int (many : Nat)), some v, x] ∧ StepA a H H' ∧ Hat O a l (n + 11 + i) H' ∧ Good many T ∧ Tp (cut O H') v (encM ((ordM many).filter T)))
    ⟨hadBy ls, v2, none, rfl, st3.trans st4, hat4, had_good len odd, r4⟩ (fun i σ H5 hi hP => ?_) (fun σ H5 hP => ?_)
  · obtain ⟨T, v, x, rfl, st5, hat5, G, t5⟩ := hP
    have fl := filter_len m3 m6 T
    refine ⟨_, rfl, _, rfl, _, rfl, O, ob0, [.p (encM ((ordM many).filter T))], .p (encM (((ordM many).filter T).filter (isGrS ((ordM many).filter T)))), hat5.own, ob0_ok, .cons t5 .nil, v_L_greatest ob0 fl (filter_sorted m3 m6 T), fun vg H6 s6 r6 => ?_⟩
    have hat6 := hat5.up s6
    refine ⟨O, a, l, n + 11 + i, vg, (grM many T).map fun m => encL (lotOf m), rfl, hat6, r6, ?_, ?_, by omega, fun j d v7 H7 hd st7 at7 t7 => ?_⟩
    · rw [List.length_map]
      exact gr_some m3 m6 G
    · rw [List.length_map]
      have := grM_len m3 m6 T
      omega
    have hat7 := hat6.to st7 at7
    obtain ⟨g, hg, rfl⟩ : ∃ g, g ∈ grM many T ∧ encL (lotOf g) = d := by
      rw [List.getElem?_map] at hd
      obtain ⟨g, h1, h2⟩ := Option.map_eq_some_iff.mp hd
      exact ⟨g, List.mem_of_getElem? h1, h2⟩
    obtain ⟨g1, g2, g3⟩ := mem_grM m3 m6 hg
    have t7' : Tp (cut O H7) v (encM ((ordM many).filter T)) := Tp.up (hat6.cut st7) _ _ (Tp.up (cutS s6) _ _ t5)
    refine ⟨_, rfl, O, ob0, [.p (encM ((ordM many).filter T)), .p (encL (lotOf g)), .p (.int (many : Nat))], .p (encM ((ordM many).filter (stepT many T g))), hat7.own, ob0_ok, .cons t7' (.cons t7 (.cons (.int _) .nil)), v_L_stepped ob0 m3 m6 G g1 g2, fun v8 H8 s8 r8 => ?_⟩
    exact ⟨_, v8, _, rfl, ((st5.trans (.of s6)).trans st7).trans (.of s8), hat7.up s8, step_good m3 m6 G g1 g2 g3, r8⟩
  · obtain ⟨T, v, x, rfl, st5, hat5, G, t5⟩ := hP
    exact ⟨_, rfl, q T v H5 st5 (hat5.hat.mono (by omega)) G t5⟩
end
end RB
set_option Elab.async false
set_option linter.all false
set_option maxRecDepth 100000
set_option maxHeartbeats 4000000
/-! The book of short lots. -/
namespace RB
open PySem PySem.Spec PyProof.Rows L2
theorem perm_of_map {α β : Type} {f : α → β} {xs ys : List β} (h : xs.Perm ys) : ∀ l : List α, ys = l.map f → ∃ l' : List α, xs = l'.map f ∧ l'.Perm l := by
  induction h with
  | nil =>
    intro l e
    exact ⟨l, e, List.Perm.refl _⟩
  | cons x _ ih =>
    intro l e
    cases l with
    | nil => cases e
    | cons a l =>
      rw [List.map_cons] at e
      obtain ⟨e1, e2⟩ := List.cons.inj e
      obtain ⟨l', h1, h2⟩ := ih l e2
      exact ⟨a :: l', by rw [List.map_cons, h1, e1], h2.cons a⟩
  | swap x y t =>
    intro l e
    match l, e with
    | a :: b :: l, e =>
      rw [List.map_cons] at e
      rw [List.map_cons] at e
      obtain ⟨e1, e2⟩ := List.cons.inj e
      obtain ⟨e2, e3⟩ := List.cons.inj e2
      exact ⟨b :: a :: l, by rw [List.map_cons, List.map_cons, e1, e2, e3], List.Perm.swap _ _ _⟩
  | trans _ _ ih1 ih2 =>
    intro l e
    obtain ⟨l1, h1, h2⟩ := ih2 l e
    obtain ⟨l2, h3, h4⟩ := ih1 l1 h1
    exact ⟨l2, h3, h4.trans h2⟩
def decL : PyData → List Nat
  | .tuple xs => xs.map fun x => match x with
    | .int i => i.toNat
    | _ => 0
  | _ => []
theorem decL_enc (l : List Nat) : decL (encL l) = l := by
  show (l.map fun b => PyData.int (b : Nat)).map _ = l
  rw [List.map_map]
  exact (List.map_congr_left (g := fun b => b) fun b _ => Int.toNat_natCast b).trans (List.map_id' l)
theorem encL_inj {a b : List Nat} (h : encL a = encL b) : a = b := by
  rw [← decL_enc a, h, decL_enc]
theorem given_of {n : Nat} (hn : n ≤ 6) : ∀ {ms : List Nat} {ys : List PyData}, (∀ m ∈ ms, m < 2 ^ n) → Paired (fun x y => ∃ g : Given n, x = encL (lotOf g.m) ∧ y = encS false g.l ∧ g.t = false) (ms.map fun m => encL (lotOf m)) ys →
    ∃ gs : List (Given n), ys = gs.map (fun g => encS g.t g.l) ∧ gs.map (fun g => g.m) = ms ∧ ∀ g ∈ gs, g.t = false
  | [], _, _, .nil => ⟨[], rfl, rfl, fun g h => (by cases h)⟩
  | m :: ms, _, hm, .cons ⟨g, h1, h2, h3⟩ t => by
    obtain ⟨gs, e1, e2, e3⟩ := given_of hn (fun x hx => hm x (List.mem_cons_of_mem _ hx)) t
    have em : g.m = m := (lot_inj hn (hm m List.mem_cons_self) g.lt (encL_inj h1)).symm
    refine ⟨g :: gs, by rw [List.map_cons, ← e1, h2, h3], by rw [List.map_cons, e2, em], fun x hx => ?_⟩
    obtain rfl | hx := List.mem_cons.mp hx
    · exact h3
    · exact e3 x hx
def spBook (cs : Cs) : Sp := fun vs H Q _ => ∃ O a l n many T v, vs = [V.ref a, .int (many : Nat), v] ∧ Hat O a l n H ∧ 3 ≤ many ∧ many ≤ 6 ∧ Good many T ∧ Tp (cut O H) v (encM ((ordM many).filter T)) ∧ n + 500 < 1000000 ∧
  ∀ b H', StepA a H H' → HatAt H' a l (n + 500) → H b = none → ObAt (cut O H') b cs.B (bookFs many T (grD many T)) → Q (.ref b) H'
section
variable {P : Program} {w : World} {K : PySem.W.Frag} {mg : Str → Option Value} {base : Heap} {cs : Cs}
theorem c_L_book (E : En P w K mg base cs) : CalE P w K mg base 8 "_law_book" (spBook cs) := by
  obtain ⟨f, fd, F, m⟩ := E.df ("_law_book", s_L_book) (List.mem_of_getElem? (i := 43) rfl)
  have nd := sc_L_book.nd
  obtain ⟨fB, fdB, FB, MB⟩ := E.mB
  have GB := c_Book_init E FB
  have BB : L2.Binds K fdB ["self", "many", "greatest"] [] := FB.bindsN (ps := ["self", "many", "greatest"]) (fun _ _ _ _ _ _ us hl => match us, hl with | [_, _, _], _ => rfl)
  refine calR (k := 7) F m sc_L_book (fun _ _ _ _ _ _ us hl => match us, hl with | [_, _, _], _ => rfl) (fun vs H Q E h => ?_) fun cdv A outer s H vs Q E0' hr h => ⟨_,
    pss_cons (ps_setLc (i := 3) (own := [("_law_lot_here", 4)]) rfl nd rfl rfl (sw_true rfl rfl rfl (by decide +kernel)) (pi_list (pe_cal (c_L_mixed E) hr (by decide) rfl (pa_cons (pv 0) (pa_cons (pe_cal (c_L_greatest E) hr (by decide) rfl (pa_cons (pv 2) pa_nil)) pa_nil)))) (blkOk_by (N := ["_law_hat_here", "_law_many", "_law_shorts_here", "_law_told", "_law_lot_here"]) (sc := (defScope s_L_book)) (own := [("_law_lot_here", 4)]) (by first | decide +kernel | rfl)) (fun _ _ _ _ _ => pg_name (i := 4) nd rfl (.inl rfl)) (fun _ _ _ _ _ => ets_nil)
      (fun _ _ _ _ _ => pe_cal (c_L_mixed E) hr (by decide) rfl (pa_cons (pv 0) (pa_cons (pv 4) pa_nil))))
    (pss_one (ps_ret (pe_make MB GB (hr.mono (by decide)) rfl E.cB BB .nil pass0 (pa_cons (pv 1) (pa_cons (pe_ifExp (pt_cmpR op_eq (pe_cal (c_L_lot E) hr (by decide) rfl (pa_cons (pv 0) (pa_cons pe_int pa_nil))) pe_int (nomark _)) (pv 3)
      (ev_tuple rfl (E.fr "tuple" (by decide)) (ea_cons (ev_lc (own := [("_law_lot_here", 4)]) rfl nd (ei_seq (ev_var 3)) (blkOk_by (N := ["_law_hat_here", "_law_many", "_law_shorts_here", "_law_told", "_law_lot_here"]) (sc := (defScope s_L_book)) (own := [("_law_lot_here", 4)]) (by first | decide +kernel | rfl)) (gs_name (i := 4) (vs := [4]) (by decide)) (fun _ _ _ _ _ => pg_name (i := 4) nd rfl (.inl rfl)) (fun _ _ _ _ _ => ets_nil)
        (fun _ _ _ _ _ => ev_tuple rfl (E.fr "tuple" (by decide)) (ea_cons (ev_var 4) ea_nil))) ea_nil))) pa_nil))))), ?_⟩
  · obtain ⟨O, a, l, n, many, T, v, rfl, _⟩ := h
    rfl
  obtain ⟨O, a, l, n, many, T, v, rfl, hat, m3, m6, G, t0, hn, q⟩ := h
  have fl := filter_len m3 m6 T
  have line := thousand
  have gl := grM_len m3 m6 T
  show tAsg (tLc _ _ _ _ _) _ _ _ _
  refine lc_of ⟨_, rfl, _, rfl, O, ob0, [.p (encM ((ordM many).filter T))], .p (encM (grM many T)), hat.own, ob0_ok, .cons t0 .nil, v_L_greatest ob0 fl (filter_sorted m3 m6 T), fun vg H1 s1 r1 => ?_⟩
  have hat1 := hat.up s1
  refine ⟨O, a, l, n, vg, false, (grM many T).map fun m => encL (lotOf m), rfl, hat1, r1, by rw [List.length_map]; omega, by rw [List.length_map]; omega, fun ds' v2 H2 st2 at2 t2 pm => ?_⟩
  obtain ⟨ms, rfl, pms⟩ := perm_of_map pm _ rfl
  have hml : ∀ m ∈ ms, m < 2 ^ many := fun m hm => (mem_grM m3 m6 (pms.mem_iff.mp hm)).1
  have mlen : ms.length ≤ 64 := by rw [pms.length_eq]; exact gl
  rw [List.length_map] at at2
  have hat2 := hat1.to st2 at2
  have st02 : StepA a H H2 := (StepA.of s1).trans st2
  obtain ⟨p, xs, rfl, tx, hp⟩ := tp_lst t2
  refine ⟨p, rfl, ⟨xs, SqL.of (cut_sub _ _ hp)⟩, ?_⟩
  have hs2 : Hs (cut O H2) [some (.ref a), some (.int (many : Nat)), some v, none, none] ⟨[some (.o a), some (.p (.int (many : Nat))), none, none, none], ob0⟩ := (HsL.s (d := .o a) rfl (.s (d := .p (.int (many : Nat))) (.int _) (.n (.n (.n .nil))))).hs ob0_ok
  have lenr : (ms.map fun m => encL (lotOf m)).length = ms.length := List.length_map _
  refine comp_hat (c := 6) (n := n + (grM many T).length) (Rel := fun x y => ∃ g : Given many, x = encL (lotOf g.m) ∧ y = encS false g.l ∧ g.t = false) (gs_name (i := 4) (vs := [4]) (by decide)) hat2 hs2 (it_list hp tx) (by rw [lenr]; omega) (fun x _ => ⟨_, rfl⟩) (fun x hx sl' hsl O' σ' H' kk hkk hat' hs' R hR => ?_) fun D ys H4 hD st4 at4 t4 pr => ?_
  · cases hsl
    rw [lenr] at hkk
    obtain ⟨m, hm, rfl⟩ := List.mem_map.mp hx
    obtain ⟨v0, h0, r0⟩ := hs'.sl 0 (.o a) rfl
    obtain ⟨w4, h4, r4⟩ := hs'.sl 4 (.p (encL (lotOf m))) rfl
    have r0 : v0 = .ref a := r0
    subst r0
    have ls := lot_short m
    refine ⟨_, h0, _, h4, O', a, l, _, w4, true, (lotOf m).map fun b => .int (b : Nat), rfl, hat', r4, by rw [List.length_map]; omega, by rw [List.length_map]; omega, fun ds' v' H'' st at'' t' pm' => ?_⟩
    obtain ⟨lb, rfl, plb⟩ := perm_of_map pm' _ rfl
    rw [List.length_map] at at''
    exact hR v' (encS false lb) H'' st (at''.mono (by omega)) t' ⟨⟨false, lb, m, hml m hm, plb.symm⟩, rfl, rfl, rfl⟩
  have hat4 := hat2.to st4 at4
  have st04 := st02.trans st4
  rw [lenr] at hat4
  obtain ⟨gs, rfl, gm, gf⟩ := given_of m6 hml pr
  have gsl : gs.length ≤ 64 := by
    have := congrArg List.length gm
    rw [List.length_map] at this
    omega
  have gp : (gs.map fun g => g.m).Perm (grM many T) := by rw [gm]; exact pms
  have bn : ∀ {H5 : Hp} {b : Addr}, StepA a H H5 → H5 a ≠ none → H5 b = none → H b = none := fun {H5 b} st hne hb => by
    cases z : H b with
    | none => rfl
    | some o =>
      by_cases e : b = a
      · rw [e] at hb
        exact absurd hb hne
      · rw [st b o e z] at hb; cases hb
  refine ⟨_, rfl, _, rfl, a, l, _, 2, rfl, by decide, by decide, by omega, hat4.hat, fun d H5 hd st5 at5 => ⟨rfl, _, rfl, ?_⟩⟩
  have hat5 := hat4.to st5 at5
  have st05 := st04.trans st5
  have t5 : Tp (cut O H5) (.ref D) (sq false (gs.map fun g => encS g.t g.l)) := Tp.up (hat4.cut st5) _ _ t4
  refine ite2 (fun _ => ?_) fun _ => ?_
  · refine ⟨_, rfl, ?_⟩
    exact make_at hat5.own (.cons (.int _) (.cons t5 .nil)) (newBook_of m3 m6 G false gp) fun b H6 s6 hb hob => q b H6 (st05.trans (.of s6)) ((hat5.up s6).hat.mono (by omega)) (bn st05 hat5.hat.ne hb) hob
  · refine ⟨O, ⟨[none, none, none, some (.p (sq false (gs.map fun g => encS g.t g.l))), none], ob0⟩, .p (sq true ((gs.map fun g => ({ g with t := true } : Given many)).map fun g => encS g.t g.l)), hat5.own, (HsL.n (.n (.n (.s (d := .p (sq false (gs.map fun g => encS g.t g.l))) (show Rep _ _ (.p (sq false (gs.map fun g => encS g.t g.l))) from t5) (.n .nil))))).hs ob0_ok, ?_, fun v6 H6 s6 r6 => ?_⟩
    · rw [List.map_map]
      refine eData1 (eComp_of (eSeq_sq (t := false) rfl) (by rw [List.length_map]; omega) (compGo_all (e := fun g : Given many => encS true g.l) gs fun g hg => stepOf_all rfl (eData1 rfl (gTuple_sq _ _)))) rfl
    · have hat6 := hat5.up s6
      exact make_at hat6.own (.cons (.int _) (.cons r6 .nil)) (newBook_of m3 m6 G true (by rw [List.map_map]; exact gp)) fun b H7 s7 hb hob => q b H7 ((st05.trans (.of s6)).trans (.of s7)) ((hat6.up s7).hat.mono (by omega)) (bn (st05.trans (.of s6)) hat6.hat.ne hb) hob
end
end RB
set_option Elab.async false
set_option linter.all false
set_option maxRecDepth 100000
set_option maxHeartbeats 4000000
/-! A paper's truth; two objects; what is right of lengths that are told. -/
namespace RB
open PySem PySem.Spec PyProof.Rows L2
/-- bool(x) of an object of one class -/
def eTru (C0 : Addr) (b : Bool) (f : Ev) : Ev := fun Γ => match f Γ with
  | some (.o a) => (match Γ.ob a with
    | some (C, _) => if C = C0 then some (.p (.bool b)) else none
    | none => none)
  | _ => none
theorem eTru_of {C0 : Addr} {b : Bool} {f : Ev} {Γ : Gm} {a : Addr} {as : List (Str × PyData)} (h1 : f Γ = some (.o a)) (h2 : Γ.ob a = some (C0, as)) : eTru C0 b f Γ = some (.p (.bool b)) := by
  unfold eTru
  rw [h1]
  dsimp only
  rw [h2]
  dsimp only
  rw [if_pos rfl]
theorem eTru_some {C0 : Addr} {b : Bool} {f : Ev} {Γ : Gm} {d : D} (h : eTru C0 b f Γ = some d) : ∃ a as, f Γ = some (.o a) ∧ Γ.ob a = some (C0, as) ∧ d = .p (.bool b) := by
  unfold eTru at h
  split at h
  · rename_i a h1
    split at h
    · rename_i C as h2
      split at h
      · rename_i e
        subst e
        exact ⟨a, as, h1, h2, (Option.some.inj h).symm⟩
      · cases h
    · cases h
  · cases h
section
variable {X : Cx} {cs : Cs} {e : Expr} {f : Ev} {p pos : Pos} {j : Nat}
theorem tru_read {C0 : Addr} {b : Bool} {g : Gf} (hg : ∀ ob a, g ob [.o a] = some (.p (.bool b))) (σ : L2.St) (H : Hp) (Q : VK) (h : tOf (eTru C0 b f) σ H Q) : tCB (fun vs H Q => ∃ a dx fs, vs = [V.ref a] ∧ H a = some (.ins C0 dx fs) ∧ spE g [V.ref a] H (fun v H' => ∃ k, v = .bl k ∧ Q (.bl k) H') E0) (tCons (tOf f) tNil) σ H Q := by
  obtain ⟨O, Γ, d, w, hs, ev, q⟩ := h
  obtain ⟨a, as, h1, h2, rfl⟩ := eTru_some ev
  refine ⟨O, Γ, _, w, hs, h1, fun v H1 s1 r1 => ?_⟩
  have r1 : v = .ref a := r1
  subst r1
  obtain ⟨dx, vs, h3, _⟩ := hs.ob.up (cutS s1) a C0 as h2
  refine ⟨a, dx, vs, rfl, cut_sub _ _ h3, O, ob0, [.o a], _, w.up s1, ob0_ok, .cons rfl .nil, hg _ _, fun v H2 s2 r2 => ?_⟩
  cases r2
  exact ⟨b, rfl, q _ H2 (s1.trans s2) (.bl b)⟩
theorem ev_truL (E : En X.prog X.w X.K X.mg X.base cs) (hr : Room j X.A) (hj : 3 ≤ j) (hg : Gl X "bool") (he : PE X e (tOf f)) (hs : starEach [e] X.env = (false, eval e X.env) :: starEach [] X.env := by rfl) : PE X (.Call (.Name "bool" p) [e] [] pos) (tOf (eTru cs.L true f)) := by
  obtain ⟨fb, fd, F, h1, h2⟩ := E.bP
  exact pe_imp (pe_callTy (cr_boolOwn (c_Paper_bool F) (F.bindsN (ps := ["self"]) (fun _ _ _ _ _ _ us hl => match us, hl with | [_], _ => rfl)) pass0 (hr.mono hj) h1 h2) hg (E.fr "bool" (by decide)) (by decide +kernel) (pa_cons he pa_nil (hs := hs)) (he := hs)) (tru_read fun ob a => runE_ret rfl (sRet1 rfl))
theorem ev_truT (E : En X.prog X.w X.K X.mg X.base cs) (hr : Room j X.A) (hj : 3 ≤ j) (hg : Gl X "bool") (he : PE X e (tOf f)) (hs : starEach [e] X.env = (false, eval e X.env) :: starEach [] X.env := by rfl) : PE X (.Call (.Name "bool" p) [e] [] pos) (tOf (eTru cs.T false f)) := by
  obtain ⟨fb, fd, F, h1, h2⟩ := E.bD
  exact pe_imp (pe_callTy (cr_boolOwn (c_Denial_bool F) (F.bindsN (ps := ["self"]) (fun _ _ _ _ _ _ us hl => match us, hl with | [_], _ => rfl)) pass0 (hr.mono hj) h1 h2) hg (E.fr "bool" (by decide)) (by decide +kernel) (pa_cons he pa_nil (hs := hs)) (he := hs)) (tru_read fun ob a => runE_ret rfl (sRet1 rfl))
end
/-! ### two objects -/
def ob2 (b : Addr) (x : Addr × List (Str × PyData)) (t : Addr) (y : Addr × List (Str × PyData)) : Ob := fun z => if z = b then some x else if z = t then some y else none
section
variable {H : Hp} {b t C C' : Addr} {fs fs' : List (Str × PyData)}
theorem ob2_ok (h1 : ObAt H b C fs) (h2 : ObAt H t C' fs') : ObOk H (ob2 b (C, fs) t (C', fs')) := fun a C0 gs e => by
  unfold ob2 at e
  split at e
  · rename_i h
    obtain ⟨rfl, rfl⟩ := Prod.mk.inj (Option.some.inj e)
    rw [h]
    exact h1
  · split at e
    · rename_i h
      obtain ⟨rfl, rfl⟩ := Prod.mk.inj (Option.some.inj e)
      rw [h]
      exact h2
    · cases e
theorem ob2_1 {x y : Addr × List (Str × PyData)} : ob2 b x t y b = some x := if_pos rfl
theorem ob2_2 {x y : Addr × List (Str × PyData)} (h : b ≠ t) : ob2 b x t y t = some y := by
  unfold ob2
  rw [if_neg h.symm, if_pos rfl]
theorem ObAt.ne (h : ObAt H b C fs) : H b ≠ none := by
  obtain ⟨dx, vs, h1, _⟩ := h
  rw [h1]
  exact fun z => nomatch z
end
theorem En.LT {P : Program} {w : World} {K : PySem.W.Frag} {mg : Str → Option Value} {base : Heap} {cs : Cs} (E : En P w K mg base cs) : cs.L ≠ cs.T := fun z => by
  have h := E.kLT
  rw [z, E.kTT] at h
  cases h
theorem mem_le_sum : ∀ (l : List Nat) (x : Nat), x ∈ l → x ≤ l.sum
  | [], _, h => by cases h
  | y :: l, x, h => by
    rw [List.sum_cons]
    obtain rfl | h := List.mem_cons.mp h
    · omega
    · have := mem_le_sum l x h
      omega
theorem eqv_M (S S' : List Nat) : PyData.eqv (encM S) (encM S') = decide (S.map lotOf = S'.map lotOf) := by
  rw [encM_eq, encM_eq, eqv_encLs]
theorem shp_M (S : List Nat) : Shp 2 (encM S) := .list (Shp.map (fun m => Shp.encL _) _)
/-- the lengths that are told are right -/
def spLR (cs : Cs) : Sp := fun vs H Q _ => ∃ O a l n many T v b t gr ls, vs = [V.ref a, .int (many : Nat), v, .ref b, .ref t] ∧ Hat O a l n H ∧ 3 ≤ many ∧ many ≤ 6 ∧ Tp (cut O H) v (encM ((ordM many).filter T)) ∧ ObAt (cut O H) b cs.B (bookFs many T gr) ∧ ObAt (cut O H) t cs.L (lenFs ls) ∧ b ≠ t ∧ LenOk many T ls ∧ n + 1 < 1000000 ∧
  ∀ H', StepA a H H' → HatAt H' a l (n + 1) → Q (.bl true) H'
end RB
set_option Elab.async false
set_option linter.all false
set_option maxRecDepth 100000
set_option maxHeartbeats 4000000
/-! The law's look at lengths that are told. -/
namespace RB
open PySem PySem.Spec PyProof.Rows L2
theorem Shp.str {x : Str} (h : PyData.canLay0 (.str x) = true) : Shp 0 (.str x) := ⟨h, by simp only [PyData.depth]; omega⟩
theorem ne_str {x : Str} (h : PyData.canLay0 (.str x) = true) : gNe (.str x) (.str x) = some (.bool false) := gNe_of (k := 0) (r := true) (Shp.str h) (Shp.str h) (by simp only [PyData.eqv, beq_self_eq_true])
theorem pow30 : ((10 : Int) ^ 30) = ((10 ^ 30 : Nat) : Int) := by rfl
theorem gMul_N {k x : Nat} (h : x < 2 ^ 64) : gMul (.int (k : Nat)) (.int (x : Nat)) = some (.int ((k * x : Nat) : Int)) := by
  rw [gMul_r (by omega) (by omega)]
  rfl
section
variable {P : Program} {w : World} {K : PySem.W.Frag} {mg : Str → Option Value} {base : Heap} {cs : Cs}
theorem c_L_lengths_right (E : En P w K mg base cs) : CalE P w K mg base 9 "_law_lengths_right" (spLR cs) := by
  obtain ⟨f, fd, F, m⟩ := E.df ("_law_lengths_right", s_L_lengths_right) (List.mem_of_getElem? (i := 47) rfl)
  have nd := sc_L_lengths_right.nd
  refine calR (k := 8) F m sc_L_lengths_right (fun _ _ _ _ _ _ us hl => match us, hl with | [_, _, _, _, _], _ => rfl) (fun vs H Q E h => ?_) fun cdv A outer s H vs Q E0' hr h => ⟨_,
    pss_cons (es_if (ew_pt (ew_or (et_not (et_val (ev_isC E.isLengths rfl (E.fr "isinstance" (by decide)) rfl E.cL (ev_var 4)))) (ew_or (et_not (et_val (ev_isC E.isPaper rfl (E.fr "isinstance" (by decide)) rfl E.cP (ev_var 4)))) (ew_or (et_val (ev_isC E.isDenial rfl (E.fr "isinstance" (by decide)) rfl E.cD (ev_var 4))) (ew_or1 (et_not (et_val (ev_truL E hr (by decide) rfl (ev_var 4))))))))) (ess_cons (es_ret (ev_c pe_bl (fun _ => .bl _))) ess_nil) ess_nil)
    (pss_cons (es_set (i := 5) nd rfl (by first | exact .inl rfl | exact .inr rfl) (ev_flds (E.fld_lengths) (ev_var 4)))
    (pss_cons (es_if (ew_pt (ew_or (et_ne hr (ev_flds (E.fld_word) (ev_var 4)) (ev_c pe_str (fun _ => .str _))) (ew_or (et_ne hr (ev_flds (E.fld_parts) (ev_var 4)) (ev_tup (ea_cons (ev_var 5) ea_nil))) (ew_or (et_not (et_val (ev_isTup rfl (E.fr "isinstance" (by decide)) rfl (E.fr "tuple" (by decide)) (ev_var 5)))) (ew_or1 (et_ne hr (ev_len rfl (E.fr "len" (by decide)) (ea_cons (ev_var 5) ea_nil)) (ev_var 1))))))) (ess_cons (es_ret (ev_c pe_bl (fun _ => .bl _))) ess_nil) ess_nil)
    (pss_cons (es_if (et_ne hr (ev_lc (own := [("_law_length", 8)]) rfl nd (ei_seq (ev_var 5)) (blkOk_by (N := ["_law_hat_here", "_law_many", "_law_shorts_here", "_law_book_here", "_law_told", "_law_lengths_here", "_law_times", "_law_more", "_law_length"]) (sc := (defScope s_L_lengths_right)) (own := [("_law_length", 8)]) (by first | decide +kernel | rfl)) (gs_name (i := 8) (vs := [8]) (by decide)) (fun _ _ _ _ _ => (pg_name (i := 8) nd rfl (by first | exact .inl rfl | exact .inr rfl))) (fun _ _ _ _ _ => (ets_one (ew_pt (ew_or (et_val (ev_isBool rfl (E.fr "isinstance" (by decide)) rfl (E.fr "bool" (by decide)) (ev_var 8))) (ew_or (et_not (et_val (ev_isInt rfl (E.fr "isinstance" (by decide)) rfl (E.fr "int" (by decide)) (ev_var 8)))) (ew_or1 (et_lt (ev_var 8) (ev_c pe_int (fun _ => .int _))))))))) (fun _ _ _ _ _ => (ev_var 8))) (ev_lst ea_nil)) (ess_cons (es_ret (ev_c pe_bl (fun _ => .bl _))) ess_nil) ess_nil)
    (pss_cons (es_if (ew_pt (ew_or (et_eq hr (ev_mod (ev_int rfl (E.fr "int" (by decide)) (ea_cons (ev_sum rfl rfl (E.fr "sum" (by decide)) (ea_cons (ev_var 5) ea_nil)) ea_nil)) (ev_c pe_int (fun _ => .int _))) (ev_c pe_int (fun _ => .int _))) (ew_or1 (et_ne hr (ev_call (c_L_of_lengths E) hr (by decide) rfl (ea_cons (ev_var 5) ea_nil)) (ev_var 2))))) (ess_cons (es_ret (ev_c pe_bl (fun _ => .bl _))) ess_nil) ess_nil)
    (pss_cons (ps_set (i := 6) nd rfl (by first | exact .inl rfl | exact .inr rfl) (pe_cal (c_L_one E) hr (by decide) rfl (pa_cons (pv 0) (pa_cons (ev_lst (ea_cons (ev_c pe_int (fun _ => .int _)) (ea_cons (ev_c pe_int (fun _ => .int _)) (ea_cons (ev_c pe_int (fun _ => .int _)) (ea_cons (ev_pow (ev_c pe_int (fun _ => .int _)) (ev_c pe_int (fun _ => .int _))) ea_nil))))) pa_nil))))
    (pss_cons (es_setLc (i := 7) (own := [("_law_length", 8)]) rfl nd rfl rfl (sw_true rfl rfl rfl (by decide +kernel)) (ei_seq (ev_var 5)) (blkOk_by (N := ["_law_hat_here", "_law_many", "_law_shorts_here", "_law_book_here", "_law_told", "_law_lengths_here", "_law_times", "_law_more", "_law_length"]) (sc := (defScope s_L_lengths_right)) (own := [("_law_length", 8)]) (by first | decide +kernel | rfl)) (gs_name (i := 8) (vs := [8]) (by decide)) (fun _ _ _ _ _ => (pg_name (i := 8) nd rfl (by first | exact .inl rfl | exact .inr rfl))) (fun _ _ _ _ _ => ets_nil) (fun _ _ _ _ _ => (ev_mul (ev_var 6) (ev_var 8))))
    (pss_one (ps_ret (pe_and (ev_is (ev_call (c_has_lengths E) hr (by decide) rfl (ea_cons (ev_var 3) (ea_cons (ev_var 7) ea_nil))) (ev_c pe_bl (fun _ => .bl _))) (pe_one (pe_cmpR op_isBl (pe_cal (c_shows_lengths E) hr (by decide) rfl (pa_cons (pv 3) (pa_cons (en_L E hr (by decide) rfl (ea_cons (ev_var 7) ea_nil)) pa_nil))) pe_bl (nomark _)))))))))))), ?_⟩
  · obtain ⟨O, a, l, n, many, T, v, b, t, gr, ls, rfl, _⟩ := h
    rfl
  obtain ⟨O, a, l, n, many, T, v, b, t, gr, ls, rfl, hat, m3, m6, tv, ob1, ob2', hbt, L, hn, q⟩ := h
  have line := thousand
  have hLT := E.LT
  have o0 := ob2_ok ob1 ob2'
  have B : BookAt cs (ob2 b (cs.B, bookFs many T gr) t (cs.L, lenFs ls)) b many T gr := ob2_1
  have Tl : ob2 b (cs.B, bookFs many T gr) t (cs.L, lenFs ls) t = some (cs.L, lenFs ls) := ob2_2 hbt
  generalize hob : ob2 b (cs.B, bookFs many T gr) t (cs.L, lenFs ls) = ob at o0 B Tl
  have i1 : cs.isLengths cs.L = some true := by unfold Cs.isLengths; rw [if_pos rfl]
  have i2 : cs.isPaper cs.L = some true := by unfold Cs.isPaper; rw [if_neg hLT, if_pos rfl]
  have i3 : cs.isDenial cs.L = some false := by unfold Cs.isDenial; rw [if_neg hLT, if_pos rfl]
  have hl := L.len
  have hs0 : Hs (cut O H) [some (.ref a), some (.int (many : Nat)), some v, some (.ref b), some (.ref t), none, none, none, none] ⟨[some (.o a), some (.p (.int (many : Nat))), some (.p (encM ((ordM many).filter T))), some (.o b), some (.o t), none, none, none, none], ob⟩ :=
    (HsL.s (d := .o a) rfl (.s (d := .p (.int (many : Nat))) (.int _) (.s (d := .p (encM ((ordM many).filter T))) tv (.s (d := .o b) rfl (.s (d := .o t) rfl (.n (.n (.n (.n .nil))))))))).hs o0
  refine ⟨O, _, _, hat.own, hs0, sIf_f (eOr_f (eNot_of (p := true) (eIsC_of rfl Tl i1)) (eOr_f (eNot_of (p := true) (eIsC_of rfl Tl i2)) (eOr_f (eIsC_of rfl Tl i3) (eNot_of (p := true) (eTru_of rfl Tl))))) rfl, fun H1 s1 σ1 hs1 => ?_⟩
  have hat1 := hat.up s1
  refine ⟨O, _, _, hat1.own, hs1, sAsg_of (eFlds_of (x := encL ls) rfl Tl (List.mem_singleton.mpr rfl) rfl), fun H2 s2 σ2 hs2 => ?_⟩
  have hat2 := hat1.up s2
  have shp : Shp 2 (.tuple [encL ls]) := .tup fun x hx => by
    rw [List.mem_singleton.mp hx]
    exact Shp.encL ls
  have e3 : PyData.eqv (.tuple [encL ls]) (.tuple [encL ls]) = true := by
    have h := eqvAll_enc (e := encL) [ls] [ls] fun x _ y _ => eqv_encL x y
    show PyData.eqvAll ([ls].map encL) ([ls].map encL) = true
    rw [h]
    simp
  refine ⟨O, _, _, hat2.own, hs2, sIf_f (eOr_f (eB_of (eFlds_of (x := .str "lengths") rfl Tl (List.mem_cons_self) rfl) rfl (ne_str (by simp only [PyData.canLay0]; decide +kernel))) (eOr_f (eB_of (eFlds_of (x := .tuple [encL ls]) rfl Tl (List.mem_cons_self) rfl) (eData_of (xs := [encL ls]) rfl (kTup_of (by show 1 ≤ 1000; decide))) (gNe_of shp shp e3)) (eOr_f (eNot_of (p := true) (eIs_of (x := encL ls) rfl)) (eB_of (eData1 rfl (gLen_L ls)) rfl (gNe_of (k := 0) (r := true) (Shp.int _) (Shp.int _) (by rw [eqv_int, hl]; simp)))))) rfl, fun H3 s3 σ3 hs3 => ?_⟩
  have hat3 := hat2.up s3
  have e4 : eComp (eSeq (eVar 5)) (u1 8) (eOr (eIs isBool (eVar 8)) (eOr (eU gNot (eIs isInt (eVar 8))) (eB gLt (eVar 8) (eC (.int 1))))) (eVar 8) [8] ⟨[some (.o a), some (.p (.int (many : Nat))), some (.p (encM ((ordM many).filter T))), some (.o b), some (.o t), some (.p (encL ls)), none, none, none], ob⟩ = some (.p (.list ((ls.filter fun _ => false).map fun x => .int (x : Nat)))) := by
    refine eComp_of (eSeq_t rfl) (by rw [List.length_map]; omega) (compGo_enc (p := fun _ => false) (e := fun x : Nat => PyData.int (x : Nat)) ls fun x hx => stepOf_if rfl (eOr_f (eIs_of (x := .int (x : Nat)) rfl) (eOr_f (eNot_of (p := true) (eIs_of (x := .int (x : Nat)) rfl)) (eB_of rfl rfl ?_))) fun _ => rfl)
    have := L.pos x hx
    show some (PyData.bool (decide ((x : Int) < 1))) = _
    rw [decide_eq_false <| by omega]
  have e4n : gNe (.list ((ls.filter fun _ => false).map fun x => PyData.int (x : Nat))) (.list []) = some (.bool false) := by
    rw [List.filter_eq_nil_iff.mpr (by simp)]
    exact gNe_of (k := 1) (r := true) (.list (k := 0) fun x hx => by cases hx) (.list (k := 0) fun x hx => by cases hx) rfl
  refine ⟨O, _, _, hat3.own, hs3, sIf_f (eB_of e4 (by rw [kLst_nil]) e4n) rfl, fun H4 s4 σ4 hs4 => ?_⟩
  have hat4 := hat3.up s4
  have fe : (ordM many).filter (hadBy ls) = (ordM many).filter T := List.filter_congr fun m hm => by
    have h := (hadB_iff.mp L.had m ((mem_ordM m3 m6).mp hm)).2
    rw [h]
    rfl
  refine ⟨O, _, _, hat4.own, hs4, sIf_f (eOr_f (eB_of (eB_of (a := .int (ls.sum : Nat)) (b := .int ((2 : Nat) : Int)) (eData1 (eData1 rfl (gSum_t ls)) rfl) rfl (gMod_N ls.sum 2 (by decide))) (b := .int ((0 : Nat) : Int)) rfl ((gEq_nat _ _).trans (by rw [L.odd]; rfl))) (eB_of (eCall_of (eCons_of rfl rfl) (v_L_of_lengths ob m3 m6 hl (.inr rfl))) rfl (gNe_of (r := true) (shp_M _) (shp_M _) (by rw [eqv_M, fe]; simp)))) rfl, fun H5 s5 σ5 hs5 => ?_⟩
  have hat5 := hat4.up s5
  have st05 : StepA a H H5 := (((((StepA.of s1).trans (.of s2)).trans (.of s3)).trans (.of s4)).trans (.of s5))
  obtain ⟨v0, h0, r0⟩ := hs5.sl 0 (.o a) rfl
  have r0 : v0 = .ref a := r0
  subst r0
  refine ⟨_, h0, O, _, _, hat5.own, hs5, eData_of (xs := [.int 1, .int 2, .int 3, .int (10 ^ 30)]) (eCons_of rfl (eCons_of rfl (eCons_of rfl (eCons_of (eB_of rfl rfl (gPow_of (k := 30) (by decide) (by decide) (by decide))) rfl)))) (kLst_of (by show 4 ≤ 1000; decide)), fun vL H6 s6 r6 => ?_⟩
  have hat6 := hat5.up s6
  refine ⟨O, a, l, n, vL, [.int 1, .int 2, .int 3, .int (10 ^ 30)], rfl, hat6, r6, by decide, by decide, by omega, fun i d v7 H7 hd st7 at7 t7 => ?_⟩
  obtain ⟨k, rfl, k1⟩ : ∃ k : Nat, d = .int (k : Nat) ∧ 1 ≤ k := by
    match i, hd with
    | 0, hd => cases hd; exact ⟨1, rfl, by decide⟩
    | 1, hd => cases hd; exact ⟨2, rfl, by decide⟩
    | 2, hd => cases hd; exact ⟨3, rfl, by decide⟩
    | 3, hd => cases hd; exact ⟨10 ^ 30, by rw [pow30], by decide⟩
    | i + 4, hd => cases hd
  have hat7 := hat6.to st7 at7
  have hs7 := ((hs5.up (cutS s6)).up (hat6.cut st7)).set 6 (d := .p (.int (k : Nat))) t7
  have st07 := (st05.trans (.of s6)).trans st7
  have small : ∀ x ∈ ls, x < 2 ^ 64 := fun x hx => by
    have := mem_le_sum ls x hx
    have := L.most
    omega
  have e8 : eComp (eSeq (eVar 5)) (u1 8) (eC (.bool true)) (eB gMul (eVar 6) (eVar 8)) [8] ⟨[some (.o a), some (.p (.int (many : Nat))), some (.p (encM ((ordM many).filter T))), some (.o b), some (.o t), some (.p (encL ls)), some (.p (.int (k : Nat))), none, none], ob⟩ = some (.p (encS false (ls.map (k * ·)))) := by
    have h := eComp_of (src := eSeq (eVar 5)) (u := u1 8) (test := eC (.bool true)) (elt := eB gMul (eVar 6) (eVar 8)) (vs := [8]) (Γ := ⟨[some (.o a), some (.p (.int (many : Nat))), some (.p (encM ((ordM many).filter T))), some (.o b), some (.o t), some (.p (encL ls)), some (.p (.int (k : Nat))), none, none], ob⟩) (eSeq_t rfl) (by rw [List.length_map]; omega) (compGo_all (e := fun x : Nat => PyData.int ((k * x : Nat) : Int)) ls fun x hx => stepOf_all rfl (eB_of rfl rfl (gMul_N (small x hx))))
    rw [h]
    show _ = some (D.p (.list ((ls.map (k * ·)).map fun b => .int (b : Nat))))
    rw [List.map_map]
    rfl
  refine ⟨O, _, _, hat7.own, hs7, sAsg_of e8, fun H8 s8 σ8 hs8 => ?_⟩
  have hat8 := hat7.up s8
  have kl : (ls.map (k * ·)).length = many := by rw [List.length_map]; exact hl
  have kp : ∀ x ∈ ls.map (k * ·), 1 ≤ x := fun x hx => by
    rcases List.mem_map.mp hx with ⟨y, hy, rfl⟩
    exact Nat.mul_pos k1 (L.pos y hy)
  have kh := had_mul k1 L.had
  refine ⟨O, _, _, hat8.own, hs8, eB_of (eCall_of (eCons_of rfl (eCons_of rfl rfl)) (v_has_lengths B m6 false kl kp)) (b := .bool true) rfl rfl, fun v9 H9 s9 r9 => ?_⟩
  rw [kh] at r9
  cases r9
  have hat9 := hat8.up s9
  have hs9 := hs8.up (cutS s9)
  refine ⟨true, rfl, iteT ?_⟩
  obtain ⟨w3, h3, r3⟩ := hs9.sl 3 (.o b) rfl
  have r3 : w3 = .ref b := r3
  subst r3
  refine ⟨_, h3, O, _, _, [encS false (ls.map (k * ·))], lenFs (ls.map (k * ·)), hat9.own, hs9, eCons_of rfl rfl, rfl, v_newLengths false (by omega), fun p H10 s10 hp hob10 => ?_⟩
  have hat10 := hat9.up s10
  have obB : ObAt (cut O H10) b cs.B (bookFs many T gr) := ob1.up (((((((hat.cut st07).trans (cutS s8)).trans (cutS s9)).trans (cutS s10)))))
  have hbp : b ≠ p := fun z => by
    have h1 := (ob1.up (((hat.cut st07).trans (cutS s8)).trans (cutS s9))).ne
    rw [z] at h1
    exact h1 (by
      unfold cut
      split
      · rfl
      · exact hp)
  refine ⟨O, ob2 b (cs.B, bookFs many T gr) p (cs.L, lenFs (ls.map (k * ·))), [.o b, .o p], _, hat10.own, ob2_ok obB hob10, .cons rfl (.cons rfl .nil), v_shows_L (B := (ob2_1 : BookAt cs (ob2 b (cs.B, bookFs many T gr) p (cs.L, lenFs (ls.map (k * ·)))) b many T gr)) hLT m6 kl kp (ob2_2 hbp) rfl, fun v11 H11 s11 r11 => ?_⟩
  rw [kh] at r11
  cases r11
  refine ⟨true, true, rfl, rfl, ?_⟩
  exact q H11 ((((st07.trans (.of s8)).trans (.of s9)).trans (.of s10)).trans (.of s11)) (hat10.up s11).hat
end
end RB
set_option Elab.async false
set_option linter.all false
set_option maxRecDepth 100000
set_option maxHeartbeats 4000000
/-! Trades of bars at odds; a list repeated. -/
namespace RB
open PySem PySem.Spec PyProof.Rows L2
/-! ### xs * k -/
def gRep : PyData → PyData → Option PyData
  | .list xs, .int k => if 0 ≤ k ∧ k ≤ 1000 ∧ xs.length * k.toNat ≤ sizeLine then some (.list (List.replicate k.toNat xs).flatten) else none
  | _, _ => none
theorem tp_rep {H : Hp} {vs : List V} {ds : List PyData} (h : TpAll H vs ds) : ∀ k : Nat, TpAll H (List.replicate k vs).flatten (List.replicate k ds).flatten
  | 0 => .nil
  | k + 1 => by
    rw [List.replicate_succ]
    rw [List.replicate_succ, List.flatten_cons, List.flatten_cons]
    exact h.append (tp_rep h k)
theorem bin_rep : BinS rRep gRep := fun {O H x y a b d Q} w ha hb hg q => by
  unfold gRep at hg
  split at hg
  · rename_i xs k
    split at hg
    · rename_i hz
      obtain rfl := Option.some.inj hg
      cases hb
      cases ha with
      | lst h1 h2 =>
        refine ⟨_, k, _, rfl, rfl, cut_sub _ _ h1, by omega, by omega, by rw [h2.length]; exact hz.2.2, fun p hp => q _ _ (same_upd hp) (.lst (cut_new w hp) ?_)⟩
        exact TpAll.up (cutS (same_upd hp)) _ _ (tp_rep h2 _)
    · cases hg
  · cases hg
theorem ev_rep {X : Cx} {a b : Expr} {f1 f2 : Ev} {pos : Pos} (ha : PE X a (tOf f1)) (hb : PE X b (tOf f2)) : PE X (.BinOp a .Mult b pos) (tOf (eB gRep f1 f2)) := ev_op op_rep bin_rep ha hb
theorem gRep_2 {xs : List PyData} (h : xs.length ≤ 400) : gRep (.list xs) (.int 2) = some (.list (xs ++ xs)) := by
  have line := thousand
  show (if (0 : Int) ≤ 2 ∧ (2 : Int) ≤ 1000 ∧ xs.length * (2 : Int).toNat ≤ sizeLine then some (PyData.list (List.replicate (2 : Int).toNat xs).flatten) else none) = _
  have e : (2 : Int).toNat = 2 := rfl
  rw [e, if_pos ⟨by decide, by decide, by omega⟩]
  show some (PyData.list (xs ++ (xs ++ []))) = _
  rw [List.append_nil]
/-! ### sorted(lot + (bar,)) -/
theorem sort_addL {ob : Ob} {sl : List (Option D)} {i k m bar : Nat} (hi : sl[i]? = some (some (.p (encL (lotOf m))))) (hk : sl[k]? = some (some (.p (.int (bar : Nat))))) (hm : m < 64) (hb : bar < 6) (hn : m.testBit bar = false) :
    eData (eCons (eB gAdd (eVar i) (eData (eCons (eVar k) eNil) kTup)) eNil) gSorted ⟨sl, ob⟩ = some (.p (encS false (lotOf (m + 2 ^ bar)))) := by
  have e1 : eB gAdd (eVar i) (eData (eCons (eVar k) eNil) kTup) ⟨sl, ob⟩ = some (.p (encL (lotOf m ++ [bar]))) :=
    eB_of (eVar_of hi) (eData_of (xs := [.int (bar : Nat)]) (y := encL [bar]) (eCons_of (eVar_of hk) rfl) (kTup_of (by show 1 ≤ 1000; decide))) (gAdd_L (by have := lot_short m; show _ + 1 ≤ 1000; omega))
  exact eData1 e1 (gSorted_N (add_perm bar hb m hm hn) (lot_le _) (.inr rfl))
/-! ### trades -/
section
variable {n : Nat} {T : Nat → Bool}
theorem Trd.of_perm {ms ls ms' ls' : List Nat} (h : Trd n T ms ls) (h1 : ms'.Perm ms) (h2 : ls'.Perm ls) : Trd n T ms' ls' :=
  ⟨fun m hm => h.sh m (h1.mem_iff.mp hm), fun m hm => h.lg m (h2.mem_iff.mp hm), by rw [h1.length_eq, h2.length_eq]; exact h.len, fun z => h.ne (List.length_eq_zero_iff.mp (by rw [← h1.length_eq, z]; rfl)), by rw [h1.length_eq]; exact h.few,
    ((h1.flatMap_right lotOf).trans h.perm).trans (h2.flatMap_right lotOf).symm⟩
theorem Trd.app {ms ls ms' ls' : List Nat} (h : Trd n T ms ls) (h' : Trd n T ms' ls') (hz : ms.length + ms'.length ≤ 100) : Trd n T (ms ++ ms') (ls ++ ls') := by
  refine ⟨fun m hm => ?_, fun m hm => ?_, by rw [List.length_append, List.length_append, h.len, h'.len], fun z => h.ne (List.append_eq_nil_iff.mp z).1, by rw [List.length_append]; exact hz, ?_⟩
  · obtain hm | hm := List.mem_append.mp hm
    · exact h.sh m hm
    · exact h'.sh m hm
  · obtain hm | hm := List.mem_append.mp hm
    · exact h.lg m hm
    · exact h'.lg m hm
  · rw [List.flatMap_append, List.flatMap_append]
    exact h.perm.append h'.perm
/-- two lots that show that i beats j and j beats i -/
structure Lots (n : Nat) (T : Nat → Bool) (i j lo hi : Nat) : Prop where
  ij : i < n ∧ j < n
  lo : lo < 2 ^ n ∧ lo.testBit i = false ∧ lo.testBit j = false ∧ T (lo + 2 ^ i) = false ∧ T (lo + 2 ^ j) = true
  hi : hi < 2 ^ n ∧ hi.testBit j = false ∧ hi.testBit i = false ∧ T (hi + 2 ^ j) = false ∧ T (hi + 2 ^ i) = true
theorem Lots.trd (h6 : n ≤ 6) {i j lo hi : Nat} (h : Lots n T i j lo hi) : Trd n T [lo + 2 ^ j, hi + 2 ^ i] [lo + 2 ^ i, hi + 2 ^ j] := by
  have p6 := pow_le6 h6
  obtain ⟨⟨hi', hj⟩, ⟨a1, a2, a3, a4, a5⟩, b1, b2, b3, b4, b5⟩ := h
  refine ⟨fun m hm => ?_, fun m hm => ?_, rfl, fun z => (by cases z), by show 2 ≤ 100; decide, ?_⟩
  · rcases List.mem_cons.mp hm with rfl | hm
    · exact ⟨add_lt6 n h6 j hj lo a1 a3, a5⟩
    · rw [List.eq_of_mem_singleton hm]
      exact ⟨add_lt6 n h6 i hi' hi b1 b3, b5⟩
  · rcases List.mem_cons.mp hm with rfl | hm
    · exact ⟨add_lt6 n h6 i hi' lo a1 a2, a4⟩
    · rw [List.eq_of_mem_singleton hm]
      exact ⟨add_lt6 n h6 j hj hi b1 b2, b4⟩
  · show (lotOf (lo + 2 ^ j) ++ (lotOf (hi + 2 ^ i) ++ [])).Perm (lotOf (lo + 2 ^ i) ++ (lotOf (hi + 2 ^ j) ++ []))
    rw [List.append_nil]
    rw [List.append_nil]
    have q1 := add_perm j (by omega) lo (by omega) a3
    have q2 := add_perm i (by omega) hi (by omega) b3
    have q3 := add_perm i (by omega) lo (by omega) a2
    have q4 := add_perm j (by omega) hi (by omega) b2
    refine (q1.append q2).trans (List.Perm.trans ?_ (q3.append q4).symm)
    rw [List.append_assoc]
    rw [List.append_assoc]
    apply List.Perm.append_left
    show ([j] ++ (lotOf hi ++ [i])).Perm ([i] ++ (lotOf hi ++ [j]))
    refine List.perm_append_comm.trans ?_
    rw [List.append_assoc]
    refine List.Perm.trans ?_ List.perm_append_comm
    rw [List.append_assoc]
    exact List.Perm.append_left _ (List.Perm.swap _ _ _)
theorem odds_lots (h3 : 3 ≤ n) (h6 : n ≤ 6) {o : Od} (h : o ∈ oddsL n T) : Lots n T o.1 o.2.1 o.2.2.1 o.2.2.2 := by
  obtain ⟨h1, h2, h4, h5⟩ := of_odds h3 h6 h
  exact ⟨⟨by omega, h2⟩, bt_some h3 h6 h4, bt_some h3 h6 h5⟩
theorem srt_trd (h6 : n ≤ 6) {i j lo hi : Nat} (h : Lots n T i j lo hi) : Trd n T (srtM (lo + 2 ^ j) (hi + 2 ^ i)) (srtM (lo + 2 ^ i) (hi + 2 ^ j)) := (h.trd h6).of_perm (srtM_perm _ _) (srtM_perm _ _)
end
/-- the trade that is told is right -/
def spTR (cs : Cs) : Sp := fun vs H Q _ => ∃ O a l n many T v b t gr ms ls u, vs = [V.ref a, .int (many : Nat), v, .ref b, .ref t, u] ∧ Hat O a l n H ∧ 3 ≤ many ∧ many ≤ 6 ∧ Tp (cut O H) v (encM ((ordM many).filter T)) ∧ ObAt (cut O H) b cs.B (bookFs many T gr) ∧ ObAt (cut O H) t cs.T (trdFs ms ls) ∧ b ≠ t ∧ Trd many T ms ls ∧ ms.length = 2 ∧
  Tp (cut O H) u (.list ((oddsL many T).map encOd)) ∧ oddsL many T ≠ [] ∧ n + 50 < 1000000 ∧ ∀ H', StepA a H H' → HatAt H' a l (n + 50) → Q (.bl true) H'
end RB
set_option Elab.async false
set_option linter.all false
set_option maxRecDepth 100000
set_option maxHeartbeats 4000000
/-! The law's look at the trade that is told. -/
namespace RB
open PySem PySem.Spec PyProof.Rows L2
theorem tp4 {H : Hp} {vs : List V} {a b c d : PyData} (h : TpAll H vs [a, b, c, d]) : ∃ x y z u, vs = [x, y, z, u] ∧ Tp H x a ∧ Tp H y b ∧ Tp H z c ∧ Tp H u d := by
  cases h with
  | cons h1 t => cases t with
    | cons h2 t => cases t with
      | cons h3 t => cases t with
        | cons h4 t =>
          cases t
          exact ⟨_, _, _, _, rfl, h1, h2, h3, h4⟩
theorem gList_R (ms : List Nat) : gList [encR ms] = some (encG false (ms.map fun m => (true, m))) := by
  unfold encR encG
  rw [List.map_map]
  rfl
theorem gAdd_G {xs ys : List (Bool × Nat)} (h : xs.length + ys.length ≤ 1000) : gAdd (encG false xs) (encG false ys) = some (encG false (xs ++ ys)) := by
  unfold encG
  rw [List.map_append]
  exact gAdd_l (by rw [List.length_map, List.length_map]; exact h)
theorem gRep_G {xs : List (Bool × Nat)} (h : xs.length ≤ 400) : gRep (encG false xs) (.int 2) = some (encG false (xs ++ xs)) := by
  unfold encG
  rw [List.map_append]
  exact gRep_2 (by rw [List.length_map]; exact h)
theorem two_G (x y : Nat) : PyData.list [encS false (lotOf x), encS false (lotOf y)] = encG false [(false, x), (false, y)] := rfl
theorem shp_R (ms : List Nat) : Shp 2 (encR ms) := .tup (Shp.map (fun m => Shp.encL _) _)
theorem eqv_R (ms : List Nat) : PyData.eqv (encR ms) (encR ms) = true := by
  show PyData.eqvAll (ms.map fun m => encL (lotOf m)) (ms.map fun m => encL (lotOf m)) = true
  have h := eqvAll_enc (e := encL) (ms.map lotOf) (ms.map lotOf) fun x _ y _ => eqv_encL x y
  rw [List.map_map] at h
  exact h.trans (by simp)
theorem new_ne {O : List Addr} {H : Hp} {b p C : Addr} {fs : List (Str × PyData)} (h : ObAt (cut O H) b C fs) (hp : H p = none) : b ≠ p := fun z => by
  have h1 := h.ne
  rw [z] at h1
  exact h1 (by
    unfold cut
    split
    · rfl
    · exact hp)
theorem make_to {C : Addr} {g : List PyData → Option (List (Str × PyData))} {H1 : Hp} {vs : List V} {xs : List PyData} {as : List (Str × PyData)} {O : List Addr} {R : Hp → Prop} (w1 : Own O H1) (t : TpAll (cut O H1) vs xs) (e3 : g xs = some as) {x dx : Addr} (hx : H1 x = none) (hdx : H1 dx = none) (hne : dx ≠ x)
    (q : ∀ H', Same H1 H' → ObAt (cut O H') x C as → R H') : spNew C g (.ref x :: vs) (upd (upd H1 dx (.own x)) x (.ins C dx [])) (fun v H2 => v = .non ∧ R H2) E0 := by
  have sx : Same H1 (upd (upd H1 dx (.own x)) x (.ins C dx [])) := (same_upd hdx).trans (same_upd (by rw [upd_ne hne.symm]; exact hx))
  have hxO : x ∉ O := w1.new hx
  refine ⟨O, x, dx, vs, xs, as, rfl, w1.up sx, hxO, TpAll.up (cut_cons hx sx) _ _ t, upd_same, e3, fun H' st hH' => ⟨rfl, ?_⟩⟩
  obtain ⟨us, hu, hf⟩ := hH'
  refine q H' (fun b o hb => st b o (ne_of_none hb hx) (sx _ _ hb)) ⟨dx, us, by rw [cut_out hxO]; exact hu, fun nm d hl => ?_⟩
  obtain ⟨v, h1, h2⟩ := hf nm d hl
  exact ⟨v, h1, Tp.up cut_drop _ _ h2⟩
theorem Hs.forget {H : Hp} {σ : L2.St} {sl : List (Option D)} {ob : Ob} (h : Hs H σ ⟨sl, ob⟩) (i : Nat) : Hs H σ ⟨sl.set i none, ob⟩ := by
  have g := h.unset i (w := (σ[i]?).getD none)
  have e : σ.set i ((σ[i]?).getD none) = σ := by
    by_cases hi : i < σ.length
    · rw [List.getElem?_eq_getElem hi]
      exact List.set_getElem_self hi
    · exact List.set_eq_of_length_le (by omega)
  rw [e] at g
  exact g
section
variable {P : Program} {w : World} {K : PySem.W.Frag} {mg : Str → Option Value} {base : Heap} {cs : Cs}
theorem c_L_trade_right (E : En P w K mg base cs) : CalE P w K mg base 9 "_law_trade_right" (spTR cs) := by
  obtain ⟨f, fd, F, m⟩ := E.df ("_law_trade_right", s_L_trade_right) (List.mem_of_getElem? (i := 48) rfl)
  have nd := sc_L_trade_right.nd
  obtain ⟨f2, fd2, F2, _, ⟨fT, cc, cd, S, MT⟩⟩ := E.mP
  obtain ⟨fdT, GT, BT, KT⟩ := c_Trade_init E F2 S
  refine calR (k := 8) F m sc_L_trade_right (fun _ _ _ _ _ _ us hl => match us, hl with | [_, _, _, _, _, _], _ => rfl) (fun vs H Q E h => ?_) fun cdv A outer s H vs Q E0' hr h => ⟨_,
    pss_cons (es_if (ew_pt (ew_or (et_not (et_val (ev_isC E.isTrade rfl (E.fr "isinstance" (by decide)) rfl E.cT (ev_var 4)))) (ew_or (et_not (et_val (ev_isC E.isDenial rfl (E.fr "isinstance" (by decide)) rfl E.cD (ev_var 4)))) (ew_or (et_val (ev_truT E hr (by decide) rfl (ev_var 4))) (ew_or1 (et_ne hr (ev_flds (E.fld_word) (ev_var 4)) (ev_c pe_str (fun _ => .str _)))))))) (ess_cons (es_ret (ev_c pe_bl (fun _ => .bl _))) ess_nil) ess_nil)
    (pss_cons (es_if (ew_pt (ew_or (et_ne hr (ev_flds (E.fld_parts) (ev_var 4)) (ev_tup (ea_cons (ev_flds (E.fld_short) (ev_var 4)) (ea_cons (ev_flds (E.fld_long) (ev_var 4)) ea_nil)))) (ew_or (et_not (et_val (ev_isTup rfl (E.fr "isinstance" (by decide)) rfl (E.fr "tuple" (by decide)) (ev_flds (E.fld_short) (ev_var 4))))) (ew_or1 (et_not (et_val (ev_isTup rfl (E.fr "isinstance" (by decide)) rfl (E.fr "tuple" (by decide)) (ev_flds (E.fld_long) (ev_var 4))))))))) (ess_cons (es_ret (ev_c pe_bl (fun _ => .bl _))) ess_nil) ess_nil)
    (pss_cons (es_if (ew_pt (ew_or (et_ne hr (ev_len rfl (E.fr "len" (by decide)) (ea_cons (ev_flds (E.fld_short) (ev_var 4)) ea_nil)) (ev_c pe_int (fun _ => .int _))) (ew_or1 (et_not (et_val (ev_call (c_L_is_trade E) hr (by decide) rfl (ea_cons (ev_var 2) (ea_cons (ev_var 1) (ea_cons (ev_flds (E.fld_short) (ev_var 4)) (ea_cons (ev_flds (E.fld_long) (ev_var 4)) ea_nil)))))))))) (ess_cons (es_ret (ev_c pe_bl (fun _ => .bl _))) ess_nil) ess_nil)
    (pss_cons (ps_for PassesOwn.never rfl (pi_range1 rfl (E.fr "range" (by decide)) (pa_cons pe_int pa_nil)) (pg_name (i := 6) nd rfl (by first | exact .inl rfl | exact .inr rfl))
      (pss_cons (ps_set (i := 7) nd rfl (by first | exact .inl rfl | exact .inr rfl) (pe_cal (c_L_lengths E) hr (by decide) rfl (pa_cons (pv 0) (pa_cons (pv 1) pa_nil))))
      (pss_one (ps_if (PW.pt (pw_or (et_isNot (ev_call (c_has_lengths E) hr (by decide) rfl (ea_cons (ev_var 3) (ea_cons (ev_var 7) ea_nil))) (ev_c pe_bl (fun _ => .bl _))) (pw_or1 (pt_cmpR op_notBl (pe_cal (c_shows_lengths E) hr (by decide) rfl (pa_cons (pv 3) (pa_cons (en_L E hr (by decide) rfl (ea_cons (ev_var 7) ea_nil)) pa_nil))) pe_bl (nomark _))))) (pss_one (ps_ret pe_bl)) pss_nil))))
    (pss_cons (ps_asg (pe_cal (c_L_one E) hr (by decide) rfl (pa_cons (pv 0) (pa_cons (pv 5) pa_nil))) (pg_tup rfl (pgs_cons (pg_name (i := 8) nd rfl (by first | exact .inl rfl | exact .inr rfl)) (pgs_cons (pg_name (i := 9) nd rfl (by first | exact .inl rfl | exact .inr rfl)) (pgs_cons (pg_name (i := 10) nd rfl (by first | exact .inl rfl | exact .inr rfl)) (pgs_cons (pg_name (i := 11) nd rfl (by first | exact .inl rfl | exact .inr rfl)) pgs_nil))))))
    (pss_cons (es_set (i := 12) nd rfl (by first | exact .inl rfl | exact .inr rfl) (ev_lst (ea_cons (ev_sorted hr rfl (E.fr "sorted" (by decide)) (ea_cons (ev_add (ev_var 10) (ev_tup (ea_cons (ev_var 9) ea_nil))) ea_nil)) (ea_cons (ev_sorted hr rfl (E.fr "sorted" (by decide)) (ea_cons (ev_add (ev_var 11) (ev_tup (ea_cons (ev_var 8) ea_nil))) ea_nil)) ea_nil))))
    (pss_cons (es_set (i := 13) nd rfl (by first | exact .inl rfl | exact .inr rfl) (ev_lst (ea_cons (ev_sorted hr rfl (E.fr "sorted" (by decide)) (ea_cons (ev_add (ev_var 10) (ev_tup (ea_cons (ev_var 8) ea_nil))) ea_nil)) (ea_cons (ev_sorted hr rfl (E.fr "sorted" (by decide)) (ea_cons (ev_add (ev_var 11) (ev_tup (ea_cons (ev_var 9) ea_nil))) ea_nil)) ea_nil))))
    (pss_cons (ps_set (i := 14) nd rfl (by first | exact .inl rfl | exact .inr rfl) (pe_makeK0 MT GT (hr.mono (by decide)) rfl E.cT KT pass0 (pk_cons (ev_add (ev_add (ev_var 13) (ev_list rfl (E.fr "list" (by decide)) (ea_cons (ev_flds (E.fld_long) (ev_var 4)) ea_nil))) (ev_var 13)) (pk_cons (ev_add (ev_rep (ev_var 12) (ev_c pe_int (fun _ => .int _))) (ev_list rfl (E.fr "list" (by decide)) (ea_cons (ev_flds (E.fld_short) (ev_var 4)) ea_nil))) pk_nil))))
    (pss_one (ps_ret (pe_and (pe_cmpR op_isBl (pe_cal (c_shows_lengths E) hr (by decide) rfl (pa_cons (pv 3) (pa_cons (en_T E hr (by decide) rfl (ea_cons (ev_var 12) (ea_cons (ev_var 13) ea_nil))) pa_nil))) pe_bl (nomark _)) (pe_one (pe_cmpR op_isBl (pe_cal (c_shows_lengths E) hr (by decide) rfl (pa_cons (pv 3) (pa_cons (pv 14) pa_nil))) pe_bl (nomark _))))))))))))), ?_⟩
  · obtain ⟨O, a, l, n, many, T, v, b, t, gr, ms, ls, u, rfl, _⟩ := h
    rfl
  obtain ⟨O, a, l, n, many, T, v, b, t, gr, ms, ls, u, rfl, hat, m3, m6, tv, ob1, obt, hbt, W, w2, tu, hne, hn, q⟩ := h
  have line := thousand
  have p6 := pow_le6 m6
  have hLT := E.LT
  have o0 := ob2_ok ob1 obt
  have B : BookAt cs (ob2 b (cs.B, bookFs many T gr) t (cs.T, trdFs ms ls)) b many T gr := ob2_1
  have Tt : ob2 b (cs.B, bookFs many T gr) t (cs.T, trdFs ms ls) t = some (cs.T, trdFs ms ls) := ob2_2 hbt
  generalize hob : ob2 b (cs.B, bookFs many T gr) t (cs.T, trdFs ms ls) = ob at o0 B Tt
  have i1 : cs.isTrade cs.T = some true := by unfold Cs.isTrade; rw [if_pos rfl]
  have i3 : cs.isDenial cs.T = some true := by unfold Cs.isDenial; rw [if_pos rfl]
  have lm2 : [cs.L, cs.T].length = 2 := rfl
  have memT : cs.T ∈ [cs.L, cs.T] := List.mem_cons_of_mem _ (List.mem_singleton.mpr rfl)
  have wl := W.len
  have odl := oddsL_len m6 T
  have fs : ∀ {sl : List (Option D)}, sl[4]? = some (some (.o t)) → eFlds [cs.T] "short" (eVar 4) ⟨sl, ob⟩ = some (.p (encR ms)) := fun h => eFlds_of (eVar_of h) Tt (List.mem_singleton.mpr rfl) rfl
  have fl : ∀ {sl : List (Option D)}, sl[4]? = some (some (.o t)) → eFlds [cs.T] "long" (eVar 4) ⟨sl, ob⟩ = some (.p (encR ls)) := fun h => eFlds_of (eVar_of h) Tt (List.mem_singleton.mpr rfl) rfl
  have hs0 : Hs (cut O H) [some (.ref a), some (.int (many : Nat)), some v, some (.ref b), some (.ref t), some u, none, none, none, none, none, none, none, none, none] ⟨[some (.o a), some (.p (.int (many : Nat))), some (.p (encM ((ordM many).filter T))), some (.o b), some (.o t), some (.p (.list ((oddsL many T).map encOd))), none, none, none, none, none, none, none, none, none], ob⟩ :=
    (HsL.s (d := .o a) rfl (.s (d := .p (.int (many : Nat))) (.int _) (.s (d := .p (encM ((ordM many).filter T))) tv (.s (d := .o b) rfl (.s (d := .o t) rfl (.s (d := .p (.list ((oddsL many T).map encOd))) tu (.n (.n (.n (.n (.n (.n (.n (.n (.n .nil))))))))))))))).hs o0
  refine ⟨O, _, _, hat.own, hs0, sIf_f (eOr_f (eNot_of (p := true) (eIsC_of rfl Tt i1)) (eOr_f (eNot_of (p := true) (eIsC_of rfl Tt i3)) (eOr_f (eTru_of rfl Tt) (eB_of (eFlds_of (x := .str "trade") rfl Tt memT rfl) rfl (ne_str (by simp only [PyData.canLay0]; decide +kernel)))))) rfl, fun H1 s1 σ1 hs1 => ?_⟩
  have hat1 := hat.up s1
  have shp : Shp 3 (.tuple [encR ms, encR ls]) := .tup fun x hx => by
    obtain rfl | hx := List.mem_cons.mp hx
    · exact shp_R ms
    · rw [List.mem_singleton.mp hx]
      exact shp_R ls
  have e3 : PyData.eqv (.tuple [encR ms, encR ls]) (.tuple [encR ms, encR ls]) = true := by
    show PyData.eqvAll [encR ms, encR ls] [encR ms, encR ls] = true
    simp only [PyData.eqvAll, eqv_R, Bool.and_self]
  refine ⟨O, _, _, hat1.own, hs1, sIf_f (eOr_f (eB_of (eFlds_of (x := .tuple [encR ms, encR ls]) rfl Tt memT rfl) (eData_of (xs := [encR ms, encR ls]) (eCons_of (fs rfl) (eCons_of (fl rfl) rfl)) (kTup_of (by show 2 ≤ 1000; decide))) (gNe_of shp shp e3)) (eOr_f (eNot_of (p := true) (eIs_of (x := encR ms) (fs rfl))) (eNot_of (p := true) (eIs_of (x := encR ls) (fl rfl))))) rfl, fun H2 s2 σ2 hs2 => ?_⟩
  have hat2 := hat1.up s2
  refine ⟨O, _, _, hat2.own, hs2, sIf_f (eOr_f (eB_of (eData1 (fs rfl) (gLen_t ms _)) rfl (gNe_of (k := 0) (r := true) (Shp.int _) (Shp.int _) (by rw [eqv_int, w2]; rfl))) (eNot_of (p := true) (eCall_of (eCons_of rfl (eCons_of rfl (eCons_of (fs rfl) (eCons_of (fl rfl) rfl)))) (v_L_is_trade ob m3 m6 W)))) rfl, fun H3 s3 σ3 hs3 => ?_⟩
  have hat3 := hat2.up s3
  have st03 : StepA a H H3 := ((StepA.of s1).trans (.of s2)).trans (.of s3)
  -- no drawn lengths
  refine ⟨4, rfl, by decide, by decide, for_range (lo := 0) (n := 4) (fun i σ H' => Hs (cut O H') σ ⟨[some (.o a), some (.p (.int (many : Nat))), some (.p (encM ((ordM many).filter T))), some (.o b), some (.o t), some (.p (.list ((oddsL many T).map encOd))), none, none, none, none, none, none, none, none, none], ob⟩ ∧ StepA a H H' ∧ Hat O a l (n + 10 * i) H')
    ⟨hs3, st03, hat3⟩ (fun i σ H4 hi hP => ?_) (fun σ H4 hP => ?_)⟩
  · obtain ⟨hs4, st4, hat4⟩ := hP
    have hs4' := hs4.unset 6 (w := some (.int (0 + (i : Nat))))
    obtain ⟨v0, h0, r0⟩ := hs4'.sl 0 (.o a) rfl
    have r0 : v0 = .ref a := r0
    subst r0
    obtain ⟨v1, h1, r1⟩ := hs4'.sl 1 (.p (.int (many : Nat))) rfl
    cases r1
    refine ⟨_, h0, _, h1, O, a, l, n + 10 * i, many, rfl, hat4, by omega, m6, by omega, fun lg v5 H5 st5 at5 t5 gl gp _ => ?_⟩
    have hat5 := hat4.to st5 at5
    have hs5 := (hs4'.up (hat4.cut st5)).set 7 (d := .p (encS false lg)) t5
    have nh : hadB many T lg = false := by
      obtain ⟨o, ho⟩ := List.exists_mem_of_ne_nil _ hne
      exact no_had m3 m6 ho gl
    refine ⟨O, _, false, hat5.own, hs5, eB_of (eCall_of (eCons_of rfl (eCons_of rfl rfl)) ((v_has_lengths B m6 false gl gp).trans (by rw [nh]))) rfl rfl, fun H6 s6 => iteF ?_⟩
    have hat6 := hat5.up s6
    have hs6 := hs5.up (cutS s6)
    obtain ⟨w3, h3, r3⟩ := hs6.sl 3 (.o b) rfl
    have r3 : w3 = .ref b := r3
    subst r3
    refine ⟨_, h3, O, _, _, [encS false lg], lenFs lg, hat6.own, hs6, eCons_of rfl rfl, rfl, v_newLengths false (by omega), fun p H7 s7 hp hob7 => ?_⟩
    have hat7 := hat6.up s7
    have st06 := (st4.trans st5).trans (.of s6)
    have obB6 : ObAt (cut O H6) b cs.B (bookFs many T gr) := ob1.up (hat.cut st06)
    have hbp := new_ne obB6 hp
    have obB : ObAt (cut O H7) b cs.B (bookFs many T gr) := obB6.up (cutS s7)
    refine ⟨O, ob2 b (cs.B, bookFs many T gr) p (cs.L, lenFs lg), [.o b, .o p], _, hat7.own, ob2_ok obB hob7, .cons rfl (.cons rfl .nil), v_shows_L (B := (ob2_1 : BookAt cs (ob2 b (cs.B, bookFs many T gr) p (cs.L, lenFs lg)) b many T gr)) hLT m6 gl gp (ob2_2 hbp) rfl, fun v8 H8 s8 r8 => ?_⟩
    rw [nh] at r8
    cases r8
    refine ⟨false, false, rfl, rfl, _, rfl, iteF ?_⟩
    have hs8 := ((hs6.up (cutS s7)).up (cutS s8)).forget 7
    exact ⟨hs8, (st06.trans (.of s7)).trans (.of s8), by rw [Nat.mul_succ, ← Nat.add_assoc]; exact hat7.up s8⟩
  obtain ⟨hs4, st4, hat4⟩ := hP
  obtain ⟨v0, h0, r0⟩ := hs4.sl 0 (.o a) rfl
  have r0 : v0 = .ref a := r0
  subst r0
  obtain ⟨v5, h5, r5⟩ := hs4.sl 5 (.p (.list ((oddsL many T).map encOd))) rfl
  refine ⟨_, h0, _, h5, O, a, l, _, v5, (oddsL many T).map encOd, rfl, hat4, r5, ?_, ?_, by omega, fun i d v6 H5 hd st5 at5 t5 => ?_⟩
  · rw [List.length_map]
    exact Nat.succ_le_of_lt <| List.length_pos_iff.mpr hne
  · rw [List.length_map]
    omega
  have hat5 := hat4.to st5 at5
  obtain ⟨o, ho, rfl⟩ : ∃ o, o ∈ oddsL many T ∧ encOd o = d := by
    rw [List.getElem?_map] at hd
    obtain ⟨o, g1, g2⟩ := Option.map_eq_some_iff.mp hd
    exact ⟨o, List.mem_of_getElem? g1, g2⟩
  have Lo := odds_lots m3 m6 ho
  obtain ⟨i, j, lo, hi⟩ := o
  have Lo : Lots many T i j lo hi := Lo
  have hs5 := hs4.up (hat4.cut st5)
  cases t5 with
  | tup g1 g2 =>
  obtain ⟨x, y, z, uu, rfl, tx, ty, tz, tuu⟩ := tp4 g2
  cases tx
  cases ty
  refine ⟨_, _, rfl, SqT.of (cut_sub _ _ g1), rfl, _, _, rfl, _, _, rfl, _, _, rfl, _, _, rfl, rfl, ?_⟩
  have hs6 := ((((hs5.set 8 (d := .p (.int (i : Nat))) (.int _)).set 9 (d := .p (.int (j : Nat))) (.int _)).set 10 (d := .p (encL (lotOf lo))) tz).set 11 (d := .p (encL (lotOf hi))) tuu)
  obtain ⟨⟨ii, jj⟩, ⟨a1, a2, a3, a4, a5⟩, b1, b2, b3, b4, b5⟩ := id Lo
  refine ⟨O, _, _, hat5.own, hs6, sAsg_of ((eData_of (xs := [encS false (lotOf (lo + 2 ^ j)), encS false (lotOf (hi + 2 ^ i))]) (eCons_of (sort_addL (i := 10) (k := 9) rfl rfl (by omega) (by omega) a3) (eCons_of (sort_addL (i := 11) (k := 8) rfl rfl (by omega) (by omega) b3) rfl)) (kLst_of (by show 2 ≤ 1000; decide))).trans (by rw [two_G])), fun H7 s7 σ7 hs7 => ?_⟩
  have hat7 := hat5.up s7
  refine ⟨O, _, _, hat7.own, hs7, sAsg_of ((eData_of (xs := [encS false (lotOf (lo + 2 ^ i)), encS false (lotOf (hi + 2 ^ j))]) (eCons_of (sort_addL (i := 10) (k := 8) rfl rfl (by omega) (by omega) a2) (eCons_of (sort_addL (i := 11) (k := 9) rfl rfl (by omega) (by omega) b2) rfl)) (kLst_of (by show 2 ≤ 1000; decide))).trans (by rw [two_G])), fun H8 s8 σ8 hs8 => ?_⟩
  have hat8 := hat7.up s8
  have st08 : StepA a H H8 := ((st4.trans st5).trans (.of s7)).trans (.of s8)
  have Tr := Lo.trd m6
  -- the doubled trade
  refine ⟨O, _, .p (encG false (([(false, lo + 2 ^ i), (false, hi + 2 ^ j)] ++ ls.map fun m => (true, m)) ++ [(false, lo + 2 ^ i), (false, hi + 2 ^ j)])), hat8.own, hs8, ?_, fun vl H9 s9 r9 => ?_⟩
  · exact eB_of (eB_of rfl (eData1 (fl rfl) (gList_R ls)) (gAdd_G (by simp only [List.length_append, List.length_map, List.length_cons, List.length_nil]; omega))) rfl (gAdd_G (by simp only [List.length_append, List.length_map, List.length_cons, List.length_nil]; omega))
  have hat9 := hat8.up s9
  have hs9 := hs8.up (cutS s9)
  refine ⟨O, _, .p (encG false (([(false, lo + 2 ^ j), (false, hi + 2 ^ i)] ++ [(false, lo + 2 ^ j), (false, hi + 2 ^ i)]) ++ ms.map fun m => (true, m))), hat9.own, hs9, ?_, fun vsh H10 s10 r10 => ?_⟩
  · exact eB_of (eB_of rfl rfl (gRep_G (by show 2 ≤ 400; decide))) (eData1 (fs rfl) (gList_R ms)) (gAdd_G (by simp only [List.length_append, List.length_map, List.length_cons, List.length_nil]; omega))
  have hat10 := hat9.up s10
  have hs10 := hs9.up (cutS s10)
  have st010 := (st08.trans (.of s9)).trans (.of s10)
  have mp : ∀ l : List Nat, (l.map fun m => ((true, m) : Bool × Nat)).map (·.2) = l := fun l => by
    rw [List.map_map]
    exact List.map_id' l
  have nt := v_newTrade false false (gs := ([(false, lo + 2 ^ j), (false, hi + 2 ^ i)] ++ [(false, lo + 2 ^ j), (false, hi + 2 ^ i)]) ++ ms.map fun m => (true, m)) (hs := ([(false, lo + 2 ^ i), (false, hi + 2 ^ j)] ++ ls.map fun m => (true, m)) ++ [(false, lo + 2 ^ i), (false, hi + 2 ^ j)]) (by simp only [List.length_append, List.length_map, List.length_cons, List.length_nil]; omega) (by simp only [List.length_append, List.length_map, List.length_cons, List.length_nil]; omega)
  rw [List.map_append, List.map_append, mp, List.map_append, List.map_append, mp] at nt
  have Tw : Trd many T (([lo + 2 ^ j, hi + 2 ^ i] ++ [lo + 2 ^ j, hi + 2 ^ i]) ++ ms) (([lo + 2 ^ i, hi + 2 ^ j] ++ ls) ++ [lo + 2 ^ i, hi + 2 ^ j]) :=
    ((Tr.app Tr (by show 2 + 2 ≤ 100; decide)).app W (by simp only [List.length_append, List.length_map, List.length_cons, List.length_nil]; omega)).of_perm (List.Perm.refl _) (by
      rw [List.append_assoc]
      rw [List.append_assoc]
      exact List.Perm.append_left _ List.perm_append_comm)
  refine ⟨rfl, rfl, fun p dp hp hdp hnp => ?_⟩
  refine make_to (vs := [vsh, vl]) hat10.own (.cons r10 (.cons (Tp.up (cutS s10) _ _ r9) .nil)) nt hp hdp hnp fun H11 s11 hob11 => ?_
  have hat11 := hat10.up s11
  have hs11 := (hs10.up (cutS s11)).set 14 (d := .o p) rfl
  have st011 := st010.trans (.of s11)
  have obB10 : ObAt (cut O H10) b cs.B (bookFs many T gr) := ob1.up (hat.cut st010)
  have hbp := new_ne obB10 hp
  -- the trade of the two bars
  obtain ⟨w3, h3, r3⟩ := hs11.sl 3 (.o b) rfl
  have r3 : w3 = .ref b := r3
  subst r3
  have nt2 := v_newTrade false false (gs := [(false, lo + 2 ^ j), (false, hi + 2 ^ i)]) (hs := [(false, lo + 2 ^ i), (false, hi + 2 ^ j)]) (by show 2 ≤ 1000; decide) (by show 2 ≤ 1000; decide)
  refine ⟨_, h3, O, _, [.p (encG false [(false, lo + 2 ^ j), (false, hi + 2 ^ i)]), .p (encG false [(false, lo + 2 ^ i), (false, hi + 2 ^ j)])], [encG false [(false, lo + 2 ^ j), (false, hi + 2 ^ i)], encG false [(false, lo + 2 ^ i), (false, hi + 2 ^ j)]], trdFs [lo + 2 ^ j, hi + 2 ^ i] [lo + 2 ^ i, hi + 2 ^ j], hat11.own, hs11, eCons_of rfl (eCons_of rfl rfl), rfl, nt2, fun r H12 s12 hr12 hob12 => ?_⟩
  have hat12 := hat11.up s12
  have obB11 : ObAt (cut O H11) b cs.B (bookFs many T gr) := obB10.up (cutS s11)
  have hbr := new_ne obB11 hr12
  have obB12 : ObAt (cut O H12) b cs.B (bookFs many T gr) := obB11.up (cutS s12)
  refine ⟨O, ob2 b (cs.B, bookFs many T gr) r (cs.T, trdFs [lo + 2 ^ j, hi + 2 ^ i] [lo + 2 ^ i, hi + 2 ^ j]), [.o b, .o r], _, hat12.own, ob2_ok obB12 hob12, .cons rfl (.cons rfl .nil), v_shows_T (B := (ob2_1 : BookAt cs (ob2 b (cs.B, bookFs many T gr) r (cs.T, trdFs [lo + 2 ^ j, hi + 2 ^ i] [lo + 2 ^ i, hi + 2 ^ j])) b many T gr)) m6 Tr (ob2_2 hbr) rfl rfl, fun v13 H13 s13 r13 => ?_⟩
  cases r13
  refine ⟨true, true, rfl, rfl, true, rfl, iteT ?_⟩
  have hs13 := (hs11.up (cutS s12)).up (cutS s13)
  have hat13 := hat12.up s13
  obtain ⟨w3, h3, r3⟩ := hs13.sl 3 (.o b) rfl
  have r3 : w3 = .ref b := r3
  subst r3
  obtain ⟨w14, h14, r14⟩ := hs13.sl 14 (.o p) rfl
  have r14 : w14 = .ref p := r14
  subst r14
  have obB13 : ObAt (cut O H13) b cs.B (bookFs many T gr) := obB12.up (cutS s13)
  have obp13 := (hob11.up (cutS s12)).up (cutS s13)
  refine ⟨_, h3, _, h14, O, ob2 b (cs.B, bookFs many T gr) p (cs.T, trdFs (([lo + 2 ^ j, hi + 2 ^ i] ++ [lo + 2 ^ j, hi + 2 ^ i]) ++ ms) (([lo + 2 ^ i, hi + 2 ^ j] ++ ls) ++ [lo + 2 ^ i, hi + 2 ^ j])), [.o b, .o p], _, hat13.own, ob2_ok obB13 obp13, .cons rfl (.cons rfl .nil), v_shows_T (B := (ob2_1 : BookAt cs (ob2 b (cs.B, bookFs many T gr) p (cs.T, trdFs (([lo + 2 ^ j, hi + 2 ^ i] ++ [lo + 2 ^ j, hi + 2 ^ i]) ++ ms) (([lo + 2 ^ i, hi + 2 ^ j] ++ ls) ++ [lo + 2 ^ i, hi + 2 ^ j]))) b many T gr)) m6 Tw (ob2_2 hbp) rfl rfl, fun v14 H14 s14 r14 => ?_⟩
  cases r14
  refine ⟨true, true, rfl, rfl, ?_⟩
  exact q H14 (((st011.trans (.of s12)).trans (.of s13)).trans (.of s14)) ((hat13.up s14).hat.mono (by omega))
end
end RB
set_option Elab.async false
set_option linter.all false
set_option maxRecDepth 100000
set_option maxHeartbeats 4000000
/-! Calls by keywords alone; papers compared; what lengths_for makes of a book. -/
namespace RB
open PySem PySem.Spec PyProof.Rows L2
/-! ### f(k = e, ..) -/
theorem vals_nil_iff {vs : List V} {us : List Value} (r : Vals vs us) : vs = [] ↔ us = [] := by
  cases r with
  | nil => exact ⟨fun _ => rfl, fun _ => rfl⟩
  | cons _ _ => exact ⟨fun z => (by cases z), fun z => (by cases z)⟩
def kwG (us ws : List Value) : List Value := match us with
  | [] => ws
  | _ :: _ => []
def kwV (vs zs : List V) : List V := match vs with
  | [] => zs
  | _ :: _ => []
section
variable {X : Cx} {e : Expr} {f : Ev} {fs : Evs} {kws : List Keyword} {p pos kpos : Pos} {nm : Option Str}
theorem pk_imp {t u : TA} (h : PK X kws t) (i : ∀ σ H Q, u σ H Q → t σ H Q) : PK X kws u := ⟨fun pos pins s σ H Q I q => h.run pos pins s σ H Q I (i σ H Q q)⟩
theorem ek_nil : PK X [] (taOf eNil) := pk_imp pk_nil fun σ H Q h => by
  obtain ⟨O, Γ, ds, w, hs, e, q⟩ := h
  obtain rfl := Option.some.inj e
  exact q [] H (Same.refl H) .nil
theorem ek_cons (ha : PE X e (tOf f)) (hr : PK X kws (taOf fs)) : PK X (⟨nm, e, kpos⟩ :: kws) (taOf (eCons f fs)) := pk_imp (pk_cons ha hr) fun σ H Q h => by
  obtain ⟨O, Γ, ds, w, hs, e, q⟩ := h
  unfold eCons at e
  split at e
  · rename_i d r h1 h2
    obtain rfl := Option.some.inj e
    exact ⟨O, Γ, _, w, hs, h1, fun v H1 s1 r1 => ⟨O, Γ, _, w.up s1, hs.up (cutS s1), h2, fun vs H2 s2 r2 => q (v :: vs) H2 (s1.trans s2) (.cons (r1.up (cutS s2)) r2)⟩⟩
  · cases e
theorem pe_calK {sp : Sp} {x : Str} {k j : Nat} {t : TA} {ks : List Str} {st : Stmt} (c : CalE X.prog X.w X.K X.mg X.base k x sp) (df : ∃ f fd, FunD X.K x x (defArgs st) (defBody st) (defScope st) [] [] f fd ∧ X.mg x = some (.ref f)) (hr : Room j X.A) (hk : k ≤ j) (hg : Gl X x) (hkw : PK X kws t)
    (hks : (backToKw pos (keywordEach kws X.env)).filterMap (·.1) = ks)
    (hb : ∀ (kV doc pm : Value) (an : Option Addr) (cdv ct : Value) (ws : List Value), ws.length = (((defArgs st).posonlyargs ++ (defArgs st).args).map (·.arg)).length → bindArgs (PySem.W.fnOf x x (defArgs st) (defBody st) (defScope st) .none kV doc pm an cdv ct) ⟨[], ks.zip ws⟩ = pure ((((defArgs st).posonlyargs ++ (defArgs st).args).map (·.arg)).zip ws))
    (hne : (((defArgs st).posonlyargs ++ (defArgs st).args).map (·.arg)).length ≠ 0)
    (hall : (backToKw pos (keywordEach kws X.env)).all (·.1.isSome) = true := by rfl) (hdb : (x == ("__debug__" : Str)) = false := by decide)
    (hpl : ((backTo pos (starEach [] X.env)).any (·.1) ||
      (backToKw pos (keywordEach kws X.env)).any (·.1.isNone)) = false := by rfl) :
    PE X (.Call (.Name x p) [] kws pos) (fun σ H Q => t σ H fun vs H1 => sp vs H1 Q E0) := by
  obtain ⟨fa, fd, ps, G, m, kp, bn, st', F', hps⟩ := c.ex
  obtain ⟨fa2, fd2, F, m2⟩ := df
  have ef : fa2 = fa := by
    rw [m] at m2
    exact (Value.ref.inj (Option.some.inj m2)).symm
  subst ef
  obtain ⟨oc, od, dV, kV, doc, pm, an, cdv, ct, osl, e1, lk, hcd, hD, hK⟩ := F.ex
  obtain ⟨oc', od', dV', kV', doc', pm', an', cdv', ct', osl', e1', lk', _, _, _⟩ := F'.ex
  have efd : fd2 = fd := by
    rw [lk] at lk'
    have h := congrArg Obj.data (Option.some.inj lk')
    exact Data.func.inj h
  subst efd
  have ea : defArgs st' = defArgs st := by
    have h := e1'.symm.trans e1
    exact congrArg FuncData.params h
  rw [ea] at hps
  subst hps
  have hD' : dV = .none := by
    rcases hD with ⟨_, h⟩ | ⟨h, _⟩
    · exact h
    · exact absurd rfl h
  subst hD'
  subst e1
  have KB : L2.KBinds X.K (PySem.W.fnOf x x (defArgs st) (defBody st) (defScope st) .none kV doc pm an cdv ct) (((defArgs st).posonlyargs ++ (defArgs st).args).map (·.arg)) ks kwG kwV := by
    refine ⟨fun s us ws _ hl => ?_, fun {vs us zs ws} r1 r2 => ?_⟩
    · cases us with
      | nil =>
        have h := hb kV doc pm an cdv ct ws hl
        exact L2.BindsTo.of_looks fun M => by
          rw [h]
          exact .of_pure rfl
      | cons u us => exact absurd hl.symm hne
    · cases r1 with
      | nil => exact r2
      | cons _ _ => exact .nil
  exact pe_imp (pe_callK0 G (hr.mono hk) hg m kp KB pass0 hkw hall hks hdb hpl) fun σ H Q h => h
theorem ev_callK {g : Gf} {x : Str} {k j : Nat} {ks : List Str} {st : Stmt} (c : CalE X.prog X.w X.K X.mg X.base k x (spE g)) (df : ∃ f fd, FunD X.K x x (defArgs st) (defBody st) (defScope st) [] [] f fd ∧ X.mg x = some (.ref f)) (hr : Room j X.A) (hk : k ≤ j) (hg : Gl X x) (hkw : PK X kws (taOf fs))
    (hks : (backToKw pos (keywordEach kws X.env)).filterMap (·.1) = ks)
    (hb : ∀ (kV doc pm : Value) (an : Option Addr) (cdv ct : Value) (ws : List Value), ws.length = (((defArgs st).posonlyargs ++ (defArgs st).args).map (·.arg)).length → bindArgs (PySem.W.fnOf x x (defArgs st) (defBody st) (defScope st) .none kV doc pm an cdv ct) ⟨[], ks.zip ws⟩ = pure ((((defArgs st).posonlyargs ++ (defArgs st).args).map (·.arg)).zip ws))
    (hne : (((defArgs st).posonlyargs ++ (defArgs st).args).map (·.arg)).length ≠ 0)
    (hall : (backToKw pos (keywordEach kws X.env)).all (·.1.isSome) = true := by rfl) (hdb : (x == ("__debug__" : Str)) = false := by decide)
    (hpl : ((backTo pos (starEach [] X.env)).any (·.1) ||
      (backToKw pos (keywordEach kws X.env)).any (·.1.isNone)) = false := by rfl) :
    PE X (.Call (.Name x p) [] kws pos) (tOf (eCall g fs)) :=
  pe_imp (pe_calK c df hr hk hg hkw hks hb hne hall hdb hpl) fun σ H Q h => by
    obtain ⟨O, Γ, d, w, hs, e, q⟩ := h
    obtain ⟨ds, h1, h2⟩ := Option.bind_eq_some_iff.mp e
    exact ⟨O, Γ, ds, w, hs, h1, fun vs H1 s1 r1 => ⟨O, Γ.ob, ds, d, w.up s1, hs.ob.up (cutS s1), r1, h2, fun v H2 s2 r2 => q v H2 (s1.trans s2) r2⟩⟩
end
/-! ### papers compared -/
theorem shp_str {k : Nat} {x : Str} (h : PyData.canLay0 (.str x) = true) : Shp k (.str x) := ⟨h, by simp only [PyData.depth]; omega⟩
theorem v_eq_core {cs : Cs} {ob : Ob} {x y C : Addr} {as : List (Str × PyData)} {wd : Str} {pt : PyData} (hC : C ∈ [cs.L, cs.T]) (hP : cs.isPaper C = some true) (hN : ∃ nm, cs.nm C = some nm ∧ PyData.canLay0 (.str nm) = true) (hx : ob x = some (C, as)) (hy : ob y = some (C, as)) (hw : as.lookup ("word" : Str) = some (.str wd)) (hp : as.lookup ("parts" : Str) = some pt)
    (hl : PyData.canLay0 (.str wd) = true) (sp : Shp 60 pt) (ep : PyData.eqv pt pt = true) : g_Paper_eq cs ob [.o x, .o y] = some (.p (.bool true)) := by
  obtain ⟨nm, hn, hnl⟩ := hN
  have en : ∀ {f : Ev} {Γ : Gm} {z : Addr}, f Γ = some (.o z) → Γ.ob z = some (C, as) → eNm cs.nm f Γ = some (.p (.str nm)) := fun {f Γ z} h1 h2 => by
    unfold eNm
    rw [h1]
    dsimp only
    rw [h2]
    dsimp only
    rw [hn]
    rfl
  refine runE_ret rfl (sSeq_nx (sIf_f (eOr_f (eNot_of (p := true) (eIsC_of rfl hy hP)) (eB_of (en rfl hx) (en rfl hy) (ne_str hnl))) rfl) (sRet1 (eData1 (x := .bool true) (eAnd_t (eB_of (eFlds_of rfl hx hC hw) (eFlds_of rfl hy hC hw) (gEq_of (k := 0) (r := true) (shp_str hl) (shp_str hl) (by simp only [PyData.eqv, beq_self_eq_true]))) (eB_of (eFlds_of rfl hx hC hp) (eFlds_of rfl hy hC hp) (gEq_of (k := 60) sp sp ep))) rfl)))
theorem Shp.up {k j : Nat} {d : PyData} (h : Shp k d) (hk : k ≤ j) : Shp j d := ⟨h.lay, Nat.le_trans h.dep hk⟩
theorem eqv_1 (ls : List Nat) : PyData.eqv (.tuple [encL ls]) (.tuple [encL ls]) = true := by
  have h := eqvAll_enc (e := encL) [ls] [ls] fun x _ y _ => eqv_encL x y
  show PyData.eqvAll ([ls].map encL) ([ls].map encL) = true
  rw [h]
  simp
theorem eqv_2 (ms ls : List Nat) : PyData.eqv (.tuple [encR ms, encR ls]) (.tuple [encR ms, encR ls]) = true := by
  show PyData.eqvAll [encR ms, encR ls] [encR ms, encR ls] = true
  simp only [PyData.eqvAll, eqv_R, Bool.and_self]
/-! ### what lengths_for makes of a book -/
theorem v_at_none {cs : Cs} {ob : Ob} {b n : Nat} {T : Nat → Bool} {gr : PyData} (B : BookAt cs ob b n T gr) (h3 : 3 ≤ n) (h6 : n ≤ 6) (no : oddsL n T = []) : g_at_odds cs ob [.o b] = some (.p .none) := by
  rw [v_at_odds B h3 h6, no]
  rfl
theorem v_at_some {cs : Cs} {ob : Ob} {b n : Nat} {T : Nat → Bool} {gr : PyData} (B : BookAt cs ob b n T gr) (h3 : 3 ≤ n) (h6 : n ≤ 6) {o : Od} {r : List Od} (e : oddsL n T = o :: r) : g_at_odds cs ob [.o b] = some (.p (.tuple [.int (o.1 : Nat), .int (o.2.1 : Nat)])) := by
  rw [v_at_odds B h3 h6, e]
  rfl
theorem outc_len {n : Nat} {T : Nat → Bool} (G : Good n T) (h3 : 3 ≤ n) (h6 : n ≤ 6) {cs : Cs} {ob : Ob} {b : Nat} {gr : PyData} (B : BookAt cs ob b n T gr) (no : oddsL n T = []) : ∃ ls, Outc cs ob b cs.L (lenFs ls) ∧ LenOk n T ls := by
  obtain ⟨rows, lots, fuel, r, h1, h2⟩ := least_of G h3 h6 B no
  have hl := h2.len
  exact ⟨rowL n lots r, .len (v_at_none B h3 h6 no) h1 (v_newLengths false (by omega)), h2⟩
theorem outc_trd {n : Nat} {T : Nat → Bool} (h3 : 3 ≤ n) (h6 : n ≤ 6) {cs : Cs} {ob : Ob} {b : Nat} {gr : PyData} (B : BookAt cs ob b n T gr) {o : Od} {r : List Od} (e : oddsL n T = o :: r) : ∃ ms ls, Outc cs ob b cs.T (trdFs ms ls) ∧ Trd n T ms ls ∧ ms.length = 2 := by
  have ho : o ∈ oddsL n T := by rw [e]; exact List.mem_cons_self
  obtain ⟨q1, q2, q3, q4⟩ := of_odds h3 h6 ho
  have x1 : (bm n T o.1 o.2.1).isSome = true := by rw [bm_bt h3 h6, q3]; rfl
  have x2 : (bm n T o.2.1 o.1).isSome = true := by rw [bm_bt h3 h6, q4]; rfl
  obtain ⟨lo, hlo⟩ := Option.isSome_iff_exists.mp x1
  obtain ⟨hi, hhi⟩ := Option.isSome_iff_exists.mp x2
  have L : Lots n T o.1 o.2.1 lo hi := ⟨⟨by omega, q2⟩, bm_some hlo, bm_some hhi⟩
  have W := srt_trd h6 L
  have v1 := v_beaten_lot (T := T) B h6 L.ij.1 L.ij.2
  have v2 := v_beaten_lot (T := T) B h6 L.ij.2 L.ij.1
  rw [hlo] at v1
  rw [hhi] at v2
  have len : ∀ x y, (srtM x y).length = 2 := fun x y => (srtM_perm x y).length_eq
  have nt := v_newTrade false false (gs := (srtM (lo + 2 ^ o.2.1) (hi + 2 ^ o.1)).map fun m => (true, m)) (hs := (srtM (lo + 2 ^ o.1) (hi + 2 ^ o.2.1)).map fun m => (true, m)) (by rw [List.length_map, len]; decide) (by rw [List.length_map, len]; decide)
  rw [← encM_G, ← encM_G, List.map_map, List.map_map] at nt
  refine ⟨srtM (lo + 2 ^ o.2.1) (hi + 2 ^ o.1), srtM (lo + 2 ^ o.1) (hi + 2 ^ o.2.1), .trd (v_at_some B h3 h6 e) v1 v2 (v_sh h6 L.ij.1 L.ij.2 L.lo.1 L.hi.1 L.lo.2.2.1 L.hi.2.2.1) (v_lg h6 L.ij.1 L.ij.2 L.lo.1 L.hi.1 L.lo.2.1 L.hi.2.1) ?_, W, len _ _⟩
  have id1 : ∀ l : List Nat, l.map ((fun q : Bool × Nat => q.2) ∘ fun m => (true, m)) = l := fun l => List.map_id' l
  rw [id1, id1] at nt
  exact nt
end RB
set_option Elab.async false
set_option linter.all false
set_option maxRecDepth 100000
set_option maxHeartbeats 8000000
/-! The law. -/
namespace RB
open PySem PySem.Spec PyProof.Rows L2
section
variable {H H' : Hp} {a l : Addr} {n : Nat}
theorem hatO (h : HatAt H a l n) : Hat [a, l] a l n H := ⟨List.mem_cons_self, List.mem_cons_of_mem _ List.mem_cons_self, fun b hb => by
  obtain rfl | hb := List.mem_cons.mp hb
  · exact h.ne
  · rw [List.eq_of_mem_singleton hb]
    exact h.nel, h⟩
theorem hatN (h : HatAt H a l n) : OwnN [a, l] H := fun b hb => by
  obtain ⟨ns, at_, gr, v, _⟩ := h
  obtain rfl | hb := List.mem_cons.mp hb
  · exact ⟨_, v.hat, fun _ z => nomatch z⟩
  · rw [List.eq_of_mem_singleton hb]
    exact ⟨_, v.lst, fun _ z => nomatch z⟩
theorem tabs_step {T : List (Addr × Str)} (h : HatAt H a l n) (st : StepA a H H') (tb : LamX.Tabs T H) : LamX.Tabs T H' := fun p hp => by
  obtain ⟨ns, at_, gr, v, _⟩ := h
  obtain ⟨ps, h1, h2, h3⟩ := tb p hp
  refine ⟨ps, st _ _ (ne_of h1 v.hat fun z => nomatch z) h1, h2, fun pos cv hc => ?_⟩
  rcases h3 pos cv hc with ⟨c, e1, e2⟩
  refine ⟨c, e1, st _ _ (ne_of e2 v.hat fun z => ?_) e2⟩
  unfold LamX.CodeO at z
  cases z
theorem ObAt.extN {O : List Addr} {x C : Addr} {fs : List (Str × PyData)} (e : LamX.ExtN H H') (h : ObAt (cut O H) x C fs) : ObAt (cut O H') x C fs := by
  obtain ⟨dx, vs, h1, h2⟩ := h
  have hx : x ∉ O := fun z => by
    unfold cut at h1
    rw [if_pos z] at h1
    cases h1
  rw [cut_out hx] at h1
  refine ⟨dx, vs, by rw [cut_out hx]; exact e _ _ h1 (fun ps z => nomatch z), fun nm d hl => ?_⟩
  obtain ⟨v, h3, h4⟩ := h2 nm d hl
  exact ⟨v, h3, Tp.extN e h4⟩
theorem Hs.withOb {σ : L2.St} {sl : List (Option D)} {ob ob' : Ob} (h : Hs H σ ⟨sl, ob⟩) (o : ObOk H ob') : Hs H σ ⟨sl, ob'⟩ := ⟨h.len, h.sl, o⟩
theorem Hs.less {σ : L2.St} {sl sl' : List (Option D)} {ob : Ob} (h : Hs H σ ⟨sl, ob⟩) (hl : sl'.length = sl.length) (hs : ∀ (i : Nat) (d : D), sl'[i]? = some (some d) → sl[i]? = some (some d)) : Hs H σ ⟨sl', ob0⟩ := ⟨hl.trans h.len, fun i d z => h.sl i d (hs i d z), ob0_ok⟩
end
/-- what is known of what is told -/
structure Told (cs : Cs) (ob0' : Ob) (b0 : Nat) (n : Nat) (T : Nat → Bool) (gr : PyData) (C : Addr) (as : List (Str × PyData)) : Prop where
  out : Outc cs ob0' b0 C as
  eq : ∀ ob x y, ob x = some (C, as) → ob y = some (C, as) → g_Paper_eq cs ob [.o x, .o y] = some (.p (.bool true))
  sh : ∀ ob b t, BookAt cs ob b n T gr → ob t = some (C, as) → g_shows_lengths cs ob [.o b, .o t] = some (.p (.bool true))
  one : C = cs.L ∨ C = cs.T
  len : oddsL n T = [] → C = cs.L ∧ ∃ ls, as = lenFs ls ∧ LenOk n T ls
  trd : oddsL n T ≠ [] → C = cs.T ∧ ∃ ms ls, as = trdFs ms ls ∧ Trd n T ms ls ∧ ms.length = 2
theorem told_of {n : Nat} {T : Nat → Bool} (G : Good n T) (h3 : 3 ≤ n) (h6 : n ≤ 6) {cs : Cs} (hLT : cs.L ≠ cs.T) {gr : PyData} {ob1 : Ob} {b1 : Nat} (B0 : BookAt cs ob1 b1 n T gr) : ∃ C as, Told cs ob1 b1 n T gr C as := by
  cases e : oddsL n T with
  | nil =>
    obtain ⟨ls, h1, h2⟩ := outc_len G h3 h6 B0 e
    have hl := h2.len
    refine ⟨cs.L, lenFs ls, h1, fun ob x y hx hy => ?_, fun ob b t B ht => ?_, .inl rfl, fun _ => ⟨rfl, _, rfl, h2⟩, fun z => absurd e z⟩
    · exact v_eq_core (wd := "lengths") (pt := .tuple [encL ls]) List.mem_cons_self (by unfold Cs.isPaper; rw [if_neg hLT, if_pos rfl]) ⟨"Lengths", by unfold Cs.nm; rw [if_neg hLT, if_pos rfl], by simp only [PyData.canLay0]; decide +kernel⟩ hx hy rfl rfl (by simp only [PyData.canLay0]; decide +kernel) (Shp.up (k := 2) (.tup fun x hx => by rw [List.mem_singleton.mp hx]; exact Shp.encL _) (by decide)) (eqv_1 _)
    · rw [v_shows_L B hLT h6 hl h2.pos ht rfl, h2.had]
  | cons o r =>
    obtain ⟨ms, ls, h1, h2, h4⟩ := outc_trd h3 h6 B0 e
    refine ⟨cs.T, trdFs ms ls, h1, fun ob x y hx hy => ?_, fun ob b t B ht => ?_, .inr rfl, fun z => (by rw [z] at e; cases e), fun _ => ⟨rfl, _, _, rfl, h2, h4⟩⟩
    · exact v_eq_core (wd := "trade") (pt := .tuple [encR ms, encR ls]) (List.mem_cons_of_mem _ (List.mem_singleton.mpr rfl)) (by unfold Cs.isPaper; rw [if_pos rfl]) ⟨"Trade", by unfold Cs.nm; rw [if_pos rfl], by simp only [PyData.canLay0]; decide +kernel⟩ hx hy rfl rfl (by simp only [PyData.canLay0]; decide +kernel) (Shp.up (k := 3) (.tup fun x hx => by
        obtain rfl | hx := List.mem_cons.mp hx
        · exact shp_R ms
        · rw [List.mem_singleton.mp hx]; exact shp_R ls) (by decide)) (eqv_2 _ _)
    · exact v_shows_T B h6 h2 ht rfl rfl
end RB
set_option Elab.async false
set_option linter.all false
set_option maxRecDepth 100000
set_option maxHeartbeats 8000000
/-! The law's own def. -/
namespace RB
open PySem PySem.Spec PyProof.Rows L2
def encOs (os : List Od) : PyData := .list (os.map encOd)
theorem nil_of {os : List Od} : gNe (encOs os) (.list []) = some (.bool (!os.isEmpty)) ∧ gEq (encOs os) (.list []) = some (.bool os.isEmpty) := by
  have shp : Shp 3 (encOs os) := .list fun x hx => by
    obtain ⟨o, _, rfl⟩ := List.mem_map.mp hx
    refine .tup (k := 1) fun y hy => ?_
    obtain rfl | hy := List.mem_cons.mp hy
    · exact Shp.int _
    · obtain rfl | hy := List.mem_cons.mp hy
      · exact Shp.int _
      · obtain rfl | hy := List.mem_cons.mp hy
        · exact Shp.encL _
        · rw [List.mem_singleton.mp hy]
          exact Shp.encL _
  have e : PyData.eqv (encOs os) (.list []) = os.isEmpty := by
    unfold encOs
    rw [eqv_nil]
    cases os <;> rfl
  exact ⟨gNe_of shp (.list fun x hx => (by cases hx)) e, gEq_of shp (.list fun x hx => (by cases hx)) e⟩
/-- the first two bars at odds, looked at twice -/
theorem v_firsts {cs : Cs} {ob : Ob} {b n : Nat} {T : Nat → Bool} {gr : PyData} (B : BookAt cs ob b n T gr) (h3 : 3 ≤ n) (h6 : n ≤ 6) {sl : List (Option D)} (s5 : sl[5]? = some (some (.o b))) (s6 : sl[6]? = some (some (.p (encOs (oddsL n T))))) :
    eB gNe (eCall (g_at_odds cs) (eCons (eVar 5) eNil)) (eIf (eB gNe (eVar 6) (eData eNil kLst)) (eSl (eB gIx (eVar 6) (eC (.int 0))) eP0 (eP (eC (.int 2)))) (eC .none)) ⟨sl, ob⟩ = some (.p (.bool false)) := by
  have c := nil_of (os := oddsL n T)
  cases e : oddsL n T with
  | nil =>
    rw [e] at c s6
    refine eB_of (eCall_of (eCons_of (eVar_of s5) rfl) (v_at_none B h3 h6 e)) (b := .none) (eIf_f (eB_of (eVar_of s6) (by rw [kLst_nil]) c.1) rfl) ?_
    exact gNe_of (k := 0) (r := true) Shp.none Shp.none (by simp only [PyData.eqv])
  | cons o r =>
    rw [e] at c s6
    refine eB_of (eCall_of (eCons_of (eVar_of s5) rfl) (v_at_some B h3 h6 e)) (b := .tuple [.int (o.1 : Nat), .int (o.2.1 : Nat)]) (eIf_t (eB_of (eVar_of s6) (by rw [kLst_nil]) c.1) ?_) ?_
    · have e1 : eB gIx (eVar 6) (eC (.int 0)) ⟨sl, ob⟩ = some (.p (encOd o)) := eB_of (eVar_of s6) rfl (gIx_l0 _ _)
      unfold eSl
      rw [e1]
      rfl
    · have shp : Shp 1 (.tuple [.int (o.1 : Nat), .int (o.2.1 : Nat)]) := .tup (k := 0) fun y hy => by
        obtain rfl | hy := List.mem_cons.mp hy
        · exact Shp.int _
        · rw [List.mem_singleton.mp hy]
          exact Shp.int _
      refine gNe_of (r := true) shp shp ?_
      show PyData.eqvAll _ _ = true
      simp only [PyData.eqvAll, eqv_int, Bool.and_self, decide_true]
/-- two papers of one class told apart -/
def rPap (cs : Cs) : R2 := fun x y H Q =>
    (∃ a b dx dy fs gs, x = .ref a ∧ y = .ref b ∧ H a = some (.ins cs.L dx fs) ∧ H b = some (.ins cs.L dy gs) ∧ spE (g_Paper_eq cs) [.ref a, .ref b] H (fun v H' => ∃ r, v = .bl r ∧ Q (.bl (!r)) H') E0) ∨
    (∃ a b dx dy fs gs, x = .ref a ∧ y = .ref b ∧ H a = some (.ins cs.T dx fs) ∧ H b = some (.ins cs.T dy gs) ∧ spE (g_Paper_eq cs) [.ref a, .ref b] H (fun v H' => ∃ r, v = .bl r ∧ Q (.bl (!r)) H') E0)
theorem op_papers {X : Cx} {cs : Cs} {f : Addr} {fd : FuncData} (neL : OwnNe X.K cs.L f) (neT : OwnNe X.K cs.T f) (G : FnOk X.prog X.w X.K X.mg X.base CX0 1 f fd ["self", "other"] (spE (g_Paper_eq cs))) (hb : L2.Binds X.K fd ["self", "other"] []) (hr : Room 3 X.A) : OpR X (compareOp .NotEq) (rPap cs) :=
  opR_or (op_neOwn neL G hb pass0 hr) (op_neOwn neT G hb pass0 hr)
theorem ne_papers {cs : Cs} {O : List Addr} {H : Hp} {C t2 t : Addr} {as : List (Str × PyData)} (h : C = cs.L ∨ C = cs.T) (o2 : ObAt (cut O H) t2 C as) (o1 : ObAt (cut O H) t C as) (hne : t2 ≠ t) (eq : ∀ ob x y, ob x = some (C, as) → ob y = some (C, as) → g_Paper_eq cs ob [.o x, .o y] = some (.p (.bool true))) (w : Own O H) {Q : VK} (q : ∀ H', Same H H' → Q (.bl false) H') : rPap cs (.ref t2) (.ref t) H Q := by
  obtain ⟨dxa, usa, xa, _⟩ := id o2
  obtain ⟨dxb, usb, xb, _⟩ := id o1
  have core : spE (g_Paper_eq cs) [.ref t2, .ref t] H (fun v H' => ∃ r, v = .bl r ∧ Q (.bl (!r)) H') E0 := ⟨O, ob2 t2 (C, as) t (C, as), [.o t2, .o t], _, w, ob2_ok o2 o1, .cons rfl (.cons rfl .nil), eq _ _ _ ob2_1 (ob2_2 hne), fun v H' s r => by
    cases r
    exact ⟨true, rfl, q H' s⟩⟩
  rcases h with rfl | rfl
  · exact .inl ⟨t2, t, dxa, dxb, usa, usb, rfl, rfl, cut_sub _ _ xa, cut_sub _ _ xb, core⟩
  · exact .inr ⟨t2, t, dxa, dxb, usa, usb, rfl, rfl, cut_sub _ _ xa, cut_sub _ _ xb, core⟩
theorem v_six {ob : Ob} {n : Nat} {T : Nat → Bool} (G : Good n T) (h3 : 3 ≤ n) (h6 : n ≤ 6) {sl : List (Option D)} (s3 : sl[3]? = some (some (.p (.int (n : Nat))))) (s6 : sl[6]? = some (some (.p (encOs (oddsL n T))))) :
    eAnd (eB gNe (eVar 6) (eData eNil kLst)) (eB gLt (eVar 3) (eC (.int 6))) ⟨sl, ob⟩ = some (.p (.bool false)) := by
  have c := nil_of (os := oddsL n T)
  cases e : oddsL n T with
  | nil =>
    rw [e] at c s6
    exact eAnd_f (eB_of (eVar_of s6) (by rw [kLst_nil]) c.1)
  | cons o r =>
    have n6 := six_odds h3 h6 G (by rw [e]; exact fun z => nomatch z)
    rw [e] at c s6
    refine eAnd_t (eB_of (eVar_of s6) (by rw [kLst_nil]) c.1) (eB_of (eVar_of s3) rfl ?_)
    show some (PyData.bool (decide ((n : Int) < 6))) = _
    rw [decide_eq_false <| by omega]
def spLaw (K : PySem.W.Frag) (cs : Cs) : Sp := fun vs H Q _ => ∃ (s : Addr) (ns : List Int), vs = [V.ref s] ∧ SqL K H s (ns.map V.int) ∧ LamX.Tabs (tabT cs) H ∧ ∀ H', Q (.bl true) H'
section
variable {P : Program} {w : World} {K : PySem.W.Frag} {mg : Str → Option Value} {base : Heap} {cs : Cs}
theorem c_law (E : En P w K mg base cs) : CalE P w K mg base 11 "law" (spLaw K cs) := by
  obtain ⟨f, fd, F, m⟩ := E.df ("law", s_law) (List.mem_of_getElem? (i := 49) rfl)
  have nd := sc_law.nd
  obtain ⟨fe, fde, FE, neL, neT⟩ := E.eP
  have GE := c_Paper_eq E FE
  have BE : L2.Binds K fde ["self", "other"] [] := FE.bindsN (ps := ["self", "other"]) (fun _ _ _ _ _ _ us hl => match us, hl with | [_, _], _ => rfl)
  refine calR (k := 10) F m sc_law (fun _ _ _ _ _ _ us hl => match us, hl with | [_], _ => rfl) (fun vs H Q E h => ?_) fun cdv A outer s H vs Q E0' hr h => ⟨_,
    pss_cons (ps_set (i := 1) nd rfl (by first | exact .inl rfl | exact .inr rfl) (pe_cal (c_L_hat E) hr (by decide) rfl (pa_cons (pv 0) pa_nil)))
    (pss_cons (ps_for PassesOwn.never rfl (pi_range1 rfl (E.fr "range" (by decide)) (pa_cons pe_int pa_nil)) (pg_name (i := 2) nd rfl (by first | exact .inl rfl | exact .inr rfl))
      (pss_cons (ps_set (i := 3) nd rfl (by first | exact .inl rfl | exact .inr rfl) (pe_cal (c_L_one E) hr (by decide) rfl (pa_cons (pv 1) (pa_cons (ev_lst (ea_cons (ev_c pe_int (fun _ => .int _)) (ea_cons (ev_c pe_int (fun _ => .int _)) (ea_cons (ev_c pe_int (fun _ => .int _)) (ea_cons (ev_c pe_int (fun _ => .int _)) (ea_cons (ev_c pe_int (fun _ => .int _)) (ea_cons (ev_c pe_int (fun _ => .int _)) ea_nil))))))) pa_nil))))
      (pss_cons (ps_set (i := 4) nd rfl (by first | exact .inl rfl | exact .inr rfl) (pe_cal (c_L_shorts E) hr (by decide) rfl (pa_cons (pv 1) (pa_cons (pv 3) pa_nil))))
      (pss_cons (ps_par (i := 5) (j := 6) rfl nd rfl rfl (by decide) rfl rfl (pa_cons (pe_cal (c_L_book E) hr (by decide) rfl (pa_cons (pv 1) (pa_cons (pv 3) (pa_cons (pv 4) pa_nil)))) (pa_cons (pe_cal (c_L_odds E) hr (by decide) rfl (pa_cons (pv 4) (pa_cons (pv 3) pa_nil))) pa_nil)) (by rfl))
      (pss_cons (ps_set (i := 7) nd rfl (by first | exact .inl rfl | exact .inr rfl) (pe_calK (ks := ["book"]) (c_lengths_for E) (E.df ("lengths_for", s_lengths_for) (List.mem_of_getElem? (i := 27) rfl)) hr (by decide) rfl (pk_cons (pv 5) pk_nil) rfl (fun _ _ _ _ _ _ ws hl => match ws, hl with | [_], _ => rfl) (by decide)))
      (pss_cons (ps_if (PW.pt (pw_or (et_ne hr (ev_callK (ks := ["book"]) (c_at_odds E) (E.df ("at_odds", s_at_odds) (List.mem_of_getElem? (i := 17) rfl)) hr (by decide) rfl (ek_cons (ev_var 5) ek_nil) rfl (fun _ _ _ _ _ _ ws hl => match ws, hl with | [_], _ => rfl) (by decide)) (ev_ifExp (et_ne hr (ev_var 6) (ev_lst ea_nil)) (ev_slice (ev_at (ev_var 6) (ev_c pe_int (fun _ => .int _))) ep_none (ep_some (ev_c pe_int (fun _ => .int _)))) (ev_c pe_non (fun _ => .non))))
          (pw_or1 (pt_cmpR (op_papers neL neT GE BE (hr.mono (by decide))) (pe_cal (c_lengths_for E) hr (by decide) rfl (pa_cons (pv 5) pa_nil)) (pv 7) (nomark _))))) (pss_one (ps_ret pe_bl)) pss_nil)
      (pss_cons (es_if (ew_pt (ew_or (et_isNot (ev_callK (ks := ["book", "value"]) (c_shows_lengths E) (E.df ("shows_lengths", s_shows_lengths) (List.mem_of_getElem? (i := 30) rfl)) hr (by decide) rfl (ek_cons (ev_var 5) (ek_cons (ev_var 7) ek_nil)) rfl (fun _ _ _ _ _ _ ws hl => match ws, hl with | [_, _], _ => rfl) (by decide)) (ev_c pe_bl (fun _ => .bl _))) (ew_or1 (ew_pt (ew_and (et_ne hr (ev_var 6) (ev_lst ea_nil)) (ew_and1 (et_lt (ev_var 3) (ev_c pe_int (fun _ => .int _))))))))) (ess_cons (es_ret (ev_c pe_bl (fun _ => .bl _))) ess_nil) ess_nil)
      (pss_cons (ps_if (PW.pt (pw_and (et_eq hr (ev_var 6) (ev_lst ea_nil)) (pw_and1 (pt_not (pt_val (pe_cal (c_L_lengths_right E) hr (by decide) rfl (pa_cons (pv 1) (pa_cons (pv 3) (pa_cons (pv 4) (pa_cons (pv 5) (pa_cons (pv 7) pa_nil)))))))))))  (pss_one (ps_ret pe_bl)) pss_nil)
      (pss_one (ps_if (PW.pt (pw_and (et_ne hr (ev_var 6) (ev_lst ea_nil)) (pw_and1 (pt_not (pt_val (pe_cal (c_L_trade_right E) hr (by decide) rfl (pa_cons (pv 1) (pa_cons (pv 3) (pa_cons (pv 4) (pa_cons (pv 5) (pa_cons (pv 7) (pa_cons (pv 6) pa_nil))))))))))))  (pss_one (ps_ret pe_bl)) pss_nil)))))))))) (pss_one (ps_ret pe_bl))), ?_⟩
  · obtain ⟨s, ns, rfl, _⟩ := h
    rfl
  obtain ⟨sa, ns, rfl, hsq, tb, q⟩ := h
  have line := thousand
  have hLT := E.LT
  refine ⟨_, rfl, sa, ns, rfl, hsq, fun a l H1 s1 ha hl at1 => ?_⟩
  have hs1 : Hs (cut [a, l] H1) [some (.ref sa), some (.ref a), none, none, none, none, none, none] ⟨[none, some (.o a), none, none, none, none, none, none], ob0⟩ := (HsL.n (.s (d := .o a) rfl (.n (.n (.n (.n (.n (.n .nil)))))))).hs ob0_ok
  refine ⟨3, rfl, by decide, by decide, for_range (lo := 0) (n := 3) (fun i σ H' => Hs (cut [a, l] H') σ ⟨[none, some (.o a), none, none, none, none, none, none], ob0⟩ ∧ HatAt H' a l (1000 * i) ∧ LamX.Tabs (tabT cs) H')
    ⟨hs1, at1, tb.ext s1⟩ (fun i σ H2 hi hP => ?_) (fun σ H2 hP => q H2)⟩
  obtain ⟨hs2, at2, tb2⟩ := hP
  have hat2 := hatO at2
  have hs2' := hs2.unset 2 (w := some (.int (0 + (i : Nat))))
  obtain ⟨v1, h1, r1⟩ := hs2'.sl 1 (.o a) rfl
  have r1 : v1 = .ref a := r1
  subst r1
  -- how many
  refine ⟨_, h1, [a, l], _, _, hat2.own, hs2', eData_of (xs := [.int 6, .int 6, .int 5, .int 4, .int 6, .int 3]) rfl (kLst_of (by show 6 ≤ 1000; decide)), fun vL H3 s3 r3 => ?_⟩
  have hat3 := hat2.up s3
  refine ⟨[a, l], a, l, 1000 * i, vL, [.int 6, .int 6, .int 5, .int 4, .int 6, .int 3], rfl, hat3, r3, by decide, by decide, by omega, fun j d v4 H4 hd st4 at4 t4 => ?_⟩
  obtain ⟨k, rfl, m3, m6⟩ : ∃ k : Nat, d = .int (k : Nat) ∧ 3 ≤ k ∧ k ≤ 6 := by
    match j, hd with
    | 0, hd => cases hd; exact ⟨6, rfl, by decide, by decide⟩
    | 1, hd => cases hd; exact ⟨6, rfl, by decide, by decide⟩
    | 2, hd => cases hd; exact ⟨5, rfl, by decide, by decide⟩
    | 3, hd => cases hd; exact ⟨4, rfl, by decide, by decide⟩
    | 4, hd => cases hd; exact ⟨6, rfl, by decide, by decide⟩
    | 5, hd => cases hd; exact ⟨3, rfl, by decide, by decide⟩
    | j + 6, hd => cases hd
  have hat4 := hat3.to st4 at4
  have hs4 := ((hs2'.up (cutS s3)).up (hat3.cut st4)).set 3 (d := .p (.int (k : Nat))) t4
  have tb4 := tabs_step hat3.hat st4 (tb2.ext s3)
  -- the short lots
  obtain ⟨v1, h1, r1⟩ := hs4.sl 1 (.o a) rfl
  have r1 : v1 = .ref a := r1
  subst r1
  obtain ⟨v3, h3, r3'⟩ := hs4.sl 3 (.p (.int (k : Nat))) rfl
  cases r3'
  refine ⟨_, h1, _, h3, [a, l], a, l, 1000 * i + 1, k, rfl, hat4, m3, m6, by omega, fun T v5 H5 st5 at5 G t5 => ?_⟩
  have hat5 := hat4.to st5 at5
  have hs5 := (hs4.up (hat4.cut st5)).set 4 (d := .p (encM ((ordM k).filter T))) t5
  have tb5 := tabs_step hat4.hat st5 tb4
  -- the book, the odds
  obtain ⟨v1, h1, r1⟩ := hs5.sl 1 (.o a) rfl
  have r1 : v1 = .ref a := r1
  subst r1
  obtain ⟨v3, h3, r3'⟩ := hs5.sl 3 (.p (.int (k : Nat))) rfl
  cases r3'
  obtain ⟨v4, h4, r4⟩ := hs5.sl 4 (.p (encM ((ordM k).filter T))) rfl
  refine ⟨_, h1, _, h3, _, h4, [a, l], a, l, 1000 * i + 1 + 20, k, T, v4, rfl, hat5, m3, m6, G, r4, by omega, fun b H6 st6 at6 hb6 hob6 => ?_⟩
  have hat6 := hat5.to st6 at6
  have hs6 := hs5.up (hat5.cut st6)
  have tb6 := tabs_step hat5.hat st6 tb5
  refine ⟨_, h4, _, h3, [a, l], ob0, [.p (encM ((ordM k).filter T)), .p (.int (k : Nat))], .p (encOs (oddsL k T)), hat6.own, ob0_ok, .cons (Tp.up (hat5.cut st6) _ _ r4) (.cons (.int _) .nil), v_L_odds ob0 m3 m6 T, fun v7 H7 s7 r7 => ⟨_, _, rfl, ?_⟩⟩
  have hat7 := hat6.up s7
  have tb7 := tb6.ext s7
  have obB7 : ObAt (cut [a, l] H7) b cs.B (bookFs k T (grD k T)) := hob6.up (cutS s7)
  have hs7 := ((hs6.up (cutS s7)).set 5 (d := .o b) rfl).set 6 (d := .p (encOs (oddsL k T))) r7
  -- what is told
  have B1 : BookAt cs (obB cs b (bookFs k T (grD k T))) b k T (grD k T) := if_pos rfl
  have o7 : ObOk (cut [a, l] H7) (obB cs b (bookFs k T (grD k T))) := by
    obtain ⟨dx, us, x1, x2⟩ := obB7
    exact obB_ok x1 x2
  obtain ⟨C, as, W⟩ := told_of G m3 m6 hLT B1
  obtain ⟨w5, h5, r5⟩ := hs7.sl 5 (.o b) rfl
  have r5 : w5 = .ref b := r5
  subst r5
  refine ⟨_, h5, [a, l], obB cs b (bookFs k T (grD k T)), b, C, as, rfl, hatN hat7.hat, tb7, o7, W.out, fun t H8 ex8 tb8 fr8 hot8 => ?_⟩
  have at8 := hat7.hat.ext ex8
  have hat8 := hatO at8
  have hbt : b ≠ t := fun z => by
    obtain ⟨dx, us, x1, _⟩ := obB7
    obtain ⟨ps, x2⟩ := fr8 _ (z ▸ cut_sub _ _ x1)
    cases x2
  have obB8 := obB7.extN ex8
  have hs8 : Hs (cut [a, l] H8) _ _ := (hs7.extN ex8).set 7 (d := .o t) rfl
  have o8 := ob2_ok obB8 hot8
  have hs8' := hs8.withOb o8
  have B2 : ∀ y, BookAt cs (ob2 b (cs.B, bookFs k T (grD k T)) t y) b k T (grD k T) := fun y => ob2_1
  have T2 : ∀ x, ob2 b x t (C, as) t = some (C, as) := fun x => ob2_2 hbt
  -- the first look
  refine ⟨[a, l], _, false, hat8.own, hs8', v_firsts (B2 _) m3 m6 rfl rfl, fun H9 s9 => iteF ?_⟩
  have hat9 := hat8.up s9
  have hs9 := hs8.up (cutS s9)
  have obB9 : ObAt (cut [a, l] H9) b cs.B (bookFs k T (grD k T)) := obB8.up (cutS s9)
  have hot9 := hot8.up (cutS s9)
  have o9 : ObOk (cut [a, l] H9) (obB cs b (bookFs k T (grD k T))) := by
    obtain ⟨dx, us, x1, x2⟩ := obB9
    exact obB_ok x1 x2
  obtain ⟨w5, h5, r5⟩ := hs9.sl 5 (.o b) rfl
  have r5 : w5 = .ref b := r5
  subst r5
  refine ⟨_, h5, [a, l], obB cs b (bookFs k T (grD k T)), b, C, as, rfl, hatN hat9.hat, tb8.ext s9, o9, W.out, fun t2 H10 ex10 tb10 fr10 hot10 => ?_⟩
  have at10 := hat9.hat.ext ex10
  have hat10 := hatO at10
  have hot10' := hot9.extN ex10
  have hs10 := hs9.extN ex10
  have obB10 := obB9.extN ex10
  obtain ⟨w7, h7, r7'⟩ := hs10.sl 7 (.o t) rfl
  have r7' : w7 = .ref t := r7'
  subst r7'
  have htt : t2 ≠ t := fun z => by
    obtain ⟨dx, us, x1, _⟩ := hot9
    obtain ⟨ps, x2⟩ := fr10 _ (z ▸ cut_sub _ _ x1)
    cases x2
  refine ⟨_, h7, ne_papers W.one hot10 hot10' htt W.eq hat10.own fun H11 s11 => ⟨false, rfl, iteF ?_⟩⟩
  have hat11 := hat10.up s11
  have hs11 := hs10.up (cutS s11)
  have tb11 := tb10.ext s11
  have obB11 := obB10.up (cutS s11)
  have hot11 := hot10'.up (cutS s11)
  -- the second look
  refine ⟨[a, l], _, _, hat11.own, hs11.withOb (ob2_ok obB11 hot11), sIf_f (eOr_f (eB_of (eCall_of (eCons_of rfl (eCons_of rfl rfl)) (W.sh _ b t (B2 _) (T2 _))) (b := .bool true) rfl rfl) (v_six G m3 m6 rfl rfl)) rfl, fun H12 s12 σ12 hs12 => ?_⟩
  have hat12 := hat11.up s12
  have tb12 := tb11.ext s12
  have obB12 := obB11.up (cutS s12)
  have hot12 := hot11.up (cutS s12)
  -- what is right
  have fin : ∀ {H' : Hp} {σ' : L2.St} {d3 d4 d5 d6 d7 : Option D} {ob : Ob}, Hs (cut [a, l] H') σ' ⟨[none, some (.o a), none, d3, d4, d5, d6, d7], ob⟩ → Hs (cut [a, l] H') σ' ⟨[none, some (.o a), none, none, none, none, none, none], ob0⟩ := fun {H' σ' d3 d4 d5 d6 d7 ob} h => h.less rfl fun i d z => by
    match i, z with
    | 0, z => cases z
    | 1, z => exact z
    | 2, z => cases z
    | 3, z => cases z
    | 4, z => cases z
    | 5, z => cases z
    | 6, z => cases z
    | 7, z => cases z
    | i + 8, z => cases z
  have nl := nil_of (os := oddsL k T)
  refine ⟨[a, l], _, (oddsL k T).isEmpty, hat12.own, hs12, eB_of rfl (by rw [kLst_nil]) nl.2, fun H13 s13 => ?_⟩
  have hat13 := hat12.up s13
  have hs13 := hs12.up (cutS s13)
  have tb13 := tb12.ext s13
  have obB13 := obB12.up (cutS s13)
  have hot13 := hot12.up (cutS s13)
  obtain ⟨v1, h1, r1⟩ := hs13.sl 1 (.o a) rfl
  have r1 : v1 = .ref a := r1
  subst r1
  obtain ⟨v3, h3, r3'⟩ := hs13.sl 3 (.p (.int (k : Nat))) rfl
  cases r3'
  obtain ⟨v4', h4, r4'⟩ := hs13.sl 4 (.p (encM ((ordM k).filter T))) rfl
  obtain ⟨w5, h5, r5⟩ := hs13.sl 5 (.o b) rfl
  have r5 : w5 = .ref b := r5
  subst r5
  obtain ⟨w7, h7, r7'⟩ := hs13.sl 7 (.o t) rfl
  have r7' : w7 = .ref t := r7'
  subst r7'
  cases hE : (oddsL k T).isEmpty with
  | true =>
    have hno : oddsL k T = [] := List.isEmpty_iff.mp hE
    obtain ⟨rfl, ls, rfl, LOk⟩ := W.len hno
    refine iteT ?_
    refine ⟨_, h1, _, h3, _, h4, _, h5, _, h7, [a, l], a, l, _, k, T, v4', b, t, grD k T, ls, rfl, hat13, m3, m6, r4', obB13, hot13, hbt, LOk, by omega, fun H14 st14 at14 => ⟨true, rfl, iteF ?_⟩⟩
    have hat14 := hat13.to st14 at14
    have hs14 := hs13.up (hat13.cut st14)
    have tb14 := tabs_step hat13.hat st14 tb13
    rw [hno] at hs14
    have nl2 := nil_of (os := ([] : List Od))
    refine ⟨[a, l], _, false, hat14.own, hs14, eB_of rfl (by rw [kLst_nil]) nl2.1, fun H15 s15 => iteF (iteF ?_)⟩
    exact ⟨fin (hs14.up (cutS s15)), (hat14.hat.up s15).mono (by omega), tb14.ext s15⟩
  | false =>
    have hso : oddsL k T ≠ [] := fun z => by rw [z] at hE; cases hE
    obtain ⟨rfl, ms, ls, rfl, Tr, len2⟩ := W.trd hso
    refine iteF (iteF ?_)
    rw [hE] at nl
    refine ⟨[a, l], _, true, hat13.own, hs13, eB_of rfl (by rw [kLst_nil]) nl.1, fun H14 s14 => iteT ?_⟩
    have hat14 := hat13.up s14
    have hs14 := hs13.up (cutS s14)
    have tb14 := tb13.ext s14
    obtain ⟨w6, h6, r6'⟩ := hs14.sl 6 (.p (encOs (oddsL k T))) rfl
    refine ⟨_, h1, _, h3, _, h4, _, h5, _, h7, _, h6, [a, l], a, l, _, k, T, v4', b, t, grD k T, ms, ls, w6, rfl, hat14, m3, m6, Tp.up (cutS s14) _ _ r4', obB13.up (cutS s14), hot13.up (cutS s14), hbt, Tr, len2, r6', hso, by omega, fun H15 st15 at15 => ⟨true, rfl, iteF ?_⟩⟩
    have hat15 := hat14.to st15 at15
    exact ⟨fin (hs14.up (hat14.cut st15)), hat15.hat.mono (by omega), tabs_step hat14.hat st15 tb14⟩
end
end RB
set_option Elab.async false
set_option linter.all false
set_option maxRecDepth 100000
set_option maxHeartbeats 4000000
/-! From what the head tells to what the walk asks. -/
namespace RB
open PySem PySem.Spec PyProof.Rows L2
def dOf (p : Str × Stmt) : He.DefD := ⟨(p.1, none), p.1, p.1, defArgs p.2, defBody p.2, defScope p.2, [], []⟩
theorem fn_eq : fn = defsL.map dOf ++ fnM := rfl
theorem fa_eq : fa = ((defsL.map fun p => He.Fa.glo p.1) ++ frees.map He.Fa.free) ++ fm := rfl
def csOf (K : PySem.W.Frag) : Cs := ⟨aB K, aL K, aT K, aP K, aD K, (He.cT K tl).2⟩
section
variable {K : PySem.W.Frag}
variable {h : Heap} {mg : Str → Option Value}
theorem ex_get (e : exB K = true) (i : Nat) {b : Bool} (hb : (exL K)[i]? = some b) : b = true := List.all_eq_true.mp e b (List.mem_of_getElem? hb)
theorem ins_of {C : Addr} (k : Cls K C) (h1 : insB K C = true) (h2 : clsG K = true) : InsK K C := by
  obtain ⟨a1, a2⟩ := He.ba h1
  obtain ⟨b1, b2⟩ := He.ba h2
  exact ⟨k, He.eqO_ok a1, He.eqO_ok b1, of_decide_eq_true b2, of_decide_eq_true a2⟩
theorem kit_of {C D : Addr} {b : Bool} (h : kitB' K C D b = true) : PySem.W.kitOne K (.ref C) (.ref D) = some b := of_decide_eq_true h
theorem mth_of {C D : Addr} {x : Str} (h : mthB K C D x = true) : PySem.W.findIn K (.ref C) x = some (some (.ref (He.ma K D x))) ∧ PySem.W.isFn K (.ref (He.ma K D x)) = true := by
  obtain ⟨a1, a2⟩ := He.ba h
  exact ⟨He.eqO_ok a1, a2⟩
theorem fc_of {C : Addr} (h : fcB K C = true) : PySem.W.findCls K (.ref C) (.type "type") "__name__" = some (.get (.builtin "getset_descriptor.__get__") (.builtin "type.__name__") (.ref C) (.type "type")) := by
  unfold fcB at h
  split at h
  · rename_i g n D t e
    obtain ⟨h1, h⟩ := He.ba h
    obtain ⟨h2, h⟩ := He.ba h
    obtain ⟨h3, h4⟩ := He.ba h
    rw [e, of_decide_eq_true h1, of_decide_eq_true h2, of_decide_eq_true h3, of_decide_eq_true h4]
  · cases h
theorem sl_of {C : Addr} {nm : Str} (h : slB K C nm = true) : ∃ (oc : Value) (od : Option Addr) (cd : ClassData) (sl : Array (Option Value)) (t : Tok), K.lookup C = some ⟨oc, od, .cls cd, sl⟩ ∧ sl[2]? = some (some (.str nm t)) := by
  unfold slB at h
  split at h
  · rename_i oc od cd sl e
    split at h
    · rename_i x t e2
      exact ⟨oc, od, cd, sl, t, e, by rw [e2, of_decide_eq_true h]⟩
    · cases h
  · cases h
theorem name_of {C : Addr} {nm : Str} (h : nameB K C nm = true) (i : InsK K C) : ClsName K C nm := by
  obtain ⟨h1, h⟩ := He.ba h
  obtain ⟨h2, h⟩ := He.ba h
  obtain ⟨h3, h⟩ := He.ba h
  obtain ⟨h4, h⟩ := He.ba h
  obtain ⟨h5, h6⟩ := He.ba h
  exact ⟨h1, h2, i.ca, i.cg, i.ct, i.ob, h3, of_decide_eq_true h4, fc_of h5, sl_of h6⟩
theorem cel_of {cc C : Addr} (h : celB K cc C = true) : ∃ (c : Value) (d : Option Addr) (sl : Array (Option Value)), K.lookup cc = some ⟨c, d, .cell (some (.ref C)), sl⟩ := by
  unfold celB at h
  split at h
  · rename_i oc od D sl e
    have e2 := of_decide_eq_true h
    subst e2
    exact ⟨oc, od, sl, e⟩
  · cases h
theorem fil_of {cd : Addr} (h : filB K cd = true) : ∃ (c : Value) (d : Option Addr) (vs : Array Value) (sl : Array (Option Value)) (fl : Str) (t : Tok), K.lookup cd = some ⟨c, d, .fields vs, sl⟩ ∧ vs[2]? = some (.str fl t) ∧ ((Pg.main.file : Str) == fl) = true := by
  unfold filB at h
  split at h
  · rename_i oc od vs sl e
    split at h
    · rename_i fl t e2
      exact ⟨oc, od, vs, sl, fl, t, e, e2, h⟩
    · cases h
  · cases h
theorem sup_of {C f2 : Addr} {q : Str} {st : Stmt} (h1 : fnC K C = valC q st) (h2 : supB K C f2 q = true) : ∃ cc cd, SupK Pg K C (He.ma K C "__init__") f2 cc cd q (defArgs st) (defBody st) (defScope st) := by
  obtain ⟨a1, h2⟩ := He.ba h2
  obtain ⟨a2, h2⟩ := He.ba h2
  obtain ⟨a3, h2⟩ := He.ba h2
  obtain ⟨a4, h2⟩ := He.ba h2
  obtain ⟨a5, a6⟩ := He.ba h2
  unfold fnC at h1
  unfold cloB at a1
  cases e : K.lookup (He.ma K C "__init__") with
  | none =>
    rw [e] at a1
    cases a1
  | some o =>
    obtain ⟨oc, od, dt, osl⟩ := o
    rw [e] at a1 h1
    cases dt with
    | func fd =>
      rcases fd with ⟨n1, n2, n3, n4, n5, n6, n7, n8, n9, n10, n11, n12, n13, n14, n15⟩
      have e2 : (some (n1, n2, n3, n4, n5, n6, n15) : FnC) = (some (("__init__" : Str), q, defArgs st, FuncBody.stmts (defBody st), defScope st, mainGlobals, builtinsNs) : FnC) := h1
      simp only [Prod.mk.injEq, Option.some.injEq] at e2
      obtain ⟨g1, g2, g3, g4, g5, g6, g7⟩ := e2
      subst g1 g2 g3 g4 g5 g6 g7
      dsimp only at a1
      split at a1
      · rename_i x cc cd
        obtain ⟨b1, b⟩ := He.ba a1
        obtain ⟨b2, b⟩ := He.ba b
        obtain ⟨b3, b4⟩ := He.ba b
        have b1 := of_decide_eq_true b1
        subst b1
        exact ⟨cc, cd, ⟨⟨oc, od, n10, n11, n14, n12, osl, e⟩, b3, fil_of b4, cel_of b2, of_decide_eq_true a2, He.eqO_ok a3, He.eqO_ok a4, of_decide_eq_true a5, a6⟩⟩
      · cases a1
    | _ => cases a1
theorem en_of {w : World} {base : Heap} (X : K.In h) (G : h.Ns mainGlobals mg) (c : SaysY h K) (tb : LamX.TabB base mg (He.cT K tl).1 (He.cT K tl).2) : En Pg w K mg base (csOf K) := by
  have e := c.more
  have cB := He.cls_ok (c.d.fact 72 (f := .cls "Book") rfl)
  have cL := He.cls_ok (c.d.fact 73 (f := .cls "Lengths") rfl)
  have cT := He.cls_ok (c.d.fact 74 (f := .cls "Trade") rfl)
  have iB : InsK K (aB K) := ins_of cB (ex_get e 0 rfl) (ex_get e 3 rfl)
  have iL : InsK K (aL K) := ins_of cL (ex_get e 1 rfl) (ex_get e 3 rfl)
  have iT : InsK K (aT K) := ins_of cT (ex_get e 2 rfl) (ex_get e 3 rfl)
  have mB := He.mkr_ok (c.d.fact 75 (f := .mkr "Book") rfl)
  have mL := He.mkr_ok (c.d.fact 76 (f := .mkr "Lengths") rfl)
  have mT := He.mkr_ok (c.d.fact 77 (f := .mkr "Trade") rfl)
  have glo : ∀ p ∈ defsL, mg p.1 = some (.ref (He.ga K p.1)) := fun p hp => He.glo_ok X G (c.d.facts (f := .glo p.1) (by
    rw [fa_eq]
    exact List.mem_append_left _ (List.mem_append_left _ (List.mem_map.mpr ⟨p, hp, rfl⟩))))
  have fund : ∀ p ∈ defsL, ∃ fd, FunD K p.1 p.1 (defArgs p.2) (defBody p.2) (defScope p.2) [] [] (He.ga K p.1) fd := fun p hp => c.d.defs (d := dOf p) (by
    rw [fn_eq]
    exact List.mem_append_left _ (List.mem_map.mpr ⟨p, hp, rfl⟩))
  obtain ⟨fdPi, FPi⟩ := c.d.def_ 50 (d := d_Paper_init) rfl
  obtain ⟨fdPb, FPb⟩ := c.d.def_ 51 (d := d_Paper_bool) rfl
  obtain ⟨fdPe, FPe⟩ := c.d.def_ 52 (d := d_Paper_eq) rfl
  obtain ⟨fdDb, FDb⟩ := c.d.def_ 53 (d := d_Denial_bool) rfl
  obtain ⟨fdBi, FBi⟩ := c.d.def_ 54 (d := d_Book_init) rfl
  obtain ⟨b1, b2⟩ := mth_of (ex_get e 12 (b := mthB K (aL K) (aP K) "__bool__") rfl)
  obtain ⟨b3, b4⟩ := mth_of (ex_get e 13 (b := mthB K (aT K) (aD K) "__bool__") rfl)
  obtain ⟨q1, q2⟩ := mth_of (ex_get e 14 (b := mthB K (aL K) (aP K) "__eq__") rfl)
  obtain ⟨q3, q4⟩ := mth_of (ex_get e 15 (b := mthB K (aT K) (aP K) "__eq__") rfl)
  obtain ⟨ccL, cdL, SL⟩ := sup_of c.oL (ex_get e 20 rfl)
  obtain ⟨ccT, cdT, ST⟩ := sup_of c.oT (ex_get e 21 rfl)
  obtain ⟨fdl, Fl⟩ := fund ("least_lengths", s_least_lengths) (List.mem_of_getElem? (i := 24) rfl)
  exact {
    df := fun p hp => by
      obtain ⟨fd, F⟩ := fund p hp
      exact ⟨_, fd, F, glo p hp⟩
    fr := fun x hx => He.free_ok X G (c.d.facts (f := .free x) (by
      rw [fa_eq]
      exact List.mem_append_left _ (List.mem_append_right _ (List.mem_map.mpr ⟨x, hx, rfl⟩))))
    most := He.int_ok X G (c.d.fact 70 (f := .int "MOST" 6) rfl)
    few := He.int_ok X G (c.d.fact 71 (f := .int "FEWEST" 3) rfl)
    cB := He.glo_ok X G (c.d.fact 65 (f := .glo "Book") rfl)
    cL := He.glo_ok X G (c.d.fact 66 (f := .glo "Lengths") rfl)
    cT := He.glo_ok X G (c.d.fact 67 (f := .glo "Trade") rfl)
    cP := He.glo_ok X G (c.d.fact 68 (f := .glo "Paper") rfl)
    cD := He.glo_ok X G (c.d.fact 69 (f := .glo "Denial") rfl)
    iB := iB
    iL := iL
    iT := iT
    nB := fun x hx => by
      obtain rfl | hx := List.mem_cons.mp hx
      · exact He.noat_ok (c.d.fact 78 (f := .noat "Book" "table") rfl)
      · rcases List.mem_cons.mp hx with rfl | hx
        · exact He.noat_ok (c.d.fact 79 (f := .noat "Book" "many") rfl)
        · rw [List.mem_singleton.mp hx]
          exact He.noat_ok (c.d.fact 80 (f := .noat "Book" "greatest") rfl)
    nL := fun x hx => by
      obtain rfl | hx := List.mem_cons.mp hx
      · exact He.noat_ok (c.d.fact 81 (f := .noat "Lengths" "word") rfl)
      · rcases List.mem_cons.mp hx with rfl | hx
        · exact He.noat_ok (c.d.fact 82 (f := .noat "Lengths" "parts") rfl)
        · rw [List.mem_singleton.mp hx]
          exact He.noat_ok (c.d.fact 83 (f := .noat "Lengths" "lengths") rfl)
    nT := fun x hx => by
      obtain rfl | hx := List.mem_cons.mp hx
      · exact He.noat_ok (c.d.fact 84 (f := .noat "Trade" "word") rfl)
      · rcases List.mem_cons.mp hx with rfl | hx
        · exact He.noat_ok (c.d.fact 85 (f := .noat "Trade" "parts") rfl)
        · rcases List.mem_cons.mp hx with rfl | hx
          · exact He.noat_ok (c.d.fact 86 (f := .noat "Trade" "short") rfl)
          · rw [List.mem_singleton.mp hx]
            exact He.noat_ok (c.d.fact 87 (f := .noat "Trade" "long") rfl)
    kBB := kit_of (ex_get e 4 rfl)
    kLL := kit_of (ex_get e 5 rfl)
    kLT := kit_of (ex_get e 6 rfl)
    kTT := kit_of (ex_get e 7 rfl)
    kLP := kit_of (ex_get e 8 rfl)
    kTP := kit_of (ex_get e 9 rfl)
    kLD := kit_of (ex_get e 10 rfl)
    kTD := kit_of (ex_get e 11 rfl)
    bP := ⟨_, fdPb, FPb, b1, b2⟩
    bD := ⟨_, fdDb, FDb, b3, b4⟩
    eP := ⟨_, fdPe, FPe, ⟨He.eqO_ok (ex_get e 16 (b := neB K (aL K)) rfl), q1, q2, iL.ob⟩, ⟨He.eqO_ok (ex_get e 17 (b := neB K (aT K)) rfl), q3, q4, iT.ob⟩⟩
    nmL := name_of (ex_get e 18 rfl) iL
    nmT := name_of (ex_get e 19 rfl) iT
    mB := ⟨_, fdBi, FBi, mB⟩
    mP := ⟨_, fdPi, FPi, ⟨_, ccL, cdL, SL, mL⟩, ⟨_, ccT, cdT, ST, mT⟩⟩
    lam := by
      obtain ⟨oc, od, dV, kV, doc, pm, an, cdv, ct, osl, e1, lk, hcd, _, _⟩ := id Fl.ex
      obtain ⟨cc, rfl⟩ := He.codeIn_ref hcd
      have hc : He.codeOf K tl = cc := He.codeOf_eq (p := tl) lk (by rw [e1])
      refine ⟨_, fdl, oc, od, dV, kV, doc, pm, an, cc, ct, osl, Fl, glo ("least_lengths", s_least_lengths) (List.mem_of_getElem? (i := 24) rfl), e1, lk, hcd, ?_⟩
      have tb2 := tb
      rw [show (He.cT K tl).1 = cc from hc] at tb2
      exact tb2
    top := by decide +kernel }
/-- a def's promise by its own function -/
theorem cal_fn {P : Program} {w : World} {base : Heap} {k : Nat} {x : Str} {sp : Sp} {st : Stmt} {f : Addr} {fd : FuncData} (c : CalE P w K mg base k x sp) (F : FunD K x x (defArgs st) (defBody st) (defScope st) [] [] f fd) (m2 : mg x = some (.ref f)) : FnOk P w K mg base CX0 k f fd (((defArgs st).posonlyargs ++ (defArgs st).args).map (·.arg)) sp := by
  obtain ⟨fa', fd', ps, G, m, kp, bn, st', F', hps⟩ := c.ex
  have ef : f = fa' := by
    rw [m] at m2
    exact (Value.ref.inj (Option.some.inj m2)).symm
  subst ef
  obtain ⟨oc, od, dV, kV, doc, pm, an, cdv, ct, osl, e1, lk, _, _, _⟩ := F.ex
  obtain ⟨oc', od', dV', kV', doc', pm', an', cdv', ct', osl', e1', lk', _, _, _⟩ := F'.ex
  have efd : fd = fd' := by
    rw [lk] at lk'
    exact Data.func.inj (congrArg Obj.data (Option.some.inj lk'))
  subst efd
  have ea : defArgs st' = defArgs st := congrArg FuncData.params (e1'.symm.trans e1)
  rw [ea] at hps
  rw [hps]
  exact G
end
end RB
set_option Elab.async false
set_option linter.all false
set_option maxRecDepth 100000
set_option maxHeartbeats 0
/-! The end. -/
namespace RB
open PySem PySem.Spec PyProof.Rows L2
theorem law_at (w : World) (mg : Str → Option Value) (fa : Addr) (h : Heap) (Y : hk.says w h) (G : h.Ns mainGlobals mg) (hmg : mg ("law" : Str) = some (.ref fa)) :
    ∃ K : PySem.W.Frag, K.In h ∧ LamX.LawAtS PySem.Challenge.rw_ringbars_k77_whole_lengths_or_a_trade w K CX0 11 63 "_law_script" mg fa h := by
  obtain ⟨K, X, c⟩ := Y
  have hg : mg ("law" : Str) = some (.ref (He.ga K "law")) := He.glo_ok X G (c.d.facts (f := .glo "law") (by
    rw [fa_eq]
    exact List.mem_append_left _ (List.mem_append_left _ (List.mem_map.mpr ⟨("law", s_law), List.mem_of_getElem? (i := 49) rfl, rfl⟩))))
  obtain ⟨fd, F⟩ : ∃ fd, FunD K "law" "law" (defArgs s_law) (defBody s_law) (defScope s_law) [] [] (He.ga K "law") fd := c.d.defs (d := dOf ("law", s_law)) (by
    rw [fn_eq]
    exact List.mem_append_left _ (List.mem_map.mpr ⟨("law", s_law), List.mem_of_getElem? (i := 49) rfl, rfl⟩))
  have ef : fa = He.ga K "law" := Value.ref.inj (Option.some.inj (hmg.symm.trans hg))
  subst ef
  have b := FunD.bindsA (ps := ["_law_script"]) F fun _ _ _ _ _ _ us hl => match us, hl with | [_], _ => rfl
  refine ⟨K, X, fd, [He.cT K tl], spLaw K (csOf K), fun p hp => ?_, fun p hp => ?_, fun p hp => ?_, fun s u => b s [u] rfl, fun H a ns _ _ ht hS => ⟨a, ns, rfl, hS, fun p hp => ?_, fun _ => rfl⟩, fun base KX NX TB => ?_⟩
  · rw [List.eq_of_mem_singleton hp]
    exact c.empty
  · rw [List.eq_of_mem_singleton hp]
    exact c.out
  · rw [List.eq_of_mem_singleton hp]
    exact PySem.W.codeHd_of_K X c.hd
  · rw [List.eq_of_mem_singleton hp]
    exact LamX.TabS.nil (ht _ (List.mem_singleton.mpr rfl))
  · have E := en_of (w := w) X G c (TB _ (List.mem_singleton.mpr rfl))
    exact cal_fn (c_law E) F hmg
end RB
open PySem PySem.W PySem.Calls PyProof.Rows
theorem PySem.Challenge.cw_ringbars_k77_whole_lengths_or_a_trade_holds : PySem.Challenge.rw_ringbars_k77_whole_lengths_or_a_trade.Holds := by
  w_on; o_law
  refine HandSHeadRun.head_any (r := OpenLaw.row PySem.Challenge.rw_ringbars_k77_whole_lengths_or_a_trade) (q := view (OpenLaw.row PySem.Challenge.rw_ringbars_k77_whole_lengths_or_a_trade).prog [78]) (H := RB.hk) (ob := RB.ob) (M := 8000) (loose := RB.lo) (d := HandSHeadRun.topDef (OpenLaw.row PySem.Challenge.rw_ringbars_k77_whole_lengths_or_a_trade).prog 78) (kwd := []) RB.ob_eq
    (by kernel_rfl) (fun s => by kernel_rfl) RB.run (by kernel_rfl) (by kernel_rfl) (by kernel_rfl) (by rfl) (by first | assumption | decide +kernel) (by decide +kernel) ⟨rfl, rfl, rfl, rfl, rfl, by decide +kernel⟩ ?hw ?hc
  case hw => w_witness2
  case hc =>
    refine LamX.walk_ofTsE (l := PySem.Challenge.rw_ringbars_k77_whole_lengths_or_a_trade) (n := 63) (k := 11) (x := "_law_script") (CX := fun _ => L2.CX0) rfl (by decide) (by kernel_rfl) ⟨rfl, by decide, by decide⟩ ?F (fun _ _ _ _ _ z => z)
    intro w mg fa h Y G told
    have at_law : mg ("law" : PySem.Str) = some (.ref fa) := by
      have e : (HandSHeadRun.topDef (OpenLaw.row PySem.Challenge.rw_ringbars_k77_whole_lengths_or_a_trade).prog 78).name = ("law" : PySem.Str) := by kernel_rfl
      rw [← e]
      exact told
    exact RB.law_at w mg fa h Y G at_law
