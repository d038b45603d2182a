import PyProof.Rows.All
import Wide.All
import OpenK.AllK
import Wide.FinOn
import KE.KStateDown
import Lean
import HandS.ForMost
import HandS.Exc
import HandS.ExcOwn
import HandS.TryOnly
import HandS.WordsExc
import HandS.Defaults
import HandS.Evl
import HandS.Head0
import HandS.Head1
import HandS.Head2
import HandS.Head3
import HandS.EndBits
import HandS.HeadEnd
import HandS.HeadHook1
import HandS.HeadHook2
import HandS.HeadHook3
import HandS.HeadHook4
import PySem.Challenge.RW_leafturner_k87_whole_never_both
import KE.GoesEnum
import KE.KMathG
import PyProof.StrBlock2
import PyProof.Rows.StrRev
import HandS.Gcd
import HandS.Replace
import HandS.Walk
import HandS.Conv
import HandS.DictComp
import HandS.Zip
set_option Elab.async false
set_option linter.all false
set_option maxRecDepth 100000
set_option maxHeartbeats 0
/-! the text by places -/
namespace LT
open PySem PySem.Spec PyProof.Rows L2
def top (i : Nat) : Stmt := PySem.Challenge.pw_leafturner_k87_whole_never_both.main.body.getD i (.Pass ⟨0, 0, 0, 0⟩)
abbrev FnP (K : PySem.W.Frag) (x q : Str) (st : Stmt) (f : Addr) (fd : FuncData) : Prop := FunD K x q (defArgs st) (defBody st) (defScope st) [] [] f fd
abbrev s__is_machine : Stmt := top 19
abbrev s__is_word : Stmt := top 20
abbrev s__has_digits : Stmt := top 21
abbrev s__is_string : Stmt := top 22
abbrev s__check : Stmt := top 23
abbrev s__undone : Stmt := top 24
abbrev s__cut : Stmt := top 25
abbrev s__passed : Stmt := top 26
abbrev s__moved : Stmt := top 27
abbrev s__sections : Stmt := top 28
abbrev s__is_closed : Stmt := top 29
abbrev s__shows_equal : Stmt := top 30
abbrev s__shows_apart : Stmt := top 31
abbrev s__primes : Stmt := top 32
abbrev s__changes : Stmt := top 33
abbrev s__is_finite : Stmt := top 34
abbrev s__rests : Stmt := top 35
abbrev s__around : Stmt := top 36
abbrev s__is_endless : Stmt := top 37
abbrev s_shown : Stmt := top 38
abbrev s_order_shown : Stmt := top 39
abbrev s__is_row : Stmt := top 45
abbrev s_is_wide : Stmt := top 46
abbrev s_is_machine : Stmt := top 47
abbrev s_check_machine : Stmt := top 48
abbrev s_other : Stmt := top 54
abbrev s_letters_of : Stmt := top 55
abbrev s_is_word : Stmt := top 56
abbrev s_cut : Stmt := top 57
abbrev s_undone : Stmt := top 58
abbrev s_refuse_word : Stmt := top 59
abbrev s_check_word : Stmt := top 60
abbrev s_Actor_init : Stmt := inClass (top 62) 0
abbrev s_Actor_step : Stmt := inClass (top 62) 1
abbrev s_Actor_moved : Stmt := inClass (top 62) 2
abbrev s_Actor_row : Stmt := inClass (top 62) 3
abbrev s_Actor_keeps_digits : Stmt := inClass (top 62) 4
abbrev s_moved : Stmt := top 63
abbrev s_found_list : Stmt := top 66
abbrev s_rests : Stmt := top 67
abbrev s_first_moved : Stmt := top 69
abbrev s_first_string : Stmt := top 70
abbrev s_check_words_wordmachine : Stmt := top 72
abbrev s_kept : Stmt := top 79
abbrev s_raised : Stmt := top 80
abbrev s_round_length : Stmt := top 81
abbrev s_all_strings : Stmt := top 82
abbrev s_rounds_together : Stmt := top 83
abbrev s_least_order : Stmt := top 84
abbrev s_is_conjugate_power : Stmt := top 85
abbrev s_is_found : Stmt := top 86
abbrev s_seek_witness : Stmt := top 87
abbrev s_order : Stmt := top 88
abbrev s_check_words_decide : Stmt := top 96
abbrev s_decide : Stmt := top 98
abbrev s_prime_divisors : Stmt := top 99
abbrev s_decide_order : Stmt := top 100
abbrev s__law_number : Stmt := top 102
abbrev s__law_draws : Stmt := top 103
abbrev s__law_draw : Stmt := top 104
abbrev s__law_pick : Stmt := top 105
abbrev s__law_row : Stmt := top 106
abbrev s__law_machine : Stmt := top 107
abbrev s__law_word : Stmt := top 108
abbrev s__law_state_of : Stmt := top 109
abbrev s__law_turned : Stmt := top 110
abbrev s__law_cut : Stmt := top 111
abbrev s__law_undone : Stmt := top 112
abbrev s__law_passed : Stmt := top 113
abbrev s__law_image : Stmt := top 114
abbrev s__law_string : Stmt := top 115
abbrev s__law_is_directed : Stmt := top 116
abbrev s__law_directed : Stmt := top 117
abbrev s__law_order : Stmt := top 118
abbrev s_law : Stmt := top 119
def d__is_machine : He.DefD := ⟨("_is_machine", none), "_is_machine", "_is_machine", defArgs s__is_machine, defBody s__is_machine, defScope s__is_machine, [], []⟩
def d__is_word : He.DefD := ⟨("_is_word", none), "_is_word", "_is_word", defArgs s__is_word, defBody s__is_word, defScope s__is_word, [], []⟩
def d__has_digits : He.DefD := ⟨("_has_digits", none), "_has_digits", "_has_digits", defArgs s__has_digits, defBody s__has_digits, defScope s__has_digits, [], []⟩
def d__is_string : He.DefD := ⟨("_is_string", none), "_is_string", "_is_string", defArgs s__is_string, defBody s__is_string, defScope s__is_string, [], []⟩
def d__check : He.DefD := ⟨("_check", none), "_check", "_check", defArgs s__check, defBody s__check, defScope s__check, [], []⟩
def d__undone : He.DefD := ⟨("_undone", none), "_undone", "_undone", defArgs s__undone, defBody s__undone, defScope s__undone, [], []⟩
def d__cut : He.DefD := ⟨("_cut", none), "_cut", "_cut", defArgs s__cut, defBody s__cut, defScope s__cut, [], []⟩
def d__passed : He.DefD := ⟨("_passed", none), "_passed", "_passed", defArgs s__passed, defBody s__passed, defScope s__passed, [], []⟩
def d__moved : He.DefD := ⟨("_moved", none), "_moved", "_moved", defArgs s__moved, defBody s__moved, defScope s__moved, [], []⟩
def d__sections : He.DefD := ⟨("_sections", none), "_sections", "_sections", defArgs s__sections, defBody s__sections, defScope s__sections, [], []⟩
def d__is_closed : He.DefD := ⟨("_is_closed", none), "_is_closed", "_is_closed", defArgs s__is_closed, defBody s__is_closed, defScope s__is_closed, [], []⟩
def d__shows_equal : He.DefD := ⟨("_shows_equal", none), "_shows_equal", "_shows_equal", defArgs s__shows_equal, defBody s__shows_equal, defScope s__shows_equal, [], []⟩
def d__shows_apart : He.DefD := ⟨("_shows_apart", none), "_shows_apart", "_shows_apart", defArgs s__shows_apart, defBody s__shows_apart, defScope s__shows_apart, [], []⟩
def d__primes : He.DefD := ⟨("_primes", none), "_primes", "_primes", defArgs s__primes, defBody s__primes, defScope s__primes, [], []⟩
def d__changes : He.DefD := ⟨("_changes", none), "_changes", "_changes", defArgs s__changes, defBody s__changes, defScope s__changes, [], []⟩
def d__is_finite : He.DefD := ⟨("_is_finite", none), "_is_finite", "_is_finite", defArgs s__is_finite, defBody s__is_finite, defScope s__is_finite, [], []⟩
def d__rests : He.DefD := ⟨("_rests", none), "_rests", "_rests", defArgs s__rests, defBody s__rests, defScope s__rests, [], []⟩
def d__around : He.DefD := ⟨("_around", none), "_around", "_around", defArgs s__around, defBody s__around, defScope s__around, [], []⟩
def d__is_endless : He.DefD := ⟨("_is_endless", none), "_is_endless", "_is_endless", defArgs s__is_endless, defBody s__is_endless, defScope s__is_endless, [], []⟩
def d_shown : He.DefD := ⟨("shown", none), "shown", "shown", defArgs s_shown, defBody s_shown, defScope s_shown, [], []⟩
def d_order_shown : He.DefD := ⟨("order_shown", none), "order_shown", "order_shown", defArgs s_order_shown, defBody s_order_shown, defScope s_order_shown, [], []⟩
def d__is_row : He.DefD := ⟨("_is_row", none), "_is_row", "_is_row", defArgs s__is_row, defBody s__is_row, defScope s__is_row, [], []⟩
def d_is_wide : He.DefD := ⟨("is_wide", none), "is_wide", "is_wide", defArgs s_is_wide, defBody s_is_wide, defScope s_is_wide, [], []⟩
def d_is_machine : He.DefD := ⟨("is_machine", none), "is_machine", "is_machine", defArgs s_is_machine, defBody s_is_machine, defScope s_is_machine, [], []⟩
def d_check_machine : He.DefD := ⟨("check_machine", none), "check_machine", "check_machine", defArgs s_check_machine, defBody s_check_machine, defScope s_check_machine, [], []⟩
def d_other : He.DefD := ⟨("other", none), "other", "other", defArgs s_other, defBody s_other, defScope s_other, [], []⟩
def d_letters_of : He.DefD := ⟨("letters_of", none), "letters_of", "letters_of", defArgs s_letters_of, defBody s_letters_of, defScope s_letters_of, [], []⟩
def d_is_word : He.DefD := ⟨("is_word", none), "is_word", "is_word", defArgs s_is_word, defBody s_is_word, defScope s_is_word, [], []⟩
def d_cut : He.DefD := ⟨("cut", none), "cut", "cut", defArgs s_cut, defBody s_cut, defScope s_cut, [], []⟩
def d_undone : He.DefD := ⟨("undone", none), "undone", "undone", defArgs s_undone, defBody s_undone, defScope s_undone, [], []⟩
def d_refuse_word : He.DefD := ⟨("refuse_word", none), "refuse_word", "refuse_word", defArgs s_refuse_word, defBody s_refuse_word, defScope s_refuse_word, [], []⟩
def d_check_word : He.DefD := ⟨("check_word", none), "check_word", "check_word", defArgs s_check_word, defBody s_check_word, defScope s_check_word, [], []⟩
def d_Actor_init : He.DefD := ⟨("Actor", some "__init__"), "__init__", "Actor.__init__", defArgs s_Actor_init, defBody s_Actor_init, defScope s_Actor_init, [], []⟩
def d_Actor_step : He.DefD := ⟨("Actor", some "step"), "step", "Actor.step", defArgs s_Actor_step, defBody s_Actor_step, defScope s_Actor_step, [], []⟩
def d_Actor_moved : He.DefD := ⟨("Actor", some "moved"), "moved", "Actor.moved", defArgs s_Actor_moved, defBody s_Actor_moved, defScope s_Actor_moved, [], []⟩
def d_Actor_row : He.DefD := ⟨("Actor", some "row"), "row", "Actor.row", defArgs s_Actor_row, defBody s_Actor_row, defScope s_Actor_row, [], []⟩
def d_Actor_keeps_digits : He.DefD := ⟨("Actor", some "keeps_digits"), "keeps_digits", "Actor.keeps_digits", defArgs s_Actor_keeps_digits, defBody s_Actor_keeps_digits, defScope s_Actor_keeps_digits, [], []⟩
def d_moved : He.DefD := ⟨("moved", none), "moved", "moved", defArgs s_moved, defBody s_moved, defScope s_moved, [], []⟩
def d_found_list : He.DefD := ⟨("found_list", none), "found_list", "found_list", defArgs s_found_list, defBody s_found_list, defScope s_found_list, [], []⟩
def d_rests : He.DefD := ⟨("rests", none), "rests", "rests", defArgs s_rests, defBody s_rests, defScope s_rests, [], []⟩
def d_first_moved : He.DefD := ⟨("first_moved", none), "first_moved", "first_moved", defArgs s_first_moved, defBody s_first_moved, defScope s_first_moved, [], []⟩
def d_first_string : He.DefD := ⟨("first_string", none), "first_string", "first_string", defArgs s_first_string, defBody s_first_string, defScope s_first_string, [], []⟩
def d_check_words_wordmachine : He.DefD := ⟨("check_words_wordmachine", none), "check_words", "check_words", defArgs s_check_words_wordmachine, defBody s_check_words_wordmachine, defScope s_check_words_wordmachine, [], []⟩
def d_kept : He.DefD := ⟨("kept", none), "kept", "kept", defArgs s_kept, defBody s_kept, defScope s_kept, [], []⟩
def d_raised : He.DefD := ⟨("raised", none), "raised", "raised", defArgs s_raised, defBody s_raised, defScope s_raised, [], []⟩
def d_round_length : He.DefD := ⟨("round_length", none), "round_length", "round_length", defArgs s_round_length, defBody s_round_length, defScope s_round_length, [], []⟩
def d_all_strings : He.DefD := ⟨("all_strings", none), "all_strings", "all_strings", defArgs s_all_strings, defBody s_all_strings, defScope s_all_strings, [], []⟩
def d_rounds_together : He.DefD := ⟨("rounds_together", none), "rounds_together", "rounds_together", defArgs s_rounds_together, defBody s_rounds_together, defScope s_rounds_together, [], []⟩
def d_least_order : He.DefD := ⟨("least_order", none), "least_order", "least_order", defArgs s_least_order, defBody s_least_order, defScope s_least_order, [], []⟩
def d_is_conjugate_power : He.DefD := ⟨("is_conjugate_power", none), "is_conjugate_power", "is_conjugate_power", defArgs s_is_conjugate_power, defBody s_is_conjugate_power, defScope s_is_conjugate_power, [], []⟩
def d_is_found : He.DefD := ⟨("is_found", none), "is_found", "is_found", defArgs s_is_found, defBody s_is_found, defScope s_is_found, [], []⟩
def d_seek_witness : He.DefD := ⟨("seek_witness", none), "seek_witness", "seek_witness", defArgs s_seek_witness, defBody s_seek_witness, defScope s_seek_witness, [], []⟩
def d_order : He.DefD := ⟨("order", none), "order", "order", defArgs s_order, defBody s_order, defScope s_order, [], []⟩
def d_check_words_decide : He.DefD := ⟨("check_words_decide", none), "check_words", "check_words", defArgs s_check_words_decide, defBody s_check_words_decide, defScope s_check_words_decide, [], []⟩
def d_decide : He.DefD := ⟨("decide", none), "decide", "decide", defArgs s_decide, defBody s_decide, defScope s_decide, [], []⟩
def d_prime_divisors : He.DefD := ⟨("prime_divisors", none), "prime_divisors", "prime_divisors", defArgs s_prime_divisors, defBody s_prime_divisors, defScope s_prime_divisors, [], []⟩
def d_decide_order : He.DefD := ⟨("decide_order", none), "decide_order", "decide_order", defArgs s_decide_order, defBody s_decide_order, defScope s_decide_order, [], []⟩
def d__law_number : He.DefD := ⟨("_law_number", none), "_law_number", "_law_number", defArgs s__law_number, defBody s__law_number, defScope s__law_number, [], []⟩
def d__law_draws : He.DefD := ⟨("_law_draws", none), "_law_draws", "_law_draws", defArgs s__law_draws, defBody s__law_draws, defScope s__law_draws, [], []⟩
def d__law_draw : He.DefD := ⟨("_law_draw", none), "_law_draw", "_law_draw", defArgs s__law_draw, defBody s__law_draw, defScope s__law_draw, [], []⟩
def d__law_pick : He.DefD := ⟨("_law_pick", none), "_law_pick", "_law_pick", defArgs s__law_pick, defBody s__law_pick, defScope s__law_pick, [], []⟩
def d__law_row : He.DefD := ⟨("_law_row", none), "_law_row", "_law_row", defArgs s__law_row, defBody s__law_row, defScope s__law_row, [], []⟩
def d__law_machine : He.DefD := ⟨("_law_machine", none), "_law_machine", "_law_machine", defArgs s__law_machine, defBody s__law_machine, defScope s__law_machine, [], []⟩
def d__law_word : He.DefD := ⟨("_law_word", none), "_law_word", "_law_word", defArgs s__law_word, defBody s__law_word, defScope s__law_word, [], []⟩
def d__law_state_of : He.DefD := ⟨("_law_state_of", none), "_law_state_of", "_law_state_of", defArgs s__law_state_of, defBody s__law_state_of, defScope s__law_state_of, [], []⟩
def d__law_turned : He.DefD := ⟨("_law_turned", none), "_law_turned", "_law_turned", defArgs s__law_turned, defBody s__law_turned, defScope s__law_turned, [], []⟩
def d__law_cut : He.DefD := ⟨("_law_cut", none), "_law_cut", "_law_cut", defArgs s__law_cut, defBody s__law_cut, defScope s__law_cut, [], []⟩
def d__law_undone : He.DefD := ⟨("_law_undone", none), "_law_undone", "_law_undone", defArgs s__law_undone, defBody s__law_undone, defScope s__law_undone, [], []⟩
def d__law_passed : He.DefD := ⟨("_law_passed", none), "_law_passed", "_law_passed", defArgs s__law_passed, defBody s__law_passed, defScope s__law_passed, [], []⟩
def d__law_image : He.DefD := ⟨("_law_image", none), "_law_image", "_law_image", defArgs s__law_image, defBody s__law_image, defScope s__law_image, [], []⟩
def d__law_string : He.DefD := ⟨("_law_string", none), "_law_string", "_law_string", defArgs s__law_string, defBody s__law_string, defScope s__law_string, [], []⟩
def d__law_is_directed : He.DefD := ⟨("_law_is_directed", none), "_law_is_directed", "_law_is_directed", defArgs s__law_is_directed, defBody s__law_is_directed, defScope s__law_is_directed, [], []⟩
def d__law_directed : He.DefD := ⟨("_law_directed", none), "_law_directed", "_law_directed", defArgs s__law_directed, defBody s__law_directed, defScope s__law_directed, [], []⟩
def d__law_order : He.DefD := ⟨("_law_order", none), "_law_order", "_law_order", defArgs s__law_order, defBody s__law_order, defScope s__law_order, [], []⟩
def d_law : He.DefD := ⟨("law", none), "law", "law", defArgs s_law, defBody s_law, defScope s_law, [], []⟩
def fn : List He.DefD := [d__is_machine, d__is_word, d__has_digits, d__is_string, d__check, d__undone, d__cut, d__passed, d__moved, d__sections, d__is_closed, d__shows_equal, d__shows_apart, d__primes, d__changes, d__is_finite, d__rests, d__around, d__is_endless, d_shown, d_order_shown, d__is_row, d_is_wide, d_is_machine, d_check_machine, d_other, d_letters_of, d_is_word, d_cut, d_undone, d_refuse_word, d_check_word, d_Actor_init, d_Actor_step, d_Actor_moved, d_Actor_row, d_Actor_keeps_digits, d_moved, d_found_list, d_rests, d_first_moved, d_first_string, d_check_words_wordmachine, d_kept, d_raised, d_round_length, d_all_strings, d_rounds_together, d_least_order, d_is_conjugate_power, d_is_found, d_seek_witness, d_order, d_check_words_decide, d_decide, d_prime_divisors, d_decide_order, d__law_number, d__law_draws, d__law_draw, d__law_pick, d__law_row, d__law_machine, d__law_word, d__law_state_of, d__law_turned, d__law_cut, d__law_undone, d__law_passed, d__law_image, d__law_string, d__law_is_directed, d__law_directed, d__law_order, d_law]
def fa0 : List He.Fa := [.glo "_is_machine", .glo "_is_word", .glo "_has_digits", .glo "_is_string", .glo "_check", .glo "_undone", .glo "_cut", .glo "_passed", .glo "_moved", .glo "_sections", .glo "_is_closed", .glo "_shows_equal", .glo "_shows_apart", .glo "_primes", .glo "_changes", .glo "_is_finite", .glo "_rests", .glo "_around", .glo "_is_endless", .glo "shown", .glo "order_shown", .glo "_is_row", .glo "is_wide", .glo "is_machine", .glo "check_machine", .glo "other", .glo "letters_of", .glo "is_word", .glo "cut", .glo "undone"]
def fa1 : List He.Fa := [.glo "refuse_word", .glo "check_word", .glo "moved", .glo "found_list", .glo "rests", .glo "first_moved", .glo "first_string", .glo "check_words_wordmachine", .glo "kept", .glo "raised", .glo "round_length", .glo "all_strings", .glo "rounds_together", .glo "least_order", .glo "is_conjugate_power", .glo "is_found", .glo "seek_witness", .glo "order", .glo "check_words_decide", .glo "decide", .glo "prime_divisors", .glo "decide_order", .glo "_law_number", .glo "_law_draws", .glo "_law_draw", .glo "_law_pick", .glo "_law_row", .glo "_law_machine", .glo "_law_word", .glo "_law_state_of"]
def fa2 : List He.Fa := [.glo "_law_turned", .glo "_law_cut", .glo "_law_undone", .glo "_law_passed", .glo "_law_image", .glo "_law_string", .glo "_law_is_directed", .glo "_law_directed", .glo "_law_order", .glo "law", .glo "Actor", .glo "TooLarge", .glo "LEVELS", .free "len", .free "sorted", .free "range", .free "any", .free "all", .free "int", .free "str", .free "tuple", .free "list", .free "abs", .free "max", .free "min", .free "enumerate", .free "zip", .int "MOST_STATES_certificates" 8, .int "MOST_LETTERS_certificates" 60, .int "MOST_DIGITS_certificates" 60]
def fa3 : List He.Fa := [.int "MOST_ORDER" 200, .int "MOST_STEPS_certificates" 2000, .int "LONGEST_certificates" 2000, .int "MOST_WORDS_certificates" 4000, .int "LEAST_DIGITS" 2, .int "MOST_DIGITS_machines" 4, .int "MOST_STATES_machines" 8, .int "MOST_WIDE" 200, .int "LONGEST_words" 60, .int "MOST_WORDS_closed" 4000, .int "MOST_STEPS_orders" 2000, .int "MOST_LETTERS_orders" 2000, .int "LOOKED_AT" 64, .int "LONGEST_decide" 60, .str "SMALL_certificates" "abcdefgh", .str "GREAT" "ABCDEFGH", .str "LETTERS" "abcdefghABCDEFGH", .str "TURNED" "ABCDEFGHabcdefgh", .str "NONE" "none", .str "SMALL_words" "abcdefgh", .str "LARGE" "ABCDEFGH", .str "ORDER" "aAbBcCdDeEfFgGhH", .str "EQUAL" "equal", .str "APART" "apart", .str "FINITE" "finite", .str "ENDLESS" "endless", .str "OPEN" "open", .cls "Actor", .noat "Actor" "size", .noat "Actor" "table"]
def fa4 : List He.Fa := [.mkr "Actor", .meth "Actor" "step", .meth "Actor" "moved", .meth "Actor" "row", .meth "Actor" "keeps_digits", .exc "TooLarge", .exm "TooLarge" "TooLarge" true]
def fa : List He.Fa := fa0 ++ fa1 ++ fa2 ++ fa3 ++ fa4
def loose0 : List PySem.Str := ["__name__", "LeafError", "NotMachine", "NotWord", "TooLarge", "SMALL_certificates", "GREAT", "LETTERS", "TURNED", "MOST_STATES_certificates", "MOST_LETTERS_certificates", "MOST_DIGITS_certificates", "MOST_ORDER", "MOST_STEPS_certificates", "LONGEST_certificates", "MOST_WORDS_certificates", "NONE", "_is_machine", "_is_word", "_has_digits", "_is_string", "_check", "_undone", "_cut", "_passed", "_moved", "_sections", "_is_closed", "_shows_equal", "_shows_apart"]
def loose1 : List PySem.Str := ["_primes", "_changes", "_is_finite", "_rests", "_around", "_is_endless", "shown", "order_shown", "LEAST_DIGITS", "MOST_DIGITS_machines", "MOST_STATES_machines", "MOST_WIDE", "_is_row", "is_wide", "is_machine", "check_machine", "SMALL_words", "LARGE", "ORDER", "LONGEST_words", "other", "letters_of", "is_word", "cut", "undone", "refuse_word", "check_word", "Actor", "moved", "MOST_WORDS_closed"]
def loose2 : List PySem.Str := ["found_list", "rests", "first_moved", "first_string", "check_words", "check_words_wordmachine", "MOST_STEPS_orders", "MOST_LETTERS_orders", "LOOKED_AT", "LEVELS", "kept", "raised", "round_length", "all_strings", "rounds_together", "least_order", "is_conjugate_power", "is_found", "seek_witness", "order", "EQUAL", "APART", "FINITE", "ENDLESS", "OPEN", "LONGEST_decide", "check_words_decide", "decide", "prime_divisors", "decide_order"]
def loose3 : List PySem.Str := ["_law_number", "_law_draws", "_law_draw", "_law_pick", "_law_row", "_law_machine", "_law_word", "_law_state_of", "_law_turned", "_law_cut", "_law_undone", "_law_passed", "_law_image", "_law_string", "_law_is_directed", "_law_directed", "_law_order"]
def loose : List PySem.Str := loose0 ++ loose1 ++ loose2 ++ loose3
end LT

set_option Elab.async false
set_option linter.all false
set_option maxRecDepth 100000
set_option maxHeartbeats 0
/-! the head -/
namespace LT
open PySem PySem.Spec PyProof.Rows L2
/-! the heap's part that the walk looks at: the module's names, their code objects, the classes' namespaces, the methods -/
def refsM (o : Obj) : List Addr := match o.data with
  | .func fd => He.refV fd.code
  | .cls cd => cd.ns :: cd.mro.flatMap He.refV
  | .dict es _ => es.toList.flatMap fun e => He.refV e.val
  | _ => []
def lev (g : Addr → Option Obj) : Nat → List Addr → List Addr
  | 0, l => l
  | n + 1, l => l ++ lev g n (l.flatMap fun a => match g a with
    | some o => refsM o
    | none => [])
def frM (g : Addr → Option Obj) : PySem.W.Frag := He.frG g (lev g 4 [mainGlobals])
/-- an entry of LEVELS -/
def entB (e : DictEntry) (i j : Int) : Bool := match e.key, e.val with
  | .int a _, .int b _ => decide (a = i) && (decide (b = j) && decide (e.hash = hashInt i))
  | _, _ => false
def levB (K : PySem.W.Frag) : Bool := match K.lookup (He.ga K "LEVELS") with
  | some ⟨.type c, none, .dict es _, sl⟩ => decide (c = "dict") && (sl.isEmpty && (!(He.ga K "LEVELS" == sysModules) && (match es.toList with
    | [e1, e2, e3] => entB e1 2 4 && (entB e2 3 2 && entB e3 4 2)
    | _ => false)))
  | _ => false
def lcmB (K : PySem.W.Frag) : Bool := He.eqO (PySem.W.nsIn K mainGlobals "lcm") (some (some (.builtin "math.lcm")))
abbrev AlM : Type := He.AlD × Bool
def obsM (K : PySem.W.Frag) : AlM := (He.obsD fa fn K, levB K && lcmB K)
def SaysM (K : PySem.W.Frag) : Prop := obsM K = (He.valD fn, true)
def hk : PySem.W.Hook where
  α := AlM
  obs := fun s => obsM (frM s.heap.get?)
  val := fun _ => (He.valD fn, true)
  says := fun _ h => ∃ K : PySem.W.Frag, K.In h ∧ SaysM K
  of := fun _ _ e => ⟨_, He.frG_in, e⟩
  keeps := fun _ _ _ ⟨K, hK, c⟩ k => ⟨K, PySem.W.Frag.In.keeps hK k, c⟩
abbrev R : PySem.W.OpenRow := PySem.W.OpenLaw.row PySem.Challenge.rw_leafturner_k87_whole_never_both
def ob (s : PySem.W.SharedT) : hk.α := obsM (frM (HandSHeadRun.getT s))
theorem ob_eq (s : PySem.W.SharedT) : ob s = hk.obs s.abs := by
  have e : HandSHeadRun.getT s = s.abs.heap.get? := funext (HandSHeadRun.getT_eq s)
  show obsM (frM (HandSHeadRun.getT s)) = obsM (frM s.abs.heap.get?)
  rw [e]
theorem run_f (w : World) : HandSHeadRun.RunEqI R (PySem.W.view R.prog [0, 119]) hk ob 6000 loose (w.withFollow "special-get-raises" false) := by
  unfold HandSHeadRun.RunEqI
  kernel_rfl
theorem run_t (w : World) : HandSHeadRun.RunEqI R (PySem.W.view R.prog [0, 119]) hk ob 6000 loose (w.withFollow "special-get-raises" true) := by
  unfold HandSHeadRun.RunEqI
  kernel_rfl
theorem run (w : World) : HandSHeadRun.RunEqI R (PySem.W.view R.prog [0, 119]) hk ob 6000 loose w :=
  PySem.W.byRow2 "special-get-raises" (P := fun w => HandSHeadRun.RunEqI R (PySem.W.view R.prog [0, 119]) hk ob 6000 loose w) run_f run_t w
end LT

set_option Elab.async false
set_option linter.all false
namespace LT
abbrev Lt := Nat × Bool
abbrev Wd := List Lt
def inv (l : Lt) : Lt := (l.1, !l.2)
theorem inv_inv (l : Lt) : inv (inv l) = l := by cases l; simp [inv]
theorem inv_ne (l : Lt) : inv l ≠ l := by
  intro h
  have := congrArg Prod.snd h
  simp [inv] at this
def und (w : Wd) : Wd := (w.reverse).map inv
theorem und_nil : und [] = [] := rfl
theorem und_append (u v : Wd) : und (u ++ v) = und v ++ und u := by simp [und]
theorem und_und (w : Wd) : und (und w) = w := by
  simp [und, List.map_reverse, Function.comp_def, inv_inv]
theorem und_length (w : Wd) : (und w).length = w.length := by simp [und]
def push (kept : Wd) (l : Lt) : Wd := if kept.getLast? = some (inv l) then kept.dropLast else kept ++ [l]
def cutg (kept w : Wd) : Wd := w.foldl push kept
def cut (w : Wd) : Wd := cutg [] w
theorem cutg_append (k u v : Wd) : cutg k (u ++ v) = cutg (cutg k u) v := by simp [cutg]
theorem cutg_cons (k : Wd) (l : Lt) (v : Wd) : cutg k (l :: v) = cutg (push k l) v := rfl
theorem cut_length_aux : ∀ (w k : Wd), (cutg k w).length ≤ k.length + w.length
  | [], k => by simp [cutg]
  | l :: w, k => by
    rw [cutg_cons]
    have h := cut_length_aux w (push k l)
    have h2 : (push k l).length ≤ k.length + 1 := by
      unfold push; split
      · simp; omega
      · simp
    simp only [List.length_cons]; omega
theorem cut_length (w : Wd) : (cut w).length ≤ w.length := by
  have := cut_length_aux w []
  simpa [cut] using this
theorem cutg_mem : ∀ (w k : Wd) (l : Lt), l ∈ cutg k w → l ∈ k ∨ l ∈ w
  | [], k, l, h => .inl h
  | a :: w, k, l, h => by
    rw [cutg_cons] at h
    rcases cutg_mem w _ l h with h | h
    · unfold push at h
      split at h
      · exact .inl (List.dropLast_subset _ h)
      · rcases List.mem_append.mp h with h | h
        · exact .inl h
        · simp at h; subst h; exact .inr (by simp)
    · exact .inr (by simp [h])
theorem cut_mem {w : Wd} {l : Lt} (h : l ∈ cut w) : l ∈ w := by
  rcases cutg_mem w [] l h with h | h
  · simp at h
  · exact h
/-- reduced, as a stack: no two neighbours undo each other -/
def Red : Wd → Prop
  | [] => True
  | [_] => True
  | a :: b :: r => b ≠ inv a ∧ Red (b :: r)
theorem Red.tail {a : Lt} {r : Wd} (h : Red (a :: r)) : Red r := by
  cases r with
  | nil => trivial
  | cons b r => exact h.2
theorem Red.append_one : ∀ {k : Wd} {l : Lt}, Red k → k.getLast? ≠ some (inv l) → Red (k ++ [l])
  | [], l, _, _ => trivial
  | [a], l, _, h => by
    refine ⟨fun e => h ?_, trivial⟩
    subst e
    simp [inv_inv]
  | a :: b :: r, l, h, hl => by
    refine ⟨h.1, ?_⟩
    exact Red.append_one (k := b :: r) h.2 (by simpa using hl)
theorem Red.dropLast : ∀ {k : Wd}, Red k → Red k.dropLast
  | [], _ => trivial
  | [a], _ => trivial
  | [a, b], _ => trivial
  | a :: b :: c :: r, h => ⟨h.1, Red.dropLast (k := b :: c :: r) h.2⟩
theorem Red.push {k : Wd} {l : Lt} (h : Red k) : Red (push k l) := by
  unfold LT.push; split
  · exact h.dropLast
  · rename_i h2; exact h.append_one h2
theorem Red.cutg : ∀ {w k : Wd}, Red k → Red (cutg k w)
  | [], k, h => h
  | l :: w, k, h => by rw [cutg_cons]; exact Red.cutg h.push
theorem cut_red (w : Wd) : Red (cut w) := Red.cutg (k := []) trivial
/-- the two last of a reduced word don't undo each other -/
theorem Red.last2 : ∀ {k : Wd} {a b : Lt}, Red (k ++ [a, b]) → b ≠ inv a
  | [], a, b, h => h.1
  | [x], a, b, h => h.2.1
  | x :: y :: r, a, b, h => Red.last2 (k := y :: r) (a := a) (b := b) (by simpa using h.2)
theorem push_push {k : Wd} (l : Lt) (h : Red k) : push (push k l) (inv l) = k := by
  by_cases e : k.getLast? = some (inv l)
  · obtain ⟨k', rfl⟩ : ∃ k', k = k' ++ [inv l] := by
      refine ⟨k.dropLast, ?_⟩
      have hne : k ≠ [] := by intro q; subst q; simp at e
      rw [List.getLast?_eq_some_getLast hne] at e
      have := Option.some.inj e
      rw [← this]
      exact (List.dropLast_concat_getLast hne).symm
    have e1 : push (k' ++ [inv l]) l = k' := by unfold push; rw [if_pos e]; simp
    rw [e1]
    unfold push
    rw [if_neg]
    rw [inv_inv]
    intro q
    obtain ⟨k2, rfl⟩ : ∃ k2, k' = k2 ++ [l] := by
      refine ⟨k'.dropLast, ?_⟩
      have hne : k' ≠ [] := by intro q2; subst q2; simp at q
      rw [List.getLast?_eq_some_getLast hne] at q
      have := Option.some.inj q
      rw [← this]
      exact (List.dropLast_concat_getLast hne).symm
    have := Red.last2 (k := k2) (a := l) (b := inv l) (by simpa using h)
    exact this rfl
  · have e1 : push k l = k ++ [l] := by unfold push; rw [if_neg e]
    rw [e1]
    unfold push
    rw [if_pos (by simp [inv_inv])]
    simp
theorem cutg_del {k : Wd} (h : Red k) (l : Lt) (w : Wd) : cutg k (l :: inv l :: w) = cutg k w := by
  rw [cutg_cons, cutg_cons, push_push l h]
theorem cut_del (a : Wd) (l : Lt) (b : Wd) : cut (a ++ l :: inv l :: b) = cut (a ++ b) := by
  unfold cut
  rw [cutg_append, cutg_append, cutg_del (Red.cutg (k := []) trivial)]
/-- equal by cutting -/
inductive Eqv : Wd → Wd → Prop
  | refl (w) : Eqv w w
  | del (a : Wd) (l : Lt) (b : Wd) : Eqv (a ++ l :: inv l :: b) (a ++ b)
  | symm {u v} : Eqv u v → Eqv v u
  | trans {u v w} : Eqv u v → Eqv v w → Eqv u w
theorem Eqv.cut {u v : Wd} (h : Eqv u v) : cut u = cut v := by
  induction h with
  | refl => rfl
  | del a l b => exact cut_del a l b
  | symm _ ih => exact ih.symm
  | trans _ _ i1 i2 => exact i1.trans i2
theorem Eqv.left {u v : Wd} (h : Eqv u v) (a : Wd) : Eqv (a ++ u) (a ++ v) := by
  induction h with
  | refl => exact .refl _
  | del x l b => have := Eqv.del (a ++ x) l b; simpa using this
  | symm _ ih => exact ih.symm
  | trans _ _ i1 i2 => exact i1.trans i2
theorem Eqv.right {u v : Wd} (h : Eqv u v) (a : Wd) : Eqv (u ++ a) (v ++ a) := by
  induction h with
  | refl => exact .refl _
  | del x l b => have := Eqv.del x l (b ++ a); simpa using this
  | symm _ ih => exact ih.symm
  | trans _ _ i1 i2 => exact i1.trans i2
theorem push_eqv (k : Wd) (l : Lt) : Eqv (push k l) (k ++ [l]) := by
  unfold push
  split
  · rename_i e
    obtain ⟨k', rfl⟩ : ∃ k', k = k' ++ [inv l] := by
      refine ⟨k.dropLast, ?_⟩
      have hne : k ≠ [] := by intro q; subst q; simp at e
      rw [List.getLast?_eq_some_getLast hne] at e
      have := Option.some.inj e
      rw [← this]
      exact (List.dropLast_concat_getLast hne).symm
    have := Eqv.del k' (inv l) []
    rw [inv_inv] at this
    simpa using this.symm
  · exact .refl _
theorem cutg_eqv : ∀ (w k : Wd), Eqv (cutg k w) (k ++ w)
  | [], k => by simpa [cutg] using Eqv.refl k
  | l :: w, k => by
    rw [cutg_cons]
    refine (cutg_eqv w _).trans ?_
    have := (push_eqv k l).right w
    simpa using this
theorem cut_eqv (w : Wd) : Eqv (cut w) w := by simpa [cut] using cutg_eqv w []
theorem cut_cut (w : Wd) : cut (cut w) = cut w := (cut_eqv w).cut
theorem cut_cut_append (u v : Wd) : cut (cut u ++ v) = cut (u ++ v) := ((cut_eqv u).right v).cut
theorem cut_append_cut (u v : Wd) : cut (u ++ cut v) = cut (u ++ v) := ((cut_eqv v).left u).cut
theorem und_right : ∀ (w : Wd), Eqv (w ++ und w) []
  | [] => .refl _
  | l :: w => by
    have h := (und_right w)
    have h2 : Eqv ([l] ++ (w ++ und w) ++ [inv l]) ([l] ++ [] ++ [inv l]) := (h.left [l]).right [inv l]
    have e : (l :: w) ++ und (l :: w) = [l] ++ (w ++ und w) ++ [inv l] := by simp [und]
    rw [e]
    exact h2.trans (by simpa using Eqv.del [] l [])
theorem und_left (w : Wd) : Eqv (und w ++ w) [] := by
  have := und_right (und w)
  rwa [und_und] at this
/-! ### machines -/
structure Mach where
  k : Nat
  rows : List (List (Nat × Nat))
def Mach.row (M : Mach) (s : Nat) : List (Nat × Nat) := M.rows.getD s []
def Mach.outs (M : Mach) (s : Nat) : List Nat := (M.row s).map (·.1)
structure Mach.Ok (M : Mach) : Prop where
  k2 : 2 ≤ M.k
  k3 : M.k ≤ 3
  n1 : 1 ≤ M.rows.length
  n4 : M.rows.length ≤ 4
  perm : ∀ r ∈ M.rows, (r.map (·.1)).Perm (List.range M.k)
  nxt : ∀ r ∈ M.rows, ∀ e ∈ r, e.2 < M.rows.length
def WOk (M : Mach) (w : Wd) : Prop := ∀ l ∈ w, l.1 < M.rows.length
def SOk (M : Mach) (s : List Nat) : Prop := ∀ d ∈ s, d < M.k
theorem WOk.und {M : Mach} {w : Wd} (h : WOk M w) : WOk M (und w) := by
  intro l hl
  simp only [LT.und, List.mem_map, List.mem_reverse] at hl
  obtain ⟨x, hx, rfl⟩ := hl
  exact h x hx
theorem WOk.append {M : Mach} {u v : Wd} (h : WOk M u) (h2 : WOk M v) : WOk M (u ++ v) := by
  intro l hl
  rcases List.mem_append.mp hl with q | q
  · exact h l q
  · exact h2 l q
theorem WOk.cut {M : Mach} {w : Wd} (h : WOk M w) : WOk M (cut w) := fun l hl => h l (cut_mem hl)
/-- a letter at a digit; what is no letter or no digit of the machine stays as it is -/
def lstep (M : Mach) (l : Lt) (d : Nat) : Nat × Lt :=
  if ¬ (l.1 < M.rows.length ∧ d < M.k) then (d, l) else
  if l.2 then ((M.outs l.1).idxOf d, ((M.row l.1).getD ((M.outs l.1).idxOf d) (0, 0)).2, true)
  else (((M.row l.1).getD d (0, 0)).1, ((M.row l.1).getD d (0, 0)).2, false)
def passed (M : Mach) : Wd → Nat → Nat × Wd
  | [], d => (d, [])
  | l :: w, d => ((passed M w (lstep M l d).1).1, (lstep M l d).2 :: (passed M w (lstep M l d).1).2)
def moved (M : Mach) : Wd → List Nat → List Nat × Wd
  | w, [] => ([], w)
  | w, d :: s => ((passed M w d).1 :: (moved M (passed M w d).2 s).1, (moved M (passed M w d).2 s).2)
def act (M : Mach) (w : Wd) (s : List Nat) : List Nat := (moved M w s).1
def sec (M : Mach) (w : Wd) (s : List Nat) : Wd := (moved M w s).2
section
variable {M : Mach}
theorem Mach.Ok.row_mem (O : M.Ok) {s : Nat} (h : s < M.rows.length) : M.row s ∈ M.rows := by
  unfold Mach.row
  rw [List.getD_eq_getElem?_getD, List.getElem?_eq_getElem h]
  simp
theorem Mach.Ok.outs_perm (O : M.Ok) {s : Nat} (h : s < M.rows.length) : (M.outs s).Perm (List.range M.k) := O.perm _ (O.row_mem h)
theorem Mach.Ok.outs_len (O : M.Ok) {s : Nat} (h : s < M.rows.length) : (M.outs s).length = M.k := by
  have := (O.outs_perm h).length_eq
  simpa using this
theorem Mach.Ok.row_len (O : M.Ok) {s : Nat} (h : s < M.rows.length) : (M.row s).length = M.k := by
  have := O.outs_len h
  simpa [Mach.outs] using this
theorem Mach.Ok.outs_nodup (O : M.Ok) {s : Nat} (h : s < M.rows.length) : (M.outs s).Nodup := (O.outs_perm h).nodup_iff.mpr List.nodup_range
theorem Mach.Ok.outs_mem (O : M.Ok) {s d : Nat} (h : s < M.rows.length) : d ∈ M.outs s ↔ d < M.k := by
  rw [(O.outs_perm h).mem_iff, List.mem_range]
theorem Mach.row_at (M : Mach) {s d : Nat} (hd : d < (M.row s).length) : (M.row s)[d]? = some ((M.row s).getD d (0, 0)) := by
  rw [List.getD_eq_getElem?_getD, List.getElem?_eq_getElem hd]; simp
theorem Mach.outs_at (M : Mach) {s d : Nat} (hd : d < (M.row s).length) : (M.outs s)[d]? = some ((M.row s).getD d (0, 0)).1 := by
  unfold Mach.outs
  rw [List.getElem?_map, M.row_at hd]; rfl
theorem Mach.Ok.idx (O : M.Ok) {s d : Nat} (h : s < M.rows.length) (hd : d < M.k) : (M.outs s).idxOf d < M.k ∧ (M.outs s)[(M.outs s).idxOf d]? = some d := by
  have hm := (O.outs_mem h).mpr hd
  have hlt : (M.outs s).idxOf d < (M.outs s).length := List.idxOf_lt_length_of_mem hm
  refine ⟨by rw [← O.outs_len h]; exact hlt, ?_⟩
  rw [List.getElem?_eq_getElem hlt]
  simp
theorem idxOf_of_at : ∀ {l : List Nat} {i d : Nat}, l.Nodup → l[i]? = some d → l.idxOf d = i
  | [], i, d, _, h => by simp at h
  | a :: r, 0, d, hn, h => by
    simp at h; subst h; simp
  | a :: r, i + 1, d, hn, h => by
    have hr : r[i]? = some d := by simpa using h
    have hmem : d ∈ r := List.mem_of_getElem? hr
    have hne : a ≠ d := by
      intro q; subst q
      exact (List.nodup_cons.mp hn).1 hmem
    rw [List.idxOf_cons, show (a == d) = false by simpa using hne, idxOf_of_at (List.nodup_cons.mp hn).2 hr]; rfl
theorem lstep_big {s d : Nat} (h : s < M.rows.length) (hd : d < M.k) : lstep M (s, true) d = ((M.outs s).idxOf d, ((M.row s).getD ((M.outs s).idxOf d) (0, 0)).2, true) := by
  unfold lstep
  rw [if_neg (by simp [h, hd]), if_pos rfl]
theorem lstep_small {s d : Nat} (h : s < M.rows.length) (hd : d < M.k) : lstep M (s, false) d = (((M.row s).getD d (0, 0)).1, ((M.row s).getD d (0, 0)).2, false) := by
  unfold lstep
  rw [if_neg (by simp [h, hd]), if_neg (by simp)]
theorem lstep_out {l : Lt} {d : Nat} (h : ¬ (l.1 < M.rows.length ∧ d < M.k)) : lstep M l d = (d, l) := by
  unfold lstep
  rw [if_pos h]
theorem lstep_lt (O : M.Ok) {l : Lt} {d : Nat} (hl : l.1 < M.rows.length) (hd : d < M.k) : (lstep M l d).1 < M.k ∧ (lstep M l d).2.1 < M.rows.length ∧ (lstep M l d).2.2 = l.2 := by
  obtain ⟨s, b⟩ := l
  cases b with
  | true =>
    obtain ⟨h1, h2⟩ := O.idx hl hd
    rw [lstep_big hl hd]
    refine ⟨h1, ?_, rfl⟩
    refine O.nxt _ (O.row_mem hl) _ ?_
    exact List.mem_of_getElem? (M.row_at (by rw [O.row_len hl]; exact h1))
  | false =>
    have hd2 : d < (M.row s).length := by rw [O.row_len hl]; exact hd
    rw [lstep_small hl hd]
    refine ⟨?_, ?_, rfl⟩
    · exact (O.outs_mem hl).mp (List.mem_of_getElem? (M.outs_at hd2))
    · exact O.nxt _ (O.row_mem hl) _ (List.mem_of_getElem? (M.row_at hd2))
theorem lstep_inv (O : M.Ok) (l : Lt) (d : Nat) : lstep M (inv l) (lstep M l d).1 = (d, inv (lstep M l d).2) := by
  by_cases hg : l.1 < M.rows.length ∧ d < M.k
  · obtain ⟨hl, hd⟩ := hg
    have hlt := (lstep_lt O hl hd).1
    obtain ⟨s, b⟩ := l
    cases b with
    | true =>
      obtain ⟨h1, h2⟩ := O.idx hl hd
      have h3 := M.outs_at (s := s) (d := (M.outs s).idxOf d) (by rw [O.row_len hl]; exact h1)
      rw [h2] at h3
      have h4 := Option.some.inj h3
      show lstep M (s, false) _ = _
      rw [lstep_small hl hlt, lstep_big hl hd]
      show ((((M.row s).getD ((M.outs s).idxOf d) (0, 0)).1, ((M.row s).getD ((M.outs s).idxOf d) (0, 0)).2, false) : Nat × Lt) = _
      rw [← h4]
      rfl
    | false =>
      have hd2 : d < (M.row s).length := by rw [O.row_len hl]; exact hd
      have h3 := M.outs_at (s := s) hd2
      have h4 := idxOf_of_at (O.outs_nodup hl) h3
      show lstep M (s, true) _ = _
      rw [lstep_big hl hlt, lstep_small hl hd]
      show (((M.outs s).idxOf ((M.row s).getD d (0, 0)).1, ((M.row s).getD ((M.outs s).idxOf ((M.row s).getD d (0, 0)).1) (0, 0)).2, true) : Nat × Lt) = _
      rw [h4]
      rfl
  · rw [lstep_out hg]
    exact lstep_out (l := inv l) hg
theorem passed_lt (O : M.Ok) : ∀ {w : Wd} {d : Nat}, WOk M w → d < M.k → (passed M w d).1 < M.k ∧ WOk M (passed M w d).2
  | [], d, _, hd => ⟨hd, fun l h => by simp [passed] at h⟩
  | l :: w, d, hw, hd => by
    have h1 := lstep_lt O (hw l (by simp)) hd
    have h2 := passed_lt O (w := w) (fun x hx => hw x (by simp [hx])) h1.1
    refine ⟨h2.1, ?_⟩
    intro x hx
    rcases List.mem_cons.mp hx with q | q
    · rw [q]; exact h1.2.1
    · exact h2.2 x q
theorem passed_length : ∀ (w : Wd) (d : Nat), (passed M w d).2.length = w.length
  | [], _ => rfl
  | l :: w, d => by
    show ((passed M w (lstep M l d).1).2).length + 1 = w.length + 1
    rw [passed_length w]
theorem passed_append : ∀ (u v : Wd) (d : Nat), passed M (u ++ v) d = ((passed M v (passed M u d).1).1, (passed M u d).2 ++ (passed M v (passed M u d).1).2)
  | [], v, d => rfl
  | l :: u, v, d => by
    show (((passed M (u ++ v) (lstep M l d).1).1, (lstep M l d).2 :: (passed M (u ++ v) (lstep M l d).1).2) : Nat × Wd) = _
    rw [passed_append u v]
    rfl
theorem moved_append : ∀ (s : List Nat) (u v : Wd), moved M (u ++ v) s = ((moved M v (moved M u s).1).1, (moved M u s).2 ++ (moved M v (moved M u s).1).2)
  | [], u, v => rfl
  | d :: s, u, v => by
    show (((passed M (u ++ v) d).1 :: (moved M (passed M (u ++ v) d).2 s).1, (moved M (passed M (u ++ v) d).2 s).2) : List Nat × Wd) = _
    rw [passed_append u v d]
    show (((passed M v (passed M u d).1).1 :: (moved M ((passed M u d).2 ++ (passed M v (passed M u d).1).2) s).1, (moved M ((passed M u d).2 ++ (passed M v (passed M u d).1).2) s).2) : List Nat × Wd) = _
    rw [moved_append s (passed M u d).2 (passed M v (passed M u d).1).2]
    rfl
theorem act_append (u v : Wd) (s : List Nat) : act M (u ++ v) s = act M v (act M u s) := by
  unfold act; rw [moved_append]
theorem sec_append (u v : Wd) (s : List Nat) : sec M (u ++ v) s = sec M u s ++ sec M v (act M u s) := by
  unfold sec act; rw [moved_append]
theorem moved_cat : ∀ (s t : List Nat) (w : Wd), moved M w (s ++ t) = ((moved M w s).1 ++ (moved M (moved M w s).2 t).1, (moved M (moved M w s).2 t).2)
  | [], t, w => rfl
  | d :: s, t, w => by
    show (((passed M w d).1 :: (moved M (passed M w d).2 (s ++ t)).1, (moved M (passed M w d).2 (s ++ t)).2) : List Nat × Wd) = _
    rw [moved_cat s t]
    rfl
theorem act_cat (s t : List Nat) (w : Wd) : act M w (s ++ t) = act M w s ++ act M (sec M w s) t := by
  unfold act sec; rw [moved_cat]
theorem sec_cat (s t : List Nat) (w : Wd) : sec M w (s ++ t) = sec M (sec M w s) t := by
  unfold sec; rw [moved_cat]
theorem act_nil (w : Wd) : act M w [] = [] := rfl
theorem act_nilw : ∀ (s : List Nat), act M [] s = s ∧ sec M [] s = []
  | [] => ⟨rfl, rfl⟩
  | d :: s => by
    obtain ⟨h1, h2⟩ := act_nilw s
    exact ⟨by show d :: act M [] s = d :: s; rw [h1], h2⟩
theorem act_length : ∀ (s : List Nat) (w : Wd), (act M w s).length = s.length
  | [], w => rfl
  | d :: s, w => by
    show (act M (passed M w d).2 s).length + 1 = s.length + 1
    rw [act_length s]
theorem sec_length : ∀ (s : List Nat) (w : Wd), (sec M w s).length = w.length
  | [], w => rfl
  | d :: s, w => by
    show (sec M (passed M w d).2 s).length = w.length
    rw [sec_length s, passed_length]
theorem act_ok (O : M.Ok) : ∀ {s : List Nat} {w : Wd}, WOk M w → SOk M s → SOk M (act M w s) ∧ WOk M (sec M w s)
  | [], w, hw, _ => ⟨fun _ h => by simp [act, moved] at h, hw⟩
  | d :: s, w, hw, hs => by
    have h1 := passed_lt O hw (hs d (by simp))
    have h2 := act_ok O (s := s) h1.2 (fun x hx => hs x (by simp [hx]))
    refine ⟨?_, h2.2⟩
    intro x hx
    rcases List.mem_cons.mp hx with q | q
    · rw [q]; exact h1.1
    · exact h2.1 x q
theorem SOk.snoc {s : List Nat} {d : Nat} (h : SOk M s) (hd : d < M.k) : SOk M (s ++ [d]) := by
  intro x hx
  rcases List.mem_append.mp hx with q | q
  · exact h x q
  · simp at q; subst q; exact hd
theorem passed_eqv (O : M.Ok) {u v : Wd} (h : Eqv u v) : ∀ d, (passed M u d).1 = (passed M v d).1 ∧ Eqv (passed M u d).2 (passed M v d).2 := by
  induction h with
  | refl w => exact fun d => ⟨rfl, .refl _⟩
  | del a l b =>
    intro d
    have e : ∀ x, passed M (l :: inv l :: b) x = ((passed M b x).1, (lstep M l x).2 :: inv (lstep M l x).2 :: (passed M b x).2) := by
      intro x
      show (((passed M b (lstep M (inv l) (lstep M l x).1).1).1, (lstep M l x).2 :: (lstep M (inv l) (lstep M l x).1).2 :: (passed M b (lstep M (inv l) (lstep M l x).1).1).2) : Nat × Wd) = _
      rw [lstep_inv O l x]
    rw [passed_append, passed_append, e]
    exact ⟨rfl, .del _ _ _⟩
  | symm _ ih => exact fun d => ⟨(ih d).1.symm, (ih d).2.symm⟩
  | trans _ _ i1 i2 => exact fun d => ⟨(i1 d).1.trans (i2 d).1, (i1 d).2.trans (i2 d).2⟩
theorem moved_eqv (O : M.Ok) : ∀ (s : List Nat) {u v : Wd}, Eqv u v → act M u s = act M v s ∧ Eqv (sec M u s) (sec M v s)
  | [], u, v, h => ⟨rfl, h⟩
  | d :: s, u, v, h => by
    obtain ⟨h1, h2⟩ := passed_eqv O h d
    obtain ⟨h3, h4⟩ := moved_eqv O s h2
    refine ⟨?_, h4⟩
    show (passed M u d).1 :: act M (passed M u d).2 s = (passed M v d).1 :: act M (passed M v d).2 s
    rw [h1, h3]
theorem act_cut (O : M.Ok) (w : Wd) (s : List Nat) : act M (cut w) s = act M w s := (moved_eqv O s (cut_eqv w)).1
theorem cut_sec_cut (O : M.Ok) (w : Wd) (s : List Nat) : cut (sec M (cut w) s) = cut (sec M w s) := (moved_eqv O s (cut_eqv w)).2.cut
theorem act_und (O : M.Ok) (w : Wd) (s : List Nat) : act M (und w) (act M w s) = s := by
  rw [← act_append, (moved_eqv O s (und_right w)).1]
  exact (act_nilw s).1
theorem act_und' (O : M.Ok) (w : Wd) (s : List Nat) : act M w (act M (und w) s) = s := by
  rw [← act_append, (moved_eqv O s (und_left w)).1]
  exact (act_nilw s).1
/-- at rest: keeps every string of the machine's digits -/
def Rest (M : Mach) (w : Wd) : Prop := ∀ s, SOk M s → act M w s = s
theorem Rest.cut_iff (O : M.Ok) {w : Wd} : Rest M (cut w) ↔ Rest M w := by
  unfold Rest
  constructor <;> intro h s hs
  · rw [← act_cut O]; exact h s hs
  · rw [act_cut O]; exact h s hs
theorem Rest.eq (O : M.Ok) {u v : Wd} (h : Rest M (u ++ und v)) {s : List Nat} (hs : SOk M s) : act M u s = act M v s := by
  have h1 := h s hs
  rw [act_append] at h1
  have h2 := act_und' O v (act M u s)
  rw [h1] at h2
  exact h2.symm
theorem apart_of (O : M.Ok) {u v : Wd} {s : List Nat} (h : act M (u ++ und v) s ≠ s) : act M u s ≠ act M v s := by
  intro e
  apply h
  rw [act_append, e]
  exact act_und O v s
theorem Rest.append {u v : Wd} (h : Rest M u) (h2 : Rest M v) : Rest M (u ++ v) := fun s hs => by
  rw [act_append, h s hs, h2 s hs]
/-- a closed list -/
def Closed (M : Mach) (L : List Wd) : Prop := ∀ w ∈ L, ∀ d, d < M.k → (passed M w d).1 = d ∧ cut (passed M w d).2 ∈ L
theorem Closed.rest (O : M.Ok) {L : List Wd} (C : Closed M L) : ∀ (s : List Nat) (w : Wd), w ∈ L → SOk M s → act M w s = s
  | [], w, _, _ => rfl
  | d :: s, w, hw, hs => by
    obtain ⟨h1, h2⟩ := C w hw d (hs d (by simp))
    show (passed M w d).1 :: act M (passed M w d).2 s = d :: s
    rw [h1, ← act_cut O, Closed.rest O C s _ h2 (fun x hx => hs x (by simp [hx]))]
theorem rest_of_closed (O : M.Ok) {L : List Wd} (C : Closed M L) {w : Wd} (h : cut w ∈ L) : Rest M w := (Rest.cut_iff O).mp fun s hs => C.rest O s _ h hs
/-! ### powers -/
def pw (w : Wd) : Nat → Wd
  | 0 => []
  | n + 1 => w ++ pw w n
theorem pw_add (w : Wd) : ∀ a b, pw w (a + b) = pw w a ++ pw w b
  | 0, b => by simp [pw]
  | a + 1, b => by
    rw [Nat.succ_add]
    show w ++ pw w (a + b) = w ++ pw w a ++ pw w b
    rw [pw_add w a b, List.append_assoc]
theorem pw_one (w : Wd) : pw w 1 = w := by simp [pw]
theorem pw_succ' (w : Wd) (n : Nat) : pw w (n + 1) = pw w n ++ w := by rw [pw_add, pw_one]
theorem pw_length (w : Wd) : ∀ n, (pw w n).length = n * w.length
  | 0 => by simp [pw]
  | n + 1 => by rw [pw_succ', List.length_append, pw_length w n, Nat.succ_mul]
theorem WOk.pw {w : Wd} (h : WOk M w) : ∀ n, WOk M (pw w n)
  | 0 => fun l hl => by simp [LT.pw] at hl
  | n + 1 => WOk.append h (WOk.pw h n)
theorem pw_mul (w : Wd) (a : Nat) : ∀ b, pw w (a * b) = pw (pw w a) b
  | 0 => by simp [pw]
  | b + 1 => by rw [Nat.mul_succ, pw_add, pw_mul w a b, pw_succ']
theorem pw_eqv {u v : Wd} (h : Eqv u v) : ∀ n, Eqv (pw u n) (pw v n)
  | 0 => .refl _
  | n + 1 => (h.right _).trans ((pw_eqv h n).left _)
/-- the image, some times one after the other -/
def iter (M : Mach) (w : Wd) : Nat → List Nat → List Nat
  | 0, s => s
  | n + 1, s => iter M w n (act M w s)
theorem act_pw (w : Wd) : ∀ n s, act M (pw w n) s = iter M w n s
  | 0, s => (act_nilw s).1
  | n + 1, s => by
    show act M (w ++ pw w n) s = iter M w n (act M w s)
    rw [act_append, act_pw w n]
theorem iter_add (w : Wd) (a b : Nat) (s : List Nat) : iter M w (a + b) s = iter M w b (iter M w a s) := by
  rw [← act_pw, ← act_pw, ← act_pw, pw_add, act_append]
theorem rest_sub (O : M.Ok) {w : Wd} {a b : Nat} (h : Rest M (pw w (a + b))) (ha : Rest M (pw w a)) : Rest M (pw w b) := fun s hs => by
  have h1 := h s hs
  rw [pw_add, act_append, ha s hs] at h1
  exact h1
theorem rest_mul {w : Wd} {a : Nat} (ha : Rest M (pw w a)) : ∀ b, Rest M (pw w (a * b))
  | 0 => fun s _ => (act_nilw s).1
  | b + 1 => by
    rw [Nat.mul_succ, pw_add]
    exact (rest_mul ha b).append ha
theorem rest_mod (O : M.Ok) {w : Wd} {a b : Nat} (h : Rest M (pw w b)) (ha : Rest M (pw w a)) : Rest M (pw w (b % a)) := by
  have e : a * (b / a) + b % a = b := Nat.div_add_mod b a
  rw [← e] at h
  exact rest_sub O h (rest_mul ha _)
theorem rest_gcd (O : M.Ok) {w : Wd} : ∀ (a b : Nat), Rest M (pw w a) → Rest M (pw w b) → Rest M (pw w (Nat.gcd a b)) := by
  intro a b
  induction a, b using Nat.gcd.induction with
  | H0 n => intro _ h; simpa using h
  | H1 m n hm ih => intro ha hb; rw [Nat.gcd_rec]; exact ih (rest_mod O hb ha) ha
/-- n is the order: the power n rests, and no power n / p for a prime p does -/
def Prime (p : Nat) : Prop := 2 ≤ p ∧ ∀ d, d ∣ p → d = 1 ∨ d = p
theorem exists_prime : ∀ (n : Nat), 2 ≤ n → ∃ p, Prime p ∧ p ∣ n := by
  intro n
  induction n using Nat.strongRecOn with
  | ind n ih =>
    intro h
    by_cases q : ∃ d, d ∣ n ∧ d ≠ 1 ∧ d ≠ n
    · obtain ⟨d, hd, h1, h2⟩ := q
      have hle := Nat.le_of_dvd (by omega) hd
      have h0 : d ≠ 0 := by
        intro e; subst e
        have := Nat.eq_zero_of_zero_dvd hd
        omega
      obtain ⟨p, hp, hpd⟩ := ih d (by omega) (by omega)
      exact ⟨p, hp, Nat.dvd_trans hpd hd⟩
    · refine ⟨n, ⟨h, fun d hd => ?_⟩, Nat.dvd_refl n⟩
      by_cases h1 : d = 1
      · exact .inl h1
      · by_cases h2 : d = n
        · exact .inr h2
        · exact absurd ⟨d, hd, h1, h2⟩ q
def Order (M : Mach) (w : Wd) (n : Nat) : Prop := 1 ≤ n ∧ Rest M (pw w n) ∧ ∀ p, Prime p → p ∣ n → ¬ Rest M (pw w (n / p))
theorem Order.dvd (O : M.Ok) {w : Wd} {n m : Nat} (h : Order M w n) (hm : Rest M (pw w m)) : n ∣ m := by
  obtain ⟨h1, h2, h3⟩ := h
  have hg := rest_gcd O n m h2 hm
  have hd : Nat.gcd n m ∣ n := Nat.gcd_dvd_left n m
  obtain ⟨c, hc⟩ := hd
  have hg0 : 0 < Nat.gcd n m := Nat.gcd_pos_of_pos_left _ (by omega)
  by_cases hc1 : c = 1
  · rw [hc1, Nat.mul_one] at hc
    have := Nat.gcd_dvd_right n m
    rw [← hc] at this
    exact this
  · exfalso
    have hc0 : c ≠ 0 := by intro e; rw [e, Nat.mul_zero] at hc; omega
    obtain ⟨p, hp, x, hx⟩ := exists_prime c (by omega)
    have hp2 := hp.1
    have hn : n = Nat.gcd n m * x * p := by rw [Nat.mul_assoc, Nat.mul_comm x p, ← hx]; exact hc
    refine h3 p hp ⟨Nat.gcd n m * x, by rw [Nat.mul_comm p]; exact hn⟩ ?_
    have hq : n / p = Nat.gcd n m * x := Nat.div_eq_of_eq_mul_left (by omega) hn
    rw [hq]
    exact rest_mul hg x
theorem Order.unique (O : M.Ok) {w : Wd} {n m : Nat} (h : Order M w n) (h' : Order M w m) : n = m := Nat.dvd_antisymm (h.dvd O h'.2.1) (h'.dvd O h.2.1)
/-! ### rounds -/
theorem iter_mul {w : Wd} {m : Nat} {s : List Nat} (h : iter M w m s = s) : ∀ b, iter M w (m * b) s = s
  | 0 => rfl
  | b + 1 => by rw [Nat.mul_succ, iter_add, iter_mul h b, h]
/-- m is the least number of steps of a round -/
def Round (M : Mach) (w : Wd) (s : List Nat) (m : Nat) : Prop := 1 ≤ m ∧ iter M w m s = s ∧ ∀ j, 1 ≤ j → j < m → iter M w j s ≠ s
theorem Round.dvd {w : Wd} {s : List Nat} {m n : Nat} (h : Round M w s m) (hn : iter M w n s = s) : m ∣ n := by
  have e : m * (n / m) + n % m = n := Nat.div_add_mod n m
  rw [← e, iter_add, iter_mul h.2.1] at hn
  have hlt := Nat.mod_lt n h.1
  by_cases h0 : n % m = 0
  · exact Nat.dvd_of_mod_eq_zero h0
  · exact absurd hn (h.2.2 _ (by omega) hlt)
/-- the section of the power, behind the round's steps -/
theorem sec_pw_mul (O : M.Ok) {w : Wd} {m : Nat} {s : List Nat} (h : iter M w m s = s) : ∀ b, sec M (pw w (m * b)) s = pw (sec M (pw w m) s) b
  | 0 => by show sec M [] s = []; exact (act_nilw s).2
  | b + 1 => by rw [Nat.mul_succ, pw_add, sec_append, act_pw, iter_mul h, sec_pw_mul O h b, pw_succ']
/-- a conjugate's powers -/
theorem rest_conj (O : M.Ok) {g h : Wd} (r : Rest M (h ++ g ++ und h)) (ho : WOk M h) : Rest M g := fun s hs => by
  have hs2 := (act_ok O ho.und hs).1
  have h1 := r _ hs2
  rw [act_append, act_append, act_und' O] at h1
  have h2 : act M h (act M (und h) (act M g s)) = act M h (act M (und h) s) := by rw [h1]
  rw [act_und' O, act_und' O] at h2
  exact h2
theorem conj_pw (O : M.Ok) (g h : Wd) : ∀ b, Eqv (pw (h ++ g ++ und h) b) (h ++ pw g b ++ und h)
  | 0 => by
    show Eqv [] (h ++ [] ++ und h)
    simpa using (und_right h).symm
  | b + 1 => by
    rw [pw_succ', pw_succ']
    refine ((conj_pw O g h b).right _).trans ?_
    have h1 := ((und_left h).left (h ++ pw g b)).right (g ++ und h)
    simpa using h1
theorem Rest.of_eqv (O : M.Ok) {u v : Wd} (h : Eqv u v) (r : Rest M u) : Rest M v := fun s hs => by
  rw [← (moved_eqv O s h).1]; exact r s hs
/-- powers of words with equal action -/
theorem rest_pw_eq (O : M.Ok) {u v : Wd} (h : ∀ s, SOk M s → act M u s = act M v s) (hv : WOk M v) : ∀ b, ∀ s, SOk M s → act M (pw u b) s = act M (pw v b) s
  | 0, s, _ => rfl
  | b + 1, s, hs => by
    show act M (u ++ pw u b) s = act M (v ++ pw v b) s
    rw [act_append, act_append, h s hs, rest_pw_eq O h hv b _ (act_ok O hv hs).1]
/-- the power of a word by a whole number -/
def pwZ (w : Wd) (e : Int) : Wd := if e < 0 then pw (und w) e.natAbs else pw w e.natAbs
theorem pw_und (w : Wd) : ∀ n, pw (und w) n = und (pw w n)
  | 0 => rfl
  | n + 1 => by rw [pw_succ' (und w), pw_und w n, ← und_append]; rfl
theorem rest_und (O : M.Ok) {w : Wd} (h : Rest M w) : Rest M (und w) := fun s hs => by
  have := act_und O w s
  rw [h s hs] at this
  exact this
theorem WOk.pwZ {w : Wd} (h : WOk M w) (e : Int) : WOk M (pwZ w e) := by
  unfold LT.pwZ
  split
  · exact h.und.pw _
  · exact h.pw _
/-- a witness: no power of the word rests -/
theorem endless_of (O : M.Ok) {w h : Wd} {s : List Nat} {m : Nat} {e : Int} (ww : WOk M w) (wh : WOk M h) (hs : SOk M s) (hr : Round M w s m)
    (hq : Rest M (sec M (pw w m) s ++ und (h ++ pwZ w e ++ und h))) (hd : ¬ (m : Int) ∣ e) {n : Nat} (ho : Order M w n) : False := by
  have wz := ww.pwZ e
  have hit : iter M w n s = s := by rw [← act_pw]; exact ho.2.1 s hs
  obtain ⟨b, hb⟩ := hr.dvd hit
  -- the power b of the return rests
  have h1 : Rest M (pw (sec M (pw w m) s) b) := fun t ht => by
    rw [← sec_pw_mul O hr.2.1 b, ← hb]
    have h2 := ho.2.1 (s ++ t) (fun x hx => (List.mem_append.mp hx).elim (hs x) (ht x))
    rw [act_cat, act_pw, hit] at h2
    exact List.append_cancel_left h2
  have wc : WOk M (h ++ pwZ w e ++ und h) := (wh.append wz).append wh.und
  have h3 : Rest M (pw (h ++ pwZ w e ++ und h) b) := fun t ht => by
    rw [← rest_pw_eq O (fun s hs => Rest.eq O hq hs) wc b t ht]
    exact h1 t ht
  have h4 : Rest M (pw (pwZ w e) b) := rest_conj O (Rest.of_eqv O (conj_pw O _ _ b) h3) wh
  have h5 : Rest M (pw w (e.natAbs * b)) := by
    unfold pwZ at h4
    split at h4
    · rw [← pw_mul, pw_und] at h4
      have := rest_und O h4
      rwa [und_und] at this
    · rw [← pw_mul] at h4; exact h4
  have h6 := ho.dvd O h5
  rw [hb] at h6
  have hb0 : 0 < b := by
    rcases Nat.eq_zero_or_pos b with q | q
    · have := ho.1
      rw [hb, q, Nat.mul_zero] at this
      omega
    · exact q
  have h7 : m ∣ e.natAbs := Nat.dvd_of_mul_dvd_mul_right hb0 h6
  exact hd (Int.dvd_natAbs.mp (Int.natCast_dvd_natCast.mpr h7))
end
end LT

set_option Elab.async false
set_option linter.all false
namespace LT
/-! ### how many sections: directed machines -/
def Mach.rst (M : Mach) : Nat := M.rows.length - 1
structure Directed (M : Mach) : Prop where
  ok : M.Ok
  rest : ∀ x, x < M.k → (M.row M.rst)[x]? = some (x, M.rst)
  one : ∀ s, s < M.rst → ∀ x y, x < M.k → y < M.k → ((M.row s).getD x (0, 0)).2 ≠ M.rst → ((M.row s).getD y (0, 0)).2 ≠ M.rst → x = y
/-- a sum over the digits -/
def sm (k : Nat) (f : Nat → Nat) : Nat := f 0 + f 1 + (if k = 3 then f 2 else 0)
def one1 (M : Mach) (l : Lt) : Nat := if l.1 = M.rst then 0 else 1
def live (M : Mach) : Wd → Nat
  | [] => 0
  | l :: w => one1 M l + live M w
/-- the state to which a state goes on alive -/
def phs (M : Mach) (s : Nat) : Nat :=
  if ((M.row s).getD 0 (0, M.rst)).2 ≠ M.rst then ((M.row s).getD 0 (0, M.rst)).2
  else if ((M.row s).getD 1 (0, M.rst)).2 ≠ M.rst then ((M.row s).getD 1 (0, M.rst)).2
  else ((M.row s).getD 2 (0, M.rst)).2
def ph (M : Mach) (l : Lt) : Lt := (phs M l.1, l.2)
def rho (M : Mach) (w : Wd) : Wd := w.map fun l => (M.rst, l.2)
section
variable {M : Mach}
theorem live_le : ∀ (w : Wd), live M w ≤ w.length
  | [] => Nat.le_refl _
  | l :: w => by
    have := live_le w
    show one1 M l + live M w ≤ w.length + 1
    unfold one1; split <;> omega
theorem getD_ext {l : List (Nat × Nat)} {i : Nat} (a b : Nat × Nat) (h : i < l.length) : l.getD i a = l.getD i b := by
  rw [List.getD_eq_getElem?_getD, List.getD_eq_getElem?_getD, List.getElem?_eq_getElem h]
  simp
theorem Directed.rlt (D : Directed M) : M.rst < M.rows.length := by
  have := D.ok.n1; unfold Mach.rst; omega
theorem Directed.restD (D : Directed M) {x : Nat} (h : x < M.k) (a : Nat × Nat) : (M.row M.rst).getD x a = (x, M.rst) := by
  rw [List.getD_eq_getElem?_getD, D.rest x h]; rfl
theorem Directed.rest_outs (D : Directed M) {d : Nat} (h : d < M.k) : (M.outs M.rst).idxOf d = d := by
  refine idxOf_of_at (D.ok.outs_nodup D.rlt) ?_
  unfold Mach.outs
  rw [List.getElem?_map, D.rest d h]; rfl
theorem lstep_rest (D : Directed M) (b : Bool) {d : Nat} (h : d < M.k) : lstep M (M.rst, b) d = (d, (M.rst, b)) := by
  cases b with
  | true => rw [lstep_big D.rlt h, D.rest_outs h, D.restD h]
  | false => rw [lstep_small D.rlt h, D.restD h]
theorem phs_rest (D : Directed M) : phs M M.rst = M.rst := by
  have k2 := D.ok.k2
  have k3 := D.ok.k3
  unfold phs
  rw [D.restD (by omega), D.restD (by omega)]
  rw [if_neg (by simp), if_neg (by simp)]
  by_cases h : 2 < M.k
  · rw [D.restD h]
  · have e : (M.row M.rst).length = M.k := D.ok.row_len D.rlt
    rw [List.getD_eq_getElem?_getD, List.getElem?_eq_none (by omega)]; rfl
theorem phs_of (D : Directed M) {s x : Nat} (hs : s < M.rst) (hx : x < M.k) (h : ((M.row s).getD x (0, 0)).2 ≠ M.rst) : phs M s = ((M.row s).getD x (0, 0)).2 := by
  have k2 := D.ok.k2
  have k3 := D.ok.k3
  have e : (M.row s).length = M.k := D.ok.row_len (Nat.lt_trans hs D.rlt)
  have g : ∀ y, y < M.k → (M.row s).getD y (0, M.rst) = (M.row s).getD y (0, 0) := fun y hy => getD_ext _ _ (by omega)
  have o := D.one s hs
  unfold phs
  rw [g 0 (by omega), g 1 (by omega)]
  by_cases h0 : ((M.row s).getD 0 (0, 0)).2 ≠ M.rst
  · rw [if_pos h0, o x 0 hx (by omega) h h0]
  · rw [if_neg h0]
    by_cases h1 : ((M.row s).getD 1 (0, 0)).2 ≠ M.rst
    · rw [if_pos h1, o x 1 hx (by omega) h h1]
    · rw [if_neg h1]
      have x2 : x = 2 := by
        have : x ≠ 0 := by intro q; subst q; exact h0 h
        have : x ≠ 1 := by intro q; subst q; exact h1 h
        omega
      subst x2
      rw [g 2 hx]
theorem phs_lt (D : Directed M) {s : Nat} (hs : s < M.rows.length) : phs M s < M.rows.length := by
  have e : (M.row s).length = M.k := D.ok.row_len hs
  have k2 := D.ok.k2
  have n : ∀ y, ((M.row s).getD y (0, M.rst)).2 < M.rows.length := fun y => by
    by_cases hy : y < (M.row s).length
    · exact D.ok.nxt _ (D.ok.row_mem hs) _ (by rw [List.getD_eq_getElem?_getD, List.getElem?_eq_getElem hy]; simp)
    · rw [List.getD_eq_getElem?_getD, List.getElem?_eq_none (by omega)]; exact D.rlt
  unfold phs
  split
  · exact n 0
  · split
    · exact n 1
    · exact n 2
/-- one letter at the digits: alive at one of them at most, and there it goes on by ph -/
theorem lstep_two (D : Directed M) {l : Lt} {d : Nat} (hl : l.1 < M.rows.length) (hd : d < M.k) : (lstep M l d).2 = (M.rst, l.2) ∨ (lstep M l d).2 = ph M l ∧ l.1 < M.rst := by
  by_cases e : l.1 = M.rst
  · left
    obtain ⟨s, b⟩ := l
    subst e
    rw [lstep_rest D b hd]
  · have hs : l.1 < M.rst := by unfold Mach.rst at e ⊢; omega
    obtain ⟨s, b⟩ := l
    cases b with
    | true =>
      rw [lstep_big hl hd]
      by_cases q : ((M.row s).getD ((M.outs s).idxOf d) (0, 0)).2 = M.rst
      · left; rw [q]
      · right
        refine ⟨?_, hs⟩
        unfold ph
        rw [phs_of D hs (D.ok.idx hl hd).1 q]
    | false =>
      rw [lstep_small hl hd]
      by_cases q : ((M.row s).getD d (0, 0)).2 = M.rst
      · left; rw [q]
      · right
        refine ⟨?_, hs⟩
        unfold ph
        rw [phs_of D hs hd q]
theorem lstep_inj (O : M.Ok) {l : Lt} {x y : Nat} (h : (lstep M l x).1 = (lstep M l y).1) : x = y := by
  have h1 := lstep_inv O l x
  have h2 := lstep_inv O l y
  rw [h, h2] at h1
  exact (congrArg Prod.fst h1).symm
theorem lstep_alive1 (D : Directed M) {l : Lt} {x y : Nat} (hl : l.1 < M.rows.length) (hx : x < M.k) (hy : y < M.k) (h1 : (lstep M l x).2.1 ≠ M.rst) (h2 : (lstep M l y).2.1 ≠ M.rst) : x = y := by
  by_cases e : l.1 = M.rst
  · obtain ⟨s, b⟩ := l
    subst e
    rw [lstep_rest D b hx] at h1
    exact absurd rfl h1
  · have hs : l.1 < M.rst := by unfold Mach.rst at e ⊢; omega
    obtain ⟨s, b⟩ := l
    cases b with
    | true =>
      rw [lstep_big hl hx] at h1
      rw [lstep_big hl hy] at h2
      have i := D.one s hs _ _ (D.ok.idx hl hx).1 (D.ok.idx hl hy).1 h1 h2
      have a1 := (D.ok.idx hl hx).2
      have a2 := (D.ok.idx hl hy).2
      rw [i, a2] at a1
      exact (Option.some.inj a1).symm
    | false =>
      rw [lstep_small hl hx] at h1
      rw [lstep_small hl hy] at h2
      exact D.one s hs x y hx hy h1 h2
theorem sm_le {k : Nat} {f g : Nat → Nat} (hk : 2 ≤ k ∧ k ≤ 3) (h : ∀ d, d < k → f d ≤ g d) : sm k f ≤ sm k g := by
  unfold sm
  have h0 := h 0 (by omega)
  have h1 := h 1 (by omega)
  split
  · have h2 := h 2 (by omega); omega
  · omega
theorem sm_perm {k : Nat} {σ f : Nat → Nat} (hk : 2 ≤ k ∧ k ≤ 3) (hm : ∀ d, d < k → σ d < k) (hi : ∀ x y, x < k → y < k → σ x = σ y → x = y) : sm k (fun d => f (σ d)) = sm k f := by
  have e : k = 2 ∨ k = 3 := by omega
  rcases e with rfl | rfl
  · have m0 := hm 0 (by omega)
    have m1 := hm 1 (by omega)
    have i := hi 0 1 (by omega) (by omega)
    have c : (σ 0 = 0 ∧ σ 1 = 1) ∨ (σ 0 = 1 ∧ σ 1 = 0) := by omega
    unfold sm
    rcases c with ⟨a, b⟩ | ⟨a, b⟩ <;> simp [a, b] <;> omega
  · have m0 := hm 0 (by omega)
    have m1 := hm 1 (by omega)
    have m2 := hm 2 (by omega)
    have i := hi 0 1 (by omega) (by omega)
    have j := hi 0 2 (by omega) (by omega)
    have l := hi 1 2 (by omega) (by omega)
    have c : (σ 0 = 0 ∧ σ 1 = 1 ∧ σ 2 = 2) ∨ (σ 0 = 0 ∧ σ 1 = 2 ∧ σ 2 = 1) ∨ (σ 0 = 1 ∧ σ 1 = 0 ∧ σ 2 = 2) ∨ (σ 0 = 1 ∧ σ 1 = 2 ∧ σ 2 = 0) ∨ (σ 0 = 2 ∧ σ 1 = 0 ∧ σ 2 = 1) ∨ (σ 0 = 2 ∧ σ 1 = 1 ∧ σ 2 = 0) := by omega
    unfold sm
    rcases c with ⟨a, b, c⟩ | ⟨a, b, c⟩ | ⟨a, b, c⟩ | ⟨a, b, c⟩ | ⟨a, b, c⟩ | ⟨a, b, c⟩ <;> simp [a, b, c] <;> omega
theorem sm_add (k : Nat) (f g : Nat → Nat) : sm k (fun d => f d + g d) = sm k f + sm k g := by
  simp only [sm]
  split <;> omega
theorem sm_letter (D : Directed M) {l : Lt} (hl : l.1 < M.rows.length) : sm M.k (fun d => one1 M (lstep M l d).2) ≤ one1 M l := by
  have k2 := D.ok.k2
  have k3 := D.ok.k3
  by_cases e : l.1 = M.rst
  · have z : ∀ d, d < M.k → one1 M (lstep M l d).2 = 0 := fun d hd => by
      obtain ⟨s, b⟩ := l
      subst e
      rw [lstep_rest D b hd]
      exact if_pos rfl
    simp only [sm]
    rw [z 0 (by omega), z 1 (by omega)]
    split
    · rw [z 2 (by omega)]; omega
    · omega
  · have o : one1 M l = 1 := if_neg e
    rw [o]
    have u : ∀ x y, x < M.k → y < M.k → one1 M (lstep M l x).2 = 1 → one1 M (lstep M l y).2 = 1 → x = y := fun x y hx hy a b => by
      refine lstep_alive1 D hl hx hy ?_ ?_
      · intro q; unfold one1 at a; rw [if_pos q] at a; cases a
      · intro q; unfold one1 at b; rw [if_pos q] at b; cases b
    have z : ∀ d, one1 M (lstep M l d).2 = 0 ∨ one1 M (lstep M l d).2 = 1 := fun d => by unfold one1; split <;> simp
    have z0 := z 0
    have z1 := z 1
    have z2 := z 2
    have u01 := u 0 1 (by omega) (by omega)
    simp only [sm]
    split
    · have u02 := u 0 2 (by omega) (by omega)
      have u12 := u 1 2 (by omega) (by omega)
      omega
    · omega
theorem sm_live (D : Directed M) : ∀ {w : Wd}, WOk M w → sm M.k (fun d => live M (passed M w d).2) ≤ live M w
  | [], _ => by unfold sm; simp [passed, live]
  | l :: w, hw => by
    have hl := hw l (by simp)
    have ih := sm_live D (w := w) (fun x hx => hw x (by simp [hx]))
    have e : (fun d => live M (passed M (l :: w) d).2) = fun d => one1 M (lstep M l d).2 + live M (passed M w (lstep M l d).1).2 := rfl
    rw [e, sm_add]
    have p := sm_perm (k := M.k) (σ := fun d => (lstep M l d).1) (f := fun d => live M (passed M w d).2) ⟨D.ok.k2, D.ok.k3⟩ (fun d hd => (lstep_lt D.ok hl hd).1) (fun x y _ _ h => lstep_inj D.ok h)
    have q := sm_letter D hl
    show _ + sm M.k (fun d => live M (passed M w (lstep M l d).1).2) ≤ one1 M l + live M w
    rw [p]
    omega
/-- dead or alive altogether -/
theorem live_dead : ∀ {w : Wd}, live M w = 0 → rho M w = w
  | [], _ => rfl
  | l :: w, h => by
    have h : one1 M l + live M w = 0 := h
    have h1 : one1 M l = 0 := by omega
    have h2 : l.1 = M.rst := by
      unfold one1 at h1
      split at h1
      · assumption
      · cases h1
    show (M.rst, l.2) :: rho M w = l :: w
    rw [live_dead (w := w) (by omega), ← h2]
theorem rho_passed (D : Directed M) : ∀ {w : Wd} {d : Nat}, WOk M w → d < M.k → rho M (passed M w d).2 = rho M w
  | [], _, _, _ => rfl
  | l :: w, d, hw, hd => by
    have hl := hw l (by simp)
    have h := lstep_lt D.ok hl hd
    show (M.rst, (lstep M l d).2.2) :: rho M (passed M w (lstep M l d).1).2 = (M.rst, l.2) :: rho M w
    rw [rho_passed D (w := w) (fun x hx => hw x (by simp [hx])) h.1, h.2.2]
theorem passed_dead (D : Directed M) {w : Wd} {d : Nat} (hw : WOk M w) (hd : d < M.k) (h : live M (passed M w d).2 = 0) : (passed M w d).2 = rho M w := by
  rw [← rho_passed D hw hd, live_dead h]
theorem passed_live_le (D : Directed M) : ∀ {w : Wd} {d : Nat}, WOk M w → d < M.k → live M (passed M w d).2 ≤ live M w ∧ (live M (passed M w d).2 = live M w → (passed M w d).2 = w.map (ph M))
  | [], _, _, _ => ⟨Nat.le_refl _, fun _ => rfl⟩
  | l :: w, d, hw, hd => by
    have hl := hw l (by simp)
    have h := lstep_lt D.ok hl hd
    obtain ⟨i1, i2⟩ := passed_live_le D (w := w) (d := (lstep M l d).1) (fun x hx => hw x (by simp [hx])) h.1
    have t := lstep_two D hl hd
    have o : one1 M (lstep M l d).2 ≤ one1 M l := by
      rcases t with t | ⟨t, hs⟩
      · rw [t]; unfold one1; simp
      · have : one1 M l = 1 := if_neg (by omega)
        rw [this]; unfold one1; split <;> omega
    refine ⟨?_, fun e => ?_⟩
    · show one1 M (lstep M l d).2 + live M (passed M w (lstep M l d).1).2 ≤ one1 M l + live M w
      omega
    · have e : one1 M (lstep M l d).2 + live M (passed M w (lstep M l d).1).2 = one1 M l + live M w := e
      have e2 := i2 (by omega)
      have e3 : one1 M (lstep M l d).2 = one1 M l := by omega
      show (lstep M l d).2 :: (passed M w (lstep M l d).1).2 = ph M l :: w.map (ph M)
      rw [e2]
      congr 1
      rcases t with t | ⟨t, hs⟩
      · rw [t] at e3
        have z : one1 M (M.rst, l.2) = 0 := if_pos rfl
        rw [z] at e3
        have hr : l.1 = M.rst := by
          unfold one1 at e3
          split at e3
          · assumption
          · cases e3
        rw [t]
        unfold ph
        rw [hr, phs_rest D]
      · exact t
theorem rho_rho (w : Wd) : rho M (rho M w) = rho M w := by simp [rho, Function.comp_def]
theorem rho_wok (D : Directed M) (w : Wd) : WOk M (rho M w) := by
  intro l hl
  simp only [rho, List.mem_map] at hl
  obtain ⟨x, _, rfl⟩ := hl
  exact D.rlt
theorem live_rho (w : Wd) : live M (rho M w) = 0 := by
  induction w with
  | nil => rfl
  | cons l w ih =>
    show one1 M (M.rst, l.2) + live M (rho M w) = 0
    rw [ih]
    exact if_pos rfl
theorem passed_rho (D : Directed M) (w : Wd) {d : Nat} (hd : d < M.k) : (passed M (rho M w) d).2 = rho M w := by
  have h := passed_dead D (rho_wok D w) hd (by
    have := (passed_live_le D (rho_wok D w) hd).1
    rw [live_rho] at this
    omega)
  rw [rho_rho] at h
  exact h
/-! the powers of ph -/
def itn (f : Nat → Nat) : Nat → Nat → Nat
  | 0, s => s
  | n + 1, s => itn f n (f s)
theorem itn_succ (f : Nat → Nat) : ∀ n s, itn f (n + 1) s = f (itn f n s)
  | 0, _ => rfl
  | n + 1, s => by
    show itn f (n + 1) (f s) = f (itn f n (f s))
    rw [itn_succ f n]
def tab4 (a b c d : Nat) (s : Nat) : Nat := if s = 0 then a else if s = 1 then b else if s = 2 then c else d
theorem nine0 : ∀ a : Fin 4, ∀ b : Fin 4, ∀ c : Fin 4, ∀ d : Fin 4, ∀ r : Fin 4, tab4 a.1 b.1 c.1 d.1 r.1 = r.1 → ∀ s : Fin 4, itn (tab4 a.1 b.1 c.1 d.1) 9 s.1 = itn (tab4 a.1 b.1 c.1 d.1) 3 s.1 := by
  decide +kernel
theorem nine (a : Nat) (ha : a < 4) (b : Nat) (hb : b < 4) (c : Nat) (hc : c < 4) (d : Nat) (hd : d < 4) (r : Nat) (hr : r < 4) (h : tab4 a b c d r = r) (s : Nat) (hs : s < 4) : itn (tab4 a b c d) 9 s = itn (tab4 a b c d) 3 s :=
  nine0 ⟨a, ha⟩ ⟨b, hb⟩ ⟨c, hc⟩ ⟨d, hd⟩ ⟨r, hr⟩ h ⟨s, hs⟩
theorem itn_tab {f : Nat → Nat} (h : ∀ s, s < 4 → f s < 4) : ∀ n s, s < 4 → itn f n s = itn (tab4 (f 0) (f 1) (f 2) (f 3)) n s ∧ itn f n s < 4
  | 0, s, hs => ⟨rfl, hs⟩
  | n + 1, s, hs => by
    have e : f s = tab4 (f 0) (f 1) (f 2) (f 3) s := by
      have c : s = 0 ∨ s = 1 ∨ s = 2 ∨ s = 3 := by omega
      rcases c with rfl | rfl | rfl | rfl <;> rfl
    have := itn_tab h n (f s) (h s hs)
    refine ⟨?_, this.2⟩
    show itn f n (f s) = itn _ n (tab4 (f 0) (f 1) (f 2) (f 3) s)
    rw [← e]
    exact this.1
def phn (M : Mach) (n : Nat) (w : Wd) : Wd := w.map fun l => (itn (phs M) n l.1, l.2)
theorem phn_zero (w : Wd) : phn M 0 w = w := by simp [phn, itn]
theorem phn_succ (n : Nat) (w : Wd) : phn M (n + 1) w = (phn M n w).map (ph M) := by
  simp only [phn, List.map_map]
  congr 1
  funext l
  simp [ph, itn_succ]
theorem phs_lt4 (D : Directed M) {s : Nat} (hs : s < 4) : phs M s < 4 := by
  have n4 := D.ok.n4
  have hr := D.rlt
  by_cases h : s < M.rows.length
  · have := phs_lt D h; omega
  · have e : M.row s = [] := by
      unfold Mach.row
      rw [List.getD_eq_getElem?_getD, List.getElem?_eq_none (by omega)]; rfl
    unfold phs
    rw [e]
    simp
    omega
theorem phn_nine (D : Directed M) {w : Wd} (hw : WOk M w) : phn M 9 w = phn M 3 w := by
  have n4 := D.ok.n4
  have hr := D.rlt
  unfold phn
  refine List.map_congr_left fun l hl => ?_
  have hs : l.1 < 4 := by have := hw l hl; omega
  have t := itn_tab (f := phs M) (fun s => phs_lt4 D)
  have h4 : ∀ s, s < 4 → phs M s < 4 := fun s => phs_lt4 D
  have e := nine _ (h4 0 (by omega)) _ (h4 1 (by omega)) _ (h4 2 (by omega)) _ (h4 3 (by omega)) M.rst (by omega) (by
    have := (t 1 M.rst (by omega)).1
    have z : itn (phs M) 1 M.rst = phs M M.rst := rfl
    rw [z, phs_rest D] at this
    exact this.symm) l.1 hs
  rw [(t 9 _ hs).1, (t 3 _ hs).1, e]
theorem phn_wok (D : Directed M) {w : Wd} (hw : WOk M w) : ∀ n, WOk M (phn M n w)
  | 0 => by rw [phn_zero]; exact hw
  | n + 1 => by
    rw [phn_succ]
    intro l hl
    obtain ⟨x, hx, rfl⟩ := List.mem_map.mp hl
    exact phs_lt D (phn_wok D hw n x hx)
theorem rho_phn (n : Nat) (w : Wd) : rho M (phn M n w) = rho M w := by simp [rho, phn, Function.comp_def]
/-! the list of the sections -/
/-- closed under sections, but for one more word -/
def ClU (M : Mach) (x : Wd) (L : List Wd) : Prop := ∀ v ∈ L, ∀ d, d < M.k → (passed M v d).2 ∈ L ∨ (passed M v d).2 = x
def bnd (n : Nat) : Nat := if n = 0 then 1 else 20 * n - 10
theorem secs_list (D : Directed M) : ∀ (n : Nat) (w : Wd), WOk M w → live M w = n → ∃ L : List Wd, w ∈ L ∧ (∀ v ∈ L, ∀ d, d < M.k → (passed M v d).2 ∈ L) ∧ L.length ≤ bnd n := by
  intro n
  induction n using Nat.strongRecOn with
  | ind n ih =>
    intro w hw hn
    have k2 := D.ok.k2
    have k3 := D.ok.k3
    by_cases h0 : n = 0
    · refine ⟨[w], by simp, ?_, by rw [h0]; exact Nat.le_refl 1⟩
      intro v hv d hd
      simp at hv
      subst hv
      have h1 := passed_dead D hw hd (by have := (passed_live_le D hw hd).1; omega)
      rw [live_dead (by omega)] at h1
      simp [h1]
    · -- the words that stay alive altogether
      have stay : ∀ t, (∀ t', t' < t → ∃ d, d < M.k ∧ live M (passed M (phn M t' w) d).2 = live M (phn M t' w)) → live M (phn M t w) = n := by
        intro t
        induction t with
        | zero => intro _; rw [phn_zero]; exact hn
        | succ t iht =>
          intro hs
          have e1 := iht fun t' ht' => hs t' (by omega)
          obtain ⟨d, hd, e2⟩ := hs t (by omega)
          have e3 := (passed_live_le D (phn_wok D hw t) hd).2 e2
          rw [phn_succ, ← e3, e2, e1]
      -- where a word stays alive by d, it dies by the other digits
      have others : ∀ t, live M (phn M t w) = n → ∀ d, d < M.k → live M (passed M (phn M t w) d).2 = live M (phn M t w) → ∀ d', d' < M.k → (passed M (phn M t w) d').2 = phn M (t + 1) w ∨ (passed M (phn M t w) d').2 = rho M w := by
        intro t ht d hd e d' hd'
        by_cases q : d' = d
        · left
          subst q
          rw [(passed_live_le D (phn_wok D hw t) hd').2 e, phn_succ]
        · right
          rw [← rho_phn t w]
          refine passed_dead D (phn_wok D hw t) hd' ?_
          have s := sm_live D (phn_wok D hw t)
          simp only [sm] at s
          have c : ∀ x, x < M.k → x = 0 ∨ x = 1 ∨ (x = 2 ∧ M.k = 3) := fun x hx => by omega
          rcases c d hd with rfl | rfl | ⟨rfl, k⟩ <;> rcases c d' hd' with rfl | rfl | ⟨rfl, k'⟩ <;> first | (exact absurd rfl q) | omega | (rw [if_pos (by assumption)] at s; omega)
      by_cases hall : ∀ t, t < 9 → ∃ d, d < M.k ∧ live M (passed M (phn M t w) d).2 = live M (phn M t w)
      · refine ⟨(List.range 9).map (fun t => phn M t w) ++ [rho M w], ?_, ?_, ?_⟩
        · refine List.mem_append_left _ (List.mem_map.mpr ⟨0, by simp, phn_zero w⟩)
        · intro v hv d hd
          rcases List.mem_append.mp hv with hv | hv
          · obtain ⟨t, ht, rfl⟩ := List.mem_map.mp hv
            have ht : t < 9 := List.mem_range.mp ht
            obtain ⟨d0, hd0, e0⟩ := hall t ht
            have ln := stay t fun t' ht' => hall t' (by omega)
            rcases others t ln d0 hd0 e0 d hd with q | q
            · rw [q]
              by_cases t8 : t = 8
              · subst t8
                rw [phn_nine D hw]
                exact List.mem_append_left _ (List.mem_map.mpr ⟨3, by simp, rfl⟩)
              · exact List.mem_append_left _ (List.mem_map.mpr ⟨t + 1, List.mem_range.mpr (by omega), rfl⟩)
            · rw [q]; simp
          · simp at hv
            subst hv
            rw [passed_rho D w hd]; simp
        · unfold bnd; rw [if_neg h0]; simp; omega
      · -- the first that splits
        have ex : ∃ t, t < 9 ∧ (¬ ∃ d, d < M.k ∧ live M (passed M (phn M t w) d).2 = live M (phn M t w)) ∧ ∀ t', t' < t → ∃ d, d < M.k ∧ live M (passed M (phn M t' w) d).2 = live M (phn M t' w) := by
          have aux : ∀ m, (∃ t, t < m ∧ ¬ ∃ d, d < M.k ∧ live M (passed M (phn M t w) d).2 = live M (phn M t w)) → ∃ t, t < m ∧ (¬ ∃ d, d < M.k ∧ live M (passed M (phn M t w) d).2 = live M (phn M t w)) ∧ ∀ t', t' < t → ∃ d, d < M.k ∧ live M (passed M (phn M t' w) d).2 = live M (phn M t' w) := by
            intro m
            induction m with
            | zero => rintro ⟨t, ht, _⟩; omega
            | succ m ihm =>
              rintro ⟨t, ht, hh⟩
              by_cases q : ∃ t, t < m ∧ ¬ ∃ d, d < M.k ∧ live M (passed M (phn M t w) d).2 = live M (phn M t w)
              · obtain ⟨t1, a, b, c⟩ := ihm q
                exact ⟨t1, by omega, b, c⟩
              · refine ⟨t, ht, hh, fun t' ht' => ?_⟩
                refine Classical.byContradiction fun z => q ⟨t', by omega, z⟩
          refine aux 9 ?_
          refine Classical.byContradiction fun z => hall fun t ht => ?_
          exact Classical.byContradiction fun z2 => z ⟨t, ht, z2⟩
        obtain ⟨t, ht, hno, hst⟩ := ex
        have ln := stay t hst
        have vw := phn_wok D hw t
        -- a list for each digit
        have sub : ∀ d, d < M.k → ∃ L : List Wd, ((passed M (phn M t w) d).2 ∈ L ∨ (passed M (phn M t w) d).2 = rho M w) ∧ (∀ v ∈ L, ∀ d, d < M.k → (passed M v d).2 ∈ L) ∧ L.length ≤ (if live M (passed M (phn M t w) d).2 = 0 then 0 else 20 * live M (passed M (phn M t w) d).2 - 10) := by
          intro d hd
          by_cases z : live M (passed M (phn M t w) d).2 = 0
          · refine ⟨[], .inr ?_, fun v hv => by simp at hv, by simp⟩
            rw [passed_dead D vw hd z, rho_phn]
          · have hlt : live M (passed M (phn M t w) d).2 < n := by
              have := (passed_live_le D vw hd).1
              have ne : live M (passed M (phn M t w) d).2 ≠ live M (phn M t w) := fun q => hno ⟨d, hd, q⟩
              omega
            obtain ⟨L, a, b, c⟩ := ih _ hlt (passed M (phn M t w) d).2 (passed_lt D.ok vw hd).2 rfl
            refine ⟨L, .inl a, b, ?_⟩
            unfold bnd at c
            rw [if_neg z] at c ⊢
            exact c
        have s := sm_live D vw
        have lt : ∀ d, d < M.k → live M (passed M (phn M t w) d).2 < n := fun d hd => by
          have := (passed_live_le D vw hd).1
          have ne : live M (passed M (phn M t w) d).2 ≠ live M (phn M t w) := fun q => hno ⟨d, hd, q⟩
          omega
        have lt0 := lt 0 (by omega)
        have lt1 := lt 1 (by omega)
        obtain ⟨L0, a0, b0, c0⟩ := sub 0 (by omega)
        obtain ⟨L1, a1, b1, c1⟩ := sub 1 (by omega)
        obtain ⟨L2, a2, b2, c2⟩ : ∃ L : List Wd, (M.k = 3 → ((passed M (phn M t w) 2).2 ∈ L ∨ (passed M (phn M t w) 2).2 = rho M w)) ∧ (∀ v ∈ L, ∀ d, d < M.k → (passed M v d).2 ∈ L) ∧ L.length ≤ (if M.k = 3 then (if live M (passed M (phn M t w) 2).2 = 0 then 0 else 20 * live M (passed M (phn M t w) 2).2 - 10) else 0) := by
          by_cases k : M.k = 3
          · obtain ⟨L, a, b, c⟩ := sub 2 (by omega)
            exact ⟨L, fun _ => a, b, by rw [if_pos k]; exact c⟩
          · exact ⟨[], fun q => absurd q k, fun v hv => by simp at hv, by simp⟩
        refine ⟨(List.range (t + 1)).map (fun t => phn M t w) ++ [rho M w] ++ L0 ++ L1 ++ L2, ?_, ?_, ?_⟩
        · simp only [List.append_assoc]
          exact List.mem_append_left _ (List.mem_map.mpr ⟨0, by simp, phn_zero w⟩)
        · intro v hv d hd
          simp only [List.mem_append] at hv ⊢
          rcases hv with (((hv | hv) | hv) | hv) | hv
          · obtain ⟨t1, ht1, rfl⟩ := List.mem_map.mp hv
            have ht1 : t1 < t + 1 := List.mem_range.mp ht1
            by_cases q : t1 = t
            · subst q
              have c : d = 0 ∨ d = 1 ∨ (d = 2 ∧ M.k = 3) := by omega
              rcases c with rfl | rfl | ⟨rfl, k⟩
              · rcases a0 with a | a
                · exact .inl (.inl (.inr a))
                · rw [a]; simp
              · rcases a1 with a | a
                · exact .inl (.inr a)
                · rw [a]; simp
              · rcases a2 k with a | a
                · exact .inr a
                · rw [a]; simp
            · obtain ⟨d0, hd0, e0⟩ := hst t1 (by omega)
              have ln1 := stay t1 fun t' ht' => hst t' (by omega)
              rcases others t1 ln1 d0 hd0 e0 d hd with r | r
              · rw [r]
                exact .inl (.inl (.inl (.inl (List.mem_map.mpr ⟨t1 + 1, List.mem_range.mpr (by omega), rfl⟩))))
              · rw [r]; simp
          · simp at hv
            subst hv
            rw [passed_rho D w hd]; simp
          · exact .inl (.inl (.inr (b0 v hv d hd)))
          · exact .inl (.inr (b1 v hv d hd))
          · exact .inr (b2 v hv d hd)
        · unfold bnd
          rw [if_neg h0]
          simp only [List.length_append, List.length_map, List.length_range, List.length_cons, List.length_nil]
          simp only [sm] at s
          rw [ln] at s
          by_cases k : M.k = 3
          · have lt2 := lt 2 (by omega)
            rw [if_pos k] at c2 s
            split at c0 <;> split at c1 <;> split at c2 <;> omega
          · rw [if_neg k] at c2 s
            split at c0 <;> split at c1 <;> omega
theorem secs_any (D : Directed M) {w : Wd} (hw : WOk M w) : ∃ L : List Wd, L.length ≤ 20 * w.length + 1 ∧ ∀ s, SOk M s → sec M w s ∈ L := by
  obtain ⟨L, a, b, c⟩ := secs_list D _ w hw rfl
  refine ⟨L, ?_, ?_⟩
  · have := live_le (M := M) w
    unfold bnd at c
    split at c <;> omega
  · have key : ∀ (s : List Nat) (v : Wd), v ∈ L → SOk M s → sec M v s ∈ L := by
      intro s
      induction s with
      | nil => intro v hv _; exact hv
      | cons d s ih =>
        intro v hv hs
        exact ih _ (b v hv d (hs d (by simp))) (fun x hx => hs x (by simp [hx]))
    exact fun s hs => key s w a hs
/-- how many different cut sections -/
theorem secs_count (D : Directed M) {w : Wd} (hw : WOk M w) {xs : List Wd} (hn : xs.Nodup) (hx : ∀ x ∈ xs, ∃ s, SOk M s ∧ x = cut (sec M w s)) : xs.length ≤ 20 * w.length + 1 := by
  obtain ⟨L, h1, h2⟩ := secs_any D hw
  have : xs ⊆ L.map cut := fun x q => by
    obtain ⟨s, hs, rfl⟩ := hx x q
    exact List.mem_map.mpr ⟨_, h2 s hs, rfl⟩
  have := hn.length_le_of_subset this
  rw [List.length_map] at this
  omega
end
end LT

set_option Elab.async false
set_option linter.all false
set_option maxRecDepth 100000
set_option maxHeartbeats 4000000
/-! rules of my own: enumerate of a tuple, text * int, text[::-1], math.lcm, d[k] of a written dict with int keys -/
namespace LR
open PySem PySem.Spec PyProof.Rows L2

/-! ### text * int -/
def rMulS : R2 := fun x y H Q => ∃ (z : Str) (n : Int), x = .str z ∧ y = .int n ∧ 0 ≤ n ∧ n ≤ 1000 ∧ z.length ≤ 1000 ∧ Q (.str (Txt.mul z n)) H
theorem op_mulS {X : Cx} : OpR X (binaryOp .Mult) rMulS := by
  intro pins s σ H x y v u Q I rx ry h
  obtain ⟨z, n, rfl, rfl, h0, h1, hz, q⟩ := h
  obtain ⟨t, rfl⟩ := rx
  obtain ⟨t', rfl⟩ := ry
  refine SB.mul ⟨?_, fun _ _ => ?_, fun _ _ => ?_⟩ fun t2 k => ⟨.str _, H, I.tok _, ⟨_, rfl⟩, q⟩
  · simp only [Bool.or_eq_false_iff, decide_eq_false_iff_not]
    omega
  · rename_i a b
    have hn : 1 ≤ n := by omega
    intro hc
    have h2 : (1000 : Int) ≤ (2 ^ 63 - 1) / n := by
      rw [Int.le_ediv_iff_mul_le (by omega)]
      have : (1000 : Int) * n ≤ 1000 * 1000 := by omega
      omega
    omega
  · show decide _ = false
    have h2 : z.length * n.toNat ≤ 1000 * 1000 := Nat.mul_le_mul hz (by omega)
    simp only [decide_eq_false_iff_not]
    have := sizeLine_eq
    omega

/-! ### text[::-1] -/
def tRevS (te : TE) : TE := fun σ H Q => te σ H fun x H1 => ∃ z : Str, x = .str z ∧ z.length ≤ sizeLine ∧ Q (.str ⟨z.cps.toList.reverse.toArray⟩) H1
theorem rev_eq (x : Str) (u : Tok) : ((slicePicked x none none (some (-1, u))).filterMap (x.cps[·]?)).toArray = x.cps.toList.reverse.toArray := by
  congr 1
  unfold slicePicked
  show (Builtin.Str.strSliceIndices none none (-1) x.length).filterMap (x.cps[·]?) = _
  rw [PyProof.Rows.picked_rev, PyProof.Rows.filterMap_get, List.map_map]
  · apply List.ext_getElem
    · simp [Str.length]
    · intro i h1 h2
      simp [Str.length, Array.getD] at h1 h2 ⊢
      rw [dif_pos (by omega)]
  · intro i hi
    obtain ⟨k, hk, rfl⟩ := List.mem_map.mp hi
    have hk' : k < x.length := List.mem_range.mp hk
    show x.length - 1 - k < x.length
    omega
theorem pe_revS {X : Cx} {e : Expr} {te : TE} {k : Nat} {p1 p2 p3 pos : Pos} (he : PE X e te) : PE X (.Subscript e (.Slice none none (some (.UnaryOp .USub (.Constant (.int 1) k p1) p2)) p3) pos) (tRevS te) := by
  refine ⟨fun pins s σ H Q I h => ?_⟩
  refine Subscript_ (thn (he.run pins s σ H _ I h) fun v s1 ⟨x, H1, I1, r1, q1⟩ => ?_)
  obtain ⟨z, ex, hz, q⟩ := q1
  subst ex
  obtain ⟨t, rfl⟩ := r1
  have hst : PO X (some (.UnaryOp .USub (.Constant (.int 1) k p1) p2)) (tPart (tUn (rU fun i => .int (-i)) (tC (.int 1)))) := po_some (pe_un un_neg pe_int)
  refine wpAny_Slice (thn (po_none.run pins s1 σ H1 (fun o H2 => o = none ∧ H2 = H1) I1 ⟨rfl, rfl⟩) fun vl s2 ⟨l, H2, I2, pl, el, e2⟩ => ?_)
  subst el e2
  refine thn (po_none.run pins s2 σ H2 (fun o H3 => o = none ∧ H3 = H2) I2 ⟨rfl, rfl⟩) fun vu s3 ⟨u, H3, I3, pu, eu, e3⟩ => ?_
  subst eu e3
  refine thn (hst.run pins s3 σ H3 (fun o H4 => o = some (-1) ∧ H4 = H3) I3 ⟨1, rfl, -1, rfl, rfl, rfl⟩) fun vs s4 ⟨o, H4, I4, ps, eo, e4⟩ => ?_
  subst eo e4
  have I5 : Inv X pins σ H4 { s4 with heap := s4.heap.push { cls := .type "slice", data := .fields #[vl, vu, vs] } } := I4.kept (t' := s4.toks) fun b ob q => Heap.get?_push_of_some _ q
  obtain rfl : vl = Value.none := by cases pl; rfl
  obtain rfl : vu = Value.none := by cases pu; rfl
  obtain ⟨t1, rfl⟩ : ∃ t1, vs = Value.int (-1) t1 := by cases ps; exact ⟨_, rfl⟩
  show wpAny (model X.prog X.w) X.A (subscriptTail e (.Slice none none (some (.UnaryOp .USub (.Constant (.int 1) k p1) p2)) p3) (.str z t) (.ref s4.heap.objs.size)) (EP X pins σ Q) X.xe { s4 with heap := s4.heap.push { cls := .type "slice", data := .fields #[.none, .none, .int (-1) t1] } }
  refine tail_any (ops := [.str z t, .ref s4.heap.objs.size]) (typeIs_str _ z t) F.slot_str_getitem.lookup ?_ (by with_unfolding_all rfl)
  refine wpAny_getItem_str_slice (l := none) (u := none) (st := some (-1, t1)) ⟨_, Heap.get?_push_size _ rfl, rfl, rfl⟩ rfl ?_
  have hm : sliceMade z t none none (some (-1, t1)) = .str ⟨z.cps.toList.reverse.toArray⟩ := by
    unfold sliceMade
    have h1 : ¬ (((((some ((-1 : Int), t1)).map (·.1)).getD 1 == 1) && ((slicePicked z none none (some (-1, t1))).length == z.length)) = true) := by
      have : ((((some ((-1 : Int), t1)).map (·.1)).getD 1 == 1)) = false := rfl
      rw [this]; simp
    rw [if_neg h1, rev_eq]
  rw [hm]
  refine ⟨by show z.cps.toList.reverse.toArray.size ≤ _ ; simpa [Str.length] using hz, ⟨.str _, H4, I5.tok _, ⟨_, rfl⟩, q⟩⟩

/-! ### math.lcm -/
def rLcm : List V → Hp → VK → Prop := fun vs H Q => ∃ a b : Int, vs = [.int a, .int b] ∧ 1 ≤ a ∧ a ≤ 100000 ∧ 1 ≤ b ∧ b ≤ 100000 ∧ Q (.int ((Nat.lcm a.toNat b.toNat : Nat) : Int)) H
theorem cr_lcm {X : Cx} : CallR X (.builtin "math.lcm") rLcm := by
  intro pins s σ H vs us Q I r h
  obtain ⟨a, b, rfl, ha, ha2, hb, hb2, q⟩ := h
  obtain ⟨t, u, rfl⟩ := Vals.int2 r
  have e : ((((Nat.lcm 1 a.natAbs).lcm b.natAbs : Nat) : Int)) = ((Nat.lcm a.toNat b.toNat : Nat) : Int) := by
    have h1 : a.natAbs = a.toNat := by omega
    have h2 : b.natAbs = b.toNat := by omega
    rw [h1, h2, Nat.lcm_one_left]
  refine PySem.W.mg_lcm (by omega) (by omega) ?_ ?_
  · rw [e]
    have h3 : Nat.lcm a.toNat b.toNat ≤ a.toNat * b.toNat := Nat.le_of_dvd (Nat.mul_pos (by omega) (by omega)) (Nat.lcm_dvd_mul _ _)
    have h4 : a.toNat * b.toNat ≤ 100000 * 100000 := Nat.mul_le_mul (by omega) (by omega)
    have h5 : (((Nat.lcm a.toNat b.toNat : Nat) : Int)).natAbs < 2 ^ 64 := by omega
    have h6 : (((Nat.lcm a.toNat b.toNat : Nat) : Int)).natAbs.log2 ≤ 63 := by
      rcases Nat.eq_zero_or_pos (((Nat.lcm a.toNat b.toNat : Nat) : Int)).natAbs with z | z
      · rw [z]; decide
      · have := (Nat.log2_lt (by omega)).mpr h5
        omega
    refine Nat.lt_of_le_of_lt h6 ?_
    decide
  · rw [e]
    exact ⟨.int _, H, I.tok _, ⟨_, rfl⟩, q⟩

/-! ### d[k], a written dict with int keys -/
def KeysI : List DictEntry → Prop
  | [] => True
  | e :: r => (∃ i t, e.key = .int i t ∧ e.hash = hashInt i) ∧ KeysI r
theorem KeysI.all : ∀ {l : List DictEntry}, KeysI l → ∀ e ∈ l, ∃ i t, e.key = .int i t ∧ e.hash = hashInt i
  | _ :: _, ⟨h, _⟩, _, .head _ => h
  | _ :: _, ⟨_, r⟩, _, .tail _ m => r.all _ m
def KDctI (K : PySem.W.Frag) (a : Addr) (i j : Int) : Prop :=
  ∃ es n t, K.lookup a = some ⟨.type "dict", none, .dict es n, #[]⟩ ∧ KeysI es.toList ∧ findBy Value.isInt es i = some (.int j t)
def rIxDI (K : PySem.W.Frag) : R2 := fun x y H Q => ∃ p i j, x = .ref p ∧ y = .int i ∧ KDctI K p i j ∧ Q (.int j) H
theorem ix_kdictI {X : Cx} : IxR X (rIxDI X.K) := by
  intro value slice pins s σ H x y v u Q I rx ry h hs
  obtain ⟨p, i, j, rfl, rfl, ⟨es, n, t0, hl, hk, e⟩, q⟩ := h
  obtain rfl : v = Value.ref p := rx
  obtain ⟨t, rfl⟩ := ry
  have hm : s.heap.MapOf (PySem.intKind X.prog X.w) p (fun k => findBy Value.isInt es k) :=
    ⟨_, es, n, I.kIn _ _ hl, ⟨rfl, rfl, rfl⟩, rfl, fun e he => by
      obtain ⟨x, t, e1, e2⟩ := hk.all e (Array.mem_toList_iff.mpr he)
      exact ⟨x, by rw [e1]; exact intKind_is X.prog X.w x t, e2⟩, fun _ => rfl⟩
  exact tail_any hm.typeIs slot_dict_getitem.lookup (wpAny_getItem_of (intKind_is X.prog X.w i t) hm e ⟨.int j, H, I.tok _, ⟨_, rfl⟩, q⟩) hs

/-! ### enumerate(tuple) -/
section
variable {prog : Program} {w : World} {A : Around} {E : Value → Shared → Prop} {s : Shared}
theorem meets_enum_newT (l : Addr) (items : Array Value) :
    Meets (Builtin.«enumerate.__new__» ⟨[.type "enumerate", .ref l], []⟩) (fun _ R s => s.heap.IsTuple l items ∧
      R (.ok (.ret (.ref (s.heap.push { cls := .type "tuple_iterator", data := .fields #[.ref l, .int 0 0] }).objs.size)))
        { s with heap := (s.heap.push { cls := .type "tuple_iterator", data := .fields #[.ref l, .int 0 0] }).push { cls := .type "enumerate", data := .fields #[.none, .bool false, .ref s.heap.objs.size, rawInt 0, .none, .none] } }) :=
  .of_wp fun prog w A R s h => by
    obtain ⟨hp, g, d, tk, os⟩ := s; obtain ⟨hL, h⟩ := h
    have hsub := sub_enumerate
    have q1 : ∀ {A' : Around} {E : Value → Shared → Prop} {Q : Value → Shared → Prop}, Q (.ref hp.objs.size) ⟨hp.push { cls := .type "tuple_iterator", data := .fields #[.ref l, .int 0 0] }, g, d, tk, os⟩ → wpAny (model prog w) A' (pyIter (.ref l)) Q E ⟨hp, g, d, tk, os⟩ :=
      fun q => wpAny_pyIter_tuple hL q
    wp_walk using q1
    refine wpAny_stack_any fun st => wpAny_pure ?_
    split
    · rename_i c _ _ _ _ _
      cases (c == Value.type "enumerate")
      · wp_walk using q1
        exact ⟨_, rfl, h⟩
      · wp_walk using q1
        exact ⟨_, rfl, h⟩
    · wp_walk using q1
      exact ⟨_, rfl, h⟩
theorem call_enum_tup {l : Addr} {items : Array Value} {Q : Value → Shared → Prop} (hL : s.heap.IsTuple l items)
    (h : ∀ h', IsEnum h' (s.heap.objs.size + 1) s.heap.objs.size 0 .none → h'.IsTupleIter s.heap.objs.size l 0 → h'.objs.size = s.heap.objs.size + 2 →
      (∀ b o, s.heap.get? b = some o → h'.get? b = some o) → Q (.ref (s.heap.objs.size + 1)) { s with heap := h' }) :
    wpAny (model prog w) A (call (.type "enumerate") [.ref l]) Q E s := by
  refine callType_new F.called_enumerate (by decide) (F.typeCall_enumerate_1 _) (F.newCall_enumerate_1 _) (fun obj => F.args_object_init_2 obj _) F.entry_enumerate_new
    (meets_enum_newT l items) ⟨hL, ?_⟩
  have hz : (s.heap.push { cls := .type "tuple_iterator", data := .fields #[.ref l, .int 0 0] }).objs.size = s.heap.objs.size + 1 := Heap.size_push ..
  show _ ∧ _
  rw [hz]
  have he : IsEnum ((s.heap.push { cls := .type "tuple_iterator", data := .fields #[.ref l, .int 0 0] }).push
      { cls := .type "enumerate", data := .fields #[.none, .bool false, .ref s.heap.objs.size, rawInt 0, .none, .none] }) (s.heap.objs.size + 1) s.heap.objs.size 0 .none := by
    have := Heap.get?_push_size (s.heap.push { cls := .type "tuple_iterator", data := .fields #[.ref l, .int 0 0] })
      (o := { cls := .type "enumerate", data := .fields #[.none, .bool false, .ref s.heap.objs.size, rawInt 0, .none, .none] }) rfl
    rw [hz] at this; exact this
  refine ⟨⟨_, he, rfl⟩, h _ he ⟨_, Heap.get?_push_of_some _ (Heap.get?_push_size _ rfl), rfl, rfl⟩ (by rw [Heap.size_push, hz]) fun b o x => Heap.get?_push_of_some _ (Heap.get?_push_of_some _ x)⟩
end
/-- the tuple at a, each item in a new pair -/
def IteT (K : PySem.W.Frag) (a : Addr) : It :=
  ⟨fun i H => ∃ (xs : List V) (x : V), SqT K H a xs ∧ xs[i]? = some x, fun i H v H' => ∃ T x, v = .ref T ∧ H T = none ∧ H' = upd H T (.tup [.int (i : Nat), x]) ∧ ∀ xs, SqT K H a xs → xs[i]? = some x, fun i H => ∃ xs : List V, SqT K H a xs ∧ xs.length = i⟩
theorem tupIter_ne {h : Heap} {it a : Addr} {i : Nat} {items : Array Value} (h1 : h.IsTupleIter it a i) (h2 : IsTup h a items) : a ≠ it := by
  intro e
  subst e
  obtain ⟨o, ho, hc, _⟩ := h1
  obtain ⟨o2, ho2, hc2, _⟩ := h2
  rw [ho] at ho2
  cases ho2
  rw [hc] at hc2
  have q := Value.type.inj hc2
  exact absurd q (by decide)
theorem turn_enumT {P : Program} {w : World} {K : PySem.W.Frag} {elts : List Expr} {kk : Nat} {tpos : Pos} (a e it : Addr) :
    Turn P w K (.Tuple elts kk tpos) (IteT K a) [e, it] e (fun i h => (∃ old, IsEnum h e it ((i : Nat) : Int) old) ∧ h.IsTupleIter it a i ∧ e ≠ it) where
  mem := by simp
  obj := fun i h st b hb => by
    obtain ⟨⟨old, he⟩, ⟨o, ho, hc, hd⟩, _⟩ := st
    have e' : b = e ∨ b = it := by simpa using hb
    rcases e' with z | z
    · rw [z]; exact ⟨_, he, fun v q => nomatch q⟩
    · rw [z]; exact ⟨o, ho, fun v q => by rw [hd] at q; cases q⟩
  keep := fun i h h' st k => let ⟨⟨old, he⟩, hi, hne⟩ := st; ⟨⟨old, k e (by simp) _ he⟩, hi.at fun o q => k it (by simp) o q, hne⟩
  item := by
    intro X hP hw hK hc i pins s σ H E I hf st hg
    subst hP hw hK
    obtain ⟨⟨old, he⟩, hit, hne⟩ := st
    obtain ⟨xs, x, hq, hx⟩ := hg
    obtain ⟨its, rv, p, hz⟩ := I.tuple hq
    obtain ⟨u, hu, ru⟩ := rv.get hx
    have hel : e < s.heap.objs.size := Heap.lt_size he
    have hil : it < s.heap.objs.size := by obtain ⟨_, q, _⟩ := hit; exact Heap.lt_size q
    have hat : a ≠ it := tupIter_ne hit p
    have hae : a ≠ e := by
      intro q
      subst q
      obtain ⟨o2, ho2, hc2, _⟩ := p
      rw [he] at ho2
      cases ho2
      have q := Value.type.inj hc2
      exact absurd q (by decide)
    have hi : i < its.toArray.size := by
      have := (List.getElem?_eq_some_iff.mp hu).1
      simpa using this
    refine wpAny_pyNext_enum_itemC (Draws.tuple (prog := X.prog) (w := X.w) (A := X.A.in1) (I.ok.hd hc) it a hat its.toArray) he (i := i) ⟨hit, show s.heap.IsTuple a its.toArray from p⟩ hi hne (by simp [hne, Ne.symm hae]) fun x' h' tk hP ho hst hT hsz hk => ?_
    have ex' : x' = u := by
      have h1 : its.toArray[i]? = some x' := hP
      have h2 : its.toArray[i]? = some u := by simpa using hu
      rw [h1] at h2
      exact Option.some.inj h2
    subst ex'
    refine ⟨_, rfl, wpAny_letOwnedTupleGo_enum (s := { s with heap := h', toks := tk + 1 }) ho fun h'' he' sb => ?_⟩
    have hT2 : h''.get? s.heap.objs.size = some { cls := .type "tuple", data := .seq #[.int i tk, x'] } := (sb.2 _ (Nat.ne_of_gt hel)).trans hT
    have new : ObjOk X.prog X.w (upd H s.heap.objs.size (.tup [.int (i : Nat), x])) h'' s.heap.objs.size (.tup [.int (i : Nat), x]) :=
      ⟨by show 2 ≤ sizeLine; decide, [.int i tk, x'], .cons ⟨_, rfl⟩ (.cons ru .nil), ⟨_, hT2, rfl, _, rfl⟩⟩
    have I1 : Inv X pins σ (upd H s.heap.objs.size (.tup [.int (i : Nat), x])) { s with heap := h'', toks := tk + 1 } :=
      I.turnedNew (ch := [e, it]) (fun b ob hb q => (sb.2 b (fun z => hb (by simp [z]))).trans (hk b ob (fun z => hb (by simp [z])) (fun z => hb (by simp [z])) q)) hf (Nat.le_refl _) new
    refine ⟨.ref s.heap.objs.size, _, I1, rfl, ⟨_, x, rfl, I.hok.fresh (Nat.le_refl _), rfl, fun ys hy => by rw [I.tuple_inj hy hq]; exact hx⟩, ⟨⟨x', ?_⟩, hst.1.at fun o q => (sb.2 it (Ne.symm hne)).trans q, hne⟩, fun b hb => ?_⟩
    · have e1 : ((i + 1 : Nat) : Int) = (i : Int) + 1 := by omega
      rw [e1]; exact he'
    · have hb' : b < s.heap.objs.size := by
        have e' : b = e ∨ b = it := by simpa using hb
        rcases e' with z | z
        · rw [z]; exact hel
        · rw [z]; exact hil
      rw [upd_ne (Nat.ne_of_lt hb')]
      exact (hf b hb).1
  done := by
    intro X hP hw hK hc i pins s σ H E I hf st hg
    subst hP hw hK
    obtain ⟨⟨old, he⟩, hit, hne⟩ := st
    obtain ⟨xs, hq, hx⟩ := hg
    obtain ⟨its, rv, p, hz⟩ := I.tuple hq
    obtain ⟨f0, f1, f2, f3, f4, f5⟩ := hf it (by simp)
    have hl := rv.length
    have hat : a ≠ it := tupIter_ne hit p
    have hi : i = its.toArray.size := by simp; omega
    subst hi
    exact wpAny_pyNext_enum_endD (Draws.tuple (prog := X.prog) (w := X.w) (A := X.A.in1) (I.ok.hd hc) it a hat its.toArray) he ⟨hit, show s.heap.IsTuple a its.toArray from p⟩ fun h' eb => ⟨rfl, I.turned (t' := s.toks) (fun b o hb q => eb b o hb q) f0 f1 f3 f4 f5⟩
  self := fun A i s Q E st h => let ⟨⟨_, he⟩, _⟩ := st; wpAny_pyIter_enum he h
def iEnumT (K : PySem.W.Frag) (ta : TA) : TI := fun σ H R => ta σ H fun vs H1 => ∃ a xs, vs = [.ref a] ∧ SqT K H1 a xs ∧ R (IteT K a) H1
theorem pi_enumT {X : Cx} {e : Expr} {ta : TA} {p pos tpos : Pos} {elts : List Expr} {kk : Nat} (hg : Gl X "enumerate") (hm : X.mg "enumerate" = none) (ha : PA X [e] ta) (hs : starEach [e] X.env = [(false, eval e X.env)] := by rfl) :
    PI X (.Tuple elts kk tpos) (.Call (.Name "enumerate" p) [e] [] pos) (iEnumT X.K ta) := by
  refine ⟨fun pins s σ H R I h => ?_⟩
  refine Call_ (ld_blt I hg hm boot_enumerate (PyProof.Rows.callWith_type1 (thn (ha.run pos pins s σ H _ I h) fun us s1 ⟨vs, H1, I1, r1, q1⟩ => ?_) hs rfl))
  obtain ⟨a, xs, ex, hq, q⟩ := q1
  subst ex
  cases r1 with
  | cons r rr =>
    cases rr
    cases r
    obtain ⟨its, rv, p', hz⟩ := I1.tuple hq
    refine call_enum_tup (show s1.heap.IsTuple a its.toArray from p') fun h' he hit hsz hk => wpAny_pyIter_enum he ?_
    have I2 : Inv X pins σ H1 { s1 with heap := h' } := I1.kept (t' := s1.toks) hk
    refine ⟨s1.heap.objs.size + 1, [s1.heap.objs.size + 1, s1.heap.objs.size], _, _, H1, rfl, I2, turn_enumT a (s1.heap.objs.size + 1) s1.heap.objs.size, ⟨⟨.none, he⟩, hit, Nat.succ_ne_self _⟩, fun b hb => ?_, q⟩
    have e' : b = s1.heap.objs.size + 1 ∨ b = s1.heap.objs.size := by simpa using hb
    have hle : s1.heap.objs.size ≤ b := by
      rcases e' with z | z
      · rw [z]; exact Nat.le_add_right _ _
      · rw [z]; exact Nat.le_refl _
    exact I1.fpOk hle (I1.hok.fresh hle)
/-- a loop over enumerate of a tuple -/
theorem for_enumT {K : PySem.W.Frag} {a : Addr} {xs : List V} {g : TG} {tb : TS} {D : Ends} {σ : L2.St} {H : Hp} (Pv : Nat → L2.St → Hp → Prop) (h0 : Pv 0 σ H) (hq : ∀ i σ H, i ≤ xs.length → Pv i σ H → SqT K H a xs)
    (hs : ∀ i x T σ H, xs[i]? = some x → H T = none → Pv i σ H → g (.ref T) σ (upd H T (.tup [.int (i : Nat), x])) fun σ2 H2 => tb { D with nx := Pv (i + 1), ct := Pv (i + 1), bk := D.nx } σ2 H2) (hd : ∀ σ H, Pv xs.length σ H → D.nx σ H) :
    ∃ W : Nat → Nat → L2.St → Hp → Prop, (∃ m, W 0 m σ H) ∧ ∀ i m σ H, W i m σ H →
      ((IteT K a).stop i H ∧ D.nx σ H) ∨ ((IteT K a).go i H ∧ ∃ N : L2.St → Hp → Prop, (∀ σ' H', N σ' H' → ∃ m', m' < m ∧ W (i + 1) m' σ' H') ∧ ∀ x H', (IteT K a).yld i H x H' → g x σ H' fun σ2 H2 => tb { D with nx := N, ct := N, bk := D.nx } σ2 H2) := by
  refine ⟨fun i m σ H => m = xs.length - i ∧ i ≤ xs.length ∧ Pv i σ H, ⟨xs.length, by simp, Nat.zero_le _, h0⟩, ?_⟩
  rintro i m σ H ⟨rfl, hi, p⟩
  have q := hq i σ H hi p
  by_cases hlt : i < xs.length
  · refine .inr ⟨⟨xs, xs[i], q, by simp [hlt]⟩, Pv (i + 1), fun σ' H' p' => ⟨xs.length - (i + 1), by omega, rfl, hlt, p'⟩, fun x H' y => ?_⟩
    obtain ⟨T, x0, rfl, hT, rfl, y⟩ := y
    exact hs i x0 T σ H (y xs q) hT p
  · have e : i = xs.length := by omega
    subst e
    exact .inl ⟨⟨xs, q, rfl⟩, hd σ H p⟩
end LR

set_option Elab.async false
set_option linter.all false
set_option maxRecDepth 100000
set_option maxHeartbeats 0
/-! what the head says, by name -/
namespace LT
open PySem PySem.Spec PyProof.Rows L2
/-- the facts of the top -/
structure Tx (K : PySem.W.Frag) (mg : Str → Option Value) : Prop where
  c : SaysM K
  some_ : ∀ {x : Str} {v : Value}, PySem.W.nsIn K mainGlobals x = some (some v) → mg x = some v
  none_ : ∀ {x : Str}, PySem.W.nsIn K mainGlobals x = some none → mg x = none
section
variable {K : PySem.W.Frag} {mg : Str → Option Value}
theorem tx_of {h : Heap} (X : K.In h) (G : h.Ns mainGlobals mg) (c : SaysM K) : Tx K mg := ⟨c, fun e => PySem.W.mg_of X G e, fun e => PySem.W.mg_none_of X G e⟩
theorem Tx.d (T : Tx K mg) : He.SaysD fa fn K := congrArg (fun z : AlM => z.1) T.c
theorem Tx.lc (T : Tx K mg) : levB K = true ∧ lcmB K = true := He.ba (show (levB K && lcmB K) = true from congrArg (fun z : AlM => z.2) T.c)
theorem Tx.lcm (T : Tx K mg) : mg "lcm" = some (.builtin "math.lcm") := T.some_ (He.eqO_ok T.lc.2)
theorem Tx.glo (T : Tx K mg) {x : Str} (h : (He.Fa.glo x).ok K = true) : mg x = some (.ref (He.ga K x)) := T.some_ (He.eqO_ok h)
theorem Tx.free (T : Tx K mg) {x : Str} (h : (He.Fa.free x).ok K = true) : mg x = none := T.none_ (He.eqO_ok h)
theorem Tx.int (T : Tx K mg) {x : Str} {i : Int} (h : (He.Fa.int x i).ok K = true) : ∃ t, mg x = some (.int i t) := by
  have c2 : (match PySem.W.nsIn K mainGlobals x with
    | some (some (.int j _)) => decide (j = i)
    | _ => false) = true := h
  cases e : PySem.W.nsIn K mainGlobals x with
  | none =>
    rw [e] at c2
    cases c2
  | some o =>
    rw [e] at c2
    cases o with
    | none => cases c2
    | some v =>
      cases v with
      | int j t =>
        have ej : j = i := of_decide_eq_true c2
        rw [ej] at e
        exact ⟨t, T.some_ e⟩
      | _ => cases c2
theorem Tx.str (T : Tx K mg) {x z : Str} (h : (He.Fa.str x z).ok K = true) : ∃ t, mg x = some (.str z t) := by
  have c2 : (match PySem.W.nsIn K mainGlobals x with
    | some (some (.str y _)) => decide (y = z)
    | _ => false) = true := h
  cases e : PySem.W.nsIn K mainGlobals x with
  | none =>
    rw [e] at c2
    cases c2
  | some o =>
    rw [e] at c2
    cases o with
    | none => cases c2
    | some v =>
      cases v with
      | str y t =>
        have ej : y = z := of_decide_eq_true c2
        rw [ej] at e
        exact ⟨t, T.some_ e⟩
      | _ => cases c2
/-- the def's function object -/
noncomputable def fdO (K : PySem.W.Frag) (d : He.DefD) : FuncData :=
  open Classical in if h : ∃ fd, FunD K d.name d.qual d.params d.body d.scope [] [] (He.fAd K d.at_) fd then Classical.choose h else default
theorem Tx.fun_ (T : Tx K mg) {d : He.DefD} (i : Nat) (h : fn[i]? = some d) (hd : d.dfl = []) (hk : d.kwd = []) : FunD K d.name d.qual d.params d.body d.scope [] [] (He.fAd K d.at_) (fdO K d) := by
  have e : ∃ fd, FunD K d.name d.qual d.params d.body d.scope [] [] (He.fAd K d.at_) fd := by
    obtain ⟨fd, F⟩ := T.d.def_ i h
    have e1 : d.dvs K = [] := by unfold He.DefD.dvs; rw [hd]; rfl
    have e2 : d.kws K = [] := by unfold He.DefD.kws; rw [hk]; rfl
    rw [e1, e2] at F
    exact ⟨fd, F⟩
  unfold fdO
  rw [dif_pos e]
  exact Classical.choose_spec e
theorem F__is_machine (T : Tx K mg) : FnP K "_is_machine" "_is_machine" s__is_machine (He.fAd K d__is_machine.at_) (fdO K d__is_machine) := T.fun_ (d := d__is_machine) 0 rfl rfl rfl
theorem b__is_machine (T : Tx K mg) : Binds K (fdO K d__is_machine) ["machine"] [] := (F__is_machine T).bindsN fun _ _ _ _ _ _ us hl => match us, hl with | [_], _ => rfl
theorem T__is_machine (T : Tx K mg) : mg "_is_machine" = some (.ref (He.fAd K d__is_machine.at_)) := T.glo (T.d.fact 0 rfl)
theorem F__is_word (T : Tx K mg) : FnP K "_is_word" "_is_word" s__is_word (He.fAd K d__is_word.at_) (fdO K d__is_word) := T.fun_ (d := d__is_word) 1 rfl rfl rfl
theorem b__is_word (T : Tx K mg) : Binds K (fdO K d__is_word) ["machine", "word", "most"] [] := (F__is_word T).bindsN fun _ _ _ _ _ _ us hl => match us, hl with | [_, _, _], _ => rfl
theorem T__is_word (T : Tx K mg) : mg "_is_word" = some (.ref (He.fAd K d__is_word.at_)) := T.glo (T.d.fact 1 rfl)
theorem F__has_digits (T : Tx K mg) : FnP K "_has_digits" "_has_digits" s__has_digits (He.fAd K d__has_digits.at_) (fdO K d__has_digits) := T.fun_ (d := d__has_digits) 2 rfl rfl rfl
theorem b__has_digits (T : Tx K mg) : Binds K (fdO K d__has_digits) ["machine", "string"] [] := (F__has_digits T).bindsN fun _ _ _ _ _ _ us hl => match us, hl with | [_, _], _ => rfl
theorem T__has_digits (T : Tx K mg) : mg "_has_digits" = some (.ref (He.fAd K d__has_digits.at_)) := T.glo (T.d.fact 2 rfl)
theorem F__is_string (T : Tx K mg) : FnP K "_is_string" "_is_string" s__is_string (He.fAd K d__is_string.at_) (fdO K d__is_string) := T.fun_ (d := d__is_string) 3 rfl rfl rfl
theorem b__is_string (T : Tx K mg) : Binds K (fdO K d__is_string) ["machine", "string"] [] := (F__is_string T).bindsN fun _ _ _ _ _ _ us hl => match us, hl with | [_, _], _ => rfl
theorem T__is_string (T : Tx K mg) : mg "_is_string" = some (.ref (He.fAd K d__is_string.at_)) := T.glo (T.d.fact 3 rfl)
theorem F__check (T : Tx K mg) : FnP K "_check" "_check" s__check (He.fAd K d__check.at_) (fdO K d__check) := T.fun_ (d := d__check) 4 rfl rfl rfl
theorem b__check (T : Tx K mg) : Binds K (fdO K d__check) ["machine", "words"] [] := (F__check T).bindsN fun _ _ _ _ _ _ us hl => match us, hl with | [_, _], _ => rfl
theorem T__check (T : Tx K mg) : mg "_check" = some (.ref (He.fAd K d__check.at_)) := T.glo (T.d.fact 4 rfl)
theorem F__undone (T : Tx K mg) : FnP K "_undone" "_undone" s__undone (He.fAd K d__undone.at_) (fdO K d__undone) := T.fun_ (d := d__undone) 5 rfl rfl rfl
theorem b__undone (T : Tx K mg) : Binds K (fdO K d__undone) ["word"] [] := (F__undone T).bindsN fun _ _ _ _ _ _ us hl => match us, hl with | [_], _ => rfl
theorem T__undone (T : Tx K mg) : mg "_undone" = some (.ref (He.fAd K d__undone.at_)) := T.glo (T.d.fact 5 rfl)
theorem F__cut (T : Tx K mg) : FnP K "_cut" "_cut" s__cut (He.fAd K d__cut.at_) (fdO K d__cut) := T.fun_ (d := d__cut) 6 rfl rfl rfl
theorem b__cut (T : Tx K mg) : Binds K (fdO K d__cut) ["word"] [] := (F__cut T).bindsN fun _ _ _ _ _ _ us hl => match us, hl with | [_], _ => rfl
theorem T__cut (T : Tx K mg) : mg "_cut" = some (.ref (He.fAd K d__cut.at_)) := T.glo (T.d.fact 6 rfl)
theorem F__passed (T : Tx K mg) : FnP K "_passed" "_passed" s__passed (He.fAd K d__passed.at_) (fdO K d__passed) := T.fun_ (d := d__passed) 7 rfl rfl rfl
theorem b__passed (T : Tx K mg) : Binds K (fdO K d__passed) ["machine", "word", "digit"] [] := (F__passed T).bindsN fun _ _ _ _ _ _ us hl => match us, hl with | [_, _, _], _ => rfl
theorem T__passed (T : Tx K mg) : mg "_passed" = some (.ref (He.fAd K d__passed.at_)) := T.glo (T.d.fact 7 rfl)
theorem F__moved (T : Tx K mg) : FnP K "_moved" "_moved" s__moved (He.fAd K d__moved.at_) (fdO K d__moved) := T.fun_ (d := d__moved) 8 rfl rfl rfl
theorem b__moved (T : Tx K mg) : Binds K (fdO K d__moved) ["machine", "word", "string"] [] := (F__moved T).bindsN fun _ _ _ _ _ _ us hl => match us, hl with | [_, _, _], _ => rfl
theorem T__moved (T : Tx K mg) : mg "_moved" = some (.ref (He.fAd K d__moved.at_)) := T.glo (T.d.fact 8 rfl)
theorem F__sections (T : Tx K mg) : FnP K "_sections" "_sections" s__sections (He.fAd K d__sections.at_) (fdO K d__sections) := T.fun_ (d := d__sections) 9 rfl rfl rfl
theorem b__sections (T : Tx K mg) : Binds K (fdO K d__sections) ["machine", "word"] [] := (F__sections T).bindsN fun _ _ _ _ _ _ us hl => match us, hl with | [_, _], _ => rfl
theorem T__sections (T : Tx K mg) : mg "_sections" = some (.ref (He.fAd K d__sections.at_)) := T.glo (T.d.fact 9 rfl)
theorem F__is_closed (T : Tx K mg) : FnP K "_is_closed" "_is_closed" s__is_closed (He.fAd K d__is_closed.at_) (fdO K d__is_closed) := T.fun_ (d := d__is_closed) 10 rfl rfl rfl
theorem b__is_closed (T : Tx K mg) : Binds K (fdO K d__is_closed) ["machine", "words"] [] := (F__is_closed T).bindsN fun _ _ _ _ _ _ us hl => match us, hl with | [_, _], _ => rfl
theorem T__is_closed (T : Tx K mg) : mg "_is_closed" = some (.ref (He.fAd K d__is_closed.at_)) := T.glo (T.d.fact 10 rfl)
theorem F__shows_equal (T : Tx K mg) : FnP K "_shows_equal" "_shows_equal" s__shows_equal (He.fAd K d__shows_equal.at_) (fdO K d__shows_equal) := T.fun_ (d := d__shows_equal) 11 rfl rfl rfl
theorem b__shows_equal (T : Tx K mg) : Binds K (fdO K d__shows_equal) ["machine", "one", "other", "words"] [] := (F__shows_equal T).bindsN fun _ _ _ _ _ _ us hl => match us, hl with | [_, _, _, _], _ => rfl
theorem T__shows_equal (T : Tx K mg) : mg "_shows_equal" = some (.ref (He.fAd K d__shows_equal.at_)) := T.glo (T.d.fact 11 rfl)
theorem F__shows_apart (T : Tx K mg) : FnP K "_shows_apart" "_shows_apart" s__shows_apart (He.fAd K d__shows_apart.at_) (fdO K d__shows_apart) := T.fun_ (d := d__shows_apart) 12 rfl rfl rfl
theorem b__shows_apart (T : Tx K mg) : Binds K (fdO K d__shows_apart) ["machine", "one", "other", "string"] [] := (F__shows_apart T).bindsN fun _ _ _ _ _ _ us hl => match us, hl with | [_, _, _, _], _ => rfl
theorem T__shows_apart (T : Tx K mg) : mg "_shows_apart" = some (.ref (He.fAd K d__shows_apart.at_)) := T.glo (T.d.fact 12 rfl)
theorem F__primes (T : Tx K mg) : FnP K "_primes" "_primes" s__primes (He.fAd K d__primes.at_) (fdO K d__primes) := T.fun_ (d := d__primes) 13 rfl rfl rfl
theorem b__primes (T : Tx K mg) : Binds K (fdO K d__primes) ["number"] [] := (F__primes T).bindsN fun _ _ _ _ _ _ us hl => match us, hl with | [_], _ => rfl
theorem T__primes (T : Tx K mg) : mg "_primes" = some (.ref (He.fAd K d__primes.at_)) := T.glo (T.d.fact 13 rfl)
theorem F__changes (T : Tx K mg) : FnP K "_changes" "_changes" s__changes (He.fAd K d__changes.at_) (fdO K d__changes) := T.fun_ (d := d__changes) 14 rfl rfl rfl
theorem b__changes (T : Tx K mg) : Binds K (fdO K d__changes) ["machine", "word", "times", "string"] [] := (F__changes T).bindsN fun _ _ _ _ _ _ us hl => match us, hl with | [_, _, _, _], _ => rfl
theorem T__changes (T : Tx K mg) : mg "_changes" = some (.ref (He.fAd K d__changes.at_)) := T.glo (T.d.fact 14 rfl)
theorem F__is_finite (T : Tx K mg) : FnP K "_is_finite" "_is_finite" s__is_finite (He.fAd K d__is_finite.at_) (fdO K d__is_finite) := T.fun_ (d := d__is_finite) 15 rfl rfl rfl
theorem b__is_finite (T : Tx K mg) : Binds K (fdO K d__is_finite) ["machine", "word", "n", "words", "strings"] [] := (F__is_finite T).bindsN fun _ _ _ _ _ _ us hl => match us, hl with | [_, _, _, _, _], _ => rfl
theorem T__is_finite (T : Tx K mg) : mg "_is_finite" = some (.ref (He.fAd K d__is_finite.at_)) := T.glo (T.d.fact 15 rfl)
theorem F__rests (T : Tx K mg) : FnP K "_rests" "_rests" s__rests (He.fAd K d__rests.at_) (fdO K d__rests) := T.fun_ (d := d__rests) 16 rfl rfl rfl
theorem b__rests (T : Tx K mg) : Binds K (fdO K d__rests) ["machine", "word"] [] := (F__rests T).bindsN fun _ _ _ _ _ _ us hl => match us, hl with | [_, _], _ => rfl
theorem T__rests (T : Tx K mg) : mg "_rests" = some (.ref (He.fAd K d__rests.at_)) := T.glo (T.d.fact 16 rfl)
theorem F__around (T : Tx K mg) : FnP K "_around" "_around" s__around (He.fAd K d__around.at_) (fdO K d__around) := T.fun_ (d := d__around) 17 rfl rfl rfl
theorem b__around (T : Tx K mg) : Binds K (fdO K d__around) ["machine", "word", "string"] [] := (F__around T).bindsN fun _ _ _ _ _ _ us hl => match us, hl with | [_, _, _], _ => rfl
theorem T__around (T : Tx K mg) : mg "_around" = some (.ref (He.fAd K d__around.at_)) := T.glo (T.d.fact 17 rfl)
theorem F__is_endless (T : Tx K mg) : FnP K "_is_endless" "_is_endless" s__is_endless (He.fAd K d__is_endless.at_) (fdO K d__is_endless) := T.fun_ (d := d__is_endless) 18 rfl rfl rfl
theorem b__is_endless (T : Tx K mg) : Binds K (fdO K d__is_endless) ["machine", "word", "witness"] [] := (F__is_endless T).bindsN fun _ _ _ _ _ _ us hl => match us, hl with | [_, _, _], _ => rfl
theorem T__is_endless (T : Tx K mg) : mg "_is_endless" = some (.ref (He.fAd K d__is_endless.at_)) := T.glo (T.d.fact 18 rfl)
theorem F_shown (T : Tx K mg) : FnP K "shown" "shown" s_shown (He.fAd K d_shown.at_) (fdO K d_shown) := T.fun_ (d := d_shown) 19 rfl rfl rfl
theorem b_shown (T : Tx K mg) : Binds K (fdO K d_shown) ["machine", "one", "other", "answer"] [] := (F_shown T).bindsN fun _ _ _ _ _ _ us hl => match us, hl with | [_, _, _, _], _ => rfl
theorem T_shown (T : Tx K mg) : mg "shown" = some (.ref (He.fAd K d_shown.at_)) := T.glo (T.d.fact 19 rfl)
theorem F_order_shown (T : Tx K mg) : FnP K "order_shown" "order_shown" s_order_shown (He.fAd K d_order_shown.at_) (fdO K d_order_shown) := T.fun_ (d := d_order_shown) 20 rfl rfl rfl
theorem b_order_shown (T : Tx K mg) : Binds K (fdO K d_order_shown) ["machine", "word", "answer"] [] := (F_order_shown T).bindsN fun _ _ _ _ _ _ us hl => match us, hl with | [_, _, _], _ => rfl
theorem T_order_shown (T : Tx K mg) : mg "order_shown" = some (.ref (He.fAd K d_order_shown.at_)) := T.glo (T.d.fact 20 rfl)
theorem F__is_row (T : Tx K mg) : FnP K "_is_row" "_is_row" s__is_row (He.fAd K d__is_row.at_) (fdO K d__is_row) := T.fun_ (d := d__is_row) 21 rfl rfl rfl
theorem b__is_row (T : Tx K mg) : Binds K (fdO K d__is_row) ["row", "k", "count"] [] := (F__is_row T).bindsN fun _ _ _ _ _ _ us hl => match us, hl with | [_, _, _], _ => rfl
theorem T__is_row (T : Tx K mg) : mg "_is_row" = some (.ref (He.fAd K d__is_row.at_)) := T.glo (T.d.fact 21 rfl)
theorem F_is_wide (T : Tx K mg) : FnP K "is_wide" "is_wide" s_is_wide (He.fAd K d_is_wide.at_) (fdO K d_is_wide) := T.fun_ (d := d_is_wide) 22 rfl rfl rfl
theorem b_is_wide (T : Tx K mg) : Binds K (fdO K d_is_wide) ["machine"] [] := (F_is_wide T).bindsN fun _ _ _ _ _ _ us hl => match us, hl with | [_], _ => rfl
theorem T_is_wide (T : Tx K mg) : mg "is_wide" = some (.ref (He.fAd K d_is_wide.at_)) := T.glo (T.d.fact 22 rfl)
theorem F_is_machine (T : Tx K mg) : FnP K "is_machine" "is_machine" s_is_machine (He.fAd K d_is_machine.at_) (fdO K d_is_machine) := T.fun_ (d := d_is_machine) 23 rfl rfl rfl
theorem b_is_machine (T : Tx K mg) : Binds K (fdO K d_is_machine) ["machine"] [] := (F_is_machine T).bindsN fun _ _ _ _ _ _ us hl => match us, hl with | [_], _ => rfl
theorem T_is_machine (T : Tx K mg) : mg "is_machine" = some (.ref (He.fAd K d_is_machine.at_)) := T.glo (T.d.fact 23 rfl)
theorem F_check_machine (T : Tx K mg) : FnP K "check_machine" "check_machine" s_check_machine (He.fAd K d_check_machine.at_) (fdO K d_check_machine) := T.fun_ (d := d_check_machine) 24 rfl rfl rfl
theorem b_check_machine (T : Tx K mg) : Binds K (fdO K d_check_machine) ["machine"] [] := (F_check_machine T).bindsN fun _ _ _ _ _ _ us hl => match us, hl with | [_], _ => rfl
theorem T_check_machine (T : Tx K mg) : mg "check_machine" = some (.ref (He.fAd K d_check_machine.at_)) := T.glo (T.d.fact 24 rfl)
theorem F_other (T : Tx K mg) : FnP K "other" "other" s_other (He.fAd K d_other.at_) (fdO K d_other) := T.fun_ (d := d_other) 25 rfl rfl rfl
theorem b_other (T : Tx K mg) : Binds K (fdO K d_other) ["letter"] [] := (F_other T).bindsN fun _ _ _ _ _ _ us hl => match us, hl with | [_], _ => rfl
theorem T_other (T : Tx K mg) : mg "other" = some (.ref (He.fAd K d_other.at_)) := T.glo (T.d.fact 25 rfl)
theorem F_letters_of (T : Tx K mg) : FnP K "letters_of" "letters_of" s_letters_of (He.fAd K d_letters_of.at_) (fdO K d_letters_of) := T.fun_ (d := d_letters_of) 26 rfl rfl rfl
theorem b_letters_of (T : Tx K mg) : Binds K (fdO K d_letters_of) ["machine"] [] := (F_letters_of T).bindsN fun _ _ _ _ _ _ us hl => match us, hl with | [_], _ => rfl
theorem T_letters_of (T : Tx K mg) : mg "letters_of" = some (.ref (He.fAd K d_letters_of.at_)) := T.glo (T.d.fact 26 rfl)
theorem F_is_word (T : Tx K mg) : FnP K "is_word" "is_word" s_is_word (He.fAd K d_is_word.at_) (fdO K d_is_word) := T.fun_ (d := d_is_word) 27 rfl rfl rfl
theorem b_is_word (T : Tx K mg) : Binds K (fdO K d_is_word) ["machine", "word"] [] := (F_is_word T).bindsN fun _ _ _ _ _ _ us hl => match us, hl with | [_, _], _ => rfl
theorem T_is_word (T : Tx K mg) : mg "is_word" = some (.ref (He.fAd K d_is_word.at_)) := T.glo (T.d.fact 27 rfl)
theorem F_cut (T : Tx K mg) : FnP K "cut" "cut" s_cut (He.fAd K d_cut.at_) (fdO K d_cut) := T.fun_ (d := d_cut) 28 rfl rfl rfl
theorem b_cut (T : Tx K mg) : Binds K (fdO K d_cut) ["word"] [] := (F_cut T).bindsN fun _ _ _ _ _ _ us hl => match us, hl with | [_], _ => rfl
theorem T_cut (T : Tx K mg) : mg "cut" = some (.ref (He.fAd K d_cut.at_)) := T.glo (T.d.fact 28 rfl)
theorem F_undone (T : Tx K mg) : FnP K "undone" "undone" s_undone (He.fAd K d_undone.at_) (fdO K d_undone) := T.fun_ (d := d_undone) 29 rfl rfl rfl
theorem b_undone (T : Tx K mg) : Binds K (fdO K d_undone) ["word"] [] := (F_undone T).bindsN fun _ _ _ _ _ _ us hl => match us, hl with | [_], _ => rfl
theorem T_undone (T : Tx K mg) : mg "undone" = some (.ref (He.fAd K d_undone.at_)) := T.glo (T.d.fact 29 rfl)
theorem F_refuse_word (T : Tx K mg) : FnP K "refuse_word" "refuse_word" s_refuse_word (He.fAd K d_refuse_word.at_) (fdO K d_refuse_word) := T.fun_ (d := d_refuse_word) 30 rfl rfl rfl
theorem b_refuse_word (T : Tx K mg) : Binds K (fdO K d_refuse_word) ["machine", "word"] [] := (F_refuse_word T).bindsN fun _ _ _ _ _ _ us hl => match us, hl with | [_, _], _ => rfl
theorem T_refuse_word (T : Tx K mg) : mg "refuse_word" = some (.ref (He.fAd K d_refuse_word.at_)) := T.glo (T.d.fact 30 rfl)
theorem F_check_word (T : Tx K mg) : FnP K "check_word" "check_word" s_check_word (He.fAd K d_check_word.at_) (fdO K d_check_word) := T.fun_ (d := d_check_word) 31 rfl rfl rfl
theorem b_check_word (T : Tx K mg) : Binds K (fdO K d_check_word) ["machine", "word"] [] := (F_check_word T).bindsN fun _ _ _ _ _ _ us hl => match us, hl with | [_, _], _ => rfl
theorem T_check_word (T : Tx K mg) : mg "check_word" = some (.ref (He.fAd K d_check_word.at_)) := T.glo (T.d.fact 31 rfl)
theorem F_Actor_init (T : Tx K mg) : FnP K "__init__" "Actor.__init__" s_Actor_init (He.fAd K d_Actor_init.at_) (fdO K d_Actor_init) := T.fun_ (d := d_Actor_init) 32 rfl rfl rfl
theorem b_Actor_init (T : Tx K mg) : Binds K (fdO K d_Actor_init) ["self", "machine"] [] := (F_Actor_init T).bindsN fun _ _ _ _ _ _ us hl => match us, hl with | [_, _], _ => rfl
theorem M_Actor_init (T : Tx K mg) : Mk K (He.ga K "Actor") (He.fAd K d_Actor_init.at_) := He.mkr_ok (T.d.fact 120 rfl)
theorem F_Actor_step (T : Tx K mg) : FnP K "step" "Actor.step" s_Actor_step (He.fAd K d_Actor_step.at_) (fdO K d_Actor_step) := T.fun_ (d := d_Actor_step) 33 rfl rfl rfl
theorem b_Actor_step (T : Tx K mg) : Binds K (fdO K d_Actor_step) ["self", "word", "digit"] [] := (F_Actor_step T).bindsN fun _ _ _ _ _ _ us hl => match us, hl with | [_, _, _], _ => rfl
theorem M_Actor_step (T : Tx K mg) : Meth K (He.ga K "Actor") "step" (He.fAd K d_Actor_step.at_) := He.meth_ok (T.d.fact 121 rfl)
theorem F_Actor_moved (T : Tx K mg) : FnP K "moved" "Actor.moved" s_Actor_moved (He.fAd K d_Actor_moved.at_) (fdO K d_Actor_moved) := T.fun_ (d := d_Actor_moved) 34 rfl rfl rfl
theorem b_Actor_moved (T : Tx K mg) : Binds K (fdO K d_Actor_moved) ["self", "word", "string"] [] := (F_Actor_moved T).bindsN fun _ _ _ _ _ _ us hl => match us, hl with | [_, _, _], _ => rfl
theorem M_Actor_moved (T : Tx K mg) : Meth K (He.ga K "Actor") "moved" (He.fAd K d_Actor_moved.at_) := He.meth_ok (T.d.fact 122 rfl)
theorem F_Actor_row (T : Tx K mg) : FnP K "row" "Actor.row" s_Actor_row (He.fAd K d_Actor_row.at_) (fdO K d_Actor_row) := T.fun_ (d := d_Actor_row) 35 rfl rfl rfl
theorem b_Actor_row (T : Tx K mg) : Binds K (fdO K d_Actor_row) ["self", "word"] [] := (F_Actor_row T).bindsN fun _ _ _ _ _ _ us hl => match us, hl with | [_, _], _ => rfl
theorem M_Actor_row (T : Tx K mg) : Meth K (He.ga K "Actor") "row" (He.fAd K d_Actor_row.at_) := He.meth_ok (T.d.fact 123 rfl)
theorem F_Actor_keeps_digits (T : Tx K mg) : FnP K "keeps_digits" "Actor.keeps_digits" s_Actor_keeps_digits (He.fAd K d_Actor_keeps_digits.at_) (fdO K d_Actor_keeps_digits) := T.fun_ (d := d_Actor_keeps_digits) 36 rfl rfl rfl
theorem b_Actor_keeps_digits (T : Tx K mg) : Binds K (fdO K d_Actor_keeps_digits) ["self", "word"] [] := (F_Actor_keeps_digits T).bindsN fun _ _ _ _ _ _ us hl => match us, hl with | [_, _], _ => rfl
theorem M_Actor_keeps_digits (T : Tx K mg) : Meth K (He.ga K "Actor") "keeps_digits" (He.fAd K d_Actor_keeps_digits.at_) := He.meth_ok (T.d.fact 124 rfl)
theorem F_moved (T : Tx K mg) : FnP K "moved" "moved" s_moved (He.fAd K d_moved.at_) (fdO K d_moved) := T.fun_ (d := d_moved) 37 rfl rfl rfl
theorem b_moved (T : Tx K mg) : Binds K (fdO K d_moved) ["machine", "word", "string"] [] := (F_moved T).bindsN fun _ _ _ _ _ _ us hl => match us, hl with | [_, _, _], _ => rfl
theorem T_moved (T : Tx K mg) : mg "moved" = some (.ref (He.fAd K d_moved.at_)) := T.glo (T.d.fact 32 rfl)
theorem F_found_list (T : Tx K mg) : FnP K "found_list" "found_list" s_found_list (He.fAd K d_found_list.at_) (fdO K d_found_list) := T.fun_ (d := d_found_list) 38 rfl rfl rfl
theorem b_found_list (T : Tx K mg) : Binds K (fdO K d_found_list) ["machine", "word"] [] := (F_found_list T).bindsN fun _ _ _ _ _ _ us hl => match us, hl with | [_, _], _ => rfl
theorem T_found_list (T : Tx K mg) : mg "found_list" = some (.ref (He.fAd K d_found_list.at_)) := T.glo (T.d.fact 33 rfl)
theorem F_rests (T : Tx K mg) : FnP K "rests" "rests" s_rests (He.fAd K d_rests.at_) (fdO K d_rests) := T.fun_ (d := d_rests) 39 rfl rfl rfl
theorem b_rests (T : Tx K mg) : Binds K (fdO K d_rests) ["machine", "word"] [] := (F_rests T).bindsN fun _ _ _ _ _ _ us hl => match us, hl with | [_, _], _ => rfl
theorem T_rests (T : Tx K mg) : mg "rests" = some (.ref (He.fAd K d_rests.at_)) := T.glo (T.d.fact 34 rfl)
theorem F_first_moved (T : Tx K mg) : FnP K "first_moved" "first_moved" s_first_moved (He.fAd K d_first_moved.at_) (fdO K d_first_moved) := T.fun_ (d := d_first_moved) 40 rfl rfl rfl
theorem b_first_moved (T : Tx K mg) : Binds K (fdO K d_first_moved) ["machine", "word"] [] := (F_first_moved T).bindsN fun _ _ _ _ _ _ us hl => match us, hl with | [_, _], _ => rfl
theorem T_first_moved (T : Tx K mg) : mg "first_moved" = some (.ref (He.fAd K d_first_moved.at_)) := T.glo (T.d.fact 35 rfl)
theorem F_first_string (T : Tx K mg) : FnP K "first_string" "first_string" s_first_string (He.fAd K d_first_string.at_) (fdO K d_first_string) := T.fun_ (d := d_first_string) 41 rfl rfl rfl
theorem b_first_string (T : Tx K mg) : Binds K (fdO K d_first_string) ["machine", "one", "second"] [] := (F_first_string T).bindsN fun _ _ _ _ _ _ us hl => match us, hl with | [_, _, _], _ => rfl
theorem T_first_string (T : Tx K mg) : mg "first_string" = some (.ref (He.fAd K d_first_string.at_)) := T.glo (T.d.fact 36 rfl)
theorem F_check_words_wordmachine (T : Tx K mg) : FnP K "check_words" "check_words" s_check_words_wordmachine (He.fAd K d_check_words_wordmachine.at_) (fdO K d_check_words_wordmachine) := T.fun_ (d := d_check_words_wordmachine) 42 rfl rfl rfl
theorem b_check_words_wordmachine (T : Tx K mg) : Binds K (fdO K d_check_words_wordmachine) ["machine", "words"] [] := (F_check_words_wordmachine T).bindsN fun _ _ _ _ _ _ us hl => match us, hl with | [_, _], _ => rfl
theorem T_check_words_wordmachine (T : Tx K mg) : mg "check_words_wordmachine" = some (.ref (He.fAd K d_check_words_wordmachine.at_)) := T.glo (T.d.fact 37 rfl)
theorem F_kept (T : Tx K mg) : FnP K "kept" "kept" s_kept (He.fAd K d_kept.at_) (fdO K d_kept) := T.fun_ (d := d_kept) 43 rfl rfl rfl
theorem b_kept (T : Tx K mg) : Binds K (fdO K d_kept) ["word"] [] := (F_kept T).bindsN fun _ _ _ _ _ _ us hl => match us, hl with | [_], _ => rfl
theorem T_kept (T : Tx K mg) : mg "kept" = some (.ref (He.fAd K d_kept.at_)) := T.glo (T.d.fact 38 rfl)
theorem F_raised (T : Tx K mg) : FnP K "raised" "raised" s_raised (He.fAd K d_raised.at_) (fdO K d_raised) := T.fun_ (d := d_raised) 44 rfl rfl rfl
theorem b_raised (T : Tx K mg) : Binds K (fdO K d_raised) ["word", "exponent"] [] := (F_raised T).bindsN fun _ _ _ _ _ _ us hl => match us, hl with | [_, _], _ => rfl
theorem T_raised (T : Tx K mg) : mg "raised" = some (.ref (He.fAd K d_raised.at_)) := T.glo (T.d.fact 39 rfl)
theorem F_round_length (T : Tx K mg) : FnP K "round_length" "round_length" s_round_length (He.fAd K d_round_length.at_) (fdO K d_round_length) := T.fun_ (d := d_round_length) 45 rfl rfl rfl
theorem b_round_length (T : Tx K mg) : Binds K (fdO K d_round_length) ["machine", "word", "string"] [] := (F_round_length T).bindsN fun _ _ _ _ _ _ us hl => match us, hl with | [_, _, _], _ => rfl
theorem T_round_length (T : Tx K mg) : mg "round_length" = some (.ref (He.fAd K d_round_length.at_)) := T.glo (T.d.fact 40 rfl)
theorem F_all_strings (T : Tx K mg) : FnP K "all_strings" "all_strings" s_all_strings (He.fAd K d_all_strings.at_) (fdO K d_all_strings) := T.fun_ (d := d_all_strings) 46 rfl rfl rfl
theorem b_all_strings (T : Tx K mg) : Binds K (fdO K d_all_strings) ["size", "length"] [] := (F_all_strings T).bindsN fun _ _ _ _ _ _ us hl => match us, hl with | [_, _], _ => rfl
theorem T_all_strings (T : Tx K mg) : mg "all_strings" = some (.ref (He.fAd K d_all_strings.at_)) := T.glo (T.d.fact 41 rfl)
theorem F_rounds_together (T : Tx K mg) : FnP K "rounds_together" "rounds_together" s_rounds_together (He.fAd K d_rounds_together.at_) (fdO K d_rounds_together) := T.fun_ (d := d_rounds_together) 47 rfl rfl rfl
theorem b_rounds_together (T : Tx K mg) : Binds K (fdO K d_rounds_together) ["machine", "word", "most"] [] := (F_rounds_together T).bindsN fun _ _ _ _ _ _ us hl => match us, hl with | [_, _, _], _ => rfl
theorem T_rounds_together (T : Tx K mg) : mg "rounds_together" = some (.ref (He.fAd K d_rounds_together.at_)) := T.glo (T.d.fact 42 rfl)
theorem F_least_order (T : Tx K mg) : FnP K "least_order" "least_order" s_least_order (He.fAd K d_least_order.at_) (fdO K d_least_order) := T.fun_ (d := d_least_order) 48 rfl rfl rfl
theorem b_least_order (T : Tx K mg) : Binds K (fdO K d_least_order) ["machine", "word", "most"] [] := (F_least_order T).bindsN fun _ _ _ _ _ _ us hl => match us, hl with | [_, _, _], _ => rfl
theorem T_least_order (T : Tx K mg) : mg "least_order" = some (.ref (He.fAd K d_least_order.at_)) := T.glo (T.d.fact 43 rfl)
theorem F_is_conjugate_power (T : Tx K mg) : FnP K "is_conjugate_power" "is_conjugate_power" s_is_conjugate_power (He.fAd K d_is_conjugate_power.at_) (fdO K d_is_conjugate_power) := T.fun_ (d := d_is_conjugate_power) 49 rfl rfl rfl
theorem b_is_conjugate_power (T : Tx K mg) : Binds K (fdO K d_is_conjugate_power) ["machine", "word", "result", "exponent", "by"] [] := (F_is_conjugate_power T).bindsN fun _ _ _ _ _ _ us hl => match us, hl with | [_, _, _, _, _], _ => rfl
theorem T_is_conjugate_power (T : Tx K mg) : mg "is_conjugate_power" = some (.ref (He.fAd K d_is_conjugate_power.at_)) := T.glo (T.d.fact 44 rfl)
theorem F_is_found (T : Tx K mg) : FnP K "is_found" "is_found" s_is_found (He.fAd K d_is_found.at_) (fdO K d_is_found) := T.fun_ (d := d_is_found) 50 rfl rfl rfl
theorem b_is_found (T : Tx K mg) : Binds K (fdO K d_is_found) ["machine", "word", "result", "exponent", "by"] [] := (F_is_found T).bindsN fun _ _ _ _ _ _ us hl => match us, hl with | [_, _, _, _, _], _ => rfl
theorem T_is_found (T : Tx K mg) : mg "is_found" = some (.ref (He.fAd K d_is_found.at_)) := T.glo (T.d.fact 45 rfl)
theorem F_seek_witness (T : Tx K mg) : FnP K "seek_witness" "seek_witness" s_seek_witness (He.fAd K d_seek_witness.at_) (fdO K d_seek_witness) := T.fun_ (d := d_seek_witness) 51 rfl rfl rfl
theorem b_seek_witness (T : Tx K mg) : Binds K (fdO K d_seek_witness) ["machine", "word"] [] := (F_seek_witness T).bindsN fun _ _ _ _ _ _ us hl => match us, hl with | [_, _], _ => rfl
theorem T_seek_witness (T : Tx K mg) : mg "seek_witness" = some (.ref (He.fAd K d_seek_witness.at_)) := T.glo (T.d.fact 46 rfl)
theorem F_order (T : Tx K mg) : FnP K "order" "order" s_order (He.fAd K d_order.at_) (fdO K d_order) := T.fun_ (d := d_order) 52 rfl rfl rfl
theorem b_order (T : Tx K mg) : Binds K (fdO K d_order) ["machine", "word"] [] := (F_order T).bindsN fun _ _ _ _ _ _ us hl => match us, hl with | [_, _], _ => rfl
theorem T_order (T : Tx K mg) : mg "order" = some (.ref (He.fAd K d_order.at_)) := T.glo (T.d.fact 47 rfl)
theorem F_check_words_decide (T : Tx K mg) : FnP K "check_words" "check_words" s_check_words_decide (He.fAd K d_check_words_decide.at_) (fdO K d_check_words_decide) := T.fun_ (d := d_check_words_decide) 53 rfl rfl rfl
theorem b_check_words_decide (T : Tx K mg) : Binds K (fdO K d_check_words_decide) ["machine", "words"] [] := (F_check_words_decide T).bindsN fun _ _ _ _ _ _ us hl => match us, hl with | [_, _], _ => rfl
theorem T_check_words_decide (T : Tx K mg) : mg "check_words_decide" = some (.ref (He.fAd K d_check_words_decide.at_)) := T.glo (T.d.fact 48 rfl)
theorem F_decide (T : Tx K mg) : FnP K "decide" "decide" s_decide (He.fAd K d_decide.at_) (fdO K d_decide) := T.fun_ (d := d_decide) 54 rfl rfl rfl
theorem b_decide (T : Tx K mg) : Binds K (fdO K d_decide) ["machine", "one", "other"] [] := (F_decide T).bindsN fun _ _ _ _ _ _ us hl => match us, hl with | [_, _, _], _ => rfl
theorem T_decide (T : Tx K mg) : mg "decide" = some (.ref (He.fAd K d_decide.at_)) := T.glo (T.d.fact 49 rfl)
theorem F_prime_divisors (T : Tx K mg) : FnP K "prime_divisors" "prime_divisors" s_prime_divisors (He.fAd K d_prime_divisors.at_) (fdO K d_prime_divisors) := T.fun_ (d := d_prime_divisors) 55 rfl rfl rfl
theorem b_prime_divisors (T : Tx K mg) : Binds K (fdO K d_prime_divisors) ["number"] [] := (F_prime_divisors T).bindsN fun _ _ _ _ _ _ us hl => match us, hl with | [_], _ => rfl
theorem T_prime_divisors (T : Tx K mg) : mg "prime_divisors" = some (.ref (He.fAd K d_prime_divisors.at_)) := T.glo (T.d.fact 50 rfl)
theorem F_decide_order (T : Tx K mg) : FnP K "decide_order" "decide_order" s_decide_order (He.fAd K d_decide_order.at_) (fdO K d_decide_order) := T.fun_ (d := d_decide_order) 56 rfl rfl rfl
theorem b_decide_order (T : Tx K mg) : Binds K (fdO K d_decide_order) ["machine", "word"] [] := (F_decide_order T).bindsN fun _ _ _ _ _ _ us hl => match us, hl with | [_, _], _ => rfl
theorem T_decide_order (T : Tx K mg) : mg "decide_order" = some (.ref (He.fAd K d_decide_order.at_)) := T.glo (T.d.fact 51 rfl)
theorem F__law_number (T : Tx K mg) : FnP K "_law_number" "_law_number" s__law_number (He.fAd K d__law_number.at_) (fdO K d__law_number) := T.fun_ (d := d__law_number) 57 rfl rfl rfl
theorem b__law_number (T : Tx K mg) : Binds K (fdO K d__law_number) ["_law_cell"] [] := (F__law_number T).bindsN fun _ _ _ _ _ _ us hl => match us, hl with | [_], _ => rfl
theorem T__law_number (T : Tx K mg) : mg "_law_number" = some (.ref (He.fAd K d__law_number.at_)) := T.glo (T.d.fact 52 rfl)
theorem F__law_draws (T : Tx K mg) : FnP K "_law_draws" "_law_draws" s__law_draws (He.fAd K d__law_draws.at_) (fdO K d__law_draws) := T.fun_ (d := d__law_draws) 58 rfl rfl rfl
theorem b__law_draws (T : Tx K mg) : Binds K (fdO K d__law_draws) ["_law_script"] [] := (F__law_draws T).bindsN fun _ _ _ _ _ _ us hl => match us, hl with | [_], _ => rfl
theorem T__law_draws (T : Tx K mg) : mg "_law_draws" = some (.ref (He.fAd K d__law_draws.at_)) := T.glo (T.d.fact 53 rfl)
theorem F__law_draw (T : Tx K mg) : FnP K "_law_draw" "_law_draw" s__law_draw (He.fAd K d__law_draw.at_) (fdO K d__law_draw) := T.fun_ (d := d__law_draw) 59 rfl rfl rfl
theorem b__law_draw (T : Tx K mg) : Binds K (fdO K d__law_draw) ["_law_draws_here"] [] := (F__law_draw T).bindsN fun _ _ _ _ _ _ us hl => match us, hl with | [_], _ => rfl
theorem T__law_draw (T : Tx K mg) : mg "_law_draw" = some (.ref (He.fAd K d__law_draw.at_)) := T.glo (T.d.fact 54 rfl)
theorem F__law_pick (T : Tx K mg) : FnP K "_law_pick" "_law_pick" s__law_pick (He.fAd K d__law_pick.at_) (fdO K d__law_pick) := T.fun_ (d := d__law_pick) 60 rfl rfl rfl
theorem b__law_pick (T : Tx K mg) : Binds K (fdO K d__law_pick) ["_law_draws_here", "_law_many"] [] := (F__law_pick T).bindsN fun _ _ _ _ _ _ us hl => match us, hl with | [_, _], _ => rfl
theorem T__law_pick (T : Tx K mg) : mg "_law_pick" = some (.ref (He.fAd K d__law_pick.at_)) := T.glo (T.d.fact 55 rfl)
theorem F__law_row (T : Tx K mg) : FnP K "_law_row" "_law_row" s__law_row (He.fAd K d__law_row.at_) (fdO K d__law_row) := T.fun_ (d := d__law_row) 61 rfl rfl rfl
theorem b__law_row (T : Tx K mg) : Binds K (fdO K d__law_row) ["_law_draws_here", "_law_k", "_law_states"] [] := (F__law_row T).bindsN fun _ _ _ _ _ _ us hl => match us, hl with | [_, _, _], _ => rfl
theorem T__law_row (T : Tx K mg) : mg "_law_row" = some (.ref (He.fAd K d__law_row.at_)) := T.glo (T.d.fact 56 rfl)
theorem F__law_machine (T : Tx K mg) : FnP K "_law_machine" "_law_machine" s__law_machine (He.fAd K d__law_machine.at_) (fdO K d__law_machine) := T.fun_ (d := d__law_machine) 62 rfl rfl rfl
theorem b__law_machine (T : Tx K mg) : Binds K (fdO K d__law_machine) ["_law_draws_here"] [] := (F__law_machine T).bindsN fun _ _ _ _ _ _ us hl => match us, hl with | [_], _ => rfl
theorem T__law_machine (T : Tx K mg) : mg "_law_machine" = some (.ref (He.fAd K d__law_machine.at_)) := T.glo (T.d.fact 57 rfl)
theorem F__law_word (T : Tx K mg) : FnP K "_law_word" "_law_word" s__law_word (He.fAd K d__law_word.at_) (fdO K d__law_word) := T.fun_ (d := d__law_word) 63 rfl rfl rfl
theorem b__law_word (T : Tx K mg) : Binds K (fdO K d__law_word) ["_law_draws_here", "_law_machine_here", "_law_most"] [] := (F__law_word T).bindsN fun _ _ _ _ _ _ us hl => match us, hl with | [_, _, _], _ => rfl
theorem T__law_word (T : Tx K mg) : mg "_law_word" = some (.ref (He.fAd K d__law_word.at_)) := T.glo (T.d.fact 58 rfl)
theorem F__law_state_of (T : Tx K mg) : FnP K "_law_state_of" "_law_state_of" s__law_state_of (He.fAd K d__law_state_of.at_) (fdO K d__law_state_of) := T.fun_ (d := d__law_state_of) 64 rfl rfl rfl
theorem b__law_state_of (T : Tx K mg) : Binds K (fdO K d__law_state_of) ["_law_letter"] [] := (F__law_state_of T).bindsN fun _ _ _ _ _ _ us hl => match us, hl with | [_], _ => rfl
theorem T__law_state_of (T : Tx K mg) : mg "_law_state_of" = some (.ref (He.fAd K d__law_state_of.at_)) := T.glo (T.d.fact 59 rfl)
theorem F__law_turned (T : Tx K mg) : FnP K "_law_turned" "_law_turned" s__law_turned (He.fAd K d__law_turned.at_) (fdO K d__law_turned) := T.fun_ (d := d__law_turned) 65 rfl rfl rfl
theorem b__law_turned (T : Tx K mg) : Binds K (fdO K d__law_turned) ["_law_letter"] [] := (F__law_turned T).bindsN fun _ _ _ _ _ _ us hl => match us, hl with | [_], _ => rfl
theorem T__law_turned (T : Tx K mg) : mg "_law_turned" = some (.ref (He.fAd K d__law_turned.at_)) := T.glo (T.d.fact 60 rfl)
theorem F__law_cut (T : Tx K mg) : FnP K "_law_cut" "_law_cut" s__law_cut (He.fAd K d__law_cut.at_) (fdO K d__law_cut) := T.fun_ (d := d__law_cut) 66 rfl rfl rfl
theorem b__law_cut (T : Tx K mg) : Binds K (fdO K d__law_cut) ["_law_word_here"] [] := (F__law_cut T).bindsN fun _ _ _ _ _ _ us hl => match us, hl with | [_], _ => rfl
theorem T__law_cut (T : Tx K mg) : mg "_law_cut" = some (.ref (He.fAd K d__law_cut.at_)) := T.glo (T.d.fact 61 rfl)
theorem F__law_undone (T : Tx K mg) : FnP K "_law_undone" "_law_undone" s__law_undone (He.fAd K d__law_undone.at_) (fdO K d__law_undone) := T.fun_ (d := d__law_undone) 67 rfl rfl rfl
theorem b__law_undone (T : Tx K mg) : Binds K (fdO K d__law_undone) ["_law_word_here"] [] := (F__law_undone T).bindsN fun _ _ _ _ _ _ us hl => match us, hl with | [_], _ => rfl
theorem T__law_undone (T : Tx K mg) : mg "_law_undone" = some (.ref (He.fAd K d__law_undone.at_)) := T.glo (T.d.fact 62 rfl)
theorem F__law_passed (T : Tx K mg) : FnP K "_law_passed" "_law_passed" s__law_passed (He.fAd K d__law_passed.at_) (fdO K d__law_passed) := T.fun_ (d := d__law_passed) 68 rfl rfl rfl
theorem b__law_passed (T : Tx K mg) : Binds K (fdO K d__law_passed) ["_law_machine_here", "_law_word_here", "_law_digit"] [] := (F__law_passed T).bindsN fun _ _ _ _ _ _ us hl => match us, hl with | [_, _, _], _ => rfl
theorem T__law_passed (T : Tx K mg) : mg "_law_passed" = some (.ref (He.fAd K d__law_passed.at_)) := T.glo (T.d.fact 63 rfl)
theorem F__law_image (T : Tx K mg) : FnP K "_law_image" "_law_image" s__law_image (He.fAd K d__law_image.at_) (fdO K d__law_image) := T.fun_ (d := d__law_image) 69 rfl rfl rfl
theorem b__law_image (T : Tx K mg) : Binds K (fdO K d__law_image) ["_law_machine_here", "_law_word_here", "_law_string_here"] [] := (F__law_image T).bindsN fun _ _ _ _ _ _ us hl => match us, hl with | [_, _, _], _ => rfl
theorem T__law_image (T : Tx K mg) : mg "_law_image" = some (.ref (He.fAd K d__law_image.at_)) := T.glo (T.d.fact 64 rfl)
theorem F__law_string (T : Tx K mg) : FnP K "_law_string" "_law_string" s__law_string (He.fAd K d__law_string.at_) (fdO K d__law_string) := T.fun_ (d := d__law_string) 70 rfl rfl rfl
theorem b__law_string (T : Tx K mg) : Binds K (fdO K d__law_string) ["_law_draws_here", "_law_k", "_law_most"] [] := (F__law_string T).bindsN fun _ _ _ _ _ _ us hl => match us, hl with | [_, _, _], _ => rfl
theorem T__law_string (T : Tx K mg) : mg "_law_string" = some (.ref (He.fAd K d__law_string.at_)) := T.glo (T.d.fact 65 rfl)
theorem F__law_is_directed (T : Tx K mg) : FnP K "_law_is_directed" "_law_is_directed" s__law_is_directed (He.fAd K d__law_is_directed.at_) (fdO K d__law_is_directed) := T.fun_ (d := d__law_is_directed) 71 rfl rfl rfl
theorem b__law_is_directed (T : Tx K mg) : Binds K (fdO K d__law_is_directed) ["_law_machine_here"] [] := (F__law_is_directed T).bindsN fun _ _ _ _ _ _ us hl => match us, hl with | [_], _ => rfl
theorem T__law_is_directed (T : Tx K mg) : mg "_law_is_directed" = some (.ref (He.fAd K d__law_is_directed.at_)) := T.glo (T.d.fact 66 rfl)
theorem F__law_directed (T : Tx K mg) : FnP K "_law_directed" "_law_directed" s__law_directed (He.fAd K d__law_directed.at_) (fdO K d__law_directed) := T.fun_ (d := d__law_directed) 72 rfl rfl rfl
theorem b__law_directed (T : Tx K mg) : Binds K (fdO K d__law_directed) ["_law_draws_here"] [] := (F__law_directed T).bindsN fun _ _ _ _ _ _ us hl => match us, hl with | [_], _ => rfl
theorem T__law_directed (T : Tx K mg) : mg "_law_directed" = some (.ref (He.fAd K d__law_directed.at_)) := T.glo (T.d.fact 67 rfl)
theorem F__law_order (T : Tx K mg) : FnP K "_law_order" "_law_order" s__law_order (He.fAd K d__law_order.at_) (fdO K d__law_order) := T.fun_ (d := d__law_order) 73 rfl rfl rfl
theorem b__law_order (T : Tx K mg) : Binds K (fdO K d__law_order) ["_law_machine_here", "_law_word_here"] [] := (F__law_order T).bindsN fun _ _ _ _ _ _ us hl => match us, hl with | [_, _], _ => rfl
theorem T__law_order (T : Tx K mg) : mg "_law_order" = some (.ref (He.fAd K d__law_order.at_)) := T.glo (T.d.fact 68 rfl)
theorem F_law (T : Tx K mg) : FnP K "law" "law" s_law (He.fAd K d_law.at_) (fdO K d_law) := T.fun_ (d := d_law) 74 rfl rfl rfl
theorem b_law (T : Tx K mg) : Binds K (fdO K d_law) ["_law_script"] [] := (F_law T).bindsN fun _ _ _ _ _ _ us hl => match us, hl with | [_], _ => rfl
theorem T_law (T : Tx K mg) : mg "law" = some (.ref (He.fAd K d_law.at_)) := T.glo (T.d.fact 69 rfl)
theorem T_Actor (T : Tx K mg) : mg "Actor" = some (.ref (He.ga K "Actor")) := T.glo (T.d.fact 70 rfl)
theorem T_TooLarge (T : Tx K mg) : mg "TooLarge" = some (.ref (He.ga K "TooLarge")) := T.glo (T.d.fact 71 rfl)
theorem T_LEVELS (T : Tx K mg) : mg "LEVELS" = some (.ref (He.ga K "LEVELS")) := T.glo (T.d.fact 72 rfl)
theorem B_len (T : Tx K mg) : mg "len" = none := T.free (T.d.fact 73 rfl)
theorem B_sorted (T : Tx K mg) : mg "sorted" = none := T.free (T.d.fact 74 rfl)
theorem B_range (T : Tx K mg) : mg "range" = none := T.free (T.d.fact 75 rfl)
theorem B_any (T : Tx K mg) : mg "any" = none := T.free (T.d.fact 76 rfl)
theorem B_all (T : Tx K mg) : mg "all" = none := T.free (T.d.fact 77 rfl)
theorem B_int (T : Tx K mg) : mg "int" = none := T.free (T.d.fact 78 rfl)
theorem B_str (T : Tx K mg) : mg "str" = none := T.free (T.d.fact 79 rfl)
theorem B_tuple (T : Tx K mg) : mg "tuple" = none := T.free (T.d.fact 80 rfl)
theorem B_list (T : Tx K mg) : mg "list" = none := T.free (T.d.fact 81 rfl)
theorem B_abs (T : Tx K mg) : mg "abs" = none := T.free (T.d.fact 82 rfl)
theorem B_max (T : Tx K mg) : mg "max" = none := T.free (T.d.fact 83 rfl)
theorem B_min (T : Tx K mg) : mg "min" = none := T.free (T.d.fact 84 rfl)
theorem B_enumerate (T : Tx K mg) : mg "enumerate" = none := T.free (T.d.fact 85 rfl)
theorem B_zip (T : Tx K mg) : mg "zip" = none := T.free (T.d.fact 86 rfl)
theorem T_MOST_STATES_certificates (T : Tx K mg) : ∃ t, mg "MOST_STATES_certificates" = some (.int 8 t) := T.int (T.d.fact 87 rfl)
theorem T_MOST_LETTERS_certificates (T : Tx K mg) : ∃ t, mg "MOST_LETTERS_certificates" = some (.int 60 t) := T.int (T.d.fact 88 rfl)
theorem T_MOST_DIGITS_certificates (T : Tx K mg) : ∃ t, mg "MOST_DIGITS_certificates" = some (.int 60 t) := T.int (T.d.fact 89 rfl)
theorem T_MOST_ORDER (T : Tx K mg) : ∃ t, mg "MOST_ORDER" = some (.int 200 t) := T.int (T.d.fact 90 rfl)
theorem T_MOST_STEPS_certificates (T : Tx K mg) : ∃ t, mg "MOST_STEPS_certificates" = some (.int 2000 t) := T.int (T.d.fact 91 rfl)
theorem T_LONGEST_certificates (T : Tx K mg) : ∃ t, mg "LONGEST_certificates" = some (.int 2000 t) := T.int (T.d.fact 92 rfl)
theorem T_MOST_WORDS_certificates (T : Tx K mg) : ∃ t, mg "MOST_WORDS_certificates" = some (.int 4000 t) := T.int (T.d.fact 93 rfl)
theorem T_LEAST_DIGITS (T : Tx K mg) : ∃ t, mg "LEAST_DIGITS" = some (.int 2 t) := T.int (T.d.fact 94 rfl)
theorem T_MOST_DIGITS_machines (T : Tx K mg) : ∃ t, mg "MOST_DIGITS_machines" = some (.int 4 t) := T.int (T.d.fact 95 rfl)
theorem T_MOST_STATES_machines (T : Tx K mg) : ∃ t, mg "MOST_STATES_machines" = some (.int 8 t) := T.int (T.d.fact 96 rfl)
theorem T_MOST_WIDE (T : Tx K mg) : ∃ t, mg "MOST_WIDE" = some (.int 200 t) := T.int (T.d.fact 97 rfl)
theorem T_LONGEST_words (T : Tx K mg) : ∃ t, mg "LONGEST_words" = some (.int 60 t) := T.int (T.d.fact 98 rfl)
theorem T_MOST_WORDS_closed (T : Tx K mg) : ∃ t, mg "MOST_WORDS_closed" = some (.int 4000 t) := T.int (T.d.fact 99 rfl)
theorem T_MOST_STEPS_orders (T : Tx K mg) : ∃ t, mg "MOST_STEPS_orders" = some (.int 2000 t) := T.int (T.d.fact 100 rfl)
theorem T_MOST_LETTERS_orders (T : Tx K mg) : ∃ t, mg "MOST_LETTERS_orders" = some (.int 2000 t) := T.int (T.d.fact 101 rfl)
theorem T_LOOKED_AT (T : Tx K mg) : ∃ t, mg "LOOKED_AT" = some (.int 64 t) := T.int (T.d.fact 102 rfl)
theorem T_LONGEST_decide (T : Tx K mg) : ∃ t, mg "LONGEST_decide" = some (.int 60 t) := T.int (T.d.fact 103 rfl)
theorem T_SMALL_certificates (T : Tx K mg) : ∃ t, mg "SMALL_certificates" = some (.str "abcdefgh" t) := T.str (T.d.fact 104 rfl)
theorem T_GREAT (T : Tx K mg) : ∃ t, mg "GREAT" = some (.str "ABCDEFGH" t) := T.str (T.d.fact 105 rfl)
theorem T_LETTERS (T : Tx K mg) : ∃ t, mg "LETTERS" = some (.str "abcdefghABCDEFGH" t) := T.str (T.d.fact 106 rfl)
theorem T_TURNED (T : Tx K mg) : ∃ t, mg "TURNED" = some (.str "ABCDEFGHabcdefgh" t) := T.str (T.d.fact 107 rfl)
theorem T_NONE (T : Tx K mg) : ∃ t, mg "NONE" = some (.str "none" t) := T.str (T.d.fact 108 rfl)
theorem T_SMALL_words (T : Tx K mg) : ∃ t, mg "SMALL_words" = some (.str "abcdefgh" t) := T.str (T.d.fact 109 rfl)
theorem T_LARGE (T : Tx K mg) : ∃ t, mg "LARGE" = some (.str "ABCDEFGH" t) := T.str (T.d.fact 110 rfl)
theorem T_ORDER (T : Tx K mg) : ∃ t, mg "ORDER" = some (.str "aAbBcCdDeEfFgGhH" t) := T.str (T.d.fact 111 rfl)
theorem T_EQUAL (T : Tx K mg) : ∃ t, mg "EQUAL" = some (.str "equal" t) := T.str (T.d.fact 112 rfl)
theorem T_APART (T : Tx K mg) : ∃ t, mg "APART" = some (.str "apart" t) := T.str (T.d.fact 113 rfl)
theorem T_FINITE (T : Tx K mg) : ∃ t, mg "FINITE" = some (.str "finite" t) := T.str (T.d.fact 114 rfl)
theorem T_ENDLESS (T : Tx K mg) : ∃ t, mg "ENDLESS" = some (.str "endless" t) := T.str (T.d.fact 115 rfl)
theorem T_OPEN (T : Tx K mg) : ∃ t, mg "OPEN" = some (.str "open" t) := T.str (T.d.fact 116 rfl)
theorem C_Actor (T : Tx K mg) : Cls K (He.ga K "Actor") := He.cls_ok (T.d.fact 117 rfl)
theorem A_size (T : Tx K mg) : NoAttr K (He.ga K "Actor") "size" := He.noat_ok (T.d.fact 118 rfl)
theorem A_table (T : Tx K mg) : NoAttr K (He.ga K "Actor") "table" := He.noat_ok (T.d.fact 119 rfl)
theorem X_TooLarge (T : Tx K mg) : PySem.W.excIn K (He.ga K "TooLarge") He.veBase "ValueError.__new__" = true ∧ PySem.W.keepIn K (.ref (He.ga K "TooLarge")) = true ∧ PySem.W.subIn K (.ref (He.ga K "TooLarge")) (.type "BaseException") = some true ∧ PySem.W.typeIn K (.ref (He.ga K "TooLarge")) = some (.type "type") := He.exc_ok (T.d.fact 125 rfl)
theorem Y_TooLarge (T : Tx K mg) : PySem.W.exmOne K (.ref (He.ga K "TooLarge")) (.ref (He.ga K "TooLarge")) = some true := He.exm_ok (T.d.fact 126 rfl)
theorem entB_ok {e : DictEntry} {i j : Int} (h : entB e i j = true) : ∃ t u, e.key = .int i t ∧ e.val = .int j u ∧ e.hash = hashInt i := by
  obtain ⟨hs, k, v⟩ := e
  unfold entB at h
  cases k with
  | int a t =>
    cases v with
    | int b u =>
      obtain ⟨h1, h2⟩ := He.ba (show (decide (a = i) && (decide (b = j) && decide (hs = hashInt i))) = true from h)
      obtain ⟨h3, h4⟩ := He.ba h2
      have e1 := of_decide_eq_true h1
      have e2 := of_decide_eq_true h3
      have e3 := of_decide_eq_true h4
      subst e1 e2
      exact ⟨t, u, rfl, rfl, e3⟩
    | _ => cases h
  | _ => cases h
theorem lev3 : ∀ (l : List DictEntry), (match l with
    | [e1, e2, e3] => entB e1 2 4 && (entB e2 3 2 && entB e3 4 2)
    | _ => false) = true → ∃ t1 u1 t2 u2 t3 u3, l = [⟨hashInt 2, .int 2 t1, .int 4 u1⟩, ⟨hashInt 3, .int 3 t2, .int 2 u2⟩, ⟨hashInt 4, .int 4 t3, .int 2 u3⟩]
  | [⟨a1, k1, v1⟩, ⟨a2, k2, v2⟩, ⟨a3, k3, v3⟩], h6 => by
    obtain ⟨g1, h7⟩ := He.ba h6
    obtain ⟨g2, g3⟩ := He.ba h7
    obtain ⟨t1, u1, p1, r1, s1⟩ := entB_ok g1
    obtain ⟨t2, u2, p2, r2, s2⟩ := entB_ok g2
    obtain ⟨t3, u3, p3, r3, s3⟩ := entB_ok g3
    dsimp only at p1 r1 s1 p2 r2 s2 p3 r3 s3
    subst p1 r1 s1 p2 r2 s2 p3 r3 s3
    exact ⟨t1, u1, t2, u2, t3, u3, rfl⟩
  | [], h => by cases h
  | [_], h => by cases h
  | [_, _], h => by cases h
  | _ :: _ :: _ :: _ :: _, h => by cases h
/-- LEVELS -/
theorem levels (T : Tx K mg) : LR.KDctI K (He.ga K "LEVELS") 2 4 ∧ LR.KDctI K (He.ga K "LEVELS") 3 2 := by
  have h := T.lc.1
  unfold levB at h
  cases q : K.lookup (He.ga K "LEVELS") with
  | none =>
    rw [q] at h
    cases h
  | some o =>
    obtain ⟨oc, od, dt, osl⟩ := o
    rw [q] at h
    cases oc with
    | type c =>
      cases od with
      | none =>
        cases dt with
        | dict es n =>
          obtain ⟨h1, h2⟩ := He.ba (show (decide (c = "dict") && (osl.isEmpty && (!(He.ga K "LEVELS" == sysModules) && (match es.toList with
            | [e1, e2, e3] => entB e1 2 4 && (entB e2 3 2 && entB e3 4 2)
            | _ => false)))) = true from h)
          obtain ⟨h3, h4⟩ := He.ba h2
          obtain ⟨_, h5⟩ := He.ba h4
          have e1 : c = "dict" := of_decide_eq_true h1
          have e2 : osl = #[] := Array.isEmpty_iff.mp h3
          subst e1 e2
          obtain ⟨t1, u1, t2, u2, t3, u3, el⟩ := lev3 _ h5
          obtain ⟨l⟩ := es
          dsimp only at el
          subst el
          have hk : LR.KeysI [⟨hashInt 2, .int 2 t1, .int 4 u1⟩, ⟨hashInt 3, .int 3 t2, .int 2 u2⟩, ⟨hashInt 4, .int 4 t3, .int 2 u3⟩] := ⟨⟨2, t1, rfl, rfl⟩, ⟨3, t2, rfl, rfl⟩, ⟨4, t3, rfl, rfl⟩, trivial⟩
          exact ⟨⟨_, n, u1, q, hk, rfl⟩, ⟨_, n, u2, q, hk, rfl⟩⟩
        | _ => cases h
      | some b => cases dt <;> cases h
    | _ => cases od <;> cases dt <;> cases h
end
end LT

set_option Elab.async false
set_option linter.all false
set_option maxRecDepth 100000
set_option maxHeartbeats 4000000
/-! words and strings as texts, machines in the heap, what my own rules evaluate to -/
namespace LT
open PySem PySem.Spec PyProof.Rows L2 Evl
/-! ### texts -/
def code (l : Lt) : Nat := if l.2 then 65 + l.1 else 97 + l.1
def enc (w : Wd) : Str := ⟨(w.map code).toArray⟩
def encD (s : List Nat) : Str := ⟨(s.map (48 + ·)).toArray⟩
def L8 (w : Wd) : Prop := ∀ l ∈ w, l.1 < 8
def D4 (s : List Nat) : Prop := ∀ d ∈ s, d < 4
theorem enc_length (w : Wd) : (enc w).length = w.length := by simp [enc, Str.length]
theorem encD_length (s : List Nat) : (encD s).length = s.length := by simp [encD, Str.length]
theorem enc_size (w : Wd) : (enc w).cps.size = w.length := by simp [enc]
theorem encD_size (w : List Nat) : (encD w).cps.size = w.length := by simp [encD]
theorem str_append (a b : Str) : a ++ b = ⟨a.cps ++ b.cps⟩ := rfl
theorem enc_append (u v : Wd) : enc u ++ enc v = enc (u ++ v) := by
  rw [str_append]; simp [enc]
theorem encD_append (u v : List Nat) : encD u ++ encD v = encD (u ++ v) := by
  rw [str_append]; simp [encD]
theorem code_inj {a b : Lt} (ha : a.1 < 8) (hb : b.1 < 8) (h : code a = code b) : a = b := by
  obtain ⟨s, x⟩ := a
  obtain ⟨t, y⟩ := b
  unfold code at h
  cases x <;> cases y <;> simp at h ha hb <;> first | (subst h; rfl) | omega
theorem map_code_inj : ∀ {u v : Wd}, L8 u → L8 v → u.map code = v.map code → u = v
  | [], [], _, _, _ => rfl
  | [], _ :: _, _, _, h => by simp at h
  | _ :: _, [], _, _, h => by simp at h
  | a :: u, b :: v, hu, hv, h => by
    have h : code a :: u.map code = code b :: v.map code := h
    injection h with h1 h2
    rw [code_inj (hu a (by simp)) (hv b (by simp)) h1, map_code_inj (fun x hx => hu x (by simp [hx])) (fun x hx => hv x (by simp [hx])) h2]
theorem enc_inj {u v : Wd} (hu : L8 u) (hv : L8 v) : enc u = enc v ↔ u = v := by
  constructor
  · intro h
    have h1 : (u.map code).toArray = (v.map code).toArray := congrArg Str.cps h
    exact map_code_inj hu hv (by simpa using congrArg Array.toList h1)
  · intro h; rw [h]
theorem encD_inj {u v : List Nat} : encD u = encD v ↔ u = v := by
  constructor
  · intro h
    have h1 : (u.map (48 + ·)).toArray = (v.map (48 + ·)).toArray := congrArg Str.cps h
    have h2 : u.map (48 + ·) = v.map (48 + ·) := by simpa using congrArg Array.toList h1
    exact (List.map_inj_right (fun a b q => by omega)).mp h2
  · intro h; rw [h]
theorem enc_nil : enc [] = Str.empty := rfl
theorem enc_one (l : Lt) : enc [l] = ⟨#[code l]⟩ := rfl
theorem encD_nil : encD [] = Str.empty := rfl
theorem encD_one (d : Nat) : encD [d] = ⟨#[48 + d]⟩ := rfl
theorem enc_get {w : Wd} {i c : Nat} (h : (enc w).cps[i]? = some c) : ∃ l, w[i]? = some l ∧ c = code l := by
  simp only [enc, List.getElem?_toArray, List.getElem?_map, Option.map_eq_some_iff] at h
  obtain ⟨l, h1, h2⟩ := h
  exact ⟨l, h1, h2.symm⟩
theorem encD_get {w : List Nat} {i c : Nat} (h : (encD w).cps[i]? = some c) : ∃ l, w[i]? = some l ∧ c = 48 + l := by
  simp only [encD, List.getElem?_toArray, List.getElem?_map, Option.map_eq_some_iff] at h
  obtain ⟨l, h1, h2⟩ := h
  exact ⟨l, h1, h2.symm⟩
theorem L8.append {u v : Wd} (h : L8 u) (h2 : L8 v) : L8 (u ++ v) := fun l hl => (List.mem_append.mp hl).elim (h l) (h2 l)
theorem L8.cut {w : Wd} (h : L8 w) : L8 (cut w) := fun l hl => h l (cut_mem hl)
theorem L8.und {w : Wd} (h : L8 w) : L8 (und w) := by
  intro l hl
  simp only [LT.und, List.mem_map, List.mem_reverse] at hl
  obtain ⟨x, hx, rfl⟩ := hl
  exact h x hx
theorem WOk.l8 {M : Mach} (O : M.Ok) {w : Wd} (h : WOk M w) : L8 w := fun l hl => by have := h l hl; have := O.n4; omega
theorem SOk.d4 {M : Mach} (O : M.Ok) {w : List Nat} (h : SOk M w) : D4 w := fun l hl => by have := h l hl; have := O.k3; omega
theorem take_succ {α : Type} {l : List α} {i : Nat} {x : α} (h : l[i]? = some x) : l.take (i + 1) = l.take i ++ [x] := by
  rw [List.take_add_one, h]; rfl
/-- joined with nothing between -/
theorem join_nil : ∀ (ys : List Str), Txt.join (Str.ofString "") ys = ⟨(ys.flatMap fun y => y.cps.toList).toArray⟩ := by
  intro ys
  rw [TL.join_eq]
  have e : (Str.ofString "") = Str.empty := rfl
  rw [e]
  induction ys with
  | nil => rfl
  | cons a r ih =>
    cases r with
    | nil =>
      show a = _
      simp
    | cons b r =>
      show a ++ Str.empty ++ Str.join Str.empty (b :: r) = _
      rw [ih, str_append, str_append]
      simp [Str.empty]
theorem join_encs (ws : List Wd) : Txt.join (Str.ofString "") (ws.map enc) = enc ws.flatten := by
  rw [join_nil]
  simp only [enc]
  congr 2
  induction ws with
  | nil => rfl
  | cons a r ih => simp only [List.map_cons, List.flatMap_cons, ih, List.flatten_cons, List.map_append]; simp [enc]
theorem join_encDs (ws : List (List Nat)) : Txt.join (Str.ofString "") (ws.map encD) = encD ws.flatten := by
  rw [join_nil]
  simp only [encD]
  congr 2
  induction ws with
  | nil => rfl
  | cons a r ih => simp only [List.map_cons, List.flatMap_cons, ih, List.flatten_cons, List.map_append]; simp [encD]
theorem flat_one {α : Type} : ∀ (w : List α), (w.map fun l => [l]).flatten = w
  | [] => rfl
  | a :: r => by simp [flat_one r]
theorem join_letters (w : Wd) : Txt.join (Str.ofString "") (w.map fun l => enc [l]) = enc w := by
  have := join_encs (w.map fun l => [l])
  rw [List.map_map, flat_one] at this
  exact this
theorem join_digits (w : List Nat) : Txt.join (Str.ofString "") (w.map fun l => encD [l]) = encD w := by
  have := join_encDs (w.map fun l => [l])
  rw [List.map_map, flat_one] at this
  exact this
theorem rev_enc (w : Wd) : (⟨(enc w).cps.toList.reverse.toArray⟩ : Str) = enc w.reverse := by simp [enc]
theorem mul_foldl (a : Array Nat) : ∀ (n : Nat) (b : Array Nat), (List.replicate n a).foldl (· ++ ·) b = b ++ (List.replicate n a.toList).flatten.toArray
  | 0, b => by simp
  | n + 1, b => by
    rw [List.replicate_succ, List.foldl_cons, mul_foldl a n, List.replicate_succ, List.flatten_cons]
    apply Array.ext'
    simp
theorem pw_map (w : Wd) : ∀ n, (pw w n).map code = (List.replicate n (w.map code)).flatten
  | 0 => rfl
  | n + 1 => by
    show (w ++ pw w n).map code = _
    rw [List.map_append, pw_map w n, List.replicate_succ, List.flatten_cons]
theorem mul_enc (w : Wd) (n : Nat) : Txt.mul (enc w) (n : Int) = enc (pw w n) := by
  unfold Txt.mul
  by_cases h0 : (n : Int) < 1
  · have : n = 0 := by omega
    subst this
    rw [if_pos h0]; rfl
  · rw [if_neg h0]
    by_cases h1 : ((n : Int) == 1 || (enc w).length == 0) = true
    · rw [if_pos h1]
      rcases Bool.or_eq_true_iff.mp h1 with h | h
      · have : n = 1 := by have := beq_iff_eq.mp h; omega
        subst this
        rw [pw_one]
      · have hw : w = [] := by
          have := beq_iff_eq.mp h
          rw [enc_length] at this
          exact List.length_eq_zero_iff.mp this
        subst hw
        have : ∀ k, pw [] k = [] := fun k => by induction k with | zero => rfl | succ k ih => show [] ++ pw [] k = []; rw [ih]; rfl
        rw [this]
    · rw [if_neg h1]
      unfold enc
      rw [pw_map]
      have e : ((n : Int)).toNat = n := by omega
      rw [e, mul_foldl]
      simp
theorem cutS_take (w : Wd) {at_ : Nat} (h : at_ ≤ w.length) : cutS (enc w) none (some (at_ : Int)) = enc (w.take at_) := by
  unfold cutS
  rw [enc_length, HT.sIx_none, HT.sIx_nat]
  simp [enc, List.map_take]
/-! letters in the alphabets -/
theorem codes_small : (Str.ofString "abcdefgh").cps.toList = [97, 98, 99, 100, 101, 102, 103, 104] := by decide +kernel
theorem codes_big : (Str.ofString "ABCDEFGH").cps.toList = [65, 66, 67, 68, 69, 70, 71, 72] := by decide +kernel
theorem codes_letters : (Str.ofString "abcdefghABCDEFGH").cps.toList = [97, 98, 99, 100, 101, 102, 103, 104, 65, 66, 67, 68, 69, 70, 71, 72] := by decide +kernel
theorem codes_turned : (Str.ofString "ABCDEFGHabcdefgh").cps.toList = [65, 66, 67, 68, 69, 70, 71, 72, 97, 98, 99, 100, 101, 102, 103, 104] := by decide +kernel
theorem codes_digits : (Str.ofString "0123").cps.toList = [48, 49, 50, 51] := by decide +kernel
theorem lt8 {P : Nat → Prop} (h0 : P 0) (h1 : P 1) (h2 : P 2) (h3 : P 3) (h4 : P 4) (h5 : P 5) (h6 : P 6) (h7 : P 7) : ∀ s, s < 8 → P s := by
  intro s hs
  have : s = 0 ∨ s = 1 ∨ s = 2 ∨ s = 3 ∨ s = 4 ∨ s = 5 ∨ s = 6 ∨ s = 7 := by omega
  rcases this with h | h | h | h | h | h | h | h <;> subst h <;> assumption
theorem small_at : ∀ s : Nat, s < 8 → atI (Str.ofString "abcdefgh").cps.toList (s : Int) = some (97 + s) := by
  rw [codes_small]; apply lt8 <;> rfl
theorem big_at : ∀ s : Nat, s < 8 → atI (Str.ofString "ABCDEFGH").cps.toList (s : Int) = some (65 + s) := by
  rw [codes_big]; apply lt8 <;> rfl
def num (l : Lt) : Nat := if l.2 then 8 + l.1 else l.1
theorem turned_at {l : Lt} (h : l.1 < 8) : atI (Str.ofString "ABCDEFGHabcdefgh").cps.toList ((num l : Nat) : Int) = some (code (inv l)) := by
  rw [codes_turned]
  obtain ⟨s, b⟩ := l
  cases b
  · revert s; apply lt8 <;> rfl
  · revert s; apply lt8 <;> rfl
theorem letters_index {l : Lt} (h : l.1 < 8) : ∃ rest, Builtin.Str.occurrences (Str.ofString "abcdefghABCDEFGH") (enc [l]) 0 (Str.ofString "abcdefghABCDEFGH").length 1 = num l :: rest := by
  obtain ⟨s, b⟩ := l
  refine ⟨[], ?_⟩
  cases b
  · revert s; apply lt8 <;> decide +kernel
  · revert s; apply lt8 <;> decide +kernel
theorem small_index : ∀ s, s < 8 → ∃ rest, Builtin.Str.occurrences (Str.ofString "abcdefgh") (enc [(s, false)]) 0 (Str.ofString "abcdefgh").length 1 = s :: rest := by
  intro s hs
  refine ⟨[], ?_⟩
  revert s; apply lt8 <;> decide +kernel
theorem big_index : ∀ s, s < 8 → ∃ rest, Builtin.Str.occurrences (Str.ofString "ABCDEFGH") (enc [(s, true)]) 0 (Str.ofString "ABCDEFGH").length 1 = s :: rest := by
  intro s hs
  refine ⟨[], ?_⟩
  revert s; apply lt8 <;> decide +kernel
theorem in_small {l : Lt} (h : l.1 < 8) : decide (code l ∈ (Str.ofString "abcdefgh").cps.toList) = !l.2 := by
  rw [codes_small]
  obtain ⟨s, b⟩ := l
  cases b
  · revert s; apply lt8 <;> rfl
  · revert s; apply lt8 <;> rfl
theorem num_mod {l : Lt} (h : l.1 < 8) : ((num l : Nat) : Int) % 8 = (l.1 : Int) := by
  obtain ⟨s, b⟩ := l
  cases b <;> simp [num] at h ⊢ <;> omega
theorem str_digit {d : Nat} (h : d < 4) : (Str.ofString (toString ((d : Nat) : Int))) = encD [d] := by
  have : d = 0 ∨ d = 1 ∨ d = 2 ∨ d = 3 := by omega
  rcases this with h | h | h | h <;> subst h <;> decide +kernel
theorem int_digit {d : Nat} (h : d < 4) : PySem.intText? (encD [d]) = some (d : Int) := by
  have : d = 0 ∨ d = 1 ∨ d = 2 ∨ d = 3 := by omega
  rcases this with h | h | h | h <;> subst h <;> decide +kernel
theorem in_digits {d k : Nat} (hk : k ≤ 4) : decide (48 + d ∈ (cutS (Str.ofString "0123") none (some (k : Int))).cps.toList) = decide (d < k) := by
  have e : (cutS (Str.ofString "0123") none (some (k : Int))).cps.toList = (List.range k).map (48 + ·) := by
    have : k = 0 ∨ k = 1 ∨ k = 2 ∨ k = 3 ∨ k = 4 := by omega
    rcases this with h | h | h | h | h <;> subst h <;> decide +kernel
  rw [e]
  congr 1
  simp
/-- the letters of the first n states, small and large -/
theorem in_alphabet {l : Lt} (hl : l.1 < 8) : ∀ n : Nat, n < 9 → decide (code l ∈ (cutS (Str.ofString "abcdefgh") none (some (n : Int)) ++ cutS (Str.ofString "ABCDEFGH") none (some (n : Int))).cps.toList) = decide (l.1 < n) := by
  intro n hn
  have e : (cutS (Str.ofString "abcdefgh") none (some (n : Int)) ++ cutS (Str.ofString "ABCDEFGH") none (some (n : Int))).cps.toList = (List.range n).map (97 + ·) ++ (List.range n).map (65 + ·) := by
    have : n = 0 ∨ n = 1 ∨ n = 2 ∨ n = 3 ∨ n = 4 ∨ n = 5 ∨ n = 6 ∨ n = 7 ∨ n = 8 := by omega
    rcases this with h | h | h | h | h | h | h | h | h <;> subst h <;> decide +kernel
  rw [e]
  congr 1
  obtain ⟨s, b⟩ := l
  simp only [List.mem_append, List.mem_map, List.mem_range, eq_iff_iff]
  unfold code
  simp only at hl
  constructor
  · rintro (⟨a, h1, h2⟩ | ⟨a, h1, h2⟩) <;> cases b <;> simp at h2 ⊢ <;> omega
  · intro h
    cases b
    · exact .inl ⟨s, h, rfl⟩
    · exact .inr ⟨s, h, rfl⟩
theorem in_order {l : Lt} (hl : l.1 < 8) : ∀ n : Nat, n < 9 → decide (code l ∈ (cutS (Str.ofString "aAbBcCdDeEfFgGhH") none (some (2 * (n : Int)))).cps.toList) = decide (l.1 < n) := by
  intro n hn
  have e : (cutS (Str.ofString "aAbBcCdDeEfFgGhH") none (some (2 * (n : Int)))).cps.toList = (List.range n).flatMap fun s => [97 + s, 65 + s] := by
    have : n = 0 ∨ n = 1 ∨ n = 2 ∨ n = 3 ∨ n = 4 ∨ n = 5 ∨ n = 6 ∨ n = 7 ∨ n = 8 := by omega
    rcases this with h | h | h | h | h | h | h | h | h <;> subst h <;> decide +kernel
  rw [e]
  congr 1
  obtain ⟨s, b⟩ := l
  simp only [List.mem_flatMap, List.mem_range, eq_iff_iff]
  unfold code
  simp only at hl
  constructor
  · rintro ⟨a, h1, h2⟩
    cases b <;> simp at h2 ⊢ <;> omega
  · intro h
    cases b
    · exact ⟨s, h, by simp⟩
    · exact ⟨s, h, by simp⟩
end LT

set_option Elab.async false
set_option linter.all false
set_option maxRecDepth 100000
set_option maxHeartbeats 4000000
/-! what readings evaluate to: my own additions to Evl -/
namespace LT
open PySem PySem.Spec PyProof.Rows L2 Evl
section
variable {X : Cx}
theorem pe_gi {x : Str} {i : Int} {pos : Pos} (h : ∃ t, X.mg x = some (.int i t)) (hg : Gl X x := by rfl) (hd : (x == ("__debug__" : Str)) = false := by decide) : PE X (.Name x pos) (tC (.int i)) := by
  obtain ⟨t, h⟩ := h
  exact pe_glob hg h ⟨t, rfl⟩ hd
theorem pe_gs {x z : Str} {pos : Pos} (h : ∃ t, X.mg x = some (.str z t)) (hg : Gl X x := by rfl) (hd : (x == ("__debug__" : Str)) = false := by decide) : PE X (.Name x pos) (tC (.str z)) := by
  obtain ⟨t, h⟩ := h
  exact pe_glob hg h ⟨t, rfl⟩ hd
theorem hu64 {A : Around} {k : Nat} (hr : Room k A) : A.units + 64 < cLine := hr.units
end
/-! ### the rules with the written part K told (within a comprehension X.K is not yet K) -/
section
variable {X : Cx} {K : PySem.W.Frag}
theorem ix_listK (hK : X.K = K) : IxR X (rIxL K) := by subst hK; exact ix_list
theorem ix_tupK (hK : X.K = K) : IxR X (rIxT K) := by subst hK; exact ix_tup
theorem sl_listK (hK : X.K = K) : SlR X (rSlL K) := by subst hK; exact sl_list
theorem sl_tupK (hK : X.K = K) : SlR X (rSlT K) := by subst hK; exact sl_tup
theorem op_in_seqK (hK : X.K = K) : OpR X (compareOp .In) (rIn K false) := by subst hK; exact op_in_seq
theorem op_notIn_seqK (hK : X.K = K) : OpR X (compareOp .NotIn) (rIn K true) := by subst hK; exact op_notIn_seq
theorem op_eqDK (hK : X.K = K) (hu : X.A.units + 64 < cLine) : OpR X (compareOp .Eq) (rEqD K) := by subst hK; exact op_eqD hu
theorem op_neDK (hK : X.K = K) (hu : X.A.units + 64 < cLine) : OpR X (compareOp .NotEq) (rNeD K) := by subst hK; exact op_neD hu
theorem call_lenK (hK : X.K = K) : CallR X (.builtin "len") (fun xs H Q => ∃ x n, xs = [x] ∧ LenV K x H n ∧ Q (.int n) H) := by subst hK; exact call_len
theorem cr_anyK (hK : X.K = K) (hc : X.calm = true) : CallR X (.builtin "any") (rAny K) := by subst hK; exact cr_any hc
theorem cr_allK (hK : X.K = K) (hc : X.calm = true) : CallR X (.builtin "all") (rAll K) := by subst hK; exact cr_all hc
theorem cr_sortedK (hK : X.K = K) : CallR X (.builtin "sorted") (rSorted K) := by subst hK; exact cr_sorted
theorem cr_maxK (hK : X.K = K) (hc : X.calm = true) : CallR X (.builtin "max") (rMax K) := by subst hK; exact cr_max hc
theorem cr_minK (hK : X.K = K) (hc : X.calm = true) : CallR X (.builtin "min") (rMin K) := by subst hK; exact cr_min hc
theorem call_tuple_ofK (hK : X.K = K) : CallR X (.type "tuple") (fun xs H Q => ∃ p ys, xs = [.ref p] ∧ ((SqL K H p ys ∧ ∀ l, H l = none → Q (.ref l) (upd H l (.tup ys))) ∨ (SqT K H p ys ∧ Q (.ref p) H))) := by subst hK; exact call_tuple_of
theorem call_list_ofK (hK : X.K = K) : CallR X (.type "list") (fun xs H Q => ∃ p ys, xs = [.ref p] ∧ (SqL K H p ys ∨ SqT K H p ys) ∧ ∀ l, H l = none → Q (.ref l) (upd H l (.lst ys))) := by subst hK; exact call_list_of
theorem ix_kdictIK (hK : X.K = K) : IxR X (LR.rIxDI K) := by subst hK; exact LR.ix_kdictI
theorem mt_indexK (hK : X.K = K) : MtR X "list.index" (rIndex K) := by subst hK; exact mt_index
variable {a b e o : Expr} {ta tb te to : TE} {t : TA} {pos apos cpos p tpos : Pos} {es elts : List Expr} {k kk : Nat} {T id : String} {name : Str} {r : V → List V → Hp → VK → Prop} {tg : Expr}
theorem pe_fldK (hK : X.K = K) {f : Str} (he : PE X e ta) (hb : attributeBase e f X.env (eval e X.env) = eval e X.env) : PE X (.Attribute e f pos) (tFld K ta f) := by subst hK; exact pe_fld he hb
theorem pt_truthK (hK : X.K = K) (ha : PE X a ta) (he : ∀ whole, isTrue a X.env whole = (do let v ← whole; standAt a.pos; holding [v] (truthy v))) : PT X a (fun σ H Q => ta σ H fun x H' => ∃ k, TruV K x H' k ∧ Q k H') := by subst hK; exact pt_truth ha he
theorem pi_listK (hK : X.K = K) (h : PE X e te) : PI X tg e (iList K te) := by subst hK; exact pi_list h
theorem pi_tupK (hK : X.K = K) (h : PE X e te) : PI X tg e (iTup K te) := by subst hK; exact pi_tup h
theorem pi_enumTK (hK : X.K = K) (hg : Gl X "enumerate") (hm : X.mg "enumerate" = none) (ha : PA X [e] t) (hs : starEach [e] X.env = [(false, eval e X.env)] := by rfl) :
    PI X (.Tuple elts kk tpos) (.Call (.Name "enumerate" p) [e] [] pos) (LR.iEnumT K t) := by subst hK; exact LR.pi_enumT hg hm ha hs
theorem pi_zipK (hK : X.K = K) (hg : Gl X "zip") (hm : X.mg "zip" = none) (ha : PA X [a, b] t)
    (hs : starEach [a, b] X.env = (false, eval a X.env) :: starEach [b] X.env := by rfl) (hpl : (backTo pos (starEach [b] X.env)).any (·.1) = false := by rfl) :
    PI X (.Tuple elts kk tpos) (.Call (.Name "zip" p) [a, b] [] pos) (iZip K t) := by subst hK; exact pi_zip hg hm ha hs hpl
theorem pg_tupK (hK : X.K = K) {u : TGs} {n : Nat} (hc : X.calm = true) (h : PGs X es u) (hn : (assignEach es X.env).length = n := by rfl) (hst : (assignEach es X.env).findIdx? (·.1) = none := by rfl) : PG X (.Tuple es k pos) (gTup K n u) := by subst hK; exact pg_tup hc h hn hst
theorem pe_bm0K (hK : X.K = K) (pa : PlainAttrs T) (slot : Slot T name id) (hty : typeOf (.builtin id) = pure (.type "method_descriptor")) (hm : MtM X id r) (ho : PE X o to)
    (hbase : attributeBase o name X.env (eval o X.env) = eval o X.env := by rfl) (hline : (apos.endLine == cpos.line) = true := by rfl) : PE X (.Call (.Attribute o name apos) [] [] cpos) (tBM0 K T r to) := by subst hK; exact pe_bm0 pa slot hty hm ho hbase hline
theorem pe_bmK (hK : X.K = K) (pa : PlainAttrs T) (slot : Slot T name id) (hty : typeOf (.builtin id) = pure (.type "method_descriptor")) (hm : MtM X id r) (ho : PE X o to) (ha : PA X (e :: es) t)
    (hbase : attributeBase o name X.env (eval o X.env) = eval o X.env := by rfl)
    (hfew : ((backTo cpos (starEach (e :: es) X.env)).all (fun x => !x.1) && (backToKw cpos (keywordEach [] X.env)).all (fun x => x.1.isSome)
      && decide ((e :: es).length + ([] : List Keyword).length + (if ([] : List Keyword).isEmpty then 0 else 1) < 30)) = true := by rfl)
    (hline : (apos.endLine == cpos.line) = true := by rfl) (hs : starEach (e :: es) X.env = (false, eval e X.env) :: starEach es X.env := by rfl) (hplain : (backTo cpos (starEach es X.env)).any (·.1) = false := by rfl) :
    PE X (.Call (.Attribute o name apos) (e :: es) [] cpos) (tBM K T r to t) := by subst hK; exact pe_bm pa slot hty hm ho ha hbase hfew hline hs hplain
theorem pe_joinK (hK : X.K = K) (ho : PE X o to) (he : PE X e te) (hs : starEach [e] X.env = [(false, eval e X.env)] := by rfl) (hbase : attributeBase o "join" X.env (eval o X.env) = eval o X.env := by rfl) (hline : (apos.endLine == pos.line) = true := by rfl) :
    PE X (.Call (.Attribute o "join" apos) [e] [] pos) (tM1 (fun x xs H Q => ∃ a p, ∃ ys : List Str, x = .str a ∧ xs = [.ref p] ∧ (SqL K H p (ys.map V.str) ∨ SqT K H p (ys.map V.str)) ∧
      (ys.map (·.length)).sum + ys.length * a.length ≤ 16777216 ∧ Q (.str (Txt.join a ys)) H) to te) := by subst hK; exact pe_join ho he hs hbase hline
end
section
variable {K : PySem.W.Frag} {σ : L2.St} {H H' : Hp} {ta tb te tx : TE} {t u : TT} {x y z v : V} {r : R2} {D : Ends} {tu tw tz : TS} {g : TG} {P : Program} {w : World}
/-! ### a new tuple -/
theorem EvU.mono {xs : List V} (e : Ex H H') (h : EvU te σ H xs) : EvU te σ H' xs := fun H1 a Q q => h H1 (e.trans a) Q q
theorem EvO.mono {to : TO} {o : Option Int} (e : Ex H H') (h : EvO to σ H o) : EvO to σ H' o := fun H1 a Q q => h H1 (e.trans a) Q q
/-- made on the way: a place p of which R holds -/
def EvR (te : TE) (σ : L2.St) (H : Hp) (R : V → Hp → Prop) : Prop := ∀ H1, Ex H H1 → ∀ Q : VK, (∀ v H2, Ex H1 H2 → R v H2 → Q v H2) → te σ H1 Q
theorem EvR.mono {R : V → Hp → Prop} (e : Ex H H') (h : EvR te σ H R) : EvR te σ H' R := fun H1 a Q q => h H1 (e.trans a) Q q
theorem Ev.toR (h : Ev te σ H v) : EvR te σ H (fun y _ => y = v) := fun H1 e Q q => h H1 e Q fun H2 e2 => q v H2 e2 rfl
theorem EvL.toR {xs : List V} (h : EvL te σ H xs) : EvR te σ H (fun y H' => ∃ p, y = .ref p ∧ H' p = some (.lst xs)) := fun H1 e Q q => h H1 e Q fun p H2 _ e2 hp => q _ H2 e2 ⟨p, rfl, hp⟩
theorem EvU.toR {xs : List V} (h : EvU te σ H xs) : EvR te σ H (fun y H' => ∃ p, y = .ref p ∧ H' p = some (.tup xs)) := fun H1 e Q q => h H1 e Q fun p H2 _ e2 hp => q _ H2 e2 ⟨p, rfl, hp⟩
def SpU (sp : Sp) (vs : List V) (H : Hp) (xs : List V) : Prop := ∀ H1, Ex H H1 → ∀ Q : VK, (∀ p H2, H1 p = none → Ex H1 H2 → H2 p = some (.tup xs) → Q (.ref p) H2) → ∀ E : XK, sp vs H1 Q E
def SpR (sp : Sp) (vs : List V) (H : Hp) (R : V → Hp → Prop) : Prop := ∀ H1, Ex H H1 → ∀ Q : VK, (∀ v H2, Ex H1 H2 → R v H2 → Q v H2) → ∀ E : XK, sp vs H1 Q E
theorem eu_call {sp : Sp} {dvs vs xs : List V} {E : XK} {ta : TA} (h : EvA ta σ H vs) (hs : SpU sp (vs ++ dvs) H xs) : EvU (tCall sp dvs E ta) σ H xs := fun H1 e Q q =>
  h H1 e _ fun H2 e2 => hs H2 (e.trans e2) Q (fun p H3 hp e3 h3 => q p H3 (fresh_back e2 hp) (e2.trans e3) h3) E
theorem er_call {sp : Sp} {dvs vs : List V} {R : V → Hp → Prop} {E : XK} {ta : TA} (h : EvA ta σ H vs) (hs : SpR sp (vs ++ dvs) H R) : EvR (tCall sp dvs E ta) σ H R := fun H1 e Q q =>
  h H1 e _ fun H2 e2 => hs H2 (e.trans e2) Q (fun v H3 e3 h3 => q v H3 (e2.trans e3) h3) E
/-- the promise of a new tuple -/
def RetU (xs : List V) (H : Hp) (Q : VK) : Prop := ∀ p H2, H p = none → Ex H H2 → H2 p = some (.tup xs) → Q (.ref p) H2
def RetR (R : V → Hp → Prop) (H : Hp) (Q : VK) : Prop := ∀ v H2, Ex H H2 → R v H2 → Q v H2
theorem RetU.go {xs : List V} {Q : VK} (k : RetU xs H Q) (e : Ex H H') {p : Addr} {H2 : Hp} (hp : H' p = none) (e2 : Ex H' H2) (h : H2 p = some (.tup xs)) : Q (.ref p) H2 := k p H2 (fresh_back e hp) (e.trans e2) h
theorem RetR.go {R : V → Hp → Prop} {Q : VK} (k : RetR R H Q) (e : Ex H H') (h : R v H') : Q v H' := k v H' e h
/-- a, b = a new pair -/
theorem s_unU {i j : Nat} {a b : V} (h : EvU te σ H [a, b]) (k : ∀ H1, Ex H H1 → D.nx ((σ.set i (some a)).set j (some b)) H1) : tAsg te (gTup K 2 (gCons (gName i) (gCons (gName j) gNil))) D σ H :=
  h H (Ex.refl H) _ fun p H1 _ e hp => ⟨p, [a, b], rfl, st_of hp, rfl, a, [b], rfl, b, [], rfl, rfl, k H1 e⟩
theorem q_unU {i j : Nat} {a b : V} (h : EvU te σ H [a, b]) (k : ∀ H1, Ex H H1 → tz D ((σ.set i (some a)).set j (some b)) H1) : tSeq (tAsg te (gTup K 2 (gCons (gName i) (gCons (gName j) gNil)))) tz D σ H := s_unU (D := { D with nx := tz D }) h k
/-- a, b = a pair that stands -/
theorem s_unT {i j : Nat} {a b : V} {p : Addr} (h : Ev te σ H (.ref p)) (hp : SqT K H p [a, b]) (k : ∀ H1, Ex H H1 → D.nx ((σ.set i (some a)).set j (some b)) H1) : tAsg te (gTup K 2 (gCons (gName i) (gCons (gName j) gNil))) D σ H :=
  h H (Ex.refl H) _ fun H1 e => ⟨p, [a, b], rfl, ex_t e hp, rfl, a, [b], rfl, b, [], rfl, rfl, k H1 e⟩
theorem q_unT {i j : Nat} {a b : V} {p : Addr} (h : Ev te σ H (.ref p)) (hp : SqT K H p [a, b]) (k : ∀ H1, Ex H H1 → tz D ((σ.set i (some a)).set j (some b)) H1) : tSeq (tAsg te (gTup K 2 (gCons (gName i) (gCons (gName j) gNil)))) tz D σ H := s_unT (D := { D with nx := tz D }) h hp k
theorem g_unT {i j : Nat} {a b : V} {p : Addr} {Q : L2.St → Hp → Prop} (hp : SqT K H p [a, b]) (k : Q ((σ.set i (some a)).set j (some b)) H) : gTup K 2 (gCons (gName i) (gCons (gName j) gNil)) (.ref p) σ H Q :=
  ⟨p, [a, b], rfl, hp, rfl, a, [b], rfl, b, [], rfl, rfl, k⟩
theorem s_asgR {i : Nat} {R : V → Hp → Prop} (h : EvR te σ H R) (k : ∀ v H1, Ex H H1 → R v H1 → D.nx (σ.set i (some v)) H1) : tAsg te (gName i) D σ H := h H (Ex.refl H) _ fun v H1 e r => k v H1 e r
theorem q_asgR {i : Nat} {R : V → Hp → Prop} (h : EvR te σ H R) (k : ∀ v H1, Ex H H1 → R v H1 → tz D (σ.set i (some v)) H1) : tSeq (tAsg te (gName i)) tz D σ H := s_asgR (D := { D with nx := tz D }) h k
theorem s_retR {R : V → Hp → Prop} (h : EvR te σ H R) (k : ∀ v H1, Ex H H1 → R v H1 → D.rt v H1) : tRet te D σ H := h H (Ex.refl H) _ fun v H1 e r => k v H1 e r
/-! ### operators -/
theorem ev_addS {a b : Str} (ha : Ev ta σ H (.str a)) (hb : Ev tb σ H (.str b)) (hl : a.length + b.length ≤ 100000) :
    Ev (tOp (fun x y H Q => ∃ i j, x = .str i ∧ y = .str j ∧ i.length + j.length ≤ sizeLine ∧ Q (.str (i ++ j)) H) ta tb) σ H (.str (a ++ b)) :=
  ev_op ha hb fun H1 _ _ q => ⟨a, b, rfl, rfl, sz_of hl, q H1 (Ex.refl H1)⟩
theorem ev_addW {a b : Wd} (ha : Ev ta σ H (.str (enc a))) (hb : Ev tb σ H (.str (enc b))) (hl : a.length + b.length ≤ 100000) :
    Ev (tOp (fun x y H Q => ∃ i j, x = .str i ∧ y = .str j ∧ i.length + j.length ≤ sizeLine ∧ Q (.str (i ++ j)) H) ta tb) σ H (.str (enc (a ++ b))) := by
  have := ev_addS ha hb (by rw [enc_length, enc_length]; exact hl)
  rwa [enc_append] at this
theorem ev_addD {a b : List Nat} (ha : Ev ta σ H (.str (encD a))) (hb : Ev tb σ H (.str (encD b))) (hl : a.length + b.length ≤ 100000) :
    Ev (tOp (fun x y H Q => ∃ i j, x = .str i ∧ y = .str j ∧ i.length + j.length ≤ sizeLine ∧ Q (.str (i ++ j)) H) ta tb) σ H (.str (encD (a ++ b))) := by
  have := ev_addS ha hb (by rw [encD_length, encD_length]; exact hl)
  rwa [encD_append] at this
theorem ev_mulW {a : Wd} {n : Nat} (ha : Ev ta σ H (.str (enc a))) (hb : Ev tb σ H (.int (n : Int))) (h1 : n ≤ 1000) (hl : a.length ≤ 1000) : Ev (tOp LR.rMulS ta tb) σ H (.str (enc (pw a n))) := by
  refine ev_op ha hb fun H1 _ _ q => ⟨enc a, n, rfl, rfl, by omega, by omega, by rw [enc_length]; exact hl, ?_⟩
  rw [mul_enc]
  exact q H1 (Ex.refl H1)
theorem ev_revW {a : Wd} (ha : Ev ta σ H (.str (enc a))) (hl : a.length ≤ 100000) : Ev (LR.tRevS ta) σ H (.str (enc a.reverse)) := fun H1 e Q q =>
  ha H1 e _ fun H2 e2 => ⟨enc a, rfl, sz_of (by rw [enc_length]; exact hl), by rw [rev_enc]; exact q H2 e2⟩
theorem ev_add {i j : Int} (ha : Ev ta σ H (.int i)) (hb : Ev tb σ H (.int j)) : Ev (tOp (rI0 fun i j => .int (i + j)) ta tb) σ H (.int (i + j)) := ev_op ha hb (rv_I0 (g := fun i j => .int (i + j)))
theorem ev_sub {i j : Int} (ha : Ev ta σ H (.int i)) (hb : Ev tb σ H (.int j)) : Ev (tOp (rI0 fun i j => .int (i - j)) ta tb) σ H (.int (i - j)) := ev_op ha hb (rv_I0 (g := fun i j => .int (i - j)))
theorem ev_mul {i j : Int} (ha : Ev ta σ H (.int i)) (hb : Ev tb σ H (.int j)) (hc : CMul i j) : Ev (tOp (rI CMul fun i j => .int (i * j)) ta tb) σ H (.int (i * j)) := ev_op ha hb (rv_I (g := fun i j => .int (i * j)) hc)
theorem ev_div {i j : Int} (ha : Ev ta σ H (.int i)) (hb : Ev tb σ H (.int j)) (hc : 0 < j ∧ j < 1073741824) : Ev (tOp (rI CDiv fun i j => .int (i / j)) ta tb) σ H (.int (i / j)) := ev_op ha hb (rv_I (C := CDiv) (g := fun i j => .int (i / j)) hc)
theorem ev_mod {i j : Int} (ha : Ev ta σ H (.int i)) (hb : Ev tb σ H (.int j)) (hc : 0 < j) : Ev (tOp (rI (fun _ j => 0 < j) fun i j => .int (i % j)) ta tb) σ H (.int (i % j)) := ev_op ha hb (rv_I (C := fun _ j => 0 < j) (g := fun i j => .int (i % j)) hc)
theorem ev_neg {i : Int} (ha : Ev ta σ H (.int i)) : Ev (tUn (rU fun i => .int (-i)) ta) σ H (.int (-i)) := ev_un ha ru_neg
/-! tests of scalars -/
theorem et_eq (ha : Ev ta σ H x) (hb : Ev tb σ H y) (hs : scal x y = true) : EvT (tTest (tOp rEq ta tb)) σ H (decide (x = y)) := et_test (ev_op ha hb (rv_eq hs))
theorem et_ne (ha : Ev ta σ H x) (hb : Ev tb σ H y) (hs : scal x y = true) : EvT (tTest (tOp rNe ta tb)) σ H (!decide (x = y)) := et_test (ev_op ha hb (rv_ne hs))
theorem ev_eq (ha : Ev ta σ H x) (hb : Ev tb σ H y) (hs : scal x y = true) : Ev (tOp rEq ta tb) σ H (.bl (decide (x = y))) := ev_op ha hb (rv_eq hs)
theorem ev_ne (ha : Ev ta σ H x) (hb : Ev tb σ H y) (hs : scal x y = true) : Ev (tOp rNe ta tb) σ H (.bl (!decide (x = y))) := ev_op ha hb (rv_ne hs)
theorem ev_lt {i j : Int} (ha : Ev ta σ H (.int i)) (hb : Ev tb σ H (.int j)) : Ev (tOp (rI0 fun i j => .bl (decide (i < j))) ta tb) σ H (.bl (decide (i < j))) := ev_op ha hb (rv_I0 (g := fun i j => .bl (decide (i < j))))
theorem ev_le {i j : Int} (ha : Ev ta σ H (.int i)) (hb : Ev tb σ H (.int j)) : Ev (tOp (rI0 fun i j => .bl (decide (i ≤ j))) ta tb) σ H (.bl (decide (i ≤ j))) := ev_op ha hb (rv_I0 (g := fun i j => .bl (decide (i ≤ j))))
theorem ev_gt {i j : Int} (ha : Ev ta σ H (.int i)) (hb : Ev tb σ H (.int j)) : Ev (tOp (rI0 fun i j => .bl (decide (j < i))) ta tb) σ H (.bl (decide (j < i))) := ev_op ha hb (rv_I0 (g := fun i j => .bl (decide (j < i))))
theorem ev_ge {i j : Int} (ha : Ev ta σ H (.int i)) (hb : Ev tb σ H (.int j)) : Ev (tOp (rI0 fun i j => .bl (decide (j ≤ i))) ta tb) σ H (.bl (decide (j ≤ i))) := ev_op ha hb (rv_I0 (g := fun i j => .bl (decide (j ≤ i))))
theorem ev_isN (ha : Ev ta σ H x) : Ev (tOp (fun x y H Q => y = .non ∧ Q (.bl (decide (x = .non))) H) ta (tC .non)) σ H (.bl (decide (x = .non))) := ev_op ha ev_c fun H1 _ _ q => ⟨rfl, q H1 (Ex.refl H1)⟩
theorem ev_notN (ha : Ev ta σ H x) : Ev (tOp (fun x y H Q => y = .non ∧ Q (.bl (!decide (x = .non))) H) ta (tC .non)) σ H (.bl (!decide (x = .non))) := ev_op ha ev_c fun H1 _ _ q => ⟨rfl, q H1 (Ex.refl H1)⟩
/-- a ≤ b ≤ c .. of ints -/
theorem ev_chain {p q : Int → Int → Bool} {i j k : Int} (ha : Ev ta σ H (.int i)) (hb : Ev tb σ H (.int j)) (hc : Ev te σ H (.int k)) :
    Ev (tChain (rI0 fun i j => .bl (p i j)) (rI0 fun i j => .bl (q i j)) ta tb te) σ H (.bl (p i j && q j k)) := fun H1 e Q k' =>
  ha H1 e _ fun H2 e2 => hb H2 (e.trans e2) _ fun H3 e3 => ⟨i, j, rfl, rfl, p i j, rfl, by
    cases hp : p i j with
    | true =>
      rw [if_pos rfl]
      exact hc H3 ((e.trans e2).trans e3) _ fun H4 e4 => ⟨j, k, rfl, rfl, by have := k' H4 ((e2.trans e3).trans e4); rw [hp] at this; simpa using this⟩
    | false =>
      rw [if_neg (by decide)]
      have := k' H3 (e2.trans e3); rw [hp] at this; simpa using this⟩
theorem et_chain {p q : Int → Int → Bool} {i j k : Int} (ha : Ev ta σ H (.int i)) (hb : Ev tb σ H (.int j)) (hc : Ev te σ H (.int k)) :
    EvT (fun σ H Q => tChain (rI0 fun i j => .bl (p i j)) (rI0 fun i j => .bl (q i j)) ta tb te σ H fun x H' => ∃ b, x = .bl b ∧ Q b H') σ H (p i j && q j k) := fun H1 e Q k' =>
  ev_chain ha hb hc H1 e _ fun H2 e2 => ⟨_, rfl, k' H2 e2⟩
/-- a value's truth -/
theorem et_tru {b : Bool} (ha : Ev ta σ H x) (ht : ∀ H1, Ex H H1 → TruV K x H1 b) : EvT (fun σ H Q => ta σ H fun x H' => ∃ k, TruV K x H' k ∧ Q k H') σ H b := fun H1 e _ q =>
  ha H1 e _ fun H2 e2 => ⟨b, ht H2 (e.trans e2), q H2 e2⟩
theorem et_truL {p : Addr} {xs : List V} (ha : Ev ta σ H (.ref p)) (hp : H p = some (.lst xs)) : EvT (fun σ H Q => ta σ H fun x H' => ∃ k, TruV K x H' k ∧ Q k H') σ H (!xs.isEmpty) :=
  et_tru ha fun H1 e => .inl ⟨xs, sq_of (e p _ hp), rfl⟩
/-! ### signs in texts, items -/
theorem ev_inS {c : Nat} {s : Str} (ha : Ev ta σ H (.str ⟨#[c]⟩)) (hb : Ev tb σ H (.str s)) : Ev (tOp (fun x y H Q => ∃ (c : Nat) (z : Str), x = .str ⟨#[c]⟩ ∧ y = .str z ∧ Q (.bl (decide (c ∈ z.cps.toList))) H) ta tb) σ H (.bl (decide (c ∈ s.cps.toList))) :=
  ev_op ha hb fun H1 _ _ q => ⟨c, s, rfl, rfl, q H1 (Ex.refl H1)⟩
theorem ev_ixS {s : Str} {i : Int} {c : Nat} (ha : Ev ta σ H (.str s)) (hb : Ev tb σ H (.int i)) (hl : s.length ≤ 100000) (hi : atI s.cps.toList i = some c) : Ev (tOp rIxS ta tb) σ H (.str ⟨#[c]⟩) := ev_op ha hb (rv_ixS hl hi)
theorem ev_ixL {p : Addr} {xs : List V} {i : Int} (ha : Ev ta σ H (.ref p)) (hb : Ev tb σ H (.int i)) (h : SqL K H p xs) (hi : atI xs i = some v) : Ev (tOp (rIxL K) ta tb) σ H v := ev_op ha hb (rv_ixL h hi)
theorem ev_ixT {p : Addr} {xs : List V} {i : Int} (ha : Ev ta σ H (.ref p)) (hb : Ev tb σ H (.int i)) (h : SqT K H p xs) (hi : atI xs i = some v) : Ev (tOp (rIxT K) ta tb) σ H v := ev_op ha hb (rv_ixT h hi)
/-- an item of a tuple just made -/
theorem ev_ixU {xs : List V} {i : Int} (ha : EvU ta σ H xs) (hb : ∀ H1, Ex H H1 → Ev tb σ H1 (.int i)) (hi : atI xs i = some v) : Ev (tOp (rIxT K) ta tb) σ H v := fun H1 e Q q =>
  ha H1 e _ fun p H2 _ e2 hp => hb H2 (e.trans e2) H2 (Ex.refl H2) _ fun H3 e3 => ⟨p, xs, i, v, rfl, rfl, st_of (e3 p _ hp), hi, q H3 (e2.trans e3)⟩
theorem ev_slS {s : Str} {tl th : TO} {lo hi : Option Int} (h : Ev te σ H (.str s)) (h1 : EvO tl σ H lo) (h2 : EvO th σ H hi) (hl : s.length ≤ 100000) : Ev (tSl rSlS te tl th) σ H (.str (cutS s lo hi)) := fun H1 e Q q =>
  h H1 e _ fun H2 e2 => h1 H2 (e.trans e2) _ fun H3 e3 => h2 H3 ((e.trans e2).trans e3) _ fun H4 e4 => ⟨s, rfl, sz_of hl, q H4 ((e2.trans e3).trans e4)⟩
theorem eu_slT {tl th : TO} {a : Addr} {xs : List V} {lo hi : Option Int} (h : Ev te σ H (.ref a)) (h1 : EvO tl σ H lo) (h2 : EvO th σ H hi) (hs : SqT K H a xs) (hne : ¬(HT.sIx xs.length 0 lo = 0 ∧ HT.sIx xs.length xs.length hi = xs.length)) : EvU (tSl (rSlT K) te tl th) σ H (cutV xs lo hi) := fun H1 e Q q =>
  h H1 e _ fun H2 e2 => h1 H2 (e.trans e2) _ fun H3 e3 => h2 H3 ((e.trans e2).trans e3) _ fun H4 e4 =>
    ⟨a, xs, rfl, ex_t (((e.trans e2).trans e3).trans e4) hs, hne, fun p hp => q p _ (fresh_back ((e2.trans e3).trans e4) hp) (((e2.trans e3).trans e4).trans (Ex.new hp)) upd_same⟩
theorem ev_lenS {s : Str} (h : Ev ta σ H (.str s)) (hl : s.length ≤ 100000) : Ev (tCB (fun xs H Q => ∃ x n, xs = [x] ∧ LenV K x H n ∧ Q (.int n) H) (tCons ta tNil)) σ H (.int (s.length : Nat)) := fun H1 e Q q =>
  h H1 e _ fun H2 e2 => ⟨.str s, s.length, rfl, ⟨sz_of hl, rfl⟩, q H2 e2⟩
theorem ev_lenL {p : Addr} {xs : List V} (h : Ev ta σ H (.ref p)) (hp : SqL K H p xs) : Ev (tCB (fun xs H Q => ∃ x n, xs = [x] ∧ LenV K x H n ∧ Q (.int n) H) (tCons ta tNil)) σ H (.int (xs.length : Nat)) := fun H1 e Q q =>
  h H1 e _ fun H2 e2 => ⟨.ref p, xs.length, rfl, .inl ⟨xs, ex_l (e.trans e2) hp, rfl⟩, q H2 e2⟩
theorem ev_lenT {p : Addr} {xs : List V} (h : Ev ta σ H (.ref p)) (hp : SqT K H p xs) : Ev (tCB (fun xs H Q => ∃ x n, xs = [x] ∧ LenV K x H n ∧ Q (.int n) H) (tCons ta tNil)) σ H (.int (xs.length : Nat)) := fun H1 e Q q =>
  h H1 e _ fun H2 e2 => ⟨.ref p, xs.length, rfl, .inr ⟨xs, ex_t (e.trans e2) hp, rfl⟩, q H2 e2⟩
theorem ev_lenNL {xs : List V} (h : EvL ta σ H xs) : Ev (tCB (fun xs H Q => ∃ x n, xs = [x] ∧ LenV K x H n ∧ Q (.int n) H) (tCons ta tNil)) σ H (.int (xs.length : Nat)) := fun H1 e Q q =>
  h H1 e _ fun p H2 _ e2 hp => ⟨.ref p, xs.length, rfl, .inl ⟨xs, sq_of hp, rfl⟩, q H2 e2⟩
theorem ev_any {bs : List Bool} (h : EvL ta σ H (bs.map V.bl)) : Ev (tCB (rAny K) (tCons ta tNil)) σ H (.bl (bs.any id)) := fun H1 e Q q => h H1 e _ fun p H2 _ e2 hp => ⟨p, bs, rfl, sq_of hp, q H2 e2⟩
theorem ev_all {bs : List Bool} (h : EvL ta σ H (bs.map V.bl)) : Ev (tCB (rAll K) (tCons ta tNil)) σ H (.bl (bs.all id)) := fun H1 e Q q => h H1 e _ fun p H2 _ e2 hp => ⟨p, bs, rfl, sq_of hp, q H2 e2⟩
theorem ev_strI {d : Nat} (h : Ev ta σ H (.int (d : Nat))) (hd : d < 4) : Ev (tCB (fun xs H Q => ∃ i, xs = [.int i] ∧ i.natAbs.log2 < 1920 ∧ Q (.str (toString i)) H) (tCons ta tNil)) σ H (.str (encD [d])) := fun H1 e Q q =>
  h H1 e _ fun H2 e2 => ⟨d, rfl, by
    have h1 : ((d : Nat) : Int).natAbs < 2 ^ 64 := by omega
    rcases Nat.eq_zero_or_pos ((d : Nat) : Int).natAbs with z | z
    · rw [z]; decide
    · have := (Nat.log2_lt (by omega)).mpr h1
      omega, by
    have := q H2 e2
    rw [← str_digit hd] at this
    exact this⟩
theorem ev_intS {d : Nat} (h : Ev ta σ H (.str ⟨#[48 + d]⟩)) (hd : d < 4) : Ev (tCB (fun xs H Q => ∃ a n, xs = [.str a] ∧ PySem.intText? a = some n ∧ a.length ≤ 640 ∧ Q (.int n) H) (tCons ta tNil)) σ H (.int (d : Nat)) := fun H1 e Q q =>
  h H1 e _ fun H2 e2 => ⟨encD [d], d, rfl, int_digit hd, by rw [encD_length]; exact (by decide : 1 ≤ 640), q H2 e2⟩
theorem ev_int1 {i : Int} (h : Ev ta σ H (.int i)) : Ev (tCB (fun xs H Q => (∃ i, xs = [.int i] ∧ Q (.int i) H) ∨ ∃ k, xs = [.bl k] ∧ Q (.int (if k then 1 else 0)) H) (tCons ta tNil)) σ H (.int i) := fun H1 e Q q =>
  h H1 e _ fun H2 e2 => .inl ⟨i, rfl, q H2 e2⟩
theorem ev_intB {b : Bool} (h : Ev ta σ H (.bl b)) : Ev (tCB (fun xs H Q => (∃ i, xs = [.int i] ∧ Q (.int i) H) ∨ ∃ k, xs = [.bl k] ∧ Q (.int (if k then 1 else 0)) H) (tCons ta tNil)) σ H (.int (if b then 1 else 0)) := fun H1 e Q q =>
  h H1 e _ fun H2 e2 => .inr ⟨b, rfl, q H2 e2⟩
theorem ev_joinL {to : TE} {ys : List Str} {s : Str} (ho : Ev to σ H (.str (Str.ofString ""))) (h : EvL te σ H (ys.map V.str)) (hl : (ys.map (·.length)).sum ≤ 100000) (e0 : Txt.join (Str.ofString "") ys = s) :
    Ev (tM1 (fun x xs H Q => ∃ a p, ∃ ys : List Str, x = .str a ∧ xs = [.ref p] ∧ (SqL K H p (ys.map V.str) ∨ SqT K H p (ys.map V.str)) ∧ (ys.map (·.length)).sum + ys.length * a.length ≤ 16777216 ∧ Q (.str (Txt.join a ys)) H) to te) σ H (.str s) := fun H1 e Q q =>
  ho H1 e _ fun H2 e2 => ⟨⟨_, rfl⟩, h H2 (e.trans e2) _ fun p H3 _ e3 hp => ⟨_, p, ys, rfl, rfl, .inl (sq_of hp), by
    have : (Str.ofString "").length = 0 := rfl
    rw [this]; omega, by rw [e0]; exact q H3 (e2.trans e3)⟩⟩
/-- joined, the list that stands at p -/
theorem ev_joinP {to : TE} {p : Addr} {ys : List Str} {s : Str} (ho : Ev to σ H (.str (Str.ofString ""))) (h : Ev te σ H (.ref p)) (hp : H p = some (.lst (ys.map V.str))) (hl : (ys.map (·.length)).sum ≤ 100000) (e0 : Txt.join (Str.ofString "") ys = s) :
    Ev (tM1 (fun x xs H Q => ∃ a p, ∃ ys : List Str, x = .str a ∧ xs = [.ref p] ∧ (SqL K H p (ys.map V.str) ∨ SqT K H p (ys.map V.str)) ∧ (ys.map (·.length)).sum + ys.length * a.length ≤ 16777216 ∧ Q (.str (Txt.join a ys)) H) to te) σ H (.str s) := fun H1 e Q q =>
  ho H1 e _ fun H2 e2 => ⟨⟨_, rfl⟩, h H2 (e.trans e2) _ fun H3 e3 => ⟨_, p, ys, rfl, rfl, .inl (sq_of (((e.trans e2).trans e3) p _ hp)), by
    have : (Str.ofString "").length = 0 := rfl
    rw [this]; omega, by rw [e0]; exact q H3 (e2.trans e3)⟩⟩
theorem sum_ones (f : Lt → Str) (hf : ∀ l, (f l).length = 1) : ∀ w : Wd, ((w.map f).map (·.length)).sum = w.length
  | [] => rfl
  | l :: w => by simp only [List.map_cons, List.sum_cons, hf, sum_ones f hf w, List.length_cons]; omega
/-- the list of a word's letters, as it stands in the heap -/
def ltV (w : Wd) : List V := w.map fun l => V.str (enc [l])
theorem ltV_eq (w : Wd) : ltV w = (w.map fun l => enc [l]).map V.str := by simp [ltV]
theorem ltV_len (w : Wd) : (ltV w).length = w.length := by simp [ltV]
theorem ltV_snoc (w : Wd) (l : Lt) : ltV w ++ [V.str (enc [l])] = ltV (w ++ [l]) := by simp [ltV]
theorem ev_joinW {to : TE} {p : Addr} {w : Wd} (ho : Ev to σ H (.str (Str.ofString ""))) (h : Ev te σ H (.ref p)) (hp : H p = some (.lst (ltV w))) (hl : w.length ≤ 100000) :
    Ev (tM1 (fun x xs H Q => ∃ a p, ∃ ys : List Str, x = .str a ∧ xs = [.ref p] ∧ (SqL K H p (ys.map V.str) ∨ SqT K H p (ys.map V.str)) ∧ (ys.map (·.length)).sum + ys.length * a.length ≤ 16777216 ∧ Q (.str (Txt.join a ys)) H) to te) σ H (.str (enc w)) :=
  ev_joinP ho h (by rw [hp, ltV_eq]) (by rw [sum_ones _ (fun l => enc_length [l])]; exact hl) (join_letters w)
theorem ev_joinWL {to : TE} {w : Wd} (ho : Ev to σ H (.str (Str.ofString ""))) (h : EvL te σ H (ltV w)) (hl : w.length ≤ 100000) :
    Ev (tM1 (fun x xs H Q => ∃ a p, ∃ ys : List Str, x = .str a ∧ xs = [.ref p] ∧ (SqL K H p (ys.map V.str) ∨ SqT K H p (ys.map V.str)) ∧ (ys.map (·.length)).sum + ys.length * a.length ≤ 16777216 ∧ Q (.str (Txt.join a ys)) H) to te) σ H (.str (enc w)) :=
  ev_joinL ho (by rw [← ltV_eq]; exact h) (by rw [sum_ones _ (fun l => enc_length [l])]; exact hl) (join_letters w)
def dgV (w : List Nat) : List V := w.map fun l => V.str (encD [l])
theorem dgV_eq (w : List Nat) : dgV w = (w.map fun l => encD [l]).map V.str := by simp [dgV]
theorem dgV_len (w : List Nat) : (dgV w).length = w.length := by simp [dgV]
theorem dgV_snoc (w : List Nat) (l : Nat) : dgV w ++ [V.str (encD [l])] = dgV (w ++ [l]) := by simp [dgV]
theorem sum_onesD : ∀ w : List Nat, ((w.map fun l => encD [l]).map (·.length)).sum = w.length
  | [] => rfl
  | l :: w => by simp only [List.map_cons, List.sum_cons, sum_onesD w, List.length_cons, encD_length]; simp; omega
theorem ev_joinD {to : TE} {p : Addr} {w : List Nat} (ho : Ev to σ H (.str (Str.ofString ""))) (h : Ev te σ H (.ref p)) (hp : H p = some (.lst (dgV w))) (hl : w.length ≤ 100000) :
    Ev (tM1 (fun x xs H Q => ∃ a p, ∃ ys : List Str, x = .str a ∧ xs = [.ref p] ∧ (SqL K H p (ys.map V.str) ∨ SqT K H p (ys.map V.str)) ∧ (ys.map (·.length)).sum + ys.length * a.length ≤ 16777216 ∧ Q (.str (Txt.join a ys)) H) to te) σ H (.str (encD w)) :=
  ev_joinP ho h (by rw [hp, dgV_eq]) (by rw [sum_onesD]; exact hl) (join_digits w)
theorem ev_joinDL {to : TE} {w : List Nat} (ho : Ev to σ H (.str (Str.ofString ""))) (h : EvL te σ H (dgV w)) (hl : w.length ≤ 100000) :
    Ev (tM1 (fun x xs H Q => ∃ a p, ∃ ys : List Str, x = .str a ∧ xs = [.ref p] ∧ (SqL K H p (ys.map V.str) ∨ SqT K H p (ys.map V.str)) ∧ (ys.map (·.length)).sum + ys.length * a.length ≤ 16777216 ∧ Q (.str (Txt.join a ys)) H) to te) σ H (.str (encD w)) :=
  ev_joinL ho (by rw [← dgV_eq]; exact h) (by rw [sum_onesD]; exact hl) (join_digits w)
theorem ev_sindex {s b : Str} {i : Nat} (ha : Ev ta σ H (.str s)) (hb : Ev tb σ H (.str b)) (ho : ∃ rest, Builtin.Str.occurrences s b 0 s.length 1 = i :: rest) :
    Ev (tBM K "str" (fun x xs H Q => ∃ a b i rest, x = .str a ∧ xs = [.str b] ∧ Builtin.Str.occurrences a b 0 a.length 1 = i :: rest ∧ Q (.int (i : Nat)) H) ta (tCons tb tNil)) σ H (.int (i : Nat)) := fun H1 e Q q =>
  ha H1 e _ fun H2 e2 => ⟨rfl, hb H2 (e.trans e2) _ fun H3 e3 => by
    obtain ⟨rest, ho⟩ := ho
    exact ⟨s, b, i, rest, rfl, rfl, ho, q H3 (e2.trans e3)⟩⟩
/-! ### lists that change -/
/-- xs.pop() as a statement -/
theorem s_pop {l : Addr} {xs : List V} {y : V} (hl : H l = some (.lst xs)) (ha : Ev ta σ H (.ref l)) (hy : xs[xs.length - 1]? = some y) (k : ∀ H1, Ex H H1 → D.nx σ (upd H1 l (.lst xs.dropLast))) : tDrop (tBM0 K "list" rPop ta) D σ H :=
  ha H (Ex.refl H) _ fun H1 e => ⟨.inl ⟨rfl, xs, sq_of (e l _ hl)⟩, l, xs, y, rfl, rfl, e l _ hl, hy, k H1 e⟩
/-! ### loops over texts, enumerate of a tuple, zip of lists -/
theorem s_forS {s : Str} {j : Nat} (h : Ev te σ H (.str s)) (Pv : Nat → L2.St → Hp → Prop) (h0 : ∀ H1, Ex H H1 → Pv 0 σ H1)
    (hs : ∀ i c σ' H', s.cps[i]? = some c → Pv i σ' H' → tu { D with nx := Pv (i + 1), ct := Pv (i + 1), bk := D.nx } (σ'.set j (some (.str ⟨#[c]⟩))) H') (hd : ∀ σ' H', Pv s.cps.size σ' H' → D.nx σ' H') : tFor (iStr te) (gName j) tu D σ H :=
  h H (Ex.refl H) _ fun H1 e => ⟨s, rfl, for_it walk_str Pv (h0 H1 e) (fun _ _ _ _ _ => trivial) (fun i x σ' H' H2 _ p ⟨e2, c, hc, ex⟩ => by
    subst e2 ex
    exact hs i c σ' H2 hc p) hd⟩
theorem q_forS {s : Str} {j : Nat} (h : Ev te σ H (.str s)) (Pv : Nat → L2.St → Hp → Prop) (h0 : ∀ H1, Ex H H1 → Pv 0 σ H1)
    (hs : ∀ i c σ' H', s.cps[i]? = some c → Pv i σ' H' → tu { D with nx := Pv (i + 1), ct := Pv (i + 1), bk := tz D } (σ'.set j (some (.str ⟨#[c]⟩))) H') (hd : ∀ σ' H', Pv s.cps.size σ' H' → tz D σ' H') : tSeq (tFor (iStr te) (gName j) tu) tz D σ H :=
  s_forS (D := { D with nx := tz D }) h Pv h0 hs hd
theorem s_forTn {a : Addr} {xs : List V} {j : Nat} (h : Ev te σ H (.ref a)) (hx : SqT K H a xs) (Pv : Nat → L2.St → Hp → Prop) (h0 : ∀ H1, Ex H H1 → Pv 0 σ H1) (hl : ∀ i σ' H', i ≤ xs.length → Pv i σ' H' → SqT K H' a xs)
    (hs : ∀ i x σ' H', xs[i]? = some x → Pv i σ' H' → tu { D with nx := Pv (i + 1), ct := Pv (i + 1), bk := D.nx } (σ'.set j (some x)) H') (hd : ∀ σ' H', Pv xs.length σ' H' → D.nx σ' H') : tFor (iTup K te) (gName j) tu D σ H :=
  s_forT h hx Pv h0 hl hs hd
theorem q_forTn {a : Addr} {xs : List V} {j : Nat} (h : Ev te σ H (.ref a)) (hx : SqT K H a xs) (Pv : Nat → L2.St → Hp → Prop) (h0 : ∀ H1, Ex H H1 → Pv 0 σ H1) (hl : ∀ i σ' H', i ≤ xs.length → Pv i σ' H' → SqT K H' a xs)
    (hs : ∀ i x σ' H', xs[i]? = some x → Pv i σ' H' → tu { D with nx := Pv (i + 1), ct := Pv (i + 1), bk := tz D } (σ'.set j (some x)) H') (hd : ∀ σ' H', Pv xs.length σ' H' → tz D σ' H') : tSeq (tFor (iTup K te) (gName j) tu) tz D σ H :=
  q_forT h hx Pv h0 hl hs hd
theorem s_forE {a : Addr} {xs : List V} (h : Ev te σ H (.ref a)) (hx : SqT K H a xs) (Pv : Nat → L2.St → Hp → Prop) (h0 : ∀ H1, Ex H H1 → Pv 0 σ H1) (hl : ∀ i σ' H', i ≤ xs.length → Pv i σ' H' → SqT K H' a xs)
    (hs : ∀ i x q σ' H', xs[i]? = some x → H' q = none → Pv i σ' H' → g (.ref q) σ' (upd H' q (.tup [.int (i : Nat), x])) fun σ2 H2 => tu { D with nx := Pv (i + 1), ct := Pv (i + 1), bk := D.nx } σ2 H2) (hd : ∀ σ' H', Pv xs.length σ' H' → D.nx σ' H') :
    tFor (LR.iEnumT K (tCons te tNil)) g tu D σ H :=
  h H (Ex.refl H) _ fun H1 e => ⟨a, xs, rfl, ex_t e hx, LR.for_enumT Pv (h0 H1 e) hl hs hd⟩
theorem q_forE {a : Addr} {xs : List V} (h : Ev te σ H (.ref a)) (hx : SqT K H a xs) (Pv : Nat → L2.St → Hp → Prop) (h0 : ∀ H1, Ex H H1 → Pv 0 σ H1) (hl : ∀ i σ' H', i ≤ xs.length → Pv i σ' H' → SqT K H' a xs)
    (hs : ∀ i x q σ' H', xs[i]? = some x → H' q = none → Pv i σ' H' → g (.ref q) σ' (upd H' q (.tup [.int (i : Nat), x])) fun σ2 H2 => tu { D with nx := Pv (i + 1), ct := Pv (i + 1), bk := tz D } σ2 H2) (hd : ∀ σ' H', Pv xs.length σ' H' → tz D σ' H') :
    tSeq (tFor (LR.iEnumT K (tCons te tNil)) g tu) tz D σ H := s_forE (D := { D with nx := tz D }) h hx Pv h0 hl hs hd
theorem s_forZ {a b : Addr} {xs ys : List V} {n : Nat} (h : Ev te σ H (.ref a)) (h' : Ev tx σ H (.ref b)) (hx : SqL K H a xs) (hy : SqL K H b ys) (hn : n = min xs.length ys.length) (Pv : Nat → L2.St → Hp → Prop) (h0 : ∀ H1, Ex H H1 → Pv 0 σ H1) (hl : ∀ i σ' H', i ≤ n → Pv i σ' H' → SqL K H' a xs ∧ SqL K H' b ys)
    (hs : ∀ i x y q σ' H', xs[i]? = some x → ys[i]? = some y → H' q = none → Pv i σ' H' → g (.ref q) σ' (upd H' q (.tup [x, y])) fun σ2 H2 => tu { D with nx := Pv (i + 1), ct := Pv (i + 1), bk := D.nx } σ2 H2) (hd : ∀ σ' H', Pv n σ' H' → D.nx σ' H') :
    tFor (iZip K (tCons te (tCons tx tNil))) g tu D σ H :=
  h H (Ex.refl H) _ fun H1 e => h' H1 e _ fun H2 e2 => ⟨a, b, xs, ys, rfl, ex_l (e.trans e2) hx, ex_l (e.trans e2) hy, for_it (walk_zip hn) Pv (h0 H2 (e.trans e2)) hl (fun i x σ' H' H3 hi p ⟨q, x0, y0, ex, hq, eh, h1, h2⟩ => by
    subst ex eh
    exact hs i x0 y0 q σ' H' h1 h2 hq p) hd⟩
theorem q_forZ {a b : Addr} {xs ys : List V} {n : Nat} (h : Ev te σ H (.ref a)) (h' : Ev tx σ H (.ref b)) (hx : SqL K H a xs) (hy : SqL K H b ys) (hn : n = min xs.length ys.length) (Pv : Nat → L2.St → Hp → Prop) (h0 : ∀ H1, Ex H H1 → Pv 0 σ H1) (hl : ∀ i σ' H', i ≤ n → Pv i σ' H' → SqL K H' a xs ∧ SqL K H' b ys)
    (hs : ∀ i x y q σ' H', xs[i]? = some x → ys[i]? = some y → H' q = none → Pv i σ' H' → g (.ref q) σ' (upd H' q (.tup [x, y])) fun σ2 H2 => tu { D with nx := Pv (i + 1), ct := Pv (i + 1), bk := tz D } σ2 H2) (hd : ∀ σ' H', Pv n σ' H' → tz D σ' H') :
    tSeq (tFor (iZip K (tCons te (tCons tx tNil))) g tu) tz D σ H := s_forZ (D := { D with nx := tz D }) h h' hx hy hn Pv h0 hl hs hd
/-! ### comprehensions, whatever is walked -/
theorem wipe_set1 {σ : L2.St} {j : Nat} {x : Option V} : wipe ((wipe σ [j]).set j x) [j] = wipe σ [j] := by simp [wipe]
theorem filter_range_succ (f : Nat → Bool) (i : Nat) : (List.range (i + 1)).filter f = (List.range i).filter f ++ (if f i = true then [i] else []) := by
  rw [List.range_succ, List.filter_append, List.filter_cons]
  cases f i <;> rfl
theorem Paired.snoc {α β : Type} {R : α → β → Prop} : ∀ {xs : List α} {ys : List β} {x : α} {y : β}, Paired R xs ys → R x y → Paired R (xs ++ [x]) (ys ++ [y])
  | _, _, _, _, .nil, r => .cons r .nil
  | _, _, _, _, .cons a p, r => .cons a (Paired.snoc p r)
theorem Paired.imp {α β : Type} {R S : α → β → Prop} (h : ∀ a b, R a b → S a b) : ∀ {xs : List α} {ys : List β}, Paired R xs ys → Paired S xs ys
  | _, _, .nil => .nil
  | _, _, .cons a p => .cons (h _ _ a) (Paired.imp h p)
theorem paired_map {α : Type} {v : α → V} : ∀ {xs : List α} {ys : List V}, Paired (fun i y => y = v i) xs ys → ys = xs.map v
  | _, _, .nil => rfl
  | _, _, .cons a p => by rw [a, paired_map p]; rfl
/-- the made list: each item's own word R; f tells which turns give -/
theorem lcR {J : It} {n : Nat} {G : Hp → Prop} {Y : Nat → Hp → V → Hp → Prop} (w : Walk J n G Y) {g : TG} {tt : TT} {te : TE} {vs : List Nat} (hn : n ≤ 100000) (f : Nat → Bool) (R : Addr → Nat → V → Hp → Prop)
    (hR : ∀ Dl i v H1 H2, Ex H1 H2 → R Dl i v H1 → R Dl i v H2) (hU : ∀ Dl i v H1 acc, R Dl i v H1 → R Dl i v (upd H1 Dl (.lst acc))) (hG : ∀ H', Ex H H' → G H')
    (ht : ∀ Dl i x H1 H2 ys (Kt : V → Hp → Prop) (Kf : Hp → Prop), i < n → H Dl = none → Ex H H1 → H1 Dl = some (.lst ys) → Y i H1 x H2 → (∀ y H5, Ex H1 H5 → R Dl i y H5 → f i = true → Kt y H5) → (∀ H4, Ex H1 H4 → f i = false → Kf H4) →
      g x (wipe σ vs) H2 fun σ2 H3 => wipe σ2 vs = wipe σ vs ∧ tt σ2 H3 fun b H4 => if b = true then te σ2 H4 Kt else Kf H4)
    {Q : VK} (hq : ∀ p H2 ys, H p = none → Ex H H2 → H2 p = some (.lst ys) → Paired (fun i y => R p i y H2) ((List.range n).filter f) ys → Q (.ref p) H2) :
    ∀ Dl, H Dl = none → ∃ W : Nat → Nat → Hp → Prop, (∃ m, W 0 m (upd H Dl (.lst []))) ∧ ∀ i m H, W i m H →
      (J.stop i H ∧ Q (.ref Dl) H) ∨ (J.go i H ∧ ∃ Nx : Hp → Prop, (∀ H', Nx H' → ∃ m', m' < m ∧ W (i + 1) m' H') ∧ ∀ x H', J.yld i H x H' → g x (wipe σ vs) H' fun σ2 H2 => wipe σ2 vs = wipe σ vs ∧ tt σ2 H2 fun b H3 =>
        if b = true then te σ2 H3 fun y H4 => ∃ acc, H4 Dl = some (.lst acc) ∧ acc.length < sizeLine ∧ Nx (upd H4 Dl (.lst (acc ++ [y]))) else Nx H3) := by
  intro Dl hD
  refine lc_it w (fun i H' => ∃ ys, Ex H H' ∧ H' Dl = some (.lst ys) ∧ Paired (fun i y => R Dl i y H') ((List.range i).filter f) ys) ⟨[], Ex.new hD, upd_same, .nil⟩ (fun i H' _ ⟨_, e, _⟩ => hG H' e) ?_ ?_
  · rintro i x H1 H2 hi ⟨ys, e1, hD1, hp⟩ hY
    refine ht Dl i x H1 H2 ys _ _ hi hD e1 hD1 hY (fun y H5 e5 r hf => ?_) (fun H4 e4 hf => ?_)
    · have hl : ys.length = ((List.range i).filter f).length := (Paired.length hp).symm
      have hl2 : ((List.range i).filter f).length ≤ i := by have := List.length_filter_le f (List.range i); simpa using this
      refine ⟨ys, e5 _ _ hD1, sz_lt (by omega), ys ++ [y], Ex.mut (e1.trans e5) hD, upd_same, ?_⟩
      rw [filter_range_succ, if_pos hf]
      exact Paired.snoc (Paired.imp (fun a b q => hU _ _ _ _ _ (hR _ _ _ _ _ e5 q)) hp) (hU _ _ _ _ _ r)
    · refine ⟨ys, e1.trans e4, e4 _ _ hD1, ?_⟩
      rw [filter_range_succ, if_neg (by rw [hf]; decide), List.append_nil]
      exact Paired.imp (fun a b q => hR _ _ _ _ _ e4 q) hp
  · rintro H' ⟨ys, e1, hD1, hp⟩
    exact hq Dl H' ys hD e1 hD1 hp
theorem et_yes : EvT tYes σ H true := fun H1 _ _ q => q H1 (Ex.refl H1)
/-- plain values, one name as the target -/
theorem lcV {J : It} {n : Nat} {G : Hp → Prop} {Y : Nat → Hp → V → Hp → Prop} (w : Walk J n G Y) {j : Nat} {tt : TT} {te : TE} (hn : n ≤ 100000) (f : Nat → Bool) (src : Nat → V → Prop) (v : Nat → V) (hG : ∀ H', Ex H H' → G H')
    (hY : ∀ i H1 x H2, i < n → Y i H1 x H2 → H2 = H1 ∧ src i x)
    (ht : ∀ i x H1, i < n → Ex H H1 → src i x → EvT tt ((wipe σ [j]).set j (some x)) H1 (f i)) (he : ∀ i x H1, i < n → Ex H H1 → src i x → f i = true → Ev te ((wipe σ [j]).set j (some x)) H1 (v i))
    {Q : VK} (hq : ∀ p H2, H p = none → Ex H H2 → H2 p = some (.lst (given n f v)) → Q (.ref p) H2) :
    ∀ Dl, H Dl = none → ∃ W : Nat → Nat → Hp → Prop, (∃ m, W 0 m (upd H Dl (.lst []))) ∧ ∀ i m H, W i m H →
      (J.stop i H ∧ Q (.ref Dl) H) ∨ (J.go i H ∧ ∃ Nx : Hp → Prop, (∀ H', Nx H' → ∃ m', m' < m ∧ W (i + 1) m' H') ∧ ∀ x H', J.yld i H x H' → gName j x (wipe σ [j]) H' fun σ2 H2 => wipe σ2 [j] = wipe σ [j] ∧ tt σ2 H2 fun b H3 =>
        if b = true then te σ2 H3 fun y H4 => ∃ acc, H4 Dl = some (.lst acc) ∧ acc.length < sizeLine ∧ Nx (upd H4 Dl (.lst (acc ++ [y]))) else Nx H3) := by
  refine lcR w hn f (fun _ i y _ => y = v i) (fun _ _ _ _ _ _ h => h) (fun _ _ _ _ _ h => h) hG (fun Dl i x H1 H2 ys Kt Kf hi _ e1 hD hy k1 k2 => ?_) (fun p H2 ys hp e hl hP => hq p H2 hp e ?_)
  · obtain ⟨rfl, hs⟩ := hY i H1 x H2 hi hy
    refine ⟨wipe_set1, ht i x H2 hi e1 hs H2 (Ex.refl _) _ fun H4 e4 => ?_⟩
    cases hf : f i with
    | true =>
      rw [if_pos rfl]
      exact he i x H2 hi e1 hs hf H4 e4 _ fun H5 e5 => k1 _ H5 (e4.trans e5) rfl hf
    | false =>
      rw [if_neg (by decide)]
      exact k2 H4 e4 hf
  · rw [hl, paired_map hP]; rfl
/-- [e for c in text] -/
theorem el_lcS {s : Str} {j : Nat} {tt : TT} (f : Nat → Bool) (v : Nat → V) (h : Ev ta σ H (.str s)) (hn : s.cps.size ≤ 100000)
    (ht : ∀ i c H1, Ex H H1 → s.cps[i]? = some c → EvT tt ((wipe σ [j]).set j (some (.str ⟨#[c]⟩))) H1 (f i)) (he : ∀ i c H1, Ex H H1 → s.cps[i]? = some c → f i = true → Ev te ((wipe σ [j]).set j (some (.str ⟨#[c]⟩))) H1 (v i)) :
    EvL (tLc (iStr ta) (gName j) tt te [j]) σ H (given s.cps.size f v) := fun H0 e Q q => h H0 e _ fun H1 e1 => ⟨s, rfl,
  lcV walk_str hn f (fun i x => ∃ c, s.cps[i]? = some c ∧ x = .str ⟨#[c]⟩) v (fun _ _ => trivial) (fun i H1 x H2 _ y => y)
    (fun i x H2 _ e2 ⟨c, hc, ex⟩ => by subst ex; exact ht i c H2 ((e.trans e1).trans e2) hc) (fun i x H2 _ e2 ⟨c, hc, ex⟩ hf => by subst ex; exact he i c H2 ((e.trans e1).trans e2) hc hf)
    fun p H2 hp e2 hl => q p H2 (fresh_back e1 hp) (e1.trans e2) hl⟩
/-- [e for x in tuple] -/
theorem el_lcT {a : Addr} {xs : List V} {j : Nat} {tt : TT} (f : Nat → Bool) (v : Nat → V) (h : Ev ta σ H (.ref a)) (hx : SqT K H a xs) (hn : xs.length ≤ 100000)
    (ht : ∀ i x H1, Ex H H1 → xs[i]? = some x → EvT tt ((wipe σ [j]).set j (some x)) H1 (f i)) (he : ∀ i x H1, Ex H H1 → xs[i]? = some x → f i = true → Ev te ((wipe σ [j]).set j (some x)) H1 (v i)) :
    EvL (tLc (iTup K ta) (gName j) tt te [j]) σ H (given xs.length f v) := fun H0 e Q q => h H0 e _ fun H1 e1 => ⟨a, rfl, ⟨xs, ex_t (e.trans e1) hx⟩,
  lcV walk_tup hn f (fun i x => xs[i]? = some x) v (fun H2 e2 => ex_t ((e.trans e1).trans e2) hx) (fun i H1 x H2 _ y => y)
    (fun i x H2 _ e2 hc => ht i x H2 ((e.trans e1).trans e2) hc) (fun i x H2 _ e2 hc hf => he i x H2 ((e.trans e1).trans e2) hc hf)
    fun p H2 hp e2 hl => q p H2 (fresh_back e1 hp) (e1.trans e2) hl⟩
theorem given_all (n : Nat) (v : Nat → V) : given n (fun _ => true) v = (List.range n).map v := by
  unfold given
  rw [List.filter_eq_self.mpr (fun _ _ => rfl)]
theorem range_map_get {α β : Type} (xs : List α) (d : α) (f : α → β) : (List.range xs.length).map (fun i => f (xs.getD i d)) = xs.map f := by
  apply List.ext_getElem
  · simp
  · intro i h1 h2
    simp at h1
    simp [List.getD_eq_getElem?_getD, h1]
/-- the values of a comprehension without an if, by the items of a list -/
theorem given_map {α : Type} (xs : List α) (d : α) (f : α → V) : given xs.length (fun _ => true) (fun i => f (xs.getD i d)) = xs.map f := by rw [given_all, range_map_get]
theorem getD_of {α : Type} {xs : List α} {i : Nat} {x d : α} (h : xs[i]? = some x) : xs.getD i d = x := by rw [List.getD_eq_getElem?_getD, h]; rfl
/-- {k: True for k in list} -/
theorem dc_it {J : It} {n : Nat} {G : Hp → Prop} {Y : Nat → Hp → V → Hp → Prop} (w : Walk J n G Y) {g : TG} {tt : TT} {tk tv : TE} {vs : List Nat} {H1 : Hp} {Dl : Addr} {Qd : Hp → Prop} (Pv : Nat → Hp → Prop) (h0 : Pv 0 (upd H1 Dl (.dK []))) (hG : ∀ i H, i ≤ n → Pv i H → G H)
    (hs : ∀ i x H H', i < n → Pv i H → Y i H x H' → g x (wipe σ vs) H' fun σ2 H2 => wipe σ2 vs = wipe σ vs ∧ tt σ2 H2 fun b H3 =>
      if b = true then tk σ2 H3 fun y H4 => tv σ2 H4 fun z H5 => ∃ kvs k, y = kV k ∧ H5 Dl = some (.dK kvs) ∧ kvs.length < sizeLine ∧ Pv (i + 1) (upd H5 Dl (.dK (putK kvs k z))) else Pv (i + 1) H3) (hd : ∀ H, Pv n H → Qd H) :
    ∃ W : Nat → Nat → Hp → Prop, (∃ m, W 0 m (upd H1 Dl (.dK []))) ∧ ∀ i m H, W i m H →
      (J.stop i H ∧ Qd H) ∨ (J.go i H ∧ ∃ Nx : Hp → Prop, (∀ H', Nx H' → ∃ m', m' < m ∧ W (i + 1) m' H') ∧ ∀ x H', J.yld i H x H' → g x (wipe σ vs) H' fun σ2 H2 => wipe σ2 vs = wipe σ vs ∧ tt σ2 H2 fun b H3 =>
        if b = true then tk σ2 H3 fun y H4 => tv σ2 H4 fun z H5 => ∃ kvs k, y = kV k ∧ H5 Dl = some (.dK kvs) ∧ kvs.length < sizeLine ∧ Nx (upd H5 Dl (.dK (putK kvs k z))) else Nx H3) := by
  refine ⟨fun i m H => m = n - i ∧ i ≤ n ∧ Pv i H, ⟨n, by simp, Nat.zero_le _, h0⟩, ?_⟩
  rintro i m H ⟨rfl, hi, p⟩
  have q := hG i H hi p
  by_cases hlt : i < n
  · refine .inr ⟨w.goes i H hlt q, Pv (i + 1), fun H' p' => ⟨n - (i + 1), by omega, rfl, hlt, p'⟩, fun x H' y => hs i x H H' hlt p (w.yields i H x H' hlt q y)⟩
  · have e : i = n := by omega
    subst e
    exact .inl ⟨w.stops H q, hd H p⟩
end
end LT

set_option Elab.async false
set_option linter.all false
set_option maxRecDepth 100000
set_option maxHeartbeats 4000000
/-! other, cut, undone; _cut, _undone -/
namespace LT
open PySem PySem.Spec PyProof.Rows L2 Evl
def spOther : Sp := fun vs H Q _ => ∃ l : Lt, vs = [.str (enc [l])] ∧ l.1 < 8 ∧ RetV (.str (enc [inv l])) H Q
def spCut : Sp := fun vs H Q _ => ∃ w : Wd, vs = [.str (enc w)] ∧ L8 w ∧ w.length ≤ 50000 ∧ RetV (.str (enc (cut w))) H Q
def spUnd : Sp := fun vs H Q _ => ∃ w : Wd, vs = [.str (enc w)] ∧ L8 w ∧ w.length ≤ 50000 ∧ RetV (.str (enc (und w))) H Q
section
variable {P : Program} {w : World} {K : PySem.W.Frag} {mg : Str → Option Value} {base : Heap}
theorem sc_other : FnScope ["letter"] ["letter"] (defScope s_other) := ⟨rfl, rfl, rfl, by decide +kernel, rfl, by decide +kernel, by decide +kernel⟩
theorem ok_other (T : Tx K mg) : FnOk P w K mg base CX0 1 (He.fAd K d_other.at_) (fdO K d_other) ["letter"] spOther := by
  refine (F_other T).ok sc_other (fun vs H Q E h => ?_) (fun cdv A outer s H vs Q E hr h => ?_)
  · obtain ⟨l, rfl, _⟩ := h
    rfl
  · obtain ⟨l, rfl, hl, k⟩ := h
    refine ⟨_, PSs.nox (pss_cons (ps_if (pt_cmpR op_in_sign (pv 0) (pe_gs (T_SMALL_words T)) rfl) (pss_one (ps_ret (pe_ix ix_str (pe_gs (T_LARGE T)) (pe_bmK (K := K) rfl PySem.F.plainAttrs_str PySem.F.slot_str_index PySem.F.type_str_index mt_sindex (pe_gs (T_SMALL_words T)) (pa_cons (pv 0) pa_nil)) (fun _ _ => rfl)))) pss_nil)
      (pss_one (ps_ret (pe_ix ix_str (pe_gs (T_SMALL_words T)) (pe_bmK (K := K) rfl PySem.F.plainAttrs_str PySem.F.slot_str_index PySem.F.type_str_index mt_sindex (pe_gs (T_LARGE T)) (pa_cons (pv 0) pa_nil)) (fun _ _ => rfl))))), ?_⟩
    refine q_when (et_test (ev_inS (c := code l) (ev_var rfl) ev_c)) (fun hb H1 e1 => ?_) (fun hb H1 e1 => ?_)
    · rw [in_small hl] at hb
      obtain ⟨s, b⟩ := l
      have hb : b = false := by simpa using hb
      subst hb
      exact s_ret (ev_ixS (c := code (s, true)) ev_c (ev_sindex ev_c (ev_var rfl) (small_index s hl)) (by decide) (big_at s hl)) fun H2 e2 => k H2 (e1.trans e2)
    · rw [in_small hl] at hb
      obtain ⟨s, b⟩ := l
      have hb : b = true := by simpa using hb
      subst hb
      exact s_ret (ev_ixS (c := code (s, false)) ev_c (ev_sindex ev_c (ev_var rfl) (big_index s hl)) (by decide) (small_at s hl)) fun H2 e2 => k H2 (e1.trans e2)
theorem sc_cut : FnScope ["word", "kept", "letter"] ["word"] (defScope s_cut) := ⟨rfl, rfl, rfl, by decide +kernel, rfl, by decide +kernel, by decide +kernel⟩
theorem ok_cut (T : Tx K mg) : FnOk P w K mg base CX0 2 (He.fAd K d_cut.at_) (fdO K d_cut) ["word"] spCut := by
  refine (F_cut T).ok sc_cut (fun vs H Q E h => ?_) (fun cdv A outer s H vs Q E hr h => ?_)
  · obtain ⟨l, rfl, _⟩ := h
    rfl
  · obtain ⟨v, rfl, h8, hl, k⟩ := h
    refine ⟨_, PSs.nox (pss_cons (ps_set (i := 1) sc_cut.nd rfl (.inl rfl) (pe_lst pa_nil))
      (pss_cons (ps_for PassesOwn.never rfl (pi_str (pv 0)) (pg_name (i := 2) sc_cut.nd rfl (by first | exact Or.inl rfl | exact Or.inr rfl)) (pss_one (ps_if (PW.pt (pw_and (pt_truthK (K := K) rfl (pv 1) (fun _ => rfl)) (pw_and1 (pt_cmpR op_eq (pe_ix (ix_listK (K := K) rfl) (pv 1) (pe_un un_neg pe_int) (fun _ _ => rfl)) (pe_call (ok_other T) hr rfl (T_other T) (F_other T).kp (b_other T) .nil pass0 (pa_cons (pv 2) pa_nil)) (nomark _))))) (pss_one (ps_expr (pe_bm0K (K := K) rfl PySem.F.plainAttrs_list PySem.F.slot_list_pop PySem.F.type_list_pop mt_pop (pv 1)))) (pss_one (ps_expr (pe_bmK (K := K) rfl PySem.F.plainAttrs_list PySem.F.slot_list_append PySem.F.type_list_append mt_append (pv 1) (pa_cons (pv 2) pa_nil)))))))
      (pss_one (ps_ret (pe_joinK (K := K) rfl pe_str (pv 1)))))), ?_⟩
    refine q_asgL (el_lst ea_nil (by decide)) fun p H1 hp e1 h1 => ?_
    refine q_forS (s := enc v) (ev_var rfl) (fun i σ' H' => ∃ c, σ' = [some (.str (enc v)), some (.ref p), c] ∧ Ex H H' ∧ H' p = some (.lst (ltV (cutg [] (v.take i))))) (fun H2 e2 => ⟨none, rfl, e1.trans e2, e2 p _ h1⟩) ?_ ?_
    · rintro i c' σ' H2 hc ⟨c, rfl, e2, h2⟩
      obtain ⟨l, hv, rfl⟩ := enc_get hc
      have hl8 := h8 l (List.mem_of_getElem? hv)
      have hkl : (cutg [] (v.take i)).length ≤ 50000 := by
        have := cut_length (v.take i)
        unfold cut at this
        rw [List.length_take] at this
        omega
      have hnext : cutg [] (v.take (i + 1)) = push (cutg [] (v.take i)) l := by rw [take_succ hv, cutg_append]; rfl
      have hk8 : L8 (cutg [] (v.take i)) := fun a ha => h8 a (List.mem_of_mem_take (cut_mem (w := v.take i) ha))
      generalize cutg [] (v.take i) = kk at h2 hkl hnext hk8
      rw [hnext]
      refine s_if (et_and (et_truL (ev_var rfl) h2) (b := decide (kk.getLast? = some (inv l))) (fun hne => ?_)) (fun hb H3 e3 => ?_) (fun hb H3 e3 => ?_)
      · -- kept[-1] == other(letter)
        obtain ⟨kk', a, rfl⟩ : ∃ kk' a, kk = kk' ++ [a] := by
          rcases List.eq_nil_or_concat kk with q | ⟨kk', a, q⟩
          · subst q; simp [ltV] at hne
          · exact ⟨kk', a, by rw [q, List.concat_eq_append]⟩
        have ha := hk8 a (by simp)
        refine et_is (et_eq (y := .str (enc [inv l])) (ev_ixL (i := -1) (v := .str (enc [a])) (ev_var rfl) (ev_neg ev_c) (sq_of h2) (by rw [← ltV_snoc]; exact atI_last _ _)) (ev_call (ea_cons (ev_var rfl) ea_nil) fun H5 e5 Q q _ => ⟨l, rfl, hl8, q⟩) rfl) ?_
        have e6 : (V.str (enc [a]) = V.str (enc [inv l])) ↔ ((kk' ++ [a]).getLast? = some (inv l)) := by
          rw [V.str.injEq, enc_inj (fun x hx => by simp at hx; subst hx; exact ha) (fun x hx => by simp at hx; subst hx; exact hl8)]
          simp
        exact decide_eq_decide.mpr e6
      · have hb2 : kk.getLast? = some (inv l) := by
          have := (Bool.and_eq_true_iff.mp hb).2
          exact of_decide_eq_true this
        have hkk : kk ≠ [] := by intro q; subst q; simp at hb2
        refine s_pop (y := (ltV kk)[(ltV kk).length - 1]'(by rw [ltV_len]; have := List.length_pos_iff.mpr hkk; omega)) (e3 p _ h2) (ev_var rfl) (by simp) fun H4 e4 => ⟨_, rfl, Ex.mut ((e2.trans e3).trans e4) hp, ?_⟩
        rw [upd_same]
        unfold push
        rw [if_pos hb2]
        simp [ltV, List.map_dropLast]
      · have hb2 : ¬ kk.getLast? = some (inv l) := by
          rcases Bool.and_eq_false_iff.mp hb with q | q
          · have : kk = [] := by
              have q2 : (ltV kk).isEmpty = true := by simpa using q
              have q3 := List.isEmpty_iff.mp q2
              unfold ltV at q3
              exact List.map_eq_nil_iff.mp q3
            subst this
            simp
          · exact of_decide_eq_false q
        refine s_app (e3 p _ h2) (ev_var rfl) (ev_var rfl) (by rw [ltV_len]; omega) fun H4 e4 => ⟨_, rfl, Ex.mut ((e2.trans e3).trans e4) hp, ?_⟩
        rw [upd_same]
        unfold push
        rw [if_neg hb2]
        exact congrArg (fun z => some (HO.lst z)) (ltV_snoc kk l)
    · rintro σ' H' ⟨c, rfl, e2, h2⟩
      have hw : cutg [] (v.take (enc v).cps.size) = cut v := by rw [enc_size, List.take_length]; rfl
      rw [hw] at h2
      exact s_ret (ev_joinW ev_c (ev_var rfl) h2 (by have := cut_length v; omega)) fun H3 e3 => k H3 (e2.trans e3)
theorem sc_undone : FnScope ["word", "letter"] ["word"] (defScope s_undone) := ⟨rfl, rfl, rfl, by decide +kernel, rfl, by decide +kernel, by decide +kernel⟩
theorem ok_undone (T : Tx K mg) : FnOk P w K mg base CX0 2 (He.fAd K d_undone.at_) (fdO K d_undone) ["word"] spUnd := by
  refine (F_undone T).ok sc_undone (fun vs H Q E h => ?_) (fun cdv A outer s H vs Q E hr h => ?_)
  · obtain ⟨l, rfl, _⟩ := h
    rfl
  · obtain ⟨v, rfl, h8, hl, k⟩ := h
    refine ⟨_, PSs.nox (pss_one (ps_ret (pe_joinK (K := K) rfl pe_str (pe_lc (own := [("letter", 1)]) rfl sc_undone.nd (pi_str (LR.pe_revS (pv 0))) (blkOk_by (own := [("letter", 1)]) (N := ["word", "letter"]) (sc := defScope s_undone) (by decide +kernel)) (fun _ _ _ _ _ => (pg_name (i := 1) sc_undone.nd rfl (by first | exact Or.inl rfl | exact Or.inr rfl))) (fun _ _ _ _ _ => pts_nil) (fun _ _ _ _ _ => (pe_call (ok_other T) hr rfl (T_other T) (F_other T).kp (b_other T) .nil pass0 (pa_cons (pv 1) pa_nil))))))), ?_⟩
    have hs : (enc v.reverse).cps.size = v.reverse.length := enc_size _
    refine s_ret (ev_joinWL (w := und v) ev_c (H := H) ?_ (by rw [und_length]; omega)) fun H2 e2 => k H2 e2
    have e0 : ltV (und v) = given (enc v.reverse).cps.size (fun _ => true) (fun i => .str (enc [inv (v.reverse.getD i (0, false))])) := by
      rw [hs, given_map (f := fun l => V.str (enc [inv l]))]
      simp [ltV, und]
    rw [e0]
    refine el_lcS (s := enc v.reverse) (fun _ => true) _ (ev_revW (ev_var rfl) (by omega)) (by rw [hs, List.length_reverse]; omega) (fun i c H1 _ _ => et_yes) (fun i c H1 e1 hc _ => ?_)
    obtain ⟨l, hv, rfl⟩ := enc_get hc
    rw [getD_of hv]
    have hl8 := h8 l (by have := List.mem_of_getElem? hv; simpa using this)
    exact ev_call (ea_cons (ev_var rfl) ea_nil) fun H5 e5 Q q _ => ⟨l, rfl, hl8, q⟩
theorem sc__cut : FnScope ["word", "kept", "letter"] ["word"] (defScope s__cut) := ⟨rfl, rfl, rfl, by decide +kernel, rfl, by decide +kernel, by decide +kernel⟩
theorem ok__cut (T : Tx K mg) : FnOk P w K mg base CX0 1 (He.fAd K d__cut.at_) (fdO K d__cut) ["word"] spCut := by
  refine (F__cut T).ok sc__cut (fun vs H Q E h => ?_) (fun cdv A outer s H vs Q E hr h => ?_)
  · obtain ⟨l, rfl, _⟩ := h
    rfl
  · obtain ⟨v, rfl, h8, hl, k⟩ := h
    refine ⟨_, PSs.nox (pss_cons (ps_set (i := 1) sc__cut.nd rfl (.inl rfl) (pe_lst pa_nil))
      (pss_cons (ps_for PassesOwn.never rfl (pi_str (pv 0)) (pg_name (i := 2) sc__cut.nd rfl (by first | exact Or.inl rfl | exact Or.inr rfl)) (pss_one (ps_if (PW.pt (pw_and (pt_truthK (K := K) rfl (pv 1) (fun _ => rfl)) (pw_and1 (pt_cmpR op_eq (pe_ix ix_str (pe_gs (T_TURNED T)) (pe_bmK (K := K) rfl PySem.F.plainAttrs_str PySem.F.slot_str_index PySem.F.type_str_index mt_sindex (pe_gs (T_LETTERS T)) (pa_cons (pv 2) pa_nil)) (fun _ _ => rfl)) (pe_ix (ix_listK (K := K) rfl) (pv 1) (pe_un un_neg pe_int) (fun _ _ => rfl)) (nomark _))))) (pss_one (ps_expr (pe_bm0K (K := K) rfl PySem.F.plainAttrs_list PySem.F.slot_list_pop PySem.F.type_list_pop mt_pop (pv 1)))) (pss_one (ps_expr (pe_bmK (K := K) rfl PySem.F.plainAttrs_list PySem.F.slot_list_append PySem.F.type_list_append mt_append (pv 1) (pa_cons (pv 2) pa_nil)))))))
      (pss_one (ps_ret (pe_joinK (K := K) rfl pe_str (pv 1)))))), ?_⟩
    refine q_asgL (el_lst ea_nil (by decide)) fun p H1 hp e1 h1 => ?_
    refine q_forS (s := enc v) (ev_var rfl) (fun i σ' H' => ∃ c, σ' = [some (.str (enc v)), some (.ref p), c] ∧ Ex H H' ∧ H' p = some (.lst (ltV (cutg [] (v.take i))))) (fun H2 e2 => ⟨none, rfl, e1.trans e2, e2 p _ h1⟩) ?_ ?_
    · rintro i c' σ' H2 hc ⟨c, rfl, e2, h2⟩
      obtain ⟨l, hv, rfl⟩ := enc_get hc
      have hl8 := h8 l (List.mem_of_getElem? hv)
      have hkl : (cutg [] (v.take i)).length ≤ 50000 := by
        have := cut_length (v.take i)
        unfold cut at this
        rw [List.length_take] at this
        omega
      have hnext : cutg [] (v.take (i + 1)) = push (cutg [] (v.take i)) l := by rw [take_succ hv, cutg_append]; rfl
      have hk8 : L8 (cutg [] (v.take i)) := fun a ha => h8 a (List.mem_of_mem_take (cut_mem (w := v.take i) ha))
      generalize cutg [] (v.take i) = kk at h2 hkl hnext hk8
      rw [hnext]
      refine s_if (et_and (et_truL (ev_var rfl) h2) (b := decide (kk.getLast? = some (inv l))) (fun hne => ?_)) (fun hb H3 e3 => ?_) (fun hb H3 e3 => ?_)
      · -- kept[-1] == other(letter)
        obtain ⟨kk', a, rfl⟩ : ∃ kk' a, kk = kk' ++ [a] := by
          rcases List.eq_nil_or_concat kk with q | ⟨kk', a, q⟩
          · subst q; simp [ltV] at hne
          · exact ⟨kk', a, by rw [q, List.concat_eq_append]⟩
        have ha := hk8 a (by simp)
        refine et_is (et_eq (x := .str (enc [inv l])) (ev_ixS (c := code (inv l)) ev_c (ev_sindex ev_c (ev_var rfl) (letters_index hl8)) (by decide) (turned_at hl8)) (ev_ixL (i := -1) (v := .str (enc [a])) (ev_var rfl) (ev_neg ev_c) (sq_of h2) (by rw [← ltV_snoc]; exact atI_last _ _)) rfl) ?_
        have e6 : (V.str (enc [inv l]) = V.str (enc [a])) ↔ ((kk' ++ [a]).getLast? = some (inv l)) := by
          rw [V.str.injEq, enc_inj (fun x hx => by simp at hx; subst hx; exact hl8) (fun x hx => by simp at hx; subst hx; exact ha)]
          simp
          exact eq_comm
        exact decide_eq_decide.mpr e6
      · have hb2 : kk.getLast? = some (inv l) := by
          have := (Bool.and_eq_true_iff.mp hb).2
          exact of_decide_eq_true this
        have hkk : kk ≠ [] := by intro q; subst q; simp at hb2
        refine s_pop (y := (ltV kk)[(ltV kk).length - 1]'(by rw [ltV_len]; have := List.length_pos_iff.mpr hkk; omega)) (e3 p _ h2) (ev_var rfl) (by simp) fun H4 e4 => ⟨_, rfl, Ex.mut ((e2.trans e3).trans e4) hp, ?_⟩
        rw [upd_same]
        unfold push
        rw [if_pos hb2]
        simp [ltV, List.map_dropLast]
      · have hb2 : ¬ kk.getLast? = some (inv l) := by
          rcases Bool.and_eq_false_iff.mp hb with q | q
          · have : kk = [] := by
              have q2 : (ltV kk).isEmpty = true := by simpa using q
              have q3 := List.isEmpty_iff.mp q2
              unfold ltV at q3
              exact List.map_eq_nil_iff.mp q3
            subst this
            simp
          · exact of_decide_eq_false q
        refine s_app (e3 p _ h2) (ev_var rfl) (ev_var rfl) (by rw [ltV_len]; omega) fun H4 e4 => ⟨_, rfl, Ex.mut ((e2.trans e3).trans e4) hp, ?_⟩
        rw [upd_same]
        unfold push
        rw [if_neg hb2]
        exact congrArg (fun z => some (HO.lst z)) (ltV_snoc kk l)
    · rintro σ' H' ⟨c, rfl, e2, h2⟩
      have hw : cutg [] (v.take (enc v).cps.size) = cut v := by rw [enc_size, List.take_length]; rfl
      rw [hw] at h2
      exact s_ret (ev_joinW ev_c (ev_var rfl) h2 (by have := cut_length v; omega)) fun H3 e3 => k H3 (e2.trans e3)
theorem sc__undone : FnScope ["word", "letter"] ["word"] (defScope s__undone) := ⟨rfl, rfl, rfl, by decide +kernel, rfl, by decide +kernel, by decide +kernel⟩
theorem ok__undone (T : Tx K mg) : FnOk P w K mg base CX0 1 (He.fAd K d__undone.at_) (fdO K d__undone) ["word"] spUnd := by
  refine (F__undone T).ok sc__undone (fun vs H Q E h => ?_) (fun cdv A outer s H vs Q E hr h => ?_)
  · obtain ⟨l, rfl, _⟩ := h
    rfl
  · obtain ⟨v, rfl, h8, hl, k⟩ := h
    refine ⟨_, PSs.nox (pss_one (ps_ret (pe_joinK (K := K) rfl pe_str (pe_lc (own := [("letter", 1)]) rfl sc__undone.nd (pi_str (LR.pe_revS (pv 0))) (blkOk_by (own := [("letter", 1)]) (N := ["word", "letter"]) (sc := defScope s__undone) (by decide +kernel)) (fun _ _ _ _ _ => (pg_name (i := 1) sc__undone.nd rfl (by first | exact Or.inl rfl | exact Or.inr rfl))) (fun _ _ _ _ _ => pts_nil) (fun _ _ _ _ _ => (pe_ix ix_str (pe_gs (T_TURNED T)) (pe_bmK (K := K) rfl PySem.F.plainAttrs_str PySem.F.slot_str_index PySem.F.type_str_index mt_sindex (pe_gs (T_LETTERS T)) (pa_cons (pv 1) pa_nil)) (fun _ _ => rfl))))))), ?_⟩
    have hs : (enc v.reverse).cps.size = v.reverse.length := enc_size _
    refine s_ret (ev_joinWL (w := und v) ev_c (H := H) ?_ (by rw [und_length]; omega)) fun H2 e2 => k H2 e2
    have e0 : ltV (und v) = given (enc v.reverse).cps.size (fun _ => true) (fun i => .str (enc [inv (v.reverse.getD i (0, false))])) := by
      rw [hs, given_map (f := fun l => V.str (enc [inv l]))]
      simp [ltV, und]
    rw [e0]
    refine el_lcS (s := enc v.reverse) (fun _ => true) _ (ev_revW (ev_var rfl) (by omega)) (by rw [hs, List.length_reverse]; omega) (fun i c H1 _ _ => et_yes) (fun i c H1 e1 hc _ => ?_)
    obtain ⟨l, hv, rfl⟩ := enc_get hc
    rw [getD_of hv]
    have hl8 := h8 l (by have := List.mem_of_getElem? hv; simpa using this)
    exact ev_ixS (c := code (inv l)) ev_c (ev_sindex ev_c (ev_var rfl) (letters_index hl8)) (by decide) (turned_at hl8)
end
end LT

set_option Elab.async false
set_option linter.all false
set_option maxRecDepth 100000
set_option maxHeartbeats 4000000
/-! a machine in the heap -/
namespace LT
open PySem PySem.Spec PyProof.Rows L2 Evl
section
variable {K : PySem.W.Frag} {σ : L2.St} {H H' : Hp} {ta tb te tx : TE} {t u : TT} {x y z v : V} {r : R2} {D : Ends} {tu tw tz : TS} {g : TG}
theorem Paired.get {α β : Type} {R : α → β → Prop} : ∀ {xs : List α} {ys : List β} {i : Nat} {y : β}, Paired R xs ys → ys[i]? = some y → ∃ x, xs[i]? = some x ∧ R x y
  | _, _, _, _, .nil, e => by simp at e
  | _, _, 0, _, .cons a _, e => by simp at e; subst e; exact ⟨_, rfl, a⟩
  | _, _, i + 1, _, .cons _ p, e => by
    obtain ⟨x, h1, h2⟩ := Paired.get p (by simpa using e)
    exact ⟨x, by simpa using h1, h2⟩
theorem Paired.getL {α β : Type} {R : α → β → Prop} : ∀ {xs : List α} {ys : List β} {i : Nat} {x : α}, Paired R xs ys → xs[i]? = some x → ∃ y, ys[i]? = some y ∧ R x y
  | _, _, _, _, .nil, e => by simp at e
  | _, _, 0, _, .cons a _, e => by simp at e; subst e; exact ⟨_, rfl, a⟩
  | _, _, i + 1, _, .cons _ p, e => by
    obtain ⟨x, h1, h2⟩ := Paired.getL p (by simpa using e)
    exact ⟨x, by simpa using h1, h2⟩
theorem Paired.len {α β : Type} {R : α → β → Prop} {xs : List α} {ys : List β} (p : Paired R xs ys) : xs.length = ys.length := Paired.length p
def PairAt (K : PySem.W.Frag) (H : Hp) (v : V) (e : Nat × Nat) : Prop := ∃ p, v = .ref p ∧ SqT K H p [.int (e.1 : Nat), .int (e.2 : Nat)]
def RowAt (K : PySem.W.Frag) (H : Hp) (v : V) (r : List (Nat × Nat)) : Prop := ∃ p vs, v = .ref p ∧ SqT K H p vs ∧ Paired (PairAt K H) vs r
def MachAt (K : PySem.W.Frag) (H : Hp) (v : V) (M : Mach) : Prop := ∃ p R vs, v = .ref p ∧ SqT K H p [.int (M.k : Nat), .ref R] ∧ SqT K H R vs ∧ Paired (RowAt K H) vs M.rows
theorem ex_pair {e : Nat × Nat} (x : Ex H H') (h : PairAt K H v e) : PairAt K H' v e := by
  obtain ⟨p, h1, h2⟩ := h
  exact ⟨p, h1, ex_t x h2⟩
theorem ex_row {e : List (Nat × Nat)} (x : Ex H H') (h : RowAt K H v e) : RowAt K H' v e := by
  obtain ⟨p, vs, h1, h2, h3⟩ := h
  exact ⟨p, vs, h1, ex_t x h2, Paired.imp (fun _ _ => ex_pair x) h3⟩
theorem ex_mach {M : Mach} (x : Ex H H') (h : MachAt K H v M) : MachAt K H' v M := by
  obtain ⟨p, R, vs, h1, h2, h3, h4⟩ := h
  exact ⟨p, R, vs, h1, ex_t x h2, ex_t x h3, Paired.imp (fun _ _ => ex_row x) h4⟩
/-- machine[0], machine[1] -/
theorem ev_k {M : Mach} (hm : MachAt K H v M) (h : Ev te σ H v) : Ev (tOp (rIxT K) te (tC (.int 0))) σ H (.int (M.k : Nat)) := by
  obtain ⟨p, R, vs, rfl, h2, h3, h4⟩ := hm
  exact ev_ixT h ev_c h2 rfl
theorem ev_rows {M : Mach} (hm : MachAt K H v M) (h : Ev te σ H v) : ∃ R vs, Ev (tOp (rIxT K) te (tC (.int 1))) σ H (.ref R) ∧ SqT K H R vs ∧ Paired (RowAt K H) vs M.rows := by
  obtain ⟨p, R, vs, rfl, h2, h3, h4⟩ := hm
  exact ⟨R, vs, ev_ixT h ev_c h2 rfl, h3, h4⟩
theorem Mach.row_get (M : Mach) {s : Nat} (h : s < M.rows.length) : M.rows[s]? = some (M.row s) := by
  unfold Mach.row
  rw [List.getD_eq_getElem?_getD, List.getElem?_eq_getElem h]; simp
/-- machine[1][s] -/
theorem ev_row {M : Mach} {s : Nat} (hm : MachAt K H v M) (hs : s < M.rows.length) (h : Ev te σ H v) (hi : Ev tb σ H (.int (s : Nat))) : ∃ x, Ev (tOp (rIxT K) (tOp (rIxT K) te (tC (.int 1))) tb) σ H x ∧ RowAt K H x (M.row s) := by
  obtain ⟨R, vs, h1, h2, h3⟩ := ev_rows hm h
  obtain ⟨x, hx, hr⟩ := Paired.get h3 (M.row_get hs)
  exact ⟨x, ev_ixT h1 hi h2 (atI_nat hx), hr⟩
/-- row[d] -/
theorem ev_pair {r : List (Nat × Nat)} {d : Nat} {e : Nat × Nat} (hr : RowAt K H v r) (he : r[d]? = some e) (h : Ev te σ H v) (hi : Ev tb σ H (.int (d : Nat))) : ∃ q, Ev (tOp (rIxT K) te tb) σ H (.ref q) ∧ SqT K H q [.int (e.1 : Nat), .int (e.2 : Nat)] := by
  obtain ⟨p, vs, rfl, h2, h3⟩ := hr
  obtain ⟨x, hx, q, rfl, hq⟩ := Paired.get h3 he
  exact ⟨q, ev_ixT h hi h2 (atI_nat hx), hq⟩
theorem wipe_set2 {i j : Nat} {x y : Option V} : wipe (((wipe σ [i, j]).set i x).set j y) [i, j] = wipe σ [i, j] := by
  apply List.ext_getElem?
  intro n
  simp only [wipe, List.getElem?_set, List.length_set]
  split <;> split <;> first | rfl | (split <;> rfl) | simp_all
/-- [e for a, b in a tuple of pairs if ..] -/
theorem el_lcTP {a : Addr} {xs : List V} {es : List (V × V)} {i j : Nat} {tt : TT} (f : Nat → Bool) (v : Nat → V) (h : Ev ta σ H (.ref a)) (hx : SqT K H a xs) (hp : Paired (fun v e => ∃ p, v = .ref p ∧ SqT K H p [e.1, e.2]) xs es) (hn : xs.length ≤ 100000)
    (ht : ∀ n e H1, Ex H H1 → es[n]? = some e → EvT tt (((wipe σ [i, j]).set i (some e.1)).set j (some e.2)) H1 (f n)) (he : ∀ n e H1, Ex H H1 → es[n]? = some e → f n = true → Ev te (((wipe σ [i, j]).set i (some e.1)).set j (some e.2)) H1 (v n)) :
    EvL (tLc (iTup K ta) (gTup K 2 (gCons (gName i) (gCons (gName j) gNil))) tt te [i, j]) σ H (given xs.length f v) := fun H0 e Q q => h H0 e _ fun H1 e1 => ⟨a, rfl, ⟨xs, ex_t (e.trans e1) hx⟩, by
  refine lcR (H := H1) walk_tup hn f (fun _ n y _ => y = v n) (fun _ _ _ _ _ _ h => h) (fun _ _ _ _ _ h => h) (fun H2 e2 => ex_t ((e.trans e1).trans e2) hx) (fun Dl n x H2 H3 ys Kt Kf hi _ e2 hD hy k1 k2 => ?_) (fun p H2 ys hp' e2 hl hP => q p H2 (fresh_back e1 hp') (e1.trans e2) ?_)
  · obtain ⟨rfl, hx'⟩ := hy
    obtain ⟨ee, hee, p, rfl, hpp⟩ := Paired.getL hp hx'
    refine g_unT (ex_t ((e.trans e1).trans e2) hpp) ⟨wipe_set2, ht n ee H3 ((e.trans e1).trans e2) hee H3 (Ex.refl _) _ fun H4 e4 => ?_⟩
    cases hf : f n with
    | true =>
      rw [if_pos rfl]
      exact he n ee H3 ((e.trans e1).trans e2) hee hf H4 e4 _ fun H5 e5 => k1 _ H5 (e4.trans e5) rfl hf
    | false =>
      rw [if_neg (by decide)]
      exact k2 H4 e4 hf
  · rw [hl, paired_map hP]; rfl⟩
/-- a row's pairs, as values -/
theorem row_pairs {vs : List V} {r : List (Nat × Nat)} (h : Paired (PairAt K H) vs r) : Paired (fun v (e : V × V) => ∃ p, v = .ref p ∧ SqT K H p [e.1, e.2]) vs (r.map fun e => (.int (e.1 : Nat), .int (e.2 : Nat))) := by
  induction h with
  | nil => exact .nil
  | cons a _ ih => exact .cons a ih
/-- [out for out, _ in row] -/
theorem el_outs {r : List (Nat × Nat)} {i j : Nat} (hr : RowAt K H v r) (h : Ev ta σ H v) (hi : i < σ.length) (hij : j ≠ i) (hn : r.length ≤ 100) : EvL (tLc (iTup K ta) (gTup K 2 (gCons (gName i) (gCons (gName j) gNil))) tYes (tVar i) [i, j]) σ H ((r.map (·.1)).map fun d => .int (d : Nat)) := by
  obtain ⟨p, vs, rfl, h2, h3⟩ := hr
  have hl := Paired.len h3
  have e : ((r.map (·.1)).map fun d => V.int (d : Nat)) = given vs.length (fun _ => true) (fun n => .int (((r.map (·.1)).getD n 0 : Nat) : Int)) := by
    have := given_map (r.map (·.1)) 0 (fun d : Nat => V.int (d : Nat))
    rw [List.length_map, ← hl] at this
    exact this.symm
  rw [e]
  refine el_lcTP (fun _ => true) _ h h2 (row_pairs h3) (by omega) (fun _ _ _ _ _ => et_yes) (fun n e H1 e1 he _ => ?_)
  rw [List.getElem?_map, Option.map_eq_some_iff] at he
  obtain ⟨ee, h4, rfl⟩ := he
  have h5 : (r.map (·.1)).getD n 0 = ee.1 := by rw [List.getD_eq_getElem?_getD, List.getElem?_map, h4]; rfl
  rw [h5]
  refine ev_var ?_
  rw [List.getElem?_set_ne hij, List.getElem?_set_self (by simp [wipe]; exact hi)]
end
end LT

set_option Elab.async false
set_option linter.all false
set_option maxRecDepth 100000
set_option maxHeartbeats 4000000
/-! _passed, _moved -/
namespace LT
open PySem PySem.Spec PyProof.Rows L2 Evl
def spPassed (K : PySem.W.Frag) : Sp := fun vs H Q _ => ∃ (M : Mach) (w : Wd) (d : Nat) (mv : V), vs = [mv, .str (enc w), .int (d : Nat)] ∧ M.Ok ∧ MachAt K H mv M ∧ WOk M w ∧ d < M.k ∧ w.length ≤ 50000 ∧
  RetU [.int ((passed M w d).1 : Nat), .str (enc (passed M w d).2)] H Q
theorem passed_snoc (M : Mach) (w : Wd) (l : Lt) (d : Nat) : passed M (w ++ [l]) d = ((lstep M l (passed M w d).1).1, (passed M w d).2 ++ [(lstep M l (passed M w d).1).2]) := by
  rw [passed_append]; rfl
/-- inV at an index -/
theorem idx_of {l : List Nat} {d : Nat} (h : d ∈ l) : ∃ z, (l.map fun x => V.int (x : Nat))[l.idxOf d]? = some z ∧ eqV z (.int (d : Nat)) = true ∧ ∀ (m : Nat) (z' : V), m < l.idxOf d → (l.map fun x => V.int (x : Nat))[m]? = some z' → eqV z' (.int (d : Nat)) = false := by
  have hlt := List.idxOf_lt_length_of_mem h
  refine ⟨.int (d : Nat), by rw [List.getElem?_map, List.getElem?_eq_getElem hlt]; simp, by simp [eqV], fun m z' hm hz => ?_⟩
  rw [List.getElem?_map, Option.map_eq_some_iff] at hz
  obtain ⟨x, hx, rfl⟩ := hz
  have hne : x ≠ d := by
    intro q
    subst q
    obtain ⟨hm2, hx2⟩ := List.getElem?_eq_some_iff.mp hx
    have := List.not_of_lt_findIdx (p := (· == x)) (xs := l) (i := m) (by unfold List.idxOf at hm; exact hm)
    rw [hx2] at this
    simp at this
  simp only [eqV, decide_eq_false_iff_not]
  simp
  omega
section
variable {P : Program} {w : World} {K : PySem.W.Frag} {mg : Str → Option Value} {base : Heap}
/-- [..].index(d) of a new list of ints -/
theorem ev_index {σ : L2.St} {H : Hp} {ta tb : TE} {l : List Nat} {d : Nat} (ha : EvL ta σ H (l.map fun x => V.int (x : Nat))) (hb : ∀ H1, Ex H H1 → Ev tb σ H1 (.int (d : Nat))) (hd : d ∈ l) : Ev (tBM K "list" (rIndex K) ta (tCons tb tNil)) σ H (.int (l.idxOf d : Nat)) := fun H1 e Q q =>
  ha H1 e _ fun p H2 _ e2 hp => ⟨.inl ⟨rfl, _, sq_of hp⟩, hb H2 (e.trans e2) H2 (Ex.refl _) _ fun H3 e3 => by
    obtain ⟨z, h1, h2, h3⟩ := idx_of hd
    exact ⟨p, _, _, _, z, rfl, rfl, sq_of (e3 p _ hp), rfl, by simp [flatV], h1, h2, h3, q H3 (e2.trans e3)⟩⟩
theorem sc__passed : FnScope ["machine", "word", "digit", "letters", "letter", "row", "following", "out", "_"] ["machine", "word", "digit"] (defScope s__passed) := ⟨rfl, rfl, rfl, by decide +kernel, rfl, by decide +kernel, by decide +kernel⟩
theorem ok__passed (T : Tx K mg) : FnOk P w K mg base CX0 1 (He.fAd K d__passed.at_) (fdO K d__passed) ["machine", "word", "digit"] (spPassed K) := by
  refine (F__passed T).ok sc__passed (fun vs H Q E h => ?_) (fun cdv A outer s H vs Q E hr h => ?_)
  · obtain ⟨_, _, _, _, rfl, _⟩ := h
    rfl
  · obtain ⟨M, v, d, mv, rfl, O, hm, hw, hd, hl, k⟩ := h
    refine ⟨_, PSs.nox (pss_cons (ps_set (i := 3) sc__passed.nd rfl (.inl rfl) (pe_lst pa_nil))
      (pss_cons (ps_for PassesOwn.never rfl (pi_str (pv 1)) (pg_name (i := 4) sc__passed.nd rfl (by first | exact Or.inl rfl | exact Or.inr rfl)) (pss_cons (ps_set (i := 5) sc__passed.nd rfl (.inl rfl) (pe_ix (ix_tupK (K := K) rfl) (pe_ix (ix_tupK (K := K) rfl) (pv 0) pe_int (fun _ _ => rfl)) (pe_op op_mod (pe_bmK (K := K) rfl PySem.F.plainAttrs_str PySem.F.slot_str_index PySem.F.type_str_index mt_sindex (pe_gs (T_LETTERS T)) (pa_cons (pv 4) pa_nil)) (pe_gi (T_MOST_STATES_certificates T))) (fun _ _ => rfl)))
      (pss_one (ps_if (pt_cmpR op_in_sign (pv 4) (pe_gs (T_SMALL_certificates T)) rfl) (pss_cons (ps_asg (pe_ix (ix_tupK (K := K) rfl) (pv 5) (pv 2) (fun _ _ => rfl)) (pg_tupK (K := K) (n := 2) rfl rfl (pgs_cons (pg_name (i := 2) sc__passed.nd rfl (by first | exact Or.inl rfl | exact Or.inr rfl)) (pgs_cons (pg_name (i := 6) sc__passed.nd rfl (by first | exact Or.inl rfl | exact Or.inr rfl)) pgs_nil))))
      (pss_one (ps_expr (pe_bmK (K := K) rfl PySem.F.plainAttrs_list PySem.F.slot_list_append PySem.F.type_list_append mt_append (pv 3) (pa_cons (pe_ix ix_str (pe_gs (T_SMALL_certificates T)) (pv 6) (fun _ _ => rfl)) pa_nil))))) (pss_cons (ps_set (i := 2) sc__passed.nd rfl (.inl rfl) (pe_bmK (K := K) rfl PySem.F.plainAttrs_list PySem.F.slot_list_index PySem.F.type_list_index (mt_indexK (K := K) rfl) (pe_lc (own := [("out", 7), ("_", 8)]) rfl sc__passed.nd (pi_tupK (K := K) rfl (pv 5)) (blkOk_by (own := [("out", 7), ("_", 8)]) (N := ["machine", "word", "digit", "letters", "letter", "row", "following", "out", "_"]) (sc := defScope s__passed) (by decide +kernel)) (fun _ _ _ _ _ => (pg_tupK (K := K) (n := 2) rfl rfl (pgs_cons (pg_name (i := 7) sc__passed.nd rfl (by first | exact Or.inl rfl | exact Or.inr rfl)) (pgs_cons (pg_name (i := 8) sc__passed.nd rfl (by first | exact Or.inl rfl | exact Or.inr rfl)) pgs_nil)))) (fun _ _ _ _ _ => pts_nil) (fun _ _ _ _ _ => (pv 7))) (pa_cons (pv 2) pa_nil)))
      (pss_one (ps_expr (pe_bmK (K := K) rfl PySem.F.plainAttrs_list PySem.F.slot_list_append PySem.F.type_list_append mt_append (pv 3) (pa_cons (pe_ix ix_str (pe_gs (T_GREAT T)) (pe_ix (ix_tupK (K := K) rfl) (pe_ix (ix_tupK (K := K) rfl) (pv 5) (pv 2) (fun _ _ => rfl)) pe_int (fun _ _ => rfl)) (fun _ _ => rfl)) pa_nil)))))))))
      (pss_one (ps_ret (pe_tup (pa_cons (pv 2) (pa_cons (pe_joinK (K := K) rfl pe_str (pv 3)) pa_nil))))))), ?_⟩
    refine q_asgL (el_lst ea_nil (by decide)) fun p H1 hp e1 h1 => ?_
    refine q_forS (s := enc v) (ev_var rfl) (fun i σ' H' => ∃ c1 c2 c3 c4 c5, σ' = [some mv, some (.str (enc v)), some (.int ((passed M (v.take i) d).1 : Nat)), some (.ref p), c1, c2, c3, c4, c5] ∧ Ex H H' ∧ H' p = some (.lst (ltV (passed M (v.take i) d).2))) (fun H2 e2 => ⟨none, none, none, none, none, rfl, e1.trans e2, e2 p _ h1⟩) ?_ ?_
    · rintro i c' σ' H2 hc ⟨c1, c2, c3, c4, c5, rfl, e2, h2⟩
      obtain ⟨l, hv, rfl⟩ := enc_get hc
      have hlM := hw l (List.mem_of_getElem? hv)
      have hl8 : l.1 < 8 := hw.l8 O l (List.mem_of_getElem? hv)
      have hs := passed_snoc M (v.take i) l d
      rw [← take_succ hv] at hs
      have hcur := passed_lt O (w := v.take i) (d := d) (fun x hx => hw x (List.mem_of_mem_take hx)) hd
      have hlen : (ltV (passed M (v.take i) d).2).length < 100000 := by
        rw [ltV_len, passed_length, List.length_take]; omega
      rw [hs]
      generalize passed M (v.take i) d = cur at h2 hcur hlen
      have hnum : Ev (tOp (rI (fun _ j => 0 < j) fun i j => .int (i % j)) (tBM K "str" (fun x xs H Q => ∃ a b i rest, x = .str a ∧ xs = [.str b] ∧ Builtin.Str.occurrences a b 0 a.length 1 = i :: rest ∧ Q (.int (i : Nat)) H) (tC (.str "abcdefghABCDEFGH")) (tCons (tVar 4) tNil)) (tC (.int 8)))
          [some mv, some (.str (enc v)), some (.int (cur.1 : Nat)), some (.ref p), some (.str ⟨#[code l]⟩), c2, c3, c4, c5] H2 (.int (l.1 : Nat)) := by
        have := ev_mod (ev_sindex (K := K) (H := H2) (σ := [some mv, some (.str (enc v)), some (.int (cur.1 : Nat)), some (.ref p), some (.str ⟨#[code l]⟩), c2, c3, c4, c5]) (ta := tC (.str "abcdefghABCDEFGH")) (tb := tVar 4) ev_c (ev_var rfl) (letters_index hl8)) (ev_c (v := .int 8)) (by decide)
        rwa [num_mod hl8] at this
      obtain ⟨x, hx, hr⟩ := ev_row (ex_mach e2 hm) hlM (te := tVar 0) (ev_var rfl) hnum
      refine q_asg hx fun H3 e3 => ?_
      have hr3 := ex_row e3 hr
      have hlst : ∀ {H4 : Hp}, Ex H2 H4 → H4 p = some (.lst (ltV cur.2)) := fun {H4} e4 => e4 p _ h2
      refine s_if (et_test (ev_inS (c := code l) (ev_var rfl) ev_c)) (fun hb H4 e4 => ?_) (fun hb H4 e4 => ?_)
      · rw [in_small hl8] at hb
        obtain ⟨s, b⟩ := l
        have hb : b = false := by simpa using hb
        subst hb
        have hst : lstep M (s, false) cur.1 = _ := lstep_small hlM hcur.1
        obtain ⟨q, hq, hqp⟩ := ev_pair (ex_row e4 hr3) (M.row_at (d := cur.1) (by rw [O.row_len hlM]; exact hcur.1)) (te := tVar 5) (tb := tVar 2) (σ := [some mv, some (.str (enc v)), some (.int (cur.1 : Nat)), some (.ref p), some (.str ⟨#[code (s, false)]⟩), some x, c3, c4, c5]) (H := H4) (ev_var rfl) (ev_var rfl)
        refine q_unT hq hqp fun H5 e5 => ?_
        have hnx : ((M.row s).getD cur.1 (0, 0)).2 < 8 := by
          have := (lstep_lt O hlM hcur.1).2.1
          rw [hst] at this
          have h4 := O.n4
          exact Nat.lt_of_lt_of_le this (by omega)
        refine s_app (hlst ((e3.trans e4).trans e5)) (ev_var rfl) (ev_ixS (c := code (((M.row s).getD cur.1 (0, 0)).2, false)) ev_c (ev_var rfl) (by decide) (small_at _ hnx)) hlen fun H6 e6 => ?_
        refine ⟨_, _, _, _, _, by rw [hst]; rfl, Ex.mut ((((e2.trans e3).trans e4).trans e5).trans e6) hp, ?_⟩
        rw [upd_same, hst, ← ltV_snoc]
        rfl
      · rw [in_small hl8] at hb
        obtain ⟨s, b⟩ := l
        have hb : b = true := by simpa using hb
        subst hb
        have hst : lstep M (s, true) cur.1 = _ := lstep_big hlM hcur.1
        have hix := O.idx hlM hcur.1
        refine q_asg (v := .int ((M.outs s).idxOf cur.1 : Nat)) (ev_index (K := K) (l := M.outs s) (el_outs (ex_row e4 hr3) (ev_var rfl) (by simp) (by decide) (by rw [O.row_len hlM]; have := O.k3; omega)) (fun H5 e5 => ev_var rfl) ((O.outs_mem hlM).mpr hcur.1)) fun H5 e5 => ?_
        obtain ⟨q, hq, hqp⟩ := ev_pair (ex_row (e4.trans e5) hr3) (M.row_at (d := (M.outs s).idxOf cur.1) (by rw [O.row_len hlM]; exact hix.1)) (te := tVar 5) (tb := tVar 2) (σ := [some mv, some (.str (enc v)), some (.int ((M.outs s).idxOf cur.1 : Nat)), some (.ref p), some (.str ⟨#[code (s, true)]⟩), some x, c3, c4, c5]) (H := H5) (ev_var rfl) (ev_var rfl)
        have hnx : ((M.row s).getD ((M.outs s).idxOf cur.1) (0, 0)).2 < 8 := by
          have := (lstep_lt O hlM hcur.1).2.1
          rw [hst] at this
          have h4 := O.n4
          exact Nat.lt_of_lt_of_le this (by omega)
        refine s_app (hlst ((e3.trans e4).trans e5)) (ev_var rfl) (ev_ixS (c := code (((M.row s).getD ((M.outs s).idxOf cur.1) (0, 0)).2, true)) ev_c (ev_ixT (i := 1) hq ev_c hqp rfl) (by decide) (big_at _ hnx)) hlen fun H6 e6 => ?_
        refine ⟨_, _, _, _, _, by rw [hst]; rfl, Ex.mut ((((e2.trans e3).trans e4).trans e5).trans e6) hp, ?_⟩
        rw [upd_same, hst, ← ltV_snoc]
        rfl
    · rintro σ' H' ⟨c1, c2, c3, c4, c5, rfl, e2, h2⟩
      rw [enc_size, List.take_length] at h2 ⊢
      exact s_retU (eu_tup (ea_cons (ev_var rfl) (ea_cons (ev_joinW ev_c (ev_var rfl) h2 (by rw [passed_length]; omega)) ea_nil)) (show 2 ≤ 100000 by decide)) fun q H3 hq e3 h3 => k.go e2 hq e3 h3
end
end LT

set_option Elab.async false
set_option linter.all false
set_option maxRecDepth 100000
set_option maxHeartbeats 4000000
/-! _moved, _sections, _is_word, _has_digits, _is_string -/
namespace LT
open PySem PySem.Spec PyProof.Rows L2 Evl
def spMoved (K : PySem.W.Frag) : Sp := fun vs H Q _ => ∃ (M : Mach) (w : Wd) (s : List Nat) (mv : V), vs = [mv, .str (enc w), .str (encD s)] ∧ M.Ok ∧ MachAt K H mv M ∧ WOk M w ∧ SOk M s ∧ w.length ≤ 50000 ∧ s.length ≤ 50000 ∧
  RetU [.str (encD (act M w s)), .str (enc (sec M w s))] H Q
def wsV (ws : List Wd) : List V := ws.map fun w => V.str (enc w)
theorem wsV_len (ws : List Wd) : (wsV ws).length = ws.length := by simp [wsV]
theorem wsV_snoc (ws : List Wd) (w : Wd) : wsV ws ++ [V.str (enc w)] = wsV (ws ++ [w]) := by simp [wsV]
theorem wsV_get {ws : List Wd} {i : Nat} {x : V} (h : (wsV ws)[i]? = some x) : ∃ w, ws[i]? = some w ∧ x = .str (enc w) := by
  simp only [wsV, List.getElem?_map, Option.map_eq_some_iff] at h
  obtain ⟨w, h1, h2⟩ := h
  exact ⟨w, h1, h2.symm⟩
theorem wsV_at {ws : List Wd} {i : Nat} {w : Wd} (h : ws[i]? = some w) : (wsV ws)[i]? = some (.str (enc w)) := by simp [wsV, h]
def secsL (M : Mach) (w : Wd) : List Wd := (List.range M.k).map fun d => cut (passed M w d).2
def Keeps (M : Mach) (w : Wd) : Prop := ∀ d, d < M.k → (passed M w d).1 = d
def spSections (K : PySem.W.Frag) : Sp := fun vs H Q _ => ∃ (M : Mach) (w : Wd) (mv : V), vs = [mv, .str (enc w)] ∧ M.Ok ∧ MachAt K H mv M ∧ WOk M w ∧ w.length ≤ 50000 ∧
  (Keeps M w → RetL (wsV (secsL M w)) H Q) ∧ (¬ Keeps M w → RetV .non H Q)
def spIsWord (K : PySem.W.Frag) : Sp := fun vs H Q _ => ∃ (M : Mach) (w : Wd) (most : Nat) (mv : V), vs = [mv, .str (enc w), .int (most : Nat)] ∧ M.Ok ∧ MachAt K H mv M ∧ WOk M w ∧ w.length ≤ 50000 ∧ RetV (.bl (decide (w.length ≤ most))) H Q
def spHasD (K : PySem.W.Frag) : Sp := fun vs H Q _ => ∃ (M : Mach) (s : List Nat) (mv : V), vs = [mv, .str (encD s)] ∧ M.Ok ∧ MachAt K H mv M ∧ SOk M s ∧ s.length ≤ 50000 ∧ RetV (.bl true) H Q
def spIsStr (K : PySem.W.Frag) : Sp := fun vs H Q _ => ∃ (M : Mach) (s : List Nat) (mv : V), vs = [mv, .str (encD s)] ∧ M.Ok ∧ MachAt K H mv M ∧ SOk M s ∧ s.length ≤ 50000 ∧ RetV (.bl (decide (s.length ≤ 60))) H Q
theorem act_snoc (M : Mach) (w : Wd) (s : List Nat) (d : Nat) : act M w (s ++ [d]) = act M w s ++ [(passed M (sec M w s) d).1] := by rw [act_cat]; rfl
theorem sec_snoc (M : Mach) (w : Wd) (s : List Nat) (d : Nat) : sec M w (s ++ [d]) = (passed M (sec M w s) d).2 := by rw [sec_cat]; rfl
theorem le2 : 2 ≤ 100000 := by decide
theorem le1 : 1 ≤ 100000 := by decide
theorem le0 : 0 ≤ 100000 := by decide
section
variable {P : Program} {w : World} {K : PySem.W.Frag} {mg : Str → Option Value} {base : Heap} {M : Mach} {H : Hp} {mv : V}
theorem sv_passed {v : Wd} {d : Nat} (O : M.Ok) (hm : MachAt K H mv M) (hw : WOk M v) (hd : d < M.k) (hl : v.length ≤ 50000) : SpU (spPassed K) [mv, .str (enc v), .int (d : Nat)] H [.int ((passed M v d).1 : Nat), .str (enc (passed M v d).2)] :=
  fun _ e _ q _ => ⟨M, v, d, mv, rfl, O, ex_mach e hm, hw, hd, hl, q⟩
theorem sv_moved {v : Wd} {s : List Nat} (O : M.Ok) (hm : MachAt K H mv M) (hw : WOk M v) (hs : SOk M s) (hl : v.length ≤ 50000) (hl2 : s.length ≤ 50000) : SpU (spMoved K) [mv, .str (enc v), .str (encD s)] H [.str (encD (act M v s)), .str (enc (sec M v s))] :=
  fun _ e _ q _ => ⟨M, v, s, mv, rfl, O, ex_mach e hm, hw, hs, hl, hl2, q⟩
theorem sv_cut {v : Wd} (h8 : L8 v) (hl : v.length ≤ 50000) : SpV spCut [.str (enc v)] H (.str (enc (cut v))) := fun _ _ _ q _ => ⟨v, rfl, h8, hl, q⟩
theorem sv_und {v : Wd} (h8 : L8 v) (hl : v.length ≤ 50000) : SpV spUnd [.str (enc v)] H (.str (enc (und v))) := fun _ _ _ q _ => ⟨v, rfl, h8, hl, q⟩
theorem sc__moved : FnScope ["machine", "word", "string", "digits", "digit", "out"] ["machine", "word", "string"] (defScope s__moved) := ⟨rfl, rfl, rfl, by decide +kernel, rfl, by decide +kernel, by decide +kernel⟩
theorem ok__moved (T : Tx K mg) : FnOk P w K mg base CX0 2 (He.fAd K d__moved.at_) (fdO K d__moved) ["machine", "word", "string"] (spMoved K) := by
  refine (F__moved T).ok sc__moved (fun vs H Q E h => ?_) (fun cdv A outer s H vs Q E hr h => ?_)
  · obtain ⟨_, _, _, _, rfl, _⟩ := h
    rfl
  · obtain ⟨M, v, s0, mv, rfl, O, hm, hw, hs, hl, hl2, k⟩ := h
    refine ⟨_, PSs.nox (pss_cons (ps_set (i := 3) sc__moved.nd rfl (.inl rfl) (pe_lst pa_nil))
      (pss_cons (ps_for PassesOwn.never rfl (pi_str (pv 2)) (pg_name (i := 4) sc__moved.nd rfl (by first | exact Or.inl rfl | exact Or.inr rfl)) (pss_cons (ps_asg (pe_call (ok__passed T) hr rfl (T__passed T) (F__passed T).kp (b__passed T) .nil pass0 (pa_cons (pv 0) (pa_cons (pv 1) (pa_cons (pe_callTy call_int_str (by rfl) (B_int T) (by decide +kernel) (pa_cons (pv 4) pa_nil)) pa_nil)))) (pg_tupK (K := K) (n := 2) rfl rfl (pgs_cons (pg_name (i := 5) sc__moved.nd rfl (by first | exact Or.inl rfl | exact Or.inr rfl)) (pgs_cons (pg_name (i := 1) sc__moved.nd rfl (by first | exact Or.inl rfl | exact Or.inr rfl)) pgs_nil))))
      (pss_one (ps_expr (pe_bmK (K := K) rfl PySem.F.plainAttrs_list PySem.F.slot_list_append PySem.F.type_list_append mt_append (pv 3) (pa_cons (pe_callTy call_str_int (by rfl) (B_str T) (by decide +kernel) (pa_cons (pv 5) pa_nil)) pa_nil))))))
      (pss_one (ps_ret (pe_tup (pa_cons (pe_joinK (K := K) rfl pe_str (pv 3)) (pa_cons (pv 1) pa_nil))))))), ?_⟩
    refine q_asgL (el_lst ea_nil le0) fun p H1 hp e1 h1 => ?_
    refine q_forS (s := encD s0) (ev_var rfl) (fun i σ' H' => ∃ c1 c2, σ' = [some mv, some (.str (enc (sec M v (s0.take i)))), some (.str (encD s0)), some (.ref p), c1, c2] ∧ Ex H H' ∧ H' p = some (.lst (dgV (act M v (s0.take i))))) (fun H2 e2 => ⟨none, none, rfl, e1.trans e2, e2 p _ h1⟩) ?_ ?_
    · rintro i c' σ' H2 hc ⟨c1, c2, rfl, e2, h2⟩
      obtain ⟨d, hv, rfl⟩ := encD_get hc
      have hd := hs d (List.mem_of_getElem? hv)
      have hd4 := hs.d4 O d (List.mem_of_getElem? hv)
      have hcur := act_ok O (s := s0.take i) hw (fun x hx => hs x (List.mem_of_mem_take hx))
      have hlen : (act M v (s0.take i)).length < 100000 := by rw [act_length, List.length_take]; omega
      have hlen2 : (sec M v (s0.take i)).length ≤ 50000 := by rw [sec_length]; exact hl
      have hnx := passed_lt O hcur.2 hd
      rw [take_succ hv, act_snoc, sec_snoc]
      refine q_unU (eu_call (ea_cons (ev_var rfl) (ea_cons (ev_var rfl) (ea_cons (ev_intS (ev_var rfl) hd4) ea_nil))) (sv_passed O (ex_mach e2 hm) hcur.2 hd hlen2)) fun H3 e3 => ?_
      refine s_app (e3 p _ h2) (ev_var rfl) (ev_strI (d := (passed M (sec M v (s0.take i)) d).1) (ev_var rfl) (by have := O.k3; omega)) (by rw [dgV_len]; exact hlen) fun H4 e4 => ⟨_, _, rfl, Ex.mut ((e2.trans e3).trans e4) hp, ?_⟩
      rw [upd_same, dgV_snoc]
    · rintro σ' H' ⟨c1, c2, rfl, e2, h2⟩
      rw [encD_size, List.take_length] at h2 ⊢
      exact s_retU (eu_tup (ea_cons (ev_joinD ev_c (ev_var rfl) h2 (by rw [act_length]; omega)) (ea_cons (ev_var rfl) ea_nil)) le2) fun q H3 hq e3 h3 => k.go e2 hq e3 h3
theorem sc__sections : FnScope ["machine", "word", "found", "digit", "out", "section"] ["machine", "word"] (defScope s__sections) := ⟨rfl, rfl, rfl, by decide +kernel, rfl, by decide +kernel, by decide +kernel⟩
theorem ok__sections (T : Tx K mg) : FnOk P w K mg base CX0 2 (He.fAd K d__sections.at_) (fdO K d__sections) ["machine", "word"] (spSections K) := by
  refine (F__sections T).ok sc__sections (fun vs H Q E h => ?_) (fun cdv A outer s H vs Q E hr h => ?_)
  · obtain ⟨_, _, _, rfl, _⟩ := h
    rfl
  · obtain ⟨M, v, mv, rfl, O, hm, hw, hl, k1, k2⟩ := h
    refine ⟨_, PSs.nox (pss_cons (ps_set (i := 2) sc__sections.nd rfl (.inl rfl) (pe_lst pa_nil))
      (pss_cons (ps_for PassesOwn.never rfl (pi_range1 rfl (B_range T) (pa_cons (pe_ix (ix_tupK (K := K) rfl) (pv 0) pe_int (fun _ _ => rfl)) pa_nil)) (pg_name (i := 3) sc__sections.nd rfl (by first | exact Or.inl rfl | exact Or.inr rfl)) (pss_cons (ps_asg (pe_call (ok__passed T) hr rfl (T__passed T) (F__passed T).kp (b__passed T) .nil pass0 (pa_cons (pv 0) (pa_cons (pv 1) (pa_cons (pv 3) pa_nil)))) (pg_tupK (K := K) (n := 2) rfl rfl (pgs_cons (pg_name (i := 4) sc__sections.nd rfl (by first | exact Or.inl rfl | exact Or.inr rfl)) (pgs_cons (pg_name (i := 5) sc__sections.nd rfl (by first | exact Or.inl rfl | exact Or.inr rfl)) pgs_nil))))
      (pss_cons (ps_if (pt_cmpR op_ne (pv 4) (pv 3) (nomark _)) (pss_one (ps_ret pe_non)) pss_nil)
      (pss_one (ps_expr (pe_bmK (K := K) rfl PySem.F.plainAttrs_list PySem.F.slot_list_append PySem.F.type_list_append mt_append (pv 2) (pa_cons (pe_call (ok__cut T) hr rfl (T__cut T) (F__cut T).kp (b__cut T) .nil pass0 (pa_cons (pv 5) pa_nil)) pa_nil)))))))
      (pss_one (ps_ret (pv 2))))), ?_⟩
    refine q_asgL (el_lst ea_nil le0) fun p H1 hp e1 h1 => ?_
    have hk3 := O.k3
    refine q_forR1 (n := (M.k : Nat)) (ea_cons (ev_k (ex_mach e1 hm) (ev_var rfl)) ea_nil) (by omega) (fun i σ' H' => ∃ c1 c2 c3, σ' = [some mv, some (.str (enc v)), some (.ref p), c1, c2, c3] ∧ Ex H H' ∧ (∀ d, d < i → (passed M v d).1 = d) ∧ H' p = some (.lst (wsV ((List.range i).map fun d => cut (passed M v d).2)))) (fun H2 e2 => ⟨none, none, none, rfl, e1.trans e2, fun d hd => by omega, e2 p _ h1⟩) ?_ ?_
    · rintro i σ' H2 hi ⟨c1, c2, c3, rfl, e2, hk, h2⟩
      have hi : i < M.k := by omega
      have hnx := passed_lt O hw hi
      refine q_unU (eu_call (ea_cons (ev_var rfl) (ea_cons (ev_var rfl) (ea_cons (ev_var rfl) ea_nil))) (sv_passed O (ex_mach e2 hm) hw hi hl)) fun H3 e3 => ?_
      refine q_when (et_ne (ev_var rfl) (ev_var rfl) rfl) (fun hb H4 e4 => ?_) (fun hb H4 e4 => ?_)
      · refine s_ret ev_c fun H5 e5 => (k2 fun hK => ?_) H5 (((e2.trans e3).trans e4).trans e5)
        have h3 := hK i hi
        rw [h3] at hb
        simp at hb
      · have h3 : (passed M v i).1 = i := by
          have h4 : decide (V.int ((passed M v i).1 : Nat) = V.int (i : Nat)) = true := by simpa using hb
          have h5 := V.int.inj (of_decide_eq_true h4)
          omega
        refine s_app ((e3.trans e4) p _ h2) (ev_var rfl) (ev_call (ea_cons (ev_var rfl) ea_nil) (sv_cut (hnx.2.l8 O) (by rw [passed_length]; exact hl))) (by rw [wsV_len, List.length_map, List.length_range]; omega) fun H5 e5 => ⟨_, _, _, rfl, Ex.mut (((e2.trans e3).trans e4).trans e5) hp, fun d hd => ?_, ?_⟩
        · by_cases q : d = i
          · subst q; exact h3
          · exact hk d (by omega)
        · rw [upd_same, wsV_snoc, List.range_succ, List.map_append]; rfl
    · rintro σ' H' ⟨c1, c2, c3, rfl, e2, hk, h2⟩
      have e0 : ((M.k : Nat) : Int).toNat = M.k := by omega
      rw [e0] at hk h2
      exact s_ret (ev_var rfl) fun H3 e3 => k1 hk p H3 hp (e2.trans e3) (e3 p _ h2)
theorem sc__is_word : FnScope ["machine", "word", "most", "states", "letter"] ["machine", "word", "most"] (defScope s__is_word) := ⟨rfl, rfl, rfl, by decide +kernel, rfl, by decide +kernel, by decide +kernel⟩
theorem ok__is_word (T : Tx K mg) : FnOk P w K mg base CX0 1 (He.fAd K d__is_word.at_) (fdO K d__is_word) ["machine", "word", "most"] (spIsWord K) := by
  refine (F__is_word T).ok sc__is_word (fun vs H Q E h => ?_) (fun cdv A outer s H vs Q E hr h => ?_)
  · obtain ⟨_, _, _, _, rfl, _⟩ := h
    rfl
  · obtain ⟨M, v, most, mv, rfl, O, hm, hw, hl, k⟩ := h
    refine ⟨_, PSs.nox (pss_cons (ps_set (i := 3) sc__is_word.nd rfl (.inr rfl) (pe_callB (call_lenK (K := K) rfl) (by rfl) (B_len T) PySem.boot_len (pa_cons (pe_ix (ix_tupK (K := K) rfl) (pv 0) pe_int (fun _ _ => rfl)) pa_nil)))
      (pss_one (ps_ret (pe_and (pe_cmpR op_le (pe_callB (call_lenK (K := K) rfl) (by rfl) (B_len T) PySem.boot_len (pa_cons (pv 1) pa_nil)) (pv 2) (nomark _)) (pe_one (pe_callB (cr_allK (K := K) rfl rfl) (by rfl) (B_all T) (by decide +kernel) (pa_cons (pe_lc (own := [("letter", 4)]) rfl sc__is_word.nd (pi_str (pv 1)) (blkOk_by (own := [("letter", 4)]) (N := ["machine", "word", "most", "states", "letter"]) (sc := defScope s__is_word) (by decide +kernel)) (fun _ _ _ _ _ => (pg_name (i := 4) sc__is_word.nd rfl (by first | exact Or.inl rfl | exact Or.inr rfl))) (fun _ _ _ _ _ => pts_nil) (fun _ _ _ _ _ => (pe_cmpR op_in_sign (pv 4) (pe_op op_add_str (pe_slice sl_str (pe_gs (T_SMALL_certificates T)) po_none (po_some (pv 3))) (pe_slice sl_str (pe_gs (T_GREAT T)) po_none (po_some (pv 3)))) rfl))) pa_nil))))))), ?_⟩
    have hn4 := O.n4
    obtain ⟨R, vs, hR, hRs, hrows⟩ := ev_rows (σ := [some mv, some (.str (enc v)), some (.int (most : Nat)), none, none]) hm (te := tVar 0) (ev_var rfl)
    have hlen := Paired.len hrows
    refine q_asg (ev_lenT hR hRs) fun H1 e1 => ?_
    rw [hlen]
    have h8 := hw.l8 O
    refine s_ret (ev_is (ev_andV (ev_le (ev_lenS (ev_var rfl) (by rw [enc_length]; omega)) (ev_var rfl)) (fun _ => ev_is (ev_all (bs := v.map fun _ => true) ?_) (w := V.bl true) ?_)) ?_) fun H2 e2 => k H2 (e1.trans e2)
    · have e0 : ((v.map fun _ => true).map V.bl) = given (enc v).cps.size (fun _ => true) (fun _ => V.bl true) := by
        rw [enc_size, given_all]
        apply List.ext_getElem <;> simp
      rw [e0]
      refine el_lcS (fun _ => true) _ (ev_var rfl) (by rw [enc_size]; omega) (fun i c H1 _ _ => et_yes) (fun i c H1 e1 hc _ => ?_)
      obtain ⟨l, hv, rfl⟩ := enc_get hc
      have hl8 := h8 l (List.mem_of_getElem? hv)
      refine ev_is (ev_inS (c := code l) (ev_var rfl) (ev_addS (ev_slS ev_c eo_none (eo_some (ev_var rfl)) (by decide)) (ev_slS ev_c eo_none (eo_some (ev_var rfl)) (by decide)) ?_)) ?_
      · have h1 := cutS_length (Str.ofString "abcdefgh") none (some ((M.rows.length : Nat) : Int))
        have h2 := cutS_length (Str.ofString "ABCDEFGH") none (some ((M.rows.length : Nat) : Int))
        have h3 : (Str.ofString "abcdefgh").length = 8 := rfl
        have h4 : (Str.ofString "ABCDEFGH").length = 8 := rfl
        omega
      · rw [in_alphabet hl8 _ (by omega)]
        exact congrArg V.bl (decide_eq_true (hw l (List.mem_of_getElem? hv)))
    · refine congrArg V.bl ?_
      simp
    · rw [Bool.and_true, enc_length]
      refine congrArg V.bl (decide_eq_decide.mpr ?_)
      omega
theorem sc__has_digits : FnScope ["machine", "string", "digit"] ["machine", "string"] (defScope s__has_digits) := ⟨rfl, rfl, rfl, by decide +kernel, rfl, by decide +kernel, by decide +kernel⟩
theorem ok__has_digits (T : Tx K mg) : FnOk P w K mg base CX0 1 (He.fAd K d__has_digits.at_) (fdO K d__has_digits) ["machine", "string"] (spHasD K) := by
  refine (F__has_digits T).ok sc__has_digits (fun vs H Q E h => ?_) (fun cdv A outer s H vs Q E hr h => ?_)
  · obtain ⟨_, _, _, rfl, _⟩ := h
    rfl
  · obtain ⟨M, s0, mv, rfl, O, hm, hs, hl, k⟩ := h
    refine ⟨_, PSs.nox (pss_one (ps_ret (pe_callB (cr_allK (K := K) rfl rfl) (by rfl) (B_all T) (by decide +kernel) (pa_cons (pe_lc (own := [("digit", 2)]) rfl sc__has_digits.nd (pi_str (pv 1)) (blkOk_by (own := [("digit", 2)]) (N := ["machine", "string", "digit"]) (sc := defScope s__has_digits) (by decide +kernel)) (fun _ _ _ _ _ => (pg_name (i := 2) sc__has_digits.nd rfl (by first | exact Or.inl rfl | exact Or.inr rfl))) (fun _ _ _ _ _ => pts_nil) (fun _ _ _ _ _ => (pe_cmpR op_in_sign (pv 2) (pe_slice sl_str pe_str po_none (po_some (pe_ix (ix_tupK (K := K) rfl) (pv 0) pe_int (fun _ _ => rfl)))) rfl))) pa_nil)))), ?_⟩
    have hk3 := O.k3
    refine s_ret (ev_is (ev_all (bs := s0.map fun _ => true) ?_) ?_) k
    · have e0 : ((s0.map fun _ => true).map V.bl) = given (encD s0).cps.size (fun _ => true) (fun _ => V.bl true) := by
        rw [encD_size, given_all]
        apply List.ext_getElem <;> simp
      rw [e0]
      refine el_lcS (fun _ => true) _ (ev_var rfl) (by rw [encD_size]; omega) (fun i c H1 _ _ => et_yes) (fun i c H1 e1 hc _ => ?_)
      obtain ⟨d, hv, rfl⟩ := encD_get hc
      refine ev_is (ev_inS (c := 48 + d) (ev_var rfl) (ev_slS ev_c eo_none (eo_some (ev_k (ex_mach e1 hm) (ev_var rfl))) (by decide))) ?_
      rw [in_digits (by omega)]
      exact congrArg V.bl (decide_eq_true (hs d (List.mem_of_getElem? hv)))
    · refine congrArg V.bl ?_
      simp
theorem sc__is_string : FnScope ["machine", "string"] ["machine", "string"] (defScope s__is_string) := ⟨rfl, rfl, rfl, by decide +kernel, rfl, by decide +kernel, by decide +kernel⟩
theorem ok__is_string (T : Tx K mg) : FnOk P w K mg base CX0 2 (He.fAd K d__is_string.at_) (fdO K d__is_string) ["machine", "string"] (spIsStr K) := by
  refine (F__is_string T).ok sc__is_string (fun vs H Q E h => ?_) (fun cdv A outer s H vs Q E hr h => ?_)
  · obtain ⟨_, _, _, rfl, _⟩ := h
    rfl
  · obtain ⟨M, s0, mv, rfl, O, hm, hs, hl, k⟩ := h
    refine ⟨_, PSs.nox (pss_one (ps_ret (pe_and (pe_cmpR op_le (pe_callB (call_lenK (K := K) rfl) (by rfl) (B_len T) PySem.boot_len (pa_cons (pv 1) pa_nil)) (pe_gi (T_MOST_DIGITS_certificates T)) (nomark _)) (pe_one (pe_call (ok__has_digits T) hr rfl (T__has_digits T) (F__has_digits T).kp (b__has_digits T) .nil pass0 (pa_cons (pv 0) (pa_cons (pv 1) pa_nil))))))), ?_⟩
    refine s_ret (ev_is (ev_andV (ev_le (ev_lenS (ev_var rfl) (by rw [encD_length]; omega)) ev_c) (fun _ => ev_call (z := .bl true) (ea_cons (ev_var rfl) (ea_cons (ev_var rfl) ea_nil)) (fun _ e _ q _ => ⟨M, s0, mv, rfl, O, ex_mach e hm, hs, hl, q⟩))) ?_) k
    rw [Bool.and_true, encD_length]
    refine congrArg V.bl (decide_eq_decide.mpr ?_)
    omega
end
end LT

set_option Elab.async false
set_option linter.all false
set_option maxRecDepth 100000
set_option maxHeartbeats 4000000
/-! dicts of known words -/
namespace LT
open PySem PySem.Spec PyProof.Rows L2 Evl
def kd (ds : List Wd) : List (Key × V) := ds.map fun w => ((Sum.inr (enc w) : Key), V.bl true)
theorem kd_len (ds : List Wd) : (kd ds).length = ds.length := by simp [kd]
theorem key_eq {x y : Wd} (hx : L8 x) (hy : L8 y) : ((Sum.inr (enc x) : Key) = Sum.inr (enc y)) ↔ x = y := by
  constructor
  · intro h; exact (enc_inj hx hy).mp (Sum.inr.inj h)
  · intro h; rw [h]
theorem kd_any {x : Wd} (hx : L8 x) : ∀ {ds : List Wd}, (∀ d ∈ ds, L8 d) → ((kd ds).any fun kv => decide (kv.1 = (Sum.inr (enc x) : Key))) = decide (x ∈ ds)
  | [], _ => by simp [kd]
  | d :: r, h => by
    have ih := kd_any hx (ds := r) (fun a ha => h a (by simp [ha]))
    show (decide ((Sum.inr (enc d) : Key) = Sum.inr (enc x)) || (kd r).any _) = _
    rw [ih]
    have e : decide ((Sum.inr (enc d) : Key) = Sum.inr (enc x)) = decide (d = x) := decide_eq_decide.mpr (key_eq (h d (by simp)) hx)
    rw [e]
    by_cases q : d = x
    · subst q; simp
    · have q2 : ¬ x = d := fun z => q z.symm
      simp [q, q2]
theorem valV_kd {x : Wd} (hx : L8 x) {ds : List Wd} (h : ∀ d ∈ ds, L8 d) : (valV (kd ds) (Sum.inr (enc x))).isSome = decide (x ∈ ds) := by
  rw [← valV_any, kd_any hx h]
theorem putK_kd {x : Wd} (hx : L8 x) {ds : List Wd} (h : ∀ d ∈ ds, L8 d) : putK (kd ds) (Sum.inr (enc x)) (V.bl true) = if x ∈ ds then kd ds else kd (ds ++ [x]) := by
  unfold putK
  rw [kd_any hx h]
  by_cases q : x ∈ ds
  · rw [if_pos (decide_eq_true q), if_pos q]
    unfold kd
    rw [List.map_map]
    refine List.map_congr_left fun a _ => ?_
    show (if (Sum.inr (enc a) : Key) = Sum.inr (enc x) then ((Sum.inr (enc a) : Key), V.bl true) else ((Sum.inr (enc a) : Key), V.bl true)) = _
    split <;> rfl
  · rw [if_neg (by simpa using q), if_neg q]
    simp [kd]
section
variable {K : PySem.W.Frag} {σ : L2.St} {H H' : Hp} {ta tb te td ty : TE} {D : Ends} {tz : TS}
/-- x in d, x not in d -/
theorem ev_din {d : Addr} {ds : List Wd} {x : Wd} (hx : Ev ty σ H (.str (enc x))) (hd : Ev td σ H (.ref d)) (h : H d = some (.dK (kd ds))) (h8 : L8 x) (hs : ∀ a ∈ ds, L8 a) : Ev (tDIn ty td) σ H (.bl (decide (x ∈ ds))) := fun H1 e Q q =>
  hx H1 e _ fun H2 e2 => hd H2 (e.trans e2) _ fun H3 e3 => ⟨d, _, rfl, DGet.k (k := Sum.inr (enc x)) (((e.trans e2).trans e3) d _ h), by rw [valV_kd h8 hs]; exact q H3 (e2.trans e3)⟩
theorem ev_dnotin {d : Addr} {ds : List Wd} {x : Wd} (hx : Ev ty σ H (.str (enc x))) (hd : Ev td σ H (.ref d)) (h : H d = some (.dK (kd ds))) (h8 : L8 x) (hs : ∀ a ∈ ds, L8 a) : Ev (tDNotIn ty td) σ H (.bl (!decide (x ∈ ds))) := fun H1 e Q q =>
  hx H1 e _ fun H2 e2 => hd H2 (e.trans e2) _ fun H3 e3 => ⟨d, _, rfl, DGet.k (k := Sum.inr (enc x)) (((e.trans e2).trans e3) d _ h), by rw [valV_kd h8 hs]; exact q H3 (e2.trans e3)⟩
/-- d[x] = True -/
theorem s_dput {d : Addr} {ds : List Wd} {x : Wd} (hv : Ev te σ H (.bl true)) (hx : Ev ty σ H (.str (enc x))) (hd : Ev td σ H (.ref d)) (h : H d = some (.dK (kd ds))) (h8 : L8 x) (hs : ∀ a ∈ ds, L8 a) (hn : x ∉ ds) (hl : ds.length < 100000)
    (k : ∀ H1, Ex H H1 → D.nx σ (upd H1 d (.dK (kd (ds ++ [x]))))) : sDPut td ty te D σ H :=
  hv H (Ex.refl H) _ fun H1 e1 => hd H1 e1 _ fun H2 e2 => hx H2 (e1.trans e2) _ fun H3 e3 => ⟨d, _, rfl, DPut.k (k := Sum.inr (enc x)) (((e1.trans e2).trans e3) d _ h) (by rw [kd_len]; exact sz_lt hl), by
    rw [putK_kd h8 hs, if_neg hn]
    exact k H3 ((e1.trans e2).trans e3)⟩
theorem q_dput {d : Addr} {ds : List Wd} {x : Wd} (hv : Ev te σ H (.bl true)) (hx : Ev ty σ H (.str (enc x))) (hd : Ev td σ H (.ref d)) (h : H d = some (.dK (kd ds))) (h8 : L8 x) (hs : ∀ a ∈ ds, L8 a) (hn : x ∉ ds) (hl : ds.length < 100000)
    (k : ∀ H1, Ex H H1 → tz D σ (upd H1 d (.dK (kd (ds ++ [x]))))) : tSeq (sDPut td ty te) tz D σ H := s_dput (D := { D with nx := tz D }) hv hx hd h h8 hs hn hl k
/-- {x: True} -/
def EvD (te : TE) (σ : L2.St) (H : Hp) (ds : List Wd) : Prop := ∀ H1, Ex H H1 → ∀ Q : VK, (∀ p H2, H1 p = none → Ex H1 H2 → H2 p = some (.dK (kd ds)) → Q (.ref p) H2) → te σ H1 Q
theorem s_asgD {i : Nat} {ds : List Wd} (h : EvD te σ H ds) (k : ∀ p H1, H p = none → Ex H H1 → H1 p = some (.dK (kd ds)) → D.nx (σ.set i (some (.ref p))) H1) : tAsg te (gName i) D σ H := h H (Ex.refl H) _ fun p H1 hp e h1 => k p H1 hp e h1
theorem q_asgD {i : Nat} {ds : List Wd} (h : EvD te σ H ds) (k : ∀ p H1, H p = none → Ex H H1 → H1 p = some (.dK (kd ds)) → tz D (σ.set i (some (.ref p))) H1) : tSeq (tAsg te (gName i)) tz D σ H := s_asgD (D := { D with nx := tz D }) h k
theorem ed_disp {x : Wd} (hx : ∀ H1, Ex H H1 → Ev ty σ H1 (.str (enc x))) : EvD (tDisp [(ty, tC (.bl true))]) σ H [x] := fun H1 e Q q p hp =>
  hx H1 e (upd H1 p (.dK [])) (Ex.new hp) _ fun H2 e2 => by
    have hp2 : H2 p = some (.dK []) := e2 p _ upd_same
    refine ⟨hp2, kd [x], rfl, (show 1 ≤ 15 by decide), q p _ hp (Ex.mut (fun a o ha => e2 a o (by rw [upd_ne (ne_of_none ha hp)]; exact ha)) hp) upd_same⟩
/-- {w: True for w in words}: the words once each -/
theorem er_dc {a : Addr} {L : List Wd} {j : Nat} (h : Ev ta σ H (.ref a)) (hx : SqL K H a (wsV L)) (h8 : ∀ d ∈ L, L8 d) (hl : L.length ≤ 90000) (hj : j < σ.length) :
    ∀ H1, Ex H H1 → ∀ Q : VK, (∀ p H2 ds, H1 p = none → Ex H1 H2 → H2 p = some (.dK (kd ds)) → (∀ x, x ∈ ds ↔ x ∈ L) → (ds.length = L.length ↔ L.Nodup) → ds.length ≤ L.length → Q (.ref p) H2) → tDc (iList K ta) (gName j) tYes (tVar j) (tC (.bl true)) [j] σ H1 Q := by
  intro H0 e Q q
  refine h H0 e _ fun H1 e1 => ⟨a, rfl, ⟨_, ex_l (e.trans e1) hx⟩, fun Dl hD => ?_⟩
  refine dc_it walk_list (fun i H' => ∃ ds : List Wd, Ex H1 H' ∧ H' Dl = some (.dK (kd ds)) ∧ (∀ x, x ∈ ds ↔ x ∈ L.take i) ∧ (ds.length = i ↔ (L.take i).Nodup) ∧ ds.length ≤ i) ⟨[], Ex.new hD, upd_same, by simp, by simp, Nat.le_refl _⟩ (fun i H' _ ⟨_, e2, _⟩ => ex_l ((e.trans e1).trans e2) hx) ?_ ?_
  · rintro i x H2 H3 hi ⟨ds, e2, hd, hm, hn, hle⟩ ⟨rfl, hxi⟩
    obtain ⟨w, hw, rfl⟩ := wsV_get hxi
    rw [wsV_len] at hi
    refine ⟨wipe_set1, ?_⟩
    refine et_yes H3 (Ex.refl _) _ fun H3' e3 => ?_
    simp only [↓reduceIte]
    replace e2 := e2.trans e3
    replace hd := e3 _ _ hd
    have hds : ∀ d ∈ ds, L8 d := fun d hd' => h8 d (List.mem_of_mem_take ((hm d).mp hd'))
    have hw8 := h8 w (List.mem_of_getElem? hw)
    have hvar : ((wipe σ [j]).set j (some (V.str (enc w))))[j]? = some (some (.str (enc w))) := by rw [List.getElem?_set_self (by simp [wipe]; exact hj)]
    refine ⟨_, hvar, kd ds, Sum.inr (enc w), rfl, hd, sz_lt (by rw [kd_len]; omega), ?_⟩
    rw [putK_kd hw8 hds]
    have hwt : w ∈ ds ↔ w ∈ L.take i := hm w
    by_cases hin : w ∈ ds
    · rw [if_pos hin]
      refine ⟨ds, Ex.mut e2 hD, upd_same, fun x => ?_, ?_, by omega⟩
      · rw [take_succ hw, List.mem_append, hm x]
        constructor
        · exact .inl
        · rintro (z | z)
          · exact z
          · simp at z; subst z; exact hwt.mp hin
      · rw [take_succ hw]
        constructor
        · intro z; omega
        · intro z
          have := List.nodup_append.mp z
          exact absurd rfl (this.2.2 w (hwt.mp hin) w (by simp))
    · rw [if_neg hin]
      refine ⟨ds ++ [w], Ex.mut e2 hD, upd_same, fun x => ?_, ?_, by simp; omega⟩
      · rw [take_succ hw, List.mem_append, List.mem_append, hm x]
      · rw [take_succ hw, List.length_append, List.length_singleton]
        constructor
        · intro z
          have h1 : (L.take i).Nodup := hn.mp (by omega)
          refine List.nodup_append.mpr ⟨h1, by simp, fun a ha b hb => ?_⟩
          simp at hb
          subst hb
          intro q2
          subst q2
          exact hin (hwt.mpr ha)
        · intro z
          have h1 := (List.nodup_append.mp z).1
          have := hn.mpr h1
          omega
  · rintro H2 ⟨ds, e2, hd, hm, hn, hle⟩
    rw [wsV_len] at hm hn hle
    rw [List.take_length] at hm hn
    exact q Dl H2 ds (fresh_back e1 hD) (e1.trans e2) hd hm hn hle
theorem ev_lenD {d : Addr} {ds : List Wd} (h : Ev ta σ H (.ref d)) (hd : H d = some (.dK (kd ds))) : Ev (tCB (fun xs H Q => ∃ a kvs, xs = [V.ref a] ∧ H a = some (.dK kvs) ∧ Q (.int kvs.length) H) (tCons ta tNil)) σ H (.int (ds.length : Nat)) := fun H1 e Q q =>
  h H1 e _ fun H2 e2 => ⟨d, _, rfl, (e.trans e2) d _ hd, by rw [kd_len]; exact q H2 e2⟩
end
end LT

set_option Elab.async false
set_option linter.all false
set_option maxRecDepth 100000
set_option maxHeartbeats 4000000
/-! sorted, list(range), tests of data -/
namespace LT
open PySem PySem.Spec PyProof.Rows L2 Evl
section
variable {K : PySem.W.Frag} {σ : L2.St} {H H' : Hp} {ta tb te tx : TE} {t u : TT} {x y z v : V} {r : R2} {D : Ends} {tu tw tz : TS} {g : TG}
theorem el_sorted {ns ts : List Int} (h : EvL ta σ H (ns.map V.int)) (h64 : ns.length < 64) (hp : ns.Perm ts) (hs : ts.Pairwise (· ≤ ·)) : EvL (tCB (rSorted K) (tCons ta tNil)) σ H (ts.map V.int) := fun H1 e Q q =>
  h H1 e _ fun p H2 hp0 e2 h2 => ⟨p, ns, rfl, sq_of h2, h64, fun ns' p' hp' hs' hn => by
    have e0 : ns' = ts := PySem.W.ksm_same (hp'.trans hp) hs' hs
    subst e0
    exact q p' _ (fresh_back e2 hn) (e2.trans (Ex.new hn)) upd_same⟩
theorem rgV_eq (k : Nat) : rgV 0 (k : Nat) = ((List.range k).map fun d => ((d : Nat) : Int)).map V.int := by
  unfold rgV
  rw [List.map_map]
  have : ((k : Int) - 0).toNat = k := by omega
  rw [this]
  refine List.map_congr_left fun a _ => ?_
  show V.int (0 + _) = V.int _
  rw [Int.zero_add]
theorem el_listRg {k : Nat} (h : Ev ta σ H (.int (k : Nat))) (hk : k ≤ 1000) : EvL (tLstRg (tRg1 ta)) σ H (((List.range k).map fun d => ((d : Nat) : Int)).map V.int) := fun H1 e Q q =>
  h H1 e _ fun H2 e2 => ⟨k, rfl, by unfold RgOk; omega, fun p hp => by
    rw [rgV_eq]
    exact q p _ (fresh_back e2 hp) (e2.trans (Ex.new hp)) upd_same⟩
theorem dpAll_ints : ∀ ns : List Int, DpAll K H (ns.map V.int) (ns.map PyData.int)
  | [] => .nil
  | i :: r => .cons (.int i) (dpAll_ints r)
theorem dpAll_strs : ∀ ns : List Str, DpAll K H (ns.map V.str) (ns.map PyData.str)
  | [] => .nil
  | i :: r => .cons (.str i) (dpAll_strs r)
theorem rg_shaped {k : Nat} (hk : k ≤ 3) : SeqAt.shaped (.list (((List.range k).map fun d => ((d : Nat) : Int)).map PyData.int)) = true := by
  have : k = 0 ∨ k = 1 ∨ k = 2 ∨ k = 3 := by omega
  rcases this with rfl | rfl | rfl | rfl <;> decide +kernel
theorem rg_eqv {k : Nat} (hk : k ≤ 3) : PyData.eqv (.list (((List.range k).map fun d => ((d : Nat) : Int)).map PyData.int)) (.list (((List.range k).map fun d => ((d : Nat) : Int)).map PyData.int)) = true := by
  have : k = 0 ∨ k = 1 ∨ k = 2 ∨ k = 3 := by omega
  rcases this with rfl | rfl | rfl | rfl <;> decide +kernel
/-- sorted(..) != list(range(k)) is False -/
theorem ev_neRg {k : Nat} (hk : k ≤ 3) (h1 : EvL ta σ H (((List.range k).map fun d => ((d : Nat) : Int)).map V.int)) (h2 : EvL tb σ H (((List.range k).map fun d => ((d : Nat) : Int)).map V.int)) : Ev (tOp (rNeD K) ta tb) σ H (.bl false) :=
  ev_opLL h1 h2 fun p q H1 hp hq _ H2 e Q k' => ⟨_, _, .lst (sq_of (e p _ hp)) (dpAll_ints _), .lst (sq_of (e q _ hq)) (dpAll_ints _), rg_shaped hk, rg_shaped hk, by
    rw [rg_eqv hk]
    exact k' H2 (Ex.refl _)⟩
theorem rg_sorted (k : Nat) : (((List.range k).map fun d => ((d : Nat) : Int))).Pairwise (· ≤ ·) := by
  rw [List.pairwise_map]
  exact List.Pairwise.imp (fun {a b} h => by omega) List.pairwise_lt_range
theorem row_perm {M : Mach} (O : M.Ok) {r : List (Nat × Nat)} (h : r ∈ M.rows) : ((r.map (·.1)).map fun d => ((d : Nat) : Int)).Perm ((List.range M.k).map fun d => ((d : Nat) : Int)) := (O.perm r h).map _
theorem row_len {M : Mach} (O : M.Ok) {r : List (Nat × Nat)} (h : r ∈ M.rows) : r.length = M.k := by
  have := (O.perm r h).length_eq
  simpa using this
theorem ints_map (ns : List Nat) : (ns.map fun d => V.int (d : Nat)) = (ns.map fun d => ((d : Nat) : Int)).map V.int := by simp
/-- [entry[0] for entry in row] -/
theorem el_ent0 {rv : V} {r : List (Nat × Nat)} {i : Nat} (hr : RowAt K H rv r) (h : Ev ta σ H rv) (hi : i < σ.length) (hn : r.length ≤ 100) :
    EvL (tLc (iTup K ta) (gName i) tYes (tOp (rIxT K) (tVar i) (tC (.int 0))) [i]) σ H (((r.map (·.1)).map fun d => ((d : Nat) : Int)).map V.int) := by
  obtain ⟨p, vs, rfl, h2, h3⟩ := hr
  have hl := Paired.len h3
  have e : (((r.map (·.1)).map fun d => ((d : Nat) : Int)).map V.int) = given vs.length (fun _ => true) (fun n => .int (((r.map (·.1)).getD n 0 : Nat) : Int)) := by
    have := given_map (r.map (·.1)) 0 (fun d : Nat => V.int (d : Nat))
    rw [List.length_map, ← hl] at this
    rw [← ints_map]
    exact this.symm
  rw [e]
  refine el_lcT (fun _ => true) _ h h2 (by omega) (fun _ _ _ _ _ => et_yes) (fun n x H1 e1 hx _ => ?_)
  obtain ⟨ee, hee, q, rfl, hq⟩ := Paired.getL h3 hx
  have h5 : (r.map (·.1)).getD n 0 = ee.1 := by rw [List.getD_eq_getElem?_getD, List.getElem?_map, hee]; rfl
  rw [h5]
  refine ev_ixT (ev_var ?_) ev_c (ex_t e1 hq) rfl
  rw [List.getElem?_set_self (by simp [wipe]; exact hi)]
/-- [not 0 <= entry[1] < n for entry in row] -/
theorem el_ent1 {rv : V} {r : List (Nat × Nat)} {i n : Nat} (hr : RowAt K H rv r) (h : Ev ta σ H rv) (hi : i < σ.length) (hn : r.length ≤ 100) (hb : ∀ e ∈ r, e.2 < n) (hc : ∀ x H1, Ex H H1 → Ev te ((wipe σ [i]).set i x) H1 (.int (n : Nat))) :
    EvL (tLc (iTup K ta) (gName i) tYes (tNotV (tChain (rI0 fun i j => .bl (decide (i ≤ j))) (rI0 fun i j => .bl (decide (i < j))) (tC (.int 0)) (tOp (rIxT K) (tVar i) (tC (.int 1))) te)) [i]) σ H ((r.map fun _ => false).map V.bl) := by
  obtain ⟨p, vs, rfl, h2, h3⟩ := hr
  have hl := Paired.len h3
  have e : ((r.map fun _ => false).map V.bl) = given vs.length (fun _ => true) (fun _ => .bl false) := by
    rw [given_all, hl]
    apply List.ext_getElem <;> simp
  rw [e]
  refine el_lcT (fun _ => true) _ h h2 (by omega) (fun _ _ _ _ _ => et_yes) (fun m x H1 e1 hx _ => ?_)
  obtain ⟨ee, hee, q, rfl, hq⟩ := Paired.getL h3 hx
  refine ev_is (ev_notV (ev_chain ev_c (ev_ixT (ev_var (v := .ref q) ?_) ev_c (ex_t e1 hq) rfl) (hc _ H1 e1))) ?_
  · rw [List.getElem?_set_self (by simp [wipe]; exact hi)]
  · have := hb ee (List.mem_of_getElem? hee)
    simp
    omega
end
end LT

set_option Elab.async false
set_option linter.all false
set_option maxRecDepth 100000
set_option maxHeartbeats 4000000
/-! _is_machine, _check, _is_closed, _shows_equal, _shows_apart, _changes -/
namespace LT
open PySem PySem.Spec PyProof.Rows L2 Evl
def spIsMach (K : PySem.W.Frag) : Sp := fun vs H Q _ => ∃ (M : Mach) (mv : V), vs = [mv] ∧ M.Ok ∧ MachAt K H mv M ∧ RetV (.bl true) H Q
def spCheck (K : PySem.W.Frag) : Sp := fun vs H Q _ => ∃ (M : Mach) (ws : List Wd) (mv : V) (a : Addr), vs = [mv, .ref a] ∧ M.Ok ∧ MachAt K H mv M ∧ SqL K H a (wsV ws) ∧ (∀ w ∈ ws, WOk M w ∧ w.length ≤ 60) ∧ RetV .non H Q
def IsCl (M : Mach) (L : List Wd) : Prop := L.Nodup ∧ ∀ w ∈ L, w.length ≤ 2000 ∧ cut w = w ∧ Keeps M w ∧ ∀ s ∈ secsL M w, s ∈ L
theorem IsCl.closed {M : Mach} {L : List Wd} (h : IsCl M L) : Closed M L := fun w hw d hd => by
  obtain ⟨_, _, h3, h4⟩ := h.2 w hw
  exact ⟨h3 d hd, h4 _ (List.mem_map.mpr ⟨d, List.mem_range.mpr hd, rfl⟩)⟩
def spIsClosed (K : PySem.W.Frag) : Sp := fun vs H Q _ => ∃ (M : Mach) (ws : List Wd) (mv : V) (a : Addr), vs = [mv, .ref a] ∧ M.Ok ∧ MachAt K H mv M ∧ SqL K H a (wsV ws) ∧ (∀ w ∈ ws, WOk M w ∧ w.length ≤ 50000) ∧ ws.length ≤ 50000 ∧
  ∀ b : Bool, (b = true ↔ IsCl M ws) → RetV (.bl b) H Q
def spShowsEq (K : PySem.W.Frag) : Sp := fun vs H Q _ => ∃ (M : Mach) (u v : Wd) (ws : List Wd) (mv : V) (a : Addr), vs = [mv, .str (enc u), .str (enc v), .ref a] ∧ M.Ok ∧ MachAt K H mv M ∧ WOk M u ∧ WOk M v ∧ u.length ≤ 60 ∧ v.length ≤ 60 ∧ SqL K H a (wsV ws) ∧ (∀ w ∈ ws, WOk M w ∧ w.length ≤ 50000) ∧ ws.length ≤ 50000 ∧
  ∀ b : Bool, (b = true ↔ cut (u ++ und v) ∈ ws ∧ IsCl M ws) → RetV (.bl b) H Q
def spShowsAp (K : PySem.W.Frag) : Sp := fun vs H Q _ => ∃ (M : Mach) (u v : Wd) (s : List Nat) (mv : V), vs = [mv, .str (enc u), .str (enc v), .str (encD s)] ∧ M.Ok ∧ MachAt K H mv M ∧ WOk M u ∧ WOk M v ∧ u.length ≤ 60 ∧ v.length ≤ 60 ∧ SOk M s ∧ s.length ≤ 50000 ∧
  ∀ b : Bool, (b = true ↔ act M u s ≠ act M v s) → RetV (.bl b) H Q
def spChanges (K : PySem.W.Frag) : Sp := fun vs H Q _ => ∃ (M : Mach) (u : Wd) (n : Nat) (s : List Nat) (mv : V), vs = [mv, .str (enc u), .int (n : Nat), .str (encD s)] ∧ M.Ok ∧ MachAt K H mv M ∧ WOk M u ∧ u.length ≤ 60 ∧ n ≤ 1000 ∧ SOk M s ∧ s.length ≤ 50000 ∧
  ∀ b : Bool, (b = true ↔ iter M u n s ≠ s) → RetV (.bl b) H Q
theorem iter_snoc (M : Mach) (w : Wd) (n : Nat) (s : List Nat) : iter M w (n + 1) s = act M w (iter M w n s) := by rw [iter_add]; rfl
theorem iter_len (M : Mach) (w : Wd) : ∀ (n : Nat) (s : List Nat), (iter M w n s).length = s.length
  | 0, _ => rfl
  | n + 1, s => by rw [iter_snoc, act_length]; exact iter_len M w n s
theorem iter_ok {M : Mach} (O : M.Ok) {w : Wd} (hw : WOk M w) : ∀ (n : Nat) {s : List Nat}, SOk M s → SOk M (iter M w n s)
  | 0, _, h => h
  | n + 1, s, h => by rw [iter_snoc]; exact (act_ok O hw (iter_ok O hw n h)).1
theorem secsL_len (M : Mach) (w : Wd) : (secsL M w).length = M.k := by simp [secsL]
theorem secsL_ok {M : Mach} (O : M.Ok) {w : Wd} (hw : WOk M w) : ∀ s ∈ secsL M w, WOk M s ∧ s.length ≤ w.length := by
  intro s hs
  obtain ⟨d, hd, rfl⟩ := List.mem_map.mp hs
  have := passed_lt O hw (List.mem_range.mp hd)
  refine ⟨this.2.cut, ?_⟩
  have h2 := cut_length (passed M w d).2
  rw [passed_length] at h2
  exact h2
theorem inV_wsV {x : Wd} (hx : L8 x) {ws : List Wd} (h : ∀ w ∈ ws, L8 w) : inV (.str (enc x)) (wsV ws) = decide (x ∈ ws) := by
  have e : (inV (.str (enc x)) (wsV ws) = true) ↔ x ∈ ws := by
    unfold inV
    simp only [List.any_eq_true, wsV, List.mem_map]
    constructor
    · rintro ⟨_, ⟨w, hw, rfl⟩, e⟩
      have e2 : enc w = enc x := by simpa [eqV] using e
      exact (enc_inj (h w hw) hx).mp e2 ▸ hw
    · intro hm
      exact ⟨_, ⟨x, hm, rfl⟩, by simp [eqV]⟩
  by_cases q : x ∈ ws
  · rw [decide_eq_true q]; exact e.mpr q
  · rw [decide_eq_false q]
    cases hb : inV (.str (enc x)) (wsV ws) with
    | true => exact absurd (e.mp hb) q
    | false => rfl
theorem flat_wsV (ws : List Wd) : (wsV ws).all flatV = true := by
  rw [List.all_eq_true]
  intro x hx
  obtain ⟨w, _, rfl⟩ := List.mem_map.mp hx
  rfl
section
variable {P : Program} {w : World} {K : PySem.W.Frag} {mg : Str → Option Value} {base : Heap} {M : Mach} {H : Hp} {mv : V}
theorem sc__is_machine : FnScope ["machine", "size", "rows", "row", "entry"] ["machine"] (defScope s__is_machine) := ⟨rfl, rfl, rfl, by decide +kernel, rfl, by decide +kernel, by decide +kernel⟩
theorem ok__is_machine (T : Tx K mg) : FnOk P w K mg base CX0 1 (He.fAd K d__is_machine.at_) (fdO K d__is_machine) ["machine"] (spIsMach K) := by
  refine (F__is_machine T).ok sc__is_machine (fun vs H Q E h => ?_) (fun cdv A outer s H vs Q E hr h => ?_)
  · obtain ⟨_, _, rfl, _⟩ := h
    rfl
  · obtain ⟨M, mv, rfl, O, hm, k⟩ := h
    refine ⟨_, PSs.nox (pss_cons (ps_asg (pv 0) (pg_tupK (K := K) (n := 2) rfl rfl (pgs_cons (pg_name (i := 1) sc__is_machine.nd rfl (by first | exact Or.inl rfl | exact Or.inr rfl)) (pgs_cons (pg_name (i := 2) sc__is_machine.nd rfl (by first | exact Or.inl rfl | exact Or.inr rfl)) pgs_nil))))
      (pss_cons (ps_if (PW.pt (pw_or (pt_not (pt_chain op_le op_le pe_int (pv 1) pe_int)) (pw_or1 (pt_not (pt_chain op_le op_le pe_int (pe_callB (call_lenK (K := K) rfl) (by rfl) (B_len T) PySem.boot_len (pa_cons (pv 2) pa_nil)) (pe_gi (T_MOST_STATES_certificates T))))))) (pss_one (ps_ret pe_bl)) pss_nil)
      (pss_cons (ps_for PassesOwn.never rfl (pi_tupK (K := K) rfl (pv 2)) (pg_name (i := 3) sc__is_machine.nd rfl (by first | exact Or.inl rfl | exact Or.inr rfl)) (pss_cons (ps_if (pt_cmpR (op_neDK (K := K) rfl (hu64 hr)) (pe_callB (cr_sortedK (K := K) rfl) (by rfl) (B_sorted T) (by decide +kernel) (pa_cons (pe_lc (own := [("entry", 4)]) rfl sc__is_machine.nd (pi_tupK (K := K) rfl (pv 3)) (blkOk_by (own := [("entry", 4)]) (N := ["machine", "size", "rows", "row", "entry"]) (sc := defScope s__is_machine) (by decide +kernel)) (fun _ _ _ _ _ => (pg_name (i := 4) sc__is_machine.nd rfl (by first | exact Or.inl rfl | exact Or.inr rfl))) (fun _ _ _ _ _ => pts_nil) (fun _ _ _ _ _ => (pe_ix (ix_tupK (K := K) rfl) (pv 4) pe_int (fun _ _ => rfl)))) pa_nil)) (pe_listRg rfl (by rfl) (B_list T) (prg_1 rfl (B_range T) (pv 1))) (nomark _)) (pss_one (ps_ret pe_bl)) pss_nil)
      (pss_one (ps_if (pt_val (pe_callB (cr_anyK (K := K) rfl rfl) (by rfl) (B_any T) (by decide +kernel) (pa_cons (pe_lc (own := [("entry", 4)]) rfl sc__is_machine.nd (pi_tupK (K := K) rfl (pv 3)) (blkOk_by (own := [("entry", 4)]) (N := ["machine", "size", "rows", "row", "entry"]) (sc := defScope s__is_machine) (by decide +kernel)) (fun _ _ _ _ _ => (pg_name (i := 4) sc__is_machine.nd rfl (by first | exact Or.inl rfl | exact Or.inr rfl))) (fun _ _ _ _ _ => pts_nil) (fun _ _ _ _ _ => (pe_not (pe_chain op_le op_lt pe_int (pe_ix (ix_tupK (K := K) rfl) (pv 4) pe_int (fun _ _ => rfl)) (pe_callB (call_lenK (K := K) rfl) (by rfl) (B_len T) PySem.boot_len (pa_cons (pv 2) pa_nil)))))) pa_nil))) (pss_one (ps_ret pe_bl)) pss_nil))))
      (pss_one (ps_ret pe_bl))))), ?_⟩
    have hm' := hm
    obtain ⟨p, R, vs, rfl, h2, h3, h4⟩ := hm
    have hlen := Paired.len h4
    have hk2 := O.k2
    have hk3 := O.k3
    have hn1 := O.n1
    have hn4 := O.n4
    refine q_unT (ev_var rfl) h2 fun H1 e1 => ?_
    refine q_when (b := false) (et_is (et_or (et_not (et_chain ev_c (ev_var rfl) ev_c)) (fun _ => et_not (et_chain ev_c (ev_lenT (ev_var rfl) (ex_t e1 h3)) ev_c))) ?_) (fun hb => by cases hb) (fun _ H2 e2 => ?_)
    · simp
      rw [hlen]
      omega
    refine q_forTn (ev_var rfl) (ex_t (e1.trans e2) h3) (fun i σ' H' => ∃ c1 c2, σ' = [some (.ref p), some (.int (M.k : Nat)), some (.ref R), c1, c2] ∧ Ex H H') (fun H3 e3 => ⟨none, none, rfl, (e1.trans e2).trans e3⟩) (fun i σ' H' _ ⟨_, _, _, e⟩ => ex_t e h3) ?_ ?_
    · rintro i x σ' H3 hx ⟨c1, c2, rfl, e3⟩
      obtain ⟨r, hr, hrow⟩ := Paired.getL h4 hx
      have hmem := List.mem_of_getElem? hr
      have hrl := row_len O hmem
      have hrow3 := ex_row e3 hrow
      refine q_when (b := false) (et_test (ev_neRg hk3 (el_sorted (el_ent0 hrow3 (ev_var rfl) (by simp) (by omega)) (by rw [List.length_map, List.length_map, hrl]; omega) (row_perm O hmem) (rg_sorted _)) (el_listRg (ev_var rfl) (by omega)))) (fun hb => by cases hb) (fun _ H4 e4 => ?_)
      refine s_when (b := false) (et_is (et_B (ev_any (el_ent1 (n := vs.length) (ex_row e4 hrow3) (ev_var rfl) (by simp) (by omega) (fun e he => by rw [hlen]; exact O.nxt _ hmem e he) (fun x H5 e5 => ev_lenT (ev_var rfl) (ex_t ((e3.trans e4).trans e5) h3))))) ?_) (fun hb => by cases hb) (fun _ H5 e5 => ⟨_, _, rfl, (e3.trans e4).trans e5⟩)
      simp
    · rintro σ' H3 ⟨c1, c2, rfl, e3⟩
      exact s_ret ev_c fun H4 e4 => k H4 (e3.trans e4)
theorem sv_isword {v : Wd} {most : Nat} (O : M.Ok) (hm : MachAt K H mv M) (hw : WOk M v) (hl : v.length ≤ 50000) : SpV (spIsWord K) [mv, .str (enc v), .int (most : Nat)] H (.bl (decide (v.length ≤ most))) :=
  fun _ e _ q _ => ⟨M, v, most, mv, rfl, O, ex_mach e hm, hw, hl, q⟩
theorem sc__check : FnScope ["machine", "words", "word"] ["machine", "words"] (defScope s__check) := ⟨rfl, rfl, rfl, by decide +kernel, rfl, by decide +kernel, by decide +kernel⟩
theorem ok__check (T : Tx K mg) : FnOk P w K mg base CX0 2 (He.fAd K d__check.at_) (fdO K d__check) ["machine", "words"] (spCheck K) := by
  refine (F__check T).ok sc__check (fun vs H Q E h => ?_) (fun cdv A outer s H vs Q E hr h => ?_)
  · obtain ⟨_, _, _, _, rfl, _⟩ := h
    rfl
  · obtain ⟨M, ws, mv, a, rfl, O, hm, ha, hws, k⟩ := h
    refine ⟨_, PSs.nox (pss_cons (ps_if (pt_not (pt_val (pe_call (ok__is_machine T) hr rfl (T__is_machine T) (F__is_machine T).kp (b__is_machine T) .nil pass0 (pa_cons (pv 0) pa_nil)))) (pss_one ps_never) pss_nil)
      (pss_one (ps_for PassesOwn.never rfl (pi_listK (K := K) rfl (pv 1)) (pg_name (i := 2) sc__check.nd rfl (by first | exact Or.inl rfl | exact Or.inr rfl)) (pss_one (ps_if (pt_not (pt_val (pe_call (ok__is_word T) hr rfl (T__is_word T) (F__is_word T).kp (b__is_word T) .nil pass0 (pa_cons (pv 0) (pa_cons (pv 2) (pa_cons (pe_gi (T_MOST_LETTERS_certificates T)) pa_nil)))))) (pss_one ps_never) pss_nil))))), ?_⟩
    refine q_when (b := false) (et_is (et_not (et_B (ev_call (z := .bl true) (ea_cons (ev_var rfl) ea_nil) (fun _ e _ q _ => ⟨M, mv, rfl, O, ex_mach e hm, q⟩)))) rfl) (fun hb => by cases hb) (fun _ H1 e1 => ?_)
    refine s_forLn (ev_var rfl) (ex_l e1 ha) (fun i σ' H' => ∃ c, σ' = [some mv, some (.ref a), c] ∧ Ex H H') (fun H2 e2 => ⟨none, rfl, e1.trans e2⟩) (fun i σ' H' _ ⟨_, _, e⟩ => ex_l e ha) ?_ ?_
    · rintro i x σ' H2 hx ⟨c, rfl, e2⟩
      obtain ⟨v, hv, rfl⟩ := wsV_get hx
      obtain ⟨h1, h2⟩ := hws v (List.mem_of_getElem? hv)
      refine s_when (b := false) (et_is (et_not (et_B (ev_call (ea_cons (ev_var rfl) (ea_cons (ev_var rfl) (ea_cons ev_c ea_nil))) (sv_isword (most := 60) O (ex_mach e2 hm) h1 (by omega))))) ?_) (fun hb => by cases hb) (fun _ H3 e3 => ⟨_, rfl, e2.trans e3⟩)
      simp
      exact h2
    · rintro σ' H2 ⟨c, rfl, e2⟩
      exact k H2 e2
end
end LT

set_option Elab.async false
set_option linter.all false
set_option maxRecDepth 100000
set_option maxHeartbeats 4000000
/-! _is_closed, _shows_equal, _shows_apart, _changes -/
namespace LT
open PySem PySem.Spec PyProof.Rows L2 Evl
section
variable {K : PySem.W.Frag} {σ : L2.St} {H H' : Hp} {ta tb te tx : TE} {D : Ends} {tz : TS}
theorem s_asgDC {a : Addr} {L : List Wd} {j i : Nat} (h : Ev ta σ H (.ref a)) (hx : SqL K H a (wsV L)) (h8 : ∀ d ∈ L, L8 d) (hl : L.length ≤ 90000) (hj : j < σ.length)
    (k : ∀ p H2 ds, H p = none → Ex H H2 → H2 p = some (.dK (kd ds)) → (∀ x, x ∈ ds ↔ x ∈ L) → (ds.length = L.length ↔ L.Nodup) → ds.length ≤ L.length → D.nx (σ.set i (some (.ref p))) H2) :
    tAsg (tDc (iList K ta) (gName j) tYes (tVar j) (tC (.bl true)) [j]) (gName i) D σ H :=
  er_dc h hx h8 hl hj H (Ex.refl H) _ k
theorem q_asgDC {a : Addr} {L : List Wd} {j i : Nat} (h : Ev ta σ H (.ref a)) (hx : SqL K H a (wsV L)) (h8 : ∀ d ∈ L, L8 d) (hl : L.length ≤ 90000) (hj : j < σ.length)
    (k : ∀ p H2 ds, H p = none → Ex H H2 → H2 p = some (.dK (kd ds)) → (∀ x, x ∈ ds ↔ x ∈ L) → (ds.length = L.length ↔ L.Nodup) → ds.length ≤ L.length → tz D (σ.set i (some (.ref p))) H2) :
    tSeq (tAsg (tDc (iList K ta) (gName j) tYes (tVar j) (tC (.bl true)) [j]) (gName i)) tz D σ H := s_asgDC (D := { D with nx := tz D }) h hx h8 hl hj k
/-- [e for w in list of words] -/
theorem el_lcW {a : Addr} {ws : List Wd} {j : Nat} (f : Wd → V) (h : Ev ta σ H (.ref a)) (hx : SqL K H a (wsV ws)) (hn : ws.length ≤ 40000)
    (he : ∀ w H1, Ex H H1 → w ∈ ws → Ev te ((wipe σ [j]).set j (some (.str (enc w)))) H1 (f w)) : EvL (tLc (iList K ta) (gName j) tYes te [j]) σ H (ws.map f) := by
  have e : ws.map f = given (wsV ws).length (fun _ => true) (fun i => f (ws.getD i [])) := by rw [wsV_len]; exact (given_map ws [] f).symm
  rw [e]
  refine el_lcL (fun _ => true) _ h hx (by rw [wsV_len]; exact hn) (fun x => wipe_set1) (fun _ _ _ _ _ => et_yes) (fun i x H1 e1 hi _ => ?_)
  obtain ⟨w, hw, rfl⟩ := wsV_get hi
  rw [getD_of hw]
  exact he w H1 e1 (List.mem_of_getElem? hw)
end
section
variable {P : Program} {w : World} {K : PySem.W.Frag} {mg : Str → Option Value} {base : Heap} {M : Mach} {H : Hp} {mv : V}
theorem sl_sections {v : Wd} (O : M.Ok) (hm : MachAt K H mv M) (hw : WOk M v) (hl : v.length ≤ 50000) (hK : Keeps M v) : SpL (spSections K) [mv, .str (enc v)] H (wsV (secsL M v)) :=
  fun _ e _ q _ => ⟨M, v, mv, rfl, O, ex_mach e hm, hw, hl, fun _ => q, fun h => absurd hK h⟩
theorem sv_sections {v : Wd} (O : M.Ok) (hm : MachAt K H mv M) (hw : WOk M v) (hl : v.length ≤ 50000) (hK : ¬ Keeps M v) : SpV (spSections K) [mv, .str (enc v)] H .non :=
  fun _ e _ q _ => ⟨M, v, mv, rfl, O, ex_mach e hm, hw, hl, fun h => absurd h hK, fun _ => q⟩
theorem sv__cut {v : Wd} (h8 : L8 v) (hl : v.length ≤ 50000) : SpV spCut [.str (enc v)] H (.str (enc (cut v))) := sv_cut h8 hl
theorem sc__is_closed : FnScope ["machine", "words", "word", "known", "found", "section"] ["machine", "words"] (defScope s__is_closed) := ⟨rfl, rfl, rfl, by decide +kernel, rfl, by decide +kernel, by decide +kernel⟩
theorem ok__is_closed (T : Tx K mg) : FnOk P w K mg base CX0 3 (He.fAd K d__is_closed.at_) (fdO K d__is_closed) ["machine", "words"] (spIsClosed K) := by
  refine (F__is_closed T).ok sc__is_closed (fun vs H Q E h => ?_) (fun cdv A outer s H vs Q E hr h => ?_)
  · obtain ⟨_, _, _, _, rfl, _⟩ := h
    rfl
  · obtain ⟨M, ws, mv, a, rfl, O, hm, ha, hws, hlen, k⟩ := h
    refine ⟨_, PSs.nox (pss_cons (ps_set (i := 3) sc__is_closed.nd rfl (.inr rfl) (pe_dc (own := [("word", 2)]) rfl sc__is_closed.nd (pi_listK (K := K) rfl (pv 1)) (blkOk_by (own := [("word", 2)]) (N := ["machine", "words", "word", "known", "found", "section"]) (sc := defScope s__is_closed) (by decide +kernel)) (fun _ _ _ _ _ => (pg_name (i := 2) sc__is_closed.nd rfl (by first | exact Or.inl rfl | exact Or.inr rfl))) (fun _ _ _ _ _ => pts_nil) (fun _ _ _ _ _ => (pv 2)) (fun _ _ _ _ _ => pe_bl)))
      (pss_cons (ps_if (pt_cmpR op_lt (pe_callB call_lenD (by rfl) (B_len T) PySem.boot_len (pa_cons (pv 3) pa_nil)) (pe_callB (call_lenK (K := K) rfl) (by rfl) (B_len T) PySem.boot_len (pa_cons (pv 1) pa_nil)) (nomark _)) (pss_one (ps_ret pe_bl)) pss_nil)
      (pss_cons (ps_for PassesOwn.never rfl (pi_listK (K := K) rfl (pv 1)) (pg_name (i := 2) sc__is_closed.nd rfl (by first | exact Or.inl rfl | exact Or.inr rfl)) (pss_cons (ps_if (PW.pt (pw_or (pt_not (pt_val (pe_call (ok__is_word T) (hr.mono (by decide)) rfl (T__is_word T) (F__is_word T).kp (b__is_word T) .nil pass0 (pa_cons (pv 0) (pa_cons (pv 2) (pa_cons (pe_gi (T_LONGEST_certificates T)) pa_nil)))))) (pw_or1 (pt_cmpR op_ne (pe_call (ok__cut T) (hr.mono (by decide)) rfl (T__cut T) (F__cut T).kp (b__cut T) .nil pass0 (pa_cons (pv 2) pa_nil)) (pv 2) (nomark _))))) (pss_one (ps_ret pe_bl)) pss_nil)
      (pss_cons (ps_set (i := 4) sc__is_closed.nd rfl (.inl rfl) (pe_call (ok__sections T) hr rfl (T__sections T) (F__sections T).kp (b__sections T) .nil pass0 (pa_cons (pv 0) (pa_cons (pv 2) pa_nil))))
      (pss_one (ps_if (PW.pt (pw_or (pt_cmpR op_isN (pv 4) pe_non (nomark _)) (pw_or1 (pt_val (pe_callB (cr_anyK (K := K) rfl rfl) (by rfl) (B_any T) (by decide +kernel) (pa_cons (pe_lc (own := [("section", 5)]) rfl sc__is_closed.nd (pi_listK (K := K) rfl (pv 4)) (blkOk_by (own := [("section", 5)]) (N := ["machine", "words", "word", "known", "found", "section"]) (sc := defScope s__is_closed) (by decide +kernel)) (fun _ _ _ _ _ => (pg_name (i := 5) sc__is_closed.nd rfl (by first | exact Or.inl rfl | exact Or.inr rfl))) (fun _ _ _ _ _ => pts_nil) (fun _ _ _ _ _ => (pe_cmp (pc_dnotin (hu_of hr) (pv 5) (pv 3))))) pa_nil)))))) (pss_one (ps_ret pe_bl)) pss_nil)))))
      (pss_one (ps_ret pe_bl))))), ?_⟩
    have h8 : ∀ d ∈ ws, L8 d := fun d hd => (hws d hd).1.l8 O
    refine q_asgDC (ev_var rfl) ha h8 (by omega) (show 2 < 6 by decide) fun p H1 ds hp e1 h1 hmem hnd hle => ?_
    have hd8 : ∀ d ∈ ds, L8 d := fun d hd => h8 d ((hmem d).mp hd)
    refine q_when (et_test (ev_lt (ev_lenD (ev_var rfl) h1) (ev_lenL (ev_var rfl) (ex_l e1 ha)))) (fun hb H2 e2 => ?_) (fun hb H2 e2 => ?_)
    · refine s_ret ev_c fun H3 e3 => k false ⟨fun z => (by cases z), fun hc => ?_⟩ H3 ((e1.trans e2).trans e3)
      have h2 := hnd.mpr hc.1
      rw [wsV_len] at hb
      simp [h2] at hb
    · have hN : ws.Nodup := by
        rw [wsV_len] at hb
        simp at hb
        exact hnd.mp (by omega)
      refine q_forLn (ev_var rfl) (ex_l (e1.trans e2) ha) (fun i σ' H' => ∃ c1 c2, σ' = [some mv, some (.ref a), c1, some (.ref p), c2, none] ∧ Ex H H' ∧ H' p = some (.dK (kd ds)) ∧ ∀ v ∈ ws.take i, v.length ≤ 2000 ∧ cut v = v ∧ Keeps M v ∧ ∀ s ∈ secsL M v, s ∈ ws) (fun H3 e3 => ⟨none, none, rfl, (e1.trans e2).trans e3, (e2.trans e3) p _ h1, fun v hv => by simp at hv⟩) (fun i σ' H' _ ⟨_, _, _, e, _⟩ => ex_l e ha) ?_ ?_
      · rintro i x σ' H3 hx ⟨c1, c2, rfl, e3, h3, hall⟩
        obtain ⟨v, hv, rfl⟩ := wsV_get hx
        have hvm := List.mem_of_getElem? hv
        obtain ⟨hv1, hv2⟩ := hws v hvm
        have hv8 := h8 v hvm
        have hbad : (v.length ≤ 2000 ∧ cut v = v ∧ Keeps M v ∧ ∀ s ∈ secsL M v, s ∈ ws) ∨ ¬ IsCl M ws := by
          by_cases q : (v.length ≤ 2000 ∧ cut v = v ∧ Keeps M v ∧ ∀ s ∈ secsL M v, s ∈ ws)
          · exact .inl q
          · exact .inr fun hc => q (hc.2 v hvm)
        refine q_when (et_or (et_not (et_B (ev_call (ea_cons (ev_var rfl) (ea_cons (ev_var rfl) (ea_cons ev_c ea_nil))) (sv_isword (most := 2000) O (ex_mach e3 hm) hv1 hv2)))) (fun _ => et_ne (ev_call (ea_cons (ev_var rfl) ea_nil) (sv_cut hv8 hv2)) (ev_var rfl) rfl)) (fun hb H4 e4 => ?_) (fun hb H4 e4 => ?_)
        · refine s_ret ev_c fun H5 e5 => k false ⟨fun z => (by cases z), fun hc => ?_⟩ H5 ((e3.trans e4).trans e5)
          obtain ⟨q1, q2, _⟩ := hc.2 v hvm
          rw [q2] at hb
          simp at hb
          omega
        · simp at hb
          obtain ⟨hb1, hb2⟩ := hb
          have hcut : cut v = v := (enc_inj hv8.cut hv8).mp hb2
          by_cases hK : Keeps M v
          · refine q_asgL (el_call (ea_cons (ev_var rfl) (ea_cons (ev_var rfl) ea_nil)) (sl_sections O (ex_mach (e3.trans e4) hm) hv1 hv2 hK)) fun q H5 hq e5 h5 => ?_
            have hsok := secsL_ok O hv1
            refine s_when (et_or (et_test (ev_isN (ev_var rfl))) (fun _ => et_B (ev_any (bs := (secsL M v).map fun s => !decide (s ∈ ds)) ?_))) (fun hb H6 e6 => ?_) (fun hb H6 e6 => ?_)
            · rw [List.map_map]
              refine el_lcW _ (ev_var rfl) (sq_of h5) (by rw [secsL_len]; have := O.k3; omega) (fun s H6 e6 hs => ?_)
              exact ev_dnotin (ev_var rfl) (ev_var rfl) (((e4.trans e5).trans e6) p _ h3) ((hsok s hs).1.l8 O) hd8
            · refine s_ret ev_c fun H7 e7 => k false ⟨fun z => (by cases z), fun hc => ?_⟩ H7 ((((e3.trans e4).trans e5).trans e6).trans e7)
              obtain ⟨_, _, _, q4⟩ := hc.2 v hvm
              simp at hb
              obtain ⟨s, hs, hs2⟩ := hb
              exact absurd ((hmem s).mpr (q4 s hs)) hs2
            · refine ⟨_, _, rfl, ((e3.trans e4).trans e5).trans e6, ((e4.trans e5).trans e6) p _ h3, fun u hu => ?_⟩
              rw [take_succ hv, List.mem_append] at hu
              rcases hu with hu | hu
              · exact hall u hu
              · simp at hu
                subst hu
                simp at hb
                exact ⟨hb1, hcut, hK, fun s hs => (hmem s).mp (hb s hs)⟩
          · refine q_asg (ev_call (ea_cons (ev_var rfl) (ea_cons (ev_var rfl) ea_nil)) (sv_sections O (ex_mach (e3.trans e4) hm) hv1 hv2 hK)) fun H5 e5 => ?_
            refine s_when (b := true) (et_is (et_or (b := false) (et_test (ev_isN (ev_var rfl))) (fun z => by simp at z)) rfl) (fun _ H6 e6 => ?_) (fun hb => by cases hb)
            refine s_ret ev_c fun H7 e7 => k false ⟨fun z => (by cases z), fun hc => absurd (hc.2 v hvm).2.2.1 hK⟩ H7 ((((e3.trans e4).trans e5).trans e6).trans e7)
      · rintro σ' H3 ⟨c1, c2, rfl, e3, h3, hall⟩
        rw [wsV_len, List.take_length] at hall
        exact s_ret ev_c fun H4 e4 => k true ⟨fun _ => ⟨hN, hall⟩, fun _ => rfl⟩ H4 (e3.trans e4)
/-- a call whose answer is a truth value known by what it tells -/
theorem sv_isClosed {ws : List Wd} {a : Addr} {b : Bool} (O : M.Ok) (hm : MachAt K H mv M) (ha : SqL K H a (wsV ws)) (hws : ∀ w ∈ ws, WOk M w ∧ w.length ≤ 50000) (hl : ws.length ≤ 50000) (hb : b = true ↔ IsCl M ws) : SpV (spIsClosed K) [mv, .ref a] H (.bl b) :=
  fun _ e _ q _ => ⟨M, ws, mv, a, rfl, O, ex_mach e hm, ex_l e ha, hws, hl, fun b' hb' => by
    have : b' = b := by
      cases b <;> cases b' <;> simp_all
    subst this
    exact q⟩
theorem ev_inW {σ : L2.St} {ta tb : TE} {x : Wd} {a : Addr} {ws : List Wd} (hx : Ev ta σ H (.str (enc x))) (ha : Ev tb σ H (.ref a)) (h : SqL K H a (wsV ws)) (h8 : L8 x) (hs : ∀ w ∈ ws, L8 w) : Ev (tOp (rIn K false) ta tb) σ H (.bl (decide (x ∈ ws))) :=
  ev_is (ev_op hx ha (rv_isL h rfl (flat_wsV ws))) (congrArg V.bl (inV_wsV h8 hs))
theorem ev_ninW {σ : L2.St} {ta tb : TE} {x : Wd} {a : Addr} {ws : List Wd} (hx : Ev ta σ H (.str (enc x))) (ha : Ev tb σ H (.ref a)) (h : SqL K H a (wsV ws)) (h8 : L8 x) (hs : ∀ w ∈ ws, L8 w) : Ev (tOp (rIn K true) ta tb) σ H (.bl (!decide (x ∈ ws))) :=
  ev_is (ev_op hx ha (rv_niL h rfl (flat_wsV ws))) (congrArg V.bl (by rw [inV_wsV h8 hs]))
theorem sc__shows_equal : FnScope ["machine", "one", "other", "words"] ["machine", "one", "other", "words"] (defScope s__shows_equal) := ⟨rfl, rfl, rfl, by decide +kernel, rfl, by decide +kernel, by decide +kernel⟩
theorem ok__shows_equal (T : Tx K mg) : FnOk P w K mg base CX0 4 (He.fAd K d__shows_equal.at_) (fdO K d__shows_equal) ["machine", "one", "other", "words"] (spShowsEq K) := by
  refine (F__shows_equal T).ok sc__shows_equal (fun vs H Q E h => ?_) (fun cdv A outer s H vs Q E hr h => ?_)
  · obtain ⟨_, _, _, _, _, _, rfl, _⟩ := h
    rfl
  · obtain ⟨M, u, v, ws, mv, a, rfl, O, hm, hu, hv, hul, hvl, ha, hws, hlen, k⟩ := h
    refine ⟨_, PSs.nox (pss_one (ps_ret (pe_and (pe_cmpR (op_in_seqK (K := K) rfl) (pe_call (ok__cut T) (hr.mono (by decide)) rfl (T__cut T) (F__cut T).kp (b__cut T) .nil pass0 (pa_cons (pe_op op_add_str (pv 1) (pe_call (ok__undone T) (hr.mono (by decide)) rfl (T__undone T) (F__undone T).kp (b__undone T) .nil pass0 (pa_cons (pv 2) pa_nil))) pa_nil)) (pv 3) rfl) (pe_one (pe_call (ok__is_closed T) hr rfl (T__is_closed T) (F__is_closed T).kp (b__is_closed T) .nil pass0 (pa_cons (pv 0) (pa_cons (pv 3) pa_nil))))))), ?_⟩
    have hs8 : ∀ d ∈ ws, L8 d := fun d hd => (hws d hd).1.l8 O
    have hu8 := hu.l8 O
    have hv8 := hv.l8 O
    have hul2 := und_length v
    by_cases hc : IsCl M ws
    · refine s_ret (ev_andV (ev_inW (ev_call (ea_cons (ev_addW (ev_var rfl) (ev_call (ea_cons (ev_var rfl) ea_nil) (sv_und hv8 (by omega))) (by rw [und_length]; omega)) ea_nil) (sv_cut (hu8.append hv8.und) (by rw [List.length_append, und_length]; omega))) (ev_var rfl) ha (hu8.append hv8.und).cut hs8) (fun _ => ev_call (ea_cons (ev_var rfl) (ea_cons (ev_var rfl) ea_nil)) (sv_isClosed (b := true) O hm ha hws hlen ⟨fun _ => hc, fun _ => rfl⟩))) (k _ ?_)
      simp
      exact fun _ => hc
    · refine s_ret (ev_andV (ev_inW (ev_call (ea_cons (ev_addW (ev_var rfl) (ev_call (ea_cons (ev_var rfl) ea_nil) (sv_und hv8 (by omega))) (by rw [und_length]; omega)) ea_nil) (sv_cut (hu8.append hv8.und) (by rw [List.length_append, und_length]; omega))) (ev_var rfl) ha (hu8.append hv8.und).cut hs8) (fun _ => ev_call (ea_cons (ev_var rfl) (ea_cons (ev_var rfl) ea_nil)) (sv_isClosed (b := false) O hm ha hws hlen ⟨fun z => (by cases z), fun z => absurd z hc⟩))) (k _ ?_)
      simp
      exact fun _ => hc
theorem sv_hasd {s : List Nat} (O : M.Ok) (hm : MachAt K H mv M) (hs : SOk M s) (hl : s.length ≤ 50000) : SpV (spHasD K) [mv, .str (encD s)] H (.bl true) := fun _ e _ q _ => ⟨M, s, mv, rfl, O, ex_mach e hm, hs, hl, q⟩
theorem sc__shows_apart : FnScope ["machine", "one", "other", "string"] ["machine", "one", "other", "string"] (defScope s__shows_apart) := ⟨rfl, rfl, rfl, by decide +kernel, rfl, by decide +kernel, by decide +kernel⟩
theorem ok__shows_apart (T : Tx K mg) : FnOk P w K mg base CX0 3 (He.fAd K d__shows_apart.at_) (fdO K d__shows_apart) ["machine", "one", "other", "string"] (spShowsAp K) := by
  refine (F__shows_apart T).ok sc__shows_apart (fun vs H Q E h => ?_) (fun cdv A outer s H vs Q E hr h => ?_)
  · obtain ⟨_, _, _, _, _, rfl, _⟩ := h
    rfl
  · obtain ⟨M, u, v, s0, mv, rfl, O, hm, hu, hv, hul, hvl, hs, hl, k⟩ := h
    refine ⟨_, PSs.nox (pss_cons (ps_if (pt_not (pt_val (pe_call (ok__has_digits T) (hr.mono (by decide)) rfl (T__has_digits T) (F__has_digits T).kp (b__has_digits T) .nil pass0 (pa_cons (pv 0) (pa_cons (pv 3) pa_nil))))) (pss_one (ps_ret pe_bl)) pss_nil)
      (pss_one (ps_ret (pe_cmpR op_ne (pe_ix (ix_tupK (K := K) rfl) (pe_call (ok__moved T) hr rfl (T__moved T) (F__moved T).kp (b__moved T) .nil pass0 (pa_cons (pv 0) (pa_cons (pv 1) (pa_cons (pv 3) pa_nil)))) pe_int (fun _ _ => rfl)) (pe_ix (ix_tupK (K := K) rfl) (pe_call (ok__moved T) hr rfl (T__moved T) (F__moved T).kp (b__moved T) .nil pass0 (pa_cons (pv 0) (pa_cons (pv 2) (pa_cons (pv 3) pa_nil)))) pe_int (fun _ _ => rfl)) (nomark _))))), ?_⟩
    refine q_when (b := false) (et_is (et_not (et_B (ev_call (ea_cons (ev_var rfl) (ea_cons (ev_var rfl) ea_nil)) (sv_hasd O hm hs hl)))) rfl) (fun hb => by cases hb) (fun _ H1 e1 => ?_)
    refine s_ret (ev_ne (ev_ixU (eu_call (ea_cons (ev_var rfl) (ea_cons (ev_var rfl) (ea_cons (ev_var rfl) ea_nil))) (sv_moved O (ex_mach e1 hm) hu hs (by omega) hl)) (fun _ _ => ev_c) rfl) (ev_ixU (eu_call (ea_cons (ev_var rfl) (ea_cons (ev_var rfl) (ea_cons (ev_var rfl) ea_nil))) (sv_moved O (ex_mach e1 hm) hv hs (by omega) hl)) (fun _ _ => ev_c) rfl) rfl) fun H2 e2 => k _ ?_ H2 (e1.trans e2)
    simp [encD_inj]
theorem sc__changes : FnScope ["machine", "word", "times", "string", "here", "_"] ["machine", "word", "times", "string"] (defScope s__changes) := ⟨rfl, rfl, rfl, by decide +kernel, rfl, by decide +kernel, by decide +kernel⟩
theorem ok__changes (T : Tx K mg) : FnOk P w K mg base CX0 3 (He.fAd K d__changes.at_) (fdO K d__changes) ["machine", "word", "times", "string"] (spChanges K) := by
  refine (F__changes T).ok sc__changes (fun vs H Q E h => ?_) (fun cdv A outer s H vs Q E hr h => ?_)
  · obtain ⟨_, _, _, _, _, rfl, _⟩ := h
    rfl
  · obtain ⟨M, u, n, s0, mv, rfl, O, hm, hu, hul, hn, hs, hl, k⟩ := h
    refine ⟨_, PSs.nox (pss_cons (ps_set (i := 4) sc__changes.nd rfl (.inl rfl) (pv 3))
      (pss_cons (ps_for PassesOwn.never rfl (pi_range1 rfl (B_range T) (pa_cons (pv 2) pa_nil)) (pg_name (i := 5) sc__changes.nd rfl (by first | exact Or.inl rfl | exact Or.inr rfl)) (pss_one (ps_set (i := 4) sc__changes.nd rfl (.inl rfl) (pe_ix (ix_tupK (K := K) rfl) (pe_call (ok__moved T) hr rfl (T__moved T) (F__moved T).kp (b__moved T) .nil pass0 (pa_cons (pv 0) (pa_cons (pv 1) (pa_cons (pv 4) pa_nil)))) pe_int (fun _ _ => rfl)))))
      (pss_one (ps_ret (pe_cmpR op_ne (pv 4) (pv 3) (nomark _)))))), ?_⟩
    refine q_asg (ev_var rfl) fun H1 e1 => ?_
    refine q_forR1 (n := (n : Nat)) (ea_cons (ev_var rfl) ea_nil) (by omega) (fun i σ' H' => ∃ c, σ' = [some mv, some (.str (enc u)), some (.int (n : Nat)), some (.str (encD s0)), some (.str (encD (iter M u i s0))), c] ∧ Ex H H') (fun H2 e2 => ⟨none, rfl, e1.trans e2⟩) ?_ ?_
    · rintro i σ' H2 hi ⟨c, rfl, e2⟩
      have hio := iter_ok O hu i hs
      have hil := iter_len M u i s0
      rw [iter_snoc]
      refine s_asg (ev_ixU (eu_call (ea_cons (ev_var rfl) (ea_cons (ev_var rfl) (ea_cons (ev_var rfl) ea_nil))) (sv_moved O (ex_mach e2 hm) hu hio (by omega) (by omega))) (fun _ _ => ev_c) rfl) fun H3 e3 => ⟨_, rfl, e2.trans e3⟩
    · rintro σ' H2 ⟨c, rfl, e2⟩
      have e0 : ((n : Nat) : Int).toNat = n := by omega
      rw [e0]
      refine s_ret (ev_ne (ev_var rfl) (ev_var rfl) rfl) fun H3 e3 => k _ ?_ H3 (e2.trans e3)
      simp [encD_inj]
end
end LT

set_option Elab.async false
set_option linter.all false
set_option maxRecDepth 100000
set_option maxHeartbeats 4000000
/-! _primes, prime_divisors -/
namespace LT
open PySem PySem.Spec PyProof.Rows L2 Evl
def nsV (L : List Nat) : List V := L.map fun d => V.int (d : Nat)
theorem nsV_len (L : List Nat) : (nsV L).length = L.length := by simp [nsV]
theorem nsV_snoc (L : List Nat) (d : Nat) : nsV L ++ [V.int (d : Nat)] = nsV (L ++ [d]) := by simp [nsV]
theorem nsV_get {L : List Nat} {i : Nat} {x : V} (h : (nsV L)[i]? = some x) : ∃ d, L[i]? = some d ∧ x = .int (d : Nat) := by
  simp only [nsV, List.getElem?_map, Option.map_eq_some_iff] at h
  obtain ⟨w, h1, h2⟩ := h
  exact ⟨w, h1, h2.symm⟩
theorem euclid {q a b : Nat} (h : Prime q) (hd : q ∣ a * b) : q ∣ a ∨ q ∣ b := by
  rcases h.2 (Nat.gcd q a) (Nat.gcd_dvd_left q a) with e | e
  · exact .inr (Nat.Coprime.dvd_of_dvd_mul_left e hd)
  · left
    rw [← e]
    exact Nat.gcd_dvd_right q a
structure PI (n m q : Nat) (L : List Nat) : Prop where
  m1 : 1 ≤ m
  mn : m ≤ n
  q2 : 2 ≤ q
  qn : q ≤ n + 1
  all : ∀ r, Prime r → r ∣ n → r ∈ L ∨ r ∣ m
  low : ∀ r, Prime r → r ∣ m → q ≤ r
  mem : ∀ x ∈ L, 2 ≤ x ∧ x ≤ n
  len : L.length + 2 ≤ q
structure PJ (n m q : Nat) (L : List Nat) : Prop where
  m1 : 1 ≤ m
  mn : m ≤ n
  q2 : 2 ≤ q
  qn : q ≤ n
  all : ∀ r, Prime r → r ∣ n → r ∈ L ∨ r ∣ m
  low : ∀ r, Prime r → r ∣ m → q ≤ r
  mem : ∀ x ∈ L, 2 ≤ x ∧ x ≤ n
  len : L.length + 1 ≤ q
theorem PI.start {n : Nat} (h : 1 ≤ n) : PI n n 2 [] := ⟨h, Nat.le_refl _, Nat.le_refl _, by omega, fun r _ h => .inr h, fun r h _ => h.1, fun x hx => by simp at hx, by simp⟩
theorem PI.qm {n m q : Nat} {L : List Nat} (p : PI n m q L) (h : 1 < m) : q ≤ m := by
  obtain ⟨r, h1, h2⟩ := exists_prime m h
  exact Nat.le_trans (p.low r h1 h2) (Nat.le_of_dvd (by omega) h2)
theorem PI.skip {n m q : Nat} {L : List Nat} (p : PI n m q L) (h : 1 < m) (hd : ¬ q ∣ m) : PI n m (q + 1) L :=
  ⟨p.m1, p.mn, by have := p.q2; omega, by have := p.qm h; have := p.mn; omega, p.all, fun r h1 h2 => by
    have := p.low r h1 h2
    have h3 : q ≠ r := fun e => hd (e ▸ h2)
    omega, p.mem, by have := p.len; omega⟩
theorem PI.take {n m q : Nat} {L : List Nat} (p : PI n m q L) (h : 1 < m) : PJ n m q (L ++ [q]) :=
  ⟨p.m1, p.mn, p.q2, by have := p.qm h; have := p.mn; omega, fun r h1 h2 => (p.all r h1 h2).imp (fun z => List.mem_append.mpr (.inl z)) id, p.low, fun x hx => by
    rcases List.mem_append.mp hx with z | z
    · exact p.mem x z
    · simp at z
      subst z
      have := p.qm h
      have := p.mn
      exact ⟨p.q2, by omega⟩, by simp; exact p.len⟩
theorem PJ.div {n m q : Nat} {L : List Nat} (p : PJ n m q L) (hq : q ∈ L) (hd : q ∣ m) : PJ n (m / q) q L := by
  obtain ⟨c, rfl⟩ := hd
  have hq0 : 0 < q := by have := p.q2; omega
  rw [Nat.mul_div_cancel_left c hq0]
  have hc : 1 ≤ c := by
    rcases Nat.eq_zero_or_pos c with z | z
    · subst z
      have := p.m1
      omega
    · exact z
  have hle : c ≤ q * c := Nat.le_mul_of_pos_left c hq0
  refine ⟨hc, Nat.le_trans hle p.mn, p.q2, p.qn, fun r h1 h2 => ?_, fun r h1 h2 => p.low r h1 (Nat.dvd_trans h2 (Nat.dvd_mul_left c q)), p.mem, p.len⟩
  rcases p.all r h1 h2 with z | z
  · exact .inl z
  · rcases euclid h1 z with y | y
    · left
      have h3 := p.low r h1 z
      have h4 := Nat.le_of_dvd hq0 y
      have : r = q := Nat.le_antisymm h4 h3
      rw [this]
      exact hq
    · exact .inr y
theorem PJ.next {n m q : Nat} {L : List Nat} (p : PJ n m q L) (hd : ¬ q ∣ m) : PI n m (q + 1) L :=
  ⟨p.m1, p.mn, by have := p.q2; omega, by have := p.qn; omega, p.all, fun r h1 h2 => by
    have := p.low r h1 h2
    have h3 : q ≠ r := fun e => hd (e ▸ h2)
    omega, p.mem, by have := p.len; omega⟩
theorem divtest {m q : Nat} (hq : 0 < q) : (((m : Nat) : Int) / ((q : Nat) : Int) * ((q : Nat) : Int) = ((m : Nat) : Int)) ↔ q ∣ m := by
  constructor
  · intro h
    have : (q : Int) ∣ (m : Int) := ⟨(m : Int) / (q : Int), by rw [Int.mul_comm]; exact h.symm⟩
    exact Int.natCast_dvd_natCast.mp this
  · intro h
    exact Int.ediv_mul_cancel (Int.natCast_dvd_natCast.mpr h)
theorem div_lt {m q : Nat} (hm : 1 ≤ m) (hq : 2 ≤ q) : m / q < m := Nat.div_lt_self (by omega) (by omega)
def spPrimes (K : PySem.W.Frag) : Sp := fun vs H Q _ => ∃ n : Nat, vs = [.int (n : Nat)] ∧ 1 ≤ n ∧ n ≤ 1000 ∧ ∀ L : List Nat, (∀ r, Prime r → r ∣ n → r ∈ L) → (∀ x ∈ L, 2 ≤ x ∧ x ≤ n) → L.length ≤ 1000 → RetL (nsV L) H Q
section
variable {P : Program} {w : World} {K : PySem.W.Frag} {mg : Str → Option Value} {base : Heap} {M : Mach} {H : Hp} {mv : V}
theorem et_divs {σ : L2.St} {m q : Nat} {i j : Nat} (h0 : σ[i]? = some (some (.int (m : Nat)))) (h1 : σ[j]? = some (some (.int (q : Nat)))) (hq : 2 ≤ q ∧ q ≤ 1001) :
    EvT (tTest (tOp rEq (tOp (rI CMul fun i j => .int (i * j)) (tOp (rI CDiv fun i j => .int (i / j)) (tVar i) (tVar j)) (tVar j)) (tVar i))) σ H (decide (q ∣ m)) :=
  et_is (et_eq (ev_mul (ev_div (ev_var h0) (ev_var h1) (by omega)) (ev_var h1) (by unfold CMul; omega)) (ev_var h0) rfl) (by
    rw [decide_eq_decide, V.int.injEq]
    exact divtest (by omega))
theorem sc__primes : FnScope ["number", "found", "prime"] ["number"] (defScope s__primes) := ⟨rfl, rfl, rfl, by decide +kernel, rfl, by decide +kernel, by decide +kernel⟩
theorem ok__primes (T : Tx K mg) : FnOk P w K mg base CX0 1 (He.fAd K d__primes.at_) (fdO K d__primes) ["number"] (spPrimes K) := by
  refine (F__primes T).ok sc__primes (fun vs H Q E h => ?_) (fun cdv A outer s H vs Q E hr h => ?_)
  · obtain ⟨_, rfl, _⟩ := h
    rfl
  · obtain ⟨n, rfl, hn1, hn, k⟩ := h
    refine ⟨_, PSs.nox (pss_cons (ps_set (i := 1) sc__primes.nd rfl (.inl rfl) (pe_lst pa_nil))
      (pss_cons (ps_set (i := 2) sc__primes.nd rfl (.inl rfl) pe_int)
      (pss_cons (ps_while PassesOwn.never (pt_cmpR op_gt (pv 0) pe_int (nomark _)) (pss_cons (ps_if (pt_cmpR op_eq (pe_op op_mul (pe_op op_fdiv (pv 0) (pv 2)) (pv 2)) (pv 0) (nomark _)) (pss_cons (ps_expr (pe_bmK (K := K) rfl PySem.F.plainAttrs_list PySem.F.slot_list_append PySem.F.type_list_append mt_append (pv 1) (pa_cons (pv 2) pa_nil)))
      (pss_one (ps_while PassesOwn.never (pt_cmpR op_eq (pe_op op_mul (pe_op op_fdiv (pv 0) (pv 2)) (pv 2)) (pv 0) (nomark _)) (pss_one (ps_set (i := 0) sc__primes.nd rfl (.inl rfl) (pe_op op_fdiv (pv 0) (pv 2))))))) pss_nil)
      (pss_one (ps_aug (i := 2) sc__primes.nd rfl (.inl rfl) pe_int ip_add))))
      (pss_one (ps_ret (pv 1)))))), ?_⟩
    refine q_asgL (el_lst ea_nil le0) fun p H1 hp e1 h1 => ?_
    refine q_asg ev_c fun H2 e2 => ?_
    refine q_while (fun k σ' H' => ∃ (m q : Nat) (L : List Nat), σ' = [some (.int (m : Nat)), some (.ref p), some (.int (q : Nat))] ∧ Ex H H' ∧ H' p = some (.lst (nsV L)) ∧ PI n m q L ∧ k = n + 2 - q) n ⟨n, 2, [], rfl, e1.trans e2, e2 p _ h1, PI.start hn1, rfl⟩ ?_
    rintro kk σ' H3 ⟨m, q, L, rfl, e3, h3, hI, rfl⟩
    have hq2 := hI.q2
    have hqn := hI.qn
    have hlen := hI.len
    refine ⟨_, et_test (ev_gt (ev_var rfl) ev_c), fun hb H4 e4 => ?_, fun hb H4 e4 => ?_⟩
    · have hm : 1 < m := by simp at hb; omega
      have hqm := hI.qm hm
      have hmn := hI.mn
      refine ⟨fun σ2 H5 => ∃ (m' : Nat) (L' : List Nat), σ2 = [some (.int (m' : Nat)), some (.ref p), some (.int ((q + 1 : Nat) : Nat))] ∧ Ex H H5 ∧ H5 p = some (.lst (nsV L')) ∧ PI n m' (q + 1) L', fun σ2 H5 ⟨m', L', e, e5, h5, hI'⟩ => ⟨n + 2 - (q + 1), by omega, m', q + 1, L', e, e5, h5, hI', rfl⟩, ?_⟩
      refine q_when (et_divs rfl rfl ⟨hq2, by omega⟩) (fun hb H5 e5 => ?_) (fun hb H5 e5 => ?_)
      · have hd : q ∣ m := by simpa using hb
        refine q_app ((e4.trans e5) p _ h3) (ev_var rfl) (ev_var rfl) (by rw [nsV_len]; omega) fun H6 e6 => ?_
        rw [nsV_snoc]
        refine s_while (fun j σ' H' => ∃ m' : Nat, σ' = [some (.int (m' : Nat)), some (.ref p), some (.int (q : Nat))] ∧ Ex H H' ∧ H' p = some (.lst (nsV (L ++ [q]))) ∧ PJ n m' q (L ++ [q]) ∧ j = m') m ⟨m, rfl, Ex.mut (((e3.trans e4).trans e5).trans e6) hp, upd_same, hI.take hm, rfl⟩ ?_
        rintro j σ' H7 ⟨m', rfl, e7, h7, hJ, rfl⟩
        refine ⟨_, et_divs rfl rfl ⟨hq2, by omega⟩, fun hb2 H8 e8 => ?_, fun hb2 H8 e8 => ?_⟩
        · have hd2 : q ∣ j := by simpa using hb2
          refine ⟨fun σ2 H9 => σ2 = [some (.int ((j / q : Nat) : Nat)), some (.ref p), some (.int (q : Nat))] ∧ Ex H H9 ∧ H9 p = some (.lst (nsV (L ++ [q]))), fun σ2 H9 ⟨a, b, c⟩ => ⟨j / q, div_lt hJ.m1 hq2, j / q, a, b, c, hJ.div (by simp) hd2, rfl⟩, ?_⟩
          exact s_asg (ev_div (ev_var rfl) (ev_var rfl) (by omega)) fun H9 e9 => ⟨rfl, (e7.trans e8).trans e9, (e8.trans e9) p _ h7⟩
        · have hd2 : ¬ q ∣ j := by simpa using hb2
          exact s_aug (a := (q : Nat)) rfl ev_c fun H9 e9 => ⟨j, L ++ [q], rfl, (e7.trans e8).trans e9, (e8.trans e9) p _ h7, hJ.next hd2⟩
      · have hd : ¬ q ∣ m := by simpa using hb
        exact s_aug (a := (q : Nat)) rfl ev_c fun H9 e9 => ⟨m, L, rfl, ((e3.trans e4).trans e5).trans e9, ((e4.trans e5).trans e9) p _ h3, hI.skip hm hd⟩
    · have hm : m = 1 := by have := hI.m1; simp at hb; omega
      refine s_ret (ev_var rfl) fun H5 e5 => k L (fun r h1 h2 => ?_) hI.mem (by omega) p H5 hp ((e3.trans e4).trans e5) ((e4.trans e5) p _ h3)
      rcases hI.all r h1 h2 with z | z
      · exact z
      · rw [hm] at z
        have := Nat.le_of_dvd (by omega) z
        have := h1.1
        omega
end
end LT

set_option Elab.async false
set_option linter.all false
set_option maxRecDepth 100000
set_option maxHeartbeats 4000000
/-! _is_finite, _rests -/
namespace LT
open PySem PySem.Spec PyProof.Rows L2 Evl
def ssV (L : List (List Nat)) : List V := L.map fun s => V.str (encD s)
theorem ssV_len (L : List (List Nat)) : (ssV L).length = L.length := by simp [ssV]
theorem ssV_get {L : List (List Nat)} {i : Nat} {x : V} (h : (ssV L)[i]? = some x) : ∃ s, L[i]? = some s ∧ x = .str (encD s) := by
  simp only [ssV, List.getElem?_map, Option.map_eq_some_iff] at h
  obtain ⟨w, h1, h2⟩ := h
  exact ⟨w, h1, h2.symm⟩
theorem exB (p : Prop) : ∃ b : Bool, b = true ↔ p := by
  classical
  exact ⟨decide p, by simp⟩
def spIsFin (K : PySem.W.Frag) : Sp := fun vs H Q _ => ∃ (M : Mach) (u : Wd) (n : Nat) (ws : List Wd) (ss : List (List Nat)) (mv : V) (a b : Addr), vs = [mv, .str (enc u), .int (n : Nat), .ref a, .ref b] ∧ M.Ok ∧ MachAt K H mv M ∧ WOk M u ∧ u.length ≤ 60 ∧ 1 ≤ n ∧ n ≤ 200 ∧
  SqL K H a (wsV ws) ∧ (∀ w ∈ ws, WOk M w ∧ w.length ≤ 50000) ∧ ws.length ≤ 50000 ∧ SqL K H b (ssV ss) ∧ (∀ s ∈ ss, SOk M s ∧ s.length ≤ 50000) ∧ ∀ r : Bool, (r = true → Order M u n) → RetV (.bl r) H Q
structure RI (M : Mach) (v : Wd) (ds qs : List Wd) (x : Wd) : Prop where
  ok : ∀ d ∈ ds, WOk M d ∧ d.length ≤ v.length
  top : v ∈ ds
  sub : ∀ q ∈ qs, q ∈ ds
  cl : ∀ d ∈ ds, d ∈ qs ∨ d = x ∨ (Keeps M d ∧ ∀ s ∈ secsL M d, s ∈ ds)
  xin : x ∈ ds
  qd : qs.length ≤ ds.length
theorem RI.add {M : Mach} {v : Wd} {ds qs : List Wd} {x s : Wd} (h : RI M v ds qs x) (hs : WOk M s ∧ s.length ≤ v.length) : RI M v (ds ++ [s]) (qs ++ [s]) x := by
  refine ⟨fun d hd => ?_, List.mem_append.mpr (.inl h.top), fun q hq => ?_, fun d hd => ?_, List.mem_append.mpr (.inl h.xin), by have := h.qd; simp; omega⟩
  · rcases List.mem_append.mp hd with z | z
    · exact h.ok d z
    · simp at z; subst z; exact hs
  · rcases List.mem_append.mp hq with z | z
    · exact List.mem_append.mpr (.inl (h.sub q z))
    · exact List.mem_append.mpr (.inr z)
  · rcases List.mem_append.mp hd with z | z
    · rcases h.cl d z with y | y | ⟨y1, y2⟩
      · exact .inl (List.mem_append.mpr (.inl y))
      · exact .inr (.inl y)
      · exact .inr (.inr ⟨y1, fun s hs => List.mem_append.mpr (.inl (y2 s hs))⟩)
    · exact .inl (List.mem_append.mpr (.inr z))
def spRests (K : PySem.W.Frag) : Sp := fun vs H Q _ => ∃ (M : Mach) (u : Wd) (mv : V), vs = [mv, .str (enc u)] ∧ M.Ok ∧ MachAt K H mv M ∧ WOk M u ∧ u.length ≤ 50000 ∧ ∀ r : Bool, (r = true → Rest M u) → RetV (.bl r) H Q
theorem wsV_last {qs : List Wd} (h : qs ≠ []) : ∃ x r, qs = r ++ [x] ∧ (wsV qs)[(wsV qs).length - 1]? = some (.str (enc x)) ∧ (wsV qs).dropLast = wsV r := by
  refine ⟨qs.getLast h, qs.dropLast, (List.dropLast_concat_getLast h).symm, ?_, ?_⟩
  · have e : qs = qs.dropLast ++ [qs.getLast h] := (List.dropLast_concat_getLast h).symm
    have hl : qs.length ≠ 0 := fun z => h (List.length_eq_zero_iff.mp z)
    rw [wsV_len]
    refine wsV_at ?_
    rw [← List.getLast?_eq_getElem?, List.getLast?_eq_some_getLast h]
  · simp [wsV, List.map_dropLast]
section
variable {P : Program} {w : World} {K : PySem.W.Frag} {mg : Str → Option Value} {base : Heap} {M : Mach} {H : Hp} {mv : V}
theorem sr_primes {n : Nat} (h1 : 1 ≤ n) (h2 : n ≤ 1000) : SpR (spPrimes K) [.int (n : Nat)] H (fun v H' => ∃ (L : List Nat) (p : Addr), v = .ref p ∧ H' p = some (.lst (nsV L)) ∧ (∀ r, Prime r → r ∣ n → r ∈ L) ∧ (∀ x ∈ L, 2 ≤ x ∧ x ≤ n) ∧ L.length ≤ 1000) :=
  fun _ e _ q _ => ⟨n, rfl, h1, h2, fun L a b c p H2 _ e2 hl => q _ H2 e2 ⟨L, p, rfl, hl, a, b, c⟩⟩
theorem sv_isstr {s : List Nat} (O : M.Ok) (hm : MachAt K H mv M) (hs : SOk M s) (hl : s.length ≤ 50000) : SpV (spIsStr K) [mv, .str (encD s)] H (.bl (decide (s.length ≤ 60))) := fun _ e _ q _ => ⟨M, s, mv, rfl, O, ex_mach e hm, hs, hl, q⟩
theorem sv_changes {u : Wd} {n : Nat} {s : List Nat} {b : Bool} (O : M.Ok) (hm : MachAt K H mv M) (hu : WOk M u) (hl : u.length ≤ 60) (hn : n ≤ 1000) (hs : SOk M s) (hsl : s.length ≤ 50000) (hb : b = true ↔ iter M u n s ≠ s) : SpV (spChanges K) [mv, .str (enc u), .int (n : Nat), .str (encD s)] H (.bl b) :=
  fun _ e _ q _ => ⟨M, u, n, s, mv, rfl, O, ex_mach e hm, hu, hl, hn, hs, hsl, fun b' hb' => by
    have : b' = b := by
      cases b <;> cases b' <;> simp_all
    subst this
    exact q⟩
theorem sc__is_finite : FnScope ["machine", "word", "n", "words", "strings", "primes", "prime", "string"] ["machine", "word", "n", "words", "strings"] (defScope s__is_finite) := ⟨rfl, rfl, rfl, by decide +kernel, rfl, by decide +kernel, by decide +kernel⟩
theorem ok__is_finite (T : Tx K mg) : FnOk P w K mg base CX0 4 (He.fAd K d__is_finite.at_) (fdO K d__is_finite) ["machine", "word", "n", "words", "strings"] (spIsFin K) := by
  refine (F__is_finite T).ok sc__is_finite (fun vs H Q E h => ?_) (fun cdv A outer s H vs Q E hr h => ?_)
  · obtain ⟨_, _, _, _, _, _, _, _, rfl, _⟩ := h
    rfl
  · obtain ⟨M, u, n, ws, ss, mv, a, b, rfl, O, hm, hu, hul, hn1, hn2, ha, hws, hwl, hb0, hss, k⟩ := h
    refine ⟨_, PSs.nox (pss_cons (ps_if (PW.pt (pw_or (pt_not (pt_chain op_le op_le pe_int (pv 2) (pe_gi (T_MOST_ORDER T)))) (pw_or (pt_cmpR (op_notIn_seqK (K := K) rfl) (pe_call (ok__cut T) (hr.mono (by decide)) rfl (T__cut T) (F__cut T).kp (b__cut T) .nil pass0 (pa_cons (pe_op LR.op_mulS (pv 1) (pv 2)) pa_nil)) (pv 3) rfl) (pw_or1 (pt_not (pt_val (pe_call (ok__is_closed T) hr rfl (T__is_closed T) (F__is_closed T).kp (b__is_closed T) .nil pass0 (pa_cons (pv 0) (pa_cons (pv 3) pa_nil))))))))) (pss_one (ps_ret pe_bl)) pss_nil)
      (pss_cons (ps_set (i := 5) sc__is_finite.nd rfl (.inl rfl) (pe_call (ok__primes T) (hr.mono (by decide)) rfl (T__primes T) (F__primes T).kp (b__primes T) .nil pass0 (pa_cons (pv 2) pa_nil)))
      (pss_cons (ps_if (pt_cmpR op_ne (pe_callB (call_lenK (K := K) rfl) (by rfl) (B_len T) PySem.boot_len (pa_cons (pv 4) pa_nil)) (pe_callB (call_lenK (K := K) rfl) (by rfl) (B_len T) PySem.boot_len (pa_cons (pv 5) pa_nil)) (nomark _)) (pss_one (ps_ret pe_bl)) pss_nil)
      (pss_cons (ps_for PassesOwn.never rfl (pi_zipK (K := K) rfl (by rfl) (B_zip T) (pa_cons (pv 5) (pa_cons (pv 4) pa_nil))) (pg_tupK (K := K) (n := 2) rfl rfl (pgs_cons (pg_name (i := 6) sc__is_finite.nd rfl (by first | exact Or.inl rfl | exact Or.inr rfl)) (pgs_cons (pg_name (i := 7) sc__is_finite.nd rfl (by first | exact Or.inl rfl | exact Or.inr rfl)) pgs_nil))) (pss_one (ps_if (PW.pt (pw_or (pt_not (pt_val (pe_call (ok__is_string T) (hr.mono (by decide)) rfl (T__is_string T) (F__is_string T).kp (b__is_string T) .nil pass0 (pa_cons (pv 0) (pa_cons (pv 7) pa_nil))))) (pw_or1 (pt_not (pt_val (pe_call (ok__changes T) hr rfl (T__changes T) (F__changes T).kp (b__changes T) .nil pass0 (pa_cons (pv 0) (pa_cons (pv 1) (pa_cons (pe_op op_fdiv (pv 2) (pv 6)) (pa_cons (pv 7) pa_nil)))))))))) (pss_one (ps_ret pe_bl)) pss_nil)))
      (pss_one (ps_ret pe_bl)))))), ?_⟩
    have hs8 : ∀ d ∈ ws, L8 d := fun d hd => (hws d hd).1.l8 O
    have hp8 : L8 (pw u n) := (hu.pw n).l8 O
    have hpl : (pw u n).length ≤ 50000 := by
      rw [pw_length]
      calc n * u.length ≤ 200 * 60 := Nat.mul_le_mul hn2 hul
        _ ≤ 50000 := by decide
    obtain ⟨bc, hbc⟩ := exB (IsCl M ws)
    refine q_when (et_or (et_not (et_chain ev_c (ev_var rfl) ev_c)) (fun _ => et_or (et_test (ev_ninW (ev_call (ea_cons (ev_mulW (ev_var rfl) (ev_var rfl) (by omega) (by omega)) ea_nil) (sv_cut hp8 hpl)) (ev_var rfl) ha hp8.cut hs8)) (fun _ => et_not (et_B (ev_call (ea_cons (ev_var rfl) (ea_cons (ev_var rfl) ea_nil)) (sv_isClosed O hm ha hws hwl hbc)))))) (fun _ H1 e1 => ?_) (fun hb H1 e1 => ?_)
    · exact s_ret ev_c fun H2 e2 => k false (fun z => by cases z) H2 (e1.trans e2)
    · simp at hb
      have hR : Rest M (pw u n) := rest_of_closed O (hbc.mp hb.2.2).closed hb.2.1
      refine q_asgR (er_call (ea_cons (ev_var rfl) ea_nil) (sr_primes hn1 (by omega))) fun v H2 e2 hv => ?_
      obtain ⟨L, p, rfl, h2, hLa, hLb, hLc⟩ := hv
      refine q_when (et_ne (ev_lenL (ev_var rfl) (ex_l (e1.trans e2) hb0)) (ev_lenL (ev_var rfl) (sq_of h2)) rfl) (fun _ H3 e3 => ?_) (fun hb3 H3 e3 => ?_)
      · exact s_ret ev_c fun H4 e4 => k false (fun z => by cases z) H4 (((e1.trans e2).trans e3).trans e4)
      rw [ssV_len, nsV_len] at hb3
      have hll : ss.length = L.length := by
        simp at hb3
        omega
      refine q_forZ (n := L.length) (ev_var rfl) (ev_var rfl) (sq_of (e3 p _ h2)) (ex_l ((e1.trans e2).trans e3) hb0) (by rw [ssV_len, nsV_len]; omega) (fun i σ' H' => ∃ c1 c2, σ' = [some mv, some (.str (enc u)), some (.int (n : Nat)), some (.ref a), some (.ref b), some (.ref p), c1, c2] ∧ Ex H H' ∧ H' p = some (.lst (nsV L)) ∧ ∀ r ∈ L.take i, ¬ Rest M (pw u (n / r))) (fun H4 e4 => ⟨none, none, rfl, ((e1.trans e2).trans e3).trans e4, (e3.trans e4) p _ h2, fun r hr => by simp at hr⟩) (fun i σ' H' _ ⟨_, _, _, e, h, _⟩ => ⟨sq_of h, ex_l e hb0⟩) ?_ ?_
      · rintro i x y q σ' H4 hx hy hq ⟨c1, c2, rfl, e4, h4, hall⟩
        obtain ⟨r, hr, rfl⟩ := nsV_get hx
        obtain ⟨s1, hs1, rfl⟩ := ssV_get hy
        obtain ⟨hso, hsl⟩ := hss s1 (List.mem_of_getElem? hs1)
        obtain ⟨hr2, hrn⟩ := hLb r (List.mem_of_getElem? hr)
        obtain ⟨bd, hbd⟩ := exB (iter M u (n / r) s1 ≠ s1)
        have e5 : Ex H (upd H4 q (.tup [.int (r : Nat), .str (encD s1)])) := e4.trans (Ex.new hq)
        have h5 : (upd H4 q (.tup [.int (r : Nat), .str (encD s1)])) p = some (.lst (nsV L)) := (Ex.new hq) p _ h4
        refine g_unT (st_of upd_same) ?_
        have hdv : n / r ≤ 1000 := Nat.le_trans (Nat.div_le_self n r) (by omega)
        refine s_when (et_or (et_not (et_B (ev_call (ea_cons (ev_var rfl) (ea_cons (ev_var rfl) ea_nil)) (sv_isstr O (ex_mach e5 hm) hso hsl)))) (fun _ => et_not (et_B (ev_call (ea_cons (ev_var rfl) (ea_cons (ev_var rfl) (ea_cons (ev_div (ev_var rfl) (ev_var rfl) (by omega)) (ea_cons (ev_var rfl) ea_nil)))) (sv_changes O (ex_mach e5 hm) hu hul hdv hso hsl hbd))))) (fun _ H6 e6 => ?_) (fun hb6 H6 e6 => ?_)
        · exact s_ret ev_c fun H7 e7 => k false (fun z => by cases z) H7 ((e5.trans e6).trans e7)
        · refine ⟨_, _, rfl, e5.trans e6, e6 p _ h5, fun r' hr' => ?_⟩
          rw [take_succ hr, List.mem_append] at hr'
          rcases hr' with z | z
          · exact hall r' z
          · simp at z
            subst z
            simp at hb6
            have h9 := hbd.mp hb6.2
            intro hR2
            exact h9 (by rw [← act_pw]; exact hR2 s1 hso)
      · rintro σ' H4 ⟨c1, c2, rfl, e4, h4, hall⟩
        rw [List.take_length] at hall
        exact s_ret ev_c fun H5 e5 => k true (fun _ => ⟨hn1, hR, fun r hr hd => hall r (hLa r hr hd)⟩) H5 (e4.trans e5)
theorem sc__rests : FnScope ["machine", "word", "known", "queue", "found", "section"] ["machine", "word"] (defScope s__rests) := ⟨rfl, rfl, rfl, by decide +kernel, rfl, by decide +kernel, by decide +kernel⟩
theorem ok__rests (T : Tx K mg) : FnOk P w K mg base CX0 3 (He.fAd K d__rests.at_) (fdO K d__rests) ["machine", "word"] (spRests K) := by
  refine (F__rests T).ok sc__rests (fun vs H Q E h => ?_) (fun cdv A outer s H vs Q E hr h => ?_)
  · obtain ⟨_, _, _, rfl, _⟩ := h
    rfl
  · obtain ⟨M, u, mv, rfl, O, hm, hu, hul, k⟩ := h
    refine ⟨_, PSs.nox (pss_cons (ps_set (i := 2) sc__rests.nd rfl (.inl rfl) (pe_disp (pps_cons (pv 1) pe_bl pps_nil) (by rfl) (by rfl) (fun z => by cases z) (by decide)))
      (pss_cons (ps_set (i := 3) sc__rests.nd rfl (.inl rfl) (pe_lst (pa_cons (pv 1) pa_nil)))
      (pss_cons (ps_while PassesOwn.never (pt_truthK (K := K) rfl (pv 3) (fun _ => rfl)) (pss_cons (ps_set (i := 4) sc__rests.nd rfl (.inl rfl) (pe_call (ok__sections T) hr rfl (T__sections T) (F__sections T).kp (b__sections T) .nil pass0 (pa_cons (pv 0) (pa_cons (pe_bm0K (K := K) rfl PySem.F.plainAttrs_list PySem.F.slot_list_pop PySem.F.type_list_pop mt_pop (pv 3)) pa_nil))))
      (pss_cons (ps_if (pt_cmpR op_isN (pv 4) pe_non (nomark _)) (pss_one (ps_ret pe_bl)) pss_nil)
      (pss_one (ps_for PassesOwn.never rfl (pi_listK (K := K) rfl (pv 4)) (pg_name (i := 5) sc__rests.nd rfl (by first | exact Or.inl rfl | exact Or.inr rfl)) (pss_one (ps_if (pt_cmp (pc_dnotin (hu_of hr) (pv 5) (pv 2))) (pss_cons (ps_if (pt_cmpR op_eq (pe_callB call_lenD (by rfl) (B_len T) PySem.boot_len (pa_cons (pv 2) pa_nil)) (pe_gi (T_MOST_WORDS_certificates T)) (nomark _)) (pss_one (ps_ret pe_bl)) pss_nil)
      (pss_cons (ps_dput (hu_of hr) (pv 2) (pv 5) pe_bl rfl)
      (pss_one (ps_expr (pe_bmK (K := K) rfl PySem.F.plainAttrs_list PySem.F.slot_list_append PySem.F.type_list_append mt_append (pv 3) (pa_cons (pv 5) pa_nil)))))) pss_nil)))))))
      (pss_one (ps_ret pe_bl))))), ?_⟩
    refine q_asgD (ed_disp (fun _ _ => ev_var rfl)) fun p H1 hp e1 h1 => ?_
    refine q_asgL (el_lst (ea_cons (ev_var rfl) ea_nil) le1) fun q H2 hq e2 h2 => ?_
    have hq0 : H q = none := fresh_back e1 hq
    have hpq : p ≠ q := fun z => by rw [z] at h1; rw [hq] at h1; cases h1
    refine q_while (fun m σ' H' => ∃ (ds qs : List Wd) (c1 c2 : Option V), σ' = [some mv, some (.str (enc u)), some (.ref p), some (.ref q), c1, c2] ∧ Ex H H' ∧ H' p = some (.dK (kd ds)) ∧ H' q = some (.lst (wsV qs)) ∧ RI M u ds qs u ∧ (u ∈ qs ∨ (Keeps M u ∧ ∀ s ∈ secsL M u, s ∈ ds)) ∧ ds.length ≤ 4000 ∧ m = 2 * (4000 - ds.length) + qs.length) 7999 ⟨[u], [u], none, none, rfl, e1.trans e2, e2 p _ h1, h2, ⟨fun d hd => ?_, by simp, fun z hz => hz, fun d hd => .inl hd, by simp, by simp⟩, .inl (by simp), by simp, by simp⟩ ?_
    · simp at hd
      subst hd
      exact ⟨hu, Nat.le_refl _⟩
    rintro m σ' H3 ⟨ds, qs, c1, c2, rfl, e3, h3p, h3q, hI, hut, hdl, rfl⟩
    refine ⟨_, et_truL (ev_var rfl) h3q, fun hb H4 e4 => ?_, fun hb H4 e4 => ?_⟩
    · have hne : qs ≠ [] := by
        intro z
        subst z
        simp [wsV] at hb
      obtain ⟨x, rr, rfl, hlast, hdrop⟩ := wsV_last hne
      have hxd : x ∈ ds := hI.sub x (by simp)
      obtain ⟨hxo, hxl⟩ := hI.ok x hxd
      have hd8 : ∀ d ∈ ds, L8 d := fun d hd => (hI.ok d hd).1.l8 O
      have hmE : MachAt K (upd H4 q (.lst (wsV rr))) mv M := ex_mach (Ex.mut (e3.trans e4) hq0) hm
      refine ⟨fun σ2 H5 => ∃ (ds' qs' : List Wd) (c1 c2 : Option V), σ2 = [some mv, some (.str (enc u)), some (.ref p), some (.ref q), c1, c2] ∧ Ex H H5 ∧ H5 p = some (.dK (kd ds')) ∧ H5 q = some (.lst (wsV qs')) ∧ RI M u ds' qs' u ∧ (u ∈ qs' ∨ (Keeps M u ∧ ∀ s ∈ secsL M u, s ∈ ds')) ∧ ds'.length ≤ 4000 ∧ 2 * (4000 - ds'.length) + qs'.length < 2 * (4000 - ds.length) + (rr ++ [x]).length, fun σ2 H5 ⟨ds', qs', c1, c2, a1, a2, a3, a4, a5, a6, a7, a8⟩ => ⟨_, a8, ds', qs', c1, c2, a1, a2, a3, a4, a5, a6, a7, rfl⟩, ?_⟩
      have hE : Ex H (upd H4 q (.lst (wsV rr))) := Ex.mut (e3.trans e4) hq0
      have hP : (upd H4 q (.lst (wsV rr))) p = some (.dK (kd ds)) := by rw [upd_ne hpq]; exact e4 p _ h3p
      by_cases hK : Keeps M x
      · refine ⟨mv, rfl, _, rfl, .inl ⟨rfl, _, sq_of (e4 q _ h3q)⟩, q, _, _, rfl, rfl, e4 q _ h3q, hlast, M, x, mv, rfl, O, by rw [hdrop]; exact hmE, hxo, by omega, fun _ r H5 hr e5 h5 => ?_, fun z => absurd hK z⟩
        rw [hdrop] at e5 hr
        have hr0 : H r = none := fresh_back hE hr
        have hrq : r ≠ q := fun z => by rw [z, upd_same] at hr; cases hr
        have hrp : r ≠ p := fun z => by rw [z, hP] at hr; cases hr
        have hsok := secsL_ok O hxo
        refine q_when (b := false) (et_is (et_test (ev_isN (ev_var rfl))) rfl) (fun z => by cases z) (fun _ H6 e6 => ?_)
        have h6 := e5.trans e6
        refine s_forLn (ev_var rfl) (sq_of (e6 r _ h5)) (fun i σ' H' => ∃ (ds' qs' : List Wd) (c : Option V), σ' = [some mv, some (.str (enc u)), some (.ref p), some (.ref q), some (.ref r), c] ∧ Ex H H' ∧ H' r = some (.lst (wsV (secsL M x))) ∧ H' p = some (.dK (kd ds')) ∧ H' q = some (.lst (wsV qs')) ∧ RI M u ds' qs' x ∧ ds'.length ≤ 4000 ∧ 2 * (4000 - ds'.length) + qs'.length < 2 * (4000 - ds.length) + (rr ++ [x]).length ∧ ∀ s ∈ (secsL M x).take i, s ∈ ds') (fun H7 e7 => ⟨ds, rr, _, rfl, (hE.trans h6).trans e7, (e6.trans e7) r _ h5, (h6.trans e7) p _ hP, (h6.trans e7) q _ upd_same, ?_, hdl, by simp, fun s hs => by simp at hs⟩) (fun i σ' H' _ ⟨_, _, _, _, _, h, _⟩ => sq_of h) ?_ ?_
        · refine ⟨hI.ok, hI.top, fun z hz => hI.sub z (List.mem_append.mpr (.inl hz)), fun d hd => ?_, hxd, by have := hI.qd; simp at this; omega⟩
          have hqq : ∀ y, y ∈ rr ++ [x] → y ∈ rr ∨ y = x := fun y hy => by simpa using hy
          rcases hI.cl d hd with z | z | z
          · exact (hqq d z).imp id .inl
          · subst z
            rcases hut with y | y
            · exact (hqq _ y).imp id .inl
            · exact .inr (.inr y)
          · exact .inr (.inr z)
        · rintro i y σ' H7 hy ⟨ds', qs', c, rfl, a1, a2, a3, a4, a5, a6, a7, a8⟩
          obtain ⟨v, hv, rfl⟩ := wsV_get hy
          have hvs := hsok v (List.mem_of_getElem? hv)
          have hd8' : ∀ d ∈ ds', L8 d := fun d hd => (a5.ok d hd).1.l8 O
          refine s_when (et_B (ev_dnotin (ev_var rfl) (ev_var rfl) a3 (hvs.1.l8 O) hd8')) (fun hb2 H8 e8 => ?_) (fun hb2 H8 e8 => ?_)
          · have hnv : v ∉ ds' := by simpa using hb2
            refine q_when (et_eq (ev_lenD (ev_var rfl) (e8 p _ a3)) ev_c rfl) (fun _ H9 e9 => ?_) (fun hb3 H9 e9 => ?_)
            · exact s_ret ev_c fun H10 e10 => k false (fun z => by cases z) H10 (((a1.trans e8).trans e9).trans e10)
            · have hne4 : ds'.length ≠ 4000 := by
                intro z
                rw [z] at hb3
                simp at hb3
              have e89 := e8.trans e9
              refine q_dput ev_c (ev_var rfl) (ev_var rfl) (e89 p _ a3) (hvs.1.l8 O) hd8' hnv (by omega) fun H10 e10 => ?_
              have e810 := e89.trans e10
              have hq10 : (upd H10 p (.dK (kd (ds' ++ [v])))) q = some (.lst (wsV qs')) := by rw [upd_ne (Ne.symm hpq)]; exact e810 q _ a4
              refine s_app hq10 (ev_var rfl) (ev_var rfl) (by rw [wsV_len]; have := a5.qd; omega) fun H11 e11 => ⟨ds' ++ [v], qs' ++ [v], _, rfl, Ex.mut ((Ex.mut (a1.trans e810) hp).trans e11) hq0, ?_, ?_, ?_, a5.add ⟨hvs.1, Nat.le_trans hvs.2 hxl⟩, by simp; omega, by simp at a7 ⊢; omega, fun s hs => ?_⟩
              · rw [upd_ne hrq]
                exact e11 r _ (by rw [upd_ne hrp]; exact e810 r _ a2)
              · rw [upd_ne hpq]
                exact e11 p _ upd_same
              · rw [upd_same, wsV_snoc]
              · rw [take_succ hv, List.mem_append] at hs
                rcases hs with z | z
                · exact List.mem_append.mpr (.inl (a8 s z))
                · exact List.mem_append.mpr (.inr z)
          · have hnv : v ∈ ds' := by simpa using hb2
            refine ⟨ds', qs', _, rfl, a1.trans e8, e8 r _ a2, e8 p _ a3, e8 q _ a4, a5, a6, a7, fun s hs => ?_⟩
            rw [take_succ hv, List.mem_append] at hs
            rcases hs with z | z
            · exact a8 s z
            · simp at z
              subst z
              exact hnv
        · rintro σ' H7 ⟨ds', qs', c, rfl, a1, a2, a3, a4, a5, a6, a7, a8⟩
          rw [wsV_len, List.take_length] at a8
          refine ⟨ds', qs', _, _, rfl, a1, a3, a4, ⟨a5.ok, a5.top, a5.sub, fun d hd => ?_, a5.top, a5.qd⟩, ?_, a6, a7⟩
          · rcases a5.cl d hd with z | z | z
            · exact .inl z
            · subst z
              exact .inr (.inr ⟨hK, a8⟩)
            · exact .inr (.inr z)
          · rcases a5.cl u a5.top with z | z | z
            · exact .inl z
            · subst z
              exact .inr ⟨hK, a8⟩
            · exact .inr z
      · refine ⟨mv, rfl, _, rfl, .inl ⟨rfl, _, sq_of (e4 q _ h3q)⟩, q, _, _, rfl, rfl, e4 q _ h3q, hlast, M, x, mv, rfl, O, by rw [hdrop]; exact hmE, hxo, by omega, fun z => absurd z hK, fun _ H5 e5 => ?_⟩
        rw [hdrop] at e5
        refine q_when (b := true) (et_is (et_test (ev_isN (ev_var rfl))) rfl) (fun _ H6 e6 => ?_) (fun z => by cases z)
        exact s_ret ev_c fun H7 e7 => k false (fun z => by cases z) H7 (((hE.trans e5).trans e6).trans e7)
    · have hne : qs = [] := by
        cases qs with
        | nil => rfl
        | cons a b => simp [wsV] at hb
      subst hne
      refine s_ret ev_c fun H5 e5 => k true (fun _ => ?_) H5 ((e3.trans e4).trans e5)
      have hC : Closed M ds := fun d hd i hi => by
        have hg : Keeps M d ∧ ∀ s ∈ secsL M d, s ∈ ds := by
          rcases hI.cl d hd with z | z | z
          · simp at z
          · subst z
            rcases hut with y | y
            · simp at y
            · exact y
          · exact z
        exact ⟨hg.1 i hi, hg.2 _ (List.mem_map.mpr ⟨i, List.mem_range.mpr hi, rfl⟩)⟩
      exact fun s hs => hC.rest O s u hI.top hs
end
end LT

set_option Elab.async false
set_option linter.all false
set_option maxRecDepth 100000
set_option maxHeartbeats 4000000
/-! _around, _is_endless -/
namespace LT
open PySem PySem.Spec PyProof.Rows L2 Evl
section
variable {K : PySem.W.Frag} {σ : L2.St} {H H' : Hp} {ta tb te tx : TE} {t u : TT} {D : Ends} {tz tu tw : TS}
/-! tests whose answer is known only in part -/
def EvTR (tt : TT) (σ : L2.St) (H : Hp) (p : Bool → Prop) : Prop := ∀ H1, Ex H H1 → ∀ Q : Bool → Hp → Prop, (∀ b H2, Ex H1 H2 → p b → Q b H2) → tt σ H1 Q
theorem etR_B {p : Bool → Prop} (h : EvR te σ H (fun v _ => ∃ b, v = .bl b ∧ p b)) : EvTR (tB te) σ H p := fun H1 e Q q => h H1 e _ fun v H2 e2 ⟨b, hb, hp⟩ => ⟨b, hb, q b H2 e2 hp⟩
theorem etR_and {a : Bool} {p : Bool → Prop} (h1 : EvT t σ H a) (h2 : a = true → EvTR u σ H p) (h3 : a = false → p false) : EvTR (tAnd t u) σ H p := fun H1 e Q q => h1 H1 e _ fun H2 e2 => by
  cases a with
  | true => exact h2 rfl H2 (e.trans e2) Q fun b H3 e3 => q b H3 (e2.trans e3)
  | false => exact q false H2 e2 (h3 rfl)
theorem erV_and {a : Bool} {p : Bool → Prop} (h1 : Ev ta σ H (.bl a)) (h2 : a = true → EvR tb σ H (fun v _ => ∃ b, v = .bl b ∧ p b)) (h3 : a = false → p false) : EvR (tAndV ta tb) σ H (fun v _ => ∃ b, v = .bl b ∧ p b) := fun H1 e Q q => h1 H1 e _ fun H2 e2 => ⟨a, rfl, by
  cases a with
  | true => exact h2 rfl H2 (e.trans e2) Q fun v H3 e3 => q v H3 (e2.trans e3)
  | false => exact q _ H2 e2 ⟨false, rfl, h3 rfl⟩⟩
theorem s_whenR {p : Bool → Prop} (h : EvTR t σ H p) (h1 : p true → ∀ H1, Ex H H1 → tu D σ H1) (h2 : p false → ∀ H1, Ex H H1 → D.nx σ H1) : tIfS t tu tNext D σ H := h H (Ex.refl H) _ fun b H1 e hp => by
  cases b with
  | true => exact h1 hp H1 e
  | false => exact h2 hp H1 e
theorem q_whenR {p : Bool → Prop} (h : EvTR t σ H p) (h1 : p true → ∀ H1, Ex H H1 → tu { D with nx := tz D } σ H1) (h2 : p false → ∀ H1, Ex H H1 → tz D σ H1) : tSeq (tIfS t tu tNext) tz D σ H := s_whenR (D := { D with nx := tz D }) h h1 h2
theorem s_retIf {b : Bool} (h : EvT t σ H b) (h1 : b = true → ∀ H1, Ex H H1 → tRet ta D σ H1) (h2 : b = false → ∀ H1, Ex H H1 → tRet tb D σ H1) : tRet (tIf t ta tb) D σ H := h H (Ex.refl H) _ fun H1 e => by
  cases b with
  | true => exact h1 rfl H1 e
  | false => exact h2 rfl H1 e
theorem ev_abs {i : Int} (h : Ev ta σ H (.int i)) : Ev (tCB (fun xs H Q => ∃ i, xs = [.int i] ∧ Q (.int (if i < 0 then -i else i)) H) (tCons ta tNil)) σ H (.int (if i < 0 then -i else i)) := ev_cb (ea_cons h ea_nil) fun H1 _ _ q => ⟨i, rfl, q H1 (Ex.refl _)⟩
theorem s_unT4 {i j k l : Nat} {a b c d : V} {p : Addr} (h : Ev te σ H (.ref p)) (hp : SqT K H p [a, b, c, d]) (kk : ∀ H1, Ex H H1 → D.nx ((((σ.set i (some a)).set j (some b)).set k (some c)).set l (some d)) H1) : tAsg te (gTup K 4 (gCons (gName i) (gCons (gName j) (gCons (gName k) (gCons (gName l) gNil))))) D σ H :=
  h H (Ex.refl H) _ fun H1 e => ⟨p, [a, b, c, d], rfl, ex_t e hp, rfl, a, [b, c, d], rfl, b, [c, d], rfl, c, [d], rfl, d, [], rfl, rfl, kk H1 e⟩
theorem q_unT4 {i j k l : Nat} {a b c d : V} {p : Addr} (h : Ev te σ H (.ref p)) (hp : SqT K H p [a, b, c, d]) (kk : ∀ H1, Ex H H1 → tz D ((((σ.set i (some a)).set j (some b)).set k (some c)).set l (some d)) H1) : tSeq (tAsg te (gTup K 4 (gCons (gName i) (gCons (gName j) (gCons (gName k) (gCons (gName l) gNil)))))) tz D σ H :=
  s_unT4 (D := { D with nx := tz D }) h hp kk
end
def spAround (K : PySem.W.Frag) : Sp := fun vs H Q _ => ∃ (M : Mach) (u : Wd) (s : List Nat) (mv : V), vs = [mv, .str (enc u), .str (encD s)] ∧ M.Ok ∧ MachAt K H mv M ∧ WOk M u ∧ u.length ≤ 20 ∧ SOk M s ∧ s.length ≤ 1000 ∧
  (∀ (m : Nat), Round M u s m → m ≤ 2000 → (cut (sec M (pw u m) s)).length ≤ 2000 → RetU [.int (m : Nat), .str (enc (cut (sec M (pw u m) s)))] H Q) ∧ RetV .non H Q
def scs (M : Mach) (u : Wd) (s : List Nat) (i : Nat) : List Wd := (List.range i).map fun j => sec M u (iter M u j s)
theorem scs_len (M : Mach) (u : Wd) (s : List Nat) (i : Nat) : (scs M u s i).length = i := by simp [scs]
theorem scs_succ (M : Mach) (u : Wd) (s : List Nat) (i : Nat) : scs M u s (i + 1) = scs M u s i ++ [sec M u (iter M u i s)] := by simp [scs, List.range_succ]
theorem scs_flat (M : Mach) (u : Wd) (s : List Nat) : ∀ i, (scs M u s i).flatten = sec M (pw u i) s
  | 0 => by simp [scs, pw, (act_nilw s).2]
  | i + 1 => by rw [scs_succ, List.flatten_append, scs_flat M u s i, pw_succ', sec_append, act_pw]; simp
theorem scs_sum (M : Mach) (u : Wd) (s : List Nat) (i : Nat) : (((scs M u s i).map enc).map (·.length)).sum = i * u.length := by
  induction i with
  | zero => simp [scs]
  | succ i ih => rw [scs_succ, List.map_append, List.map_append, List.sum_append, ih]; simp [enc_length, sec_length, Nat.succ_mul]
theorem wsV_map (ws : List Wd) : wsV ws = (ws.map enc).map V.str := by simp [wsV]
section
variable {P : Program} {w : World} {K : PySem.W.Frag} {mg : Str → Option Value} {base : Heap} {M : Mach} {H : Hp} {mv : V}
theorem sc__around : FnScope ["machine", "word", "string", "here", "sections", "steps", "section", "back"] ["machine", "word", "string"] (defScope s__around) := ⟨rfl, rfl, rfl, by decide +kernel, rfl, by decide +kernel, by decide +kernel⟩
theorem ok__around (T : Tx K mg) : FnOk P w K mg base CX0 3 (He.fAd K d__around.at_) (fdO K d__around) ["machine", "word", "string"] (spAround K) := by
  refine (F__around T).ok sc__around (fun vs H Q E h => ?_) (fun cdv A outer s H vs Q E hr h => ?_)
  · obtain ⟨_, _, _, _, rfl, _⟩ := h
    rfl
  · obtain ⟨M, u, s0, mv, rfl, O, hm, hu, hul, hs, hsl, k1, k2⟩ := h
    refine ⟨_, PSs.nox (pss_cons (ps_set (i := 3) sc__around.nd rfl (.inl rfl) (pv 2))
      (pss_cons (ps_set (i := 4) sc__around.nd rfl (.inl rfl) (pe_lst pa_nil))
      (pss_cons (ps_for PassesOwn.never rfl (pi_range2 rfl (B_range T) (pa_cons pe_int (pa_cons (pe_op op_add (pe_gi (T_MOST_STEPS_certificates T)) pe_int) pa_nil))) (pg_name (i := 5) sc__around.nd rfl (by first | exact Or.inl rfl | exact Or.inr rfl)) (pss_cons (ps_asg (pe_call (ok__moved T) hr rfl (T__moved T) (F__moved T).kp (b__moved T) .nil pass0 (pa_cons (pv 0) (pa_cons (pv 1) (pa_cons (pv 3) pa_nil)))) (pg_tupK (K := K) (n := 2) rfl rfl (pgs_cons (pg_name (i := 3) sc__around.nd rfl (by first | exact Or.inl rfl | exact Or.inr rfl)) (pgs_cons (pg_name (i := 6) sc__around.nd rfl (by first | exact Or.inl rfl | exact Or.inr rfl)) pgs_nil))))
      (pss_cons (ps_expr (pe_bmK (K := K) rfl PySem.F.plainAttrs_list PySem.F.slot_list_append PySem.F.type_list_append mt_append (pv 4) (pa_cons (pv 6) pa_nil)))
      (pss_one (ps_if (pt_cmpR op_eq (pv 3) (pv 2) (nomark _)) (pss_cons (ps_set (i := 7) sc__around.nd rfl (.inl rfl) (pe_call (ok__cut T) (hr.mono (by decide)) rfl (T__cut T) (F__cut T).kp (b__cut T) .nil pass0 (pa_cons (pe_joinK (K := K) rfl pe_str (pv 4)) pa_nil)))
      (pss_one (ps_ret (pe_ifExp (pt_cmpR op_gt (pe_callB (call_lenK (K := K) rfl) (by rfl) (B_len T) PySem.boot_len (pa_cons (pv 7) pa_nil)) (pe_gi (T_LONGEST_certificates T)) (nomark _)) pe_non (pe_tup (pa_cons (pv 5) (pa_cons (pv 7) pa_nil))))))) pss_nil)))))
      (pss_one (ps_ret pe_non))))), ?_⟩
    refine q_asg (ev_var rfl) fun H1 e1 => ?_
    refine q_asgL (el_lst ea_nil le0) fun p H2 hp e2 h2 => ?_
    have hp0 := fresh_back e1 hp
    refine q_forR2 (lo := 1) (n := 2001) (ea_cons ev_c (ea_cons (ev_add ev_c ev_c) ea_nil)) (by decide) (fun i σ' H' => ∃ c1 c2, σ' = [some mv, some (.str (enc u)), some (.str (encD s0)), some (.str (encD (iter M u i s0))), some (.ref p), c1, c2, none] ∧ Ex H H' ∧ H' p = some (.lst (wsV (scs M u s0 i))) ∧ ∀ j, 1 ≤ j → j ≤ i → iter M u j s0 ≠ s0) (fun H3 e3 => ⟨none, none, rfl, (e1.trans e2).trans e3, e3 p _ h2, fun j h1 h2 => by omega⟩) ?_ ?_
    · rintro i σ' H3 hi ⟨c1, c2, rfl, e3, h3, hne⟩
      have hio := iter_ok O hu i hs
      have hil := iter_len M u i s0
      refine q_unU (eu_call (ea_cons (ev_var rfl) (ea_cons (ev_var rfl) (ea_cons (ev_var rfl) ea_nil))) (sv_moved O (ex_mach e3 hm) hu hio (by omega) (by omega))) fun H4 e4 => ?_
      refine q_app (e4 p _ h3) (ev_var rfl) (ev_var rfl) (by rw [wsV_len, scs_len]; omega) fun H5 e5 => ?_
      have h5 : (upd H5 p (.lst (wsV (scs M u s0 i) ++ [V.str (enc (sec M u (iter M u i s0)))]))) p = some (.lst (wsV (scs M u s0 (i + 1)))) := by rw [upd_same, wsV_snoc, scs_succ]
      have hE : Ex H (upd H5 p (.lst (wsV (scs M u s0 i) ++ [V.str (enc (sec M u (iter M u i s0)))]))) := Ex.mut ((e3.trans e4).trans e5) hp0
      refine s_when (et_eq (ev_var rfl) (ev_var rfl) rfl) (fun hb H6 e6 => ?_) (fun hb H6 e6 => ?_)
      · have hback : iter M u (i + 1) s0 = s0 := by
          have h1 : decide (V.str (encD (act M u (iter M u i s0))) = V.str (encD s0)) = true := hb
          have h2 := encD_inj.mp (V.str.inj (of_decide_eq_true h1))
          rw [iter_snoc]
          exact h2
        have hR : Round M u s0 (i + 1) := ⟨by omega, hback, fun j h1 h2 => hne j h1 (by omega)⟩
        have hfl := scs_flat M u s0 (i + 1)
        have hln : (sec M (pw u (i + 1)) s0).length ≤ 50000 := by
          rw [sec_length, pw_length]
          calc (i + 1) * u.length ≤ 2000 * 20 := Nat.mul_le_mul (by omega) hul
            _ ≤ 50000 := by decide
        have hsum := scs_sum M u s0 (i + 1)
        have hsum2 : (i + 1) * u.length ≤ 40000 := by
          calc (i + 1) * u.length ≤ 2000 * 20 := Nat.mul_le_mul (by omega) hul
            _ ≤ 40000 := by decide
        have hwo := (act_ok O (hu.pw (i + 1)) hs).2
        have h5' := h5
        rw [wsV_map (scs M u s0 (i + 1))] at h5'
        refine q_asg (ev_call (ea_cons (ev_joinP (ys := (scs M u s0 (i + 1)).map enc) (s := enc (sec M (pw u (i + 1)) s0)) ev_c (ev_var rfl) (e6 p _ h5') (by omega) (by rw [join_encs, hfl])) ea_nil) (sv_cut (hwo.l8 O) hln)) fun H7 e7 => ?_
        have hE7 := (hE.trans e6).trans e7
        have hck := hwo.cut.l8 O
        have hcl : (cut (sec M (pw u (i + 1)) s0)).length ≤ 50000 := Nat.le_trans (cut_length _) hln
        refine s_retIf (et_test (ev_gt (ev_lenS (ev_var rfl) (by rw [enc_length]; omega)) ev_c)) (fun hb H8 e8 => ?_) (fun hb H8 e8 => ?_)
        · exact s_ret ev_c fun H9 e9 => k2 H9 ((hE7.trans e8).trans e9)
        · have hcl2 : (cut (sec M (pw u (i + 1)) s0)).length ≤ 2000 := by
            rw [enc_length] at hb
            simp at hb
            omega
          have e0 : (1 : Int) + (i : Int) = ((i + 1 : Nat) : Int) := by omega
          rw [e0]
          exact s_retU (eu_tup (ea_cons (ev_var rfl) (ea_cons (ev_var rfl) ea_nil)) le2) fun q H9 hq e9 h9 => (k1 (i + 1) hR (by omega) hcl2).go (hE7.trans e8) hq e9 h9
      · have hnb : iter M u (i + 1) s0 ≠ s0 := by
          intro z
          have h1 : decide (V.str (encD (act M u (iter M u i s0))) = V.str (encD s0)) = false := hb
          have h2 := of_decide_eq_false h1
          rw [iter_snoc] at z
          exact h2 (by rw [z])
        rw [iter_snoc]
        refine ⟨_, _, rfl, hE.trans e6, e6 p _ h5, fun j h1 h2 => ?_⟩
        by_cases q : j = i + 1
        · subst q; exact hnb
        · exact hne j h1 (by omega)
    · rintro σ' H3 ⟨c1, c2, rfl, e3, h3, hne⟩
      exact s_ret ev_c fun H4 e4 => k2 H4 (e3.trans e4)
end
end LT

set_option Elab.async false
set_option linter.all false
set_option maxRecDepth 100000
set_option maxHeartbeats 4000000
/-! _is_endless, shown, order_shown -/
namespace LT
open PySem PySem.Spec PyProof.Rows L2 Evl
theorem act_und_cut {M : Mach} (O : M.Ok) (u : Wd) (t : List Nat) : act M (und (cut u)) t = act M (und u) t := by
  have h1 := act_und' O (cut u) t
  rw [act_cut O] at h1
  have h2 := act_und O u (act M (und (cut u)) t)
  rw [h1] at h2
  exact h2.symm
theorem rest_of_eq {M : Mach} (O : M.Ok) {u v : Wd} (h : ∀ s, SOk M s → act M u s = act M v s) : Rest M (u ++ und v) := fun s hs => by rw [act_append, h s hs, act_und O]
def facE (u : Wd) (e : Int) : Wd := if e < 0 then und (cut u) else cut u
theorem facE_act {M : Mach} (O : M.Ok) (u : Wd) {e : Int} (he : e = 1 ∨ e = -1) (t : List Nat) : act M (facE u e) t = act M (pwZ u e) t := by
  rcases he with rfl | rfl
  · show act M (cut u) t = act M (pw u 1) t
    rw [act_cut O, pw_one]
  · show act M (und (cut u)) t = act M (pw (und u) 1) t
    rw [act_und_cut O, pw_one]
theorem endless_sound {M : Mach} (O : M.Ok) {u h : Wd} {s : List Nat} {m : Nat} {e : Int} (hu : WOk M u) (hh : WOk M h) (hs : SOk M s) (hr : Round M u s m) (he : e = 1 ∨ e = -1) (hd : ¬ (m : Int) ∣ e)
    (hR : Rest M (cut (cut (sec M (pw u m) s) ++ und (cut (h ++ pw (facE u e) 1 ++ und h))))) (n : Nat) : ¬ Order M u n := fun ho => by
  have h1 := (Rest.cut_iff O).mp hR
  refine endless_of O hu hh hs hr (e := e) (rest_of_eq O fun t ht => ?_) hd ho
  have h2 := Rest.eq O h1 ht
  rw [act_cut O, act_cut O, pw_one] at h2
  rw [h2, act_append, act_append, act_append, act_append, facE_act O u he]
theorem facE_ok {M : Mach} {u : Wd} (hu : WOk M u) (e : Int) : WOk M (facE u e) ∧ (facE u e).length ≤ u.length := by
  unfold facE
  have := cut_length u
  split
  · exact ⟨hu.cut.und, by rw [und_length]; exact this⟩
  · exact ⟨hu.cut, this⟩
def spIsEndless (K : PySem.W.Frag) : Sp := fun vs H Q _ => ∃ (M : Mach) (u h : Wd) (s : List Nat) (m : Nat) (e : Int) (mv : V) (wt : Addr), vs = [mv, .str (enc u), .ref wt] ∧ M.Ok ∧ MachAt K H mv M ∧ WOk M u ∧ u.length ≤ 20 ∧
  SqT K H wt [.str (encD s), .int (m : Nat), .int e, .str (enc h)] ∧ SOk M s ∧ s.length ≤ 1000 ∧ 2 ≤ m ∧ m ≤ 2000 ∧ (e = 1 ∨ e = -1) ∧ WOk M h ∧ h.length ≤ 60 ∧ ∀ r : Bool, (r = true → ∀ n, ¬ Order M u n) → RetV (.bl r) H Q
section
variable {P : Program} {w : World} {K : PySem.W.Frag} {mg : Str → Option Value} {base : Heap} {M : Mach} {H : Hp} {mv : V}
theorem sr_around {u : Wd} {s : List Nat} (O : M.Ok) (hm : MachAt K H mv M) (hu : WOk M u) (hul : u.length ≤ 20) (hs : SOk M s) (hsl : s.length ≤ 1000) : SpR (spAround K) [mv, .str (enc u), .str (encD s)] H
    (fun v H' => v = .non ∨ ∃ (m : Nat) (p : Addr), v = .ref p ∧ H' p = some (.tup [.int (m : Nat), .str (enc (cut (sec M (pw u m) s)))]) ∧ Round M u s m ∧ m ≤ 2000 ∧ (cut (sec M (pw u m) s)).length ≤ 2000) :=
  fun _ e _ q _ => ⟨M, u, s, mv, rfl, O, ex_mach e hm, hu, hul, hs, hsl, fun m a b c p H2 hp e2 h2 => q _ H2 e2 (.inr ⟨m, p, rfl, h2, a, b, c⟩), fun H2 e2 => q _ H2 e2 (.inl rfl)⟩
theorem sr_rests {u : Wd} (O : M.Ok) (hm : MachAt K H mv M) (hu : WOk M u) (hul : u.length ≤ 50000) : SpR (spRests K) [mv, .str (enc u)] H (fun v _ => ∃ b, v = .bl b ∧ (b = true → Rest M u)) :=
  fun _ e _ q _ => ⟨M, u, mv, rfl, O, ex_mach e hm, hu, hul, fun r hr H2 e2 => q _ H2 e2 ⟨r, rfl, hr⟩⟩
theorem sc__is_endless : FnScope ["machine", "word", "witness", "string", "steps", "exponent", "by", "told", "factor", "goal", "whole"] ["machine", "word", "witness"] (defScope s__is_endless) := ⟨rfl, rfl, rfl, by decide +kernel, rfl, by decide +kernel, by decide +kernel⟩
theorem ok__is_endless (T : Tx K mg) : FnOk P w K mg base CX0 4 (He.fAd K d__is_endless.at_) (fdO K d__is_endless) ["machine", "word", "witness"] (spIsEndless K) := by
  refine (F__is_endless T).ok sc__is_endless (fun vs H Q E h => ?_) (fun cdv A outer s H vs Q E hr h => ?_)
  · obtain ⟨_, _, _, _, _, _, _, _, rfl, _⟩ := h
    rfl
  · obtain ⟨M, u, hb, s0, m, e, mv, wt, rfl, O, hm, hu, hul, hwt, hs, hsl, hm2, hm3, he, hhb, hhl, k⟩ := h
    refine ⟨_, PSs.nox (pss_cons (ps_asg (pv 2) (pg_tupK (K := K) (n := 4) rfl rfl (pgs_cons (pg_name (i := 3) sc__is_endless.nd rfl (by first | exact Or.inl rfl | exact Or.inr rfl)) (pgs_cons (pg_name (i := 4) sc__is_endless.nd rfl (by first | exact Or.inl rfl | exact Or.inr rfl)) (pgs_cons (pg_name (i := 5) sc__is_endless.nd rfl (by first | exact Or.inl rfl | exact Or.inr rfl)) (pgs_cons (pg_name (i := 6) sc__is_endless.nd rfl (by first | exact Or.inl rfl | exact Or.inr rfl)) pgs_nil))))))
      (pss_cons (ps_if (PW.pt (pw_or (pt_not (pt_val (pe_call (ok__is_string T) (hr.mono (by decide)) rfl (T__is_string T) (F__is_string T).kp (b__is_string T) .nil pass0 (pa_cons (pv 0) (pa_cons (pv 3) pa_nil))))) (pw_or1 (pt_not (pt_val (pe_call (ok__is_word T) (hr.mono (by decide)) rfl (T__is_word T) (F__is_word T).kp (b__is_word T) .nil pass0 (pa_cons (pv 0) (pa_cons (pv 6) (pa_cons (pe_gi (T_MOST_LETTERS_certificates T)) pa_nil))))))))) (pss_one (ps_ret pe_bl)) pss_nil)
      (pss_cons (ps_set (i := 7) sc__is_endless.nd rfl (.inl rfl) (pe_call (ok__around T) hr rfl (T__around T) (F__around T).kp (b__around T) .nil pass0 (pa_cons (pv 0) (pa_cons (pv 1) (pa_cons (pv 3) pa_nil)))))
      (pss_cons (ps_if (PW.pt (pw_or (pt_cmpR op_isN (pv 7) pe_non (nomark _)) (pw_or (pt_cmpR op_ne (pe_ix (ix_tupK (K := K) rfl) (pv 7) pe_int (fun _ _ => rfl)) (pv 4) (nomark _)) (pw_or1 (pt_cmpR op_eq (pe_op op_mul (pe_op op_fdiv (pv 5) (pv 4)) (pv 4)) (pv 5) (nomark _)))))) (pss_one (ps_ret pe_bl)) pss_nil)
      (pss_cons (ps_set (i := 8) sc__is_endless.nd rfl (.inl rfl) (pe_call (ok__cut T) (hr.mono (by decide)) rfl (T__cut T) (F__cut T).kp (b__cut T) .nil pass0 (pa_cons (pv 1) pa_nil)))
      (pss_cons (ps_if (pt_cmpR op_lt (pv 5) pe_int (nomark _)) (pss_one (ps_set (i := 8) sc__is_endless.nd rfl (.inl rfl) (pe_call (ok__undone T) (hr.mono (by decide)) rfl (T__undone T) (F__undone T).kp (b__undone T) .nil pass0 (pa_cons (pv 8) pa_nil)))) pss_nil)
      (pss_cons (ps_if (pt_cmpR op_gt (pe_callB call_abs (by rfl) (B_abs T) (by decide +kernel) (pa_cons (pv 5) pa_nil)) (pe_gi (T_LONGEST_certificates T)) (nomark _)) (pss_one (ps_ret pe_bl)) pss_nil)
      (pss_cons (ps_set (i := 9) sc__is_endless.nd rfl (.inl rfl) (pe_call (ok__cut T) (hr.mono (by decide)) rfl (T__cut T) (F__cut T).kp (b__cut T) .nil pass0 (pa_cons (pe_op op_add_str (pe_op op_add_str (pv 6) (pe_op LR.op_mulS (pv 8) (pe_callB call_abs (by rfl) (B_abs T) (by decide +kernel) (pa_cons (pv 5) pa_nil)))) (pe_call (ok__undone T) (hr.mono (by decide)) rfl (T__undone T) (F__undone T).kp (b__undone T) .nil pass0 (pa_cons (pv 6) pa_nil))) pa_nil)))
      (pss_cons (ps_set (i := 10) sc__is_endless.nd rfl (.inl rfl) (pe_call (ok__cut T) (hr.mono (by decide)) rfl (T__cut T) (F__cut T).kp (b__cut T) .nil pass0 (pa_cons (pe_op op_add_str (pe_ix (ix_tupK (K := K) rfl) (pv 7) pe_int (fun _ _ => rfl)) (pe_call (ok__undone T) (hr.mono (by decide)) rfl (T__undone T) (F__undone T).kp (b__undone T) .nil pass0 (pa_cons (pv 9) pa_nil))) pa_nil)))
      (pss_one (ps_ret (pe_and (pe_cmpR op_le (pe_callB (call_max2 rfl) (by rfl) (B_max T) (by decide +kernel) (pa_cons (pe_callB (call_lenK (K := K) rfl) (by rfl) (B_len T) PySem.boot_len (pa_cons (pv 9) pa_nil)) (pa_cons (pe_callB (call_lenK (K := K) rfl) (by rfl) (B_len T) PySem.boot_len (pa_cons (pv 10) pa_nil)) pa_nil))) (pe_gi (T_LONGEST_certificates T)) (nomark _)) (pe_one (pe_call (ok__rests T) hr rfl (T__rests T) (F__rests T).kp (b__rests T) .nil pass0 (pa_cons (pv 0) (pa_cons (pv 10) pa_nil)))))))))))))))), ?_⟩
    refine q_unT4 (ev_var rfl) hwt fun H1 e1 => ?_
    refine q_when (et_or (et_not (et_B (ev_call (ea_cons (ev_var rfl) (ea_cons (ev_var rfl) ea_nil)) (sv_isstr O (ex_mach e1 hm) hs (by omega))))) (fun _ => et_not (et_B (ev_call (ea_cons (ev_var rfl) (ea_cons (ev_var rfl) (ea_cons ev_c ea_nil))) (sv_isword (most := 60) O (ex_mach e1 hm) hhb (by omega)))))) (fun _ H2 e2 => ?_) (fun _ H2 e2 => ?_)
    · exact s_ret ev_c fun H3 e3 => k false (fun z => by cases z) H3 ((e1.trans e2).trans e3)
    refine q_asgR (er_call (ea_cons (ev_var rfl) (ea_cons (ev_var rfl) (ea_cons (ev_var rfl) ea_nil))) (sr_around O (ex_mach (e1.trans e2) hm) hu hul hs hsl)) fun v H3 e3 hv => ?_
    have E3 := (e1.trans e2).trans e3
    rcases hv with rfl | ⟨m', p, rfl, h3, hR, hml, hbl⟩
    · refine q_when (b := true) (et_is (et_or (b := false) (et_is (et_test (ev_isN (ev_var rfl))) (rfl : _ = true)) (fun z => by cases z)) rfl) (fun _ H4 e4 => ?_) (fun z => by cases z)
      exact s_ret ev_c fun H5 e5 => k false (fun z => by cases z) H5 ((E3.trans e4).trans e5)
    refine q_when (et_or (a := false) (et_is (et_test (ev_isN (ev_var rfl))) rfl) (fun _ => et_or (et_ne (ev_ixT (ev_var rfl) ev_c (st_of h3) rfl) (ev_var rfl) rfl) (fun _ => et_eq (ev_mul (ev_div (ev_var rfl) (ev_var rfl) (by omega)) (ev_var rfl) (by unfold CMul; omega)) (ev_var rfl) rfl))) (fun _ H4 e4 => ?_) (fun hb4 H4 e4 => ?_)
    · exact s_ret ev_c fun H5 e5 => k false (fun z => by cases z) H5 ((E3.trans e4).trans e5)
    have hmm : m' = m := by
      simp at hb4
      omega
    subst hmm
    have hnd : ¬ (m' : Int) ∣ e := by
      rintro ⟨c, hc⟩
      rcases he with rfl | rfl
      · have h1 : (m' : Int) ∣ 1 := ⟨c, hc⟩
        have h2 := Int.le_of_dvd (by decide) h1
        omega
      · have h1 : (m' : Int) ∣ 1 := ⟨-c, by rw [Int.mul_neg, ← hc]; rfl⟩
        have h2 := Int.le_of_dvd (by decide) h1
        omega
    have hcu := cut_length u
    obtain ⟨hfo, hfl⟩ := facE_ok hu e
    refine q_asg (ev_call (ea_cons (ev_var rfl) ea_nil) (sv_cut (hu.l8 O) (by omega))) fun H5 e5 => ?_
    refine q_ifAsg (v := .str (enc (facE u e))) (et_test (ev_lt (ev_var rfl) ev_c)) (fun hb5 => ev_is (ev_call (ea_cons (ev_var rfl) ea_nil) (sv_und (hu.cut.l8 O) (by omega))) ?_) (fun hb5 => ?_) (fun H6 e6 => ?_)
    · have h1 : e < 0 := by simpa using hb5
      unfold facE
      rw [if_pos h1]
    · have h1 : ¬ e < 0 := by simpa using hb5
      unfold facE
      rw [if_neg h1]
      rfl
    have e1' : (if e < 0 then -e else e) = ((1 : Nat) : Int) := by rcases he with rfl | rfl <;> rfl
    refine q_when (b := false) (et_is (et_test (ev_gt (ev_abs (ev_var rfl)) ev_c)) (by rw [e1']; rfl)) (fun z => by cases z) (fun _ H7 e7 => ?_)
    have hgl : (hb ++ pw (facE u e) 1 ++ und hb).length ≤ 200 := by
      rw [pw_one, List.length_append, List.length_append, und_length]
      omega
    have hgo : WOk M (hb ++ pw (facE u e) 1 ++ und hb) := (hhb.append (hfo.pw 1)).append hhb.und
    have hp1 : (pw (facE u e) 1).length ≤ 20 := by rw [pw_one]; omega
    refine q_asg (ev_call (ea_cons (ev_addW (ev_addW (ev_var rfl) (ev_mulW (n := 1) (ev_var rfl) (ev_is (ev_abs (ev_var rfl)) (congrArg V.int e1')) (by decide) (by omega)) (by omega)) (ev_call (ea_cons (ev_var rfl) ea_nil) (sv_und (hhb.l8 O) (by omega))) (by rw [List.length_append, und_length]; omega)) ea_nil) (sv_cut (hgo.l8 O) (by omega))) fun H8 e8 => ?_
    have E8 := ((((E3.trans e4).trans e5).trans e6).trans e7).trans e8
    have h8 := ((((e4.trans e5).trans e6).trans e7).trans e8) p _ h3
    have hcg := cut_length (hb ++ pw (facE u e) 1 ++ und hb)
    have hso := (act_ok O (hu.pw m') hs).2.cut
    have hwo : WOk M (cut (sec M (pw u m') s0) ++ und (cut (hb ++ pw (facE u e) 1 ++ und hb))) := hso.append hgo.cut.und
    have hwl : (cut (sec M (pw u m') s0) ++ und (cut (hb ++ pw (facE u e) 1 ++ und hb))).length ≤ 2200 := by
      rw [List.length_append, und_length]
      omega
    refine q_asg (ev_call (ea_cons (ev_addW (ev_ixT (ev_var rfl) ev_c (st_of h8) rfl) (ev_call (ea_cons (ev_var rfl) ea_nil) (sv_und (hgo.cut.l8 O) (by omega))) (by rw [und_length]; omega)) ea_nil) (sv_cut (hwo.l8 O) (by omega))) fun H9 e9 => ?_
    have hcw := cut_length (cut (sec M (pw u m') s0) ++ und (cut (hb ++ pw (facE u e) 1 ++ und hb)))
    refine s_retR (erV_and (p := fun b => b = true → Rest M (cut (cut (sec M (pw u m') s0) ++ und (cut (hb ++ pw (facE u e) 1 ++ und hb))))) (ev_le (ev_max2 (ev_lenS (ev_var rfl) (by rw [enc_length]; omega)) (ev_lenS (ev_var rfl) (by rw [enc_length]; omega))) ev_c) (fun _ => er_call (ea_cons (ev_var rfl) (ea_cons (ev_var rfl) ea_nil)) (sr_rests O (ex_mach (E8.trans e9) hm) hwo.cut (by omega))) (fun _ z => by cases z)) fun v H10 e10 hv => ?_
    obtain ⟨b, rfl, hb10⟩ := hv
    exact k b (fun hb n => endless_sound O hu hhb hs hR he hnd (hb10 hb) n) H10 ((E8.trans e9).trans e10)
end
end LT

set_option Elab.async false
set_option linter.all false
set_option maxRecDepth 100000
set_option maxHeartbeats 4000000
/-! shown, order_shown -/
namespace LT
open PySem PySem.Spec PyProof.Rows L2 Evl
inductive Ans
  | eq (ws : List Wd)
  | ap (s : List Nat)
def AnsAt (K : PySem.W.Frag) (H : Hp) (x : V) : Ans → Prop
  | .eq ws => ∃ p a, x = .ref p ∧ SqT K H p [.str (Str.ofString "equal"), .ref a] ∧ SqL K H a (wsV ws)
  | .ap s => ∃ p, x = .ref p ∧ SqT K H p [.str (Str.ofString "apart"), .str (encD s)]
def AnsOk (M : Mach) : Ans → Prop
  | .eq ws => (∀ w ∈ ws, WOk M w ∧ w.length ≤ 50000) ∧ ws.length ≤ 50000
  | .ap s => SOk M s ∧ s.length ≤ 50000
def Says (M : Mach) (u v : Wd) (r : Str) : Ans → Prop
  | .eq ws => (r = Str.ofString "equal" ∧ cut (u ++ und v) ∈ ws ∧ IsCl M ws) ∨ (r = Str.ofString "none" ∧ ¬ (cut (u ++ und v) ∈ ws ∧ IsCl M ws))
  | .ap s => (r = Str.ofString "apart" ∧ act M u s ≠ act M v s) ∨ (r = Str.ofString "none" ∧ ¬ act M u s ≠ act M v s)
theorem ex_ans {K : PySem.W.Frag} {H H' : Hp} {x : V} {an : Ans} (e : Ex H H') (h : AnsAt K H x an) : AnsAt K H' x an := by
  cases an with
  | eq ws =>
    obtain ⟨p, a, h1, h2, h3⟩ := h
    exact ⟨p, a, h1, ex_t e h2, ex_l e h3⟩
  | ap s =>
    obtain ⟨p, h1, h2⟩ := h
    exact ⟨p, h1, ex_t e h2⟩
def spShown (K : PySem.W.Frag) : Sp := fun vs H Q _ => ∃ (M : Mach) (u v : Wd) (an : Ans) (mv x : V), vs = [mv, .str (enc u), .str (enc v), x] ∧ M.Ok ∧ MachAt K H mv M ∧ WOk M u ∧ WOk M v ∧ u.length ≤ 60 ∧ v.length ≤ 60 ∧ AnsAt K H x an ∧ AnsOk M an ∧
  ∀ r, Says M u v r an → RetV (.str r) H Q
inductive OAns
  | fin (n : Nat) (ws : List Wd) (ss : List (List Nat))
  | endl (s : List Nat) (m : Nat) (e : Int) (h : Wd)
  | opn
def OAnsAt (K : PySem.W.Frag) (H : Hp) (x : V) : OAns → Prop
  | .fin n ws ss => ∃ p a b, x = .ref p ∧ SqT K H p [.str (Str.ofString "finite"), .int (n : Nat), .ref a, .ref b] ∧ SqL K H a (wsV ws) ∧ SqL K H b (ssV ss)
  | .endl s m e h => ∃ p a, x = .ref p ∧ SqT K H p [.str (Str.ofString "endless"), .ref a] ∧ SqT K H a [.str (encD s), .int (m : Nat), .int e, .str (enc h)]
  | .opn => ∃ p, x = .ref p ∧ SqT K H p [.str (Str.ofString "open")]
def OAnsOk (M : Mach) : OAns → Prop
  | .fin n ws ss => 1 ≤ n ∧ n ≤ 200 ∧ (∀ w ∈ ws, WOk M w ∧ w.length ≤ 50000) ∧ ws.length ≤ 50000 ∧ (∀ s ∈ ss, SOk M s ∧ s.length ≤ 50000)
  | .endl s m e h => SOk M s ∧ s.length ≤ 1000 ∧ 2 ≤ m ∧ m ≤ 2000 ∧ (e = 1 ∨ e = -1) ∧ WOk M h ∧ h.length ≤ 60
  | .opn => True
def OSays (M : Mach) (u : Wd) (r : Str) : OAns → Prop
  | .fin n _ _ => (r = Str.ofString "finite" ∧ Order M u n) ∨ r = Str.ofString "none"
  | .endl _ _ _ _ => (r = Str.ofString "endless" ∧ ∀ n, ¬ Order M u n) ∨ r = Str.ofString "none"
  | .opn => r = Str.ofString "none"
theorem ex_oans {K : PySem.W.Frag} {H H' : Hp} {x : V} {an : OAns} (e : Ex H H') (h : OAnsAt K H x an) : OAnsAt K H' x an := by
  cases an with
  | fin n ws ss =>
    obtain ⟨p, a, b, h1, h2, h3, h4⟩ := h
    exact ⟨p, a, b, h1, ex_t e h2, ex_l e h3, ex_l e h4⟩
  | endl s m ee h0 =>
    obtain ⟨p, a, h1, h2, h3⟩ := h
    exact ⟨p, a, h1, ex_t e h2, ex_t e h3⟩
  | opn =>
    obtain ⟨p, h1, h2⟩ := h
    exact ⟨p, h1, ex_t e h2⟩
def spOrdShown (K : PySem.W.Frag) : Sp := fun vs H Q _ => ∃ (M : Mach) (u : Wd) (an : OAns) (mv x : V), vs = [mv, .str (enc u), x] ∧ M.Ok ∧ MachAt K H mv M ∧ WOk M u ∧ u.length ≤ 20 ∧ OAnsAt K H x an ∧ OAnsOk M an ∧ ∀ r, OSays M u r an → RetV (.str r) H Q
section
variable {P : Program} {w : World} {K : PySem.W.Frag} {mg : Str → Option Value} {base : Heap} {M : Mach} {H : Hp} {mv : V}
section
variable {σ : L2.St} {D : Ends} {te tb : TE} {tz : TS}
/-- a call for its effect, its argument a new list -/
theorem q_callL1 {sp : Sp} {E : XK} {i : Nat} {x : V} {xs : List V} (hx : σ[i]? = some (some x)) (h : EvL te σ H xs) (k : ∀ p H1, H p = none → Ex H H1 → H1 p = some (.lst xs) → sp [x, .ref p] H1 (fun _ H2 => tz D σ H2) E) :
    tSeq (tDrop (tCall sp [] E (tCons (tVar i) (tCons te tNil)))) tz D σ H := ⟨x, hx, h H (Ex.refl H) _ fun p H1 hp e h1 => k p H1 hp e h1⟩
end
theorem sc_shown : FnScope ["machine", "one", "other", "answer", "kind", "evidence"] ["machine", "one", "other", "answer"] (defScope s_shown) := ⟨rfl, rfl, rfl, by decide +kernel, rfl, by decide +kernel, by decide +kernel⟩
theorem ok_shown (T : Tx K mg) : FnOk P w K mg base CX0 5 (He.fAd K d_shown.at_) (fdO K d_shown) ["machine", "one", "other", "answer"] (spShown K) := by
  refine (F_shown T).ok sc_shown (fun vs H Q E h => ?_) (fun cdv A outer s H vs Q E hr h => ?_)
  · obtain ⟨_, _, _, _, _, _, rfl, _⟩ := h
    rfl
  · obtain ⟨M, u, v, an, mv, x, rfl, O, hm, hu, hv, hul, hvl, hat, hok, k⟩ := h
    refine ⟨_, PSs.nox (pss_cons (ps_expr (pe_call (ok__check T) (hr.mono (by decide)) rfl (T__check T) (F__check T).kp (b__check T) .nil pass0 (pa_cons (pv 0) (pa_cons (pe_lst (pa_cons (pv 1) (pa_cons (pv 2) pa_nil))) pa_nil))))
      (pss_cons (ps_asg (pv 3) (pg_tupK (K := K) (n := 2) rfl rfl (pgs_cons (pg_name (i := 4) sc_shown.nd rfl (by first | exact Or.inl rfl | exact Or.inr rfl)) (pgs_cons (pg_name (i := 5) sc_shown.nd rfl (by first | exact Or.inl rfl | exact Or.inr rfl)) pgs_nil))))
      (pss_cons (ps_if (PW.pt (pw_and (pt_cmpR op_eq (pv 4) pe_str (nomark _)) (pw_and1 (pt_val (pe_call (ok__shows_equal T) hr rfl (T__shows_equal T) (F__shows_equal T).kp (b__shows_equal T) .nil pass0 (pa_cons (pv 0) (pa_cons (pv 1) (pa_cons (pv 2) (pa_cons (pv 5) pa_nil))))))))) (pss_one (ps_ret pe_str)) pss_nil)
      (pss_cons (ps_if (PW.pt (pw_and (pt_cmpR op_eq (pv 4) pe_str (nomark _)) (pw_and1 (pt_val (pe_call (ok__shows_apart T) (hr.mono (by decide)) rfl (T__shows_apart T) (F__shows_apart T).kp (b__shows_apart T) .nil pass0 (pa_cons (pv 0) (pa_cons (pv 1) (pa_cons (pv 2) (pa_cons (pv 5) pa_nil))))))))) (pss_one (ps_ret pe_str)) pss_nil)
      (pss_one (ps_ret (pe_gs (T_NONE T)))))))), ?_⟩
    refine q_callL1 (xs := wsV [u, v]) rfl (el_lst (ea_cons (ev_var rfl) (ea_cons (ev_var rfl) ea_nil)) le2) fun p H1 hp e1 h1 => ⟨M, [u, v], mv, p, rfl, O, ex_mach e1 hm, sq_of h1, fun y hy => ?_, fun H2 e2 => ?_⟩
    · simp at hy
      rcases hy with rfl | rfl
      · exact ⟨hu, hul⟩
      · exact ⟨hv, hvl⟩
    have E2 := e1.trans e2
    have hm2 := ex_mach E2 hm
    have hat2 := ex_ans E2 hat
    cases an with
    | eq ws =>
      obtain ⟨p2, a, rfl, h2, ha⟩ := hat2
      obtain ⟨bc, hbc⟩ := exB (cut (u ++ und v) ∈ ws ∧ IsCl M ws)
      refine q_unT (ev_var rfl) h2 fun H3 e3 => ?_
      refine q_when (et_and (a := true) (b := bc) (et_is (et_eq (ev_var rfl) ev_c rfl) (by decide +kernel)) (fun _ => et_B (ev_call (ea_cons (ev_var rfl) (ea_cons (ev_var rfl) (ea_cons (ev_var rfl) (ea_cons (ev_var rfl) ea_nil)))) ?_))) (fun hb H4 e4 => ?_) (fun hb H4 e4 => ?_)
      · exact fun _ e _ q _ => ⟨M, u, v, ws, mv, a, rfl, O, ex_mach (e3.trans e) hm2, hu, hv, hul, hvl, ex_l (e3.trans e) ha, hok.1, hok.2, fun b' hb' => by
          have : b' = bc := by
            cases bc <;> cases b' <;> simp_all
          subst this
          exact q⟩
      · have hc : bc = true := by simpa using hb
        exact s_ret ev_c fun H5 e5 => k _ (.inl ⟨rfl, hbc.mp hc⟩) H5 (((E2.trans e3).trans e4).trans e5)
      · have hc : ¬ bc = true := by simpa using hb
        refine q_when (b := false) (et_is (et_and (a := false) (b := false) (et_is (et_eq (ev_var rfl) ev_c rfl) (by decide +kernel)) (fun z => by cases z)) rfl) (fun z => by cases z) (fun _ H5 e5 => ?_)
        exact s_ret ev_c fun H6 e6 => k _ (.inr ⟨rfl, fun z => hc (hbc.mpr z)⟩) H6 ((((E2.trans e3).trans e4).trans e5).trans e6)
    | ap s0 =>
      obtain ⟨p2, rfl, h2⟩ := hat2
      obtain ⟨bc, hbc⟩ := exB (act M u s0 ≠ act M v s0)
      refine q_unT (ev_var rfl) h2 fun H3 e3 => ?_
      refine q_when (b := false) (et_is (et_and (a := false) (b := false) (et_is (et_eq (ev_var rfl) ev_c rfl) (by decide +kernel)) (fun z => by cases z)) rfl) (fun z => by cases z) (fun _ H4 e4 => ?_)
      refine q_when (et_and (a := true) (b := bc) (et_is (et_eq (ev_var rfl) ev_c rfl) (by decide +kernel)) (fun _ => et_B (ev_call (ea_cons (ev_var rfl) (ea_cons (ev_var rfl) (ea_cons (ev_var rfl) (ea_cons (ev_var rfl) ea_nil)))) ?_))) (fun hb H5 e5 => ?_) (fun hb H5 e5 => ?_)
      · exact fun _ e _ q _ => ⟨M, u, v, s0, mv, rfl, O, ex_mach ((e3.trans e4).trans e) hm2, hu, hv, hul, hvl, hok.1, hok.2, fun b' hb' => by
          have : b' = bc := by
            cases bc <;> cases b' <;> simp_all
          subst this
          exact q⟩
      · have hc : bc = true := by simpa using hb
        exact s_ret ev_c fun H6 e6 => k _ (.inl ⟨rfl, hbc.mp hc⟩) H6 ((((E2.trans e3).trans e4).trans e5).trans e6)
      · have hc : ¬ bc = true := by simpa using hb
        exact s_ret ev_c fun H6 e6 => k _ (.inr ⟨rfl, fun z => hc (hbc.mpr z)⟩) H6 ((((E2.trans e3).trans e4).trans e5).trans e6)
theorem sr_isfin {u : Wd} {n : Nat} {ws : List Wd} {ss : List (List Nat)} {a b : Addr} (O : M.Ok) (hm : MachAt K H mv M) (hu : WOk M u) (hul : u.length ≤ 60) (h1 : 1 ≤ n) (h2 : n ≤ 200) (ha : SqL K H a (wsV ws)) (hws : ∀ w ∈ ws, WOk M w ∧ w.length ≤ 50000) (hwl : ws.length ≤ 50000) (hb : SqL K H b (ssV ss)) (hss : ∀ s ∈ ss, SOk M s ∧ s.length ≤ 50000) :
    SpR (spIsFin K) [mv, .str (enc u), .int (n : Nat), .ref a, .ref b] H (fun v _ => ∃ r, v = .bl r ∧ (r = true → Order M u n)) :=
  fun _ e _ q _ => ⟨M, u, n, ws, ss, mv, a, b, rfl, O, ex_mach e hm, hu, hul, h1, h2, ex_l e ha, hws, hwl, ex_l e hb, hss, fun r hr H2 e2 => q _ H2 e2 ⟨r, rfl, hr⟩⟩
theorem sr_isendless {u h : Wd} {s : List Nat} {m : Nat} {e : Int} {wt : Addr} (O : M.Ok) (hm : MachAt K H mv M) (hu : WOk M u) (hul : u.length ≤ 20) (hw : SqT K H wt [.str (encD s), .int (m : Nat), .int e, .str (enc h)]) (hok : OAnsOk M (.endl s m e h)) :
    SpR (spIsEndless K) [mv, .str (enc u), .ref wt] H (fun v _ => ∃ r, v = .bl r ∧ (r = true → ∀ n, ¬ Order M u n)) := by
  obtain ⟨h1, h2, h3, h4, h5, h6, h7⟩ := hok
  exact fun _ e _ q _ => ⟨M, u, h, s, m, _, mv, wt, rfl, O, ex_mach e hm, hu, hul, ex_t e hw, h1, h2, h3, h4, h5, h6, h7, fun r hr H2 e2 => q _ H2 e2 ⟨r, rfl, hr⟩⟩
theorem sc_order_shown : FnScope ["machine", "word", "answer", "kind"] ["machine", "word", "answer"] (defScope s_order_shown) := ⟨rfl, rfl, rfl, by decide +kernel, rfl, by decide +kernel, by decide +kernel⟩
theorem ok_order_shown (T : Tx K mg) : FnOk P w K mg base CX0 5 (He.fAd K d_order_shown.at_) (fdO K d_order_shown) ["machine", "word", "answer"] (spOrdShown K) := by
  refine (F_order_shown T).ok sc_order_shown (fun vs H Q E h => ?_) (fun cdv A outer s H vs Q E hr h => ?_)
  · obtain ⟨_, _, _, _, _, rfl, _⟩ := h
    rfl
  · obtain ⟨M, u, an, mv, x, rfl, O, hm, hu, hul, hat, hok, k⟩ := h
    refine ⟨_, PSs.nox (pss_cons (ps_expr (pe_call (ok__check T) (hr.mono (by decide)) rfl (T__check T) (F__check T).kp (b__check T) .nil pass0 (pa_cons (pv 0) (pa_cons (pe_lst (pa_cons (pv 1) pa_nil)) pa_nil))))
      (pss_cons (ps_set (i := 3) sc_order_shown.nd rfl (.inl rfl) (pe_ix (ix_tupK (K := K) rfl) (pv 2) pe_int (fun _ _ => rfl)))
      (pss_cons (ps_if (PW.pt (pw_and (pt_cmpR op_eq (pv 3) pe_str (nomark _)) (pw_and1 (pt_val (pe_call (ok__is_finite T) hr rfl (T__is_finite T) (F__is_finite T).kp (b__is_finite T) .nil pass0 (pa_cons (pv 0) (pa_cons (pv 1) (pa_cons (pe_ix (ix_tupK (K := K) rfl) (pv 2) pe_int (fun _ _ => rfl)) (pa_cons (pe_ix (ix_tupK (K := K) rfl) (pv 2) pe_int (fun _ _ => rfl)) (pa_cons (pe_ix (ix_tupK (K := K) rfl) (pv 2) pe_int (fun _ _ => rfl)) pa_nil)))))))))) (pss_one (ps_ret pe_str)) pss_nil)
      (pss_cons (ps_if (PW.pt (pw_and (pt_cmpR op_eq (pv 3) pe_str (nomark _)) (pw_and1 (pt_val (pe_call (ok__is_endless T) hr rfl (T__is_endless T) (F__is_endless T).kp (b__is_endless T) .nil pass0 (pa_cons (pv 0) (pa_cons (pv 1) (pa_cons (pe_ix (ix_tupK (K := K) rfl) (pv 2) pe_int (fun _ _ => rfl)) pa_nil)))))))) (pss_one (ps_ret pe_str)) pss_nil)
      (pss_one (ps_ret (pe_gs (T_NONE T)))))))), ?_⟩
    refine q_callL1 (xs := wsV [u]) rfl (el_lst (ea_cons (ev_var rfl) ea_nil) le1) fun p H1 hp e1 h1 => ⟨M, [u], mv, p, rfl, O, ex_mach e1 hm, sq_of h1, fun y hy => ?_, fun H2 e2 => ?_⟩
    · simp at hy
      subst hy
      exact ⟨hu, by omega⟩
    have E2 := e1.trans e2
    have hm2 := ex_mach E2 hm
    have hat2 := ex_oans E2 hat
    cases an with
    | fin n ws ss =>
      obtain ⟨p2, a, b, rfl, h2, ha, hb⟩ := hat2
      obtain ⟨o1, o2, o3, o4, o5⟩ := hok
      refine q_asg (ev_ixT (ev_var rfl) ev_c h2 rfl) fun H3 e3 => ?_
      have h3 := ex_t e3 h2
      refine q_whenR (etR_and (a := true) (p := fun r => r = true → Order M u n) (et_is (et_eq (ev_var rfl) ev_c rfl) (by decide +kernel)) (fun _ => etR_B (er_call (ea_cons (ev_var rfl) (ea_cons (ev_var rfl) (ea_cons (ev_ixT (ev_var rfl) ev_c h3 rfl) (ea_cons (ev_ixT (ev_var rfl) ev_c h3 rfl) (ea_cons (ev_ixT (ev_var rfl) ev_c h3 rfl) ea_nil))))) (sr_isfin O (ex_mach e3 hm2) hu (by omega) o1 o2 (ex_l e3 ha) o3 o4 (ex_l e3 hb) o5))) (fun z => by cases z)) (fun hp H4 e4 => ?_) (fun _ H4 e4 => ?_)
      · exact s_ret ev_c fun H5 e5 => k _ (.inl ⟨rfl, hp rfl⟩) H5 (((E2.trans e3).trans e4).trans e5)
      · refine q_when (b := false) (et_is (et_and (a := false) (b := false) (et_is (et_eq (ev_var rfl) ev_c rfl) (by decide +kernel)) (fun z => by cases z)) rfl) (fun z => by cases z) (fun _ H5 e5 => ?_)
        exact s_ret ev_c fun H6 e6 => k _ (.inr rfl) H6 ((((E2.trans e3).trans e4).trans e5).trans e6)
    | endl s0 m e0 h0 =>
      obtain ⟨p2, a, rfl, h2, ha⟩ := hat2
      refine q_asg (ev_ixT (ev_var rfl) ev_c h2 rfl) fun H3 e3 => ?_
      have h3 := ex_t e3 h2
      refine q_when (b := false) (et_is (et_and (a := false) (b := false) (et_is (et_eq (ev_var rfl) ev_c rfl) (by decide +kernel)) (fun z => by cases z)) rfl) (fun z => by cases z) (fun _ H4 e4 => ?_)
      refine q_whenR (etR_and (a := true) (p := fun r => r = true → ∀ n, ¬ Order M u n) (et_is (et_eq (ev_var rfl) ev_c rfl) (by decide +kernel)) (fun _ => etR_B (er_call (ea_cons (ev_var rfl) (ea_cons (ev_var rfl) (ea_cons (ev_ixT (ev_var rfl) ev_c (ex_t e4 h3) rfl) ea_nil))) (sr_isendless O (ex_mach (e3.trans e4) hm2) hu hul (ex_t (e3.trans e4) ha) hok))) (fun z => by cases z)) (fun hp H5 e5 => ?_) (fun _ H5 e5 => ?_)
      · exact s_ret ev_c fun H6 e6 => k _ (.inl ⟨rfl, hp rfl⟩) H6 ((((E2.trans e3).trans e4).trans e5).trans e6)
      · exact s_ret ev_c fun H6 e6 => k _ (.inr rfl) H6 ((((E2.trans e3).trans e4).trans e5).trans e6)
    | opn =>
      obtain ⟨p2, rfl, h2⟩ := hat2
      refine q_asg (ev_ixT (ev_var rfl) ev_c h2 rfl) fun H3 e3 => ?_
      refine q_when (b := false) (et_is (et_and (a := false) (b := false) (et_is (et_eq (ev_var rfl) ev_c rfl) (by decide +kernel)) (fun z => by cases z)) rfl) (fun z => by cases z) (fun _ H4 e4 => ?_)
      refine q_when (b := false) (et_is (et_and (a := false) (b := false) (et_is (et_eq (ev_var rfl) ev_c rfl) (by decide +kernel)) (fun z => by cases z)) rfl) (fun z => by cases z) (fun _ H5 e5 => ?_)
      exact s_ret ev_c fun H6 e6 => k _ rfl H6 ((((E2.trans e3).trans e4).trans e5).trans e6)
end
end LT

set_option Elab.async false
set_option linter.all false
set_option maxRecDepth 100000
set_option maxHeartbeats 4000000
/-! machines and words: the checks -/
namespace LT
open PySem PySem.Spec PyProof.Rows L2 Evl
def spIsRow (K : PySem.W.Frag) : Sp := fun vs H Q _ => ∃ (M : Mach) (r : List (Nat × Nat)) (rv : V), vs = [rv, .int (M.k : Nat), .int (M.rows.length : Nat)] ∧ M.Ok ∧ RowAt K H rv r ∧ r ∈ M.rows ∧ RetV (.bl true) H Q
def spCheckM (K : PySem.W.Frag) : Sp := fun vs H Q _ => ∃ (M : Mach) (mv : V), vs = [mv] ∧ M.Ok ∧ MachAt K H mv M ∧ RetV .non H Q
def spLetters (K : PySem.W.Frag) : Sp := fun vs H Q _ => ∃ (M : Mach) (mv : V), vs = [mv] ∧ M.Ok ∧ MachAt K H mv M ∧ RetV (.str (cutS (Str.ofString "aAbBcCdDeEfFgGhH") none (some (2 * (M.rows.length : Int))))) H Q
def spIsWd (K : PySem.W.Frag) : Sp := fun vs H Q _ => ∃ (M : Mach) (u : Wd) (mv : V), vs = [mv, .str (enc u)] ∧ M.Ok ∧ MachAt K H mv M ∧ WOk M u ∧ u.length ≤ 50000 ∧ RetV (.bl true) H Q
def spRefuse (K : PySem.W.Frag) : Sp := fun vs H Q _ => ∃ (M : Mach) (u : Wd) (mv : V), vs = [mv, .str (enc u)] ∧ M.Ok ∧ MachAt K H mv M ∧ WOk M u ∧ u.length ≤ 60 ∧ RetV .non H Q
section
variable {P : Program} {w : World} {K : PySem.W.Frag} {mg : Str → Option Value} {base : Heap} {M : Mach} {H : Hp} {mv : V}
/-- [0 <= following < count for _, following in row] -/
theorem el_foll {σ : L2.St} {ta tc : TE} {rv : V} {r : List (Nat × Nat)} {i j n : Nat} (hr : RowAt K H rv r) (h : Ev ta σ H rv) (hj : j < σ.length) (hn : r.length ≤ 100) (hb : ∀ e ∈ r, e.2 < n) (hc : ∀ x y H1, Ex H H1 → Ev tc (((wipe σ [i, j]).set i x).set j y) H1 (.int (n : Nat))) :
    EvL (tLc (iTup K ta) (gTup K 2 (gCons (gName i) (gCons (gName j) gNil))) tYes (tChain (rI0 fun i j => .bl (decide (i ≤ j))) (rI0 fun i j => .bl (decide (i < j))) (tC (.int 0)) (tVar j) tc) [i, j]) σ H ((r.map fun _ => true).map V.bl) := by
  obtain ⟨p, vs, rfl, h2, h3⟩ := hr
  have hl := Paired.len h3
  have e : ((r.map fun _ => true).map V.bl) = given vs.length (fun _ => true) (fun _ => .bl true) := by
    rw [given_all, hl]
    apply List.ext_getElem <;> simp
  rw [e]
  refine el_lcTP (fun _ => true) _ h h2 (row_pairs h3) (by omega) (fun _ _ _ _ _ => et_yes) (fun m e H1 e1 he _ => ?_)
  rw [List.getElem?_map, Option.map_eq_some_iff] at he
  obtain ⟨ee, h4, rfl⟩ := he
  refine ev_is (ev_chain ev_c (ev_var (v := .int (ee.2 : Nat)) ?_) (hc _ _ H1 e1)) ?_
  · rw [List.getElem?_set_self (by simp [wipe]; exact hj)]
  · have := hb ee (List.mem_of_getElem? h4)
    simp
    omega
theorem sc__is_row : FnScope ["row", "k", "count", "_", "following", "out"] ["row", "k", "count"] (defScope s__is_row) := ⟨rfl, rfl, rfl, by decide +kernel, rfl, by decide +kernel, by decide +kernel⟩
theorem ok__is_row (T : Tx K mg) : FnOk P w K mg base CX0 1 (He.fAd K d__is_row.at_) (fdO K d__is_row) ["row", "k", "count"] (spIsRow K) := by
  refine (F__is_row T).ok sc__is_row (fun vs H Q E h => ?_) (fun cdv A outer s H vs Q E hr h => ?_)
  · obtain ⟨_, _, _, rfl, _⟩ := h
    rfl
  · obtain ⟨M, r, rv, rfl, O, hrw, hmem, k⟩ := h
    refine ⟨_, PSs.nox (pss_cons (ps_if (PW.pt (pw_or (pt_cmpR op_ne (pe_callB (call_lenK (K := K) rfl) (by rfl) (B_len T) PySem.boot_len (pa_cons (pv 0) pa_nil)) (pv 1) (nomark _)) (pw_or1 (pt_cmpR (op_neDK (K := K) rfl (hu64 hr)) (pe_callB (cr_sortedK (K := K) rfl) (by rfl) (B_sorted T) (by decide +kernel) (pa_cons (pe_lc (own := [("out", 5), ("_", 3)]) rfl sc__is_row.nd (pi_tupK (K := K) rfl (pv 0)) (blkOk_by (own := [("out", 5), ("_", 3)]) (N := ["row", "k", "count", "_", "following", "out"]) (sc := defScope s__is_row) (by decide +kernel)) (fun _ _ _ _ _ => (pg_tupK (K := K) (n := 2) rfl rfl (pgs_cons (pg_name (i := 5) sc__is_row.nd rfl (by first | exact Or.inl rfl | exact Or.inr rfl)) (pgs_cons (pg_name (i := 3) sc__is_row.nd rfl (by first | exact Or.inl rfl | exact Or.inr rfl)) pgs_nil)))) (fun _ _ _ _ _ => pts_nil) (fun _ _ _ _ _ => (pv 5))) pa_nil)) (pe_listRg rfl (by rfl) (B_list T) (prg_1 rfl (B_range T) (pv 1))) (nomark _))))) (pss_one (ps_ret pe_bl)) pss_nil)
      (pss_one (ps_ret (pe_callB (cr_allK (K := K) rfl rfl) (by rfl) (B_all T) (by decide +kernel) (pa_cons (pe_lc (own := [("_", 3), ("following", 4)]) rfl sc__is_row.nd (pi_tupK (K := K) rfl (pv 0)) (blkOk_by (own := [("_", 3), ("following", 4)]) (N := ["row", "k", "count", "_", "following", "out"]) (sc := defScope s__is_row) (by decide +kernel)) (fun _ _ _ _ _ => (pg_tupK (K := K) (n := 2) rfl rfl (pgs_cons (pg_name (i := 3) sc__is_row.nd rfl (by first | exact Or.inl rfl | exact Or.inr rfl)) (pgs_cons (pg_name (i := 4) sc__is_row.nd rfl (by first | exact Or.inl rfl | exact Or.inr rfl)) pgs_nil)))) (fun _ _ _ _ _ => pts_nil) (fun _ _ _ _ _ => (pe_chain op_le op_lt pe_int (pv 4) (pv 2)))) pa_nil))))), ?_⟩
    have hk3 := O.k3
    have hrl := row_len O hmem
    have hr0 := hrw
    obtain ⟨p, vs, rfl, h2, h3⟩ := hr0
    have hl := Paired.len h3
    refine q_when (b := false) (et_is (et_or (b := false) (et_ne (ev_lenT (ev_var rfl) h2) (ev_var rfl) rfl) (fun _ => et_test (ev_neRg hk3 (el_sorted ?_ (by rw [List.length_map, List.length_map, hrl]; omega) (row_perm O hmem) (rg_sorted _)) (el_listRg (ev_var rfl) (by omega))))) ?_) (fun z => by cases z) (fun _ H1 e1 => ?_)
    · rw [← ints_map]
      exact el_outs hrw (ev_var rfl) (show 5 < 6 by decide) (by decide) (by omega)
    · rw [hl, hrl]
      simp
    refine s_ret (ev_is (ev_all (el_foll (n := M.rows.length) (ex_row e1 hrw) (ev_var rfl) (show 4 < 6 by decide) (by omega) (O.nxt _ hmem) (fun _ _ _ _ => ev_var rfl))) ?_) fun H2 e2 => k H2 (e1.trans e2)
    simp
theorem sv_isrow {r : List (Nat × Nat)} {rv : V} (O : M.Ok) (hr : RowAt K H rv r) (hm : r ∈ M.rows) : SpV (spIsRow K) [rv, .int (M.k : Nat), .int (M.rows.length : Nat)] H (.bl true) := fun _ e _ q _ => ⟨M, r, rv, rfl, O, ex_row e hr, hm, q⟩
theorem sc_is_wide : FnScope ["machine", "k", "rows", "row"] ["machine"] (defScope s_is_wide) := ⟨rfl, rfl, rfl, by decide +kernel, rfl, by decide +kernel, by decide +kernel⟩
theorem ok_is_wide (T : Tx K mg) : FnOk P w K mg base CX0 2 (He.fAd K d_is_wide.at_) (fdO K d_is_wide) ["machine"] (spIsMach K) := by
  refine (F_is_wide T).ok sc_is_wide (fun vs H Q E h => ?_) (fun cdv A outer s H vs Q E hr h => ?_)
  · obtain ⟨_, _, rfl, _⟩ := h
    rfl
  · obtain ⟨M, mv, rfl, O, hm, k⟩ := h
    refine ⟨_, PSs.nox (pss_cons (ps_asg (pv 0) (pg_tupK (K := K) (n := 2) rfl rfl (pgs_cons (pg_name (i := 1) sc_is_wide.nd rfl (by first | exact Or.inl rfl | exact Or.inr rfl)) (pgs_cons (pg_name (i := 2) sc_is_wide.nd rfl (by first | exact Or.inl rfl | exact Or.inr rfl)) pgs_nil))))
      (pss_cons (ps_if (PW.pt (pw_or (pt_not (pt_chain op_le op_le (pe_gi (T_LEAST_DIGITS T)) (pv 1) (pe_gi (T_MOST_DIGITS_machines T)))) (pw_or1 (pt_not (pt_chain op_le op_le pe_int (pe_callB (call_lenK (K := K) rfl) (by rfl) (B_len T) PySem.boot_len (pa_cons (pv 2) pa_nil)) (pe_gi (T_MOST_WIDE T))))))) (pss_one (ps_ret pe_bl)) pss_nil)
      (pss_one (ps_ret (pe_callB (cr_allK (K := K) rfl rfl) (by rfl) (B_all T) (by decide +kernel) (pa_cons (pe_lc (own := [("row", 3)]) rfl sc_is_wide.nd (pi_tupK (K := K) rfl (pv 2)) (blkOk_by (own := [("row", 3)]) (N := ["machine", "k", "rows", "row"]) (sc := defScope s_is_wide) (by decide +kernel)) (fun _ _ _ _ _ => (pg_name (i := 3) sc_is_wide.nd rfl (by first | exact Or.inl rfl | exact Or.inr rfl))) (fun _ _ _ _ _ => pts_nil) (fun _ _ _ _ _ => (pe_call (ok__is_row T) hr rfl (T__is_row T) (F__is_row T).kp (b__is_row T) .nil pass0 (pa_cons (pv 3) (pa_cons (pv 1) (pa_cons (pe_callB (call_lenK (K := K) rfl) (by rfl) (B_len T) PySem.boot_len (pa_cons (pv 2) pa_nil)) pa_nil)))))) pa_nil)))))), ?_⟩
    obtain ⟨p, R, vs, rfl, h2, h3, h4⟩ := hm
    have hlen := Paired.len h4
    have hk2 := O.k2
    have hk3 := O.k3
    have hn1 := O.n1
    have hn4 := O.n4
    refine q_unT (ev_var rfl) h2 fun H1 e1 => ?_
    refine q_when (b := false) (et_is (et_or (et_not (et_chain ev_c (ev_var rfl) ev_c)) (fun _ => et_not (et_chain ev_c (ev_lenT (ev_var rfl) (ex_t e1 h3)) ev_c))) ?_) (fun hb => by cases hb) (fun _ H2 e2 => ?_)
    · simp
      rw [hlen]
      omega
    have E2 := e1.trans e2
    refine s_ret (ev_is (ev_all (bs := vs.map fun _ => true) ?_) ?_) fun H3 e3 => k H3 (E2.trans e3)
    · have e0 : ((vs.map fun _ => true).map V.bl) = given vs.length (fun _ => true) (fun _ => .bl true) := by
        rw [given_all]
        apply List.ext_getElem <;> simp
      rw [e0]
      refine el_lcT (fun _ => true) _ (ev_var rfl) (ex_t E2 h3) (by omega) (fun _ _ _ _ _ => et_yes) (fun i x H3 e3 hx _ => ?_)
      obtain ⟨r, hr, hrow⟩ := Paired.getL h4 hx
      refine ev_call (ea_cons (ev_var rfl) (ea_cons (ev_var rfl) (ea_cons (ev_is (ev_lenT (ev_var rfl) (ex_t (E2.trans e3) h3)) (by rw [hlen])) ea_nil))) (sv_isrow O (ex_row (E2.trans e3) hrow) (List.mem_of_getElem? hr))
    · simp
theorem sv_ismach' (O : M.Ok) (hm : MachAt K H mv M) : SpV (spIsMach K) [mv] H (.bl true) := fun _ e _ q _ => ⟨M, mv, rfl, O, ex_mach e hm, q⟩
theorem sc_is_machine : FnScope ["machine"] ["machine"] (defScope s_is_machine) := ⟨rfl, rfl, rfl, by decide +kernel, rfl, by decide +kernel, by decide +kernel⟩
theorem ok_is_machine (T : Tx K mg) : FnOk P w K mg base CX0 3 (He.fAd K d_is_machine.at_) (fdO K d_is_machine) ["machine"] (spIsMach K) := by
  refine (F_is_machine T).ok sc_is_machine (fun vs H Q E h => ?_) (fun cdv A outer s H vs Q E hr h => ?_)
  · obtain ⟨_, _, rfl, _⟩ := h
    rfl
  · obtain ⟨M, mv, rfl, O, hm, k⟩ := h
    refine ⟨_, PSs.nox (pss_one (ps_ret (pe_and (pe_cmpR op_le (pe_callB (call_lenK (K := K) rfl) (by rfl) (B_len T) PySem.boot_len (pa_cons (pe_ix (ix_tupK (K := K) rfl) (pv 0) pe_int (fun _ _ => rfl)) pa_nil)) (pe_gi (T_MOST_STATES_machines T)) (nomark _)) (pe_one (pe_call (ok_is_wide T) hr rfl (T_is_wide T) (F_is_wide T).kp (b_is_wide T) .nil pass0 (pa_cons (pv 0) pa_nil)))))), ?_⟩
    obtain ⟨R, vs, hR, hRs, hrows⟩ := ev_rows (σ := [some mv]) hm (te := tVar 0) (ev_var rfl)
    have hlen := Paired.len hrows
    have hn4 := O.n4
    refine s_ret (ev_is (ev_andV (ev_le (ev_lenT hR hRs) ev_c) (fun _ => ev_call (ea_cons (ev_var rfl) ea_nil) (sv_ismach' O hm))) ?_) k
    rw [hlen]
    simp
    omega
theorem sc_check_machine : FnScope ["machine"] ["machine"] (defScope s_check_machine) := ⟨rfl, rfl, rfl, by decide +kernel, rfl, by decide +kernel, by decide +kernel⟩
theorem ok_check_machine (T : Tx K mg) : FnOk P w K mg base CX0 4 (He.fAd K d_check_machine.at_) (fdO K d_check_machine) ["machine"] (spCheckM K) := by
  refine (F_check_machine T).ok sc_check_machine (fun vs H Q E h => ?_) (fun cdv A outer s H vs Q E hr h => ?_)
  · obtain ⟨_, _, rfl, _⟩ := h
    rfl
  · obtain ⟨M, mv, rfl, O, hm, k⟩ := h
    refine ⟨_, PSs.nox (pss_one (ps_if (pt_not (pt_val (pe_call (ok_is_machine T) hr rfl (T_is_machine T) (F_is_machine T).kp (b_is_machine T) .nil pass0 (pa_cons (pv 0) pa_nil)))) (pss_one ps_never) pss_nil)), ?_⟩
    exact s_when (b := false) (et_is (et_not (et_B (ev_call (ea_cons (ev_var rfl) ea_nil) (sv_ismach' O hm)))) rfl) (fun z => by cases z) (fun _ H1 e1 => k H1 e1)
theorem sc_letters_of : FnScope ["machine"] ["machine"] (defScope s_letters_of) := ⟨rfl, rfl, rfl, by decide +kernel, rfl, by decide +kernel, by decide +kernel⟩
theorem ok_letters_of (T : Tx K mg) : FnOk P w K mg base CX0 1 (He.fAd K d_letters_of.at_) (fdO K d_letters_of) ["machine"] (spLetters K) := by
  refine (F_letters_of T).ok sc_letters_of (fun vs H Q E h => ?_) (fun cdv A outer s H vs Q E hr h => ?_)
  · obtain ⟨_, _, rfl, _⟩ := h
    rfl
  · obtain ⟨M, mv, rfl, O, hm, k⟩ := h
    refine ⟨_, PSs.nox (pss_one (ps_ret (pe_slice sl_str (pe_gs (T_ORDER T)) po_none (po_some (pe_op op_mul pe_int (pe_callB (call_lenK (K := K) rfl) (by rfl) (B_len T) PySem.boot_len (pa_cons (pe_ix (ix_tupK (K := K) rfl) (pv 0) pe_int (fun _ _ => rfl)) pa_nil))))))), ?_⟩
    obtain ⟨R, vs, hR, hRs, hrows⟩ := ev_rows (σ := [some mv]) hm (te := tVar 0) (ev_var rfl)
    have hlen := Paired.len hrows
    refine s_ret (ev_is (ev_slS ev_c eo_none (eo_some (ev_mul ev_c (ev_lenT hR hRs) (by unfold CMul; omega))) (by decide)) ?_) k
    rw [hlen]
theorem sc_is_word : FnScope ["machine", "word", "allowed", "letter"] ["machine", "word"] (defScope s_is_word) := ⟨rfl, rfl, rfl, by decide +kernel, rfl, by decide +kernel, by decide +kernel⟩
theorem ok_is_word (T : Tx K mg) : FnOk P w K mg base CX0 2 (He.fAd K d_is_word.at_) (fdO K d_is_word) ["machine", "word"] (spIsWd K) := by
  refine (F_is_word T).ok sc_is_word (fun vs H Q E h => ?_) (fun cdv A outer s H vs Q E hr h => ?_)
  · obtain ⟨_, _, _, rfl, _⟩ := h
    rfl
  · obtain ⟨M, u, mv, rfl, O, hm, hu, hul, k⟩ := h
    refine ⟨_, PSs.nox (pss_cons (ps_set (i := 2) sc_is_word.nd rfl (.inr rfl) (pe_call (ok_letters_of T) hr rfl (T_letters_of T) (F_letters_of T).kp (b_letters_of T) .nil pass0 (pa_cons (pv 0) pa_nil)))
      (pss_one (ps_ret (pe_callB (cr_allK (K := K) rfl rfl) (by rfl) (B_all T) (by decide +kernel) (pa_cons (pe_lc (own := [("letter", 3)]) rfl sc_is_word.nd (pi_str (pv 1)) (blkOk_by (own := [("letter", 3)]) (N := ["machine", "word", "allowed", "letter"]) (sc := defScope s_is_word) (by decide +kernel)) (fun _ _ _ _ _ => (pg_name (i := 3) sc_is_word.nd rfl (by first | exact Or.inl rfl | exact Or.inr rfl))) (fun _ _ _ _ _ => pts_nil) (fun _ _ _ _ _ => (pe_cmpR op_in_sign (pv 3) (pv 2) rfl))) pa_nil))))), ?_⟩
    have hn4 := O.n4
    have h8 := hu.l8 O
    refine q_asg (ev_call (z := .str (cutS (Str.ofString "aAbBcCdDeEfFgGhH") none (some (2 * (M.rows.length : Int))))) (ea_cons (ev_var rfl) ea_nil) (fun _ e _ q _ => ⟨M, mv, rfl, O, ex_mach e hm, q⟩)) fun H1 e1 => ?_
    refine s_ret (ev_is (ev_all (bs := u.map fun _ => true) ?_) ?_) fun H2 e2 => k H2 (e1.trans e2)
    · have e0 : ((u.map fun _ => true).map V.bl) = given (enc u).cps.size (fun _ => true) (fun _ => V.bl true) := by
        rw [enc_size, given_all]
        apply List.ext_getElem <;> simp
      rw [e0]
      refine el_lcS (fun _ => true) _ (ev_var rfl) (by rw [enc_size]; omega) (fun i c H1 _ _ => et_yes) (fun i c H1 e1 hc _ => ?_)
      obtain ⟨l, hv, rfl⟩ := enc_get hc
      have hl8 := h8 l (List.mem_of_getElem? hv)
      refine ev_is (ev_inS (c := code l) (ev_var rfl) (ev_var rfl)) ?_
      rw [in_order hl8 _ (by omega)]
      exact congrArg V.bl (decide_eq_true (hu l (List.mem_of_getElem? hv)))
    · simp
theorem sc_refuse_word : FnScope ["machine", "word"] ["machine", "word"] (defScope s_refuse_word) := ⟨rfl, rfl, rfl, by decide +kernel, rfl, by decide +kernel, by decide +kernel⟩
theorem ok_refuse_word (T : Tx K mg) : FnOk P w K mg base CX0 3 (He.fAd K d_refuse_word.at_) (fdO K d_refuse_word) ["machine", "word"] (spRefuse K) := by
  refine (F_refuse_word T).ok sc_refuse_word (fun vs H Q E h => ?_) (fun cdv A outer s H vs Q E hr h => ?_)
  · obtain ⟨_, _, _, rfl, _⟩ := h
    rfl
  · obtain ⟨M, u, mv, rfl, O, hm, hu, hul, k⟩ := h
    refine ⟨_, PSs.nox (pss_one (ps_if (PW.pt (pw_or (pt_cmpR op_gt (pe_callB (call_lenK (K := K) rfl) (by rfl) (B_len T) PySem.boot_len (pa_cons (pv 1) pa_nil)) (pe_gi (T_LONGEST_words T)) (nomark _)) (pw_or1 (pt_not (pt_val (pe_call (ok_is_word T) hr rfl (T_is_word T) (F_is_word T).kp (b_is_word T) .nil pass0 (pa_cons (pv 0) (pa_cons (pv 1) pa_nil)))))))) (pss_one ps_never) pss_nil)), ?_⟩
    refine s_when (b := false) (et_is (et_or (et_test (ev_gt (ev_lenS (ev_var rfl) (by rw [enc_length]; omega)) ev_c)) (fun _ => et_not (et_B (ev_call (z := .bl true) (ea_cons (ev_var rfl) (ea_cons (ev_var rfl) ea_nil)) (fun _ e _ q _ => ⟨M, u, mv, rfl, O, ex_mach e hm, hu, by omega, q⟩))))) ?_) (fun z => by cases z) (fun _ H1 e1 => k H1 e1)
    rw [enc_length]
    simp
    omega
theorem sv_checkm (O : M.Ok) (hm : MachAt K H mv M) : SpV (spCheckM K) [mv] H .non := fun _ e _ q _ => ⟨M, mv, rfl, O, ex_mach e hm, q⟩
theorem sv_refuse {u : Wd} (O : M.Ok) (hm : MachAt K H mv M) (hu : WOk M u) (hl : u.length ≤ 60) : SpV (spRefuse K) [mv, .str (enc u)] H .non := fun _ e _ q _ => ⟨M, u, mv, rfl, O, ex_mach e hm, hu, hl, q⟩
theorem sc_check_word : FnScope ["machine", "word"] ["machine", "word"] (defScope s_check_word) := ⟨rfl, rfl, rfl, by decide +kernel, rfl, by decide +kernel, by decide +kernel⟩
theorem ok_check_word (T : Tx K mg) : FnOk P w K mg base CX0 5 (He.fAd K d_check_word.at_) (fdO K d_check_word) ["machine", "word"] (spRefuse K) := by
  refine (F_check_word T).ok sc_check_word (fun vs H Q E h => ?_) (fun cdv A outer s H vs Q E hr h => ?_)
  · obtain ⟨_, _, _, rfl, _⟩ := h
    rfl
  · obtain ⟨M, u, mv, rfl, O, hm, hu, hul, k⟩ := h
    refine ⟨_, PSs.nox (pss_cons (ps_expr (pe_call (ok_check_machine T) hr rfl (T_check_machine T) (F_check_machine T).kp (b_check_machine T) .nil pass0 (pa_cons (pv 0) pa_nil)))
      (pss_one (ps_expr (pe_call (ok_refuse_word T) (hr.mono (by decide)) rfl (T_refuse_word T) (F_refuse_word T).kp (b_refuse_word T) .nil pass0 (pa_cons (pv 0) (pa_cons (pv 1) pa_nil)))))), ?_⟩
    refine q_drop (ev_call (ea_cons (ev_var rfl) ea_nil) (sv_checkm O hm)) fun H1 e1 => ?_
    exact s_drop (ev_call (ea_cons (ev_var rfl) (ea_cons (ev_var rfl) ea_nil)) (sv_refuse O (ex_mach e1 hm) hu hul)) fun H2 e2 => k H2 (e1.trans e2)
theorem sc_check_words_wordmachine : FnScope ["machine", "words", "word"] ["machine", "words"] (defScope s_check_words_wordmachine) := ⟨rfl, rfl, rfl, by decide +kernel, rfl, by decide +kernel, by decide +kernel⟩
theorem ok_check_words_wordmachine (T : Tx K mg) : FnOk P w K mg base CX0 6 (He.fAd K d_check_words_wordmachine.at_) (fdO K d_check_words_wordmachine) ["machine", "words"] (spCheck K) := by
  refine (F_check_words_wordmachine T).ok sc_check_words_wordmachine (fun vs H Q E h => ?_) (fun cdv A outer s H vs Q E hr h => ?_)
  · obtain ⟨_, _, _, _, rfl, _⟩ := h
    rfl
  · obtain ⟨M, ws, mv, a, rfl, O, hm, ha, hws, k⟩ := h
    refine ⟨_, PSs.nox (pss_cons (ps_expr (pe_call (ok_check_machine T) (hr.mono (by decide)) rfl (T_check_machine T) (F_check_machine T).kp (b_check_machine T) .nil pass0 (pa_cons (pv 0) pa_nil)))
      (pss_one (ps_for PassesOwn.never rfl (pi_listK (K := K) rfl (pv 1)) (pg_name (i := 2) sc_check_words_wordmachine.nd rfl (by first | exact Or.inl rfl | exact Or.inr rfl)) (pss_one (ps_expr (pe_call (ok_check_word T) hr rfl (T_check_word T) (F_check_word T).kp (b_check_word T) .nil pass0 (pa_cons (pv 0) (pa_cons (pv 2) pa_nil)))))))), ?_⟩
    refine q_drop (ev_call (ea_cons (ev_var rfl) ea_nil) (sv_checkm O hm)) fun H1 e1 => ?_
    refine s_forLn (ev_var rfl) (ex_l e1 ha) (fun i σ' H' => ∃ c, σ' = [some mv, some (.ref a), c] ∧ Ex H H') (fun H2 e2 => ⟨none, rfl, e1.trans e2⟩) (fun i σ' H' _ ⟨_, _, e⟩ => ex_l e ha) ?_ ?_
    · rintro i x σ' H2 hx ⟨c, rfl, e2⟩
      obtain ⟨v, hv, rfl⟩ := wsV_get hx
      obtain ⟨h1, h2⟩ := hws v (List.mem_of_getElem? hv)
      exact s_drop (ev_call (ea_cons (ev_var rfl) (ea_cons (ev_var rfl) ea_nil)) (sv_refuse O (ex_mach e2 hm) h1 h2)) fun H3 e3 => ⟨_, rfl, e2.trans e3⟩
    · rintro σ' H2 ⟨c, rfl, e2⟩
      exact k H2 e2
theorem sc_check_words_decide : FnScope ["machine", "words", "word"] ["machine", "words"] (defScope s_check_words_decide) := ⟨rfl, rfl, rfl, by decide +kernel, rfl, by decide +kernel, by decide +kernel⟩
theorem ok_check_words_decide (T : Tx K mg) : FnOk P w K mg base CX0 6 (He.fAd K d_check_words_decide.at_) (fdO K d_check_words_decide) ["machine", "words"] (spCheck K) := by
  refine (F_check_words_decide T).ok sc_check_words_decide (fun vs H Q E h => ?_) (fun cdv A outer s H vs Q E hr h => ?_)
  · obtain ⟨_, _, _, _, rfl, _⟩ := h
    rfl
  · obtain ⟨M, ws, mv, a, rfl, O, hm, ha, hws, k⟩ := h
    refine ⟨_, PSs.nox (pss_cons (ps_expr (pe_call (ok_check_machine T) (hr.mono (by decide)) rfl (T_check_machine T) (F_check_machine T).kp (b_check_machine T) .nil pass0 (pa_cons (pv 0) pa_nil)))
      (pss_one (ps_for PassesOwn.never rfl (pi_listK (K := K) rfl (pv 1)) (pg_name (i := 2) sc_check_words_decide.nd rfl (by first | exact Or.inl rfl | exact Or.inr rfl)) (pss_one (ps_expr (pe_call (ok_check_word T) hr rfl (T_check_word T) (F_check_word T).kp (b_check_word T) .nil pass0 (pa_cons (pv 0) (pa_cons (pv 2) pa_nil)))))))), ?_⟩
    refine q_drop (ev_call (ea_cons (ev_var rfl) ea_nil) (sv_checkm O hm)) fun H1 e1 => ?_
    refine s_forLn (ev_var rfl) (ex_l e1 ha) (fun i σ' H' => ∃ c, σ' = [some mv, some (.ref a), c] ∧ Ex H H') (fun H2 e2 => ⟨none, rfl, e1.trans e2⟩) (fun i σ' H' _ ⟨_, _, e⟩ => ex_l e ha) ?_ ?_
    · rintro i x σ' H2 hx ⟨c, rfl, e2⟩
      obtain ⟨v, hv, rfl⟩ := wsV_get hx
      obtain ⟨h1, h2⟩ := hws v (List.mem_of_getElem? hv)
      exact s_drop (ev_call (ea_cons (ev_var rfl) (ea_cons (ev_var rfl) ea_nil)) (sv_refuse O (ex_mach e2 hm) h1 h2)) fun H3 e3 => ⟨_, rfl, e2.trans e3⟩
    · rintro σ' H2 ⟨c, rfl, e2⟩
      exact k H2 e2
end
end LT

set_option Elab.async false
set_option linter.all false
set_option maxRecDepth 100000
set_option maxHeartbeats 4000000
/-! comprehensions whose items are new objects; fields; dict reads -/
namespace LT
open PySem PySem.Spec PyProof.Rows L2 Evl
section
variable {K : PySem.W.Frag} {σ : L2.St} {H H' : Hp} {ta tb te tx td ty tv tn : TE} {t u : TT} {D : Ends} {tz tu tw : TS}
/-- a word about an item that stays true when the heap grows and when a list changes -/
structure Stb (R : V → Hp → Prop) : Prop where
  ex : ∀ v H1 H2, Ex H1 H2 → R v H1 → R v H2
  ls : ∀ v H1 Dl acc acc', H1 Dl = some (.lst acc) → R v H1 → R v (upd H1 Dl (.lst acc'))
def TupR (xs : List V) (v : V) (H : Hp) : Prop := ∃ q, v = .ref q ∧ H q = some (.tup xs)
theorem stb_tup (xs : List V) : Stb (TupR xs) := ⟨fun v H1 H2 e ⟨q, h1, h2⟩ => ⟨q, h1, e _ _ h2⟩, fun v H1 Dl acc acc' hD ⟨q, h1, h2⟩ => ⟨q, h1, by
  have : q ≠ Dl := fun z => by rw [z, hD] at h2; cases h2
  rw [upd_ne this]; exact h2⟩⟩
theorem stb_eq (x : V) : Stb (fun v _ => v = x) := ⟨fun _ _ _ _ h => h, fun _ _ _ _ _ _ h => h⟩
def EvLR (te : TE) (σ : L2.St) (H : Hp) (n : Nat) (R : Nat → V → Hp → Prop) : Prop := ∀ H1, Ex H H1 → ∀ Q : VK, (∀ p H2 ys, H1 p = none → Ex H1 H2 → H2 p = some (.lst ys) → Paired (fun i y => R i y H2) (List.range n) ys → Q (.ref p) H2) → te σ H1 Q
theorem lcG {J : It} {n : Nat} {G : Hp → Prop} {Y : Nat → Hp → V → Hp → Prop} (w : Walk J n G Y) {g : TG} {te : TE} {vs : List Nat} (hn : n ≤ 100000) (R : Nat → V → Hp → Prop) (hR : ∀ i, Stb (R i)) (hG : ∀ H', Ex H H' → G H')
    (hg : ∀ i x H1 H2 (F : L2.St → Hp → Prop), i < n → Ex H H1 → Y i H1 x H2 → (∀ σ2 H3, Ex H1 H3 → wipe σ2 vs = wipe σ vs → EvR te σ2 H3 (R i) → F σ2 H3) → g x (wipe σ vs) H2 F)
    {Q : VK} (hq : ∀ p H2 ys, H p = none → Ex H H2 → H2 p = some (.lst ys) → Paired (fun i y => R i y H2) (List.range n) ys → Q (.ref p) H2) :
    ∀ Dl, H Dl = none → ∃ W : Nat → Nat → Hp → Prop, (∃ m, W 0 m (upd H Dl (.lst []))) ∧ ∀ i m H, W i m H →
      (J.stop i H ∧ Q (.ref Dl) H) ∨ (J.go i H ∧ ∃ Nx : Hp → Prop, (∀ H', Nx H' → ∃ m', m' < m ∧ W (i + 1) m' H') ∧ ∀ x H', J.yld i H x H' → g x (wipe σ vs) H' fun σ2 H2 => wipe σ2 vs = wipe σ vs ∧ tYes σ2 H2 fun b H3 =>
        if b = true then te σ2 H3 fun y H4 => ∃ acc, H4 Dl = some (.lst acc) ∧ acc.length < sizeLine ∧ Nx (upd H4 Dl (.lst (acc ++ [y]))) else Nx H3) := by
  refine lcR w hn (fun _ => true) (fun Dl i v H => (∃ acc, H Dl = some (.lst acc)) ∧ R i v H) (fun Dl i v H1 H2 e ⟨⟨acc, h1⟩, h2⟩ => ⟨⟨acc, e _ _ h1⟩, (hR i).ex v H1 H2 e h2⟩) (fun Dl i v H1 acc ⟨⟨a, h1⟩, h2⟩ => ⟨⟨acc, upd_same⟩, (hR i).ls v H1 Dl a acc h1 h2⟩) hG (fun Dl i x H1 H2 ys Kt Kf hi _ e1 hD hy k1 _ => ?_) (fun p H2 ys hp e hl hP => hq p H2 ys hp e hl ?_)
  · refine hg i x H1 H2 _ hi e1 hy fun σ2 H3 e3 hw he => ⟨hw, et_yes H3 (Ex.refl _) _ fun H4 e4 => ?_⟩
    rw [if_pos rfl]
    exact he H4 e4 _ fun y H5 e5 r => k1 y H5 ((e3.trans e4).trans e5) ⟨⟨ys, ((e3.trans e4).trans e5) _ _ hD⟩, r⟩ rfl
  · rw [List.filter_eq_self.mpr (fun _ _ => rfl)] at hP
    exact Paired.imp (fun _ _ h => h.2) hP
/-- [e for i in range(n)] -/
theorem lr_R {ta : TA} {j : Nat} {n : Int} (R : Nat → V → Hp → Prop) (hR : ∀ i, Stb (R i)) (h : EvA ta σ H [.int n]) (hn : 0 ≤ n ∧ n ≤ 100000)
    (he : ∀ (i : Nat) H1, Ex H H1 → (i : Int) < n → EvR te ((wipe σ [j]).set j (some (.int (i : Nat)))) H1 (R i)) : EvLR (tLc (iRng1 ta) (gName j) tYes te [j]) σ H n.toNat R := fun H0 e Q q =>
  h H0 e _ fun H1 e1 => ⟨n, rfl, by omega, by omega, lcG walk_range (n := n.toNat) (by omega) R hR (fun _ _ => trivial) (fun i x H2 H3 F hi e2 hY k => by
    obtain ⟨rfl, rfl⟩ := hY
    have e0 : (0 : Int) + (i : Int) = (i : Int) := Int.zero_add _
    show gName j (V.int ((0 : Int) + (i : Int))) (wipe σ [j]) H3 F
    rw [e0]
    exact k _ H3 (Ex.refl _) wipe_set1 (he i H3 ((e.trans e1).trans e2) (by omega))) (fun p H2 ys hp e2 hl hP => q p H2 ys (fresh_back e1 hp) (e1.trans e2) hl hP)⟩
/-- [e for x in tuple] -/
theorem lr_T {a : Addr} {xs : List V} {j : Nat} (R : Nat → V → Hp → Prop) (hR : ∀ i, Stb (R i)) (h : Ev ta σ H (.ref a)) (hx : SqT K H a xs) (hn : xs.length ≤ 100000)
    (he : ∀ i x H1, Ex H H1 → xs[i]? = some x → EvR te ((wipe σ [j]).set j (some x)) H1 (R i)) : EvLR (tLc (iTup K ta) (gName j) tYes te [j]) σ H xs.length R := fun H0 e Q q =>
  h H0 e _ fun H1 e1 => ⟨a, rfl, ⟨xs, ex_t (e.trans e1) hx⟩, lcG walk_tup hn R hR (fun H2 e2 => ex_t ((e.trans e1).trans e2) hx) (fun i x H2 H3 F hi e2 hY k => by
    obtain ⟨rfl, hx'⟩ := hY
    exact k _ H3 (Ex.refl _) wipe_set1 (he i x H3 ((e.trans e1).trans e2) hx')) (fun p H2 ys hp e2 hl hP => q p H2 ys (fresh_back e1 hp) (e1.trans e2) hl hP)⟩
/-- [e for x in list] -/
theorem lr_L {a : Addr} {xs : List V} {j : Nat} (R : Nat → V → Hp → Prop) (hR : ∀ i, Stb (R i)) (h : Ev ta σ H (.ref a)) (hx : SqL K H a xs) (hn : xs.length ≤ 100000)
    (he : ∀ i x H1, Ex H H1 → xs[i]? = some x → EvR te ((wipe σ [j]).set j (some x)) H1 (R i)) : EvLR (tLc (iList K ta) (gName j) tYes te [j]) σ H xs.length R := fun H0 e Q q =>
  h H0 e _ fun H1 e1 => ⟨a, rfl, ⟨xs, ex_l (e.trans e1) hx⟩, lcG walk_list hn R hR (fun H2 e2 => ex_l ((e.trans e1).trans e2) hx) (fun i x H2 H3 F hi e2 hY k => by
    obtain ⟨rfl, hx'⟩ := hY
    exact k _ H3 (Ex.refl _) wipe_set1 (he i x H3 ((e.trans e1).trans e2) hx')) (fun p H2 ys hp e2 hl hP => q p H2 ys (fresh_back e1 hp) (e1.trans e2) hl hP)⟩
/-- [e for a, b in tuple of pairs] -/
theorem lr_TP {a : Addr} {xs : List V} {es : List (V × V)} {i j : Nat} (R : Nat → V → Hp → Prop) (hR : ∀ i, Stb (R i)) (h : Ev ta σ H (.ref a)) (hx : SqT K H a xs) (hp : Paired (fun v e => ∃ p, v = .ref p ∧ SqT K H p [e.1, e.2]) xs es) (hn : xs.length ≤ 100000)
    (he : ∀ n e H1, Ex H H1 → es[n]? = some e → EvR te (((wipe σ [i, j]).set i (some e.1)).set j (some e.2)) H1 (R n)) : EvLR (tLc (iTup K ta) (gTup K 2 (gCons (gName i) (gCons (gName j) gNil))) tYes te [i, j]) σ H xs.length R := fun H0 e Q q =>
  h H0 e _ fun H1 e1 => ⟨a, rfl, ⟨xs, ex_t (e.trans e1) hx⟩, lcG walk_tup hn R hR (fun H2 e2 => ex_t ((e.trans e1).trans e2) hx) (fun n x H2 H3 F hi e2 hY k => by
    obtain ⟨rfl, hx'⟩ := hY
    obtain ⟨ee, hee, p, rfl, hpp⟩ := Paired.getL hp hx'
    exact g_unT (ex_t ((e.trans e1).trans e2) hpp) (k _ H3 (Ex.refl _) wipe_set2 (he n ee H3 ((e.trans e1).trans e2) hee))) (fun p H2 ys hp e2 hl hP => q p H2 ys (fresh_back e1 hp) (e1.trans e2) hl hP)⟩
/-- [e for a, b in list of pairs] -/
theorem lr_LP {a : Addr} {xs : List V} {es : List (V × V)} {i j : Nat} (R : Nat → V → Hp → Prop) (hR : ∀ i, Stb (R i)) (h : Ev ta σ H (.ref a)) (hx : SqL K H a xs) (hp : Paired (fun v e => ∃ p, v = .ref p ∧ SqT K H p [e.1, e.2]) xs es) (hn : xs.length ≤ 100000)
    (he : ∀ n e H1, Ex H H1 → es[n]? = some e → EvR te (((wipe σ [i, j]).set i (some e.1)).set j (some e.2)) H1 (R n)) : EvLR (tLc (iList K ta) (gTup K 2 (gCons (gName i) (gCons (gName j) gNil))) tYes te [i, j]) σ H xs.length R := fun H0 e Q q =>
  h H0 e _ fun H1 e1 => ⟨a, rfl, ⟨xs, ex_l (e.trans e1) hx⟩, lcG walk_list hn R hR (fun H2 e2 => ex_l ((e.trans e1).trans e2) hx) (fun n x H2 H3 F hi e2 hY k => by
    obtain ⟨rfl, hx'⟩ := hY
    obtain ⟨ee, hee, p, rfl, hpp⟩ := Paired.getL hp hx'
    exact g_unT (ex_t ((e.trans e1).trans e2) hpp) (k _ H3 (Ex.refl _) wipe_set2 (he n ee H3 ((e.trans e1).trans e2) hee))) (fun p H2 ys hp e2 hl hP => q p H2 ys (fresh_back e1 hp) (e1.trans e2) hl hP)⟩
theorem EvLR.eqs {n : Nat} {v : Nat → V} (h : EvLR te σ H n (fun i y _ => y = v i)) : EvL te σ H ((List.range n).map v) := fun H1 e Q q => h H1 e Q fun p H2 ys hp e2 hl hP => q p H2 hp e2 (by rw [hl, paired_map hP])
theorem EvU.tupR {xs : List V} (h : EvU te σ H xs) : EvR te σ H (TupR xs) := fun H1 e Q q => h H1 e Q fun p H2 _ e2 hp => q _ H2 e2 ⟨p, rfl, hp⟩
/-! fields and dict reads -/
theorem ev_fld {a C dx : Addr} {fs : List (Str × V)} {f : Str} {v : V} (h : Ev ta σ H (.ref a)) (hH : H a = some (.ins C dx fs)) (hc : Cls K C) (hn : NoAttr K C f) (hl : fs.lookup f = some v) : Ev (tFld K ta f) σ H v := fun H1 e Q q =>
  h H1 e _ fun H2 e2 => ⟨a, C, dx, fs, v, rfl, (e.trans e2) a _ hH, hc, hn, hl, q H2 e2⟩
theorem ev_dget {d : Addr} {tb : List (Key × V)} {k : Key} {v : V} (hd : Ev td σ H (.ref d)) (hk : Ev ty σ H (kV k)) (h : H d = some (.dK tb)) (hv : valV tb k = some v) : Ev (tDGet td ty) σ H v := fun H1 e Q q =>
  hd H1 e _ fun H2 e2 => hk H2 (e.trans e2) _ fun H3 e3 => ⟨d, v, rfl, by rw [← hv]; exact DGet.k (((e.trans e2).trans e3) d _ h), q H3 (e2.trans e3)⟩
theorem s_fld {a C dx : Addr} {fs : List (Str × V)} {f : Str} {y : V} (hv : Ev tv σ H y) (ho : Ev ta σ H (.ref a)) (hH : H a = some (.ins C dx fs)) (hc : Cls K C) (hn : NoAttr K C f) (hl : fs.length < 1000) (k : ∀ H1, Ex H H1 → D.nx σ (upd H1 a (.ins C dx (putF f y fs)))) : sFld K ta tv f D σ H :=
  hv H (Ex.refl H) _ fun H1 e1 => ho H1 e1 _ fun H2 e2 => ⟨a, C, dx, fs, rfl, (e1.trans e2) a _ hH, hc, hn, hl, k H2 (e1.trans e2)⟩
theorem q_fld {a C dx : Addr} {fs : List (Str × V)} {f : Str} {y : V} (hv : Ev tv σ H y) (ho : Ev ta σ H (.ref a)) (hH : H a = some (.ins C dx fs)) (hc : Cls K C) (hn : NoAttr K C f) (hl : fs.length < 1000) (k : ∀ H1, Ex H H1 → tz D σ (upd H1 a (.ins C dx (putF f y fs)))) : tSeq (sFld K ta tv f) tz D σ H := s_fld (D := { D with nx := tz D }) hv ho hH hc hn hl k
/-- self.f = {} -/
theorem q_fldD {a C dx : Addr} {fs : List (Str × V)} {f : Str} (ho : ∀ H1, Ex H H1 → Ev ta σ H1 (.ref a)) (hH : H a = some (.ins C dx fs)) (hc : Cls K C) (hn : NoAttr K C f) (hl : fs.length < 1000) (k : ∀ d H1, H d = none → d ≠ a → Ex (upd H d (.dK [])) H1 → tz D σ (upd H1 a (.ins C dx (putF f (.ref d) fs)))) : tSeq (sFld K ta tDNewK f) tz D σ H :=
  fun p hp => ho (upd H p (.dK [])) (Ex.new hp) _ (Ex.refl _) _ fun H2 e2 => ⟨a, C, dx, fs, rfl, (Ex.new hp).trans e2 a _ hH, hc, hn, hl, k p H2 hp (fun z => by rw [z, hH] at hp; cases hp) e2⟩
/-- d[k] = a value known -/
theorem s_dputG {d : Addr} {tb : List (Key × V)} {k : Key} {v : V} (hv : Ev tv σ H v) (hd : Ev td σ H (.ref d)) (hk : Ev ty σ H (kV k)) (h : H d = some (.dK tb)) (hl : tb.length < 100000) (kk : ∀ H1, Ex H H1 → D.nx σ (upd H1 d (.dK (putK tb k v)))) : sDPut td ty tv D σ H :=
  hv H (Ex.refl H) _ fun H1 e1 => hd H1 e1 _ fun H2 e2 => hk H2 (e1.trans e2) _ fun H3 e3 => ⟨d, _, rfl, DPut.k (((e1.trans e2).trans e3) d _ h) (sz_lt hl), kk H3 ((e1.trans e2).trans e3)⟩
/-- d[k] = a new list -/
theorem q_dputL {d : Addr} {tb : List (Key × V)} {k : Key} {n : Nat} {R : Nat → V → Hp → Prop} (hv : EvLR tv σ H n R) (hd : Ev td σ H (.ref d)) (hk : Ev ty σ H (kV k)) (h : H d = some (.dK tb)) (hl : tb.length < 100000) (hR : ∀ i, Stb (R i))
    (kk : ∀ p H1 ys, H p = none → Ex H H1 → H1 p = some (.lst ys) → Paired (fun i y => R i y H1) (List.range n) ys → tz D σ (upd H1 d (.dK (putK tb k (.ref p))))) : tSeq (sDPut td ty tv) tz D σ H :=
  hv H (Ex.refl H) _ fun p H1 ys hp e1 h1 hP => hd H1 e1 _ fun H2 e2 => hk H2 (e1.trans e2) _ fun H3 e3 => ⟨d, _, rfl, DPut.k (((e1.trans e2).trans e3) d _ h) (sz_lt hl), kk p H3 ys hp ((e1.trans e2).trans e3) ((e2.trans e3) p _ h1) (Paired.imp (fun i y hh => (hR i).ex y H1 H3 (e2.trans e3) hh) hP)⟩
/-- xs[j] = a new tuple -/
theorem s_asgSub {to ti : TE} {p : Addr} {xs ys : List V} {j : Nat} (h : EvU te σ H xs) (ho : Ev to σ H (.ref p)) (hi : Ev ti σ H (.int (j : Nat))) (hp : H p = some (.lst ys)) (hj : j < ys.length) (k : ∀ q H1, H q = none → Ex H H1 → H1 q = some (.tup xs) → D.nx σ (upd H1 p (.lst (ys.set j (.ref q))))) : tAsg te (gSub to ti rSetL) D σ H :=
  h H (Ex.refl H) _ fun q H1 hq e1 h1 => ho H1 e1 _ fun H2 e2 => hi H2 (e1.trans e2) _ fun H3 e3 => ⟨p, ys, _, j, rfl, rfl, ((e1.trans e2).trans e3) p _ hp, ixN_nat hj, k q H3 hq ((e1.trans e2).trans e3) ((e2.trans e3) q _ h1)⟩
/-- [new tuple] * n -/
theorem q_rep {i n : Nat} {xs : List V} (h : EvU te σ H xs) (hn : Ev tn σ H (.int (n : Nat))) (hl : n ≤ 1000) (k : ∀ p x H1, H p = none → Ex H H1 → H1 p = some (.lst (List.replicate n x)) → tz D (σ.set i (some (.ref p))) H1) : tSeq (tAsg (tOp rRep (tLst (tCons te tNil)) tn) (gName i)) tz D σ H :=
  h H (Ex.refl H) _ fun q H1 hq e1 h1 => ⟨sz_of le1, fun l hl' => hn (upd H1 l (.lst [.ref q])) (e1.trans (Ex.new hl')) _ fun H2 e2 => ⟨l, n, [.ref q], rfl, rfl, e2 l _ upd_same, by omega, by omega, by rw [sizeLine_eq]; simp; omega, fun p hp => by
    have e3 := (Ex.new hl').trans e2
    refine k p (.ref q) _ (fresh_back e1 (fresh_back e3 hp)) ((e1.trans e3).trans (Ex.new hp)) ?_
    rw [upd_same]
    have : (List.replicate (n : Int).toNat [V.ref q]).flatten = List.replicate n (.ref q) := by simp
    rw [this]⟩⟩
theorem g_unT2 {i j k : Nat} {a b c : V} {p p2 : Addr} {Q : L2.St → Hp → Prop} (hp : SqT K H p [a, .ref p2]) (hp2 : SqT K H p2 [b, c]) (kk : Q (((σ.set i (some a)).set j (some b)).set k (some c)) H) :
    gTup K 2 (gCons (gName i) (gCons (gTup K 2 (gCons (gName j) (gCons (gName k) gNil))) gNil)) (.ref p) σ H Q :=
  ⟨p, [a, .ref p2], rfl, hp, rfl, a, [.ref p2], rfl, .ref p2, [], rfl, p2, [b, c], rfl, hp2, rfl, b, [c], rfl, c, [], rfl, rfl, rfl, kk⟩
end
end LT

set_option Elab.async false
set_option linter.all false
set_option maxRecDepth 100000
set_option maxHeartbeats 4000000
/-! Actor.__init__, Actor.step -/
namespace LT
open PySem PySem.Spec PyProof.Rows L2 Evl
def Keep (H H' : Hp) : Prop := ∀ x o, H x = some o → (∀ kvs, o ≠ .dK kvs) → H' x = some o
theorem Keep.ofEx {H H' : Hp} (e : Ex H H') : Keep H H' := fun x o h _ => e x o h
theorem Keep.trans {H H1 H2 : Hp} (a : Keep H H1) (b : Keep H1 H2) : Keep H H2 := fun x o h n => b x o (a x o h n) n
theorem Keep.dict {H : Hp} {d : Addr} {tb : List (Key × V)} {o : HO} (h : H d = some (.dK tb)) : Keep H (upd H d o) := fun x u hu n => by
  have : x ≠ d := fun z => by
    rw [z, h] at hu
    exact n tb (Option.some.inj hu).symm
  rw [upd_ne this]
  exact hu
def TabAt (H : Hp) (tb : List (Key × V)) (M : Mach) (n : Nat) : Prop := ∀ l : Lt, l.1 < n → ∃ x vs, valV tb (Sum.inr (enc [l])) = some (.ref x) ∧ H x = some (.lst vs) ∧
  ∀ e, e < M.k → ∃ v, vs[e]? = some v ∧ TupR [.int ((lstep M l e).1 : Nat), .str (enc [(lstep M l e).2])] v H
theorem TabAt.keep {H H' : Hp} {tb : List (Key × V)} {M : Mach} {n : Nat} (k : Keep H H') (h : TabAt H tb M n) : TabAt H' tb M n := fun l hl => by
  obtain ⟨x, vs, h1, h2, h3⟩ := h l hl
  refine ⟨x, vs, h1, k x _ h2 (fun _ z => by cases z), fun e he => ?_⟩
  obtain ⟨v, h4, q, h5, h6⟩ := h3 e he
  exact ⟨v, h4, q, h5, k q _ h6 (fun _ z => by cases z)⟩
def ActorAt (K : PySem.W.Frag) (H : Hp) (av : V) (M : Mach) : Prop := ∃ a dx d tb, av = .ref a ∧ H a = some (.ins (He.ga K "Actor") dx [("size", .int (M.k : Nat)), ("table", .ref d)]) ∧ H d = some (.dK tb) ∧ TabAt H tb M M.rows.length
theorem ex_actor {K : PySem.W.Frag} {H H' : Hp} {av : V} {M : Mach} (e : Ex H H') (h : ActorAt K H av M) : ActorAt K H' av M := by
  obtain ⟨a, dx, d, tb, h1, h2, h3, h4⟩ := h
  exact ⟨a, dx, d, tb, h1, e _ _ h2, e _ _ h3, h4.keep (.ofEx e)⟩
def spInit (K : PySem.W.Frag) : Sp := fun vs H Q _ => ∃ (M : Mach) (mv : V) (a dx : Addr) (H0 : Hp), vs = [.ref a, mv] ∧ M.Ok ∧ MachAt K H0 mv M ∧ H0 a = none ∧ Ex H0 H ∧ H a = some (.ins (He.ga K "Actor") dx []) ∧
  ∀ H2, Ex H0 H2 → ActorAt K H2 (.ref a) M → Q .non H2
def spStep (K : PySem.W.Frag) : Sp := fun vs H Q _ => ∃ (M : Mach) (w : Wd) (d : Nat) (av : V), vs = [av, .str (enc w), .int (d : Nat)] ∧ M.Ok ∧ ActorAt K H av M ∧ WOk M w ∧ d < M.k ∧ w.length ≤ 50000 ∧
  RetU [.int ((passed M w d).1 : Nat), .str (enc (passed M w d).2)] H Q
section
variable {P : Program} {w : World} {K : PySem.W.Frag} {mg : Str → Option Value} {base : Heap} {M : Mach} {H : Hp} {mv : V}
theorem one_inj {x y : Lt} (hx : x.1 < 8) (hy : y.1 < 8) : ((Sum.inr (enc [x]) : Key) = Sum.inr (enc [y])) ↔ x = y := by
  have := key_eq (x := [x]) (y := [y]) (fun l hl => by simp at hl; subst hl; exact hx) (fun l hl => by simp at hl; subst hl; exact hy)
  rw [this]
  simp
theorem sc_Actor_init : FnScope ["self", "machine", "state", "row", "back", "digit", "out", "following"] ["self", "machine"] (defScope s_Actor_init) := ⟨rfl, rfl, rfl, by decide +kernel, rfl, by decide +kernel, by decide +kernel⟩
theorem ok_Actor_init (T : Tx K mg) : FnOk P w K mg base CX0 1 (He.fAd K d_Actor_init.at_) (fdO K d_Actor_init) ["self", "machine"] (spInit K) := by
  refine (F_Actor_init T).ok sc_Actor_init (fun vs H Q E h => ?_) (fun cdv A outer s H vs Q E hr h => ?_)
  · obtain ⟨_, _, _, _, _, rfl, _⟩ := h
    rfl
  · obtain ⟨M, mv, a, dx, H0, rfl, O, hm, ha0, e0, hA, k⟩ := h
    refine ⟨_, PSs.nox (pss_cons (ps_fld (pv 0) (pe_ix (ix_tupK (K := K) rfl) (pv 1) pe_int (fun _ _ => rfl)) rfl)
      (pss_cons (ps_fld (pv 0) pe_dnewK rfl)
      (pss_one (ps_for PassesOwn.never rfl (pi_enumTK (K := K) rfl rfl (B_enumerate T) (pa_cons (pe_ix (ix_tupK (K := K) rfl) (pv 1) pe_int (fun _ _ => rfl)) pa_nil)) (pg_tupK (K := K) (n := 2) rfl rfl (pgs_cons (pg_name (i := 2) sc_Actor_init.nd rfl (by first | exact Or.inl rfl | exact Or.inr rfl)) (pgs_cons (pg_name (i := 3) sc_Actor_init.nd rfl (by first | exact Or.inl rfl | exact Or.inr rfl)) pgs_nil))) (pss_cons (ps_set (i := 4) sc_Actor_init.nd rfl (.inl rfl) (pe_op op_rep (pe_lst (pa_cons (pe_tup (pa_cons pe_int (pa_cons pe_str pa_nil))) pa_nil)) (pe_fldK (K := K) rfl (pv 0) rfl)))
      (pss_cons (ps_for PassesOwn.never rfl (pi_enumTK (K := K) rfl rfl (B_enumerate T) (pa_cons (pv 3) pa_nil)) (pg_tupK (K := K) (n := 2) rfl rfl (pgs_cons (pg_name (i := 5) sc_Actor_init.nd rfl (by first | exact Or.inl rfl | exact Or.inr rfl)) (pgs_cons (pg_tupK (K := K) (n := 2) rfl rfl (pgs_cons (pg_name (i := 6) sc_Actor_init.nd rfl (by first | exact Or.inl rfl | exact Or.inr rfl)) (pgs_cons (pg_name (i := 7) sc_Actor_init.nd rfl (by first | exact Or.inl rfl | exact Or.inr rfl)) pgs_nil))) pgs_nil))) (pss_one (ps_asg (pe_tup (pa_cons (pv 5) (pa_cons (pe_ix ix_str (pe_gs (T_LARGE T)) (pv 7) (fun _ _ => rfl)) pa_nil))) (pg_sub (pv 4) (pv 6) set_list))))
      (pss_cons (ps_dput (hu_of hr) (pe_fldK (K := K) rfl (pv 0) rfl) (pe_ix ix_str (pe_gs (T_SMALL_words T)) (pv 2) (fun _ _ => rfl)) (pe_lc (own := [("out", 6), ("following", 7)]) rfl sc_Actor_init.nd (pi_tupK (K := K) rfl (pv 3)) (blkOk_by (own := [("out", 6), ("following", 7)]) (N := ["self", "machine", "state", "row", "back", "digit", "out", "following"]) (sc := defScope s_Actor_init) (by decide +kernel)) (fun _ _ _ _ _ => (pg_tupK (K := K) (n := 2) rfl rfl (pgs_cons (pg_name (i := 6) sc_Actor_init.nd rfl (by first | exact Or.inl rfl | exact Or.inr rfl)) (pgs_cons (pg_name (i := 7) sc_Actor_init.nd rfl (by first | exact Or.inl rfl | exact Or.inr rfl)) pgs_nil)))) (fun _ _ _ _ _ => pts_nil) (fun _ _ _ _ _ => (pe_tup (pa_cons (pv 6) (pa_cons (pe_ix ix_str (pe_gs (T_SMALL_words T)) (pv 7) (fun _ _ => rfl)) pa_nil))))) rfl)
      (pss_one (ps_dput (hu_of hr) (pe_fldK (K := K) rfl (pv 0) rfl) (pe_ix ix_str (pe_gs (T_LARGE T)) (pv 2) (fun _ _ => rfl)) (pv 4) rfl))))))))), ?_⟩
    have hn4 := O.n4
    have hk3 := O.k3
    refine q_fld (ev_k (ex_mach e0 hm) (ev_var rfl)) (ev_var rfl) hA (C_Actor T) (A_size T) (show 0 < 1000 by decide) fun H1 e1 => ?_
    have EA := Ex.mut (o := HO.ins (He.ga K "Actor") dx (putF "size" (.int (M.k : Nat)) [])) (e0.trans e1) ha0
    refine q_fldD (fun _ _ => ev_var rfl) upd_same (C_Actor T) (A_table T) (show 1 < 1000 by decide) fun d H2 hd hda e2 => ?_
    have hd0 : H0 d = none := fresh_back EA hd
    have EB := Ex.mut (o := HO.ins (He.ga K "Actor") dx [("size", .int (M.k : Nat)), ("table", .ref d)]) (EA.trans ((Ex.new hd).trans e2)) ha0
    show tFor _ _ _ _ _ (upd H2 a (HO.ins (He.ga K "Actor") dx [("size", .int (M.k : Nat)), ("table", .ref d)]))
    have hBa : (upd H2 a (HO.ins (He.ga K "Actor") dx [("size", .int (M.k : Nat)), ("table", .ref d)])) a = some (HO.ins (He.ga K "Actor") dx [("size", .int (M.k : Nat)), ("table", .ref d)]) := upd_same
    have hBd : (upd H2 a (HO.ins (He.ga K "Actor") dx [("size", .int (M.k : Nat)), ("table", .ref d)])) d = some (.dK []) := by rw [upd_ne hda]; exact e2 d _ upd_same
    generalize (upd H2 a (HO.ins (He.ga K "Actor") dx [("size", .int (M.k : Nat)), ("table", .ref d)])) = HB at EB hBa hBd
    have hm' := hm
    obtain ⟨pm, R, vsR, rfl, hm2, hRs, hrows⟩ := hm'
    have hlen := Paired.len hrows
    refine s_forE (ev_ixT (ev_var rfl) ev_c (ex_t EB hm2) rfl) (ex_t EB hRs) (fun i σ' H' => ∃ c2 c3 c4 c5 c6 c7, σ' = [some (.ref a), some (.ref pm), c2, c3, c4, c5, c6, c7] ∧ Ex H0 H' ∧ H' a = some (HO.ins (He.ga K "Actor") dx [("size", .int (M.k : Nat)), ("table", .ref d)]) ∧ ∃ tb, H' d = some (.dK tb) ∧ tb.length ≤ 2 * i ∧ TabAt H' tb M i) ?_ (fun i σ' H' _ ⟨_, _, _, _, _, _, _, e, _⟩ => ex_t e hRs) ?_ ?_
    · exact fun H3 e3 => ⟨_, _, _, _, _, _, rfl, EB.trans e3, e3 _ _ hBa, [], e3 _ _ hBd, by simp, fun l hl => by omega⟩
    · rintro i x q σ' H' hx hq ⟨c2, c3, c4, c5, c6, c7, rfl, E1, hA1, tb, hD1, htl, htab⟩
      obtain ⟨r, hr, hrow0⟩ := Paired.getL hrows hx
      have hrow := ex_row E1 hrow0
      have hi : i < M.rows.length := (List.getElem?_eq_some_iff.mp hr).1
      have hri : M.row i = r := by
        have := M.row_get hi
        rw [hr] at this
        exact (Option.some.inj this).symm
      have hmem := List.mem_of_getElem? hr
      have hrl := row_len O hmem
      obtain ⟨pr, vsr, rfl, hr2, hr3⟩ := hrow
      have hvl := Paired.len hr3
      have eq1 : Ex H' (upd H' q (.tup [.int (i : Nat), .ref pr])) := Ex.new hq
      refine g_unT (st_of upd_same) ?_
      refine q_rep (n := M.k) (eu_tup (ea_cons ev_c (ea_cons ev_c ea_nil)) le2) (ev_fld (ev_var rfl) (eq1 _ _ hA1) (C_Actor T) (A_size T) rfl) (by omega) fun b x0 H3 hb e3 h3 => ?_
      have hb0 : H' b = none := fresh_back eq1 hb
      have e13 := eq1.trans e3
      refine q_forE (ev_var rfl) (ex_t e13 hr2) (fun j σ'' H'' => ∃ c5 c6 c7, σ'' = [some (.ref a), some (.ref pm), some (.int (i : Nat)), some (.ref pr), some (.ref b), c5, c6, c7] ∧ Ex H' H'' ∧ SqT K H'' pr vsr ∧ Paired (PairAt K H'') vsr r ∧ ∃ bs, H'' b = some (.lst bs) ∧ bs.length = M.k ∧ ∀ e, e < j → ∃ v, bs[(r.getD e (0, 0)).1]? = some v ∧ TupR [.int (e : Nat), .str (enc [((r.getD e (0, 0)).2, true)])] v H'') ?_ (fun j σ'' H'' _ ⟨_, _, _, _, _, h, _⟩ => h) ?_ ?_
      · exact fun H4 e4 => ⟨c5, c6, c7, rfl, e13.trans e4, ex_t (e13.trans e4) hr2, Paired.imp (fun _ _ => ex_pair (e13.trans e4)) hr3, List.replicate M.k x0, e4 _ _ h3, by simp, fun e he => by omega⟩
      · rintro j y q2 σ'' H4 hy hq2 ⟨c5, c6, c7, rfl, E4, hr24, hr34, bs, hbs, hbl, hall⟩
        obtain ⟨ee, hee, pp, rfl, hpp⟩ := Paired.getL hr34 hy
        have hj : j < r.length := (List.getElem?_eq_some_iff.mp hee).1
        have hgd : r.getD j (0, 0) = ee := getD_of hee
        have hout : ee.1 < M.k := by
          have h1 : ee.1 ∈ r.map (·.1) := List.mem_map.mpr ⟨ee, List.mem_of_getElem? hee, rfl⟩
          have h2 := (O.perm r hmem).mem_iff.mp h1
          exact List.mem_range.mp h2
        have hfol : ee.2 < 8 := by
          have := O.nxt r hmem ee (List.mem_of_getElem? hee)
          omega
        have eq2 : Ex H4 (upd H4 q2 (.tup [.int (j : Nat), .ref pp])) := Ex.new hq2
        refine g_unT2 (st_of upd_same) (ex_t eq2 hpp) ?_
        refine s_asgSub (j := ee.1) (eu_tup (ea_cons (ev_var rfl) (ea_cons (ev_ixS (c := code (ee.2, true)) ev_c (ev_var rfl) (by decide) (big_at _ hfol)) ea_nil)) le2) (ev_var rfl) (ev_var rfl) (eq2 _ _ hbs) (by omega) fun t H5 ht e5 h5 => ?_
        have e45 := eq2.trans e5
        have hE := Ex.mut (o := HO.lst (bs.set ee.1 (.ref t))) (E4.trans e45) hb0
        have hbs5 := e45 _ _ hbs
        have hU : ∀ x xs, TupR xs x H5 → TupR xs x (upd H5 b (.lst (bs.set ee.1 (.ref t)))) := fun x xs h => (stb_tup xs).ls x H5 b bs _ hbs5 h
        refine ⟨_, _, _, rfl, hE, ex_t hE hr2, Paired.imp (fun _ _ => ex_pair hE) hr3, _, upd_same, by rw [List.length_set]; exact hbl, fun e he => ?_⟩
        by_cases q : e = j
        · subst q
          rw [hgd]
          exact ⟨.ref t, List.getElem?_set_self (by omega), hU _ _ ⟨t, rfl, h5⟩⟩
        · obtain ⟨v, h6, h7⟩ := hall e (by omega)
          refine ⟨v, ?_, hU _ _ ((stb_tup _).ex v H4 H5 e45 h7)⟩
          have hne : ee.1 ≠ (r.getD e (0, 0)).1 := by
            intro z
            have hnd : (r.map (·.1)).Nodup := (O.perm r hmem).nodup_iff.mpr List.nodup_range
            have he' : e < r.length := by omega
            have h8 : (r.map (·.1))[e]? = some ee.1 := by
              rw [List.getElem?_map, List.getElem?_eq_getElem he', z]
              simp [List.getD_eq_getElem?_getD, he']
            have h9 : (r.map (·.1))[j]? = some ee.1 := by rw [List.getElem?_map, hee]; rfl
            exact q (by rw [← idxOf_of_at hnd h8, ← idxOf_of_at hnd h9])
          rw [List.getElem?_set_ne hne]
          exact h6
      · rintro σ'' H4 ⟨c5', c6', c7', rfl, E4, hr24, hr34, bs, hbs, hbl, hall⟩
        rw [hvl, hrl] at hall
        have hA4 := E4 _ _ hA1
        have hD4 := E4 _ _ hD1
        have htab4 := htab.keep (.ofEx E4)
        have hi8 : i < 8 := by omega
        refine q_dputL (k := Sum.inr (enc [(i, false)])) (R := fun n => TupR [.int ((r.getD n (0, 0)).1 : Nat), .str (enc [((r.getD n (0, 0)).2, false)])]) (lr_TP _ (fun _ => stb_tup _) (ev_var rfl) hr24 (row_pairs hr34) (by omega) (fun n e H5 e5 he => ?_)) (ev_fld (ev_var rfl) hA4 (C_Actor T) (A_table T) rfl) (ev_ixS (c := code (i, false)) ev_c (ev_var rfl) (by decide) (small_at _ hi8)) hD4 (by omega) (fun _ => stb_tup _) fun pS H5 ys hpS e5 h5 hP => ?_
        · rw [List.getElem?_map, Option.map_eq_some_iff] at he
          obtain ⟨ee, hee, rfl⟩ := he
          have hgd : r.getD n (0, 0) = ee := getD_of hee
          rw [hgd]
          have hfol : ee.2 < 8 := by
            have := O.nxt r hmem ee (List.mem_of_getElem? hee)
            omega
          exact EvU.tupR (eu_tup (ea_cons (ev_var rfl) (ea_cons (ev_ixS (c := code (ee.2, false)) ev_c (ev_var rfl) (by decide) (small_at _ hfol)) ea_nil)) le2)
        have hD5 := e5 _ _ hD4
        have k5 := Keep.dict (o := HO.dK (putK tb (Sum.inr (enc [(i, false)])) (.ref pS))) hD5
        have hA6 := k5 _ _ (e5 _ _ hA4) (fun _ z => by cases z)
        have hl1 : (putK tb (Sum.inr (enc [(i, false)])) (.ref pS)).length ≤ 2 * i + 1 := by
          unfold putK
          split
          · simp; omega
          · simp; omega
        refine s_dputG (k := Sum.inr (enc [(i, true)])) (ev_var rfl) (ev_fld (ev_var rfl) hA6 (C_Actor T) (A_table T) rfl) (ev_ixS (c := code (i, true)) ev_c (ev_var rfl) (by decide) (big_at _ hi8)) upd_same (by omega) fun H6 e6 => ?_
        have hD6 := e6 _ _ (upd_same (H := H5) (a := d) (o := HO.dK (putK tb (Sum.inr (enc [(i, false)])) (.ref pS))))
        have kF : Keep H4 (upd H6 d (.dK (putK (putK tb (Sum.inr (enc [(i, false)])) (.ref pS)) (Sum.inr (enc [(i, true)])) (.ref b)))) := ((Keep.ofEx e5).trans k5).trans ((Keep.ofEx e6).trans (Keep.dict hD6))
        have k56 : Keep H5 (upd H6 d (.dK (putK (putK tb (Sum.inr (enc [(i, false)])) (.ref pS)) (Sum.inr (enc [(i, true)])) (.ref b)))) := k5.trans ((Keep.ofEx e6).trans (Keep.dict hD6))
        have EF := Ex.mut (o := HO.dK (putK (putK tb (Sum.inr (enc [(i, false)])) (.ref pS)) (Sum.inr (enc [(i, true)])) (.ref b))) ((Ex.mut (o := HO.dK (putK tb (Sum.inr (enc [(i, false)])) (.ref pS))) ((E1.trans E4).trans e5) hd0).trans e6) hd0
        refine ⟨_, _, _, _, _, _, rfl, EF, kF _ _ hA4 (fun _ z => by cases z), _, upd_same, ?_, ?_⟩
        · have : ∀ (tb' : List (Key × V)) (kk : Key) (v : V), (putK tb' kk v).length ≤ tb'.length + 1 := fun tb' kk v => by
            unfold putK
            split
            · simp
            · simp
          have := this (putK tb (Sum.inr (enc [(i, false)])) (.ref pS)) (Sum.inr (enc [(i, true)])) (.ref b)
          omega
        · have htabF := htab.keep ((Keep.ofEx E4).trans kF)
          intro l hl
          rcases Nat.lt_or_ge l.1 i with hlt | hge
          · obtain ⟨x, vs, h6, h7, h8⟩ := htabF l hlt
            refine ⟨x, vs, ?_, h7, h8⟩
            have n1 : ¬ ((Sum.inr (enc [l]) : Key) = Sum.inr (enc [(i, true)])) := fun z => by
              rw [one_inj (by omega) hi8] at z
              rw [z] at hlt
              exact absurd hlt (Nat.lt_irrefl i)
            have n2 : ¬ ((Sum.inr (enc [l]) : Key) = Sum.inr (enc [(i, false)])) := fun z => by
              rw [one_inj (by omega) hi8] at z
              rw [z] at hlt
              exact absurd hlt (Nat.lt_irrefl i)
            rw [valV_put, if_neg n1, valV_put, if_neg n2]
            exact h6
          · have hli : l.1 = i := by omega
            obtain ⟨s0, bb⟩ := l
            simp only at hli
            subst hli
            cases bb with
            | true =>
              refine ⟨b, bs, ?_, kF _ _ hbs (fun _ z => by cases z), fun e he => ?_⟩
              · rw [valV_put, if_pos rfl]
              · rw [lstep_big hi he]
                obtain ⟨hix1, hix2⟩ := O.idx hi he
                obtain ⟨v, h6, h7⟩ := hall _ hix1
                have hat := M.outs_at (s := s0) (d := (M.outs s0).idxOf e) (by rw [hri, hrl]; exact hix1)
                rw [hix2, hri] at hat
                rw [← Option.some.inj hat] at h6
                rw [hri]
                refine ⟨v, h6, ?_⟩
                obtain ⟨t, h8, h9⟩ := h7
                exact ⟨t, h8, kF _ _ h9 (fun _ z => by cases z)⟩
            | false =>
              refine ⟨pS, ys, ?_, k56 _ _ h5 (fun _ z => by cases z), fun e he => ?_⟩
              · have n1 : ¬ ((Sum.inr (enc [(s0, false)]) : Key) = Sum.inr (enc [(s0, true)])) := fun z => by
                  rw [one_inj hi8 hi8] at z
                  simp at z
                rw [valV_put, if_neg n1, valV_put, if_pos rfl]
              · rw [lstep_small hi he, hri]
                have hrg : (List.range vsr.length)[e]? = some e := by rw [List.getElem?_range (by omega)]
                obtain ⟨v, h6, h7⟩ := Paired.getL hP hrg
                refine ⟨v, h6, ?_⟩
                obtain ⟨t, h8, h9⟩ := h7
                exact ⟨t, h8, k56 _ _ h9 (fun _ z => by cases z)⟩
    · rintro σ' H' ⟨c2, c3, c4, c5, c6, c7, rfl, E1, hA1, tb, hD1, htl, htab⟩
      rw [hlen] at htab
      exact k H' E1 ⟨a, dx, d, tb, rfl, hA1, hD1, htab⟩
end
end LT

set_option Elab.async false
set_option linter.all false
set_option maxRecDepth 100000
set_option maxHeartbeats 4000000
/-! Actor.step, row, keeps_digits, moved; moved -/
namespace LT
open PySem PySem.Spec PyProof.Rows L2 Evl
section
variable {K : PySem.W.Frag} {σ : L2.St} {H H' : Hp} {ta tb te tx td ty tv tn : TE} {D : Ends} {tz : TS} {M : Mach}
theorem er_make {ta : TA} {E : XK} {mv : V} (O : M.Ok) (h : EvA ta σ H [mv]) (hm : MachAt K H mv M) : EvR (tMake (He.ga K "Actor") (spInit K) [] E ta) σ H (fun v H' => ActorAt K H' v M) := fun H1 e Q q =>
  h H1 e _ fun H2 e2 x dx hx hdx hne => ⟨M, mv, x, dx, H2, rfl, O, ex_mach (e.trans e2) hm, hx, fun y o hy => by
    rw [upd_ne (ne_of_none hy hx), upd_ne (ne_of_none hy hdx)]; exact hy, upd_same, fun H3 e3 ha => ⟨rfl, q _ H3 (e2.trans e3) ha⟩⟩
theorem actor_lk {m : Str} {x y : V} (h1 : (m == ("size" : Str)) = false) (h2 : (m == ("table" : Str)) = false) : ([(("size" : Str), x), (("table" : Str), y)]).lookup m = none := by simp [List.lookup, h1, h2]
theorem eu_methR {m : Str} {sp : Sp} {dvs vs xs : List V} {E : XK} {t : TA} (hm1 : (m == ("size" : Str)) = false) (hm2 : (m == ("table" : Str)) = false) (ho : EvR ta σ H (fun v H' => ActorAt K H' v M)) (h : ∀ H1, Ex H H1 → EvA t σ H1 vs) (hs : ∀ v H1, Ex H H1 → ActorAt K H1 v M → SpU sp (v :: (vs ++ dvs)) H1 xs) :
    EvU (tMeth (He.ga K "Actor") m sp dvs E ta t) σ H xs := fun H1 e Q q =>
  ho H1 e _ fun v H2 e2 ha => by
    obtain ⟨a, dx, d, tb, rfl, h1, h2, h3⟩ := ha
    exact ⟨a, dx, _, rfl, h1, actor_lk hm1 hm2, h H2 (e.trans e2) H2 (Ex.refl _) _ fun H3 e3 => hs _ H2 (e.trans e2) ⟨a, dx, d, tb, rfl, h1, h2, h3⟩ H3 e3 Q (fun p H4 hp e4 h4 => q p H4 (fresh_back (e2.trans e3) hp) ((e2.trans e3).trans e4) h4) E⟩
theorem er_methR {m : Str} {sp : Sp} {dvs vs : List V} {R : V → Hp → Prop} {E : XK} {t : TA} (hm1 : (m == ("size" : Str)) = false) (hm2 : (m == ("table" : Str)) = false) (ho : EvR ta σ H (fun v H' => ActorAt K H' v M)) (h : ∀ H1, Ex H H1 → EvA t σ H1 vs) (hs : ∀ v H1, Ex H H1 → ActorAt K H1 v M → SpR sp (v :: (vs ++ dvs)) H1 R) :
    EvR (tMeth (He.ga K "Actor") m sp dvs E ta t) σ H R := fun H1 e Q q =>
  ho H1 e _ fun v H2 e2 ha => by
    obtain ⟨a, dx, d, tb, rfl, h1, h2, h3⟩ := ha
    exact ⟨a, dx, _, rfl, h1, actor_lk hm1 hm2, h H2 (e.trans e2) H2 (Ex.refl _) _ fun H3 e3 => hs _ H2 (e.trans e2) ⟨a, dx, d, tb, rfl, h1, h2, h3⟩ H3 e3 Q (fun v H4 e4 h4 => q v H4 ((e2.trans e3).trans e4) h4) E⟩
theorem ev_methR {m : Str} {sp : Sp} {dvs vs : List V} {z : V} {E : XK} {t : TA} (hm1 : (m == ("size" : Str)) = false) (hm2 : (m == ("table" : Str)) = false) (ho : EvR ta σ H (fun v H' => ActorAt K H' v M)) (h : ∀ H1, Ex H H1 → EvA t σ H1 vs) (hs : ∀ v H1, Ex H H1 → ActorAt K H1 v M → SpV sp (v :: (vs ++ dvs)) H1 z) :
    Ev (tMeth (He.ga K "Actor") m sp dvs E ta t) σ H z := fun H1 e Q q =>
  ho H1 e _ fun v H2 e2 ha => by
    obtain ⟨a, dx, d, tb, rfl, h1, h2, h3⟩ := ha
    exact ⟨a, dx, _, rfl, h1, actor_lk hm1 hm2, h H2 (e.trans e2) H2 (Ex.refl _) _ fun H3 e3 => hs _ H2 (e.trans e2) ⟨a, dx, d, tb, rfl, h1, h2, h3⟩ H3 e3 Q (fun H4 e4 => q H4 ((e2.trans e3).trans e4)) E⟩
theorem er_actor {i : Nat} {av : V} (hx : σ[i]? = some (some av)) (ha : ActorAt K H av M) : EvR (tVar i) σ H (fun v H' => v = av ∧ ActorAt K H' v M) := fun H1 e Q q => ⟨av, hx, q av H1 (Ex.refl _) ⟨rfl, ex_actor e ha⟩⟩
theorem er_actor' {i : Nat} {av : V} (hx : σ[i]? = some (some av)) (ha : ActorAt K H av M) : EvR (tVar i) σ H (fun v H' => ActorAt K H' v M) := fun H1 e Q q => ⟨av, hx, q av H1 (Ex.refl _) (ex_actor e ha)⟩
theorem eu_tupleL {xs : List V} (h : EvL ta σ H xs) : EvU (tCB (fun xs H Q => ∃ p ys, xs = [.ref p] ∧ ((SqL K H p ys ∧ ∀ l, H l = none → Q (.ref l) (upd H l (.tup ys))) ∨ (SqT K H p ys ∧ Q (.ref p) H))) (tCons ta tNil)) σ H xs := fun H1 e Q q =>
  h H1 e _ fun p H2 hp e2 h2 => ⟨p, xs, rfl, .inl ⟨sq_of h2, fun l hl => q l _ (fresh_back e2 hl) (e2.trans (Ex.new hl)) upd_same⟩⟩
theorem er_tupUU {xs ys : List V} (h1 : EvU ta σ H xs) (h2 : EvU tb σ H ys) : EvR (tTup (tCons ta (tCons tb tNil))) σ H (fun v H' => ∃ p A B, v = .ref p ∧ H' p = some (.tup [.ref A, .ref B]) ∧ H' A = some (.tup xs) ∧ H' B = some (.tup ys)) := fun H1 e Q q =>
  h1 H1 e _ fun A H2 hA e2 hA2 => h2 H2 (e.trans e2) _ fun B H3 hB e3 hB3 => ⟨sz_of le2, fun p hp => by
    have e4 : Ex H3 (upd H3 p (.tup [.ref A, .ref B])) := Ex.new hp
    exact q _ _ ((e2.trans e3).trans e4) ⟨p, A, B, rfl, upd_same, e4 _ _ (e3 _ _ hA2), e4 _ _ hB3⟩⟩
theorem q_asgLR {i n : Nat} {R : Nat → V → Hp → Prop} (h : EvLR te σ H n R) (k : ∀ p H1 ys, H p = none → Ex H H1 → H1 p = some (.lst ys) → Paired (fun i y => R i y H1) (List.range n) ys → tz D (σ.set i (some (.ref p))) H1) : tSeq (tAsg te (gName i)) tz D σ H := h H (Ex.refl H) _ fun p H1 ys hp e1 h1 hP => k p H1 ys hp e1 h1 hP
theorem paired_es {f g : Nat → V} : ∀ {L : List Nat} {ys : List V}, Paired (fun i y => TupR [f i, g i] y H) L ys → Paired (fun v (e : V × V) => ∃ p, v = .ref p ∧ SqT K H p [e.1, e.2]) ys (L.map fun i => (f i, g i))
  | _, _, .nil => .nil
  | _, _, .cons ⟨q, h1, h2⟩ p => .cons ⟨q, h1, st_of h2⟩ (paired_es p)
theorem ev_size {i : Nat} {av : V} (hx : σ[i]? = some (some av)) (ha : ActorAt K H av M) (hC : Cls K (He.ga K "Actor")) (hn : NoAttr K (He.ga K "Actor") "size") : Ev (tFld K (tVar i) "size") σ H (.int (M.k : Nat)) := by
  obtain ⟨a, dx, d, tb, rfl, h1, h2, h3⟩ := ha
  exact ev_fld (ev_var hx) h1 hC hn rfl
end
def digV (M : Mach) (w : Wd) : List Nat := (List.range M.k).map fun d => (passed M w d).1
def RowOut (M : Mach) (w : Wd) (v : V) (H : Hp) : Prop := ∃ p A B, v = .ref p ∧ H p = some (.tup [.ref A, .ref B]) ∧ H A = some (.tup (nsV (digV M w))) ∧ H B = some (.tup (wsV (secsL M w)))
def spARow (K : PySem.W.Frag) : Sp := fun vs H Q _ => ∃ (M : Mach) (w : Wd) (av : V), vs = [av, .str (enc w)] ∧ M.Ok ∧ ActorAt K H av M ∧ WOk M w ∧ w.length ≤ 50000 ∧ RetR (RowOut M w) H Q
def spAKeeps (K : PySem.W.Frag) : Sp := fun vs H Q _ => ∃ (M : Mach) (w : Wd) (av : V), vs = [av, .str (enc w)] ∧ M.Ok ∧ ActorAt K H av M ∧ WOk M w ∧ w.length ≤ 50000 ∧ ∀ b : Bool, (b = true ↔ Keeps M w) → RetV (.bl b) H Q
def spAMoved (K : PySem.W.Frag) : Sp := fun vs H Q _ => ∃ (M : Mach) (w : Wd) (s : List Nat) (av : V), vs = [av, .str (enc w), .str (encD s)] ∧ M.Ok ∧ ActorAt K H av M ∧ WOk M w ∧ SOk M s ∧ w.length ≤ 50000 ∧ s.length ≤ 50000 ∧
  RetU [.str (encD (act M w s)), .str (enc (sec M w s))] H Q
section
variable {P : Program} {w : World} {K : PySem.W.Frag} {mg : Str → Option Value} {base : Heap} {M : Mach} {H : Hp} {mv av : V}
theorem sc_Actor_step : FnScope ["self", "word", "digit", "letters", "letter", "following"] ["self", "word", "digit"] (defScope s_Actor_step) := ⟨rfl, rfl, rfl, by decide +kernel, rfl, by decide +kernel, by decide +kernel⟩
theorem ok_Actor_step (T : Tx K mg) : FnOk P w K mg base CX0 1 (He.fAd K d_Actor_step.at_) (fdO K d_Actor_step) ["self", "word", "digit"] (spStep K) := by
  refine (F_Actor_step T).ok sc_Actor_step (fun vs H Q E h => ?_) (fun cdv A outer s H vs Q E hr h => ?_)
  · obtain ⟨_, _, _, _, rfl, _⟩ := h
    rfl
  · obtain ⟨M, v, d, av, rfl, O, ha, hw, hd, hl, k⟩ := h
    refine ⟨_, PSs.nox (pss_cons (ps_set (i := 3) sc_Actor_step.nd rfl (.inl rfl) (pe_lst pa_nil))
      (pss_cons (ps_for PassesOwn.never rfl (pi_str (pv 1)) (pg_name (i := 4) sc_Actor_step.nd rfl (by first | exact Or.inl rfl | exact Or.inr rfl)) (pss_cons (ps_asg (pe_ix (ix_listK (K := K) rfl) (pe_dget (hu_of hr) (pe_fldK (K := K) rfl (pv 0) rfl) (pv 4) (fun _ _ => rfl)) (pv 2) (fun _ _ => rfl)) (pg_tupK (K := K) (n := 2) rfl rfl (pgs_cons (pg_name (i := 2) sc_Actor_step.nd rfl (by first | exact Or.inl rfl | exact Or.inr rfl)) (pgs_cons (pg_name (i := 5) sc_Actor_step.nd rfl (by first | exact Or.inl rfl | exact Or.inr rfl)) pgs_nil))))
      (pss_one (ps_expr (pe_bmK (K := K) rfl PySem.F.plainAttrs_list PySem.F.slot_list_append PySem.F.type_list_append mt_append (pv 3) (pa_cons (pv 5) pa_nil))))))
      (pss_one (ps_ret (pe_tup (pa_cons (pv 2) (pa_cons (pe_joinK (K := K) rfl pe_str (pv 3)) pa_nil))))))), ?_⟩
    obtain ⟨a, dx, dd, tb, rfl, hA, hD, htab⟩ := ha
    have hk3 := O.k3
    refine q_asgL (el_lst ea_nil le0) fun p H1 hp e1 h1 => ?_
    refine q_forS (s := enc v) (ev_var rfl) (fun i σ' H' => ∃ c1 c2, σ' = [some (.ref a), some (.str (enc v)), some (.int ((passed M (v.take i) d).1 : Nat)), some (.ref p), c1, c2] ∧ Ex H H' ∧ H' p = some (.lst (ltV (passed M (v.take i) d).2))) (fun H2 e2 => ⟨none, none, rfl, e1.trans e2, e2 p _ h1⟩) ?_ ?_
    · rintro i c' σ' H2 hc ⟨c1, c2, rfl, e2, h2⟩
      obtain ⟨l, hv, rfl⟩ := enc_get hc
      have hlM := hw l (List.mem_of_getElem? hv)
      have hs := passed_snoc M (v.take i) l d
      rw [← take_succ hv] at hs
      have hcur := passed_lt O (w := v.take i) (d := d) (fun x hx => hw x (List.mem_of_mem_take hx)) hd
      have hlen : (ltV (passed M (v.take i) d).2).length < 100000 := by
        rw [ltV_len, passed_length, List.length_take]; omega
      rw [hs]
      generalize passed M (v.take i) d = cur at h2 hcur hlen
      obtain ⟨x, vs, hx1, hx2, hx3⟩ := htab l hlM
      obtain ⟨y, hy1, q, rfl, hq⟩ := hx3 cur.1 hcur.1
      refine q_unT (ev_ixL (ev_dget (k := Sum.inr (enc [l])) (ev_fld (ev_var rfl) (e2 _ _ hA) (C_Actor T) (A_table T) rfl) (ev_var rfl) (e2 _ _ hD) hx1) (ev_var rfl) (sq_of (e2 _ _ hx2)) (atI_nat hy1)) (st_of (e2 _ _ hq)) fun H3 e3 => ?_
      refine s_app (e3 p _ h2) (ev_var rfl) (ev_var rfl) hlen fun H4 e4 => ⟨_, _, rfl, Ex.mut ((e2.trans e3).trans e4) hp, ?_⟩
      rw [upd_same, ltV_snoc]
    · rintro σ' H' ⟨c1, c2, rfl, e2, h2⟩
      rw [enc_size, List.take_length] at h2 ⊢
      exact s_retU (eu_tup (ea_cons (ev_var rfl) (ea_cons (ev_joinW ev_c (ev_var rfl) h2 (by rw [passed_length]; omega)) ea_nil)) le2) fun q H3 hq e3 h3 => k.go e2 hq e3 h3
theorem su_step {v : Wd} {d : Nat} (O : M.Ok) (ha : ActorAt K H av M) (hw : WOk M v) (hd : d < M.k) (hl : v.length ≤ 50000) : SpU (spStep K) [av, .str (enc v), .int (d : Nat)] H [.int ((passed M v d).1 : Nat), .str (enc (passed M v d).2)] :=
  fun _ e _ q _ => ⟨M, v, d, av, rfl, O, ex_actor e ha, hw, hd, hl, q⟩
theorem sc_Actor_keeps_digits : FnScope ["self", "word", "digit"] ["self", "word"] (defScope s_Actor_keeps_digits) := ⟨rfl, rfl, rfl, by decide +kernel, rfl, by decide +kernel, by decide +kernel⟩
theorem ok_Actor_keeps_digits (T : Tx K mg) : FnOk P w K mg base CX0 2 (He.fAd K d_Actor_keeps_digits.at_) (fdO K d_Actor_keeps_digits) ["self", "word"] (spAKeeps K) := by
  refine (F_Actor_keeps_digits T).ok sc_Actor_keeps_digits (fun vs H Q E h => ?_) (fun cdv A outer s H vs Q E hr h => ?_)
  · obtain ⟨_, _, _, rfl, _⟩ := h
    rfl
  · obtain ⟨M, v, av, rfl, O, ha, hw, hl, k⟩ := h
    refine ⟨_, PSs.nox (pss_one (ps_ret (pe_callB (cr_allK (K := K) rfl rfl) (by rfl) (B_all T) (by decide +kernel) (pa_cons (pe_lc (own := [("digit", 2)]) rfl sc_Actor_keeps_digits.nd (pi_range1 rfl (B_range T) (pa_cons (pe_fldK (K := K) rfl (pv 0) rfl) pa_nil)) (blkOk_by (own := [("digit", 2)]) (N := ["self", "word", "digit"]) (sc := defScope s_Actor_keeps_digits) (by decide +kernel)) (fun _ _ _ _ _ => (pg_name (i := 2) sc_Actor_keeps_digits.nd rfl (by first | exact Or.inl rfl | exact Or.inr rfl))) (fun _ _ _ _ _ => pts_nil) (fun _ _ _ _ _ => (pe_cmpR op_eq (pe_ix (ix_tupK (K := K) rfl) (pe_meth (pv 0) (C_Actor T) (M_Actor_step T) (ok_Actor_step T) hr (b_Actor_step T) .nil pass0 (pa_cons (pv 1) (pa_cons (pv 2) pa_nil))) pe_int (fun _ _ => rfl)) (pv 2) (nomark _)))) pa_nil)))), ?_⟩
    have hk3 := O.k3
    refine s_ret (ev_all (bs := (List.range M.k).map fun d => decide ((passed M v d).1 = d)) ?_) (k _ ?_)
    · have e0 : ((List.range M.k).map fun d => decide ((passed M v d).1 = d)).map V.bl = given ((M.k : Nat) : Int).toNat (fun _ => true) (fun d => .bl (decide ((passed M v d).1 = d))) := by
        rw [given_all, List.map_map]
        rfl
      rw [e0]
      refine el_lcR1 (fun _ => true) _ (ea_cons (ev_size rfl ha (C_Actor T) (A_size T)) ea_nil) (by omega) (fun x => wipe_set1) (fun _ _ _ _ => et_yes) (fun i H1 e1 hi _ => ?_)
      refine ev_is (ev_eq (ev_ixU (eu_methR rfl rfl (er_actor' rfl (ex_actor e1 ha)) (fun H2 e2 => ea_cons (ev_var rfl) (ea_cons (ev_var rfl) ea_nil)) (fun v' H2 e2 ha' => su_step O ha' hw (by omega) hl)) (fun _ _ => ev_c) rfl) (ev_var rfl) rfl) ?_
      refine congrArg V.bl (decide_eq_decide.mpr ?_)
      rw [V.int.injEq]
      omega
    · simp [Keeps]
theorem sc_Actor_row : FnScope ["self", "word", "steps", "digit", "_", "section"] ["self", "word"] (defScope s_Actor_row) := ⟨rfl, rfl, rfl, by decide +kernel, rfl, by decide +kernel, by decide +kernel⟩
theorem ok_Actor_row (T : Tx K mg) : FnOk P w K mg base CX0 3 (He.fAd K d_Actor_row.at_) (fdO K d_Actor_row) ["self", "word"] (spARow K) := by
  refine (F_Actor_row T).ok sc_Actor_row (fun vs H Q E h => ?_) (fun cdv A outer s H vs Q E hr h => ?_)
  · obtain ⟨_, _, _, rfl, _⟩ := h
    rfl
  · obtain ⟨M, v, av, rfl, O, ha, hw, hl, k⟩ := h
    refine ⟨_, PSs.nox (pss_cons (ps_setLc (i := 2) (own := [("digit", 3)]) rfl sc_Actor_row.nd rfl rfl (sw_true rfl rfl rfl (by decide +kernel)) (pi_range1 rfl (B_range T) (pa_cons (pe_fldK (K := K) rfl (pv 0) rfl) pa_nil)) (blkOk_by (own := [("digit", 3)]) (N := ["self", "word", "steps", "digit", "_", "section"]) (sc := defScope s_Actor_row) (by decide +kernel)) (fun _ _ _ _ _ => (pg_name (i := 3) sc_Actor_row.nd rfl (by first | exact Or.inl rfl | exact Or.inr rfl))) (fun _ _ _ _ _ => pts_nil) (fun _ _ _ _ _ => (pe_meth (pv 0) (C_Actor T) (M_Actor_step T) (ok_Actor_step T) (hr.mono (by decide)) (b_Actor_step T) .nil pass0 (pa_cons (pv 1) (pa_cons (pv 3) pa_nil)))))
      (pss_one (ps_ret (pe_tup (pa_cons (pe_callTy (call_tuple_ofK (K := K) rfl) (by rfl) (B_tuple T) (by decide +kernel) (pa_cons (pe_lc (own := [("digit", 3), ("_", 4)]) rfl sc_Actor_row.nd (pi_listK (K := K) rfl (pv 2)) (blkOk_by (own := [("digit", 3), ("_", 4)]) (N := ["self", "word", "steps", "digit", "_", "section"]) (sc := defScope s_Actor_row) (by decide +kernel)) (fun _ _ _ _ _ => (pg_tupK (K := K) (n := 2) rfl rfl (pgs_cons (pg_name (i := 3) sc_Actor_row.nd rfl (by first | exact Or.inl rfl | exact Or.inr rfl)) (pgs_cons (pg_name (i := 4) sc_Actor_row.nd rfl (by first | exact Or.inl rfl | exact Or.inr rfl)) pgs_nil)))) (fun _ _ _ _ _ => pts_nil) (fun _ _ _ _ _ => (pv 3))) pa_nil)) (pa_cons (pe_callTy (call_tuple_ofK (K := K) rfl) (by rfl) (B_tuple T) (by decide +kernel) (pa_cons (pe_lc (own := [("_", 4), ("section", 5)]) rfl sc_Actor_row.nd (pi_listK (K := K) rfl (pv 2)) (blkOk_by (own := [("_", 4), ("section", 5)]) (N := ["self", "word", "steps", "digit", "_", "section"]) (sc := defScope s_Actor_row) (by decide +kernel)) (fun _ _ _ _ _ => (pg_tupK (K := K) (n := 2) rfl rfl (pgs_cons (pg_name (i := 4) sc_Actor_row.nd rfl (by first | exact Or.inl rfl | exact Or.inr rfl)) (pgs_cons (pg_name (i := 5) sc_Actor_row.nd rfl (by first | exact Or.inl rfl | exact Or.inr rfl)) pgs_nil)))) (fun _ _ _ _ _ => pts_nil) (fun _ _ _ _ _ => (pe_call (ok_cut T) hr rfl (T_cut T) (F_cut T).kp (b_cut T) .nil pass0 (pa_cons (pv 5) pa_nil)))) pa_nil)) pa_nil)))))), ?_⟩
    have hk3 := O.k3
    refine q_asgLR (n := ((M.k : Nat) : Int).toNat) (R := fun d => TupR [.int ((passed M v d).1 : Nat), .str (enc (passed M v d).2)]) (lr_R _ (fun _ => stb_tup _) (ea_cons (ev_size rfl ha (C_Actor T) (A_size T)) ea_nil) (by omega) (fun i H1 e1 hi => ?_)) fun p H1 ys hp e1 h1 hP => ?_
    · exact EvU.tupR (eu_methR rfl rfl (er_actor' rfl (ex_actor e1 ha)) (fun H2 e2 => ea_cons (ev_var rfl) (ea_cons (ev_var rfl) ea_nil)) (fun v' H2 e2 ha' => su_step O ha' hw (by omega) hl))
    have e0 : ((M.k : Nat) : Int).toNat = M.k := by omega
    rw [e0] at hP
    have hyl : ys.length = M.k := by
      have := (Paired.len hP).symm
      rw [this, List.length_range]
    have hes := paired_es (K := K) hP
    have get : ∀ (n : Nat) (e : V × V), ((List.range M.k).map fun d => ((V.int ((passed M v d).1 : Nat)), V.str (enc (passed M v d).2)))[n]? = some e → n < M.k ∧ e = (V.int ((passed M v n).1 : Nat), V.str (enc (passed M v n).2)) := fun n e he => by
      rw [List.getElem?_map, Option.map_eq_some_iff] at he
      obtain ⟨d, hd, rfl⟩ := he
      have hlt := (List.getElem?_eq_some_iff.mp hd).1
      rw [List.length_range] at hlt
      rw [List.getElem?_range hlt] at hd
      have := Option.some.inj hd
      subst this
      exact ⟨hlt, rfl⟩
    refine s_retR (er_tupUU (xs := nsV (digV M v)) (ys := wsV (secsL M v)) (eu_tupleL ?_) (eu_tupleL ?_)) fun r H2 e2 hr2 => k r H2 (e1.trans e2) hr2
    · have := EvLR.eqs (v := fun d => V.int ((passed M v d).1 : Nat)) (lr_LP (K := K) (σ := [some av, some (.str (enc v)), some (.ref p), none, none, none]) (ta := tVar 2) (te := tVar 3) (i := 3) (j := 4) _ (fun i => stb_eq _) (ev_var rfl) (sq_of h1) hes (by omega) (fun n e H2 e2 he => by
        obtain ⟨_, rfl⟩ := get n e he
        exact Ev.toR (ev_var rfl)))
      rw [hyl] at this
      unfold nsV digV
      rw [List.map_map]
      exact this
    · have := EvLR.eqs (v := fun d => V.str (enc (cut (passed M v d).2))) (lr_LP (K := K) (σ := [some av, some (.str (enc v)), some (.ref p), none, none, none]) (ta := tVar 2) (te := tCall spCut [] E0 (tCons (tVar 5) tNil)) (i := 4) (j := 5) _ (fun i => stb_eq _) (ev_var rfl) (sq_of h1) hes (by omega) (fun n e H2 e2 he => by
        obtain ⟨hn, rfl⟩ := get n e he
        exact Ev.toR (ev_call (ea_cons (ev_var rfl) ea_nil) (sv_cut ((passed_lt O hw hn).2.l8 O) (by rw [passed_length]; exact hl)))))
      rw [hyl] at this
      unfold wsV secsL
      rw [List.map_map]
      exact this
theorem sc_Actor_moved : FnScope ["self", "word", "string", "image", "sign", "digit"] ["self", "word", "string"] (defScope s_Actor_moved) := ⟨rfl, rfl, rfl, by decide +kernel, rfl, by decide +kernel, by decide +kernel⟩
theorem ok_Actor_moved (T : Tx K mg) : FnOk P w K mg base CX0 2 (He.fAd K d_Actor_moved.at_) (fdO K d_Actor_moved) ["self", "word", "string"] (spAMoved K) := by
  refine (F_Actor_moved T).ok sc_Actor_moved (fun vs H Q E h => ?_) (fun cdv A outer s H vs Q E hr h => ?_)
  · obtain ⟨_, _, _, _, rfl, _⟩ := h
    rfl
  · obtain ⟨M, v, s0, av, rfl, O, ha, hw, hs, hl, hl2, k⟩ := h
    refine ⟨_, PSs.nox (pss_cons (ps_set (i := 3) sc_Actor_moved.nd rfl (.inl rfl) (pe_lst pa_nil))
      (pss_cons (ps_for PassesOwn.never rfl (pi_str (pv 2)) (pg_name (i := 4) sc_Actor_moved.nd rfl (by first | exact Or.inl rfl | exact Or.inr rfl)) (pss_cons (ps_asg (pe_meth (pv 0) (C_Actor T) (M_Actor_step T) (ok_Actor_step T) hr (b_Actor_step T) .nil pass0 (pa_cons (pv 1) (pa_cons (pe_callTy call_int_str (by rfl) (B_int T) (by decide +kernel) (pa_cons (pv 4) pa_nil)) pa_nil))) (pg_tupK (K := K) (n := 2) rfl rfl (pgs_cons (pg_name (i := 5) sc_Actor_moved.nd rfl (by first | exact Or.inl rfl | exact Or.inr rfl)) (pgs_cons (pg_name (i := 1) sc_Actor_moved.nd rfl (by first | exact Or.inl rfl | exact Or.inr rfl)) pgs_nil))))
      (pss_one (ps_expr (pe_bmK (K := K) rfl PySem.F.plainAttrs_list PySem.F.slot_list_append PySem.F.type_list_append mt_append (pv 3) (pa_cons (pe_callTy call_str_int (by rfl) (B_str T) (by decide +kernel) (pa_cons (pv 5) pa_nil)) pa_nil))))))
      (pss_one (ps_ret (pe_tup (pa_cons (pe_joinK (K := K) rfl pe_str (pv 3)) (pa_cons (pv 1) pa_nil))))))), ?_⟩
    refine q_asgL (el_lst ea_nil le0) fun p H1 hp e1 h1 => ?_
    refine q_forS (s := encD s0) (ev_var rfl) (fun i σ' H' => ∃ c1 c2, σ' = [some av, some (.str (enc (sec M v (s0.take i)))), some (.str (encD s0)), some (.ref p), c1, c2] ∧ Ex H H' ∧ H' p = some (.lst (dgV (act M v (s0.take i))))) (fun H2 e2 => ⟨none, none, rfl, e1.trans e2, e2 p _ h1⟩) ?_ ?_
    · rintro i c' σ' H2 hc ⟨c1, c2, rfl, e2, h2⟩
      obtain ⟨d, hv, rfl⟩ := encD_get hc
      have hd := hs d (List.mem_of_getElem? hv)
      have hd4 := hs.d4 O d (List.mem_of_getElem? hv)
      have hcur := act_ok O (s := s0.take i) hw (fun x hx => hs x (List.mem_of_mem_take hx))
      have hlen : (act M v (s0.take i)).length < 100000 := by rw [act_length, List.length_take]; omega
      have hlen2 : (sec M v (s0.take i)).length ≤ 50000 := by rw [sec_length]; exact hl
      have hnx := passed_lt O hcur.2 hd
      rw [take_succ hv, act_snoc, sec_snoc]
      refine q_unU (eu_methR rfl rfl (er_actor' rfl (ex_actor e2 ha)) (fun H3 e3 => ea_cons (ev_var rfl) (ea_cons (ev_intS (ev_var rfl) hd4) ea_nil)) (fun v' H3 e3 ha' => su_step O ha' hcur.2 hd hlen2)) fun H3 e3 => ?_
      refine s_app (e3 p _ h2) (ev_var rfl) (ev_strI (d := (passed M (sec M v (s0.take i)) d).1) (ev_var rfl) (by have := O.k3; omega)) (by rw [dgV_len]; exact hlen) fun H4 e4 => ⟨_, _, rfl, Ex.mut ((e2.trans e3).trans e4) hp, ?_⟩
      rw [upd_same, dgV_snoc]
    · rintro σ' H' ⟨c1, c2, rfl, e2, h2⟩
      rw [encD_size, List.take_length] at h2 ⊢
      exact s_retU (eu_tup (ea_cons (ev_joinD ev_c (ev_var rfl) h2 (by rw [act_length]; omega)) (ea_cons (ev_var rfl) ea_nil)) le2) fun q H3 hq e3 h3 => k.go e2 hq e3 h3
theorem sc_moved : FnScope ["machine", "word", "string"] ["machine", "word", "string"] (defScope s_moved) := ⟨rfl, rfl, rfl, by decide +kernel, rfl, by decide +kernel, by decide +kernel⟩
theorem ok_moved (T : Tx K mg) : FnOk P w K mg base CX0 3 (He.fAd K d_moved.at_) (fdO K d_moved) ["machine", "word", "string"] (spMoved K) := by
  refine (F_moved T).ok sc_moved (fun vs H Q E h => ?_) (fun cdv A outer s H vs Q E hr h => ?_)
  · obtain ⟨_, _, _, _, rfl, _⟩ := h
    rfl
  · obtain ⟨M, v, s0, mv, rfl, O, hm, hw, hs, hl, hl2, k⟩ := h
    refine ⟨_, PSs.nox (pss_one (ps_ret (pe_meth (pe_make (M_Actor_init T) (ok_Actor_init T) hr rfl (T_Actor T) (b_Actor_init T) .nil pass0 (pa_cons (pv 0) pa_nil)) (C_Actor T) (M_Actor_moved T) (ok_Actor_moved T) hr (b_Actor_moved T) .nil pass0 (pa_cons (pv 1) (pa_cons (pv 2) pa_nil))))), ?_⟩
    exact s_retU (eu_methR rfl rfl (er_make O (ea_cons (ev_var rfl) ea_nil) hm) (fun H2 e2 => ea_cons (ev_var rfl) (ea_cons (ev_var rfl) ea_nil)) (fun v' H2 e2 ha' _ e _ q _ => ⟨M, v, s0, v', rfl, O, ex_actor e ha', hw, hs, hl, hl2, q⟩)) k
end
end LT

set_option Elab.async false
set_option linter.all false
set_option maxRecDepth 100000
set_option maxHeartbeats 4000000
/-! found_list, rests -/
namespace LT
open PySem PySem.Spec PyProof.Rows L2 Evl
def RX (K : PySem.W.Frag) (H : Hp) (E : XK) : Prop := ∀ H2, Ex H H2 → E (.ref (He.ga K "TooLarge")) none H2
theorem RX.mono {K : PySem.W.Frag} {H H' : Hp} {E : XK} (e : Ex H H') (h : RX K H E) : RX K H' E := fun H2 e2 => h H2 (e.trans e2)
section
variable {K : PySem.W.Frag} {σ : L2.St} {H H' : Hp} {ta tb te tx td ty tv tn : TE} {D : Ends} {tz tu : TS} {M : Mach} {g : TG}
def SpRX (sp : Sp) (vs : List V) (H : Hp) (E : XK) (R : V → Hp → Prop) : Prop := ∀ H1, Ex H H1 → ∀ Q : VK, (∀ v H2, Ex H1 H2 → R v H2 → Q v H2) → sp vs H1 Q E
theorem er_callX {sp : Sp} {dvs vs : List V} {R : V → Hp → Prop} {E : XK} {ta : TA} (h : EvA ta σ H vs) (hs : SpRX sp (vs ++ dvs) H E R) : EvR (tCall sp dvs E ta) σ H R := fun H1 e Q q =>
  h H1 e _ fun H2 e2 => hs H2 (e.trans e2) Q fun v H3 e3 r => q v H3 (e2.trans e3) r
theorem EvR.ev {v : V} (h : EvR te σ H (fun y _ => y = v)) : Ev te σ H v := fun H1 e Q q => h H1 e Q fun y H2 e2 hy => by subst hy; exact q H2 e2
theorem er_ix1 {R0 : Addr → Addr → Hp → Prop} (h : EvR ta σ H (fun v H' => ∃ p A B, v = .ref p ∧ H' p = some (.tup [.ref A, .ref B]) ∧ R0 A B H')) {R : V → Hp → Prop} (hR : ∀ A B H1, R0 A B H1 → R (.ref B) H1) : EvR (tOp (rIxT K) ta (tC (.int 1))) σ H R := fun H1 e Q q =>
  h H1 e _ fun v H2 e2 ⟨p, A, B, hv, hp, hr⟩ => ⟨p, [.ref A, .ref B], 1, .ref B, hv, rfl, st_of hp, rfl, q _ H2 e2 (hR A B H2 hr)⟩
theorem s_forTR {xs : List V} (h : EvR te σ H (fun v H' => ∃ B, v = .ref B ∧ H' B = some (.tup xs))) (Pv : Addr → Nat → L2.St → Hp → Prop) (h0 : ∀ B H1, Ex H H1 → H1 B = some (.tup xs) → Pv B 0 σ H1) (hl : ∀ B i σ' H', i ≤ xs.length → Pv B i σ' H' → SqT K H' B xs)
    (hs : ∀ B i x σ' H', xs[i]? = some x → Pv B i σ' H' → g x σ' H' fun σ2 H2 => tu { D with nx := Pv B (i + 1), ct := Pv B (i + 1), bk := D.nx } σ2 H2) (hd : ∀ B σ' H', Pv B xs.length σ' H' → D.nx σ' H') : tFor (iTup K te) g tu D σ H :=
  h H (Ex.refl H) _ fun v H1 e ⟨B, hv, hB⟩ => ⟨B, hv, ⟨xs, st_of hB⟩, for_tup (Pv B) (h0 B H1 e hB) (hl B) (hs B) (hd B)⟩
theorem q_forTR {xs : List V} (h : EvR te σ H (fun v H' => ∃ B, v = .ref B ∧ H' B = some (.tup xs))) (Pv : Addr → Nat → L2.St → Hp → Prop) (h0 : ∀ B H1, Ex H H1 → H1 B = some (.tup xs) → Pv B 0 σ H1) (hl : ∀ B i σ' H', i ≤ xs.length → Pv B i σ' H' → SqT K H' B xs)
    (hs : ∀ B i x σ' H', xs[i]? = some x → Pv B i σ' H' → g x σ' H' fun σ2 H2 => tu { D with nx := Pv B (i + 1), ct := Pv B (i + 1), bk := tz D } σ2 H2) (hd : ∀ B σ' H', Pv B xs.length σ' H' → tz D σ' H') : tSeq (tFor (iTup K te) g tu) tz D σ H := s_forTR (D := { D with nx := tz D }) h Pv h0 hl hs hd
end
/-! what the list holds -/
structure Fl (M : Mach) (w : Wd) (ws : List Wd) : Prop where
  nd : ws.Nodup
  top : cut w ∈ ws
  ok : ∀ x ∈ ws, WOk M x ∧ x.length ≤ w.length ∧ cut x = x ∧ ∃ s, SOk M s ∧ x = cut (sec M w s)
theorem pass1 (M : Mach) (v : Wd) (d : Nat) : act M v [d] = [(passed M v d).1] ∧ sec M v [d] = (passed M v d).2 := ⟨rfl, rfl⟩
theorem Fl.one {M : Mach} (O : M.Ok) {w : Wd} (hw : WOk M w) : Fl M w [cut w] := ⟨by simp, by simp, fun x hx => by
  simp at hx
  subst hx
  exact ⟨hw.cut, cut_length w, cut_cut w, [], fun d hd => (by simp at hd), rfl⟩⟩
theorem Fl.add {M : Mach} (O : M.Ok) {w : Wd} {ws : List Wd} {x s : Wd} (h : Fl M w ws) (hx : x ∈ ws) (hs : s ∈ secsL M x) (hn : s ∉ ws) : Fl M w (ws ++ [s]) := by
  obtain ⟨x1, x2, x3, t, t1, t2⟩ := h.ok x hx
  refine ⟨List.nodup_append.mpr ⟨h.nd, by simp, fun a ha b hb => ?_⟩, List.mem_append.mpr (.inl h.top), fun y hy => ?_⟩
  · simp at hb
    subst hb
    exact fun z => hn (z ▸ ha)
  · rcases List.mem_append.mp hy with z | z
    · exact h.ok y z
    · simp at z
      subst z
      obtain ⟨h1, h2⟩ := secsL_ok O x1 y hs
      obtain ⟨d, hd, rfl⟩ := List.mem_map.mp hs
      have hd := List.mem_range.mp hd
      refine ⟨h1, Nat.le_trans h2 x2, cut_cut _, t ++ [d], t1.snoc hd, ?_⟩
      rw [sec_cat, ← cut_sec_cut O, ← t2, (pass1 M x d).2]
theorem Fl.count {M : Mach} (D : Directed M) {w : Wd} (hw : WOk M w) {ws : List Wd} (h : Fl M w ws) : ws.length ≤ 20 * w.length + 1 := secs_count D hw h.nd fun x hx => (h.ok x hx).2.2.2
theorem Fl.bad {M : Mach} (O : M.Ok) {w : Wd} {ws : List Wd} {x : Wd} (h : Fl M w ws) (hx : x ∈ ws) (hk : ¬ Keeps M x) : ¬ Rest M w := fun hr => hk fun d hd => by
  obtain ⟨x1, x2, x3, t, t1, t2⟩ := h.ok x hx
  have h1 := hr (t ++ [d]) (t1.snoc hd)
  rw [act_cat, hr t t1] at h1
  have h2 := List.append_cancel_left h1
  rw [← act_cut O, ← t2, (pass1 M x d).1] at h2
  exact List.cons.inj h2 |>.1
theorem Fl.done {M : Mach} (O : M.Ok) {w : Wd} (hl : w.length ≤ 2000) {ws : List Wd} (h : Fl M w ws) (hc : ∀ x ∈ ws, Keeps M x ∧ ∀ s ∈ secsL M x, s ∈ ws) : IsCl M ws ∧ Rest M w := by
  have h1 : IsCl M ws := ⟨h.nd, fun x hx => ⟨by have := (h.ok x hx).2.1; omega, (h.ok x hx).2.2.1, (hc x hx).1, (hc x hx).2⟩⟩
  exact ⟨h1, rest_of_closed O h1.closed h.top⟩
def spFound (K : PySem.W.Frag) : Sp := fun vs H Q E => ∃ (M : Mach) (u : Wd) (mv : V), vs = [mv, .str (enc u)] ∧ M.Ok ∧ MachAt K H mv M ∧ WOk M u ∧ u.length ≤ 2000 ∧ ((Directed M ∧ u.length ≤ 199) ∨ RX K H E) ∧
  (∀ L, cut u ∈ L → IsCl M L → Rest M u → (∀ x ∈ L, WOk M x ∧ x.length ≤ u.length) → L.length ≤ 4000 → RetL (wsV L) H Q) ∧ (¬ Rest M u → RetV .non H Q)
def spRestsR (K : PySem.W.Frag) : Sp := fun vs H Q E => ∃ (M : Mach) (u : Wd) (mv : V), vs = [mv, .str (enc u)] ∧ M.Ok ∧ MachAt K H mv M ∧ WOk M u ∧ u.length ≤ 2000 ∧ RX K H E ∧ ∀ b : Bool, (b = true ↔ Rest M u) → RetV (.bl b) H Q
section
variable {P : Program} {w : World} {K : PySem.W.Frag} {mg : Str → Option Value} {base : Heap} {M : Mach} {H : Hp} {mv av : V}
theorem sr_row {v : Wd} (O : M.Ok) (ha : ActorAt K H av M) (hw : WOk M v) (hl : v.length ≤ 50000) : SpR (spARow K) [av, .str (enc v)] H (RowOut M v) := fun _ e _ q _ => ⟨M, v, av, rfl, O, ex_actor e ha, hw, hl, fun v' H2 e2 r => q v' H2 e2 r⟩
theorem sv_keeps {v : Wd} {b : Bool} (O : M.Ok) (ha : ActorAt K H av M) (hw : WOk M v) (hl : v.length ≤ 50000) (hb : b = true ↔ Keeps M v) : SpV (spAKeeps K) [av, .str (enc v)] H (.bl b) := fun _ e _ q _ => ⟨M, v, av, rfl, O, ex_actor e ha, hw, hl, fun b' hb' => by
  have : b' = b := by
    cases b <;> cases b' <;> simp_all
  subst this
  exact q⟩
theorem sc_found_list : FnScope ["machine", "word", "actor", "words", "known", "at", "section"] ["machine", "word"] (defScope s_found_list) := ⟨rfl, rfl, rfl, by decide +kernel, rfl, by decide +kernel, by decide +kernel⟩
theorem ok_found_list (T : Tx K mg) : FnOk P w K mg base (L2.CX P w) 4 (He.fAd K d_found_list.at_) (fdO K d_found_list) ["machine", "word"] (spFound K) := by
  refine (F_found_list T).ok sc_found_list (fun vs H Q E h => ?_) (fun cdv A outer s H vs Q E hr h => ?_)
  · obtain ⟨_, _, _, rfl, _⟩ := h
    rfl
  · obtain ⟨M, u, mv, rfl, O, hm, hu, hul, hx', k1, k2⟩ := h
    refine ⟨_, (pss_cons (ps_set (i := 2) sc_found_list.nd rfl (.inl rfl) (pe_make (M_Actor_init T) (ok_Actor_init T) (hr.mono (by decide)) rfl (T_Actor T) (b_Actor_init T) .nil pass0 (pa_cons (pv 0) pa_nil)))
      (pss_cons (ps_set (i := 3) sc_found_list.nd rfl (.inl rfl) (pe_lst (pa_cons (pe_call (ok_cut T) (hr.mono (by decide)) rfl (T_cut T) (F_cut T).kp (b_cut T) .nil pass0 (pa_cons (pv 1) pa_nil)) pa_nil)))
      (pss_cons (ps_set (i := 4) sc_found_list.nd rfl (.inl rfl) (pe_disp (pps_cons (pe_ix (ix_listK (K := K) rfl) (pv 3) pe_int (fun _ _ => rfl)) pe_bl pps_nil) (by rfl) (by rfl) (fun z => by cases z) (by decide)))
      (pss_cons (ps_set (i := 5) sc_found_list.nd rfl (.inl rfl) pe_int)
      (pss_cons (ps_while (passes_of rfl) (pt_cmpR op_lt (pv 5) (pe_callB (call_lenK (K := K) rfl) (by rfl) (B_len T) PySem.boot_len (pa_cons (pv 3) pa_nil)) (nomark _)) (pss_cons (ps_if (pt_not (pt_val (pe_meth (pv 2) (C_Actor T) (M_Actor_keeps_digits T) (ok_Actor_keeps_digits T) (hr.mono (by decide)) (b_Actor_keeps_digits T) .nil pass0 (pa_cons (pe_ix (ix_listK (K := K) rfl) (pv 3) (pv 5) (fun _ _ => rfl)) pa_nil)))) (pss_one (ps_ret pe_non)) pss_nil)
      (pss_cons (ps_for (passes_of rfl) rfl (pi_tupK (K := K) rfl (pe_ix (ix_tupK (K := K) rfl) (pe_meth (pv 2) (C_Actor T) (M_Actor_row T) (ok_Actor_row T) hr (b_Actor_row T) .nil pass0 (pa_cons (pe_ix (ix_listK (K := K) rfl) (pv 3) (pv 5) (fun _ _ => rfl)) pa_nil)) pe_int (fun _ _ => rfl))) (pg_name (i := 6) sc_found_list.nd rfl (by first | exact Or.inl rfl | exact Or.inr rfl)) (pss_one (ps_if (pt_cmp (pc_dnotin (hu_of hr) (pv 6) (pv 4))) (pss_cons (ps_dput (hu_of hr) (pv 4) (pv 6) pe_bl rfl)
      (pss_one (ps_expr (pe_bmK (K := K) rfl PySem.F.plainAttrs_list PySem.F.slot_list_append PySem.F.type_list_append mt_append (pv 3) (pa_cons (pv 6) pa_nil))))) pss_nil)))
      (pss_cons (ps_if (pt_cmpR op_gt (pe_callB (call_lenK (K := K) rfl) (by rfl) (B_len T) PySem.boot_len (pa_cons (pv 3) pa_nil)) (pe_gi (T_MOST_WORDS_closed T)) (nomark _)) (pss_one (ps_raise rfl (takes_of rfl rfl rfl rfl) (pmk_own PySem.F.excBase_ValueError (X_TooLarge T).1 (T_TooLarge T) (X_TooLarge T).2.1 (raises_own (X_TooLarge T).2.2.1 (X_TooLarge T).2.2.2) rfl))) pss_nil)
      (pss_one (ps_aug (i := 5) sc_found_list.nd rfl (.inl rfl) pe_int ip_add))))))
      (pss_one (ps_ret (pv 3)))))))), ?_⟩
    refine q_asgR (er_make O (ea_cons (ev_var rfl) ea_nil) hm) fun av H1 e1 ha => ?_
    refine q_asgL (el_lst (ea_cons (ev_call (ea_cons (ev_var rfl) ea_nil) (sv_cut (hu.l8 O) (by omega))) ea_nil) le1) fun p H2 hp e2 h2 => ?_
    refine q_asgD (ed_disp (fun H3 e3 => ev_ixL (ev_var rfl) ev_c (sq_of (e3 _ _ h2)) rfl)) fun d H3 hd e3 h3 => ?_
    have hp0 : H p = none := fresh_back e1 hp
    have hd0 : H d = none := fresh_back (e1.trans e2) hd
    have hpd : p ≠ d := fun z => by rw [← z, h2] at hd; cases hd
    refine q_asg ev_c fun H4 e4 => ?_
    have E4 := (e2.trans e3).trans e4
    have hd1 : H1 d = none := fresh_back e2 hd
    refine q_while (fun m σ' H' => ∃ (at' : Nat) (ws : List Wd) (c : Option V), σ' = [some mv, some (.str (enc u)), some av, some (.ref p), some (.ref d), some (.int (at' : Nat)), c] ∧ Ex H1 H' ∧ H' p = some (.lst (wsV ws)) ∧ H' d = some (.dK (kd ws)) ∧ Fl M u ws ∧ ws.length ≤ 4000 ∧ at' ≤ ws.length ∧ (∀ x ∈ ws.take at', Keeps M x ∧ ∀ s ∈ secsL M x, s ∈ ws) ∧ m = 4001 - at') 4001 ⟨0, [cut u], none, rfl, E4, (e3.trans e4) _ _ h2, e4 _ _ h3, Fl.one O hu, by simp, by simp, fun x hx => by simp at hx, rfl⟩ ?_
    rintro m σ' H5 ⟨at', ws, c, rfl, E5, h5p, h5d, hF, hwl, hat, hdone, rfl⟩
    refine ⟨_, et_test (ev_lt (ev_var rfl) (ev_lenL (ev_var rfl) (sq_of h5p))), fun hb H6 e6 => ?_, fun hb H6 e6 => ?_⟩
    · have hlt : at' < ws.length := by
        rw [wsV_len] at hb
        simp at hb
        exact hb
      obtain ⟨x, hx⟩ : ∃ x, ws[at']? = some x := ⟨_, List.getElem?_eq_getElem hlt⟩
      have hxm := List.mem_of_getElem? hx
      obtain ⟨x1, x2, x3, x4⟩ := hF.ok x hxm
      refine ⟨fun σ2 H7 => ∃ (ws' : List Wd) (c : Option V), σ2 = [some mv, some (.str (enc u)), some av, some (.ref p), some (.ref d), some (.int ((at' + 1 : Nat) : Nat)), c] ∧ Ex H1 H7 ∧ H7 p = some (.lst (wsV ws')) ∧ H7 d = some (.dK (kd ws')) ∧ Fl M u ws' ∧ ws'.length ≤ 4000 ∧ at' + 1 ≤ ws'.length ∧ (∀ x ∈ ws'.take (at' + 1), Keeps M x ∧ ∀ s ∈ secsL M x, s ∈ ws'), fun σ2 H7 ⟨ws', c, a1, a2, a4, a5, a6, a7, a8, a9⟩ => ⟨4001 - (at' + 1), by omega, at' + 1, ws', c, a1, a2, a4, a5, a6, a7, a8, a9, rfl⟩, ?_⟩
      have ha5 := ex_actor E5 ha
      obtain ⟨bk, hbk⟩ := exB (Keeps M x)
      have hatx : atI (wsV ws) ((at' : Nat) : Int) = some (.str (enc x)) := atI_nat (wsV_at hx)
      refine q_when (et_not (et_B (ev_methR rfl rfl (er_actor' rfl (ex_actor e6 ha5)) (fun H7 e7 => ea_cons (ev_ixL (ev_var rfl) (ev_var rfl) (sq_of ((e6.trans e7) _ _ h5p)) hatx) ea_nil) (fun v' H7 e7 ha' => sv_keeps O ha' x1 (by omega) hbk)))) (fun hb2 H7 e7 => ?_) (fun hb2 H7 e7 => ?_)
      · have hnk : ¬ Keeps M x := fun z => by rw [hbk.mpr z] at hb2; cases hb2
        exact s_ret ev_c fun H8 e8 => k2 (hF.bad O hxm hnk) H8 (e1.trans (((E5.trans e6).trans e7).trans e8))
      · have hk : Keeps M x := hbk.mp (by simpa using hb2)
        have E7 := (E5.trans e6).trans e7
        have e67 := e6.trans e7
        refine q_forTR (xs := wsV (secsL M x)) (er_ix1 (R0 := fun A B H' => H' A = some (.tup (nsV (digV M x))) ∧ H' B = some (.tup (wsV (secsL M x)))) (er_methR rfl rfl (er_actor' rfl (ex_actor e67 ha5)) (fun H8 e8 => ea_cons (ev_ixL (ev_var rfl) (ev_var rfl) (sq_of ((e67.trans e8) _ _ h5p)) hatx) ea_nil) (fun v' H8 e8 ha' => sr_row O ha' x1 (by omega))) (fun A B H8 hr => ⟨B, rfl, hr.2⟩)) (fun B i σ' H' => ∃ (ws' : List Wd) (c : Option V), σ' = [some mv, some (.str (enc u)), some av, some (.ref p), some (.ref d), some (.int (at' : Nat)), c] ∧ Ex H1 H' ∧ H' B = some (.tup (wsV (secsL M x))) ∧ H' p = some (.lst (wsV ws')) ∧ H' d = some (.dK (kd ws')) ∧ Fl M u ws' ∧ ws'.length ≤ 4000 + i ∧ (∃ r, ws' = ws ++ r) ∧ (∀ s ∈ (secsL M x).take i, s ∈ ws')) ?_ (fun B i σ' H' _ ⟨_, _, _, _, h, _⟩ => st_of h) ?_ ?_
        · exact fun B H8 e8 hB => ⟨ws, c, rfl, E7.trans e8, hB, (e67.trans e8) _ _ h5p, (e67.trans e8) _ _ h5d, hF, hwl, ⟨[], by simp⟩, fun s hs => by simp at hs⟩
        · rintro B i y σ' H8 hy ⟨ws', c, rfl, a1, a2, a3, a4, a5, a6, a7, a8⟩
          obtain ⟨v, hv, rfl⟩ := wsV_get hy
          have hvm := List.mem_of_getElem? hv
          have hi3 : i < 3 := by
            have h1 := (List.getElem?_eq_some_iff.mp hv).1
            rw [secsL_len] at h1
            have := O.k3
            omega
          have hxm' : x ∈ ws' := by
            obtain ⟨r, rfl⟩ := a7
            exact List.mem_append.mpr (.inl hxm)
          have hv8 : L8 v := (secsL_ok O x1 v hvm).1.l8 O
          have hws8 : ∀ z ∈ ws', L8 z := fun z hz => (a5.ok z hz).1.l8 O
          refine s_when (et_B (ev_dnotin (ev_var rfl) (ev_var rfl) a4 hv8 hws8)) (fun hb9 H9 e9 => ?_) (fun hb9 H9 e9 => ?_)
          · have hnv : v ∉ ws' := by simpa using hb9
            refine q_dput ev_c (ev_var rfl) (ev_var rfl) (e9 _ _ a4) hv8 hws8 hnv (by omega) fun H10 e10 => ?_
            have e910 := e9.trans e10
            have hp10 : (upd H10 d (.dK (kd (ws' ++ [v])))) p = some (.lst (wsV ws')) := by rw [upd_ne hpd]; exact e910 _ _ a3
            have hBd : B ≠ d := fun z => by rw [z, a4] at a2; cases a2
            have hBp : B ≠ p := fun z => by rw [z, a3] at a2; cases a2
            refine s_app hp10 (ev_var rfl) (ev_var rfl) (by rw [wsV_len]; omega) fun H11 e11 => ⟨ws' ++ [v], _, rfl, Ex.mut ((Ex.mut (a1.trans e910) hd1).trans e11) hp, ?_, ?_, ?_, a5.add O hxm' hvm hnv, by simp; omega, ?_, fun s hs => ?_⟩
            · rw [upd_ne hBp]
              exact e11 _ _ (by rw [upd_ne hBd]; exact e910 _ _ a2)
            · rw [upd_same, wsV_snoc]
            · rw [upd_ne (Ne.symm hpd)]
              exact e11 _ _ upd_same
            · obtain ⟨r, rfl⟩ := a7
              exact ⟨r ++ [v], by simp⟩
            · rw [take_succ hv, List.mem_append] at hs
              rcases hs with z | z
              · exact List.mem_append.mpr (.inl (a8 s z))
              · exact List.mem_append.mpr (.inr z)
          · have hnv : v ∈ ws' := by simpa using hb9
            refine ⟨ws', _, rfl, a1.trans e9, e9 _ _ a2, e9 _ _ a3, e9 _ _ a4, a5, by omega, a7, fun s hs => ?_⟩
            rw [take_succ hv, List.mem_append] at hs
            rcases hs with z | z
            · exact a8 s z
            · simp at z
              subst z
              exact hnv
        · rintro B σ' H8 ⟨ws', c, rfl, a1, a2, a3, a4, a5, a6, a7, a8⟩
          rw [wsV_len, List.take_length] at a8
          rw [wsV_len, secsL_len] at a6
          have hk3 := O.k3
          refine q_when (et_test (ev_gt (ev_lenL (ev_var rfl) (sq_of a3)) ev_c)) (fun hb9 H9 e9 => ?_) (fun hb9 H9 e9 => ?_)
          · rcases hx' with ⟨Dm, h199⟩ | hx'
            · have := a5.count Dm hu
              rw [wsV_len] at hb9
              simp at hb9
              omega
            · exact hx' H9 (e1.trans (a1.trans e9))
          · have hl4 : ws'.length ≤ 4000 := by
              rw [wsV_len] at hb9
              simp at hb9
              omega
            refine s_aug (a := (at' : Nat)) rfl ev_c fun H10 e10 => ⟨ws', _, rfl, (a1.trans e9).trans e10, (e9.trans e10) _ _ a3, (e9.trans e10) _ _ a4, a5, hl4, ?_, fun z hz => ?_⟩
            · obtain ⟨r, rfl⟩ := a7
              simp
              omega
            · obtain ⟨r, rfl⟩ := a7
              have ht : (ws ++ r).take (at' + 1) = ws.take at' ++ [x] := by
                rw [List.take_append_of_le_length (by omega), take_succ hx]
              rw [ht, List.mem_append] at hz
              rcases hz with z1 | z1
              · exact ⟨(hdone z z1).1, fun s hs => List.mem_append.mpr (.inl ((hdone z z1).2 s hs))⟩
              · simp at z1
                subst z1
                exact ⟨hk, a8⟩
    · have hge : ws.length ≤ at' := by
        rw [wsV_len] at hb
        simp at hb
        exact hb
      have hall : ws.take at' = ws := List.take_of_length_le hge
      rw [hall] at hdone
      obtain ⟨hc, hr⟩ := hF.done O hul hdone
      exact s_ret (ev_var rfl) fun H7 e7 => k1 ws hF.top hc hr (fun x hx => ⟨(hF.ok x hx).1, (hF.ok x hx).2.1⟩) hwl p H7 hp0 (e1.trans ((E5.trans e6).trans e7)) ((e6.trans e7) _ _ h5p)
theorem sc_rests : FnScope ["machine", "word"] ["machine", "word"] (defScope s_rests) := ⟨rfl, rfl, rfl, by decide +kernel, rfl, by decide +kernel, by decide +kernel⟩
theorem ok_rests (T : Tx K mg) : FnOk P w K mg base (L2.CX P w) 5 (He.fAd K d_rests.at_) (fdO K d_rests) ["machine", "word"] (spRestsR K) := by
  refine (F_rests T).ok sc_rests (fun vs H Q E h => ?_) (fun cdv A outer s H vs Q E hr h => ?_)
  · obtain ⟨_, _, _, rfl, _⟩ := h
    rfl
  · obtain ⟨M, u, mv, rfl, O, hm, hu, hul, hx, k⟩ := h
    refine ⟨_, (pss_one (ps_ret (pe_cmpR op_notN (pe_call (ok_found_list T) hr rfl (T_found_list T) (F_found_list T).kp (b_found_list T) .nil (passes_call (takes_of rfl rfl rfl rfl) (fun _ _ _ _ h => h)) (pa_cons (pv 0) (pa_cons (pv 1) pa_nil))) pe_non (nomark _)))), ?_⟩
    refine s_retR (R := fun v _ => ∃ b, v = .bl b ∧ (b = true ↔ Rest M u)) ?_ fun v H1 e1 hv => ?_
    · intro H1 e1 Q1 q1
      refine ⟨mv, rfl, .str (enc u), rfl, M, u, mv, rfl, O, ex_mach e1 hm, hu, hul, .inr (fun H2 e2 => hx H2 (e1.trans e2)), fun L _ _ hr _ _ p H2 hp e2 h2 => ⟨rfl, q1 _ H2 e2 ⟨true, rfl, fun _ => hr, fun _ => rfl⟩⟩, fun hr H2 e2 => ⟨rfl, q1 _ H2 e2 ⟨false, rfl, fun z => (by cases z), fun z => absurd z hr⟩⟩⟩
    · obtain ⟨b, rfl, hb⟩ := hv
      exact k b hb H1 e1
end
end LT

set_option Elab.async false
set_option linter.all false
set_option maxRecDepth 100000
set_option maxHeartbeats 4000000
/-! first_moved, first_string -/
namespace LT
open PySem PySem.Spec PyProof.Rows L2 Evl
section
variable {K : PySem.W.Frag} {σ : L2.St} {H H' : Hp} {ta tb te tx td ty tv tn : TE} {D : Ends} {tz tu : TS} {M : Mach} {g : TG}
def KT (H H' : Hp) : Prop := ∀ x xs, H x = some (.tup xs) → H' x = some (.tup xs)
theorem KT.ofEx (e : Ex H H') : KT H H' := fun x xs h => e x _ h
theorem KT.trans {H1 H2 : Hp} (a : KT H H1) (b : KT H1 H2) : KT H H2 := fun x xs h => b x xs (a x xs h)
theorem KT.lst {l : Addr} {xs : List V} {o : HO} (h : H l = some (.lst xs)) : KT H (upd H l o) := fun x ys hx => by
  have : x ≠ l := fun z => by rw [z, h] at hx; cases hx
  rw [upd_ne this]; exact hx
theorem KT.dk {l : Addr} {xs : List (Key × V)} {o : HO} (h : H l = some (.dK xs)) : KT H (upd H l o) := fun x ys hx => by
  have : x ≠ l := fun z => by rw [z, h] at hx; cases hx
  rw [upd_ne this]; exact hx
theorem TupR.kt {xs : List V} {v : V} (k : KT H H') (h : TupR xs v H) : TupR xs v H' := by
  obtain ⟨q, h1, h2⟩ := h
  exact ⟨q, h1, k _ _ h2⟩
theorem q_asgLU {i : Nat} {xs : List V} (h : EvU te σ H xs) (k : ∀ p q H1, H p = none → Ex H H1 → H1 p = some (.lst [.ref q]) → H1 q = some (.tup xs) → tz D (σ.set i (some (.ref p))) H1) : tSeq (tAsg (tLst (tCons te tNil)) (gName i)) tz D σ H :=
  h H (Ex.refl H) _ fun q H1 hq e1 h1 => ⟨sz_of le1, fun p hp => k p q _ (fresh_back e1 hp) (e1.trans (Ex.new hp)) upd_same (Ex.new hp _ _ h1)⟩
theorem q_unR {i j : Nat} {R0 : Addr → Addr → Hp → Prop} (h : EvR te σ H (fun v H' => ∃ p A B, v = .ref p ∧ H' p = some (.tup [.ref A, .ref B]) ∧ R0 A B H')) (k : ∀ A B H1, Ex H H1 → R0 A B H1 → tz D ((σ.set i (some (.ref A))).set j (some (.ref B))) H1) : tSeq (tAsg te (gTup K 2 (gCons (gName i) (gCons (gName j) gNil)))) tz D σ H :=
  h H (Ex.refl H) _ fun v H1 e1 ⟨p, A, B, hv, hp, hr⟩ => by
    subst hv
    exact g_unT (st_of hp) (k A B H1 e1 hr)
end
def Qs (H : Hp) (ys : List V) (qs : List (List Nat × Wd)) : Prop := Paired (fun v e => TupR [.str (encD e.1), .str (enc e.2)] v H) ys qs
theorem Qs.kt {H H' : Hp} {ys : List V} {qs : List (List Nat × Wd)} (k : KT H H') (h : Qs H ys qs) : Qs H' ys qs := Paired.imp (fun _ _ => TupR.kt k) h
structure Fm (M : Mach) (u : Wd) (qs : List (List Nat × Wd)) : Prop where
  nd : (qs.map (·.2)).Nodup
  top : cut u ∈ qs.map (·.2)
  ok : ∀ e ∈ qs, SOk M e.1 ∧ act M u e.1 = e.1 ∧ WOk M e.2 ∧ e.2.length ≤ u.length ∧ e.2 = cut (sec M u e.1) ∧ e.1.length ≤ qs.length
theorem Fm.one {M : Mach} {u : Wd} (hu : WOk M u) : Fm M u [([], cut u)] := ⟨by simp, by simp, fun e he => by
  simp at he
  subst he
  exact ⟨fun d hd => (by simp at hd), rfl, hu.cut, cut_length u, rfl, by simp⟩⟩
theorem act_last {M : Mach} (O : M.Ok) {u x : Wd} {s : List Nat} (h1 : act M u s = s) (h2 : x = cut (sec M u s)) (d : Nat) : act M u (s ++ [d]) = s ++ [(passed M x d).1] := by
  rw [act_cat, h1, h2, ← act_cut O (sec M u s), (pass1 M _ d).1]
theorem Fm.add {M : Mach} (O : M.Ok) {u : Wd} {qs : List (List Nat × Wd)} {s : List Nat} {x : Wd} {d : Nat} (h : Fm M u qs) (hx : (s, x) ∈ qs) (hd : d < M.k) (hk : (passed M x d).1 = d) (hn : cut (passed M x d).2 ∉ qs.map (·.2)) (hl : s.length < qs.length) :
    Fm M u (qs ++ [(s ++ [d], cut (passed M x d).2)]) := by
  obtain ⟨x1, x2, x3, x4, x5, _⟩ := h.ok _ hx
  simp only at x1 x2 x3 x4 x5
  refine ⟨?_, ?_, fun e he => ?_⟩
  · rw [List.map_append]
    refine List.nodup_append.mpr ⟨h.nd, by simp, fun a ha b hb => ?_⟩
    simp at hb
    subst hb
    exact fun z => hn (z ▸ ha)
  · rw [List.map_append]
    exact List.mem_append.mpr (.inl h.top)
  · rcases List.mem_append.mp he with z | z
    · obtain ⟨a1, a2, a3, a4, a5, a6⟩ := h.ok e z
      exact ⟨a1, a2, a3, a4, a5, by simp; omega⟩
    · simp at z
      subst z
      have hp := passed_lt O x3 hd
      refine ⟨x1.snoc hd, ?_, hp.2.cut, ?_, ?_, by simp; omega⟩
      · show act M u (s ++ [d]) = s ++ [d]
        rw [act_last O x2 x5, hk]
      · have := cut_length (passed M x d).2
        rw [passed_length] at this
        exact Nat.le_trans this x4
      · show cut (passed M x d).2 = cut (sec M u (s ++ [d]))
        rw [sec_cat, ← cut_sec_cut O, ← x5, (pass1 M x d).2]
theorem Fm.count {M : Mach} (D : Directed M) {u : Wd} (hu : WOk M u) {qs : List (List Nat × Wd)} (h : Fm M u qs) : qs.length ≤ 20 * u.length + 1 := by
  have := secs_count D hu h.nd fun x hx => by
    obtain ⟨e, he, rfl⟩ := List.mem_map.mp hx
    exact ⟨e.1, (h.ok e he).1, (h.ok e he).2.2.2.2.1⟩
  simpa using this
theorem Fm.rest {M : Mach} (O : M.Ok) {u : Wd} {qs : List (List Nat × Wd)} (h : Fm M u qs) (hc : ∀ e ∈ qs, Keeps M e.2 ∧ ∀ s ∈ secsL M e.2, s ∈ qs.map (·.2)) : Rest M u := by
  have hC : Closed M (qs.map (·.2)) := fun x hx d hd => by
    obtain ⟨e, he, rfl⟩ := List.mem_map.mp hx
    exact ⟨(hc e he).1 d hd, (hc e he).2 _ (List.mem_map.mpr ⟨d, List.mem_range.mpr hd, rfl⟩)⟩
  exact rest_of_closed O hC h.top
def spFirst (K : PySem.W.Frag) : Sp := fun vs H Q _ => ∃ (M : Mach) (u : Wd) (mv : V), vs = [mv, .str (enc u)] ∧ M.Ok ∧ MachAt K H mv M ∧ Directed M ∧ WOk M u ∧ u.length ≤ 199 ∧
  (Rest M u → RetV .non H Q) ∧ ∀ s, SOk M s → act M u s ≠ s → s.length ≤ 5000 → RetV (.str (encD s)) H Q
def spFirstS (K : PySem.W.Frag) : Sp := fun vs H Q _ => ∃ (M : Mach) (u v : Wd) (mv : V), vs = [mv, .str (enc u), .str (enc v)] ∧ M.Ok ∧ MachAt K H mv M ∧ Directed M ∧ WOk M u ∧ u.length ≤ 60 ∧ WOk M v ∧ v.length ≤ 60 ∧
  (Rest M (u ++ und v) → RetV .non H Q) ∧ ∀ s, SOk M s → act M (u ++ und v) s ≠ s → s.length ≤ 5000 → RetV (.str (encD s)) H Q
section
variable {P : Program} {w : World} {K : PySem.W.Frag} {mg : Str → Option Value} {base : Heap} {M : Mach} {H : Hp} {mv av : V}
theorem sc_first_moved : FnScope ["machine", "word", "actor", "queue", "known", "at", "string", "here", "digits", "sections", "digit", "section"] ["machine", "word"] (defScope s_first_moved) := ⟨rfl, rfl, rfl, by decide +kernel, rfl, by decide +kernel, by decide +kernel⟩
theorem ok_first_moved (T : Tx K mg) : FnOk P w K mg base CX0 4 (He.fAd K d_first_moved.at_) (fdO K d_first_moved) ["machine", "word"] (spFirst K) := by
  refine (F_first_moved T).ok sc_first_moved (fun vs H Q E h => ?_) (fun cdv A outer s H vs Q E hr h => ?_)
  · obtain ⟨_, _, _, rfl, _⟩ := h
    rfl
  · obtain ⟨M, u, mv, rfl, O, hm, Dm, hu, hul, k1, k2⟩ := h
    refine ⟨_, PSs.nox (pss_cons (ps_set (i := 2) sc_first_moved.nd rfl (.inl rfl) (pe_make (M_Actor_init T) (ok_Actor_init T) (hr.mono (by decide)) rfl (T_Actor T) (b_Actor_init T) .nil pass0 (pa_cons (pv 0) pa_nil)))
      (pss_cons (ps_set (i := 3) sc_first_moved.nd rfl (.inl rfl) (pe_lst (pa_cons (pe_tup (pa_cons pe_str (pa_cons (pe_call (ok_cut T) (hr.mono (by decide)) rfl (T_cut T) (F_cut T).kp (b_cut T) .nil pass0 (pa_cons (pv 1) pa_nil)) pa_nil))) pa_nil)))
      (pss_cons (ps_set (i := 4) sc_first_moved.nd rfl (.inl rfl) (pe_disp (pps_cons (pe_ix (ix_tupK (K := K) rfl) (pe_ix (ix_listK (K := K) rfl) (pv 3) pe_int (fun _ _ => rfl)) pe_int (fun _ _ => rfl)) pe_bl pps_nil) (by rfl) (by rfl) (fun z => by cases z) (by decide)))
      (pss_cons (ps_set (i := 5) sc_first_moved.nd rfl (.inl rfl) pe_int)
      (pss_cons (ps_while PassesOwn.never (pt_cmpR op_lt (pv 5) (pe_callB (call_lenK (K := K) rfl) (by rfl) (B_len T) PySem.boot_len (pa_cons (pv 3) pa_nil)) (nomark _)) (pss_cons (ps_asg (pe_ix (ix_listK (K := K) rfl) (pv 3) (pv 5) (fun _ _ => rfl)) (pg_tupK (K := K) (n := 2) rfl rfl (pgs_cons (pg_name (i := 6) sc_first_moved.nd rfl (by first | exact Or.inl rfl | exact Or.inr rfl)) (pgs_cons (pg_name (i := 7) sc_first_moved.nd rfl (by first | exact Or.inl rfl | exact Or.inr rfl)) pgs_nil))))
      (pss_cons (ps_asg (pe_meth (pv 2) (C_Actor T) (M_Actor_row T) (ok_Actor_row T) hr (b_Actor_row T) .nil pass0 (pa_cons (pv 7) pa_nil)) (pg_tupK (K := K) (n := 2) rfl rfl (pgs_cons (pg_name (i := 8) sc_first_moved.nd rfl (by first | exact Or.inl rfl | exact Or.inr rfl)) (pgs_cons (pg_name (i := 9) sc_first_moved.nd rfl (by first | exact Or.inl rfl | exact Or.inr rfl)) pgs_nil))))
      (pss_cons (ps_for PassesOwn.never rfl (pi_enumTK (K := K) rfl rfl (B_enumerate T) (pa_cons (pv 9) pa_nil)) (pg_tupK (K := K) (n := 2) rfl rfl (pgs_cons (pg_name (i := 10) sc_first_moved.nd rfl (by first | exact Or.inl rfl | exact Or.inr rfl)) (pgs_cons (pg_name (i := 11) sc_first_moved.nd rfl (by first | exact Or.inl rfl | exact Or.inr rfl)) pgs_nil))) (pss_cons (ps_if (pt_cmpR op_ne (pe_ix (ix_tupK (K := K) rfl) (pv 8) (pv 10) (fun _ _ => rfl)) (pv 10) (nomark _)) (pss_one (ps_ret (pe_op op_add_str (pv 6) (pe_callTy call_str_int (by rfl) (B_str T) (by decide +kernel) (pa_cons (pv 10) pa_nil))))) pss_nil)
      (pss_one (ps_if (pt_cmp (pc_dnotin (hu_of hr) (pv 11) (pv 4))) (pss_cons (ps_dput (hu_of hr) (pv 4) (pv 11) pe_bl rfl)
      (pss_one (ps_expr (pe_bmK (K := K) rfl PySem.F.plainAttrs_list PySem.F.slot_list_append PySem.F.type_list_append mt_append (pv 3) (pa_cons (pe_tup (pa_cons (pe_op op_add_str (pv 6) (pe_callTy call_str_int (by rfl) (B_str T) (by decide +kernel) (pa_cons (pv 10) pa_nil))) (pa_cons (pv 11) pa_nil))) pa_nil))))) pss_nil))))
      (pss_cons (ps_if (pt_cmpR op_gt (pe_callB (call_lenK (K := K) rfl) (by rfl) (B_len T) PySem.boot_len (pa_cons (pv 3) pa_nil)) (pe_gi (T_MOST_WORDS_closed T)) (nomark _)) (pss_one ps_never) pss_nil)
      (pss_one (ps_aug (i := 5) sc_first_moved.nd rfl (.inl rfl) pe_int ip_add)))))))
      (pss_one (ps_ret pe_non))))))), ?_⟩
    have hk3 := O.k3
    refine q_asgR (er_make O (ea_cons (ev_var rfl) ea_nil) hm) fun av H1 e1 ha => ?_
    refine q_asgLU (xs := [.str (encD []), .str (enc (cut u))]) (eu_tup (ea_cons (ev_is ev_c rfl) (ea_cons (ev_call (ea_cons (ev_var rfl) ea_nil) (sv_cut (hu.l8 O) (by omega))) ea_nil)) le2) fun p q0 H2 hp e2 h2 h2q => ?_
    refine q_asgD (ed_disp (x := cut u) (fun H3 e3 => ev_ixT (ev_ixL (ev_var rfl) ev_c (sq_of (e3 _ _ h2)) rfl) ev_c (st_of (e3 _ _ h2q)) rfl)) fun d H3 hd e3 h3 => ?_
    have hd1 : H1 d = none := fresh_back e2 hd
    have hpd : p ≠ d := fun z => by rw [← z, h2] at hd; cases hd
    refine q_asg ev_c fun H4 e4 => ?_
    have E4 := (e2.trans e3).trans e4
    refine q_while (fun m σ' H' => ∃ (at' : Nat) (ys : List V) (qs : List (List Nat × Wd)) (c6 c7 c8 c9 c10 c11 : Option V), σ' = [some mv, some (.str (enc u)), some av, some (.ref p), some (.ref d), some (.int (at' : Nat)), c6, c7, c8, c9, c10, c11] ∧ Ex H1 H' ∧ H' p = some (.lst ys) ∧ Qs H' ys qs ∧ H' d = some (.dK (kd (qs.map (·.2)))) ∧ Fm M u qs ∧ at' ≤ qs.length ∧ (∀ e ∈ qs.take at', Keeps M e.2 ∧ ∀ s ∈ secsL M e.2, s ∈ qs.map (·.2)) ∧ (∀ i (e : List Nat × Wd), qs[i]? = some e → e.1.length ≤ i) ∧ m = 4001 - at') 4001 ⟨0, _, [([], cut u)], none, none, none, none, none, none, rfl, E4, (e3.trans e4) _ _ h2, .cons ⟨q0, rfl, (e3.trans e4) _ _ h2q⟩ .nil, e4 _ _ h3, Fm.one hu, by simp, by simp, fun i e he => ?_, rfl⟩ ?_
    · cases i with
      | zero => simp at he; subst he; simp
      | succ i => simp at he
    rintro m σ' H5 ⟨at', ys, qs, c6, c7, c8, c9, c10, c11, rfl, E5, h5p, h5q, h5d, hF, hat, hdone, hsl, rfl⟩
    have hcnt := hF.count Dm hu
    have hyl : ys.length = qs.length := Paired.len h5q
    refine ⟨_, et_test (ev_lt (ev_var rfl) (ev_lenL (ev_var rfl) (sq_of h5p))), fun hb H6 e6 => ?_, fun hb H6 e6 => ?_⟩
    · have hlt : at' < qs.length := by
        simp at hb
        omega
      obtain ⟨e, he⟩ : ∃ e, qs[at']? = some e := ⟨_, List.getElem?_eq_getElem hlt⟩
      obtain ⟨s0, x⟩ := e
      obtain ⟨y, hy, qy, rfl, hqy⟩ := Paired.get h5q he
      have hem := List.mem_of_getElem? he
      have hslen : s0.length ≤ at' := hsl at' _ he
      obtain ⟨x1, x2, x3, x4, x5, x6⟩ := hF.ok _ hem
      simp only at x1 x2 x3 x4 x5 x6
      refine ⟨fun σ2 H7 => ∃ (ys : List V) (qs : List (List Nat × Wd)) (c6 c7 c8 c9 c10 c11 : Option V), σ2 = [some mv, some (.str (enc u)), some av, some (.ref p), some (.ref d), some (.int ((at' + 1 : Nat) : Nat)), c6, c7, c8, c9, c10, c11] ∧ Ex H1 H7 ∧ H7 p = some (.lst ys) ∧ Qs H7 ys qs ∧ H7 d = some (.dK (kd (qs.map (·.2)))) ∧ Fm M u qs ∧ at' + 1 ≤ qs.length ∧ (∀ e ∈ qs.take (at' + 1), Keeps M e.2 ∧ ∀ s ∈ secsL M e.2, s ∈ qs.map (·.2)) ∧ (∀ i (e : List Nat × Wd), qs[i]? = some e → e.1.length ≤ i), fun σ2 H7 ⟨ys, qs', c6, c7, c8, c9, c10, c11, a1, a2, a3, a4, a5, a6, a7, a8, a9⟩ => ⟨4001 - (at' + 1), by omega, at' + 1, ys, qs', c6, c7, c8, c9, c10, c11, a1, a2, a3, a4, a5, a6, a7, a8, a9, rfl⟩, ?_⟩
      refine q_unT (ev_ixL (ev_var rfl) (ev_var rfl) (sq_of (e6 _ _ h5p)) (atI_nat hy)) (st_of (e6 _ _ hqy)) fun H7 e7 => ?_
      have e67 := e6.trans e7
      have hxl : x.length ≤ 50000 := by omega
      refine q_unR (R0 := fun A B H' => H' A = some (.tup (nsV (digV M x))) ∧ H' B = some (.tup (wsV (secsL M x)))) (er_methR rfl rfl (er_actor' rfl (ex_actor (E5.trans e67) ha)) (fun H8 e8 => ea_cons (ev_var rfl) ea_nil) (fun v' H8 e8 ha' => sr_row O ha' x3 hxl)) fun A B H8 e8 hAB => ?_
      obtain ⟨hA, hB⟩ := hAB
      have e68 := e67.trans e8
      refine q_forE (ev_var rfl) (st_of hB) (fun i σ' H' => ∃ (ys : List V) (qs' : List (List Nat × Wd)) (c10 c11 : Option V), σ' = [some mv, some (.str (enc u)), some av, some (.ref p), some (.ref d), some (.int (at' : Nat)), some (.str (encD s0)), some (.str (enc x)), some (.ref A), some (.ref B), c10, c11] ∧ Ex H1 H' ∧ H' A = some (.tup (nsV (digV M x))) ∧ H' B = some (.tup (wsV (secsL M x))) ∧ H' p = some (.lst ys) ∧ Qs H' ys qs' ∧ H' d = some (.dK (kd (qs'.map (·.2)))) ∧ Fm M u qs' ∧ (∃ r, qs' = qs ++ r) ∧ (∀ d, d < i → (passed M x d).1 = d) ∧ (∀ s ∈ (secsL M x).take i, s ∈ qs'.map (·.2)) ∧ (∀ i (e : List Nat × Wd), qs'[i]? = some e → e.1.length ≤ i)) ?_ (fun i σ' H' _ ⟨_, _, _, _, _, _, _, h, _⟩ => st_of h) ?_ ?_
      · exact fun H9 e9 => ⟨ys, qs, c10, c11, rfl, (E5.trans e68).trans e9, e9 _ _ hA, e9 _ _ hB, (e68.trans e9) _ _ h5p, h5q.kt (.ofEx (e68.trans e9)), (e68.trans e9) _ _ h5d, hF, ⟨[], by simp⟩, fun d hd => by omega, fun s hs => by simp at hs, hsl⟩
      · rintro i y q σ' H9 hy hq ⟨ys, qs', c10, c11, rfl, a1, a2, a3, a4, a5, a6, a7, a8, a9, a10, a11⟩
        obtain ⟨v, hv, rfl⟩ := wsV_get hy
        have hik : i < M.k := by
          have h1 := (List.getElem?_eq_some_iff.mp hv).1
          rwa [secsL_len] at h1
        have hvd : v = cut (passed M x i).2 := by
          unfold secsL at hv
          rw [List.getElem?_map, List.getElem?_range hik] at hv
          exact (Option.some.inj hv).symm
        have e9 : Ex H9 (upd H9 q (.tup [.int (i : Nat), .str (enc v)])) := Ex.new hq
        refine g_unT (st_of upd_same) ?_
        have hdi : atI (nsV (digV M x)) ((i : Nat) : Int) = some (.int ((passed M x i).1 : Nat)) := by
          refine atI_nat ?_
          unfold nsV digV
          rw [List.map_map, List.getElem?_map, List.getElem?_range hik]
          rfl
        have hcnt' := a7.count Dm hu
        have hem' : (s0, x) ∈ qs' := by
          obtain ⟨r, rfl⟩ := a8
          exact List.mem_append.mpr (.inl hem)
        refine q_when (et_ne (ev_ixT (ev_var rfl) (ev_var rfl) (st_of (e9 _ _ a2)) hdi) (ev_var rfl) rfl) (fun hb2 H10 e10 => ?_) (fun hb2 H10 e10 => ?_)
        · have hne : (passed M x i).1 ≠ i := by
            intro z
            rw [z] at hb2
            simp at hb2
          refine s_ret (ev_addD (b := [i]) (ev_var rfl) (ev_strI (ev_var rfl) (by omega)) (by simp; omega)) fun H11 e11 => k2 (s0 ++ [i]) (x1.snoc hik) ?_ (by simp; omega) H11 (e1.trans (((a1.trans e9).trans e10).trans e11))
          rw [act_last O x2 x5]
          intro z
          have := List.append_cancel_left z
          simp at this
          exact hne this
        · have heq : (passed M x i).1 = i := by
            have h4 : decide (V.int ((passed M x i).1 : Nat) = V.int (i : Nat)) = true := by simpa using hb2
            have h5 := V.int.inj (of_decide_eq_true h4)
            omega
          have e910 := e9.trans e10
          have hv8 : L8 v := by
            have := (secsL_ok O x3 v (List.mem_of_getElem? hv)).1
            exact this.l8 O
          have hws8 : ∀ z ∈ qs'.map (·.2), L8 z := fun z hz => by
            obtain ⟨e, he, rfl⟩ := List.mem_map.mp hz
            exact (a7.ok e he).2.2.1.l8 O
          refine s_when (et_B (ev_dnotin (ev_var rfl) (ev_var rfl) (e910 _ _ a6) hv8 hws8)) (fun hb3 H11 e11 => ?_) (fun hb3 H11 e11 => ?_)
          · have hnv : v ∉ qs'.map (·.2) := by simpa using hb3
            have e911 := e910.trans e11
            refine q_dput ev_c (ev_var rfl) (ev_var rfl) (e911 _ _ a6) hv8 hws8 hnv (by simp; omega) fun H12 e12 => ?_
            have e912 := e911.trans e12
            have hp12 : (upd H12 d (.dK (kd (qs'.map (·.2) ++ [v])))) p = some (.lst ys) := by rw [upd_ne hpd]; exact e912 _ _ a4
            have hyl' : ys.length = qs'.length := Paired.len a5
            refine s_appU (ys := [.str (encD (s0 ++ [i])), .str (enc v)]) hp12 (ev_var rfl) (eu_tup (ea_cons (ev_addD (b := [i]) (ev_var rfl) (ev_strI (ev_var rfl) (by omega)) (by simp; omega)) (ea_cons (ev_var rfl) ea_nil)) le2) (by omega) fun t H13 ht e13 h13 => ?_
            have hd12 := e912 _ _ a6
            have kk : KT H9 (upd H13 p (.lst (ys ++ [.ref t]))) := (KT.ofEx e912).trans ((KT.dk hd12).trans ((KT.ofEx e13).trans (KT.lst (e13 _ _ hp12))))
            have kt : KT H13 (upd H13 p (.lst (ys ++ [.ref t]))) := KT.lst (e13 _ _ hp12)
            refine ⟨ys ++ [.ref t], qs' ++ [(s0 ++ [i], v)], _, _, rfl, Ex.mut ((Ex.mut (a1.trans e912) hd1).trans e13) hp, kk _ _ a2, kk _ _ a3, upd_same, Paired.snoc (a5.kt kk) ⟨t, rfl, kt _ _ h13⟩, ?_, ?_, ?_, ?_, ?_, ?_⟩
            · rw [upd_ne (Ne.symm hpd), List.map_append]
              exact e13 _ _ upd_same
            · rw [hvd]
              exact a7.add O hem' hik heq (by rw [← hvd]; exact hnv) (by obtain ⟨r, rfl⟩ := a8; simp; omega)
            · obtain ⟨r, rfl⟩ := a8
              exact ⟨r ++ [(s0 ++ [i], v)], by simp⟩
            · intro d' hd'
              by_cases z : d' = i
              · subst z; exact heq
              · exact a9 d' (by omega)
            · intro s hs
              rw [List.map_append]
              rw [take_succ hv, List.mem_append] at hs
              rcases hs with z | z
              · exact List.mem_append.mpr (.inl (a10 s z))
              · exact List.mem_append.mpr (.inr z)
            · intro i' e' he'
              rcases Nat.lt_or_ge i' qs'.length with hlt' | hge'
              · rw [List.getElem?_append_left hlt'] at he'
                exact a11 i' e' he'
              · rw [List.getElem?_append_right hge'] at he'
                have h0 : i' - qs'.length = 0 := by
                  have := (List.getElem?_eq_some_iff.mp he').1
                  simp at this
                  omega
                rw [h0] at he'
                simp at he'
                subst he'
                obtain ⟨r, rfl⟩ := a8
                simp at hge' ⊢
                omega
          · have hnv : v ∈ qs'.map (·.2) := by simpa using hb3
            have e911 := e910.trans e11
            refine ⟨ys, qs', _, _, rfl, a1.trans e911, e911 _ _ a2, e911 _ _ a3, e911 _ _ a4, a5.kt (.ofEx e911), e911 _ _ a6, a7, a8, ?_, ?_, a11⟩
            · intro d' hd'
              by_cases z : d' = i
              · subst z; exact heq
              · exact a9 d' (by omega)
            · intro s hs
              rw [take_succ hv, List.mem_append] at hs
              rcases hs with z | z
              · exact a10 s z
              · simp at z
                subst z
                exact hnv
      · rintro σ' H9 ⟨ys, qs', c10, c11, rfl, a1, a2, a3, a4, a5, a6, a7, a8, a9, a10, a11⟩
        rw [wsV_len, List.take_length] at a10
        rw [wsV_len, secsL_len] at a9
        have hcnt' := a7.count Dm hu
        have hyl' : ys.length = qs'.length := Paired.len a5
        refine q_when (b := false) (et_is (et_test (ev_gt (ev_lenL (ev_var rfl) (sq_of a4)) ev_c)) ?_) (fun z => by cases z) (fun _ H10 e10 => ?_)
        · simp
          omega
        refine s_aug (a := (at' : Nat)) rfl ev_c fun H11 e11 => ⟨ys, qs', _, _, _, _, _, _, rfl, (a1.trans e10).trans e11, (e10.trans e11) _ _ a4, a5.kt (.ofEx (e10.trans e11)), (e10.trans e11) _ _ a6, a7, ?_, fun z hz => ?_, a11⟩
        · obtain ⟨r, rfl⟩ := a8
          simp
          omega
        · obtain ⟨r, rfl⟩ := a8
          have ht : (qs ++ r).take (at' + 1) = qs.take at' ++ [(s0, x)] := by
            rw [List.take_append_of_le_length (by omega), take_succ he]
          rw [ht, List.mem_append] at hz
          rcases hz with z1 | z1
          · refine ⟨(hdone z z1).1, fun s hs => ?_⟩
            rw [List.map_append]
            exact List.mem_append.mpr (.inl ((hdone z z1).2 s hs))
          · simp at z1
            subst z1
            exact ⟨a9, a10⟩
    · have hge : qs.length ≤ at' := by
        simp at hb
        omega
      have hall : qs.take at' = qs := List.take_of_length_le hge
      rw [hall] at hdone
      exact s_ret ev_c fun H7 e7 => k1 (hF.rest O hdone) H7 (e1.trans ((E5.trans e6).trans e7))
theorem sc_first_string : FnScope ["machine", "one", "second"] ["machine", "one", "second"] (defScope s_first_string) := ⟨rfl, rfl, rfl, by decide +kernel, rfl, by decide +kernel, by decide +kernel⟩
theorem ok_first_string (T : Tx K mg) : FnOk P w K mg base CX0 6 (He.fAd K d_first_string.at_) (fdO K d_first_string) ["machine", "one", "second"] (spFirstS K) := by
  refine (F_first_string T).ok sc_first_string (fun vs H Q E h => ?_) (fun cdv A outer s H vs Q E hr h => ?_)
  · obtain ⟨_, _, _, _, rfl, _⟩ := h
    rfl
  · obtain ⟨M, u, v, mv, rfl, O, hm, Dm, hu, hul, hv, hvl, k1, k2⟩ := h
    refine ⟨_, PSs.nox (pss_cons (ps_expr (pe_call (ok_check_word T) hr rfl (T_check_word T) (F_check_word T).kp (b_check_word T) .nil pass0 (pa_cons (pv 0) (pa_cons (pv 1) pa_nil))))
      (pss_cons (ps_expr (pe_call (ok_check_word T) hr rfl (T_check_word T) (F_check_word T).kp (b_check_word T) .nil pass0 (pa_cons (pv 0) (pa_cons (pv 2) pa_nil))))
      (pss_one (ps_ret (pe_call (ok_first_moved T) (hr.mono (by decide)) rfl (T_first_moved T) (F_first_moved T).kp (b_first_moved T) .nil pass0 (pa_cons (pv 0) (pa_cons (pe_op op_add_str (pv 1) (pe_call (ok_undone T) (hr.mono (by decide)) rfl (T_undone T) (F_undone T).kp (b_undone T) .nil pass0 (pa_cons (pv 2) pa_nil))) pa_nil))))))), ?_⟩
    refine q_drop (ev_call (ea_cons (ev_var rfl) (ea_cons (ev_var rfl) ea_nil)) (sv_refuse O hm hu hul)) fun H1 e1 => ?_
    refine q_drop (ev_call (ea_cons (ev_var rfl) (ea_cons (ev_var rfl) ea_nil)) (sv_refuse O (ex_mach e1 hm) hv hvl)) fun H2 e2 => ?_
    have E2 := e1.trans e2
    have hwo : WOk M (u ++ und v) := hu.append hv.und
    refine s_retR (R := fun y _ => (y = .non ∧ Rest M (u ++ und v)) ∨ ∃ s, y = .str (encD s) ∧ SOk M s ∧ act M (u ++ und v) s ≠ s ∧ s.length ≤ 5000) (er_call (ea_cons (ev_var rfl) (ea_cons (ev_addW (ev_var rfl) (ev_call (ea_cons (ev_var rfl) ea_nil) (sv_und (hv.l8 O) (by omega))) (by rw [und_length]; omega)) ea_nil)) (fun H3 e3 Q3 q3 _ => ?_)) fun y H3 e3 hy => ?_
    · refine ⟨M, u ++ und v, mv, rfl, O, ex_mach (E2.trans e3) hm, Dm, hwo, by rw [List.length_append, und_length]; omega, fun hr H4 e4 => q3 _ H4 e4 (.inl ⟨rfl, hr⟩), fun s h1 h2 h3 H4 e4 => q3 _ H4 e4 (.inr ⟨s, rfl, h1, h2, h3⟩)⟩
    · rcases hy with ⟨rfl, hr⟩ | ⟨s, rfl, h1, h2, h3⟩
      · exact k1 hr H3 (E2.trans e3)
      · exact k2 s h1 h2 h3 H3 (E2.trans e3)
end
end LT

set_option Elab.async false
set_option linter.all false
set_option maxRecDepth 100000
set_option maxHeartbeats 4000000
/-! kept, raised, round_length, prime_divisors -/
theorem LR.ip_fdiv {X : L2.Cx} : L2.PIp X .FloorDiv (L2.rI L2.CDiv fun i j => .int (i / j)) := L2.iop_fdiv
namespace LT
open PySem PySem.Spec PyProof.Rows L2 Evl
def spKept (K : PySem.W.Frag) : Sp := fun vs H Q E => ∃ (w : Wd), vs = [.str (enc w)] ∧ w.length ≤ 50000 ∧ (w.length ≤ 2000 → RetV (.str (enc w)) H Q) ∧ RX K H E
def spRaised (K : PySem.W.Frag) : Sp := fun vs H Q E => ∃ (u : Wd) (e : Int), vs = [.str (enc u), .int e] ∧ L8 u ∧ u.length ≤ 60 ∧ -1000 ≤ e ∧ e ≤ 1000 ∧ RX K H E ∧
  ((cut (pw (facE u e) e.natAbs)).length ≤ 2000 → RetV (.str (enc (cut (pw (facE u e) e.natAbs)))) H Q)
def spRound (K : PySem.W.Frag) : Sp := fun vs H Q E => ∃ (M : Mach) (u : Wd) (s : List Nat) (mv : V), vs = [mv, .str (enc u), .str (encD s)] ∧ M.Ok ∧ MachAt K H mv M ∧ WOk M u ∧ u.length ≤ 60 ∧ SOk M s ∧ s.length ≤ 1000 ∧ RX K H E ∧
  ∀ m : Nat, Round M u s m → m ≤ 2000 → (cut (sec M (pw u m) s)).length ≤ 2000 → RetU [.int (m : Nat), .str (enc (cut (sec M (pw u m) s)))] H Q
theorem facE_l8 {u : Wd} (h : L8 u) (e : Int) : L8 (facE u e) := by
  unfold facE
  split
  · exact h.cut.und
  · exact h.cut
theorem pw_l8 {u : Wd} (h : L8 u) : ∀ n, L8 (pw u n)
  | 0 => fun l hl => by simp [pw] at hl
  | n + 1 => by
    have := pw_l8 h n
    exact h.append this
theorem facE_len (u : Wd) (e : Int) : (facE u e).length ≤ u.length := by
  unfold facE
  have := cut_length u
  split
  · rw [und_length]; exact this
  · exact this
section
variable {P : Program} {w : World} {K : PySem.W.Frag} {mg : Str → Option Value} {base : Heap} {M : Mach} {H : Hp} {mv av : V} {E : XK}
theorem sc_kept : FnScope ["word"] ["word"] (defScope s_kept) := ⟨rfl, rfl, rfl, by decide +kernel, rfl, by decide +kernel, by decide +kernel⟩
theorem ok_kept (T : Tx K mg) : FnOk P w K mg base (L2.CX P w) 1 (He.fAd K d_kept.at_) (fdO K d_kept) ["word"] (spKept K) := by
  refine (F_kept T).ok sc_kept (fun vs H Q E h => ?_) (fun cdv A outer s H vs Q E hr h => ?_)
  · obtain ⟨_, rfl, _⟩ := h
    rfl
  · obtain ⟨v, rfl, hl, k1, k2⟩ := h
    refine ⟨_, (pss_cons (ps_if (pt_cmpR op_gt (pe_callB (call_lenK (K := K) rfl) (by rfl) (B_len T) PySem.boot_len (pa_cons (pv 0) pa_nil)) (pe_gi (T_MOST_LETTERS_orders T)) (nomark _)) (pss_one (ps_raise rfl (takes_of rfl rfl rfl rfl) (pmk_own PySem.F.excBase_ValueError (X_TooLarge T).1 (T_TooLarge T) (X_TooLarge T).2.1 (raises_own (X_TooLarge T).2.2.1 (X_TooLarge T).2.2.2) rfl))) pss_nil)
      (pss_one (ps_ret (pv 0)))), ?_⟩
    refine q_when (et_test (ev_gt (ev_lenS (ev_var rfl) (by rw [enc_length]; omega)) ev_c)) (fun hb H2 e2 => ?_) (fun hb H2 e2 => ?_)
    · exact k2 H2 e2
    · refine s_ret (ev_var rfl) fun H3 e3 => k1 ?_ H3 (e2.trans e3)
      rw [enc_length] at hb
      simp at hb
      omega
theorem sx_kept {v : Wd} (hl : v.length ≤ 50000) (hx : RX K H E) : SpRX (spKept K) [.str (enc v)] H E (fun y _ => y = .str (enc v) ∧ v.length ≤ 2000) :=
  fun _ e _ q => ⟨v, rfl, hl, fun h H2 e2 => q _ H2 e2 ⟨rfl, h⟩, hx.mono e⟩
theorem sc_raised : FnScope ["word", "exponent", "factor", "result", "_"] ["word", "exponent"] (defScope s_raised) := ⟨rfl, rfl, rfl, by decide +kernel, rfl, by decide +kernel, by decide +kernel⟩
theorem ok_raised (T : Tx K mg) : FnOk P w K mg base (L2.CX P w) 3 (He.fAd K d_raised.at_) (fdO K d_raised) ["word", "exponent"] (spRaised K) := by
  refine (F_raised T).ok sc_raised (fun vs H Q E h => ?_) (fun cdv A outer s H vs Q E hr h => ?_)
  · obtain ⟨_, _, rfl, _⟩ := h
    rfl
  · obtain ⟨u, e, rfl, hu, hul, he1, he2, hx, k⟩ := h
    refine ⟨_, (pss_cons (ps_set (i := 2) sc_raised.nd rfl (.inl rfl) (pe_call (ok_cut T) hr rfl (T_cut T) (F_cut T).kp (b_cut T) .nil pass0 (pa_cons (pv 0) pa_nil)))
      (pss_cons (ps_if (pt_cmpR op_lt (pv 1) pe_int (nomark _)) (pss_one (ps_set (i := 2) sc_raised.nd rfl (.inl rfl) (pe_call (ok_undone T) hr rfl (T_undone T) (F_undone T).kp (b_undone T) .nil pass0 (pa_cons (pv 2) pa_nil)))) pss_nil)
      (pss_cons (ps_set (i := 3) sc_raised.nd rfl (.inl rfl) pe_str)
      (pss_cons (ps_for (passes_of rfl) rfl (pi_range1 rfl (B_range T) (pa_cons (pe_callB call_abs (by rfl) (B_abs T) (by decide +kernel) (pa_cons (pv 1) pa_nil)) pa_nil)) (pg_name (i := 4) sc_raised.nd rfl (by first | exact Or.inl rfl | exact Or.inr rfl)) (pss_one (ps_set (i := 3) sc_raised.nd rfl (.inl rfl) (pe_call (ok_kept T) (hr.mono (by decide)) rfl (T_kept T) (F_kept T).kp (b_kept T) .nil (passes_call (takes_of rfl rfl rfl rfl) (fun _ _ _ _ h => h)) (pa_cons (pe_call (ok_cut T) hr rfl (T_cut T) (F_cut T).kp (b_cut T) .nil pass0 (pa_cons (pe_op op_add_str (pv 3) (pv 2)) pa_nil)) pa_nil)))))
      (pss_one (ps_ret (pv 3))))))), ?_⟩
    have hcl := cut_length u
    have hfl := facE_len u e
    have hf8 := facE_l8 hu e
    refine q_asg (ev_call (ea_cons (ev_var rfl) ea_nil) (sv_cut hu (by omega))) fun H1 e1 => ?_
    refine q_ifAsg (v := .str (enc (facE u e))) (et_test (ev_lt (ev_var rfl) ev_c)) (fun hb5 => ev_is (ev_call (ea_cons (ev_var rfl) ea_nil) (sv_und hu.cut (by omega))) ?_) (fun hb5 => ?_) (fun H2 e2 => ?_)
    · have h1 : e < 0 := by simpa using hb5
      unfold facE
      rw [if_pos h1]
    · have h1 : ¬ e < 0 := by simpa using hb5
      unfold facE
      rw [if_neg h1]
      rfl
    refine q_asg (v := .str (enc [])) (ev_is ev_c rfl) fun H3 e3 => ?_
    have E3 := (e1.trans e2).trans e3
    have habs : (if e < 0 then -e else e) = ((e.natAbs : Nat) : Int) := by split <;> omega
    refine q_forR1 (n := ((e.natAbs : Nat) : Int)) (ea_cons (ev_is (ev_abs (ev_var rfl)) (congrArg V.int habs)) ea_nil) (by omega) (fun i σ' H' => ∃ c, σ' = [some (.str (enc u)), some (.int e), some (.str (enc (facE u e))), some (.str (enc (cut (pw (facE u e) i)))), c] ∧ Ex H H' ∧ (cut (pw (facE u e) i)).length ≤ 2000) (fun H4 e4 => ⟨none, rfl, E3.trans e4, by simp [pw, cut, cutg]⟩) ?_ ?_
    · rintro i σ' H4 hi ⟨c, rfl, e4, hlen⟩
      have hc8 : L8 (cut (pw (facE u e) i) ++ facE u e) := (pw_l8 hf8 i).cut.append hf8
      have hsucc : cut (cut (pw (facE u e) i) ++ facE u e) = cut (pw (facE u e) (i + 1)) := by rw [cut_cut_append, pw_succ']
      have hl2 : (cut (pw (facE u e) i) ++ facE u e).length ≤ 3000 := by rw [List.length_append]; omega
      have hl3 := cut_length (cut (pw (facE u e) i) ++ facE u e)
      refine s_asgR (er_callX (ea_cons (ev_call (ea_cons (ev_addW (ev_var rfl) (ev_var rfl) (by omega)) ea_nil) (sv_cut hc8 (by omega))) ea_nil) (sx_kept (by omega) (hx.mono e4))) fun y H5 e5 hy => ?_
      obtain ⟨rfl, hl4⟩ := hy
      rw [hsucc] at hl4 ⊢
      exact ⟨_, rfl, e4.trans e5, hl4⟩
    · rintro σ' H4 ⟨c, rfl, e4, hlen⟩
      have e0 : ((e.natAbs : Nat) : Int).toNat = e.natAbs := by omega
      rw [e0] at hlen ⊢
      exact s_ret (ev_var rfl) fun H5 e5 => k hlen H5 (e4.trans e5)
theorem sc_round_length : FnScope ["machine", "word", "string", "here", "result", "steps", "section"] ["machine", "word", "string"] (defScope s_round_length) := ⟨rfl, rfl, rfl, by decide +kernel, rfl, by decide +kernel, by decide +kernel⟩
theorem ok_round_length (T : Tx K mg) : FnOk P w K mg base (L2.CX P w) 4 (He.fAd K d_round_length.at_) (fdO K d_round_length) ["machine", "word", "string"] (spRound K) := by
  refine (F_round_length T).ok sc_round_length (fun vs H Q E h => ?_) (fun cdv A outer s H vs Q E hr h => ?_)
  · obtain ⟨_, _, _, _, rfl, _⟩ := h
    rfl
  · obtain ⟨M, u, s0, mv, rfl, O, hm, hu, hul, hs, hsl, hx, k⟩ := h
    refine ⟨_, (pss_cons (ps_set (i := 3) sc_round_length.nd rfl (.inl rfl) (pv 2))
      (pss_cons (ps_set (i := 4) sc_round_length.nd rfl (.inl rfl) pe_str)
      (pss_cons (ps_for (passes_of rfl) rfl (pi_range2 rfl (B_range T) (pa_cons pe_int (pa_cons (pe_op op_add (pe_gi (T_MOST_STEPS_orders T)) pe_int) pa_nil))) (pg_name (i := 5) sc_round_length.nd rfl (by first | exact Or.inl rfl | exact Or.inr rfl)) (pss_cons (ps_asg (pe_call (ok_moved T) hr rfl (T_moved T) (F_moved T).kp (b_moved T) .nil pass0 (pa_cons (pv 0) (pa_cons (pv 1) (pa_cons (pv 3) pa_nil)))) (pg_tupK (K := K) (n := 2) rfl rfl (pgs_cons (pg_name (i := 3) sc_round_length.nd rfl (by first | exact Or.inl rfl | exact Or.inr rfl)) (pgs_cons (pg_name (i := 6) sc_round_length.nd rfl (by first | exact Or.inl rfl | exact Or.inr rfl)) pgs_nil))))
      (pss_cons (ps_set (i := 4) sc_round_length.nd rfl (.inl rfl) (pe_call (ok_kept T) (hr.mono (by decide)) rfl (T_kept T) (F_kept T).kp (b_kept T) .nil (passes_call (takes_of rfl rfl rfl rfl) (fun _ _ _ _ h => h)) (pa_cons (pe_call (ok_cut T) (hr.mono (by decide)) rfl (T_cut T) (F_cut T).kp (b_cut T) .nil pass0 (pa_cons (pe_op op_add_str (pv 4) (pv 6)) pa_nil)) pa_nil)))
      (pss_one (ps_if (pt_cmpR op_eq (pv 3) (pv 2) (nomark _)) (pss_one (ps_ret (pe_tup (pa_cons (pv 5) (pa_cons (pv 4) pa_nil))))) pss_nil)))))
      (pss_one (ps_raise rfl (takes_of rfl rfl rfl rfl) (pmk_own PySem.F.excBase_ValueError (X_TooLarge T).1 (T_TooLarge T) (X_TooLarge T).2.1 (raises_own (X_TooLarge T).2.2.1 (X_TooLarge T).2.2.2) rfl)))))), ?_⟩
    refine q_asg (ev_var rfl) fun H1 e1 => ?_
    refine q_asg (v := .str (enc [])) (ev_is ev_c rfl) fun H2 e2 => ?_
    have E2 := e1.trans e2
    refine q_forR2 (lo := 1) (n := 2001) (ea_cons ev_c (ea_cons (ev_add ev_c ev_c) ea_nil)) (by decide) (fun i σ' H' => ∃ c1 c2, σ' = [some mv, some (.str (enc u)), some (.str (encD s0)), some (.str (encD (iter M u i s0))), some (.str (enc (cut (sec M (pw u i) s0)))), c1, c2] ∧ Ex H H' ∧ (cut (sec M (pw u i) s0)).length ≤ 2000 ∧ ∀ j, 1 ≤ j → j ≤ i → iter M u j s0 ≠ s0) (fun H3 e3 => ⟨none, none, ?_, E2.trans e3, ?_, fun j h1 h2 => by omega⟩) ?_ ?_
    · show _ = [_, _, _, _, some (V.str (enc (cut (sec M [] s0)))), _, _]
      rw [(act_nilw s0).2]
      rfl
    · show (cut (sec M [] s0)).length ≤ 2000
      rw [(act_nilw s0).2]
      decide
    · rintro i σ' H3 hi ⟨c1, c2, rfl, e3, hlen, hne⟩
      have hio := iter_ok O hu i hs
      have hil := iter_len M u i s0
      refine q_unU (eu_call (ea_cons (ev_var rfl) (ea_cons (ev_var rfl) (ea_cons (ev_var rfl) ea_nil))) (sv_moved O (ex_mach e3 hm) hu hio (by omega) (by omega))) fun H4 e4 => ?_
      have hso : WOk M (sec M u (iter M u i s0)) := (act_ok O hu hio).2
      have hpo : WOk M (sec M (pw u i) s0) := (act_ok O (hu.pw i) hs).2
      have hsucc : cut (cut (sec M (pw u i) s0) ++ sec M u (iter M u i s0)) = cut (sec M (pw u (i + 1)) s0) := by rw [cut_cut_append, pw_succ', sec_append, act_pw]
      have hsl1 : (sec M u (iter M u i s0)).length ≤ 60 := by rw [sec_length]; exact hul
      have hl2 : (cut (sec M (pw u i) s0) ++ sec M u (iter M u i s0)).length ≤ 3000 := by rw [List.length_append]; omega
      have hl3 := cut_length (cut (sec M (pw u i) s0) ++ sec M u (iter M u i s0))
      refine q_asgR (er_callX (ea_cons (ev_call (ea_cons (ev_addW (ev_var rfl) (ev_var rfl) (by omega)) ea_nil) (sv_cut ((hpo.cut.append hso).l8 O) (by omega))) ea_nil) (sx_kept (by omega) (hx.mono (e3.trans e4)))) fun y H5 e5 hy => ?_
      obtain ⟨rfl, hl4⟩ := hy
      rw [hsucc] at hl4 ⊢
      have E5 := (e3.trans e4).trans e5
      refine s_when (et_eq (ev_var rfl) (ev_var rfl) rfl) (fun hb H6 e6 => ?_) (fun hb H6 e6 => ?_)
      · have hback : iter M u (i + 1) s0 = s0 := by
          have h1 : decide (V.str (encD (act M u (iter M u i s0))) = V.str (encD s0)) = true := hb
          rw [iter_snoc]
          exact encD_inj.mp (V.str.inj (of_decide_eq_true h1))
        have hR : Round M u s0 (i + 1) := ⟨by omega, hback, fun j h1 h2 => hne j h1 (by omega)⟩
        have e0 : (1 : Int) + (i : Int) = ((i + 1 : Nat) : Int) := by omega
        rw [e0]
        exact s_retU (eu_tup (ea_cons (ev_var rfl) (ea_cons (ev_var rfl) ea_nil)) le2) fun q H7 hq e7 h7 => (k (i + 1) hR (by omega) hl4).go (E5.trans e6) hq e7 h7
      · have hnb : iter M u (i + 1) s0 ≠ s0 := by
          intro z
          have h1 : decide (V.str (encD (act M u (iter M u i s0))) = V.str (encD s0)) = false := hb
          have h2 := of_decide_eq_false h1
          rw [iter_snoc] at z
          exact h2 (by rw [z])
        rw [iter_snoc]
        refine ⟨_, _, rfl, E5.trans e6, hl4, fun j h1 h2 => ?_⟩
        by_cases q : j = i + 1
        · subst q; exact hnb
        · exact hne j h1 (by omega)
    · rintro σ' H3 ⟨c1, c2, rfl, e3, hlen, hne⟩
      exact hx H3 e3
/-! prime_divisors -/
structure PK (n m q : Nat) (L : List Nat) : Prop where
  m1 : 1 ≤ m
  mn : m ∣ n
  q2 : 2 ≤ q
  mem : ∀ x ∈ L, 2 ≤ x ∧ x ∣ n
def spPrimeD (K : PySem.W.Frag) : Sp := fun vs H Q _ => ∃ n : Nat, vs = [.int (n : Nat)] ∧ 1 ≤ n ∧ n ≤ 1000 ∧ ∀ L : List Nat, (∀ x ∈ L, 2 ≤ x ∧ x ∣ n) → L.length ≤ 1000 → RetL (nsV L) H Q
theorem PK.div {n m q : Nat} {L : List Nat} (p : PK n m q L) (hd : q ∣ m) : PK n (m / q) q L := by
  obtain ⟨c, rfl⟩ := hd
  have hq0 : 0 < q := by have := p.q2; omega
  rw [Nat.mul_div_cancel_left c hq0]
  refine ⟨?_, Nat.dvd_trans (Nat.dvd_mul_left c q) p.mn, p.q2, p.mem⟩
  rcases Nat.eq_zero_or_pos c with z | z
  · subst z
    have := p.m1
    omega
  · exact z
theorem sc_prime_divisors : FnScope ["number", "found", "prime"] ["number"] (defScope s_prime_divisors) := ⟨rfl, rfl, rfl, by decide +kernel, rfl, by decide +kernel, by decide +kernel⟩
theorem ok_prime_divisors (T : Tx K mg) : FnOk P w K mg base CX0 1 (He.fAd K d_prime_divisors.at_) (fdO K d_prime_divisors) ["number"] (spPrimeD K) := by
  refine (F_prime_divisors T).ok sc_prime_divisors (fun vs H Q E h => ?_) (fun cdv A outer s H vs Q E hr h => ?_)
  · obtain ⟨_, rfl, _⟩ := h
    rfl
  · obtain ⟨n, rfl, hn1, hn, k⟩ := h
    refine ⟨_, PSs.nox (pss_cons (ps_set (i := 1) sc_prime_divisors.nd rfl (.inl rfl) (pe_lst pa_nil))
      (pss_cons (ps_set (i := 2) sc_prime_divisors.nd rfl (.inl rfl) pe_int)
      (pss_cons (ps_while PassesOwn.never (pt_cmpR op_le (pv 2) (pv 0) (nomark _)) (pss_cons (ps_if (pt_cmpR op_eq (pe_op op_mul (pe_op op_fdiv (pv 0) (pv 2)) (pv 2)) (pv 0) (nomark _)) (pss_cons (ps_expr (pe_bmK (K := K) rfl PySem.F.plainAttrs_list PySem.F.slot_list_append PySem.F.type_list_append mt_append (pv 1) (pa_cons (pv 2) pa_nil)))
      (pss_one (ps_while PassesOwn.never (pt_cmpR op_eq (pe_op op_mul (pe_op op_fdiv (pv 0) (pv 2)) (pv 2)) (pv 0) (nomark _)) (pss_one (ps_aug (i := 0) sc_prime_divisors.nd rfl (.inl rfl) (pv 2) LR.ip_fdiv))))) pss_nil)
      (pss_one (ps_aug (i := 2) sc_prime_divisors.nd rfl (.inl rfl) pe_int ip_add))))
      (pss_one (ps_ret (pv 1)))))), ?_⟩
    refine q_asgL (el_lst ea_nil le0) fun p H1 hp e1 h1 => ?_
    refine q_asg ev_c fun H2 e2 => ?_
    refine q_while (fun k σ' H' => ∃ (m q : Nat) (L : List Nat), σ' = [some (.int (m : Nat)), some (.ref p), some (.int (q : Nat))] ∧ Ex H H' ∧ H' p = some (.lst (nsV L)) ∧ PK n m q L ∧ L.length + 2 ≤ q ∧ q ≤ n + 2 ∧ k = n + 3 - q) (n + 1) ⟨n, 2, [], rfl, e1.trans e2, e2 p _ h1, ⟨hn1, Nat.dvd_refl n, Nat.le_refl 2, fun x hx => by simp at hx⟩, by simp, by omega, by omega⟩ ?_
    rintro kk σ' H3 ⟨m, q, L, rfl, e3, h3, hI, hlen, hqn, rfl⟩
    have hq2 := hI.q2
    have hmn := Nat.le_of_dvd (by omega) hI.mn
    refine ⟨_, et_test (ev_le (ev_var rfl) (ev_var rfl)), fun hb H4 e4 => ?_, fun hb H4 e4 => ?_⟩
    · have hqm : q ≤ m := by simp at hb; omega
      refine ⟨fun σ2 H5 => ∃ (m' : Nat) (L' : List Nat), σ2 = [some (.int (m' : Nat)), some (.ref p), some (.int ((q + 1 : Nat) : Nat))] ∧ Ex H H5 ∧ H5 p = some (.lst (nsV L')) ∧ PK n m' (q + 1) L' ∧ L'.length + 2 ≤ q + 1, fun σ2 H5 ⟨m', L', e, e5, h5, hI', hl'⟩ => ⟨n + 3 - (q + 1), by omega, m', q + 1, L', e, e5, h5, hI', hl', by omega, rfl⟩, ?_⟩
      refine q_when (et_divs rfl rfl ⟨hq2, by omega⟩) (fun hb H5 e5 => ?_) (fun hb H5 e5 => ?_)
      · have hd : q ∣ m := by simpa using hb
        refine q_app ((e4.trans e5) p _ h3) (ev_var rfl) (ev_var rfl) (by rw [nsV_len]; omega) fun H6 e6 => ?_
        rw [nsV_snoc]
        refine s_while (fun j σ' H' => ∃ m' : Nat, σ' = [some (.int (m' : Nat)), some (.ref p), some (.int (q : Nat))] ∧ Ex H H' ∧ H' p = some (.lst (nsV (L ++ [q]))) ∧ PK n m' q (L ++ [q]) ∧ j = m') m ⟨m, rfl, Ex.mut (((e3.trans e4).trans e5).trans e6) hp, upd_same, ⟨hI.m1, hI.mn, hI.q2, fun x hx => ?_⟩, rfl⟩ ?_
        · rcases List.mem_append.mp hx with z | z
          · exact hI.mem x z
          · simp at z
            subst z
            exact ⟨hq2, Nat.dvd_trans hd hI.mn⟩
        rintro j σ' H7 ⟨m', rfl, e7, h7, hJ, rfl⟩
        refine ⟨_, et_divs rfl rfl ⟨hq2, by omega⟩, fun hb2 H8 e8 => ?_, fun hb2 H8 e8 => ?_⟩
        · have hd2 : q ∣ j := by simpa using hb2
          refine ⟨fun σ2 H9 => σ2 = [some (.int ((j / q : Nat) : Nat)), some (.ref p), some (.int (q : Nat))] ∧ Ex H H9 ∧ H9 p = some (.lst (nsV (L ++ [q]))), fun σ2 H9 ⟨a, b, c⟩ => ⟨j / q, div_lt hJ.m1 hq2, j / q, a, b, c, hJ.div hd2, rfl⟩, ?_⟩
          exact ⟨.int (j : Nat), rfl, .int (q : Nat), rfl, (j : Nat), (q : Nat), rfl, rfl, ⟨by omega, by omega⟩, rfl, e7.trans e8, e8 p _ h7⟩
        · exact s_aug (a := (q : Nat)) rfl ev_c fun H9 e9 => ⟨j, L ++ [q], rfl, (e7.trans e8).trans e9, (e8.trans e9) p _ h7, ⟨hJ.m1, hJ.mn, by omega, hJ.mem⟩, by simp; omega⟩
      · exact s_aug (a := (q : Nat)) rfl ev_c fun H9 e9 => ⟨m, L, rfl, ((e3.trans e4).trans e5).trans e9, ((e4.trans e5).trans e9) p _ h3, ⟨hI.m1, hI.mn, by omega, hI.mem⟩, by omega⟩
    · exact s_ret (ev_var rfl) fun H5 e5 => k L hI.mem (by omega) p H5 hp ((e3.trans e4).trans e5) ((e4.trans e5) p _ h3)
/-! is_conjugate_power, is_found: some truth value -/
def spConj (K : PySem.W.Frag) : Sp := fun vs H Q E => ∃ (M : Mach) (u r h : Wd) (e : Int) (mv : V), vs = [mv, .str (enc u), .str (enc r), .int e, .str (enc h)] ∧ M.Ok ∧ MachAt K H mv M ∧ WOk M u ∧ u.length ≤ 60 ∧ WOk M r ∧ r.length ≤ 2000 ∧ (e = 1 ∨ e = -1) ∧ WOk M h ∧ h.length ≤ 60 ∧ RX K H E ∧ ∀ b : Bool, RetV (.bl b) H Q
def spIsFound (K : PySem.W.Frag) : Sp := fun vs H Q _ => ∃ (M : Mach) (u r h : Wd) (e : Int) (mv : V), vs = [mv, .str (enc u), .str (enc r), .int e, .str (enc h)] ∧ M.Ok ∧ MachAt K H mv M ∧ WOk M u ∧ u.length ≤ 60 ∧ WOk M r ∧ r.length ≤ 2000 ∧ (e = 1 ∨ e = -1) ∧ WOk M h ∧ h.length ≤ 60 ∧ ∀ b : Bool, RetV (.bl b) H Q
theorem ev_callX {σ : L2.St} {ta : TA} {sp : Sp} {dvs vs : List V} {z : V} (h : EvA ta σ H vs) (hs : ∀ H1, Ex H H1 → ∀ Q : VK, (∀ H2, Ex H1 H2 → Q z H2) → sp (vs ++ dvs) H1 Q E) : Ev (tCall sp dvs E ta) σ H z := fun H1 e Q q =>
  h H1 e _ fun H2 e2 => hs H2 (e.trans e2) Q fun H3 e3 => q H3 (e2.trans e3)
theorem er_kept {σ : L2.St} {ta : TE} {v : Wd} (h : Ev ta σ H (.str (enc v))) (hl : v.length ≤ 50000) (hx : RX K H E) : EvR (tCall (spKept K) [] E (tCons ta tNil)) σ H (fun y _ => y = .str (enc v) ∧ v.length ≤ 2000) := er_callX (ea_cons h ea_nil) (sx_kept hl hx)
theorem sc_is_conjugate_power : FnScope ["machine", "word", "result", "exponent", "by", "goal"] ["machine", "word", "result", "exponent", "by"] (defScope s_is_conjugate_power) := ⟨rfl, rfl, rfl, by decide +kernel, rfl, by decide +kernel, by decide +kernel⟩
theorem ok_is_conjugate_power (T : Tx K mg) : FnOk P w K mg base (L2.CX P w) 6 (He.fAd K d_is_conjugate_power.at_) (fdO K d_is_conjugate_power) ["machine", "word", "result", "exponent", "by"] (spConj K) := by
  refine (F_is_conjugate_power T).ok sc_is_conjugate_power (fun vs H Q E h => ?_) (fun cdv A outer s H vs Q E hr h => ?_)
  · obtain ⟨_, _, _, _, _, _, rfl, _⟩ := h
    rfl
  · obtain ⟨M, u, rr, hb, e, mv, rfl, O, hm, hu, hul, hrr, hrl, he, hhb, hhl, hx, k⟩ := h
    refine ⟨_, (pss_cons (ps_set (i := 5) sc_is_conjugate_power.nd rfl (.inl rfl) (pe_call (ok_kept T) (hr.mono (by decide)) rfl (T_kept T) (F_kept T).kp (b_kept T) .nil (passes_call (takes_of rfl rfl rfl rfl) (fun _ _ _ _ h => h)) (pa_cons (pe_call (ok_cut T) (hr.mono (by decide)) rfl (T_cut T) (F_cut T).kp (b_cut T) .nil pass0 (pa_cons (pe_op op_add_str (pe_op op_add_str (pv 4) (pe_call (ok_raised T) (hr.mono (by decide)) rfl (T_raised T) (F_raised T).kp (b_raised T) .nil (passes_call (takes_of rfl rfl rfl rfl) (fun _ _ _ _ h => h)) (pa_cons (pv 1) (pa_cons (pv 3) pa_nil)))) (pe_call (ok_undone T) (hr.mono (by decide)) rfl (T_undone T) (F_undone T).kp (b_undone T) .nil pass0 (pa_cons (pv 4) pa_nil))) pa_nil)) pa_nil)))
      (pss_one (ps_ret (pe_call (ok_rests T) hr rfl (T_rests T) (F_rests T).kp (b_rests T) .nil (passes_call (takes_of rfl rfl rfl rfl) (fun _ _ _ _ h => h)) (pa_cons (pv 0) (pa_cons (pe_call (ok_kept T) (hr.mono (by decide)) rfl (T_kept T) (F_kept T).kp (b_kept T) .nil (passes_call (takes_of rfl rfl rfl rfl) (fun _ _ _ _ h => h)) (pa_cons (pe_call (ok_cut T) (hr.mono (by decide)) rfl (T_cut T) (F_cut T).kp (b_cut T) .nil pass0 (pa_cons (pe_op op_add_str (pv 2) (pe_call (ok_undone T) (hr.mono (by decide)) rfl (T_undone T) (F_undone T).kp (b_undone T) .nil pass0 (pa_cons (pv 5) pa_nil))) pa_nil)) pa_nil)) pa_nil)))))), ?_⟩
    obtain ⟨hfo, hfl⟩ := facE_ok hu e
    have hna : e.natAbs = 1 := by omega
    have hc1 := cut_length (pw (facE u e) 1)
    rw [pw_length] at hc1
    have hco : WOk M (cut (pw (facE u e) 1)) := (hfo.pw 1).cut
    have hgo : WOk M (hb ++ cut (pw (facE u e) 1) ++ und hb) := (hhb.append hco).append hhb.und
    have hgl : (hb ++ cut (pw (facE u e) 1) ++ und hb).length ≤ 180 := by
      rw [List.length_append, List.length_append, und_length]
      omega
    have hcg := cut_length (hb ++ cut (pw (facE u e) 1) ++ und hb)
    refine q_asgR (er_kept (v := cut (hb ++ cut (pw (facE u e) 1) ++ und hb)) (ev_call (ea_cons (ev_addW (ev_addW (ev_var rfl) (ev_callX (ea_cons (ev_var rfl) (ea_cons (ev_var rfl) ea_nil)) (fun H1 e1 Q1 q1 => ?_)) (by omega)) (ev_call (ea_cons (ev_var rfl) ea_nil) (sv_und (hhb.l8 O) (by omega))) (by rw [List.length_append, und_length]; omega)) ea_nil) (sv_cut (hgo.l8 O) (by omega))) (by omega) hx) fun y H1 e1 hy => ?_
    · refine ⟨u, e, rfl, hu.l8 O, hul, by omega, by omega, hx.mono e1, fun _ => ?_⟩
      rw [hna]
      exact q1
    obtain ⟨rfl, hgl2⟩ := hy
    have hwo : WOk M (rr ++ und (cut (hb ++ cut (pw (facE u e) 1) ++ und hb))) := hrr.append hgo.cut.und
    have hwl : (rr ++ und (cut (hb ++ cut (pw (facE u e) 1) ++ und hb))).length ≤ 2200 := by rw [List.length_append, und_length]; omega
    have hcw := cut_length (rr ++ und (cut (hb ++ cut (pw (facE u e) 1) ++ und hb)))
    have hX := er_kept (σ := [some mv, some (.str (enc u)), some (.str (enc rr)), some (.int e), some (.str (enc hb)), some (.str (enc (cut (hb ++ cut (pw (facE u e) 1) ++ und hb))))]) (ta := tCall spCut [] E0 (tCons (tOp (fun x y H Q => ∃ i j, x = .str i ∧ y = .str j ∧ i.length + j.length ≤ sizeLine ∧ Q (.str (i ++ j)) H) (tVar 2) (tCall spUnd [] E0 (tCons (tVar 5) tNil))) tNil)) (ev_call (ea_cons (ev_addW (ev_var rfl) (ev_call (ea_cons (ev_var rfl) ea_nil) (sv_und (hgo.cut.l8 O) (by omega))) (by rw [und_length]; omega)) ea_nil) (sv_cut (hwo.l8 O) (by omega))) (by omega) (hx.mono e1)
    refine ⟨mv, rfl, hX H1 (Ex.refl _) _ fun y H2 e2 hy => ?_⟩
    obtain ⟨rfl, hl9⟩ := hy
    exact ⟨M, _, mv, rfl, O, ex_mach (e1.trans e2) hm, hwo.cut, hl9, hx.mono (e1.trans e2), fun b _ H3 e3 => k b H3 ((e1.trans e2).trans e3)⟩
theorem sc_is_found : FnScope ["machine", "word", "result", "exponent", "by"] ["machine", "word", "result", "exponent", "by"] (defScope s_is_found) := ⟨rfl, rfl, rfl, by decide +kernel, rfl, by decide +kernel, by decide +kernel⟩
theorem ok_is_found (T : Tx K mg) : FnOk P w K mg base CX0 7 (He.fAd K d_is_found.at_) (fdO K d_is_found) ["machine", "word", "result", "exponent", "by"] (spIsFound K) := by
  refine (F_is_found T).ok sc_is_found (fun vs H Q E h => ?_) (fun cdv A outer s H vs Q E hr h => ?_)
  · obtain ⟨_, _, _, _, _, _, rfl, _⟩ := h
    rfl
  · obtain ⟨M, u, rr, hb, e, mv, rfl, O, hm, hu, hul, hrr, hrl, he, hhb, hhl, k⟩ := h
    refine ⟨_, PSs.nox (pss_one (ps_try_only rfl rfl ⟨rfl, by decide, .inl (T_TooLarge T)⟩ takes0 (fun W pn xe tk _ => (pss_one (ps_ret (pe_callS (ok_is_conjugate_power T) hr rfl (T_is_conjugate_power T) (F_is_conjugate_power T).kp (b_is_conjugate_power T) (fun σ => passAt tk σ) (pa_cons (pv 0) (pa_cons (pv 1) (pa_cons (pv 2) (pa_cons (pv 3) (pa_cons (pv 4) pa_nil))))))))) (fun a oe cls d pn _ _ => (pss_one (ps_ret pe_bl))))), ?_⟩
    refine ⟨_, rfl, _, rfl, _, rfl, _, rfl, _, rfl, M, u, rr, hb, e, mv, rfl, O, hm, hu, hul, hrr, hrl, he, hhb, hhl, fun H2 e2 => ?_, fun b H2 e2 => k b H2 e2⟩
    exact ⟨true, Y_TooLarge T, fun _ a _ => s_ret ev_c fun H3 e3 => k false H3 (e2.trans e3), fun z => by cases z⟩
end
end LT

set_option Elab.async false
set_option linter.all false
set_option maxRecDepth 100000
set_option maxHeartbeats 4000000
/-! all_strings, rounds_together, least_order -/
namespace LT
open PySem PySem.Spec PyProof.Rows L2 Evl
section
variable {K : PySem.W.Frag} {σ : L2.St} {H H' : Hp} {ta tb te tx td ty tv tn : TE} {D : Ends} {tz tu : TS} {M : Mach} {g : TG}
def EvLP (te : TE) (σ : L2.St) (H : Hp) (P : List V → Prop) : Prop := ∀ H1, Ex H H1 → ∀ Q : VK, (∀ p H2 ys, H1 p = none → Ex H1 H2 → H2 p = some (.lst ys) → P ys → Q (.ref p) H2) → te σ H1 Q
theorem q_asgLP {i : Nat} {P : List V → Prop} (h : EvLP te σ H P) (k : ∀ p H1 ys, H p = none → Ex H H1 → H1 p = some (.lst ys) → P ys → tz D (σ.set i (some (.ref p))) H1) : tSeq (tAsg te (gName i)) tz D σ H := h H (Ex.refl H) _ k
theorem s_asgLP {i : Nat} {P : List V → Prop} (h : EvLP te σ H P) (k : ∀ p H1 ys, H p = none → Ex H H1 → H1 p = some (.lst ys) → P ys → D.nx (σ.set i (some (.ref p))) H1) : tAsg te (gName i) D σ H := h H (Ex.refl H) _ k
theorem wipe_12 {i j : Nat} {x : Option V} : wipe ((wipe σ [i, j]).set i x) [i, j] = wipe σ [i, j] := by
  apply List.ext_getElem?
  intro n
  simp only [wipe, List.getElem?_set, List.length_set]
  split <;> split <;> first | rfl | (split <;> rfl) | simp_all
theorem el_lc2 {tn : TA} {a : Addr} {xs : List V} {i j kk : Nat} (P : V → Prop) (h : Ev ta σ H (.ref a)) (hx : SqL K H a xs) (hn : xs.length ≤ 1000) (hk : kk ≤ 10)
    (hr : ∀ x H1, Ex H H1 → EvA tn ((wipe σ [i, j]).set i (some x)) H1 [.int (kk : Nat)])
    (he : ∀ x, x ∈ xs → ∀ d, d < kk → ∀ H1, Ex H H1 → ∃ v, P v ∧ Ev te ((wipe ((wipe σ [i, j]).set i (some x)) [j]).set j (some (.int (d : Nat)))) H1 v) :
    EvLP (tLc2 (iList K ta) (gName i) tYes (iRng1 tn) (gName j) tYes te [i, j] [j]) σ H (fun ys => (∀ y ∈ ys, P y) ∧ ys.length = xs.length * kk) := fun H0 e0 Q q =>
  h H0 e0 _ fun H1 e1 => ⟨a, rfl, ⟨xs, ex_l (e0.trans e1) hx⟩, fun Dl hD => by
    have e01 := e0.trans e1
    refine ⟨fun m mm H' => mm = xs.length - m ∧ m ≤ xs.length ∧ ∃ acc, Ex H1 H' ∧ H' Dl = some (.lst acc) ∧ (∀ y ∈ acc, P y) ∧ acc.length = m * kk, ⟨xs.length, by simp, Nat.zero_le _, [], Ex.new hD, upd_same, by simp, by simp⟩, ?_⟩
    rintro m mm H2 ⟨rfl, hm, acc, e2, h2, hP, hl⟩
    have hx2 := ex_l (e01.trans e2) hx
    by_cases hlt : m < xs.length
    · refine .inr ⟨walk_list.goes m H2 hlt hx2, fun H' => ∃ acc, Ex H1 H' ∧ H' Dl = some (.lst acc) ∧ (∀ y ∈ acc, P y) ∧ acc.length = (m + 1) * kk, fun H' p' => ⟨xs.length - (m + 1), by omega, rfl, hlt, p'⟩, fun x H3 hy => ?_⟩
      obtain ⟨rfl, hxm⟩ := walk_list.yields m H2 x H3 hlt hx2 hy
      refine ⟨wipe_12, et_yes H3 (Ex.refl _) _ fun H4 e4 => ?_⟩
      rw [if_pos rfl]
      refine hr x H4 ((e01.trans e2).trans e4) H4 (Ex.refl _) _ fun H5 e5 => ⟨(kk : Nat), rfl, by omega, by omega, ?_⟩
      have e45 := e4.trans e5
      have e0' : ((kk : Nat) : Int).toNat = kk := by omega
      rw [e0']
      refine ⟨fun d mm H' => mm = kk - d ∧ d ≤ kk ∧ ∃ acc, Ex H1 H' ∧ H' Dl = some (.lst acc) ∧ (∀ y ∈ acc, P y) ∧ acc.length = m * kk + d, ⟨kk, by simp, Nat.zero_le _, acc, e2.trans e45, e45 _ _ h2, hP, by omega⟩, ?_⟩
      rintro d mm H6 ⟨rfl, hd, acc2, e6, h6, hP2, hl2⟩
      by_cases hdk : d < kk
      · refine .inr ⟨walk_range.goes d H6 hdk trivial, fun H' => ∃ acc, Ex H1 H' ∧ H' Dl = some (.lst acc) ∧ (∀ y ∈ acc, P y) ∧ acc.length = m * kk + (d + 1), fun H' p' => ⟨kk - (d + 1), by omega, rfl, hdk, p'⟩, fun y H7 hy => ?_⟩
        obtain ⟨rfl, rfl⟩ := walk_range.yields d H6 y H7 hdk trivial hy
        have ez : (0 : Int) + (d : Int) = (d : Int) := Int.zero_add _
        show gName j (V.int ((0 : Int) + (d : Int))) _ H7 _
        rw [ez]
        refine ⟨wipe_set1, et_yes H7 (Ex.refl _) _ fun H8 e8 => ?_⟩
        rw [if_pos rfl]
        obtain ⟨v, hv, hev⟩ := he x (List.mem_of_getElem? hxm) d hdk H8 ((e01.trans e6).trans e8)
        refine hev H8 (Ex.refl _) _ fun H9 e9 => ?_
        have e89 := e8.trans e9
        have hlk : m * kk ≤ 1000 * 10 := Nat.mul_le_mul (by omega) hk
        refine ⟨acc2, e89 _ _ h6, sz_lt (by omega), acc2 ++ [v], Ex.mut (e6.trans e89) hD, upd_same, fun y hy => ?_, by simp; omega⟩
        rcases List.mem_append.mp hy with z | z
        · exact hP2 y z
        · simp at z
          subst z
          exact hv
      · have hdk' : d = kk := by omega
        subst hdk'
        exact .inl ⟨walk_range.stops H6 trivial, acc2, e6, h6, hP2, by rw [hl2, Nat.succ_mul]⟩
    · have hme : m = xs.length := by omega
      subst hme
      exact .inl ⟨walk_list.stops H2 hx2, q Dl H2 acc (fresh_back e1 hD) (e1.trans e2) h2 ⟨hP, hl⟩⟩⟩
end
def StrV (k n : Nat) (y : V) : Prop := ∃ s : List Nat, y = .str (encD s) ∧ (∀ d ∈ s, d < k) ∧ s.length = n
def spAllS (K : PySem.W.Frag) : Sp := fun vs H Q _ => ∃ (k n : Nat), vs = [.int (k : Nat), .int (n : Nat)] ∧ k ≤ 3 ∧ n ≤ 4 ∧ ∀ ys : List V, (∀ y ∈ ys, StrV k n y) → ys.length = k ^ n → RetL ys H Q
section
variable {P : Program} {w : World} {K : PySem.W.Frag} {mg : Str → Option Value} {base : Heap} {M : Mach} {H : Hp} {mv av : V} {E : XK}
theorem sc_all_strings : FnScope ["size", "length", "strings", "_", "string", "digit"] ["size", "length"] (defScope s_all_strings) := ⟨rfl, rfl, rfl, by decide +kernel, rfl, by decide +kernel, by decide +kernel⟩
theorem ok_all_strings (T : Tx K mg) : FnOk P w K mg base CX0 1 (He.fAd K d_all_strings.at_) (fdO K d_all_strings) ["size", "length"] (spAllS K) := by
  refine (F_all_strings T).ok sc_all_strings (fun vs H Q E h => ?_) (fun cdv A outer s H vs Q E hr h => ?_)
  · obtain ⟨_, _, rfl, _⟩ := h
    rfl
  · obtain ⟨k, n, rfl, hk3, hn4, kq⟩ := h
    refine ⟨_, PSs.nox (pss_cons (ps_set (i := 2) sc_all_strings.nd rfl (.inl rfl) (pe_lst (pa_cons pe_str pa_nil)))
      (pss_cons (ps_for PassesOwn.never rfl (pi_range1 rfl (B_range T) (pa_cons (pv 1) pa_nil)) (pg_name (i := 3) sc_all_strings.nd rfl (by first | exact Or.inl rfl | exact Or.inr rfl)) (pss_one (ps_setLc2 (i := 2) (own := [("string", 4), ("digit", 5)]) (vs1 := [5]) rfl sc_all_strings.nd rfl rfl (sw_true rfl rfl rfl (by decide +kernel)) (pi_listK (K := K) rfl (pv 2)) (blkOk_by (own := [("string", 4), ("digit", 5)]) (N := ["size", "length", "strings", "_", "string", "digit"]) (sc := defScope s_all_strings) (by decide +kernel)) (by decide) (fun _ _ _ _ _ => (pg_name (i := 4) sc_all_strings.nd rfl (by first | exact Or.inl rfl | exact Or.inr rfl))) (fun _ _ _ _ _ => pts_nil) (fun _ _ _ _ _ => (pi_range1 rfl (B_range T) (pa_cons (pv 0) pa_nil))) (fun _ _ _ _ _ => (pg_name (i := 5) sc_all_strings.nd rfl (by first | exact Or.inl rfl | exact Or.inr rfl))) (fun _ _ _ _ _ => pts_nil) (fun _ _ _ _ _ => (pe_op op_add_str (pv 4) (pe_callTy call_str_int (by rfl) (B_str T) (by decide +kernel) (pa_cons (pv 5) pa_nil)))))))
      (pss_one (ps_ret (pv 2))))), ?_⟩
    refine q_asgL (xs := [.str (encD [])]) (el_lst (ea_cons (ev_is ev_c rfl) ea_nil) le1) fun p H1 hp e1 h1 => ?_
    have hpw : ∀ i, i ≤ 4 → k ^ i ≤ 81 := fun i hi => by
      have h1 : k ^ i ≤ 3 ^ i := Nat.pow_le_pow_left hk3 i
      have h2 : 3 ^ i ≤ 3 ^ 4 := Nat.pow_le_pow_right (by decide) hi
      exact Nat.le_trans h1 h2
    refine q_forR1 (n := ((n : Nat) : Int)) (ea_cons (ev_var rfl) ea_nil) (by omega) (fun i σ' H' => ∃ (r : Addr) (ys : List V) (c3 : Option V), σ' = [some (.int (k : Nat)), some (.int (n : Nat)), some (.ref r), c3, none, none] ∧ Ex H H' ∧ H r = none ∧ H' r = some (.lst ys) ∧ (∀ y ∈ ys, StrV k i y) ∧ ys.length = k ^ i) (fun H2 e2 => ⟨p, _, none, rfl, e1.trans e2, hp, e2 _ _ h1, fun y hy => ?_, by simp⟩) ?_ ?_
    · simp at hy
      subst hy
      exact ⟨[], rfl, by simp, rfl⟩
    · rintro i σ' H2 hi ⟨r, ys, c3, rfl, e2, hr0, h2, hys, hyl⟩
      have hb := hpw i (by omega)
      refine s_asgLP (el_lc2 (kk := k) (StrV k (i + 1)) (ev_var rfl) (sq_of h2) (by omega) (by omega) (fun x H3 e3 => ea_cons (ev_var rfl) ea_nil) (fun x hx d hd H3 e3 => ?_)) fun q H3 zs hq e3 h3 hz => ⟨q, zs, _, rfl, e2.trans e3, fresh_back e2 hq, h3, hz.1, by rw [hz.2, hyl, Nat.pow_succ]⟩
      obtain ⟨s, rfl, hs1, hs2⟩ := hys x hx
      refine ⟨.str (encD (s ++ [d])), ⟨s ++ [d], rfl, fun z hz => ?_, by simp [hs2]⟩, ev_addD (b := [d]) (ev_var rfl) (ev_strI (ev_var rfl) (by omega)) (by simp; omega)⟩
      rcases List.mem_append.mp hz with z1 | z1
      · exact hs1 z z1
      · simp at z1
        subst z1
        exact hd
    · rintro σ' H2 ⟨r, ys, c3, rfl, e2, hr0, h2, hys, hyl⟩
      have e0 : ((n : Nat) : Int).toNat = n := by omega
      rw [e0] at hys hyl
      exact s_ret (ev_var rfl) fun H3 e3 => kq ys hys hyl r H3 hr0 (e2.trans e3) (e3 _ _ h2)
end
end LT

set_option Elab.async false
set_option linter.all false
set_option maxRecDepth 100000
set_option maxHeartbeats 4000000
/-! rounds_together, least_order -/
namespace LT
open PySem PySem.Spec PyProof.Rows L2 Evl
theorem rgc64 : ∀ c : Fin 65, 1 ≤ c.1 → (Builtin.Range.small (c.1 : Int) 65 (c.1 : Int) = true ∧ Builtin.Range.rangeSize (c.1 : Int) 65 (c.1 : Int) = ((64 / c.1 : Nat) : Int)) := by decide +kernel
section
variable {K : PySem.W.Frag} {σ : L2.St} {H H' : Hp} {ta tb te tx td ty tv tn : TE} {D : Ends} {tz tu : TS} {M : Mach} {g : TG}
theorem s_forLP {P : List V → Prop} (h : EvLP te σ H P) (Pv : Addr → List V → Nat → L2.St → Hp → Prop) (h0 : ∀ p ys H1, H p = none → Ex H H1 → H1 p = some (.lst ys) → P ys → Pv p ys 0 σ H1) (hl : ∀ p ys i σ' H', i ≤ ys.length → Pv p ys i σ' H' → SqL K H' p ys)
    (hs : ∀ p ys i x σ' H', ys[i]? = some x → Pv p ys i σ' H' → g x σ' H' fun σ2 H2 => tu { D with nx := Pv p ys (i + 1), ct := Pv p ys (i + 1), bk := D.nx } σ2 H2) (hd : ∀ p ys σ' H', Pv p ys ys.length σ' H' → D.nx σ' H') : tFor (iList K te) g tu D σ H :=
  h H (Ex.refl H) _ fun p H1 ys hp e h1 hP => ⟨p, rfl, ⟨ys, sq_of h1⟩, for_list (Pv p ys) (h0 p ys H1 hp e h1 hP) (hl p ys) (hs p ys) (hd p ys)⟩
theorem q_forLP {P : List V → Prop} (h : EvLP te σ H P) (Pv : Addr → List V → Nat → L2.St → Hp → Prop) (h0 : ∀ p ys H1, H p = none → Ex H H1 → H1 p = some (.lst ys) → P ys → Pv p ys 0 σ H1) (hl : ∀ p ys i σ' H', i ≤ ys.length → Pv p ys i σ' H' → SqL K H' p ys)
    (hs : ∀ p ys i x σ' H', ys[i]? = some x → Pv p ys i σ' H' → g x σ' H' fun σ2 H2 => tu { D with nx := Pv p ys (i + 1), ct := Pv p ys (i + 1), bk := tz D } σ2 H2) (hd : ∀ p ys σ' H', Pv p ys ys.length σ' H' → tz D σ' H') : tSeq (tFor (iList K te) g tu) tz D σ H := s_forLP (D := { D with nx := tz D }) h Pv h0 hl hs hd
theorem q_forR3 {ta : TA} {j n : Nat} {lo hi c : Int} (h : EvA ta σ H [.int lo, .int hi, .int c]) (hc : RgC lo hi c n) (Pv : Nat → L2.St → Hp → Prop) (h0 : ∀ H1, Ex H H1 → Pv 0 σ H1)
    (hs : ∀ (i : Nat) σ' H', i < n → Pv i σ' H' → tu { D with nx := Pv (i + 1), ct := Pv (i + 1), bk := tz D } (σ'.set j (some (.int (lo + (i : Nat) * c)))) H') (hd : ∀ σ' H', Pv n σ' H' → tz D σ' H') : tSeq (tFor (iRng3 ta) (gName j) tu) tz D σ H :=
  h H (Ex.refl H) _ fun H1 e => ⟨lo, hi, c, n, rfl, hc, for_it (D := { D with nx := tz D }) walk_rangeC Pv (h0 H1 e) (fun _ _ _ _ _ => trivial) (fun i x σ' H' H2 hi p y => by
    obtain ⟨rfl, rfl⟩ := y
    exact hs i σ' H2 hi p) hd⟩
theorem el_allS {k n : Nat} {ta : TA} (h : EvA ta σ H [.int (k : Nat), .int (n : Nat)]) (hk : k ≤ 3) (hn : n ≤ 4) : EvLP (tCall (spAllS K) [] E0 ta) σ H (fun ys => (∀ y ∈ ys, StrV k n y) ∧ ys.length = k ^ n) := fun H1 e Q q =>
  h H1 e _ fun H2 e2 => ⟨k, n, rfl, hk, hn, fun ys h1 h2 p H3 hp e3 h3 => q p H3 ys (fresh_back e2 hp) (e2.trans e3) h3 ⟨h1, h2⟩⟩
end
theorem cut_pw_cut (u : Wd) (n : Nat) : cut (pw (cut u) n) = cut (pw u n) := (pw_eqv (cut_eqv u) n).cut
def spRT (K : PySem.W.Frag) : Sp := fun vs H Q E => ∃ (M : Mach) (u : Wd) (mv : V), vs = [mv, .str (enc u), .int 64] ∧ M.Ok ∧ MachAt K H mv M ∧ WOk M u ∧ u.length ≤ 60 ∧ RX K H E ∧
  ∀ t : Nat, 1 ≤ t → (∀ n, Rest M (pw u n) → t ∣ n) → RetV (.int (t : Nat)) H Q
def spLeast (K : PySem.W.Frag) : Sp := fun vs H Q E => ∃ (M : Mach) (u : Wd) (mv : V), vs = [mv, .str (enc u), .int 64] ∧ M.Ok ∧ MachAt K H mv M ∧ WOk M u ∧ u.length ≤ 60 ∧ RX K H E ∧ RetV .non H Q ∧
  ∀ n : Nat, 1 ≤ n → n ≤ 64 → Rest M (pw u n) → (∀ j, 1 ≤ j → j < n → ¬ Rest M (pw u j)) → RetV (.int (n : Nat)) H Q
section
variable {P : Program} {w : World} {K : PySem.W.Frag} {mg : Str → Option Value} {base : Heap} {M : Mach} {H : Hp} {mv av : V} {E : XK}
theorem sx_round {u : Wd} {s : List Nat} (O : M.Ok) (hm : MachAt K H mv M) (hu : WOk M u) (hul : u.length ≤ 60) (hs : SOk M s) (hsl : s.length ≤ 1000) (hx : RX K H E) : SpRX (spRound K) [mv, .str (enc u), .str (encD s)] H E
    (fun v H' => ∃ (m : Nat) (p : Addr), v = .ref p ∧ H' p = some (.tup [.int (m : Nat), .str (enc (cut (sec M (pw u m) s)))]) ∧ Round M u s m ∧ m ≤ 2000 ∧ (cut (sec M (pw u m) s)).length ≤ 2000) :=
  fun _ e _ q => ⟨M, u, s, mv, rfl, O, ex_mach e hm, hu, hul, hs, hsl, hx.mono e, fun m h1 h2 h3 p H2 _ e2 hp => q _ H2 e2 ⟨m, p, rfl, hp, h1, h2, h3⟩⟩
theorem sc_rounds_together : FnScope ["machine", "word", "most", "total", "string"] ["machine", "word", "most"] (defScope s_rounds_together) := ⟨rfl, rfl, rfl, by decide +kernel, rfl, by decide +kernel, by decide +kernel⟩
theorem ok_rounds_together (T : Tx K mg) : FnOk P w K mg base (L2.CX P w) 5 (He.fAd K d_rounds_together.at_) (fdO K d_rounds_together) ["machine", "word", "most"] (spRT K) := by
  refine (F_rounds_together T).ok sc_rounds_together (fun vs H Q E h => ?_) (fun cdv A outer s H vs Q E hr h => ?_)
  · obtain ⟨_, _, _, rfl, _⟩ := h
    rfl
  · obtain ⟨M, u, mv, rfl, O, hm, hu, hul, hx, k⟩ := h
    refine ⟨_, (pss_cons (ps_set (i := 3) sc_rounds_together.nd rfl (.inl rfl) pe_int)
      (pss_cons (ps_for (passes_of rfl) rfl (pi_listK (K := K) rfl (pe_call (ok_all_strings T) (hr.mono (by decide)) rfl (T_all_strings T) (F_all_strings T).kp (b_all_strings T) .nil pass0 (pa_cons (pe_ix (ix_tupK (K := K) rfl) (pv 0) pe_int (fun _ _ => rfl)) (pa_cons (pe_ix (ix_kdictIK (K := K) rfl) (pe_glob (v := .ref (He.ga K "LEVELS")) rfl (T_LEVELS T) rfl) (pe_ix (ix_tupK (K := K) rfl) (pv 0) pe_int (fun _ _ => rfl)) (fun _ _ => rfl)) pa_nil)))) (pg_name (i := 4) sc_rounds_together.nd rfl (by first | exact Or.inl rfl | exact Or.inr rfl)) (pss_cons (ps_set (i := 3) sc_rounds_together.nd rfl (.inl rfl) (pe_callBfun LR.cr_lcm (by rfl) T.lcm (pa_cons (pv 3) (pa_cons (pe_ix (ix_tupK (K := K) rfl) (pe_call (ok_round_length T) hr rfl (T_round_length T) (F_round_length T).kp (b_round_length T) .nil (passes_call (takes_of rfl rfl rfl rfl) (fun _ _ _ _ h => h)) (pa_cons (pv 0) (pa_cons (pv 1) (pa_cons (pv 4) pa_nil)))) pe_int (fun _ _ => rfl)) pa_nil))))
      (pss_one (ps_if (pt_cmpR op_gt (pv 3) (pv 2) (nomark _)) (pss_one ps_break) pss_nil))))
      (pss_one (ps_ret (pv 3))))), ?_⟩
    have hk2 := O.k2
    have hk3 := O.k3
    refine q_asg ev_c fun H1 e1 => ?_
    have hk := fun {H3 : Hp} (e3 : Ex H H3) => ev_k (K := K) (H := H3) (σ := [some mv, some (.str (enc u)), some (.int 64), some (.int 1), none]) (ex_mach e3 hm) (te := tVar 0) (ev_var rfl)
    have hlev : ∃ lv : Nat, lv ≤ 4 ∧ LR.KDctI K (He.ga K "LEVELS") (M.k : Nat) (lv : Nat) := by
      obtain ⟨h2, h3⟩ := levels T
      have : M.k = 2 ∨ M.k = 3 := by omega
      rcases this with z | z
      · rw [z]; exact ⟨4, by omega, h2⟩
      · rw [z]; exact ⟨2, by omega, h3⟩
    obtain ⟨lv, hlv, hkd⟩ := hlev
    have hlvE : Ev (tOp (LR.rIxDI K) (tC (.ref (He.ga K "LEVELS"))) (tOp (rIxT K) (tVar 0) (tC (.int 0)))) [some mv, some (.str (enc u)), some (.int 64), some (.int 1), none] H1 (.int (lv : Nat)) := ev_op ev_c (hk e1) fun H2 _ _ q => ⟨_, _, _, rfl, rfl, hkd, q H2 (Ex.refl _)⟩
    refine q_forLP (el_allS (n := lv) (ea_cons (hk e1) (ea_cons hlvE ea_nil)) hk3 hlv) (fun p ys i σ' H' => ∃ (t : Nat) (c : Option V), σ' = [some mv, some (.str (enc u)), some (.int 64), some (.int (t : Nat)), c] ∧ Ex H H' ∧ H' p = some (.lst ys) ∧ (∀ y ∈ ys, StrV M.k lv y) ∧ 1 ≤ t ∧ t ≤ 64 ∧ ∀ n, Rest M (pw u n) → t ∣ n) (fun p ys H2 hp e2 h2 hP => ⟨1, none, rfl, e1.trans e2, h2, hP.1, by omega, by omega, fun n _ => Nat.one_dvd n⟩) (fun p ys i σ' H' _ ⟨_, _, _, _, h, _⟩ => sq_of h) ?_ ?_
    · rintro p ys i y σ' H2 hy ⟨t, c, rfl, e2, h2, hys, ht1, ht2, htd⟩
      obtain ⟨s, rfl, hs1, hs2⟩ := hys y (List.mem_of_getElem? hy)
      refine q_asgR (R := fun v _ => ∃ t' : Nat, v = .int (t' : Nat) ∧ 1 ≤ t' ∧ ∀ n, Rest M (pw u n) → t' ∣ n) (fun H3 e3 Q3 q3 => ⟨.int (t : Nat), rfl, er_callX (ea_cons (ev_var rfl) (ea_cons (ev_var rfl) (ea_cons (ev_var rfl) ea_nil))) (sx_round O (ex_mach (e2.trans e3) hm) hu hul (s := s) hs1 (by omega) (hx.mono (e2.trans e3))) H3 (Ex.refl _) _ fun v H4 e4 hv => ?_⟩) fun v H3 e3 hv => ?_
      · obtain ⟨m, pp, rfl, hpp, hR, hm1, _⟩ := hv
        refine ⟨pp, [_, _], 0, .int (m : Nat), rfl, rfl, st_of hpp, rfl, (t : Nat), (m : Nat), rfl, by omega, by omega, by have := hR.1; omega, by omega, ?_⟩
        have e0 : ((t : Nat) : Int).toNat = t := by omega
        have e1' : ((m : Nat) : Int).toNat = m := by omega
        rw [e0, e1']
        refine q3 _ H4 e4 ⟨Nat.lcm t m, rfl, Nat.lcm_pos (by omega) hR.1, fun n hn => Nat.lcm_dvd (htd n hn) (hR.dvd ?_)⟩
        rw [← act_pw]
        exact hn s hs1
      · obtain ⟨t', rfl, ht1', htd'⟩ := hv
        refine s_when (et_test (ev_gt (ev_var rfl) (ev_var rfl))) (fun _ H4 e4 => ?_) (fun hb H4 e4 => ?_)
        · exact s_ret (ev_var rfl) fun H5 e5 => k t' ht1' htd' H5 (((e2.trans e3).trans e4).trans e5)
        · refine ⟨t', _, rfl, (e2.trans e3).trans e4, (e3.trans e4) _ _ h2, hys, ht1', ?_, htd'⟩
          simp at hb
          omega
    · rintro p ys σ' H2 ⟨t, c, rfl, e2, h2, hys, ht1, ht2, htd⟩
      exact s_ret (ev_var rfl) fun H5 e5 => k t ht1 htd H5 (e2.trans e5)
theorem sc_least_order : FnScope ["machine", "word", "most", "step", "factor", "result", "number"] ["machine", "word", "most"] (defScope s_least_order) := ⟨rfl, rfl, rfl, by decide +kernel, rfl, by decide +kernel, by decide +kernel⟩
theorem ok_least_order (T : Tx K mg) : FnOk P w K mg base (L2.CX P w) 6 (He.fAd K d_least_order.at_) (fdO K d_least_order) ["machine", "word", "most"] (spLeast K) := by
  refine (F_least_order T).ok sc_least_order (fun vs H Q E h => ?_) (fun cdv A outer s H vs Q E hr h => ?_)
  · obtain ⟨_, _, _, rfl, _⟩ := h
    rfl
  · obtain ⟨M, u, mv, rfl, O, hm, hu, hul, hx, k1, k2⟩ := h
    refine ⟨_, (pss_cons (ps_set (i := 3) sc_least_order.nd rfl (.inl rfl) (pe_call (ok_rounds_together T) hr rfl (T_rounds_together T) (F_rounds_together T).kp (b_rounds_together T) .nil (passes_call (takes_of rfl rfl rfl rfl) (fun _ _ _ _ h => h)) (pa_cons (pv 0) (pa_cons (pv 1) (pa_cons (pv 2) pa_nil)))))
      (pss_cons (ps_if (pt_cmpR op_gt (pv 3) (pv 2) (nomark _)) (pss_one (ps_ret pe_non)) pss_nil)
      (pss_cons (ps_set (i := 4) sc_least_order.nd rfl (.inl rfl) (pe_call (ok_raised T) (hr.mono (by decide)) rfl (T_raised T) (F_raised T).kp (b_raised T) .nil (passes_call (takes_of rfl rfl rfl rfl) (fun _ _ _ _ h => h)) (pa_cons (pv 1) (pa_cons (pv 3) pa_nil))))
      (pss_cons (ps_set (i := 5) sc_least_order.nd rfl (.inl rfl) pe_str)
      (pss_cons (ps_for (passes_of rfl) rfl (pi_range3 rfl (B_range T) (pa_cons (pv 3) (pa_cons (pe_op op_add (pv 2) pe_int) (pa_cons (pv 3) pa_nil)))) (pg_name (i := 6) sc_least_order.nd rfl (by first | exact Or.inl rfl | exact Or.inr rfl)) (pss_cons (ps_set (i := 5) sc_least_order.nd rfl (.inl rfl) (pe_call (ok_kept T) (hr.mono (by decide)) rfl (T_kept T) (F_kept T).kp (b_kept T) .nil (passes_call (takes_of rfl rfl rfl rfl) (fun _ _ _ _ h => h)) (pa_cons (pe_call (ok_cut T) (hr.mono (by decide)) rfl (T_cut T) (F_cut T).kp (b_cut T) .nil pass0 (pa_cons (pe_op op_add_str (pv 5) (pv 4)) pa_nil)) pa_nil)))
      (pss_one (ps_if (pt_val (pe_call (ok_rests T) hr rfl (T_rests T) (F_rests T).kp (b_rests T) .nil (passes_call (takes_of rfl rfl rfl rfl) (fun _ _ _ _ h => h)) (pa_cons (pv 0) (pa_cons (pv 5) pa_nil)))) (pss_one (ps_ret (pv 6))) pss_nil))))
      (pss_one (ps_ret pe_non))))))), ?_⟩
    refine q_asgR (R := fun v _ => ∃ t : Nat, v = .int (t : Nat) ∧ 1 ≤ t ∧ ∀ n, Rest M (pw u n) → t ∣ n) (er_callX (ea_cons (ev_var rfl) (ea_cons (ev_var rfl) (ea_cons (ev_var rfl) ea_nil))) (fun H1 e1 Q1 q1 => ⟨M, u, mv, rfl, O, ex_mach e1 hm, hu, hul, hx.mono e1, fun t h1 h2 H2 e2 => q1 _ H2 e2 ⟨t, rfl, h1, h2⟩⟩)) fun v H1 e1 hv => ?_
    obtain ⟨t, rfl, ht1, htd⟩ := hv
    refine q_when (et_test (ev_gt (ev_var rfl) (ev_var rfl))) (fun _ H2 e2 => ?_) (fun hb H2 e2 => ?_)
    · exact s_ret ev_c fun H3 e3 => k1 H3 ((e1.trans e2).trans e3)
    have ht2 : t ≤ 64 := by simp at hb; omega
    have E2 := e1.trans e2
    have hna : ((t : Nat) : Int).natAbs = t := by omega
    have hfe : facE u (t : Nat) = cut u := by
      unfold facE
      rw [if_neg (by omega)]
    have hcu := cut_length u
    refine q_asgR (R := fun v _ => v = .str (enc (cut (pw u t))) ∧ (cut (pw u t)).length ≤ 4000) (er_callX (ea_cons (ev_var rfl) (ea_cons (ev_var rfl) ea_nil)) (fun H3 e3 Q3 q3 => ⟨u, (t : Nat), rfl, hu.l8 O, hul, by omega, by omega, hx.mono (E2.trans e3), fun hl H4 e4 => ?_⟩)) fun v H3 e3 hv => ?_
    · rw [hna, hfe, cut_pw_cut] at hl ⊢
      exact q3 _ H4 e4 ⟨rfl, by omega⟩
    obtain ⟨rfl, hfl⟩ := hv
    refine q_asg (v := .str (enc [])) (ev_is ev_c rfl) fun H4 e4 => ?_
    have E4 := (E2.trans e3).trans e4
    have hfo : WOk M (cut (pw u t)) := (hu.pw t).cut
    have hrg : RgC ((t : Nat) : Int) 65 ((t : Nat) : Int) (64 / t) := by
      have := rgc64 ⟨t, by omega⟩ ht1
      exact ⟨by omega, by omega, this.1, this.2⟩
    refine q_forR3 (n := 64 / t) (lo := (t : Nat)) (hi := 65) (c := (t : Nat)) (ea_cons (ev_var rfl) (ea_cons (ev_is (ev_add (i := 64) (j := 1) (ev_var rfl) ev_c) rfl) (ea_cons (ev_var rfl) ea_nil))) hrg (fun i σ' H' => ∃ c, σ' = [some mv, some (.str (enc u)), some (.int 64), some (.int (t : Nat)), some (.str (enc (cut (pw u t)))), some (.str (enc (cut (pw u (t * i))))), c] ∧ Ex H H' ∧ (cut (pw u (t * i))).length ≤ 2000 ∧ ∀ j, 1 ≤ j → j ≤ i → ¬ Rest M (pw u (t * j))) (fun H5 e5 => ⟨none, rfl, E4.trans e5, by simp [pw, cut, cutg], fun j h1 h2 => by omega⟩) ?_ ?_
    · rintro i σ' H5 hi ⟨c, rfl, e5, hlen, hno⟩
      have hsucc : cut (cut (pw u (t * i)) ++ cut (pw u t)) = cut (pw u (t * (i + 1))) := by rw [cut_cut_append, cut_append_cut, ← pw_add, Nat.mul_succ]
      have hro : WOk M (cut (pw u (t * i)) ++ cut (pw u t)) := (hu.pw _).cut.append hfo
      have hl2 : (cut (pw u (t * i)) ++ cut (pw u t)).length ≤ 6000 := by rw [List.length_append]; omega
      have hl3 := cut_length (cut (pw u (t * i)) ++ cut (pw u t))
      refine q_asgR (er_kept (ev_call (ea_cons (ev_addW (ev_var rfl) (ev_var rfl) (by omega)) ea_nil) (sv_cut (hro.l8 O) (by omega))) (by omega) (hx.mono e5)) fun y H6 e6 hy => ?_
      obtain ⟨rfl, hl4⟩ := hy
      rw [hsucc] at hl4 ⊢
      have E6 := e5.trans e6
      have hcr : Rest M (cut (pw u (t * (i + 1)))) ↔ Rest M (pw u (t * (i + 1))) := Rest.cut_iff O
      refine s_whenR (p := fun b => b = true ↔ Rest M (cut (pw u (t * (i + 1))))) (etR_B (er_callX (ea_cons (ev_var rfl) (ea_cons (ev_var rfl) ea_nil)) (fun H7 e7 Q7 q7 => ⟨M, _, mv, rfl, O, ex_mach (E6.trans e7) hm, (hu.pw _).cut, hl4, hx.mono (E6.trans e7), fun b hb H8 e8 => q7 _ H8 e8 ⟨b, rfl, hb⟩⟩))) (fun hp H7 e7 => ?_) (fun hp H7 e7 => ?_)
      · have hrest := hcr.mp (hp.mp rfl)
        have en : ((t : Nat) : Int) + ((i : Nat) : Int) * ((t : Nat) : Int) = ((t * (i + 1) : Nat) : Int) := by
          rw [Int.natCast_mul, Int.natCast_add, Int.mul_add, Int.mul_comm (t : Int) (i : Int)]
          simp
          omega
        rw [en]
        have hle : t * (i + 1) ≤ 64 := by
          have h1 : i + 1 ≤ 64 / t := by omega
          have h2 := Nat.mul_le_mul_left t h1
          exact Nat.le_trans h2 (Nat.mul_div_le 64 t)
        have hge : 1 ≤ t * (i + 1) := Nat.mul_pos (by omega) (by omega)
        refine s_ret (ev_var rfl) fun H8 e8 => k2 (t * (i + 1)) hge hle hrest (fun j hj1 hj2 hr => ?_) H8 ((E6.trans e7).trans e8)
        obtain ⟨c', rfl⟩ := htd j hr
        have hc1 : 1 ≤ c' := by
          rcases Nat.eq_zero_or_pos c' with z | z
          · subst z; omega
          · exact z
        have hc2 : c' < i + 1 := Nat.lt_of_mul_lt_mul_left hj2
        exact hno c' hc1 (by omega) hr
      · refine ⟨_, rfl, E6.trans e7, hl4, fun j h1 h2 => ?_⟩
        by_cases q : j = i + 1
        · subst q
          intro z
          have := hp.mpr (hcr.mpr z)
          cases this
        · exact hno j h1 (by omega)
    · rintro σ' H5 ⟨c, rfl, e5, hlen, hno⟩
      exact s_ret ev_c fun H6 e6 => k1 H6 (e5.trans e6)
end
end LT

set_option Elab.async false
set_option linter.all false
set_option maxRecDepth 100000
set_option maxHeartbeats 4000000
/-! seek_witness, order -/
namespace LT
open PySem PySem.Spec PyProof.Rows L2 Evl
section
variable {K : PySem.W.Frag} {σ : L2.St} {H H' : Hp} {ta tb te tf tx td ty tv tn : TE} {D : Ends} {tz tu : TS} {M : Mach} {g : TG}
theorem q_unRV {i j : Nat} {R0 : V → V → Hp → Prop} (h : EvR te σ H (fun v H' => ∃ p a b, v = .ref p ∧ H' p = some (.tup [a, b]) ∧ R0 a b H')) (k : ∀ a b H1, Ex H H1 → R0 a b H1 → tz D ((σ.set i (some a)).set j (some b)) H1) : tSeq (tAsg te (gTup K 2 (gCons (gName i) (gCons (gName j) gNil)))) tz D σ H :=
  h H (Ex.refl H) _ fun v H1 e1 ⟨p, a, b, hv, hp, hr⟩ => by
    subst hv
    exact g_unT (st_of hp) (k a b H1 e1 hr)
theorem EvR.imp {R R' : V → Hp → Prop} (h : EvR te σ H R) (hi : ∀ v H1, Ex H H1 → R v H1 → R' v H1) : EvR te σ H R' := fun H1 e Q q => h H1 e Q fun v H2 e2 r => q v H2 e2 (hi v H2 (e.trans e2) r)
theorem er_tup2 {x : V} {R : V → Hp → Prop} (hR : ∀ v H1 H2, Ex H1 H2 → R v H1 → R v H2) (h1 : Ev te σ H x) (h2 : EvR tf σ H R) : EvR (tTup (tCons te (tCons tf tNil))) σ H (fun v H' => ∃ p y, v = .ref p ∧ H' p = some (.tup [x, y]) ∧ R y H') := fun H1 e Q q =>
  h1 H1 e _ fun H2 e2 => h2 H2 (e.trans e2) _ fun y H3 e3 r => ⟨sz_of le2, fun p hp => q _ _ ((e2.trans e3).trans (Ex.new hp)) ⟨p, y, rfl, upd_same, hR y _ _ (Ex.new hp) r⟩⟩
theorem el_cat {P1 P2 : List V → Prop} (h1 : EvLP ta σ H P1) (h2 : ∀ H1, Ex H H1 → EvLP tb σ H1 P2) (hl : ∀ xs ys, P1 xs → P2 ys → xs.length + ys.length ≤ 100000) : EvLP (tOp rCat ta tb) σ H (fun zs => ∃ xs ys, zs = xs ++ ys ∧ P1 xs ∧ P2 ys) := fun H1 e Q q =>
  h1 H1 e _ fun p H2 xs hp e2 h2' hP1 => h2 H2 (e.trans e2) H2 (Ex.refl _) _ fun p2 H3 ys hp2 e3 h3 hP2 => by
    have hf := fun (r : Addr) (hr : H3 r = none) => q r (upd H3 r (.lst (xs ++ ys))) (xs ++ ys) (fresh_back e2 (fresh_back e3 hr)) ((e2.trans e3).trans (Ex.new hr)) upd_same ⟨xs, ys, rfl, hP1, hP2⟩
    first
      | exact ⟨p, p2, xs, ys, rfl, rfl, e3 _ _ h2', h3, sz_of (hl xs ys hP1 hP2), hf⟩
      | exact ⟨p, p2, xs, ys, rfl, rfl, sq_of (e3 _ _ h2'), sq_of h3, sz_of (hl xs ys hP1 hP2), hf⟩
end
def WitAt (H : Hp) (y : V) (s : List Nat) (m : Nat) (e : Int) (h : Wd) : Prop := ∃ a, y = .ref a ∧ H a = some (.tup [.str (encD s), .int (m : Nat), .int e, .str (enc h)])
def spSeek (K : PySem.W.Frag) : Sp := fun vs H Q E => ∃ (M : Mach) (u : Wd) (mv : V), vs = [mv, .str (enc u)] ∧ M.Ok ∧ MachAt K H mv M ∧ WOk M u ∧ u.length ≤ 20 ∧ RX K H E ∧ RetV .non H Q ∧
  ∀ s m e h y H2, OAnsOk M (.endl s m e h) → Ex H H2 → WitAt H2 y s m e h → Q y H2
def Least (M : Mach) (u : Wd) (n : Nat) : Prop := 1 ≤ n ∧ n ≤ 64 ∧ Rest M (pw u n) ∧ ∀ j, 1 ≤ j → j < n → ¬ Rest M (pw u j)
def OrdOut (M : Mach) (u : Wd) (x y : V) (H : Hp) : Prop := (x = .str (Str.ofString "endless") ∧ ∃ s m e h, WitAt H y s m e h ∧ OAnsOk M (.endl s m e h)) ∨ (x = .str (Str.ofString "finite") ∧ ∃ n : Nat, y = .int (n : Nat) ∧ Least M u n) ∨ (x = .str (Str.ofString "open") ∧ y = .non)
def spOrder (K : PySem.W.Frag) : Sp := fun vs H Q E => ∃ (M : Mach) (u : Wd) (mv : V), vs = [mv, .str (enc u)] ∧ M.Ok ∧ MachAt K H mv M ∧ WOk M u ∧ u.length ≤ 20 ∧ RX K H E ∧
  ∀ p x y H2, Ex H H2 → H2 p = some (.tup [x, y]) → OrdOut M u x y H2 → Q (.ref p) H2
section
variable {P : Program} {w : World} {K : PySem.W.Frag} {mg : Str → Option Value} {base : Heap} {M : Mach} {H : Hp} {mv av : V} {E : XK}
theorem sr_isfound {u r h : Wd} {e : Int} (O : M.Ok) (hm : MachAt K H mv M) (hu : WOk M u) (hul : u.length ≤ 60) (hr : WOk M r) (hrl : r.length ≤ 2000) (he : e = 1 ∨ e = -1) (hh : WOk M h) (hhl : h.length ≤ 60) : SpR (spIsFound K) [mv, .str (enc u), .str (enc r), .int e, .str (enc h)] H (fun v _ => ∃ b, v = .bl b ∧ True) :=
  fun _ ee _ q _ => ⟨M, u, r, h, e, mv, rfl, O, ex_mach ee hm, hu, hul, hr, hrl, he, hh, hhl, fun b H2 e2 => q _ H2 e2 ⟨b, rfl, trivial⟩⟩
theorem sc_seek_witness : FnScope ["machine", "word", "string", "steps", "result", "exponent", "at"] ["machine", "word"] (defScope s_seek_witness) := ⟨rfl, rfl, rfl, by decide +kernel, rfl, by decide +kernel, by decide +kernel⟩
theorem ok_seek_witness (T : Tx K mg) : FnOk P w K mg base (L2.CX P w) 8 (He.fAd K d_seek_witness.at_) (fdO K d_seek_witness) ["machine", "word"] (spSeek K) := by
  refine (F_seek_witness T).ok sc_seek_witness (fun vs H Q E h => ?_) (fun cdv A outer s H vs Q E hr h => ?_)
  · obtain ⟨_, _, _, rfl, _⟩ := h
    rfl
  · obtain ⟨M, u, mv, rfl, O, hm, hu, hul, hx, k1, k2⟩ := h
    refine ⟨_, (pss_cons (ps_for (passes_of rfl) rfl (pi_listK (K := K) rfl (pe_op op_cat (pe_call (ok_all_strings T) (hr.mono (by decide)) rfl (T_all_strings T) (F_all_strings T).kp (b_all_strings T) .nil pass0 (pa_cons (pe_ix (ix_tupK (K := K) rfl) (pv 0) pe_int (fun _ _ => rfl)) (pa_cons pe_int pa_nil))) (pe_call (ok_all_strings T) (hr.mono (by decide)) rfl (T_all_strings T) (F_all_strings T).kp (b_all_strings T) .nil pass0 (pa_cons (pe_ix (ix_tupK (K := K) rfl) (pv 0) pe_int (fun _ _ => rfl)) (pa_cons pe_int pa_nil))))) (pg_name (i := 2) sc_seek_witness.nd rfl (by first | exact Or.inl rfl | exact Or.inr rfl)) (pss_cons (ps_asg (pe_call (ok_round_length T) (hr.mono (by decide)) rfl (T_round_length T) (F_round_length T).kp (b_round_length T) .nil (passes_call (takes_of rfl rfl rfl rfl) (fun _ _ _ _ h => h)) (pa_cons (pv 0) (pa_cons (pv 1) (pa_cons (pv 2) pa_nil)))) (pg_tupK (K := K) (n := 2) rfl rfl (pgs_cons (pg_name (i := 3) sc_seek_witness.nd rfl (by first | exact Or.inl rfl | exact Or.inr rfl)) (pgs_cons (pg_name (i := 4) sc_seek_witness.nd rfl (by first | exact Or.inl rfl | exact Or.inr rfl)) pgs_nil))))
      (pss_cons (ps_if (pt_cmpR op_eq (pv 3) pe_int (nomark _)) (pss_one ps_continue) pss_nil)
      (pss_one (ps_for (passes_of rfl) rfl (pi_tupK (K := K) rfl (pe_tup (pa_cons pe_int (pa_cons (pe_un un_neg pe_int) pa_nil)))) (pg_name (i := 5) sc_seek_witness.nd rfl (by first | exact Or.inl rfl | exact Or.inr rfl)) (pss_one (ps_for (passes_of rfl) rfl (pi_range1 rfl (B_range T) (pa_cons (pe_op op_add (pe_callB (call_lenK (K := K) rfl) (by rfl) (B_len T) PySem.boot_len (pa_cons (pv 1) pa_nil)) pe_int) pa_nil)) (pg_name (i := 6) sc_seek_witness.nd rfl (by first | exact Or.inl rfl | exact Or.inr rfl)) (pss_one (ps_if (pt_val (pe_call (ok_is_found T) hr rfl (T_is_found T) (F_is_found T).kp (b_is_found T) .nil pass0 (pa_cons (pv 0) (pa_cons (pv 1) (pa_cons (pv 4) (pa_cons (pv 5) (pa_cons (pe_slice sl_str (pv 1) po_none (po_some (pv 6))) pa_nil))))))) (pss_one (ps_ret (pe_tup (pa_cons (pv 2) (pa_cons (pv 3) (pa_cons (pv 5) (pa_cons (pe_slice sl_str (pv 1) po_none (po_some (pv 6))) pa_nil))))))) pss_nil)))))))))
      (pss_one (ps_ret pe_non))), ?_⟩
    have hk2 := O.k2
    have hk3 := O.k3
    have hk := fun {H3 : Hp} (e3 : Ex H H3) => ev_k (K := K) (H := H3) (σ := [some mv, some (.str (enc u)), none, none, none, none, none]) (ex_mach e3 hm) (te := tVar 0) (ev_var rfl)
    have hpw : ∀ i, i ≤ 4 → M.k ^ i ≤ 81 := fun i hi => by
      have h1 : M.k ^ i ≤ 3 ^ i := Nat.pow_le_pow_left hk3 i
      have h2 : 3 ^ i ≤ 3 ^ 4 := Nat.pow_le_pow_right (by decide) hi
      exact Nat.le_trans h1 h2
    refine q_forLP (el_cat (el_allS (n := 1) (ea_cons (hk (Ex.refl _)) (ea_cons ev_c ea_nil)) hk3 (by decide)) (fun H1 e1 => el_allS (n := 2) (ea_cons (hk e1) (ea_cons ev_c ea_nil)) hk3 (by decide)) (fun xs ys h1 h2 => by rw [h1.2, h2.2]; have := hpw 1 (by decide); have := hpw 2 (by decide); omega)) (fun p ys i σ' H' => ∃ (c2 c3 c4 c5 c6 : Option V), σ' = [some mv, some (.str (enc u)), c2, c3, c4, c5, c6] ∧ Ex H H' ∧ H' p = some (.lst ys) ∧ (∀ y ∈ ys, ∃ s, y = .str (encD s) ∧ SOk M s ∧ s.length ≤ 2)) ?_ (fun p ys i σ' H' _ ⟨_, _, _, _, _, _, _, h, _⟩ => sq_of h) ?_ ?_
    · rintro p zs H1 hp e1 h1 ⟨xs, ys, rfl, hx1, hy1⟩
      refine ⟨none, none, none, none, none, rfl, e1, h1, fun y hy => ?_⟩
      rcases List.mem_append.mp hy with z | z
      · obtain ⟨s, a1, a2, a3⟩ := hx1.1 y z
        exact ⟨s, a1, a2, by omega⟩
      · obtain ⟨s, a1, a2, a3⟩ := hy1.1 y z
        exact ⟨s, a1, a2, by omega⟩
    · rintro p ys i y σ' H1 hy ⟨c2, c3, c4, c5, c6, rfl, e1, h1, hys⟩
      obtain ⟨s, rfl, hs, hsl⟩ := hys y (List.mem_of_getElem? hy)
      refine q_unRV (R0 := fun a b _ => ∃ m : Nat, a = .int (m : Nat) ∧ b = .str (enc (cut (sec M (pw u m) s))) ∧ 1 ≤ m ∧ m ≤ 2000 ∧ (cut (sec M (pw u m) s)).length ≤ 2000) ((er_callX (ea_cons (ev_var rfl) (ea_cons (ev_var rfl) (ea_cons (ev_var rfl) ea_nil))) (sx_round O (ex_mach e1 hm) hu (by omega) (s := s) hs (by omega) (hx.mono e1))).imp fun v H2 e2 ⟨m, pp, a1, a2, a3, a4, a5⟩ => ⟨pp, _, _, a1, a2, m, rfl, rfl, a3.1, a4, a5⟩) fun a b H2 e2 hab => ?_
      obtain ⟨m, rfl, rfl, hm1, hm2, hrl⟩ := hab
      have E2 := e1.trans e2
      have h2 := e2 _ _ h1
      refine q_when (et_eq (ev_var rfl) ev_c rfl) (fun hb H3 e3 => ?_) (fun hb H3 e3 => ?_)
      · exact ⟨_, _, _, _, _, rfl, E2.trans e3, e3 _ _ h2, hys⟩
      · have hm3 : 2 ≤ m := by
          have h4 : ¬ ((m : Int) = 1) := by simpa using hb
          omega
        have E3 := E2.trans e3
        have h3 := e3 _ _ h2
        have hro : WOk M (cut (sec M (pw u m) s)) := (act_ok O (hu.pw m) hs).2.cut
        refine s_forTR (xs := [.int 1, .int (-1)]) (EvU.toR (eu_tup (ea_cons ev_c (ea_cons (ev_neg ev_c) ea_nil)) le2)) (fun B j σ' H' => ∃ (c5 c6 : Option V), σ' = [some mv, some (.str (enc u)), some (.str (encD s)), some (.int (m : Nat)), some (.str (enc (cut (sec M (pw u m) s)))), c5, c6] ∧ Ex H H' ∧ H' p = some (.lst ys) ∧ H' B = some (.tup [.int 1, .int (-1)])) (fun B H4 e4 hB => ⟨_, _, rfl, E3.trans e4, e4 _ _ h3, hB⟩) (fun B j σ' H' _ ⟨_, _, _, _, _, h⟩ => st_of h) ?_ ?_
        · rintro B j x σ' H4 hxx ⟨c5, c6, rfl, e4, h4, hB⟩
          have hee : ∃ ee : Int, x = .int ee ∧ (ee = 1 ∨ ee = -1) := by
            have := List.mem_of_getElem? hxx
            simp at this
            rcases this with z | z
            · exact ⟨1, z, .inl rfl⟩
            · exact ⟨-1, z, .inr rfl⟩
          obtain ⟨ee, rfl, hee⟩ := hee
          have hle := enc_length u
          refine s_forR1 (n := ((u.length + 1 : Nat) : Nat)) (ea_cons (ev_is (ev_add (ev_lenS (ev_var rfl) (by omega)) ev_c) (by rw [hle]; rfl)) ea_nil) (by omega) (fun at' σ' H' => ∃ (c6 : Option V), σ' = [some mv, some (.str (enc u)), some (.str (encD s)), some (.int (m : Nat)), some (.str (enc (cut (sec M (pw u m) s)))), some (.int ee), c6] ∧ Ex H H' ∧ H' p = some (.lst ys) ∧ H' B = some (.tup [.int 1, .int (-1)])) (fun H5 e5 => ⟨_, rfl, e4.trans e5, e5 _ _ h4, e5 _ _ hB⟩) ?_ ?_
          · rintro at' σ' H5 hi ⟨c6, rfl, e5, h5, hB5⟩
            have hto : WOk M (u.take at') := fun l hl => hu l (List.mem_of_mem_take hl)
            have htl : (u.take at').length ≤ 20 := by rw [List.length_take]; omega
            refine s_whenR (p := fun _ => True) (etR_B (er_call (ea_cons (ev_var rfl) (ea_cons (ev_var rfl) (ea_cons (ev_var rfl) (ea_cons (ev_var rfl) (ea_cons (ev_is (ev_slS (ev_var rfl) eo_none (eo_some (ev_var rfl)) (by omega)) (congrArg V.str (cutS_take u (at_ := at') (by omega)))) ea_nil))))) (sr_isfound O (ex_mach e5 hm) hu (by omega) hro hrl hee hto (by omega)))) (fun _ H6 e6 => ?_) (fun _ H6 e6 => ⟨_, rfl, e5.trans e6, e6 _ _ h5, e6 _ _ hB5⟩)
            refine s_retU (eu_tup (ea_cons (ev_var rfl) (ea_cons (ev_var rfl) (ea_cons (ev_var rfl) (ea_cons (ev_is (ev_slS (ev_var rfl) eo_none (eo_some (ev_var rfl)) (by omega)) (congrArg V.str (cutS_take u (at_ := at') (by omega)))) ea_nil)))) (show 4 ≤ 100000 by decide)) fun q H7 hq e7 h7 => k2 s m ee (u.take at') (.ref q) H7 ⟨hs, by omega, hm3, hm2, hee, hto, by omega⟩ ((e5.trans e6).trans e7) ⟨q, rfl, h7⟩
          · rintro σ' H5 ⟨c6, rfl, e5, h5, hB5⟩
            exact ⟨_, _, rfl, e5, h5, hB5⟩
        · rintro B σ' H4 ⟨c5, c6, rfl, e4, h4, hB⟩
          exact ⟨_, _, _, _, _, rfl, e4, h4, hys⟩
    · rintro p ys σ' H1 ⟨c2, c3, c4, c5, c6, rfl, e1, h1, hys⟩
      exact s_ret ev_c fun H2 e2 => k1 H2 (e1.trans e2)
theorem sc_order : FnScope ["machine", "word", "witness", "number"] ["machine", "word"] (defScope s_order) := ⟨rfl, rfl, rfl, by decide +kernel, rfl, by decide +kernel, by decide +kernel⟩
theorem ok_order (T : Tx K mg) : FnOk P w K mg base (L2.CX P w) 9 (He.fAd K d_order.at_) (fdO K d_order) ["machine", "word"] (spOrder K) := by
  refine (F_order T).ok sc_order (fun vs H Q E h => ?_) (fun cdv A outer s H vs Q E hr h => ?_)
  · obtain ⟨_, _, _, rfl, _⟩ := h
    rfl
  · obtain ⟨M, u, mv, rfl, O, hm, hu, hul, hx, k⟩ := h
    refine ⟨_, (pss_cons (ps_expr (pe_call (ok_check_words_wordmachine T) (hr.mono (by decide)) rfl (T_check_words_wordmachine T) (F_check_words_wordmachine T).kp (b_check_words_wordmachine T) .nil pass0 (pa_cons (pv 0) (pa_cons (pe_lst (pa_cons (pv 1) pa_nil)) pa_nil))))
      (pss_cons (ps_set (i := 2) sc_order.nd rfl (.inl rfl) (pe_call (ok_seek_witness T) hr rfl (T_seek_witness T) (F_seek_witness T).kp (b_seek_witness T) .nil (passes_call (takes_of rfl rfl rfl rfl) (fun _ _ _ _ h => h)) (pa_cons (pv 0) (pa_cons (pv 1) pa_nil))))
      (pss_cons (ps_if (pt_cmpR op_notN (pv 2) pe_non (nomark _)) (pss_one (ps_ret (pe_tup (pa_cons pe_str (pa_cons (pv 2) pa_nil))))) pss_nil)
      (pss_cons (ps_set (i := 3) sc_order.nd rfl (.inl rfl) (pe_call (ok_least_order T) (hr.mono (by decide)) rfl (T_least_order T) (F_least_order T).kp (b_least_order T) .nil (passes_call (takes_of rfl rfl rfl rfl) (fun _ _ _ _ h => h)) (pa_cons (pv 0) (pa_cons (pv 1) (pa_cons (pe_gi (T_LOOKED_AT T)) pa_nil)))))
      (pss_cons (ps_if (pt_cmpR op_notN (pv 3) pe_non (nomark _)) (pss_one (ps_ret (pe_tup (pa_cons pe_str (pa_cons (pv 3) pa_nil))))) pss_nil)
      (pss_one (ps_ret (pe_tup (pa_cons pe_str (pa_cons pe_non pa_nil)))))))))), ?_⟩
    refine q_callL1 (xs := wsV [u]) rfl (el_lst (ea_cons (ev_var rfl) ea_nil) le1) fun p H1 hp e1 h1 => ⟨M, [u], mv, p, rfl, O, ex_mach e1 hm, sq_of h1, fun y hy => ?_, fun H2 e2 => ?_⟩
    · simp at hy
      subst hy
      exact ⟨hu, by omega⟩
    have E2 := e1.trans e2
    refine q_asgR (R := fun v H' => v = .non ∨ ∃ s m e h, OAnsOk M (.endl s m e h) ∧ WitAt H' v s m e h) (er_callX (ea_cons (ev_var rfl) (ea_cons (ev_var rfl) ea_nil)) (fun H3 e3 Q3 q3 => ⟨M, u, mv, rfl, O, ex_mach (E2.trans e3) hm, hu, hul, hx.mono (E2.trans e3), fun H4 e4 => q3 _ H4 e4 (.inl rfl), fun s m e h y H4 h1 e4 h2 => q3 _ H4 e4 (.inr ⟨s, m, e, h, h1, h2⟩)⟩)) fun v H3 e3 hv => ?_
    have E3 := E2.trans e3
    rcases hv with rfl | ⟨s, m, e, hh, hok, a, rfl, ha⟩
    · refine q_when (b := false) (et_is (et_test (ev_notN (ev_var rfl))) rfl) (fun z => by cases z) (fun _ H4 e4 => ?_)
      have E4 := E3.trans e4
      refine q_asgR (R := fun v _ => v = .non ∨ ∃ n : Nat, v = .int (n : Nat) ∧ Least M u n) (er_callX (ea_cons (ev_var rfl) (ea_cons (ev_var rfl) (ea_cons ev_c ea_nil))) (fun H5 e5 Q5 q5 => ⟨M, u, mv, rfl, O, ex_mach (E4.trans e5) hm, hu, by omega, hx.mono (E4.trans e5), fun H6 e6 => q5 _ H6 e6 (.inl rfl), fun n h1 h2 h3 h4 H6 e6 => q5 _ H6 e6 (.inr ⟨n, rfl, h1, h2, h3, h4⟩)⟩)) fun v H5 e5 hv => ?_
      have E5 := E4.trans e5
      rcases hv with rfl | ⟨n, rfl, hn⟩
      · refine q_when (b := false) (et_is (et_test (ev_notN (ev_var rfl))) rfl) (fun z => by cases z) (fun _ H6 e6 => ?_)
        exact s_retU (eu_tup (ea_cons ev_c (ea_cons ev_c ea_nil)) le2) fun q H7 hq e7 h7 => k q _ _ H7 ((E5.trans e6).trans e7) h7 (.inr (.inr ⟨rfl, rfl⟩))
      · refine q_when (b := true) (et_is (et_test (ev_notN (ev_var rfl))) rfl) (fun _ H6 e6 => ?_) (fun z => by cases z)
        exact s_retU (eu_tup (ea_cons ev_c (ea_cons (ev_var rfl) ea_nil)) le2) fun q H7 hq e7 h7 => k q _ _ H7 ((E5.trans e6).trans e7) h7 (.inr (.inl ⟨rfl, n, rfl, hn⟩))
    · refine q_when (b := true) (et_is (et_test (ev_notN (ev_var rfl))) rfl) (fun _ H4 e4 => ?_) (fun z => by cases z)
      exact s_retU (eu_tup (ea_cons ev_c (ea_cons (ev_var rfl) ea_nil)) le2) fun q H5 hq e5 h5 => k q _ _ H5 ((E3.trans e4).trans e5) h5 (.inl ⟨rfl, s, m, e, hh, ⟨a, rfl, (e4.trans e5) _ _ ha⟩, hok⟩)
end
end LT

set_option Elab.async false
set_option linter.all false
set_option maxRecDepth 100000
set_option maxHeartbeats 4000000
/-! decide, decide_order -/
namespace LT
open PySem PySem.Spec PyProof.Rows L2 Evl
section
variable {K : PySem.W.Frag} {σ : L2.St} {H H' : Hp} {ta tb te tf tx td ty tv tn : TE} {D : Ends} {tz tu : TS} {M : Mach} {g : TG}
/-- [e for x in a new list], what holds of each item known -/
theorem el_lcP {j : Nat} {P : List V → Prop} {Pe : V → Prop} (h : EvLP ta σ H P) (hn : ∀ xs, P xs → xs.length ≤ 1000) (he : ∀ xs x H1, P xs → x ∈ xs → Ex H H1 → EvR te ((wipe σ [j]).set j (some x)) H1 (fun v _ => Pe v)) :
    EvLP (tLc (iList K ta) (gName j) tYes te [j]) σ H (fun ys => (∀ y ∈ ys, Pe y) ∧ ∃ xs, P xs ∧ ys.length = xs.length) := fun H0 e Q q =>
  h H0 e _ fun a H1 xs ha e1 h1 hP => ⟨a, rfl, ⟨xs, sq_of h1⟩, lcG walk_list (by have := hn xs hP; omega) (fun _ v _ => Pe v) (fun _ => ⟨fun _ _ _ _ h => h, fun _ _ _ _ _ _ h => h⟩) (fun H2 e2 => sq_of (e2 _ _ h1)) (fun i x H2 H3 F hi e2 hY k => by
    obtain ⟨rfl, hx⟩ := hY
    exact k _ H3 (Ex.refl _) wipe_set1 (he xs x H3 hP (List.mem_of_getElem? hx) ((e.trans e1).trans e2))) (fun p H2 ys hp e2 hl hPp => q p H2 ys (fresh_back e1 hp) (e1.trans e2) hl ⟨fun y hy => by
      obtain ⟨i, hi⟩ := List.getElem?_of_mem hy
      obtain ⟨_, _, h9⟩ := Paired.get hPp hi
      exact h9, xs, hP, by have := Paired.len hPp; simp at this; omega⟩)⟩
theorem el_primeD {n : Nat} {ta : TA} (h : EvA ta σ H [.int (n : Nat)]) (h1 : 1 ≤ n) (h2 : n ≤ 1000) : EvLP (tCall (spPrimeD K) [] E0 ta) σ H (fun ys => (∀ y ∈ ys, ∃ x : Nat, y = .int (x : Nat) ∧ 2 ≤ x ∧ x ∣ n) ∧ ys.length ≤ 1000) := fun H1 e Q q =>
  h H1 e _ fun H2 e2 => ⟨n, rfl, h1, h2, fun L a b p H3 hp e3 h3 => q p H3 _ (fresh_back e2 hp) (e2.trans e3) h3 ⟨fun y hy => by
    obtain ⟨x, hx, rfl⟩ := List.mem_map.mp hy
    exact ⟨x, rfl, a x hx⟩, by rw [nsV_len]; exact b⟩⟩
theorem er_tup4 {x1 x2 x4 : V} {t1 t2 t3 t4 : TE} {R : V → Hp → Prop} (hR : ∀ v H1 H2, Ex H1 H2 → R v H1 → R v H2) (h1 : Ev t1 σ H x1) (h2 : Ev t2 σ H x2) (h3 : EvR t3 σ H R) (h4 : Ev t4 σ H x4) : EvR (tTup (tCons t1 (tCons t2 (tCons t3 (tCons t4 tNil))))) σ H (fun v H' => ∃ p y, v = .ref p ∧ H' p = some (.tup [x1, x2, y, x4]) ∧ R y H') := fun H1 e Q q =>
  h1 H1 e _ fun H2 e2 => h2 H2 (e.trans e2) _ fun H3 e3 => h3 H3 ((e.trans e2).trans e3) _ fun y H4 e4 r => h4 H4 (((e.trans e2).trans e3).trans e4) _ fun H5 e5 => ⟨sz_of (show 4 ≤ 100000 by decide), fun p hp => q _ _ ((((e2.trans e3).trans e4).trans e5).trans (Ex.new hp)) ⟨p, y, rfl, upd_same, hR y _ _ (e5.trans (Ex.new hp)) r⟩⟩
end
theorem strs_of {M : Mach} {ys : List V} (h : ∀ y ∈ ys, ∃ s, y = .str (encD s) ∧ SOk M s ∧ s.length ≤ 5000) : ∃ ss : List (List Nat), ys = ssV ss ∧ ∀ s ∈ ss, SOk M s ∧ s.length ≤ 5000 := by
  induction ys with
  | nil => exact ⟨[], rfl, fun s hs => by simp at hs⟩
  | cons y r ih =>
    obtain ⟨ss, h1, h2⟩ := ih fun y hy => h y (by simp [hy])
    obtain ⟨s, rfl, h4, h5⟩ := h y (by simp)
    refine ⟨s :: ss, by rw [h1]; rfl, fun t ht => ?_⟩
    rcases List.mem_cons.mp ht with z | z
    · subst z; exact ⟨h4, h5⟩
    · exact h2 t z
/-- an answer whose lists are none of F -/
def AnsF (F : Addr → Prop) (H : Hp) (x : V) : Ans → Prop
  | .eq ws => ∃ p a, x = .ref p ∧ H p = some (.tup [.str (Str.ofString "equal"), .ref a]) ∧ H a = some (.lst (wsV ws)) ∧ ¬ F a
  | .ap s => ∃ p, x = .ref p ∧ H p = some (.tup [.str (Str.ofString "apart"), .str (encD s)])
def OAnsF (F : Addr → Prop) (H : Hp) (x : V) : OAns → Prop
  | .fin n ws ss => ∃ p a b, x = .ref p ∧ H p = some (.tup [.str (Str.ofString "finite"), .int (n : Nat), .ref a, .ref b]) ∧ H a = some (.lst (wsV ws)) ∧ ¬ F a ∧ H b = some (.lst (ssV ss)) ∧ ¬ F b
  | .endl s m e h => ∃ p a, x = .ref p ∧ H p = some (.tup [.str (Str.ofString "endless"), .ref a]) ∧ H a = some (.tup [.str (encD s), .int (m : Nat), .int e, .str (enc h)])
  | .opn => ∃ p, x = .ref p ∧ H p = some (.tup [.str (Str.ofString "open")])
def Al (H : Hp) : Addr → Prop := fun a => ∃ o, H a = some o
theorem not_al {H : Hp} {a : Addr} (h : H a = none) : ¬ Al H a := fun ⟨o, z⟩ => by rw [h] at z; cases z
theorem AnsF.at {K : PySem.W.Frag} {F : Addr → Prop} {H : Hp} {x : V} {an : Ans} (h : AnsF F H x an) : AnsAt K H x an := by
  cases an with
  | eq ws =>
    obtain ⟨p, a, h1, h2, h3, _⟩ := h
    exact ⟨p, a, h1, st_of h2, sq_of h3⟩
  | ap s =>
    obtain ⟨p, h1, h2⟩ := h
    exact ⟨p, h1, st_of h2⟩
theorem OAnsF.at {K : PySem.W.Frag} {F : Addr → Prop} {H : Hp} {x : V} {an : OAns} (h : OAnsF F H x an) : OAnsAt K H x an := by
  cases an with
  | fin n ws ss =>
    obtain ⟨p, a, b, h1, h2, h3, _, h4, _⟩ := h
    exact ⟨p, a, b, h1, st_of h2, sq_of h3, sq_of h4⟩
  | endl s m e h0 =>
    obtain ⟨p, a, h1, h2, h3⟩ := h
    exact ⟨p, a, h1, st_of h2, st_of h3⟩
  | opn =>
    obtain ⟨p, h1, h2⟩ := h
    exact ⟨p, h1, st_of h2⟩
/-- tuples stay, and the lists that are none of F -/
def KF (F : Addr → Prop) (H H' : Hp) : Prop := KT H H' ∧ ∀ x xs, ¬ F x → H x = some (.lst xs) → H' x = some (.lst xs)
theorem KF.ofEx {F : Addr → Prop} {H H' : Hp} (e : Ex H H') : KF F H H' := ⟨KT.ofEx e, fun x xs _ h => e _ _ h⟩
theorem KF.upd {F : Addr → Prop} {H : Hp} {l : Addr} {xs : List V} {o : HO} (h : H l = some (.lst xs)) (hl : F l) : KF F H (upd H l o) := ⟨KT.lst h, fun x ys hx hh => by
  have hxl : x ≠ l := fun z => hx (by rw [z]; exact hl)
  rw [upd_ne hxl]
  exact hh⟩
theorem KF.trans {F : Addr → Prop} {H H1 H2 : Hp} (a : KF F H H1) (b : KF F H1 H2) : KF F H H2 := ⟨a.1.trans b.1, fun x xs n h => b.2 x xs n (a.2 x xs n h)⟩
theorem AnsF.kf {F : Addr → Prop} {H H' : Hp} {x : V} {an : Ans} (k : KF F H H') (h : AnsF F H x an) : AnsF F H' x an := by
  cases an with
  | eq ws =>
    obtain ⟨p, a, h1, h2, h3, h4⟩ := h
    exact ⟨p, a, h1, k.1 _ _ h2, k.2 _ _ h4 h3, h4⟩
  | ap s =>
    obtain ⟨p, h1, h2⟩ := h
    exact ⟨p, h1, k.1 _ _ h2⟩
theorem OAnsF.kf {F : Addr → Prop} {H H' : Hp} {x : V} {an : OAns} (k : KF F H H') (h : OAnsF F H x an) : OAnsF F H' x an := by
  cases an with
  | fin n ws ss =>
    obtain ⟨p, a, b, h1, h2, h3, h4, h5, h6⟩ := h
    exact ⟨p, a, b, h1, k.1 _ _ h2, k.2 _ _ h4 h3, h4, k.2 _ _ h6 h5, h6⟩
  | endl s m e h0 =>
    obtain ⟨p, a, h1, h2, h3⟩ := h
    exact ⟨p, a, h1, k.1 _ _ h2, k.1 _ _ h3⟩
  | opn =>
    obtain ⟨p, h1, h2⟩ := h
    exact ⟨p, h1, k.1 _ _ h2⟩
theorem AnsF.sub {F G : Addr → Prop} {H : Hp} {x : V} {an : Ans} (hs : ∀ a, G a → F a) (h : AnsF F H x an) : AnsF G H x an := by
  cases an with
  | eq ws =>
    obtain ⟨p, a, h1, h2, h3, h4⟩ := h
    exact ⟨p, a, h1, h2, h3, fun z => h4 (hs a z)⟩
  | ap s => exact h
theorem OAnsF.sub {F G : Addr → Prop} {H : Hp} {x : V} {an : OAns} (hs : ∀ a, G a → F a) (h : OAnsF F H x an) : OAnsF G H x an := by
  cases an with
  | fin n ws ss =>
    obtain ⟨p, a, b, h1, h2, h3, h4, h5, h6⟩ := h
    exact ⟨p, a, b, h1, h2, h3, fun z => h4 (hs a z), h5, fun z => h6 (hs b z)⟩
  | endl s m e h0 => exact h
  | opn => exact h
def Shows (M : Mach) (u v : Wd) : Ans → Prop
  | .eq ws => cut (u ++ und v) ∈ ws ∧ IsCl M ws
  | .ap s => act M u s ≠ act M v s
def spDecide (K : PySem.W.Frag) : Sp := fun vs H Q _ => ∃ (M : Mach) (u v : Wd) (mv : V), vs = [mv, .str (enc u), .str (enc v)] ∧ M.Ok ∧ MachAt K H mv M ∧ Directed M ∧ WOk M u ∧ u.length ≤ 60 ∧ WOk M v ∧ v.length ≤ 60 ∧
  ∀ an x H2, Ex H H2 → AnsF (Al H) H2 x an → AnsOk M an → Shows M u v an → Q x H2
def spDecOrd (K : PySem.W.Frag) : Sp := fun vs H Q E => ∃ (M : Mach) (u : Wd) (mv : V), vs = [mv, .str (enc u)] ∧ M.Ok ∧ MachAt K H mv M ∧ Directed M ∧ WOk M u ∧ u.length ≤ 5 ∧ RX K H E ∧
  ∀ an x H2, Ex H H2 → OAnsF (Al H) H2 x an → OAnsOk M an → (∀ n ws ss, an = .fin n ws ss → n ≤ 64) → Q x H2
def ListOf (H0 : Hp) (M : Mach) (v : V) (H : Hp) : Prop := ∃ p L, v = .ref p ∧ H0 p = none ∧ H p = some (.lst (wsV L)) ∧ (∀ x ∈ L, WOk M x ∧ x.length ≤ 50000) ∧ L.length ≤ 50000
section
variable {P : Program} {w : World} {K : PySem.W.Frag} {mg : Str → Option Value} {base : Heap} {M : Mach} {H : Hp} {mv av : V} {E : XK}
theorem sc_decide : FnScope ["machine", "one", "other", "string"] ["machine", "one", "other"] (defScope s_decide) := ⟨rfl, rfl, rfl, by decide +kernel, rfl, by decide +kernel, by decide +kernel⟩
theorem ok_decide (T : Tx K mg) : FnOk P w K mg base CX0 7 (He.fAd K d_decide.at_) (fdO K d_decide) ["machine", "one", "other"] (spDecide K) := by
  refine (F_decide T).ok sc_decide (fun vs H Q E h => ?_) (fun cdv A outer s H vs Q E hr h => ?_)
  · obtain ⟨_, _, _, _, rfl, _⟩ := h
    rfl
  · obtain ⟨M, u, v, mv, rfl, O, hm, Dm, hu, hul, hv, hvl, k⟩ := h
    refine ⟨_, PSs.nox (pss_cons (ps_expr (pe_call (ok_check_words_decide T) hr rfl (T_check_words_decide T) (F_check_words_decide T).kp (b_check_words_decide T) .nil pass0 (pa_cons (pv 0) (pa_cons (pe_lst (pa_cons (pv 1) (pa_cons (pv 2) pa_nil))) pa_nil))))
      (pss_cons (ps_set (i := 3) sc_decide.nd rfl (.inl rfl) (pe_call (ok_first_string T) hr rfl (T_first_string T) (F_first_string T).kp (b_first_string T) .nil pass0 (pa_cons (pv 0) (pa_cons (pv 1) (pa_cons (pv 2) pa_nil)))))
      (pss_cons (ps_if (pt_cmpR op_notN (pv 3) pe_non (nomark _)) (pss_one (ps_ret (pe_tup (pa_cons (pe_gs (T_APART T)) (pa_cons (pv 3) pa_nil))))) pss_nil)
      (pss_one (ps_ret (pe_tup (pa_cons (pe_gs (T_EQUAL T)) (pa_cons (pe_call (ok_found_list T) (hr.mono (by decide)) rfl (T_found_list T) (F_found_list T).kp (b_found_list T) .nil passL (pa_cons (pv 0) (pa_cons (pe_op op_add_str (pv 1) (pe_call (ok_undone T) (hr.mono (by decide)) rfl (T_undone T) (F_undone T).kp (b_undone T) .nil pass0 (pa_cons (pv 2) pa_nil))) pa_nil))) pa_nil)))))))), ?_⟩
    refine q_callL1 (xs := wsV [u, v]) rfl (el_lst (ea_cons (ev_var rfl) (ea_cons (ev_var rfl) ea_nil)) le2) fun p H1 hp e1 h1 => ⟨M, [u, v], mv, p, rfl, O, ex_mach e1 hm, sq_of h1, fun y hy => ?_, fun H2 e2 => ?_⟩
    · simp at hy
      rcases hy with rfl | rfl
      · exact ⟨hu, hul⟩
      · exact ⟨hv, hvl⟩
    have E2 := e1.trans e2
    refine q_asgR (R := fun y _ => (y = .non ∧ Rest M (u ++ und v)) ∨ ∃ s, y = .str (encD s) ∧ SOk M s ∧ act M (u ++ und v) s ≠ s ∧ s.length ≤ 5000) (er_call (ea_cons (ev_var rfl) (ea_cons (ev_var rfl) (ea_cons (ev_var rfl) ea_nil))) (fun H3 e3 Q3 q3 _ => ⟨M, u, v, mv, rfl, O, ex_mach (E2.trans e3) hm, Dm, hu, hul, hv, hvl, fun hr H4 e4 => q3 _ H4 e4 (.inl ⟨rfl, hr⟩), fun s a1 a2 a3 H4 e4 => q3 _ H4 e4 (.inr ⟨s, rfl, a1, a2, a3⟩)⟩)) fun y H3 e3 hy => ?_
    have E3 := E2.trans e3
    rcases hy with ⟨rfl, hr⟩ | ⟨s, rfl, a1, a2, a3⟩
    · refine q_when (b := false) (et_is (et_test (ev_notN (ev_var rfl))) rfl) (fun z => by cases z) (fun _ H4 e4 => ?_)
      have E4 := E3.trans e4
      have hwo : WOk M (u ++ und v) := hu.append hv.und
      have hwl : (u ++ und v).length ≤ 120 := by rw [List.length_append, und_length]; omega
      refine s_retR (er_tup2 (x := .str (Str.ofString "equal")) (R := fun y H' => ∃ a L, y = .ref a ∧ H a = none ∧ H' a = some (.lst (wsV L)) ∧ cut (u ++ und v) ∈ L ∧ IsCl M L ∧ (∀ x ∈ L, WOk M x ∧ x.length ≤ 50000) ∧ L.length ≤ 50000) (fun y Ha Hb ee ⟨a, L, b1, b0, b2, b3⟩ => ⟨a, L, b1, b0, ee _ _ b2, b3⟩) ev_c (er_callX (ea_cons (ev_var rfl) (ea_cons (ev_addW (ev_var rfl) (ev_call (ea_cons (ev_var rfl) ea_nil) (sv_und (hv.l8 O) (by omega))) (by rw [und_length]; omega)) ea_nil)) (fun H5 e5 Q5 q5 => ⟨M, u ++ und v, mv, rfl, O, ex_mach (E4.trans e5) hm, hwo, by omega, .inl ⟨Dm, by omega⟩, fun L b1 b2 b3 b4 b5 p5 H6 hp6 e6 h6 => q5 _ H6 e6 ⟨p5, L, rfl, fresh_back (E4.trans e5) hp6, h6, b1, b2, fun x hx => ⟨(b4 x hx).1, by have := (b4 x hx).2; omega⟩, by omega⟩, fun hnr => absurd hr hnr⟩))) fun y H5 e5 hy => ?_
      obtain ⟨q, z, rfl, hq, a, L, rfl, ha0, hL, b1, b2, b3, b4⟩ := hy
      exact k (.eq L) _ H5 (E4.trans e5) ⟨q, a, rfl, hq, hL, not_al ha0⟩ ⟨b3, b4⟩ ⟨b1, b2⟩
    · refine q_when (b := true) (et_is (et_test (ev_notN (ev_var rfl))) rfl) (fun _ H4 e4 => ?_) (fun z => by cases z)
      exact s_retU (eu_tup (ea_cons ev_c (ea_cons (ev_var rfl) ea_nil)) le2) fun q H5 hq e5 h5 => k (.ap s) _ H5 ((E3.trans e4).trans e5) ⟨q, rfl, h5⟩ ⟨a1, by omega⟩ (apart_of O a2)
theorem sc_decide_order : FnScope ["machine", "word", "name", "thing", "strings", "prime", "string"] ["machine", "word"] (defScope s_decide_order) := ⟨rfl, rfl, rfl, by decide +kernel, rfl, by decide +kernel, by decide +kernel⟩
theorem ok_decide_order (T : Tx K mg) : FnOk P w K mg base (L2.CX P w) 10 (He.fAd K d_decide_order.at_) (fdO K d_decide_order) ["machine", "word"] (spDecOrd K) := by
  refine (F_decide_order T).ok sc_decide_order (fun vs H Q E h => ?_) (fun cdv A outer s H vs Q E hr h => ?_)
  · obtain ⟨_, _, _, rfl, _⟩ := h
    rfl
  · obtain ⟨M, u, mv, rfl, O, hm, Dm, hu, hul, hx, k⟩ := h
    refine ⟨_, (pss_cons (ps_expr (pe_call (ok_check_words_decide T) (hr.mono (by decide)) rfl (T_check_words_decide T) (F_check_words_decide T).kp (b_check_words_decide T) .nil pass0 (pa_cons (pv 0) (pa_cons (pe_lst (pa_cons (pv 1) pa_nil)) pa_nil))))
      (pss_cons (ps_asg (pe_call (ok_order T) hr rfl (T_order T) (F_order T).kp (b_order T) .nil (passes_call (takes_of rfl rfl rfl rfl) (fun _ _ _ _ h => h)) (pa_cons (pv 0) (pa_cons (pv 1) pa_nil))) (pg_tupK (K := K) (n := 2) rfl rfl (pgs_cons (pg_name (i := 2) sc_decide_order.nd rfl (by first | exact Or.inl rfl | exact Or.inr rfl)) (pgs_cons (pg_name (i := 3) sc_decide_order.nd rfl (by first | exact Or.inl rfl | exact Or.inr rfl)) pgs_nil))))
      (pss_cons (ps_if (pt_cmpR op_eq (pv 2) (pe_gs (T_ENDLESS T)) (nomark _)) (pss_one (ps_ret (pe_tup (pa_cons (pe_gs (T_ENDLESS T)) (pa_cons (pv 3) pa_nil))))) pss_nil)
      (pss_cons (ps_if (pt_cmpR op_eq (pv 2) (pe_gs (T_OPEN T)) (nomark _)) (pss_one (ps_ret (pe_tup (pa_cons (pe_gs (T_OPEN T)) pa_nil)))) pss_nil)
      (pss_cons (ps_setLc (i := 4) (own := [("prime", 5)]) rfl sc_decide_order.nd rfl rfl (sw_true rfl rfl rfl (by decide +kernel)) (pi_listK (K := K) rfl (pe_call (ok_prime_divisors T) (hr.mono (by decide)) rfl (T_prime_divisors T) (F_prime_divisors T).kp (b_prime_divisors T) .nil pass0 (pa_cons (pv 3) pa_nil))) (blkOk_by (own := [("prime", 5)]) (N := ["machine", "word", "name", "thing", "strings", "prime", "string"]) (sc := defScope s_decide_order) (by decide +kernel)) (fun _ _ _ _ _ => (pg_name (i := 5) sc_decide_order.nd rfl (by first | exact Or.inl rfl | exact Or.inr rfl))) (fun _ _ _ _ _ => pts_nil) (fun _ _ _ _ _ => (pe_call (ok_first_moved T) (hr.mono (by decide)) rfl (T_first_moved T) (F_first_moved T).kp (b_first_moved T) .nil pass0 (pa_cons (pv 0) (pa_cons (pe_op LR.op_mulS (pv 1) (pe_op op_fdiv (pv 3) (pv 5))) pa_nil)))))
      (pss_cons (ps_if (pt_val (pe_callB (cr_anyK (K := K) rfl rfl) (by rfl) (B_any T) (by decide +kernel) (pa_cons (pe_lc (own := [("string", 6)]) rfl sc_decide_order.nd (pi_listK (K := K) rfl (pv 4)) (blkOk_by (own := [("string", 6)]) (N := ["machine", "word", "name", "thing", "strings", "prime", "string"]) (sc := defScope s_decide_order) (by decide +kernel)) (fun _ _ _ _ _ => (pg_name (i := 6) sc_decide_order.nd rfl (by first | exact Or.inl rfl | exact Or.inr rfl))) (fun _ _ _ _ _ => pts_nil) (fun _ _ _ _ _ => (pe_cmpR op_gt (pe_callB (call_lenK (K := K) rfl) (by rfl) (B_len T) PySem.boot_len (pa_cons (pv 6) pa_nil)) (pe_gi (T_LONGEST_decide T)) (nomark _)))) pa_nil))) (pss_one (ps_raise rfl (takes_of rfl rfl rfl rfl) (pmk_own PySem.F.excBase_ValueError (X_TooLarge T).1 (T_TooLarge T) (X_TooLarge T).2.1 (raises_own (X_TooLarge T).2.2.1 (X_TooLarge T).2.2.2) rfl))) pss_nil)
      (pss_one (ps_ret (pe_tup (pa_cons (pe_gs (T_FINITE T)) (pa_cons (pv 3) (pa_cons (pe_call (ok_found_list T) (hr.mono (by decide)) rfl (T_found_list T) (F_found_list T).kp (b_found_list T) .nil (passes_call (takes_of rfl rfl rfl rfl) (fun _ _ _ _ h => h)) (pa_cons (pv 0) (pa_cons (pe_op LR.op_mulS (pv 1) (pv 3)) pa_nil))) (pa_cons (pv 4) pa_nil))))))))))))), ?_⟩
    refine q_callL1 (xs := wsV [u]) rfl (el_lst (ea_cons (ev_var rfl) ea_nil) le1) fun p H1 hp e1 h1 => ⟨M, [u], mv, p, rfl, O, ex_mach e1 hm, sq_of h1, fun y hy => ?_, fun H2 e2 => ?_⟩
    · simp at hy
      subst hy
      exact ⟨hu, by omega⟩
    have E2 := e1.trans e2
    refine q_unRV (R0 := fun x y H' => OrdOut M u x y H') (er_callX (ea_cons (ev_var rfl) (ea_cons (ev_var rfl) ea_nil)) (fun H3 e3 Q3 q3 => ⟨M, u, mv, rfl, O, ex_mach (E2.trans e3) hm, hu, by omega, hx.mono (E2.trans e3), fun p x y H4 e4 h4 h5 => q3 _ H4 e4 ⟨p, x, y, rfl, h4, h5⟩⟩)) fun x y H3 e3 hxy => ?_
    have E3 := E2.trans e3
    rcases hxy with ⟨rfl, s, m, e, hh, ⟨a, rfl, ha⟩, hok⟩ | ⟨rfl, n, rfl, hn1, hn2, hn3, hn4⟩ | ⟨rfl, rfl⟩
    · refine q_when (b := true) (et_is (et_eq (ev_var rfl) ev_c rfl) (by decide +kernel)) (fun _ H4 e4 => ?_) (fun z => by cases z)
      exact s_retU (eu_tup (ea_cons ev_c (ea_cons (ev_var rfl) ea_nil)) le2) fun q H5 hq e5 h5 => k (.endl s m e hh) _ H5 ((E3.trans e4).trans e5) ⟨q, a, rfl, h5, (e4.trans e5) _ _ ha⟩ hok (fun _ _ _ z => by cases z)
    · refine q_when (b := false) (et_is (et_eq (ev_var rfl) ev_c rfl) (by decide +kernel)) (fun z => by cases z) (fun _ H4 e4 => ?_)
      refine q_when (b := false) (et_is (et_eq (ev_var rfl) ev_c rfl) (by decide +kernel)) (fun z => by cases z) (fun _ H5 e5 => ?_)
      have E5 := (E3.trans e4).trans e5
      refine q_asgLP (el_lcP (Pe := fun y => ∃ s, y = .str (encD s) ∧ SOk M s ∧ s.length ≤ 5000) (el_primeD (n := n) (ea_cons (ev_var rfl) ea_nil) hn1 (by omega)) (fun xs hP => hP.2) (fun xs z H6 hP hz e6 => ?_)) fun q H6 ys hq e6 h6 hys => ?_
      · obtain ⟨r, rfl, hr2, hrd⟩ := hP.1 z hz
        have hlt : n / r < n := Nat.div_lt_self (by omega) (by omega)
        have hge : 1 ≤ n / r := Nat.div_pos (Nat.le_of_dvd (by omega) hrd) (by omega)
        have hnr := hn4 (n / r) hge hlt
        have h32 : n / r ≤ 32 := by
          have h1 : n / r ≤ n / 2 := Nat.div_le_div_left hr2 (by decide)
          omega
        have hpl : (pw u (n / r)).length ≤ 160 := by
          rw [pw_length]
          exact Nat.le_trans (Nat.mul_le_mul h32 hul) (by decide)
        have hrb : r ≤ n := Nat.le_of_dvd (by omega) hrd
        refine er_call (ea_cons (ev_var rfl) (ea_cons (ev_mulW (n := n / r) (ev_var rfl) (ev_div (i := ((n : Nat) : Int)) (j := ((r : Nat) : Int)) (ev_var rfl) (ev_var rfl) (by omega)) (by omega) (by omega)) ea_nil)) (fun H7 e7 Q7 q7 _ => ⟨M, pw u (n / r), mv, rfl, O, ex_mach ((E5.trans e6).trans e7) hm, Dm, hu.pw _, by omega, fun hr => absurd hr hnr, fun s b1 b2 b3 H8 e8 => q7 _ H8 e8 ⟨s, rfl, b1, b3⟩⟩)
      obtain ⟨hys1, xs, hP, hyl⟩ := hys
      have hxl := hP.2
      obtain ⟨ss, rfl, hss⟩ := strs_of hys1
      rw [ssV_len] at hyl
      have E6 := E5.trans e6
      refine q_when (et_B (ev_any (bs := ss.map fun s => decide (60 < (s.length : Int))) ?_)) (fun _ H7 e7 => hx H7 (E6.trans e7)) (fun hb7 H7 e7 => ?_)
      · have e0 : ((ss.map fun s => decide (60 < (s.length : Int))).map V.bl) = given (ssV ss).length (fun _ => true) (fun i => .bl (decide (60 < ((ss.getD i []).length : Int)))) := by
          rw [ssV_len]
          have := given_map ss [] (fun s : List Nat => V.bl (decide (60 < (s.length : Int))))
          rw [List.map_map]
          exact this.symm
        rw [e0]
        refine el_lcL (fun _ => true) _ (ev_var rfl) (sq_of h6) (by rw [ssV_len]; omega) (fun x => wipe_set1) (fun _ _ _ _ _ => et_yes) (fun i x H7 e7 hi _ => ?_)
        obtain ⟨s, hs, rfl⟩ := ssV_get hi
        have := (hss s (List.mem_of_getElem? hs)).2
        rw [getD_of hs]
        refine ev_is (ev_gt (ev_lenS (ev_var rfl) (by rw [encD_length]; omega)) ev_c) ?_
        rw [encD_length]
      · have E7 := E6.trans e7
        have hpl : (pw u n).length ≤ 320 := by
          rw [pw_length]
          exact Nat.le_trans (Nat.mul_le_mul hn2 hul) (by decide)
        refine s_retR (er_tup4 (x1 := .str (Str.ofString "finite")) (x2 := .int (n : Nat)) (x4 := .ref q) (R := ListOf H M) (fun y Ha Hb ee ⟨a, L, b1, b0, b2, b3⟩ => ⟨a, L, b1, b0, ee _ _ b2, b3⟩) ev_c (ev_var rfl) (er_callX (ea_cons (ev_var rfl) (ea_cons (ev_mulW (n := n) (ev_var rfl) (ev_var rfl) (by omega) (by omega)) ea_nil)) (fun H8 e8 Q8 q8 => ⟨M, pw u n, mv, rfl, O, ex_mach (E7.trans e8) hm, hu.pw _, by omega, .inr (hx.mono (E7.trans e8)), fun L b1 b2 b3 b4 b5 p8 H9 hp9 e9 h9 => q8 _ H9 e9 ⟨p8, L, rfl, fresh_back (E7.trans e8) hp9, h9, fun x hx => ⟨(b4 x hx).1, by have := (b4 x hx).2; omega⟩, by omega⟩, fun hnr => absurd hn3 hnr⟩)) (ev_var rfl)) fun z H8 e8 hz => ?_
        obtain ⟨p8, y8, rfl, hp8, a, L, rfl, ha0, hL, b3, b4⟩ := hz
        exact k (.fin n L ss) _ H8 (E7.trans e8) ⟨p8, a, q, rfl, hp8, hL, not_al ha0, (e7.trans e8) _ _ h6, not_al (fresh_back E5 hq)⟩ ⟨hn1, by omega, b3, b4, fun s hs => ⟨(hss s hs).1, by have := (hss s hs).2; omega⟩⟩ (fun n' _ _ z => by cases z; exact hn2)
    · refine q_when (b := false) (et_is (et_eq (ev_var rfl) ev_c rfl) (by decide +kernel)) (fun z => by cases z) (fun _ H4 e4 => ?_)
      refine q_when (b := true) (et_is (et_eq (ev_var rfl) ev_c rfl) (by decide +kernel)) (fun _ H5 e5 => ?_) (fun z => by cases z)
      exact s_retU (eu_tup (ea_cons ev_c ea_nil) le1) fun q H6 hq e6 h6 => k .opn _ H6 (((E3.trans e4).trans e5).trans e6) ⟨q, rfl, h6⟩ trivial (fun _ _ _ z => by cases z)
end
end LT

set_option Elab.async false
set_option linter.all false
set_option maxRecDepth 100000
set_option maxHeartbeats 4000000
/-! the law's own draws: a list that each pick shortens -/
namespace LT
open PySem PySem.Spec PyProof.Rows L2 Evl
def DrAt (dr : Addr) (H : Hp) : Prop := ∃ ns : List Int, H dr = some (.lst (ns.map V.int))
/-- all but the draws stays -/
def Xd (dr : Addr) (H H' : Hp) : Prop := ∀ a o, H a = some o → a ≠ dr → H' a = some o
theorem Xd.refl (dr : Addr) (H : Hp) : Xd dr H H := fun _ _ h _ => h
theorem Xd.ofEx {dr : Addr} {H H' : Hp} (e : Ex H H') : Xd dr H H' := fun a o h _ => e a o h
theorem Xd.trans {dr : Addr} {H H1 H2 : Hp} (a : Xd dr H H1) (b : Xd dr H1 H2) : Xd dr H H2 := fun x o h n => b x o (a x o h n) n
theorem DrAt.ex {dr : Addr} {H H' : Hp} (e : Ex H H') (h : DrAt dr H) : DrAt dr H' := by
  obtain ⟨ns, h⟩ := h
  exact ⟨ns, e _ _ h⟩
theorem xfresh {dr : Addr} {H H' : Hp} {p : Addr} (x : Xd dr H H') (hn : p ≠ dr) (h : H' p = none) : H p = none := by
  cases hq : H p with
  | none => rfl
  | some o => rw [x p o hq hn] at h; cases h
theorem Xd.mut {dr : Addr} {H H' : Hp} {p : Addr} {o : HO} (e : Xd dr H H') (h : H p = none) : Xd dr H (upd H' p o) := fun a u ha hn => by
  rw [upd_ne (ne_of_none ha h)]
  exact e a u ha hn
theorem Xd.tup {dr : Addr} {H H' : Hp} {a : Addr} {xs : List V} (x : Xd dr H H') (d : DrAt dr H) (h : H a = some (.tup xs)) : H' a = some (.tup xs) := by
  obtain ⟨ns, d⟩ := d
  exact x a _ h fun z => by rw [z, d] at h; cases h
theorem Xd.t {K : PySem.W.Frag} {dr : Addr} {H H' : Hp} {a : Addr} {xs : List V} (x : Xd dr H H') (d : DrAt dr H) (h : SqT K H a xs) : SqT K H' a xs := by
  rcases h with h | h
  · left
    rcases h with h | ⟨o, h⟩
    · exact .inl (x.tup d h)
    · obtain ⟨ns, d⟩ := d
      exact .inr ⟨o, x a _ h fun z => by rw [z, d] at h; cases h⟩
  · exact .inr h
theorem Xd.pair {K : PySem.W.Frag} {dr : Addr} {H H' : Hp} {v : V} {e : Nat × Nat} (x : Xd dr H H') (d : DrAt dr H) (h : PairAt K H v e) : PairAt K H' v e := by
  obtain ⟨p, h1, h2⟩ := h
  exact ⟨p, h1, x.t d h2⟩
theorem Xd.row {K : PySem.W.Frag} {dr : Addr} {H H' : Hp} {v : V} {r : List (Nat × Nat)} (x : Xd dr H H') (d : DrAt dr H) (h : RowAt K H v r) : RowAt K H' v r := by
  obtain ⟨p, vs, h1, h2, h3⟩ := h
  exact ⟨p, vs, h1, x.t d h2, Paired.imp (fun _ _ => x.pair d) h3⟩
theorem Xd.mach {K : PySem.W.Frag} {dr : Addr} {H H' : Hp} {v : V} {M : Mach} (x : Xd dr H H') (d : DrAt dr H) (h : MachAt K H v M) : MachAt K H' v M := by
  obtain ⟨p, R, vs, h1, h2, h3, h4⟩ := h
  exact ⟨p, R, vs, h1, x.t d h2, x.t d h3, Paired.imp (fun _ _ => x.row d) h4⟩
/-- row facts survive a list's update -/
theorem t_upd {K : PySem.W.Frag} {H : Hp} {a l : Addr} {xs acc : List V} {o : HO} (hl : H l = some (.lst acc)) (h : SqT K H a xs) : SqT K (upd H l o) a xs := by
  rcases h with h | h
  · left
    rcases h with h | ⟨o', h⟩
    · exact .inl (by rw [upd_ne fun z => by rw [z, hl] at h; cases h]; exact h)
    · exact .inr ⟨o', by rw [upd_ne fun z => by rw [z, hl] at h; cases h]; exact h⟩
  · exact .inr h
theorem row_upd {K : PySem.W.Frag} {H : Hp} {l : Addr} {acc : List V} {o : HO} {v : V} {r : List (Nat × Nat)} (hl : H l = some (.lst acc)) (h : RowAt K H v r) : RowAt K (upd H l o) v r := by
  obtain ⟨p, vs, h1, h2, h3⟩ := h
  exact ⟨p, vs, h1, t_upd hl h2, Paired.imp (fun _ _ ⟨q, a, b⟩ => ⟨q, a, t_upd hl b⟩) h3⟩
section
variable {K : PySem.W.Frag} {σ : L2.St} {H H' : Hp} {ta tb te tf tx td ty tv tn : TE} {D : Ends} {tz tu : TS} {M : Mach} {g : TG} {dr : Addr}
/-- an expression that may shorten the draws -/
def EvX (dr : Addr) (te : TE) (σ : L2.St) (H : Hp) (R : V → Hp → Prop) : Prop := ∀ H1, Ex H H1 → ∀ Q : VK, (∀ v H2, Xd dr H1 H2 → DrAt dr H2 → R v H2 → Q v H2) → te σ H1 Q
def SpX (dr : Addr) (sp : Sp) (vs : List V) (H : Hp) (R : V → Hp → Prop) : Prop := ∀ H1, Ex H H1 → ∀ Q : VK, (∀ v H2, Xd dr H1 H2 → DrAt dr H2 → R v H2 → Q v H2) → ∀ E : XK, sp vs H1 Q E
theorem EvX.mono {R : V → Hp → Prop} (e : Ex H H') (h : EvX dr te σ H R) : EvX dr te σ H' R := fun H1 a Q q => h H1 (e.trans a) Q q
theorem ex_call {sp : Sp} {dvs vs : List V} {R : V → Hp → Prop} {E : XK} {ta : TA} (h : EvA ta σ H vs) (hs : SpX dr sp (vs ++ dvs) H R) : EvX dr (tCall sp dvs E ta) σ H R := fun H1 e Q q =>
  h H1 e _ fun H2 e2 => hs H2 (e.trans e2) Q (fun v H3 x d r => q v H3 ((Xd.ofEx e2).trans x) d r) E
theorem s_asgX {i : Nat} {R : V → Hp → Prop} (h : EvX dr te σ H R) (k : ∀ v H1, Xd dr H H1 → DrAt dr H1 → R v H1 → D.nx (σ.set i (some v)) H1) : tAsg te (gName i) D σ H := h H (Ex.refl H) _ fun v H1 e d r => k v H1 e d r
theorem q_asgX {i : Nat} {R : V → Hp → Prop} (h : EvX dr te σ H R) (k : ∀ v H1, Xd dr H H1 → DrAt dr H1 → R v H1 → tz D (σ.set i (some v)) H1) : tSeq (tAsg te (gName i)) tz D σ H := s_asgX (D := { D with nx := tz D }) h k
theorem s_retX {R : V → Hp → Prop} (h : EvX dr te σ H R) (k : ∀ v H1, Xd dr H H1 → DrAt dr H1 → R v H1 → D.rt v H1) : tRet te D σ H := h H (Ex.refl H) _ fun v H1 e d r => k v H1 e d r
/-- [e for _ in range(a pick)] -/
theorem ex_lcP {ta : TA} {j N : Nat} {Pn : Nat → Prop} {R : V → Hp → Prop} (hX : ∀ v H1 H2, Xd dr H1 H2 → DrAt dr H1 → R v H1 → R v H2) (hU : ∀ v H1 Dl acc acc', H1 Dl = some (.lst acc) → R v H1 → R v (upd H1 Dl (.lst acc')))
    (h : ∀ H1, Ex H H1 → ∀ Q : List V → Hp → Prop, (∀ (n : Nat) H2, n ≤ N → Pn n → Xd dr H1 H2 → DrAt dr H2 → Q [.int (n : Nat)] H2) → ta σ H1 Q) (hN : N ≤ 1000)
    (he : ∀ (i : Nat) H1, Xd dr H H1 → DrAt dr H1 → EvX dr te ((wipe σ [j]).set j (some (.int (i : Nat)))) H1 R) :
    EvX dr (tLc (iRng1 ta) (gName j) tYes te [j]) σ H (fun v H' => ∃ p ys, v = .ref p ∧ p ≠ dr ∧ H p = none ∧ H' p = some (.lst ys) ∧ ys.length ≤ N ∧ Pn ys.length ∧ ∀ y ∈ ys, R y H') := fun H0 e Q q =>
  h H0 e _ fun n H1 hn hPn x1 d1 => ⟨n, rfl, by omega, by omega, fun Dl hD => by
    have e0 : ((n : Nat) : Int).toNat = n := by omega
    rw [e0]
    have hDd : Dl ≠ dr := fun z => by
      obtain ⟨ns, h9⟩ := d1
      rw [← z, hD] at h9
      cases h9
    have drU : ∀ (H2 : Hp) (o : HO), DrAt dr H2 → DrAt dr (upd H2 Dl o) := fun H2 o ⟨ns, h9⟩ => ⟨ns, by rw [upd_ne (Ne.symm hDd)]; exact h9⟩
    refine lc_it walk_range (fun i H' => Xd dr H1 H' ∧ DrAt dr H' ∧ ∃ acc, H' Dl = some (.lst acc) ∧ acc.length = i ∧ ∀ y ∈ acc, R y H') ⟨Xd.mut (Xd.refl _ _) hD, drU _ _ d1, [], upd_same, rfl, fun y hy => by simp at hy⟩ (fun _ _ _ _ => trivial) ?_ ?_
    · rintro i x H2 H3 hi ⟨x2, d2, acc, h2, hl, hall⟩ ⟨rfl, rfl⟩
      have ez : (0 : Int) + (i : Int) = (i : Int) := Int.zero_add _
      show gName j (V.int ((0 : Int) + (i : Int))) (wipe σ [j]) H3 _
      rw [ez]
      refine ⟨wipe_set1, et_yes H3 (Ex.refl _) _ fun H4 e4 => ?_⟩
      rw [if_pos rfl]
      have x4 := x2.trans (Xd.ofEx e4)
      have d4 := d2.ex e4
      refine he i H4 (((Xd.ofEx e).trans x1).trans x4) d4 H4 (Ex.refl _) _ fun y H5 x5 d5 r5 => ?_
      have h5 := x5 Dl _ (e4 _ _ h2) hDd
      refine ⟨acc, h5, sz_lt (by omega), Xd.mut (x4.trans x5) hD, drU _ _ d5, acc ++ [y], upd_same, by simp [hl], fun z hz => ?_⟩
      rcases List.mem_append.mp hz with w | w
      · exact hU z H5 Dl acc _ h5 (hX z H4 H5 x5 d4 (hX z H3 H4 (Xd.ofEx e4) d2 (hall z w)))
      · simp at w
        subst w
        exact hU z H5 Dl acc _ h5 r5
    · rintro H2 ⟨x2, d2, acc, h2, hl, hall⟩
      exact q _ H2 (x1.trans x2) d2 ⟨Dl, acc, rfl, hDd, fresh_back e (xfresh x1 hDd hD), h2, by omega, by rw [hl]; exact hPn, hall⟩⟩
theorem ex_lc {ta : TA} {j N : Nat} {R : V → Hp → Prop} (hX : ∀ v H1 H2, Xd dr H1 H2 → DrAt dr H1 → R v H1 → R v H2) (hU : ∀ v H1 Dl acc acc', H1 Dl = some (.lst acc) → R v H1 → R v (upd H1 Dl (.lst acc')))
    (h : ∀ H1, Ex H H1 → ∀ Q : List V → Hp → Prop, (∀ (n : Nat) H2, n ≤ N → Xd dr H1 H2 → DrAt dr H2 → Q [.int (n : Nat)] H2) → ta σ H1 Q) (hN : N ≤ 1000)
    (he : ∀ (i : Nat) H1, Xd dr H H1 → DrAt dr H1 → EvX dr te ((wipe σ [j]).set j (some (.int (i : Nat)))) H1 R) :
    EvX dr (tLc (iRng1 ta) (gName j) tYes te [j]) σ H (fun v H' => ∃ p ys, v = .ref p ∧ p ≠ dr ∧ H p = none ∧ H' p = some (.lst ys) ∧ ys.length ≤ N ∧ ∀ y ∈ ys, R y H') := fun H0 e Q q =>
  ex_lcP (Pn := fun _ => True) hX hU (fun H1 e1 Q1 q1 => h H1 e1 Q1 fun n H2 hn x d => q1 n H2 hn trivial x d) hN he H0 e Q fun v H2 x d ⟨p, ys, a1, a2, a0, a3, a4, _, a6⟩ => q v H2 x d ⟨p, ys, a1, a2, a0, a3, a4, a6⟩
end
def spNum (K : PySem.W.Frag) : Sp := fun vs H Q _ => ∃ i : Int, vs = [.int i] ∧ ∀ r : Int, RetV (.int r) H Q
def spDraws (K : PySem.W.Frag) : Sp := fun vs H Q _ => ∃ (a : Addr) (xs : List Int), vs = [.ref a] ∧ SqL K H a (xs.map V.int) ∧ xs.length ≤ 100 ∧ ∀ ns : List Int, RetL (ns.map V.int) H Q
def spDraw (K : PySem.W.Frag) : Sp := fun vs H Q _ => ∃ dr : Addr, vs = [.ref dr] ∧ DrAt dr H ∧ ∀ (i : Int) H2, Xd dr H H2 → DrAt dr H2 → Q (.int i) H2
def spPick (K : PySem.W.Frag) : Sp := fun vs H Q _ => ∃ (dr : Addr) (n : Nat), vs = [.ref dr, .int (n : Nat)] ∧ DrAt dr H ∧ 1 ≤ n ∧ n ≤ 1000 ∧ ∀ (r : Nat) H2, r < n → Xd dr H H2 → DrAt dr H2 → Q (.int (r : Nat)) H2
section
variable {P : Program} {w : World} {K : PySem.W.Frag} {mg : Str → Option Value} {base : Heap} {M : Mach} {H : Hp} {mv av : V} {E : XK} {dr : Addr}
theorem sc__law_number : FnScope ["_law_cell"] ["_law_cell"] (defScope s__law_number) := ⟨rfl, rfl, rfl, by decide +kernel, rfl, by decide +kernel, by decide +kernel⟩
theorem ok__law_number (T : Tx K mg) : FnOk P w K mg base CX0 1 (He.fAd K d__law_number.at_) (fdO K d__law_number) ["_law_cell"] (spNum K) := by
  refine (F__law_number T).ok sc__law_number (fun vs H Q E h => ?_) (fun cdv A outer s H vs Q E hr h => ?_)
  · obtain ⟨_, rfl, _⟩ := h
    rfl
  · obtain ⟨i, rfl, k⟩ := h
    refine ⟨_, PSs.nox (pss_cons (ps_if (pt_cmpR op_lt (pv 0) pe_int (nomark _)) (pss_one (ps_ret (pe_op op_sub pe_int (pv 0)))) pss_nil)
      (pss_one (ps_ret (pv 0)))), ?_⟩
    refine q_when (et_test (ev_lt (ev_var rfl) ev_c)) (fun _ H1 e1 => ?_) (fun _ H1 e1 => ?_)
    · exact s_ret (ev_sub ev_c (ev_var rfl)) fun H2 e2 => k _ H2 (e1.trans e2)
    · exact s_ret (ev_var rfl) fun H2 e2 => k _ H2 (e1.trans e2)
theorem s_ext {σ : L2.St} {D : Ends} {ta te : TE} {l : Addr} {xs ys : List V} (hl : H l = some (.lst xs)) (ha : Ev ta σ H (.ref l)) (h : EvL te σ H ys) (hz : xs.length + ys.length ≤ 100000) (k : ∀ H1, Ex H H1 → D.nx σ (upd H1 l (.lst (xs ++ ys)))) :
    tDrop (tBM K "list" rExtend ta (tCons te tNil)) D σ H := ha H (Ex.refl H) _ fun H1 e1 =>
  ⟨Or.inl ⟨rfl, xs, sq_of (e1 l _ hl)⟩, h H1 e1 _ fun p H2 hp e2 h2 => ⟨l, p, xs, ys, rfl, rfl, (e1.trans e2) l _ hl, h2, sz_of hz, k H2 (e1.trans e2)⟩⟩
theorem q_rev {σ : L2.St} {D : Ends} {ta : TE} {tz : TS} {l : Addr} {xs : List V} (hl : H l = some (.lst xs)) (ha : Ev ta σ H (.ref l)) (k : ∀ H1, Ex H H1 → tz D σ (upd H1 l (.lst xs.reverse))) :
    tSeq (tDrop (tBM0 K "list" rReverse ta)) tz D σ H := ha H (Ex.refl H) _ fun H1 e1 => ⟨Or.inl ⟨rfl, xs, sq_of (e1 l _ hl)⟩, l, xs, rfl, rfl, e1 l _ hl, k H1 e1⟩
theorem isV_snoc (ns : List Int) (i : Int) : ns.map V.int ++ [V.int i] = (ns ++ [i]).map V.int := by simp
theorem sc__law_draws : FnScope ["_law_script", "_law_draws_here", "_law_seed", "_law_cell", "_law_rest", "_law_k", "_law_once", "_law_twice"] ["_law_script"] (defScope s__law_draws) := ⟨rfl, rfl, rfl, by decide +kernel, rfl, by decide +kernel, by decide +kernel⟩
theorem ok__law_draws (T : Tx K mg) : FnOk P w K mg base CX0 2 (He.fAd K d__law_draws.at_) (fdO K d__law_draws) ["_law_script"] (spDraws K) := by
  refine (F__law_draws T).ok sc__law_draws (fun vs H Q E h => ?_) (fun cdv A outer s H vs Q E hr h => ?_)
  · obtain ⟨_, _, rfl, _⟩ := h
    rfl
  · obtain ⟨a, xs, rfl, ha, hxl, k⟩ := h
    refine ⟨_, PSs.nox (pss_cons (ps_set (i := 1) sc__law_draws.nd rfl (.inl rfl) (pe_lst pa_nil))
      (pss_cons (ps_set (i := 2) sc__law_draws.nd rfl (.inl rfl) pe_int)
      (pss_cons (ps_for PassesOwn.never rfl (pi_listK (K := K) rfl (pv 0)) (pg_name (i := 3) sc__law_draws.nd rfl (by first | exact Or.inl rfl | exact Or.inr rfl)) (pss_cons (ps_set (i := 4) sc__law_draws.nd rfl (.inl rfl) (pe_call (ok__law_number T) hr rfl (T__law_number T) (F__law_number T).kp (b__law_number T) .nil pass0 (pa_cons (pv 3) pa_nil)))
      (pss_cons (ps_set (i := 2) sc__law_draws.nd rfl (.inl rfl) (pe_op op_mod (pe_callTy call_int1 (by rfl) (B_int T) (by decide +kernel) (pa_cons (pe_op op_add (pe_op op_mul (pv 2) pe_int) (pv 4)) pa_nil)) pe_int))
      (pss_one (ps_if (pt_cmpR op_ge (pv 4) pe_int (nomark _)) (pss_one (ps_for PassesOwn.never rfl (pi_range1 rfl (B_range T) (pa_cons pe_int pa_nil)) (pg_name (i := 5) sc__law_draws.nd rfl (by first | exact Or.inl rfl | exact Or.inr rfl)) (pss_cons (ps_if (pt_cmpR op_eq (pv 4) pe_int (nomark _)) (pss_one ps_break) pss_nil)
      (pss_cons (ps_expr (pe_bmK (K := K) rfl PySem.F.plainAttrs_list PySem.F.slot_list_append PySem.F.type_list_append mt_append (pv 1) (pa_cons (pe_op op_mod (pe_callTy call_int1 (by rfl) (B_int T) (by decide +kernel) (pa_cons (pv 4) pa_nil)) pe_int) pa_nil)))
      (pss_one (ps_set (i := 4) sc__law_draws.nd rfl (.inl rfl) (pe_op op_fdiv (pv 4) pe_int))))))) (pss_cons (ps_set (i := 6) sc__law_draws.nd rfl (.inl rfl) (pe_op op_mod (pe_callTy call_int1 (by rfl) (B_int T) (by decide +kernel) (pa_cons (pe_op op_add (pe_op op_mul (pv 4) pe_int) pe_int) pa_nil)) pe_int))
      (pss_cons (ps_set (i := 7) sc__law_draws.nd rfl (.inl rfl) (pe_op op_mod (pe_callTy call_int1 (by rfl) (B_int T) (by decide +kernel) (pa_cons (pe_op op_add (pe_op op_mul (pv 6) pe_int) (pv 4)) pa_nil)) pe_int))
      (pss_one (ps_expr (pe_bmK (K := K) rfl PySem.F.plainAttrs_list PySem.F.slot_list_extend PySem.F.type_list_extend mt_extend (pv 1) (pa_cons (pe_lst (pa_cons (pe_op op_mod (pe_callTy call_int1 (by rfl) (B_int T) (by decide +kernel) (pa_cons (pv 4) pa_nil)) pe_int) (pa_cons (pe_op op_mod (pe_callTy call_int1 (by rfl) (B_int T) (by decide +kernel) (pa_cons (pv 6) pa_nil)) pe_int) (pa_cons (pe_op op_mod (pe_callTy call_int1 (by rfl) (B_int T) (by decide +kernel) (pa_cons (pv 7) pa_nil)) pe_int) pa_nil)))) pa_nil)))))))))))
      (pss_cons (ps_for PassesOwn.never rfl (pi_range1 rfl (B_range T) (pa_cons pe_int pa_nil)) (pg_name (i := 5) sc__law_draws.nd rfl (by first | exact Or.inl rfl | exact Or.inr rfl)) (pss_cons (ps_set (i := 2) sc__law_draws.nd rfl (.inl rfl) (pe_op op_mod (pe_callTy call_int1 (by rfl) (B_int T) (by decide +kernel) (pa_cons (pe_op op_add (pe_op op_mul (pv 2) pe_int) pe_int) pa_nil)) pe_int))
      (pss_one (ps_expr (pe_bmK (K := K) rfl PySem.F.plainAttrs_list PySem.F.slot_list_append PySem.F.type_list_append mt_append (pv 1) (pa_cons (pe_op op_mod (pe_callTy call_int1 (by rfl) (B_int T) (by decide +kernel) (pa_cons (pe_op op_fdiv (pv 2) pe_int) pa_nil)) pe_int) pa_nil))))))
      (pss_cons (ps_expr (pe_bm0K (K := K) rfl PySem.F.plainAttrs_list PySem.F.slot_list_reverse PySem.F.type_list_reverse mt_reverse (pv 1)))
      (pss_one (ps_ret (pv 1)))))))), ?_⟩
    refine q_asgL (el_lst ea_nil le0) fun p H1 hp e1 h1 => ?_
    refine q_asg ev_c fun H2 e2 => ?_
    have E2 := e1.trans e2
    refine q_forLn (ev_var rfl) (ex_l E2 ha) (fun i σ' H' => ∃ (sd : Int) (ns : List Int) (c3 c4 c5 c6 c7 : Option V), σ' = [some (.ref a), some (.ref p), some (.int sd), c3, c4, c5, c6, c7] ∧ Ex H H' ∧ H' p = some (.lst (ns.map V.int)) ∧ ns.length ≤ 60 * i) (fun H3 e3 => ⟨7, [], none, none, none, none, none, rfl, E2.trans e3, (e2.trans e3) _ _ h1, by simp⟩) (fun i σ' H' _ ⟨_, _, _, _, _, _, _, _, e, _⟩ => ex_l e ha) ?_ ?_
    · rintro i x σ' H3 hx ⟨sd, ns, c3, c4, c5, c6, c7, rfl, e3, h3, hl⟩
      have hi : i < xs.length := by
        have := (List.getElem?_eq_some_iff.mp hx).1
        rwa [List.length_map] at this
      obtain ⟨z, hz⟩ : ∃ z, x = .int z := by
        rw [List.getElem?_map, Option.map_eq_some_iff] at hx
        obtain ⟨z, _, rfl⟩ := hx
        exact ⟨z, rfl⟩
      subst hz
      refine q_asgR (R := fun v _ => ∃ r : Int, v = .int r) (er_call (ea_cons (ev_var rfl) ea_nil) (fun _ _ _ q _ => ⟨z, rfl, fun r H4 e4 => q _ H4 e4 ⟨r, rfl⟩⟩)) fun v H4 e4 hv => ?_
      obtain ⟨r, rfl⟩ := hv
      refine q_asg (ev_mod (ev_int1 (ev_add (ev_mul (ev_var rfl) ev_c (by unfold CMul; omega)) (ev_var rfl))) ev_c (by decide)) fun H5 e5 => ?_
      have E5 := (e3.trans e4).trans e5
      have h5 := (e4.trans e5) _ _ h3
      refine s_if (et_test (ev_ge (ev_var rfl) ev_c)) (fun _ H6 e6 => ?_) (fun _ H6 e6 => ?_)
      · refine s_forR1 (n := 60) (ea_cons ev_c ea_nil) (by decide) (fun j σ' H' => ∃ (sd r : Int) (ns : List Int) (c3 c5 : Option V), σ' = [some (.ref a), some (.ref p), some (.int sd), c3, some (.int r), c5, c6, c7] ∧ Ex H H' ∧ H' p = some (.lst (ns.map V.int)) ∧ ns.length ≤ 60 * i + j) (fun H7 e7 => ⟨_, r, ns, _, c5, rfl, (E5.trans e6).trans e7, (e6.trans e7) _ _ h5, by omega⟩) ?_ ?_
        · rintro j σ' H7 hj ⟨sd', r', ns', c3', c5', rfl, e7, h7, hl7⟩
          refine q_when (et_eq (ev_var rfl) ev_c rfl) (fun _ H8 e8 => ?_) (fun _ H8 e8 => ?_)
          · exact ⟨_, ns', _, _, _, _, _, rfl, e7.trans e8, e8 _ _ h7, by omega⟩
          · refine q_app (e8 _ _ h7) (ev_var rfl) (ev_mod (ev_int1 (ev_var rfl)) ev_c (by decide)) (by rw [List.length_map]; omega) fun H9 e9 => ?_
            rw [isV_snoc]
            refine s_asg (ev_div (ev_var rfl) ev_c (by decide)) fun H10 e10 => ⟨_, _, _, _, _, rfl, (Ex.mut ((e7.trans e8).trans e9) hp).trans e10, e10 _ _ upd_same, by simp; omega⟩
        · rintro σ' H7 ⟨sd', r', ns', c3', c5', rfl, e7, h7, hl7⟩
          have : ((60 : Int)).toNat = 60 := rfl
          exact ⟨_, ns', _, _, _, _, _, rfl, e7, h7, by omega⟩
      · refine q_asg (ev_mod (ev_int1 (ev_add (ev_mul (ev_var rfl) ev_c (by unfold CMul; omega)) ev_c)) ev_c (by decide)) fun H7 e7 => ?_
        refine q_asg (ev_mod (ev_int1 (ev_add (ev_mul (ev_var rfl) ev_c (by unfold CMul; omega)) (ev_var rfl))) ev_c (by decide)) fun H8 e8 => ?_
        have E8 := ((E5.trans e6).trans e7).trans e8
        have h8 := ((e6.trans e7).trans e8) _ _ h5
        refine s_ext h8 (ev_var rfl) (el_lst (ea_cons (ev_mod (ev_int1 (ev_var rfl)) ev_c (by decide)) (ea_cons (ev_mod (ev_int1 (ev_var rfl)) ev_c (by decide)) (ea_cons (ev_mod (ev_int1 (ev_var rfl)) ev_c (by decide)) ea_nil))) (show 3 ≤ 100000 by decide)) (by simp; omega) fun H9 e9 => ⟨_, ns ++ [_, _, _], _, _, _, _, _, rfl, Ex.mut (E8.trans e9) hp, by rw [upd_same, List.map_append]; rfl, by simp; omega⟩
    · rintro σ' H3 ⟨sd, ns, c3, c4, c5, c6, c7, rfl, e3, h3, hl⟩
      rw [List.length_map] at hl
      refine q_forR1 (n := 200) (ea_cons ev_c ea_nil) (by decide) (fun j σ' H' => ∃ (sd : Int) (ns : List Int) (c5 : Option V), σ' = [some (.ref a), some (.ref p), some (.int sd), c3, c4, c5, c6, c7] ∧ Ex H H' ∧ H' p = some (.lst (ns.map V.int)) ∧ ns.length ≤ 6000 + j) (fun H4 e4 => ⟨sd, ns, c5, rfl, e3.trans e4, e4 _ _ h3, by omega⟩) ?_ ?_
      · rintro j σ' H4 hj ⟨sd', ns', c5', rfl, e4, h4, hl4⟩
        refine q_asg (ev_mod (ev_int1 (ev_add (ev_mul (ev_var rfl) ev_c (by unfold CMul; omega)) ev_c)) ev_c (by decide)) fun H5 e5 => ?_
        refine s_app (e5 _ _ h4) (ev_var rfl) (ev_mod (ev_int1 (ev_div (ev_var rfl) ev_c (by decide))) ev_c (by decide)) (by rw [List.length_map]; omega) fun H6 e6 => ⟨_, ns' ++ [_], _, rfl, Ex.mut ((e4.trans e5).trans e6) hp, by rw [upd_same, isV_snoc], by simp; omega⟩
      · rintro σ' H4 ⟨sd', ns', c5', rfl, e4, h4, hl4⟩
        refine q_rev h4 (ev_var rfl) fun H5 e5 => ?_
        exact s_ret (ev_var rfl) fun H6 e6 => k ns'.reverse p H6 hp ((Ex.mut (e4.trans e5) hp).trans e6) (by rw [List.map_reverse]; exact e6 _ _ upd_same)
theorem sc__law_draw : FnScope ["_law_draws_here"] ["_law_draws_here"] (defScope s__law_draw) := ⟨rfl, rfl, rfl, by decide +kernel, rfl, by decide +kernel, by decide +kernel⟩
theorem ok__law_draw (T : Tx K mg) : FnOk P w K mg base CX0 1 (He.fAd K d__law_draw.at_) (fdO K d__law_draw) ["_law_draws_here"] (spDraw K) := by
  refine (F__law_draw T).ok sc__law_draw (fun vs H Q E h => ?_) (fun cdv A outer s H vs Q E hr h => ?_)
  · obtain ⟨_, rfl, _⟩ := h
    rfl
  · obtain ⟨dr, rfl, hd, k⟩ := h
    refine ⟨_, PSs.nox (pss_cons (ps_if (pt_truthK (K := K) rfl (pv 0) (fun _ => rfl)) (pss_one (ps_ret (pe_bm0K (K := K) rfl PySem.F.plainAttrs_list PySem.F.slot_list_pop PySem.F.type_list_pop mt_pop (pv 0)))) pss_nil)
      (pss_one (ps_ret pe_int))), ?_⟩
    obtain ⟨ns, hns⟩ := hd
    refine q_when (et_truL (ev_var rfl) hns) (fun hb H1 e1 => ?_) (fun _ H1 e1 => ?_)
    · have hne : ns ≠ [] := by
        intro z
        subst z
        simp at hb
      have hlast : (ns.map V.int)[(ns.map V.int).length - 1]? = some (.int (ns.getLast hne)) := by
        rw [List.length_map, List.getElem?_map, ← List.getLast?_eq_getElem?, List.getLast?_eq_some_getLast hne]
        rfl
      refine ⟨.ref dr, rfl, .inl ⟨rfl, _, sq_of (e1 _ _ hns)⟩, dr, _, _, rfl, rfl, e1 _ _ hns, hlast, k _ _ (fun a o ha hn => by rw [upd_ne hn]; exact e1 _ _ ha) ⟨ns.dropLast, ?_⟩⟩
      rw [upd_same, List.map_dropLast]
    · exact s_ret ev_c fun H2 e2 => k _ H2 (Xd.ofEx (e1.trans e2)) ⟨ns, (e1.trans e2) _ _ hns⟩
theorem sx_draw (hd : DrAt dr H) : SpX dr (spDraw K) [.ref dr] H (fun v _ => ∃ i : Int, v = .int i) := fun _ e _ q _ => ⟨dr, rfl, hd.ex e, fun i H2 x d => q _ H2 x d ⟨i, rfl⟩⟩
theorem sc__law_pick : FnScope ["_law_draws_here", "_law_many"] ["_law_draws_here", "_law_many"] (defScope s__law_pick) := ⟨rfl, rfl, rfl, by decide +kernel, rfl, by decide +kernel, by decide +kernel⟩
theorem ok__law_pick (T : Tx K mg) : FnOk P w K mg base CX0 2 (He.fAd K d__law_pick.at_) (fdO K d__law_pick) ["_law_draws_here", "_law_many"] (spPick K) := by
  refine (F__law_pick T).ok sc__law_pick (fun vs H Q E h => ?_) (fun cdv A outer s H vs Q E hr h => ?_)
  · obtain ⟨_, _, rfl, _⟩ := h
    rfl
  · obtain ⟨dr, n, rfl, hd, hn1, hn2, k⟩ := h
    refine ⟨_, PSs.nox (pss_one (ps_ret (pe_op op_mod (pe_callTy call_int1 (by rfl) (B_int T) (by decide +kernel) (pa_cons (pe_call (ok__law_draw T) hr rfl (T__law_draw T) (F__law_draw T).kp (b__law_draw T) .nil pass0 (pa_cons (pv 0) pa_nil)) pa_nil)) (pv 1)))), ?_⟩
    have hc : EvX dr (tCall (spDraw K) [] E0 (tCons (tVar 0) tNil)) [some (.ref dr), some (.int (n : Nat))] H (fun v _ => ∃ i : Int, v = .int i) := ex_call (ea_cons (ev_var rfl) ea_nil) (sx_draw hd)
    refine hc H (Ex.refl _) _ fun v H1 x1 d1 hv => ?_
    obtain ⟨i, rfl⟩ := hv
    have h1 : 0 ≤ i % (n : Int) := Int.emod_nonneg i (by omega)
    have h2 : i % (n : Int) < (n : Int) := Int.emod_lt_of_pos i (by omega)
    refine .inl ⟨i, rfl, _, rfl, i, (n : Nat), rfl, rfl, by omega, ?_⟩
    have e0 : i % ((n : Nat) : Int) = (((i % (n : Int)).toNat : Nat) : Int) := by omega
    show Q (V.int (i % ((n : Nat) : Int))) H1
    rw [e0]
    exact k _ H1 (by omega) x1 d1
theorem sx_pick {n : Nat} (hd : DrAt dr H) (h1 : 1 ≤ n) (h2 : n ≤ 1000) : SpX dr (spPick K) [.ref dr, .int (n : Nat)] H (fun v _ => ∃ r : Nat, v = .int (r : Nat) ∧ r < n) := fun _ e _ q _ => ⟨dr, n, rfl, hd.ex e, h1, h2, fun r H2 h3 x d => q _ H2 x d ⟨r, rfl, h3⟩⟩
theorem ex_pick {σ : L2.St} {i n : Nat} {tn : TE} (hi : σ[i]? = some (some (.ref dr))) (hn : Ev tn σ H (.int (n : Nat))) (hd : DrAt dr H) (h1 : 1 ≤ n) (h2 : n ≤ 1000) : EvX dr (tCall (spPick K) [] E0 (tCons (tVar i) (tCons tn tNil))) σ H (fun v _ => ∃ r : Nat, v = .int (r : Nat) ∧ r < n) :=
  ex_call (ea_cons (ev_var hi) (ea_cons hn ea_nil)) (sx_pick hd h1 h2)
end
end LT

set_option Elab.async false
set_option linter.all false
set_option maxRecDepth 100000
set_option maxHeartbeats 4000000
/-! _law_word, _law_string, _law_row -/
namespace LT
open PySem PySem.Spec PyProof.Rows L2 Evl
def letW (n : Nat) : Wd := ((List.range n).map fun s => (s, false)) ++ ((List.range n).map fun s => (s, true))
theorem letW_enc {n : Nat} (h : n ≤ 4) : cutS (Str.ofString "abcdefgh") none (some (n : Int)) ++ cutS (Str.ofString "ABCDEFGH") none (some (n : Int)) = enc (letW n) := by
  have : n = 0 ∨ n = 1 ∨ n = 2 ∨ n = 3 ∨ n = 4 := by omega
  rcases this with h | h | h | h | h <;> subst h <;> decide +kernel
theorem letW_len (n : Nat) : (letW n).length = 2 * n := by simp [letW]; omega
theorem letW_mem {n : Nat} {l : Lt} (h : l ∈ letW n) : l.1 < n := by
  rcases List.mem_append.mp h with z | z
  · obtain ⟨s, hs, rfl⟩ := List.mem_map.mp z
    exact List.mem_range.mp hs
  · obtain ⟨s, hs, rfl⟩ := List.mem_map.mp z
    exact List.mem_range.mp hs
theorem lts_of {n : Nat} {ys : List V} (h : ∀ y ∈ ys, ∃ l : Lt, y = .str (enc [l]) ∧ l.1 < n) : ∃ w : Wd, ys = ltV w ∧ ∀ l ∈ w, l.1 < n := by
  induction ys with
  | nil => exact ⟨[], rfl, fun l hl => by simp at hl⟩
  | cons y r ih =>
    obtain ⟨w, h1, h2⟩ := ih fun y hy => h y (by simp [hy])
    obtain ⟨l, rfl, h4⟩ := h y (by simp)
    refine ⟨l :: w, by rw [h1]; rfl, fun t ht => ?_⟩
    rcases List.mem_cons.mp ht with z | z
    · subst z; exact h4
    · exact h2 t z
theorem dgs_of {n : Nat} {ys : List V} (h : ∀ y ∈ ys, ∃ d : Nat, y = .str (encD [d]) ∧ d < n) : ∃ s : List Nat, ys = dgV s ∧ ∀ d ∈ s, d < n := by
  induction ys with
  | nil => exact ⟨[], rfl, fun l hl => by simp at hl⟩
  | cons y r ih =>
    obtain ⟨w, h1, h2⟩ := ih fun y hy => h y (by simp [hy])
    obtain ⟨l, rfl, h4⟩ := h y (by simp)
    refine ⟨l :: w, by rw [h1]; rfl, fun t ht => ?_⟩
    rcases List.mem_cons.mp ht with z | z
    · subst z; exact h4
    · exact h2 t z
theorem given_filter {α : Type} (d : α) (p : α → Bool) (v : α → V) (xs : List α) : given xs.length (fun i => p (xs.getD i d)) (fun i => v (xs.getD i d)) = (xs.filter p).map v := by
  unfold given
  have : ∀ (ys : List α), ((List.range ys.length).filter fun i => p (ys.getD i d)).map (fun i => v (ys.getD i d)) = (ys.filter p).map v := fun ys => by
    have h1 : (ys.filter p).map v = (((List.range ys.length).map fun i => ys.getD i d).filter p).map v := by
      have e : (List.range ys.length).map (fun i => ys.getD i d) = ys := (range_map_get ys d (fun x => x)).trans (List.map_id' ys)
      rw [e]
    rw [h1, List.filter_map, List.map_map]
    rfl
  exact this xs
section
variable {P : Program} {w : World} {K : PySem.W.Frag} {mg : Str → Option Value} {base : Heap} {M : Mach} {H : Hp} {mv av : V} {E : XK} {dr : Addr}
theorem ex_ixS {σ : L2.St} {i : Nat} {w : Wd} {te : TE} {n : Nat} (hi : σ[i]? = some (some (.str (enc w)))) (hw : ∀ l ∈ w, l.1 < n) (hl : w.length ≤ 1000) (h : EvX dr te σ H (fun v _ => ∃ r : Nat, v = .int (r : Nat) ∧ r < w.length)) : EvX dr (tOp rIxS (tVar i) te) σ H (fun v _ => ∃ l : Lt, v = .str (enc [l]) ∧ l.1 < n) := fun H1 e Q q =>
  ⟨_, hi, h H1 e _ fun v H2 x d hv => by
    obtain ⟨r, rfl, hr⟩ := hv
    obtain ⟨l, hl'⟩ : ∃ l, w[r]? = some l := ⟨_, List.getElem?_eq_getElem hr⟩
    refine ⟨enc w, (r : Nat), code l, rfl, rfl, sz_of (by rw [enc_length]; omega), ?_, q _ H2 x d ⟨l, rfl, hw l (List.mem_of_getElem? hl')⟩⟩
    refine atI_nat ?_
    simp [enc, hl']⟩
theorem ex_str {σ : L2.St} {te : TE} {n : Nat} (hn : n ≤ 4) (h : EvX dr te σ H (fun v _ => ∃ r : Nat, v = .int (r : Nat) ∧ r < n)) : EvX dr (tCB (fun xs H Q => ∃ i, xs = [.int i] ∧ i.natAbs.log2 < 1920 ∧ Q (.str (toString i)) H) (tCons te tNil)) σ H (fun v _ => ∃ d : Nat, v = .str (encD [d]) ∧ d < n) := fun H1 e Q q =>
  h H1 e _ fun v H2 x d hv => by
    obtain ⟨r, rfl, hr⟩ := hv
    have h1 : Ev (tCB (fun xs H Q => ∃ i, xs = [.int i] ∧ i.natAbs.log2 < 1920 ∧ Q (.str (toString i)) H) (tCons (tC (.int (r : Nat))) tNil)) σ H2 (.str (encD [r])) := ev_strI ev_c (by omega)
    exact h1 H2 (Ex.refl _) _ fun H3 e3 => q _ H3 (x.trans (Xd.ofEx e3)) (d.ex e3) ⟨r, rfl, hr⟩
def spWord (K : PySem.W.Frag) : Sp := fun vs H Q _ => ∃ (M : Mach) (mv : V) (dr : Addr) (m : Nat), vs = [.ref dr, mv, .int (m : Nat)] ∧ M.Ok ∧ MachAt K H mv M ∧ DrAt dr H ∧ m ≤ 10 ∧ ∀ (u : Wd) H2, WOk M u → u.length ≤ m → Xd dr H H2 → DrAt dr H2 → Q (.str (enc u)) H2
def spString (K : PySem.W.Frag) : Sp := fun vs H Q _ => ∃ (dr : Addr) (k m : Nat), vs = [.ref dr, .int (k : Nat), .int (m : Nat)] ∧ 1 ≤ k ∧ k ≤ 4 ∧ DrAt dr H ∧ m ≤ 10 ∧ ∀ (s : List Nat) H2, (∀ d ∈ s, d < k) → s.length ≤ m → Xd dr H H2 → DrAt dr H2 → Q (.str (encD s)) H2
theorem sc__law_word : FnScope ["_law_draws_here", "_law_machine_here", "_law_most", "_law_letters", "_law_j"] ["_law_draws_here", "_law_machine_here", "_law_most"] (defScope s__law_word) := ⟨rfl, rfl, rfl, by decide +kernel, rfl, by decide +kernel, by decide +kernel⟩
theorem ok__law_word (T : Tx K mg) : FnOk P w K mg base CX0 3 (He.fAd K d__law_word.at_) (fdO K d__law_word) ["_law_draws_here", "_law_machine_here", "_law_most"] (spWord K) := by
  refine (F__law_word T).ok sc__law_word (fun vs H Q E h => ?_) (fun cdv A outer s H vs Q E hr h => ?_)
  · obtain ⟨_, _, _, _, rfl, _⟩ := h
    rfl
  · obtain ⟨M, mv, dr, m, rfl, O, hm, hd, hm10, k⟩ := h
    refine ⟨_, PSs.nox (pss_cons (ps_set (i := 3) sc__law_word.nd rfl (.inr rfl) (pe_op op_add_str (pe_slice sl_str pe_str po_none (po_some (pe_callB (call_lenK (K := K) rfl) (by rfl) (B_len T) PySem.boot_len (pa_cons (pe_ix (ix_tupK (K := K) rfl) (pv 1) pe_int (fun _ _ => rfl)) pa_nil)))) (pe_slice sl_str pe_str po_none (po_some (pe_callB (call_lenK (K := K) rfl) (by rfl) (B_len T) PySem.boot_len (pa_cons (pe_ix (ix_tupK (K := K) rfl) (pv 1) pe_int (fun _ _ => rfl)) pa_nil))))))
      (pss_one (ps_ret (pe_joinK (K := K) rfl pe_str (pe_lc (own := [("_law_j", 4)]) rfl sc__law_word.nd (pi_range1 rfl (B_range T) (pa_cons (pe_call (ok__law_pick T) hr rfl (T__law_pick T) (F__law_pick T).kp (b__law_pick T) .nil pass0 (pa_cons (pv 0) (pa_cons (pe_op op_add (pv 2) pe_int) pa_nil))) pa_nil)) (blkOk_by (own := [("_law_j", 4)]) (N := ["_law_draws_here", "_law_machine_here", "_law_most", "_law_letters", "_law_j"]) (sc := defScope s__law_word) (by decide +kernel)) (fun _ _ _ _ _ => (pg_name (i := 4) sc__law_word.nd rfl (by first | exact Or.inl rfl | exact Or.inr rfl))) (fun _ _ _ _ _ => pts_nil) (fun _ _ _ _ _ => (pe_ix ix_str (pv 3) (pe_call (ok__law_pick T) hr rfl (T__law_pick T) (F__law_pick T).kp (b__law_pick T) .nil pass0 (pa_cons (pv 0) (pa_cons (pe_callB (call_lenK (K := K) rfl) (by rfl) (B_len T) PySem.boot_len (pa_cons (pv 3) pa_nil)) pa_nil))) (fun _ _ => rfl)))))))), ?_⟩
    have hn4 := O.n4
    have hn1 := O.n1
    obtain ⟨R, vs, hR, hRs, hrows⟩ := ev_rows (σ := [some (.ref dr), some mv, some (.int (m : Nat)), none, none]) hm (te := tVar 1) (ev_var rfl)
    have hlen := Paired.len hrows
    refine q_asg (v := .str (enc (letW M.rows.length))) (ev_is (ev_addS (ev_slS ev_c eo_none (eo_some (ev_lenT hR hRs)) (by decide)) (ev_slS ev_c eo_none (eo_some (ev_lenT hR hRs)) (by decide)) ?_) ?_) fun H1 e1 => ?_
    · have h1 := cutS_length (Str.ofString "abcdefgh") none (some ((vs.length : Nat) : Int))
      have h2 := cutS_length (Str.ofString "ABCDEFGH") none (some ((vs.length : Nat) : Int))
      have h3 : (Str.ofString "abcdefgh").length = 8 := rfl
      have h4 : (Str.ofString "ABCDEFGH").length = 8 := rfl
      omega
    · rw [hlen, letW_enc hn4]
    have hd1 := hd.ex e1
    have hll := letW_len M.rows.length
    have hlc := ex_lc (σ := [some (.ref dr), some mv, some (.int (m : Nat)), some (.str (enc (letW M.rows.length))), none]) (H := H1) (dr := dr) (ta := tCons (tCall (spPick K) [] E0 (tCons (tVar 0) (tCons (tOp (rI0 fun i j => .int (i + j)) (tVar 2) (tC (.int 1))) tNil))) tNil) (te := tOp rIxS (tVar 3) (tCall (spPick K) [] E0 (tCons (tVar 0) (tCons (tCB (fun xs H Q => ∃ x n, xs = [x] ∧ LenV K x H n ∧ Q (.int n) H) (tCons (tVar 3) tNil)) tNil)))) (j := 4) (N := m) (R := fun v _ => ∃ l : Lt, v = .str (enc [l]) ∧ l.1 < M.rows.length) (fun _ _ _ _ _ h => h) (fun _ _ _ _ _ _ h => h) (fun H2 e2 Q2 q2 => ex_pick (n := m + 1) rfl (ev_is (ev_add (i := ((m : Nat) : Int)) (j := 1) (ev_var rfl) ev_c) rfl) hd1 (by omega) (by omega) H2 e2 _ fun v H3 x3 d3 hv => by
      obtain ⟨r, rfl, hr⟩ := hv
      exact q2 r H3 (by omega) x3 d3) (by omega) (fun i H2 x2 d2 => ex_ixS rfl (fun l hl => letW_mem hl) (by omega) (ex_pick rfl (ev_is (ev_lenS (ev_var rfl) (by rw [enc_length]; omega)) (by rw [enc_length])) d2 (by omega) (by omega)))
    refine ⟨⟨_, rfl⟩, hlc H1 (Ex.refl _) _ fun v H2 x2 d2 hv => ?_⟩
    obtain ⟨p, ys, rfl, hpd, _, hp, hyl, hys⟩ := hv
    obtain ⟨u, rfl, hu⟩ := lts_of hys
    rw [ltV_len] at hyl
    refine ⟨_, p, u.map fun l => enc [l], rfl, rfl, .inl (by rw [← ltV_eq]; exact sq_of hp), ?_, ?_⟩
    · rw [sum_ones (fun l => enc [l]) (fun l => rfl)]
      have : (Str.ofString "").length = 0 := rfl
      rw [this]
      omega
    · rw [join_letters]
      exact k u H2 hu hyl ((Xd.ofEx e1).trans x2) d2
theorem sc__law_string : FnScope ["_law_draws_here", "_law_k", "_law_most", "_law_j"] ["_law_draws_here", "_law_k", "_law_most"] (defScope s__law_string) := ⟨rfl, rfl, rfl, by decide +kernel, rfl, by decide +kernel, by decide +kernel⟩
theorem ok__law_string (T : Tx K mg) : FnOk P w K mg base CX0 3 (He.fAd K d__law_string.at_) (fdO K d__law_string) ["_law_draws_here", "_law_k", "_law_most"] (spString K) := by
  refine (F__law_string T).ok sc__law_string (fun vs H Q E h => ?_) (fun cdv A outer s H vs Q E hr h => ?_)
  · obtain ⟨_, _, _, rfl, _⟩ := h
    rfl
  · obtain ⟨dr, kk, m, rfl, hk1, hk4, hd, hm10, k⟩ := h
    refine ⟨_, PSs.nox (pss_one (ps_ret (pe_joinK (K := K) rfl pe_str (pe_lc (own := [("_law_j", 3)]) rfl sc__law_string.nd (pi_range1 rfl (B_range T) (pa_cons (pe_call (ok__law_pick T) hr rfl (T__law_pick T) (F__law_pick T).kp (b__law_pick T) .nil pass0 (pa_cons (pv 0) (pa_cons (pe_op op_add (pv 2) pe_int) pa_nil))) pa_nil)) (blkOk_by (own := [("_law_j", 3)]) (N := ["_law_draws_here", "_law_k", "_law_most", "_law_j"]) (sc := defScope s__law_string) (by decide +kernel)) (fun _ _ _ _ _ => (pg_name (i := 3) sc__law_string.nd rfl (by first | exact Or.inl rfl | exact Or.inr rfl))) (fun _ _ _ _ _ => pts_nil) (fun _ _ _ _ _ => (pe_callTy call_str_int (by rfl) (B_str T) (by decide +kernel) (pa_cons (pe_call (ok__law_pick T) hr rfl (T__law_pick T) (F__law_pick T).kp (b__law_pick T) .nil pass0 (pa_cons (pv 0) (pa_cons (pv 1) pa_nil))) pa_nil))))))), ?_⟩
    have hlc := ex_lc (σ := [some (.ref dr), some (.int (kk : Nat)), some (.int (m : Nat)), none]) (H := H) (dr := dr) (ta := tCons (tCall (spPick K) [] E0 (tCons (tVar 0) (tCons (tOp (rI0 fun i j => .int (i + j)) (tVar 2) (tC (.int 1))) tNil))) tNil) (te := tCB (fun xs H Q => ∃ i, xs = [.int i] ∧ i.natAbs.log2 < 1920 ∧ Q (.str (toString i)) H) (tCons (tCall (spPick K) [] E0 (tCons (tVar 0) (tCons (tVar 1) tNil))) tNil)) (j := 3) (N := m) (R := fun v _ => ∃ d : Nat, v = .str (encD [d]) ∧ d < kk) (fun _ _ _ _ _ h => h) (fun _ _ _ _ _ _ h => h) (fun H2 e2 Q2 q2 => ex_pick (n := m + 1) rfl (ev_is (ev_add (i := ((m : Nat) : Int)) (j := 1) (ev_var rfl) ev_c) rfl) hd (by omega) (by omega) H2 e2 _ fun v H3 x3 d3 hv => by
      obtain ⟨r, rfl, hr⟩ := hv
      exact q2 r H3 (by omega) x3 d3) (by omega) (fun i H2 x2 d2 => ex_str hk4 (ex_pick rfl (ev_var rfl) d2 hk1 (by omega)))
    refine ⟨⟨_, rfl⟩, hlc H (Ex.refl _) _ fun v H2 x2 d2 hv => ?_⟩
    obtain ⟨p, ys, rfl, hpd, _, hp, hyl, hys⟩ := hv
    obtain ⟨u, rfl, hu⟩ := dgs_of hys
    rw [dgV_len] at hyl
    refine ⟨_, p, u.map fun l => encD [l], rfl, rfl, .inl (by rw [← dgV_eq]; exact sq_of hp), ?_, ?_⟩
    · rw [sum_onesD]
      have : (Str.ofString "").length = 0 := rfl
      rw [this]
      omega
    · rw [join_digits]
      exact k u H2 hu hyl x2 d2
end
end LT

set_option Elab.async false
set_option linter.all false
set_option maxRecDepth 100000
set_option maxHeartbeats 4000000
/-! _law_row -/
namespace LT
open PySem PySem.Spec PyProof.Rows L2 Evl
def RowR (v : V) (r : List (Nat × Nat)) (H : Hp) : Prop := ∃ p vs, v = .ref p ∧ H p = some (.tup vs) ∧ Paired (fun x (e : Nat × Nat) => TupR [.int (e.1 : Nat), .int (e.2 : Nat)] x H) vs r
theorem TupR.xd {dr : Addr} {H H' : Hp} {xs : List V} {v : V} (x : Xd dr H H') (d : DrAt dr H) (h : TupR xs v H) : TupR xs v H' := by
  obtain ⟨q, h1, h2⟩ := h
  exact ⟨q, h1, x.tup d h2⟩
theorem RowR.xd {dr : Addr} {H H' : Hp} {r : List (Nat × Nat)} {v : V} (x : Xd dr H H') (d : DrAt dr H) (h : RowR v r H) : RowR v r H' := by
  obtain ⟨p, vs, h1, h2, h3⟩ := h
  exact ⟨p, vs, h1, x.tup d h2, Paired.imp (fun _ _ => TupR.xd x d) h3⟩
theorem RowR.kt {H H' : Hp} {r : List (Nat × Nat)} {v : V} (x : KT H H') (h : RowR v r H) : RowR v r H' := by
  obtain ⟨p, vs, h1, h2, h3⟩ := h
  exact ⟨p, vs, h1, x _ _ h2, Paired.imp (fun _ _ => TupR.kt x) h3⟩
theorem RowR.at {K : PySem.W.Frag} {H : Hp} {r : List (Nat × Nat)} {v : V} (h : RowR v r H) : RowAt K H v r := by
  obtain ⟨p, vs, h1, h2, h3⟩ := h
  exact ⟨p, vs, h1, st_of h2, Paired.imp (fun _ _ ⟨q, a, b⟩ => ⟨q, a, st_of b⟩) h3⟩
theorem DrAt.upd {dr p : Addr} {H : Hp} {o : HO} (d : DrAt dr H) (h : p ≠ dr) : DrAt dr (upd H p o) := by
  obtain ⟨ns, d⟩ := d
  exact ⟨ns, by rw [upd_ne (Ne.symm h)]; exact d⟩
theorem DrAt.ne {dr p : Addr} {H : Hp} (d : DrAt dr H) (h : H p = none) : p ≠ dr := fun z => by
  obtain ⟨ns, d⟩ := d
  rw [← z, h] at d
  cases d
def spLRow (K : PySem.W.Frag) : Sp := fun vs H Q _ => ∃ (dr : Addr) (k n : Nat), vs = [.ref dr, .int (k : Nat), .int (n : Nat)] ∧ DrAt dr H ∧ 2 ≤ k ∧ k ≤ 3 ∧ 1 ≤ n ∧ n ≤ 4 ∧
  ∀ (r : List (Nat × Nat)) v H2, (r.map (·.1)).Perm (List.range k) → (∀ e ∈ r, e.2 < n) → RowR v r H2 → Xd dr H H2 → DrAt dr H2 → Q v H2
section
variable {P : Program} {w : World} {K : PySem.W.Frag} {mg : Str → Option Value} {base : Heap} {M : Mach} {H : Hp} {mv av : V} {E : XK} {dr : Addr}
theorem ex_ixL {σ : L2.St} {i : Nat} {L : List Nat} {p : Addr} {te : TE} (hi : σ[i]? = some (some (.ref p))) (hp : H p = some (.lst (nsV L))) (hpd : p ≠ dr) (h : EvX dr te σ H (fun v _ => ∃ r : Nat, v = .int (r : Nat) ∧ r < L.length)) : EvX dr (tOp (rIxL K) (tVar i) te) σ H (fun v _ => ∃ o : Nat, v = .int (o : Nat) ∧ o ∈ L) := fun H1 e Q q =>
  ⟨_, hi, h H1 e _ fun v H2 x d hv => by
    obtain ⟨r, rfl, hr⟩ := hv
    obtain ⟨o, ho⟩ : ∃ o, L[r]? = some o := ⟨_, List.getElem?_eq_getElem hr⟩
    have hp2 := x p _ (e _ _ hp) hpd
    refine ⟨p, nsV L, (r : Nat), .int (o : Nat), rfl, rfl, sq_of hp2, atI_nat ?_, q _ H2 x d ⟨o, rfl, List.mem_of_getElem? ho⟩⟩
    simp [nsV, ho]⟩
theorem eu_tupleP {σ : L2.St} {ta : TE} {p : Addr} {xs : List V} (h : Ev ta σ H (.ref p)) (hp : H p = some (.lst xs)) : EvU (tCB (fun xs H Q => ∃ p ys, xs = [.ref p] ∧ ((SqL K H p ys ∧ ∀ l, H l = none → Q (.ref l) (upd H l (.tup ys))) ∨ (SqT K H p ys ∧ Q (.ref p) H))) (tCons ta tNil)) σ H xs := fun H1 e Q q =>
  h H1 e _ fun H2 e2 => ⟨p, xs, rfl, .inl ⟨sq_of ((e.trans e2) _ _ hp), fun l hl => q l _ (fresh_back e2 hl) (e2.trans (Ex.new hl)) upd_same⟩⟩
theorem filter_perm {L : List Nat} {o : Nat} (hn : L.Nodup) (ho : o ∈ L) : L.Perm (o :: L.filter fun d => !decide (d = o)) := by
  have h1 := List.perm_cons_erase ho
  rw [hn.erase_eq_filter] at h1
  have e : (fun x => x != o) = (fun d => !decide (d = o)) := by
    funext d
    simp [bne, BEq.beq]
  rw [e] at h1
  exact h1
theorem sc__law_row : FnScope ["_law_draws_here", "_law_k", "_law_states", "_law_left", "_law_row_here", "_law_x", "_law_out", "_law_digit"] ["_law_draws_here", "_law_k", "_law_states"] (defScope s__law_row) := ⟨rfl, rfl, rfl, by decide +kernel, rfl, by decide +kernel, by decide +kernel⟩
theorem ok__law_row (T : Tx K mg) : FnOk P w K mg base CX0 3 (He.fAd K d__law_row.at_) (fdO K d__law_row) ["_law_draws_here", "_law_k", "_law_states"] (spLRow K) := by
  refine (F__law_row T).ok sc__law_row (fun vs H Q E h => ?_) (fun cdv A outer s H vs Q E hr h => ?_)
  · obtain ⟨_, _, _, rfl, _⟩ := h
    rfl
  · obtain ⟨dr, kk, n, rfl, hd, hk2, hk3, hn1, hn4, k⟩ := h
    refine ⟨_, PSs.nox (pss_cons (ps_set (i := 3) sc__law_row.nd rfl (.inl rfl) (pe_listRg rfl (by rfl) (B_list T) (prg_1 rfl (B_range T) (pv 1))))
      (pss_cons (ps_set (i := 4) sc__law_row.nd rfl (.inl rfl) (pe_lst pa_nil))
      (pss_cons (ps_for PassesOwn.never rfl (pi_range1 rfl (B_range T) (pa_cons (pv 1) pa_nil)) (pg_name (i := 5) sc__law_row.nd rfl (by first | exact Or.inl rfl | exact Or.inr rfl)) (pss_cons (ps_set (i := 6) sc__law_row.nd rfl (.inr rfl) (pe_ix (ix_listK (K := K) rfl) (pv 3) (pe_call (ok__law_pick T) hr rfl (T__law_pick T) (F__law_pick T).kp (b__law_pick T) .nil pass0 (pa_cons (pv 0) (pa_cons (pe_callB (call_lenK (K := K) rfl) (by rfl) (B_len T) PySem.boot_len (pa_cons (pv 3) pa_nil)) pa_nil))) (fun _ _ => rfl)))
      (pss_cons (ps_setLc (i := 3) (own := [("_law_digit", 7)]) rfl sc__law_row.nd rfl rfl (sw_true rfl rfl rfl (by decide +kernel)) (pi_listK (K := K) rfl (pv 3)) (blkOk_by (own := [("_law_digit", 7)]) (N := ["_law_draws_here", "_law_k", "_law_states", "_law_left", "_law_row_here", "_law_x", "_law_out", "_law_digit"]) (sc := defScope s__law_row) (by decide +kernel)) (fun _ _ _ _ _ => (pg_name (i := 7) sc__law_row.nd rfl (by first | exact Or.inl rfl | exact Or.inr rfl))) (fun _ _ _ _ _ => (pts_one (pt_cmpR op_ne (pv 7) (pv 6) (nomark _)))) (fun _ _ _ _ _ => (pv 7)))
      (pss_one (ps_expr (pe_bmK (K := K) rfl PySem.F.plainAttrs_list PySem.F.slot_list_append PySem.F.type_list_append mt_append (pv 4) (pa_cons (pe_tup (pa_cons (pv 6) (pa_cons (pe_call (ok__law_pick T) hr rfl (T__law_pick T) (F__law_pick T).kp (b__law_pick T) .nil pass0 (pa_cons (pv 0) (pa_cons (pv 2) pa_nil))) pa_nil))) pa_nil)))))))
      (pss_one (ps_ret (pe_callTy (call_tuple_ofK (K := K) rfl) (by rfl) (B_tuple T) (by decide +kernel) (pa_cons (pv 4) pa_nil))))))), ?_⟩
    refine q_asgL (el_listRg (ev_var rfl) (by omega)) fun p H1 hp e1 h1 => ?_
    rw [← ints_map] at h1
    refine q_asgL (el_lst ea_nil le0) fun q H2 hq e2 h2 => ?_
    have E2 := e1.trans e2
    have hpd := hd.ne hp
    have hqd := (hd.ex e1).ne hq
    have hpq : p ≠ q := fun z => by rw [← z, h1] at hq; cases hq
    have hq0 := fresh_back e1 hq
    refine q_forR1 (n := (kk : Nat)) (ea_cons (ev_var rfl) ea_nil) (by omega) (fun i σ' H' => ∃ (L : List Nat) (rs : List (Nat × Nat)) (pl : Addr) (ys : List V) (c5 c6 : Option V), σ' = [some (.ref dr), some (.int (kk : Nat)), some (.int (n : Nat)), some (.ref pl), some (.ref q), c5, c6, none] ∧ Xd dr H H' ∧ DrAt dr H' ∧ pl ≠ dr ∧ pl ≠ q ∧ H' pl = some (.lst (nsV L)) ∧ H' q = some (.lst ys) ∧ Paired (fun x (e : Nat × Nat) => TupR [.int (e.1 : Nat), .int (e.2 : Nat)] x H') ys rs ∧ (rs.map (·.1) ++ L).Perm (List.range kk) ∧ rs.length = i ∧ ∀ e ∈ rs, e.2 < n) (fun H3 e3 => ⟨List.range kk, [], p, [], none, none, rfl, Xd.ofEx (E2.trans e3), hd.ex (E2.trans e3), hpd, hpq, (e2.trans e3) _ _ h1, e3 _ _ h2, .nil, by simp, rfl, fun e he => by simp at he⟩) ?_ ?_
    · rintro i σ' H3 hi ⟨L, rs, pl, ys, c5, c6, rfl, x3, d3, hpl, hplq, hL, hys, hP, hperm, hrl, hrn⟩
      have hLl : L.length = kk - i := by
        have := hperm.length_eq
        simp at this
        omega
      have hLn : L.Nodup := by
        have := hperm.nodup_iff.mpr List.nodup_range
        exact (List.nodup_append.mp this).2.1
      refine q_asgX (ex_ixL (L := L) rfl hL hpl (ex_pick rfl (ev_is (ev_lenL (ev_var rfl) (sq_of hL)) (by rw [nsV_len])) d3 (by omega) (by omega))) fun v H4 x4 d4 hv => ?_
      obtain ⟨o, rfl, hoL⟩ := hv
      have hL4 := x4 _ _ hL hpl
      have hys4 := x4 _ _ hys hqd
      have X4 := x3.trans x4
      refine q_asgL (xs := nsV (L.filter fun d => !decide (d = o))) ?_ fun pl2 H5 hpl2 e5 h5 => ?_
      · have e0 : nsV (L.filter fun d => !decide (d = o)) = given (nsV L).length (fun j => !decide (L.getD j 0 = o)) (fun j => .int ((L.getD j 0 : Nat) : Int)) := by
          rw [nsV_len]
          exact (given_filter 0 (fun d => !decide (d = o)) (fun d : Nat => V.int (d : Nat)) L).symm
        rw [e0]
        refine el_lcL _ _ (ev_var rfl) (sq_of hL4) (by rw [nsV_len]; omega) (fun x => wipe_set1) (fun j x H5 e5 hj => ?_) (fun j x H5 e5 hj _ => ?_)
        · obtain ⟨d, hd', rfl⟩ := nsV_get hj
          rw [getD_of hd']
          refine et_is (et_ne (ev_var rfl) (ev_var rfl) rfl) ?_
          exact congrArg not (decide_eq_decide.mpr (by rw [V.int.injEq]; omega))
        · obtain ⟨d, hd', rfl⟩ := nsV_get hj
          rw [getD_of hd']
          exact ev_var rfl
      have d5 := d4.ex e5
      have hpl2d := d4.ne hpl2
      have hpl2q : pl2 ≠ q := fun z => by rw [z, hys4] at hpl2; cases hpl2
      have X5 := X4.trans (Xd.ofEx e5)
      refine ⟨.ref q, rfl, .inl ⟨rfl, _, sq_of (e5 _ _ hys4)⟩, .int (o : Nat), rfl, ex_pick (K := K) (n := n) (σ := [some (.ref dr), some (.int (kk : Nat)), some (.int (n : Nat)), some (.ref pl2), some (.ref q), some (.int (i : Nat)), some (.int (o : Nat)), none]) (i := 0) rfl (ev_var rfl) d5 hn1 (by omega) H5 (Ex.refl _) _ fun v H6 x6 d6 hv => ⟨sz_of le2, fun t ht => ?_⟩⟩
      obtain ⟨f, rfl, hf⟩ := hv
      have hys6 := x6 _ _ (e5 _ _ hys4) hqd
      have et : Ex H6 (upd H6 t (.tup [.int (o : Nat), .int (f : Nat)])) := Ex.new ht
      have hys7 := et _ _ hys6
      have hyl : ys.length = rs.length := Paired.len hP
      refine ⟨q, ys, .ref t, rfl, rfl, hys7, sz_lt (by omega), L.filter (fun d => !decide (d = o)), rs ++ [(o, f)], pl2, ys ++ [.ref t], _, _, rfl, ?_, (d6.ex et).upd hqd, hpl2d, hpl2q, ?_, upd_same, ?_, ?_, by simp [hrl], fun e he => ?_⟩
      · exact Xd.mut (X5.trans (x6.trans (Xd.ofEx et))) hq0
      · rw [upd_ne hpl2q]
        exact et _ _ (x6 _ _ h5 hpl2d)
      · have k7 : ∀ x xs, TupR xs x H3 → TupR xs x (upd (upd H6 t (.tup [.int (o : Nat), .int (f : Nat)])) q (.lst (ys ++ [.ref t]))) := fun x xs h => ((((h.xd x4 d3).kt (.ofEx e5)).xd x6 d5).kt (.ofEx et)).kt (KT.lst hys7)
        exact Paired.snoc (Paired.imp (fun a b h => k7 a _ h) hP) ⟨t, rfl, (KT.lst hys7) _ _ upd_same⟩
      · refine List.Perm.trans ?_ hperm
        rw [List.map_append, List.append_assoc]
        exact List.Perm.append_left _ (filter_perm hLn hoL).symm
      · rcases List.mem_append.mp he with z | z
        · exact hrn e z
        · simp at z
          subst z
          exact hf
    · rintro σ' H3 ⟨L, rs, pl, ys, c5, c6, rfl, x3, d3, hpl, hplq, hL, hys, hP, hperm, hrl, hrn⟩
      have e0 : ((kk : Nat) : Int).toNat = kk := by omega
      rw [e0] at hrl
      have hL0 : L = [] := by
        have := hperm.length_eq
        simp at this
        exact List.length_eq_zero_iff.mp (by omega)
      subst hL0
      rw [List.append_nil] at hperm
      exact s_retU (eu_tupleP (ev_var rfl) hys) fun l H4 hl e4 h4 => k rs (.ref l) H4 hperm hrn ⟨l, ys, rfl, h4, Paired.imp (fun a b h => h.kt (.ofEx e4)) hP⟩ (x3.trans (Xd.ofEx e4)) (d3.ex e4)
end
end LT

set_option Elab.async false
set_option linter.all false
set_option maxRecDepth 100000
set_option maxHeartbeats 4000000
/-! _law_machine -/
namespace LT
open PySem PySem.Spec PyProof.Rows L2 Evl
def spLMach (K : PySem.W.Frag) : Sp := fun vs H Q _ => ∃ (dr : Addr), vs = [.ref dr] ∧ DrAt dr H ∧ ∀ (M : Mach) v H2, M.Ok → MachAt K H2 v M → Xd dr H H2 → DrAt dr H2 → Q v H2
/-- the rows in the list -/
def RowsAt (H : Hp) (vs : List V) (Rs : List (List (Nat × Nat))) : Prop := Paired (fun v r => RowR v r H) vs Rs
theorem RowsAt.xd {dr : Addr} {H H' : Hp} {vs : List V} {Rs : List (List (Nat × Nat))} (x : Xd dr H H') (d : DrAt dr H) (h : RowsAt H vs Rs) : RowsAt H' vs Rs := Paired.imp (fun _ _ => RowR.xd x d) h
theorem RowsAt.kt {H H' : Hp} {vs : List V} {Rs : List (List (Nat × Nat))} (x : KT H H') (h : RowsAt H vs Rs) : RowsAt H' vs Rs := Paired.imp (fun _ _ => RowR.kt x) h
def ROk (k n : Nat) (r : List (Nat × Nat)) : Prop := (r.map (·.1)).Perm (List.range k) ∧ ∀ e ∈ r, e.2 < n
theorem ROk.mono {k n m : Nat} {r : List (Nat × Nat)} (h : n ≤ m) (o : ROk k n r) : ROk k m r := ⟨o.1, fun e he => Nat.lt_of_lt_of_le (o.2 e he) h⟩
theorem rows_of {H : Hp} {k n : Nat} : ∀ {ys : List V}, (∀ y ∈ ys, ∃ r, ROk k n r ∧ RowR y r H) → ∃ Rs, RowsAt H ys Rs ∧ ∀ r ∈ Rs, ROk k n r
  | [], _ => ⟨[], .nil, fun r hr => by simp at hr⟩
  | y :: ys, h => by
    obtain ⟨Rs, h1, h2⟩ := rows_of (ys := ys) fun z hz => h z (List.mem_cons_of_mem _ hz)
    obtain ⟨r, h3, h4⟩ := h y (List.mem_cons_self ..)
    refine ⟨r :: Rs, .cons h4 h1, fun t ht => ?_⟩
    rcases List.mem_cons.mp ht with z | z
    · subst z; exact h3
    · exact h2 t z
theorem Paired.set {α β : Type} {R : α → β → Prop} : ∀ {xs : List α} {ys : List β} {i : Nat} {x : α} {y : β}, Paired R xs ys → R x y → Paired R (xs.set i x) (ys.set i y)
  | _, _, _, _, _, .nil, _ => .nil
  | _, _, 0, _, _, .cons _ p, h => .cons h p
  | _, _, i + 1, _, _, .cons a p, h => .cons a (Paired.set p h)
theorem set_mem {α : Type} {xs : List α} {i : Nat} {x y : α} (h : y ∈ xs.set i x) : y = x ∨ y ∈ xs := by
  rcases List.mem_or_eq_of_mem_set h with z | z
  · exact .inr z
  · exact .inl z
theorem mach_ok {k n : Nat} {Rs : List (List (Nat × Nat))} (hk : 2 ≤ k ∧ k ≤ 3) (hn : 1 ≤ n ∧ n ≤ 4) (hl : Rs.length = n) (h : ∀ r ∈ Rs, ROk k n r) : Mach.Ok ⟨k, Rs⟩ :=
  ⟨hk.1, hk.2, by show 1 ≤ Rs.length; omega, by show Rs.length ≤ 4; omega, fun r hr => (h r hr).1, fun r hr e he => by show e.2 < Rs.length; rw [hl]; exact (h r hr).2 e he⟩
section
variable {K : PySem.W.Frag} {σ : L2.St} {H H' : Hp} {ta tb te tf tx td ty tv tn : TE} {D : Ends} {tz tu tw : TS} {M : Mach} {g : TG} {dr : Addr} {t : TT}
/-- a tuple of a new list whose items are told -/
theorem er_tupleLR {n : Nat} {R : Nat → V → Hp → Prop} (hR : ∀ i, Stb (R i)) (h : EvLR ta σ H n R) : EvR (tCB (fun xs H Q => ∃ p ys, xs = [.ref p] ∧ ((SqL K H p ys ∧ ∀ l, H l = none → Q (.ref l) (upd H l (.tup ys))) ∨ (SqT K H p ys ∧ Q (.ref p) H))) (tCons ta tNil)) σ H (fun v H' => ∃ p ys, v = .ref p ∧ H' p = some (.tup ys) ∧ Paired (fun i y => R i y H') (List.range n) ys) := fun H1 e Q q =>
  h H1 e _ fun p H2 ys hp e2 h2 hP => ⟨p, ys, rfl, .inl ⟨sq_of h2, fun l hl => q _ _ (e2.trans (Ex.new hl)) ⟨l, ys, rfl, upd_same, Paired.imp (fun i y hh => (hR i).ex y _ _ (Ex.new hl) hh) hP⟩⟩⟩
theorem s_appR {l : Addr} {xs : List V} {R : V → Hp → Prop} (hl : H l = some (.lst xs)) (ha : Ev ta σ H (.ref l)) (h : EvR te σ H R) (hz : xs.length < 100000) (k : ∀ v H1, Ex H H1 → R v H1 → D.nx σ (upd H1 l (.lst (xs ++ [v])))) :
    tDrop (tBM K "list" rAppend ta (tCons te tNil)) D σ H := ha H (Ex.refl H) _ fun H1 e1 =>
  ⟨Or.inl ⟨rfl, xs, sq_of (e1 l _ hl)⟩, h H1 e1 _ fun v H2 e2 r => ⟨l, xs, v, rfl, rfl, (e1.trans e2) l _ hl, sz_lt hz, k v H2 (e1.trans e2) r⟩⟩
theorem q_appR {l : Addr} {xs : List V} {R : V → Hp → Prop} (hl : H l = some (.lst xs)) (ha : Ev ta σ H (.ref l)) (h : EvR te σ H R) (hz : xs.length < 100000) (k : ∀ v H1, Ex H H1 → R v H1 → tz D σ (upd H1 l (.lst (xs ++ [v])))) :
    tSeq (tDrop (tBM K "list" rAppend ta (tCons te tNil))) tz D σ H := s_appR (D := { D with nx := tz D }) hl ha h hz k
/-- 2 + int(pick == 0) and alike -/
theorem ex_pickEq {i n : Nat} {m : Nat} (hi : σ[i]? = some (some (.ref dr))) (hd : DrAt dr H) (h1 : 1 ≤ n) (h2 : n ≤ 1000) : EvX dr (tOp (rI0 fun i j => .int (i + j)) (tC (.int (m : Nat))) (tCB (fun xs H Q => (∃ i, xs = [.int i] ∧ Q (.int i) H) ∨ ∃ k, xs = [.bl k] ∧ Q (.int (if k then 1 else 0)) H) (tCons (tOp rEq (tCall (spPick K) [] E0 (tCons (tVar i) (tCons (tC (.int (n : Nat))) tNil))) (tC (.int 0))) tNil))) σ H (fun v _ => ∃ r : Nat, v = .int (r : Nat) ∧ m ≤ r ∧ r ≤ m + 1) := fun H1 e Q q =>
  ex_pick (K := K) hi ev_c hd h1 h2 H1 e _ fun v H2 x d hv => by
    obtain ⟨r, rfl, hr⟩ := hv
    refine ⟨rfl, .inr ⟨_, rfl, (m : Nat), _, rfl, rfl, ?_⟩⟩
    by_cases hz : (V.int (r : Nat) : V) = .int 0
    · rw [decide_eq_true hz]
      exact q _ H2 x d ⟨m + 1, rfl, by omega, by omega⟩
    · rw [decide_eq_false hz]
      exact q _ H2 x d ⟨m, by simp, by omega, by omega⟩
theorem ex_pickAdd {i n : Nat} {m : Nat} (hi : σ[i]? = some (some (.ref dr))) (hd : DrAt dr H) (h1 : 1 ≤ n) (h2 : n ≤ 1000) : EvX dr (tOp (rI0 fun i j => .int (i + j)) (tC (.int (m : Nat))) (tCall (spPick K) [] E0 (tCons (tVar i) (tCons (tC (.int (n : Nat))) tNil)))) σ H (fun v _ => ∃ r : Nat, v = .int (r : Nat) ∧ m ≤ r ∧ r < m + n) := fun H1 e Q q =>
  ex_pick (K := K) hi ev_c hd h1 h2 H1 e _ fun v H2 x d hv => by
    obtain ⟨r, rfl, hr⟩ := hv
    exact ⟨(m : Nat), (r : Nat), rfl, rfl, q _ H2 x d ⟨m + r, rfl, by omega, by omega⟩⟩
/-- a test that may shorten the draws -/
def EvTX (dr : Addr) (tt : TT) (σ : L2.St) (H : Hp) : Prop := ∀ H1, Ex H H1 → ∀ Q : Bool → Hp → Prop, (∀ b H2, Xd dr H1 H2 → DrAt dr H2 → Q b H2) → tt σ H1 Q
theorem etX_or {b : Bool} {u : TT} (h : EvT t σ H b) (hd : DrAt dr H) (h2 : EvTX dr u σ H) : EvTX dr (tOr t u) σ H := fun H1 e Q q => h H1 e _ fun H2 e2 => by
  cases b with
  | true => exact q true H2 (Xd.ofEx e2) (hd.ex (e.trans e2))
  | false => exact h2 H2 (e.trans e2) Q fun b H3 x d => q b H3 ((Xd.ofEx e2).trans x) d
theorem etX_pick {i n : Nat} (hi : σ[i]? = some (some (.ref dr))) (hd : DrAt dr H) (h1 : 1 ≤ n) (h2 : n ≤ 1000) : EvTX dr (tTest (tOp rEq (tCall (spPick K) [] E0 (tCons (tVar i) (tCons (tC (.int (n : Nat))) tNil))) (tC (.int 0)))) σ H := fun H1 e Q q =>
  ex_pick (K := K) hi ev_c hd h1 h2 H1 e _ fun v H2 x d hv => by
    obtain ⟨r, rfl, hr⟩ := hv
    exact ⟨rfl, _, rfl, q _ H2 x d⟩
theorem s_whenX (h : EvTX dr t σ H) (h1 : ∀ H1, Xd dr H H1 → DrAt dr H1 → tu D σ H1) (h2 : ∀ H1, Xd dr H H1 → DrAt dr H1 → D.nx σ H1) : tIfS t tu tNext D σ H := h H (Ex.refl H) _ fun b H1 x d => by
  cases b with
  | true => exact h1 H1 x d
  | false => exact h2 H1 x d
end
section
variable {P : Program} {w : World} {K : PySem.W.Frag} {mg : Str → Option Value} {base : Heap} {M : Mach} {H : Hp} {mv av : V} {E : XK} {dr : Addr}
theorem sc__law_machine : FnScope ["_law_draws_here", "_law_k", "_law_states", "_law_s", "_law_rows", "_law_kind", "_law_x", "_law_at", "_law_changed", "_law_out", "_law_following"] ["_law_draws_here"] (defScope s__law_machine) := ⟨rfl, rfl, rfl, by decide +kernel, rfl, by decide +kernel, by decide +kernel⟩
theorem ok__law_machine (T : Tx K mg) : FnOk P w K mg base CX0 4 (He.fAd K d__law_machine.at_) (fdO K d__law_machine) ["_law_draws_here"] (spLMach K) := by
  refine (F__law_machine T).ok sc__law_machine (fun vs H Q E h => ?_) (fun cdv A outer s H vs Q E hr h => ?_)
  · obtain ⟨_, rfl, _⟩ := h
    rfl
  · obtain ⟨dr, rfl, hd, k⟩ := h
    refine ⟨_, PSs.nox (pss_cons (ps_set (i := 1) sc__law_machine.nd rfl (.inr rfl) (pe_op op_add pe_int (pe_callTy call_int1 (by rfl) (B_int T) (by decide +kernel) (pa_cons (pe_cmpR op_eq (pe_call (ok__law_pick T) (hr.mono (by decide)) rfl (T__law_pick T) (F__law_pick T).kp (b__law_pick T) .nil pass0 (pa_cons (pv 0) (pa_cons pe_int pa_nil))) pe_int (nomark _)) pa_nil))))
      (pss_cons (ps_set (i := 2) sc__law_machine.nd rfl (.inr rfl) (pe_op op_add pe_int (pe_call (ok__law_pick T) (hr.mono (by decide)) rfl (T__law_pick T) (F__law_pick T).kp (b__law_pick T) .nil pass0 (pa_cons (pv 0) (pa_cons pe_int pa_nil)))))
      (pss_cons (ps_setLc (i := 4) (own := [("_law_s", 3)]) rfl sc__law_machine.nd rfl rfl (sw_true rfl rfl rfl (by decide +kernel)) (pi_range1 rfl (B_range T) (pa_cons (pv 2) pa_nil)) (blkOk_by (own := [("_law_s", 3)]) (N := ["_law_draws_here", "_law_k", "_law_states", "_law_s", "_law_rows", "_law_kind", "_law_x", "_law_at", "_law_changed", "_law_out", "_law_following"]) (sc := defScope s__law_machine) (by decide +kernel)) (fun _ _ _ _ _ => (pg_name (i := 3) sc__law_machine.nd rfl (by first | exact Or.inl rfl | exact Or.inr rfl))) (fun _ _ _ _ _ => pts_nil) (fun _ _ _ _ _ => (pe_call (ok__law_row T) hr rfl (T__law_row T) (F__law_row T).kp (b__law_row T) .nil pass0 (pa_cons (pv 0) (pa_cons (pv 1) (pa_cons (pv 2) pa_nil))))))
      (pss_cons (ps_set (i := 5) sc__law_machine.nd rfl (.inl rfl) (pe_call (ok__law_pick T) (hr.mono (by decide)) rfl (T__law_pick T) (F__law_pick T).kp (b__law_pick T) .nil pass0 (pa_cons (pv 0) (pa_cons pe_int pa_nil))))
      (pss_cons (ps_if (pt_cmpR op_gt (pv 5) pe_int (nomark _)) (pss_cons (ps_expr (pe_bmK (K := K) rfl PySem.F.plainAttrs_list PySem.F.slot_list_append PySem.F.type_list_append mt_append (pv 4) (pa_cons (pe_callTy (call_tuple_ofK (K := K) rfl) (by rfl) (B_tuple T) (by decide +kernel) (pa_cons (pe_lc (own := [("_law_x", 6)]) rfl sc__law_machine.nd (pi_range1 rfl (B_range T) (pa_cons (pv 1) pa_nil)) (blkOk_by (own := [("_law_x", 6)]) (N := ["_law_draws_here", "_law_k", "_law_states", "_law_s", "_law_rows", "_law_kind", "_law_x", "_law_at", "_law_changed", "_law_out", "_law_following"]) (sc := defScope s__law_machine) (by decide +kernel)) (fun _ _ _ _ _ => (pg_name (i := 6) sc__law_machine.nd rfl (by first | exact Or.inl rfl | exact Or.inr rfl))) (fun _ _ _ _ _ => pts_nil) (fun _ _ _ _ _ => (pe_tup (pa_cons (pv 6) (pa_cons (pv 2) pa_nil))))) pa_nil)) pa_nil)))
      (pss_one (ps_for PassesOwn.never rfl (pi_range1 rfl (B_range T) (pa_cons (pv 2) pa_nil)) (pg_name (i := 3) sc__law_machine.nd rfl (by first | exact Or.inl rfl | exact Or.inr rfl)) (pss_cons (ps_set (i := 7) sc__law_machine.nd rfl (.inl rfl) (pe_call (ok__law_pick T) (hr.mono (by decide)) rfl (T__law_pick T) (F__law_pick T).kp (b__law_pick T) .nil pass0 (pa_cons (pv 0) (pa_cons (pv 1) pa_nil))))
      (pss_cons (ps_set (i := 8) sc__law_machine.nd rfl (.inl rfl) (pe_lst pa_nil))
      (pss_cons (ps_for PassesOwn.never rfl (pi_range1 rfl (B_range T) (pa_cons (pv 1) pa_nil)) (pg_name (i := 6) sc__law_machine.nd rfl (by first | exact Or.inl rfl | exact Or.inr rfl)) (pss_cons (ps_asg (pe_ix (ix_tupK (K := K) rfl) (pe_ix (ix_listK (K := K) rfl) (pv 4) (pv 3) (fun _ _ => rfl)) (pv 6) (fun _ _ => rfl)) (pg_tupK (K := K) (n := 2) rfl rfl (pgs_cons (pg_name (i := 9) sc__law_machine.nd rfl (by first | exact Or.inl rfl | exact Or.inr rfl)) (pgs_cons (pg_name (i := 10) sc__law_machine.nd rfl (by first | exact Or.inl rfl | exact Or.inr rfl)) pgs_nil))))
      (pss_cons (ps_if (PW.pt (pw_or (pt_cmpR op_ne (pv 6) (pv 7) (nomark _)) (pw_or1 (pt_cmpR op_eq (pv 5) pe_int (nomark _))))) (pss_one (ps_set (i := 10) sc__law_machine.nd rfl (.inl rfl) (pv 2))) pss_nil)
      (pss_cons (ps_if (PW.pt (pw_and (pt_cmpR op_eq (pv 6) (pv 7) (nomark _)) (pw_and1 (pt_cmpR op_eq (pv 5) pe_int (nomark _))))) (pss_one (ps_set (i := 10) sc__law_machine.nd rfl (.inl rfl) (pv 3))) pss_nil)
      (pss_one (ps_expr (pe_bmK (K := K) rfl PySem.F.plainAttrs_list PySem.F.slot_list_append PySem.F.type_list_append mt_append (pv 8) (pa_cons (pe_tup (pa_cons (pv 9) (pa_cons (pv 10) pa_nil))) pa_nil))))))))
      (pss_one (ps_if (PW.pt (pw_or (pt_cmpR op_lt (pv 5) pe_int (nomark _)) (pw_or1 (pt_cmpR op_eq (pe_call (ok__law_pick T) (hr.mono (by decide)) rfl (T__law_pick T) (F__law_pick T).kp (b__law_pick T) .nil pass0 (pa_cons (pv 0) (pa_cons pe_int pa_nil))) pe_int (nomark _))))) (pss_one (ps_asg (pe_callTy (call_tuple_ofK (K := K) rfl) (by rfl) (B_tuple T) (by decide +kernel) (pa_cons (pv 8) pa_nil)) (pg_sub (pv 4) (pv 3) set_list))) pss_nil)))))))) pss_nil)
      (pss_one (ps_ret (pe_tup (pa_cons (pv 1) (pa_cons (pe_callTy (call_tuple_ofK (K := K) rfl) (by rfl) (B_tuple T) (by decide +kernel) (pa_cons (pv 4) pa_nil)) pa_nil)))))))))), ?_⟩
    refine q_asgX (ex_pickEq (m := 2) (n := 4) rfl hd (by decide) (by decide)) fun v H1 x1 d1 hv => ?_
    obtain ⟨kk, rfl, hk2, hk3⟩ := hv
    refine q_asgX (ex_pickAdd (m := 1) (n := 3) rfl d1 (by decide) (by decide)) fun v H2 x2 d2 hv => ?_
    obtain ⟨n, rfl, hn1, hn4⟩ := hv
    have X2 := x1.trans x2
    refine q_asgX (ex_lcP (N := n) (Pn := fun m => m = n) (R := fun y H' => ∃ r, ROk kk n r ∧ RowR y r H') (fun v Ha Hb x d ⟨r, a, b⟩ => ⟨r, a, b.xd x d⟩) (fun v Ha Dl acc acc' hD ⟨r, a, b⟩ => ⟨r, a, b.kt (KT.lst hD)⟩) (fun H3 e3 Q3 q3 => ⟨_, rfl, q3 n H3 (Nat.le_refl n) rfl (Xd.refl _ _) (d2.ex e3)⟩) (by omega) (fun i H3 x3 d3 => ex_call (ea_cons (ev_var rfl) (ea_cons (ev_var rfl) (ea_cons (ev_var rfl) ea_nil))) (fun H4 e4 Q4 q4 _ => ⟨dr, kk, n, rfl, d3.ex e4, hk2, hk3, hn1, by omega, fun r v H5 a b c x5 d5 => q4 v H5 x5 d5 ⟨r, ⟨a, b⟩, c⟩⟩))) fun v H3 x3 d3 hv => ?_
    obtain ⟨p, vs, rfl, hpd, hp2, hp, _, hvl, hvs⟩ := hv
    obtain ⟨Rs, hRs, hRok⟩ := rows_of hvs
    have hRl : Rs.length = n := by rw [← Paired.len hRs]; exact hvl
    have X3 := X2.trans x3
    have hp0 : H p = none := xfresh X2 hpd hp2
    refine q_asgX (ex_pick (n := 4) rfl ev_c d3 (by decide) (by decide)) fun v H4 x4 d4 hv => ?_
    obtain ⟨kd', rfl, hkd⟩ := hv
    have X4 := X3.trans x4
    have hp4 := x4 _ _ hp hpd
    have hRs4 := hRs.xd x4 d3
    -- the end, whatever the rows are
    have fin : ∀ (c3 c6 c7 c8 c9 c10 : Option V) (H9 : Hp) (vs' : List V) (Rs' : List (List (Nat × Nat))) (m : Nat), Xd dr H H9 → DrAt dr H9 → H9 p = some (.lst vs') → RowsAt H9 vs' Rs' → Rs'.length = m → 1 ≤ m → m ≤ 4 → (∀ r ∈ Rs', ROk kk m r) →
        tRet (tTup (tCons (tVar 1) (tCons (tCB (fun xs H Q => ∃ p ys, xs = [.ref p] ∧ ((SqL K H p ys ∧ ∀ l, H l = none → Q (.ref l) (upd H l (.tup ys))) ∨ (SqT K H p ys ∧ Q (.ref p) H))) (tCons (tVar 4) tNil)) tNil))) { nx := fun x H' => Q V.non H', rt := Q } [some (.ref dr), some (.int (kk : Nat)), some (.int (n : Nat)), c3, some (.ref p), some (.int (kd' : Nat)), c6, c7, c8, c9, c10] H9 := by
      intro c3 c6 c7 c8 c9 c10 H9 vs' Rs' m X9 d9 h9 hR9 hl9 hm1 hm4 hok9
      refine s_retR (R := fun v H' => ∃ q y, v = .ref q ∧ H' q = some (.tup [.int (kk : Nat), y]) ∧ ∃ t, y = .ref t ∧ H' t = some (.tup vs')) (er_tup2 (R := fun y H' => ∃ t, y = .ref t ∧ H' t = some (.tup vs')) (fun y Ha Hb e ⟨t, a, b⟩ => ⟨t, a, e _ _ b⟩) (ev_var rfl) (EvU.toR (eu_tupleP (ev_var rfl) h9))) fun v H10 e10 hv => ?_
      obtain ⟨q, y, rfl, hq, t, rfl, ht⟩ := hv
      exact k ⟨kk, Rs'⟩ (.ref q) H10 (mach_ok ⟨hk2, hk3⟩ ⟨hm1, hm4⟩ hl9 hok9) ⟨q, t, vs', rfl, st_of hq, st_of ht, Paired.imp (fun _ _ h => RowR.at h) (hR9.kt (.ofEx e10))⟩ (X9.trans (Xd.ofEx e10)) (d9.ex e10)
    refine q_when (et_test (ev_gt (ev_var rfl) ev_c)) (fun hb H5 e5 => ?_) (fun hb H5 e5 => ?_)
    · have X5 := X4.trans (Xd.ofEx e5)
      have d5 := d4.ex e5
      refine q_appR (e5 _ _ hp4) (ev_var rfl) (er_tupleLR (n := ((kk : Nat) : Int).toNat) (R := fun i => TupR [.int (i : Nat), .int (n : Nat)]) (fun _ => stb_tup _) (lr_R _ (fun _ => stb_tup _) (ea_cons (ev_var rfl) ea_nil) (by omega) (fun i H6 e6 hi => EvU.tupR (eu_tup (ea_cons (ev_var rfl) (ea_cons (ev_var rfl) ea_nil)) le2)))) (by omega) fun v H6 e6 hv => ?_
      have ek : ((kk : Nat) : Int).toNat = kk := by omega
      rw [ek] at hv
      have hp6 := (e5.trans e6) _ _ hp4
      have kt6 : KT H6 (upd H6 p (.lst (vs ++ [v]))) := KT.lst hp6
      have hrest : RowR v ((List.range kk).map fun i => (i, n)) H6 := by
        obtain ⟨t, ys, rfl, ht, hP⟩ := hv
        refine ⟨t, ys, rfl, ht, ?_⟩
        have : ∀ {L : List Nat} {ys : List V}, Paired (fun i y => TupR [.int (i : Nat), .int (n : Nat)] y H6) L ys → Paired (fun x (e : Nat × Nat) => TupR [.int (e.1 : Nat), .int (e.2 : Nat)] x H6) ys (L.map fun i => (i, n)) := fun {L ys} h => by
          induction h with
          | nil => exact .nil
          | cons a _ ih => exact .cons a ih
        exact this hP
      have hrok : ROk kk (n + 1) ((List.range kk).map fun i => (i, n)) := by
        refine ⟨?_, fun e he => ?_⟩
        · rw [List.map_map]
          have : (((fun x : Nat × Nat => x.1) ∘ fun i => (i, n)) : Nat → Nat) = id := rfl
          rw [this, List.map_id]
        · obtain ⟨i, _, rfl⟩ := List.mem_map.mp he
          exact Nat.lt_succ_self n
      have X6 : Xd dr H (upd H6 p (.lst (vs ++ [v]))) := Xd.mut (X5.trans (Xd.ofEx e6)) hp0
      have d6 : DrAt dr (upd H6 p (.lst (vs ++ [v]))) := (d5.ex e6).upd hpd
      have hRs6 : RowsAt (upd H6 p (.lst (vs ++ [v]))) (vs ++ [v]) (Rs ++ [(List.range kk).map fun i => (i, n)]) := Paired.snoc ((hRs4.kt (.ofEx (e5.trans e6))).kt kt6) (hrest.kt kt6)
      refine s_forR1 (n := (n : Nat)) (ea_cons (ev_var rfl) ea_nil) (by omega) (fun i σ' H' => ∃ (vs' : List V) (Rs' : List (List (Nat × Nat))) (c3 c6 c7 c8 c9 c10 : Option V), σ' = [some (.ref dr), some (.int (kk : Nat)), some (.int (n : Nat)), c3, some (.ref p), some (.int (kd' : Nat)), c6, c7, c8, c9, c10] ∧ Xd dr H H' ∧ DrAt dr H' ∧ H' p = some (.lst vs') ∧ RowsAt H' vs' Rs' ∧ Rs'.length = n + 1 ∧ ∀ r ∈ Rs', ROk kk (n + 1) r) (fun H7 e7 => ⟨_, _, _, _, _, _, _, _, rfl, X6.trans (Xd.ofEx e7), d6.ex e7, e7 _ _ upd_same, hRs6.kt (.ofEx e7), by simp [hRl], fun r hr => ?_⟩) ?_ ?_
      · rcases List.mem_append.mp hr with z | z
        · exact (hRok r z).mono (by omega)
        · simp at z
          subst z
          exact hrok
      · rintro i σ' H7 hi ⟨vs', Rs', c3, c6, c7, c8, c9, c10, rfl, x7, d7, h7, hR7, hl7, hok7⟩
        refine q_asgX (ex_pick (n := kk) rfl (ev_var rfl) d7 (by omega) (by omega)) fun v H8 x8 d8 hv => ?_
        obtain ⟨at', rfl, hat⟩ := hv
        have X8 := x7.trans x8
        have h8 := x8 _ _ h7 hpd
        have hR8 := hR7.xd x8 d7
        have hiv : i < Rs'.length := by omega
        obtain ⟨r, hr⟩ : ∃ r, Rs'[i]? = some r := ⟨_, List.getElem?_eq_getElem hiv⟩
        obtain ⟨vr, hvr, hrow⟩ := Paired.get hR8 hr
        have hrk := hok7 r (List.mem_of_getElem? hr)
        have hrl : r.length = kk := by
          have := hrk.1.length_eq
          simpa using this
        refine q_asgL (el_lst ea_nil le0) fun c H9 hc e9 h9 => ?_
        have hcd := d8.ne hc
        have hcp : c ≠ p := fun z => by rw [z, h8] at hc; cases hc
        have hc0 := xfresh X8 hcd hc
        have X9 := X8.trans (Xd.ofEx e9)
        refine q_forR1 (n := (kk : Nat)) (ea_cons (ev_var rfl) ea_nil) (by omega) (fun x σ' H' => ∃ (cs : List (Nat × Nat)) (ys : List V) (c6 c9 c10 : Option V), σ' = [some (.ref dr), some (.int (kk : Nat)), some (.int (n : Nat)), some (.int (i : Nat)), some (.ref p), some (.int (kd' : Nat)), c6, some (.int (at' : Nat)), some (.ref c), c9, c10] ∧ Xd dr H H' ∧ DrAt dr H' ∧ H' p = some (.lst vs') ∧ RowsAt H' vs' Rs' ∧ H' c = some (.lst ys) ∧ Paired (fun v (e : Nat × Nat) => TupR [.int (e.1 : Nat), .int (e.2 : Nat)] v H') ys cs ∧ cs.map (·.1) = (r.take x).map (·.1) ∧ ∀ e ∈ cs, e.2 < n + 1) (fun H10 e10 => ⟨[], [], _, _, _, rfl, X9.trans (Xd.ofEx e10), (d8.ex e9).ex e10, (e9.trans e10) _ _ h8, hR8.kt (.ofEx (e9.trans e10)), e10 _ _ h9, .nil, by simp, fun e he => by simp at he⟩) ?_ ?_
        · rintro x σ' H10 hx ⟨cs, ys, c6, c9, c10, rfl, x10, d10, h10, hR10, h10c, hP10, hcm, hcn⟩
          have hx' : x < r.length := by omega
          obtain ⟨e, he⟩ : ∃ e, r[x]? = some e := ⟨_, List.getElem?_eq_getElem hx'⟩
          obtain ⟨vr', hvr', pr, vsr, rfl, hpr, hPr⟩ := Paired.get hR10 hr
          obtain ⟨ve, hve, q, rfl, hq⟩ := Paired.get hPr he
          refine q_unT (ev_ixT (ev_ixL (ev_var rfl) (ev_var rfl) (sq_of h10) (atI_nat hvr')) (ev_var rfl) (st_of hpr) (atI_nat hve)) (st_of hq) fun H11 e11 => ?_
          have hen : e.2 < n + 1 := hrk.2 e (List.mem_of_getElem? he)
          obtain ⟨b1, hb1⟩ : ∃ b1, ((!decide (V.int (x : Nat) = V.int (at' : Nat))) || decide (V.int (kd' : Nat) = V.int 3)) = b1 := ⟨_, rfl⟩
          obtain ⟨f1, hf1⟩ : ∃ f1 : Nat, f1 = if b1 = true then n else e.2 := ⟨_, rfl⟩
          have hf1n : f1 < n + 1 := by
            rw [hf1]
            split <;> omega
          refine q_ifAsg (b := b1) (v := .int (f1 : Nat)) (et_is (et_or (et_ne (ev_var rfl) (ev_var rfl) rfl) (fun _ => et_eq (ev_var rfl) ev_c rfl)) hb1) (fun hb => ev_is (ev_var rfl) (by rw [hf1, if_pos hb])) (fun hb => by rw [hf1, if_neg (by rw [hb]; decide)]; rfl) fun H12 e12 => ?_
          obtain ⟨b2, hb2⟩ : ∃ b2, (decide (V.int (x : Nat) = V.int (at' : Nat)) && decide (V.int (kd' : Nat) = V.int 1)) = b2 := ⟨_, rfl⟩
          obtain ⟨f2, hf2⟩ : ∃ f2 : Nat, f2 = if b2 = true then i else f1 := ⟨_, rfl⟩
          have hf2n : f2 < n + 1 := by
            rw [hf2]
            split <;> omega
          refine q_ifAsg (b := b2) (v := .int (f2 : Nat)) (et_is (et_and (et_eq (ev_var rfl) (ev_var rfl) rfl) (fun _ => et_eq (ev_var rfl) ev_c rfl)) hb2) (fun hb => ev_is (ev_var rfl) (by rw [hf2, if_pos hb])) (fun hb => by rw [hf2, if_neg (by rw [hb]; decide)]; rfl) fun H13 e13 => ?_
          have e1013 := (e11.trans e12).trans e13
          have hyl : ys.length = x := by
            have h1 := Paired.len hP10
            have h2 := congrArg List.length hcm
            simp at h2
            omega
          have h13c := e1013 _ _ h10c
          refine s_appU (ys := [.int (e.1 : Nat), .int (f2 : Nat)]) h13c (ev_var rfl) (eu_tup (ea_cons (ev_var rfl) (ea_cons (ev_var rfl) ea_nil)) le2) (by omega) fun t H14 ht e14 h14 => ?_
          have e1014 := e1013.trans e14
          have h14c := e14 _ _ h13c
          have kt14 : KT H14 (upd H14 c (.lst (ys ++ [.ref t]))) := KT.lst h14c
          have kt10 : KT H10 (upd H14 c (.lst (ys ++ [.ref t]))) := (KT.ofEx e1014).trans kt14
          refine ⟨cs ++ [(e.1, f2)], ys ++ [.ref t], _, _, _, rfl, Xd.mut (x10.trans (Xd.ofEx e1014)) hc0, (d10.ex e1014).upd hcd, ?_, hR10.kt kt10, upd_same, Paired.snoc (Paired.imp (fun _ _ => TupR.kt kt10) hP10) ⟨t, rfl, kt14 _ _ h14⟩, ?_, fun z hz => ?_⟩
          · rw [upd_ne (Ne.symm hcp)]
            exact e1014 _ _ h10
          · rw [take_succ he, List.map_append, List.map_append, hcm]
            rfl
          · rcases List.mem_append.mp hz with z1 | z1
            · exact hcn z z1
            · simp at z1
              subst z1
              exact hf2n
        · rintro σ' H10 ⟨cs, ys, c6, c9, c10, rfl, x10, d10, h10, hR10, h10c, hP10, hcm, hcn⟩
          have ek2 : ((kk : Nat) : Int).toNat = kk := by omega
          rw [ek2, List.take_of_length_le (by omega)] at hcm
          refine s_whenX (etX_or (et_test (ev_lt (ev_var rfl) ev_c)) d10 (etX_pick (n := 2) rfl d10 (by decide) (by decide))) (fun H11 x11 d11 => ?_) (fun H11 x11 d11 => ?_)
          · have h11 := x11 _ _ h10 hpd
            have h11c := x11 _ _ h10c hcd
            have hR11 := hR10.xd x11 d10
            have hvl' : vs'.length = Rs'.length := Paired.len hR11
            refine s_asgSub (j := i) (eu_tupleP (ev_var rfl) h11c) (ev_var rfl) (ev_var rfl) h11 (by omega) fun q H12 hq e12 h12 => ?_
            have h12p := e12 _ _ h11
            have kt12 : KT H12 (upd H12 p (.lst (vs'.set i (.ref q)))) := KT.lst h12p
            have kt11 : KT H11 (upd H12 p (.lst (vs'.set i (.ref q)))) := (KT.ofEx e12).trans kt12
            refine ⟨vs'.set i (.ref q), Rs'.set i cs, _, _, _, _, _, _, rfl, Xd.mut ((x10.trans x11).trans (Xd.ofEx e12)) hp0, (d11.ex e12).upd hpd, upd_same, Paired.set (hR11.kt kt11) ⟨q, ys, rfl, kt12 _ _ h12, Paired.imp (fun _ _ h => ((h.xd x11 d10).kt kt11)) hP10⟩, by rw [List.length_set]; exact hl7, fun z hz => ?_⟩
            rcases set_mem hz with z1 | z1
            · subst z1
              exact ⟨by rw [hcm]; exact hrk.1, hcn⟩
            · exact hok7 z z1
          · exact ⟨vs', Rs', _, _, _, _, _, _, rfl, x10.trans x11, d11, x11 _ _ h10 hpd, hR10.xd x11 d10, hl7, hok7⟩
      · rintro σ' H7 ⟨vs', Rs', c3, c6, c7, c8, c9, c10, rfl, x7, d7, h7, hR7, hl7, hok7⟩
        exact fin _ _ _ _ _ _ H7 vs' Rs' (n + 1) x7 d7 h7 hR7 hl7 (by omega) (by omega) hok7
    · exact fin _ _ _ _ _ _ H5 vs Rs n (X4.trans (Xd.ofEx e5)) (d4.ex e5) (e5 _ _ hp4) (hRs4.kt (.ofEx e5)) hRl hn1 (by omega) hRok
end
end LT

set_option Elab.async false
set_option linter.all false
set_option maxRecDepth 100000
set_option maxHeartbeats 4000000
/-! _law_is_directed, _law_directed -/
namespace LT
open PySem PySem.Spec PyProof.Rows L2 Evl
def pd (e : Nat × Nat) : PyData := .tuple [.int (e.1 : Nat), .int (e.2 : Nat)]
theorem eqvAll_pairs : ∀ (r s : List (Nat × Nat)), PyData.eqvAll (r.map pd) (s.map pd) = true → r = s
  | [], [], _ => rfl
  | [], _ :: _, h => by simp [PyData.eqvAll] at h
  | _ :: _, [], h => by simp [PyData.eqvAll] at h
  | a :: r, b :: s, h => by
    obtain ⟨a1, a2⟩ := a
    obtain ⟨b1, b2⟩ := b
    simp [pd, PyData.eqvAll, PyData.eqv] at h
    obtain ⟨⟨h1, h2⟩, h3⟩ := h
    have e1 : a1 = b1 := by omega
    have e2 : a2 = b2 := by omega
    rw [eqvAll_pairs r s h3, e1, e2]
theorem pd_shaped {r : List (Nat × Nat)} (h : r.length ≤ 3) : SeqAt.shaped (.tuple (r.map pd)) = true := by
  match r, h with
  | [], _ => rfl
  | [a], _ => rfl
  | [a, b], _ => rfl
  | [a, b, c], _ => rfl
  | _ :: _ :: _ :: _ :: _, h => exact absurd h (by simp)
section
variable {K : PySem.W.Frag} {σ : L2.St} {H H' : Hp} {ta tb te tf tx td ty tv tn : TE} {D : Ends} {tz tu tw : TS} {M : Mach} {g : TG} {dr : Addr} {t : TT}
theorem dp_pairs {vs : List V} {r : List (Nat × Nat)} (h : Paired (PairAt K H) vs r) : DpAll K H vs (r.map pd) := by
  induction h with
  | nil => exact .nil
  | cons a _ ih =>
    obtain ⟨p, rfl, hp⟩ := a
    exact .cons (.tup hp (.cons (.int _) (.cons (.int _) .nil))) ih
theorem ev_neRow {rv : V} {r : List (Nat × Nat)} {k n : Nat} (h1 : Ev ta σ H rv) (hr : RowAt K H rv r) (hl : r.length ≤ 3) (hk : k ≤ 3) (h2 : EvR tb σ H (fun v H' => ∃ p ys, v = .ref p ∧ H' p = some (.tup ys) ∧ Paired (fun i y => TupR [.int (i : Nat), .int (n : Nat)] y H') (List.range k) ys)) :
    ∃ b : Bool, (b = false → r = (List.range k).map fun i => (i, n)) ∧ Ev (tOp (rNeD K) ta tb) σ H (.bl b) := by
  refine ⟨!PyData.eqv (.tuple (r.map pd)) (.tuple (((List.range k).map fun i => (i, n)).map pd)), fun hb => ?_, fun H1 e Q q => h1 H1 e _ fun H2 e2 => h2 H2 (e.trans e2) _ fun v H3 e3 hv => ?_⟩
  · have h3 : PyData.eqv (.tuple (r.map pd)) (.tuple (((List.range k).map fun i => (i, n)).map pd)) = true := by simpa using hb
    rw [PyData.eqv] at h3
    exact eqvAll_pairs _ _ h3
  · obtain ⟨p, ys, rfl, hp, hP⟩ := hv
    obtain ⟨pr, vs, rfl, a1, a2⟩ := ex_row ((e.trans e2).trans e3) hr
    have hP2 : ∀ {L : List Nat} {ys : List V}, Paired (fun i y => TupR [.int (i : Nat), .int (n : Nat)] y H3) L ys → Paired (PairAt K H3) ys (L.map fun i => (i, n)) := fun {L ys} h => by
      induction h with
      | nil => exact .nil
      | cons a _ ih =>
        obtain ⟨q, b1, b2⟩ := a
        exact .cons ⟨q, b1, st_of b2⟩ ih
    exact ⟨_, _, .tup a1 (dp_pairs a2), .tup (st_of hp) (dp_pairs (hP2 hP)), pd_shaped hl, pd_shaped (by simp; exact hk), q H3 (e2.trans e3)⟩
theorem er_t2 {R1 R2 : V → Hp → Prop} (h1s : ∀ v Ha Hb, Ex Ha Hb → R1 v Ha → R1 v Hb) (h2s : ∀ v Ha Hb, Ex Ha Hb → R2 v Ha → R2 v Hb) (h1 : EvR ta σ H R1) (h2 : EvR tb σ H R2) : EvR (tTup (tCons ta (tCons tb tNil))) σ H (fun v H' => ∃ p x y, v = .ref p ∧ H' p = some (.tup [x, y]) ∧ R1 x H' ∧ R2 y H') := fun H1 e Q q =>
  h1 H1 e _ fun x H2 e2 r1 => h2 H2 (e.trans e2) _ fun y H3 e3 r2 => ⟨sz_of le2, fun p hp => q _ _ ((e2.trans e3).trans (Ex.new hp)) ⟨p, x, y, rfl, upd_same, h1s x _ _ (e3.trans (Ex.new hp)) r1, h2s y _ _ (Ex.new hp) r2⟩⟩
theorem er_row2 {e1 e2 : Nat × Nat} (h1 : EvU ta σ H [.int (e1.1 : Nat), .int (e1.2 : Nat)]) (h2 : EvU tb σ H [.int (e2.1 : Nat), .int (e2.2 : Nat)]) : EvR (tTup (tCons ta (tCons tb tNil))) σ H (fun v H' => RowR v [e1, e2] H') :=
  (er_t2 (fun v Ha Hb e h => h.kt (.ofEx e)) (fun v Ha Hb e h => h.kt (.ofEx e)) (EvU.tupR h1) (EvU.tupR h2)).imp fun v H1 _ ⟨p, x, y, a, b, c, d⟩ => ⟨p, [x, y], a, b, .cons c (.cons d .nil)⟩
end
def spIsDir (K : PySem.W.Frag) : Sp := fun vs H Q _ => ∃ (M : Mach) (mv : V), vs = [mv] ∧ M.Ok ∧ MachAt K H mv M ∧ ∀ b : Bool, (b = true → Directed M) → RetV (.bl b) H Q
def spDirected (K : PySem.W.Frag) : Sp := fun vs H Q _ => ∃ (dr : Addr), vs = [.ref dr] ∧ DrAt dr H ∧ ∀ (M : Mach) v H2, Directed M → MachAt K H2 v M → Xd dr H H2 → DrAt dr H2 → Q v H2
theorem fall_ok {o : Nat} (h : o < 2) : Directed ⟨2, [[(o, 0), (1 - o, 1)], [(0, 1), (1, 1)]]⟩ := by
  have ho : o = 0 ∨ o = 1 := by omega
  refine ⟨⟨Nat.le_refl 2, by show 2 ≤ 3; decide, by show 1 ≤ 2; decide, by show 2 ≤ 4; decide, fun r hr => ?_, fun r hr e he => ?_⟩, fun x hx => ?_, fun s hs x y hx hy h1 h2 => ?_⟩
  · simp at hr
    rcases hr with rfl | rfl
    · rcases ho with rfl | rfl
      · exact List.Perm.refl _
      · exact List.Perm.swap 0 1 []
    · exact List.Perm.refl _
  · simp at hr
    show e.2 < 2
    rcases hr with rfl | rfl
    · simp at he
      rcases he with rfl | rfl <;> simp
    · simp at he
      rcases he with rfl | rfl <;> simp
  · have : x = 0 ∨ x = 1 := by
      have : x < 2 := hx
      omega
    rcases this with rfl | rfl <;> rfl
  · have hs0 : s = 0 := by
      have : s < 1 := hs
      omega
    subst hs0
    have hx' : x = 0 ∨ x = 1 := by
      have : x < 2 := hx
      omega
    have hy' : y = 0 ∨ y = 1 := by
      have : y < 2 := hy
      omega
    rcases hx' with rfl | rfl
    · rcases hy' with rfl | rfl
      · rfl
      · exact absurd rfl h2
    · exact absurd rfl h1
theorem one_of {f : Nat → Bool} {n : Nat} (h : ((List.range n).filter f).length ≤ 1) {x y : Nat} (hx : x < n) (hy : y < n) (fx : f x = true) (fy : f y = true) : x = y := by
  have h1 : x ∈ (List.range n).filter f := List.mem_filter.mpr ⟨List.mem_range.mpr hx, fx⟩
  have h2 : y ∈ (List.range n).filter f := List.mem_filter.mpr ⟨List.mem_range.mpr hy, fy⟩
  match hl : (List.range n).filter f with
  | [] => rw [hl] at h1; simp at h1
  | [a] =>
    rw [hl] at h1 h2
    simp at h1 h2
    rw [h1, h2]
  | a :: b :: r => rw [hl] at h; simp at h
section
variable {P : Program} {w : World} {K : PySem.W.Frag} {mg : Str → Option Value} {base : Heap} {M : Mach} {H : Hp} {mv av : V} {E : XK} {dr : Addr}
theorem sc__law_is_directed : FnScope ["_law_machine_here", "_law_rest", "_law_row_here", "_law_x", "_law_out", "_law_following"] ["_law_machine_here"] (defScope s__law_is_directed) := ⟨rfl, rfl, rfl, by decide +kernel, rfl, by decide +kernel, by decide +kernel⟩
theorem ok__law_is_directed (T : Tx K mg) : FnOk P w K mg base CX0 1 (He.fAd K d__law_is_directed.at_) (fdO K d__law_is_directed) ["_law_machine_here"] (spIsDir K) := by
  refine (F__law_is_directed T).ok sc__law_is_directed (fun vs H Q E h => ?_) (fun cdv A outer s H vs Q E hr h => ?_)
  · obtain ⟨_, _, rfl, _⟩ := h
    rfl
  · obtain ⟨M, mv, rfl, O, hm, k⟩ := h
    refine ⟨_, PSs.nox (pss_cons (ps_set (i := 1) sc__law_is_directed.nd rfl (.inr rfl) (pe_op op_sub (pe_callB (call_lenK (K := K) rfl) (by rfl) (B_len T) PySem.boot_len (pa_cons (pe_ix (ix_tupK (K := K) rfl) (pv 0) pe_int (fun _ _ => rfl)) pa_nil)) pe_int))
      (pss_cons (ps_if (pt_cmpR (op_neDK (K := K) rfl (hu64 hr)) (pe_ix (ix_tupK (K := K) rfl) (pe_ix (ix_tupK (K := K) rfl) (pv 0) pe_int (fun _ _ => rfl)) (pv 1) (fun _ _ => rfl)) (pe_callTy (call_tuple_ofK (K := K) rfl) (by rfl) (B_tuple T) (by decide +kernel) (pa_cons (pe_lc (own := [("_law_x", 3)]) rfl sc__law_is_directed.nd (pi_range1 rfl (B_range T) (pa_cons (pe_ix (ix_tupK (K := K) rfl) (pv 0) pe_int (fun _ _ => rfl)) pa_nil)) (blkOk_by (own := [("_law_x", 3)]) (N := ["_law_machine_here", "_law_rest", "_law_row_here", "_law_x", "_law_out", "_law_following"]) (sc := defScope s__law_is_directed) (by decide +kernel)) (fun _ _ _ _ _ => (pg_name (i := 3) sc__law_is_directed.nd rfl (by first | exact Or.inl rfl | exact Or.inr rfl))) (fun _ _ _ _ _ => pts_nil) (fun _ _ _ _ _ => (pe_tup (pa_cons (pv 3) (pa_cons (pv 1) pa_nil))))) pa_nil)) (nomark _)) (pss_one (ps_ret pe_bl)) pss_nil)
      (pss_cons (ps_for PassesOwn.never rfl (pi_tupK (K := K) rfl (pe_slice (sl_tupK (K := K) rfl) (pe_ix (ix_tupK (K := K) rfl) (pv 0) pe_int (fun _ _ => rfl)) po_none (po_some (pv 1)))) (pg_name (i := 2) sc__law_is_directed.nd rfl (by first | exact Or.inl rfl | exact Or.inr rfl)) (pss_one (ps_if (pt_cmpR op_gt (pe_callB (call_lenK (K := K) rfl) (by rfl) (B_len T) PySem.boot_len (pa_cons (pe_lc (own := [("_law_out", 4), ("_law_following", 5)]) rfl sc__law_is_directed.nd (pi_tupK (K := K) rfl (pv 2)) (blkOk_by (own := [("_law_out", 4), ("_law_following", 5)]) (N := ["_law_machine_here", "_law_rest", "_law_row_here", "_law_x", "_law_out", "_law_following"]) (sc := defScope s__law_is_directed) (by decide +kernel)) (fun _ _ _ _ _ => (pg_tupK (K := K) (n := 2) rfl rfl (pgs_cons (pg_name (i := 4) sc__law_is_directed.nd rfl (by first | exact Or.inl rfl | exact Or.inr rfl)) (pgs_cons (pg_name (i := 5) sc__law_is_directed.nd rfl (by first | exact Or.inl rfl | exact Or.inr rfl)) pgs_nil)))) (fun _ _ _ _ _ => (pts_one (pt_cmpR op_ne (pv 5) (pv 1) (nomark _)))) (fun _ _ _ _ _ => (pv 5))) pa_nil)) pe_int (nomark _)) (pss_one (ps_ret pe_bl)) pss_nil)))
      (pss_one (ps_ret pe_bl))))), ?_⟩
    have hn1 := O.n1
    have hn4 := O.n4
    have hk3 := O.k3
    obtain ⟨pm, R, vsR, rfl, hm2, hRs, hrows⟩ := hm
    have hm : MachAt K H (.ref pm) M := ⟨pm, R, vsR, rfl, hm2, hRs, hrows⟩
    have hlen := Paired.len hrows
    have hrst : M.rst < M.rows.length := by unfold Mach.rst; omega
    have eR := fun {H1 : Hp} {σ : L2.St} (h0 : σ[0]? = some (some (.ref pm))) (e : Ex H H1) => ev_ixT (K := K) (σ := σ) (H := H1) (ta := tVar 0) (tb := tC (.int 1)) (i := 1) (v := .ref R) (ev_var h0) ev_c (ex_t e hm2) rfl
    refine q_asg (v := .int (M.rst : Nat)) (ev_is (ev_sub (ev_lenT (eR rfl (Ex.refl _)) hRs) ev_c) (congrArg V.int (by unfold Mach.rst; rw [hlen]; omega))) fun H1 e1 => ?_
    obtain ⟨xr, hxr, hrr⟩ := ev_row (K := K) (H := H1) (σ := [some (.ref pm), some (.int (M.rst : Nat)), none, none, none, none]) (te := tVar 0) (tb := tVar 1) (ex_mach e1 hm) hrst (ev_var rfl) (ev_var rfl)
    have hrl : (M.row M.rst).length = M.k := O.row_len hrst
    obtain ⟨b, hb, hev⟩ := ev_neRow (K := K) (n := M.rst) (k := ((M.k : Nat) : Int).toNat) hxr hrr (by omega) (by omega) (er_tupleLR (R := fun i => TupR [.int (i : Nat), .int (M.rst : Nat)]) (fun _ => stb_tup _) (lr_R (te := tTup (tCons (tVar 3) (tCons (tVar 1) tNil))) (j := 3) _ (fun _ => stb_tup _) (ea_cons (ev_k (te := tVar 0) (ex_mach e1 hm) (ev_var rfl)) ea_nil) (by omega) (fun i H2 e2 hi => EvU.tupR (eu_tup (ea_cons (ev_var rfl) (ea_cons (ev_var rfl) ea_nil)) le2))))
    refine q_when (et_test hev) (fun _ H2 e2 => ?_) (fun hb2 H2 e2 => ?_)
    · exact s_ret ev_c fun H3 e3 => k false (fun z => by cases z) H3 ((e1.trans e2).trans e3)
    have hrest := hb hb2
    have ek : ((M.k : Nat) : Int).toNat = M.k := by omega
    rw [ek] at hrest
    have E2 := e1.trans e2
    have hcut : cutV vsR none (some ((M.rst : Nat) : Int)) = vsR.take M.rst := by
      unfold cutV
      rw [HT.sIx_none, HT.sIx_nat]
      simp
    have htl : (vsR.take M.rst).length = M.rst := by rw [List.length_take]; omega
    refine q_forTR (xs := vsR.take M.rst) (EvU.toR (by rw [← hcut]; exact eu_slT (eR rfl E2) eo_none (eo_some (ev_var rfl)) (ex_t E2 hRs) (by rw [HT.sIx_none, HT.sIx_nat]; omega))) (fun B i σ' H' => ∃ c2, σ' = [some (.ref pm), some (.int (M.rst : Nat)), c2, none, none, none] ∧ Ex H H' ∧ H' B = some (.tup (vsR.take M.rst)) ∧ ∀ s, s < i → ∀ x y, x < M.k → y < M.k → ((M.row s).getD x (0, 0)).2 ≠ M.rst → ((M.row s).getD y (0, 0)).2 ≠ M.rst → x = y) (fun B H3 e3 hB => ⟨_, rfl, E2.trans e3, hB, fun s hs => by omega⟩) (fun B i σ' H' _ ⟨_, _, _, h, _⟩ => st_of h) ?_ ?_
    · rintro B i x σ' H3 hx ⟨c2, rfl, e3, hB, hall⟩
      have hi : i < M.rst := by
        have := (List.getElem?_eq_some_iff.mp hx).1
        omega
      have hx' : vsR[i]? = some x := by
        rw [List.getElem?_take] at hx
        simpa [hi] using hx
      obtain ⟨r, hr, hrow0⟩ := Paired.getL hrows hx'
      have hri : M.row i = r := by
        have := M.row_get (s := i) (by omega)
        rw [hr] at this
        exact (Option.some.inj this).symm
      have hrl2 : r.length = M.k := row_len O (List.mem_of_getElem? hr)
      obtain ⟨pr, vsr, rfl, hr2, hr3⟩ := ex_row e3 hrow0
      have hvl := Paired.len hr3
      refine s_when (et_test (ev_gt (ev_lenNL (el_lcTP (fun n => !decide (V.int ((r.getD n (0, 0)).2 : Nat) = V.int (M.rst : Nat))) (fun n => .int ((r.getD n (0, 0)).2 : Nat)) (ev_var rfl) hr2 (row_pairs hr3) (by omega) (fun n e H4 e4 he => ?_) (fun n e H4 e4 he _ => ?_))) ev_c)) (fun _ H4 e4 => ?_) (fun hb4 H4 e4 => ?_)
      · rw [List.getElem?_map, Option.map_eq_some_iff] at he
        obtain ⟨ee, hee, rfl⟩ := he
        rw [getD_of hee]
        exact et_ne (ev_var rfl) (ev_var rfl) rfl
      · rw [List.getElem?_map, Option.map_eq_some_iff] at he
        obtain ⟨ee, hee, rfl⟩ := he
        rw [getD_of hee]
        exact ev_var rfl
      · exact s_ret ev_c fun H5 e5 => k false (fun z => by cases z) H5 ((e3.trans e4).trans e5)
      · refine ⟨_, rfl, e3.trans e4, e4 _ _ hB, fun s hs => ?_⟩
        by_cases q : s = i
        · subst q
          rw [hri]
          intro x y hx hy n1 n2
          unfold given at hb4
          rw [List.length_map, hvl, hrl2] at hb4
          have hle : ((List.range M.k).filter fun n => !decide (V.int ((r.getD n (0, 0)).2 : Nat) = V.int (M.rst : Nat))).length ≤ 1 := by
            have := of_decide_eq_false hb4
            omega
          refine one_of hle hx hy ?_ ?_
          · simp only [V.int.injEq, Bool.not_eq_true', decide_eq_false_iff_not]
            omega
          · simp only [V.int.injEq, Bool.not_eq_true', decide_eq_false_iff_not]
            omega
        · exact hall s (by omega)
    · rintro B σ' H3 ⟨c2, rfl, e3, hB, hall⟩
      rw [htl] at hall
      refine s_ret ev_c fun H4 e4 => k true (fun _ => ⟨O, fun x hx => ?_, hall⟩) H4 (e3.trans e4)
      rw [hrest, List.getElem?_map, List.getElem?_range hx]
      rfl
theorem sc__law_directed : FnScope ["_law_draws_here", "_law_machine_here", "_law_j", "_law_out"] ["_law_draws_here"] (defScope s__law_directed) := ⟨rfl, rfl, rfl, by decide +kernel, rfl, by decide +kernel, by decide +kernel⟩
theorem ok__law_directed (T : Tx K mg) : FnOk P w K mg base CX0 5 (He.fAd K d__law_directed.at_) (fdO K d__law_directed) ["_law_draws_here"] (spDirected K) := by
  refine (F__law_directed T).ok sc__law_directed (fun vs H Q E h => ?_) (fun cdv A outer s H vs Q E hr h => ?_)
  · obtain ⟨_, rfl, _⟩ := h
    rfl
  · obtain ⟨dr, rfl, hd, k⟩ := h
    refine ⟨_, PSs.nox (pss_cons (ps_set (i := 1) sc__law_directed.nd rfl (.inl rfl) (pe_call (ok__law_machine T) hr rfl (T__law_machine T) (F__law_machine T).kp (b__law_machine T) .nil pass0 (pa_cons (pv 0) pa_nil)))
      (pss_cons (ps_for PassesOwn.never rfl (pi_range1 rfl (B_range T) (pa_cons pe_int pa_nil)) (pg_name (i := 2) sc__law_directed.nd rfl (by first | exact Or.inl rfl | exact Or.inr rfl)) (pss_cons (ps_if (pt_val (pe_call (ok__law_is_directed T) (hr.mono (by decide)) rfl (T__law_is_directed T) (F__law_is_directed T).kp (b__law_is_directed T) .nil pass0 (pa_cons (pv 1) pa_nil))) (pss_one (ps_ret (pv 1))) pss_nil)
      (pss_one (ps_set (i := 1) sc__law_directed.nd rfl (.inl rfl) (pe_call (ok__law_machine T) hr rfl (T__law_machine T) (F__law_machine T).kp (b__law_machine T) .nil pass0 (pa_cons (pv 0) pa_nil))))))
      (pss_cons (ps_set (i := 3) sc__law_directed.nd rfl (.inl rfl) (pe_call (ok__law_pick T) (hr.mono (by decide)) rfl (T__law_pick T) (F__law_pick T).kp (b__law_pick T) .nil pass0 (pa_cons (pv 0) (pa_cons pe_int pa_nil))))
      (pss_one (ps_ret (pe_tup (pa_cons pe_int (pa_cons (pe_tup (pa_cons (pe_tup (pa_cons (pe_tup (pa_cons (pv 3) (pa_cons pe_int pa_nil))) (pa_cons (pe_tup (pa_cons (pe_op op_sub pe_int (pv 3)) (pa_cons pe_int pa_nil))) pa_nil))) (pa_cons (pe_tup (pa_cons (pe_tup (pa_cons pe_int (pa_cons pe_int pa_nil))) (pa_cons (pe_tup (pa_cons pe_int (pa_cons pe_int pa_nil))) pa_nil))) pa_nil))) pa_nil)))))))), ?_⟩
    have mk := fun {H1 : Hp} {σ : L2.St} (h0 : σ[0]? = some (some (.ref dr))) (d1 : DrAt dr H1) => ex_call (dr := dr) (sp := spLMach K) (dvs := []) (E := E0) (R := fun v H' => ∃ M, M.Ok ∧ MachAt K H' v M) (ta := tCons (tVar 0) tNil) (σ := σ) (H := H1) (ea_cons (ev_var h0) ea_nil) (fun H2 e2 Q2 q2 _ => ⟨dr, rfl, d1.ex e2, fun M v H3 O hm x d => q2 v H3 x d ⟨M, O, hm⟩⟩)
    refine q_asgX (mk rfl hd) fun v H1 x1 d1 hv => ?_
    obtain ⟨M1, O1, hm1⟩ := hv
    refine q_forR1 (n := 8) (ea_cons ev_c ea_nil) (by decide) (fun i σ' H' => ∃ (M : Mach) (v c : Option V) (mv : V), v = some mv ∧ σ' = [some (.ref dr), v, c, none] ∧ Xd dr H H' ∧ DrAt dr H' ∧ M.Ok ∧ MachAt K H' mv M) (fun H2 e2 => ⟨M1, _, _, v, rfl, rfl, x1.trans (Xd.ofEx e2), d1.ex e2, O1, ex_mach e2 hm1⟩) ?_ ?_
    · rintro i σ' H2 hi ⟨M, _, c, mv, rfl, rfl, x2, d2, O, hm⟩
      refine q_whenR (p := fun b => b = true → Directed M) (etR_B (er_call (ea_cons (ev_var rfl) ea_nil) (fun H3 e3 Q3 q3 _ => ⟨M, mv, rfl, O, ex_mach e3 hm, fun b hb H4 e4 => q3 _ H4 e4 ⟨b, rfl, hb⟩⟩))) (fun hp H3 e3 => ?_) (fun _ H3 e3 => ?_)
      · exact s_ret (ev_var rfl) fun H4 e4 => k M mv H4 (hp rfl) (ex_mach (e3.trans e4) hm) (x2.trans (Xd.ofEx (e3.trans e4))) (d2.ex (e3.trans e4))
      · refine s_asgX (mk rfl (d2.ex e3)) fun v H4 x4 d4 hv => ?_
        obtain ⟨M4, O4, hm4⟩ := hv
        exact ⟨M4, _, _, v, rfl, rfl, (x2.trans (Xd.ofEx e3)).trans x4, d4, O4, hm4⟩
    · rintro σ' H2 ⟨M, _, c, mv, rfl, rfl, x2, d2, O, hm⟩
      refine q_asgX (ex_pick (n := 2) rfl ev_c d2 (by decide) (by decide)) fun v H3 x3 d3 hv => ?_
      obtain ⟨o, rfl, ho⟩ := hv
      refine s_retR (er_tup2 (x := .int 2) (R := fun y H' => ∃ p x y', y = .ref p ∧ H' p = some (.tup [x, y']) ∧ RowR x [(o, 0), (1 - o, 1)] H' ∧ RowR y' [(0, 1), (1, 1)] H') (fun y Ha Hb e ⟨p, x, y', a, b, c, d⟩ => ⟨p, x, y', a, e _ _ b, c.kt (.ofEx e), d.kt (.ofEx e)⟩) ev_c (er_t2 (fun v Ha Hb e h => h.kt (.ofEx e)) (fun v Ha Hb e h => h.kt (.ofEx e)) (er_row2 (e1 := (o, 0)) (e2 := (1 - o, 1)) (eu_tup (ea_cons (ev_var rfl) (ea_cons ev_c ea_nil)) le2) (eu_tup (ea_cons (ev_is (ev_sub (i := 1) (j := ((o : Nat) : Int)) ev_c (ev_var rfl)) (congrArg V.int (by show (1 : Int) - (o : Int) = ((1 - o : Nat) : Int); omega))) (ea_cons ev_c ea_nil)) le2)) (er_row2 (e1 := (0, 1)) (e2 := (1, 1)) (eu_tup (ea_cons ev_c (ea_cons ev_c ea_nil)) le2) (eu_tup (ea_cons ev_c (ea_cons ev_c ea_nil)) le2)))) fun v H4 e4 hv => ?_
      obtain ⟨p, y, rfl, hp, p2, x, y', rfl, hp2, hr1, hr2⟩ := hv
      exact k _ (.ref p) H4 (fall_ok ho) ⟨p, p2, [x, y'], rfl, st_of hp, st_of hp2, .cons hr1.at (.cons hr2.at .nil)⟩ ((x2.trans x3).trans (Xd.ofEx e4)) (d3.ex e4)
end
end LT

set_option Elab.async false
set_option linter.all false
set_option maxRecDepth 100000
set_option maxHeartbeats 4000000
/-! _law_order, law -/
namespace LT
open PySem PySem.Spec PyProof.Rows L2 Evl
def spLOrder (K : PySem.W.Frag) : Sp := fun vs H Q _ => ∃ (M : Mach) (u : Wd) (mv : V), vs = [mv, .str (enc u)] ∧ M.Ok ∧ MachAt K H mv M ∧ Directed M ∧ WOk M u ∧ u.length ≤ 5 ∧
  ∀ an x H2, Ex H H2 → OAnsF (Al H) H2 x an → OAnsOk M an → (∀ n ws ss, an = .fin n ws ss → n ≤ 64) → Q x H2
def spLaw (K : PySem.W.Frag) : Sp := fun vs H Q _ => ∃ (a : Addr) (ns : List Int), vs = [.ref a] ∧ SqL K H a (ns.map V.int) ∧ ns.length ≤ 63 ∧ RetV (.bl true) H Q
/-- the fresh lists of an answer are none of what was there -/
theorem OAnsF.fresh {F : Addr → Prop} {H H2 : Hp} {x : V} {an : OAns} (hF : ∀ a, F a → Al H a) (h : OAnsF (Al H) H2 x an) : OAnsF F H2 x an := h.sub hF
theorem AnsF.fresh {F : Addr → Prop} {H H2 : Hp} {x : V} {an : Ans} (hF : ∀ a, F a → Al H a) (h : AnsF (Al H) H2 x an) : AnsF F H2 x an := h.sub hF
def Anss (M : Mach) (F : Addr → Prop) (H : Hp) (ys : List V) (An : List Ans) : Prop := Paired (fun x an => AnsF F H x an) ys An ∧ ∀ an ∈ An, AnsOk M an
theorem Anss.kf {M : Mach} {F : Addr → Prop} {H H' : Hp} {ys : List V} {An : List Ans} (k : KF F H H') (h : Anss M F H ys An) : Anss M F H' ys An := ⟨Paired.imp (fun _ _ => AnsF.kf k) h.1, h.2⟩
theorem Anss.snoc {M : Mach} {F : Addr → Prop} {H : Hp} {ys : List V} {An : List Ans} {x : V} {an : Ans} (h : Anss M F H ys An) (h1 : AnsF F H x an) (h2 : AnsOk M an) : Anss M F H (ys ++ [x]) (An ++ [an]) := ⟨Paired.snoc h.1 h1, fun a ha => by
  rcases List.mem_append.mp ha with z | z
  · exact h.2 a z
  · simp at z
    subst z
    exact h2⟩
def OAnss (M : Mach) (F : Addr → Prop) (H : Hp) (ys : List V) (An : List OAns) : Prop := Paired (fun x an => OAnsF F H x an) ys An ∧ ∀ an ∈ An, OAnsOk M an
theorem OAnss.kf {M : Mach} {F : Addr → Prop} {H H' : Hp} {ys : List V} {An : List OAns} (k : KF F H H') (h : OAnss M F H ys An) : OAnss M F H' ys An := ⟨Paired.imp (fun _ _ => OAnsF.kf k) h.1, h.2⟩
theorem OAnss.snoc {M : Mach} {F : Addr → Prop} {H : Hp} {ys : List V} {An : List OAns} {x : V} {an : OAns} (h : OAnss M F H ys An) (h1 : OAnsF F H x an) (h2 : OAnsOk M an) : OAnss M F H (ys ++ [x]) (An ++ [an]) := ⟨Paired.snoc h.1 h1, fun a ha => by
  rcases List.mem_append.mp ha with z | z
  · exact h.2 a z
  · simp at z
    subst z
    exact h2⟩
/-- what the found texts say -/
theorem says_ok {M : Mach} (O : M.Ok) {u v : Wd} {An : List Ans} {rs : List Str} (hAn : ∀ an ∈ An, AnsOk M an) (h : Paired (fun r an => Says M u v r an) rs An) : ¬ (Str.ofString "equal" ∈ rs ∧ Str.ofString "apart" ∈ rs) := by
  rintro ⟨h1, h2⟩
  obtain ⟨i, hi⟩ := List.getElem?_of_mem h1
  obtain ⟨j, hj⟩ := List.getElem?_of_mem h2
  obtain ⟨a1, ha1, s1⟩ := Paired.getL h hi
  obtain ⟨a2, ha2, s2⟩ := Paired.getL h hj
  have n1 : ¬ Str.ofString "equal" = Str.ofString "none" := by decide +kernel
  have n2 : ¬ Str.ofString "apart" = Str.ofString "none" := by decide +kernel
  have n3 : ¬ Str.ofString "equal" = Str.ofString "apart" := by decide +kernel
  cases a1 with
  | ap s =>
    rcases s1 with ⟨z, _⟩ | ⟨z, _⟩
    · exact n3 z
    · exact n1 z
  | eq ws =>
    rcases s1 with ⟨_, z1, z2⟩ | ⟨z, _⟩
    · have hR : Rest M (u ++ und v) := rest_of_closed O z2.closed z1
      cases a2 with
      | eq ws' =>
        rcases s2 with ⟨z, _⟩ | ⟨z, _⟩
        · exact n3 z.symm
        · exact n2 z
      | ap s =>
        rcases s2 with ⟨_, z⟩ | ⟨z, _⟩
        · exact z (Rest.eq O hR (hAn _ (List.mem_of_getElem? ha2)).1)
        · exact n2 z
    · exact n1 z
theorem says_some {M : Mach} {u v : Wd} {An : List Ans} {rs : List Str} (h : Paired (fun r an => Says M u v r an) rs An) (hs : ∃ an ∈ An, Shows M u v an) : Str.ofString "equal" ∈ rs ∨ Str.ofString "apart" ∈ rs := by
  obtain ⟨an, ha, hsh⟩ := hs
  obtain ⟨i, hi⟩ := List.getElem?_of_mem ha
  obtain ⟨r, hr, s⟩ := Paired.get h hi
  have hm := List.mem_of_getElem? hr
  cases an with
  | eq ws =>
    rcases s with ⟨z, _⟩ | ⟨_, z⟩
    · exact .inl (z ▸ hm)
    · exact absurd hsh z
  | ap s0 =>
    rcases s with ⟨z, _⟩ | ⟨_, z⟩
    · exact .inr (z ▸ hm)
    · exact absurd hsh z
theorem inV_strs (x : Str) (rs : List Str) : inV (.str x) (rs.map V.str) = decide (x ∈ rs) := by
  have e : (inV (.str x) (rs.map V.str) = true) ↔ x ∈ rs := by
    unfold inV
    simp only [List.any_eq_true, List.mem_map]
    constructor
    · rintro ⟨_, ⟨w, hw, rfl⟩, e⟩
      have e2 : w = x := by simpa [eqV] using e
      exact e2 ▸ hw
    · intro hm
      exact ⟨_, ⟨x, hm, rfl⟩, by simp [eqV]⟩
  by_cases q : x ∈ rs
  · rw [decide_eq_true q]; exact e.mpr q
  · rw [decide_eq_false q]
    cases hb : inV (.str x) (rs.map V.str) with
    | true => exact absurd (e.mp hb) q
    | false => rfl
theorem flat_strs (rs : List Str) : (rs.map V.str).all flatV = true := by
  rw [List.all_eq_true]
  intro x hx
  obtain ⟨w, _, rfl⟩ := List.mem_map.mp hx
  rfl
theorem strs_pair {R : Str → Nat → Prop} {H : Hp} : ∀ {L : List Nat} {ys : List V}, Paired (fun i y => ∃ r, y = .str r ∧ R r i) L ys → ∃ rs : List Str, ys = rs.map V.str ∧ Paired R rs L
  | _, _, .nil => ⟨[], rfl, .nil⟩
  | _, _, .cons ⟨r, h1, h2⟩ p => by
    obtain ⟨rs, h3, h4⟩ := strs_pair (H := H) p
    exact ⟨r :: rs, by rw [h1, h3]; rfl, .cons h2 h4⟩
theorem paired_range {α β : Type} {S : α → β → Prop} {xs : List α} {ys : List β} (d : β) (hl : xs.length = ys.length) (h : Paired (fun x i => S x (ys.getD i d)) xs (List.range ys.length)) : Paired S xs ys := by
  have key : ∀ (xs : List α) (ys : List β), xs.length = ys.length → (∀ (i : Nat) (x : α) (y : β), xs[i]? = some x → ys[i]? = some y → S x y) → Paired S xs ys := by
    intro xs
    induction xs with
    | nil =>
      intro ys hl _
      have : ys = [] := List.length_eq_zero_iff.mp hl.symm
      subst this
      exact .nil
    | cons x r ih =>
      intro ys hl hh
      cases ys with
      | nil => simp at hl
      | cons y s => exact .cons (hh 0 x y rfl rfl) (ih s (by simpa using hl) fun i x y a b => hh (i + 1) x y a b)
  refine key xs ys hl fun i x y hx hy => ?_
  obtain ⟨j, hj, hS⟩ := Paired.getL h hx
  have hlt := (List.getElem?_eq_some_iff.mp hy).1
  rw [List.getElem?_range hlt] at hj
  have := Option.some.inj hj
  subst this
  rw [getD_of hy] at hS
  exact hS
section
variable {P : Program} {w : World} {K : PySem.W.Frag} {mg : Str → Option Value} {base : Heap} {M : Mach} {H : Hp} {mv av : V} {E : XK} {dr : Addr}
theorem sc__law_order : FnScope ["_law_machine_here", "_law_word_here"] ["_law_machine_here", "_law_word_here"] (defScope s__law_order) := ⟨rfl, rfl, rfl, by decide +kernel, rfl, by decide +kernel, by decide +kernel⟩
theorem ok__law_order (T : Tx K mg) : FnOk P w K mg base CX0 11 (He.fAd K d__law_order.at_) (fdO K d__law_order) ["_law_machine_here", "_law_word_here"] (spLOrder K) := by
  refine (F__law_order T).ok sc__law_order (fun vs H Q E h => ?_) (fun cdv A outer s H vs Q E hr h => ?_)
  · obtain ⟨_, _, _, rfl, _⟩ := h
    rfl
  · obtain ⟨M, u, mv, rfl, O, hm, Dm, hu, hul, k⟩ := h
    refine ⟨_, PSs.nox (pss_one (ps_try_only rfl rfl ⟨rfl, by decide, .inl (T_TooLarge T)⟩ takes0 (fun W pn xe tk _ => (pss_one (ps_ret (pe_callS (ok_decide_order T) hr rfl (T_decide_order T) (F_decide_order T).kp (b_decide_order T) (fun σ => passAt tk σ) (pa_cons (pv 0) (pa_cons (pv 1) pa_nil)))))) (fun a oe cls d pn _ _ => (pss_one (ps_ret (pe_tup (pa_cons pe_str pa_nil))))))), ?_⟩
    refine ⟨_, rfl, _, rfl, M, u, mv, rfl, O, hm, Dm, hu, hul, fun H2 e2 => ?_, fun an x H2 e2 h1 h2 h3 => k an x H2 e2 h1 h2 h3⟩
    refine ⟨true, Y_TooLarge T, fun _ a _ => ?_, fun z => by cases z⟩
    exact s_retU (eu_tup (ea_cons ev_c ea_nil) le1) fun q H3 hq e3 h3 => k .opn _ H3 (e2.trans e3) ⟨q, rfl, h3⟩ trivial (fun _ _ _ z => by cases z)
theorem el_draws {σ : L2.St} {i : Nat} {a : Addr} {xs : List Int} (hi : σ[i]? = some (some (.ref a))) (ha : SqL K H a (xs.map V.int)) (hl : xs.length ≤ 100) : EvLP (tCall (spDraws K) [] E0 (tCons (tVar i) tNil)) σ H (fun ys => ∃ ns : List Int, ys = ns.map V.int) := fun H1 e Q q =>
  ⟨_, hi, a, xs, rfl, ex_l e ha, hl, fun ns p H2 hp e2 h2 => q p H2 _ hp e2 h2 ⟨ns, rfl⟩⟩
theorem ex_word {σ : L2.St} {i j m : Nat} {tm : TE} (hi : σ[i]? = some (some (.ref dr))) (hj : σ[j]? = some (some mv)) (htm : Ev tm σ H (.int (m : Nat))) (O : M.Ok) (hm : MachAt K H mv M) (hd : DrAt dr H) (hm10 : m ≤ 10) : EvX dr (tCall (spWord K) [] E0 (tCons (tVar i) (tCons (tVar j) (tCons tm tNil)))) σ H (fun v _ => ∃ u : Wd, v = .str (enc u) ∧ WOk M u ∧ u.length ≤ m) :=
  ex_call (ea_cons (ev_var hi) (ea_cons (ev_var hj) (ea_cons htm ea_nil))) (fun _ e _ q _ => ⟨M, mv, dr, m, rfl, O, ex_mach e hm, hd.ex e, hm10, fun u H2 h1 h2 x d => q _ H2 x d ⟨u, rfl, h1, h2⟩⟩)
theorem q_lst2X {σ : L2.St} {D : Ends} {tz : TS} {t1 t2 : TE} {i : Nat} {R1 R2 : V → Prop} (h1 : EvX dr t1 σ H (fun v _ => R1 v)) (h2 : ∀ H1, Xd dr H H1 → DrAt dr H1 → EvX dr t2 σ H1 (fun v _ => R2 v))
    (k : ∀ v1 v2 p H3, Xd dr H H3 → DrAt dr H3 → p ≠ dr → H p = none → R1 v1 → R2 v2 → H3 p = some (.lst [v1, v2]) → tz D (σ.set i (some (.ref p))) H3) : tSeq (tAsg (tLst (tCons t1 (tCons t2 tNil))) (gName i)) tz D σ H :=
  h1 H (Ex.refl H) _ fun v1 H1 x1 d1 r1 => h2 H1 x1 d1 H1 (Ex.refl _) _ fun v2 H2 x2 d2 r2 => ⟨sz_of le2, fun p hp => by
    have hpd := d2.ne hp
    have hp0 := xfresh (x1.trans x2) hpd hp
    exact k v1 v2 p _ (Xd.mut (x1.trans x2) hp0) (d2.upd hpd) hpd hp0 r1 r2 upd_same⟩
/-! the rest of the law's own steps -/
theorem KF.ofXd {F : Addr → Prop} {H H' : Hp} (x : Xd dr H H') (d : DrAt dr H) (hF : F dr) : KF F H H' := ⟨fun a xs h => x.tup d h, fun a xs hn h => x a _ h fun z => hn (by rw [z]; exact hF)⟩
theorem ex_string {σ : L2.St} {i m k : Nat} {tk tm : TE} (hi : σ[i]? = some (some (.ref dr))) (htk : Ev tk σ H (.int (k : Nat))) (htm : Ev tm σ H (.int (m : Nat))) (hd : DrAt dr H) (h1 : 1 ≤ k) (h4 : k ≤ 4) (hm10 : m ≤ 10) : EvX dr (tCall (spString K) [] E0 (tCons (tVar i) (tCons tk (tCons tm tNil)))) σ H (fun v _ => ∃ s : List Nat, v = .str (encD s) ∧ (∀ d ∈ s, d < k) ∧ s.length ≤ m) :=
  ex_call (ea_cons (ev_var hi) (ea_cons htk (ea_cons htm ea_nil))) (fun _ e _ q _ => ⟨dr, k, m, rfl, h1, h4, hd.ex e, hm10, fun s H2 g1 g2 x d => q _ H2 x d ⟨s, rfl, g1, g2⟩⟩)
theorem el_listP {σ : L2.St} {ta : TE} {p : Addr} {xs : List V} (h : Ev ta σ H (.ref p)) (hp : H p = some (.lst xs)) : EvL (tCB (fun xs H Q => ∃ p ys, xs = [.ref p] ∧ (SqL K H p ys ∨ SqT K H p ys) ∧ ∀ l, H l = none → Q (.ref l) (upd H l (.lst ys))) (tCons ta tNil)) σ H xs := fun H1 e Q q =>
  h H1 e _ fun H2 e2 => ⟨p, xs, rfl, .inl (sq_of ((e.trans e2) _ _ hp)), fun l hl => q l _ (fresh_back e2 hl) (e2.trans (Ex.new hl)) upd_same⟩
theorem t_orders {σ : L2.St} {Q : VK} {te ta : TE} {a : Addr} {ws : List Wd} {j : Nat} (h : Ev ta σ H (.ref a)) (hx : SqL K H a (wsV ws)) (hn : ws.length ≤ 100)
    (he : ∀ u H1, Ex H H1 → u ∈ ws → EvR te ((wipe σ [j]).set j (some (.str (enc u)))) H1 (fun v H2 => ∃ an, OAnsF (Al H1) H2 v an ∧ OAnsOk M an ∧ ∀ n ws ss, an = .fin n ws ss → n ≤ 64))
    (k : ∀ p H1 ys An, H p = none → Ex H H1 → H1 p = some (.lst ys) → OAnss M (fun a => a = p) H1 ys An → (∀ an ∈ An, ∀ n ws ss, an = .fin n ws ss → n ≤ 64) → ys.length = ws.length → Q (.ref p) H1) :
    tLc (iList K ta) (gName j) tYes te [j] σ H Q := h H (Ex.refl H) _ fun H1 e1 => ⟨a, rfl, ⟨_, ex_l e1 hx⟩, by
  refine lcR (H := H1) walk_list (by rw [wsV_len]; omega) (fun _ => true) (fun Dl i v Hx => (∃ acc, Hx Dl = some (.lst acc)) ∧ ∃ an, OAnsF (fun a => a = Dl) Hx v an ∧ OAnsOk M an ∧ ∀ n ws ss, an = .fin n ws ss → n ≤ 64) (fun Dl i v Ha Hb e ⟨⟨acc, h1⟩, an, h2, h3⟩ => ⟨⟨acc, e _ _ h1⟩, an, h2.kf (.ofEx e), h3⟩) (fun Dl i v Ha acc ⟨⟨acc', h1⟩, an, h2, h3⟩ => ⟨⟨acc, upd_same⟩, an, h2.kf (KF.upd h1 rfl), h3⟩) (fun H2 e2 => ex_l (e1.trans e2) hx) (fun Dl n x H2 H3 ys Kt Kf hi _ e2 hD hy k1 _ => ?_) (fun p H2 ys hp e2 hl hP => ?_)
  · obtain ⟨rfl, hx'⟩ := hy
    obtain ⟨u, hu, rfl⟩ := wsV_get hx'
    refine ⟨wipe_set1, et_yes H3 (Ex.refl _) _ fun H4 e4 => ?_⟩
    rw [if_pos rfl]
    refine he u H4 ((e1.trans e2).trans e4) (List.mem_of_getElem? hu) H4 (Ex.refl _) _ fun y H5 e5 ⟨an, g1, g2⟩ => k1 y H5 (e4.trans e5) ⟨⟨ys, (e4.trans e5) _ _ hD⟩, an, g1.sub (fun a' ha' => by rw [ha']; exact ⟨_, e4 _ _ hD⟩), g2⟩ rfl
  · rw [List.filter_eq_self.mpr (fun _ _ => rfl)] at hP
    have key : ∀ {L : List Nat} {ys : List V}, Paired (fun i y => (∃ acc, H2 p = some (.lst acc)) ∧ ∃ an, OAnsF (fun a => a = p) H2 y an ∧ OAnsOk M an ∧ ∀ n ws ss, an = .fin n ws ss → n ≤ 64) L ys → ∃ An, OAnss M (fun a => a = p) H2 ys An ∧ ∀ an ∈ An, ∀ n ws ss, an = .fin n ws ss → n ≤ 64 := fun {L ys} hh => by
      induction hh with
      | nil => exact ⟨[], ⟨.nil, fun an h => by simp at h⟩, fun an h => by simp at h⟩
      | cons a _ ih =>
        obtain ⟨An, g1, g2⟩ := ih
        obtain ⟨_, an, g3, g4, g5⟩ := a
        refine ⟨an :: An, ⟨.cons g3 g1.1, fun z hz => ?_⟩, fun z hz => ?_⟩
        · rcases List.mem_cons.mp hz with y | y
          · subst y; exact g4
          · exact g1.2 z y
        · rcases List.mem_cons.mp hz with y | y
          · subst y; exact g5
          · exact g2 z y
    obtain ⟨An, g1, g2⟩ := key hP
    refine k p H2 ys An (fresh_back e1 hp) (e1.trans e2) hl g1 g2 ?_
    have := Paired.len hP
    rw [List.length_range, wsV_len] at this
    exact this.symm⟩
theorem q_orders {σ : L2.St} {D : Ends} {tz : TS} {te ta : TE} {a : Addr} {ws : List Wd} {j i : Nat} (h : Ev ta σ H (.ref a)) (hx : SqL K H a (wsV ws)) (hn : ws.length ≤ 100)
    (he : ∀ u H1, Ex H H1 → u ∈ ws → EvR te ((wipe σ [j]).set j (some (.str (enc u)))) H1 (fun v H2 => ∃ an, OAnsF (Al H1) H2 v an ∧ OAnsOk M an ∧ ∀ n ws ss, an = .fin n ws ss → n ≤ 64))
    (k : ∀ p H1 ys An, H p = none → Ex H H1 → H1 p = some (.lst ys) → OAnss M (fun a => a = p) H1 ys An → (∀ an ∈ An, ∀ n ws ss, an = .fin n ws ss → n ≤ 64) → ys.length = ws.length → tz D (σ.set i (some (.ref p))) H1) :
    tSeq (tAsg (tLc (iList K ta) (gName j) tYes te [j]) (gName i)) tz D σ H := t_orders (Q := fun v H1 => gName i v σ H1 (tz D)) h hx hn he k
theorem er_tup4L {σ : L2.St} {x1 x2 x3 : V} {t1 t2 t3 : TE} (h1 : Ev t1 σ H x1) (h2 : Ev t2 σ H x2) (h3 : Ev t3 σ H x3) : EvR (tTup (tCons t1 (tCons t2 (tCons t3 (tCons (tLst tNil) tNil))))) σ H (fun v H' => ∃ p b, v = .ref p ∧ H' p = some (.tup [x1, x2, x3, .ref b]) ∧ H' b = some (.lst []) ∧ H b = none) := fun H1 e Q q =>
  h1 H1 e _ fun H2 e2 => h2 H2 (e.trans e2) _ fun H3 e3 => h3 H3 ((e.trans e2).trans e3) _ fun H4 e4 => ⟨sz_of le0, fun b hb => ⟨sz_of (show 4 ≤ 100000 by decide), fun p hp => q _ _ ((((e2.trans e3).trans e4).trans (Ex.new hb)).trans (Ex.new hp)) ⟨p, b, rfl, upd_same, Ex.new hp _ _ upd_same, fresh_back (((e.trans e2).trans e3).trans e4) hb⟩⟩⟩
theorem ev_min {σ : L2.St} {ta : TE} {p : Addr} {ns : List Int} {n0 : Int} (h : Ev ta σ H (.ref p)) (hp : H p = some (.lst (ns.map V.int))) (hne : 0 < ns.length) (hall : ∀ m ∈ ns, m = n0) : Ev (tCB (rMin K) (tCons ta tNil)) σ H (.int n0) := fun H1 e Q q =>
  h H1 e _ fun H2 e2 => ⟨p, ns, rfl, sq_of ((e.trans e2) _ _ hp), hne, fun m hm _ => by rw [hall m hm]; exact q H2 e2⟩
theorem ev_max {σ : L2.St} {ta : TE} {p : Addr} {ns : List Int} {n0 : Int} (h : Ev ta σ H (.ref p)) (hp : H p = some (.lst (ns.map V.int))) (hne : 0 < ns.length) (hall : ∀ m ∈ ns, m = n0) : Ev (tCB (rMax K) (tCons ta tNil)) σ H (.int n0) := fun H1 e Q q =>
  h H1 e _ fun H2 e2 => ⟨p, ns, rfl, sq_of ((e.trans e2) _ _ hp), hne, fun m hm _ => by rw [hall m hm]; exact q H2 e2⟩
/-- [e for a, b in list of pairs if ..] -/
theorem el_lcLP {σ : L2.St} {ta te : TE} {a : Addr} {xs : List V} {es : List (V × V)} {i j : Nat} {tt : TT} (f : Nat → Bool) (v : Nat → V) (h : Ev ta σ H (.ref a)) (hx : SqL K H a xs) (hp : Paired (fun v e => ∃ p, v = .ref p ∧ SqT K H p [e.1, e.2]) xs es) (hn : xs.length ≤ 100000)
    (ht : ∀ n e H1, Ex H H1 → es[n]? = some e → EvT tt (((wipe σ [i, j]).set i (some e.1)).set j (some e.2)) H1 (f n)) (he : ∀ n e H1, Ex H H1 → es[n]? = some e → f n = true → Ev te (((wipe σ [i, j]).set i (some e.1)).set j (some e.2)) H1 (v n)) :
    EvL (tLc (iList K ta) (gTup K 2 (gCons (gName i) (gCons (gName j) gNil))) tt te [i, j]) σ H (given xs.length f v) := fun H0 e Q q => h H0 e _ fun H1 e1 => ⟨a, rfl, ⟨xs, ex_l (e.trans e1) hx⟩, by
  refine lcR (H := H1) walk_list hn f (fun _ n y _ => y = v n) (fun _ _ _ _ _ _ h => h) (fun _ _ _ _ _ h => h) (fun H2 e2 => ex_l ((e.trans e1).trans e2) hx) (fun Dl n x H2 H3 ys Kt Kf hi _ e2 hD hy k1 k2 => ?_) (fun p H2 ys hp' e2 hl hP => q p H2 (fresh_back e1 hp') (e1.trans e2) ?_)
  · obtain ⟨rfl, hx'⟩ := hy
    obtain ⟨ee, hee, p, rfl, hpp⟩ := Paired.getL hp hx'
    refine g_unT (ex_t ((e.trans e1).trans e2) hpp) ⟨wipe_set2, ht n ee H3 ((e.trans e1).trans e2) hee H3 (Ex.refl _) _ fun H4 e4 => ?_⟩
    cases hf : f n with
    | true =>
      rw [if_pos rfl]
      exact he n ee H3 ((e.trans e1).trans e2) hee hf H4 e4 _ fun H5 e5 => k1 _ H5 (e4.trans e5) rfl hf
    | false =>
      rw [if_neg (by decide)]
      exact k2 H4 e4 hf
  · rw [hl, paired_map hP]; rfl⟩
def numOf : OAns → Int
  | .fin n _ _ => (n : Nat)
  | _ => 0
theorem told_es {ys : List V} {An : List OAns} {u : Wd} {Hx : Hp} : ∀ {L : List Nat} {zs : List V}, Paired (fun i z => ∃ r, TupR [.str r, ys.getD i .non] z Hx ∧ OSays M u r (An.getD i .opn)) L zs →
    ∃ es : List (V × V), Paired (fun v (e : V × V) => ∃ p, v = .ref p ∧ SqT K Hx p [e.1, e.2]) zs es ∧ Paired (fun e i => ∃ r, e = (V.str r, ys.getD i .non) ∧ OSays M u r (An.getD i .opn)) es L
  | _, _, .nil => ⟨[], .nil, .nil⟩
  | _, _, .cons ⟨r, ⟨q, h1, h2⟩, h3⟩ p => by
    obtain ⟨es, g1, g2⟩ := told_es p
    exact ⟨(.str r, _) :: es, .cons ⟨q, h1, st_of h2⟩ g1, .cons ⟨r, rfl, h3⟩ g2⟩
theorem fin_of {u : Wd} {r : Str} {an : OAns} (h : OSays M u r an) (hr : r = Str.ofString "finite") : ∃ n ws ss, an = .fin n ws ss ∧ Order M u n := by
  subst hr
  have n1 : ¬ Str.ofString "finite" = Str.ofString "none" := by decide +kernel
  have n2 : ¬ Str.ofString "finite" = Str.ofString "endless" := by decide +kernel
  cases an with
  | fin n ws ss =>
    rcases h with ⟨_, z⟩ | z
    · exact ⟨n, ws, ss, rfl, z⟩
    · exact absurd z n1
  | endl s m e h0 =>
    rcases h with ⟨z, _⟩ | z
    · exact absurd z n2
    · exact absurd z n1
  | opn => exact absurd h n1
theorem endl_of {u : Wd} {r : Str} {an : OAns} (h : OSays M u r an) (hr : r = Str.ofString "endless") : ∀ n, ¬ Order M u n := by
  subst hr
  have n1 : ¬ Str.ofString "endless" = Str.ofString "none" := by decide +kernel
  have n2 : ¬ Str.ofString "endless" = Str.ofString "finite" := by decide +kernel
  cases an with
  | fin n ws ss =>
    rcases h with ⟨z, _⟩ | z
    · exact absurd z n2
    · exact absurd z n1
  | endl s m e h0 =>
    rcases h with ⟨_, z⟩ | z
    · exact z
    · exact absurd z n1
  | opn => exact absurd h n1
theorem sc_law : FnScope ["_law_script", "_law_draws_here", "_law_machine_here", "_law_words", "_law_rest", "_law_answers", "_law_one", "_law_other", "_law_j", "_law_answer", "_law_found", "_law_word_here", "_law_orders", "_law_told", "_law_finite", "_law_kind"] ["_law_script"] (defScope s_law) := ⟨rfl, rfl, rfl, by decide +kernel, rfl, by decide +kernel, by decide +kernel⟩
theorem ok_law (T : Tx K mg) : FnOk P w K mg base CX0 12 (He.fAd K d_law.at_) (fdO K d_law) ["_law_script"] (spLaw K) := by
  refine (F_law T).ok sc_law (fun vs H Q E h => ?_) (fun cdv A outer s H vs Q E hr h => ?_)
  · obtain ⟨_, _, rfl, _⟩ := h
    rfl
  · obtain ⟨a, xs, rfl, ha, hxl, k⟩ := h
    refine ⟨_, PSs.nox (pss_cons (ps_set (i := 1) sc_law.nd rfl (.inl rfl) (pe_call (ok__law_draws T) (hr.mono (by decide)) rfl (T__law_draws T) (F__law_draws T).kp (b__law_draws T) .nil pass0 (pa_cons (pv 0) pa_nil)))
      (pss_cons (ps_set (i := 2) sc_law.nd rfl (.inr rfl) (pe_call (ok__law_directed T) (hr.mono (by decide)) rfl (T__law_directed T) (F__law_directed T).kp (b__law_directed T) .nil pass0 (pa_cons (pv 1) pa_nil)))
      (pss_cons (ps_set (i := 3) sc_law.nd rfl (.inl rfl) (pe_lst (pa_cons (pe_call (ok__law_word T) (hr.mono (by decide)) rfl (T__law_word T) (F__law_word T).kp (b__law_word T) .nil pass0 (pa_cons (pv 1) (pa_cons (pv 2) (pa_cons pe_int pa_nil)))) (pa_cons (pe_call (ok__law_word T) (hr.mono (by decide)) rfl (T__law_word T) (F__law_word T).kp (b__law_word T) .nil pass0 (pa_cons (pv 1) (pa_cons (pv 2) (pa_cons pe_int pa_nil)))) pa_nil))))
      (pss_cons (ps_set (i := 4) sc_law.nd rfl (.inl rfl) (pe_ix ix_str pe_str (pe_op op_sub (pe_callB (call_lenK (K := K) rfl) (by rfl) (B_len T) PySem.boot_len (pa_cons (pe_ix (ix_tupK (K := K) rfl) (pv 2) pe_int (fun _ _ => rfl)) pa_nil)) pe_int) (fun _ _ => rfl)))
      (pss_cons (ps_expr (pe_bmK (K := K) rfl PySem.F.plainAttrs_list PySem.F.slot_list_append PySem.F.type_list_append mt_append (pv 3) (pa_cons (pe_op op_add_str (pe_ix (ix_listK (K := K) rfl) (pv 3) pe_int (fun _ _ => rfl)) (pv 4)) pa_nil)))
      (pss_cons (ps_set (i := 5) sc_law.nd rfl (.inl rfl) (pe_lst pa_nil))
      (pss_cons (ps_for PassesOwn.never rfl (pi_listK (K := K) rfl (pv 3)) (pg_name (i := 6) sc_law.nd rfl (by first | exact Or.inl rfl | exact Or.inr rfl)) (pss_one (ps_for PassesOwn.never rfl (pi_listK (K := K) rfl (pv 3)) (pg_name (i := 7) sc_law.nd rfl (by first | exact Or.inl rfl | exact Or.inr rfl)) (pss_one (ps_expr (pe_bmK (K := K) rfl PySem.F.plainAttrs_list PySem.F.slot_list_append PySem.F.type_list_append mt_append (pv 5) (pa_cons (pe_call (ok_decide T) (hr.mono (by decide)) rfl (T_decide T) (F_decide T).kp (b_decide T) .nil pass0 (pa_cons (pv 2) (pa_cons (pv 6) (pa_cons (pv 7) pa_nil)))) pa_nil)))))))
      (pss_cons (ps_for PassesOwn.never rfl (pi_range1 rfl (B_range T) (pa_cons pe_int pa_nil)) (pg_name (i := 8) sc_law.nd rfl (by first | exact Or.inl rfl | exact Or.inr rfl)) (pss_one (ps_expr (pe_bmK (K := K) rfl PySem.F.plainAttrs_list PySem.F.slot_list_append PySem.F.type_list_append mt_append (pv 5) (pa_cons (pe_tup (pa_cons pe_str (pa_cons (pe_call (ok__law_string T) (hr.mono (by decide)) rfl (T__law_string T) (F__law_string T).kp (b__law_string T) .nil pass0 (pa_cons (pv 1) (pa_cons (pe_ix (ix_tupK (K := K) rfl) (pv 2) pe_int (fun _ _ => rfl)) (pa_cons pe_int pa_nil)))) pa_nil))) pa_nil)))))
      (pss_cons (ps_for PassesOwn.never rfl (pi_listK (K := K) rfl (pv 3)) (pg_name (i := 6) sc_law.nd rfl (by first | exact Or.inl rfl | exact Or.inr rfl)) (pss_one (ps_for PassesOwn.never rfl (pi_listK (K := K) rfl (pv 3)) (pg_name (i := 7) sc_law.nd rfl (by first | exact Or.inl rfl | exact Or.inr rfl)) (pss_cons (ps_setLc (i := 10) (own := [("_law_answer", 9)]) rfl sc_law.nd rfl rfl (sw_true rfl rfl rfl (by decide +kernel)) (pi_listK (K := K) rfl (pv 5)) (blkOk_by (own := [("_law_answer", 9)]) (N := ["_law_script", "_law_draws_here", "_law_machine_here", "_law_words", "_law_rest", "_law_answers", "_law_one", "_law_other", "_law_j", "_law_answer", "_law_found", "_law_word_here", "_law_orders", "_law_told", "_law_finite", "_law_kind"]) (sc := defScope s_law) (by decide +kernel)) (fun _ _ _ _ _ => (pg_name (i := 9) sc_law.nd rfl (by first | exact Or.inl rfl | exact Or.inr rfl))) (fun _ _ _ _ _ => pts_nil) (fun _ _ _ _ _ => (pe_call (ok_shown T) (hr.mono (by decide)) rfl (T_shown T) (F_shown T).kp (b_shown T) .nil pass0 (pa_cons (pv 2) (pa_cons (pv 6) (pa_cons (pv 7) (pa_cons (pv 9) pa_nil)))))))
      (pss_cons (ps_if (PW.pt (pw_and (pt_cmpR (op_in_seqK (K := K) rfl) pe_str (pv 10) rfl) (pw_and1 (pt_cmpR (op_in_seqK (K := K) rfl) pe_str (pv 10) rfl)))) (pss_one (ps_ret pe_bl)) pss_nil)
      (pss_one (ps_if (PW.pt (pw_and (pt_cmpR (op_notIn_seqK (K := K) rfl) pe_str (pv 10) rfl) (pw_and1 (pt_cmpR (op_notIn_seqK (K := K) rfl) pe_str (pv 10) rfl)))) (pss_one (ps_ret pe_bl)) pss_nil)))))))
      (pss_cons (ps_setLc (i := 12) (own := [("_law_word_here", 11)]) rfl sc_law.nd rfl rfl (sw_true rfl rfl rfl (by decide +kernel)) (pi_listK (K := K) rfl (pv 3)) (blkOk_by (own := [("_law_word_here", 11)]) (N := ["_law_script", "_law_draws_here", "_law_machine_here", "_law_words", "_law_rest", "_law_answers", "_law_one", "_law_other", "_law_j", "_law_answer", "_law_found", "_law_word_here", "_law_orders", "_law_told", "_law_finite", "_law_kind"]) (sc := defScope s_law) (by decide +kernel)) (fun _ _ _ _ _ => (pg_name (i := 11) sc_law.nd rfl (by first | exact Or.inl rfl | exact Or.inr rfl))) (fun _ _ _ _ _ => pts_nil) (fun _ _ _ _ _ => (pe_call (ok__law_order T) hr rfl (T__law_order T) (F__law_order T).kp (b__law_order T) .nil pass0 (pa_cons (pv 2) (pa_cons (pv 11) pa_nil)))))
      (pss_cons (ps_for PassesOwn.never rfl (pi_listK (K := K) rfl (pe_callTy (call_list_ofK (K := K) rfl) (by rfl) (B_list T) (by decide +kernel) (pa_cons (pv 12) pa_nil))) (pg_name (i := 9) sc_law.nd rfl (by first | exact Or.inl rfl | exact Or.inr rfl)) (pss_one (ps_if (pt_cmpR op_eq (pe_ix (ix_tupK (K := K) rfl) (pv 9) pe_int (fun _ _ => rfl)) pe_str (nomark _)) (pss_cons (ps_expr (pe_bmK (K := K) rfl PySem.F.plainAttrs_list PySem.F.slot_list_append PySem.F.type_list_append mt_append (pv 12) (pa_cons (pe_tup (pa_cons pe_str (pa_cons (pe_op op_mul (pe_ix (ix_tupK (K := K) rfl) (pv 9) pe_int (fun _ _ => rfl)) pe_int) (pa_cons (pe_ix (ix_tupK (K := K) rfl) (pv 9) pe_int (fun _ _ => rfl)) (pa_cons (pe_ix (ix_tupK (K := K) rfl) (pv 9) pe_int (fun _ _ => rfl)) pa_nil))))) pa_nil)))
      (pss_one (ps_expr (pe_bmK (K := K) rfl PySem.F.plainAttrs_list PySem.F.slot_list_append PySem.F.type_list_append mt_append (pv 12) (pa_cons (pe_tup (pa_cons pe_str (pa_cons pe_int (pa_cons (pe_ix (ix_tupK (K := K) rfl) (pv 9) pe_int (fun _ _ => rfl)) (pa_cons (pe_lst pa_nil) pa_nil))))) pa_nil))))) pss_nil)))
      (pss_cons (ps_for PassesOwn.never rfl (pi_listK (K := K) rfl (pv 3)) (pg_name (i := 11) sc_law.nd rfl (by first | exact Or.inl rfl | exact Or.inr rfl)) (pss_cons (ps_setLc (i := 13) (own := [("_law_answer", 9)]) rfl sc_law.nd rfl rfl (sw_true rfl rfl rfl (by decide +kernel)) (pi_listK (K := K) rfl (pv 12)) (blkOk_by (own := [("_law_answer", 9)]) (N := ["_law_script", "_law_draws_here", "_law_machine_here", "_law_words", "_law_rest", "_law_answers", "_law_one", "_law_other", "_law_j", "_law_answer", "_law_found", "_law_word_here", "_law_orders", "_law_told", "_law_finite", "_law_kind"]) (sc := defScope s_law) (by decide +kernel)) (fun _ _ _ _ _ => (pg_name (i := 9) sc_law.nd rfl (by first | exact Or.inl rfl | exact Or.inr rfl))) (fun _ _ _ _ _ => pts_nil) (fun _ _ _ _ _ => (pe_tup (pa_cons (pe_call (ok_order_shown T) (hr.mono (by decide)) rfl (T_order_shown T) (F_order_shown T).kp (b_order_shown T) .nil pass0 (pa_cons (pv 2) (pa_cons (pv 11) (pa_cons (pv 9) pa_nil)))) (pa_cons (pv 9) pa_nil)))))
      (pss_cons (ps_setLc (i := 14) (own := [("_law_kind", 15), ("_law_answer", 9)]) rfl sc_law.nd rfl rfl (sw_true rfl rfl rfl (by decide +kernel)) (pi_listK (K := K) rfl (pv 13)) (blkOk_by (own := [("_law_kind", 15), ("_law_answer", 9)]) (N := ["_law_script", "_law_draws_here", "_law_machine_here", "_law_words", "_law_rest", "_law_answers", "_law_one", "_law_other", "_law_j", "_law_answer", "_law_found", "_law_word_here", "_law_orders", "_law_told", "_law_finite", "_law_kind"]) (sc := defScope s_law) (by decide +kernel)) (fun _ _ _ _ _ => (pg_tupK (K := K) (n := 2) rfl rfl (pgs_cons (pg_name (i := 15) sc_law.nd rfl (by first | exact Or.inl rfl | exact Or.inr rfl)) (pgs_cons (pg_name (i := 9) sc_law.nd rfl (by first | exact Or.inl rfl | exact Or.inr rfl)) pgs_nil)))) (fun _ _ _ _ _ => (pts_one (pt_cmpR op_eq (pv 15) pe_str (nomark _)))) (fun _ _ _ _ _ => (pe_ix (ix_tupK (K := K) rfl) (pv 9) pe_int (fun _ _ => rfl))))
      (pss_one (ps_if (PW.pt (pw_and (pt_truthK (K := K) rfl (pv 14) (fun _ => rfl)) (pw_and1 (PW.pt (pw_or (pt_cmpR (op_in_seqK (K := K) rfl) pe_str (pe_lc (own := [("_law_kind", 15), ("_law_answer", 9)]) rfl sc_law.nd (pi_listK (K := K) rfl (pv 13)) (blkOk_by (own := [("_law_kind", 15), ("_law_answer", 9)]) (N := ["_law_script", "_law_draws_here", "_law_machine_here", "_law_words", "_law_rest", "_law_answers", "_law_one", "_law_other", "_law_j", "_law_answer", "_law_found", "_law_word_here", "_law_orders", "_law_told", "_law_finite", "_law_kind"]) (sc := defScope s_law) (by decide +kernel)) (fun _ _ _ _ _ => (pg_tupK (K := K) (n := 2) rfl rfl (pgs_cons (pg_name (i := 15) sc_law.nd rfl (by first | exact Or.inl rfl | exact Or.inr rfl)) (pgs_cons (pg_name (i := 9) sc_law.nd rfl (by first | exact Or.inl rfl | exact Or.inr rfl)) pgs_nil)))) (fun _ _ _ _ _ => pts_nil) (fun _ _ _ _ _ => (pv 15))) rfl) (pw_or1 (pt_cmpR op_ne (pe_callB (cr_minK (K := K) rfl rfl) (by rfl) (B_min T) (by decide +kernel) (pa_cons (pv 14) pa_nil)) (pe_callB (cr_maxK (K := K) rfl rfl) (by rfl) (B_max T) (by decide +kernel) (pa_cons (pv 14) pa_nil)) (nomark _)))))))) (pss_one (ps_ret pe_bl)) pss_nil)))))
      (pss_one (ps_ret pe_bl)))))))))))))), ?_⟩
    refine q_asgLP (el_draws rfl ha (by omega)) fun dr H1 ys hdr e1 h1 hys => ?_
    obtain ⟨ns, rfl⟩ := hys
    have d1 : DrAt dr H1 := ⟨ns, h1⟩
    refine q_asgX (ex_call (dr := dr) (R := fun v H' => ∃ M, Directed M ∧ MachAt K H' v M) (ea_cons (ev_var rfl) ea_nil) (fun H2 e2 Q2 q2 _ => ⟨dr, rfl, d1.ex e2, fun M v H3 Dm hm x d => q2 v H3 x d ⟨M, Dm, hm⟩⟩)) fun mv H2 x2 d2 hmv => ?_
    obtain ⟨M, Dm, hm2⟩ := hmv
    have O := Dm.ok
    have hn4 := O.n4
    have hn1 := O.n1
    have hk2 := O.k2
    have hk3 := O.k3
    have b2 : ∀ {p : Addr}, p ≠ dr → H2 p = none → H1 p = none := fun {p} hn hp => xfresh x2 hn hp
    refine q_lst2X (ex_word (m := 4) rfl rfl ev_c O hm2 d2 (by decide)) (fun H3 x3 d3 => ex_word (m := 4) rfl rfl ev_c O (x3.mach d2 hm2) d3 (by decide)) fun v0 v1 pw3 H5 x5 d5 hpwd hpw0 hv0 hv1 hws5 => ?_
    obtain ⟨w0, rfl, hw0, hwl0⟩ := hv0
    obtain ⟨w1, rfl, hw1, hwl1⟩ := hv1
    have hm5 := x5.mach d2 hm2
    have hpw1 := b2 hpwd hpw0
    obtain ⟨Rm, vsm, hRm, hRsm, hrowsm⟩ := ev_rows (H := H5) (σ := [some (.ref a), some (.ref dr), some mv, some (.ref pw3), none, none, none, none, none, none, none, none, none, none, none, none]) hm5 (te := tVar 2) (ev_var rfl)
    have hlenm := Paired.len hrowsm
    have hrl : M.rst < M.rows.length := by unfold Mach.rst; omega
    have hr8 : M.rst < 8 := by omega
    refine q_asg (v := .str (enc [(M.rst, false)])) (ev_ixS (c := code (M.rst, false)) (i := ((M.rst : Nat) : Int)) ev_c (ev_is (ev_sub (ev_lenT hRm hRsm) ev_c) (congrArg V.int (by unfold Mach.rst; rw [hlenm]; omega))) (by decide) (small_at _ hr8)) fun H6 e6 => ?_
    have hws6 : H6 pw3 = some (.lst (wsV [w0, w1])) := e6 _ _ hws5
    refine q_app hws6 (ev_var rfl) (ev_addW (a := w0) (b := [(M.rst, false)]) (ev_ixL (ev_var rfl) ev_c (sq_of hws6) rfl) (ev_var rfl) (by simp; omega)) (by rw [wsV_len]; exact (show 2 < 100000 by decide)) fun H7 e7 => ?_
    -- the three words
    obtain ⟨ws, hwsE⟩ : ∃ ws, ws = [w0, w1, w0 ++ [(M.rst, false)]] := ⟨_, rfl⟩
    have hwsok : ∀ u ∈ ws, WOk M u ∧ u.length ≤ 5 := by
      intro u hu
      rw [hwsE] at hu
      simp at hu
      rcases hu with rfl | rfl | rfl
      · exact ⟨hw0, by omega⟩
      · exact ⟨hw1, by omega⟩
      · refine ⟨hw0.append fun l hl => ?_, by simp; omega⟩
        simp at hl
        subst hl
        exact hrl
    have hwl : ws.length = 3 := by rw [hwsE]; rfl
    have e567 := e6.trans e7
    have hws8 : (upd H7 pw3 (.lst (wsV [w0, w1] ++ [V.str (enc (w0 ++ [(M.rst, false)]))]))) pw3 = some (.lst (wsV ws)) := by rw [upd_same, wsV_snoc, hwsE]; rfl
    have d8 : DrAt dr (upd H7 pw3 (.lst (wsV [w0, w1] ++ [V.str (enc (w0 ++ [(M.rst, false)]))]))) := (d5.ex e567).upd hpwd
    have x8 : Xd dr H2 (upd H7 pw3 (.lst (wsV [w0, w1] ++ [V.str (enc (w0 ++ [(M.rst, false)]))]))) := Xd.mut (x5.trans (Xd.ofEx e567)) hpw0
    have hm8 := x8.mach d2 hm2
    generalize (upd H7 pw3 (.lst (wsV [w0, w1] ++ [V.str (enc (w0 ++ [(M.rst, false)]))]))) = H8 at hws8 d8 x8 hm8
    refine q_asgL (el_lst ea_nil le0) fun p5 H9 hp5 e9 h9 => ?_
    have h5d := d8.ne hp5
    have h5w : p5 ≠ pw3 := fun z => by rw [z, hws8] at hp5; cases hp5
    -- F: the lists that change
    obtain ⟨F, hFE⟩ : ∃ F : Addr → Prop, F = fun a => a = dr ∨ a = p5 := ⟨_, rfl⟩
    have hF5 : F p5 := by rw [hFE]; exact .inr rfl
    have hFd : F dr := by rw [hFE]; exact .inl rfl
    have alF : ∀ {Hx : Hp}, DrAt dr Hx → (∃ zs, Hx p5 = some (.lst zs)) → ∀ a, F a → Al Hx a := fun {Hx} dd ⟨zs, hz⟩ a ha' => by
      rw [hFE] at ha'
      rcases ha' with rfl | rfl
      · obtain ⟨ns', hn'⟩ := dd
        exact ⟨_, hn'⟩
      · exact ⟨_, hz⟩
    have x9 := x8.trans (Xd.ofEx e9)
    have hp50 : H2 p5 = none := xfresh x8 h5d hp5
    -- first the answers of decide
    refine q_forLn (ev_var rfl) (sq_of (e9 _ _ hws8)) (fun i σ' H' => ∃ (ys : List V) (An : List Ans) (c6 c7 : Option V), σ' = [some (.ref a), some (.ref dr), some mv, some (.ref pw3), some (.str (enc [(M.rst, false)])), some (.ref p5), c6, c7, none, none, none, none, none, none, none, none] ∧ Xd dr H2 H' ∧ DrAt dr H' ∧ H' pw3 = some (.lst (wsV ws)) ∧ H' p5 = some (.lst ys) ∧ Anss M F H' ys An ∧ ys.length ≤ 3 * i ∧ ∀ u ∈ ws.take i, ∀ v ∈ ws, ∃ an ∈ An, Shows M u v an) (fun H10 e10 => ⟨[], [], none, none, rfl, x9.trans (Xd.ofEx e10), (d8.ex e9).ex e10, (e9.trans e10) _ _ hws8, e10 _ _ h9, ⟨.nil, fun an han => by simp at han⟩, by simp, fun u hu => by simp at hu⟩) (fun i σ' H' _ ⟨_, _, _, _, _, _, _, h, _⟩ => sq_of h) ?_ ?_
    · rintro i x σ' H10 hx ⟨ys, An, c6, c7, rfl, x10, d10, hw10, h10, hA10, hyl, hsh⟩
      obtain ⟨u, hu, rfl⟩ := wsV_get hx
      have hi3 : i < 3 := by
        have := (List.getElem?_eq_some_iff.mp hu).1
        omega
      obtain ⟨huo, hul⟩ := hwsok u (List.mem_of_getElem? hu)
      refine s_forLn (ev_var rfl) (sq_of hw10) (fun j σ' H' => ∃ (ys : List V) (An' : List Ans) (c7 : Option V), σ' = [some (.ref a), some (.ref dr), some mv, some (.ref pw3), some (.str (enc [(M.rst, false)])), some (.ref p5), some (.str (enc u)), c7, none, none, none, none, none, none, none, none] ∧ Xd dr H2 H' ∧ DrAt dr H' ∧ H' pw3 = some (.lst (wsV ws)) ∧ H' p5 = some (.lst ys) ∧ Anss M F H' ys An' ∧ ys.length ≤ 3 * i + j ∧ (∀ an ∈ An, an ∈ An') ∧ ∀ v ∈ ws.take j, ∃ an ∈ An', Shows M u v an) (fun H11 e11 => ⟨ys, An, _, rfl, x10.trans (Xd.ofEx e11), d10.ex e11, e11 _ _ hw10, e11 _ _ h10, hA10.kf (.ofEx e11), by omega, fun an h => h, fun v hv => by simp at hv⟩) (fun j σ' H' _ ⟨_, _, _, _, _, _, h, _⟩ => sq_of h) ?_ ?_
      · rintro j y σ' H11 hy ⟨ys, An', c7, rfl, x11, d11, hw11, h11, hA11, hyl11, hsub, hsh11⟩
        obtain ⟨v, hv, rfl⟩ := wsV_get hy
        have hj3 : j < 3 := by
          have := (List.getElem?_eq_some_iff.mp hv).1
          omega
        obtain ⟨hvo, hvl⟩ := hwsok v (List.mem_of_getElem? hv)
        have hm11 := x11.mach d2 hm2
        refine s_appR (R := fun x H' => ∃ an, AnsF F H' x an ∧ AnsOk M an ∧ Shows M u v an) h11 (ev_var rfl) (er_call (ea_cons (ev_var rfl) (ea_cons (ev_var rfl) (ea_cons (ev_var rfl) ea_nil))) (fun H12 e12 Q12 q12 _ => ⟨M, u, v, mv, rfl, O, ex_mach e12 hm11, Dm, huo, by omega, hvo, by omega, fun an x H13 e13 g1 g2 g3 => q12 x H13 e13 ⟨an, g1.fresh (alF (d11.ex e12) ⟨_, e12 _ _ h11⟩), g2, g3⟩⟩)) (by omega) fun x H12 e12 hx12 => ?_
        obtain ⟨an, g1, g2, g3⟩ := hx12
        have h12 := e12 _ _ h11
        have kf12 : KF F H12 (upd H12 p5 (.lst (ys ++ [x]))) := KF.upd h12 hF5
        refine ⟨ys ++ [x], An' ++ [an], _, rfl, Xd.mut (x11.trans (Xd.ofEx e12)) hp50, (d11.ex e12).upd h5d, ?_, upd_same, ((hA11.kf (.ofEx e12)).kf kf12).snoc (g1.kf kf12) g2, by simp; omega, fun an' h => List.mem_append.mpr (.inl (hsub an' h)), fun z hz => ?_⟩
        · rw [upd_ne (Ne.symm h5w)]
          exact e12 _ _ hw11
        · rw [take_succ hv, List.mem_append] at hz
          rcases hz with z1 | z1
          · obtain ⟨an', b1, b2⟩ := hsh11 z z1
            exact ⟨an', List.mem_append.mpr (.inl b1), b2⟩
          · simp at z1
            subst z1
            exact ⟨an, by simp, g3⟩
      · rintro σ' H11 ⟨ys, An', c7, rfl, x11, d11, hw11, h11, hA11, hyl11, hsub, hsh11⟩
        rw [wsV_len, List.take_length] at hsh11
        rw [wsV_len] at hyl11
        refine ⟨ys, An', _, _, rfl, x11, d11, hw11, h11, hA11, by omega, fun z hz => ?_⟩
        rw [take_succ hu, List.mem_append] at hz
        rcases hz with z1 | z1
        · intro v hv
          obtain ⟨an', b1, b2⟩ := hsh z z1 v hv
          exact ⟨an', hsub an' b1, b2⟩
        · simp at z1
          subst z1
          exact hsh11
    rintro σ' H10 ⟨ys, An, c6, c7, rfl, x10, d10, hw10, h10, hA10, hyl, hsh⟩
    rw [wsV_len, List.take_length] at hsh
    rw [wsV_len] at hyl
    have hyl9 : ys.length ≤ 9 := by omega
    -- four strings more
    refine q_forR1 (n := 4) (ea_cons ev_c ea_nil) (by decide) (fun j σ' H' => ∃ (ys : List V) (An' : List Ans) (c8 : Option V), σ' = [some (.ref a), some (.ref dr), some mv, some (.ref pw3), some (.str (enc [(M.rst, false)])), some (.ref p5), c6, c7, c8, none, none, none, none, none, none, none] ∧ Xd dr H2 H' ∧ DrAt dr H' ∧ H' pw3 = some (.lst (wsV ws)) ∧ H' p5 = some (.lst ys) ∧ Anss M F H' ys An' ∧ ys.length ≤ 9 + j ∧ ∀ an ∈ An, an ∈ An') (fun H11 e11 => ⟨ys, An, none, rfl, x10.trans (Xd.ofEx e11), d10.ex e11, e11 _ _ hw10, e11 _ _ h10, hA10.kf (.ofEx e11), by omega, fun an h => h⟩) ?_ ?_
    · rintro j σ' H11 hj ⟨ys', An', c8, rfl, x11, d11, hw11, h11, hA11, hyl11, hsub⟩
      have hm11 := x11.mach d2 hm2
      refine ⟨.ref p5, rfl, .inl ⟨rfl, _, sq_of h11⟩, ex_string (K := K) (m := 5) (k := M.k) (σ := [some (.ref a), some (.ref dr), some mv, some (.ref pw3), some (.str (enc [(M.rst, false)])), some (.ref p5), c6, c7, some (.int (j : Nat)), none, none, none, none, none, none, none]) (i := 1) rfl (ev_k (te := tVar 2) hm11 (ev_var rfl)) ev_c d11 (by omega) (by omega) (by decide) H11 (Ex.refl _) _ fun v H12 x12 d12 hv => ⟨sz_of le2, fun t ht => ?_⟩⟩
      obtain ⟨s0, rfl, hs0, hsl0⟩ := hv
      have h12 := x12 _ _ h11 h5d
      have et : Ex H12 (upd H12 t (.tup [.str (Str.ofString "apart"), .str (encD s0)])) := Ex.new ht
      have h13 := et _ _ h12
      have kf1 : KF F H11 (upd H12 t (.tup [.str (Str.ofString "apart"), .str (encD s0)])) := (KF.ofXd x12 d11 hFd).trans (.ofEx et)
      have kf2 := KF.upd (o := HO.lst (ys' ++ [V.ref t])) h13 hF5
      have g1 : AnsF F (upd (upd H12 t (.tup [.str (Str.ofString "apart"), .str (encD s0)])) p5 (.lst (ys' ++ [V.ref t]))) (.ref t) (.ap s0) := ⟨t, rfl, kf2.1 _ _ upd_same⟩
      have g2 : AnsOk M (.ap s0) := ⟨hs0, by omega⟩
      refine ⟨p5, ys', .ref t, rfl, rfl, h13, sz_lt (by omega), ys' ++ [.ref t], An' ++ [.ap s0], _, rfl, Xd.mut ((x11.trans x12).trans (Xd.ofEx et)) hp50, (d12.ex et).upd h5d, ?_, upd_same, ((hA11.kf kf1).kf kf2).snoc g1 g2, by simp; omega, fun an h => List.mem_append.mpr (.inl (hsub an h))⟩
      rw [upd_ne (Ne.symm h5w)]
      exact et _ _ (x12 _ _ hw11 hpwd)
    rintro σ' H11 ⟨ys', An', c8, rfl, x11, d11, hw11, h11, hA11, hyl11, hsub⟩
    have hyl13 : ys'.length ≤ 13 := by
      have : ((4 : Int)).toNat = 4 := rfl
      omega
    have hm11 := x11.mach d2 hm2
    have hsh' : ∀ u ∈ ws, ∀ v ∈ ws, ∃ an ∈ An', Shows M u v an := fun u hu v hv => by
      obtain ⟨an, b1, b2⟩ := hsh u hu v hv
      exact ⟨an, hsub an b1, b2⟩
    have hAl : ys'.length = An'.length := Paired.len hA11.1
    have hH : ∀ {Hx : Hp}, Ex H11 Hx → True := fun _ => trivial
    -- no pair is told both, each is told one
    refine q_forLn (ev_var rfl) (sq_of hw11) (fun i σ' H' => ∃ (c6 c7 c9 c10 : Option V), σ' = [some (.ref a), some (.ref dr), some mv, some (.ref pw3), some (.str (enc [(M.rst, false)])), some (.ref p5), c6, c7, c8, c9, c10, none, none, none, none, none] ∧ Ex H11 H') (fun H12 e12 => ⟨_, _, _, _, rfl, e12⟩) (fun i σ' H' _ ⟨_, _, _, _, _, e⟩ => sq_of (e _ _ hw11)) ?_ ?_
    · rintro i x σ' H12 hx ⟨c6', c7', c9, c10, rfl, e12⟩
      obtain ⟨u, hu, rfl⟩ := wsV_get hx
      have hum := List.mem_of_getElem? hu
      obtain ⟨huo, hul⟩ := hwsok u hum
      refine s_forLn (ev_var rfl) (sq_of (e12 _ _ hw11)) (fun j σ' H' => ∃ (c7 c9 c10 : Option V), σ' = [some (.ref a), some (.ref dr), some mv, some (.ref pw3), some (.str (enc [(M.rst, false)])), some (.ref p5), some (.str (enc u)), c7, c8, c9, c10, none, none, none, none, none] ∧ Ex H11 H') (fun H13 e13 => ⟨_, _, _, rfl, e12.trans e13⟩) (fun j σ' H' _ ⟨_, _, _, _, e⟩ => sq_of (e _ _ hw11)) ?_ ?_
      · rintro j y σ' H13 hy ⟨c7'', c9', c10', rfl, e13⟩
        obtain ⟨v, hv, rfl⟩ := wsV_get hy
        have hvm := List.mem_of_getElem? hv
        obtain ⟨hvo, hvl⟩ := hwsok v hvm
        refine q_asgLR (R := fun i z _ => ∃ r, z = .str r ∧ Says M u v r (An'.getD i (.ap []))) (lr_L _ (fun i => ⟨fun _ _ _ _ h => h, fun _ _ _ _ _ _ h => h⟩) (ev_var rfl) (sq_of (e13 _ _ h11)) (by omega) (fun i x H14 e14 hi => ?_)) fun p10 H14 zs hp10 e14 h14 hP14 => ?_
        · obtain ⟨an, han, hf⟩ := Paired.getL hA11.1 hi
          rw [getD_of han]
          exact er_call (ea_cons (ev_var rfl) (ea_cons (ev_var rfl) (ea_cons (ev_var rfl) (ea_cons (ev_var rfl) ea_nil)))) (fun H15 e15 Q15 q15 _ => ⟨M, u, v, an, mv, x, rfl, O, ex_mach ((e13.trans e14).trans e15) hm11, huo, hvo, by omega, by omega, ex_ans ((e13.trans e14).trans e15) hf.at, hA11.2 an (List.mem_of_getElem? han), fun r hr H16 e16 => q15 _ H16 e16 ⟨r, rfl, hr⟩⟩)
        · obtain ⟨rs, rfl, hrs⟩ := strs_pair (H := H14) (R := fun r i => Says M u v r (An'.getD i (.ap []))) hP14
          rw [hAl] at hrs
          have hrl : rs.length = An'.length := by
            have := Paired.len hrs
            rwa [List.length_range] at this
          have hS := paired_range (S := fun r an => Says M u v r an) (.ap []) hrl hrs
          have hno := says_ok O hA11.2 hS
          have hso := says_some hS (hsh' u hum v hvm)
          refine q_when (b := false) (et_is (et_and (et_test (ev_op ev_c (ev_var rfl) (rv_isL (sq_of h14) rfl (flat_strs rs)))) (fun _ => et_test (ev_op ev_c (ev_var rfl) (rv_isL (sq_of h14) rfl (flat_strs rs))))) ?_) (fun z => by cases z) (fun _ H15 e15 => ?_)
          · rw [inV_strs, inV_strs, Bool.and_eq_false_iff]
            by_cases q : Str.ofString "equal" ∈ rs
            · exact .inr (decide_eq_false fun z => hno ⟨q, z⟩)
            · exact .inl (decide_eq_false q)
          refine s_when (b := false) (et_is (et_and (et_test (ev_op ev_c (ev_var rfl) (rv_niL (sq_of (e15 _ _ h14)) rfl (flat_strs rs)))) (fun _ => et_test (ev_op ev_c (ev_var rfl) (rv_niL (sq_of (e15 _ _ h14)) rfl (flat_strs rs))))) ?_) (fun z => by cases z) (fun _ H16 e16 => ⟨_, _, _, rfl, ((e13.trans e14).trans e15).trans e16⟩)
          rw [inV_strs, inV_strs, Bool.and_eq_false_iff]
          rcases hso with z | z
          · exact .inl (by rw [decide_eq_true z]; rfl)
          · exact .inr (by rw [decide_eq_true z]; rfl)
      · rintro σ' H13 ⟨c7'', c9', c10', rfl, e13⟩
        exact ⟨_, _, _, _, rfl, e13⟩
    rintro σ' H12 ⟨c6', c7', c9, c10, rfl, e12⟩
    have hm12 := ex_mach e12 hm11
    have hw12 := e12 _ _ hw11
    -- the orders
    refine q_orders (M := M) (ev_var rfl) (sq_of hw12) (by omega) (fun u H13 e13 hu => ?_) fun p12 H13 ys12 An12 hp12 e13 h13 hA13 h64 hyl12 => ?_
    · obtain ⟨huo, hul⟩ := hwsok u hu
      exact er_call (ea_cons (ev_var rfl) (ea_cons (ev_var rfl) ea_nil)) (fun H14 e14 Q14 q14 _ => ⟨M, u, mv, rfl, O, ex_mach (e13.trans e14) hm12, Dm, huo, hul, fun an x H15 e15 g1 g2 g3 => q14 x H15 e15 ⟨an, g1.sub (fun a' ⟨o, ho⟩ => ⟨o, e14 _ _ ho⟩), g2, g3⟩⟩)
    have hAl12 : ys12.length = An12.length := Paired.len hA13.1
    have e1213 := e12.trans e13
    -- the finite ones twice more
    refine q_forNLn (el_listP (ev_var rfl) h13) (fun q i σ' H' => ∃ (ys : List V) (An : List OAns) (c9 : Option V), σ' = [some (.ref a), some (.ref dr), some mv, some (.ref pw3), some (.str (enc [(M.rst, false)])), some (.ref p5), c6', c7', c8, c9, c10, none, some (.ref p12), none, none, none] ∧ (∀ x o, H12 x = some o → H' x = some o) ∧ H' q = some (.lst ys12) ∧ q ≠ p12 ∧ H' p12 = some (.lst ys) ∧ OAnss M (fun a => a = p12) H' ys12 An12 ∧ OAnss M (fun a => a = p12) H' ys An ∧ ys.length ≤ 3 + 2 * i) (fun q H14 hq e14 h14 => ⟨ys12, An12, _, rfl, e13.trans e14, h14, (fun z => by rw [z, h13] at hq; cases hq), e14 _ _ h13, hA13.kf (.ofEx e14), hA13.kf (.ofEx e14), by omega⟩) (fun q i σ' H' _ ⟨_, _, _, _, _, h, _⟩ => sq_of h) ?_ ?_
    · rintro q i x σ' H14 hx ⟨ys, An, c9', rfl, e14, hq14, hqp, h14, hA0, hA14, hyl14⟩
      obtain ⟨an, han, hf⟩ := Paired.getL hA0.1 hx
      have hanm := List.mem_of_getElem? han
      have hok := hA0.2 an hanm
      have hi3 : i < 3 := by
        have := (List.getElem?_eq_some_iff.mp hx).1
        omega
      have e14' : Ex H12 H14 := e14
      cases an with
      | fin n wss ss =>
        obtain ⟨pp, pa, pb, rfl, hpp, hpa, hna, hpb, hnb⟩ := hf
        obtain ⟨o1, o2, o3, o4, o5⟩ := hok
        have hn64 := h64 _ hanm n wss ss rfl
        refine s_when (b := true) (et_is (et_eq (ev_ixT (ev_var rfl) ev_c (st_of hpp) rfl) ev_c rfl) (by decide +kernel)) (fun _ H15 e15 => ?_) (fun z => by cases z)
        refine q_appU (ys := [.str (Str.ofString "finite"), .int ((n * 2 : Nat) : Nat), .ref pa, .ref pb]) (e15 _ _ h14) (ev_var rfl) (eu_tup (ea_cons ev_c (ea_cons (ev_is (ev_mul (i := ((n : Nat) : Int)) (j := 2) (ev_ixT (ev_var rfl) ev_c (st_of (e15 _ _ hpp)) rfl) ev_c (by unfold CMul; omega)) (congrArg V.int (by omega))) (ea_cons (ev_ixT (ev_var rfl) ev_c (st_of (e15 _ _ hpp)) rfl) (ea_cons (ev_ixT (ev_var rfl) ev_c (st_of (e15 _ _ hpp)) rfl) ea_nil)))) (show 4 ≤ 100000 by decide)) (by omega) fun t H16 ht e16 h16 => ?_
        have e1416 := e15.trans e16
        have h16p := e1416 _ _ h14
        have kf1 : KF (fun a => a = p12) H14 (upd H16 p12 (.lst (ys ++ [.ref t]))) := (KF.ofEx e1416).trans (KF.upd h16p rfl)
        have g1 : OAnsF (fun a => a = p12) (upd H16 p12 (.lst (ys ++ [.ref t]))) (.ref t) (.fin (n * 2) wss ss) := ⟨t, pa, pb, rfl, (KT.lst h16p) _ _ h16, kf1.2 _ _ hna hpa, hna, kf1.2 _ _ hnb hpb, hnb⟩
        have g2 : OAnsOk M (.fin (n * 2) wss ss) := ⟨by omega, by omega, o3, o4, o5⟩
        have hA16 := (hA14.kf kf1).snoc g1 g2
        have hA016 := hA0.kf kf1
        have hpp16 := kf1.1 _ _ hpp
        have E16 : Ex H12 (upd H16 p12 (.lst (ys ++ [.ref t]))) := Ex.mut (e14'.trans e1416) hp12
        have hq16 : (upd H16 p12 (.lst (ys ++ [.ref t]))) q = some (.lst ys12) := by rw [upd_ne hqp]; exact e1416 _ _ hq14
        have hp16 : (upd H16 p12 (.lst (ys ++ [.ref t]))) p12 = some (.lst (ys ++ [.ref t])) := upd_same
        have hpa16 := kf1.2 _ _ hna hpa
        generalize (upd H16 p12 (.lst (ys ++ [.ref t]))) = H17 at hA16 hA016 hpp16 E16 hq16 hp16 hpa16
        refine s_appR hp16 (ev_var rfl) (er_tup4L (x1 := .str (Str.ofString "finite")) (x2 := .int 1) (x3 := .ref pa) ev_c ev_c (ev_ixT (ev_var rfl) ev_c (st_of hpp16) rfl)) (by simp; omega) fun v H18 e18 hv => ?_
        obtain ⟨p1, b1, rfl, hp1, hb1, hb10⟩ := hv
        have h18p := e18 _ _ hp16
        have kf2 : KF (fun a => a = p12) H17 (upd H18 p12 (.lst (ys ++ [.ref t] ++ [.ref p1]))) := (KF.ofEx e18).trans (KF.upd h18p rfl)
        have kf3 : KF (fun a => a = p12) H18 (upd H18 p12 (.lst (ys ++ [.ref t] ++ [.ref p1]))) := KF.upd h18p rfl
        have hb1p : ¬ b1 = p12 := fun z => by rw [z, hp16] at hb10; cases hb10
        have g3 : OAnsF (fun a => a = p12) (upd H18 p12 (.lst (ys ++ [.ref t] ++ [.ref p1]))) (.ref p1) (.fin 1 wss []) := ⟨p1, pa, b1, rfl, kf3.1 _ _ hp1, kf2.2 _ _ hna hpa16, hna, kf3.2 _ _ hb1p hb1, hb1p⟩
        have g4 : OAnsOk M (.fin 1 wss []) := ⟨by omega, by omega, o3, o4, fun s hs => by simp at hs⟩
        refine ⟨_, _, _, rfl, Ex.mut (E16.trans e18) hp12, ?_, hqp, upd_same, hA016.kf kf2, (hA16.kf kf2).snoc g3 g4, by simp; omega⟩
        rw [upd_ne hqp]
        exact e18 _ _ hq16
      | endl s0 m e h0 =>
        obtain ⟨pp, pa, rfl, hpp, hpa⟩ := hf
        refine s_when (b := false) (et_is (et_eq (ev_ixT (ev_var rfl) ev_c (st_of hpp) rfl) ev_c rfl) (by decide +kernel)) (fun z => by cases z) (fun _ H15 e15 => ?_)
        exact ⟨ys, An, _, rfl, e14'.trans e15, e15 _ _ hq14, hqp, e15 _ _ h14, hA0.kf (.ofEx e15), hA14.kf (.ofEx e15), by omega⟩
      | opn =>
        obtain ⟨pp, rfl, hpp⟩ := hf
        refine s_when (b := false) (et_is (et_eq (ev_ixT (ev_var rfl) ev_c (st_of hpp) rfl) ev_c rfl) (by decide +kernel)) (fun z => by cases z) (fun _ H15 e15 => ?_)
        exact ⟨ys, An, _, rfl, e14'.trans e15, e15 _ _ hq14, hqp, e15 _ _ h14, hA0.kf (.ofEx e15), hA14.kf (.ofEx e15), by omega⟩
    rintro q σ' H14 ⟨ys, An, c9', rfl, e14, hq14, hqp, h14, hA0, hA14, hyl14⟩
    have e14' : Ex H12 H14 := e14
    have hm14 := ex_mach e14' hm12
    have hw14 := e14' _ _ hw12
    have hys14 : ys.length ≤ 9 := by omega
    have hAl14 : ys.length = An.length := Paired.len hA14.1
    -- one order each
    refine q_forLn (ev_var rfl) (sq_of hw14) (fun i σ' H' => ∃ (c9 c11 c13 c14 : Option V), σ' = [some (.ref a), some (.ref dr), some mv, some (.ref pw3), some (.str (enc [(M.rst, false)])), some (.ref p5), c6', c7', c8, c9, c10, c11, some (.ref p12), c13, c14, none] ∧ Ex H14 H') (fun H15 e15 => ⟨_, _, _, _, rfl, e15⟩) (fun i σ' H' _ ⟨_, _, _, _, _, e⟩ => sq_of (e _ _ hw14)) ?_ ?_
    · rintro i x σ' H15 hx ⟨c9'', c11, c13, c14, rfl, e15⟩
      obtain ⟨u, hu, rfl⟩ := wsV_get hx
      obtain ⟨huo, hul⟩ := hwsok u (List.mem_of_getElem? hu)
      refine q_asgLR (R := fun i z Hz => ∃ r, TupR [.str r, ys.getD i .non] z Hz ∧ OSays M u r (An.getD i .opn)) (lr_L _ (fun i => ⟨fun v Ha Hb e ⟨r, g1, g2⟩ => ⟨r, g1.kt (.ofEx e), g2⟩, fun v Ha Dl acc acc' hD ⟨r, g1, g2⟩ => ⟨r, g1.kt (KT.lst hD), g2⟩⟩) (ev_var rfl) (sq_of (e15 _ _ h14)) (by omega) (fun i x H16 e16 hi => ?_)) fun p13 H16 zs hp13 e16 h16 hP16 => ?_
      · obtain ⟨an, han, hf⟩ := Paired.getL hA14.1 hi
        rw [getD_of han, getD_of hi]
        refine (er_t2 (R1 := fun v _ => ∃ r, v = .str r ∧ OSays M u r an) (R2 := fun v _ => v = x) (fun _ _ _ _ h => h) (fun _ _ _ _ h => h) (er_call (ea_cons (ev_var rfl) (ea_cons (ev_var rfl) (ea_cons (ev_var rfl) ea_nil))) (fun H17 e17 Q17 q17 _ => ⟨M, u, an, mv, x, rfl, O, ex_mach ((e15.trans e16).trans e17) hm14, huo, by omega, ex_oans ((e15.trans e16).trans e17) hf.at, hA14.2 an (List.mem_of_getElem? han), fun r hr H18 e18 => q17 _ H18 e18 ⟨r, rfl, hr⟩⟩)) (Ev.toR (ev_var rfl))).imp fun v H17 _ hv => ?_
        obtain ⟨p, v1, v2, rfl, hp, ⟨r, rfl, hr⟩, rfl⟩ := hv
        exact ⟨r, ⟨p, rfl, hp⟩, hr⟩
      obtain ⟨es, hes1, hes2⟩ := told_es hP16
      have hzl : zs.length = ys.length := by
        have := Paired.len hP16
        rw [List.length_range] at this
        exact this.symm
      have eget : ∀ (n : Nat) (e : V × V), es[n]? = some e → n < ys.length ∧ ∃ r, e = (V.str r, ys.getD n .non) ∧ OSays M u r (An.getD n .opn) := fun n e he => by
        obtain ⟨j, hj, g⟩ := Paired.getL hes2 he
        have hlt := (List.getElem?_eq_some_iff.mp hj).1
        rw [List.length_range] at hlt
        rw [List.getElem?_range hlt] at hj
        have := Option.some.inj hj
        subst this
        exact ⟨hlt, g⟩
      have hel : es.length = ys.length := by
        have := Paired.len hes2
        rwa [List.length_range] at this
      -- the numbers of those shown finite
      refine q_asgL (el_lcLP (fun n => decide ((es.getD n (.non, .non)).1 = V.str (Str.ofString "finite"))) (fun n => .int (numOf (An.getD n .opn))) (ev_var rfl) (sq_of h16) hes1 (by omega) (fun n e H17 e17 he => ?_) (fun n e H17 e17 he hfn => ?_)) fun p14 H17 hp14 e17 h17 => ?_
      · obtain ⟨_, r, rfl, _⟩ := eget n e he
        rw [getD_of he]
        exact et_eq (ev_var rfl) ev_c rfl
      · obtain ⟨hlt, r, rfl, hr⟩ := eget n e he
        rw [getD_of he] at hfn
        have hfn2 := V.str.inj (of_decide_eq_true hfn)
        obtain ⟨m, wss, ss, han, _⟩ := fin_of hr hfn2
        obtain ⟨y, hy⟩ : ∃ y, ys[n]? = some y := ⟨_, List.getElem?_eq_getElem hlt⟩
        obtain ⟨an', han', hf⟩ := Paired.getL hA14.1 hy
        rw [getD_of han'] at han
        subst han
        rw [getD_of han', getD_of hy]
        obtain ⟨pp, pa, pb, rfl, hpp, _⟩ := hf
        exact ev_ixT (ev_var rfl) ev_c (st_of (((e15.trans e16).trans e17) _ _ hpp)) rfl
      obtain ⟨nums, hnums⟩ : ∃ nums : List Int, nums = ((List.range zs.length).filter fun n => decide ((es.getD n (.non, .non)).1 = V.str (Str.ofString "finite"))).map fun n => numOf (An.getD n .opn) := ⟨_, rfl⟩
      have hgn : given zs.length (fun n => decide ((es.getD n (.non, .non)).1 = V.str (Str.ofString "finite"))) (fun n => .int (numOf (An.getD n .opn))) = nums.map V.int := by
        rw [hnums, List.map_map]
        rfl
      rw [hgn] at h17
      have hnum : ∀ m ∈ nums, ∃ n0 : Nat, m = (n0 : Int) ∧ Order M u n0 := fun m hm => by
        rw [hnums] at hm
        obtain ⟨n, hn, rfl⟩ := List.mem_map.mp hm
        obtain ⟨hn1', hn2⟩ := List.mem_filter.mp hn
        have hn1' := List.mem_range.mp hn1'
        obtain ⟨e, he⟩ : ∃ e, es[n]? = some e := ⟨_, List.getElem?_eq_getElem (by omega)⟩
        obtain ⟨_, r, rfl, hr⟩ := eget n e he
        rw [getD_of he] at hn2
        obtain ⟨n0, wss, ss, han, ho⟩ := fin_of hr (V.str.inj (of_decide_eq_true hn2))
        rw [han]
        exact ⟨n0, rfl, ho⟩
      by_cases hne : nums = []
      · subst hne
        refine s_when (b := false) (et_is (et_and (a := false) (b := false) (et_is (et_truL (ev_var rfl) h17) rfl) (fun z => by cases z)) rfl) (fun z => by cases z) (fun _ H18 e18 => ?_)
        exact ⟨_, _, _, _, rfl, ((e15.trans e16).trans e17).trans e18⟩
      · obtain ⟨m0, r0, hm0⟩ : ∃ m0 r0, nums = m0 :: r0 := by
          cases nums with
          | nil => exact absurd rfl hne
          | cons b c => exact ⟨b, c, rfl⟩
        obtain ⟨n0, rfl, ho0⟩ := hnum m0 (by rw [hm0]; simp)
        have hall : ∀ m ∈ nums, m = ((n0 : Nat) : Int) := fun m hm => by
          obtain ⟨n1', rfl, ho1⟩ := hnum m hm
          rw [Order.unique O ho1 ho0]
        have hpos : 0 < nums.length := by rw [hm0]; simp
        have e1617 := e15.trans (e16.trans e17)
        refine s_when (b := false) (et_is (et_and (b := false) (et_truL (ev_var rfl) h17) (fun _ => et_is (et_or (a := false) (b := false) (et_is (et_test (ev_opL (xs := es.map (·.1)) ev_c ?_ (fun p H18 h18 _ => rv_isL (sq_of h18) rfl ?_))) ?_) (fun _ => et_is (et_ne (ev_min (ev_var rfl) h17 hpos hall) (ev_max (ev_var rfl) h17 hpos hall) rfl) (by simp))) rfl)) (by simp)) (fun z => by cases z) (fun _ H18 e18 => ⟨_, _, _, _, rfl, e1617.trans e18⟩)
        · have e0 : es.map (·.1) = given zs.length (fun _ => true) (fun n => (es.getD n (.non, .non)).1) := by
            rw [hzl, ← hel]
            exact (given_map es (.non, .non) (fun e => e.1)).symm
          rw [e0]
          refine el_lcLP (fun _ => true) _ (ev_var rfl) (sq_of (e17 _ _ h16)) (Paired.imp (fun _ _ ⟨p, g1, g2⟩ => ⟨p, g1, ex_t e17 g2⟩) hes1) (by omega) (fun _ _ _ _ _ => et_yes) (fun n e H18 e18 he _ => ?_)
          rw [getD_of he]
          exact ev_var rfl
        · rw [List.all_eq_true]
          intro y hy
          obtain ⟨e, he, rfl⟩ := List.mem_map.mp hy
          obtain ⟨n, hn⟩ := List.getElem?_of_mem he
          obtain ⟨_, r, rfl, _⟩ := eget n e hn
          rfl
        · cases hb : inV (V.str (Str.ofString "endless")) (es.map (·.1)) with
          | false => rfl
          | true =>
            exfalso
            unfold inV at hb
            rw [List.any_eq_true] at hb
            obtain ⟨y, hy, hyy⟩ := hb
            obtain ⟨e, he, rfl⟩ := List.mem_map.mp hy
            obtain ⟨n, hn⟩ := List.getElem?_of_mem he
            obtain ⟨_, r, rfl, hr⟩ := eget n e hn
            have hre : r = Str.ofString "endless" := by simpa [eqV] using hyy
            exact endl_of hr hre n0 ho0
    · rintro σ' H15 ⟨c9'', c11, c13, c14, rfl, e15⟩
      refine s_ret ev_c fun H16 e16 => k H16 fun x o hx => ?_
      have hne : x ≠ dr := fun z => by rw [z, hdr] at hx; cases hx
      exact e16 _ _ (e15 _ _ (e14' _ _ (e12 _ _ (x11 _ _ (x2 _ _ (e1 _ _ hx) hne) hne))))
end
end LT

set_option Elab.async false
set_option linter.all false
set_option maxRecDepth 100000
set_option maxHeartbeats 0
open PySem PySem.W PySem.Calls PyProof.Rows
theorem PySem.Challenge.cw_leafturner_k87_whole_never_both_holds : PySem.Challenge.rw_leafturner_k87_whole_never_both.Holds := by
  w_on; o_law
  refine HandSHeadRun.head_imp (r := OpenLaw.row PySem.Challenge.rw_leafturner_k87_whole_never_both) (q := view (OpenLaw.row PySem.Challenge.rw_leafturner_k87_whole_never_both).prog [0, 119]) (H := LT.hk) (ob := LT.ob) (M := 6000) (loose := LT.loose) (d := HandSHeadRun.topDef (OpenLaw.row PySem.Challenge.rw_leafturner_k87_whole_never_both).prog 119) (kwd := []) LT.ob_eq
    LT.run (by kernel_rfl) (by kernel_rfl) (by kernel_rfl) (by rfl) (by first | assumption | decide +kernel) (by decide +kernel) ⟨rfl, rfl, rfl, rfl, rfl, by decide +kernel⟩ ?hw ?hc
  case hw => w_witness2
  case hc =>
    refine L2.walk_ofE (l := PySem.Challenge.rw_leafturner_k87_whole_never_both) (n := 63) (k := 12) (x := "_law_script") (CX := L2.CX0) rfl (by decide) (by kernel_rfl) ⟨rfl, by decide, by decide⟩ ?F (fun _ _ _ _ z => z)
    intro w mg fa h Y G hmg0
    obtain ⟨K, KX, c⟩ := Y
    have hmg : mg ("law" : PySem.Str) = some (.ref fa) := by
      have e : (HandSHeadRun.topDef (OpenLaw.row PySem.Challenge.rw_leafturner_k87_whole_never_both).prog 119).name = ("law" : PySem.Str) := by kernel_rfl
      rw [← e]
      exact hmg0
    have T : LT.Tx K mg := LT.tx_of KX G c
    have e := hmg.symm.trans (LT.T_law T)
    cases e
    have b := L2.FunD.bindsA (ps := ["_law_script"]) (LT.F_law T) fun _ _ _ _ _ _ us hl => match us, hl with | [_], _ => rfl
    exact ⟨K, _, LT.spLaw K, KX, fun s v => b s [v] rfl, fun H a ns hl _ hS => ⟨a, ns, rfl, hS, hl, fun _ _ => rfl⟩, fun base _ _ => LT.ok_law T⟩
