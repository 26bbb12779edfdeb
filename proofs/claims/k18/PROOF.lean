import PyProof.Rows.All
import Wide.All
import OpenK.AllK
import Wide.FinOn
import KE.KStateDown
import KE.GoesEnum
import HandS.ForMost
import HandS.Exc
import HandS.Defaults
import HandS.IsInst
import HandS.DictComp
import HandS.Conv
import HandS.OwnEq
import HandS.Walk
import HandS.Lambda
import HandS.Nested
import HandS.Head0
import HandS.Head1
import HandS.Head2
import HandS.HeadHook1
import HandS.HeadHook2
import HandS.HeadHook3
import HandS.HeadHook4
import HandS.HeadWalk
import PySem.Challenge.RW_endlessplane_k18_whole_recolourings
set_option Elab.async false
set_option linter.all false
set_option maxRecDepth 100000
set_option maxHeartbeats 4000000
namespace EP
open PySem PySem.Spec PyProof.Rows L2
def topS (i : Nat) : Stmt := PySem.Challenge.pw_endlessplane_k18_whole_recolourings.main.body.getD i (.Pass ⟨0, 0, 0, 0⟩)
abbrev s_is_integer : Stmt := topS 3
abbrev s_is_between : Stmt := topS 4
abbrev s_is_colour : Stmt := topS 5
abbrev s_is_list : Stmt := topS 6
abbrev s_check_integer : Stmt := topS 14
abbrev s_check_remainder : Stmt := topS 15
abbrev s_greatest_divisor : Stmt := topS 17
abbrev s_least_multiple : Stmt := topS 18
abbrev s_inverse : Stmt := topS 19
abbrev s_remainder_of : Stmt := topS 20
abbrev s_is_remainder : Stmt := topS 21
abbrev s_both_remainders : Stmt := topS 22
abbrev s_is_shift : Stmt := topS 24
abbrev s_check_cell : Stmt := topS 25
abbrev s_check_basis : Stmt := topS 26
abbrev s_L_init : Stmt := inClass (topS 27) 0
abbrev s_L_area : Stmt := inClass (topS 27) 4
abbrev s_L_place : Stmt := inClass (topS 27) 5
abbrev s_L_places : Stmt := inClass (topS 27) 7
abbrev s_check_lattice : Stmt := topS 28
abbrev s_common_lattice : Stmt := topS 29
abbrev s_is_row : Stmt := topS 33
abbrev s_check_rows : Stmt := topS 34
abbrev s_check_size : Stmt := topS 35
abbrev s_sign_at : Stmt := topS 36
abbrev s_is_period_of : Stmt := topS 37
abbrev s_divisors_of : Stmt := topS 38
abbrev s_level_period : Stmt := topS 39
abbrev s_least_lattice : Stmt := topS 40
abbrev s_normal_rows : Stmt := topS 41
abbrev s_rows_by : Stmt := topS 42
abbrev s_C_init : Stmt := inClass (topS 43) 0
abbrev s_C_eq : Stmt := inClass (topS 43) 1
abbrev s_C_sign : Stmt := inClass (topS 43) 2
abbrev s_C_colour : Stmt := inClass (topS 43) 3
abbrev s_C_lattice : Stmt := inClass (topS 43) 4
abbrev s_C_least : Stmt := inClass (topS 43) 5
abbrev s_C_in_normal : Stmt := inClass (topS 43) 7
abbrev s_check_colour : Stmt := topS 44
abbrev s_plain : Stmt := topS 45
abbrev s_woven : Stmt := topS 46
abbrev s_is_colour_map : Stmt := topS 50
abbrev s_look_at_carpet : Stmt := topS 51
abbrev s_led_by : Stmt := topS 52
abbrev s_recoloured : Stmt := topS 53
abbrev s_lattice_of_all : Stmt := topS 54
abbrev s_laying_lattice : Stmt := topS 55
abbrev s_pairs_met : Stmt := topS 56
abbrev s_recolouring : Stmt := topS 57
abbrev s_law_pool : Stmt := topS 59
abbrev s_law_take : Stmt := topS 60
abbrev s_law_one : Stmt := topS 61
abbrev s_law_rounds : Stmt := topS 62
abbrev s_law_token : Stmt := topS 63
abbrev s_law_made : Stmt := topS 64
abbrev s_law_colour : Stmt := topS 65
abbrev s_law_is_period : Stmt := topS 66
abbrev s_law_slants : Stmt := topS 67
abbrev s_law_lattice : Stmt := topS 68
abbrev s_law_places : Stmt := topS 69
abbrev s_law_second : Stmt := topS 70
abbrev s_law_due : Stmt := topS 71
abbrev s_law : Stmt := topS 72
theorem sc_is_integer : FnScope ["value"] ["value"] (defScope s_is_integer) := ⟨rfl, rfl, rfl, by decide +kernel, rfl, by decide +kernel, by decide +kernel⟩
theorem sc_is_between : FnScope ["value", "least", "most"] ["value", "least", "most"] (defScope s_is_between) := ⟨rfl, rfl, rfl, by decide +kernel, rfl, by decide +kernel, by decide +kernel⟩
theorem sc_is_colour : FnScope ["value"] ["value"] (defScope s_is_colour) := ⟨rfl, rfl, rfl, by decide +kernel, rfl, by decide +kernel, by decide +kernel⟩
theorem sc_is_list : FnScope ["value"] ["value"] (defScope s_is_list) := ⟨rfl, rfl, rfl, by decide +kernel, rfl, by decide +kernel, by decide +kernel⟩
theorem sc_check_integer : FnScope ["number"] ["number"] (defScope s_check_integer) := ⟨rfl, rfl, rfl, by decide +kernel, rfl, by decide +kernel, by decide +kernel⟩
theorem sc_check_remainder : FnScope ["r", "p"] ["r", "p"] (defScope s_check_remainder) := ⟨rfl, rfl, rfl, by decide +kernel, rfl, by decide +kernel, by decide +kernel⟩
theorem sc_greatest_divisor : FnScope ["one", "other", "left", "rest"] ["one", "other"] (defScope s_greatest_divisor) := ⟨rfl, rfl, rfl, by decide +kernel, rfl, by decide +kernel, by decide +kernel⟩
theorem sc_least_multiple : FnScope ["one", "other", "number"] ["one", "other"] (defScope s_least_multiple) := ⟨rfl, rfl, rfl, by decide +kernel, rfl, by decide +kernel, by decide +kernel⟩
theorem sc_inverse : FnScope ["number", "modulus", "left", "rest", "near", "far", "times"] ["number", "modulus"] (defScope s_inverse) := ⟨rfl, rfl, rfl, by decide +kernel, rfl, by decide +kernel, by decide +kernel⟩
theorem sc_remainder_of : FnScope ["a", "b", "r", "p", "divisor", "modulus"] ["a", "b", "r", "p"] (defScope s_remainder_of) := ⟨rfl, rfl, rfl, by decide +kernel, rfl, by decide +kernel, by decide +kernel⟩
theorem sc_is_remainder : FnScope ["value", "part"] ["value"] (defScope s_is_remainder) := ⟨rfl, rfl, rfl, by decide +kernel, rfl, by decide +kernel, by decide +kernel⟩
theorem sc_both_remainders : FnScope ["one", "other", "found", "modulus"] ["one", "other"] (defScope s_both_remainders) := ⟨rfl, rfl, rfl, by decide +kernel, rfl, by decide +kernel, by decide +kernel⟩
theorem sc_is_shift : FnScope ["value"] ["value"] (defScope s_is_shift) := ⟨rfl, rfl, rfl, by decide +kernel, rfl, by decide +kernel, by decide +kernel⟩
theorem sc_check_cell : FnScope ["value"] ["value"] (defScope s_check_cell) := ⟨rfl, rfl, rfl, by decide +kernel, rfl, by decide +kernel, by decide +kernel⟩
theorem sc_check_basis : FnScope ["a", "b", "d"] ["a", "b", "d"] (defScope s_check_basis) := ⟨rfl, rfl, rfl, by decide +kernel, rfl, by decide +kernel, by decide +kernel⟩
theorem sc_L_init : FnScope ["self", "a", "b", "d"] ["self", "a", "b", "d"] (defScope s_L_init) := ⟨rfl, rfl, rfl, by decide +kernel, rfl, by decide +kernel, by decide +kernel⟩
theorem sc_L_area : FnScope ["self"] ["self"] (defScope s_L_area) := ⟨rfl, rfl, rfl, by decide +kernel, rfl, by decide +kernel, by decide +kernel⟩
theorem sc_L_place : FnScope ["self", "cell", "x", "y", "many"] ["self", "cell"] (defScope s_L_place) := ⟨rfl, rfl, rfl, by decide +kernel, rfl, by decide +kernel, by decide +kernel⟩
theorem sc_L_places : FnScope ["self", "y", "x"] ["self"] (defScope s_L_places) := ⟨rfl, rfl, rfl, by decide +kernel, rfl, by decide +kernel, by decide +kernel⟩
theorem sc_check_lattice : FnScope ["value"] ["value"] (defScope s_check_lattice) := ⟨rfl, rfl, rfl, by decide +kernel, rfl, by decide +kernel, by decide +kernel⟩
theorem sc_common_lattice : FnScope ["one", "other", "up", "first", "second", "share", "many", "found"] ["one", "other"] (defScope s_common_lattice) := ⟨rfl, rfl, rfl, by decide +kernel, rfl, by decide +kernel, by decide +kernel⟩
theorem sc_is_row : FnScope ["value", "many", "sign"] ["value", "many"] (defScope s_is_row) := ⟨rfl, rfl, rfl, by decide +kernel, rfl, by decide +kernel, by decide +kernel⟩
theorem sc_check_rows : FnScope ["rows", "a", "d", "index", "row"] ["rows", "a", "d"] (defScope s_check_rows) := ⟨rfl, rfl, rfl, by decide +kernel, rfl, by decide +kernel, by decide +kernel⟩
theorem sc_check_size : FnScope ["many"] ["many"] (defScope s_check_size) := ⟨rfl, rfl, rfl, by decide +kernel, rfl, by decide +kernel, by decide +kernel⟩
theorem sc_sign_at : FnScope ["lattice", "rows", "cell", "x", "y"] ["lattice", "rows", "cell"] (defScope s_sign_at) := ⟨rfl, rfl, rfl, by decide +kernel, rfl, by decide +kernel, by decide +kernel⟩
theorem sc_is_period_of : FnScope ["lattice", "rows", "shift", "x", "y", "places", "place"] ["lattice", "rows", "shift"] (defScope s_is_period_of) := ⟨rfl, rfl, rfl, by decide +kernel, rfl, by decide +kernel, by decide +kernel⟩
theorem sc_divisors_of : FnScope ["number", "one"] ["number"] (defScope s_divisors_of) := ⟨rfl, rfl, rfl, by decide +kernel, rfl, by decide +kernel, by decide +kernel⟩
theorem sc_level_period : FnScope ["lattice", "rows", "a"] ["lattice", "rows"] (defScope s_level_period) := ⟨rfl, rfl, rfl, by decide +kernel, rfl, by decide +kernel, by decide +kernel⟩
theorem sc_least_lattice : FnScope ["lattice", "rows", "a", "d", "b"] ["lattice", "rows"] (defScope s_least_lattice) := ⟨rfl, rfl, rfl, by decide +kernel, rfl, by decide +kernel, by decide +kernel⟩
theorem sc_normal_rows : FnScope ["lattice", "rows", "least", "found", "y", "x"] ["lattice", "rows", "least"] (defScope s_normal_rows) := ⟨rfl, rfl, rfl, by decide +kernel, rfl, by decide +kernel, by decide +kernel⟩
theorem sc_rows_by : FnScope ["lattice", "sign_of", "y", "x"] ["lattice", "sign_of"] (defScope s_rows_by) := ⟨rfl, rfl, rfl, by decide +kernel, rfl, by decide +kernel, by decide +kernel⟩
theorem sc_C_init : FnScope ["self", "a", "b", "d", "rows", "told"] ["self", "a", "b", "d", "rows"] (defScope s_C_init) := ⟨rfl, rfl, rfl, by decide +kernel, rfl, by decide +kernel, by decide +kernel⟩
theorem sc_C_eq : FnScope ["self", "other"] ["self", "other"] (defScope s_C_eq) := ⟨rfl, rfl, rfl, by decide +kernel, rfl, by decide +kernel, by decide +kernel⟩
theorem sc_C_sign : FnScope ["self", "cell"] ["self", "cell"] (defScope s_C_sign) := ⟨rfl, rfl, rfl, by decide +kernel, rfl, by decide +kernel, by decide +kernel⟩
theorem sc_C_colour : FnScope ["self", "cell"] ["self", "cell"] (defScope s_C_colour) := ⟨rfl, rfl, rfl, by decide +kernel, rfl, by decide +kernel, by decide +kernel⟩
theorem sc_C_lattice : FnScope ["self"] ["self"] (defScope s_C_lattice) := ⟨rfl, rfl, rfl, by decide +kernel, rfl, by decide +kernel, by decide +kernel⟩
theorem sc_C_least : FnScope ["self"] ["self"] (defScope s_C_least) := ⟨rfl, rfl, rfl, by decide +kernel, rfl, by decide +kernel, by decide +kernel⟩
theorem sc_C_in_normal : FnScope ["self", "a", "b", "d", "rows"] ["self"] (defScope s_C_in_normal) := ⟨rfl, rfl, rfl, by decide +kernel, rfl, by decide +kernel, by decide +kernel⟩
theorem sc_check_colour : FnScope ["value"] ["value"] (defScope s_check_colour) := ⟨rfl, rfl, rfl, by decide +kernel, rfl, by decide +kernel, by decide +kernel⟩
theorem sc_plain : FnScope ["colour"] ["colour"] (defScope s_plain) := ⟨rfl, rfl, rfl, by decide +kernel, rfl, by decide +kernel, by decide +kernel⟩
theorem sc_woven : FnScope ["lattice", "colour_of", "signs", "place", "colour"] ["lattice", "colour_of"] (defScope s_woven) := ⟨rfl, rfl, rfl, by decide +kernel, rfl, by decide +kernel, by decide +kernel⟩
theorem sc_is_colour_map : FnScope ["value", "key"] ["value"] (defScope s_is_colour_map) := ⟨rfl, rfl, rfl, by decide +kernel, rfl, by decide +kernel, by decide +kernel⟩
theorem sc_look_at_carpet : FnScope ["carpet"] ["carpet"] (defScope s_look_at_carpet) := ⟨rfl, rfl, rfl, by decide +kernel, rfl, by decide +kernel, by decide +kernel⟩
theorem sc_led_by : FnScope ["colours", "colour"] ["colours", "colour"] (defScope s_led_by) := ⟨rfl, rfl, rfl, by decide +kernel, rfl, by decide +kernel, by decide +kernel⟩
theorem sc_recoloured : FnScope ["carpet", "colours"] ["carpet", "colours"] (defScope s_recoloured) := ⟨rfl, rfl, rfl, by decide +kernel, rfl, by decide +kernel, by decide +kernel⟩
theorem sc_lattice_of_all : FnScope ["carpets", "found", "carpet"] ["carpets"] (defScope s_lattice_of_all) := ⟨rfl, rfl, rfl, by decide +kernel, rfl, by decide +kernel, by decide +kernel⟩
theorem sc_laying_lattice : FnScope ["carpets", "found"] ["carpets"] (defScope s_laying_lattice) := ⟨rfl, rfl, rfl, by decide +kernel, rfl, by decide +kernel, by decide +kernel⟩
theorem sc_pairs_met : FnScope ["one", "other", "many", "place", "at"] ["one", "other"] (defScope s_pairs_met) := ⟨rfl, rfl, rfl, by decide +kernel, rfl, by decide +kernel, by decide +kernel⟩
theorem sc_recolouring : FnScope ["one", "other", "found", "first", "second"] ["one", "other"] (defScope s_recolouring) := ⟨rfl, rfl, rfl, by decide +kernel, rfl, by decide +kernel, by decide +kernel⟩
theorem sc_law_pool : FnScope ["_law_script", "_law_k", "_law_cell", "_law_big", "_law_mixed"] ["_law_script", "_law_k"] (defScope s_law_pool) := ⟨rfl, rfl, rfl, by decide +kernel, rfl, by decide +kernel, by decide +kernel⟩
theorem sc_law_take : FnScope ["_law_source", "_law_top", "_law_digit"] ["_law_source", "_law_top"] (defScope s_law_take) := ⟨rfl, rfl, rfl, by decide +kernel, rfl, by decide +kernel, by decide +kernel⟩
theorem sc_law_one : FnScope ["_law_source", "_law_things"] ["_law_source", "_law_things"] (defScope s_law_one) := ⟨rfl, rfl, rfl, by decide +kernel, rfl, by decide +kernel, by decide +kernel⟩
theorem sc_law_rounds : FnScope ["_law_script"] ["_law_script"] (defScope s_law_rounds) := ⟨rfl, rfl, rfl, by decide +kernel, rfl, by decide +kernel, by decide +kernel⟩
theorem sc_law_token : FnScope ["_law_source", "_law_wide", "_law_high", "_law_signs", "_law_rows_here", "_law_y", "_law_x"] ["_law_source"] (defScope s_law_token) := ⟨rfl, rfl, rfl, by decide +kernel, rfl, by decide +kernel, by decide +kernel⟩
theorem sc_law_made : FnScope ["_law_token_here"] ["_law_token_here"] (defScope s_law_made) := ⟨rfl, rfl, rfl, by decide +kernel, rfl, by decide +kernel, by decide +kernel⟩
theorem sc_law_colour : FnScope ["_law_token_here", "_law_x", "_law_y", "_law_wide", "_law_slant", "_law_high", "_law_rows_here", "_law_many"] ["_law_token_here", "_law_x", "_law_y"] (defScope s_law_colour) := ⟨rfl, rfl, rfl, by decide +kernel, rfl, by decide +kernel, by decide +kernel⟩
theorem sc_law_is_period : FnScope ["_law_token_here", "_law_x", "_law_y", "_law_up", "_law_across"] ["_law_token_here", "_law_x", "_law_y"] (defScope s_law_is_period) := ⟨rfl, rfl, rfl, by decide +kernel, rfl, by decide +kernel, by decide +kernel⟩
theorem sc_law_slants : FnScope ["_law_tokens", "_law_wide", "_law_high", "_law_found", "_law_slant", "_law_token_here"] ["_law_tokens", "_law_wide", "_law_high"] (defScope s_law_slants) := ⟨rfl, rfl, rfl, by decide +kernel, rfl, by decide +kernel, by decide +kernel⟩
theorem sc_law_lattice : FnScope ["_law_tokens", "_law_wide", "_law_high", "_law_slants_here", "_law_token_here"] ["_law_tokens"] (defScope s_law_lattice) := ⟨rfl, rfl, rfl, by decide +kernel, rfl, by decide +kernel, by decide +kernel⟩
theorem sc_law_places : FnScope ["_law_lattice_here", "_law_wide", "_law_slant", "_law_high", "_law_found", "_law_y", "_law_x"] ["_law_lattice_here"] (defScope s_law_places) := ⟨rfl, rfl, rfl, by decide +kernel, rfl, by decide +kernel, by decide +kernel⟩
theorem sc_law_second : FnScope ["_law_source", "_law_one_here", "_law_way", "_law_rule", "_law_wide", "_law_slant", "_law_high", "_law_rows_here", "_law_rows_led", "_law_turn", "_law_row", "_law_sign"] ["_law_source", "_law_one_here"] (defScope s_law_second) := ⟨rfl, rfl, rfl, by decide +kernel, rfl, by decide +kernel, by decide +kernel⟩
theorem sc_law_due : FnScope ["_law_one_here", "_law_other", "_law_found", "_law_x", "_law_y", "_law_first", "_law_second_here", "_law_key_here"] ["_law_one_here", "_law_other"] (defScope s_law_due) := ⟨rfl, rfl, rfl, by decide +kernel, rfl, by decide +kernel, by decide +kernel⟩
theorem sc_law : FnScope ["_law_script", "_law_k", "_law_source", "_law_one_here", "_law_other", "_law_first", "_law_second_here", "_law_due_here", "_law_back", "_law_rule", "_law_key_here", "_law_one_to"] ["_law_script"] (defScope s_law) := ⟨rfl, rfl, rfl, by decide +kernel, rfl, by decide +kernel, by decide +kernel⟩
def dd_is_integer : He.DefD := ⟨("is_integer", none), "is_integer", "is_integer", defArgs s_is_integer, defBody s_is_integer, defScope s_is_integer, [], []⟩
def dd_is_between : He.DefD := ⟨("is_between", none), "is_between", "is_between", defArgs s_is_between, defBody s_is_between, defScope s_is_between, [], []⟩
def dd_is_colour : He.DefD := ⟨("is_colour", none), "is_colour", "is_colour", defArgs s_is_colour, defBody s_is_colour, defScope s_is_colour, [], []⟩
def dd_is_list : He.DefD := ⟨("is_list", none), "is_list", "is_list", defArgs s_is_list, defBody s_is_list, defScope s_is_list, [], []⟩
def dd_check_integer : He.DefD := ⟨("check_integer", none), "check_integer", "check_integer", defArgs s_check_integer, defBody s_check_integer, defScope s_check_integer, [], []⟩
def dd_check_remainder : He.DefD := ⟨("check_remainder", none), "check_remainder", "check_remainder", defArgs s_check_remainder, defBody s_check_remainder, defScope s_check_remainder, [], []⟩
def dd_greatest_divisor : He.DefD := ⟨("greatest_divisor", none), "greatest_divisor", "greatest_divisor", defArgs s_greatest_divisor, defBody s_greatest_divisor, defScope s_greatest_divisor, [], []⟩
def dd_least_multiple : He.DefD := ⟨("least_multiple", none), "least_multiple", "least_multiple", defArgs s_least_multiple, defBody s_least_multiple, defScope s_least_multiple, [], []⟩
def dd_inverse : He.DefD := ⟨("inverse", none), "inverse", "inverse", defArgs s_inverse, defBody s_inverse, defScope s_inverse, [], []⟩
def dd_remainder_of : He.DefD := ⟨("remainder_of", none), "remainder_of", "remainder_of", defArgs s_remainder_of, defBody s_remainder_of, defScope s_remainder_of, [], []⟩
def dd_is_remainder : He.DefD := ⟨("is_remainder", none), "is_remainder", "is_remainder", defArgs s_is_remainder, defBody s_is_remainder, defScope s_is_remainder, [], []⟩
def dd_both_remainders : He.DefD := ⟨("both_remainders", none), "both_remainders", "both_remainders", defArgs s_both_remainders, defBody s_both_remainders, defScope s_both_remainders, [], []⟩
def dd_is_shift : He.DefD := ⟨("is_shift", none), "is_shift", "is_shift", defArgs s_is_shift, defBody s_is_shift, defScope s_is_shift, [], []⟩
def dd_check_cell : He.DefD := ⟨("check_cell", none), "check_cell", "check_cell", defArgs s_check_cell, defBody s_check_cell, defScope s_check_cell, [], []⟩
def dd_check_basis : He.DefD := ⟨("check_basis", none), "check_basis", "check_basis", defArgs s_check_basis, defBody s_check_basis, defScope s_check_basis, [], []⟩
def dd_L_init : He.DefD := ⟨("Lattice", (some "__init__")), "__init__", "Lattice.__init__", defArgs s_L_init, defBody s_L_init, defScope s_L_init, [], []⟩
def dd_L_area : He.DefD := ⟨("Lattice", (some "area")), "area", "Lattice.area", defArgs s_L_area, defBody s_L_area, defScope s_L_area, [], []⟩
def dd_L_place : He.DefD := ⟨("Lattice", (some "place")), "place", "Lattice.place", defArgs s_L_place, defBody s_L_place, defScope s_L_place, [], []⟩
def dd_L_places : He.DefD := ⟨("Lattice", (some "places")), "places", "Lattice.places", defArgs s_L_places, defBody s_L_places, defScope s_L_places, [], []⟩
def dd_check_lattice : He.DefD := ⟨("check_lattice", none), "check_lattice", "check_lattice", defArgs s_check_lattice, defBody s_check_lattice, defScope s_check_lattice, [], []⟩
def dd_common_lattice : He.DefD := ⟨("common_lattice", none), "common_lattice", "common_lattice", defArgs s_common_lattice, defBody s_common_lattice, defScope s_common_lattice, [], []⟩
def dd_is_row : He.DefD := ⟨("is_row", none), "is_row", "is_row", defArgs s_is_row, defBody s_is_row, defScope s_is_row, [], []⟩
def dd_check_rows : He.DefD := ⟨("check_rows", none), "check_rows", "check_rows", defArgs s_check_rows, defBody s_check_rows, defScope s_check_rows, [], []⟩
def dd_check_size : He.DefD := ⟨("check_size", none), "check_size", "check_size", defArgs s_check_size, defBody s_check_size, defScope s_check_size, [], []⟩
def dd_sign_at : He.DefD := ⟨("sign_at", none), "sign_at", "sign_at", defArgs s_sign_at, defBody s_sign_at, defScope s_sign_at, [], []⟩
def dd_is_period_of : He.DefD := ⟨("is_period_of", none), "is_period_of", "is_period_of", defArgs s_is_period_of, defBody s_is_period_of, defScope s_is_period_of, [], []⟩
def dd_divisors_of : He.DefD := ⟨("divisors_of", none), "divisors_of", "divisors_of", defArgs s_divisors_of, defBody s_divisors_of, defScope s_divisors_of, [], []⟩
def dd_level_period : He.DefD := ⟨("level_period", none), "level_period", "level_period", defArgs s_level_period, defBody s_level_period, defScope s_level_period, [], []⟩
def dd_least_lattice : He.DefD := ⟨("least_lattice", none), "least_lattice", "least_lattice", defArgs s_least_lattice, defBody s_least_lattice, defScope s_least_lattice, [], []⟩
def dd_normal_rows : He.DefD := ⟨("normal_rows", none), "normal_rows", "normal_rows", defArgs s_normal_rows, defBody s_normal_rows, defScope s_normal_rows, [], []⟩
def dd_rows_by : He.DefD := ⟨("rows_by", none), "rows_by", "rows_by", defArgs s_rows_by, defBody s_rows_by, defScope s_rows_by, [], []⟩
def dd_C_init : He.DefD := ⟨("Carpet", (some "__init__")), "__init__", "Carpet.__init__", defArgs s_C_init, defBody s_C_init, defScope s_C_init, [], []⟩
def dd_C_eq : He.DefD := ⟨("Carpet", (some "__eq__")), "__eq__", "Carpet.__eq__", defArgs s_C_eq, defBody s_C_eq, defScope s_C_eq, [], []⟩
def dd_C_sign : He.DefD := ⟨("Carpet", (some "sign")), "sign", "Carpet.sign", defArgs s_C_sign, defBody s_C_sign, defScope s_C_sign, [], []⟩
def dd_C_colour : He.DefD := ⟨("Carpet", (some "colour")), "colour", "Carpet.colour", defArgs s_C_colour, defBody s_C_colour, defScope s_C_colour, [], []⟩
def dd_C_lattice : He.DefD := ⟨("Carpet", (some "lattice")), "lattice", "Carpet.lattice", defArgs s_C_lattice, defBody s_C_lattice, defScope s_C_lattice, [], []⟩
def dd_C_least : He.DefD := ⟨("Carpet", (some "least")), "least", "Carpet.least", defArgs s_C_least, defBody s_C_least, defScope s_C_least, [], []⟩
def dd_C_in_normal : He.DefD := ⟨("Carpet", (some "in_normal")), "in_normal", "Carpet.in_normal", defArgs s_C_in_normal, defBody s_C_in_normal, defScope s_C_in_normal, [], []⟩
def dd_check_colour : He.DefD := ⟨("check_colour", none), "check_colour", "check_colour", defArgs s_check_colour, defBody s_check_colour, defScope s_check_colour, [], []⟩
def dd_plain : He.DefD := ⟨("plain", none), "plain", "plain", defArgs s_plain, defBody s_plain, defScope s_plain, [], []⟩
def dd_woven : He.DefD := ⟨("woven", none), "woven", "woven", defArgs s_woven, defBody s_woven, defScope s_woven, [], []⟩
def dd_is_colour_map : He.DefD := ⟨("is_colour_map", none), "is_colour_map", "is_colour_map", defArgs s_is_colour_map, defBody s_is_colour_map, defScope s_is_colour_map, [], []⟩
def dd_look_at_carpet : He.DefD := ⟨("look_at_carpet", none), "look_at_carpet", "look_at_carpet", defArgs s_look_at_carpet, defBody s_look_at_carpet, defScope s_look_at_carpet, [], []⟩
def dd_led_by : He.DefD := ⟨("led_by", none), "led_by", "led_by", defArgs s_led_by, defBody s_led_by, defScope s_led_by, [], []⟩
def dd_recoloured : He.DefD := ⟨("recoloured", none), "recoloured", "recoloured", defArgs s_recoloured, defBody s_recoloured, defScope s_recoloured, [], []⟩
def dd_lattice_of_all : He.DefD := ⟨("lattice_of_all", none), "lattice_of_all", "lattice_of_all", defArgs s_lattice_of_all, defBody s_lattice_of_all, defScope s_lattice_of_all, [], []⟩
def dd_laying_lattice : He.DefD := ⟨("laying_lattice", none), "laying_lattice", "laying_lattice", defArgs s_laying_lattice, defBody s_laying_lattice, defScope s_laying_lattice, [], []⟩
def dd_pairs_met : He.DefD := ⟨("pairs_met", none), "pairs_met", "pairs_met", defArgs s_pairs_met, defBody s_pairs_met, defScope s_pairs_met, [], []⟩
def dd_recolouring : He.DefD := ⟨("recolouring", none), "recolouring", "recolouring", defArgs s_recolouring, defBody s_recolouring, defScope s_recolouring, [], []⟩
def dd_law_pool : He.DefD := ⟨("_law_pool", none), "_law_pool", "_law_pool", defArgs s_law_pool, defBody s_law_pool, defScope s_law_pool, [], []⟩
def dd_law_take : He.DefD := ⟨("_law_take", none), "_law_take", "_law_take", defArgs s_law_take, defBody s_law_take, defScope s_law_take, [], []⟩
def dd_law_one : He.DefD := ⟨("_law_one", none), "_law_one", "_law_one", defArgs s_law_one, defBody s_law_one, defScope s_law_one, [], []⟩
def dd_law_rounds : He.DefD := ⟨("_law_rounds", none), "_law_rounds", "_law_rounds", defArgs s_law_rounds, defBody s_law_rounds, defScope s_law_rounds, [], []⟩
def dd_law_token : He.DefD := ⟨("_law_token", none), "_law_token", "_law_token", defArgs s_law_token, defBody s_law_token, defScope s_law_token, [], []⟩
def dd_law_made : He.DefD := ⟨("_law_made", none), "_law_made", "_law_made", defArgs s_law_made, defBody s_law_made, defScope s_law_made, [], []⟩
def dd_law_colour : He.DefD := ⟨("_law_colour", none), "_law_colour", "_law_colour", defArgs s_law_colour, defBody s_law_colour, defScope s_law_colour, [], []⟩
def dd_law_is_period : He.DefD := ⟨("_law_is_period", none), "_law_is_period", "_law_is_period", defArgs s_law_is_period, defBody s_law_is_period, defScope s_law_is_period, [], []⟩
def dd_law_slants : He.DefD := ⟨("_law_slants", none), "_law_slants", "_law_slants", defArgs s_law_slants, defBody s_law_slants, defScope s_law_slants, [], []⟩
def dd_law_lattice : He.DefD := ⟨("_law_lattice", none), "_law_lattice", "_law_lattice", defArgs s_law_lattice, defBody s_law_lattice, defScope s_law_lattice, [], []⟩
def dd_law_places : He.DefD := ⟨("_law_places", none), "_law_places", "_law_places", defArgs s_law_places, defBody s_law_places, defScope s_law_places, [], []⟩
def dd_law_second : He.DefD := ⟨("_law_second", none), "_law_second", "_law_second", defArgs s_law_second, defBody s_law_second, defScope s_law_second, [], []⟩
def dd_law_due : He.DefD := ⟨("_law_due", none), "_law_due", "_law_due", defArgs s_law_due, defBody s_law_due, defScope s_law_due, [], []⟩
def dd_law : He.DefD := ⟨("law", none), "law", "law", defArgs s_law, defBody s_law, defScope s_law, [], []⟩
def fnL : List He.DefD := [dd_is_integer, dd_is_between, dd_is_colour, dd_is_list, dd_check_integer, dd_check_remainder, dd_greatest_divisor, dd_least_multiple, dd_inverse, dd_remainder_of, dd_is_remainder, dd_both_remainders, dd_is_shift, dd_check_cell, dd_check_basis, dd_L_init, dd_L_area, dd_L_place, dd_L_places, dd_check_lattice, dd_common_lattice, dd_is_row, dd_check_rows, dd_check_size, dd_sign_at, dd_is_period_of, dd_divisors_of, dd_level_period, dd_least_lattice, dd_normal_rows, dd_rows_by, dd_C_init, dd_C_eq, dd_C_sign, dd_C_colour, dd_C_lattice, dd_C_least, dd_C_in_normal, dd_check_colour, dd_plain, dd_woven, dd_is_colour_map, dd_look_at_carpet, dd_led_by, dd_recoloured, dd_lattice_of_all, dd_laying_lattice, dd_pairs_met, dd_recolouring, dd_law_pool, dd_law_take, dd_law_one, dd_law_rounds, dd_law_token, dd_law_made, dd_law_colour, dd_law_is_period, dd_law_slants, dd_law_lattice, dd_law_places, dd_law_second, dd_law_due, dd_law]
def gloL : List Str := (["is_integer", "is_between", "is_colour", "is_list", "check_integer", "check_remainder"] : List Str) ++ (["greatest_divisor", "least_multiple", "inverse", "remainder_of", "is_remainder", "both_remainders"] : List Str) ++ (["is_shift", "check_cell", "check_basis", "check_lattice", "common_lattice", "is_row"] : List Str) ++ (["check_rows", "check_size", "sign_at", "is_period_of", "divisors_of", "level_period"] : List Str) ++ (["least_lattice", "normal_rows", "rows_by", "check_colour", "plain", "woven"] : List Str) ++ (["is_colour_map", "look_at_carpet", "led_by", "recoloured", "lattice_of_all", "laying_lattice"] : List Str) ++ (["pairs_met", "recolouring", "_law_pool", "_law_take", "_law_one", "_law_rounds"] : List Str) ++ (["_law_token", "_law_made", "_law_colour", "_law_is_period", "_law_slants", "_law_lattice"] : List Str) ++ (["_law_places", "_law_second", "_law_due", "law", "Lattice", "Carpet"] : List Str)
def freL : List Str := (["isinstance", "int", "bool", "list", "tuple", "len"] : List Str) ++ (["all", "abs", "range", "enumerate", "str", "dict"] : List Str) ++ (["max", "min", "sorted"] : List Str)
def naL : List (Str × Str) := ([("Lattice", "a"), ("Lattice", "b"), ("Lattice", "d"), ("Carpet", "a"), ("Carpet", "b")] : List (Str × Str)) ++ ([("Carpet", "d"), ("Carpet", "rows"), ("Carpet", "basis"), ("Carpet", "shape")] : List (Str × Str))
def meL : List (Str × Str) := ([("Lattice", "area"), ("Lattice", "place"), ("Lattice", "places"), ("Carpet", "__eq__"), ("Carpet", "sign")] : List (Str × Str)) ++ ([("Carpet", "colour"), ("Carpet", "lattice"), ("Carpet", "least"), ("Carpet", "in_normal")] : List (Str × Str))
def clsL : List Str := ["Lattice", "Carpet"]
def intL : List (Str × Int) := [("MOST_COLOUR", 9), ("MOST_CELLS", 144), ("MOST_AREA", 144)]

def ownB (K : PySem.W.Frag) (C : Addr) : Bool :=
  He.eqO (PySem.W.findIn K (.ref C) "__class__") (some (some (.builtin "object.__class__"))) && (He.eqO (PySem.W.specialIn K (.builtin "object.__class__") "__get__") (some (some (.builtin "getset_descriptor.__get__"))) &&
    (decide (PySem.W.takesIn K (.builtin "object.__class__") = some true) && (decide (PySem.W.mroIn K C (.type "object") = some true) && (decide (PySem.W.kitOne K (.ref C) (.ref C) = some true) && (PySem.W.notFirst K C (.ref C) &&
      He.eqO (PySem.W.findIn K (.ref C) "__ne__") (some (some (.builtin "object.__ne__"))))))))
def exB (K : PySem.W.Frag) : Bool := (clsL.all fun C => ownB K (He.ga K C)) && decide ((He.cT K ("recoloured", none)).2 ≠ (He.cT K ("woven", none)).2)
structure Own (K : PySem.W.Frag) (C : Addr) : Prop where
  c1 : PySem.W.findIn K (.ref C) "__class__" = some (some (.builtin "object.__class__"))
  c2 : PySem.W.specialIn K (.builtin "object.__class__") "__get__" = some (some (.builtin "getset_descriptor.__get__"))
  c3 : PySem.W.takesIn K (.builtin "object.__class__") = some true
  c4 : PySem.W.mroIn K C (.type "object") = some true
  kit : PySem.W.kitOne K (.ref C) (.ref C) = some true
  nf : PySem.W.notFirst K C (.ref C) = true
  ne : PySem.W.findIn K (.ref C) "__ne__" = some (some (.builtin "object.__ne__"))
theorem own_of {K : PySem.W.Frag} {C : Addr} (h : ownB K C = true) : Own K C := by
  obtain ⟨h1, h⟩ := He.ba h
  obtain ⟨h2, h⟩ := He.ba h
  obtain ⟨h3, h⟩ := He.ba h
  obtain ⟨h4, h⟩ := He.ba h
  obtain ⟨h5, h⟩ := He.ba h
  obtain ⟨h6, h7⟩ := He.ba h
  exact ⟨He.eqO_ok h1, He.eqO_ok h2, of_decide_eq_true h3, of_decide_eq_true h4, of_decide_eq_true h5, h6, He.eqO_ok h7⟩
/-- what is asked of the text as the top leaves it -/
structure Txt (K : PySem.W.Frag) (mg : Str → Option Value) (base : Heap) : Prop where
  df : ∀ (i : Nat) (d : He.DefD), fnL[i]? = some d → ∃ fd, FunD K d.name d.qual d.params d.body d.scope [] [] (He.fAd K d.at_) fd
  gl : ∀ (i : Nat) (x : Str), gloL[i]? = some x → mg x = some (.ref (He.ga K x))
  fr : ∀ (i : Nat) (x : Str), freL[i]? = some x → mg x = none
  na : ∀ (i : Nat) (p : Str × Str), naL[i]? = some p → NoAttr K (He.ga K p.1) p.2
  me : ∀ (i : Nat) (p : Str × Str), meL[i]? = some p → Meth K (He.ga K p.1) p.2 (He.ma K (He.ga K p.1) p.2)
  cl : ∀ (i : Nat) (C : Str), clsL[i]? = some C → Cls K (He.ga K C) ∧ Mk K (He.ga K C) (He.ma K (He.ga K C) "__init__") ∧ Own K (He.ga K C)
  cst : ∀ (i : Nat) (p : Str × Int), intL[i]? = some p → ∃ t, mg p.1 = some (.int p.2 t)
  fig : ∃ t, mg "FIGURES" = some (.str "0123456789" t)
  tb : ∀ p ∈ ([("recoloured", none), ("woven", none)] : List He.Defn), LamX.TabB base mg (He.cT K p).1 (He.cT K p).2
  t12 : (He.cT K ("recoloured", none)).2 ≠ (He.cT K ("woven", none)).2
abbrev CL (K : PySem.W.Frag) : Addr := He.ga K "Lattice"
abbrev CC (K : PySem.W.Frag) : Addr := He.ga K "Carpet"
section
variable {K : PySem.W.Frag} {mg : Str → Option Value} {base : Heap}
theorem Txt.f_isinstance (T : Txt K mg base) : mg "isinstance" = none := T.fr 0 _ (by rfl)
theorem Txt.f_int (T : Txt K mg base) : mg "int" = none := T.fr 1 _ (by rfl)
theorem Txt.f_bool (T : Txt K mg base) : mg "bool" = none := T.fr 2 _ (by rfl)
theorem Txt.f_list (T : Txt K mg base) : mg "list" = none := T.fr 3 _ (by rfl)
theorem Txt.f_tuple (T : Txt K mg base) : mg "tuple" = none := T.fr 4 _ (by rfl)
theorem Txt.f_len (T : Txt K mg base) : mg "len" = none := T.fr 5 _ (by rfl)
theorem Txt.f_all (T : Txt K mg base) : mg "all" = none := T.fr 6 _ (by rfl)
theorem Txt.f_abs (T : Txt K mg base) : mg "abs" = none := T.fr 7 _ (by rfl)
theorem Txt.f_range (T : Txt K mg base) : mg "range" = none := T.fr 8 _ (by rfl)
theorem Txt.f_enumerate (T : Txt K mg base) : mg "enumerate" = none := T.fr 9 _ (by rfl)
theorem Txt.f_str (T : Txt K mg base) : mg "str" = none := T.fr 10 _ (by rfl)
theorem Txt.f_dict (T : Txt K mg base) : mg "dict" = none := T.fr 11 _ (by rfl)
theorem Txt.f_max (T : Txt K mg base) : mg "max" = none := T.fr 12 _ (by rfl)
theorem Txt.f_min (T : Txt K mg base) : mg "min" = none := T.fr 13 _ (by rfl)
theorem Txt.f_sorted (T : Txt K mg base) : mg "sorted" = none := T.fr 14 _ (by rfl)
theorem Txt.g_is_integer (T : Txt K mg base) : mg "is_integer" = some (.ref (He.ga K "is_integer")) := T.gl 0 _ (by rfl)
theorem Txt.g_is_between (T : Txt K mg base) : mg "is_between" = some (.ref (He.ga K "is_between")) := T.gl 1 _ (by rfl)
theorem Txt.g_is_colour (T : Txt K mg base) : mg "is_colour" = some (.ref (He.ga K "is_colour")) := T.gl 2 _ (by rfl)
theorem Txt.g_is_list (T : Txt K mg base) : mg "is_list" = some (.ref (He.ga K "is_list")) := T.gl 3 _ (by rfl)
theorem Txt.g_check_integer (T : Txt K mg base) : mg "check_integer" = some (.ref (He.ga K "check_integer")) := T.gl 4 _ (by rfl)
theorem Txt.g_check_remainder (T : Txt K mg base) : mg "check_remainder" = some (.ref (He.ga K "check_remainder")) := T.gl 5 _ (by rfl)
theorem Txt.g_greatest_divisor (T : Txt K mg base) : mg "greatest_divisor" = some (.ref (He.ga K "greatest_divisor")) := T.gl 6 _ (by rfl)
theorem Txt.g_least_multiple (T : Txt K mg base) : mg "least_multiple" = some (.ref (He.ga K "least_multiple")) := T.gl 7 _ (by rfl)
theorem Txt.g_inverse (T : Txt K mg base) : mg "inverse" = some (.ref (He.ga K "inverse")) := T.gl 8 _ (by rfl)
theorem Txt.g_remainder_of (T : Txt K mg base) : mg "remainder_of" = some (.ref (He.ga K "remainder_of")) := T.gl 9 _ (by rfl)
theorem Txt.g_is_remainder (T : Txt K mg base) : mg "is_remainder" = some (.ref (He.ga K "is_remainder")) := T.gl 10 _ (by rfl)
theorem Txt.g_both_remainders (T : Txt K mg base) : mg "both_remainders" = some (.ref (He.ga K "both_remainders")) := T.gl 11 _ (by rfl)
theorem Txt.g_is_shift (T : Txt K mg base) : mg "is_shift" = some (.ref (He.ga K "is_shift")) := T.gl 12 _ (by rfl)
theorem Txt.g_check_cell (T : Txt K mg base) : mg "check_cell" = some (.ref (He.ga K "check_cell")) := T.gl 13 _ (by rfl)
theorem Txt.g_check_basis (T : Txt K mg base) : mg "check_basis" = some (.ref (He.ga K "check_basis")) := T.gl 14 _ (by rfl)
theorem Txt.g_check_lattice (T : Txt K mg base) : mg "check_lattice" = some (.ref (He.ga K "check_lattice")) := T.gl 15 _ (by rfl)
theorem Txt.g_common_lattice (T : Txt K mg base) : mg "common_lattice" = some (.ref (He.ga K "common_lattice")) := T.gl 16 _ (by rfl)
theorem Txt.g_is_row (T : Txt K mg base) : mg "is_row" = some (.ref (He.ga K "is_row")) := T.gl 17 _ (by rfl)
theorem Txt.g_check_rows (T : Txt K mg base) : mg "check_rows" = some (.ref (He.ga K "check_rows")) := T.gl 18 _ (by rfl)
theorem Txt.g_check_size (T : Txt K mg base) : mg "check_size" = some (.ref (He.ga K "check_size")) := T.gl 19 _ (by rfl)
theorem Txt.g_sign_at (T : Txt K mg base) : mg "sign_at" = some (.ref (He.ga K "sign_at")) := T.gl 20 _ (by rfl)
theorem Txt.g_is_period_of (T : Txt K mg base) : mg "is_period_of" = some (.ref (He.ga K "is_period_of")) := T.gl 21 _ (by rfl)
theorem Txt.g_divisors_of (T : Txt K mg base) : mg "divisors_of" = some (.ref (He.ga K "divisors_of")) := T.gl 22 _ (by rfl)
theorem Txt.g_level_period (T : Txt K mg base) : mg "level_period" = some (.ref (He.ga K "level_period")) := T.gl 23 _ (by rfl)
theorem Txt.g_least_lattice (T : Txt K mg base) : mg "least_lattice" = some (.ref (He.ga K "least_lattice")) := T.gl 24 _ (by rfl)
theorem Txt.g_normal_rows (T : Txt K mg base) : mg "normal_rows" = some (.ref (He.ga K "normal_rows")) := T.gl 25 _ (by rfl)
theorem Txt.g_rows_by (T : Txt K mg base) : mg "rows_by" = some (.ref (He.ga K "rows_by")) := T.gl 26 _ (by rfl)
theorem Txt.g_check_colour (T : Txt K mg base) : mg "check_colour" = some (.ref (He.ga K "check_colour")) := T.gl 27 _ (by rfl)
theorem Txt.g_plain (T : Txt K mg base) : mg "plain" = some (.ref (He.ga K "plain")) := T.gl 28 _ (by rfl)
theorem Txt.g_woven (T : Txt K mg base) : mg "woven" = some (.ref (He.ga K "woven")) := T.gl 29 _ (by rfl)
theorem Txt.g_is_colour_map (T : Txt K mg base) : mg "is_colour_map" = some (.ref (He.ga K "is_colour_map")) := T.gl 30 _ (by rfl)
theorem Txt.g_look_at_carpet (T : Txt K mg base) : mg "look_at_carpet" = some (.ref (He.ga K "look_at_carpet")) := T.gl 31 _ (by rfl)
theorem Txt.g_led_by (T : Txt K mg base) : mg "led_by" = some (.ref (He.ga K "led_by")) := T.gl 32 _ (by rfl)
theorem Txt.g_recoloured (T : Txt K mg base) : mg "recoloured" = some (.ref (He.ga K "recoloured")) := T.gl 33 _ (by rfl)
theorem Txt.g_lattice_of_all (T : Txt K mg base) : mg "lattice_of_all" = some (.ref (He.ga K "lattice_of_all")) := T.gl 34 _ (by rfl)
theorem Txt.g_laying_lattice (T : Txt K mg base) : mg "laying_lattice" = some (.ref (He.ga K "laying_lattice")) := T.gl 35 _ (by rfl)
theorem Txt.g_pairs_met (T : Txt K mg base) : mg "pairs_met" = some (.ref (He.ga K "pairs_met")) := T.gl 36 _ (by rfl)
theorem Txt.g_recolouring (T : Txt K mg base) : mg "recolouring" = some (.ref (He.ga K "recolouring")) := T.gl 37 _ (by rfl)
theorem Txt.g_law_pool (T : Txt K mg base) : mg "_law_pool" = some (.ref (He.ga K "_law_pool")) := T.gl 38 _ (by rfl)
theorem Txt.g_law_take (T : Txt K mg base) : mg "_law_take" = some (.ref (He.ga K "_law_take")) := T.gl 39 _ (by rfl)
theorem Txt.g_law_one (T : Txt K mg base) : mg "_law_one" = some (.ref (He.ga K "_law_one")) := T.gl 40 _ (by rfl)
theorem Txt.g_law_rounds (T : Txt K mg base) : mg "_law_rounds" = some (.ref (He.ga K "_law_rounds")) := T.gl 41 _ (by rfl)
theorem Txt.g_law_token (T : Txt K mg base) : mg "_law_token" = some (.ref (He.ga K "_law_token")) := T.gl 42 _ (by rfl)
theorem Txt.g_law_made (T : Txt K mg base) : mg "_law_made" = some (.ref (He.ga K "_law_made")) := T.gl 43 _ (by rfl)
theorem Txt.g_law_colour (T : Txt K mg base) : mg "_law_colour" = some (.ref (He.ga K "_law_colour")) := T.gl 44 _ (by rfl)
theorem Txt.g_law_is_period (T : Txt K mg base) : mg "_law_is_period" = some (.ref (He.ga K "_law_is_period")) := T.gl 45 _ (by rfl)
theorem Txt.g_law_slants (T : Txt K mg base) : mg "_law_slants" = some (.ref (He.ga K "_law_slants")) := T.gl 46 _ (by rfl)
theorem Txt.g_law_lattice (T : Txt K mg base) : mg "_law_lattice" = some (.ref (He.ga K "_law_lattice")) := T.gl 47 _ (by rfl)
theorem Txt.g_law_places (T : Txt K mg base) : mg "_law_places" = some (.ref (He.ga K "_law_places")) := T.gl 48 _ (by rfl)
theorem Txt.g_law_second (T : Txt K mg base) : mg "_law_second" = some (.ref (He.ga K "_law_second")) := T.gl 49 _ (by rfl)
theorem Txt.g_law_due (T : Txt K mg base) : mg "_law_due" = some (.ref (He.ga K "_law_due")) := T.gl 50 _ (by rfl)
theorem Txt.g_law (T : Txt K mg base) : mg "law" = some (.ref (He.ga K "law")) := T.gl 51 _ (by rfl)
theorem Txt.g_Lattice (T : Txt K mg base) : mg "Lattice" = some (.ref (He.ga K "Lattice")) := T.gl 52 _ (by rfl)
theorem Txt.g_Carpet (T : Txt K mg base) : mg "Carpet" = some (.ref (He.ga K "Carpet")) := T.gl 53 _ (by rfl)
theorem Txt.nL_a (T : Txt K mg base) : NoAttr K (He.ga K "Lattice") "a" := T.na 0 _ (by rfl)
theorem Txt.nL_b (T : Txt K mg base) : NoAttr K (He.ga K "Lattice") "b" := T.na 1 _ (by rfl)
theorem Txt.nL_d (T : Txt K mg base) : NoAttr K (He.ga K "Lattice") "d" := T.na 2 _ (by rfl)
theorem Txt.nC_a (T : Txt K mg base) : NoAttr K (He.ga K "Carpet") "a" := T.na 3 _ (by rfl)
theorem Txt.nC_b (T : Txt K mg base) : NoAttr K (He.ga K "Carpet") "b" := T.na 4 _ (by rfl)
theorem Txt.nC_d (T : Txt K mg base) : NoAttr K (He.ga K "Carpet") "d" := T.na 5 _ (by rfl)
theorem Txt.nC_rows (T : Txt K mg base) : NoAttr K (He.ga K "Carpet") "rows" := T.na 6 _ (by rfl)
theorem Txt.nC_basis (T : Txt K mg base) : NoAttr K (He.ga K "Carpet") "basis" := T.na 7 _ (by rfl)
theorem Txt.nC_shape (T : Txt K mg base) : NoAttr K (He.ga K "Carpet") "shape" := T.na 8 _ (by rfl)
theorem Txt.mL_area (T : Txt K mg base) : Meth K (He.ga K "Lattice") "area" (He.ma K (He.ga K "Lattice") "area") := T.me 0 _ (by rfl)
theorem Txt.mL_place (T : Txt K mg base) : Meth K (He.ga K "Lattice") "place" (He.ma K (He.ga K "Lattice") "place") := T.me 1 _ (by rfl)
theorem Txt.mL_places (T : Txt K mg base) : Meth K (He.ga K "Lattice") "places" (He.ma K (He.ga K "Lattice") "places") := T.me 2 _ (by rfl)
theorem Txt.mC_eq (T : Txt K mg base) : Meth K (He.ga K "Carpet") "__eq__" (He.ma K (He.ga K "Carpet") "__eq__") := T.me 3 _ (by rfl)
theorem Txt.mC_sign (T : Txt K mg base) : Meth K (He.ga K "Carpet") "sign" (He.ma K (He.ga K "Carpet") "sign") := T.me 4 _ (by rfl)
theorem Txt.mC_colour (T : Txt K mg base) : Meth K (He.ga K "Carpet") "colour" (He.ma K (He.ga K "Carpet") "colour") := T.me 5 _ (by rfl)
theorem Txt.mC_lattice (T : Txt K mg base) : Meth K (He.ga K "Carpet") "lattice" (He.ma K (He.ga K "Carpet") "lattice") := T.me 6 _ (by rfl)
theorem Txt.mC_least (T : Txt K mg base) : Meth K (He.ga K "Carpet") "least" (He.ma K (He.ga K "Carpet") "least") := T.me 7 _ (by rfl)
theorem Txt.mC_in_normal (T : Txt K mg base) : Meth K (He.ga K "Carpet") "in_normal" (He.ma K (He.ga K "Carpet") "in_normal") := T.me 8 _ (by rfl)
theorem Txt.d_is_integer (T : Txt K mg base) : ∃ fd, FunD K "is_integer" "is_integer" (defArgs s_is_integer) (defBody s_is_integer) (defScope s_is_integer) [] [] (He.fAd K ("is_integer", none)) fd := T.df 0 _ (by rfl)
theorem Txt.d_is_between (T : Txt K mg base) : ∃ fd, FunD K "is_between" "is_between" (defArgs s_is_between) (defBody s_is_between) (defScope s_is_between) [] [] (He.fAd K ("is_between", none)) fd := T.df 1 _ (by rfl)
theorem Txt.d_is_colour (T : Txt K mg base) : ∃ fd, FunD K "is_colour" "is_colour" (defArgs s_is_colour) (defBody s_is_colour) (defScope s_is_colour) [] [] (He.fAd K ("is_colour", none)) fd := T.df 2 _ (by rfl)
theorem Txt.d_is_list (T : Txt K mg base) : ∃ fd, FunD K "is_list" "is_list" (defArgs s_is_list) (defBody s_is_list) (defScope s_is_list) [] [] (He.fAd K ("is_list", none)) fd := T.df 3 _ (by rfl)
theorem Txt.d_check_integer (T : Txt K mg base) : ∃ fd, FunD K "check_integer" "check_integer" (defArgs s_check_integer) (defBody s_check_integer) (defScope s_check_integer) [] [] (He.fAd K ("check_integer", none)) fd := T.df 4 _ (by rfl)
theorem Txt.d_check_remainder (T : Txt K mg base) : ∃ fd, FunD K "check_remainder" "check_remainder" (defArgs s_check_remainder) (defBody s_check_remainder) (defScope s_check_remainder) [] [] (He.fAd K ("check_remainder", none)) fd := T.df 5 _ (by rfl)
theorem Txt.d_greatest_divisor (T : Txt K mg base) : ∃ fd, FunD K "greatest_divisor" "greatest_divisor" (defArgs s_greatest_divisor) (defBody s_greatest_divisor) (defScope s_greatest_divisor) [] [] (He.fAd K ("greatest_divisor", none)) fd := T.df 6 _ (by rfl)
theorem Txt.d_least_multiple (T : Txt K mg base) : ∃ fd, FunD K "least_multiple" "least_multiple" (defArgs s_least_multiple) (defBody s_least_multiple) (defScope s_least_multiple) [] [] (He.fAd K ("least_multiple", none)) fd := T.df 7 _ (by rfl)
theorem Txt.d_inverse (T : Txt K mg base) : ∃ fd, FunD K "inverse" "inverse" (defArgs s_inverse) (defBody s_inverse) (defScope s_inverse) [] [] (He.fAd K ("inverse", none)) fd := T.df 8 _ (by rfl)
theorem Txt.d_remainder_of (T : Txt K mg base) : ∃ fd, FunD K "remainder_of" "remainder_of" (defArgs s_remainder_of) (defBody s_remainder_of) (defScope s_remainder_of) [] [] (He.fAd K ("remainder_of", none)) fd := T.df 9 _ (by rfl)
theorem Txt.d_is_remainder (T : Txt K mg base) : ∃ fd, FunD K "is_remainder" "is_remainder" (defArgs s_is_remainder) (defBody s_is_remainder) (defScope s_is_remainder) [] [] (He.fAd K ("is_remainder", none)) fd := T.df 10 _ (by rfl)
theorem Txt.d_both_remainders (T : Txt K mg base) : ∃ fd, FunD K "both_remainders" "both_remainders" (defArgs s_both_remainders) (defBody s_both_remainders) (defScope s_both_remainders) [] [] (He.fAd K ("both_remainders", none)) fd := T.df 11 _ (by rfl)
theorem Txt.d_is_shift (T : Txt K mg base) : ∃ fd, FunD K "is_shift" "is_shift" (defArgs s_is_shift) (defBody s_is_shift) (defScope s_is_shift) [] [] (He.fAd K ("is_shift", none)) fd := T.df 12 _ (by rfl)
theorem Txt.d_check_cell (T : Txt K mg base) : ∃ fd, FunD K "check_cell" "check_cell" (defArgs s_check_cell) (defBody s_check_cell) (defScope s_check_cell) [] [] (He.fAd K ("check_cell", none)) fd := T.df 13 _ (by rfl)
theorem Txt.d_check_basis (T : Txt K mg base) : ∃ fd, FunD K "check_basis" "check_basis" (defArgs s_check_basis) (defBody s_check_basis) (defScope s_check_basis) [] [] (He.fAd K ("check_basis", none)) fd := T.df 14 _ (by rfl)
theorem Txt.d_L_init (T : Txt K mg base) : ∃ fd, FunD K "__init__" "Lattice.__init__" (defArgs s_L_init) (defBody s_L_init) (defScope s_L_init) [] [] (He.fAd K ("Lattice", some "__init__")) fd := T.df 15 _ (by rfl)
theorem Txt.d_L_area (T : Txt K mg base) : ∃ fd, FunD K "area" "Lattice.area" (defArgs s_L_area) (defBody s_L_area) (defScope s_L_area) [] [] (He.fAd K ("Lattice", some "area")) fd := T.df 16 _ (by rfl)
theorem Txt.d_L_place (T : Txt K mg base) : ∃ fd, FunD K "place" "Lattice.place" (defArgs s_L_place) (defBody s_L_place) (defScope s_L_place) [] [] (He.fAd K ("Lattice", some "place")) fd := T.df 17 _ (by rfl)
theorem Txt.d_L_places (T : Txt K mg base) : ∃ fd, FunD K "places" "Lattice.places" (defArgs s_L_places) (defBody s_L_places) (defScope s_L_places) [] [] (He.fAd K ("Lattice", some "places")) fd := T.df 18 _ (by rfl)
theorem Txt.d_check_lattice (T : Txt K mg base) : ∃ fd, FunD K "check_lattice" "check_lattice" (defArgs s_check_lattice) (defBody s_check_lattice) (defScope s_check_lattice) [] [] (He.fAd K ("check_lattice", none)) fd := T.df 19 _ (by rfl)
theorem Txt.d_common_lattice (T : Txt K mg base) : ∃ fd, FunD K "common_lattice" "common_lattice" (defArgs s_common_lattice) (defBody s_common_lattice) (defScope s_common_lattice) [] [] (He.fAd K ("common_lattice", none)) fd := T.df 20 _ (by rfl)
theorem Txt.d_is_row (T : Txt K mg base) : ∃ fd, FunD K "is_row" "is_row" (defArgs s_is_row) (defBody s_is_row) (defScope s_is_row) [] [] (He.fAd K ("is_row", none)) fd := T.df 21 _ (by rfl)
theorem Txt.d_check_rows (T : Txt K mg base) : ∃ fd, FunD K "check_rows" "check_rows" (defArgs s_check_rows) (defBody s_check_rows) (defScope s_check_rows) [] [] (He.fAd K ("check_rows", none)) fd := T.df 22 _ (by rfl)
theorem Txt.d_check_size (T : Txt K mg base) : ∃ fd, FunD K "check_size" "check_size" (defArgs s_check_size) (defBody s_check_size) (defScope s_check_size) [] [] (He.fAd K ("check_size", none)) fd := T.df 23 _ (by rfl)
theorem Txt.d_sign_at (T : Txt K mg base) : ∃ fd, FunD K "sign_at" "sign_at" (defArgs s_sign_at) (defBody s_sign_at) (defScope s_sign_at) [] [] (He.fAd K ("sign_at", none)) fd := T.df 24 _ (by rfl)
theorem Txt.d_is_period_of (T : Txt K mg base) : ∃ fd, FunD K "is_period_of" "is_period_of" (defArgs s_is_period_of) (defBody s_is_period_of) (defScope s_is_period_of) [] [] (He.fAd K ("is_period_of", none)) fd := T.df 25 _ (by rfl)
theorem Txt.d_divisors_of (T : Txt K mg base) : ∃ fd, FunD K "divisors_of" "divisors_of" (defArgs s_divisors_of) (defBody s_divisors_of) (defScope s_divisors_of) [] [] (He.fAd K ("divisors_of", none)) fd := T.df 26 _ (by rfl)
theorem Txt.d_level_period (T : Txt K mg base) : ∃ fd, FunD K "level_period" "level_period" (defArgs s_level_period) (defBody s_level_period) (defScope s_level_period) [] [] (He.fAd K ("level_period", none)) fd := T.df 27 _ (by rfl)
theorem Txt.d_least_lattice (T : Txt K mg base) : ∃ fd, FunD K "least_lattice" "least_lattice" (defArgs s_least_lattice) (defBody s_least_lattice) (defScope s_least_lattice) [] [] (He.fAd K ("least_lattice", none)) fd := T.df 28 _ (by rfl)
theorem Txt.d_normal_rows (T : Txt K mg base) : ∃ fd, FunD K "normal_rows" "normal_rows" (defArgs s_normal_rows) (defBody s_normal_rows) (defScope s_normal_rows) [] [] (He.fAd K ("normal_rows", none)) fd := T.df 29 _ (by rfl)
theorem Txt.d_rows_by (T : Txt K mg base) : ∃ fd, FunD K "rows_by" "rows_by" (defArgs s_rows_by) (defBody s_rows_by) (defScope s_rows_by) [] [] (He.fAd K ("rows_by", none)) fd := T.df 30 _ (by rfl)
theorem Txt.d_C_init (T : Txt K mg base) : ∃ fd, FunD K "__init__" "Carpet.__init__" (defArgs s_C_init) (defBody s_C_init) (defScope s_C_init) [] [] (He.fAd K ("Carpet", some "__init__")) fd := T.df 31 _ (by rfl)
theorem Txt.d_C_eq (T : Txt K mg base) : ∃ fd, FunD K "__eq__" "Carpet.__eq__" (defArgs s_C_eq) (defBody s_C_eq) (defScope s_C_eq) [] [] (He.fAd K ("Carpet", some "__eq__")) fd := T.df 32 _ (by rfl)
theorem Txt.d_C_sign (T : Txt K mg base) : ∃ fd, FunD K "sign" "Carpet.sign" (defArgs s_C_sign) (defBody s_C_sign) (defScope s_C_sign) [] [] (He.fAd K ("Carpet", some "sign")) fd := T.df 33 _ (by rfl)
theorem Txt.d_C_colour (T : Txt K mg base) : ∃ fd, FunD K "colour" "Carpet.colour" (defArgs s_C_colour) (defBody s_C_colour) (defScope s_C_colour) [] [] (He.fAd K ("Carpet", some "colour")) fd := T.df 34 _ (by rfl)
theorem Txt.d_C_lattice (T : Txt K mg base) : ∃ fd, FunD K "lattice" "Carpet.lattice" (defArgs s_C_lattice) (defBody s_C_lattice) (defScope s_C_lattice) [] [] (He.fAd K ("Carpet", some "lattice")) fd := T.df 35 _ (by rfl)
theorem Txt.d_C_least (T : Txt K mg base) : ∃ fd, FunD K "least" "Carpet.least" (defArgs s_C_least) (defBody s_C_least) (defScope s_C_least) [] [] (He.fAd K ("Carpet", some "least")) fd := T.df 36 _ (by rfl)
theorem Txt.d_C_in_normal (T : Txt K mg base) : ∃ fd, FunD K "in_normal" "Carpet.in_normal" (defArgs s_C_in_normal) (defBody s_C_in_normal) (defScope s_C_in_normal) [] [] (He.fAd K ("Carpet", some "in_normal")) fd := T.df 37 _ (by rfl)
theorem Txt.d_check_colour (T : Txt K mg base) : ∃ fd, FunD K "check_colour" "check_colour" (defArgs s_check_colour) (defBody s_check_colour) (defScope s_check_colour) [] [] (He.fAd K ("check_colour", none)) fd := T.df 38 _ (by rfl)
theorem Txt.d_plain (T : Txt K mg base) : ∃ fd, FunD K "plain" "plain" (defArgs s_plain) (defBody s_plain) (defScope s_plain) [] [] (He.fAd K ("plain", none)) fd := T.df 39 _ (by rfl)
theorem Txt.d_woven (T : Txt K mg base) : ∃ fd, FunD K "woven" "woven" (defArgs s_woven) (defBody s_woven) (defScope s_woven) [] [] (He.fAd K ("woven", none)) fd := T.df 40 _ (by rfl)
theorem Txt.d_is_colour_map (T : Txt K mg base) : ∃ fd, FunD K "is_colour_map" "is_colour_map" (defArgs s_is_colour_map) (defBody s_is_colour_map) (defScope s_is_colour_map) [] [] (He.fAd K ("is_colour_map", none)) fd := T.df 41 _ (by rfl)
theorem Txt.d_look_at_carpet (T : Txt K mg base) : ∃ fd, FunD K "look_at_carpet" "look_at_carpet" (defArgs s_look_at_carpet) (defBody s_look_at_carpet) (defScope s_look_at_carpet) [] [] (He.fAd K ("look_at_carpet", none)) fd := T.df 42 _ (by rfl)
theorem Txt.d_led_by (T : Txt K mg base) : ∃ fd, FunD K "led_by" "led_by" (defArgs s_led_by) (defBody s_led_by) (defScope s_led_by) [] [] (He.fAd K ("led_by", none)) fd := T.df 43 _ (by rfl)
theorem Txt.d_recoloured (T : Txt K mg base) : ∃ fd, FunD K "recoloured" "recoloured" (defArgs s_recoloured) (defBody s_recoloured) (defScope s_recoloured) [] [] (He.fAd K ("recoloured", none)) fd := T.df 44 _ (by rfl)
theorem Txt.d_lattice_of_all (T : Txt K mg base) : ∃ fd, FunD K "lattice_of_all" "lattice_of_all" (defArgs s_lattice_of_all) (defBody s_lattice_of_all) (defScope s_lattice_of_all) [] [] (He.fAd K ("lattice_of_all", none)) fd := T.df 45 _ (by rfl)
theorem Txt.d_laying_lattice (T : Txt K mg base) : ∃ fd, FunD K "laying_lattice" "laying_lattice" (defArgs s_laying_lattice) (defBody s_laying_lattice) (defScope s_laying_lattice) [] [] (He.fAd K ("laying_lattice", none)) fd := T.df 46 _ (by rfl)
theorem Txt.d_pairs_met (T : Txt K mg base) : ∃ fd, FunD K "pairs_met" "pairs_met" (defArgs s_pairs_met) (defBody s_pairs_met) (defScope s_pairs_met) [] [] (He.fAd K ("pairs_met", none)) fd := T.df 47 _ (by rfl)
theorem Txt.d_recolouring (T : Txt K mg base) : ∃ fd, FunD K "recolouring" "recolouring" (defArgs s_recolouring) (defBody s_recolouring) (defScope s_recolouring) [] [] (He.fAd K ("recolouring", none)) fd := T.df 48 _ (by rfl)
theorem Txt.d_law_pool (T : Txt K mg base) : ∃ fd, FunD K "_law_pool" "_law_pool" (defArgs s_law_pool) (defBody s_law_pool) (defScope s_law_pool) [] [] (He.fAd K ("_law_pool", none)) fd := T.df 49 _ (by rfl)
theorem Txt.d_law_take (T : Txt K mg base) : ∃ fd, FunD K "_law_take" "_law_take" (defArgs s_law_take) (defBody s_law_take) (defScope s_law_take) [] [] (He.fAd K ("_law_take", none)) fd := T.df 50 _ (by rfl)
theorem Txt.d_law_one (T : Txt K mg base) : ∃ fd, FunD K "_law_one" "_law_one" (defArgs s_law_one) (defBody s_law_one) (defScope s_law_one) [] [] (He.fAd K ("_law_one", none)) fd := T.df 51 _ (by rfl)
theorem Txt.d_law_rounds (T : Txt K mg base) : ∃ fd, FunD K "_law_rounds" "_law_rounds" (defArgs s_law_rounds) (defBody s_law_rounds) (defScope s_law_rounds) [] [] (He.fAd K ("_law_rounds", none)) fd := T.df 52 _ (by rfl)
theorem Txt.d_law_token (T : Txt K mg base) : ∃ fd, FunD K "_law_token" "_law_token" (defArgs s_law_token) (defBody s_law_token) (defScope s_law_token) [] [] (He.fAd K ("_law_token", none)) fd := T.df 53 _ (by rfl)
theorem Txt.d_law_made (T : Txt K mg base) : ∃ fd, FunD K "_law_made" "_law_made" (defArgs s_law_made) (defBody s_law_made) (defScope s_law_made) [] [] (He.fAd K ("_law_made", none)) fd := T.df 54 _ (by rfl)
theorem Txt.d_law_colour (T : Txt K mg base) : ∃ fd, FunD K "_law_colour" "_law_colour" (defArgs s_law_colour) (defBody s_law_colour) (defScope s_law_colour) [] [] (He.fAd K ("_law_colour", none)) fd := T.df 55 _ (by rfl)
theorem Txt.d_law_is_period (T : Txt K mg base) : ∃ fd, FunD K "_law_is_period" "_law_is_period" (defArgs s_law_is_period) (defBody s_law_is_period) (defScope s_law_is_period) [] [] (He.fAd K ("_law_is_period", none)) fd := T.df 56 _ (by rfl)
theorem Txt.d_law_slants (T : Txt K mg base) : ∃ fd, FunD K "_law_slants" "_law_slants" (defArgs s_law_slants) (defBody s_law_slants) (defScope s_law_slants) [] [] (He.fAd K ("_law_slants", none)) fd := T.df 57 _ (by rfl)
theorem Txt.d_law_lattice (T : Txt K mg base) : ∃ fd, FunD K "_law_lattice" "_law_lattice" (defArgs s_law_lattice) (defBody s_law_lattice) (defScope s_law_lattice) [] [] (He.fAd K ("_law_lattice", none)) fd := T.df 58 _ (by rfl)
theorem Txt.d_law_places (T : Txt K mg base) : ∃ fd, FunD K "_law_places" "_law_places" (defArgs s_law_places) (defBody s_law_places) (defScope s_law_places) [] [] (He.fAd K ("_law_places", none)) fd := T.df 59 _ (by rfl)
theorem Txt.d_law_second (T : Txt K mg base) : ∃ fd, FunD K "_law_second" "_law_second" (defArgs s_law_second) (defBody s_law_second) (defScope s_law_second) [] [] (He.fAd K ("_law_second", none)) fd := T.df 60 _ (by rfl)
theorem Txt.d_law_due (T : Txt K mg base) : ∃ fd, FunD K "_law_due" "_law_due" (defArgs s_law_due) (defBody s_law_due) (defScope s_law_due) [] [] (He.fAd K ("_law_due", none)) fd := T.df 61 _ (by rfl)
theorem Txt.d_law (T : Txt K mg base) : ∃ fd, FunD K "law" "law" (defArgs s_law) (defBody s_law) (defScope s_law) [] [] (He.fAd K ("law", none)) fd := T.df 62 _ (by rfl)
theorem Txt.clsL (T : Txt K mg base) : Cls K (He.ga K "Lattice") := (T.cl 0 _ (by rfl)).1
theorem Txt.mkL (T : Txt K mg base) : Mk K (He.ga K "Lattice") (He.ma K (He.ga K "Lattice") "__init__") := (T.cl 0 _ (by rfl)).2.1
theorem Txt.ownL (T : Txt K mg base) : Own K (He.ga K "Lattice") := (T.cl 0 _ (by rfl)).2.2
theorem Txt.clsC (T : Txt K mg base) : Cls K (He.ga K "Carpet") := (T.cl 1 _ (by rfl)).1
theorem Txt.mkC (T : Txt K mg base) : Mk K (He.ga K "Carpet") (He.ma K (He.ga K "Carpet") "__init__") := (T.cl 1 _ (by rfl)).2.1
theorem Txt.ownC (T : Txt K mg base) : Own K (He.ga K "Carpet") := (T.cl 1 _ (by rfl)).2.2
end
/-! ### the rules of the text's own calls -/
structure DefOk (P : Program) (w : World) (K : PySem.W.Frag) (mg : Str → Option Value) (base : Heap) (x : Str) (k : Nat) (ps : List Str) (sp : Sp) : Prop where
  ex : ∃ f fd, mg x = some (.ref f) ∧ PySem.W.keepIn K (.ref f) = true ∧ L2.Binds K fd ps [] ∧ FnOk P w K mg base CX0 k f fd ps sp
structure MetOk (P : Program) (w : World) (K : PySem.W.Frag) (mg : Str → Option Value) (base : Heap) (C : Addr) (m : Str) (k : Nat) (ps : List Str) (sp : Sp) : Prop where
  ex : ∃ f fd, Meth K C m f ∧ L2.Binds K fd ps [] ∧ FnOk P w K mg base CX0 k f fd ps sp
structure MakOk (P : Program) (w : World) (K : PySem.W.Frag) (mg : Str → Option Value) (base : Heap) (C : Addr) (k : Nat) (ps : List Str) (sp : Sp) : Prop where
  ex : ∃ f fd, Mk K C f ∧ L2.Binds K fd ps [] ∧ FnOk P w K mg base CX0 k f fd ps sp
section
variable {X : Cx} {x m : Str} {k j : Nat} {ps : List Str} {sp sp' : Sp} {p pos apos : Pos} {e o : Expr} {es : List Expr} {t : TA} {ta : TE} {C : Addr}
theorem pe_cd (D : DefOk X.prog X.w X.K X.mg X.base x k ps sp) (hr : Room j X.A) (hk : k ≤ j) (hg : Gl X x) (ha : PA X (e :: es) t) (hdb : (x == ("__debug__" : Str)) = false := by decide)
    (he : starEach (e :: es) X.env = (false, eval e X.env) :: starEach es X.env := by rfl) (hpl : (backTo pos (starEach es X.env)).any (·.1) = false := by rfl) :
    PE X (.Call (.Name x p) (e :: es) [] pos) (tCall sp [] E0 t) := by
  obtain ⟨f, fd, h1, h2, h3, h4⟩ := D.ex
  exact pe_call h4 (hr.mono hk) hg h1 h2 h3 .nil pass0 ha hdb he hpl
theorem pe_md {pl : Sem Bool} (D : MetOk X.prog X.w X.K X.mg X.base C m k ps sp) (c : Cls X.K C) (hr : Room j X.A) (hk : k ≤ j) (ho : PE X o ta) (ha : PA X (e :: es) t)
    (hst : starEach (e :: es) X.env = (false, eval e X.env) :: starEach es X.env := by rfl) (hpl : (backTo pos (starEach es X.env)).any (·.1) = false := by rfl)
    (ht : eval (.Call (.Attribute o m apos) (e :: es) [] pos) X.env = (eval o X.env >>= fun ov => standAt apos.atName >>= fun _ => holding [ov] (getMethod ov m pl) >>= fun r => callWith pos r.1 r.2 (backTo pos (starEach (e :: es) X.env)) (backToKw pos (keywordEach [] X.env))) := by rfl) :
    PE X (.Call (.Attribute o m apos) (e :: es) [] pos) (tMeth C m sp [] E0 ta t) := by
  obtain ⟨f, fd, h1, h2, h3⟩ := D.ex
  exact pe_meth (pl := pl) ho c h1 h3 (hr.mono hk) h2 .nil pass0 ha hst hpl ht
theorem pe_md0 {pl : Sem Bool} (D : MetOk X.prog X.w X.K X.mg X.base C m k ps sp) (c : Cls X.K C) (hr : Room j X.A) (hk : k ≤ j) (ho : PE X o ta)
    (ht : eval (.Call (.Attribute o m apos) [] [] pos) X.env = (eval o X.env >>= fun ov => standAt apos.atName >>= fun _ => holding [ov] (getMethod ov m pl) >>= fun r => callWith pos r.1 r.2 (backTo pos (starEach [] X.env)) (backToKw pos (keywordEach [] X.env))) := by rfl) :
    PE X (.Call (.Attribute o m apos) [] [] pos) (tMeth C m sp [] E0 ta tNil) := by
  obtain ⟨f, fd, h1, h2, h3⟩ := D.ex
  exact pe_meth0 (pl := pl) ho c h1 h3 (hr.mono hk) h2 .nil pass0 ht
theorem pe_mk (D : MakOk X.prog X.w X.K X.mg X.base C k ps sp) (hr : Room j X.A) (hk : k + 1 ≤ j) (hg : Gl X x) (hm : X.mg x = some (.ref C)) (ha : PA X (e :: es) t) (hdb : (x == ("__debug__" : Str)) = false := by decide)
    (he : starEach (e :: es) X.env = (false, eval e X.env) :: starEach es X.env := by rfl) (hpl : (backTo pos (starEach es X.env)).any (·.1) = false := by rfl) :
    PE X (.Call (.Name x p) (e :: es) [] pos) (tMake C sp [] E0 t) := by
  obtain ⟨f, fd, h1, h2, h3⟩ := D.ex
  exact pe_make h1 h3 (hr.mono hk) hg hm h2 .nil pass0 ha hdb he hpl
end
section
variable {P : Program} {w : World} {K : PySem.W.Frag} {mg : Str → Option Value} {base : Heap} {x qual : Str} {st : Stmt} {f : Addr} {fd : FuncData} {N ps : List Str} {k : Nat} {sp : Sp}
abbrev Body (P : Program) (w : World) (K : PySem.W.Frag) (mg : Str → Option Value) (base : Heap) (qual : Str) (st : Stmt) (f : Addr) (N : List Str) (k : Nat) (sp : Sp) : Prop :=
  ∀ (cdv : Value) (A : Around) (outer : List Env) (s : Shared) (H : Hp) (vs : List V) (Q : VK) (E : XK), Room k (A.deeper (envOfC qual (defScope st) s.heap.objs.size f cdv)) → sp vs H Q E →
    ∃ t, PSs (cxOf CX0 P w K mg base N qual (defScope st) f cdv A outer s H E).nox (defBody st) t ∧ t { nx := fun _ H' => Q .non H', rt := Q } (start N vs) H
theorem fnok (F : FunD K x qual (defArgs st) (defBody st) (defScope st) [] [] f fd) (S : FnScope N ps (defScope st)) (len : ∀ vs H Q E, sp vs H Q E → vs.length = ps.length) (hb : Body P w K mg base qual st f N k sp) : FnOk P w K mg base CX0 (k + 1) f fd ps sp := by
  refine F.ok S len fun cdv A outer s H vs Q E hr h => ?_
  obtain ⟨t, ht, q⟩ := hb cdv A outer s H vs Q E hr h
  exact ⟨t, ht.nox, q⟩
abbrev BindsRfl (x qual : Str) (st : Stmt) (ps : List Str) : Prop := ∀ (kV doc pm : Value) (an : Option Addr) (cdv ct : Value) (us : List Value), us.length = ps.length → bindArgs (PySem.W.fnOf x qual (defArgs st) (defBody st) (defScope st) .none kV doc pm an cdv ct) ⟨us, []⟩ = pure (ps.zip us)
theorem defok (F : ∃ fd, FunD K x qual (defArgs st) (defBody st) (defScope st) [] [] (He.fAd K (x, none)) fd) (hm : mg x = some (.ref (He.ga K x))) (S : FnScope N ps (defScope st)) (hbi : BindsRfl x qual st ps)
    (len : ∀ vs H Q E, sp vs H Q E → vs.length = ps.length) (hb : Body P w K mg base qual st (He.ga K x) N k sp) : DefOk P w K mg base x (k + 1) ps sp := by
  obtain ⟨fd, F⟩ := F
  exact ⟨He.ga K x, fd, hm, F.kp, F.bindsN hbi, fnok F S len hb⟩
theorem defokC (F : ∃ fd, FunD K x qual (defArgs st) (defBody st) (defScope st) [] [] (He.fAd K (x, none)) fd) (hm : mg x = some (.ref (He.ga K x))) (S : FnScope N ps (defScope st)) (hbi : BindsRfl x qual st ps) (len : ∀ vs H Q E, sp vs H Q E → vs.length = ps.length)
    (hb : ∀ (cdv : Value) (A : Around) (outer : List Env) (s : Shared) (H : Hp) (vs : List V) (Q : VK) (E : XK), cdv = .ref (He.cT K (x, none)).1 → Room k (A.deeper (envOfC qual (defScope st) s.heap.objs.size (He.ga K x) cdv)) → sp vs H Q E →
      ∃ t, PSs (cxOf CX0 P w K mg base N qual (defScope st) (He.ga K x) cdv A outer s H E).nox (defBody st) t ∧ t { nx := fun _ H' => Q .non H', rt := Q } (start N vs) H) : DefOk P w K mg base x (k + 1) ps sp := by
  obtain ⟨fd, F⟩ := F
  refine ⟨He.ga K x, fd, hm, F.kp, F.bindsN hbi, ?_⟩
  obtain ⟨oc, od, dV, kV, doc, pm, an, cdv, ct, osl, rfl, lk, hcd, _, _⟩ := F.ex
  have hc : cdv = .ref (He.cT K (x, none)).1 := by
    have : ∃ c, cdv = .ref c := by
      unfold PySem.W.codeIn at hcd
      split at hcd
      · exact ⟨_, rfl⟩
      · cases hcd
    obtain ⟨c, rfl⟩ := this
    rw [show (He.cT K (x, none)).1 = c from He.codeOf_eq lk rfl]
  refine fn_of lk hcd S len fun A outer s H vs Q E hr h => ?_
  obtain ⟨t, ht, q⟩ := hb cdv A outer s H vs Q E hc hr h
  exact ⟨t, ht.nox, q⟩
theorem metok {C m : Str} (F : ∃ fd, FunD K m qual (defArgs st) (defBody st) (defScope st) [] [] (He.fAd K (C, some m)) fd) (hm : Meth K (He.ga K C) m (He.ma K (He.ga K C) m)) (S : FnScope N ps (defScope st)) (hbi : BindsRfl m qual st ps)
    (len : ∀ vs H Q E, sp vs H Q E → vs.length = ps.length) (hb : Body P w K mg base qual st (He.ma K (He.ga K C) m) N k sp) : MetOk P w K mg base (He.ga K C) m (k + 1) ps sp := by
  obtain ⟨fd, F⟩ := F
  exact ⟨He.ma K (He.ga K C) m, fd, hm, F.bindsN hbi, fnok F S len hb⟩
theorem makok {C : Str} (F : ∃ fd, FunD K "__init__" qual (defArgs st) (defBody st) (defScope st) [] [] (He.fAd K (C, some "__init__")) fd) (hm : Mk K (He.ga K C) (He.ma K (He.ga K C) "__init__")) (S : FnScope N ps (defScope st)) (hbi : BindsRfl "__init__" qual st ps)
    (len : ∀ vs H Q E, sp vs H Q E → vs.length = ps.length) (hb : Body P w K mg base qual st (He.ma K (He.ga K C) "__init__") N k sp) : MakOk P w K mg base (He.ga K C) (k + 1) ps sp := by
  obtain ⟨fd, F⟩ := F
  exact ⟨He.ma K (He.ga K C) "__init__", fd, hm, F.bindsN hbi, fnok F S len hb⟩
end
theorem iteNT {c A B : Prop} [Decidable c] (hc : ¬ c) (h : A) : if (!decide c) = true then A else B := by
  rw [decide_eq_false hc]
  exact iteT h
theorem iteD {c A B : Prop} [Decidable c] (hc : c) (h : A) : if decide c = true then A else B := by
  rw [decide_eq_true hc]
  exact iteT h
theorem iteDF {c A B : Prop} [Decidable c] (hc : ¬ c) (h : B) : if decide c = true then A else B := by
  rw [decide_eq_false hc]
  exact iteF h
/-- what a call hands back: v, the heap grown -/
def Ret (H : Hp) (Q : VK) (v : V) : Prop := ∀ H', Same H H' → Q v H'
def RetR (H : Hp) (Q : VK) (R : Addr → Hp → Prop) : Prop := ∀ p H', Same H H' → R p H' → Q (.ref p) H'
theorem Same.upd {H : Hp} {p : Addr} {o : HO} (h : H p = none) : Same H (L2.upd H p o) := fun b u e => by
  rw [upd_ne (ne_of_none e h)]
  exact e
theorem Same.mut {H H' : Hp} {p : Addr} {o : HO} (e : Same H H') (h : H p = none) : Same H (L2.upd H' p o) := fun b u eb => by
  rw [upd_ne (ne_of_none eb h)]
  exact e b u eb
/-! ### lattices -/
def lf (a b d : Int) : List (Str × V) := [("a", .int a), ("b", .int b), ("d", .int d)]
theorem lf_a {a b d : Int} : (lf a b d).lookup ("a" : Str) = some (.int a) := rfl
theorem lf_b {a b d : Int} : (lf a b d).lookup ("b" : Str) = some (.int b) := rfl
theorem lf_d {a b d : Int} : (lf a b d).lookup ("d" : Str) = some (.int d) := rfl
theorem lf_n {a b d : Int} : (lf a b d).lookup ("place" : Str) = none := rfl
theorem lf_ar {a b d : Int} : (lf a b d).lookup ("area" : Str) = none := rfl
theorem lf_pls {a b d : Int} : (lf a b d).lookup ("places" : Str) = none := rfl
theorem lf_p {a b d : Int} : putF "d" (.int d) (putF "b" (.int b) (putF "a" (.int a) [])) = lf a b d := rfl
structure IsLat (K : PySem.W.Frag) (a b d : Int) (p : Addr) (H : Hp) : Prop where
  ex : ∃ dx, H p = some (.ins (CL K) dx (lf a b d))
theorem IsLat.mono {K : PySem.W.Frag} {a b d : Int} {p : Addr} {H H' : Hp} (h : IsLat K a b d p H) (e : Same H H') : IsLat K a b d p H' := by
  obtain ⟨dx, z⟩ := h.ex
  exact ⟨dx, e _ _ z⟩
structure LtOk (a b d : Int) : Prop where
  a1 : 1 ≤ a
  a2 : a ≤ 200
  b1 : 0 ≤ b
  b2 : b < a
  d1 : 1 ≤ d
  d2 : d ≤ 200
def looseL : List Str := (["_wall", "MOST_COLOUR", "is_integer", "is_between", "is_colour", "is_list"] : List Str) ++ (["PlaneError", "BadPart", "BadNumber", "BadIndex", "TooMany", "check_integer"] : List Str) ++ (["check_remainder", "greatest_divisor", "least_multiple", "inverse", "remainder_of", "is_remainder"] : List Str) ++ (["both_remainders", "is_shift", "check_cell", "check_basis", "Lattice", "check_lattice"] : List Str) ++ (["common_lattice", "MOST_CELLS", "FIGURES", "is_row", "check_rows", "check_size"] : List Str) ++ (["sign_at", "is_period_of", "divisors_of", "level_period", "least_lattice", "normal_rows"] : List Str) ++ (["rows_by", "Carpet", "check_colour", "plain", "woven", "MOST_AREA"] : List Str) ++ (["is_row_of_ten", "is_colour_map", "look_at_carpet", "led_by", "recoloured", "lattice_of_all"] : List Str) ++ (["laying_lattice", "pairs_met", "recolouring", "_law_pool", "_law_take", "_law_one"] : List Str) ++ (["_law_rounds", "_law_token", "_law_made", "_law_colour", "_law_is_period", "_law_slants"] : List Str) ++ (["_law_lattice", "_law_places", "_law_second", "_law_due"] : List Str)
def faL : List He.Fa := gloL.map .glo ++ freL.map .free ++ clsL.map .cls ++ naL.map (fun p => .noat p.1 p.2) ++ meL.map (fun p => .meth p.1 p.2) ++ clsL.map .mkr ++ intL.map (fun p => .int p.1 p.2) ++ [.str "FIGURES" "0123456789"]
def lawI : Nat := 72
abbrev Rw : PySem.W.OpenRow := PySem.W.OpenLaw.row PySem.Challenge.rw_endlessplane_k18_whole_recolourings
def tfL : List He.Defn := [("recoloured", none), ("woven", none)]
abbrev hk : PySem.W.Hook := He.hookX 6 faL fnL [] tfL exB
def ob (s : PySem.W.SharedT) : He.AlX := He.obsX 6 faL fnL [] tfL exB (HandSHeadRun.getT s)
theorem ob_eq (s : PySem.W.SharedT) : ob s = hk.obs s.abs := He.obsX_eq (HandSHeadRun.getT_eq s)
theorem run (w : World) : HandSHeadRun.RunEq Rw (PySem.W.view Rw.prog [72]) hk ob 8000 looseL w := by
  intro os
  kernel_rfl
section
/-! ### list comprehensions whose elements are told by a word that stays -/
structure Stab (R : Nat → V → Hp → Prop) : Prop where
  mono : ∀ {i : Nat} {v : V} {H H' : Hp}, Same H H' → R i v H → R i v H'
  lst : ∀ {i : Nat} {v : V} {H : Hp} {D : Addr} {xs ys : List V}, H D = some (.lst xs) → R i v H → R i v (upd H D (.lst ys))
def Good (R : Nat → V → Hp → Prop) (acc : List V) (H : Hp) : Prop := ∀ (j : Nat) (v : V), acc[j]? = some v → R j v H
theorem Good.mono {R : Nat → V → Hp → Prop} (S : Stab R) {acc : List V} {H H' : Hp} (e : Same H H') (g : Good R acc H) : Good R acc H' := fun j v h => S.mono e (g j v h)
theorem Stab.val (f : Nat → V) : Stab (fun i v _ => v = f i) := ⟨fun _ h => h, fun _ h => h⟩
theorem good_val {f : Nat → V} {acc : List V} {H : Hp} {n : Nat} (g : Good (fun i v _ => v = f i) acc H) (hl : acc.length = n) : acc = (List.range n).map f := by
  subst hl
  refine List.ext_getElem? fun i => ?_
  rw [List.getElem?_map]
  by_cases hi : i < acc.length
  · rw [List.getElem?_range hi, List.getElem?_eq_getElem hi]
    exact congrArg some (g i _ (List.getElem?_eq_getElem hi))
  · rw [List.getElem?_eq_none (by omega), List.getElem?_eq_none (by rw [List.length_range]; omega)]
    rfl
/-- tuples of a told content -/
theorem Stab.tup (f : Nat → List V) : Stab (fun i v H => ∃ p, v = .ref p ∧ H p = some (.tup (f i))) :=
  ⟨fun e ⟨p, h1, h2⟩ => ⟨p, h1, e _ _ h2⟩, fun hD ⟨p, h1, h2⟩ => ⟨p, h1, by rw [upd_ne (ne_of h2 hD (fun z => nomatch z))]; exact h2⟩⟩
structure CwG (R : Nat → V → Hp → Prop) (H1 : Hp) (D : Addr) (i : Nat) (H' : Hp) : Prop where
  new : H1 D = none
  same : Same H1 H'
  ex : ∃ acc, H' D = some (.lst acc) ∧ acc.length = i ∧ Good R acc H'
abbrev LcGo (J : It) (g : TG) (tt : TT) (te : TE) (vs : List Nat) (σ : L2.St) (H1 : Hp) (Q : Addr → Hp → Prop) : Prop := ∀ D, H1 D = none →
  ∃ W : Nat → Nat → Hp → Prop, (∃ m, W 0 m (upd H1 D (.lst []))) ∧ ∀ i m H, W i m H → (J.stop i H ∧ Q D H) ∨
    (J.go i H ∧ ∃ Nx : Hp → Prop, (∀ H', Nx H' → ∃ m', m' < m ∧ W (i + 1) m' H') ∧
      ∀ x H', J.yld i H x H' → g x (wipe σ vs) H' fun σ2 H2 => wipe σ2 vs = wipe σ vs ∧
        tt σ2 H2 fun b H3 => if b = true then te σ2 H3 fun y H4 => ∃ acc, H4 D = some (.lst acc) ∧ acc.length < sizeLine ∧ Nx (upd H4 D (.lst (acc ++ [y]))) else Nx H3)
section
variable {R : Nat → V → Hp → Prop} {H1 : Hp} {σ : L2.St} {vs : List Nat} {j : Nat} {te : TE} {Q : Addr → Hp → Prop}
/-- an element gives what R says, the heap grown -/
abbrev Elt (te : TE) (R : Nat → V → Hp → Prop) (i : Nat) (σ : L2.St) (H' : Hp) : Prop := ∀ Q' : VK, (∀ v H2, Same H' H2 → R i v H2 → Q' v H2) → te σ H' Q'
theorem cwG_turn (S : Stab R) {D : Addr} {i : Nat} {H' : Hp} {σ2 : L2.St} (hi : i < 50000) (p : CwG R H1 D i H') (he : Elt te R i σ2 H') :
    te σ2 H' fun y H4 => ∃ acc, H4 D = some (.lst acc) ∧ acc.length < sizeLine ∧ CwG R H1 D (i + 1) (upd H4 D (.lst (acc ++ [y]))) := by
  obtain ⟨n1, s1, acc, hD, hl, g⟩ := p
  refine he _ fun v H2 e2 r => ⟨acc, e2 _ _ hD, Nat.lt_of_lt_of_le (show acc.length < 100000 by omega) (by decide), n1, Same.mut (s1.trans e2) n1, acc ++ [v], upd_same, ?_, ?_⟩
  · rw [List.length_append, hl]
    rfl
  · intro k u hk
    by_cases hlt : k < acc.length
    · rw [List.getElem?_append_left hlt] at hk
      exact S.lst (e2 _ _ hD) (S.mono e2 (g k u hk))
    · rw [List.getElem?_append_right (by omega)] at hk
      have hk2 : k - acc.length < 1 := (List.getElem?_eq_some_iff.mp hk).1
      have ek : k = i := by omega
      subst ek
      rw [hl, Nat.sub_self] at hk
      cases hk
      exact S.lst (e2 _ _ hD) r
abbrev LcEnd (R : Nat → V → Hp → Prop) (H1 : Hp) (n : Nat) (Q : Addr → Hp → Prop) : Prop := ∀ (D : Addr) (acc : List V) (H' : Hp), Same H1 H' → H1 D = none → H' D = some (.lst acc) → acc.length = n → Good R acc H' → Q D H'
theorem cwG_zero {D : Addr} (nD : H1 D = none) : CwG R H1 D 0 (upd H1 D (.lst [])) := ⟨nD, Same.upd nD, [], upd_same, rfl, fun j v h => by simp at h⟩
theorem lcR {lo : Int} {n : Nat} (S : Stab R) (hn : n ≤ 40000) (hw : ∀ x, wipe ((wipe σ vs).set j (some x)) vs = wipe σ vs)
    (he : ∀ (i : Nat) H', i < n → Same H1 H' → Elt te R i ((wipe σ vs).set j (some (.int (lo + i)))) H') (k : LcEnd R H1 n Q) : LcGo (Itr lo n) (gName j) tYes te vs σ H1 Q := fun D nD =>
  lc_range (CwG R H1 D) (cwG_zero nD) (fun i H' hi p => ⟨hw _, cwG_turn S (by omega) p (he i H' hi p.same)⟩) fun H' p => by
    obtain ⟨n1, s1, acc, hD, hl, g⟩ := p
    exact k D acc H' s1 n1 hD hl g
theorem lcL {K : PySem.W.Frag} {a : Addr} {xs : List V} (S : Stab R) (hn : xs.length ≤ 40000) (hx : SqL K H1 a xs) (hw : ∀ x, wipe ((wipe σ vs).set j (some x)) vs = wipe σ vs)
    (he : ∀ (i : Nat) (x : V) H', xs[i]? = some x → Same H1 H' → Elt te R i ((wipe σ vs).set j (some x)) H') (k : LcEnd R H1 xs.length Q) : LcGo (Itl K a) (gName j) tYes te vs σ H1 Q := fun D nD =>
  lc_list (xs := xs) (CwG R H1 D) (cwG_zero nD) (fun i H' _ p => Same.seq p.same hx) (fun i x H' hi p => ⟨hw _, cwG_turn S (by have := (List.getElem?_eq_some_iff.mp hi).1; omega) p (he i x H' hi p.same)⟩) fun H' p => by
    obtain ⟨n1, s1, acc, hD, hl, g⟩ := p
    exact k D acc H' s1 n1 hD hl g
theorem lcT {K : PySem.W.Frag} {a : Addr} {xs : List V} (S : Stab R) (hn : xs.length ≤ 40000) (hx : H1 a = some (.tup xs)) (hw : ∀ x, wipe ((wipe σ vs).set j (some x)) vs = wipe σ vs)
    (he : ∀ (i : Nat) (x : V) H', xs[i]? = some x → Same H1 H' → Elt te R i ((wipe σ vs).set j (some x)) H') (k : LcEnd R H1 xs.length Q) : LcGo (Itt K a) (gName j) tYes te vs σ H1 Q := fun D nD =>
  lc_tup (xs := xs) (CwG R H1 D) (cwG_zero nD) (fun i H' _ p => SqT.of (p.same _ _ hx)) (fun i x H' hi p => ⟨hw _, cwG_turn S (by have := (List.getElem?_eq_some_iff.mp hi).1; omega) p (he i x H' hi p.same)⟩) fun H' p => by
    obtain ⟨n1, s1, acc, hD, hl, g⟩ := p
    exact k D acc H' s1 n1 hD hl g
/-- with a test, the element a value by the turn -/
def pick (n : Nat) (f : Nat → Bool) (v : Nat → V) : List V := ((List.range n).filter f).map v
theorem pick_succ (n : Nat) (f : Nat → Bool) (v : Nat → V) : pick (n + 1) f v = pick n f v ++ (if f n = true then [v n] else []) := by
  unfold pick
  rw [List.range_succ, List.filter_append, List.map_append, List.filter_cons]
  cases f n <;> rfl
theorem pick_len (n : Nat) (f : Nat → Bool) (v : Nat → V) : (pick n f v).length ≤ n := by
  unfold pick
  rw [List.length_map]
  have h := List.length_filter_le f (List.range n)
  rwa [List.length_range] at h
structure CwF (f : Nat → Bool) (v : Nat → V) (H1 : Hp) (D : Addr) (i : Nat) (H' : Hp) : Prop where
  new : H1 D = none
  same : Same H1 H'
  at_ : H' D = some (.lst (pick i f v))
abbrev Tst (tt : TT) (b : Bool) (σ : L2.St) (H' : Hp) : Prop := ∀ Q' : Bool → Hp → Prop, (∀ H2, Same H' H2 → Q' b H2) → tt σ H' Q'
theorem cwF_turn {f : Nat → Bool} {v : Nat → V} {tt : TT} {D : Addr} {i : Nat} {H' : Hp} {σ2 : L2.St} (hi : i < 50000) (p : CwF f v H1 D i H') (ht : Tst tt (f i) σ2 H') (he : ∀ H2, Same H' H2 → Elt te (fun i w _ => w = v i) i σ2 H2) :
    tt σ2 H' fun b H3 => if b = true then te σ2 H3 fun y H4 => ∃ acc, H4 D = some (.lst acc) ∧ acc.length < sizeLine ∧ CwF f v H1 D (i + 1) (upd H4 D (.lst (acc ++ [y]))) else CwF f v H1 D (i + 1) H3 := by
  refine ht _ fun H2 e2 => ?_
  cases hf : f i with
  | true =>
    refine iteT (he H2 e2 _ fun u H3 e3 hu => ⟨pick i f v, e3 _ _ (e2 _ _ p.at_), Nat.lt_of_lt_of_le (show (pick i f v).length < 100000 by have := pick_len i f v; omega) (by decide), p.new, Same.mut (p.same.trans (e2.trans e3)) p.new, ?_⟩)
    rw [upd_same, pick_succ, hf, hu]
    rfl
  | false =>
    refine iteF ⟨p.new, p.same.trans e2, ?_⟩
    rw [pick_succ, hf]
    rw [e2 _ _ p.at_]
    simp
theorem cwF_zero {f : Nat → Bool} {v : Nat → V} {D : Addr} (nD : H1 D = none) : CwF f v H1 D 0 (upd H1 D (.lst [])) := ⟨nD, Same.upd nD, upd_same⟩
theorem lcRf {lo : Int} {n : Nat} (f : Nat → Bool) (v : Nat → V) {tt : TT} (hn : n ≤ 40000) (hw : ∀ x, wipe ((wipe σ vs).set j (some x)) vs = wipe σ vs)
    (ht : ∀ (i : Nat) H', i < n → Same H1 H' → Tst tt (f i) ((wipe σ vs).set j (some (.int (lo + i)))) H') (he : ∀ (i : Nat) H', i < n → Same H1 H' → Elt te (fun i w _ => w = v i) i ((wipe σ vs).set j (some (.int (lo + i)))) H')
    (k : ∀ (D : Addr) (H' : Hp), Same H1 H' → H1 D = none → H' D = some (.lst (pick n f v)) → Q D H') : LcGo (Itr lo n) (gName j) tt te vs σ H1 Q := fun D nD =>
  lc_range (CwF f v H1 D) (cwF_zero nD) (fun i H' hi p => ⟨hw _, cwF_turn (by omega) p (ht i H' hi p.same) fun H2 e2 => he i H2 hi (p.same.trans e2)⟩) fun H' p => k D H' p.same p.new p.at_
theorem lcLf {K : PySem.W.Frag} {a : Addr} {xs : List V} (f : Nat → Bool) (v : Nat → V) {tt : TT} (hn : xs.length ≤ 40000) (hx : SqL K H1 a xs) (hw : ∀ x, wipe ((wipe σ vs).set j (some x)) vs = wipe σ vs)
    (ht : ∀ (i : Nat) (x : V) H', xs[i]? = some x → Same H1 H' → Tst tt (f i) ((wipe σ vs).set j (some x)) H') (he : ∀ (i : Nat) (x : V) H', xs[i]? = some x → Same H1 H' → Elt te (fun i w _ => w = v i) i ((wipe σ vs).set j (some x)) H')
    (k : ∀ (D : Addr) (H' : Hp), Same H1 H' → H1 D = none → H' D = some (.lst (pick xs.length f v)) → Q D H') : LcGo (Itl K a) (gName j) tt te vs σ H1 Q := fun D nD =>
  lc_list (xs := xs) (CwF f v H1 D) (cwF_zero nD) (fun i H' _ p => Same.seq p.same hx) (fun i x H' hi p => ⟨hw _, cwF_turn (by have := (List.getElem?_eq_some_iff.mp hi).1; omega) p (ht i x H' hi p.same) fun H2 e2 => he i x H2 hi (p.same.trans e2)⟩)
    fun H' p => k D H' p.same p.new p.at_
end
end
section
/-! ### rules with K told -/
section
variable {X : Cx} {e o : Expr} {ta to te : TE} {f : Str} {pos apos : Pos}
theorem ixT (K : PySem.W.Frag) (h : X.K = K := by rfl) : IxR X (rIxT K) := by
  subst h
  exact ix_tup
theorem ixL (K : PySem.W.Frag) (h : X.K = K := by rfl) : IxR X (rIxL K) := by
  subst h
  exact ix_list
theorem pfl (K : PySem.W.Frag) (he : PE X e ta) (hb : attributeBase e f X.env (eval e X.env) = eval e X.env) (h : X.K = K := by rfl) : PE X (.Attribute e f pos) (tFld K ta f) := by
  subst h
  exact pe_fld he hb
abbrev rJn (K : PySem.W.Frag) : V → List V → Hp → VK → Prop := fun x xs H Q => ∃ a p, ∃ ys : List Str, x = .str a ∧ xs = [.ref p] ∧ (SqL K H p (ys.map V.str) ∨ SqT K H p (ys.map V.str)) ∧
    (ys.map (·.length)).sum + ys.length * a.length ≤ 16777216 ∧ Q (.str (Txt.join a ys)) H
theorem pjn (K : PySem.W.Frag) (ho : PE X o to) (he : PE X e te) (h : X.K = K := by rfl) (hs : starEach [e] X.env = [(false, eval e X.env)] := by rfl) (hbase : attributeBase o "join" X.env (eval o X.env) = eval o X.env := by rfl) (hline : (apos.endLine == pos.line) = true := by rfl) :
    PE X (.Call (.Attribute o "join" apos) [e] [] pos) (tM1 (rJn K) to te) := by
  subst h
  exact pe_join ho he hs hbase hline
end
/-! ### a comprehension over any walk -/
theorem lcW {J : It} {n : Nat} {G : Hp → Prop} {Y : Nat → Hp → V → Hp → Prop} {R : Nat → V → Hp → Prop} {H1 : Hp} {σ : L2.St} {vs : List Nat} {j : Nat} {te : TE} {Q : Addr → Hp → Prop} (w : Walk J n G Y) (S : Stab R) (hn : n ≤ 40000) (hG : ∀ H', Same H1 H' → G H')
    (hw : ∀ x, wipe ((wipe σ vs).set j (some x)) vs = wipe σ vs) (he : ∀ (i : Nat) (x : V) H' H2, i < n → Same H1 H' → Y i H' x H2 → H2 = H' ∧ Elt te R i ((wipe σ vs).set j (some x)) H') (k : LcEnd R H1 n Q) : LcGo J (gName j) tYes te vs σ H1 Q := fun D nD =>
  lc_it w (CwG R H1 D) (cwG_zero nD) (fun i H' _ p => hG H' p.same) (fun i x H' H2 hi p y => by
    obtain ⟨e2, q⟩ := he i x H' H2 hi p.same y
    subst e2
    exact ⟨hw _, cwG_turn S (by omega) p q⟩) fun H' p => by
    obtain ⟨n1, s1, acc, hD, hl, g⟩ := p
    exact k D acc H' s1 n1 hD hl g
/-! ### texts of figures -/
def dS (r : List Nat) : Str := ⟨(r.map (48 + ·)).toArray⟩
theorem dS_len (r : List Nat) : (dS r).length = r.length := by
  show (r.map (48 + ·)).toArray.size = r.length
  simp
theorem dS_one (c : Nat) : dS [c] = ⟨#[48 + c]⟩ := rfl
theorem dS_inj {r s : List Nat} (h : dS r = dS s) : r = s := by
  have h1 : (r.map (48 + ·)) = (s.map (48 + ·)) := by
    have := congrArg (fun z : Str => z.cps.toList) h
    simpa [dS] using this
  have h2 := congrArg (List.map (· - 48)) h1
  have e : ∀ l : List Nat, (l.map (48 + ·)).map (· - 48) = l := fun l => by
    rw [List.map_map]
    conv => rhs; rw [← List.map_id l]
    refine List.map_congr_left fun x _ => ?_
    show 48 + x - 48 = x
    omega
  rw [e, e] at h2
  exact h2
theorem dS_at {r : List Nat} {i : Nat} {c : Nat} (h : r[i]? = some c) : (dS r).cps.toList[i]? = some (48 + c) := by
  show (r.map (48 + ·)).toArray.toList[i]? = _
  simp [h]
theorem small_str {z : Str} (h : z.length ≤ 1000) : z.length ≤ sizeLine := Nat.le_trans h (by decide)
theorem joinL_one : ∀ cs : List Nat, TL.joinL [] (cs.map fun c => [48 + c]) = cs.map (48 + ·)
  | [] => rfl
  | [c] => rfl
  | c :: d :: r => by
    have ih := joinL_one (d :: r)
    show [48 + c] ++ ([] ++ TL.joinL [] ((d :: r).map fun c => [48 + c])) = (48 + c) :: (d :: r).map (48 + ·)
    rw [ih]
    rfl
theorem join_dS (cs : List Nat) : Txt.join (Str.ofString "") (cs.map fun c => dS [c]) = dS cs := by
  have h := TL.tl_join (Str.ofString "") (cs.map fun c => dS [c])
  rw [List.map_map] at h
  have e1 : (TL.tl ∘ fun c => dS [c]) = fun c => [48 + c] := rfl
  have e2 : TL.tl (Str.ofString "") = [] := rfl
  rw [e1, e2, joinL_one] at h
  rw [TL.join_eq]
  generalize Str.join (Str.ofString "") (cs.map fun c => dS [c]) = z at h
  obtain ⟨z⟩ := z
  unfold dS
  congr
  have h2 : z.toList = cs.map (48 + ·) := h
  rw [← h2]
theorem join_size (cs : List Nat) (h : cs.length ≤ 1000) : ((cs.map fun c => dS [c]).map (·.length)).sum + (cs.map fun c => dS [c]).length * (Str.ofString "").length ≤ 16777216 := by
  have e : ((cs.map fun c => dS [c]).map (·.length)).sum = cs.length := by
    rw [List.map_map]
    clear h
    induction cs with
    | nil => rfl
    | cons c r ih =>
      rw [List.map_cons, List.sum_cons, ih, List.length_cons]
      show 1 + r.length = r.length + 1
      omega
  have e0 : (Str.ofString "").length = 0 := rfl
  rw [e, e0]
  omega
end
section
/-! ### enumerate over a tuple -/
set_option maxHeartbeats 2000000 in
theorem meets_enT {v : Value} {o : Obj} {Hh : Heap → Prop} (B : PySem.Begins v o Hh) :
    Meets (Builtin.«enumerate.__new__» ⟨[.type "enumerate", v], []⟩) (fun _ R s => Hh s.heap ∧
      R (.ok (.ret (.ref (s.heap.push o).objs.size))) { s with heap := (s.heap.push o).push { cls := .type "enumerate", data := .fields #[.none, .bool false, .ref s.heap.objs.size, rawInt 0, .none, .none] } }) :=
  .of_wp fun prog w A R s h => by
    obtain ⟨hh, gg, dd, tt, oo⟩ := s
    obtain ⟨hv, hR⟩ := h
    have subE := PySem.sub_enumerate
    have step : ∀ {A' : Around} {E : Value → Shared → Prop} {Q : Value → Shared → Prop}, Q (.ref hh.objs.size) ⟨hh.push o, gg, dd, tt, oo⟩ → wpAny (model prog w) A' (pyIter v) Q E ⟨hh, gg, dd, tt, oo⟩ := fun z => B.iter prog w _ _ ⟨hh, gg, dd, tt, oo⟩ _ hv z
    wp_walk using step
    refine wpAny_stack_any fun st => wpAny_pure ?_
    split
    · rename_i c _ _ _ _ _
      cases (c == Value.type "enumerate")
      · wp_walk using step
        exact ⟨_, rfl, hR⟩
      · wp_walk using step
        exact ⟨_, rfl, hR⟩
    · wp_walk using step
      exact ⟨_, rfl, hR⟩
theorem enT_call {prog : Program} {w : World} {A : Around} {E : Value → Shared → Prop} {s : Shared} {t : Addr} {items : Array Value} {Q : Value → Shared → Prop} (ht : s.heap.IsTuple t items)
    (h : ∀ h', IsEnum h' (s.heap.objs.size + 1) s.heap.objs.size 0 .none → h'.IsTupleIter s.heap.objs.size t 0 → (∀ b o, s.heap.get? b = some o → h'.get? b = some o) → Q (.ref (s.heap.objs.size + 1)) { s with heap := h' }) :
    wpAny (model prog w) A (call (.type "enumerate") [.ref t]) Q E s := by
  refine PySem.callType_new PySem.F.called_enumerate (by decide) (PySem.F.typeCall_enumerate_1 _) (PySem.F.newCall_enumerate_1 _) (fun obj => PySem.F.args_object_init_2 obj _) PySem.F.entry_enumerate_new (meets_enT (PySem.begins_tuple t items)) ⟨ht, ?_⟩
  generalize ho : ({ cls := .type "tuple_iterator", data := .fields #[.ref t, .int 0 0] } : Obj) = o
  have hz : (s.heap.push o).objs.size = s.heap.objs.size + 1 := Heap.size_push ..
  show _ ∧ _
  rw [hz]
  have he : IsEnum ((s.heap.push o).push { cls := .type "enumerate", data := .fields #[.none, .bool false, .ref s.heap.objs.size, rawInt 0, .none, .none] }) (s.heap.objs.size + 1) s.heap.objs.size 0 .none := by
    have z := Heap.get?_push_size (s.heap.push o) (o := { cls := .type "enumerate", data := .fields #[.none, .bool false, .ref s.heap.objs.size, rawInt 0, .none, .none] }) rfl
    rwa [hz] at z
  refine ⟨⟨_, he, rfl⟩, h _ he ⟨o, Heap.get?_push_of_some _ (Heap.get?_push_size _ (by rw [← ho]; rfl)), by rw [← ho], by rw [← ho]; rfl⟩ fun b u x => Heap.get?_push_of_some _ (Heap.get?_push_of_some _ x)⟩
def EnT (K : PySem.W.Frag) (a : Addr) : It :=
  ⟨fun i H => ∃ (xs : List V) (x : V), SqT K H a xs ∧ xs[i]? = some x,
   fun i H v H' => ∃ T x, v = .ref T ∧ H T = none ∧ H' = upd H T (.tup [.int (i : Nat), x]) ∧ ∀ xs, SqT K H a xs → xs[i]? = some x,
   fun i H => ∃ xs : List V, SqT K H a xs ∧ xs.length ≤ i⟩
theorem enT_apart {h : Heap} {e it a : Addr} {i j : Nat} {old : Value} {items : Array Value} (he : IsEnum h e it i old) (hi : h.IsTupleIter it a j) (ht : h.IsTuple a items) : e ≠ a ∧ a ≠ it := by
  obtain ⟨o, ho, hc, n, hd⟩ := ht
  obtain ⟨o2, ho2, hc2, hd2⟩ := hi
  constructor
  · intro z
    rw [← z] at ho
    have q := ho.symm.trans he
    cases q
    cases hd
  · intro z
    rw [z, ho2] at ho
    cases ho
    rw [hd2] at hd
    cases hd
theorem turn_enT {P : Program} {w : World} {K : PySem.W.Frag} {elts : List Expr} {kk : Nat} {tpos : Pos} (a e it : Addr) :
    Turn P w K (.Tuple elts kk tpos) (EnT K a) [e, it] e (fun i h => (∃ old, IsEnum h e it ((i : Nat) : Int) old) ∧ h.IsTupleIter it a i ∧ e ≠ it) where
  mem := List.mem_cons_self
  obj := fun i h st b hb => by
    obtain ⟨⟨old, he⟩, ⟨o, ho, hc, hd⟩, _⟩ := st
    rcases List.mem_cons.mp hb with z | hb
    · rw [z]
      exact ⟨_, he, fun v q => by cases q⟩
    · rw [List.mem_singleton.mp hb]
      exact ⟨o, ho, fun v q => by rw [hd] at q; cases q⟩
  keep := fun i h h' st k => by
    obtain ⟨⟨old, he⟩, hi, hne⟩ := st
    exact ⟨⟨old, k e List.mem_cons_self _ he⟩, hi.at fun o q => k it (List.mem_cons_of_mem _ List.mem_cons_self) o q, hne⟩
  item := by
    intro X hP hw hK hc i pins s σ H E I hf st hg
    subst hP hw hK
    obtain ⟨⟨old, he⟩, hit, hne⟩ := st
    obtain ⟨xs, x, hq, hx⟩ := hg
    obtain ⟨its, rv, p, hz⟩ := I.tuple hq
    obtain ⟨u, hu, ru⟩ := rv.get hx
    have hT : s.heap.IsTuple a its.toArray := p
    obtain ⟨n1, n2⟩ := enT_apart he hit hT
    have hel : e < s.heap.objs.size := Heap.lt_size he
    have hil : it < s.heap.objs.size := by
      obtain ⟨_, q, _⟩ := hit
      exact Heap.lt_size q
    have hlt : i < its.toArray.size := by
      rw [List.size_toArray]
      exact (List.getElem?_eq_some_iff.mp hu).1
    have D := Draws.tuple (prog := X.prog) (w := X.w) (A := X.A.in1) (I.ok.hd hc) it a n2 its.toArray
    refine PySem.wpAny_pyNext_enum_itemD D he ⟨hit, hT⟩ hlt hne (by intro z; rcases List.mem_cons.mp z with z | z; exact hne z; exact n1 (List.mem_singleton.mp z)) fun y h' tk hy ho hst hTn hsz hk => ?_
    have ey : y = u := by
      have q : its.toArray[i]? = some u := by simpa using hu
      exact Option.some.inj (hy.symm.trans q)
    subst ey
    refine ⟨_, rfl, wpAny_letOwnedTupleGo_enum (s := { s with heap := h', toks := tk + 1 }) ho fun h'' he' sb => ?_⟩
    have hT2 : h''.get? s.heap.objs.size = some { cls := .type "tuple", data := .seq #[.int i tk, y] } := (sb.2 _ (Nat.ne_of_gt hel)).trans hTn
    have new : ObjOk X.prog X.w (upd H s.heap.objs.size (.tup [.int (i : Nat), x])) h'' s.heap.objs.size (.tup [.int (i : Nat), x]) := ⟨by show 2 ≤ sizeLine; decide, [.int i tk, y], .cons ⟨_, rfl⟩ (.cons ru .nil), ⟨_, hT2, rfl, _, rfl⟩⟩
    have J : Inv X pins σ (upd H s.heap.objs.size (.tup [.int (i : Nat), x])) { s with heap := h'', toks := tk + 1 } :=
      I.turnedNew (ch := [e, it]) (fun b ob hb q => (sb.2 b fun z => hb (z ▸ List.mem_cons_self)).trans (hk b ob (fun z => hb (z ▸ List.mem_cons_self)) (fun z => hb (z ▸ List.mem_cons_of_mem _ List.mem_cons_self)) q)) hf (Nat.le_refl _) new
    refine ⟨.ref s.heap.objs.size, _, J, rfl, ⟨_, x, rfl, I.hok.fresh (Nat.le_refl _), rfl, fun ys hy => by rw [I.tuple_inj hy hq]; exact hx⟩, ⟨⟨y, ?_⟩, hst.1.at fun o q => (sb.2 it (Ne.symm hne)).trans q, hne⟩, fun b hb => ?_⟩
    · rw [show ((i + 1 : Nat) : Int) = (i : Int) + 1 by omega]
      exact he'
    · have hb' : b < s.heap.objs.size := by
        rcases List.mem_cons.mp hb with z | z
        · rw [z]
          exact hel
        · rw [List.mem_singleton.mp z]
          exact hil
      rw [upd_ne (Nat.ne_of_lt hb')]
      exact (hf b hb).1
  done := by
    intro X hP hw hK hc i pins s σ H E I hf st hg
    subst hP hw hK
    obtain ⟨⟨old, he⟩, hit, hne⟩ := st
    obtain ⟨xs, hq, hx⟩ := hg
    obtain ⟨its, rv, p, hz⟩ := I.tuple hq
    have hT : s.heap.IsTuple a its.toArray := p
    obtain ⟨n1, n2⟩ := enT_apart he hit hT
    obtain ⟨f0, f1, f2, f3, f4, f5⟩ := hf it (List.mem_cons_of_mem _ List.mem_cons_self)
    have hl := rv.length
    obtain ⟨hp, gg, dd, tk, os⟩ := s
    have hT' : Shared.TypeIs ⟨hp, gg, dd, tk, os⟩ (.ref e) "enumerate" := ⟨_, he, rfl⟩
    unfold pyNext
    refine wpAny_bind (wpAny_attempt (wpAny_callSpecial?_slot (name := Str.ofString "__next__") hT' PySem.F.slot_enumerate_next (wpAny_call_entry PySem.F.slot_enumerate_next hT' PySem.F.entry_enumerate_next ?_ (PySem.F.args_enumerate_next_1 _))))
    show wpAny _ _ (field (.ref e) 2 >>= _) _ _ _
    refine wpAny_bind (wpAny_field he rfl (x := .ref it) rfl ?_)
    refine wpAny_bind (PySem.wpAny_nextOf_tuple_end (A := X.A.in1) (I.ok.hd hc) hit hT (Array.getElem?_eq_none (by rw [List.size_toArray]; omega)) fun h' y he' hx' => ?_)
    obtain ⟨o, ho, hcl⟩ := hx'
    refine wpAny_bind (wpAny_isInstance (T := "StopIteration") (b := true) ⟨o, ho, hcl⟩ PySem.isSubtype_stop ?_)
    exact wpAny_pure ⟨rfl, I.turned (t' := tk) (fun b o hb q => he' b o hb q) f0 f1 f3 f4 f5⟩
  self := fun A i s Q E st h => by
    obtain ⟨⟨_, he⟩, _⟩ := st
    exact PySem.wpAny_pyIter_enum he h
def iEnT (K : PySem.W.Frag) (ta : TA) : TI := fun σ H R => ta σ H fun vs H1 => ∃ a xs, vs = [.ref a] ∧ SqT K H1 a xs ∧ R (EnT K a) H1
theorem pi_enT {X : Cx} {e : Expr} {ta : TA} {p pos tpos : Pos} {elts : List Expr} {kk : Nat} (hg : Gl X "enumerate") (hm : X.mg "enumerate" = none) (ha : PA X [e] ta) (hs : starEach [e] X.env = [(false, eval e X.env)] := by rfl) :
    PI X (.Tuple elts kk tpos) (.Call (.Name "enumerate" p) [e] [] pos) (iEnT X.K ta) := by
  refine ⟨fun pins s σ H R I h => ?_⟩
  refine Call_ (ld_blt I hg hm boot_enumerate (PyProof.Rows.callWith_type1 (thn (ha.run pos pins s σ H _ I h) fun us s1 ⟨vs, H1, I1, r1, q1⟩ => ?_) hs rfl))
  obtain ⟨a, xs, rfl, hq, q⟩ := q1
  cases r1 with
  | cons r rr =>
    cases rr
    cases r
    obtain ⟨its, rv, p', hz⟩ := I1.tuple hq
    have hT : s1.heap.IsTuple a its.toArray := p'
    refine enT_call hT fun h' he hit hk => PySem.wpAny_pyIter_enum he ?_
    have I2 : Inv X pins σ H1 { s1 with heap := h' } := I1.kept (t' := s1.toks) hk
    refine ⟨s1.heap.objs.size + 1, [s1.heap.objs.size + 1, s1.heap.objs.size], _, _, H1, rfl, I2, turn_enT a (s1.heap.objs.size + 1) s1.heap.objs.size, ⟨⟨.none, he⟩, hit, Nat.succ_ne_self _⟩, fun b hb => ?_, q⟩
    have hle : s1.heap.objs.size ≤ b := by
      rcases List.mem_cons.mp hb with z | z
      · rw [z]
        exact Nat.le_succ _
      · rw [List.mem_singleton.mp z]
        exact Nat.le_refl _
    exact I1.fpOk hle (I1.hok.fresh hle)
end
section
section
variable {P : Program} {w : World} {K : PySem.W.Frag} {mg : Str → Option Value} {base : Heap}
/-! ### small looks at values -/
def sp_is_integer : Sp := fun vs H Q _ => ∃ n : Int, vs = [.int n] ∧ Ret H Q (.bl true)
theorem ok_is_integer (T : Txt K mg base) : DefOk P w K mg base "is_integer" 1 ["value"] sp_is_integer := by
  refine defok T.d_is_integer T.g_is_integer sc_is_integer (fun _ _ _ _ _ _ us hl => match us, hl with | [_], _ => rfl) (fun vs H Q E h => ?_) fun cdv A outer s H vs Q E hr h => ?_
  · obtain ⟨n, rfl, _⟩ := h
    rfl
  obtain ⟨n, rfl, k⟩ := h
  refine ⟨_, pss_one (ps_ret (pe_and (pe_callB call_isi (by rfl) T.f_isinstance (by decide +kernel) (pa_cons (pv 0) (pa_cons (pe_bltn (v := .ty "int") (by rfl) T.f_int (by decide +kernel) rfl) pa_nil)))
    (pe_one (pe_not (pe_callB call_isi (by rfl) T.f_isinstance (by decide +kernel) (pa_cons (pv 0) (pa_cons (pe_bltn (v := .ty "bool") (by rfl) T.f_bool (by decide +kernel) rfl) pa_nil))))))), ?_⟩
  refine ⟨_, rfl, _, _, _, _, true, rfl, .ty "int", .base (.int n), kit_ty (by decide +kernel), true, rfl, iteT ?_⟩
  refine ⟨_, rfl, _, _, _, _, false, rfl, .ty "bool", .base (.int n), kit_ty (by decide +kernel), false, rfl, ?_⟩
  exact k H (Same.refl H)
def sp_is_between : Sp := fun vs H Q _ => ∃ n lo hi : Int, vs = [.int n, .int lo, .int hi] ∧ Ret H Q (.bl (decide (lo ≤ n) && decide (n ≤ hi)))
theorem ok_is_between (T : Txt K mg base) : DefOk P w K mg base "is_between" 2 ["value", "least", "most"] sp_is_between := by
  refine defok T.d_is_between T.g_is_between sc_is_between (fun _ _ _ _ _ _ us hl => match us, hl with | [_, _, _], _ => rfl) (fun vs H Q E h => ?_) fun cdv A outer s H vs Q E hr h => ?_
  · obtain ⟨n, lo, hi, rfl, _⟩ := h
    rfl
  obtain ⟨n, lo, hi, rfl, k⟩ := h
  refine ⟨_, pss_one (ps_ret (pe_and (pe_cd (ok_is_integer T) hr (by decide) (by rfl) (pa_cons (pv 0) pa_nil)) (pe_one (pe_chain op_le op_le (pv 1) (pv 0) (pv 2))))), ?_⟩
  refine ⟨_, rfl, n, rfl, fun H1 e1 => ⟨true, rfl, iteT ⟨_, rfl, _, rfl, _, _, rfl, rfl, _, rfl, ?_⟩⟩⟩
  by_cases hlo : lo ≤ n
  · rw [decide_eq_true hlo] at k ⊢
    refine iteT ⟨_, rfl, _, _, rfl, rfl, ?_⟩
    exact k H1 e1
  · rw [decide_eq_false hlo] at k ⊢
    exact iteF (k H1 e1)
def sp_is_colour : Sp := fun vs H Q _ => ∃ n : Int, vs = [.int n] ∧ 0 ≤ n ∧ n ≤ 9 ∧ Ret H Q (.bl true)
theorem ok_is_colour (T : Txt K mg base) : DefOk P w K mg base "is_colour" 3 ["value"] sp_is_colour := by
  refine defok T.d_is_colour T.g_is_colour sc_is_colour (fun _ _ _ _ _ _ us hl => match us, hl with | [_], _ => rfl) (fun vs H Q E h => ?_) fun cdv A outer s H vs Q E hr h => ?_
  · obtain ⟨n, rfl, _⟩ := h
    rfl
  obtain ⟨n, rfl, h1, h2, k⟩ := h
  obtain ⟨tk, hm⟩ := T.cst 0 _ (by rfl)
  refine ⟨_, pss_one (ps_ret (pe_cd (ok_is_between T) hr (by decide) (by rfl) (pa_cons (pv 0) (pa_cons pe_int (pa_cons (pe_glob (v := .int 9) (by rfl) hm ⟨_, rfl⟩) pa_nil))))), ?_⟩
  refine ⟨_, rfl, _, _, _, rfl, fun H1 e1 => ?_⟩
  rw [decide_eq_true h1, decide_eq_true h2]
  exact k H1 e1
def sp_is_list : Sp := fun vs H Q _ => ∃ p xs, vs = [.ref p] ∧ (H p = some (.lst xs) ∨ H p = some (.tup xs)) ∧ Ret H Q (.bl true)
theorem ok_is_list (T : Txt K mg base) : DefOk P w K mg base "is_list" 1 ["value"] sp_is_list := by
  refine defok T.d_is_list T.g_is_list sc_is_list (fun _ _ _ _ _ _ us hl => match us, hl with | [_], _ => rfl) (fun vs H Q E h => ?_) fun cdv A outer s H vs Q E hr h => ?_
  · obtain ⟨p, xs, rfl, _⟩ := h
    rfl
  obtain ⟨p, xs, rfl, hp, k⟩ := h
  refine ⟨_, pss_one (ps_ret (pe_callB call_isiT (by rfl) T.f_isinstance (by decide +kernel) (pa_cons (pv 0) (pa_cons (pe_tup (pa_cons (pe_bltn (v := .ty "list") (by rfl) T.f_list (by decide +kernel) rfl)
    (pa_cons (pe_bltn (v := .ty "tuple") (by rfl) T.f_tuple (by decide +kernel) rfl) pa_nil))) pa_nil)))), ?_⟩
  refine ⟨_, rfl, by show 2 ≤ sizeLine; decide, fun t nt => ?_⟩
  have e1 : Same H (upd H t (.tup [.ty "list", .ty "tuple"])) := Same.upd nt
  rcases hp with hp | hp
  · refine ⟨_, t, _, .type "list", _, true, rfl, upd_same, .cons (.ty "list") (.cons (.ty "tuple") .nil), .base (.lst (e1 _ _ hp)), kitAny_cons (b := true) (kit_ty (by decide +kernel)) (fun z => nomatch z) (fun _ => rfl), ?_⟩
    exact k _ e1
  · refine ⟨_, t, _, .type "tuple", _, true, rfl, upd_same, .cons (.ty "list") (.cons (.ty "tuple") .nil), .base (.tup (e1 _ _ hp)), kitAny_cons (b := false) (kit_ty (by decide +kernel)) (fun _ => kitAny_cons (b := true) (kit_ty (by decide +kernel)) (fun z => nomatch z) fun _ => rfl) (fun z => nomatch z), ?_⟩
    exact k _ e1
def sp_check_integer : Sp := fun vs H Q _ => ∃ n : Int, vs = [.int n] ∧ Ret H Q .non
theorem ok_check_integer (T : Txt K mg base) : DefOk P w K mg base "check_integer" 2 ["number"] sp_check_integer := by
  refine defok T.d_check_integer T.g_check_integer sc_check_integer (fun _ _ _ _ _ _ us hl => match us, hl with | [_], _ => rfl) (fun vs H Q E h => ?_) fun cdv A outer s H vs Q E hr h => ?_
  · obtain ⟨n, rfl, _⟩ := h
    rfl
  obtain ⟨n, rfl, k⟩ := h
  refine ⟨_, pss_one (ps_if (pt_not (pt_val (pe_cd (ok_is_integer T) hr (by decide) (by rfl) (pa_cons (pv 0) pa_nil)))) pss_never pss_nil), ?_⟩
  refine ⟨_, rfl, n, rfl, fun H1 e1 => ⟨true, rfl, iteF ?_⟩⟩
  exact k H1 e1
def sp_check_remainder : Sp := fun vs H Q _ => ∃ r p : Int, vs = [.int r, .int p] ∧ 1 ≤ p ∧ Ret H Q .non
theorem ok_check_remainder (T : Txt K mg base) : DefOk P w K mg base "check_remainder" 3 ["r", "p"] sp_check_remainder := by
  refine defok T.d_check_remainder T.g_check_remainder sc_check_remainder (fun _ _ _ _ _ _ us hl => match us, hl with | [_, _], _ => rfl) (fun vs H Q E h => ?_) fun cdv A outer s H vs Q E hr h => ?_
  · obtain ⟨r, p, rfl, _⟩ := h
    rfl
  obtain ⟨r, p, rfl, hp, k⟩ := h
  refine ⟨_, pss_cons (ps_expr (pe_cd (ok_check_integer T) hr (by decide) (by rfl) (pa_cons (pv 0) pa_nil)))
    (pss_one (ps_if (PW.pt (pw_or (pt_not (pt_val (pe_cd (ok_is_integer T) hr (by decide) (by rfl) (pa_cons (pv 1) pa_nil)))) (pw_or1 (pt_cmpR op_lt (pv 1) pe_int (nomark _))))) pss_never pss_nil)), ?_⟩
  refine ⟨_, rfl, r, rfl, fun H1 e1 => ⟨_, rfl, p, rfl, fun H2 e2 => ⟨true, rfl, iteF ⟨_, rfl, _, _, rfl, rfl, _, rfl, ?_⟩⟩⟩⟩
  rw [decide_eq_false (by omega)]
  exact iteF (k H2 (e1.trans e2))
def sp_is_shift : Sp := fun vs H Q _ => ∃ (p : Addr) (x y : Int), vs = [.ref p] ∧ H p = some (.tup [.int x, .int y]) ∧ Ret H Q (.bl true)
theorem ok_is_shift (T : Txt K mg base) : DefOk P w K mg base "is_shift" 2 ["value"] sp_is_shift := by
  refine defok T.d_is_shift T.g_is_shift sc_is_shift (fun _ _ _ _ _ _ us hl => match us, hl with | [_], _ => rfl) (fun vs H Q E h => ?_) fun cdv A outer s H vs Q E hr h => ?_
  · obtain ⟨p, x, y, rfl, _⟩ := h
    rfl
  obtain ⟨p, x, y, rfl, hp, k⟩ := h
  refine ⟨_, pss_one (ps_ret (pe_and (pe_callB call_isi (by rfl) T.f_isinstance (by decide +kernel) (pa_cons (pv 0) (pa_cons (pe_bltn (v := .ty "tuple") (by rfl) T.f_tuple (by decide +kernel) rfl) pa_nil)))
    (pe_and (pe_cmpR op_eq (pe_callB call_len (by rfl) T.f_len (by decide +kernel) (pa_cons (pv 0) pa_nil)) pe_int (nomark _))
    (pe_and (pe_cd (ok_is_integer T) hr (by decide) (by rfl) (pa_cons (pe_ix ix_tup (pv 0) pe_int (fun _ _ => rfl)) pa_nil))
    (pe_one (pe_cd (ok_is_integer T) hr (by decide) (by rfl) (pa_cons (pe_ix ix_tup (pv 0) pe_int (fun _ _ => rfl)) pa_nil))))))), ?_⟩
  refine ⟨_, rfl, _, _, _, _, true, rfl, .ty "tuple", .base (.tup hp), kit_ty (by decide +kernel), true, rfl, iteT ?_⟩
  refine ⟨_, rfl, _, 2, rfl, .inr ⟨_, SqT.of hp, rfl⟩, rfl, true, rfl, iteT ?_⟩
  refine ⟨_, rfl, _, _, _, _, rfl, rfl, SqT.of hp, atI_nat (j := 0) rfl, _, rfl, fun H1 e1 => ⟨true, rfl, iteT ?_⟩⟩
  refine ⟨_, rfl, _, _, _, _, rfl, rfl, SqT.of (e1 _ _ hp), atI_nat (j := 1) rfl, _, rfl, fun H2 e2 => ?_⟩
  exact k H2 (e1.trans e2)
def sp_check_cell : Sp := fun vs H Q _ => ∃ (p : Addr) (x y : Int), vs = [.ref p] ∧ H p = some (.tup [.int x, .int y]) ∧ Ret H Q .non
theorem ok_check_cell (T : Txt K mg base) : DefOk P w K mg base "check_cell" 3 ["value"] sp_check_cell := by
  refine defok T.d_check_cell T.g_check_cell sc_check_cell (fun _ _ _ _ _ _ us hl => match us, hl with | [_], _ => rfl) (fun vs H Q E h => ?_) fun cdv A outer s H vs Q E hr h => ?_
  · obtain ⟨p, x, y, rfl, _⟩ := h
    rfl
  obtain ⟨p, x, y, rfl, hp, k⟩ := h
  refine ⟨_, pss_one (ps_if (pt_not (pt_val (pe_cd (ok_is_shift T) hr (by decide) (by rfl) (pa_cons (pv 0) pa_nil)))) pss_never pss_nil), ?_⟩
  refine ⟨_, rfl, p, x, y, rfl, hp, fun H1 e1 => ⟨true, rfl, iteF ?_⟩⟩
  exact k H1 e1
def sp_check_basis : Sp := fun vs H Q _ => ∃ a b d : Int, vs = [.int a, .int b, .int d] ∧ 1 ≤ a ∧ 0 ≤ b ∧ b < a ∧ 1 ≤ d ∧ Ret H Q .non
theorem ok_check_basis (T : Txt K mg base) : DefOk P w K mg base "check_basis" 3 ["a", "b", "d"] sp_check_basis := by
  refine defok T.d_check_basis T.g_check_basis sc_check_basis (fun _ _ _ _ _ _ us hl => match us, hl with | [_, _, _], _ => rfl) (fun vs H Q E h => ?_) fun cdv A outer s H vs Q E hr h => ?_
  · obtain ⟨a, b, d, rfl, _⟩ := h
    rfl
  obtain ⟨a, b, d, rfl, h1, h2, h3, h4, k⟩ := h
  refine ⟨_, pss_cons (ps_if (PW.pt (pw_or (pt_not (pt_val (pe_cd (ok_is_integer T) hr (by decide) (by rfl) (pa_cons (pv 0) pa_nil)))) (pw_or1 (pt_cmpR op_lt (pv 0) pe_int (nomark _))))) pss_never pss_nil)
    (pss_cons (ps_if (pt_not (pt_val (pe_cd (ok_is_between T) hr (by decide) (by rfl) (pa_cons (pv 1) (pa_cons pe_int (pa_cons (pe_op op_sub (pv 0) pe_int) pa_nil)))))) pss_never pss_nil)
    (pss_one (ps_if (PW.pt (pw_or (pt_not (pt_val (pe_cd (ok_is_integer T) hr (by decide) (by rfl) (pa_cons (pv 2) pa_nil)))) (pw_or1 (pt_cmpR op_lt (pv 2) pe_int (nomark _))))) pss_never pss_nil))), ?_⟩
  refine ⟨_, rfl, a, rfl, fun H1 e1 => ⟨true, rfl, iteF ⟨_, rfl, _, _, rfl, rfl, _, rfl, ?_⟩⟩⟩
  rw [decide_eq_false (by omega)]
  refine iteF ⟨_, rfl, _, rfl, _, _, rfl, rfl, _, _, _, rfl, fun H2 e2 => ⟨_, rfl, ?_⟩⟩
  rw [decide_eq_true (by omega), decide_eq_true (by omega)]
  refine iteF ⟨_, rfl, d, rfl, fun H3 e3 => ⟨true, rfl, iteF ⟨_, rfl, _, _, rfl, rfl, _, rfl, ?_⟩⟩⟩
  rw [decide_eq_false (by omega)]
  exact iteF (k H3 (e1.trans (e2.trans e3)))
end
end
section
/-! ### numbers: the mirrors -/
def gcdZ (a b : Int) : Int := (Nat.gcd a.natAbs b.natAbs : Nat)
def lcmZ (a b : Int) : Int := a * b / gcdZ a b
def invLoop : Nat → Int → Int → Int → Int → Int
  | 0, _, _, n, _ => n
  | k + 1, l, r, n, f => if r = 0 then n else invLoop k r (l - l / r * r) f (n - l / r * f)
def invZ (n m : Int) : Int := invLoop 1000 m (n % m) 0 1 % m
def remZ (a b r p : Int) : Int × Int := ((r - a) / gcdZ b p * invZ (b / gcdZ b p) (p / gcdZ b p) % (p / gcdZ b p), p / gcdZ b p)
def bothZ (r p s q : Int) : Int × Int := ((r + p * (remZ r p s q).1) % (p * (remZ r p s q).2), p * (remZ r p s q).2)
theorem gcd_pos {a b : Int} (h : 1 ≤ a) : 0 < gcdZ a b := by
  have := Nat.gcd_pos_of_pos_left b.natAbs (show 0 < a.natAbs by omega)
  unfold gcdZ
  omega
theorem gcd_le {a b : Int} (h : 1 ≤ a) : gcdZ a b ≤ a := by
  have := Nat.gcd_le_left b.natAbs (show 0 < a.natAbs by omega)
  unfold gcdZ
  omega
theorem gcd_dvd {a b : Int} : gcdZ a b ∣ b := by
  unfold gcdZ
  exact Int.ofNat_dvd_left.mpr (Nat.gcd_dvd_right _ _)
theorem invLoop_more : ∀ (k j : Nat) (l r n f : Int), 0 ≤ r → r.toNat < k → k ≤ j → invLoop j l r n f = invLoop k l r n f
  | 0, _, _, _, _, _, _, h, _ => absurd h (Nat.not_lt_zero _)
  | k + 1, 0, _, _, _, _, _, _, h => absurd h (Nat.not_succ_le_zero _)
  | k + 1, j + 1, l, r, n, f, h0, h1, h2 => by
    unfold invLoop
    by_cases e : r = 0
    · rw [if_pos e, if_pos e]
    · rw [if_neg e, if_neg e]
      have h3 : l - l / r * r = l % r := by
        rw [Int.mul_comm, Int.emod_def]
      have h4 := Int.emod_nonneg l e
      have h5 := Int.emod_lt_of_pos l (show 0 < r by omega)
      exact invLoop_more k j r (l - l / r * r) f (n - l / r * f) (by rw [h3]; exact h4) (by rw [h3]; omega) (by omega)
section
variable {P : Program} {w : World} {K : PySem.W.Frag} {mg : Str → Option Value} {base : Heap}
def sp_gcd : Sp := fun vs H Q _ => ∃ a b : Int, vs = [.int a, .int b] ∧ Ret H Q (.int (gcdZ a b))
theorem abs_nat (a : Int) : (if a < 0 then -a else a) = (a.natAbs : Int) := by
  split <;> omega
theorem ok_gcd (T : Txt K mg base) : DefOk P w K mg base "greatest_divisor" 3 ["one", "other"] sp_gcd := by
  refine defok T.d_greatest_divisor T.g_greatest_divisor sc_greatest_divisor (fun _ _ _ _ _ _ us hl => match us, hl with | [_, _], _ => rfl) (fun vs H Q E h => ?_) fun cdv A outer s H vs Q E hr h => ?_
  · obtain ⟨a, b, rfl, _⟩ := h
    rfl
  obtain ⟨a, b, rfl, k⟩ := h
  refine ⟨_, pss_cons (ps_expr (pe_cd (ok_check_integer T) hr (by decide) (by rfl) (pa_cons (pv 0) pa_nil)))
    (pss_cons (ps_expr (pe_cd (ok_check_integer T) hr (by decide) (by rfl) (pa_cons (pv 1) pa_nil)))
    (pss_cons (ps_par (i := 2) (j := 3) (by rfl) sc_greatest_divisor.nd rfl rfl (by decide) rfl rfl (pa_cons (pe_callB call_abs (by rfl) T.f_abs (by decide +kernel) (pa_cons (pv 0) pa_nil)) (pa_cons (pe_callB call_abs (by rfl) T.f_abs (by decide +kernel) (pa_cons (pv 1) pa_nil)) pa_nil)) (by rfl))
    (pss_cons (ps_while PassesOwn.never (pt_cmpR op_ne (pv 3) pe_int (nomark _))
      (pss_one (ps_par (i := 2) (j := 3) (by rfl) sc_greatest_divisor.nd rfl rfl (by decide) rfl rfl (pa_cons (pv 3) (pa_cons (pe_op op_mod (pe_callTy call_int1 (by rfl) T.f_int (by decide +kernel) (pa_cons (pv 2) pa_nil)) (pv 3)) pa_nil)) (by rfl))))
    (pss_one (ps_ret (pv 2)))))), ?_⟩
  refine ⟨_, rfl, a, rfl, fun H1 e1 => ⟨_, rfl, b, rfl, fun H2 e2 => ⟨_, rfl, _, rfl, _, rfl, _, rfl, _, _, rfl, ?_⟩⟩⟩
  rw [abs_nat, abs_nat]
  refine ⟨fun m σ H' => ∃ l r : Nat, σ = [some (.int a), some (.int b), some (.int l), some (.int r)] ∧ H' = H2 ∧ m = r ∧ Nat.gcd l r = Nat.gcd a.natAbs b.natAbs, ⟨b.natAbs, a.natAbs, b.natAbs, rfl, rfl, rfl, rfl⟩, fun m σ H' hw => ?_⟩
  obtain ⟨l, r, rfl, rfl, rfl, hg⟩ := hw
  refine ⟨_, rfl, rfl, _, rfl, ?_⟩
  by_cases hz : m = 0
  · subst hz
    refine iteNS (by rfl) ?_
    refine ⟨_, rfl, ?_⟩
    rw [Nat.gcd_zero_right] at hg
    have q := k H' (e1.trans e2)
    unfold gcdZ at q
    rw [← hg] at q
    exact q
  · refine iteNT (fun z => hz (by have := V.int.inj z; omega)) ?_
    refine ⟨fun σ' H'' => ∃ m', m' < m ∧ ∃ l r : Nat, σ' = [some (.int a), some (.int b), some (.int l), some (.int r)] ∧ H'' = H' ∧ m' = r ∧ Nat.gcd l r = Nat.gcd a.natAbs b.natAbs, fun σ' H'' n => n, ?_⟩
    refine ⟨_, rfl, _, rfl, .inl ⟨_, rfl, _, rfl, _, _, rfl, rfl, (by show (0 : Int) < (m : Int); omega), _, _, rfl, l % m, Nat.mod_lt _ (by omega), m, l % m, ?_, rfl, rfl, ?_⟩⟩
    · rfl
    · rw [← hg, Nat.gcd_comm l m, Nat.gcd_rec m l, Nat.gcd_comm]
def sp_lcm : Sp := fun vs H Q _ => ∃ a b : Int, vs = [.int a, .int b] ∧ (1 ≤ a ∧ a ≤ 200) ∧ (1 ≤ b ∧ b ≤ 200) ∧ Ret H Q (.int (lcmZ a b))
theorem ok_lcm (T : Txt K mg base) : DefOk P w K mg base "least_multiple" 4 ["one", "other"] sp_lcm := by
  refine defok T.d_least_multiple T.g_least_multiple sc_least_multiple (fun _ _ _ _ _ _ us hl => match us, hl with | [_, _], _ => rfl) (fun vs H Q E h => ?_) fun cdv A outer s H vs Q E hr h => ?_
  · obtain ⟨a, b, rfl, _⟩ := h
    rfl
  obtain ⟨a, b, rfl, ha, hb, k⟩ := h
  refine ⟨_, pss_cons (ps_for PassesOwn.never rfl (pi_tup (pe_tup (pa_cons (pv 0) (pa_cons (pv 1) pa_nil)))) (pg_name (i := 2) sc_least_multiple.nd rfl (.inl rfl))
      (pss_one (ps_if (PW.pt (pw_or (pt_not (pt_val (pe_cd (ok_is_integer T) hr (by decide) (by rfl) (pa_cons (pv 2) pa_nil)))) (pw_or1 (pt_cmpR op_lt (pv 2) pe_int (nomark _))))) pss_never pss_nil)))
    (pss_one (ps_ret (pe_op op_fdiv (pe_op op_mul (pv 0) (pe_callTy call_int1 (by rfl) T.f_int (by decide +kernel) (pa_cons (pv 1) pa_nil))) (pe_cd (ok_gcd T) hr (by decide) (by rfl) (pa_cons (pv 0) (pa_cons (pv 1) pa_nil)))))), ?_⟩
  refine ⟨_, rfl, _, rfl, by show 2 ≤ sizeLine; decide, fun t nt => ⟨t, rfl, ⟨_, SqT.of upd_same⟩, for_tup (K := K) (a := t) (xs := [.int a, .int b]) (fun i σ H' => ∃ z, σ = [some (.int a), some (.int b), z] ∧ Same (upd H t (.tup [.int a, .int b])) H')
    ⟨none, rfl, Same.refl _⟩ (fun i σ H' _ ⟨_, _, e⟩ => SqT.of (e _ _ upd_same)) ?_ ?_⟩⟩
  · rintro i x σ H' hi ⟨z, rfl, e⟩
    have hx : ∃ n : Int, x = .int n ∧ 1 ≤ n := by
      match i, hi with
      | 0, hi => exact ⟨a, (Option.some.inj hi).symm, ha.1⟩
      | 1, hi => exact ⟨b, (Option.some.inj hi).symm, hb.1⟩
      | i + 2, hi => simp at hi
    obtain ⟨n, rfl, hn⟩ := hx
    refine ⟨_, rfl, n, rfl, fun H2 e2 => ⟨true, rfl, iteF ⟨_, rfl, _, _, rfl, rfl, _, rfl, ?_⟩⟩⟩
    rw [decide_eq_false (by omega)]
    exact iteF ⟨_, rfl, e.trans e2⟩
  · rintro σ H' ⟨z, rfl, e⟩
    have h1 := gcd_pos (b := b) ha.1
    have h2 := gcd_le (b := b) ha.1
    refine ⟨_, rfl, _, rfl, .inl ⟨_, rfl, _, _, rfl, rfl, .inl (by omega), _, rfl, _, rfl, a, b, rfl, fun H2 e2 => ⟨_, _, rfl, rfl, ⟨h1, by omega⟩, ?_⟩⟩⟩
    exact k H2 ((Same.upd nt).trans (e.trans e2))
def sp_inv : Sp := fun vs H Q _ => ∃ n m : Int, vs = [.int n, .int m] ∧ (1 ≤ m ∧ m ≤ 900) ∧ Ret H Q (.int (invZ n m))
theorem ok_inv (T : Txt K mg base) : DefOk P w K mg base "inverse" 1 ["number", "modulus"] sp_inv := by
  refine defok T.d_inverse T.g_inverse sc_inverse (fun _ _ _ _ _ _ us hl => match us, hl with | [_, _], _ => rfl) (fun vs H Q E h => ?_) fun cdv A outer s H vs Q E hr h => ?_
  · obtain ⟨a, b, rfl, _⟩ := h
    rfl
  obtain ⟨n, m, rfl, hm, k⟩ := h
  have hS := sc_inverse.nd
  refine ⟨_, pss_cons (ps_asg (pe_tup (pa_cons (pv 1) (pa_cons (pe_op op_mod (pe_callTy call_int1 (by rfl) T.f_int (by decide +kernel) (pa_cons (pv 0) pa_nil)) (pv 1)) (pa_cons pe_int (pa_cons pe_int pa_nil)))))
      (pg_tup rfl (pgs_cons (pg_name (i := 2) hS rfl (.inl rfl)) (pgs_cons (pg_name (i := 3) hS rfl (.inl rfl)) (pgs_cons (pg_name (i := 4) hS rfl (.inl rfl)) (pgs_cons (pg_name (i := 5) hS rfl (.inl rfl)) pgs_nil))))))
    (pss_cons (ps_while PassesOwn.never (pt_cmpR op_ne (pv 3) pe_int (nomark _))
      (pss_cons (ps_set (i := 6) hS rfl (.inl rfl) (pe_op op_fdiv (pe_callTy call_int1 (by rfl) T.f_int (by decide +kernel) (pa_cons (pv 2) pa_nil)) (pv 3)))
      (pss_one (ps_asg (pe_tup (pa_cons (pv 3) (pa_cons (pe_op op_sub (pv 2) (pe_op op_mul (pv 6) (pv 3))) (pa_cons (pv 5) (pa_cons (pe_op op_sub (pv 4) (pe_op op_mul (pv 6) (pv 5))) pa_nil)))))
        (pg_tup rfl (pgs_cons (pg_name (i := 2) hS rfl (.inl rfl)) (pgs_cons (pg_name (i := 3) hS rfl (.inl rfl)) (pgs_cons (pg_name (i := 4) hS rfl (.inl rfl)) (pgs_cons (pg_name (i := 5) hS rfl (.inl rfl)) pgs_nil)))))))))
    (pss_one (ps_ret (pe_op op_mod (pe_callTy call_int1 (by rfl) T.f_int (by decide +kernel) (pa_cons (pv 4) pa_nil)) (pv 1))))), ?_⟩
  refine ⟨_, rfl, _, rfl, .inl ⟨_, rfl, _, rfl, _, _, rfl, rfl, (by show (0 : Int) < m; omega), by show 4 ≤ sizeLine; decide, fun t nt => ⟨t, _, rfl, SqT.of upd_same, rfl, _, _, rfl, _, _, rfl, _, _, rfl, _, _, rfl, rfl, ?_⟩⟩⟩
  have h4 := Int.emod_nonneg n (show m ≠ 0 by omega)
  have h5 := Int.emod_lt_of_pos n (show 0 < m by omega)
  refine ⟨fun q σ H' => ∃ (l r a f : Int) (z : Option V) (fu : Nat), σ = [some (.int n), some (.int m), some (.int l), some (.int r), some (.int a), some (.int f), z] ∧ Same H H' ∧ q = r.toNat ∧ 0 ≤ r ∧ r.toNat < fu ∧ fu ≤ 1000 ∧ (0 ≤ l ∧ l ≤ 1000) ∧
      invLoop fu l r a f = invLoop 1000 m (n % m) 0 1, ⟨_, m, n % m, 0, 1, none, 1000, rfl, Same.upd nt, rfl, h4, by omega, Nat.le_refl _, by omega, rfl⟩, fun q σ H' hw => ?_⟩
  obtain ⟨l, r, a, f, z, fu, rfl, e, rfl, h0, h1, h2, h3, hv⟩ := hw
  refine ⟨_, rfl, rfl, _, rfl, ?_⟩
  obtain ⟨fu, rfl⟩ : ∃ g, fu = g + 1 := ⟨fu - 1, by omega⟩
  replace hv : (if r = 0 then a else invLoop fu r (l - l / r * r) f (a - l / r * f)) = invLoop 1000 m (n % m) 0 1 := hv
  by_cases hz : r = 0
  · subst hz
    rw [decide_eq_true rfl]
    refine iteF ⟨_, rfl, .inl ⟨_, rfl, _, rfl, _, _, rfl, rfl, (by show (0 : Int) < m; omega), ?_⟩⟩
    rw [if_pos rfl] at hv
    have q := k H' e
    unfold invZ at q
    rw [← hv] at q
    exact q
  · have g1 : l - l / r * r = l % r := by rw [Int.mul_comm, Int.emod_def]
    have g2 := Int.emod_nonneg l hz
    have g3 := Int.emod_lt_of_pos l (show 0 < r by omega)
    have g4 : 0 ≤ l / r := Int.ediv_nonneg h3.1 h0
    have g5 : l / r ≤ l := Int.ediv_le_self _ h3.1
    refine iteNT (fun z => hz (V.int.inj z)) ?_
    refine ⟨fun σ' H'' => ∃ q', q' < r.toNat ∧ ∃ (l r a f : Int) (z : Option V) (fu : Nat), σ' = [some (.int n), some (.int m), some (.int l), some (.int r), some (.int a), some (.int f), z] ∧ Same H H'' ∧ q' = r.toNat ∧ 0 ≤ r ∧ r.toNat < fu ∧ fu ≤ 1000 ∧ (0 ≤ l ∧ l ≤ 1000) ∧
      invLoop fu l r a f = invLoop 1000 m (n % m) 0 1, fun σ' H'' n => n, ?_⟩
    refine ⟨_, rfl, .inl ⟨_, rfl, _, rfl, _, _, rfl, rfl, ⟨by omega, by omega⟩, ?_⟩⟩
    refine ⟨_, rfl, _, rfl, _, rfl, _, rfl, _, _, rfl, rfl, .inl (by omega), _, _, rfl, rfl, _, rfl, _, rfl, _, rfl, _, rfl, _, _, rfl, rfl, .inl (by omega), _, _, rfl, rfl, by show 4 ≤ sizeLine; decide, fun t nt => ⟨t, _, rfl, SqT.of upd_same, rfl, _, _, rfl, _, _, rfl, _, _, rfl, _, _, rfl, rfl, ?_⟩⟩
    rw [if_neg hz] at hv
    refine ⟨(l - l / r * r).toNat, by omega, r, l - l / r * r, f, a - l / r * f, some (.int (l / r)), fu, rfl, e.trans (Same.upd nt), rfl, by omega, by omega, by omega, by omega, hv⟩
end
end
section
section
variable {P : Program} {w : World} {K : PySem.W.Frag} {mg : Str → Option Value} {base : Heap}
theorem gcd_dvd1 {a b : Int} : gcdZ a b ∣ a := by
  unfold gcdZ
  exact Int.ofNat_dvd_left.mpr (Nat.gcd_dvd_left _ _)
theorem quo_pos {g p : Int} (hg : 0 < g) (hd : g ∣ p) (hp : 1 ≤ p) : 1 ≤ p / g ∧ p / g ≤ p := by
  have h1 : g ≤ p := Int.le_of_dvd (by omega) hd
  refine ⟨?_, Int.ediv_le_self _ (by omega)⟩
  have h2 := Int.ediv_le_ediv hg h1
  rw [Int.ediv_self (by omega)] at h2
  exact h2
abbrev Pair (x y : Int) (t : Addr) (H : Hp) : Prop := H t = some (.tup [.int x, .int y])
def sp_rem : Sp := fun vs H Q _ => ∃ a b r p : Int, vs = [.int a, .int b, .int r, .int p] ∧ (1 ≤ b ∧ b ≤ 900) ∧ (1 ≤ p ∧ p ≤ 900) ∧ (r - a) % gcdZ b p = 0 ∧ RetR H Q (Pair (remZ a b r p).1 (remZ a b r p).2)
theorem ok_rem (T : Txt K mg base) : DefOk P w K mg base "remainder_of" 4 ["a", "b", "r", "p"] sp_rem := by
  refine defok T.d_remainder_of T.g_remainder_of sc_remainder_of (fun _ _ _ _ _ _ us hl => match us, hl with | [_, _, _, _], _ => rfl) (fun vs H Q E h => ?_) fun cdv A outer s H vs Q E hr h => ?_
  · obtain ⟨a, b, r, p, rfl, _⟩ := h
    rfl
  obtain ⟨a, b, r, p, rfl, hb, hp, hz, k⟩ := h
  have g1 := gcd_pos (b := p) hb.1
  have g2 := gcd_le (b := p) hb.1
  obtain ⟨g3, g4⟩ := quo_pos g1 gcd_dvd hp.1
  have hI : ∀ n, 0 ≤ invZ n (p / gcdZ b p) ∧ invZ n (p / gcdZ b p) < p / gcdZ b p := fun n => ⟨Int.emod_nonneg _ (by omega), Int.emod_lt_of_pos _ (by omega)⟩
  have hS := sc_remainder_of.nd
  refine ⟨_, pss_cons (ps_expr (pe_cd (ok_check_integer T) hr (by decide) (by rfl) (pa_cons (pv 0) pa_nil)))
    (pss_cons (ps_expr (pe_cd (ok_check_integer T) hr (by decide) (by rfl) (pa_cons (pv 1) pa_nil)))
    (pss_cons (ps_expr (pe_cd (ok_check_remainder T) hr (by decide) (by rfl) (pa_cons (pv 2) (pa_cons (pv 3) pa_nil))))
    (pss_cons (ps_set (i := 4) hS rfl (.inl rfl) (pe_cd (ok_gcd T) hr (by decide) (by rfl) (pa_cons (pv 1) (pa_cons (pv 3) pa_nil))))
    (pss_cons (ps_if (pt_cmpR op_ne (pe_op op_mod (pe_callTy call_int1 (by rfl) T.f_int (by decide +kernel) (pa_cons (pe_op op_sub (pv 2) (pv 0)) pa_nil)) (pv 4)) pe_int (nomark _)) pss_never pss_nil)
    (pss_cons (ps_set (i := 5) hS rfl (.inl rfl) (pe_op op_fdiv (pe_callTy call_int1 (by rfl) T.f_int (by decide +kernel) (pa_cons (pv 3) pa_nil)) (pv 4)))
    (pss_one (ps_ret (pe_tup (pa_cons (pe_op op_mod (pe_callTy call_int1 (by rfl) T.f_int (by decide +kernel) (pa_cons (pe_op op_mul (pe_op op_fdiv (pe_callTy call_int1 (by rfl) T.f_int (by decide +kernel) (pa_cons (pe_op op_sub (pv 2) (pv 0)) pa_nil)) (pv 4))
        (pe_cd (ok_inv T) hr (by decide) (by rfl) (pa_cons (pe_op op_fdiv (pe_callTy call_int1 (by rfl) T.f_int (by decide +kernel) (pa_cons (pv 1) pa_nil)) (pv 4)) (pa_cons (pv 5) pa_nil)))) pa_nil)) (pv 5)) (pa_cons (pv 5) pa_nil)))))))))), ?_⟩
  refine ⟨_, rfl, a, rfl, fun H1 e1 => ⟨_, rfl, b, rfl, fun H2 e2 => ⟨_, rfl, _, rfl, r, p, rfl, hp.1, fun H3 e3 => ⟨_, rfl, _, rfl, b, p, rfl, fun H4 e4 => ?_⟩⟩⟩⟩
  refine ⟨_, rfl, _, rfl, _, _, rfl, rfl, .inl ⟨_, rfl, _, rfl, _, _, rfl, rfl, g1, rfl, _, rfl, ?_⟩⟩
  refine iteNS (congrArg V.int hz) ?_
  refine ⟨_, rfl, .inl ⟨_, rfl, _, rfl, _, _, rfl, rfl, ⟨g1, by omega⟩, ?_⟩⟩
  refine ⟨_, rfl, _, rfl, _, _, rfl, rfl, .inl ⟨_, rfl, _, rfl, _, _, rfl, rfl, ⟨g1, by omega⟩, ?_⟩⟩
  refine ⟨_, rfl, .inl ⟨_, rfl, _, rfl, _, _, rfl, rfl, ⟨g1, by omega⟩, _, rfl, _, _, rfl, ⟨g3, by omega⟩, fun H5 e5 => ?_⟩⟩
  have hi := hI (b / gcdZ b p)
  refine ⟨_, _, rfl, rfl, .inr ⟨by omega, by omega⟩, .inl ⟨_, rfl, _, rfl, _, _, rfl, rfl, (by show (0 : Int) < p / gcdZ b p; omega), _, rfl, by show 2 ≤ sizeLine; decide, fun t nt => ?_⟩⟩
  exact k t _ (e1.trans (e2.trans (e3.trans (e4.trans (e5.trans (Same.upd nt)))))) upd_same
def sp_is_remainder : Sp := fun vs H Q _ => ∃ (t : Addr) (r p : Int), vs = [.ref t] ∧ Pair r p t H ∧ 1 ≤ p ∧ Ret H Q (.bl true)
theorem ok_is_remainder (T : Txt K mg base) : DefOk P w K mg base "is_remainder" 2 ["value"] sp_is_remainder := by
  refine defok T.d_is_remainder T.g_is_remainder sc_is_remainder (fun _ _ _ _ _ _ us hl => match us, hl with | [_], _ => rfl) (fun vs H Q E h => ?_) fun cdv A outer s H vs Q E hr h => ?_
  · obtain ⟨t, r, p, rfl, _⟩ := h
    rfl
  obtain ⟨t, r, p, rfl, ht, hp, k⟩ := h
  have hS := sc_is_remainder.nd
  refine ⟨_, pss_one (ps_ret (pe_and (pe_callB call_isi (by rfl) T.f_isinstance (by decide +kernel) (pa_cons (pv 0) (pa_cons (pe_bltn (v := .ty "tuple") (by rfl) T.f_tuple (by decide +kernel) rfl) pa_nil)))
    (pe_and (pe_cmpR op_eq (pe_callB call_len (by rfl) T.f_len (by decide +kernel) (pa_cons (pv 0) pa_nil)) pe_int (nomark _))
    (pe_and (pe_callB (cr_all rfl) (by rfl) T.f_all (by decide +kernel) (pa_cons (pe_lc (own := [("part", 1)]) (g := gName 1) (tt := tYes) rfl hS (pi_tup (pv 0)) (blkOk_by (own := [("part", 1)]) (N := ["value", "part"]) (sc := defScope s_is_remainder) (by decide +kernel))
        (fun _ _ _ _ _ => pg_name (i := 1) hS rfl (Or.inl rfl)) (fun _ _ _ _ _ => pts_nil) (fun _ _ _ _ _ => pe_cd (ok_is_integer T) hr (by decide) (by rfl) (pa_cons (pv 1) pa_nil))) pa_nil))
    (pe_one (pe_cmpR op_ge (pe_ix ix_tup (pv 0) pe_int (fun _ _ => rfl)) pe_int (nomark _))))))), ?_⟩
  refine ⟨_, rfl, _, _, _, _, true, rfl, .ty "tuple", .base (.tup ht), kit_ty (by decide +kernel), true, rfl, iteT ?_⟩
  refine ⟨_, rfl, _, 2, rfl, .inr ⟨_, SqT.of ht, rfl⟩, rfl, true, rfl, iteT ?_⟩
  refine ⟨_, rfl, t, rfl, ⟨_, SqT.of ht⟩, ?_⟩
  refine lcT (j := 1) (xs := [.int r, .int p]) (Stab.val fun _ => .bl true) (by show 2 ≤ 40000; decide) ht ?_ (fun i x H' hi e Q' q => ?_) fun D acc H' e nD hD hl g => ?_
  · intro x
    rfl
  · have hx : ∃ n : Int, x = .int n := by
      match i, hi with
      | 0, hi => exact ⟨r, (Option.some.inj hi).symm⟩
      | 1, hi => exact ⟨p, (Option.some.inj hi).symm⟩
      | i + 2, hi => simp at hi
    obtain ⟨n, rfl⟩ := hx
    exact ⟨_, rfl, n, rfl, fun H2 e2 => q _ H2 e2 rfl⟩
  · have ha : acc = [.bl true, .bl true] := good_val g hl
    subst ha
    refine ⟨D, [true, true], rfl, SqL.of hD, true, rfl, iteT ⟨_, rfl, _, _, _, _, rfl, rfl, SqT.of (e _ _ ht), atI_nat (j := 1) rfl, _, _, rfl, rfl, ?_⟩⟩
    show Q (.bl (decide (1 ≤ p))) H'
    rw [decide_eq_true hp]
    exact k H' e
def sp_both : Sp := fun vs H Q _ => ∃ (c1 c2 : Addr) (r p s q : Int), vs = [.ref c1, .ref c2] ∧ Pair r p c1 H ∧ Pair s q c2 H ∧ (1 ≤ p ∧ p ≤ 900) ∧ (1 ≤ q ∧ q ≤ 900) ∧ (s - r) % gcdZ p q = 0 ∧ RetR H Q (Pair (bothZ r p s q).1 (bothZ r p s q).2)
theorem ok_both (T : Txt K mg base) : DefOk P w K mg base "both_remainders" 5 ["one", "other"] sp_both := by
  refine defok T.d_both_remainders T.g_both_remainders sc_both_remainders (fun _ _ _ _ _ _ us hl => match us, hl with | [_, _], _ => rfl) (fun vs H Q E h => ?_) fun cdv A outer s H vs Q E hr h => ?_
  · obtain ⟨c1, c2, r, p, s, q, rfl, _⟩ := h
    rfl
  obtain ⟨c1, c2, r, p, s, q, rfl, h1, h2, hp, hq, hz, k⟩ := h
  have g1 := gcd_pos (b := q) hp.1
  obtain ⟨g3, g4⟩ := quo_pos g1 gcd_dvd hq.1
  have hS := sc_both_remainders.nd
  refine ⟨_, pss_cons (ps_if (PW.pt (pw_or (pt_not (pt_val (pe_cd (ok_is_remainder T) hr (by decide) (by rfl) (pa_cons (pv 0) pa_nil)))) (pw_or1 (pt_not (pt_val (pe_cd (ok_is_remainder T) hr (by decide) (by rfl) (pa_cons (pv 1) pa_nil))))))) pss_never pss_nil)
    (pss_cons (ps_set (i := 2) hS rfl (.inl rfl) (pe_cd (ok_rem T) hr (by decide) (by rfl) (pa_cons (pe_ix ix_tup (pv 0) pe_int (fun _ _ => rfl)) (pa_cons (pe_ix ix_tup (pv 0) pe_int (fun _ _ => rfl)) (pa_cons (pe_ix ix_tup (pv 1) pe_int (fun _ _ => rfl)) (pa_cons (pe_ix ix_tup (pv 1) pe_int (fun _ _ => rfl)) pa_nil))))))
    (pss_cons (ps_if (pt_cmpR op_isN (pv 2) pe_non (nomark _)) pss_never pss_nil)
    (pss_cons (ps_set (i := 3) hS rfl (.inl rfl) (pe_op op_mul (pe_ix ix_tup (pv 0) pe_int (fun _ _ => rfl)) (pe_ix ix_tup (pv 2) pe_int (fun _ _ => rfl))))
    (pss_one (ps_ret (pe_tup (pa_cons (pe_op op_mod (pe_callTy call_int1 (by rfl) T.f_int (by decide +kernel) (pa_cons (pe_op op_add (pe_ix ix_tup (pv 0) pe_int (fun _ _ => rfl)) (pe_op op_mul (pe_ix ix_tup (pv 0) pe_int (fun _ _ => rfl)) (pe_ix ix_tup (pv 2) pe_int (fun _ _ => rfl)))) pa_nil)) (pv 3))
      (pa_cons (pv 3) pa_nil)))))))), ?_⟩
  refine ⟨_, rfl, c1, r, p, rfl, h1, hp.1, fun H1 e1 => ⟨true, rfl, iteF ⟨_, rfl, c2, s, q, rfl, e1 _ _ h2, hq.1, fun H2 e2 => ⟨true, rfl, iteF ?_⟩⟩⟩⟩
  have f1 : H2 c1 = _ := (e1.trans e2) _ _ h1
  have f2 : H2 c2 = _ := (e1.trans e2) _ _ h2
  refine ⟨_, rfl, _, _, _, _, rfl, rfl, SqT.of f1, atI_nat (j := 0) rfl, _, rfl, _, _, _, _, rfl, rfl, SqT.of f1, atI_nat (j := 1) rfl, _, rfl, _, _, _, _, rfl, rfl, SqT.of f2, atI_nat (j := 0) rfl, _, rfl, _, _, _, _, rfl, rfl, SqT.of f2, atI_nat (j := 1) rfl, ?_⟩
  refine ⟨r, p, s, q, rfl, hp, hq, hz, fun t H3 e3 ht => ⟨_, rfl, rfl, _, rfl, iteDF (fun z => nomatch z) ?_⟩⟩
  have f3 : H3 c1 = _ := e3 _ _ f1
  refine ⟨_, rfl, _, _, _, _, rfl, rfl, SqT.of f3, atI_nat (j := 1) rfl, _, rfl, _, _, _, _, rfl, rfl, SqT.of ht, atI_nat (j := 1) rfl, _, _, rfl, rfl, .inl ⟨by omega, by omega⟩, ?_⟩
  refine ⟨_, rfl, _, _, _, _, rfl, rfl, SqT.of f3, atI_nat (j := 0) rfl, _, rfl, _, _, _, _, rfl, rfl, SqT.of f3, atI_nat (j := 1) rfl, _, rfl, _, _, _, _, rfl, rfl, SqT.of ht, atI_nat (j := 0) rfl, _, _, rfl, rfl, .inl ⟨by omega, by omega⟩, _, _, rfl, rfl, .inl ⟨_, rfl, ?_⟩⟩
  refine ⟨_, rfl, _, _, rfl, rfl, Int.mul_pos (by omega) (show 0 < q / gcdZ p q by omega), _, rfl, by show 2 ≤ sizeLine; decide, fun t2 nt => ?_⟩
  exact k t2 _ (e1.trans (e2.trans (e3.trans (Same.upd nt)))) upd_same
end
end
section
/-! ### two ranges in one comprehension -/
abbrev Lc2Go (J : It) (g : TG) (wi1 : TI) (g1 : TG) (te : TE) (vs vs1 : List Nat) (σ : L2.St) (H1 : Hp) (Q : Addr → Hp → Prop) : Prop := ∀ D, H1 D = none →
  ∃ W : Nat → Nat → Hp → Prop, (∃ m, W 0 m (upd H1 D (.lst []))) ∧ ∀ i m H, W i m H → (J.stop i H ∧ Q D H) ∨
    (J.go i H ∧ ∃ Nx : Hp → Prop, (∀ H', Nx H' → ∃ m', m' < m ∧ W (i + 1) m' H') ∧
      ∀ x H', J.yld i H x H' → g x (wipe σ vs) H' fun σ2 H2 => wipe σ2 vs = wipe σ vs ∧
        tYes σ2 H2 fun b H3 => if b = true then wi1 σ2 H3 fun J1 H4 => ∃ W1 : Nat → Nat → Hp → Prop, (∃ m, W1 0 m H4) ∧ ∀ j k H, W1 j k H → (J1.stop j H ∧ Nx H) ∨
          (J1.go j H ∧ ∃ Nx1 : Hp → Prop, (∀ H', Nx1 H' → ∃ k', k' < k ∧ W1 (j + 1) k' H') ∧
            ∀ x H', J1.yld j H x H' → g1 x (wipe σ2 vs1) H' fun σ3 H5 => wipe σ3 vs1 = wipe σ2 vs1 ∧
              tYes σ3 H5 fun b H6 => if b = true then te σ3 H6 fun y H7 => ∃ acc, H7 D = some (.lst acc) ∧ acc.length < sizeLine ∧ Nx1 (upd H7 D (.lst (acc ++ [y]))) else Nx1 H6) else Nx H3)
theorem lc2R {R : Nat → V → Hp → Prop} {H1 : Hp} {σ : L2.St} {vs vs1 : List Nat} {j j1 n n1 : Nat} {wi1 : TI} {te : TE} {Q : Addr → Hp → Prop} (S : Stab R) (hn : n ≤ 200) (hn1 : n1 ≤ 200)
    (hw : ∀ x, wipe ((wipe σ vs).set j (some x)) vs = wipe σ vs) (hw1 : ∀ x y, wipe ((wipe ((wipe σ vs).set j (some x)) vs1).set j1 (some y)) vs1 = wipe ((wipe σ vs).set j (some x)) vs1)
    (hi : ∀ (i : Nat) H', i < n → Same H1 H' → ∀ Z : It → Hp → Prop, (∀ H2, Same H' H2 → Z (Itr 0 n1) H2) → wi1 ((wipe σ vs).set j (some (.int (0 + (i : Int))))) H' Z)
    (he : ∀ (i k : Nat) H', i < n → k < n1 → Same H1 H' → Elt te R (i * n1 + k) ((wipe ((wipe σ vs).set j (some (.int (0 + (i : Int))))) vs1).set j1 (some (.int (0 + (k : Int))))) H') (k : LcEnd R H1 (n * n1) Q) :
    Lc2Go (Itr 0 n) (gName j) wi1 (gName j1) te vs vs1 σ H1 Q := by
  intro D nD
  refine ⟨fun i m H' => m = n - i ∧ i ≤ n ∧ CwG R H1 D (i * n1) H', ⟨n, by omega, Nat.zero_le _, by rw [Nat.zero_mul]; exact cwG_zero nD⟩, ?_⟩
  rintro i m H' ⟨rfl, hin, p⟩
  by_cases hlt : i < n
  · refine .inr ⟨hlt, fun H2 => CwG R H1 D ((i + 1) * n1) H2, fun H2 p2 => ⟨n - (i + 1), by omega, rfl, hlt, p2⟩, fun x H2 y => ?_⟩
    obtain ⟨rfl, rfl⟩ := y
    refine ⟨hw _, hi i H2 hlt p.same _ fun H3 e3 => ?_⟩
    have p3 : CwG R H1 D (i * n1 + 0) H3 := by
      obtain ⟨q1, q2, acc, q3, q4, q5⟩ := p
      exact ⟨q1, q2.trans e3, acc, e3 _ _ q3, q4, Good.mono S e3 q5⟩
    refine ⟨fun k m H' => m = n1 - k ∧ k ≤ n1 ∧ CwG R H1 D (i * n1 + k) H', ⟨n1, by omega, Nat.zero_le _, p3⟩, ?_⟩
    rintro k' m H4 ⟨rfl, hkn, p4⟩
    by_cases hk : k' < n1
    · refine .inr ⟨hk, fun H5 => CwG R H1 D (i * n1 + k' + 1) H5, fun H5 p5 => ⟨n1 - (k' + 1), by omega, rfl, hk, p5⟩, fun x H5 y => ?_⟩
      obtain ⟨rfl, rfl⟩ := y
      have hb : i * n1 ≤ 200 * 200 := Nat.mul_le_mul (by omega) hn1
      exact ⟨hw1 _ _, cwG_turn S (by omega) p4 (he i k' H5 hlt hk p4.same)⟩
    · have ek : k' = n1 := by omega
      subst ek
      refine .inl ⟨Nat.le_refl _, ?_⟩
      show CwG R H1 D ((i + 1) * k') H4
      rw [Nat.succ_mul]
      exact p4
  · have ei : i = n := by omega
    subst ei
    obtain ⟨q1, q2, acc, q3, q4, q5⟩ := p
    exact .inl ⟨Nat.le_refl _, k D acc H' q2 q1 q3 q4 q5⟩
section
variable {P : Program} {w : World} {K : PySem.W.Frag} {mg : Str → Option Value} {base : Heap}
/-! ### lattices -/
def sp_Linit (K : PySem.W.Frag) : Sp := fun vs H Q _ => ∃ (x dx : Addr) (a b d : Int), vs = [.ref x, .int a, .int b, .int d] ∧ H x = some (.ins (CL K) dx []) ∧ (1 ≤ a ∧ 0 ≤ b ∧ b < a ∧ 1 ≤ d) ∧
  ∀ H', (∀ c o, H c = some o → c ≠ x → H' c = some o) → H' x = some (.ins (CL K) dx (lf a b d)) → Q .non H'
theorem ok_Linit (T : Txt K mg base) : MakOk P w K mg base (CL K) 4 ["self", "a", "b", "d"] (sp_Linit K) := by
  refine makok T.d_L_init T.mkL sc_L_init (fun _ _ _ _ _ _ us hl => match us, hl with | [_, _, _, _], _ => rfl) (fun vs H Q E h => ?_) fun cdv A outer s H vs Q E hr h => ?_
  · obtain ⟨x, dx, a, b, d, rfl, _⟩ := h
    rfl
  obtain ⟨x, dx, a, b, d, rfl, hx, hv, k⟩ := h
  refine ⟨_, pss_cons (ps_expr (pe_cd (ok_check_basis T) hr (by decide) (by rfl) (pa_cons (pv 1) (pa_cons (pv 2) (pa_cons (pv 3) pa_nil)))))
    (pss_cons (ps_fld (pv 0) (pv 1) rfl) (pss_cons (ps_fld (pv 0) (pv 2) rfl) (pss_one (ps_fld (pv 0) (pv 3) rfl)))), ?_⟩
  refine ⟨_, rfl, _, rfl, _, rfl, a, b, d, rfl, hv.1, hv.2.1, hv.2.2.1, hv.2.2.2, fun H1 e1 => ?_⟩
  refine ⟨_, rfl, _, rfl, x, _, dx, _, rfl, e1 _ _ hx, T.clsL, T.nL_a, (by show 0 < 1000; decide), _, rfl, _, rfl, x, _, dx, _, rfl, upd_same, T.clsL, T.nL_b, (by show 1 < 1000; decide),
    _, rfl, _, rfl, x, _, dx, _, rfl, upd_same, T.clsL, T.nL_d, (by show 2 < 1000; decide), ?_⟩
  refine k _ (fun c o hc hn => ?_) upd_same
  rw [upd_ne hn, upd_ne hn, upd_ne hn]
  exact e1 _ _ hc
theorem lat_make {H1 : Hp} {Q : VK} {E : XK} {a b d : Int} (hv : 1 ≤ a ∧ 0 ≤ b ∧ b < a ∧ 1 ≤ d) (k : RetR H1 Q (IsLat K a b d)) : ∀ x dx, H1 x = none → H1 dx = none → dx ≠ x →
    sp_Linit K (.ref x :: ([.int a, .int b, .int d] ++ [])) (upd (upd H1 dx (.own x)) x (.ins (CL K) dx [])) (fun v H2 => v = .non ∧ Q (.ref x) H2) E := fun x dx nx nd ne =>
  ⟨x, dx, a, b, d, rfl, upd_same, hv, fun H' kp hx => ⟨rfl, k x H' (Same.made nx nd kp) ⟨dx, hx⟩⟩⟩
def sp_area (K : PySem.W.Frag) : Sp := fun vs H Q _ => ∃ (p : Addr) (a b d : Int), vs = [.ref p] ∧ IsLat K a b d p H ∧ (0 ≤ a ∧ a ≤ 1000) ∧ Ret H Q (.int (a * d))
theorem ok_area (T : Txt K mg base) : MetOk P w K mg base (CL K) "area" 1 ["self"] (sp_area K) := by
  refine metok T.d_L_area T.mL_area sc_L_area (fun _ _ _ _ _ _ us hl => match us, hl with | [_], _ => rfl) (fun vs H Q E h => ?_) fun cdv A outer s H vs Q E hr h => ?_
  · obtain ⟨p, a, b, d, rfl, _⟩ := h
    rfl
  obtain ⟨p, a, b, d, rfl, ⟨dx, hp⟩, ha, k⟩ := h
  refine ⟨_, pss_one (ps_ret (pe_op op_mul (pe_fld (pv 0) rfl) (pe_fld (pv 0) rfl))), ?_⟩
  refine ⟨_, rfl, p, _, dx, _, _, rfl, hp, T.clsL, T.nL_a, lf_a, _, rfl, p, _, dx, _, _, rfl, hp, T.clsL, T.nL_d, lf_d, _, _, rfl, rfl, .inl ⟨by omega, by omega⟩, ?_⟩
  exact k H (Same.refl H)
def plX (a b d x y : Int) : Int := (x - y / d * b) % a
def plY (d y : Int) : Int := y - y / d * d
def sp_place (K : PySem.W.Frag) : Sp := fun vs H Q _ => ∃ (p c : Addr) (a b d x y : Int), vs = [.ref p, .ref c] ∧ IsLat K a b d p H ∧ Pair x y c H ∧ LtOk a b d ∧ RetR H Q (Pair (plX a b d x y) (plY d y))
theorem ok_place (T : Txt K mg base) : MetOk P w K mg base (CL K) "place" 4 ["self", "cell"] (sp_place K) := by
  refine metok T.d_L_place T.mL_place sc_L_place (fun _ _ _ _ _ _ us hl => match us, hl with | [_, _], _ => rfl) (fun vs H Q E h => ?_) fun cdv A outer s H vs Q E hr h => ?_
  · obtain ⟨p, c, a, b, d, x, y, rfl, _⟩ := h
    rfl
  obtain ⟨p, c, a, b, d, x, y, rfl, ⟨dx, hp⟩, hc, hv, k⟩ := h
  obtain ⟨v1, v2, v3, v4, v5, v6⟩ := hv
  have hS := sc_L_place.nd
  refine ⟨_, pss_cons (ps_expr (pe_cd (ok_check_cell T) hr (by decide) (by rfl) (pa_cons (pv 1) pa_nil)))
    (pss_cons (ps_asg (pv 1) (pg_tup rfl (pgs_cons (pg_name (i := 2) hS rfl (.inl rfl)) (pgs_cons (pg_name (i := 3) hS rfl (.inl rfl)) pgs_nil))))
    (pss_cons (ps_set (i := 4) hS rfl (.inl rfl) (pe_op op_fdiv (pe_callTy call_int1 (by rfl) T.f_int (by decide +kernel) (pa_cons (pv 3) pa_nil)) (pe_fld (pv 0) rfl)))
    (pss_one (ps_ret (pe_tup (pa_cons (pe_op op_mod (pe_callTy call_int1 (by rfl) T.f_int (by decide +kernel) (pa_cons (pe_op op_sub (pv 2) (pe_op op_mul (pv 4) (pe_fld (pv 0) rfl))) pa_nil)) (pe_fld (pv 0) rfl))
      (pa_cons (pe_op op_sub (pv 3) (pe_op op_mul (pv 4) (pe_fld (pv 0) rfl))) pa_nil))))))), ?_⟩
  refine ⟨_, rfl, c, x, y, rfl, hc, fun H1 e1 => ?_⟩
  have hp1 := e1 _ _ hp
  refine ⟨_, rfl, c, _, rfl, SqT.of (e1 _ _ hc), rfl, _, _, rfl, _, _, rfl, rfl, ?_⟩
  refine ⟨_, rfl, .inl ⟨_, rfl, _, rfl, p, _, dx, _, _, rfl, hp1, T.clsL, T.nL_d, lf_d, _, _, rfl, rfl, ⟨by omega, by omega⟩, ?_⟩⟩
  refine ⟨_, rfl, _, rfl, _, rfl, p, _, dx, _, _, rfl, hp1, T.clsL, T.nL_b, lf_b, _, _, rfl, rfl, .inr ⟨by omega, by omega⟩, _, _, rfl, rfl, .inl ⟨_, rfl, _, rfl, p, _, dx, _, _, rfl, hp1, T.clsL, T.nL_a, lf_a, _, _, rfl, rfl, (by show (0 : Int) < a; omega), ?_⟩⟩
  refine ⟨_, rfl, _, rfl, _, rfl, p, _, dx, _, _, rfl, hp1, T.clsL, T.nL_d, lf_d, _, _, rfl, rfl, .inr ⟨by omega, by omega⟩, _, _, rfl, rfl, by show 2 ≤ sizeLine; decide, fun t nt => ?_⟩
  exact k t _ (e1.trans (Same.upd nt)) upd_same
/-- the places of a lattice of a columns, in order -/
abbrev PlcR (a : Nat) : Nat → V → Hp → Prop := fun i v H => ∃ p, v = .ref p ∧ H p = some (.tup [.int ((i % a : Nat) : Int), .int ((i / a : Nat) : Int)])
theorem plcR_stab (a : Nat) : Stab (PlcR a) := Stab.tup fun i => [.int ((i % a : Nat) : Int), .int ((i / a : Nat) : Int)]
def sp_places (K : PySem.W.Frag) : Sp := fun vs H Q _ => ∃ (p : Addr) (a d : Nat) (b : Int), vs = [.ref p] ∧ IsLat K a b d p H ∧ (1 ≤ a ∧ a ≤ 200) ∧ d ≤ 200 ∧
  ∀ (D : Addr) (acc : List V) (H' : Hp), Same H H' → H' D = some (.lst acc) → acc.length = d * a → Good (PlcR a) acc H' → Q (.ref D) H'
theorem ok_places (T : Txt K mg base) : MetOk P w K mg base (CL K) "places" 1 ["self"] (sp_places K) := by
  refine metok T.d_L_places T.mL_places sc_L_places (fun _ _ _ _ _ _ us hl => match us, hl with | [_], _ => rfl) (fun vs H Q E h => ?_) fun cdv A outer s H vs Q E hr h => ?_
  · obtain ⟨p, a, b, d, rfl, _⟩ := h
    rfl
  obtain ⟨p, a, d, b, rfl, ⟨dx, hp⟩, ha, hd, k⟩ := h
  have hS := sc_L_places.nd
  refine ⟨_, pss_one (ps_ret (pe_lc2 (own := [("y", 1), ("x", 2)]) (wi1 := iRng1 (tCons (tFld K (tVar 0) "a") tNil)) (g := gName 1) (g1 := gName 2) (tt := tYes) (tt1 := tYes) (vs1 := [2]) rfl hS (pi_range1 rfl T.f_range (pa_cons (pe_fld (pv 0) rfl) pa_nil))
      (blkOk_by (own := [("y", 1), ("x", 2)]) (N := ["self", "y", "x"]) (sc := defScope s_L_places) (by decide +kernel)) (by decide)
      (fun _ _ _ _ _ => pg_name (i := 1) hS rfl (Or.inl rfl)) (fun _ _ _ _ _ => pts_nil) (fun _ _ _ _ _ => pi_range1 rfl T.f_range (pa_cons (pe_fld (pv 0) rfl) pa_nil)) (fun _ _ _ _ _ => pg_name (i := 2) hS rfl (Or.inl rfl)) (fun _ _ _ _ _ => pts_nil)
      (fun _ _ _ _ _ => pe_tup (pa_cons (pv 2) (pa_cons (pv 1) pa_nil))))), ?_⟩
  refine ⟨_, rfl, p, _, dx, _, _, rfl, hp, T.clsL, T.nL_d, lf_d, _, rfl, by omega, by omega, ?_⟩
  refine lc2R (n := d) (n1 := a) (j := 1) (j1 := 2) (R := PlcR a) (plcR_stab a) hd ha.2 (by intro x; rfl) (by intro x y; rfl) (fun i H' hi e Z q => ?_) (fun i m H' hi hm e Q' q => ?_) fun D acc H' e nD hD hl g => ?_
  · exact ⟨_, rfl, p, _, dx, _, _, rfl, e _ _ hp, T.clsL, T.nL_a, lf_a, _, rfl, by omega, by omega, q H' (Same.refl _)⟩
  · refine ⟨_, rfl, _, rfl, by show 2 ≤ sizeLine; decide, fun t nt => q _ _ (Same.upd nt) ⟨t, rfl, ?_⟩⟩
    have h1 : (i * a + m) % a = m := by rw [Nat.mul_comm, Nat.mul_add_mod]; exact Nat.mod_eq_of_lt hm
    have h2 : (i * a + m) / a = i := by rw [Nat.mul_comm, Nat.mul_add_div (by omega), Nat.div_eq_of_lt hm, Nat.add_zero]
    rw [upd_same, h1, h2, Int.zero_add, Int.zero_add]
  · exact k D acc H' e hD hl g
def sp_check_lattice (K : PySem.W.Frag) : Sp := fun vs H Q _ => ∃ (p : Addr) (a b d : Int), vs = [.ref p] ∧ IsLat K a b d p H ∧ Ret H Q .non
theorem tyL (T : Txt K mg base) {a b d : Int} {p dx : Addr} {H : Hp} (hp : H p = some (.ins (CL K) dx (lf a b d))) : TyX K H (.ref p) (.ref (CL K)) := .base (.ins hp T.clsL T.ownL.c1 T.ownL.c2 T.ownL.c3 T.ownL.c4)
theorem ok_check_lattice (T : Txt K mg base) : DefOk P w K mg base "check_lattice" 1 ["value"] (sp_check_lattice K) := by
  refine defok T.d_check_lattice T.g_check_lattice sc_check_lattice (fun _ _ _ _ _ _ us hl => match us, hl with | [_], _ => rfl) (fun vs H Q E h => ?_) fun cdv A outer s H vs Q E hr h => ?_
  · obtain ⟨p, a, b, d, rfl, _⟩ := h
    rfl
  obtain ⟨p, a, b, d, rfl, ⟨dx, hp⟩, k⟩ := h
  refine ⟨_, pss_one (ps_if (pt_not (pt_val (pe_callB call_isi (by rfl) T.f_isinstance (by decide +kernel) (pa_cons (pv 0) (pa_cons (pe_glob (v := .ref (CL K)) (by rfl) T.g_Lattice rfl) pa_nil))))) pss_never pss_nil), ?_⟩
  refine ⟨_, rfl, _, _, _, _, true, rfl, .own _, tyL T hp, T.ownL.kit, true, rfl, iteF ?_⟩
  exact k H (Same.refl H)
end
end
section
/-! ### the common lattice of two small ones: by a look at all of them -/
structure L3 (a b d : Int) : Prop where
  a1 : 1 ≤ a
  a2 : a ≤ 3
  b1 : 0 ≤ b
  b2 : b < a
  d1 : 1 ≤ d
  d2 : d ≤ 3
abbrev T3 : Type := Int × Int × Int
def lats : List T3 := [(1, 0, 1), (1, 0, 2), (1, 0, 3), (2, 0, 1), (2, 0, 2), (2, 0, 3), (2, 1, 1), (2, 1, 2), (2, 1, 3), (3, 0, 1), (3, 0, 2), (3, 0, 3), (3, 1, 1), (3, 1, 2), (3, 1, 3), (3, 2, 1), (3, 2, 2), (3, 2, 3)]
theorem lats_mem {a b d : Int} (h : L3 a b d) : (a, b, d) ∈ lats := by
  obtain ⟨h1, h2, h3, h4, h5, h6⟩ := h
  have ha : a = 1 ∨ a = 2 ∨ a = 3 := by omega
  have hd : d = 1 ∨ d = 2 ∨ d = 3 := by omega
  have hb : b = 0 ∨ b = 1 ∨ b = 2 := by omega
  rcases ha with rfl | rfl | rfl <;> rcases hd with rfl | rfl | rfl <;> rcases hb with rfl | rfl | rfl <;> first | decide | omega
def comUp (l m : T3) : Int := lcmZ l.2.2 m.2.2
def comF (l m : T3) : Int := comUp l m / l.2.2 * l.2.1
def comS (l m : T3) : Int := comUp l m / m.2.2 * m.2.1
def comG (l m : T3) : Int := gcdZ l.1 m.1
def comM (l m : T3) : Int := comG l m / gcdZ (comG l m) (comF l m - comS l m)
def comB (l m : T3) : Int × Int := bothZ (comM l m * comF l m) l.1 (comM l m * comS l m) m.1
/-- the common lattice: A, B, D -/
def com (l m : T3) : T3 := ((comB l m).2, (comB l m).1, comM l m * comUp l m)
def perB (l : T3) (x y : Int) : Bool := decide (plX l.1 l.2.1 l.2.2 x y = 0) && decide (plY l.2.2 y = 0)
def comChk (l m : T3) : Bool :=
  decide (0 ≤ comUp l m ∧ comUp l m ≤ 900) && decide (0 < gcdZ (comG l m) (comF l m - comS l m) ∧ gcdZ (comG l m) (comF l m - comS l m) ≤ 900) && decide (0 ≤ comM l m ∧ comM l m ≤ 900) &&
  decide ((comM l m * comS l m - comM l m * comF l m) % gcdZ l.1 m.1 = 0) && decide (1 ≤ (com l m).1) && decide (0 ≤ (com l m).2.1) && decide ((com l m).2.1 < (com l m).1) && decide (1 ≤ (com l m).2.2) && decide ((com l m).1 * (com l m).2.2 ≤ 144) &&
  decide ((com l m).1 ≤ 144) && decide ((com l m).2.2 ≤ 144) && perB l (com l m).1 0 && perB l (com l m).2.1 (com l m).2.2 && perB m (com l m).1 0 && perB m (com l m).2.1 (com l m).2.2
theorem com_all : (lats.all fun l => lats.all fun m => comChk l m) = true := by decide +kernel
structure ComOk (l m : T3) : Prop where
  up : 0 ≤ comUp l m ∧ comUp l m ≤ 900
  gg : 0 < gcdZ (comG l m) (comF l m - comS l m) ∧ gcdZ (comG l m) (comF l m - comS l m) ≤ 900
  mm : 0 ≤ comM l m ∧ comM l m ≤ 900
  z : (comM l m * comS l m - comM l m * comF l m) % gcdZ l.1 m.1 = 0
  a1 : 1 ≤ (com l m).1
  b0 : 0 ≤ (com l m).2.1
  b1 : (com l m).2.1 < (com l m).1
  d1 : 1 ≤ (com l m).2.2
  ar : (com l m).1 * (com l m).2.2 ≤ 144
  a2 : (com l m).1 ≤ 144
  d2 : (com l m).2.2 ≤ 144
  p1 : perB l (com l m).1 0 = true
  p2 : perB l (com l m).2.1 (com l m).2.2 = true
  p3 : perB m (com l m).1 0 = true
  p4 : perB m (com l m).2.1 (com l m).2.2 = true
theorem com_ok {l m : T3} (hl : l ∈ lats) (hm : m ∈ lats) : ComOk l m := by
  have h := List.all_eq_true.mp (List.all_eq_true.mp com_all l hl) m hm
  unfold comChk at h
  simp only [Bool.and_eq_true, decide_eq_true_eq] at h
  obtain ⟨⟨⟨⟨⟨⟨⟨⟨⟨⟨⟨⟨⟨⟨h1, h2⟩, h3⟩, h4⟩, h5⟩, h6⟩, h7⟩, h8⟩, h9⟩, h10⟩, h11⟩, h12⟩, h13⟩, h14⟩, h15⟩ := h
  exact ⟨h1, h2, h3, h4, h5, h6, h7, h8, h9, h10, h11, h12, h13, h14, h15⟩
section
variable {P : Program} {w : World} {K : PySem.W.Frag} {mg : Str → Option Value} {base : Heap}
def sp_common (K : PySem.W.Frag) : Sp := fun vs H Q _ => ∃ (p q : Addr) (l m : T3), vs = [.ref p, .ref q] ∧ IsLat K l.1 l.2.1 l.2.2 p H ∧ IsLat K m.1 m.2.1 m.2.2 q H ∧ L3 l.1 l.2.1 l.2.2 ∧ L3 m.1 m.2.1 m.2.2 ∧
  RetR H Q (IsLat K (com l m).1 (com l m).2.1 (com l m).2.2)
theorem ok_common (T : Txt K mg base) : DefOk P w K mg base "common_lattice" 6 ["one", "other"] (sp_common K) := by
  refine defok T.d_common_lattice T.g_common_lattice sc_common_lattice (fun _ _ _ _ _ _ us hl => match us, hl with | [_, _], _ => rfl) (fun vs H Q E h => ?_) fun cdv A outer s H vs Q E hr h => ?_
  · obtain ⟨p, q, l, m, rfl, _⟩ := h
    rfl
  obtain ⟨p, q, l, m, rfl, hp, hq, hl, hm, k⟩ := h
  have C : ComOk l m := com_ok (lats_mem hl) (lats_mem hm)
  obtain ⟨l1, l2, l3, l4, l5, l6⟩ := hl
  obtain ⟨m1, m2, m3, m4, m5, m6⟩ := hm
  have hS := sc_common_lattice.nd
  have cg : ∀ i, CDiv i (gcdZ (comG l m) (comF l m - comS l m)) := fun i => ⟨C.gg.1, by have := C.gg.2; omega⟩
  have cm : ∀ x, CMul (comM l m) x := fun x => .inl ⟨by have := C.mm.1; omega, by have := C.mm.2; omega⟩
  refine ⟨_, pss_cons (ps_expr (pe_cd (ok_check_lattice T) hr (by decide) (by rfl) (pa_cons (pv 0) pa_nil)))
    (pss_cons (ps_expr (pe_cd (ok_check_lattice T) hr (by decide) (by rfl) (pa_cons (pv 1) pa_nil)))
    (pss_cons (ps_set (i := 2) hS rfl (.inl rfl) (pe_cd (ok_lcm T) hr (by decide) (by rfl) (pa_cons (pe_fld (pv 0) rfl) (pa_cons (pe_fld (pv 1) rfl) pa_nil))))
    (pss_cons (ps_par (i := 3) (j := 4) (by rfl) hS rfl rfl (by decide) rfl rfl (pa_cons (pe_op op_mul (pe_op op_fdiv (pv 2) (pe_fld (pv 0) rfl)) (pe_fld (pv 0) rfl)) (pa_cons (pe_op op_mul (pe_op op_fdiv (pv 2) (pe_fld (pv 1) rfl)) (pe_fld (pv 1) rfl)) pa_nil)) (by rfl))
    (pss_cons (ps_set (i := 5) hS rfl (.inl rfl) (pe_cd (ok_gcd T) hr (by decide) (by rfl) (pa_cons (pe_fld (pv 0) rfl) (pa_cons (pe_fld (pv 1) rfl) pa_nil))))
    (pss_cons (ps_set (i := 6) hS rfl (.inl rfl) (pe_op op_fdiv (pv 5) (pe_cd (ok_gcd T) hr (by decide) (by rfl) (pa_cons (pv 5) (pa_cons (pe_op op_sub (pv 3) (pv 4)) pa_nil)))))
    (pss_cons (ps_set (i := 7) hS rfl (.inl rfl) (pe_cd (ok_both T) hr (by decide) (by rfl) (pa_cons (pe_tup (pa_cons (pe_op op_mul (pv 6) (pv 3)) (pa_cons (pe_fld (pv 0) rfl) pa_nil))) (pa_cons (pe_tup (pa_cons (pe_op op_mul (pv 6) (pv 4)) (pa_cons (pe_fld (pv 1) rfl) pa_nil))) pa_nil))))
    (pss_one (ps_ret (pe_mk (ok_Linit T) hr (by decide) (by rfl) T.g_Lattice (pa_cons (pe_ix ix_tup (pv 7) pe_int (fun _ _ => rfl)) (pa_cons (pe_ix ix_tup (pv 7) pe_int (fun _ _ => rfl)) (pa_cons (pe_op op_mul (pv 6) (pv 2)) pa_nil)))))))))))), ?_⟩
  refine ⟨_, rfl, p, _, _, _, rfl, hp, fun H1 e1 => ⟨_, rfl, q, _, _, _, rfl, hq.mono e1, fun H2 e2 => ?_⟩⟩
  have e12 := e1.trans e2
  obtain ⟨dp, p2⟩ := (hp.mono e12).ex
  obtain ⟨dq, q2⟩ := (hq.mono e12).ex
  refine ⟨_, rfl, p, _, dp, _, _, rfl, p2, T.clsL, T.nL_d, lf_d, _, rfl, q, _, dq, _, _, rfl, q2, T.clsL, T.nL_d, lf_d, _, _, rfl, ⟨l5, by omega⟩, ⟨m5, by omega⟩, fun H3 e3 => ?_⟩
  have p3 := e3 _ _ p2
  have q3 := e3 _ _ q2
  refine ⟨_, rfl, _, rfl, p, _, dp, _, _, rfl, p3, T.clsL, T.nL_d, lf_d, _, _, rfl, rfl, ⟨by omega, by omega⟩, _, rfl, p, _, dp, _, _, rfl, p3, T.clsL, T.nL_b, lf_b, _, _, rfl, rfl, .inr ⟨by omega, by omega⟩, ?_⟩
  refine ⟨_, rfl, _, rfl, q, _, dq, _, _, rfl, q3, T.clsL, T.nL_d, lf_d, _, _, rfl, rfl, ⟨by omega, by omega⟩, _, rfl, q, _, dq, _, _, rfl, q3, T.clsL, T.nL_b, lf_b, _, _, rfl, rfl, .inr ⟨by omega, by omega⟩, _, _, rfl, ?_⟩
  refine ⟨_, rfl, p, _, dp, _, _, rfl, p3, T.clsL, T.nL_a, lf_a, _, rfl, q, _, dq, _, _, rfl, q3, T.clsL, T.nL_a, lf_a, _, _, rfl, fun H4 e4 => ?_⟩
  refine ⟨_, rfl, _, rfl, _, rfl, _, rfl, _, _, rfl, rfl, _, _, rfl, fun H5 e5 => ⟨_, _, rfl, rfl, cg _, ?_⟩⟩
  have p5 := e5 _ _ (e4 _ _ p3)
  have q5 := e5 _ _ (e4 _ _ q3)
  refine ⟨_, rfl, _, rfl, comM l m, comF l m, rfl, rfl, cm _, _, rfl, p, _, dp, _, _, rfl, p5, T.clsL, T.nL_a, lf_a, by show 2 ≤ sizeLine; decide, fun t1 n1 => ?_⟩
  have f1 := Same.upd (o := .tup [.int (comM l m * comF l m), .int l.1]) n1
  refine ⟨_, rfl, _, rfl, comM l m, comS l m, rfl, rfl, cm _, _, rfl, q, _, dq, _, _, rfl, f1 _ _ q5, T.clsL, T.nL_a, lf_a, by show 2 ≤ sizeLine; decide, fun t2 n2 => ?_⟩
  have f2 := Same.upd (o := .tup [.int (comM l m * comS l m), .int m.1]) n2
  refine ⟨t1, t2, comM l m * comF l m, l.1, comM l m * comS l m, m.1, rfl, f2 _ _ upd_same, upd_same, ⟨l1, by omega⟩, ⟨m1, by omega⟩, C.z, fun t H6 e6 ht => ?_⟩
  refine ⟨_, rfl, _, _, _, _, rfl, rfl, SqT.of ht, atI_nat (j := 1) rfl, _, rfl, _, _, _, _, rfl, rfl, SqT.of ht, atI_nat (j := 0) rfl, _, rfl, _, rfl, comM l m, comUp l m, rfl, rfl, cm _, ?_⟩
  refine lat_make ⟨C.a1, C.b0, C.b1, C.d1⟩ fun r H7 e7 hr7 => ?_
  exact k r H7 (e12.trans (e3.trans (e4.trans (e5.trans (f1.trans (f2.trans (e6.trans e7))))))) hr7
end
end
section
/-! ### carpets as they are told -/
structure Tok where
  a : Nat
  b : Nat
  d : Nat
  rows : List (List Nat)
structure Tok.Ok (t : Tok) : Prop where
  a1 : 1 ≤ t.a
  b1 : t.b < t.a
  d1 : 1 ≤ t.d
  ar : t.a * t.d ≤ 144
  len : t.rows.length = t.d
  row : ∀ z ∈ t.rows, z.length = t.a
  dig : ∀ z ∈ t.rows, ∀ c ∈ z, c ≤ 9
theorem Tok.Ok.a2 {t : Tok} (h : t.Ok) : t.a ≤ 144 := Nat.le_trans (Nat.le_mul_of_pos_right _ h.d1) h.ar
theorem Tok.Ok.d2 {t : Tok} (h : t.Ok) : t.d ≤ 144 := Nat.le_trans (Nat.le_mul_of_pos_left _ h.a1) h.ar
theorem Tok.Ok.lt {t : Tok} (h : t.Ok) : LtOk t.a t.b t.d := by
  have h1 := h.a2
  have h2 := h.d2
  have h3 := h.a1
  have h4 := h.b1
  have h5 := h.d1
  exact ⟨by omega, by omega, by omega, by omega, by omega, by omega⟩
def rowsV (rows : List (List Nat)) : List V := rows.map fun z => V.str (dS z)
def sgn (t : Tok) (x y : Int) : Nat := (t.rows.getD (plY t.d y).toNat []).getD (plX t.a t.b t.d x y).toNat 0
theorem plX_rng {a b d x y : Int} (h : 1 ≤ a) : 0 ≤ plX a b d x y ∧ plX a b d x y < a := ⟨Int.emod_nonneg _ (by omega), Int.emod_lt_of_pos _ (by omega)⟩
theorem plY_emod (d y : Int) : plY d y = y % d := by
  unfold plY
  rw [Int.emod_def, Int.mul_comm]
theorem plY_rng {d y : Int} (h : 1 ≤ d) : 0 ≤ plY d y ∧ plY d y < d := by
  rw [plY_emod]
  exact ⟨Int.emod_nonneg _ (by omega), Int.emod_lt_of_pos _ (by omega)⟩
structure SgnAt (t : Tok) (x y : Int) : Prop where
  ex : ∃ (j i : Nat) (z : List Nat), plY t.d y = (j : Int) ∧ plX t.a t.b t.d x y = (i : Int) ∧ t.rows[j]? = some z ∧ z[i]? = some (sgn t x y) ∧ z.length ≤ 144 ∧ sgn t x y ≤ 9
theorem sgnAt {t : Tok} (h : t.Ok) (x y : Int) : SgnAt t x y := by
  have h1 := plX_rng (a := t.a) (b := t.b) (d := t.d) (x := x) (y := y) (by have := h.a1; omega)
  have h2 := plY_rng (d := t.d) (y := y) (by have := h.d1; omega)
  have hj : (plY t.d y).toNat < t.rows.length := by rw [h.len]; omega
  have hz := h.row _ (List.getElem_mem hj)
  have hi : (plX t.a t.b t.d x y).toNat < (t.rows[(plY t.d y).toNat]).length := by rw [hz]; omega
  have e : sgn t x y = (t.rows[(plY t.d y).toNat])[(plX t.a t.b t.d x y).toNat] := by
    unfold sgn
    rw [List.getD_eq_getElem?_getD, List.getD_eq_getElem?_getD, List.getElem?_eq_getElem hj]
    show (t.rows[(plY t.d y).toNat][(plX t.a t.b t.d x y).toNat]?).getD 0 = _
    rw [List.getElem?_eq_getElem hi]
    rfl
  refine ⟨(plY t.d y).toNat, (plX t.a t.b t.d x y).toNat, t.rows[(plY t.d y).toNat], by omega, by omega, List.getElem?_eq_getElem hj, ?_, by rw [hz]; exact h.a2, ?_⟩
  · rw [e]
    exact List.getElem?_eq_getElem hi
  · rw [e]
    exact h.dig _ (List.getElem_mem hj) _ (List.getElem_mem hi)
theorem rowsV_at {rows : List (List Nat)} {j : Nat} {z : List Nat} (h : rows[j]? = some z) : (rowsV rows)[j]? = some (.str (dS z)) := by
  unfold rowsV
  rw [List.getElem?_map, h]
  rfl
abbrev IsTokL (K : PySem.W.Frag) (t : Tok) (p : Addr) (H : Hp) : Prop := IsLat K t.a t.b t.d p H
abbrev IsRows (rows : List (List Nat)) (r : Addr) (H : Hp) : Prop := H r = some (.tup (rowsV rows))
def perM (t : Tok) (x y : Int) : Bool := (List.range (t.d * t.a)).all fun i => decide (sgn t ((i % t.a : Nat) : Int) ((i / t.a : Nat) : Int) = sgn t (((i % t.a : Nat) : Int) + x) (((i / t.a : Nat) : Int) + y))
theorem dec_vi {c e : Int} : decide (V.int c = V.int e) = decide (c = e) := by
  rw [Bool.eq_iff_iff, decide_eq_true_eq, decide_eq_true_eq]
  exact ⟨fun h => V.int.inj h, fun h => by rw [h]⟩
theorem dec_sgn {c e : Nat} : decide (V.str (dS [c]) = V.str (dS [e])) = decide (c = e) := by
  rw [Bool.eq_iff_iff, decide_eq_true_eq, decide_eq_true_eq]
  exact ⟨fun h => by have := dS_inj (V.str.inj h); simpa using this, fun h => by rw [h]⟩
section
variable {P : Program} {w : World} {K : PySem.W.Frag} {mg : Str → Option Value} {base : Heap}
def sp_sign_at (K : PySem.W.Frag) : Sp := fun vs H Q _ => ∃ (p r c : Addr) (t : Tok) (x y : Int), vs = [.ref p, .ref r, .ref c] ∧ IsTokL K t p H ∧ IsRows t.rows r H ∧ Pair x y c H ∧ t.Ok ∧ Ret H Q (.str (dS [sgn t x y]))
theorem ok_sign_at (T : Txt K mg base) : DefOk P w K mg base "sign_at" 5 ["lattice", "rows", "cell"] (sp_sign_at K) := by
  refine defok T.d_sign_at T.g_sign_at sc_sign_at (fun _ _ _ _ _ _ us hl => match us, hl with | [_, _, _], _ => rfl) (fun vs H Q E h => ?_) fun cdv A outer s H vs Q E hr h => ?_
  · obtain ⟨p, r, c, t, x, y, rfl, _⟩ := h
    rfl
  obtain ⟨p, r, c, t, x, y, rfl, hp, hrw, hc, ht, k⟩ := h
  obtain ⟨j, i, z, ej, ei, hz, hi, hl, _⟩ := (sgnAt ht x y).ex
  have hS := sc_sign_at.nd
  refine ⟨_, pss_cons (ps_asg (pe_md (ok_place T) T.clsL hr (by decide) (pv 0) (pa_cons (pv 2) pa_nil)) (pg_tup rfl (pgs_cons (pg_name (i := 3) hS rfl (.inl rfl)) (pgs_cons (pg_name (i := 4) hS rfl (.inl rfl)) pgs_nil))))
    (pss_one (ps_ret (pe_ix ix_str (pe_ix ix_tup (pv 1) (pv 4) (fun _ _ => rfl)) (pv 3) (fun _ _ => rfl)))), ?_⟩
  obtain ⟨dx, hp0⟩ := hp.ex
  refine ⟨_, rfl, p, dx, _, rfl, hp0, lf_n, _, rfl, p, c, t.a, t.b, t.d, x, y, rfl, hp, hc, ht.lt, fun q H1 e1 hq => ?_⟩
  refine ⟨q, _, rfl, SqT.of hq, rfl, _, _, rfl, _, _, rfl, rfl, ?_⟩
  refine ⟨_, rfl, _, rfl, r, _, _, _, rfl, rfl, SqT.of (e1 _ _ hrw), at_of ej (rowsV_at hz), _, rfl, dS z, _, 48 + sgn t x y, rfl, rfl, small_str (by rw [dS_len]; omega), (by rw [ei]; exact atI_nat (dS_at hi)), ?_⟩
  exact k H1 e1
def sp_is_period_of (K : PySem.W.Frag) : Sp := fun vs H Q _ => ∃ (p r c : Addr) (t : Tok) (x y : Int), vs = [.ref p, .ref r, .ref c] ∧ IsTokL K t p H ∧ IsRows t.rows r H ∧ Pair x y c H ∧ t.Ok ∧ Ret H Q (.bl (perM t x y))
theorem ok_is_period_of (T : Txt K mg base) : DefOk P w K mg base "is_period_of" 6 ["lattice", "rows", "shift"] (sp_is_period_of K) := by
  refine defok T.d_is_period_of T.g_is_period_of sc_is_period_of (fun _ _ _ _ _ _ us hl => match us, hl with | [_, _, _], _ => rfl) (fun vs H Q E h => ?_) fun cdv A outer s H vs Q E hr h => ?_
  · obtain ⟨p, r, c, t, x, y, rfl, _⟩ := h
    rfl
  obtain ⟨p, r, c, t, x, y, rfl, hp, hrw, hc, ht, k⟩ := h
  have hS := sc_is_period_of.nd
  refine ⟨_, pss_cons (ps_asg (pv 2) (pg_tup rfl (pgs_cons (pg_name (i := 3) hS rfl (.inr rfl)) (pgs_cons (pg_name (i := 4) hS rfl (.inr rfl)) pgs_nil))))
    (pss_cons (ps_set (i := 5) hS rfl (.inl rfl) (pe_md0 (ok_places T) T.clsL hr (by decide) (pv 0)))
    (pss_one (ps_ret (pe_callB (cr_all rfl) (by rfl) T.f_all (by decide +kernel) (pa_cons (pe_lc (own := [("place", 6)]) (g := gName 6) (tt := tYes) rfl hS (pi_list (pv 5)) (blkOk_by (own := [("place", 6)]) (N := ["lattice", "rows", "shift", "x", "y", "places", "place"]) (sc := defScope s_is_period_of) (by decide +kernel))
        (fun _ _ _ _ _ => pg_name (i := 6) hS rfl (Or.inl rfl)) (fun _ _ _ _ _ => pts_nil) (fun _ _ _ _ _ => pe_cmpR op_eq (pe_cd (ok_sign_at T) hr (by decide) (by rfl) (pa_cons (pv 0) (pa_cons (pv 1) (pa_cons (pv 6) pa_nil))))
          (pe_cd (ok_sign_at T) hr (by decide) (by rfl) (pa_cons (pv 0) (pa_cons (pv 1) (pa_cons (pe_tup (pa_cons (pe_op op_add (pe_ix (ixT K) (pv 6) pe_int (fun _ _ => rfl)) (pv 3)) (pa_cons (pe_op op_add (pe_ix (ixT K) (pv 6) pe_int (fun _ _ => rfl)) (pv 4)) pa_nil))) pa_nil)))) (nomark _))) pa_nil))))), ?_⟩
  refine ⟨_, rfl, c, _, rfl, SqT.of hc, rfl, _, _, rfl, _, _, rfl, rfl, ?_⟩
  obtain ⟨dx, hp0⟩ := hp.ex
  have ha := ht.a2
  have hd := ht.d2
  have ha1 := ht.a1
  refine ⟨_, rfl, p, dx, _, rfl, hp0, rfl, p, t.a, t.d, t.b, rfl, hp, by omega, by omega, fun L acc H1 e1 hL hl g => ?_⟩
  refine ⟨_, rfl, L, rfl, ⟨_, SqL.of hL⟩, ?_⟩
  have hb : t.d * t.a ≤ 200 * 200 := Nat.mul_le_mul (by omega) (by omega)
  refine lcL (j := 6) (xs := acc) (Stab.val fun i => .bl (decide (sgn t ((i % t.a : Nat) : Int) ((i / t.a : Nat) : Int) = sgn t (((i % t.a : Nat) : Int) + x) (((i / t.a : Nat) : Int) + y)))) (by omega) (SqL.of hL) ?_ (fun i v H2 hi e2 Q' q => ?_) fun D acc2 H2 e2 nD hD hl2 g2 => ?_
  · intro x
    rfl
  · obtain ⟨pc, rfl, hpc⟩ := g i v hi
    have f1 : H2 pc = _ := e2 _ _ hpc
    have e12 := e1.trans e2
    refine ⟨_, rfl, _, rfl, _, rfl, p, r, pc, t, _, _, rfl, hp.mono e12, e12 _ _ hrw, f1, ht, fun H3 e3 => ?_⟩
    have f3 := e3 _ _ f1
    refine ⟨_, rfl, _, rfl, _, rfl, pc, _, _, _, rfl, rfl, SqT.of f3, atI_nat (j := 0) rfl, _, rfl, _, _, rfl, rfl, _, rfl, pc, _, _, _, rfl, rfl, SqT.of f3, atI_nat (j := 1) rfl, _, rfl, _, _, rfl, rfl, by show 2 ≤ sizeLine; decide, fun n nn => ?_⟩
    have e4 := Same.upd (o := .tup [.int (((i % t.a : Nat) : Int) + x), .int (((i / t.a : Nat) : Int) + y)]) nn
    have e14 := e12.trans (e3.trans e4)
    refine ⟨p, r, n, t, _, _, rfl, hp.mono e14, e14 _ _ hrw, upd_same, ht, fun H5 e5 => ⟨rfl, q _ H5 (e3.trans (e4.trans e5)) ?_⟩⟩
    exact congrArg V.bl dec_sgn
  · have ea := good_val g2 hl2
    refine ⟨D, (List.range (t.d * t.a)).map fun i => decide (sgn t ((i % t.a : Nat) : Int) ((i / t.a : Nat) : Int) = sgn t (((i % t.a : Nat) : Int) + x) (((i / t.a : Nat) : Int) + y)), rfl, SqL.of ?_, ?_⟩
    · rw [hD, ea, hl, List.map_map]
      rfl
    · have q := k H2 (e1.trans e2)
      unfold perM at q
      rw [List.all_map]
      exact q
def divs (n : Nat) : List Nat := ((List.range n).filter fun i : Nat => decide ((n : Int) % (1 + (i : Int)) = 0)).map (1 + ·)
def sp_divisors_of : Sp := fun vs H Q _ => ∃ n : Nat, vs = [.int n] ∧ n ≤ 1000 ∧ RetR H Q (fun D H' => H' D = some (.lst ((divs n).map fun i => .int (i : Nat))))
theorem ok_divisors_of (T : Txt K mg base) : DefOk P w K mg base "divisors_of" 1 ["number"] sp_divisors_of := by
  refine defok T.d_divisors_of T.g_divisors_of sc_divisors_of (fun _ _ _ _ _ _ us hl => match us, hl with | [_], _ => rfl) (fun vs H Q E h => ?_) fun cdv A outer s H vs Q E hr h => ?_
  · obtain ⟨n, rfl, _⟩ := h
    rfl
  obtain ⟨n, rfl, hn, k⟩ := h
  have hS := sc_divisors_of.nd
  refine ⟨_, pss_one (ps_ret (pe_lc (own := [("one", 1)]) (g := gName 1) rfl hS (pi_range2 rfl T.f_range (pa_cons pe_int (pa_cons (pe_op op_add (pv 0) pe_int) pa_nil))) (blkOk_by (own := [("one", 1)]) (N := ["number", "one"]) (sc := defScope s_divisors_of) (by decide +kernel))
      (fun _ _ _ _ _ => pg_name (i := 1) hS rfl (Or.inl rfl)) (fun _ _ _ _ _ => pts_one (pt_cmpR op_eq (pe_op op_mod (pe_callTy call_int1 (by rfl) T.f_int (by decide +kernel) (pa_cons (pv 0) pa_nil)) (pv 1)) pe_int (nomark _))) (fun _ _ _ _ _ => pv 1))), ?_⟩
  refine ⟨_, rfl, _, _, rfl, rfl, 1, (n : Int) + 1, rfl, ⟨by omega, by omega, by omega, by omega⟩, ?_⟩
  have en : ((n : Int) + 1 - 1).toNat = n := by omega
  rw [en]
  refine lcRf (n := n) (lo := 1) (j := 1) (fun i => decide ((n : Int) % (1 + (i : Int)) = 0)) (fun i => .int (1 + (i : Int))) (by omega) ?_ (fun i H' hi e Q' q => ?_) (fun i H' hi e Q' q => ?_) fun D H' e nD hD => ?_
  · intro x
    rfl
  · refine ⟨_, rfl, .inl ⟨_, rfl, _, rfl, _, _, rfl, rfl, (by show (0 : Int) < 1 + (i : Int); omega), rfl, _, rfl, ?_⟩⟩
    have := q H' (Same.refl _)
    have e1 : decide (V.int ((n : Int) % (1 + (i : Int))) = V.int 0) = decide ((n : Int) % (1 + (i : Int)) = 0) := dec_vi
    show Q' (decide (V.int ((n : Int) % (1 + (i : Int))) = V.int 0)) H'
    rw [e1]
    exact this
  · exact ⟨_, rfl, q _ H' (Same.refl _) rfl⟩
  · refine k D H' e ?_
    show H' D = some (.lst ((divs n).map fun i => .int (i : Nat)))
    rw [hD]
    unfold pick divs
    rw [List.map_map]
    refine congrArg (fun l => some (HO.lst l)) (List.map_congr_left fun i _ => ?_)
    show V.int (1 + (i : Int)) = V.int ((1 + i : Nat) : Int)
    rw [Int.natCast_add]
    rfl
end
end
section
/-! ### least lattices -/
theorem cut_at {α : Type} {l : List α} {i : Nat} {a : α} (hi : l[i]? = some a) : l = l.take i ++ a :: l.drop (i + 1) := by
  obtain ⟨h1, h2⟩ := List.getElem?_eq_some_iff.mp hi
  rw [← h2, List.getElem_cons_drop, List.take_append_drop]
theorem find_at {α : Type} {l : List α} {p : α → Bool} {i : Nat} {a : α} (h : (l.take i).find? p = none) (hi : l[i]? = some a) (hp : p a = true) : l.find? p = some a := by
  rw [cut_at hi, List.find?_append, h, List.find?_cons, hp]
  rfl
theorem find_next {α : Type} {l : List α} {p : α → Bool} {i : Nat} {a : α} (h : (l.take i).find? p = none) (hi : l[i]? = some a) (hp : p a = false) : (l.take (i + 1)).find? p = none := by
  rw [List.take_add_one, hi, List.find?_append, h]
  show List.find? p [a] = none
  rw [List.find?_cons, hp]
  rfl
theorem some_at {α β : Type} {l : List α} {p : α → Option β} {i : Nat} {a : α} {b : β} (h : (l.take i).findSome? p = none) (hi : l[i]? = some a) (hp : p a = some b) : l.findSome? p = some b := by
  rw [cut_at hi, List.findSome?_append, h, List.findSome?_cons, hp]
  rfl
theorem some_next {α β : Type} {l : List α} {p : α → Option β} {i : Nat} {a : α} (h : (l.take i).findSome? p = none) (hi : l[i]? = some a) (hp : p a = none) : (l.take (i + 1)).findSome? p = none := by
  rw [List.take_add_one, hi, List.findSome?_append, h]
  show List.findSome? p [a] = none
  rw [List.findSome?_cons, hp]
  rfl
def lvl (t : Tok) : Nat := ((divs t.a).find? fun a => perM t (a : Nat) 0).getD t.a
def lstB (t : Tok) (d : Nat) : Option (Nat × Nat × Nat) := ((List.range (lvl t)).find? fun b => perM t (b : Nat) (d : Nat)).map fun b => (lvl t, b, d)
def lstM (t : Tok) : Nat × Nat × Nat := ((divs t.d).findSome? (lstB t)).getD (t.a, t.b, t.d)
theorem divs_pos {n a : Nat} (h : a ∈ divs n) : 1 ≤ a ∧ a ≤ n := by
  unfold divs at h
  obtain ⟨i, hi, e⟩ := List.mem_map.mp h
  have := List.mem_range.mp (List.mem_filter.mp hi).1
  omega
theorem divs_len (n : Nat) : (divs n).length ≤ n := by
  unfold divs
  rw [List.length_map]
  have h := List.length_filter_le (fun i : Nat => decide ((n : Int) % (1 + (i : Int)) = 0)) (List.range n)
  rwa [List.length_range] at h
theorem lvl_pos {t : Tok} (h : t.Ok) : 1 ≤ lvl t ∧ lvl t ≤ t.a := by
  unfold lvl
  cases e : (divs t.a).find? fun a => perM t (a : Nat) 0 with
  | none => exact ⟨h.a1, Nat.le_refl _⟩
  | some a => exact divs_pos (List.mem_of_find?_eq_some e)
section
variable {P : Program} {w : World} {K : PySem.W.Frag} {mg : Str → Option Value} {base : Heap}
def sp_level (K : PySem.W.Frag) : Sp := fun vs H Q _ => ∃ (p r : Addr) (t : Tok), vs = [.ref p, .ref r] ∧ IsTokL K t p H ∧ IsRows t.rows r H ∧ t.Ok ∧ Ret H Q (.int (lvl t))
theorem ok_level (T : Txt K mg base) : DefOk P w K mg base "level_period" 7 ["lattice", "rows"] (sp_level K) := by
  refine defok T.d_level_period T.g_level_period sc_level_period (fun _ _ _ _ _ _ us hl => match us, hl with | [_, _], _ => rfl) (fun vs H Q E h => ?_) fun cdv A outer s H vs Q E hr h => ?_
  · obtain ⟨p, r, t, rfl, _⟩ := h
    rfl
  obtain ⟨p, r, t, rfl, hp, hrw, ht, k⟩ := h
  have hS := sc_level_period.nd
  obtain ⟨dx, hp0⟩ := hp.ex
  refine ⟨_, pss_cons (ps_for PassesOwn.never rfl (pi_list (pe_cd (ok_divisors_of T) hr (by decide) (by rfl) (pa_cons (pe_fld (pv 0) rfl) pa_nil))) (pg_name (i := 2) hS rfl (.inl rfl))
      (pss_one (ps_if (pt_val (pe_cd (ok_is_period_of T) hr (by decide) (by rfl) (pa_cons (pv 0) (pa_cons (pv 1) (pa_cons (pe_tup (pa_cons (pv 2) (pa_cons pe_int pa_nil))) pa_nil))))) (pss_one (ps_ret (pv 2))) pss_nil)))
    (pss_one (ps_ret (pe_fld (pv 0) rfl))), ?_⟩
  refine ⟨_, rfl, p, _, dx, _, _, rfl, hp0, T.clsL, T.nL_a, lf_a, t.a, rfl, by have := ht.a2; omega, fun L H1 e1 hL => ?_⟩
  refine ⟨L, rfl, ⟨_, SqL.of hL⟩, for_list (K := K) (a := L) (xs := (divs t.a).map fun i => .int (i : Nat)) (fun i σ H' => ∃ z, σ = [some (.ref p), some (.ref r), z] ∧ Same H1 H' ∧ ((divs t.a).take i).find? (fun a => perM t (a : Nat) 0) = none)
    ⟨none, rfl, Same.refl _, rfl⟩ (fun i σ H' _ ⟨_, _, e, _⟩ => SqL.of (e _ _ hL)) ?_ ?_⟩
  · rintro i v σ H2 hi ⟨z, rfl, e2, hn⟩
    have e12 := e1.trans e2
    rw [List.getElem?_map] at hi
    cases ea : (divs t.a)[i]? with
    | none =>
      rw [ea] at hi
      cases hi
    | some a =>
      rw [ea] at hi
      cases hi
      refine ⟨_, rfl, _, rfl, _, rfl, by show 2 ≤ sizeLine; decide, fun n nn => ?_⟩
      have e3 := Same.upd (o := .tup [.int (a : Nat), .int 0]) nn
      refine ⟨p, r, n, t, _, _, rfl, hp.mono (e12.trans e3), (e12.trans e3) _ _ hrw, upd_same, ht, fun H4 e4 => ⟨_, rfl, ?_⟩⟩
      cases hpm : perM t (a : Nat) 0 with
      | true =>
        refine iteT ⟨_, rfl, ?_⟩
        have q := k H4 (e12.trans (e3.trans e4))
        unfold lvl at q
        rw [find_at hn ea hpm] at q
        exact q
      | false => exact iteF ⟨_, rfl, e2.trans (e3.trans e4), find_next hn ea hpm⟩
  · rintro σ H2 ⟨z, rfl, e2, hn⟩
    rw [List.length_map, List.take_length] at hn
    refine ⟨_, rfl, p, _, dx, _, _, rfl, (e1.trans e2) _ _ hp0, T.clsL, T.nL_a, lf_a, ?_⟩
    have q := k H2 (e1.trans e2)
    unfold lvl at q
    rw [hn] at q
    exact q
def sp_least (K : PySem.W.Frag) : Sp := fun vs H Q _ => ∃ (p r : Addr) (t : Tok), vs = [.ref p, .ref r] ∧ IsTokL K t p H ∧ IsRows t.rows r H ∧ t.Ok ∧ RetR H Q (IsLat K (lstM t).1 (lstM t).2.1 (lstM t).2.2)
theorem ok_least (T : Txt K mg base) : DefOk P w K mg base "least_lattice" 8 ["lattice", "rows"] (sp_least K) := by
  refine defok T.d_least_lattice T.g_least_lattice sc_least_lattice (fun _ _ _ _ _ _ us hl => match us, hl with | [_, _], _ => rfl) (fun vs H Q E h => ?_) fun cdv A outer s H vs Q E hr h => ?_
  · obtain ⟨p, r, t, rfl, _⟩ := h
    rfl
  obtain ⟨p, r, t, rfl, hp, hrw, ht, k⟩ := h
  have hS := sc_least_lattice.nd
  obtain ⟨dx, hp0⟩ := hp.ex
  obtain ⟨lv1, lv2⟩ := lvl_pos ht
  have ha2 := ht.a2
  refine ⟨_, pss_cons (ps_set (i := 2) hS rfl (.inl rfl) (pe_cd (ok_level T) hr (by decide) (by rfl) (pa_cons (pv 0) (pa_cons (pv 1) pa_nil))))
    (pss_cons (ps_for PassesOwn.never rfl (pi_list (pe_cd (ok_divisors_of T) hr (by decide) (by rfl) (pa_cons (pe_fld (pv 0) rfl) pa_nil))) (pg_name (i := 3) hS rfl (.inl rfl))
      (pss_one (ps_for PassesOwn.never rfl (pi_range1 rfl T.f_range (pa_cons (pv 2) pa_nil)) (pg_name (i := 4) hS rfl (.inl rfl))
        (pss_one (ps_if (pt_val (pe_cd (ok_is_period_of T) hr (by decide) (by rfl) (pa_cons (pv 0) (pa_cons (pv 1) (pa_cons (pe_tup (pa_cons (pv 4) (pa_cons (pv 3) pa_nil))) pa_nil)))))
          (pss_one (ps_ret (pe_mk (ok_Linit T) hr (by decide) (by rfl) T.g_Lattice (pa_cons (pv 2) (pa_cons (pv 4) (pa_cons (pv 3) pa_nil)))))) pss_nil)))))
    (pss_one (ps_ret (pv 0)))), ?_⟩
  refine ⟨_, rfl, _, rfl, p, r, t, rfl, hp, hrw, ht, fun H0 e0 => ?_⟩
  refine ⟨_, rfl, p, _, dx, _, _, rfl, e0 _ _ hp0, T.clsL, T.nL_d, lf_d, t.d, rfl, by have := ht.d2; omega, fun L H1 e1 hL => ?_⟩
  refine ⟨L, rfl, ⟨_, SqL.of hL⟩, for_list (K := K) (a := L) (xs := (divs t.d).map fun i => .int (i : Nat)) (fun i σ H' => ∃ z y, σ = [some (.ref p), some (.ref r), some (.int (lvl t)), z, y] ∧ Same H1 H' ∧ ((divs t.d).take i).findSome? (lstB t) = none)
    ⟨none, none, rfl, Same.refl _, rfl⟩ (fun i σ H' _ ⟨_, _, _, e, _⟩ => SqL.of (e _ _ hL)) ?_ ?_⟩
  · rintro i v σ H2 hi ⟨z, y, rfl, e2, hn⟩
    rw [List.getElem?_map] at hi
    cases ed : (divs t.d)[i]? with
    | none =>
      rw [ed] at hi
      cases hi
    | some d =>
      rw [ed] at hi
      cases hi
      have hd := divs_pos (List.mem_of_getElem? ed)
      refine ⟨_, rfl, (lvl t : Nat), rfl, by omega, by omega, for_range (lo := 0) (n := lvl t) (fun j σ H' => ∃ y, σ = [some (.ref p), some (.ref r), some (.int (lvl t)), some (.int (d : Nat)), y] ∧ Same H2 H' ∧ ((List.range (lvl t)).take j).find? (fun b => perM t (b : Nat) (d : Nat)) = none)
        ⟨y, rfl, Same.refl _, rfl⟩ ?_ ?_⟩
      · rintro j σ H3 hj ⟨y, rfl, e3, hm⟩
        have eb : (List.range (lvl t))[j]? = some j := List.getElem?_range hj
        refine ⟨_, rfl, _, rfl, _, rfl, _, rfl, by show 2 ≤ sizeLine; decide, fun n nn => ?_⟩
        rw [Int.zero_add]
        have e4 := Same.upd (o := .tup [.int (j : Nat), .int (d : Nat)]) nn
        have e14 := e0.trans (e1.trans (e2.trans (e3.trans e4)))
        refine ⟨p, r, n, t, _, _, rfl, hp.mono e14, e14 _ _ hrw, upd_same, ht, fun H5 e5 => ⟨_, rfl, ?_⟩⟩
        cases hpm : perM t (j : Nat) (d : Nat) with
        | true =>
          refine iteT ⟨_, rfl, _, rfl, _, rfl, ?_⟩
          refine lat_make ⟨by omega, by omega, by omega, by omega⟩ fun q H6 e6 hq => ?_
          have eB : lstB t d = some (lvl t, j, d) := by
            unfold lstB
            rw [find_at hm eb hpm]
            rfl
          have z := k q H6 (e14.trans (e5.trans e6))
          unfold lstM at z
          rw [some_at hn ed eB] at z
          exact z hq
        | false => exact iteF ⟨_, rfl, e3.trans (e4.trans e5), find_next hm eb hpm⟩
      · rintro σ H3 ⟨y, rfl, e3, hm⟩
        rw [List.take_of_length_le (by rw [List.length_range]; omega)] at hm
        refine ⟨_, _, rfl, e2.trans e3, some_next hn ed ?_⟩
        unfold lstB
        rw [hm]
        rfl
  · rintro σ H2 ⟨z, y, rfl, e2, hn⟩
    rw [List.length_map, List.take_length] at hn
    refine ⟨_, rfl, ?_⟩
    have e := e0.trans (e1.trans e2)
    have q := k p H2 e
    unfold lstM at q
    rw [hn] at q
    exact q (hp.mono e)
def nrm (t : Tok) (a d : Nat) : List (List Nat) := (List.range d).map fun y : Nat => (List.range a).map fun x : Nat => sgn t (x : Int) (y : Int)
def sp_normal (K : PySem.W.Frag) : Sp := fun vs H Q _ => ∃ (p r l : Addr) (t : Tok) (a d : Nat) (b : Int), vs = [.ref p, .ref r, .ref l] ∧ IsTokL K t p H ∧ IsRows t.rows r H ∧ t.Ok ∧ IsLat K a b d l H ∧ a ≤ 200 ∧ d ≤ 200 ∧ RetR H Q (IsRows (nrm t a d))
theorem ok_normal (T : Txt K mg base) : DefOk P w K mg base "normal_rows" 6 ["lattice", "rows", "least"] (sp_normal K) := by
  refine defok T.d_normal_rows T.g_normal_rows sc_normal_rows (fun _ _ _ _ _ _ us hl => match us, hl with | [_, _, _], _ => rfl) (fun vs H Q E h => ?_) fun cdv A outer s H vs Q E hr h => ?_
  · obtain ⟨p, r, l, t, a, d, b, rfl, _⟩ := h
    rfl
  obtain ⟨p, r, l, t, a, d, b, rfl, hp, hrw, ht, hl, ha, hd, k⟩ := h
  have hS := sc_normal_rows.nd
  obtain ⟨dx, hl0⟩ := hl.ex
  refine ⟨_, pss_cons (ps_set (i := 3) hS rfl (.inl rfl) (pe_lst pa_nil))
    (pss_cons (ps_for PassesOwn.never rfl (pi_range1 rfl T.f_range (pa_cons (pe_fld (pv 2) rfl) pa_nil)) (pg_name (i := 4) hS rfl (.inr rfl))
      (pss_one (ps_expr (pe_bm PySem.F.plainAttrs_list PySem.F.slot_list_append PySem.F.type_list_append mt_append (pv 3) (pa_cons (pjn K pe_str
        (pe_lc (own := [("x", 5)]) (g := gName 5) (tt := tYes) rfl hS (pi_range1 rfl T.f_range (pa_cons (pe_fld (pv 2) rfl) pa_nil)) (blkOk_by (own := [("x", 5)]) (N := ["lattice", "rows", "least", "found", "y", "x"]) (sc := defScope s_normal_rows) (by decide +kernel))
          (fun _ _ _ _ _ => pg_name (i := 5) hS rfl (Or.inl rfl)) (fun _ _ _ _ _ => pts_nil) (fun _ _ _ _ _ => pe_cd (ok_sign_at T) hr (by decide) (by rfl) (pa_cons (pv 0) (pa_cons (pv 1) (pa_cons (pe_tup (pa_cons (pv 5) (pa_cons (pv 4) pa_nil))) pa_nil)))))) pa_nil)))))
    (pss_one (ps_ret (pe_callTy call_tuple_of (by rfl) T.f_tuple (by decide +kernel) (pa_cons (pv 3) pa_nil))))), ?_⟩
  refine ⟨Nat.zero_le _, fun L nL => ?_⟩
  have e0 := Same.upd (o := .lst []) nL
  refine ⟨_, rfl, l, _, dx, _, _, rfl, e0 _ _ hl0, T.clsL, T.nL_d, lf_d, (d : Int), rfl, by omega, by omega, for_range (lo := 0) (n := d) (fun i σ H' => ∃ y, σ = [some (.ref p), some (.ref r), some (.ref l), some (.ref L), y, none] ∧ Same H H' ∧ H' L = some (.lst (((nrm t a d).take i).map fun z => .str (dS z))))
    ⟨none, rfl, e0, upd_same⟩ ?_ ?_⟩
  · rintro i σ H1 hi ⟨y, rfl, e1, hL⟩
    rw [Int.zero_add]
    refine ⟨_, rfl, .inl ⟨rfl, _, SqL.of hL⟩, ⟨_, rfl⟩, ?_⟩
    refine ⟨_, rfl, l, _, dx, _, _, rfl, e1 _ _ hl0, T.clsL, T.nL_a, lf_a, (a : Int), rfl, by omega, by omega, ?_⟩
    refine lcR (n := a) (lo := 0) (j := 5) (Stab.val fun x => .str (dS [sgn t (x : Int) (i : Int)])) (by omega) ?_ (fun x H2 hx e2 Q' q => ?_) fun D acc H2 e2 nD hD hl2 g => ?_
    · intro x
      rfl
    · refine ⟨_, rfl, _, rfl, _, rfl, _, rfl, by show 2 ≤ sizeLine; decide, fun n nn => ?_⟩
      rw [Int.zero_add]
      have e3 := Same.upd (o := .tup [.int (x : Nat), .int (i : Nat)]) nn
      have e13 := e1.trans (e2.trans e3)
      exact ⟨p, r, n, t, _, _, rfl, hp.mono e13, e13 _ _ hrw, upd_same, ht, fun H4 e4 => q _ H4 (e3.trans e4) rfl⟩
    · have ea := good_val g hl2
      have ej := join_dS ((List.range a).map fun x : Nat => sgn t (x : Int) (i : Int))
      have es := join_size ((List.range a).map fun x : Nat => sgn t (x : Int) (i : Int)) (by rw [List.length_map, List.length_range]; omega)
      have em : (((List.range a).map fun x : Nat => sgn t (x : Int) (i : Int)).map fun c => dS [c]).map V.str = acc := by
        rw [ea, List.map_map, List.map_map]
        rfl
      refine ⟨_, D, ((List.range a).map fun x : Nat => sgn t (x : Int) (i : Int)).map fun c => dS [c], rfl, rfl, .inl (SqL.of ?_), es, ?_⟩
      · rw [em]
        exact hD
      rw [ej]
      refine ⟨L, _, _, rfl, rfl, e2 _ _ hL, ?_, _, rfl, ?_⟩
      · rw [List.length_map]
        have := List.length_take_le i (nrm t a d)
        have e5 : (nrm t a d).length = d := by unfold nrm; rw [List.length_map, List.length_range]
        exact Nat.lt_of_le_of_lt (List.length_take_le' i (nrm t a d)) (by rw [e5]; exact small1000 (by omega))
      · have eh : e1.trans e2 = e1.trans e2 := rfl
        have hLH : H L = none := nL
        refine ⟨Same.mut (e1.trans e2) hLH, ?_⟩
        rw [upd_same]
        have ei : (nrm t a d)[i]? = some ((List.range a).map fun x : Nat => sgn t (x : Int) (i : Int)) := by
          unfold nrm
          rw [List.getElem?_map, List.getElem?_range hi]
          rfl
        rw [List.take_add_one, ei, List.map_append]
        rfl
  · rintro σ H1 ⟨y, rfl, e1, hL⟩
    have e5 : (nrm t a d).length = d := by unfold nrm; rw [List.length_map, List.length_range]
    rw [List.take_of_length_le (by omega)] at hL
    refine ⟨_, rfl, L, _, rfl, .inl ⟨SqL.of hL, fun n nn => ?_⟩⟩
    exact k n _ (e1.trans (Same.upd nn)) upd_same
end
end
section
theorem walk_enT {K : PySem.W.Frag} {a : Addr} {xs : List V} : Walk (EnT K a) xs.length (fun H => SqT K H a xs) (YPair (fun i => some (.int (i : Nat))) (fun i => xs[i]?)) := by
  refine ⟨fun i _ hi q => ⟨xs, xs[i], q, by simp [hi]⟩, fun _ q => ⟨xs, q, Nat.le_refl _⟩, fun i H v H' _ q y => ?_⟩
  obtain ⟨T, x, h1, h2, h3, h4⟩ := y
  exact ⟨T, .int (i : Nat), x, h1, h2, h3, rfl, h4 xs q⟩
theorem fig_in {c : Nat} (h : c ≤ 9) : decide ((48 + c) ∈ (Str.ofString "0123456789").cps.toList) = true := by
  have all : ∀ i : Fin 10, decide ((48 + i.val) ∈ (Str.ofString "0123456789").cps.toList) = true := by decide +kernel
  exact all ⟨c, by omega⟩
theorem dS_get {r : List Nat} {i c : Nat} (h : (dS r).cps[i]? = some c) : ∃ e, r[i]? = some e ∧ c = 48 + e := by
  have h1 : (r.map (48 + ·)).toArray[i]? = some c := h
  simp only [List.getElem?_toArray, List.getElem?_map] at h1
  cases e : r[i]? with
  | none =>
    rw [e] at h1
    cases h1
  | some z =>
    rw [e] at h1
    exact ⟨z, rfl, (Option.some.inj h1).symm⟩
structure RwOk (a : Nat) (z : List Nat) : Prop where
  len : z.length = a
  dig : ∀ c ∈ z, c ≤ 9
section
variable {P : Program} {w : World} {K : PySem.W.Frag} {mg : Str → Option Value} {base : Heap}
def sp_is_row : Sp := fun vs H Q _ => ∃ (z : List Nat) (a : Nat), vs = [.str (dS z), .int a] ∧ RwOk a z ∧ a ≤ 144 ∧ Ret H Q (.bl true)
theorem ok_is_row (T : Txt K mg base) : DefOk P w K mg base "is_row" 1 ["value", "many"] sp_is_row := by
  refine defok T.d_is_row T.g_is_row sc_is_row (fun _ _ _ _ _ _ us hl => match us, hl with | [_, _], _ => rfl) (fun vs H Q E h => ?_) fun cdv A outer s H vs Q E hr h => ?_
  · obtain ⟨z, a, rfl, _⟩ := h
    rfl
  obtain ⟨z, a, rfl, hz, ha, k⟩ := h
  have hS := sc_is_row.nd
  obtain ⟨tk, hF⟩ := T.fig
  have hlen : (dS z).length = a := by rw [dS_len, hz.len]
  refine ⟨_, pss_one (ps_ret (pe_and (pe_callB call_isi (by rfl) T.f_isinstance (by decide +kernel) (pa_cons (pv 0) (pa_cons (pe_bltn (v := .ty "str") (by rfl) T.f_str (by decide +kernel) rfl) pa_nil)))
    (pe_and (pe_cmpR op_eq (pe_callB call_len (by rfl) T.f_len (by decide +kernel) (pa_cons (pv 0) pa_nil)) (pv 1) (nomark _))
    (pe_one (pe_callB (cr_all rfl) (by rfl) T.f_all (by decide +kernel) (pa_cons (pe_lc (own := [("sign", 2)]) (g := gName 2) (tt := tYes) rfl hS (pi_str (pv 0)) (blkOk_by (own := [("sign", 2)]) (N := ["value", "many", "sign"]) (sc := defScope s_is_row) (by decide +kernel))
        (fun _ _ _ _ _ => pg_name (i := 2) hS rfl (Or.inl rfl)) (fun _ _ _ _ _ => pts_nil) (fun _ _ _ _ _ => pe_cmpR op_in_sign (pv 2) (pe_glob (v := .str "0123456789") (by rfl) hF ⟨_, rfl⟩) (by rfl))) pa_nil)))))), ?_⟩
  refine ⟨_, rfl, _, _, _, _, true, rfl, .ty "str", .base (.str _), kit_ty (by decide +kernel), true, rfl, iteT ?_⟩
  refine ⟨_, rfl, _, a, rfl, ⟨small_str (by omega), hlen.symm⟩, _, rfl, rfl, _, rfl, ?_⟩
  refine iteD rfl ?_
  refine ⟨_, rfl, dS z, rfl, ?_⟩
  have en : (dS z).cps.size = a := hlen
  refine lcW (j := 2) (walk_str (z := dS z)) (Stab.val fun _ => .bl true) (by omega) (fun _ _ => trivial) ?_ (fun i x H' H2 hi e y => ?_) fun D acc H' e nD hD hl g => ?_
  · intro x
    rfl
  · obtain ⟨rfl, c, hc, rfl⟩ := y
    obtain ⟨c', hc', rfl⟩ := dS_get hc
    refine ⟨rfl, fun Q' q => ⟨_, rfl, 48 + c', Str.ofString "0123456789", rfl, rfl, ?_⟩⟩
    exact q _ H2 (Same.refl _) (congrArg V.bl (fig_in (hz.dig c' (List.mem_of_getElem? hc'))))
  · have ea := good_val g hl
    refine ⟨D, (List.range (dS z).cps.size).map fun _ => true, rfl, SqL.of ?_, ?_⟩
    · rw [hD, ea, List.map_map]
      rfl
    · have et : ((List.range (dS z).cps.size).map fun _ => true).all id = true := by
        rw [List.all_eq_true]
        intro b hb
        obtain ⟨_, _, rfl⟩ := List.mem_map.mp hb
        rfl
      rw [et]
      exact k H' e
structure RwsOk (a d : Nat) (rows : List (List Nat)) : Prop where
  len : rows.length = d
  row : ∀ z ∈ rows, RwOk a z
def sp_check_rows : Sp := fun vs H Q _ => ∃ (r : Addr) (rows : List (List Nat)) (a d : Nat), vs = [.ref r, .int a, .int d] ∧ (H r = some (.lst (rowsV rows)) ∨ H r = some (.tup (rowsV rows))) ∧ RwsOk a d rows ∧ a ≤ 144 ∧ d ≤ 144 ∧ Ret H Q .non
theorem ok_check_rows (T : Txt K mg base) : DefOk P w K mg base "check_rows" 2 ["rows", "a", "d"] sp_check_rows := by
  refine defok T.d_check_rows T.g_check_rows sc_check_rows (fun _ _ _ _ _ _ us hl => match us, hl with | [_, _, _], _ => rfl) (fun vs H Q E h => ?_) fun cdv A outer s H vs Q E hr h => ?_
  · obtain ⟨r, rows, a, d, rfl, _⟩ := h
    rfl
  obtain ⟨r, rows, a, d, rfl, hrw, hok, ha, hd, k⟩ := h
  have hS := sc_check_rows.nd
  have hlV : (rowsV rows).length = d := by unfold rowsV; rw [List.length_map]; exact hok.len
  have turn : ∀ (i : Nat) (x y : V) (H2 : Hp), (fun i : Nat => some (V.int (i : Nat))) i = some x → (rowsV rows)[i]? = some y → ∃ z, x = .int (i : Nat) ∧ y = .str (dS z) ∧ RwOk a z := fun i x y H2 hx hy => by
    unfold rowsV at hy
    rw [List.getElem?_map] at hy
    cases e : rows[i]? with
    | none =>
      rw [e] at hy
      cases hy
    | some z =>
      rw [e] at hy
      exact ⟨z, (Option.some.inj hx).symm, (Option.some.inj hy).symm, hok.row z (List.mem_of_getElem? e)⟩
  rcases hrw with hl | ht
  · refine ⟨_, pss_cons (ps_if (PW.pt (pw_or (pt_not (pt_val (pe_cd (ok_is_list T) hr (by decide) (by rfl) (pa_cons (pv 0) pa_nil)))) (pw_or1 (pt_cmpR op_ne (pe_callB call_len (by rfl) T.f_len (by decide +kernel) (pa_cons (pv 0) pa_nil)) (pv 2) (nomark _))))) pss_never pss_nil)
      (pss_one (ps_for PassesOwn.never rfl (pi_enum rfl T.f_enumerate (pa_cons (pv 0) pa_nil)) (pg_tup rfl (pgs_cons (pg_name (i := 3) hS rfl (.inl rfl)) (pgs_cons (pg_name (i := 4) hS rfl (.inl rfl)) pgs_nil)))
        (pss_one (ps_if (pt_not (pt_val (pe_cd (ok_is_row T) hr (by decide) (by rfl) (pa_cons (pv 4) (pa_cons (pv 1) pa_nil))))) pss_never pss_nil)))), ?_⟩
    refine ⟨_, rfl, r, _, rfl, .inl hl, fun H1 e1 => ⟨true, rfl, iteF ⟨_, rfl, _, d, rfl, .inl ⟨_, SqL.of (e1 _ _ hl), hlV.symm⟩, _, rfl, rfl, _, rfl, iteNS rfl ?_⟩⟩⟩
    refine ⟨_, rfl, r, _, rfl, SqL.of (e1 _ _ hl), for_it walk_enum (fun i σ H' => ∃ y3 y4, σ = [some (.ref r), some (.int a), some (.int d), y3, y4] ∧ Same H1 H') ⟨none, none, rfl, Same.refl _⟩ (fun i σ H' _ ⟨_, _, _, e⟩ => SqL.of (e _ _ (e1 _ _ hl))) ?_ ?_⟩
    · rintro i v σ H2 H3 hi ⟨y3, y4, rfl, e2⟩ ⟨t, x, y, rfl, nt, rfl, hx, hy⟩
      obtain ⟨z, rfl, rfl, hz⟩ := turn i x y H2 hx hy
      have e3 := Same.upd (o := .tup [.int (i : Nat), .str (dS z)]) nt
      refine ⟨t, _, rfl, SqT.of upd_same, rfl, _, _, rfl, _, _, rfl, rfl, _, rfl, _, rfl, z, a, rfl, hz, ha, fun H4 e4 => ⟨true, rfl, iteF ?_⟩⟩
      exact ⟨_, _, rfl, e2.trans (e3.trans e4)⟩
    · rintro σ H2 ⟨y3, y4, rfl, e2⟩
      exact k H2 (e1.trans e2)
  · refine ⟨_, pss_cons (ps_if (PW.pt (pw_or (pt_not (pt_val (pe_cd (ok_is_list T) hr (by decide) (by rfl) (pa_cons (pv 0) pa_nil)))) (pw_or1 (pt_cmpR op_ne (pe_callB call_len (by rfl) T.f_len (by decide +kernel) (pa_cons (pv 0) pa_nil)) (pv 2) (nomark _))))) pss_never pss_nil)
      (pss_one (ps_for PassesOwn.never rfl (pi_enT rfl T.f_enumerate (pa_cons (pv 0) pa_nil)) (pg_tup rfl (pgs_cons (pg_name (i := 3) hS rfl (.inl rfl)) (pgs_cons (pg_name (i := 4) hS rfl (.inl rfl)) pgs_nil)))
        (pss_one (ps_if (pt_not (pt_val (pe_cd (ok_is_row T) hr (by decide) (by rfl) (pa_cons (pv 4) (pa_cons (pv 1) pa_nil))))) pss_never pss_nil)))), ?_⟩
    refine ⟨_, rfl, r, _, rfl, .inr ht, fun H1 e1 => ⟨true, rfl, iteF ⟨_, rfl, _, d, rfl, .inr ⟨_, SqT.of (e1 _ _ ht), hlV.symm⟩, _, rfl, rfl, _, rfl, iteNS rfl ?_⟩⟩⟩
    refine ⟨_, rfl, r, _, rfl, SqT.of (e1 _ _ ht), for_it walk_enT (fun i σ H' => ∃ y3 y4, σ = [some (.ref r), some (.int a), some (.int d), y3, y4] ∧ Same H1 H') ⟨none, none, rfl, Same.refl _⟩ (fun i σ H' _ ⟨_, _, _, e⟩ => SqT.of (e _ _ (e1 _ _ ht))) ?_ ?_⟩
    · rintro i v σ H2 H3 hi ⟨y3, y4, rfl, e2⟩ ⟨t, x, y, rfl, nt, rfl, hx, hy⟩
      obtain ⟨z, rfl, rfl, hz⟩ := turn i x y H2 hx hy
      have e3 := Same.upd (o := .tup [.int (i : Nat), .str (dS z)]) nt
      refine ⟨t, _, rfl, SqT.of upd_same, rfl, _, _, rfl, _, _, rfl, rfl, _, rfl, _, rfl, z, a, rfl, hz, ha, fun H4 e4 => ⟨true, rfl, iteF ?_⟩⟩
      exact ⟨_, _, rfl, e2.trans (e3.trans e4)⟩
    · rintro σ H2 ⟨y3, y4, rfl, e2⟩
      exact k H2 (e1.trans e2)
def sp_check_size : Sp := fun vs H Q _ => ∃ n : Int, vs = [.int n] ∧ n ≤ 144 ∧ Ret H Q .non
theorem ok_check_size (T : Txt K mg base) : DefOk P w K mg base "check_size" 1 ["many"] sp_check_size := by
  refine defok T.d_check_size T.g_check_size sc_check_size (fun _ _ _ _ _ _ us hl => match us, hl with | [_], _ => rfl) (fun vs H Q E h => ?_) fun cdv A outer s H vs Q E hr h => ?_
  · obtain ⟨n, rfl, _⟩ := h
    rfl
  obtain ⟨n, rfl, hn, k⟩ := h
  obtain ⟨tk, hm⟩ := T.cst 1 _ (by rfl)
  refine ⟨_, pss_one (ps_if (pt_cmpR op_gt (pv 0) (pe_glob (v := .int 144) (by rfl) hm ⟨_, rfl⟩) (nomark _)) pss_never pss_nil), ?_⟩
  refine ⟨_, rfl, _, _, rfl, rfl, _, rfl, iteDF (by omega) ?_⟩
  exact k H (Same.refl H)
end
end
section
/-! ### carpets -/
def cf (a b d : Int) (r bs sh : Addr) : List (Str × V) := [("a", .int a), ("b", .int b), ("d", .int d), ("rows", .ref r), ("basis", .ref bs), ("shape", .ref sh)]
theorem cf_a {a b d : Int} {r bs sh : Addr} : (cf a b d r bs sh).lookup ("a" : Str) = some (.int a) := rfl
theorem cf_b {a b d : Int} {r bs sh : Addr} : (cf a b d r bs sh).lookup ("b" : Str) = some (.int b) := rfl
theorem cf_d {a b d : Int} {r bs sh : Addr} : (cf a b d r bs sh).lookup ("d" : Str) = some (.int d) := rfl
theorem cf_rows {a b d : Int} {r bs sh : Addr} : (cf a b d r bs sh).lookup ("rows" : Str) = some (.ref r) := rfl
theorem cf_basis {a b d : Int} {r bs sh : Addr} : (cf a b d r bs sh).lookup ("basis" : Str) = some (.ref bs) := rfl
theorem cf_lat {a b d : Int} {r bs sh : Addr} : (cf a b d r bs sh).lookup ("lattice" : Str) = none := rfl
theorem cf_sign {a b d : Int} {r bs sh : Addr} : (cf a b d r bs sh).lookup ("sign" : Str) = none := rfl
theorem cf_colour {a b d : Int} {r bs sh : Addr} : (cf a b d r bs sh).lookup ("colour" : Str) = none := rfl
theorem cf_least {a b d : Int} {r bs sh : Addr} : (cf a b d r bs sh).lookup ("least" : Str) = none := rfl
theorem cf_inn {a b d : Int} {r bs sh : Addr} : (cf a b d r bs sh).lookup ("in_normal" : Str) = none := rfl
theorem cf_shape {a b d : Int} {r bs sh : Addr} : (cf a b d r bs sh).lookup ("shape" : Str) = some (.ref sh) := rfl
/-- the shape of a carpet: its least lattice and the rows by it -/
abbrev shpA (t : Tok) : Nat := (lstM t).1
abbrev shpB (t : Tok) : Nat := (lstM t).2.1
abbrev shpD (t : Tok) : Nat := (lstM t).2.2
abbrev shpR (t : Tok) : List (List Nat) := nrm t (shpA t) (shpD t)
structure CarAt (K : PySem.W.Frag) (t : Tok) (p dx r bs sh sr : Addr) (H : Hp) : Prop where
  ob : H p = some (.ins (CC K) dx (cf t.a t.b t.d r bs sh))
  rw : IsRows t.rows r H
  bs : IsLat K (shpA t) (shpB t) (shpD t) bs H
  sh : H sh = some (.tup [.int (shpA t), .int (shpB t), .int (shpD t), .ref sr])
  sr : IsRows (shpR t) sr H
structure IsCar (K : PySem.W.Frag) (t : Tok) (p : Addr) (H : Hp) : Prop where
  ex : ∃ dx r bs sh sr, CarAt K t p dx r bs sh sr H
theorem IsCar.mono {K : PySem.W.Frag} {t : Tok} {p : Addr} {H H' : Hp} (h : IsCar K t p H) (e : Same H H') : IsCar K t p H' := by
  obtain ⟨dx, r, bs, sh, sr, c⟩ := h.ex
  exact ⟨dx, r, bs, sh, sr, e _ _ c.ob, e _ _ c.rw, c.bs.mono e, e _ _ c.sh, e _ _ c.sr⟩
/-- all but what stands at x stays -/
def Sb (x : Addr) (H H' : Hp) : Prop := ∀ c o, H c = some o → c ≠ x → H' c = some o
theorem Sb.of {x : Addr} {H H' : Hp} (e : Same H H') : Sb x H H' := fun c o h _ => e c o h
theorem Sb.trans {x : Addr} {H H1 H2 : Hp} (a : Sb x H H1) (b : Sb x H1 H2) : Sb x H H2 := fun c o h n => b c o (a c o h n) n
theorem Sb.put {x : Addr} {H : Hp} {o : HO} : Sb x H (upd H x o) := fun c u h n => by
  rw [upd_ne n]
  exact h
theorem Sb.lat {K : PySem.W.Frag} {a b d : Int} {x p : Addr} {H H' : Hp} (e : Sb x H H') (h : IsLat K a b d p H) (n : p ≠ x) : IsLat K a b d p H' := by
  obtain ⟨dx, z⟩ := h.ex
  exact ⟨dx, e _ _ z n⟩
theorem lstM_ok {t : Tok} (h : t.Ok) : 1 ≤ shpA t ∧ shpB t < shpA t ∧ 1 ≤ shpD t ∧ shpA t ≤ t.a ∧ shpD t ≤ t.d := by
  have h1 := lvl_pos h
  unfold shpA shpB shpD lstM
  cases e : (divs t.d).findSome? (lstB t) with
  | none => exact ⟨h.a1, h.b1, h.d1, Nat.le_refl _, Nat.le_refl _⟩
  | some r =>
    obtain ⟨d, hd, hb⟩ := List.exists_of_findSome?_eq_some e
    unfold lstB at hb
    cases eb : (List.range (lvl t)).find? fun b => perM t (b : Nat) (d : Nat) with
    | none =>
      rw [eb] at hb
      cases hb
    | some b =>
      rw [eb] at hb
      have er : (lvl t, b, d) = r := Option.some.inj hb
      subst er
      have hd' := divs_pos hd
      have hb' := List.mem_range.mp (List.mem_of_find?_eq_some eb)
      exact ⟨h1.1, hb', hd'.1, h1.2, hd'.2⟩
section
variable {P : Program} {w : World} {K : PySem.W.Frag} {mg : Str → Option Value} {base : Heap}
def sp_Cinit (K : PySem.W.Frag) : Sp := fun vs H Q _ => ∃ (x dx r : Addr) (t : Tok), vs = [.ref x, .int t.a, .int t.b, .int t.d, .ref r] ∧ H x = some (.ins (CC K) dx []) ∧ t.Ok ∧ (H r = some (.lst (rowsV t.rows)) ∨ H r = some (.tup (rowsV t.rows))) ∧
  ∀ H', Sb x H H' → IsCar K t x H' → Q .non H'
theorem ok_Cinit (T : Txt K mg base) : MakOk P w K mg base (CC K) 9 ["self", "a", "b", "d", "rows"] (sp_Cinit K) := by
  refine makok T.d_C_init T.mkC sc_C_init (fun _ _ _ _ _ _ us hl => match us, hl with | [_, _, _, _, _], _ => rfl) (fun vs H Q E h => ?_) fun cdv A outer s H vs Q E hr h => ?_
  · obtain ⟨x, dx, r, t, rfl, _⟩ := h
    rfl
  obtain ⟨x, dx, r, t, rfl, hx, ht, hrw, k⟩ := h
  have hS := sc_C_init.nd
  have ha2 := ht.a2
  have hd2 := ht.d2
  have ha1 := ht.a1
  have hb1 := ht.b1
  have hd1 := ht.d1
  have har : ((t.a : Int) * (t.d : Int)) ≤ 144 := by
    have := ht.ar
    have e : ((t.a * t.d : Nat) : Int) = (t.a : Int) * (t.d : Int) := Int.natCast_mul _ _
    omega
  obtain ⟨s1, s2, s3, s4, s5⟩ := lstM_ok ht
  refine ⟨_, pss_cons (ps_expr (pe_cd (ok_check_basis T) hr (by decide) (by rfl) (pa_cons (pv 1) (pa_cons (pv 2) (pa_cons (pv 3) pa_nil)))))
    (pss_cons (ps_expr (pe_cd (ok_check_size T) hr (by decide) (by rfl) (pa_cons (pe_op op_mul (pv 1) (pv 3)) pa_nil)))
    (pss_cons (ps_expr (pe_cd (ok_check_rows T) hr (by decide) (by rfl) (pa_cons (pv 4) (pa_cons (pv 1) (pa_cons (pv 3) pa_nil)))))
    (pss_cons (ps_fld (pv 0) (pv 1) rfl) (pss_cons (ps_fld (pv 0) (pv 2) rfl) (pss_cons (ps_fld (pv 0) (pv 3) rfl)
    (pss_cons (ps_fld (pv 0) (pe_callTy call_tuple_of (by rfl) T.f_tuple (by decide +kernel) (pa_cons (pv 4) pa_nil)) rfl)
    (pss_cons (ps_set (i := 5) hS rfl (.inl rfl) (pe_mk (ok_Linit T) hr (by decide) (by rfl) T.g_Lattice (pa_cons (pv 1) (pa_cons (pv 2) (pa_cons (pv 3) pa_nil)))))
    (pss_cons (ps_fld (pv 0) (pe_cd (ok_least T) hr (by decide) (by rfl) (pa_cons (pv 5) (pa_cons (pe_fld (pv 0) rfl) pa_nil))) rfl)
    (pss_one (ps_fld (pv 0) (pe_tup (pa_cons (pe_fld (pe_fld (pv 0) rfl) rfl) (pa_cons (pe_fld (pe_fld (pv 0) rfl) rfl) (pa_cons (pe_fld (pe_fld (pv 0) rfl) rfl)
      (pa_cons (pe_cd (ok_normal T) hr (by decide) (by rfl) (pa_cons (pv 5) (pa_cons (pe_fld (pv 0) rfl) (pa_cons (pe_fld (pv 0) rfl) pa_nil)))) pa_nil))))) rfl)))))))))), ?_⟩
  refine ⟨_, rfl, _, rfl, _, rfl, _, _, _, rfl, by omega, by omega, by omega, by omega, fun H1 e1 => ?_⟩
  refine ⟨_, rfl, _, rfl, _, _, rfl, rfl, .inl ⟨by omega, by omega⟩, _, rfl, har, fun H2 e2 => ?_⟩
  have e12 := e1.trans e2
  have hrw2 : H2 r = some (.lst (rowsV t.rows)) ∨ H2 r = some (.tup (rowsV t.rows)) := hrw.elim (fun z => .inl (e12 _ _ z)) fun z => .inr (e12 _ _ z)
  refine ⟨_, rfl, _, rfl, _, rfl, r, t.rows, t.a, t.d, rfl, hrw2, ⟨ht.len, fun z hz => ⟨ht.row z hz, ht.dig z hz⟩⟩, ha2, hd2, fun H3 e3 => ?_⟩
  have e13 := e12.trans e3
  refine ⟨_, rfl, _, rfl, x, _, dx, _, rfl, e13 _ _ hx, T.clsC, T.nC_a, (by show 0 < 1000; decide), ?_⟩
  refine ⟨_, rfl, _, rfl, x, _, dx, _, rfl, upd_same, T.clsC, T.nC_b, (by show 1 < 1000; decide), ?_⟩
  refine ⟨_, rfl, _, rfl, x, _, dx, _, rfl, upd_same, T.clsC, T.nC_d, (by show 2 < 1000; decide), ?_⟩
  have b3 : Sb x H (upd (upd (upd H3 x (.ins (CC K) dx (putF "a" (.int t.a) []))) x (.ins (CC K) dx (putF "b" (.int t.b) (putF "a" (.int t.a) [])))) x (.ins (CC K) dx (putF "d" (.int t.d) (putF "b" (.int t.b) (putF "a" (.int t.a) []))))) := (((Sb.of (x := x) e13).trans Sb.put).trans Sb.put).trans (Sb.put (o := .ins (CC K) dx (putF "d" (.int t.d) (putF "b" (.int t.b) (putF "a" (.int t.a) [])))))
  generalize hH4 : upd (upd (upd H3 x (.ins (CC K) dx (putF "a" (.int t.a) []))) x (.ins (CC K) dx (putF "b" (.int t.b) (putF "a" (.int t.a) [])))) x (.ins (CC K) dx (putF "d" (.int t.d) (putF "b" (.int t.b) (putF "a" (.int t.a) [])))) = H4 at b3 ⊢
  have hx4 : H4 x = some (.ins (CC K) dx [("a", .int t.a), ("b", .int t.b), ("d", .int t.d)]) := by rw [← hH4]; exact upd_same
  have hrx : r ≠ x := hrw.elim (fun z => ne_of z hx (fun q => nomatch q)) fun z => ne_of z hx (fun q => nomatch q)
  have hrw4 : H4 r = some (.lst (rowsV t.rows)) ∨ H4 r = some (.tup (rowsV t.rows)) := hrw.elim (fun z => .inl (b3 _ _ z hrx)) fun z => .inr (b3 _ _ z hrx)
  -- self.rows = tuple(rows), and what follows
  have go : ∀ (r' : Addr) (H5 : Hp), Same H4 H5 → IsRows t.rows r' H5 → sFld K (tVar 0) (fun _ _ Q => Q (.ref r') H5) "rows" { nx := fun σ H6 => (tSeq (tAsg (tMake (CL K) (sp_Linit K) [] E0 (tCons (tVar 1) (tCons (tVar 2) (tCons (tVar 3) tNil)))) (gName 5)) (tSeq (sFld K (tVar 0) (tCall (sp_least K) [] E0 (tCons (tVar 5) (tCons (tFld K (tVar 0) "rows") tNil))) "basis") (sFld K (tVar 0) (tTup (tCons (tFld K (tFld K (tVar 0) "basis") "a") (tCons (tFld K (tFld K (tVar 0) "basis") "b") (tCons (tFld K (tFld K (tVar 0) "basis") "d") (tCons (tCall (sp_normal K) [] E0 (tCons (tVar 5) (tCons (tFld K (tVar 0) "rows") (tCons (tFld K (tVar 0) "basis") tNil)))) tNil))))) "shape"))) { nx := fun _ H' => Q .non H', rt := Q } σ H6, rt := Q } [some (.ref x), some (.int t.a), some (.int t.b), some (.int t.d), some (.ref r), none] H4 := by
    intro r' H5 e5 hr'
    have hx5 := e5 _ _ hx4
    have n5 : r' ≠ x := ne_of hr' hx5 (fun q => nomatch q)
    refine ⟨_, rfl, x, _, dx, _, rfl, hx5, T.clsC, T.nC_rows, (by show 3 < 1000; decide), ?_⟩
    have b6 : Sb x H4 (upd H5 x (.ins (CC K) dx (putF "rows" (.ref r') [("a", .int t.a), ("b", .int t.b), ("d", .int t.d)]))) := (Sb.of e5).trans Sb.put
    have hr6 : IsRows t.rows r' (upd H5 x (.ins (CC K) dx (putF "rows" (.ref r') [("a", .int t.a), ("b", .int t.b), ("d", .int t.d)]))) := by
      show upd _ _ _ _ = _
      rw [upd_ne n5]
      exact hr'
    have hx6 : upd H5 x (.ins (CC K) dx (putF "rows" (.ref r') [("a", .int t.a), ("b", .int t.b), ("d", .int t.d)])) x = some (.ins (CC K) dx [("a", .int t.a), ("b", .int t.b), ("d", .int t.d), ("rows", .ref r')]) := upd_same
    generalize upd H5 x (.ins (CC K) dx (putF "rows" (.ref r') [("a", .int t.a), ("b", .int t.b), ("d", .int t.d)])) = H6 at b6 hr6 hx6 ⊢
    refine ⟨_, rfl, _, rfl, _, rfl, ?_⟩
    refine fun l dl n1 n2 n3 => ⟨l, dl, t.a, t.b, t.d, rfl, upd_same, ⟨by omega, by omega, by omega, by omega⟩, fun H7 kp hl' => ⟨rfl, ?_⟩⟩
    have e7 := Same.made n1 n2 kp
    have hl : IsTokL K t l H7 := ⟨dl, hl'⟩
    have hx7 := e7 _ _ hx6
    refine ⟨_, rfl, _, rfl, x, _, dx, _, _, rfl, hx7, T.clsC, T.nC_rows, rfl, l, r', t, rfl, hl, e7 _ _ hr6, ht, fun bs H8 e8 hbs => ?_⟩
    have hx8 := e8 _ _ hx7
    obtain ⟨db, hb8⟩ := hbs.ex
    have nb : bs ≠ x := by
      intro z
      rw [z, hx8] at hb8
      exact absurd (congrArg List.length (HO.ins.inj (Option.some.inj hb8)).2.2) (by simp [lf])
    refine ⟨_, rfl, x, _, dx, _, rfl, hx8, T.clsC, T.nC_basis, (by show 4 < 1000; decide), ?_⟩
    have b9 : Sb x H6 (upd H8 x (.ins (CC K) dx (putF "basis" (.ref bs) [("a", .int t.a), ("b", .int t.b), ("d", .int t.d), ("rows", .ref r')]))) := (Sb.of (e7.trans e8)).trans Sb.put
    have c9 : Sb x H8 (upd H8 x (.ins (CC K) dx (putF "basis" (.ref bs) [("a", .int t.a), ("b", .int t.b), ("d", .int t.d), ("rows", .ref r')]))) := Sb.put
    have hx9 : upd H8 x (.ins (CC K) dx (putF "basis" (.ref bs) [("a", .int t.a), ("b", .int t.b), ("d", .int t.d), ("rows", .ref r')])) x = some (.ins (CC K) dx [("a", .int t.a), ("b", .int t.b), ("d", .int t.d), ("rows", .ref r'), ("basis", .ref bs)]) := upd_same
    generalize upd H8 x (.ins (CC K) dx (putF "basis" (.ref bs) [("a", .int t.a), ("b", .int t.b), ("d", .int t.d), ("rows", .ref r')])) = H9 at b9 c9 hx9 ⊢
    have hb9 := c9 _ _ hb8 nb
    obtain ⟨dl', hl7⟩ := hl.ex
    have nl : l ≠ x := by
      intro z
      rw [z, hx7] at hl7
      exact absurd (congrArg List.length (HO.ins.inj (Option.some.inj hl7)).2.2) (by simp [lf])
    have hl9 : IsTokL K t l H9 := ⟨dl', c9 _ _ (e8 _ _ hl7) nl⟩
    have hr9 : IsRows t.rows r' H9 := b9 _ _ hr6 n5
    refine ⟨_, rfl, x, _, dx, _, _, rfl, hx9, T.clsC, T.nC_basis, rfl, bs, _, db, _, _, rfl, hb9, T.clsL, T.nL_a, lf_a, ?_⟩
    refine ⟨_, rfl, x, _, dx, _, _, rfl, hx9, T.clsC, T.nC_basis, rfl, bs, _, db, _, _, rfl, hb9, T.clsL, T.nL_b, lf_b, ?_⟩
    refine ⟨_, rfl, x, _, dx, _, _, rfl, hx9, T.clsC, T.nC_basis, rfl, bs, _, db, _, _, rfl, hb9, T.clsL, T.nL_d, lf_d, ?_⟩
    refine ⟨_, rfl, _, rfl, x, _, dx, _, _, rfl, hx9, T.clsC, T.nC_rows, rfl, _, rfl, x, _, dx, _, _, rfl, hx9, T.clsC, T.nC_basis, rfl, ?_⟩
    refine ⟨l, r', bs, t, shpA t, shpD t, shpB t, rfl, hl9, hr9, ht, ⟨db, hb9⟩, by omega, by omega, fun sr H10 e10 hsr => ⟨by show 4 ≤ sizeLine; decide, fun sh nsh => ?_⟩⟩
    have e11 := Same.upd (o := .tup [.int (shpA t), .int (shpB t), .int (shpD t), .ref sr]) nsh
    have hx11 := (e10.trans e11) _ _ hx9
    refine ⟨_, rfl, x, _, dx, _, rfl, hx11, T.clsC, T.nC_shape, (by show 5 < 1000; decide), ?_⟩
    have f := e10.trans e11
    have nsr : sr ≠ x := ne_of (e11 _ _ hsr) hx11 (fun q => nomatch q)
    have nshx : sh ≠ x := fun z => by
      rw [z, e10 _ _ hx9] at nsh
      cases nsh
    refine k _ ((((b3.trans b6).trans b9).trans (Sb.of f)).trans Sb.put) ⟨dx, r', bs, sh, sr, upd_same, ?_, ⟨db, ?_⟩, ?_, ?_⟩
    · exact (upd_ne n5).trans (f _ _ hr9)
    · exact (upd_ne nb).trans (f _ _ hb9)
    · exact (upd_ne nshx).trans upd_same
    · exact (upd_ne nsr).trans (e11 _ _ hsr)
  rcases hrw4 with hl | htp
  · exact ⟨_, rfl, r, _, rfl, .inl ⟨SqL.of hl, fun q nq => go q _ (Same.upd nq) upd_same⟩⟩
  · exact ⟨_, rfl, r, _, rfl, .inr ⟨SqT.of htp, go r H4 (Same.refl _) htp⟩⟩
theorem car_make {H1 : Hp} {Q : VK} {E : XK} {t : Tok} {r : Addr} (ht : t.Ok) (hrw : H1 r = some (.lst (rowsV t.rows)) ∨ H1 r = some (.tup (rowsV t.rows))) (k : RetR H1 Q (IsCar K t)) : ∀ x dx, H1 x = none → H1 dx = none → dx ≠ x →
    sp_Cinit K (.ref x :: ([.int t.a, .int t.b, .int t.d, .ref r] ++ [])) (upd (upd H1 dx (.own x)) x (.ins (CC K) dx [])) (fun v H2 => v = .non ∧ Q (.ref x) H2) E := fun x dx nx nd ne => by
  have at_ : ∀ o, H1 r = some o → upd (upd H1 dx (.own x)) x (.ins (CC K) dx []) r = some o := fun o z => by
    rw [upd_ne (ne_of_none z nx), upd_ne (ne_of_none z nd)]
    exact z
  exact ⟨x, dx, r, t, rfl, upd_same, ht, hrw.elim (fun z => .inl (at_ _ z)) (fun z => .inr (at_ _ z)), fun H' kp hx => ⟨rfl, k x H' (Same.made nx nd kp) hx⟩⟩
end
end
section
/-! ### what carpets answer -/
/-- the carpet by its shape -/
def shpT (t : Tok) : Tok := ⟨shpA t, shpB t, shpD t, shpR t⟩
theorem nrm_len {t : Tok} {a d : Nat} : (nrm t a d).length = d := by
  unfold nrm
  rw [List.length_map, List.length_range]
theorem nrm_row {t : Tok} {a d : Nat} {z : List Nat} (h : z ∈ nrm t a d) : z.length = a := by
  unfold nrm at h
  obtain ⟨y, _, rfl⟩ := List.mem_map.mp h
  rw [List.length_map, List.length_range]
theorem nrm_dig {t : Tok} (ht : t.Ok) {a d : Nat} {z : List Nat} (h : z ∈ nrm t a d) : ∀ c ∈ z, c ≤ 9 := by
  unfold nrm at h
  obtain ⟨y, _, rfl⟩ := List.mem_map.mp h
  intro c hc
  obtain ⟨x, _, rfl⟩ := List.mem_map.mp hc
  obtain ⟨_, _, _, _, _, _, _, _, q⟩ := (sgnAt ht (x : Int) (y : Int)).ex
  exact q
theorem shpT_ok {t : Tok} (ht : t.Ok) : (shpT t).Ok := by
  obtain ⟨h1, h2, h3, h4, h5⟩ := lstM_ok ht
  exact ⟨h1, h2, h3, Nat.le_trans (Nat.mul_le_mul h4 h5) ht.ar, nrm_len, fun z hz => nrm_row hz, fun z hz => nrm_dig ht hz⟩
def rowsD (rows : List (List Nat)) : List PyData := rows.map fun z => PyData.str (dS z)
def shpP (t : Tok) : PyData := .tuple [.int (shpA t), .int (shpB t), .int (shpD t), .tuple (rowsD (shpR t))]
theorem dp_rows {K : PySem.W.Frag} {H : Hp} : ∀ rows : List (List Nat), DpAll K H (rowsV rows) (rowsD rows)
  | [] => .nil
  | z :: r => .cons (.str _) (dp_rows r)
theorem dp_shp {K : PySem.W.Frag} {H : Hp} {t : Tok} {sh sr : Addr} (h : H sh = some (.tup [.int (shpA t), .int (shpB t), .int (shpD t), .ref sr])) (hr : IsRows (shpR t) sr H) : Dp K H (.ref sh) (shpP t) :=
  .tup (SqT.of h) (.cons (.int _) (.cons (.int _) (.cons (.int _) (.cons (.tup (SqT.of hr) (dp_rows _)) .nil))))
theorem strOk_dS {z : List Nat} (h : ∀ c ∈ z, c ≤ 9) : PySem.PyData.canLay0 (.str (dS z)) = true := by
  show Array.all ((z.map (48 + ·)).toArray) (· < 0x110000) = true
  rw [Array.all_eq_true']
  intro c hc
  rw [List.mem_toArray] at hc
  obtain ⟨e, he, rfl⟩ := List.mem_map.mp hc
  have := h e he
  exact decide_eq_true (by omega)
theorem rows_lay : ∀ {rows : List (List Nat)}, (∀ z ∈ rows, ∀ c ∈ z, c ≤ 9) → PySem.PyData.canLayAll0 (rowsD rows) = true
  | [], _ => rfl
  | z :: r, h => by
    show (PySem.PyData.canLay0 (.str (dS z)) && PySem.PyData.canLayAll0 (rowsD r)) = true
    rw [strOk_dS (h z List.mem_cons_self), rows_lay fun y hy => h y (List.mem_cons_of_mem _ hy)]
    rfl
theorem rows_dep : ∀ {rows : List (List Nat)}, PySem.PyData.depthAll (rowsD rows) ≤ 0
  | [] => Nat.le_refl _
  | z :: r => by
    show max 0 (PySem.PyData.depthAll (rowsD r)) ≤ 0
    have := rows_dep (rows := r)
    omega
theorem shp_shaped {t : Tok} (ht : t.Ok) : SeqAt.shaped (shpP t) = true := by
  unfold SeqAt.shaped shpP
  rw [Bool.and_eq_true]
  refine ⟨?_, decide_eq_true ?_⟩
  · show (true && (true && (true && (PySem.PyData.canLayAll0 (rowsD (shpR t)) && true)))) = true
    rw [rows_lay fun z hz => nrm_dig ht hz]
    rfl
  · show max 0 (max 0 (max 0 (max (PySem.PyData.depthAll (rowsD (shpR t)) + 1) 0))) + 1 ≤ 64
    have := rows_dep (rows := shpR t)
    omega
theorem eqv_rows : ∀ {r s : List (List Nat)}, PyData.eqvAll (rowsD r) (rowsD s) = decide (r = s)
  | [], [] => rfl
  | [], _ :: _ => rfl
  | _ :: _, [] => rfl
  | z :: r, y :: s => by
    show (dS z == dS y && PyData.eqvAll (rowsD r) (rowsD s)) = _
    rw [eqv_rows]
    have e : (dS z == dS y) = decide (z = y) := by
      rw [Bool.eq_iff_iff, decide_eq_true_eq, beq_iff_eq]
      exact ⟨dS_inj, fun h => by rw [h]⟩
    rw [e, Bool.eq_iff_iff, Bool.and_eq_true, decide_eq_true_eq, decide_eq_true_eq, decide_eq_true_eq, List.cons.injEq]
/-- two carpets have one shape -/
def eqC (t u : Tok) : Bool := decide (lstM t = lstM u ∧ shpR t = shpR u)
theorem eqv_shp {t u : Tok} : PyData.eqv (shpP t) (shpP u) = eqC t u := by
  show ((((shpA t : Nat) : Int) == ((shpA u : Nat) : Int)) && ((((shpB t : Nat) : Int) == ((shpB u : Nat) : Int)) && ((((shpD t : Nat) : Int) == ((shpD u : Nat) : Int)) && (PyData.eqvAll (rowsD (shpR t)) (rowsD (shpR u)) && true)))) = _
  rw [eqv_rows]
  unfold eqC
  rw [Bool.eq_iff_iff, Bool.and_eq_true, Bool.and_eq_true, Bool.and_eq_true, Bool.and_eq_true, beq_iff_eq, beq_iff_eq, beq_iff_eq, decide_eq_true_eq, decide_eq_true_eq]
  constructor
  · rintro ⟨h1, h2, h3, h4, _⟩
    exact ⟨Prod.ext (Int.ofNat.inj h1) (Prod.ext (Int.ofNat.inj h2) (Int.ofNat.inj h3)), h4⟩
  · rintro ⟨h1, h2⟩
    unfold shpA shpB shpD
    rw [h1]
    exact ⟨rfl, rfl, rfl, h2, rfl⟩
theorem int_dS {c : Nat} (h : c ≤ 9) : PySem.intText? (dS [c]) = some (c : Int) := by
  have all : ∀ i : Fin 10, PySem.intText? (dS [i.val]) = some (i.val : Int) := by decide +kernel
  exact all ⟨c, by omega⟩
theorem str_dS {c : Nat} (h : c ≤ 9) : Str.ofString (toString (c : Int)) = dS [c] := by
  have all : ∀ i : Fin 10, Str.ofString (toString (i.val : Int)) = dS [i.val] := by decide +kernel
  exact all ⟨c, by omega⟩
section
variable {P : Program} {w : World} {K : PySem.W.Frag} {mg : Str → Option Value} {base : Heap}
theorem tyC (T : Txt K mg base) {t : Tok} {p : Addr} {H : Hp} (hp : IsCar K t p H) : TyX K H (.ref p) (.ref (CC K)) := by
  obtain ⟨dx, r, bs, sh, sr, c⟩ := hp.ex
  exact .base (.ins c.ob T.clsC T.ownC.c1 T.ownC.c2 T.ownC.c3 T.ownC.c4)
def sp_Ceq (K : PySem.W.Frag) : Sp := fun vs H Q _ => ∃ (p q : Addr) (t u : Tok), vs = [.ref p, .ref q] ∧ IsCar K t p H ∧ IsCar K u q H ∧ t.Ok ∧ u.Ok ∧ Ret H Q (.bl (eqC t u))
theorem ok_Ceq (T : Txt K mg base) : MetOk P w K mg base (CC K) "__eq__" 1 ["self", "other"] (sp_Ceq K) := by
  refine metok T.d_C_eq T.mC_eq sc_C_eq (fun _ _ _ _ _ _ us hl => match us, hl with | [_, _], _ => rfl) (fun vs H Q E h => ?_) fun cdv A outer s H vs Q E hr h => ?_
  · obtain ⟨p, q, t, u, rfl, _⟩ := h
    rfl
  obtain ⟨p, q, t, u, rfl, hp, hq, ht, hu, k⟩ := h
  obtain ⟨dx, r, bs, sh, sr, c⟩ := hp.ex
  obtain ⟨dx', r', bs', sh', sr', c'⟩ := hq.ex
  refine ⟨_, pss_one (ps_ret (pe_and (pe_callB call_isi (by rfl) T.f_isinstance (by decide +kernel) (pa_cons (pv 1) (pa_cons (pe_glob (v := .ref (CC K)) (by rfl) T.g_Carpet rfl) pa_nil)))
    (pe_one (pe_cmpR (op_eqD hr.units) (pe_fld (pv 0) rfl) (pe_fld (pv 1) rfl) (nomark _))))), ?_⟩
  refine ⟨_, rfl, _, _, _, _, true, rfl, .own _, tyC T hq, T.ownC.kit, true, rfl, iteT ?_⟩
  refine ⟨_, rfl, p, _, dx, _, _, rfl, c.ob, T.clsC, T.nC_shape, cf_shape, _, rfl, q, _, dx', _, _, rfl, c'.ob, T.clsC, T.nC_shape, cf_shape, shpP t, shpP u, dp_shp c.sh c.sr, dp_shp c'.sh c'.sr, shp_shaped ht, shp_shaped hu, ?_⟩
  rw [eqv_shp]
  exact k H (Same.refl H)
def sp_Clattice (K : PySem.W.Frag) : Sp := fun vs H Q _ => ∃ (p : Addr) (t : Tok), vs = [.ref p] ∧ IsCar K t p H ∧ t.Ok ∧ RetR H Q (IsTokL K t)
theorem ok_Clattice (T : Txt K mg base) : MetOk P w K mg base (CC K) "lattice" 6 ["self"] (sp_Clattice K) := by
  refine metok T.d_C_lattice T.mC_lattice sc_C_lattice (fun _ _ _ _ _ _ us hl => match us, hl with | [_], _ => rfl) (fun vs H Q E h => ?_) fun cdv A outer s H vs Q E hr h => ?_
  · obtain ⟨p, t, rfl, _⟩ := h
    rfl
  obtain ⟨p, t, rfl, hp, ht, k⟩ := h
  obtain ⟨dx, r, bs, sh, sr, c⟩ := hp.ex
  have h1 := ht.a1
  have h2 := ht.b1
  have h3 := ht.d1
  refine ⟨_, pss_one (ps_ret (pe_mk (ok_Linit T) hr (by decide) (by rfl) T.g_Lattice (pa_cons (pe_fld (pv 0) rfl) (pa_cons (pe_fld (pv 0) rfl) (pa_cons (pe_fld (pv 0) rfl) pa_nil))))), ?_⟩
  refine ⟨_, rfl, p, _, dx, _, _, rfl, c.ob, T.clsC, T.nC_a, cf_a, _, rfl, p, _, dx, _, _, rfl, c.ob, T.clsC, T.nC_b, cf_b, _, rfl, p, _, dx, _, _, rfl, c.ob, T.clsC, T.nC_d, cf_d, ?_⟩
  refine lat_make ⟨by omega, by omega, by omega, by omega⟩ fun q H6 e6 hq => ?_
  exact k q H6 e6 hq
def sp_Csign (K : PySem.W.Frag) : Sp := fun vs H Q _ => ∃ (p c : Addr) (t : Tok) (x y : Int), vs = [.ref p, .ref c] ∧ IsCar K t p H ∧ t.Ok ∧ Pair x y c H ∧ Ret H Q (.str (dS [sgn t x y]))
theorem ok_Csign (T : Txt K mg base) : MetOk P w K mg base (CC K) "sign" 7 ["self", "cell"] (sp_Csign K) := by
  refine metok T.d_C_sign T.mC_sign sc_C_sign (fun _ _ _ _ _ _ us hl => match us, hl with | [_, _], _ => rfl) (fun vs H Q E h => ?_) fun cdv A outer s H vs Q E hr h => ?_
  · obtain ⟨p, c, t, x, y, rfl, _⟩ := h
    rfl
  obtain ⟨p, c, t, x, y, rfl, hp, ht, hc, k⟩ := h
  obtain ⟨dx, r, bs, sh, sr, z⟩ := hp.ex
  refine ⟨_, pss_one (ps_ret (pe_cd (ok_sign_at T) hr (by decide) (by rfl) (pa_cons (pe_md0 (ok_Clattice T) T.clsC hr (by decide) (pv 0)) (pa_cons (pe_fld (pv 0) rfl) (pa_cons (pv 1) pa_nil))))), ?_⟩
  refine ⟨_, rfl, p, dx, _, rfl, z.ob, cf_lat, p, t, rfl, hp, ht, fun l H1 e1 hl => ?_⟩
  refine ⟨_, rfl, p, _, dx, _, _, rfl, e1 _ _ z.ob, T.clsC, T.nC_rows, cf_rows, _, rfl, l, r, c, t, x, y, rfl, hl, e1 _ _ z.rw, e1 _ _ hc, ht, fun H2 e2 => k H2 (e1.trans e2)⟩
def sp_Ccolour (K : PySem.W.Frag) : Sp := fun vs H Q _ => ∃ (p c : Addr) (t : Tok) (x y : Int), vs = [.ref p, .ref c] ∧ IsCar K t p H ∧ t.Ok ∧ Pair x y c H ∧ Ret H Q (.int (sgn t x y : Nat))
theorem ok_Ccolour (T : Txt K mg base) : MetOk P w K mg base (CC K) "colour" 8 ["self", "cell"] (sp_Ccolour K) := by
  refine metok T.d_C_colour T.mC_colour sc_C_colour (fun _ _ _ _ _ _ us hl => match us, hl with | [_, _], _ => rfl) (fun vs H Q E h => ?_) fun cdv A outer s H vs Q E hr h => ?_
  · obtain ⟨p, c, t, x, y, rfl, _⟩ := h
    rfl
  obtain ⟨p, c, t, x, y, rfl, hp, ht, hc, k⟩ := h
  obtain ⟨dx, r, bs, sh, sr, z⟩ := hp.ex
  obtain ⟨_, _, _, _, _, _, _, _, hs⟩ := (sgnAt ht x y).ex
  refine ⟨_, pss_cons (ps_expr (pe_cd (ok_check_cell T) hr (by decide) (by rfl) (pa_cons (pv 1) pa_nil))) (pss_one (ps_ret (pe_callTy call_int_str (by rfl) T.f_int (by decide +kernel) (pa_cons (pe_md (ok_Csign T) T.clsC hr (by decide) (pv 0) (pa_cons (pv 1) pa_nil)) pa_nil)))), ?_⟩
  refine ⟨_, rfl, c, x, y, rfl, hc, fun H1 e1 => ?_⟩
  refine ⟨_, rfl, p, dx, _, rfl, e1 _ _ z.ob, cf_sign, _, rfl, p, c, t, x, y, rfl, hp.mono e1, ht, e1 _ _ hc, fun H2 e2 => ?_⟩
  refine ⟨_, _, rfl, int_dS hs, by rw [dS_len]; show 1 ≤ 640; decide, ?_⟩
  exact k H2 (e1.trans e2)
def sp_Cleast (K : PySem.W.Frag) : Sp := fun vs H Q _ => ∃ (p : Addr) (t : Tok), vs = [.ref p] ∧ IsCar K t p H ∧ RetR H Q (IsLat K (shpA t) (shpB t) (shpD t))
theorem ok_Cleast (T : Txt K mg base) : MetOk P w K mg base (CC K) "least" 1 ["self"] (sp_Cleast K) := by
  refine metok T.d_C_least T.mC_least sc_C_least (fun _ _ _ _ _ _ us hl => match us, hl with | [_], _ => rfl) (fun vs H Q E h => ?_) fun cdv A outer s H vs Q E hr h => ?_
  · obtain ⟨p, t, rfl, _⟩ := h
    rfl
  obtain ⟨p, t, rfl, hp, k⟩ := h
  obtain ⟨dx, r, bs, sh, sr, z⟩ := hp.ex
  refine ⟨_, pss_one (ps_ret (pe_fld (pv 0) rfl)), ?_⟩
  refine ⟨_, rfl, p, _, dx, _, _, rfl, z.ob, T.clsC, T.nC_basis, cf_basis, ?_⟩
  exact k bs H (Same.refl H) z.bs
def sp_Cin (K : PySem.W.Frag) : Sp := fun vs H Q _ => ∃ (p : Addr) (t : Tok), vs = [.ref p] ∧ IsCar K t p H ∧ t.Ok ∧ RetR H Q (IsCar K (shpT t))
theorem ok_Cin (T : Txt K mg base) : MetOk P w K mg base (CC K) "in_normal" 11 ["self"] (sp_Cin K) := by
  refine metok T.d_C_in_normal T.mC_in_normal sc_C_in_normal (fun _ _ _ _ _ _ us hl => match us, hl with | [_], _ => rfl) (fun vs H Q E h => ?_) fun cdv A outer s H vs Q E hr h => ?_
  · obtain ⟨p, t, rfl, _⟩ := h
    rfl
  obtain ⟨p, t, rfl, hp, ht, k⟩ := h
  obtain ⟨dx, r, bs, sh, sr, z⟩ := hp.ex
  have hS := sc_C_in_normal.nd
  refine ⟨_, pss_cons (ps_asg (pe_fld (pv 0) rfl) (pg_tup rfl (pgs_cons (pg_name (i := 1) hS rfl (.inl rfl)) (pgs_cons (pg_name (i := 2) hS rfl (.inl rfl)) (pgs_cons (pg_name (i := 3) hS rfl (.inl rfl)) (pgs_cons (pg_name (i := 4) hS rfl (.inl rfl)) pgs_nil))))))
    (pss_one (ps_ret (pe_mk (ok_Cinit T) hr (by decide) (by rfl) T.g_Carpet (pa_cons (pv 1) (pa_cons (pv 2) (pa_cons (pv 3) (pa_cons (pv 4) pa_nil))))))), ?_⟩
  refine ⟨_, rfl, p, _, dx, _, _, rfl, z.ob, T.clsC, T.nC_shape, cf_shape, sh, _, rfl, SqT.of z.sh, rfl, _, _, rfl, _, _, rfl, _, _, rfl, _, _, rfl, rfl, ?_⟩
  refine ⟨_, rfl, _, rfl, _, rfl, _, rfl, ?_⟩
  refine car_make (t := shpT t) (r := sr) (shpT_ok ht) (.inr z.sr) fun q H6 e6 hq => ?_
  exact k q H6 e6 hq
def sp_check_colour : Sp := fun vs H Q _ => ∃ c : Int, vs = [.int c] ∧ 0 ≤ c ∧ c ≤ 9 ∧ Ret H Q .non
theorem ok_check_colour (T : Txt K mg base) : DefOk P w K mg base "check_colour" 4 ["value"] sp_check_colour := by
  refine defok T.d_check_colour T.g_check_colour sc_check_colour (fun _ _ _ _ _ _ us hl => match us, hl with | [_], _ => rfl) (fun vs H Q E h => ?_) fun cdv A outer s H vs Q E hr h => ?_
  · obtain ⟨c, rfl, _⟩ := h
    rfl
  obtain ⟨c, rfl, h0, h9, k⟩ := h
  refine ⟨_, pss_one (ps_if (pt_not (pt_val (pe_cd (ok_is_colour T) hr (by decide) (by rfl) (pa_cons (pv 0) pa_nil)))) pss_never pss_nil), ?_⟩
  refine ⟨_, rfl, c, rfl, h0, h9, fun H1 e1 => ⟨_, rfl, iteF ?_⟩⟩
  exact k H1 e1
end
end
section
/-! ### two carpets -/
def shp3 (t : Tok) : T3 := ((shpA t : Nat), (shpB t : Nat), (shpD t : Nat))
abbrev L3s (t : Tok) : Prop := L3 (shpA t : Nat) (shpB t : Nat) (shpD t : Nat)
/-- the lattice common to the two shapes -/
def comT (t u : Tok) : T3 := com (shp3 t) (shp3 u)
theorem comT_ok {t u : Tok} (ht : L3s t) (hu : L3s u) : ComOk (shp3 t) (shp3 u) := com_ok (lats_mem ht) (lats_mem hu)
def plainT (c : Nat) : Tok := ⟨1, 0, 1, [[c]]⟩
theorem plainT_ok {c : Nat} (h : c ≤ 9) : (plainT c).Ok := ⟨Nat.le_refl _, Nat.zero_lt_one, Nat.le_refl _, (by show 1 * 1 ≤ 144; decide), rfl, fun z hz => by
  cases List.mem_singleton.mp hz
  rfl, fun z hz => by
  cases List.mem_singleton.mp hz
  intro e he
  cases List.mem_singleton.mp he
  exact h⟩
section
variable {P : Program} {w : World} {K : PySem.W.Frag} {mg : Str → Option Value} {base : Heap}
def sp_plain (K : PySem.W.Frag) : Sp := fun vs H Q _ => ∃ c : Nat, vs = [.int c] ∧ c ≤ 9 ∧ RetR H Q (IsCar K (plainT c))
theorem ok_plain (T : Txt K mg base) : DefOk P w K mg base "plain" 11 ["colour"] (sp_plain K) := by
  refine defok T.d_plain T.g_plain sc_plain (fun _ _ _ _ _ _ us hl => match us, hl with | [_], _ => rfl) (fun vs H Q E h => ?_) fun cdv A outer s H vs Q E hr h => ?_
  · obtain ⟨c, rfl, _⟩ := h
    rfl
  obtain ⟨c, rfl, hc, k⟩ := h
  refine ⟨_, pss_cons (ps_expr (pe_cd (ok_check_colour T) hr (by decide) (by rfl) (pa_cons (pv 0) pa_nil)))
    (pss_one (ps_ret (pe_mk (ok_Cinit T) hr (by decide) (by rfl) T.g_Carpet (pa_cons pe_int (pa_cons pe_int (pa_cons pe_int (pa_cons (pe_lst (pa_cons (pe_callTy call_str_int (by rfl) T.f_str (by decide +kernel) (pa_cons (pv 0) pa_nil)) pa_nil)) pa_nil))))))), ?_⟩
  refine ⟨_, rfl, c, rfl, by omega, by omega, fun H1 e1 => ?_⟩
  refine ⟨_, rfl, (c : Nat), rfl, ?_, by show 1 ≤ sizeLine; decide, fun r nr => ?_⟩
  · have : Nat.log2 ((c : Int).natAbs) < 1920 := by
      rcases Nat.eq_zero_or_pos c with h | h
      · subst h
        decide
      · have : (c : Int).natAbs = c := by omega
        rw [this]
        have h9 : c < 2 ^ 1920 := Nat.lt_of_le_of_lt hc (by decide)
        exact (Nat.log2_lt (by omega)).mpr h9
    exact this
  refine car_make (t := plainT c) (r := r) (plainT_ok hc) (.inl ?_) fun q H6 e6 hq => ?_
  · rw [upd_same]
    show some (HO.lst [V.str (Str.ofString (toString (c : Int)))]) = some (HO.lst [V.str (dS [c])])
    rw [str_dS hc]
  · exact k q H6 (e1.trans ((Same.upd nr).trans e6)) hq
def sp_look (K : PySem.W.Frag) : Sp := fun vs H Q _ => ∃ (p : Addr) (t : Tok), vs = [.ref p] ∧ IsCar K t p H ∧ Ret H Q .non
theorem ok_look (T : Txt K mg base) : DefOk P w K mg base "look_at_carpet" 1 ["carpet"] (sp_look K) := by
  refine defok T.d_look_at_carpet T.g_look_at_carpet sc_look_at_carpet (fun _ _ _ _ _ _ us hl => match us, hl with | [_], _ => rfl) (fun vs H Q E h => ?_) fun cdv A outer s H vs Q E hr h => ?_
  · obtain ⟨p, t, rfl, _⟩ := h
    rfl
  obtain ⟨p, t, rfl, hp, k⟩ := h
  refine ⟨_, pss_one (ps_if (pt_not (pt_val (pe_callB call_isi (by rfl) T.f_isinstance (by decide +kernel) (pa_cons (pv 0) (pa_cons (pe_glob (v := .ref (CC K)) (by rfl) T.g_Carpet rfl) pa_nil))))) pss_never pss_nil), ?_⟩
  refine ⟨_, rfl, _, _, _, _, true, rfl, .own _, tyC T hp, T.ownC.kit, true, rfl, iteF ?_⟩
  exact k H (Same.refl H)
def sp_all (K : PySem.W.Frag) : Sp := fun vs H Q _ => ∃ (c p q : Addr) (t u : Tok), vs = [.ref c] ∧ H c = some (.lst [.ref p, .ref q]) ∧ IsCar K t p H ∧ IsCar K u q H ∧ L3s t ∧ L3s u ∧ RetR H Q (IsLat K (comT t u).1 (comT t u).2.1 (comT t u).2.2)
theorem ok_all (T : Txt K mg base) : DefOk P w K mg base "lattice_of_all" 7 ["carpets"] (sp_all K) := by
  refine defok T.d_lattice_of_all T.g_lattice_of_all sc_lattice_of_all (fun _ _ _ _ _ _ us hl => match us, hl with | [_], _ => rfl) (fun vs H Q E h => ?_) fun cdv A outer s H vs Q E hr h => ?_
  · obtain ⟨c, p, q, t, u, rfl, _⟩ := h
    rfl
  obtain ⟨c, p, q, t, u, rfl, hc, hp, hq, ht, hu, k⟩ := h
  have hS := sc_lattice_of_all.nd
  obtain ⟨dx, _, _, _, _, zp⟩ := hp.ex
  obtain ⟨dy, _, _, _, _, zq⟩ := hq.ex
  refine ⟨_, pss_cons (ps_set (i := 1) hS rfl (.inl rfl) (pe_md0 (ok_Cleast T) T.clsC hr (by decide) (pe_ix ix_list (pv 0) pe_int (fun _ _ => rfl))))
    (pss_cons (ps_for PassesOwn.never rfl (pi_list (pe_slice sl_list (pv 0) (po_some pe_int) po_none)) (pg_name (i := 2) hS rfl (.inl rfl))
      (pss_one (ps_set (i := 1) hS rfl (.inl rfl) (pe_cd (ok_common T) hr (by decide) (by rfl) (pa_cons (pv 1) (pa_cons (pe_md0 (ok_Cleast T) T.clsC hr (by decide) (pv 2)) pa_nil))))))
    (pss_one (ps_ret (pv 1)))), ?_⟩
  refine ⟨_, rfl, c, _, _, _, rfl, rfl, SqL.of hc, atI_nat (j := 0) rfl, p, dx, _, rfl, zp.ob, cf_least, p, t, rfl, hp, fun l H1 e1 hl => ?_⟩
  refine ⟨_, rfl, _, rfl, c, _, rfl, SqL.of (e1 _ _ hc), fun D nD => ?_⟩
  have e2 := Same.upd (o := .lst [.ref q]) nD
  refine ⟨D, rfl, ⟨_, SqL.of (xs := [.ref q]) upd_same⟩, for_list (K := K) (a := D) (xs := [.ref q]) (fun i σ H' => Same (upd H1 D (.lst [.ref q])) H' ∧ ((i = 0 ∧ σ = [some (.ref c), some (.ref l), none]) ∨ (i = 1 ∧ ∃ m, σ = [some (.ref c), some (.ref m), some (.ref q)] ∧ IsLat K (comT t u).1 (comT t u).2.1 (comT t u).2.2 m H')))
    ⟨Same.refl _, .inl ⟨rfl, rfl⟩⟩ (fun i σ H' _ ⟨e, _⟩ => SqL.of (e _ _ upd_same)) ?_ ?_⟩
  · rintro i v σ H2 hi ⟨e3, h⟩
    rcases h with ⟨rfl, rfl⟩ | ⟨rfl, _⟩
    · cases hi
      have e13 := e1.trans (e2.trans e3)
      refine ⟨_, rfl, _, rfl, q, dy, _, rfl, e13 _ _ zq.ob, cf_least, q, u, rfl, hq.mono e13, fun l2 H3 e4 hl2 => ?_⟩
      refine ⟨l, l2, shp3 t, shp3 u, rfl, hl.mono (e2.trans (e3.trans e4)), hl2, ht, hu, fun m H4 e5 hm => ?_⟩
      exact ⟨e3.trans (e4.trans e5), .inr ⟨rfl, m, rfl, hm⟩⟩
    · cases hi
  · rintro σ H2 ⟨e3, h⟩
    rcases h with ⟨h, _⟩ | ⟨_, m, rfl, hm⟩
    · cases h
    · exact ⟨_, rfl, k m H2 (e1.trans (e2.trans e3)) hm⟩
def sp_laying (K : PySem.W.Frag) : Sp := sp_all K
theorem ok_laying (T : Txt K mg base) : DefOk P w K mg base "laying_lattice" 8 ["carpets"] (sp_laying K) := by
  refine defok T.d_laying_lattice T.g_laying_lattice sc_laying_lattice (fun _ _ _ _ _ _ us hl => match us, hl with | [_], _ => rfl) (fun vs H Q E h => ?_) fun cdv A outer s H vs Q E hr h => ?_
  · obtain ⟨c, p, q, t, u, rfl, _⟩ := h
    rfl
  obtain ⟨c, p, q, t, u, rfl, hc, hp, hq, ht, hu, k⟩ := h
  have hS := sc_laying_lattice.nd
  have C := comT_ok ht hu
  obtain ⟨tk, hm⟩ := T.cst 2 _ (by rfl)
  refine ⟨_, pss_cons (ps_set (i := 1) hS rfl (.inl rfl) (pe_cd (ok_all T) hr (by decide) (by rfl) (pa_cons (pv 0) pa_nil)))
    (pss_cons (ps_if (pt_cmpR op_gt (pe_md0 (ok_area T) T.clsL hr (by decide) (pv 1)) (pe_glob (v := .int 144) (by rfl) hm ⟨_, rfl⟩) (nomark _)) pss_never pss_nil)
    (pss_one (ps_ret (pv 1)))), ?_⟩
  refine ⟨_, rfl, c, p, q, t, u, rfl, hc, hp, hq, ht, hu, fun l H1 e1 hl => ?_⟩
  obtain ⟨dl, hl0⟩ := hl.ex
  refine ⟨_, rfl, l, dl, _, rfl, hl0, lf_ar, l, _, _, _, rfl, hl, ?_, fun H2 e2 => ?_⟩
  · have := C.a1
    have := C.a2
    exact ⟨by show 0 ≤ (com (shp3 t) (shp3 u)).1; omega, by show (com (shp3 t) (shp3 u)).1 ≤ 1000; omega⟩
  refine ⟨_, _, rfl, rfl, _, rfl, iteDF (by have := C.ar; show ¬ (com (shp3 t) (shp3 u)).1 * (com (shp3 t) (shp3 u)).2.2 > 144; omega) ?_⟩
  exact ⟨_, rfl, k l H2 (e1.trans e2) (hl.mono e2)⟩
/-- a map of colours, as a dict is told -/
abbrev mapK (m : List (Nat × Nat)) : List (Key × V) := m.map fun p => (Sum.inl ((p.1 : Nat) : Int), V.int (p.2 : Nat))
def led (m : List (Nat × Nat)) (c : Nat) : Nat := ((m.find? fun p => decide (p.1 = c)).map (·.2)).getD c
theorem val_mapK (m : List (Nat × Nat)) (c : Nat) : valV (mapK m) (.inl ((c : Nat) : Int)) = ((m.find? fun p => decide (p.1 = c)).map fun p => V.int (p.2 : Nat)) := by
  unfold valV mapK
  rw [List.find?_map, Option.map_map]
  have e : ((fun kv : Key × V => decide (kv.1 = Sum.inl ((c : Nat) : Int))) ∘ fun p : Nat × Nat => (Sum.inl ((p.1 : Nat) : Int), V.int (p.2 : Nat))) = fun p : Nat × Nat => decide (p.1 = c) := by
    funext p
    show decide (Sum.inl ((p.1 : Nat) : Int) = Sum.inl ((c : Nat) : Int)) = decide (p.1 = c)
    rw [Bool.eq_iff_iff, decide_eq_true_eq, decide_eq_true_eq]
    exact ⟨fun h => Int.ofNat.inj (Sum.inl.inj h), fun h => by rw [h]⟩
  rw [e]
  rfl
end
end
section
/-! ### {(..): v for .. in ..}: a dict by tuples -/
section
variable {X : Cx} {pins : List (Addr × Obj)} {σ : L2.St} {H : Hp} {s : Shared}
theorem setT {Ex : Value → Shared → Prop} {D q : Addr} {kvs : List (List Key × V)} {k : List Key} {v : V} {r : Value} {Qf : Unit → Shared → Prop} (hu : X.A.units < cLine) (I : Inv X pins σ H s) (hD : H D = some (.dT kvs)) (hz : kvs.length < sizeLine)
    (hq : H q = some (.tup (k.map kV))) (rv : RelV v r) (fin : ∀ s', Inv X pins σ (upd H D (.dT (putK kvs k v))) s' → Qf () s') : wpAny (model X.prog X.w) X.A (dictSet D (.ref q) r) Qf Ex s := by
  obtain ⟨_, nm, xs, rel, dd⟩ := dt_of I.hok hD
  have lx : xs.length ≤ sizeLine := by
    rw [← Paired.length rel]
    omega
  have lp : (putK kvs k v).length ≤ sizeLine := Nat.le_trans (length_putK kvs k v) hz
  refine wpAny_dictSet_heap (knd := tupleKind (mixKind X.prog X.w)) (hsz := lx) (show X.A.units < cLine from hu) (key_of I.hok hq) dd fun h' dd' sb => fin _ ?_
  obtain ⟨o, es, ep, p1, p2, p3, p4, _, p5⟩ := dd'
  have keep : ∀ c ys, H c = some (.tup ys) → upd H D (.dT (putK kvs k v)) c = some (.tup ys) := fun c ys ec => by
    rw [upd_ne (ne_of ec hD (fun z => nomatch z))]
    exact ec
  exact d_write I (by rw [hD]; exact True.intro) sb ⟨o, p1⟩ ⟨lp, nm, _, (rel.put k hq rv).keeps keep, o, es, ep, p1, p2, p3, p4, p5⟩
end
abbrev DcT (J : It) (g : TG) (tt : TT) (tk tv : TE) (vs : List Nat) (σ : L2.St) (H1 : Hp) (Q : Addr → Hp → Prop) : Prop := ∀ D, H1 D = none →
  ∃ W : Nat → Nat → Hp → Prop, (∃ m, W 0 m (upd H1 D (.dT []))) ∧ ∀ i m H, W i m H → (J.stop i H ∧ Q D H) ∨
    (J.go i H ∧ ∃ Nx : Hp → Prop, (∀ H', Nx H' → ∃ m', m' < m ∧ W (i + 1) m' H') ∧
      ∀ x H', J.yld i H x H' → g x (wipe σ vs) H' fun σ2 H2 => wipe σ2 vs = wipe σ vs ∧
        tt σ2 H2 fun b H3 => if b = true then tk σ2 H3 fun y H4 => tv σ2 H4 fun z H5 => ∃ kvs k q, y = .ref q ∧ H5 q = some (.tup (k.map kV)) ∧ H5 D = some (.dT kvs) ∧ kvs.length < sizeLine ∧ Nx (upd H5 D (.dT (putK kvs k z))) else Nx H3)
def tDcT (wi : TI) (g : TG) (tt : TT) (tk tv : TE) (vs : List Nat) : TE := fun σ H Q => wi σ H fun J H1 => DcT J g tt tk tv vs σ H1 fun D H' => Q (.ref D) H'
abbrev Blk (X : Cx) (scope : Scope) (R : Cx → Prop) : Prop := ∀ (s : Shared) (H : Hp) (C : Addr) (cl : List (Str × Addr)) (fp : List Addr), R (X.blk s H scope (compEnvC scope cl C X.env) fp)
theorem pe_dcT {X : Cx} {kx vx tg iter : Expr} {ifs : List Expr} {scope : Scope} {own : List (Str × Nat)} {pos : Pos} {wi : TI} {g : TG} {tt : TT} {tk tv : TE} (hc : X.calm = true) (hu : X.A.units < cLine) (hN : X.N.Nodup) (hi : PI X tg iter wi) (ok : BlkOk X.N X.env.scope scope own)
    (hg : Blk X scope fun Y => PG Y tg g) (ht : Blk X scope fun Y => PTs Y ifs tt) (hk : Blk X scope fun Y => PE Y kx tk) (he : Blk X scope fun Y => PE Y vx tv) (hs : ∀ x, foldedSetIterable iter X.env x = pure x := by intro _; rfl) :
    PE X (.DictComp kx vx [⟨tg, iter, ifs, 0⟩] scope pos) (tDcT wi g tt tk tv (own.map (·.2))) := by
  constructor
  intro pins s σ H Q I h
  rw [arm_eval_DictComp]
  have cells : ∀ y ∈ scope.names, y.2 = .free → ∃ c, X.env.cells.lookup y.1 = some c := fun y hy e => I.ok.has _ (ok.free y hy e)
  refine wpAny_comprehension_free rfl hs (closure_ok cells) ok.kind (fun y hy e => by rw [ok.uniq y hy, e]) (thn (hi.run pins s σ H _ I h) fun xv s1 hx => thn hx fun itv s2 ⟨it, fp, tn, J, H2, e, I2, T, at2, f2, q⟩ => ?_)
  subst e
  refine wpAny_newObj_type (newEnv_comp ?_)
  -- the new dict at D
  generalize eD : s2.heap.objs.size = D
  have nD : H2 D = none := I2.hok.fresh (Nat.le_of_eq eD)
  obtain ⟨W, ⟨m0, w0⟩, turn⟩ := q D nD
  generalize eH : upd H2 D (.dT []) = H3 at w0
  have low : ∀ b ∈ fp, b < s2.heap.objs.size := fun b hb => let ⟨_, z, _⟩ := T.obj _ _ at2 b hb; Heap.lt_size z
  have grow : ∀ (b : Addr) (o : Obj), s2.heap.get? b = some o → (s2.heap.push { cls := .type "dict", data := .dict #[] }).get? b = some o := fun b o z => Heap.get?_push_of_some _ z
  have I3 : Inv X pins σ H3 { s2 with heap := s2.heap.push { cls := .type "dict", data := .dict #[] } } := by
    rw [← eH]
    refine I2.laid (t' := s2.toks) grow (Nat.le_of_eq eD) ?_
    rw [← eD]
    exact dt_empty s2.heap I2.big
  have at3 : tn 0 (s2.heap.push { cls := .type "dict", data := .dict #[] }) := T.keep _ _ _ at2 fun b _ o z => grow b o z
  generalize es3 : ({ s2 with heap := s2.heap.push { cls := .type "dict", data := .dict #[] } } : Shared) = s3 at I3 ⊢
  have hs3 : s3.heap = s2.heap.push { cls := .type "dict", data := .dict #[] } := by rw [← es3]
  rw [← hs3] at at3
  have f3 : ∀ b ∈ fp, FpOk X pins H3 b ∧ b < s3.heap.objs.size := fun b hb => by
    have lt := low b hb
    have ne : b ≠ D := by
      rw [← eD]
      exact Nat.ne_of_lt lt
    refine ⟨⟨?_, (f2 b hb).2⟩, ?_⟩
    · rw [← eH, upd_ne ne]
      exact (f2 b hb).1
    · rw [hs3, Heap.size_push]
      exact Nat.lt_succ_of_lt lt
  have I4 := block_start I3 ok hN f3
  generalize eC : s3.heap.objs.size = C at I4 f3
  generalize ecl : cellsFrom (C + 1) scope.names (cloFrom X.env.cells scope.names []) = cl at I4
  generalize es4 : ({ s3 with heap := pushCells (s3.heap.push { cls := .type "dict", data := .dict #[] }) scope.names } : Shared) = s4 at I4
  have gE := hg s3 H3 C cl fp
  have tE := ht s3 H3 C cl fp
  have kE := hk s3 H3 C cl fp
  have vE := he s3 H3 C cl fp
  have cL : (compEnvC scope cl C X.env).locals = C := rfl
  have at4 : tn 0 s4.heap := T.keep _ _ _ at3 fun b _ o z => by
    rw [← es4]
    exact pushCells_keeps _ _ _ _ (Heap.get?_push_of_some _ z)
  have go : codeAny (model X.prog X.w) X.A (.compStart (.DictComp kx vx [⟨tg, iter, ifs, 0⟩] scope pos) 0 (.ref it) (.ref D) (compEnvC scope cl C X.env)) (compPost (model X.prog X.w) X.A X.xe none (L2.EP X pins σ Q) (.ref D) C) s4 := by
    have nfp : ∀ b ∈ fp, H3 b = none := fun b hb => (f3 b hb).1.1
    generalize compEnvC scope cl C X.env = ce at I4 gE tE kE vE cL
    have fpOk : ∀ {σ' : L2.St} {H' : Hp} {s' : Shared}, Inv (X.blk s3 H3 scope ce fp) [] σ' H' s' → (∀ b ∈ fp, H' b = none) → ∀ b ∈ fp, FpOk (X.blk s3 H3 scope ce fp) [] H' b := fun {σ' H' s'} I' n b hb =>
      ⟨n b hb, (I'.ok.exf b hb).1, I'.ok.exfs b hb, .inl hb, fun x c z => (I'.ok.exf b hb).2 x c z, fun p hp => False.elim (List.not_mem_nil hp)⟩
    have loop : codeAny (model X.prog X.w) X.A (.compLoop (.DictComp kx vx [⟨tg, iter, ifs, 0⟩] scope pos) 0 (.ref it) (.ref D) ce) (compPost (model X.prog X.w) X.A X.xe none (L2.EP X pins σ Q) (.ref D) C) s4 := by
      refine compLoop_anyD (fun n s' => ∃ i H', Inv (X.blk s3 H3 scope ce fp) [] (wipe σ (own.map (·.2))) H' s' ∧ tn i s'.heap ∧ (∀ b ∈ fp, H' b = none) ∧ W i n H') (fun n s5 w5 => ?_) m0 ⟨0, H3, I4, at4, nfp, w0⟩
      obtain ⟨i, H5, I5, at5, n5, w5⟩ := w5
      rcases turn i n H5 w5 with ⟨stop, out⟩ | ⟨more, Nx, less, step⟩
      · refine thnF (T.done (X.blk s3 H3 scope ce fp) rfl rfl rfl hc i [] s5 _ H5 (fun _ _ => False) I5 (fpOk I5 n5) at5 stop) fun r s6 ⟨none_, I6⟩ => ?_
        subst none_
        have I7 : Inv X pins σ H5 s6 := I3.call' (ch := fp) I6.os I6.base I6.hok I6.bare fun b hb => let z := (f3 b hb).1; ⟨z.2.2.2.1, z.2.1, z.2.2.2.2.1, z.2.2.2.2.2⟩
        have nC : H5 C = none := cL ▸ I6.free
        have hns : ∃ m, s6.heap.Ns C m := let ⟨m, z, _⟩ := I6.loc; ⟨m, cL ▸ z⟩
        obtain ⟨m, hn⟩ := hns
        have hC : C ≤ C := Nat.le_refl _
        obtain ⟨f0, f1, f2, f3', f4, f5⟩ := I3.fpOk (Nat.le_of_eq eC) nC
        exact ⟨m, hn, fun h'' sb => ⟨.ref D, H5, I7.turned (t' := s6.toks) (fun b o nb z => (sb.2 b nb).trans z) f0 f1 f3' f4 f5, rfl, out⟩⟩
      · refine thnF (T.item (X.blk s3 H3 scope ce fp) rfl rfl rfl hc i [] s5 _ H5 (fun _ _ => False) I5 (fpOk I5 n5) at5 more) fun r s6 ⟨u, some_, h6⟩ => ?_
        subst some_
        refine thnF h6 fun _ s7 ⟨x, H7, I7, r7, y7, at7, n7⟩ => ?_
        have P7 := I7.pinned (fpOk I7 n7) (T.obj _ _ at7)
        refine thnF (gE.run _ s7 _ H7 x u _ P7 r7 (step x H7 y7)) fun _ s8 ⟨σ8, H8, I8, wp8, q8⟩ => ?_
        have back : ∀ {s' : Shared} {H' : Hp}, Inv (X.blk s3 H3 scope ce fp) ([] ++ pinsAt fp s7.heap) σ8 H' s' → Nx H' → ∃ m, m < n ∧ ∃ i H', Inv (X.blk s3 H3 scope ce fp) [] (wipe σ (own.map (·.2))) H' s' ∧ tn i s'.heap ∧ (∀ b ∈ fp, H' b = none) ∧ W i m H' := fun {s' H'} I' nx => by
          obtain ⟨m', lt, w'⟩ := less H' nx
          have pin : ∀ b ∈ fp, ∀ o, s7.heap.get? b = some o → s'.heap.get? b = some o ∧ H' b = none := fun b hb o z =>
            let y := I'.pin (b, o) (List.mem_append_right _ (List.mem_append_right _ (mem_pinsAt hb z)))
            ⟨y.1, y.2.1⟩
          have len : (wipe σ (own.map (·.2))).length = σ8.length := by
            rw [← wp8]
            exact wipe_length _ _
          refine ⟨m', lt, i + 1, H', (I'.unpinned (pins := [])).weak len (fun j v z => ?_), T.keep _ _ _ at7 fun b hb o z => (pin b hb o z).1, fun b hb => ?_, w'⟩
          · rw [← wp8] at z
            exact (wipe_some z).1
          · obtain ⟨o, z, _⟩ := T.obj _ _ at7 b hb
            exact (pin b hb o z).2
        refine thnF (tE.run _ s8 σ8 H8 _ I8 q8) fun b s9 ⟨H9, I9, q9⟩ => ?_
        cases b with
        | false => exact back I9 q9
        | true =>
          refine thnF (kE.run _ s9 σ8 H9 _ I9 q9) fun z s10 ⟨yk, H10, I10, r10, q10⟩ => ?_
          refine thnF (vE.run _ s10 σ8 H10 _ I10 q10) fun z2 s11 ⟨yv, H11, I11, r11, kvs, k, a, ek, ha, hD, hz, nx⟩ => ?_
          subst ek
          cases (show z = Value.ref a from r10)
          exact setT (X := X.blk s3 H3 scope ce fp) hu I11 hD hz ha r11 fun s12 I12 => back I12 nx
    exact codeAny_compStart_dict loop (T.self X.A 0 _ _ _ at4 loop)
  exact go
def tabT (f : Nat → Bool) (key : Nat → List Key) (v : Nat → V) (n : Nat) : List (List Key × V) := ((List.range n).filter f).map fun i => (key i, v i)
theorem tabT_succ {f : Nat → Bool} {key : Nat → List Key} {v : Nat → V} {n : Nat} : tabT f key v (n + 1) = tabT f key v n ++ (if f n = true then [(key n, v n)] else []) := by
  unfold tabT
  rw [List.range_succ, List.filter_append, List.map_append, List.filter_cons]
  cases f n <;> rfl
theorem tabT_len {f : Nat → Bool} {key : Nat → List Key} {v : Nat → V} {n : Nat} : (tabT f key v n).length ≤ n := by
  unfold tabT
  rw [List.length_map]
  have h := List.length_filter_le f (List.range n)
  rwa [List.length_range] at h
theorem tabT_new {f : Nat → Bool} {key : Nat → List Key} {v : Nat → V} {n : Nat} (inj : ∀ i, i < n → key i ≠ key n) : valV (tabT f key v n) (key n) = none := by
  unfold valV
  rw [Option.map_eq_none_iff, List.find?_eq_none]
  intro p hp
  unfold tabT at hp
  obtain ⟨i, hi, rfl⟩ := List.mem_map.mp hp
  have := List.mem_range.mp (List.mem_filter.mp hi).1
  simp [inj i this]
theorem dcTR {lo : Int} {n j : Nat} {H1 : Hp} {σ : L2.St} {vs : List Nat} {tt : TT} {tk tv : TE} {Q : Addr → Hp → Prop} (f : Nat → Bool) (key : Nat → List Key) (v : Nat → V) (hn : n ≤ 40000) (hw : ∀ x, wipe ((wipe σ vs).set j (some x)) vs = wipe σ vs) (inj : ∀ i m, i < m → m < n → key i ≠ key m)
    (ht : ∀ (i : Nat) H', i < n → Same H1 H' → Tst tt (f i) ((wipe σ vs).set j (some (.int (lo + i)))) H')
    (hk : ∀ (i : Nat) H', i < n → Same H1 H' → Elt tk (fun i w H2 => ∃ q, w = .ref q ∧ H2 q = some (.tup ((key i).map kV))) i ((wipe σ vs).set j (some (.int (lo + i)))) H')
    (hv : ∀ (i : Nat) H', i < n → Same H1 H' → Elt tv (fun i w _ => w = v i) i ((wipe σ vs).set j (some (.int (lo + i)))) H')
    (k : ∀ (D : Addr) (H' : Hp), Same H1 H' → H1 D = none → H' D = some (.dT (tabT f key v n)) → Q D H') : DcT (Itr lo n) (gName j) tt tk tv vs σ H1 Q := fun D nD => by
  refine ⟨fun i m H => m = n - i ∧ i ≤ n ∧ Same H1 H ∧ H D = some (.dT (tabT f key v i)), ⟨n, by omega, by omega, Same.upd nD, upd_same⟩, ?_⟩
  rintro i m H ⟨rfl, hi, e, hD⟩
  by_cases lt : i < n
  · refine .inr ⟨lt, fun H' => Same H1 H' ∧ H' D = some (.dT (tabT f key v (i + 1))), fun H' p => ⟨n - (i + 1), by omega, rfl, lt, p.1, p.2⟩, fun x H' y => ?_⟩
    obtain ⟨rfl, rfl⟩ := y
    refine ⟨hw _, ht i _ lt e _ fun H2 e2 => ?_⟩
    cases hf : f i with
    | false =>
      refine iteF ⟨e.trans e2, ?_⟩
      rw [tabT_succ, hf, e2 _ _ hD]
      simp
    | true =>
      refine iteT (hk i H2 lt (e.trans e2) _ fun w H3 e3 ⟨q, ew, hq⟩ => ?_)
      refine hv i H3 lt (e.trans (e2.trans e3)) _ fun z H4 e4 ez => ?_
      have e14 := e2.trans (e3.trans e4)
      refine ⟨_, key i, q, ew, e4 _ _ hq, e14 _ _ hD, Nat.lt_of_le_of_lt tabT_len (Nat.lt_of_lt_of_le (show i < 100000 by omega) (by decide)), Same.mut (e.trans e14) nD, ?_⟩
      rw [upd_same, putK_new _ (tabT_new fun m hm => inj m i hm lt), tabT_succ, hf, ez]
      rfl
  · have ei : i = n := by omega
    subst ei
    exact .inl ⟨Nat.le_refl _, k D H e nD hD⟩
end
section
/-! ### a dict that is read and then left as it is -/
def tFrz (te : TE) : TE := fun σ H Q => te σ H fun x H1 => ∃ d u, x = .ref d ∧ H1 d = some u ∧ Mut (some u) ∧ ∀ od, Q x (upd H1 d (.frz od u))
theorem pe_frz {X : Cx} {e : Expr} {te : TE} (h : PE X e te) : PE X e (tFrz te) := by
  constructor
  intro pins s σ H Q I hw
  refine thn (h.run pins s σ H _ I hw) fun v s1 ⟨x, H1, I1, r1, d, u, ex, hd, mu, q⟩ => ?_
  obtain ⟨od, I2⟩ := I1.lock hd mu
  exact ⟨x, _, I2, r1, q od⟩
end
section
/-! ### the pairs met -/
/-- what a call hands back: a thing made anew -/
def RetN (H : Hp) (Q : VK) (R : Addr → Hp → Prop) : Prop := ∀ p H', H p = none → Same H H' → R p H' → Q (.ref p) H'
theorem Same.none {H H' : Hp} {p : Addr} (e : Same H H') (h : H' p = none) : H p = none := by
  cases z : H p with
  | none => rfl
  | some o =>
    rw [e _ _ z] at h
    cases h
def comA (t u : Tok) : Nat := (comT t u).1.toNat
def comD (t u : Tok) : Nat := (comT t u).2.2.toNat
/-- the pair at the i-th place, as one number -/
def pAt (t u : Tok) (i : Nat) : Nat := 10 * sgn t ((i % comA t u : Nat) : Int) ((i / comA t u : Nat) : Int) + sgn u ((i % comA t u : Nat) : Int) ((i / comA t u : Nat) : Int)
def cnt (t u : Tok) (i a : Nat) : Nat := ((List.range i).filter fun j => decide (pAt t u j = a)).length
theorem cnt_succ {t u : Tok} {i a : Nat} : cnt t u (i + 1) a = cnt t u i a + if pAt t u i = a then 1 else 0 := by
  unfold cnt
  rw [List.range_succ, List.filter_append, List.length_append]
  by_cases h : pAt t u i = a
  · simp [h]
  · simp [h]
theorem cnt_le {t u : Tok} {i a : Nat} : cnt t u i a ≤ i := by
  have h := List.length_filter_le (fun j => decide (pAt t u j = a)) (List.range i)
  rwa [List.length_range] at h
def cntV (t u : Tok) (i : Nat) : List V := (List.range 100).map fun a => V.int (cnt t u i a : Nat)
theorem cntV_at {t u : Tok} {i a : Nat} (h : a < 100) : (cntV t u i)[a]? = some (.int (cnt t u i a : Nat)) := by
  unfold cntV
  rw [List.getElem?_map, List.getElem?_range h]
  rfl
theorem cntV_len {t u : Tok} {i : Nat} : (cntV t u i).length = 100 := by
  unfold cntV
  rw [List.length_map, List.length_range]
theorem cntV_set {t u : Tok} {i : Nat} (h : pAt t u i < 100) : (cntV t u i).set (pAt t u i) (.int ((cnt t u i (pAt t u i) : Nat) + 1 : Int)) = cntV t u (i + 1) := by
  refine List.ext_getElem? fun a => ?_
  rw [List.getElem?_set]
  by_cases ha : a < 100
  · rw [cntV_at ha, cntV_at ha, cnt_succ, cntV_len]
    by_cases e : pAt t u i = a
    · subst e
      rw [if_pos rfl, if_pos h, if_pos rfl]
      rfl
    · rw [if_neg e, if_neg e]
      rfl
  · rw [List.getElem?_eq_none (by rw [cntV_len]; omega), List.getElem?_eq_none (by rw [cntV_len]; omega), if_neg (by omega)]
def pkey (a : Nat) : List Key := [.inl ((a / 10 : Nat) : Int), .inl ((a % 10 : Nat) : Int)]
theorem pkey_inj {a c : Nat} (h : pkey a = pkey c) : a = c := by
  unfold pkey at h
  injection h with h1 h2
  injection h2 with h2 _
  have e1 := Sum.inl.inj h1
  have e2 := Sum.inl.inj h2
  omega
/-- what is met -/
def met (t u : Tok) (a : Nat) : Bool := decide (0 < cnt t u (comD t u * comA t u) a)
abbrev metT (t u : Tok) : List (List Key × V) := tabT (met t u) pkey (fun a => .int (cnt t u (comD t u * comA t u) a : Nat)) 100
theorem ixN_nat {n i : Nat} (h : i < n) : ixN n (i : Int) = some i := by
  unfold ixN
  rw [if_pos (by omega), if_pos (by omega)]
  rfl
theorem pAt_lt {t u : Tok} (ht : t.Ok) (hu : u.Ok) (i : Nat) : pAt t u i < 100 := by
  obtain ⟨_, _, _, _, _, _, _, _, h1⟩ := (sgnAt ht ((i % comA t u : Nat) : Int) ((i / comA t u : Nat) : Int)).ex
  obtain ⟨_, _, _, _, _, _, _, _, h2⟩ := (sgnAt hu ((i % comA t u : Nat) : Int) ((i / comA t u : Nat) : Int)).ex
  unfold pAt
  omega
section
variable {P : Program} {w : World} {K : PySem.W.Frag} {mg : Str → Option Value} {base : Heap}
def sp_pairs (K : PySem.W.Frag) : Sp := fun vs H Q _ => ∃ (p q : Addr) (t u : Tok), vs = [.ref p, .ref q] ∧ IsCar K t p H ∧ IsCar K u q H ∧ t.Ok ∧ u.Ok ∧ L3s t ∧ L3s u ∧ RetN H Q (fun D H' => H' D = some (.dT (metT t u)))
theorem ok_pairs (T : Txt K mg base) : DefOk P w K mg base "pairs_met" 9 ["one", "other"] (sp_pairs K) := by
  refine defok T.d_pairs_met T.g_pairs_met sc_pairs_met (fun _ _ _ _ _ _ us hl => match us, hl with | [_, _], _ => rfl) (fun vs H Q E h => ?_) fun cdv A outer s H vs Q E hr h => ?_
  · obtain ⟨p, q, t, u, rfl, _⟩ := h
    rfl
  obtain ⟨p, q, t, u, rfl, hp, hq, ht, hu, ht3, hu3, k⟩ := h
  have hS := sc_pairs_met.nd
  have C := comT_ok ht3 hu3
  obtain ⟨dx, _, _, _, _, zp⟩ := hp.ex
  obtain ⟨dy, _, _, _, _, zq⟩ := hq.ex
  have eA : ((comA t u : Nat) : Int) = (comT t u).1 := Int.toNat_of_nonneg (by have := C.a1; show 0 ≤ (com (shp3 t) (shp3 u)).1; omega)
  have eD : ((comD t u : Nat) : Int) = (comT t u).2.2 := Int.toNat_of_nonneg (by have := C.d1; show 0 ≤ (com (shp3 t) (shp3 u)).2.2; omega)
  have a1 : 1 ≤ comA t u := by have : 1 ≤ (comT t u).1 := C.a1; omega
  have a2 : comA t u ≤ 144 := by have : (comT t u).1 ≤ 144 := C.a2; omega
  have d2 : comD t u ≤ 144 := by have : (comT t u).2.2 ≤ 144 := C.d2; omega
  have ar : comD t u * comA t u ≤ 144 := by
    have h1 : (comT t u).1 * (comT t u).2.2 ≤ 144 := C.ar
    rw [← eA, ← eD] at h1
    rw [Nat.mul_comm]
    have h2 : ((comA t u * comD t u : Nat) : Int) = (comA t u : Int) * (comD t u : Int) := Int.natCast_mul _ _
    omega
  refine ⟨_, pss_cons (ps_expr (pe_cd (ok_look T) hr (by decide) (by rfl) (pa_cons (pv 0) pa_nil))) (pss_cons (ps_expr (pe_cd (ok_look T) hr (by decide) (by rfl) (pa_cons (pv 1) pa_nil)))
    (pss_cons (ps_set (i := 2) hS rfl (.inr rfl) (pe_op op_rep (pe_lst (pa_cons pe_int pa_nil)) pe_int))
    (pss_cons (ps_for PassesOwn.never rfl (pi_list (pe_md0 (ok_places T) T.clsL hr (by decide) (pe_cd (ok_laying T) hr (by decide) (by rfl) (pa_cons (pe_lst (pa_cons (pv 0) (pa_cons (pv 1) pa_nil))) pa_nil)))) (pg_name (i := 3) hS rfl (.inl rfl))
      (pss_cons (ps_set (i := 4) hS rfl (.inl rfl) (pe_op op_add (pe_op op_mul pe_int (pe_md (ok_Ccolour T) T.clsC hr (by decide) (pv 0) (pa_cons (pv 3) pa_nil))) (pe_md (ok_Ccolour T) T.clsC hr (by decide) (pv 1) (pa_cons (pv 3) pa_nil))))
      (pss_one (ps_asg (pe_op op_add (pe_ix ix_list (pv 2) (pv 4) (fun _ _ => rfl)) pe_int) (pg_sub (pv 2) (pv 4) set_list)))))
    (pss_one (ps_ret (pe_dcT (own := [("at", 4)]) (g := gName 4) rfl hr.units0 hS (pi_range1 rfl T.f_range (pa_cons pe_int pa_nil))
      (blkOk_by (own := [("at", 4)]) (N := ["one", "other", "many", "place", "at"]) (sc := defScope s_pairs_met) (by decide +kernel))
      (fun _ _ _ _ _ => pg_name (i := 4) hS rfl (.inl rfl)) (fun _ _ _ _ _ => pts_one (pt_cmpR op_gt (pe_ix (ixL K) (pv 2) (pv 4) (fun _ _ => rfl)) pe_int (nomark _)))
      (fun _ _ _ _ _ => pe_tup (pa_cons (pe_op op_fdiv (pv 4) pe_int) (pa_cons (pe_op op_mod (pv 4) pe_int) pa_nil))) (fun _ _ _ _ _ => pe_ix (ixL K) (pv 2) (pv 4) (fun _ _ => rfl)))))))), ?_⟩
  refine ⟨_, rfl, p, t, rfl, hp, fun H1 e1 => ⟨_, rfl, q, u, rfl, hq.mono e1, fun H2 e2 => ⟨by show 1 ≤ sizeLine; decide, fun z nz => ⟨z, 100, [.int 0], rfl, rfl, upd_same, by decide, by decide, by show 1 * 100 ≤ sizeLine; decide, fun M nM => ?_⟩⟩⟩⟩
  have e3 := e1.trans (e2.trans ((Same.upd (o := .lst [.int 0]) nz).trans (Same.upd (o := .lst (List.replicate (100 : Int).toNat [V.int 0]).flatten) nM)))
  have hM0 : upd (upd H2 z (.lst [.int 0])) M (.lst (List.replicate (100 : Int).toNat [V.int 0]).flatten) M = some (.lst (cntV t u 0)) := by
    rw [upd_same]
    rfl
  generalize upd (upd H2 z (.lst [.int 0])) M (.lst (List.replicate (100 : Int).toNat [V.int 0]).flatten) = H3 at e3 hM0
  have nM0 : H M = none := by
    cases h : H M with
    | none => rfl
    | some o =>
      have h2 := (e1.trans (e2.trans (Same.upd (o := .lst [.int 0]) nz))) _ _ h
      rw [nM] at h2
      cases h2
  refine ⟨_, rfl, _, rfl, by show 2 ≤ sizeLine; decide, fun c nc => ?_⟩
  have e4 := Same.upd (o := .lst [.ref p, .ref q]) nc
  have e34 := e3.trans e4
  refine ⟨c, p, q, t, u, rfl, upd_same, hp.mono e34, hq.mono e34, ht3, hu3, fun l H5 e5 hl => ?_⟩
  obtain ⟨dl, hl0⟩ := hl.ex
  have hl' : IsLat K ((comA t u : Nat) : Int) (comT t u).2.1 ((comD t u : Nat) : Int) l H5 := by rw [eA, eD]; exact hl
  refine ⟨l, dl, _, rfl, hl0, lf_pls, l, comA t u, comD t u, (comT t u).2.1, rfl, hl', by omega, by omega, fun D acc H6 e6 hD hlen g => ?_⟩
  have e36 := e4.trans (e5.trans e6)
  have e06 := e3.trans e36
  have hM6 := e36 _ _ hM0
  have keep : ∀ {H' : Hp} {c : Addr} {o : HO}, Sb M H6 H' → H c = some o → H' c = some o := fun {H' c o} sb hc => sb _ _ (e06 _ _ hc) (ne_of_none hc nM0)
  have same : ∀ {H' : Hp}, Sb M H6 H' → Same H H' := fun {H'} sb c o hc => keep sb hc
  have nDM : D ≠ M := fun z => by
    rw [z] at hD
    have e := HO.lst.inj (Option.some.inj (hD.symm.trans hM6))
    obtain ⟨_, z0, _⟩ := g 0 _ (by rw [e]; exact cntV_at (by decide))
    cases z0
  refine ⟨D, rfl, ⟨_, SqL.of hD⟩, for_list (K := K) (a := D) (xs := acc) (fun i σ H' => ∃ y3 y4, σ = [some (.ref p), some (.ref q), some (.ref M), y3, y4] ∧ Sb M H6 H' ∧ H' M = some (.lst (cntV t u i)))
    ⟨none, none, rfl, Sb.of (Same.refl _), hM6⟩ (fun i σ H' _ ⟨_, _, _, e, _⟩ => SqL.of (e _ _ hD nDM)) ?_ ?_⟩
  · rintro i v σ H7 hi ⟨y3, y4, rfl, sb, hM⟩
    obtain ⟨pp, rfl, hpp⟩ := g i v hi
    have npp : pp ≠ M := ne_of hpp hM6 (fun z => nomatch z)
    have f7 := sb _ _ hpp npp
    have s7 := same sb
    refine ⟨_, rfl, p, dx, _, rfl, s7 _ _ zp.ob, cf_colour, _, rfl, p, pp, t, _, _, rfl, hp.mono s7, ht, f7, fun H8 e8 => ?_⟩
    refine ⟨_, _, rfl, rfl, .inl ⟨by omega, by omega⟩, _, rfl, q, dy, _, rfl, e8 _ _ (s7 _ _ zq.ob), cf_colour, _, rfl, q, pp, u, _, _, rfl, hq.mono (s7.trans e8), hu, e8 _ _ f7, fun H9 e9 => ?_⟩
    have hM9 := (e8.trans e9) _ _ hM
    have lt := pAt_lt ht hu i
    have eat : (10 : Int) * ((sgn t ((i % comA t u : Nat) : Int) ((i / comA t u : Nat) : Int) : Nat) : Int) + ((sgn u ((i % comA t u : Nat) : Int) ((i / comA t u : Nat) : Int) : Nat) : Int) = ((pAt t u i : Nat) : Int) := by
      unfold pAt
      omega
    refine ⟨_, _, rfl, rfl, ?_⟩
    refine ⟨_, rfl, _, rfl, M, _, _, _, rfl, rfl, SqL.of hM9, by rw [eat]; exact atI_nat (cntV_at lt), _, _, rfl, rfl, _, rfl, _, rfl, M, _, _, pAt t u i, rfl, rfl, hM9, ?_, ?_⟩
    · rw [cntV_len, eat]
      exact ixN_nat lt
    · refine ⟨_, _, rfl, (sb.trans (Sb.of (e8.trans e9))).trans Sb.put, ?_⟩
      rw [upd_same]
      exact congrArg (fun z => some (HO.lst z)) (cntV_set lt)
  · rintro σ H7 ⟨y3, y4, rfl, sb, hM⟩
    rw [hlen] at hM
    refine ⟨100, rfl, by decide, by decide, ?_⟩
    refine dcTR (n := 100) (lo := 0) (j := 4) (met t u) pkey (fun a => .int (cnt t u (comD t u * comA t u) a : Nat)) (by decide) ?_ (fun i m hi hm z => absurd (pkey_inj z) (by omega)) (fun i H8 hi e8 Q' z => ?_) (fun i H8 hi e8 Q' z => ?_) (fun i H8 hi e8 Q' z => ?_) fun D2 H8 e8 nD2 hD2 => k D2 H8 (Same.none (same sb) nD2) ((same sb).trans e8) hD2
    · intro x
      rfl
    · have hM8 := e8 _ _ hM
      refine ⟨_, rfl, _, rfl, M, _, _, _, rfl, rfl, SqL.of hM8, by rw [Int.zero_add]; exact atI_nat (cntV_at hi), _, _, rfl, rfl, _, rfl, ?_⟩
      have ed : decide ((0 : Int) < ((cnt t u (comD t u * comA t u) i : Nat) : Int)) = met t u i := by
        unfold met
        rw [Bool.eq_iff_iff, decide_eq_true_eq, decide_eq_true_eq]
        omega
      rw [ed]
      exact z H8 (Same.refl _)
    · refine ⟨_, rfl, _, _, rfl, rfl, ⟨by decide, by decide⟩, _, rfl, _, _, rfl, rfl, (by show (0 : Int) < 10; decide), by show 2 ≤ sizeLine; decide, fun a na => z _ _ (Same.upd na) ⟨a, rfl, ?_⟩⟩
      rw [upd_same, Int.zero_add]
      rfl
    · exact ⟨_, rfl, _, rfl, M, _, _, _, rfl, rfl, SqL.of (e8 _ _ hM), by rw [Int.zero_add]; exact atI_nat (cntV_at hi), z _ H8 (Same.refl _) rfl⟩
end
end
section
/-! ### the map that leads the one carpet to the other -/
def recF : List Nat → List (Nat × Nat) → Option (List (Nat × Nat))
  | [], acc => some acc
  | a :: r, acc => if (acc.any fun p => decide (p.1 = a / 10)) = true then none else recF r (acc ++ [(a / 10, a % 10)])
abbrev metL (t u : Tok) : List Nat := (List.range 100).filter (met t u)
def recM (t u : Tok) : Option (List (Nat × Nat)) := recF (metL t u) []
theorem any_mapK (m : List (Nat × Nat)) (c : Nat) : (valV (mapK m) (.inl ((c : Nat) : Int))).isSome = m.any fun p => decide (p.1 = c) := by
  rw [val_mapK, Option.isSome_map, Bool.eq_iff_iff, List.find?_isSome, List.any_eq_true]
theorem recF_len : ∀ {l : List Nat} {acc m : List (Nat × Nat)}, recF l acc = some m → m.length = acc.length + l.length
  | [], acc, m, h => by
    cases h
    rfl
  | a :: r, acc, m, h => by
    unfold recF at h
    split at h
    · cases h
    · rw [recF_len h, List.length_append, List.length_cons, List.length_cons, List.length_nil]
      omega
abbrev IsMap (m : List (Nat × Nat)) (D : Addr) (H : Hp) : Prop := H D = some (.dK (mapK m))
section
variable {P : Program} {w : World} {K : PySem.W.Frag} {mg : Str → Option Value} {base : Heap}
def sp_rec (K : PySem.W.Frag) : Sp := fun vs H Q _ => ∃ (p q : Addr) (t u : Tok), vs = [.ref p, .ref q] ∧ IsCar K t p H ∧ IsCar K u q H ∧ t.Ok ∧ u.Ok ∧ L3s t ∧ L3s u ∧
  (recM t u = none → Ret H Q .non) ∧ ∀ m, recM t u = some m → RetN H Q (IsMap m)
theorem ok_rec (T : Txt K mg base) : DefOk P w K mg base "recolouring" 10 ["one", "other"] (sp_rec K) := by
  refine defok T.d_recolouring T.g_recolouring sc_recolouring (fun _ _ _ _ _ _ us hl => match us, hl with | [_, _], _ => rfl) (fun vs H Q E h => ?_) fun cdv A outer s H vs Q E hr h => ?_
  · obtain ⟨p, q, t, u, rfl, _⟩ := h
    rfl
  obtain ⟨p, q, t, u, rfl, hp, hq, ht, hu, ht3, hu3, k1, k2⟩ := h
  have hS := sc_recolouring.nd
  have hu1 : ∀ {A' : Around}, Room 9 A' → A'.units + 1 < cLine := fun r => by have := r.units; omega
  refine ⟨_, pss_cons (ps_set (i := 2) hS rfl (.inl rfl) pe_dnewK)
    (pss_cons (ps_for PassesOwn.never rfl (pi_keys (pe_frz (pe_cd (ok_pairs T) hr (by decide) (by rfl) (pa_cons (pv 0) (pa_cons (pv 1) pa_nil))))) (pg_tup rfl (pgs_cons (pg_name (i := 3) hS rfl (.inl rfl)) (pgs_cons (pg_name (i := 4) hS rfl (.inl rfl)) pgs_nil)))
      (pss_cons (ps_if (pt_cmp (pc_din (hu1 hr) (pv 3) (pv 2))) (pss_one (ps_ret pe_non)) pss_nil)
      (pss_one (ps_dput (hu1 hr) (pv 2) (pv 3) (pv 4) rfl))))
    (pss_one (ps_ret (pv 2)))), ?_⟩
  refine fun F nF => ?_
  have e1 := Same.upd (o := .dK []) nF
  refine ⟨_, rfl, _, rfl, p, q, t, u, rfl, hp.mono e1, hq.mono e1, ht, hu, ht3, hu3, fun D H2 nD e2 hD => ?_⟩
  have hF2 : H2 F = some (.dK []) := e2 _ _ upd_same
  have nD0 : H D = none := Same.none e1 nD
  have nDF : D ≠ F := fun z => by
    rw [z, hF2] at hD
    cases hD
  refine ⟨D, _, rfl, hD, True.intro, fun od => ⟨D, od, rfl, .inr ⟨_, upd_same, ?_⟩⟩⟩
  have hF3 : upd H2 D (.frz od (.dT (metT t u))) F = some (.dK []) := (upd_ne (Ne.symm nDF)).trans hF2
  have hD3 : upd H2 D (.frz od (.dT (metT t u))) D = some (.frz od (.dT (metT t u))) := upd_same
  have e3 : Same H (upd H2 D (.frz od (.dT (metT t u)))) := Same.mut (e1.trans e2) nD0
  generalize upd H2 D (.frz od (.dT (metT t u))) = H3 at hF3 hD3 e3
  have same : ∀ {H' : Hp}, Sb F H3 H' → Same H H' := fun {H'} sb c o hc => sb _ _ (e3 _ _ hc) (ne_of_none hc nF)
  have lenL : (metT t u).length = (metL t u).length := List.length_map _
  refine for_it (walk_keysT (d := D) (o := od) (kvs := metT t u)) (fun i σ H' => ∃ acc y3 y4, σ = [some (.ref p), some (.ref q), some (.ref F), y3, y4] ∧ Sb F H3 H' ∧ H' F = some (.dK (mapK acc)) ∧ recF ((metL t u).drop i) acc = recM t u ∧ acc.length ≤ i)
    ⟨[], none, none, rfl, Sb.of (Same.refl _), hF3, rfl, Nat.le_refl _⟩ (fun i σ H' _ ⟨_, _, _, _, sb, _⟩ => sb _ _ hD3 nDF) ?_ ?_
  · rintro i v σ H4 H5 hi ⟨acc, y3, y4, rfl, sb, hF, hrec, hla⟩ ⟨rfl, kk, vv, c, hk, rfl, hc⟩
    have hl : i < (metL t u).length := by rw [← lenL]; exact hi
    have hk' : (metT t u)[i]? = some (pkey ((metL t u)[i]), .int (cnt t u (comD t u * comA t u) ((metL t u)[i]) : Nat)) := by
      show ((metL t u).map _)[i]? = _
      rw [List.getElem?_map, List.getElem?_eq_getElem hl]
      rfl
    have ek : kk = pkey ((metL t u)[i]) := congrArg Prod.fst (Option.some.inj (hk.symm.trans hk'))
    subst ek
    generalize ea : (metL t u)[i] = a at hc
    have hdrop : (metL t u).drop i = a :: (metL t u).drop (i + 1) := by rw [List.drop_eq_getElem_cons hl, ea]
    rw [hdrop] at hrec
    refine ⟨c, _, rfl, SqT.of hc, rfl, _, _, rfl, _, _, rfl, rfl, ?_⟩
    refine ⟨_, rfl, _, rfl, F, _, rfl, DGet.k (k := .inl ((a / 10 : Nat) : Int)) hF, ?_⟩
    rw [any_mapK]
    refine ⟨_, rfl, ?_⟩
    cases hany : acc.any fun p => decide (p.1 = a / 10) with
    | true =>
      refine iteT (k1 ?_ H5 (same sb))
      rw [← hrec]
      unfold recF
      rw [hany]
      rfl
    | false =>
      refine iteF ⟨_, rfl, _, rfl, _, rfl, F, _, rfl, DPut.k (k := .inl ((a / 10 : Nat) : Int)) hF ?_, ?_⟩
      · unfold mapK
        rw [List.length_map]
        have hl100 : (metL t u).length ≤ 100 := by
          have h := List.length_filter_le (met t u) (List.range 100)
          rwa [List.length_range] at h
        exact Nat.lt_of_lt_of_le (show acc.length < 100000 by omega) (by decide)
      have hnew : valV (mapK acc) (.inl ((a / 10 : Nat) : Int)) = none := by
        have h := any_mapK acc (a / 10)
        rw [hany] at h
        exact Option.isSome_eq_false_iff.mp h |> Option.isNone_iff_eq_none.mp
      refine ⟨acc ++ [(a / 10, a % 10)], _, _, rfl, sb.trans Sb.put, ?_, ?_, ?_⟩
      · rw [upd_same, putK_new _ hnew]
        unfold mapK
        rw [List.map_append]
        rfl
      · rw [← hrec]
        conv => rhs; unfold recF
        rw [hany]
        rfl
      · rw [List.length_append]
        show acc.length + 1 ≤ i + 1
        omega
  · rintro σ H4 ⟨acc, y3, y4, rfl, sb, hF, hrec, hla⟩
    rw [List.drop_of_length_le (by rw [← lenL]; exact Nat.le_refl _)] at hrec
    exact ⟨_, rfl, k2 acc hrec.symm F H4 nF (same sb) hF⟩
end
end
section
/-! ### draws -/
/-- where draws are taken from -/
def IsSrc (S : Addr) (H : Hp) : Prop := ∃ x y : Int, H S = some (.lst [.int x, .int y]) ∧ 0 ≤ x ∧ 0 ≤ y ∧ y < 2147483647
/-- what a call that draws hands back: all but the source stays -/
def RetS (S : Addr) (H : Hp) (Q : VK) (R : V → Hp → Prop) : Prop := ∀ v H', Sb S H H' → IsSrc S H' → R v H' → Q v H'
section
variable {P : Program} {w : World} {K : PySem.W.Frag} {mg : Str → Option Value} {base : Heap}
def sp_pool (K : PySem.W.Frag) : Sp := fun vs H Q _ => ∃ (a : Addr) (ns : List Int) (k : Nat), vs = [.ref a, .int k] ∧ SqL K H a (ns.map V.int) ∧ k ≤ 3 ∧ RetN H Q IsSrc
theorem ok_pool (T : Txt K mg base) : DefOk P w K mg base "_law_pool" 1 ["_law_script", "_law_k"] (sp_pool K) := by
  refine defok T.d_law_pool T.g_law_pool sc_law_pool (fun _ _ _ _ _ _ us hl => match us, hl with | [_, _], _ => rfl) (fun vs H Q E h => ?_) fun cdv A outer s H vs Q E hr h => ?_
  · obtain ⟨a, ns, k, rfl, _⟩ := h
    rfl
  obtain ⟨a, ns, k, rfl, ha, hk, q⟩ := h
  have hS := sc_law_pool.nd
  refine ⟨_, pss_cons (ps_set (i := 2) hS rfl (.inl rfl) pe_int)
    (pss_cons (ps_if (pt_cmpR op_lt (pv 1) (pe_callB call_len (by rfl) T.f_len (by decide +kernel) (pa_cons (pv 0) pa_nil)) (nomark _))
      (pss_one (ps_set (i := 2) hS rfl (.inl rfl) (pe_ix ix_list (pv 0) (pv 1) (fun _ _ => rfl)))) pss_nil)
    (pss_cons (ps_set (i := 3) hS rfl (.inl rfl) (pe_callB (call_max2 rfl) (by rfl) T.f_max (by decide +kernel) (pa_cons (pe_callTy call_int1 (by rfl) T.f_int (by decide +kernel) (pa_cons (pv 2) pa_nil))
      (pa_cons (pe_callTy call_int1 (by rfl) T.f_int (by decide +kernel) (pa_cons (pe_op op_sub (pe_un un_neg pe_int) (pv 2)) pa_nil)) pa_nil))))
    (pss_cons (ps_set (i := 4) hS rfl (.inl rfl) (pe_op op_mod (pe_callTy call_int1 (by rfl) T.f_int (by decide +kernel) (pa_cons (pe_op op_mul (pe_op op_add (pe_op op_add (pe_op op_add (pe_op op_mod (pe_callTy call_int1 (by rfl) T.f_int (by decide +kernel) (pa_cons (pv 3) pa_nil)) pe_int)
        (pe_op op_mul (pe_op op_mul pe_int (pv 1)) (pv 1))) (pe_op op_mul pe_int (pv 1))) pe_int) pe_int) pa_nil)) pe_int))
    (pss_one (ps_ret (pe_lst (pa_cons (pe_op op_mul (pv 3) (pe_callTy call_int1 (by rfl) T.f_int (by decide +kernel) (pa_cons (pe_cmpR op_ge (pv 3) (pe_op op_pow pe_int pe_int) (nomark _)) pa_nil))) (pa_cons (pv 4) pa_nil)))))))), ?_⟩
  have hk0 : (0 : Int) ≤ k := Int.natCast_nonneg k
  refine ⟨_, rfl, _, rfl, _, (ns.map V.int).length, rfl, .inl ⟨_, ha, rfl⟩, _, _, rfl, rfl, _, rfl, ?_⟩
  by_cases hlt : (k : Int) < ((ns.map V.int).length : Nat)
  case' pos =>
    have hat : (ns.map V.int)[k]? = some (.int (ns[k]'(by rw [List.length_map] at hlt; omega))) := by
      rw [List.getElem?_map, List.getElem?_eq_getElem]
      rfl
    refine iteD hlt ⟨_, rfl, _, rfl, a, _, _, _, rfl, rfl, ha, atI_nat hat, ?_⟩
    generalize ns[k]'(by rw [List.length_map] at hlt; omega) = c
  case' neg =>
    refine iteDF hlt ?_
    generalize hz : V.int 0 = vc
    obtain ⟨c, rfl⟩ : ∃ c, vc = V.int c := ⟨0, hz.symm⟩
  all_goals
    refine ⟨_, rfl, .inl ⟨c, rfl, 1, rfl, _, rfl, _, _, rfl, rfl, .inl ⟨_, rfl, _, _, rfl, ?_⟩⟩⟩
    have hbig : 0 ≤ (if (-1 - c : Int) > c then (-1 - c : Int) else c) := by
      split <;> omega
    generalize (if (-1 - c : Int) > c then (-1 - c : Int) else c) = b at hbig
    have hk3 : (k : Int) ≤ 3 := by omega
    refine ⟨_, rfl, .inl ⟨_, rfl, _, _, rfl, rfl, (by show (0 : Int) < 2147483629; decide), _, rfl, _, _, rfl, rfl, .inl ⟨by decide, by decide⟩, _, rfl, _, _, rfl, rfl, .inr ⟨by omega, by omega⟩, _, _, rfl, rfl, _, rfl, _, _, rfl, rfl, .inr ⟨by omega, by omega⟩, _, _, rfl, rfl,
      _, _, rfl, rfl, _, _, rfl, rfl, .inr ⟨by decide, by decide⟩, .inl ⟨_, rfl, _, _, rfl, rfl, (by show (0 : Int) < 2147483647; decide), ?_⟩⟩⟩
    refine ⟨_, rfl, _, rfl, _, _, rfl, rfl, ⟨by decide, by decide, by decide⟩, _, _, rfl, rfl, .inr ⟨_, rfl, _, _, rfl, rfl, .inr ?_, _, rfl, by show 2 ≤ sizeLine; decide, fun S nS => ?_⟩⟩
    · split <;> decide
    · refine q S _ nS (Same.upd nS) ⟨_, _, upd_same, ?_, Int.emod_nonneg _ (by decide), Int.emod_lt_of_pos _ (by decide)⟩
      split
      · rw [Int.mul_one]
        exact hbig
      · rw [Int.mul_zero]
        decide
def sp_take : Sp := fun vs H Q _ => ∃ (S : Addr) (n : Nat), vs = [.ref S, .int n] ∧ IsSrc S H ∧ 1 ≤ n ∧ n ≤ 100 ∧ RetS S H Q (fun v _ => ∃ r : Nat, v = .int r ∧ r < n)
theorem ok_take (T : Txt K mg base) : DefOk P w K mg base "_law_take" 1 ["_law_source", "_law_top"] sp_take := by
  refine defok T.d_law_take T.g_law_take sc_law_take (fun _ _ _ _ _ _ us hl => match us, hl with | [_, _], _ => rfl) (fun vs H Q E h => ?_) fun cdv A outer s H vs Q E hr h => ?_
  · obtain ⟨S, n, rfl, _⟩ := h
    rfl
  obtain ⟨S, n, rfl, ⟨x, y, hs, hx, hy, hy2⟩, h1, h2, q⟩ := h
  have hS := sc_law_take.nd
  refine ⟨_, pss_cons (ps_if (pt_cmpR op_gt (pe_ix ix_list (pv 0) pe_int (fun _ _ => rfl)) pe_int (nomark _))
      (pss_cons (ps_set (i := 2) hS rfl (.inl rfl) (pe_op op_mod (pe_callTy call_int1 (by rfl) T.f_int (by decide +kernel) (pa_cons (pe_ix ix_list (pv 0) pe_int (fun _ _ => rfl)) pa_nil)) (pv 1)))
      (pss_cons (ps_asg (pe_op op_fdiv (pe_ix ix_list (pv 0) pe_int (fun _ _ => rfl)) (pv 1)) (pg_sub (pv 0) pe_int set_list))
      (pss_one (ps_ret (pv 2))))) pss_nil)
    (pss_cons (ps_asg (pe_op op_mod (pe_callTy call_int1 (by rfl) T.f_int (by decide +kernel) (pa_cons (pe_op op_add (pe_op op_mul (pe_ix ix_list (pv 0) pe_int (fun _ _ => rfl)) pe_int) pe_int) pa_nil)) pe_int) (pg_sub (pv 0) pe_int set_list))
    (pss_one (ps_ret (pe_op op_mod (pe_callTy call_int1 (by rfl) T.f_int (by decide +kernel) (pa_cons (pe_op op_fdiv (pe_op op_mod (pe_callTy call_int1 (by rfl) T.f_int (by decide +kernel)
      (pa_cons (pe_op op_mul (pe_ix ix_list (pv 0) pe_int (fun _ _ => rfl)) (pe_ix ix_list (pv 0) pe_int (fun _ _ => rfl))) pa_nil)) pe_int) pe_int) pa_nil)) (pv 1))))), ?_⟩
  refine ⟨_, rfl, S, _, _, _, rfl, rfl, SqL.of hs, atI_nat (j := 0) rfl, _, _, rfl, rfl, _, rfl, ?_⟩
  by_cases hp : (0 : Int) < x
  · refine iteD hp ⟨_, rfl, S, _, _, _, rfl, rfl, SqL.of hs, atI_nat (j := 0) rfl, .inl ⟨_, rfl, _, rfl, _, _, rfl, rfl, (by show (0 : Int) < n; omega), ?_⟩⟩
    refine ⟨_, rfl, S, _, _, _, rfl, rfl, SqL.of hs, atI_nat (j := 0) rfl, _, rfl, _, _, rfl, rfl, ⟨by omega, by omega⟩, _, rfl, S, _, _, 0, rfl, rfl, hs, rfl, _, rfl, ?_⟩
    have hr1 := Int.emod_nonneg x (b := (n : Int)) (by omega)
    have hr2 := Int.emod_lt_of_pos x (b := (n : Int)) (by omega)
    refine q _ _ Sb.put ⟨_, _, upd_same, Int.ediv_nonneg hx (by omega), hy, hy2⟩ ⟨(x % (n : Int)).toNat, ?_, by omega⟩
    show V.int (x % (n : Int)) = _
    rw [Int.toNat_of_nonneg hr1]
  · refine iteDF hp ⟨_, rfl, S, _, _, _, rfl, rfl, SqL.of hs, atI_nat (j := 1) rfl, _, _, rfl, rfl, .inr ⟨by decide, by decide⟩, _, _, rfl, rfl, .inl ⟨_, rfl, _, _, rfl, rfl, (by show (0 : Int) < 2147483647; decide), _, rfl, S, _, _, 1, rfl, rfl, hs, rfl, ?_⟩⟩
    have m0 : 0 ≤ (y * 39373 + 7) % 2147483647 := Int.emod_nonneg _ (by decide)
    have m1 : (y * 39373 + 7) % 2147483647 < 2147483647 := Int.emod_lt_of_pos _ (by decide)
    obtain ⟨m, hm⟩ : ∃ m, m = (y * 39373 + 7) % 2147483647 := ⟨_, rfl⟩
    have hs2 : upd H S (.lst [.int x, .int ((y * 39373 + 7) % 2147483647)]) S = some (.lst [.int x, .int m]) := by
      rw [upd_same, hm]
    rw [← hm] at m0 m1
    refine ⟨_, rfl, S, _, _, _, rfl, rfl, SqL.of hs2, atI_nat (j := 1) rfl, _, rfl, S, _, _, _, rfl, rfl, SqL.of hs2, atI_nat (j := 1) rfl, _, _, rfl, rfl, .inl ⟨by omega, by omega⟩, .inl ⟨_, rfl, _, _, rfl, rfl, (by show (0 : Int) < 2147483629; decide),
      _, _, rfl, rfl, ⟨by decide, by decide⟩, .inl ⟨_, rfl, _, rfl, _, _, rfl, rfl, (by show (0 : Int) < n; omega), ?_⟩⟩⟩
    generalize m * m % 2147483629 / 32 = z
    have hr1 := Int.emod_nonneg z (b := (n : Int)) (by omega)
    have hr2 := Int.emod_lt_of_pos z (b := (n : Int)) (by omega)
    refine q _ _ Sb.put ⟨_, _, hs2, hx, m0, m1⟩ ⟨(z % (n : Int)).toNat, ?_, by omega⟩
    show V.int (z % (n : Int)) = _
    rw [Int.toNat_of_nonneg hr1]
def sp_one (K : PySem.W.Frag) : Sp := fun vs H Q _ => ∃ (S : Addr) (t : V), vs = [.ref S, t] ∧ IsSrc S H ∧
  ((∃ (L : Addr) (xs : List V), t = .ref L ∧ H L = some (.lst xs) ∧ L ≠ S ∧ 1 ≤ xs.length ∧ xs.length ≤ 100 ∧ RetS S H Q (fun v _ => v ∈ xs)) ∨
    ∃ ds : List Nat, t = .str (dS ds) ∧ 1 ≤ ds.length ∧ ds.length ≤ 100 ∧ RetS S H Q (fun v _ => ∃ c, c ∈ ds ∧ v = .str (dS [c])))
theorem ok_one (T : Txt K mg base) : DefOk P w K mg base "_law_one" 2 ["_law_source", "_law_things"] (sp_one K) := by
  refine defok T.d_law_one T.g_law_one sc_law_one (fun _ _ _ _ _ _ us hl => match us, hl with | [_, _], _ => rfl) (fun vs H Q E h => ?_) fun cdv A outer s H vs Q E hr h => ?_
  · obtain ⟨S, t, rfl, _⟩ := h
    rfl
  obtain ⟨S, t, rfl, hs, ⟨L, xs, rfl, hL, nL, h1, h2, q⟩ | ⟨ds, rfl, h1, h2, q⟩⟩ := h
  · refine ⟨_, pss_one (ps_ret (pe_ix ix_list (pv 1) (pe_cd (ok_take T) hr (by decide) (by rfl) (pa_cons (pv 0) (pa_cons (pe_callB call_len (by rfl) T.f_len (by decide +kernel) (pa_cons (pv 1) pa_nil)) pa_nil))) (fun _ _ => rfl))), ?_⟩
    refine ⟨_, rfl, _, rfl, _, rfl, _, _, rfl, .inl ⟨_, SqL.of hL, rfl⟩, S, xs.length, rfl, hs, h1, h2, fun v H1 sb hs1 ⟨r, ev, hr⟩ => ?_⟩
    subst ev
    refine ⟨L, _, _, _, rfl, rfl, SqL.of (sb _ _ hL nL), atI_nat (List.getElem?_eq_getElem hr), ?_⟩
    exact q _ H1 sb hs1 (List.getElem_mem hr)
  · refine ⟨_, pss_one (ps_ret (pe_ix ix_str (pv 1) (pe_cd (ok_take T) hr (by decide) (by rfl) (pa_cons (pv 0) (pa_cons (pe_callB call_len (by rfl) T.f_len (by decide +kernel) (pa_cons (pv 1) pa_nil)) pa_nil))) (fun _ _ => rfl))), ?_⟩
    refine ⟨_, rfl, _, rfl, _, rfl, _, _, rfl, ⟨small_str (by rw [dS_len]; omega), rfl⟩, S, ds.length, ?_, hs, h1, h2, fun v H1 sb hs1 ⟨r, ev, hr⟩ => ?_⟩
    · rw [dS_len]
      rfl
    subst ev
    refine ⟨dS ds, _, 48 + ds[r], rfl, rfl, small_str (by rw [dS_len]; omega), atI_nat (dS_at (List.getElem?_eq_getElem hr)), ?_⟩
    exact q _ H1 sb hs1 ⟨ds[r], List.getElem_mem hr, rfl⟩
end
end
section
/-! ### tokens -/
structure CwS (S : Addr) (Pv : V → Prop) (H1 : Hp) (D : Addr) (i : Nat) (H' : Hp) : Prop where
  new : H1 D = none
  sb : Sb S H1 H'
  src : IsSrc S H'
  ex : ∃ acc, H' D = some (.lst acc) ∧ acc.length = i ∧ ∀ v ∈ acc, Pv v
theorem IsSrc.ne {S D : Addr} {H : Hp} (h : IsSrc S H) (n : H D = none) : D ≠ S := by
  obtain ⟨x, y, z, _⟩ := h
  exact fun e => by
    rw [e, z] at n
    cases n
theorem IsSrc.put {S D : Addr} {H : Hp} {o : HO} (h : IsSrc S H) (n : D ≠ S) : IsSrc S (upd H D o) := by
  obtain ⟨x, y, z, r⟩ := h
  exact ⟨x, y, (upd_ne (Ne.symm n)).trans z, r⟩
theorem Sb.mut {S D : Addr} {H H' : Hp} {o : HO} (e : Sb S H H') (n : H D = none) : Sb S H (upd H' D o) := fun c u hc nc => by
  rw [upd_ne (ne_of_none hc n)]
  exact e c u hc nc
/-- an element that draws -/
abbrev EltS (S : Addr) (te : TE) (Pv : V → Prop) (σ : L2.St) (H' : Hp) : Prop := ∀ Q' : VK, (∀ v H2, Sb S H' H2 → IsSrc S H2 → Pv v → Q' v H2) → te σ H' Q'
theorem lcRS {S : Addr} {Pv : V → Prop} {H1 : Hp} {σ : L2.St} {vs : List Nat} {j n : Nat} {lo : Int} {te : TE} {Q : Addr → Hp → Prop} (hs : IsSrc S H1) (hn : n ≤ 40000) (hw : ∀ x, wipe ((wipe σ vs).set j (some x)) vs = wipe σ vs)
    (he : ∀ (i : Nat) H', i < n → Sb S H1 H' → IsSrc S H' → EltS S te Pv ((wipe σ vs).set j (some (.int (lo + i)))) H')
    (k : ∀ (D : Addr) (acc : List V) (H' : Hp), H1 D = none → Sb S H1 H' → IsSrc S H' → H' D = some (.lst acc) → acc.length = n → (∀ v ∈ acc, Pv v) → Q D H') : LcGo (Itr lo n) (gName j) tYes te vs σ H1 Q := fun D nD =>
  lc_range (CwS S Pv H1 D) ⟨nD, (Sb.of (Same.refl _)).mut nD, hs.put (hs.ne nD), [], upd_same, rfl, fun v hv => nomatch hv⟩ (fun i H' hi p => ⟨hw _, he i H' hi p.sb p.src _ fun v H2 sb2 hs2 pv => by
    obtain ⟨n1, s1, _, acc, hD, hl, g⟩ := p
    have hD2 := sb2 _ _ hD (hs.ne nD)
    refine ⟨acc, hD2, Nat.lt_of_lt_of_le (show acc.length < 100000 by omega) (by decide), n1, (s1.trans sb2).mut n1, hs2.put (hs.ne nD), acc ++ [v], upd_same, ?_, ?_⟩
    · rw [List.length_append, hl]
      rfl
    · intro u hu
      rcases List.mem_append.mp hu with h | h
      · exact g u h
      · rw [List.mem_singleton.mp h]
        exact pv⟩) fun H' p => by
    obtain ⟨n1, s1, s2, acc, hD, hl, g⟩ := p
    exact k D acc H' n1 s1 s2 hD hl g
theorem picks {α : Type} {f : α → V} {p : α → Prop} : ∀ {acc : List V}, (∀ v ∈ acc, ∃ c, p c ∧ v = f c) → ∃ cs : List α, acc = cs.map f ∧ ∀ c ∈ cs, p c
  | [], _ => ⟨[], rfl, fun c hc => nomatch hc⟩
  | v :: r, h => by
    obtain ⟨c, pc, rfl⟩ := h v List.mem_cons_self
    obtain ⟨cs, e, q⟩ := picks (acc := r) fun u hu => h u (List.mem_cons_of_mem _ hu)
    refine ⟨c :: cs, by rw [e]; rfl, fun x hx => ?_⟩
    rcases List.mem_cons.mp hx with h | h
    · rw [h]
      exact pc
    · exact q x h
structure IsTk (t : Tok) (p : Addr) (H : Hp) : Prop where
  ex : ∃ r, H p = some (.tup [.int t.a, .int t.b, .int t.d, .ref r]) ∧ IsRows t.rows r H
theorem IsTk.mono {t : Tok} {p : Addr} {H H' : Hp} (h : IsTk t p H) (e : Same H H') : IsTk t p H' := by
  obtain ⟨r, h1, h2⟩ := h.ex
  exact ⟨r, e _ _ h1, e _ _ h2⟩
theorem IsTk.sb {t : Tok} {p S : Addr} {H H' : Hp} (h : IsTk t p H) (hs : IsSrc S H) (e : Sb S H H') : IsTk t p H' := by
  obtain ⟨r, h1, h2⟩ := h.ex
  obtain ⟨x, y, z, _⟩ := hs
  exact ⟨r, e _ _ h1 (ne_of h1 z (fun q => nomatch q)), e _ _ h2 (ne_of h2 z (fun q => nomatch q))⟩
/-- tokens are small -/
structure Tok.Sm (t : Tok) : Prop where
  ok : t.Ok
  a3 : t.a ≤ 6
  d3 : t.d ≤ 3
  per : ∃ w : Nat, 1 ≤ w ∧ w ≤ 3 ∧ w ∣ t.a ∧ ∀ x y : Int, sgn t (x + w) y = sgn t x y
theorem sgn_a {t : Tok} (x y : Int) : sgn t (x + t.a) y = sgn t x y := by
  have e : plX t.a t.b t.d (x + t.a) y = plX t.a t.b t.d x y := by
    unfold plX
    have z : x + (t.a : Int) - y / (t.d : Int) * (t.b : Int) = (x - y / (t.d : Int) * (t.b : Int)) + (t.a : Int) := by omega
    rw [z, Int.add_emod_right]
  unfold sgn
  rw [e]
structure Tok.Sm3 (t : Tok) : Prop where
  sm : t.Sm
  a3 : t.a ≤ 3
def widths : List Int := [1, 1, 2, 2, 2, 3, 3]
def heights : List Int := [1, 1, 2, 2, 3]
def figs : List (List Nat) := [[0], [0, 1], [0, 1], [0, 1], [0, 1, 2], [1, 9]]
theorem width_ok {v : V} (h : v ∈ widths.map V.int) : ∃ a : Nat, v = .int (a : Int) ∧ 1 ≤ a ∧ a ≤ 3 := by
  obtain ⟨z, hz, rfl⟩ := List.mem_map.mp h
  have : ∀ z ∈ widths, 1 ≤ z ∧ z ≤ 3 := by decide
  have := this z hz
  exact ⟨z.toNat, by rw [Int.toNat_of_nonneg (by omega)], by omega, by omega⟩
theorem height_ok {v : V} (h : v ∈ heights.map V.int) : ∃ a : Nat, v = .int (a : Int) ∧ 1 ≤ a ∧ a ≤ 3 := by
  obtain ⟨z, hz, rfl⟩ := List.mem_map.mp h
  have : ∀ z ∈ heights, 1 ≤ z ∧ z ≤ 3 := by decide
  have := this z hz
  exact ⟨z.toNat, by rw [Int.toNat_of_nonneg (by omega)], by omega, by omega⟩
theorem fig_ok {v : V} (h : v ∈ figs.map fun z => V.str (dS z)) : ∃ ds, v = .str (dS ds) ∧ 1 ≤ ds.length ∧ ds.length ≤ 100 ∧ ∀ c ∈ ds, c ≤ 9 := by
  obtain ⟨z, hz, rfl⟩ := List.mem_map.mp h
  have : ∀ z ∈ figs, 1 ≤ z.length ∧ z.length ≤ 100 ∧ ∀ c ∈ z, c ≤ 9 := by decide
  have := this z hz
  exact ⟨z, rfl, this.1, this.2.1, this.2.2⟩
section
variable {P : Program} {w : World} {K : PySem.W.Frag} {mg : Str → Option Value} {base : Heap}
def sp_rounds (K : PySem.W.Frag) : Sp := fun vs H Q _ => ∃ (a : Addr) (xs : List V), vs = [.ref a] ∧ SqL K H a xs ∧ ∀ (n : Nat), 1 ≤ n → n ≤ 3 → RetN H Q (fun L H' => H' L = some (.lst (rgV 0 n)))
theorem ok_rounds (T : Txt K mg base) : DefOk P w K mg base "_law_rounds" 1 ["_law_script"] (sp_rounds K) := by
  refine defok T.d_law_rounds T.g_law_rounds sc_law_rounds (fun _ _ _ _ _ _ us hl => match us, hl with | [_], _ => rfl) (fun vs H Q E h => ?_) fun cdv A outer s H vs Q E hr h => ?_
  · obtain ⟨a, xs, rfl, _⟩ := h
    rfl
  obtain ⟨a, xs, rfl, ha, q⟩ := h
  refine ⟨_, pss_one (ps_ret (pe_listRg rfl (by rfl) T.f_list (prg_1 (by rfl) T.f_range (pe_callB (call_max2 rfl) (by rfl) T.f_max (by decide +kernel) (pa_cons pe_int (pa_cons (pe_callB (call_min2 rfl) (by rfl) T.f_min (by decide +kernel)
    (pa_cons (pe_callB call_len (by rfl) T.f_len (by decide +kernel) (pa_cons (pv 0) pa_nil)) (pa_cons pe_int pa_nil))) pa_nil)))))), ?_⟩
  refine ⟨_, rfl, _, xs.length, rfl, .inl ⟨_, ha, rfl⟩, _, _, rfl, _, _, rfl, _, rfl, ?_⟩
  obtain ⟨n, en, h1, h3⟩ : ∃ n : Nat, (if (if (3 : Int) < (xs.length : Nat) then (3 : Int) else (xs.length : Nat)) > (1 : Int) then (if (3 : Int) < (xs.length : Nat) then (3 : Int) else (xs.length : Nat)) else (1 : Int)) = (n : Int) ∧ 1 ≤ n ∧ n ≤ 3 := by
    refine ⟨(if (if (3 : Int) < (xs.length : Nat) then (3 : Int) else (xs.length : Nat)) > (1 : Int) then (if (3 : Int) < (xs.length : Nat) then (3 : Int) else (xs.length : Nat)) else (1 : Int)).toNat, ?_, ?_, ?_⟩ <;> (split <;> split <;> omega)
  rw [en]
  exact ⟨RgOk.of_le (by decide) (by omega) (by decide) (by omega), fun L nL => q n h1 h3 L _ nL (Same.upd nL) upd_same⟩
end
end
section
section
variable {P : Program} {w : World} {K : PySem.W.Frag} {mg : Str → Option Value} {base : Heap}
def sp_token : Sp := fun vs H Q _ => ∃ (S : Addr), vs = [.ref S] ∧ IsSrc S H ∧ RetS S H Q (fun v H' => ∃ t p, v = .ref p ∧ IsTk t p H' ∧ t.Sm3)
theorem ok_token (T : Txt K mg base) : DefOk P w K mg base "_law_token" 3 ["_law_source"] sp_token := by
  refine defok T.d_law_token T.g_law_token sc_law_token (fun _ _ _ _ _ _ us hl => match us, hl with | [_], _ => rfl) (fun vs H Q E h => ?_) fun cdv A outer s H vs Q E hr h => ?_
  · obtain ⟨S, rfl, _⟩ := h
    rfl
  obtain ⟨S, rfl, hs, q⟩ := h
  have hS := sc_law_token.nd
  refine ⟨_, pss_cons (ps_asg (pe_tup (pa_cons (pe_cd (ok_one T) hr (by decide) (by rfl) (pa_cons (pv 0) (pa_cons (pe_lst (pa_cons pe_int (pa_cons pe_int (pa_cons pe_int (pa_cons pe_int (pa_cons pe_int (pa_cons pe_int (pa_cons pe_int pa_nil)))))))) pa_nil)))
      (pa_cons (pe_cd (ok_one T) hr (by decide) (by rfl) (pa_cons (pv 0) (pa_cons (pe_lst (pa_cons pe_int (pa_cons pe_int (pa_cons pe_int (pa_cons pe_int (pa_cons pe_int pa_nil)))))) pa_nil))) pa_nil)))
      (pg_tup rfl (pgs_cons (pg_name (i := 1) hS rfl (.inr rfl)) (pgs_cons (pg_name (i := 2) hS rfl (.inl rfl)) pgs_nil))))
    (pss_cons (ps_set (i := 3) hS rfl (.inr rfl) (pe_cd (ok_one T) hr (by decide) (by rfl) (pa_cons (pv 0) (pa_cons (pe_lst (pa_cons pe_str (pa_cons pe_str (pa_cons pe_str (pa_cons pe_str (pa_cons pe_str (pa_cons pe_str pa_nil))))))) pa_nil))))
    (pss_cons (ps_setLc (i := 4) (own := [("_law_y", 5)]) (g := gName 5) (tt := tYes) rfl hS rfl rfl rfl (pi_range1 rfl T.f_range (pa_cons (pv 2) pa_nil))
      (blkOk_by (own := [("_law_y", 5)]) (N := ["_law_source", "_law_wide", "_law_high", "_law_signs", "_law_rows_here", "_law_y", "_law_x"]) (sc := defScope s_law_token) (by decide +kernel))
      (fun _ _ _ _ _ => pg_name (i := 5) hS rfl (Or.inl rfl)) (fun _ _ _ _ _ => pts_nil)
      (fun _ _ _ _ _ => pjn K pe_str (pe_lc (own := [("_law_x", 6)]) (g := gName 6) (tt := tYes) rfl hS (pi_range1 rfl T.f_range (pa_cons (pv 1) pa_nil))
        (blkOk_by (own := [("_law_x", 6)]) (by rfl))
        (fun _ _ _ _ _ => pg_name (i := 6) hS rfl (Or.inl rfl)) (fun _ _ _ _ _ => pts_nil)
        (fun _ _ _ _ _ => pe_cd (ok_one T) hr (by decide) (by rfl) (pa_cons (pv 0) (pa_cons (pv 3) pa_nil))))))
    (pss_one (ps_ret (pe_tup (pa_cons (pv 1) (pa_cons (pe_cd (ok_take T) hr (by decide) (by rfl) (pa_cons (pv 0) (pa_cons (pv 1) pa_nil))) (pa_cons (pv 2)
      (pa_cons (pe_callTy call_tuple_of (by rfl) T.f_tuple (by decide +kernel) (pa_cons (pv 4) pa_nil)) pa_nil))))))))), ?_⟩
  -- the width and the height
  refine ⟨_, rfl, by show 7 ≤ sizeLine; decide, fun L1 n1 => ?_⟩
  have hs1 := hs.put (o := .lst (widths.map V.int)) (hs.ne n1)
  refine ⟨S, .ref L1, rfl, hs1, .inl ⟨L1, widths.map V.int, rfl, upd_same, hs.ne n1, by decide, by decide, fun v H2 sb2 hs2 hv => ?_⟩⟩
  obtain ⟨a, rfl, a1, a3⟩ := width_ok hv
  refine ⟨_, rfl, by show 5 ≤ sizeLine; decide, fun L2 n2 => ?_⟩
  have hs3 := hs2.put (o := .lst (heights.map V.int)) (hs2.ne n2)
  refine ⟨S, .ref L2, rfl, hs3, .inl ⟨L2, heights.map V.int, rfl, upd_same, hs2.ne n2, by decide, by decide, fun v H4 sb4 hs4 hv => ?_⟩⟩
  obtain ⟨d, rfl, d1, d3⟩ := height_ok hv
  refine ⟨by show 2 ≤ sizeLine; decide, fun t nt => ⟨t, _, rfl, SqT.of upd_same, rfl, _, _, rfl, _, _, rfl, rfl, ?_⟩⟩
  have hs5 := hs4.put (o := .tup [.int (a : Int), .int (d : Int)]) (hs4.ne nt)
  have k5 : Sb S H (upd H4 t (.tup [.int (a : Int), .int (d : Int)])) := ((((Sb.of (Same.refl H)).mut n1).trans sb2).trans (((Sb.of (Same.refl H2)).mut n2).trans sb4)).trans ((Sb.of (Same.refl H4)).mut nt)
  generalize upd H4 t (.tup [.int (a : Int), .int (d : Int)]) = H5 at hs5 k5
  -- the figures
  refine ⟨_, rfl, by show 6 ≤ sizeLine; decide, fun L3 n3 => ?_⟩
  have hs6 := hs5.put (o := .lst (figs.map fun z => V.str (dS z))) (hs5.ne n3)
  refine ⟨S, .ref L3, rfl, hs6, .inl ⟨L3, figs.map fun z => V.str (dS z), rfl, upd_same, hs5.ne n3, by decide, by decide, fun v H6 sb6 hs6' hv => ?_⟩⟩
  obtain ⟨ds, rfl, g1, g2, g3⟩ := fig_ok hv
  have k6 := k5.trans (((Sb.of (Same.refl H5)).mut (o := .lst (figs.map fun z => V.str (dS z))) n3).trans sb6)
  -- the rows
  refine ⟨_, rfl, (d : Nat), rfl, by omega, by omega, ?_⟩
  refine lcRS (S := S) (n := d) (j := 5) (lo := 0) (Pv := fun v => ∃ z : List Nat, (z.length = a ∧ ∀ c ∈ z, c ≤ 9) ∧ v = .str (dS z)) hs6' (by omega) (by intro x; rfl) (fun i H7 hi sb7 hs7 Q' z => ?_) fun D acc H7 nD sb7 hs7 hD hl g => ?_
  · refine ⟨⟨_, rfl⟩, _, rfl, (a : Nat), rfl, by omega, by omega, ?_⟩
    refine lcRS (S := S) (n := a) (j := 6) (lo := 0) (Pv := fun v => ∃ c : Nat, c ≤ 9 ∧ v = .str (dS [c])) hs7 (by omega) (by intro x; rfl) (fun m H8 hm sb8 hs8 Q2 z2 => ?_) fun D2 acc2 H8 nD2 sb8 hs8 hD2 hl2 gg => ?_
    · refine ⟨_, rfl, _, rfl, S, _, rfl, hs8, .inr ⟨ds, rfl, g1, g2, fun v H9 sb9 hs9 ⟨c, hc, ev⟩ => ?_⟩⟩
      exact z2 v H9 sb9 hs9 ⟨c, g3 c hc, ev⟩
    · obtain ⟨cs, ecs, hcs⟩ := picks (f := fun c : Nat => V.str (dS [c])) (p := fun c => c ≤ 9) gg
      have lcs : cs.length = a := by rw [← hl2, ecs, List.length_map]
      refine ⟨Str.ofString "", D2, cs.map fun c => dS [c], rfl, rfl, .inl (SqL.of ?_), join_size cs (by omega), ?_⟩
      · rw [hD2, ecs, List.map_map]
        rfl
      · rw [join_dS]
        exact z _ H8 sb8 hs8 ⟨cs, ⟨lcs, hcs⟩, rfl⟩
  obtain ⟨rs, ers, hrs⟩ := picks (f := fun z : List Nat => V.str (dS z)) (p := fun z => z.length = a ∧ ∀ c ∈ z, c ≤ 9) g
  have lrs : rs.length = d := by rw [← hl, ers, List.length_map]
  have hD' : H7 D = some (.lst (rowsV rs)) := by rw [hD, ers]; rfl
  -- the slant
  refine ⟨_, rfl, _, rfl, _, rfl, S, a, rfl, hs7, a1, by omega, fun v H8 sb8 hs8 ⟨b, ev, hb⟩ => ?_⟩
  subst ev
  have hD8 := sb8 _ _ hD' (hs6'.ne nD)
  refine ⟨_, rfl, _, rfl, D, _, rfl, .inl ⟨SqL.of hD8, fun r nr => ⟨by show 4 ≤ sizeLine; decide, fun p np => ?_⟩⟩⟩
  have k8 := (k6.trans sb7).trans sb8
  have e9 : Same H8 (upd H8 r (.tup (rowsV rs))) := Same.upd nr
  have e10 := Same.upd (o := .tup [.int (a : Int), .int (b : Int), .int (d : Int), .ref r]) np
  have ar : a * d ≤ 144 := Nat.le_trans (Nat.mul_le_mul a3 d3) (by decide)
  refine q _ _ ((k8.trans (Sb.of e9)).trans (Sb.of e10)) ((hs8.put (hs8.ne nr)).put ((hs8.put (hs8.ne nr)).ne np)) ⟨⟨a, b, d, rs⟩, p, rfl, ⟨r, upd_same, e10 _ _ upd_same⟩, ⟨⟨a1, hb, d1, ar, lrs, fun z hz => (hrs z hz).1, fun z hz => (hrs z hz).2⟩, (by show a ≤ 6; omega), d3, ⟨a, a1, a3, Nat.dvd_refl _, fun x y => sgn_a x y⟩⟩, a3⟩
end
end
section
/-! ### the law's own look at tokens -/
structure PerP (t : Tok) (x y : Int) : Prop where
  eq : ∀ i m : Nat, i < t.d → m < t.a → sgn t ((m : Int) + x) ((i : Int) + y) = sgn t (m : Int) (i : Int)
theorem perM_iff {t : Tok} (ha : 1 ≤ t.a) {x y : Int} : perM t x y = true ↔ PerP t x y := by
  unfold perM
  rw [List.all_eq_true]
  constructor
  · refine fun h => ⟨fun i m hi hm => ?_⟩
    have h1 : (i * t.a + m) % t.a = m := by rw [Nat.mul_comm, Nat.mul_add_mod]; exact Nat.mod_eq_of_lt hm
    have h2 : (i * t.a + m) / t.a = i := by rw [Nat.mul_comm, Nat.mul_add_div (by omega), Nat.div_eq_of_lt hm, Nat.add_zero]
    have lt : i * t.a + m < t.d * t.a := by
      have := Nat.mul_le_mul_right t.a (show i + 1 ≤ t.d by omega)
      rw [Nat.succ_mul] at this
      omega
    have q := of_decide_eq_true (h (i * t.a + m) (List.mem_range.mpr lt))
    rw [h1, h2] at q
    exact q.symm
  · intro h n hn
    have lt := List.mem_range.mp hn
    refine decide_eq_true (h.eq (n / t.a) (n % t.a) ?_ (Nat.mod_lt _ (by omega))).symm
    exact Nat.div_lt_of_lt_mul (by rw [Nat.mul_comm]; exact lt)
theorem perM_no {t : Tok} (ha : 1 ≤ t.a) {x y : Int} {i m : Nat} (hi : i < t.d) (hm : m < t.a) (h : sgn t ((m : Int) + x) ((i : Int) + y) ≠ sgn t (m : Int) (i : Int)) : perM t x y = false := by
  cases e : perM t x y with
  | false => rfl
  | true => exact absurd ((perM_iff ha).mp e).eq fun q => h (q i m hi hm)
/-- both have the period -/
def bothP (t u : Tok) (x y : Int) : Bool := perM t x y && perM u x y
theorem plX_comm (a b d x y : Int) : (x - b * (y / d)) % a = plX a b d x y := by
  unfold plX
  rw [Int.mul_comm b]
section
variable {P : Program} {w : World} {K : PySem.W.Frag} {mg : Str → Option Value} {base : Heap}
def sp_made (K : PySem.W.Frag) : Sp := fun vs H Q _ => ∃ (p : Addr) (t : Tok), vs = [.ref p] ∧ IsTk t p H ∧ t.Ok ∧ RetR H Q (IsCar K t)
theorem ok_made (T : Txt K mg base) : DefOk P w K mg base "_law_made" 11 ["_law_token_here"] (sp_made K) := by
  refine defok T.d_law_made T.g_law_made sc_law_made (fun _ _ _ _ _ _ us hl => match us, hl with | [_], _ => rfl) (fun vs H Q E h => ?_) fun cdv A outer s H vs Q E hr h => ?_
  · obtain ⟨p, t, rfl, _⟩ := h
    rfl
  obtain ⟨p, t, rfl, hp, ht, k⟩ := h
  obtain ⟨r, hp, hrw⟩ := hp.ex
  refine ⟨_, pss_one (ps_ret (pe_mk (ok_Cinit T) hr (by decide) (by rfl) T.g_Carpet (pa_cons (pe_ix ix_tup (pv 0) pe_int (fun _ _ => rfl)) (pa_cons (pe_ix ix_tup (pv 0) pe_int (fun _ _ => rfl)) (pa_cons (pe_ix ix_tup (pv 0) pe_int (fun _ _ => rfl))
    (pa_cons (pe_callTy call_list_of (by rfl) T.f_list (by decide +kernel) (pa_cons (pe_ix ix_tup (pv 0) pe_int (fun _ _ => rfl)) pa_nil)) pa_nil)))))), ?_⟩
  refine ⟨_, rfl, p, _, _, _, rfl, rfl, SqT.of hp, atI_nat (j := 0) rfl, _, rfl, p, _, _, _, rfl, rfl, SqT.of hp, atI_nat (j := 1) rfl, _, rfl, p, _, _, _, rfl, rfl, SqT.of hp, atI_nat (j := 2) rfl, _, rfl, p, _, _, _, rfl, rfl, SqT.of hp, atI_nat (j := 3) rfl, r, _, rfl, .inr (SqT.of hrw), fun l nl => ?_⟩
  refine car_make (t := t) (r := l) ht (.inl upd_same) fun q H6 e6 hq => ?_
  exact k q H6 ((Same.upd nl).trans e6) hq
def sp_lcolour : Sp := fun vs H Q _ => ∃ (p : Addr) (t : Tok) (x y : Int), vs = [.ref p, .int x, .int y] ∧ IsTk t p H ∧ t.Ok ∧ Ret H Q (.int (sgn t x y : Nat))
theorem ok_lcolour (T : Txt K mg base) : DefOk P w K mg base "_law_colour" 1 ["_law_token_here", "_law_x", "_law_y"] sp_lcolour := by
  refine defok T.d_law_colour T.g_law_colour sc_law_colour (fun _ _ _ _ _ _ us hl => match us, hl with | [_, _, _], _ => rfl) (fun vs H Q E h => ?_) fun cdv A outer s H vs Q E hr h => ?_
  · obtain ⟨p, t, x, y, rfl, _⟩ := h
    rfl
  obtain ⟨p, t, x, y, rfl, hp, ht, k⟩ := h
  obtain ⟨r, hp, hrw⟩ := hp.ex
  have hS := sc_law_colour.nd
  obtain ⟨j, i, z, ej, ei, hz, hi, hl, h9⟩ := (sgnAt ht x y).ex
  have ha1 := ht.a1
  have hd1 := ht.d1
  have ha2 := ht.a2
  have hd2 := ht.d2
  have hb1 := ht.b1
  refine ⟨_, pss_cons (ps_asg (pv 0) (pg_tup rfl (pgs_cons (pg_name (i := 3) hS rfl (.inl rfl)) (pgs_cons (pg_name (i := 4) hS rfl (.inl rfl)) (pgs_cons (pg_name (i := 5) hS rfl (.inl rfl)) (pgs_cons (pg_name (i := 6) hS rfl (.inl rfl)) pgs_nil))))))
    (pss_cons (ps_set (i := 7) hS rfl (.inl rfl) (pe_op op_fdiv (pe_callTy call_int1 (by rfl) T.f_int (by decide +kernel) (pa_cons (pv 2) pa_nil)) (pv 5)))
    (pss_one (ps_ret (pe_callTy call_int_str (by rfl) T.f_int (by decide +kernel) (pa_cons (pe_ix ix_str (pe_ix ix_tup (pv 6) (pe_op op_sub (pv 2) (pe_op op_mul (pv 7) (pv 5))) (fun _ _ => rfl))
      (pe_op op_mod (pe_callTy call_int1 (by rfl) T.f_int (by decide +kernel) (pa_cons (pe_op op_sub (pv 1) (pe_op op_mul (pv 4) (pv 7))) pa_nil)) (pv 3)) (fun _ _ => rfl)) pa_nil))))), ?_⟩
  refine ⟨_, rfl, p, _, rfl, SqT.of hp, rfl, _, _, rfl, _, _, rfl, _, _, rfl, _, _, rfl, rfl, ?_⟩
  refine ⟨_, rfl, .inl ⟨_, rfl, _, rfl, _, _, rfl, rfl, ⟨by omega, by omega⟩, ?_⟩⟩
  refine ⟨_, rfl, _, rfl, _, rfl, _, rfl, _, _, rfl, rfl, .inr ⟨by omega, by omega⟩, _, _, rfl, rfl, r, _, _, _, rfl, rfl, SqT.of hrw, at_of ej (rowsV_at hz), ?_⟩
  refine ⟨_, rfl, _, rfl, _, rfl, _, _, rfl, rfl, .inl ⟨by omega, by omega⟩, _, _, rfl, rfl, .inl ⟨_, rfl, _, rfl, _, _, rfl, rfl, (by show (0 : Int) < (t.a : Int); omega), dS z, _, 48 + sgn t x y, rfl, rfl, small_str (by rw [dS_len]; omega), ?_, ?_⟩⟩
  · have e2 : (x - (t.b : Int) * (y / (t.d : Int))) % (t.a : Int) = (i : Int) := (plX_comm _ _ _ _ _).trans ei
    rw [e2]
    exact atI_nat (dS_at hi)
  · refine ⟨dS [sgn t x y], _, rfl, int_dS h9, by rw [dS_len]; show 1 ≤ 640; decide, ?_⟩
    exact k H (Same.refl H)
def sp_lper : Sp := fun vs H Q _ => ∃ (p : Addr) (t : Tok) (x y : Int), vs = [.ref p, .int x, .int y] ∧ IsTk t p H ∧ t.Ok ∧ Ret H Q (.bl (perM t x y))
theorem ok_lper (T : Txt K mg base) : DefOk P w K mg base "_law_is_period" 2 ["_law_token_here", "_law_x", "_law_y"] sp_lper := by
  refine defok T.d_law_is_period T.g_law_is_period sc_law_is_period (fun _ _ _ _ _ _ us hl => match us, hl with | [_, _, _], _ => rfl) (fun vs H Q E h => ?_) fun cdv A outer s H vs Q E hr h => ?_
  · obtain ⟨p, t, x, y, rfl, _⟩ := h
    rfl
  obtain ⟨p, t, x, y, rfl, hp, ht, k⟩ := h
  obtain ⟨r, hp0, hrw⟩ := hp.ex
  have hS := sc_law_is_period.nd
  have ha1 := ht.a1
  have ha2 := ht.a2
  have hd2 := ht.d2
  refine ⟨_, pss_cons (ps_for PassesOwn.never rfl (pi_range1 rfl T.f_range (pa_cons (pe_ix ix_tup (pv 0) pe_int (fun _ _ => rfl)) pa_nil)) (pg_name (i := 3) hS rfl (.inl rfl))
      (pss_one (ps_for PassesOwn.never rfl (pi_range1 rfl T.f_range (pa_cons (pe_ix ix_tup (pv 0) pe_int (fun _ _ => rfl)) pa_nil)) (pg_name (i := 4) hS rfl (.inl rfl))
        (pss_one (ps_if (pt_cmpR op_ne (pe_cd (ok_lcolour T) hr (by decide) (by rfl) (pa_cons (pv 0) (pa_cons (pe_op op_add (pv 4) (pv 1)) (pa_cons (pe_op op_add (pv 3) (pv 2)) pa_nil))))
          (pe_cd (ok_lcolour T) hr (by decide) (by rfl) (pa_cons (pv 0) (pa_cons (pv 4) (pa_cons (pv 3) pa_nil)))) (nomark _)) (pss_one (ps_ret pe_bl)) pss_nil)))))
    (pss_one (ps_ret pe_bl)), ?_⟩
  refine ⟨_, rfl, p, _, _, _, rfl, rfl, SqT.of hp0, atI_nat (j := 2) rfl, (t.d : Nat), rfl, by omega, by omega, ?_⟩
  refine for_range (lo := 0) (n := t.d) (fun i σ H' => ∃ y3 y4, σ = [some (.ref p), some (.int x), some (.int y), y3, y4] ∧ Same H H' ∧ ∀ i' m : Nat, i' < i → m < t.a → sgn t ((m : Int) + x) ((i' : Int) + y) = sgn t (m : Int) (i' : Int)) ⟨none, none, rfl, Same.refl _, fun i' m h => by omega⟩ ?_ ?_
  · rintro i σ H1 hi ⟨y3, y4, rfl, e1, g⟩
    refine ⟨_, rfl, p, _, _, _, rfl, rfl, SqT.of (e1 _ _ hp0), atI_nat (j := 0) rfl, (t.a : Nat), rfl, by omega, by omega, ?_⟩
    refine for_range (lo := 0) (n := t.a) (fun j σ H' => ∃ y4, σ = [some (.ref p), some (.int x), some (.int y), some (.int (0 + (i : Nat))), y4] ∧ Same H H' ∧ ∀ m : Nat, m < j → sgn t ((m : Int) + x) ((i : Int) + y) = sgn t (m : Int) (i : Int)) ⟨y4, rfl, e1, fun m h => by omega⟩ ?_ ?_
    · rintro j σ H2 hj ⟨y4, rfl, e2, gj⟩
      refine ⟨_, rfl, _, rfl, _, rfl, _, _, rfl, rfl, _, rfl, _, rfl, _, _, rfl, rfl, p, t, _, _, rfl, hp.mono e2, ht, fun H3 e3 => ?_⟩
      refine ⟨_, rfl, _, rfl, _, rfl, p, t, _, _, rfl, hp.mono (e2.trans e3), ht, fun H4 e4 => ?_⟩
      have e24 := e2.trans (e3.trans e4)
      by_cases hne : sgn t ((j : Int) + x) ((i : Int) + y) = sgn t (j : Int) (i : Int)
      · refine ⟨rfl, _, rfl, ?_⟩
        rw [Int.zero_add, Int.zero_add]
        refine iteNS (by rw [hne]) ⟨_, rfl, e24, fun m hm => ?_⟩
        by_cases em : m = j
        · rw [em]
          exact hne
        · exact gj m (by omega)
      · refine ⟨rfl, _, rfl, ?_⟩
        rw [Int.zero_add, Int.zero_add]
        refine iteNT (fun z => hne (Int.ofNat.inj (V.int.inj z))) ?_
        have q := k H4 e24
        rw [perM_no ha1 hi hj hne] at q
        exact q
    · rintro σ H2 ⟨y4, rfl, e2, gj⟩
      refine ⟨_, _, rfl, e2, fun i' m hi' hm => ?_⟩
      by_cases em : i' = i
      · rw [em]
        exact gj m hm
      · exact g i' m (by omega) hm
  · rintro σ H1 ⟨y3, y4, rfl, e1, g⟩
    have q := k H1 e1
    rw [(perM_iff ha1).mpr ⟨g⟩] at q
    exact q
end
end
section
/-! ### common periods -/
def tkD (t : Tok) : PyData := .tuple [.int t.a, .int t.b, .int t.d, .tuple (rowsD t.rows)]
theorem dp_tk {K : PySem.W.Frag} {H : Hp} {t : Tok} {p : Addr} (h : IsTk t p H) : Dp K H (.ref p) (tkD t) := by
  obtain ⟨r, h1, h2⟩ := h.ex
  exact .tup (SqT.of h1) (.cons (.int _) (.cons (.int _) (.cons (.int _) (.cons (.tup (SqT.of h2) (dp_rows _)) .nil))))
theorem tk_lay {t : Tok} (ht : t.Ok) : PySem.PyData.canLay0 (tkD t) = true := by
  show (true && (true && (true && (PySem.PyData.canLayAll0 (rowsD t.rows) && true)))) = true
  rw [rows_lay ht.dig]
  rfl
theorem tk_dep {t : Tok} : PySem.PyData.depth (tkD t) ≤ 2 := by
  show max 0 (max 0 (max 0 (max (PySem.PyData.depthAll (rowsD t.rows) + 1) 0))) + 1 ≤ 2
  have := rows_dep (rows := t.rows)
  omega
def two (p q : Addr) (i : Nat) : V := if i = 0 then .ref p else .ref q
structure Pk (K : PySem.W.Frag) (H : Hp) (xs : List V) (b : Bool) : Prop where
  ex : ∃ ds, DpAll K H xs ds ∧ SeqAt.shaped (.list ds) = true ∧ PyData.eqv (.list ds) (.list []) = b
theorem pk_two {K : PySem.W.Frag} {H : Hp} {t u : Tok} {p q : Addr} (hp : IsTk t p H) (hq : IsTk u q H) (ht : t.Ok) (hu : u.Ok) (f : Nat → Bool) : Pk K H (pick 2 f (two p q)) (!f 0 && !f 1) := by
  have e : pick 2 f (two p q) = (if f 0 = true then [V.ref p] else []) ++ (if f 1 = true then [V.ref q] else []) := by
    rw [pick_succ 1, pick_succ 0]
    rfl
  have l1 := tk_lay ht
  have l2 := tk_lay hu
  have d1 := tk_dep (t := t)
  have d2 := tk_dep (t := u)
  rw [e]
  cases f 0 <;> cases f 1
  · exact ⟨[], .nil, rfl, rfl⟩
  · refine ⟨[tkD u], .cons (dp_tk hq) .nil, ?_, rfl⟩
    unfold SeqAt.shaped
    rw [Bool.and_eq_true]
    refine ⟨?_, decide_eq_true ?_⟩
    · show (PySem.PyData.canLay0 (tkD u) && true) = true
      rw [l2]
      rfl
    · show max (PySem.PyData.depth (tkD u)) 0 + 1 ≤ 64
      omega
  · refine ⟨[tkD t], .cons (dp_tk hp) .nil, ?_, rfl⟩
    unfold SeqAt.shaped
    rw [Bool.and_eq_true]
    refine ⟨?_, decide_eq_true ?_⟩
    · show (PySem.PyData.canLay0 (tkD t) && true) = true
      rw [l1]
      rfl
    · show max (PySem.PyData.depth (tkD t)) 0 + 1 ≤ 64
      omega
  · refine ⟨[tkD t, tkD u], .cons (dp_tk hp) (.cons (dp_tk hq) .nil), ?_, rfl⟩
    unfold SeqAt.shaped
    rw [Bool.and_eq_true]
    refine ⟨?_, decide_eq_true ?_⟩
    · show (PySem.PyData.canLay0 (tkD t) && (PySem.PyData.canLay0 (tkD u) && true)) = true
      rw [l1, l2]
      rfl
    · show max (PySem.PyData.depth (tkD t)) (max (PySem.PyData.depth (tkD u)) 0) + 1 ≤ 64
      omega
theorem two_at {p q : Addr} {i : Nat} {x : V} (h : [V.ref p, V.ref q][i]? = some x) : (i = 0 ∧ x = .ref p) ∨ (i = 1 ∧ x = .ref q) := by
  rcases i with _ | _ | i
  · cases h
    exact .inl ⟨rfl, rfl⟩
  · cases h
    exact .inr ⟨rfl, rfl⟩
  · simp at h
def perF (t u : Tok) (x y : Int) (i : Nat) : Bool := if i = 0 then !perM t x y else !perM u x y
theorem perF_none {t u : Tok} {x y : Int} : (!perF t u x y 0 && !perF t u x y 1) = bothP t u x y := by
  unfold perF bothP
  rw [if_pos rfl, if_neg (by decide), Bool.not_not, Bool.not_not]
def slantsM (t u : Tok) (w h : Nat) : List Nat := (List.range w).filter fun s => bothP t u (s : Nat) (h : Nat)
section
variable {P : Program} {w : World} {K : PySem.W.Frag} {mg : Str → Option Value} {base : Heap}
structure TwoTk (t u : Tok) (L p q : Addr) (H : Hp) : Prop where
  at_ : H L = some (.lst [.ref p, .ref q])
  one : IsTk t p H
  oth : IsTk u q H
theorem TwoTk.mono {t u : Tok} {L p q : Addr} {H H' : Hp} (h : TwoTk t u L p q H) (e : Same H H') : TwoTk t u L p q H' := ⟨e _ _ h.at_, h.one.mono e, h.oth.mono e⟩
def sp_slants : Sp := fun vs H Q _ => ∃ (L p q : Addr) (t u : Tok) (w h : Nat), vs = [.ref L, .int w, .int h] ∧ TwoTk t u L p q H ∧ t.Ok ∧ u.Ok ∧ w ≤ 1000 ∧ RetN H Q (fun D H' => H' D = some (.lst ((slantsM t u w h).map fun s => .int (s : Nat))))
theorem ok_slants (T : Txt K mg base) : DefOk P w K mg base "_law_slants" 3 ["_law_tokens", "_law_wide", "_law_high"] sp_slants := by
  refine defok T.d_law_slants T.g_law_slants sc_law_slants (fun _ _ _ _ _ _ us hl => match us, hl with | [_, _, _], _ => rfl) (fun vs H Q E h => ?_) fun cdv A outer s H vs Q E hr h => ?_
  · obtain ⟨L, p, q, t, u, ww, h, rfl, _⟩ := h
    rfl
  obtain ⟨L, p, q, t, u, ww, h, rfl, hL, ht, hu, hw, k⟩ := h
  have hS := sc_law_slants.nd
  refine ⟨_, pss_cons (ps_set (i := 3) hS rfl (.inl rfl) (pe_lst pa_nil))
    (pss_cons (ps_for PassesOwn.never rfl (pi_range1 rfl T.f_range (pa_cons (pv 1) pa_nil)) (pg_name (i := 4) hS rfl (.inr rfl))
      (pss_one (ps_if (pt_cmpR (op_eqD hr.units) (pe_lc (own := [("_law_token_here", 5)]) (g := gName 5) rfl hS (pi_list (pv 0)) (blkOk_by (own := [("_law_token_here", 5)]) (N := ["_law_tokens", "_law_wide", "_law_high", "_law_found", "_law_slant", "_law_token_here"]) (sc := defScope s_law_slants) (by decide +kernel))
          (fun _ _ _ _ _ => pg_name (i := 5) hS rfl (Or.inl rfl)) (fun _ _ _ _ _ => pts_one (pt_not (pt_val (pe_cd (ok_lper T) hr (by decide) (by rfl) (pa_cons (pv 5) (pa_cons (pv 4) (pa_cons (pv 2) pa_nil)))))))
          (fun _ _ _ _ _ => pv 5)) (pe_lst pa_nil) (nomark _))
        (pss_one (ps_expr (pe_bm PySem.F.plainAttrs_list PySem.F.slot_list_append PySem.F.type_list_append mt_append (pv 3) (pa_cons (pv 4) pa_nil)))) pss_nil)))
    (pss_one (ps_ret (pv 3)))), ?_⟩
  refine ⟨Nat.zero_le _, fun F nF => ?_⟩
  have e0 := Same.upd (o := .lst []) nF
  refine ⟨_, rfl, (ww : Nat), rfl, by omega, by omega, ?_⟩
  refine for_range (lo := 0) (n := ww) (fun i σ H' => ∃ y, σ = [some (.ref L), some (.int ww), some (.int h), some (.ref F), y, none] ∧ Same H H' ∧ H' F = some (.lst ((slantsM t u i h).map fun s => .int (s : Nat)))) ⟨none, rfl, e0, upd_same⟩ ?_ ?_
  · rintro i σ H1 hi ⟨y, rfl, e1, hF⟩
    rw [Int.zero_add]
    refine ⟨_, rfl, L, rfl, ⟨_, SqL.of (e1 _ _ hL.at_)⟩, ?_⟩
    refine lcLf (j := 5) (xs := [.ref p, .ref q]) (perF t u (i : Nat) (h : Nat)) (two p q) (show 2 ≤ 40000 by decide) (SqL.of (e1 _ _ hL.at_)) ?_ (fun j x H2 hx e2 Q' z => ?_) (fun j x H2 hx e2 Q' z => ?_) fun D H2 e2 nD hD => ?_
    · intro x
      rfl
    · have hT := hL.mono (e1.trans e2)
      rcases two_at hx with ⟨rfl, rfl⟩ | ⟨rfl, rfl⟩
      · exact ⟨_, rfl, _, rfl, _, rfl, p, t, _, _, rfl, hT.one, ht, fun H3 e3 => ⟨_, rfl, z H3 e3⟩⟩
      · exact ⟨_, rfl, _, rfl, _, rfl, q, u, _, _, rfl, hT.oth, hu, fun H3 e3 => ⟨_, rfl, z H3 e3⟩⟩
    · rcases two_at hx with ⟨rfl, rfl⟩ | ⟨rfl, rfl⟩
      · exact ⟨_, rfl, z _ H2 (Same.refl _) rfl⟩
      · exact ⟨_, rfl, z _ H2 (Same.refl _) rfl⟩
    · refine ⟨Nat.zero_le _, fun E0 nE => ?_⟩
      have e3 := Same.upd (o := .lst []) nE
      have hT := hL.mono (e1.trans (e2.trans e3))
      obtain ⟨ds, hds, hsh, hev⟩ := (pk_two (K := K) hT.one hT.oth ht hu (perF t u (i : Nat) (h : Nat))).ex
      refine ⟨.list ds, .list [], .lst (SqL.of (e3 _ _ hD)) hds, .lst (SqL.of upd_same) .nil, hsh, rfl, _, rfl, ?_⟩
      rw [hev, perF_none]
      have e13 := e1.trans (e2.trans e3)
      have hF3 := (e2.trans e3) _ _ hF
      have lenS : (slantsM t u i h).length ≤ i := by
        have z := List.length_filter_le (fun s : Nat => bothP t u (s : Nat) (h : Nat)) (List.range i)
        rwa [List.length_range] at z
      have es : slantsM t u (i + 1) h = slantsM t u i h ++ if bothP t u (i : Nat) (h : Nat) = true then [i] else [] := by
        unfold slantsM
        rw [List.range_succ, List.filter_append, List.filter_cons]
        rfl
      cases hb : bothP t u (i : Nat) (h : Nat) with
      | true =>
        refine iteT ⟨_, rfl, .inl ⟨rfl, _, SqL.of hF3⟩, _, rfl, F, _, _, rfl, rfl, hF3, ?_, _, rfl, Same.mut e13 nF, ?_⟩
        · rw [List.length_map]
          exact Nat.lt_of_lt_of_le (show (slantsM t u i h).length < 100000 by omega) (by decide)
        · rw [upd_same, es, if_pos hb, List.map_append]
          rfl
      | false =>
        refine iteF ⟨_, rfl, e13, ?_⟩
        rw [es, hb]
        simpa using hF3
  · rintro σ H1 ⟨y, rfl, e1, hF⟩
    exact ⟨_, rfl, k F H1 nF e1 hF⟩
end
end
section
/-- a lattice of periods of both -/
structure LatP (t u : Tok) (w s h : Nat) : Prop where
  w1 : 1 ≤ w
  w2 : w ≤ 36
  s1 : s < w
  h1 : 1 ≤ h
  h2 : h ≤ 324
  p1 : bothP t u (w : Nat) 0 = true
  p2 : bothP t u (s : Nat) (h : Nat) = true
structure HasLat (t u : Tok) : Prop where
  ww : ∃ w : Nat, 1 ≤ w ∧ w ≤ 36 ∧ bothP t u (w : Nat) 0 = true
  hh : ∃ h : Nat, 1 ≤ h ∧ h ≤ 324 ∧ bothP t u 0 (h : Nat) = true
section
variable {P : Program} {w : World} {K : PySem.W.Frag} {mg : Str → Option Value} {base : Heap}
def sp_llat : Sp := fun vs H Q _ => ∃ (L p q : Addr) (t u : Tok), vs = [.ref L] ∧ TwoTk t u L p q H ∧ t.Ok ∧ u.Ok ∧ HasLat t u ∧ ∀ w s h, LatP t u w s h → RetN H Q (fun D H' => H' D = some (.tup [.int (w : Nat), .int (s : Nat), .int (h : Nat)]))
theorem ok_llat (T : Txt K mg base) : DefOk P w K mg base "_law_lattice" 4 ["_law_tokens"] sp_llat := by
  refine defok T.d_law_lattice T.g_law_lattice sc_law_lattice (fun _ _ _ _ _ _ us hl => match us, hl with | [_], _ => rfl) (fun vs H Q E h => ?_) fun cdv A outer s H vs Q E hr h => ?_
  · obtain ⟨L, p, q, t, u, rfl, _⟩ := h
    rfl
  obtain ⟨L, p, q, t, u, rfl, hL, ht, hu, ⟨⟨W, W1, W2, hW⟩, ⟨N, N1, N2, hN⟩⟩, k⟩ := h
  have hS := sc_law_lattice.nd
  refine ⟨_, pss_cons (ps_set (i := 1) hS rfl (.inr rfl) pe_int)
    (pss_cons (ps_while PassesOwn.never (pt_cmpR (op_neD hr.units) (pe_lc (own := [("_law_token_here", 4)]) (g := gName 4) rfl hS (pi_list (pv 0)) (blkOk_by (own := [("_law_token_here", 4)]) (N := ["_law_tokens", "_law_wide", "_law_high", "_law_slants_here", "_law_token_here"]) (sc := defScope s_law_lattice) (by decide +kernel))
          (fun _ _ _ _ _ => pg_name (i := 4) hS rfl (Or.inl rfl)) (fun _ _ _ _ _ => pts_one (pt_not (pt_val (pe_cd (ok_lper T) hr (by decide) (by rfl) (pa_cons (pv 4) (pa_cons (pv 1) (pa_cons pe_int pa_nil)))))))
          (fun _ _ _ _ _ => pv 4)) (pe_lst pa_nil) (nomark _))
      (pss_one (ps_set (i := 1) hS rfl (.inr rfl) (pe_op op_add (pv 1) pe_int))))
    (pss_cons (ps_set (i := 2) hS rfl (.inl rfl) pe_int)
    (pss_cons (ps_set (i := 3) hS rfl (.inl rfl) (pe_cd (ok_slants T) hr (by decide) (by rfl) (pa_cons (pv 0) (pa_cons (pv 1) (pa_cons (pv 2) pa_nil)))))
    (pss_cons (ps_while PassesOwn.never (pt_cmpR (op_eqD hr.units) (pv 3) (pe_lst pa_nil) (nomark _))
      (pss_cons (ps_set (i := 2) hS rfl (.inl rfl) (pe_op op_add (pv 2) pe_int))
      (pss_one (ps_set (i := 3) hS rfl (.inl rfl) (pe_cd (ok_slants T) hr (by decide) (by rfl) (pa_cons (pv 0) (pa_cons (pv 1) (pa_cons (pv 2) pa_nil))))))))
    (pss_one (ps_ret (pe_tup (pa_cons (pv 1) (pa_cons (pe_ix ix_list (pv 3) pe_int (fun _ _ => rfl)) (pa_cons (pv 2) pa_nil)))))))))), ?_⟩
  refine ⟨fun m σ H' => ∃ ww : Nat, σ = [some (.ref L), some (.int ww), none, none, none] ∧ Same H H' ∧ 1 ≤ ww ∧ ww ≤ W ∧ m = W - ww, ⟨W - 1, 1, rfl, Same.refl _, Nat.le_refl _, W1, rfl⟩, fun m σ H1 hw => ?_⟩
  obtain ⟨ww, rfl, e1, w1, w2, rfl⟩ := hw
  refine ⟨_, rfl, L, rfl, ⟨_, SqL.of (e1 _ _ hL.at_)⟩, ?_⟩
  refine lcLf (j := 4) (xs := [.ref p, .ref q]) (perF t u (ww : Nat) 0) (two p q) (show 2 ≤ 40000 by decide) (SqL.of (e1 _ _ hL.at_)) ?_ (fun j x H2 hx e2 Q' z => ?_) (fun j x H2 hx e2 Q' z => ?_) fun D H2 e2 nD hD => ?_
  · intro x
    rfl
  · have hT := hL.mono (e1.trans e2)
    rcases two_at hx with ⟨rfl, rfl⟩ | ⟨rfl, rfl⟩
    · exact ⟨_, rfl, _, rfl, p, t, _, _, rfl, hT.one, ht, fun H3 e3 => ⟨_, rfl, z H3 e3⟩⟩
    · exact ⟨_, rfl, _, rfl, q, u, _, _, rfl, hT.oth, hu, fun H3 e3 => ⟨_, rfl, z H3 e3⟩⟩
  · rcases two_at hx with ⟨rfl, rfl⟩ | ⟨rfl, rfl⟩
    · exact ⟨_, rfl, z _ H2 (Same.refl _) rfl⟩
    · exact ⟨_, rfl, z _ H2 (Same.refl _) rfl⟩
  refine ⟨Nat.zero_le _, fun E0 nE => ?_⟩
  have e3 := Same.upd (o := .lst []) nE
  have hT := hL.mono (e1.trans (e2.trans e3))
  obtain ⟨ds, hds, hsh, hev⟩ := (pk_two (K := K) hT.one hT.oth ht hu (perF t u (ww : Nat) 0)).ex
  refine ⟨.list ds, .list [], .lst (SqL.of (e3 _ _ hD)) hds, .lst (SqL.of upd_same) .nil, hsh, rfl, _, rfl, ?_⟩
  rw [hev, perF_none]
  have e13 := e1.trans (e2.trans e3)
  generalize upd H2 E0 (.lst []) = H3 at e3 hT e13
  cases hb : bothP t u (ww : Nat) 0 with
  | false =>
    have ne : ww ≠ W := fun z => by
      rw [z, hW] at hb
      cases hb
    refine iteT ⟨fun σ' H'' => ∃ m', m' < W - ww ∧ ∃ ww : Nat, σ' = [some (.ref L), some (.int ww), none, none, none] ∧ Same H H'' ∧ 1 ≤ ww ∧ ww ≤ W ∧ m' = W - ww, fun σ' H'' n => n, ?_⟩
    exact ⟨_, rfl, _, _, rfl, rfl, W - (ww + 1), by omega, ww + 1, rfl, e13, by omega, by omega, rfl⟩
  | true =>
    refine iteF ?_
    have lenS : ∀ h : Nat, (slantsM t u ww h).length ≤ ww := fun h => by
      have z := List.length_filter_le (fun s : Nat => bothP t u (s : Nat) (h : Nat)) (List.range ww)
      rwa [List.length_range] at z
    refine ⟨_, rfl, _, rfl, _, rfl, L, p, q, t, u, ww, 1, rfl, hT, ht, hu, by omega, fun F H4 nF e4 hF => ?_⟩
    refine ⟨fun m σ H' => ∃ (hh : Nat) (F : Addr), σ = [some (.ref L), some (.int ww), some (.int hh), some (.ref F), none] ∧ Same H H' ∧ 1 ≤ hh ∧ hh ≤ N ∧ m = N - hh ∧ H' F = some (.lst ((slantsM t u ww hh).map fun s => .int (s : Nat))),
      ⟨N - 1, 1, F, rfl, e13.trans e4, Nat.le_refl _, N1, rfl, hF⟩, fun m σ H5 hw => ?_⟩
    obtain ⟨hh, F, rfl, e5, h1, h2, rfl, hF⟩ := hw
    refine ⟨_, rfl, Nat.zero_le _, fun E1 nE1 => ?_⟩
    have e6 := Same.upd (o := .lst []) nE1
    have dpS : ∀ (l : List Nat) (Hx : Hp), DpAll K Hx (l.map fun s => V.int (s : Nat)) (l.map fun s => PyData.int (s : Nat)) := fun l Hx => by
      induction l with
      | nil => exact .nil
      | cons a r ih => exact .cons (.int _) ih
    have shS : ∀ l : List Nat, PySem.PyData.canLayAll0 (l.map fun s => PyData.int (s : Nat)) = true ∧ PySem.PyData.depthAll (l.map fun s => PyData.int (s : Nat)) ≤ 0 := fun l => by
      induction l with
      | nil => exact ⟨rfl, Nat.le_refl _⟩
      | cons a r ih =>
        refine ⟨?_, ?_⟩
        · show (true && PySem.PyData.canLayAll0 (r.map fun s => PyData.int (s : Nat))) = true
          rw [ih.1]
          rfl
        · show max 0 (PySem.PyData.depthAll (r.map fun s => PyData.int (s : Nat))) ≤ 0
          have := ih.2
          omega
    refine ⟨.list ((slantsM t u ww hh).map fun s => PyData.int (s : Nat)), .list [], .lst (SqL.of (e6 _ _ hF)) (dpS _ _), .lst (SqL.of upd_same) .nil, ?_, rfl, _, rfl, ?_⟩
    · unfold SeqAt.shaped
      rw [Bool.and_eq_true]
      refine ⟨(shS _).1, decide_eq_true ?_⟩
      show PySem.PyData.depthAll ((slantsM t u ww hh).map fun s => PyData.int (s : Nat)) + 1 ≤ 64
      have := (shS (slantsM t u ww hh)).2
      omega
    have e56 := e5.trans e6
    generalize upd H5 E1 (.lst []) = H6 at e6 e56
    have hF6 := e6 _ _ hF
    cases hc : slantsM t u ww hh with
    | nil =>
      have ne : hh ≠ N := fun z => by
        have : 0 ∈ slantsM t u ww hh := List.mem_filter.mpr ⟨List.mem_range.mpr (by omega), by rw [z]; exact hN⟩
        rw [hc] at this
        cases this
      refine iteT ⟨fun σ' H'' => ∃ m', m' < N - hh ∧ ∃ (hh : Nat) (F : Addr), σ' = [some (.ref L), some (.int ww), some (.int hh), some (.ref F), none] ∧ Same H H'' ∧ 1 ≤ hh ∧ hh ≤ N ∧ m' = N - hh ∧ H'' F = some (.lst ((slantsM t u ww hh).map fun s => .int (s : Nat))), fun σ' H'' n => n, ?_⟩
      refine ⟨_, rfl, _, _, rfl, rfl, _, rfl, _, rfl, _, rfl, L, p, q, t, u, ww, hh + 1, rfl, hL.mono e56, ht, hu, by omega, fun F2 H7 nF2 e7 hF2 => ?_⟩
      exact ⟨N - (hh + 1), by omega, hh + 1, F2, rfl, e56.trans e7, by omega, by omega, rfl, hF2⟩
    | cons s0 rest =>
      refine iteF ?_
      have hs : s0 ∈ slantsM t u ww hh := by rw [hc]; exact List.mem_cons_self
      obtain ⟨hs1, hs2⟩ := List.mem_filter.mp hs
      have hs3 := List.mem_range.mp hs1
      rw [hc] at hF6
      refine ⟨_, rfl, _, rfl, F, _, _, _, rfl, rfl, SqL.of hF6, atI_nat (j := 0) rfl, _, rfl, by show 3 ≤ sizeLine; decide, fun r nr => ?_⟩
      exact k ww s0 hh ⟨w1, by omega, hs3, h1, by omega, hb, hs2⟩ r _ (Same.none e56 nr) (e56.trans (Same.upd nr)) upd_same
end
end
section
section
variable {P : Program} {w : World} {K : PySem.W.Frag} {mg : Str → Option Value} {base : Heap}
def sp_lplaces : Sp := fun vs H Q _ => ∃ (c : Addr) (w s h : Nat), vs = [.ref c] ∧ H c = some (.tup [.int (w : Nat), .int (s : Nat), .int (h : Nat)]) ∧ 1 ≤ w ∧ w ≤ 36 ∧ h ≤ 324 ∧
  ∀ (D : Addr) (acc : List V) (H' : Hp), H D = none → Same H H' → H' D = some (.lst acc) → acc.length = h * w → Good (PlcR w) acc H' → Q (.ref D) H'
theorem ok_lplaces (T : Txt K mg base) : DefOk P w K mg base "_law_places" 1 ["_law_lattice_here"] sp_lplaces := by
  refine defok T.d_law_places T.g_law_places sc_law_places (fun _ _ _ _ _ _ us hl => match us, hl with | [_], _ => rfl) (fun vs H Q E h => ?_) fun cdv A outer s H vs Q E hr h => ?_
  · obtain ⟨c, ww, ss, hh, rfl, _⟩ := h
    rfl
  obtain ⟨c, ww, ss, hh, rfl, hc, w1, w2, h2, k⟩ := h
  have hS := sc_law_places.nd
  refine ⟨_, pss_cons (ps_asg (pv 0) (pg_tup rfl (pgs_cons (pg_name (i := 1) hS rfl (.inl rfl)) (pgs_cons (pg_name (i := 2) hS rfl (.inl rfl)) (pgs_cons (pg_name (i := 3) hS rfl (.inl rfl)) pgs_nil)))))
    (pss_cons (ps_set (i := 4) hS rfl (.inl rfl) (pe_lst pa_nil))
    (pss_cons (ps_for PassesOwn.never rfl (pi_range1 rfl T.f_range (pa_cons (pv 3) pa_nil)) (pg_name (i := 5) hS rfl (.inr rfl))
      (pss_one (ps_expr (pe_bm PySem.F.plainAttrs_list PySem.F.slot_list_extend PySem.F.type_list_extend mt_extend (pv 4) (pa_cons
        (pe_lc (own := [("_law_x", 6)]) (g := gName 6) (tt := tYes) rfl hS (pi_range1 rfl T.f_range (pa_cons (pv 1) pa_nil)) (blkOk_by (own := [("_law_x", 6)]) (N := ["_law_lattice_here", "_law_wide", "_law_slant", "_law_high", "_law_found", "_law_y", "_law_x"]) (sc := defScope s_law_places) (by decide +kernel))
          (fun _ _ _ _ _ => pg_name (i := 6) hS rfl (Or.inl rfl)) (fun _ _ _ _ _ => pts_nil) (fun _ _ _ _ _ => pe_tup (pa_cons (pv 6) (pa_cons (pv 5) pa_nil)))) pa_nil)))))
    (pss_one (ps_ret (pv 4))))), ?_⟩
  refine ⟨_, rfl, c, _, rfl, SqT.of hc, rfl, _, _, rfl, _, _, rfl, _, _, rfl, rfl, Nat.zero_le _, fun F nF => ?_⟩
  have e0 := Same.upd (o := .lst []) nF
  refine ⟨_, rfl, (hh : Nat), rfl, by omega, by omega, ?_⟩
  refine for_range (lo := 0) (n := hh) (fun i σ H' => ∃ y, σ = [some (.ref c), some (.int ww), some (.int ss), some (.int hh), some (.ref F), y, none] ∧ Same H H' ∧ ∃ acc, H' F = some (.lst acc) ∧ acc.length = i * ww ∧ Good (PlcR ww) acc H')
    ⟨none, rfl, e0, [], upd_same, by rw [Nat.zero_mul]; rfl, fun j v hj => by simp at hj⟩ ?_ ?_
  · rintro i σ H1 hi ⟨y, rfl, e1, acc, hF, hl, g⟩
    rw [Int.zero_add]
    refine ⟨_, rfl, .inl ⟨rfl, _, SqL.of hF⟩, _, rfl, (ww : Nat), rfl, by omega, by omega, ?_⟩
    refine lcR (n := ww) (lo := 0) (j := 6) (Stab.tup fun m => [.int (m : Nat), .int (i : Nat)]) (by omega) ?_ (fun m H2 hm e2 Q' z => ?_) fun D acc2 H2 e2 nD hD hl2 g2 => ?_
    · intro x
      rfl
    · refine ⟨_, rfl, _, rfl, by show 2 ≤ sizeLine; decide, fun t nt => z _ _ (Same.upd nt) ⟨t, rfl, ?_⟩⟩
      rw [upd_same, Int.zero_add]
    · have hF2 := e2 _ _ hF
      have hb : (i + 1) * ww ≤ 324 * 36 := Nat.mul_le_mul (by omega) w2
      have hlen : (acc ++ acc2).length = (i + 1) * ww := by rw [List.length_append, hl, hl2, Nat.succ_mul]
      refine ⟨F, D, acc, acc2, rfl, rfl, hF2, hD, ?_, _, rfl, Same.mut (e1.trans e2) nF, acc ++ acc2, upd_same, hlen, fun j v hj => ?_⟩
      · rw [← List.length_append, hlen]
        exact Nat.le_trans hb (by decide)
      · by_cases hlt : j < acc.length
        · rw [List.getElem?_append_left hlt] at hj
          exact (plcR_stab ww).lst hF2 ((plcR_stab ww).mono e2 (g j v hj))
        · rw [List.getElem?_append_right (by omega)] at hj
          have hm : j - acc.length < ww := by rw [← hl2]; exact (List.getElem?_eq_some_iff.mp hj).1
          obtain ⟨pp, rfl, hpp⟩ := g2 _ v hj
          have ej : j = i * ww + (j - acc.length) := by omega
          have r1 : j % ww = j - acc.length := by
            rw [ej, Nat.mul_comm, Nat.mul_add_mod]
            rw [show ww * i + (j - acc.length) - acc.length = j - acc.length by rw [Nat.mul_comm]; omega]
            exact Nat.mod_eq_of_lt hm
          have r2 : j / ww = i := by
            rw [ej, Nat.mul_comm, Nat.mul_add_div (by omega), Nat.div_eq_of_lt hm, Nat.add_zero]
          refine ⟨pp, rfl, ?_⟩
          rw [upd_ne (ne_of hpp hF2 (fun q => nomatch q)), hpp, r1, r2]
  · rintro σ H1 ⟨y, rfl, e1, acc, hF, hl, g⟩
    exact ⟨_, rfl, k F acc H1 nF e1 hF hl g⟩
end
end
section
/-! ### the second token -/
def ledR (rl : List Nat) (z : List Nat) : List Nat := z.map fun c => rl.getD c 0
theorem dS_app (r s : List Nat) : dS r ++ dS s = dS (r ++ s) := by
  show (⟨(dS r).cps ++ (dS s).cps⟩ : Str) = _
  unfold dS
  rw [List.map_append]
  congr 1
  simp
theorem getD_at {α : Type} {l : List α} {i : Nat} {d : α} (h : i < l.length) : l[i]? = some (l.getD i d) := by
  rw [List.getD_eq_getElem?_getD, List.getElem?_eq_getElem h]
  rfl
structure RuleOk (rl : List Nat) : Prop where
  len : rl.length = 10
  dig : ∀ c ∈ rl, c ≤ 9
theorem RuleOk.get {rl : List Nat} (h : RuleOk rl) (c : Nat) : rl.getD c 0 ≤ 9 := by
  rw [List.getD_eq_getElem?_getD]
  cases e : rl[c]? with
  | none => exact Nat.zero_le _
  | some v => exact h.dig v (List.mem_of_getElem? e)
/-- the token led by a rule -/
def ledT (rl : List Nat) (t : Tok) : Tok := ⟨t.a, t.b, t.d, t.rows.map (ledR rl)⟩
/-- and told twice as wide -/
def dblT (t : Tok) : Tok := ⟨2 * t.a, t.b, t.d, t.rows.map fun z => z ++ z⟩
theorem ledT_sm {rl : List Nat} {t : Tok} (hr : RuleOk rl) (h : t.Sm3) : (ledT rl t).Sm3 := by
  have k := h.sm.ok
  have ok : (ledT rl t).Ok := ⟨k.a1, k.b1, k.d1, k.ar, (List.length_map _).trans k.len, fun z hz => by
    obtain ⟨y, hy, rfl⟩ := List.mem_map.mp hz
    exact (List.length_map _).trans (k.row y hy), fun z hz c hc => by
    obtain ⟨y, hy, rfl⟩ := List.mem_map.mp hz
    obtain ⟨e, he, rfl⟩ := List.mem_map.mp hc
    exact hr.get e⟩
  exact ⟨⟨ok, h.sm.a3, h.sm.d3, t.a, k.a1, h.a3, Nat.dvd_refl _, fun x y => sgn_a (t := ledT rl t) x y⟩, h.a3⟩
theorem dbl_sgn {t : Tok} (h : t.Ok) (x y : Int) : sgn (dblT t) x y = sgn t x y := by
  have a1 := h.a1
  have hy := plY_rng (d := t.d) (y := y) (by have := h.d1; omega)
  have hx := plX_rng (a := t.a) (b := t.b) (d := t.d) (x := x) (y := y) (by omega)
  have hx2 := plX_rng (a := ((2 * t.a : Nat) : Int)) (b := t.b) (d := t.d) (x := x) (y := y) (by omega)
  have em : plX ((2 * t.a : Nat) : Int) t.b t.d x y % (t.a : Int) = plX t.a t.b t.d x y := by
    unfold plX
    exact Int.emod_emod_of_dvd _ ⟨2, by rw [Int.natCast_mul]; exact Int.mul_comm _ _⟩
  have hj : (plY t.d y).toNat < t.rows.length := by rw [h.len]; omega
  have hz := h.row _ (List.getElem_mem hj)
  show (((t.rows.map fun z => z ++ z).getD (plY t.d y).toNat []).getD (plX ((2 * t.a : Nat) : Int) t.b t.d x y).toNat 0) = (t.rows.getD (plY t.d y).toNat []).getD (plX t.a t.b t.d x y).toNat 0
  rw [List.getD_eq_getElem?_getD (l := t.rows.map fun z => z ++ z), List.getElem?_map, List.getD_eq_getElem?_getD (l := t.rows), List.getElem?_eq_getElem hj]
  show (t.rows[(plY t.d y).toNat] ++ t.rows[(plY t.d y).toNat]).getD _ 0 = (t.rows[(plY t.d y).toNat]).getD _ 0
  generalize t.rows[(plY t.d y).toNat] = z at hz
  generalize plX ((2 * t.a : Nat) : Int) t.b t.d x y = n at em hx2
  generalize plX t.a t.b t.d x y = m at em hx
  rw [List.getD_eq_getElem?_getD, List.getD_eq_getElem?_getD]
  by_cases hn : n < t.a
  · have : n = m := by rw [← em, Int.emod_eq_of_lt hx2.1 hn]
    subst this
    rw [List.getElem?_append_left (by rw [hz]; omega)]
  · have e2 : n - t.a = m := by
      have h1 : n % (t.a : Int) = (n - t.a) % (t.a : Int) := by
        rw [Int.sub_emod_right]
      rw [← em, h1, Int.emod_eq_of_lt (by omega) (by omega)]
    rw [List.getElem?_append_right (by rw [hz]; omega), hz]
    congr 2
    omega
theorem dblT_sm {t : Tok} (h : t.Sm3) : (dblT t).Sm := by
  have k := h.sm.ok
  have a3 := h.a3
  have d3 := h.sm.d3
  have a1 := k.a1
  have b1 := k.b1
  refine ⟨⟨by show 1 ≤ 2 * t.a; omega, by show t.b < 2 * t.a; omega, k.d1, ?_, (List.length_map _).trans k.len, fun z hz => ?_, fun z hz c hc => ?_⟩, by show 2 * t.a ≤ 6; omega, d3, t.a, a1, a3, ⟨2, Nat.mul_comm _ _⟩, fun x y => ?_⟩
  · show 2 * t.a * t.d ≤ 144
    exact Nat.le_trans (Nat.mul_le_mul (show 2 * t.a ≤ 6 by omega) d3) (by decide)
  · obtain ⟨y, hy, rfl⟩ := List.mem_map.mp hz
    rw [List.length_append, k.row y hy]
    show t.a + t.a = 2 * t.a
    omega
  · obtain ⟨y, hy, rfl⟩ := List.mem_map.mp hz
    rcases List.mem_append.mp hc with q | q
    · exact k.dig y hy c q
    · exact k.dig y hy c q
  · rw [dbl_sgn k, dbl_sgn k]
    exact sgn_a x y
end
section
section
variable {P : Program} {w : World} {K : PySem.W.Frag} {mg : Str → Option Value} {base : Heap}
theorem str_int_ok {c : Nat} (hc : c ≤ 9) : Nat.log2 ((c : Int).natAbs) < 1920 := by
  have all : ∀ i : Fin 10, Nat.log2 ((i.val : Int).natAbs) < 1920 := by decide
  exact all ⟨c, by omega⟩
def sp_second : Sp := fun vs H Q _ => ∃ (S p : Addr) (t : Tok), vs = [.ref S, .ref p] ∧ IsSrc S H ∧ IsTk t p H ∧ t.Sm3 ∧ RetS S H Q (fun v H' => ∃ u q, v = .ref q ∧ IsTk u q H' ∧ u.Sm)
theorem ok_second (T : Txt K mg base) : DefOk P w K mg base "_law_second" 4 ["_law_source", "_law_one_here"] sp_second := by
  refine defok T.d_law_second T.g_law_second sc_law_second (fun _ _ _ _ _ _ us hl => match us, hl with | [_, _], _ => rfl) (fun vs H Q E h => ?_) fun cdv A outer s H vs Q E hr h => ?_
  · obtain ⟨S, p, t, rfl, _⟩ := h
    rfl
  obtain ⟨S, p, t, rfl, hs, hp, ht, k⟩ := h
  have hS := sc_law_second.nd
  refine ⟨_, pss_cons (ps_set (i := 2) hS rfl (.inl rfl) (pe_cd (ok_take T) hr (by decide) (by rfl) (pa_cons (pv 0) (pa_cons pe_int pa_nil))))
    (pss_cons (ps_if (pt_cmpR op_eq (pv 2) pe_int (nomark _)) (pss_one (ps_ret (pe_cd (ok_token T) hr (by decide) (by rfl) (pa_cons (pv 0) pa_nil)))) pss_nil)
    (pss_cons (ps_set (i := 3) hS rfl (.inr rfl) (pe_lc (own := [("_law_turn", 9)]) (g := gName 9) (tt := tYes) rfl hS (pi_range1 rfl T.f_range (pa_cons pe_int pa_nil))
        (blkOk_by (own := [("_law_turn", 9)]) (N := ["_law_source", "_law_one_here", "_law_way", "_law_rule", "_law_wide", "_law_slant", "_law_high", "_law_rows_here", "_law_rows_led", "_law_turn", "_law_row", "_law_sign"]) (sc := defScope s_law_second) (by decide +kernel))
        (fun _ _ _ _ _ => pg_name (i := 9) hS rfl (Or.inl rfl)) (fun _ _ _ _ _ => pts_nil)
        (fun _ _ _ _ _ => pe_cd (ok_take T) hr (by decide) (by rfl) (pa_cons (pv 0) (pa_cons (pe_cd (ok_one T) hr (by decide) (by rfl) (pa_cons (pv 0) (pa_cons (pe_lst (pa_cons pe_int (pa_cons pe_int pa_nil))) pa_nil))) pa_nil)))))
    (pss_cons (ps_asg (pv 1) (pg_tup rfl (pgs_cons (pg_name (i := 4) hS rfl (.inl rfl)) (pgs_cons (pg_name (i := 5) hS rfl (.inl rfl)) (pgs_cons (pg_name (i := 6) hS rfl (.inl rfl)) (pgs_cons (pg_name (i := 7) hS rfl (.inl rfl)) pgs_nil))))))
    (pss_cons (ps_set (i := 8) hS rfl (.inl rfl) (pe_callTy call_tuple_of (by rfl) T.f_tuple (by decide +kernel) (pa_cons (pe_lc (own := [("_law_row", 10)]) (g := gName 10) (tt := tYes) rfl hS (pi_tup (pv 7))
        (blkOk_by (own := [("_law_row", 10)]) (N := ["_law_source", "_law_one_here", "_law_way", "_law_rule", "_law_wide", "_law_slant", "_law_high", "_law_rows_here", "_law_rows_led", "_law_turn", "_law_row", "_law_sign"]) (sc := defScope s_law_second) (by decide +kernel))
        (fun _ _ _ _ _ => pg_name (i := 10) hS rfl (Or.inl rfl)) (fun _ _ _ _ _ => pts_nil)
        (fun _ _ _ _ _ => pjn K pe_str (pe_lc (own := [("_law_sign", 11)]) (g := gName 11) (tt := tYes) rfl hS (pi_str (pv 10)) (blkOk_by (own := [("_law_sign", 11)]) (by rfl))
          (fun _ _ _ _ _ => pg_name (i := 11) hS rfl (Or.inl rfl)) (fun _ _ _ _ _ => pts_nil)
          (fun _ _ _ _ _ => pe_callTy call_str_int (by rfl) T.f_str (by decide +kernel) (pa_cons (pe_ix (ixL K) (pv 3) (pe_callTy call_int_str (by rfl) T.f_int (by decide +kernel) (pa_cons (pv 11) pa_nil)) (fun _ _ => rfl)) pa_nil))))) pa_nil)))
    (pss_cons (ps_if (pt_cmpR op_eq (pv 2) pe_int (nomark _)) (pss_one (ps_ret (pe_tup (pa_cons (pe_op op_mul pe_int (pv 4)) (pa_cons (pv 5) (pa_cons (pv 6) (pa_cons
        (pe_callTy call_tuple_of (by rfl) T.f_tuple (by decide +kernel) (pa_cons (pe_lc (own := [("_law_row", 10)]) (g := gName 10) (tt := tYes) rfl hS (pi_tup (pv 8))
          (blkOk_by (own := [("_law_row", 10)]) (N := ["_law_source", "_law_one_here", "_law_way", "_law_rule", "_law_wide", "_law_slant", "_law_high", "_law_rows_here", "_law_rows_led", "_law_turn", "_law_row", "_law_sign"]) (sc := defScope s_law_second) (by decide +kernel))
          (fun _ _ _ _ _ => pg_name (i := 10) hS rfl (Or.inl rfl)) (fun _ _ _ _ _ => pts_nil) (fun _ _ _ _ _ => pe_op op_add_str (pv 10) (pv 10))) pa_nil)) pa_nil))))))) pss_nil)
    (pss_one (ps_ret (pe_tup (pa_cons (pv 4) (pa_cons (pv 5) (pa_cons (pv 6) (pa_cons (pv 8) pa_nil)))))))))))), ?_⟩
  obtain ⟨r, hp0, hrw⟩ := hp.ex
  have a1 := ht.sm.ok.a1
  have a3 := ht.a3
  have d3 := ht.sm.d3
  refine ⟨_, rfl, S, 4, rfl, hs, by decide, by decide, fun v H1 sb1 hs1 ⟨wy, ev, hwy⟩ => ?_⟩
  subst ev
  refine ⟨_, rfl, rfl, _, rfl, ?_⟩
  by_cases h0 : wy = 0
  · subst h0
    refine iteD rfl ⟨_, rfl, S, rfl, hs1, fun v H2 sb2 hs2 ⟨u, q, ev, hq, hu⟩ => ?_⟩
    exact k v H2 (sb1.trans sb2) hs2 ⟨u, q, ev, hq, hu.sm⟩
  refine iteDF (fun z => h0 (by have := V.int.inj z; omega)) ?_
  -- the rule
  refine ⟨10, rfl, by decide, by decide, ?_⟩
  refine lcRS (S := S) (n := 10) (j := 9) (lo := 0) (Pv := fun v => ∃ c : Nat, c ≤ 9 ∧ v = .int (c : Nat)) hs1 (by decide) (by intro x; rfl) (fun i H2 hi sb2 hs2 Q' z => ?_) fun R acc H2 nR sb2 hs2 hR hl g => ?_
  · refine ⟨_, rfl, _, rfl, by show 2 ≤ sizeLine; decide, fun L nL => ?_⟩
    refine ⟨S, .ref L, rfl, hs2.put (hs2.ne nL), .inl ⟨L, [.int 3, .int 10], rfl, upd_same, hs2.ne nL, by show 1 ≤ 2; decide, by show 2 ≤ 100; decide, fun v H3 sb3 hs3 hv => ?_⟩⟩
    have hn : ∃ n : Nat, v = .int (n : Nat) ∧ 1 ≤ n ∧ n ≤ 10 := by
      rcases List.mem_cons.mp hv with h | h
      · exact ⟨3, h, by decide, by decide⟩
      · exact ⟨10, List.mem_singleton.mp h, by decide, by decide⟩
    obtain ⟨n, rfl, n1, n2⟩ := hn
    refine ⟨S, n, rfl, hs3, n1, by omega, fun v H4 sb4 hs4 ⟨c, ev, hc⟩ => ?_⟩
    exact z v H4 ((((Sb.of (Same.refl H2)).mut nL).trans sb3).trans sb4) hs4 ⟨c, by omega, ev⟩
  obtain ⟨rl, erl, hrl⟩ := picks (f := fun c : Nat => V.int (c : Nat)) (p := fun c => c ≤ 9) g
  have rok : RuleOk rl := ⟨by rw [← hl, erl, List.length_map], hrl⟩
  rw [erl] at hR
  have sb12 := sb1.trans sb2
  have hT2 := hp.sb hs sb12
  obtain ⟨r2, hp2, hrw2⟩ := hT2.ex
  refine ⟨_, rfl, p, _, rfl, SqT.of hp2, rfl, _, _, rfl, _, _, rfl, _, _, rfl, _, _, rfl, rfl, ?_⟩
  have lenV : (rowsV t.rows).length ≤ 40000 := by
    unfold rowsV
    rw [List.length_map, ht.sm.ok.len]
    omega
  -- the rows led
  refine ⟨_, rfl, r2, rfl, ⟨_, SqT.of hrw2⟩, ?_⟩
  refine lcT (j := 10) (xs := rowsV t.rows) (Stab.val fun i => .str (dS (ledR rl (t.rows.getD i [])))) lenV hrw2 (by intro x; rfl) (fun i x H3 hx e3 Q' z => ?_) fun D acc2 H3 e3 nD hD hl2 g2 => ?_
  · have hix : i < t.rows.length := by
      have := (List.getElem?_eq_some_iff.mp hx).1
      unfold rowsV at this
      rwa [List.length_map] at this
    have hrow := getD_at (d := []) hix
    have ex : x = .str (dS (t.rows.getD i [])) := Option.some.inj (hx.symm.trans (rowsV_at hrow))
    subst ex
    have hmem := List.mem_of_getElem? hrow
    have hlen := ht.sm.ok.row _ hmem
    have hdig := ht.sm.ok.dig _ hmem
    generalize t.rows.getD i [] = row at hlen hdig z
    refine ⟨⟨_, rfl⟩, _, rfl, dS row, rfl, ?_⟩
    have en : (dS row).cps.size = row.length := dS_len row
    refine lcW (j := 11) (walk_str (z := dS row)) (Stab.val fun m => .str (dS [rl.getD (row.getD m 0) 0])) (by omega) (fun _ _ => trivial) (by intro x; rfl) (fun m y H4 H5 hm e4 yy => ?_) fun D2 acc3 H4 e4 nD2 hD2 hl3 g3 => ?_
    · obtain ⟨rfl, c, hc, rfl⟩ := yy
      obtain ⟨c', hc', rfl⟩ := dS_get hc
      have hc9 := hdig c' (List.mem_of_getElem? hc')
      have eg : row.getD m 0 = c' := by
        rw [List.getD_eq_getElem?_getD, hc']
        rfl
      refine ⟨rfl, fun Q2 z2 => ?_⟩
      refine ⟨_, rfl, _, rfl, dS [c'], (c' : Nat), rfl, int_dS hc9, by rw [dS_len]; show 1 ≤ 640; decide, R, rl.map (fun c : Nat => V.int (c : Nat)), _, .int (rl.getD c' 0 : Nat), rfl, rfl, SqL.of (e4 _ _ (e3 _ _ hR)), atI_nat ?_, ?_⟩
      · rw [List.getElem?_map, getD_at (d := 0) (by rw [rok.len]; omega)]
        rfl
      · refine ⟨_, rfl, str_int_ok (rok.get c'), z2 _ H5 (Same.refl _) ?_⟩
        show V.str (Str.ofString (toString ((rl.getD c' 0 : Nat) : Int))) = _
        rw [str_dS (rok.get c'), eg]
    · have ea := good_val g3 hl3
      have el : acc3 = ((ledR rl row).map fun c => dS [c]).map V.str := by
        rw [ea, en]
        unfold ledR
        rw [List.map_map, List.map_map]
        refine List.ext_getElem? fun m => ?_
        by_cases hm : m < row.length
        · rw [List.getElem?_map, List.getElem?_range hm, List.getElem?_map, getD_at (d := 0) hm]
          rfl
        · rw [List.getElem?_eq_none (by rw [List.length_map, List.length_range]; omega), List.getElem?_eq_none (by rw [List.length_map]; omega)]
      have ll : (ledR rl row).length = row.length := List.length_map _
      refine ⟨Str.ofString "", D2, (ledR rl row).map fun c => dS [c], rfl, rfl, .inl (SqL.of ?_), join_size _ (by have := ht.sm.ok.a2; omega), ?_⟩
      · rw [hD2, el]
      · rw [join_dS]
        exact z _ H4 e4 rfl
  have hacc : acc2 = rowsV (t.rows.map (ledR rl)) := by
    have ea := good_val g2 hl2
    rw [ea]
    unfold rowsV
    rw [List.length_map, List.map_map]
    refine List.ext_getElem? fun m => ?_
    by_cases hm : m < t.rows.length
    · rw [List.getElem?_map, List.getElem?_range hm, List.getElem?_map, getD_at (d := []) hm]
      rfl
    · rw [List.getElem?_eq_none (by rw [List.length_map, List.length_range]; omega), List.getElem?_eq_none (by rw [List.length_map]; omega)]
  rw [hacc] at hD
  refine ⟨D, _, rfl, .inl ⟨SqL.of hD, fun rr nrr => ?_⟩⟩
  have e4 : Same H3 (upd H3 rr (.tup (rowsV (t.rows.map (ledR rl))))) := Same.upd nrr
  have hrr : upd H3 rr (.tup (rowsV (t.rows.map (ledR rl)))) rr = some (.tup (rowsV (ledT rl t).rows)) := upd_same
  generalize upd H3 rr (.tup (rowsV (t.rows.map (ledR rl)))) = H4 at e4 hrr
  have e34 := e3.trans e4
  have srcS : ∀ {Ha Hb : Hp}, IsSrc S Ha → Same Ha Hb → IsSrc S Hb := fun {Ha Hb} ⟨x, y, z, r⟩ e => ⟨x, y, e _ _ z, r⟩
  have hs4 := srcS hs2 e34
  have sb4 := sb12.trans (Sb.of e34)
  have lsm := ledT_sm rok ht
  refine ⟨_, rfl, rfl, _, rfl, ?_⟩
  by_cases h1 : wy = 1
  · subst h1
    refine iteD rfl ⟨_, rfl, _, _, rfl, rfl, .inl ⟨by decide, by decide⟩, _, rfl, _, rfl, _, rfl, rr, rfl, ⟨_, SqT.of hrr⟩, ?_⟩
    have lenV2 : (rowsV (ledT rl t).rows).length ≤ 40000 := by
      unfold rowsV
      rw [List.length_map, lsm.sm.ok.len]
      have := lsm.sm.d3
      omega
    refine lcT (j := 10) (xs := rowsV (ledT rl t).rows) (Stab.val fun i => .str (dS ((ledT rl t).rows.getD i [] ++ (ledT rl t).rows.getD i []))) lenV2 hrr (by intro x; rfl) (fun i x H5 hx e5 Q' z => ?_) fun D3 acc4 H5 e5 nD3 hD3 hl4 g4 => ?_
    · have hix : i < (ledT rl t).rows.length := by
        have := (List.getElem?_eq_some_iff.mp hx).1
        unfold rowsV at this
        rwa [List.length_map] at this
      have hrow := getD_at (d := []) hix
      have ex : x = .str (dS ((ledT rl t).rows.getD i [])) := Option.some.inj (hx.symm.trans (rowsV_at hrow))
      subst ex
      have hlen := lsm.sm.ok.row _ (List.mem_of_getElem? hrow)
      refine ⟨_, rfl, _, rfl, _, _, rfl, rfl, ?_, z _ H5 (Same.refl _) (congrArg V.str (dS_app _ _))⟩
      rw [dS_len, hlen]
      exact Nat.le_trans (show (ledT rl t).a + (ledT rl t).a ≤ 1000 by have := lsm.a3; omega) (by decide)
    · have hacc4 : acc4 = rowsV (dblT (ledT rl t)).rows := by
        have ea := good_val g4 hl4
        rw [ea]
        unfold rowsV dblT
        rw [List.length_map, List.map_map]
        refine List.ext_getElem? fun m => ?_
        by_cases hm : m < (ledT rl t).rows.length
        · rw [List.getElem?_map, List.getElem?_range hm, List.getElem?_map, getD_at (d := []) hm]
          rfl
        · rw [List.getElem?_eq_none (by rw [List.length_map, List.length_range]; omega), List.getElem?_eq_none (by rw [List.length_map]; omega)]
      rw [hacc4] at hD3
      refine ⟨D3, _, rfl, .inl ⟨SqL.of hD3, fun r5 n5 => ⟨by show 4 ≤ sizeLine; decide, fun q nq => ?_⟩⟩⟩
      have e6 : Same H5 (upd H5 r5 (.tup (rowsV (dblT (ledT rl t)).rows))) := Same.upd n5
      have e7 := Same.upd (o := .tup [.int (2 * (t.a : Int)), .int (t.b : Int), .int (t.d : Int), .ref r5]) nq
      have e57 := e5.trans (e6.trans e7)
      refine k _ _ (sb4.trans (Sb.of e57)) (srcS hs4 e57) ⟨dblT (ledT rl t), q, rfl, ⟨r5, ?_, e7 _ _ upd_same⟩, dblT_sm lsm⟩
      rw [upd_same]
      show _ = some (HO.tup [V.int ((2 * t.a : Nat) : Int), _, _, _])
      rw [Int.natCast_mul]
      rfl
  · refine iteDF (fun z => h1 (by have := V.int.inj z; omega)) ?_
    refine ⟨_, rfl, _, rfl, _, rfl, _, rfl, by show 4 ≤ sizeLine; decide, fun q nq => ?_⟩
    have e7 := Same.upd (o := .tup [.int (t.a : Int), .int (t.b : Int), .int (t.d : Int), .ref rr]) nq
    exact k _ _ (sb4.trans (Sb.of e7)) (srcS hs4 e7) ⟨ledT rl t, q, rfl, ⟨rr, upd_same, e7 _ _ hrr⟩, lsm.sm⟩
end
end
section
/-! ### periods of a colouring of the plane -/
def Per (t : Tok) (x y : Int) : Prop := ∀ X Y : Int, sgn t (X + x) (Y + y) = sgn t X Y
theorem Per.zero {t : Tok} : Per t 0 0 := fun X Y => by rw [Int.add_zero, Int.add_zero]
theorem Per.add {t : Tok} {x y z v : Int} (h : Per t x y) (k : Per t z v) : Per t (x + z) (y + v) := fun X Y => by
  rw [← Int.add_assoc, ← Int.add_assoc, k, h]
theorem Per.neg {t : Tok} {x y : Int} (h : Per t x y) : Per t (-x) (-y) := fun X Y => by
  have q := h (X + -x) (Y + -y)
  rw [Int.neg_add_cancel_right, Int.neg_add_cancel_right] at q
  exact q.symm
theorem Per.sub {t : Tok} {x y z v : Int} (h : Per t x y) (k : Per t z v) : Per t (x - z) (y - v) := by
  rw [Int.sub_eq_add_neg, Int.sub_eq_add_neg]
  exact h.add k.neg
theorem Per.nmul {t : Tok} {x y : Int} (h : Per t x y) : ∀ n : Nat, Per t ((n : Int) * x) ((n : Int) * y)
  | 0 => by
    rw [Int.natCast_zero, Int.zero_mul, Int.zero_mul]
    exact Per.zero
  | n + 1 => by
    have q := (Per.nmul h n).add h
    rw [Int.natCast_add, Int.add_mul, Int.add_mul]
    have e : ((1 : Nat) : Int) = 1 := rfl
    rw [e, Int.one_mul, Int.one_mul]
    exact q
theorem Per.mul {t : Tok} {x y : Int} (h : Per t x y) (k : Int) : Per t (k * x) (k * y) := by
  rcases Int.eq_nat_or_neg k with ⟨n, rfl | rfl⟩
  · exact h.nmul n
  · have q := (h.nmul n).neg
    rw [← Int.neg_mul, ← Int.neg_mul] at q
    exact q
/-- the signs repeat by the lattice that tells them -/
theorem lat_shift {t : Tok} (h : t.Ok) (j k X Y : Int) : sgn t (X + (j * t.a + k * t.b)) (Y + k * t.d) = sgn t X Y := by
  have hd := h.d1
  have hy : plY t.d (Y + k * t.d) = plY t.d Y := by
    rw [plY_emod, plY_emod, Int.add_mul_emod_self_right]
  have hq : (Y + k * (t.d : Int)) / (t.d : Int) = Y / (t.d : Int) + k := Int.add_mul_ediv_right _ _ (by omega)
  have hx : plX t.a t.b t.d (X + (j * t.a + k * t.b)) (Y + k * t.d) = plX t.a t.b t.d X Y := by
    unfold plX
    rw [hq, Int.add_mul]
    have e : X + (j * (t.a : Int) + k * (t.b : Int)) - (Y / (t.d : Int) * (t.b : Int) + k * (t.b : Int)) = (X - Y / (t.d : Int) * (t.b : Int)) + j * (t.a : Int) := by omega
    rw [e, Int.add_mul_emod_self_right]
  unfold sgn
  rw [hx, hy]
theorem per_lat {t : Tok} (h : t.Ok) (j k : Int) : Per t (j * t.a + k * t.b) (k * t.d) := fun X Y => lat_shift h j k X Y
theorem per_a {t : Tok} (h : t.Ok) : Per t t.a 0 := by
  have q := per_lat h 1 0
  rwa [Int.one_mul, Int.zero_mul, Int.add_zero, Int.zero_mul] at q
theorem per_bd {t : Tok} (h : t.Ok) : Per t t.b t.d := by
  have q := per_lat h 0 1
  rwa [Int.zero_mul, Int.one_mul, Int.zero_add, Int.one_mul] at q
/-- a place of a lattice of periods -/
theorem at_place {t : Tok} {A B D : Int} (h1 : Per t A 0) (h2 : Per t B D) (X Y : Int) : sgn t (plX A B D X Y) (plY D Y) = sgn t X Y := by
  have q := (h1.mul (-((X - Y / D * B) / A))).add (h2.mul (-(Y / D)))
  have z := q X Y
  have ex : X + (-((X - Y / D * B) / A) * A + -(Y / D) * B) = plX A B D X Y := by
    unfold plX
    rw [Int.emod_def, Int.neg_mul, Int.neg_mul, Int.mul_comm A]
    omega
  have ey : Y + (-((X - Y / D * B) / A) * 0 + -(Y / D) * D) = plY D Y := by
    unfold plY
    rw [Int.mul_zero, Int.neg_mul]
    omega
  rw [ex, ey] at z
  exact z
theorem perM_per {t : Tok} (h : t.Ok) {x y : Int} : perM t x y = true ↔ Per t x y := by
  rw [perM_iff h.a1]
  constructor
  · intro p X Y
    have a1 := h.a1
    have d1 := h.d1
    have hx := plX_rng (a := t.a) (b := t.b) (d := t.d) (x := X) (y := Y) (by omega)
    have hy := plY_rng (d := t.d) (y := Y) (by omega)
    have e0 := at_place (per_a h) (per_bd h) X Y
    have e1 := p.eq (plY t.d Y).toNat (plX t.a t.b t.d X Y).toNat (by omega) (by omega)
    rw [Int.toNat_of_nonneg hx.1, Int.toNat_of_nonneg hy.1, e0] at e1
    rw [← e1]
    have q := lat_shift h (-((X - Y / t.d * t.b) / t.a)) (-(Y / t.d)) (X + x) (Y + y)
    rw [← q]
    congr 1
    · unfold plX
      rw [Int.emod_def, Int.neg_mul, Int.neg_mul, Int.mul_comm (t.a : Int)]
      omega
    · unfold plY
      rw [Int.neg_mul]
      omega
  · exact fun p => ⟨fun i m _ _ => p _ _⟩
theorem bothP_per {t u : Tok} (ht : t.Ok) (hu : u.Ok) {x y : Int} : bothP t u x y = true ↔ Per t x y ∧ Per u x y := by
  unfold bothP
  rw [Bool.and_eq_true, perM_per ht, perM_per hu]
theorem has_lat {t u : Tok} (ht : t.Sm) (hu : u.Sm) : HasLat t u := by
  have a1 := ht.ok.a1
  have a2 := hu.ok.a1
  have d1 := ht.ok.d1
  have d2 := hu.ok.d1
  refine ⟨⟨t.a * u.a, Nat.mul_pos a1 a2, Nat.mul_le_mul ht.a3 hu.a3, (bothP_per ht.ok hu.ok).mpr ⟨?_, ?_⟩⟩, ⟨(t.a * t.d) * (u.a * u.d), Nat.mul_pos (Nat.mul_pos a1 d1) (Nat.mul_pos a2 d2), Nat.mul_le_mul (Nat.mul_le_mul ht.a3 ht.d3) (Nat.mul_le_mul hu.a3 hu.d3), (bothP_per ht.ok hu.ok).mpr ⟨?_, ?_⟩⟩⟩
  · have q := (per_a ht.ok).mul u.a
    rw [Int.mul_zero] at q
    rw [Int.natCast_mul, Int.mul_comm]
    exact q
  · have q := (per_a hu.ok).mul t.a
    rw [Int.mul_zero] at q
    rw [Int.natCast_mul]
    exact q
  · have q := per_lat ht.ok (-((t.b : Int) * (u.a * u.d : Nat))) ((t.a : Int) * (u.a * u.d : Nat))
    have e : -((t.b : Int) * (u.a * u.d : Nat)) * (t.a : Int) + (t.a : Int) * (u.a * u.d : Nat) * (t.b : Int) = 0 := by
      have : (t.b : Int) * (u.a * u.d : Nat) * (t.a : Int) = (t.a : Int) * (u.a * u.d : Nat) * (t.b : Int) := by
        rw [Int.mul_comm (t.b : Int), Int.mul_assoc, Int.mul_comm (t.b : Int), ← Int.mul_assoc, Int.mul_comm ((u.a * u.d : Nat) : Int)]
      rw [Int.neg_mul, this]
      omega
    rw [e] at q
    have e2 : ((t.a * t.d * (u.a * u.d) : Nat) : Int) = (t.a : Int) * (u.a * u.d : Nat) * (t.d : Int) := by
      rw [Int.natCast_mul, Int.natCast_mul t.a, Int.mul_assoc, Int.mul_assoc, Int.mul_comm (t.d : Int)]
    rw [e2]
    exact q
  · have q := per_lat hu.ok (-((u.b : Int) * (t.a * t.d : Nat))) ((u.a : Int) * (t.a * t.d : Nat))
    have e : -((u.b : Int) * (t.a * t.d : Nat)) * (u.a : Int) + (u.a : Int) * (t.a * t.d : Nat) * (u.b : Int) = 0 := by
      have : (u.b : Int) * (t.a * t.d : Nat) * (u.a : Int) = (u.a : Int) * (t.a * t.d : Nat) * (u.b : Int) := by
        rw [Int.mul_comm (u.b : Int), Int.mul_assoc, Int.mul_comm (u.b : Int), ← Int.mul_assoc, Int.mul_comm ((t.a * t.d : Nat) : Int)]
      rw [Int.neg_mul, this]
      omega
    rw [e] at q
    have e2 : ((t.a * t.d * (u.a * u.d) : Nat) : Int) = (u.a : Int) * (t.a * t.d : Nat) * (u.d : Int) := by
      rw [Int.natCast_mul (t.a * t.d), Int.natCast_mul u.a, Int.mul_comm, Int.mul_assoc, Int.mul_assoc, Int.mul_comm (u.d : Int)]
    rw [e2]
    exact q
end
section
/-! ### the shape is a function of the colouring -/
theorem gcd_cl {S : Int → Prop} (sb : ∀ x y, S x → S y → S (x - y)) (ml : ∀ x (k : Int), S x → S (k * x)) (m n : Nat) : S m → S n → S (Nat.gcd m n : Nat) := by
  induction m, n using Nat.gcd.induction with
  | H0 n =>
    intro _ h
    rw [Nat.gcd_zero_left]
    exact h
  | H1 m n hm ih =>
    intro h1 h2
    rw [Nat.gcd_rec]
    refine ih ?_ h1
    have e : ((n % m : Nat) : Int) = (n : Int) - ((n / m : Nat) : Int) * (m : Int) := by
      have := Nat.div_add_mod n m
      have z : ((n / m * m : Nat) : Int) = ((n / m : Nat) : Int) * (m : Int) := Int.natCast_mul _ _
      rw [← z]
      have : m * (n / m) = n / m * m := Nat.mul_comm _ _
      omega
    rw [e]
    exact sb _ _ h2 (ml _ _ h1)
theorem least_ex {P : Nat → Prop} : ∀ (n : Nat), P n → ∃ m, P m ∧ ∀ k, P k → m ≤ k := by
  intro n
  induction n using Nat.strongRecOn with
  | _ n ih =>
    intro h
    rcases Classical.em (∃ k, k < n ∧ P k) with ⟨k, hk, pk⟩ | no
    · exact ih k hk pk
    · refine ⟨n, h, fun k pk => ?_⟩
      rcases Nat.lt_or_ge k n with q | q
      · exact absurd ⟨k, q, pk⟩ no
      · exact q
theorem find_first {p : Nat → Bool} {x : Nat} : ∀ {l : List Nat}, l.Pairwise (· < ·) → x ∈ l → p x = true → (∀ y ∈ l, y < x → p y = false) → l.find? p = some x
  | [], _, h, _, _ => nomatch h
  | a :: r, s, h, px, least => by
    rw [List.find?_cons]
    by_cases e : a = x
    · rw [e, px]
    · have hr : x ∈ r := (List.mem_cons.mp h).resolve_left (Ne.symm e)
      have lt := (List.pairwise_cons.mp s).1 x hr
      rw [least a List.mem_cons_self lt]
      exact find_first (List.pairwise_cons.mp s).2 hr px fun y hy => least y (List.mem_cons_of_mem _ hy)
theorem some_first {β : Type} {f : Nat → Option β} {x : Nat} {b : β} : ∀ {l : List Nat}, l.Pairwise (· < ·) → x ∈ l → f x = some b → (∀ y ∈ l, y < x → f y = none) → l.findSome? f = some b
  | [], _, h, _, _ => nomatch h
  | a :: r, s, h, px, least => by
    rw [List.findSome?_cons]
    by_cases e : a = x
    · rw [e, px]
    · have hr : x ∈ r := (List.mem_cons.mp h).resolve_left (Ne.symm e)
      have lt := (List.pairwise_cons.mp s).1 x hr
      rw [least a List.mem_cons_self lt]
      exact some_first (List.pairwise_cons.mp s).2 hr px fun y hy => least y (List.mem_cons_of_mem _ hy)
theorem divs_srt (n : Nat) : (divs n).Pairwise (· < ·) := by
  unfold divs
  rw [List.pairwise_map]
  refine List.Pairwise.filter _ ?_
  exact List.pairwise_lt_range.imp fun h => by omega
theorem divs_mem {n a : Nat} (h1 : 1 ≤ a) (h2 : a ∣ n) (hn : 1 ≤ n) : a ∈ divs n := by
  have le := Nat.le_of_dvd hn h2
  unfold divs
  refine List.mem_map.mpr ⟨a - 1, List.mem_filter.mpr ⟨List.mem_range.mpr (by omega), decide_eq_true ?_⟩, by omega⟩
  have e : (1 : Int) + ((a - 1 : Nat) : Int) = (a : Int) := by omega
  rw [e]
  exact Int.emod_eq_zero_of_dvd (Int.natCast_dvd_natCast.mpr h2)
structure LvlIs (t : Tok) (p : Nat) : Prop where
  pos : 1 ≤ p
  per : Per t p 0
  least : ∀ a : Nat, 1 ≤ a → Per t a 0 → p ≤ a
theorem lvl_is {t : Tok} (h : t.Ok) : LvlIs t (lvl t) := by
  obtain ⟨p, ⟨p1, pp⟩, lp⟩ := least_ex (P := fun a => 1 ≤ a ∧ Per t a 0) t.a ⟨h.a1, per_a h⟩
  have cl := gcd_cl (S := fun x => Per t x 0) (fun x y hx hy => by
    have q := hx.sub hy
    rwa [Int.sub_zero] at q) (fun x k hx => by
    have q := hx.mul k
    rwa [Int.mul_zero] at q) p t.a pp (per_a h)
  have gp : 1 ≤ Nat.gcd p t.a := Nat.gcd_pos_of_pos_left _ p1
  have e : Nat.gcd p t.a = p := Nat.le_antisymm (Nat.le_of_dvd p1 (Nat.gcd_dvd_left _ _)) (lp _ ⟨gp, cl⟩)
  have dv : p ∣ t.a := by
    have := Nat.gcd_dvd_right p t.a
    rwa [e] at this
  have hf : (divs t.a).find? (fun a => perM t (a : Nat) 0) = some p := find_first (divs_srt _) (divs_mem p1 dv h.a1) ((perM_per h).mpr pp) fun y hy lt => by
    cases z : perM t (y : Nat) 0 with
    | false => rfl
    | true =>
      have := lp y ⟨(divs_pos hy).1, (perM_per h).mp z⟩
      omega
  have el : lvl t = p := by
    unfold lvl
    rw [hf]
    rfl
  rw [el]
  exact ⟨p1, pp, fun a h1 h2 => lp a ⟨h1, h2⟩⟩
theorem lstB_some {t : Tok} (h : t.Ok) {d : Nat} {r : Nat × Nat × Nat} (e : lstB t d = some r) : ∃ b : Nat, r = (lvl t, b, d) ∧ Per t (b : Nat) (d : Nat) := by
  unfold lstB at e
  cases z : (List.range (lvl t)).find? fun b => perM t (b : Nat) (d : Nat) with
  | none =>
    rw [z] at e
    cases e
  | some b =>
    rw [z] at e
    exact ⟨b, (Option.some.inj e).symm, (perM_per h).mp (by simpa using List.find?_some z)⟩
theorem lstB_ex {t : Tok} (h : t.Ok) {d : Nat} {b : Int} (p : Per t b d) : ∃ r, lstB t d = some r := by
  have L := lvl_is h
  have lp := L.pos
  have m0 := Int.emod_nonneg b (b := (lvl t : Int)) (by omega)
  have m1 := Int.emod_lt_of_pos b (b := (lvl t : Int)) (by omega)
  have q : Per t (b % (lvl t : Int)) d := by
    have z := p.sub (L.per.mul (b / (lvl t : Int)))
    rw [Int.mul_zero, Int.sub_zero] at z
    have e : b % (lvl t : Int) = b - b / (lvl t : Int) * (lvl t : Int) := by
      rw [Int.emod_def, Int.mul_comm]
    rw [e]
    exact z
  unfold lstB
  cases z : (List.range (lvl t)).find? fun b => perM t (b : Nat) (d : Nat) with
  | some b => exact ⟨_, rfl⟩
  | none =>
    have no := List.find?_eq_none.mp z (b % (lvl t : Int)).toNat (List.mem_range.mpr (by omega))
    rw [Int.toNat_of_nonneg m0] at no
    exact absurd ((perM_per h).mpr q) no
structure ShpIs (t : Tok) (d b : Nat) : Prop where
  eq : lstM t = (lvl t, b, d)
  at_ : lstB t d = some (lvl t, b, d)
  pos : 1 ≤ d
  least : ∀ e : Nat, 1 ≤ e → (∃ b : Int, Per t b e) → d ≤ e
theorem shp_is {t : Tok} (h : t.Ok) : ∃ d b, ShpIs t d b := by
  obtain ⟨d, ⟨d1, b, pd⟩, ld⟩ := least_ex (P := fun d => 1 ≤ d ∧ ∃ b : Int, Per t b d) t.d ⟨h.d1, _, per_bd h⟩
  have cl := gcd_cl (S := fun y => ∃ b : Int, Per t b y) (fun x y ⟨b1, h1⟩ ⟨b2, h2⟩ => ⟨_, h1.sub h2⟩) (fun x k ⟨b1, h1⟩ => ⟨_, h1.mul k⟩) d t.d ⟨b, pd⟩ ⟨_, per_bd h⟩
  have gp : 1 ≤ Nat.gcd d t.d := Nat.gcd_pos_of_pos_left _ d1
  have e : Nat.gcd d t.d = d := Nat.le_antisymm (Nat.le_of_dvd d1 (Nat.gcd_dvd_left _ _)) (ld _ ⟨gp, cl⟩)
  have dv : d ∣ t.d := by
    have := Nat.gcd_dvd_right d t.d
    rwa [e] at this
  obtain ⟨r, hr⟩ := lstB_ex h pd
  obtain ⟨b0, er, _⟩ := lstB_some h hr
  subst er
  refine ⟨d, b0, ?_, hr, d1, fun e h1 h2 => ld e ⟨h1, h2⟩⟩
  unfold lstM
  rw [some_first (divs_srt _) (divs_mem d1 dv h.d1) hr fun y hy lt => ?_]
  · rfl
  · cases z : lstB t y with
    | none => rfl
    | some r =>
      obtain ⟨b1, _, p1⟩ := lstB_some h z
      have := ld y ⟨(divs_pos hy).1, _, p1⟩
      omega
theorem shp_per {t : Tok} (h : t.Ok) : Per t (shpA t : Nat) 0 ∧ Per t (shpB t : Nat) (shpD t : Nat) := by
  obtain ⟨d, b, S⟩ := shp_is h
  obtain ⟨b0, er, p⟩ := lstB_some h S.at_
  have eb : b = b0 := congrArg (fun z => z.2.1) er
  subst eb
  unfold shpA shpB shpD
  rw [S.eq]
  exact ⟨(lvl_is h).per, p⟩
theorem sm_l3 {t : Tok} (h : t.Sm) : L3s t := by
  obtain ⟨s1, s2, s3, s4, s5⟩ := lstM_ok h.ok
  obtain ⟨d, b, S⟩ := shp_is h.ok
  obtain ⟨w, w1, w3, _, hw⟩ := h.per
  have lw := (lvl_is h.ok).least w w1 fun X Y => by rw [Int.add_zero]; exact hw X Y
  have ea : shpA t = lvl t := by unfold shpA; rw [S.eq]
  have d3 := h.d3
  exact ⟨by omega, by omega, by omega, by omega, by omega, by omega⟩
/-- two colourings of the plane are one -/
def Alike (t u : Tok) : Prop := ∀ X Y : Int, sgn t X Y = sgn u X Y
theorem Alike.symm {t u : Tok} (h : Alike t u) : Alike u t := fun X Y => (h X Y).symm
theorem Alike.per {t u : Tok} (h : Alike t u) {x y : Int} (p : Per t x y) : Per u x y := fun X Y => by
  rw [← h, ← h]
  exact p X Y
theorem Alike.lvl {t u : Tok} (h : Alike t u) (ht : t.Ok) (hu : u.Ok) : lvl t = lvl u :=
  Nat.le_antisymm ((lvl_is ht).least _ (lvl_is hu).pos (h.symm.per (lvl_is hu).per)) ((lvl_is hu).least _ (lvl_is ht).pos (h.per (lvl_is ht).per))
theorem Alike.perM {t u : Tok} (h : Alike t u) (ht : t.Ok) (hu : u.Ok) (x y : Int) : perM t x y = perM u x y := by
  rw [Bool.eq_iff_iff, perM_per ht, perM_per hu]
  exact ⟨h.per, h.symm.per⟩
theorem Alike.shp {t u : Tok} (h : Alike t u) (ht : t.Ok) (hu : u.Ok) : lstM t = lstM u := by
  obtain ⟨d, b, S⟩ := shp_is ht
  obtain ⟨e, c, R⟩ := shp_is hu
  obtain ⟨_, _, p1⟩ := lstB_some ht S.at_
  obtain ⟨_, _, p2⟩ := lstB_some hu R.at_
  have ed : d = e := Nat.le_antisymm (S.least _ R.pos ⟨_, h.symm.per p2⟩) (R.least _ S.pos ⟨_, h.per p1⟩)
  subst ed
  have el : lstB t d = lstB u d := by
    unfold lstB
    rw [h.lvl ht hu]
    congr 2
    funext b
    exact h.perM ht hu _ _
  have := Option.some.inj (S.at_.symm.trans (el.trans R.at_))
  rw [S.eq, R.eq, this]
theorem alike_eq {t u : Tok} (h : Alike t u) (ht : t.Ok) (hu : u.Ok) : eqC t u = true := by
  have e := h.shp ht hu
  unfold eqC
  refine decide_eq_true ⟨e, ?_⟩
  unfold shpR shpA shpD nrm
  rw [e]
  refine List.map_congr_left fun y _ => List.map_congr_left fun x _ => h _ _
theorem nrm_at {t : Tok} {a d x y : Nat} (hx : x < a) (hy : y < d) : ((nrm t a d).getD y []).getD x 0 = sgn t (x : Int) (y : Int) := by
  unfold nrm
  have h1 : ((List.range d).map fun y : Nat => (List.range a).map fun x : Nat => sgn t (x : Int) (y : Int)).getD y [] = (List.range a).map fun x : Nat => sgn t (x : Int) (y : Int) := by
    rw [List.getD_eq_getElem?_getD, List.getElem?_map, List.getElem?_range hy]
    rfl
  rw [h1, List.getD_eq_getElem?_getD, List.getElem?_map, List.getElem?_range hx]
  rfl
/-- the carpet by its shape is the carpet -/
theorem shp_alike {t : Tok} (h : t.Ok) : Alike (shpT t) t := fun X Y => by
  obtain ⟨s1, s2, s3, s4, s5⟩ := lstM_ok h
  obtain ⟨p1, p2⟩ := shp_per h
  have hx := plX_rng (a := (shpA t : Nat)) (b := (shpB t : Nat)) (d := (shpD t : Nat)) (x := X) (y := Y) (by omega)
  have hy := plY_rng (d := (shpD t : Nat)) (y := Y) (by omega)
  have q := at_place p1 p2 X Y
  have e := nrm_at (t := t) (a := shpA t) (d := shpD t) (x := (plX (shpA t : Nat) (shpB t : Nat) (shpD t : Nat) X Y).toNat) (y := (plY (shpD t : Nat) Y).toNat) (by omega) (by omega)
  rw [Int.toNat_of_nonneg hx.1, Int.toNat_of_nonneg hy.1, q] at e
  exact e
theorem eq_alike {t u : Tok} (h : eqC t u = true) (ht : t.Ok) (hu : u.Ok) : Alike t u := fun X Y => by
  obtain ⟨h1, h2⟩ := of_decide_eq_true h
  rw [← shp_alike ht X Y, ← shp_alike hu X Y]
  have e : shpT t = shpT u := by
    unfold shpT
    rw [h2]
    unfold shpA shpB shpD
    rw [h1]
  rw [e]
end
section
/-! ### what is met -/
def Met (t u : Tok) (c e : Nat) : Prop := ∃ X Y : Int, sgn t X Y = c ∧ sgn u X Y = e
theorem sgn9 {t : Tok} (h : t.Ok) (X Y : Int) : sgn t X Y ≤ 9 := by
  obtain ⟨_, _, _, _, _, _, _, _, q⟩ := (sgnAt h X Y).ex
  exact q
/-- a lattice of periods of both carpets reaches every place -/
theorem cover {t u : Tok} {A D : Nat} {B : Int} (a1 : 1 ≤ A) (d1 : 1 ≤ D) (t1 : Per t A 0) (t2 : Per t B D) (u1 : Per u A 0) (u2 : Per u B D) (X Y : Int) :
    ∃ i, i < D * A ∧ sgn t ((i % A : Nat) : Int) ((i / A : Nat) : Int) = sgn t X Y ∧ sgn u ((i % A : Nat) : Int) ((i / A : Nat) : Int) = sgn u X Y := by
  have hx := plX_rng (a := (A : Int)) (b := B) (d := (D : Int)) (x := X) (y := Y) (by omega)
  have hy := plY_rng (d := (D : Int)) (y := Y) (by omega)
  have q1 := at_place t1 t2 X Y
  have q2 := at_place u1 u2 X Y
  obtain ⟨x, ex⟩ := Int.eq_ofNat_of_zero_le hx.1
  obtain ⟨y, ey⟩ := Int.eq_ofNat_of_zero_le hy.1
  rw [ex] at hx q1 q2
  rw [ey] at hy q1 q2
  have lx : x < A := by omega
  have ly : y < D := by omega
  have h1 : (y * A + x) % A = x := by rw [Nat.mul_comm, Nat.mul_add_mod]; exact Nat.mod_eq_of_lt lx
  have h2 : (y * A + x) / A = y := by rw [Nat.mul_comm, Nat.mul_add_div (by omega), Nat.div_eq_of_lt lx, Nat.add_zero]
  refine ⟨y * A + x, ?_, ?_, ?_⟩
  · have := Nat.mul_le_mul_right A (show y + 1 ≤ D by omega)
    rw [Nat.succ_mul] at this
    omega
  · rw [h1, h2]
    exact q1
  · rw [h1, h2]
    exact q2
theorem perB_per {t : Tok} (h : t.Ok) {x y : Int} (p : perB (shp3 t) x y = true) : Per t x y := by
  unfold perB at p
  rw [Bool.and_eq_true, decide_eq_true_eq, decide_eq_true_eq] at p
  obtain ⟨p1, p2⟩ := p
  obtain ⟨s1, s2⟩ := shp_per h
  have q := (s1.mul ((x - y / (shpD t : Nat) * (shpB t : Nat)) / (shpA t : Nat))).add (s2.mul (y / (shpD t : Nat)))
  have z1 : (x - y / (shpD t : Nat) * (shpB t : Nat)) % (shpA t : Nat) = 0 := p1
  have z2 : y - y / (shpD t : Nat) * (shpD t : Nat) = 0 := p2
  have e1 : (x - y / (shpD t : Nat) * (shpB t : Nat)) / (shpA t : Nat) * (shpA t : Nat) = x - y / (shpD t : Nat) * (shpB t : Nat) := Int.ediv_mul_cancel_of_emod_eq_zero z1
  rw [e1] at q
  have e2 : x - y / (shpD t : Nat) * (shpB t : Nat) + y / (shpD t : Nat) * (shpB t : Nat) = x := by omega
  have e3 : (x - y / (shpD t : Nat) * (shpB t : Nat)) / (shpA t : Nat) * 0 + y / (shpD t : Nat) * (shpD t : Nat) = y := by omega
  rw [e2, e3] at q
  exact q
theorem met_iff {t u : Tok} (ht : t.Sm) (hu : u.Sm) {a : Nat} : met t u a = true ↔ Met t u (a / 10) (a % 10) := by
  have C := comT_ok (sm_l3 ht) (sm_l3 hu)
  have c1 : 1 ≤ (comT t u).1 := C.a1
  have c2 : 1 ≤ (comT t u).2.2 := C.d1
  have eA : ((comA t u : Nat) : Int) = (comT t u).1 := Int.toNat_of_nonneg (by omega)
  have eD : ((comD t u : Nat) : Int) = (comT t u).2.2 := Int.toNat_of_nonneg (by omega)
  have t1 : Per t (comA t u : Nat) 0 := by rw [eA]; exact perB_per ht.ok C.p1
  have t2 : Per t (comT t u).2.1 (comD t u : Nat) := by rw [eD]; exact perB_per ht.ok C.p2
  have u1 : Per u (comA t u : Nat) 0 := by rw [eA]; exact perB_per hu.ok C.p3
  have u2 : Per u (comT t u).2.1 (comD t u : Nat) := by rw [eD]; exact perB_per hu.ok C.p4
  unfold met
  rw [decide_eq_true_eq]
  unfold cnt
  rw [List.length_pos_iff_exists_mem]
  constructor
  · rintro ⟨i, hi⟩
    obtain ⟨_, hi⟩ := List.mem_filter.mp hi
    have e := of_decide_eq_true hi
    have s9 := sgn9 hu.ok ((i % comA t u : Nat) : Int) ((i / comA t u : Nat) : Int)
    unfold pAt at e
    exact ⟨((i % comA t u : Nat) : Int), ((i / comA t u : Nat) : Int), by omega, by omega⟩
  · rintro ⟨X, Y, h1, h2⟩
    obtain ⟨i, hi, q1, q2⟩ := cover (by omega) (by omega) t1 t2 u1 u2 X Y
    refine ⟨i, List.mem_filter.mpr ⟨List.mem_range.mpr hi, decide_eq_true ?_⟩⟩
    unfold pAt
    rw [q1, q2, h1, h2]
    omega
/-- the map exists -/
def Fun (t u : Tok) : Prop := ∀ c e e', Met t u c e → Met t u c e' → e = e'
def Srt (m : List (Nat × Nat)) : Prop := m.Pairwise fun p q => p.1 < q.1
structure IsDue (t u : Tok) (m : List (Nat × Nat)) : Prop where
  srt : Srt m
  mem : ∀ c e, (c, e) ∈ m ↔ Met t u c e
theorem srt_eq : ∀ {m n : List (Nat × Nat)}, Srt m → Srt n → (∀ c e, (c, e) ∈ m ↔ (c, e) ∈ n) → m = n
  | [], [], _, _, _ => rfl
  | [], q :: _, _, _, h => nomatch (h q.1 q.2).mpr List.mem_cons_self
  | p :: _, [], _, _, h => nomatch (h p.1 p.2).mp List.mem_cons_self
  | p :: r, q :: s, h1, h2, h => by
    obtain ⟨a1, a2⟩ := List.pairwise_cons.mp h1
    obtain ⟨b1, b2⟩ := List.pairwise_cons.mp h2
    have e : p = q := by
      rcases List.mem_cons.mp ((h p.1 p.2).mp List.mem_cons_self) with e | e
      · exact e
      · rcases List.mem_cons.mp ((h q.1 q.2).mpr List.mem_cons_self) with e' | e'
        · exact e'.symm
        · have := b1 _ e
          have := a1 _ e'
          omega
    subst e
    congr 1
    refine srt_eq a2 b2 fun c e => ⟨fun hm => ?_, fun hm => ?_⟩
    · rcases List.mem_cons.mp ((h c e).mp (List.mem_cons_of_mem _ hm)) with z | z
      · have := a1 _ hm
        rw [z] at this
        omega
      · exact z
    · rcases List.mem_cons.mp ((h c e).mpr (List.mem_cons_of_mem _ hm)) with z | z
      · have := b1 _ hm
        rw [z] at this
        omega
      · exact z
theorem IsDue.uniq {t u : Tok} {m n : List (Nat × Nat)} (h : IsDue t u m) (k : IsDue t u n) : m = n := srt_eq h.srt k.srt fun c e => (h.mem c e).trans (k.mem c e).symm
theorem IsDue.fn {t u : Tok} {m : List (Nat × Nat)} (h : IsDue t u m) : Fun t u := fun c e e' h1 h2 => by
  have m1 := (h.mem c e).mpr h1
  have m2 := (h.mem c e').mpr h2
  have aux : ∀ {l : List (Nat × Nat)}, Srt l → (c, e) ∈ l → (c, e') ∈ l → e = e' := fun {l} => by
    induction l with
    | nil => exact fun _ z => nomatch z
    | cons p r ih =>
      intro s z1 z2
      obtain ⟨a1, a2⟩ := List.pairwise_cons.mp s
      rcases List.mem_cons.mp z1 with y1 | y1 <;> rcases List.mem_cons.mp z2 with y2 | y2
      · rw [← y1] at y2
        exact (congrArg Prod.snd y2).symm
      · have := a1 _ y2
        rw [← y1] at this
        omega
      · have := a1 _ y1
        rw [← y2] at this
        omega
      · exact ih a2 y1 y2
  exact aux h.srt m1 m2
def code (a : Nat) : Nat × Nat := (a / 10, a % 10)
theorem rec_dup : ∀ {l : List Nat} {acc : List (Nat × Nat)} {b : Nat}, b ∈ l → (acc.any fun p => decide (p.1 = b / 10)) = true → recF l acc = none
  | x :: r, acc, b, h, k => by
    unfold recF
    split
    · rfl
    · rename_i no
      rcases List.mem_cons.mp h with e | e
      · rw [e] at k
        exact absurd k no
      · refine rec_dup e ?_
        rw [List.any_append, k]
        rfl
theorem rec_none : ∀ {l : List Nat} {acc : List (Nat × Nat)} {a b : Nat}, a ∈ l → b ∈ l → a ≠ b → a / 10 = b / 10 → recF l acc = none
  | x :: r, acc, a, b, ha, hb, ne, e => by
    unfold recF
    split
    · rfl
    · rcases List.mem_cons.mp ha with e1 | e1 <;> rcases List.mem_cons.mp hb with e2 | e2
      · exact absurd (e1.trans e2.symm) ne
      · refine rec_dup e2 ?_
        rw [List.any_append, ← e1, e]
        simp
      · refine rec_dup e1 ?_
        rw [List.any_append, ← e2, e]
        simp
      · exact rec_none e1 e2 ne e
theorem rec_some : ∀ {l : List Nat} {acc : List (Nat × Nat)}, (∀ a ∈ l, ∀ b ∈ l, a / 10 = b / 10 → a = b) → l.Nodup → (∀ a ∈ l, (acc.any fun p => decide (p.1 = a / 10)) = false) → recF l acc = some (acc ++ l.map code)
  | [], acc, _, _, _ => by
    unfold recF
    rw [List.map_nil, List.append_nil]
  | x :: r, acc, h, nd, k => by
    obtain ⟨n1, n2⟩ := List.nodup_cons.mp nd
    unfold recF
    rw [k x List.mem_cons_self]
    rw [if_neg (by decide), rec_some (fun a ha b hb => h a (List.mem_cons_of_mem _ ha) b (List.mem_cons_of_mem _ hb)) n2 fun a ha => ?_]
    · rw [List.append_assoc]
      rfl
    · rw [List.any_append, k a (List.mem_cons_of_mem _ ha), Bool.false_or]
      show (decide (x / 10 = a / 10) || false) = false
      rw [Bool.or_false]
      refine decide_eq_false fun e => n1 ?_
      rw [h x List.mem_cons_self a (List.mem_cons_of_mem _ ha) e]
      exact ha
theorem metL_mem {t u : Tok} (ht : t.Sm) (hu : u.Sm) {a : Nat} : a ∈ metL t u ↔ a < 100 ∧ Met t u (a / 10) (a % 10) := by
  unfold metL
  rw [List.mem_filter, List.mem_range, met_iff ht hu]
theorem met_code {t u : Tok} (ht : t.Sm) (hu : u.Sm) {c e : Nat} (h : Met t u c e) : (10 * c + e) ∈ metL t u ∧ (10 * c + e) / 10 = c ∧ (10 * c + e) % 10 = e := by
  obtain ⟨X, Y, h1, h2⟩ := id h
  have b1 := sgn9 ht.ok X Y
  have b2 := sgn9 hu.ok X Y
  rw [h1] at b1
  rw [h2] at b2
  have e1 : (10 * c + e) / 10 = c := by omega
  have e2 : (10 * c + e) % 10 = e := by omega
  refine ⟨(metL_mem ht hu).mpr ⟨by omega, ?_⟩, e1, e2⟩
  rw [e1, e2]
  exact h
theorem rec_fun {t u : Tok} (ht : t.Sm) (hu : u.Sm) (f : Fun t u) : recM t u = some ((metL t u).map code) ∧ IsDue t u ((metL t u).map code) := by
  have inj : ∀ a ∈ metL t u, ∀ b ∈ metL t u, a / 10 = b / 10 → a = b := fun a ha b hb e => by
    obtain ⟨_, m1⟩ := (metL_mem ht hu).mp ha
    obtain ⟨_, m2⟩ := (metL_mem ht hu).mp hb
    rw [← e] at m2
    have := f _ _ _ m1 m2
    omega
  have srt : (metL t u).Pairwise (· < ·) := List.Pairwise.filter _ List.pairwise_lt_range
  have nd : (metL t u).Nodup := srt.imp fun h => by omega
  refine ⟨?_, ?_, fun c e => ⟨fun h => ?_, fun h => ?_⟩⟩
  · unfold recM
    rw [rec_some inj nd fun _ _ => rfl]
    rfl
  · unfold Srt
    rw [List.pairwise_map]
    refine List.Pairwise.imp_of_mem (fun {a b} ha hb lt => ?_) srt
    show a / 10 < b / 10
    have : a / 10 ≠ b / 10 := fun e => by
      have := inj a ha b hb e
      omega
    omega
  · obtain ⟨a, ha, e1⟩ := List.mem_map.mp h
    obtain ⟨_, m⟩ := (metL_mem ht hu).mp ha
    have z1 : a / 10 = c := congrArg Prod.fst e1
    have z2 : a % 10 = e := congrArg Prod.snd e1
    rw [z1, z2] at m
    exact m
  · obtain ⟨h1, h2, h3⟩ := met_code ht hu h
    refine List.mem_map.mpr ⟨_, h1, ?_⟩
    unfold code
    rw [h2, h3]
theorem rec_nofun {t u : Tok} (ht : t.Sm) (hu : u.Sm) (f : ¬ Fun t u) : recM t u = none := by
  unfold Fun at f
  have : ∃ c e e', Met t u c e ∧ Met t u c e' ∧ e ≠ e' := Classical.byContradiction fun no => f fun c e e' h1 h2 => Classical.byContradiction fun ne => no ⟨c, e, e', h1, h2, ne⟩
  obtain ⟨c, e, e', h1, h2, ne⟩ := this
  obtain ⟨m1, a1, a2⟩ := met_code ht hu h1
  obtain ⟨m2, b1, b2⟩ := met_code ht hu h2
  exact rec_none m1 m2 (fun z => ne (by rw [← a2, ← b2, z])) (a1.trans b1.symm)
end
section
/-! ### maps as lists of pairs -/
def NodupF (m : List (Nat × Nat)) : Prop := (m.map Prod.fst).Nodup
def look (m : List (Nat × Nat)) (c : Nat) : Option Nat := (m.find? fun p => decide (p.1 = c)).map (·.2)
theorem look_val (m : List (Nat × Nat)) (c : Nat) : valV (mapK m) (.inl ((c : Nat) : Int)) = (look m c).map fun e => V.int (e : Nat) := by
  rw [val_mapK]
  unfold look
  rw [Option.map_map]
  rfl
theorem look_mem {m : List (Nat × Nat)} {c e : Nat} (h : look m c = some e) : (c, e) ∈ m := by
  unfold look at h
  cases z : m.find? fun p => decide (p.1 = c) with
  | none =>
    rw [z] at h
    cases h
  | some p =>
    rw [z] at h
    have e1 : p.1 = c := by simpa using List.find?_some z
    have e2 : p.2 = e := Option.some.inj h
    rw [← e1, ← e2]
    exact List.mem_of_find?_eq_some z
theorem mem_look {m : List (Nat × Nat)} {c e : Nat} (n : NodupF m) (h : (c, e) ∈ m) : look m c = some e := by
  induction m with
  | nil => cases h
  | cons p r ih =>
    obtain ⟨n1, n2⟩ := List.nodup_cons.mp n
    unfold look
    rw [List.find?_cons]
    rcases List.mem_cons.mp h with z | z
    · rw [← z]
      simp
    · have ne : p.1 ≠ c := fun y => n1 (List.mem_map.mpr ⟨_, z, y.symm⟩)
      rw [decide_eq_false ne]
      exact ih n2 z
theorem look_none {m : List (Nat × Nat)} {c e : Nat} (h : look m c = none) : (c, e) ∉ m := fun z => by
  unfold look at h
  rw [Option.map_eq_none_iff, List.find?_eq_none] at h
  exact h _ z (decide_eq_true rfl)
theorem put_same {m : List (Nat × Nat)} {c e : Nat} (n : NodupF m) (h : look m c = some e) : putK (mapK m) (.inl ((c : Nat) : Int)) (.int (e : Nat)) = mapK m := by
  have ex : (mapK m).any (fun kv => decide (kv.1 = (.inl ((c : Nat) : Int)))) = true := by
    rw [valV_any, look_val, h]
    rfl
  unfold putK
  rw [ex, if_pos rfl]
  unfold mapK
  rw [List.map_map]
  refine List.map_congr_left fun p hp => ?_
  show (if (Sum.inl ((p.1 : Nat) : Int) : Key) = .inl ((c : Nat) : Int) then ((Sum.inl ((p.1 : Nat) : Int) : Key), V.int (e : Nat)) else (Sum.inl ((p.1 : Nat) : Int), V.int (p.2 : Nat))) = (Sum.inl ((p.1 : Nat) : Int), V.int (p.2 : Nat))
  by_cases e1 : p.1 = c
  · rw [if_pos (by rw [e1])]
    have : look m p.1 = some p.2 := mem_look n hp
    rw [e1, h] at this
    rw [Option.some.inj this]
  · exact if_neg fun z => e1 (Int.ofNat.inj (Sum.inl.inj z))
theorem put_new {m : List (Nat × Nat)} {c e : Nat} (h : look m c = none) : putK (mapK m) (.inl ((c : Nat) : Int)) (.int (e : Nat)) = mapK (m ++ [(c, e)]) := by
  rw [putK_new _ (by rw [look_val, h]; rfl)]
  unfold mapK
  rw [List.map_append]
  rfl
theorem nodupF_snoc {m : List (Nat × Nat)} {c e : Nat} (n : NodupF m) (h : look m c = none) : NodupF (m ++ [(c, e)]) := by
  unfold NodupF
  rw [List.map_append, List.nodup_append]
  refine ⟨n, by simp, fun a ha b hb ab => ?_⟩
  obtain ⟨p, hp, rfl⟩ := List.mem_map.mp ha
  have eb : b = c := List.mem_singleton.mp hb
  rw [eb] at ab
  exact look_none (e := p.2) h (by rw [← ab]; exact hp)
theorem nodup_le : ∀ (n : Nat) (l : List Nat), l.Nodup → (∀ x ∈ l, x < n) → l.length ≤ n
  | 0, [], _, _ => Nat.le_refl _
  | 0, a :: r, _, h => nomatch h a List.mem_cons_self
  | n + 1, l, nd, h => by
    by_cases hn : n ∈ l
    · have e := List.length_erase_of_mem hn
      have q := nodup_le n (l.erase n) (nd.erase n) fun x hx => by
        have := h x (List.mem_of_mem_erase hx)
        have ne : x ≠ n := fun z => by
          rw [z] at hx
          exact (List.Nodup.mem_erase_iff nd).mp hx |>.1 rfl
        omega
      omega
    · have q := nodup_le n l nd fun x hx => by
        have := h x hx
        have ne : x ≠ n := fun z => hn (z ▸ hx)
        omega
      omega
theorem merge_new : ∀ (more kvs : List (Key × V)), ((kvs ++ more).map (·.1)).Nodup → mergeK kvs more = kvs ++ more
  | [], kvs, _ => (List.append_nil kvs).symm
  | p :: r, kvs, n => by
    have hp : valV kvs p.1 = none := by
      unfold valV
      rw [Option.map_eq_none_iff, List.find?_eq_none]
      intro q hq
      rw [List.map_append, List.nodup_append] at n
      have := n.2.2 q.1 (List.mem_map.mpr ⟨q, hq, rfl⟩) p.1 (List.mem_map.mpr ⟨p, List.mem_cons_self, rfl⟩)
      simpa using this
    show mergeK (putK kvs p.1 p.2) r = _
    rw [putK_new _ hp, merge_new r (kvs ++ [(p.1, p.2)]) (by rw [List.append_assoc]; exact n), List.append_assoc]
    rfl
theorem srt_nodup {m : List (Nat × Nat)} (h : Srt m) : NodupF m := by
  unfold NodupF List.Nodup
  rw [List.pairwise_map]
  exact h.imp fun q => Nat.ne_of_lt q
theorem map_keys_nodup {m : List (Nat × Nat)} (h : NodupF m) : ((mapK m).map (·.1)).Nodup := by
  unfold mapK
  rw [List.map_map]
  unfold NodupF at h
  unfold List.Nodup at h ⊢
  rw [List.pairwise_map] at h ⊢
  exact h.imp fun {a b} q z => q (Int.ofNat.inj (Sum.inl.inj z))
theorem merge_map {m : List (Nat × Nat)} (h : NodupF m) : mergeK [] (mapK m) = mapK m := by
  rw [merge_new _ _ (by simpa using map_keys_nodup h)]
  rfl
theorem paired_of {α β : Type} {G : α → β → Prop} : ∀ {l : List α} {m : List β}, l.length = m.length → (∀ (i : Nat) a b, l[i]? = some a → m[i]? = some b → G a b) → Paired G l m
  | [], [], _, _ => .nil
  | [], _ :: _, h, _ => nomatch h
  | _ :: _, [], h, _ => nomatch h
  | a :: r, b :: s, h, g => .cons (g 0 a b rfl rfl) (paired_of (Nat.succ.inj h) fun i x y hx hy => g (i + 1) x y hx hy)
theorem good_refs {f : Nat → List V} : ∀ {n : Nat} {acc : List V} {H : Hp}, Good (fun i v H => ∃ p, v = .ref p ∧ H p = some (.tup (f i))) acc H → acc.length = n → ∃ ps : List Addr, acc = ps.map V.ref ∧ ps.length = n ∧ ∀ i p, ps[i]? = some p → H p = some (.tup (f i)) := fun {n acc H} g hl => by
  refine ⟨acc.map fun v => match v with | .ref p => p | _ => 0, ?_, by rw [List.length_map, hl], fun i p hp => ?_⟩
  · refine List.ext_getElem? fun i => ?_
    rw [List.map_map, List.getElem?_map]
    cases e : acc[i]? with
    | none => rfl
    | some v =>
      obtain ⟨p, rfl, _⟩ := g i v e
      rfl
  · rw [List.getElem?_map] at hp
    cases e : acc[i]? with
    | none =>
      rw [e] at hp
      cases hp
    | some v =>
      rw [e] at hp
      obtain ⟨q, rfl, hq⟩ := g i v e
      cases hp
      exact hq
end
section
section
variable {P : Program} {w : World} {K : PySem.W.Frag} {mg : Str → Option Value} {base : Heap}
def sp_due : Sp := fun vs H Q _ => ∃ (p q : Addr) (t u : Tok), vs = [.ref p, .ref q] ∧ IsTk t p H ∧ IsTk u q H ∧ t.Sm ∧ u.Sm ∧ (¬ Fun t u → Ret H Q .non) ∧ ∀ m, IsDue t u m → RetN H Q (IsMap m)
theorem ok_due (T : Txt K mg base) : DefOk P w K mg base "_law_due" 5 ["_law_one_here", "_law_other"] sp_due := by
  refine defok T.d_law_due T.g_law_due sc_law_due (fun _ _ _ _ _ _ us hl => match us, hl with | [_, _], _ => rfl) (fun vs H Q E h => ?_) fun cdv A outer s H vs Q E hr h => ?_
  · obtain ⟨p, q, t, u, rfl, _⟩ := h
    rfl
  obtain ⟨p, q, t, u, rfl, hp, hq, ht, hu, k1, k2⟩ := h
  have hS := sc_law_due.nd
  have hu1 : ∀ {A' : Around}, Room 4 A' → A'.units + 1 < cLine := fun r => by have := r.units; omega
  refine ⟨_, pss_cons (ps_set (i := 2) hS rfl (.inr rfl) pe_dnewK)
    (pss_cons (ps_for PassesOwn.never rfl (pi_list (pe_cd (ok_lplaces T) hr (by decide) (by rfl) (pa_cons (pe_cd (ok_llat T) hr (by decide) (by rfl) (pa_cons (pe_lst (pa_cons (pv 0) (pa_cons (pv 1) pa_nil))) pa_nil)) pa_nil)))
        (pg_tup rfl (pgs_cons (pg_name (i := 3) hS rfl (.inl rfl)) (pgs_cons (pg_name (i := 4) hS rfl (.inl rfl)) pgs_nil)))
      (pss_cons (ps_par (i := 5) (j := 6) (by rfl) hS rfl rfl (by decide) rfl rfl (pa_cons (pe_cd (ok_lcolour T) hr (by decide) (by rfl) (pa_cons (pv 0) (pa_cons (pv 3) (pa_cons (pv 4) pa_nil))))
          (pa_cons (pe_cd (ok_lcolour T) hr (by decide) (by rfl) (pa_cons (pv 1) (pa_cons (pv 3) (pa_cons (pv 4) pa_nil)))) pa_nil)) (by rfl))
      (pss_cons (ps_if (pt_cmpR op_ne (pe_dget2 (hu1 hr) (pv 2) (pv 5) (pv 6) ⟨by rfl, by rfl, by rfl, by rfl⟩) (pv 6) (nomark _)) (pss_one (ps_ret pe_non)) pss_nil)
      (pss_one (ps_dput (hu1 hr) (pv 2) (pv 5) (pv 6) (by rfl))))))
    (pss_one (ps_ret (pe_callTy (call_dictP (by rfl)) (by rfl) T.f_dict (by decide +kernel) (pa_cons (pe_lc (own := [("_law_first", 5)]) (g := gName 5) (tt := tYes) rfl hS
        (pi_list (pe_callB cr_sorted (by rfl) T.f_sorted (by decide +kernel) (pa_cons (pe_lock (pe_lc (own := [("_law_key_here", 7)]) (g := gName 7) (tt := tYes) rfl hS (pi_keys (pv 2))
            (blkOk_by (own := [("_law_key_here", 7)]) (N := ["_law_one_here", "_law_other", "_law_found", "_law_x", "_law_y", "_law_first", "_law_second_here", "_law_key_here"]) (sc := defScope s_law_due) (by decide +kernel))
            (fun _ _ _ _ _ => pg_name (i := 7) hS rfl (Or.inl rfl)) (fun _ _ _ _ _ => pts_nil) (fun _ _ _ _ _ => pe_callTy call_int1 (by rfl) T.f_int (by decide +kernel) (pa_cons (pv 7) pa_nil)))) pa_nil)))
        (blkOk_by (own := [("_law_first", 5)]) (N := ["_law_one_here", "_law_other", "_law_found", "_law_x", "_law_y", "_law_first", "_law_second_here", "_law_key_here"]) (sc := defScope s_law_due) (by decide +kernel))
        (fun _ _ _ _ _ => pg_name (i := 5) hS rfl (Or.inl rfl)) (fun _ _ _ _ _ => pts_nil)
        (fun _ _ _ _ _ => pe_tup (pa_cons (pv 5) (pa_cons (pe_dget (hu1 hr) (pv 2) (pv 5) (fun _ _ => rfl)) pa_nil)))) pa_nil))))), ?_⟩
  refine fun F nF => ?_
  have e1 := Same.upd (o := .dK []) nF
  refine ⟨_, rfl, _, rfl, by show 2 ≤ sizeLine; decide, fun L nL => ?_⟩
  have e2 := Same.upd (o := .lst [.ref p, .ref q]) nL
  have e12 := e1.trans e2
  refine ⟨L, p, q, t, u, rfl, ⟨upd_same, hp.mono e12, hq.mono e12⟩, ht.ok, hu.ok, has_lat ht hu, fun ww ss hh LP c H2 nc e3 hc => ?_⟩
  refine ⟨c, ww, ss, hh, rfl, hc, LP.w1, LP.w2, LP.h2, fun D acc H3 nD e4 hD hlen g => ?_⟩
  have hF3 : H3 F = some (.dK (mapK [])) := (e2.trans (e3.trans e4)) _ _ upd_same
  have e5 := e12.trans (e3.trans e4)
  have nDF : D ≠ F := fun z => by
    rw [z, hF3] at hD
    cases hD
  have same : ∀ {H' : Hp}, Sb F H3 H' → Same H H' := fun {H'} sb c o hc => sb _ _ (e5 _ _ hc) (ne_of_none hc nF)
  have sml : ∀ {m : List (Nat × Nat)}, NodupF m → (∀ p ∈ m, p.1 < 10) → (mapK m).length < sizeLine := fun {m} nd h9 => by
    have := nodup_le 10 (m.map Prod.fst) nd fun x hx => by
      obtain ⟨p, hp, rfl⟩ := List.mem_map.mp hx
      exact h9 p hp
    rw [List.length_map] at this
    unfold mapK
    rw [List.length_map]
    exact Nat.lt_of_le_of_lt this (by decide)
  obtain ⟨pt1, pu1⟩ := (bothP_per ht.ok hu.ok).mp LP.p1
  obtain ⟨pt2, pu2⟩ := (bothP_per ht.ok hu.ok).mp LP.p2
  refine ⟨D, rfl, ⟨_, SqL.of hD⟩, for_list (K := K) (a := D) (xs := acc) (fun i σ H' => ∃ m y3 y4 y5 y6, σ = [some (.ref p), some (.ref q), some (.ref F), y3, y4, y5, y6, none] ∧ Sb F H3 H' ∧ H' F = some (.dK (mapK m)) ∧ NodupF m ∧
      ∀ c e, (c, e) ∈ m ↔ ∃ j, j < i ∧ sgn t ((j % ww : Nat) : Int) ((j / ww : Nat) : Int) = c ∧ sgn u ((j % ww : Nat) : Int) ((j / ww : Nat) : Int) = e)
    ⟨[], none, none, none, none, rfl, Sb.of (Same.refl _), hF3, List.nodup_nil, fun c e => ⟨fun z => (nomatch z), fun ⟨j, hj, _⟩ => absurd hj (by omega)⟩⟩ (fun i σ H' _ ⟨_, _, _, _, _, _, sb, _⟩ => SqL.of (sb _ _ hD nDF)) ?_ ?_⟩
  · rintro i v σ H4 hi ⟨m, y3, y4, y5, y6, rfl, sb, hF, nd, hm⟩
    obtain ⟨pp, rfl, hpp⟩ := g i v hi
    have npp : pp ≠ F := ne_of hpp hF3 (fun q => nomatch q)
    have s4 := same sb
    have hm9 : ∀ p ∈ m, p.1 < 10 := fun pr hpr => by
      obtain ⟨j, _, z1, _⟩ := (hm pr.1 pr.2).mp hpr
      have := sgn9 ht.ok ((j % ww : Nat) : Int) ((j / ww : Nat) : Int)
      omega
    refine ⟨pp, _, rfl, SqT.of (sb _ _ hpp npp), rfl, _, _, rfl, _, _, rfl, rfl, ?_⟩
    refine ⟨_, rfl, _, rfl, _, rfl, p, t, _, _, rfl, hp.mono s4, ht.ok, fun H5 e6 => ⟨_, rfl, _, rfl, _, rfl, q, u, _, _, rfl, hq.mono (s4.trans e6), hu.ok, fun H6 e7 => ⟨_, _, rfl, ?_⟩⟩⟩
    have hF6 := (e6.trans e7) _ _ hF
    have sb6 := sb.trans (Sb.of (e6.trans e7))
    refine ⟨_, rfl, F, rfl, .inl ⟨_, .inl hF6⟩, _, rfl, _, rfl, _, DGet.k (k := .inl ((sgn t ((i % ww : Nat) : Int) ((i / ww : Nat) : Int) : Nat) : Int)) hF6, ?_⟩
    generalize hc' : sgn t ((i % ww : Nat) : Int) ((i / ww : Nat) : Int) = cc
    generalize he' : sgn u ((i % ww : Nat) : Int) ((i / ww : Nat) : Int) = ee
    rw [look_val]
    cases hl : look m cc with
    | some e0 =>
      by_cases heq : e0 = ee
      · subst heq
        refine ⟨_, rfl, rfl, _, rfl, iteNS rfl ⟨_, rfl, _, rfl, _, rfl, F, _, rfl, DPut.k (k := .inl ((cc : Nat) : Int)) hF6 ?_, ?_⟩⟩
        · exact sml nd hm9
        · refine ⟨m, _, _, _, _, rfl, sb6.trans Sb.put, ?_, nd, fun c e => ?_⟩
          · rw [upd_same, put_same nd hl]
          · rw [hm]
            constructor
            · rintro ⟨j, hj, z⟩
              exact ⟨j, by omega, z⟩
            · rintro ⟨j, hj, z⟩
              by_cases ej : j = i
              · rw [ej] at z
                have zm := (hm cc e0).mp (look_mem hl)
                rw [hc', he'] at z
                rw [← z.1, ← z.2]
                exact zm
              · exact ⟨j, by omega, z⟩
      · refine ⟨_, rfl, rfl, _, rfl, iteNT (fun z => heq (Int.ofNat.inj (V.int.inj z))) (k1 (fun fn => heq ?_) H6 (same sb6))⟩
        obtain ⟨j, _, z1, z2⟩ := (hm cc e0).mp (look_mem hl)
        exact fn cc e0 ee ⟨_, _, z1, z2⟩ ⟨_, _, hc', he'⟩
    | none =>
      refine ⟨_, rfl, rfl, _, rfl, iteNS rfl ⟨_, rfl, _, rfl, _, rfl, F, _, rfl, DPut.k (k := .inl ((cc : Nat) : Int)) hF6 ?_, ?_⟩⟩
      · exact sml nd hm9
      · refine ⟨m ++ [(cc, ee)], _, _, _, _, rfl, sb6.trans Sb.put, ?_, nodupF_snoc nd hl, fun c e => ?_⟩
        · rw [upd_same, put_new hl]
        · rw [List.mem_append, hm]
          constructor
          · rintro (⟨j, hj, z⟩ | z)
            · exact ⟨j, by omega, z⟩
            · have z := List.mem_singleton.mp z
              exact ⟨i, by omega, hc'.trans (congrArg Prod.fst z).symm, he'.trans (congrArg Prod.snd z).symm⟩
          · rintro ⟨j, hj, z⟩
            by_cases ej : j = i
            · rw [ej, hc', he'] at z
              exact .inr (List.mem_singleton.mpr (by rw [z.1, z.2]))
            · exact .inl ⟨j, by omega, z⟩
  · rintro σ H4 ⟨m, y3, y4, y5, y6, rfl, sb, hF, nd, hm⟩
    have s4 := same sb
    have hM : ∀ c e, (c, e) ∈ m ↔ Met t u c e := fun c e => by
      rw [hm, hlen]
      constructor
      · rintro ⟨j, _, z1, z2⟩
        exact ⟨_, _, z1, z2⟩
      · rintro ⟨X, Y, z1, z2⟩
        obtain ⟨j, hj, y1, y2⟩ := cover (by have := LP.w1; omega) (by have := LP.h1; omega) pt1 pt2 pu1 pu2 X Y
        exact ⟨j, hj, y1.trans z1, y2.trans z2⟩
    have hm9 : ∀ p ∈ m, p.1 < 10 := fun pr hpr => by
      obtain ⟨X, Y, z1, _⟩ := (hM pr.1 pr.2).mp hpr
      have := sgn9 ht.ok X Y
      omega
    have len10 : m.length ≤ 10 := by
      have := nodup_le 10 (m.map Prod.fst) nd fun x hx => by
        obtain ⟨p, hp, rfl⟩ := List.mem_map.mp hx
        exact hm9 p hp
      rwa [List.length_map] at this
    have lenK : (mapK m).length = m.length := List.length_map _
    refine ⟨F, _, hF, True.intro, fun od => ?_⟩
    refine ⟨_, rfl, F, od, rfl, .inl ⟨_, upd_same, ?_⟩⟩
    refine lcW (j := 7) (walk_keys (d := F) (o := od) (kvs := mapK m)) (Stab.val fun i => .int ((m.getD i (0, 0)).1 : Nat)) (by omega) (fun H' e => e _ _ upd_same) (by intro x; rfl) (fun i x H5 H6 hi e y => ?_) fun D2 acc2 H5 e5' nD2 hD2 hl2 g2 => ?_
    · obtain ⟨rfl, k, v, hk, rfl⟩ := y
      have hi' : i < m.length := by omega
      have hk' : (mapK m)[i]? = some (.inl (((m.getD i (0, 0)).1 : Nat) : Int), .int (((m.getD i (0, 0)).2 : Nat) : Int)) := by
        unfold mapK
        rw [List.getElem?_map, getD_at (d := (0, 0)) hi']
        rfl
      have ek : k = .inl (((m.getD i (0, 0)).1 : Nat) : Int) := congrArg Prod.fst (Option.some.inj (hk.symm.trans hk'))
      subst ek
      exact ⟨rfl, fun Q' z => ⟨_, rfl, .inl ⟨_, rfl, z _ _ (Same.refl _) rfl⟩⟩⟩
    have ea := good_val g2 hl2
    have ea2 : acc2 = (m.map fun p => ((p.1 : Nat) : Int)).map V.int := by
      rw [ea, lenK, List.map_map]
      refine List.ext_getElem? fun i => ?_
      by_cases hi : i < m.length
      · rw [List.getElem?_map, List.getElem?_range hi, List.getElem?_map, getD_at (d := (0, 0)) hi]
        rfl
      · rw [List.getElem?_eq_none (by rw [List.length_map, List.length_range]; omega), List.getElem?_eq_none (by rw [List.length_map]; omega)]
    have nD2F : D2 ≠ F := fun z => by
      rw [z, upd_same] at nD2
      cases nD2
    have hF5 := e5' _ _ upd_same
    refine ⟨hF5, ?_⟩
    have s5 : Same H (upd H5 F (.dK (mapK m))) := Same.mut ((Same.mut s4 nF).trans e5') nF
    have hF6 : upd H5 F (.dK (mapK m)) F = some (.dK (mapK m)) := upd_same
    have hD6 : upd H5 F (.dK (mapK m)) D2 = some (.lst acc2) := (upd_ne nD2F).trans hD2
    generalize upd H5 F (.dK (mapK m)) = H6 at s5 hF6 hD6
    rw [ea2] at hD6
    refine ⟨D2, m.map fun p => ((p.1 : Nat) : Int), rfl, SqL.of hD6, by rw [List.length_map]; omega, fun ns' S hperm hsrt nS => ?_⟩
    obtain ⟨cs, ecs, _⟩ := picks (acc := ns'.map V.int) (f := fun c : Nat => V.int (c : Nat)) (p := fun _ => True) fun v hv => by
      obtain ⟨n, hn, rfl⟩ := List.mem_map.mp hv
      obtain ⟨p, _, rfl⟩ := List.mem_map.mp (hperm.mem_iff.mp hn)
      exact ⟨p.1, trivial, rfl⟩
    have ens : ns' = cs.map fun c : Nat => (c : Int) := by
      have z := congrArg (List.map fun v => match v with | .int n => n | _ => 0) ecs
      rw [List.map_map, List.map_map] at z
      have z1 : ns'.map ((fun v => match v with | .int n => n | _ => 0) ∘ V.int) = ns' := by
        conv => rhs; rw [← List.map_id ns']
        exact List.map_congr_left fun _ _ => rfl
      rw [z1] at z
      rw [z]
      exact List.map_congr_left fun _ _ => rfl
    subst ens
    have cperm : cs.Perm (m.map Prod.fst) := by
      have z := hperm.map Int.toNat
      rw [List.map_map, List.map_map] at z
      have z1 : cs.map (Int.toNat ∘ fun c : Nat => (c : Int)) = cs := by
        conv => rhs; rw [← List.map_id cs]
        exact List.map_congr_left fun _ _ => rfl
      have z2 : m.map (Int.toNat ∘ fun p : Nat × Nat => ((p.1 : Nat) : Int)) = m.map Prod.fst := List.map_congr_left fun _ _ => rfl
      rw [z1, z2] at z
      exact z
    have csrt : cs.Pairwise (· < ·) := by
      have n1 : cs.Nodup := cperm.nodup_iff.mpr nd
      rw [List.pairwise_map] at hsrt
      exact (hsrt.and n1).imp fun {a b} ⟨h1, h2⟩ => by
        have : a ≤ b := by omega
        omega
    have cslen : cs.length ≤ 10 := by
      have := cperm.length_eq
      rw [List.length_map] at this
      omega
    have clook : ∀ c ∈ cs, look m c = some ((look m c).getD 0) := fun c hc => by
      obtain ⟨p, hp, rfl⟩ := List.mem_map.mp (cperm.mem_iff.mp hc)
      rw [mem_look nd hp]
      rfl
    have eS := Same.upd (o := .lst ((cs.map fun c : Nat => (c : Int)).map V.int)) nS
    have hS7 : upd H6 S (.lst ((cs.map fun c : Nat => (c : Int)).map V.int)) S = some (.lst ((cs.map fun c : Nat => (c : Int)).map V.int)) := upd_same
    have hF7 := eS _ _ hF6
    have s7 := s5.trans eS
    generalize upd H6 S (.lst ((cs.map fun c : Nat => (c : Int)).map V.int)) = H7 at eS hS7 hF7 s7
    refine ⟨S, rfl, ⟨_, SqL.of hS7⟩, ?_⟩
    refine lcL (j := 5) (xs := (cs.map fun c : Nat => (c : Int)).map V.int) (Stab.tup fun i => [.int ((cs.getD i 0 : Nat) : Int), .int (((look m (cs.getD i 0)).getD 0 : Nat) : Int)]) (by rw [List.length_map, List.length_map]; omega) (SqL.of hS7) (by intro x; rfl) (fun i x H8 hx e8 Q' z => ?_) fun D3 acc3 H8 e8 nD3 hD3 hl3 g3 => ?_
    · have hi : i < cs.length := by
        have := (List.getElem?_eq_some_iff.mp hx).1
        rwa [List.length_map, List.length_map] at this
      have hx' : ((cs.map fun c : Nat => (c : Int)).map V.int)[i]? = some (.int ((cs.getD i 0 : Nat) : Int)) := by
        rw [List.getElem?_map, List.getElem?_map, getD_at (d := 0) hi]
        rfl
      have ex : x = .int ((cs.getD i 0 : Nat) : Int) := Option.some.inj (hx.symm.trans hx')
      subst ex
      have hc := clook _ (List.mem_of_getElem? (getD_at (d := 0) hi))
      have hv : valV (mapK m) (.inl ((cs.getD i 0 : Nat) : Int)) = some (.int (((look m (cs.getD i 0)).getD 0 : Nat) : Int)) := by
        rw [look_val, hc]
        rfl
      have hg := DGet.k (k := .inl ((cs.getD i 0 : Nat) : Int)) (e8 _ _ hF7)
      rw [hv] at hg
      exact ⟨_, rfl, _, rfl, _, rfl, F, _, rfl, hg, by show 2 ≤ sizeLine; decide, fun n nn => z _ _ (Same.upd nn) ⟨n, rfl, upd_same⟩⟩
    · obtain ⟨ps, eps, lps, gps⟩ := good_refs g3 hl3
      rw [List.length_map, List.length_map] at lps
      have dueF : IsDue t u (cs.map fun c => (c, (look m c).getD 0)) := by
        refine ⟨?_, fun c e => ?_⟩
        · unfold Srt
          rw [List.pairwise_map]
          exact csrt
        · rw [← hM]
          constructor
          · intro z
            obtain ⟨c', hc', ez⟩ := List.mem_map.mp z
            have e1 : c' = c := congrArg Prod.fst ez
            have e2 : (look m c').getD 0 = e := congrArg Prod.snd ez
            subst e1
            have := clook _ hc'
            rw [e2] at this
            exact look_mem this
          · intro z
            have hc : c ∈ cs := cperm.mem_iff.mpr (List.mem_map.mpr ⟨_, z, rfl⟩)
            refine List.mem_map.mpr ⟨c, hc, ?_⟩
            rw [mem_look nd z]
            rfl
      refine ⟨D3, ps, mapK (cs.map fun c => (c, (look m c).getD 0)), rfl, SqL.of (by rw [hD3, eps]), paired_of (by unfold mapK; rw [List.length_map, List.length_map]; exact lps) fun i a kv ha hkv => ?_, fun R nR => ?_⟩
      · have hi : i < cs.length := by rw [← lps]; exact (List.getElem?_eq_some_iff.mp ha).1
        have hkv' : (mapK (cs.map fun c => (c, (look m c).getD 0)))[i]? = some (.inl ((cs.getD i 0 : Nat) : Int), .int (((look m (cs.getD i 0)).getD 0 : Nat) : Int)) := by
          unfold mapK
          rw [List.getElem?_map, List.getElem?_map, getD_at (d := 0) hi]
          rfl
        have ekv := Option.some.inj (hkv.symm.trans hkv')
        rw [ekv]
        exact SqT.of (gps i a ha)
      · have sR : Same H8 (upd H8 R (.dK (mergeK [] (mapK (cs.map fun c => (c, (look m c).getD 0)))))) := Same.upd nR
        refine k2 _ dueF R _ (Same.none (s7.trans e8) nR) ((s7.trans e8).trans sR) ?_
        show upd _ _ _ _ = _
        rw [upd_same, merge_map (srt_nodup dueF.srt)]
end
end
section
/-! ### == and != of carpets -/
section
open PySem.W
variable {prog : Program} {w : World} {A : Around} {Ex : Value → Shared → Prop} {s : Shared} {K : PySem.W.Frag} {x C f y L : Addr} {ox : Obj} {od : Option Obj} {h₀ : Heap} {m : Str → Option Value}
open PySem.Builtin in
theorem own_ne {Qf : Value → Shared → Prop} (hu : A.in1.units < cLine) (X : K.In s.heap) (I : InstAt s.heap x ox C od) (hm : mroIn K C (.type "object") = some true) (he : findIn K (.ref C) "__eq__" = some (some (.ref f))) (hf : isFn K (.ref f) = true)
    (h : wpAny (model prog w) A.in1 (call (.ref f) [.ref x, .ref y]) (fun v s' => ∃ b, v = .bool b ∧ Qf (.bool (!b)) s') Ex s) : wpAny (model prog w) A (call (.builtin "object.__ne__") [.ref x, .ref y]) Qf Ex s := by
  refine wpAny_call (codeAny_call_builtin PySem.F.cmp_object.ne.plain PySem.F.cmpEntry_ne (check_slot (i := "object.__ne__") (owner := "object") (n := "__ne__") PySem.F.cmpKind_ne PySem.F.cmpSplit_ne (I.type.andThen (looks_mroIn X hm)) (PySem.F.cmpArgs_ne _ _) ?_))
  unfold PySem.Builtin.«object.__ne__»
  refine wpAny_bind (m := slotArgs "__ne__" 1 _) (wpAny_pure ?_)
  refine wpAny_bind (m := cRoomFor _ _) (wpAny_cRoomFor hu ?_)
  refine wpAny_bind (m := callSpecialIfBound? (.ref x) (Str.ofString "__eq__") _) (ifBound_K X I he hf (wpAny_mono h (fun r s' hq => ?_) fun _ _ z => z))
  obtain ⟨b, rfl, q⟩ := hq
  refine wpAny_bind (m := truthy (.bool b)) (wpAny_truthy_bool ?_)
  exact wpAny_pure q
theorem ifBound_B {M : Model} {name : Str} {id : String} {args : List Value} {Qf : Option Value → Shared → Prop} (X : K.In s.heap) (I : InstAt s.heap x ox C od) (hs : findIn K (.ref C) name = some (some (.builtin id))) (hb : ∀ self, bindSpecial (.builtin id) self = pure (.builtin id, [self]))
    (h : wpAny M A (call (.builtin id) (.ref x :: args)) (fun v => Qf (some v)) Ex s) : wpAny M A (callSpecialIfBound? (.ref x) name args) Qf Ex s := by
  have run : wpAny M A (call (.builtin id) ([.ref x] ++ args) >>= fun v => pure (some v)) Qf Ex s := wpAny_bind (wpAny_mono h (fun _ _ z => wpAny_pure z) fun _ _ z => z)
  simp only [callSpecialIfBound?, bindSpecialIfBound?, hb]
  refine wpAny_holding (wpAny_bind (wpAny_bind (wpAny_bind (I.type.here ((looks_findIn X hs).here ?_)))))
  simp only [hb]
  refine wpAny_bind (wpAny_askSetting (wpAny_ite ?_))
  split
  · exact wpAny_bind (wpAny_pure (wpAny_pure run))
  · exact wpAny_tryCatch (wpAny_bind (wpAny_pure (wpAny_pure run)))
theorem ne_K {Qf : Value → Shared → Prop} (hu : A.units + 1 < cLine) (F : Fr h₀ L s.heap m) (X₀ : K.In h₀) (I : InstAt s.heap x ox C od) {tb : Value} (hb : Looks (model prog w) s.heap (typeOf (.ref y)) tb) (hn : notFirst K C tb = true)
    (hne : findIn K (.ref C) "__ne__" = some (some (.builtin "object.__ne__"))) (hm : mroIn K C (.type "object") = some true) (he : findIn K (.ref C) "__eq__" = some (some (.ref f))) (hf : isFn K (.ref f) = true)
    (h : wpAny (model prog w) A.in1 (call (.ref f) [.ref x, .ref y]) (fun v s' => ∃ b, v = .bool b ∧ Qf (.bool (!b)) s') Ex s) : wpAny (model prog w) A (richCompare .NotEq (.ref x) (.ref y)) Qf Ex s := by
  have X := X₀.keeps F.keep
  have c := own_ne (A := A) (Qf := fun v s' => ∃ b, v = .bool b ∧ Qf (.bool b) s') (show A.in1.units < cLine by show A.units + 1 < cLine; exact hu) X I hm he hf (wpAny_mono h (fun v s' ⟨b, e, q⟩ => ⟨b, e, _, rfl, q⟩) fun _ _ z => z)
  have one : wpAny (model prog w) A (tryCompare (.ref x) (cmpInfo .NotEq).2.1 (.ref y)) (fun r s' => ∃ v, r = some v ∧ Qf v s') Ex s := by
    unfold tryCompare
    refine wpAny_bind (ifBound_B X I hne PySem.F.cmp_object.ne.bind (wpAny_mono c (fun v s' hv => ?_) fun _ _ z => z))
    obtain ⟨b, rfl, q⟩ := hv
    exact wpAny_pure ⟨_, rfl, q⟩
  unfold richCompare
  simp only [oneThing_ref]
  refine wpAny_holding (wpAny_bind (wpAny_cRoomFor (Nat.lt_of_succ_lt hu) ?_))
  refine wpAny_bind (I.type.here (wpAny_bind (hb.here ?_)))
  split
  · rename_i q
    have e : subIn K tb (.ref C) = some false := by
      rcases Bool.or_eq_true_iff.mp hn with z | z
      · rw [beq_iff_eq.mp z] at q
        simp at q
      · exact beq_iff_eq.mp z
    refine wpAny_bind ((looks_subIn X e).here ?_)
    simp only [Bool.false_eq_true, if_false]
    refine wpAny_bind (wpAny_mono one (fun r s' z => ?_) fun _ _ z => z)
    obtain ⟨v, rfl, hq⟩ := z
    exact wpAny_pure hq
  · refine wpAny_bind (wpAny_pure ?_)
    simp only [Bool.false_eq_true, if_false]
    refine wpAny_bind (wpAny_mono one (fun r s' z => ?_) fun _ _ z => z)
    obtain ⟨v, rfl, hq⟩ := z
    exact wpAny_pure hq
end
end
section
section
variable {X : Cx}
theorem run_eqC (T : Txt X.K X.mg X.base) {A : Around} (hr : Room 1 A) (hfr : A.frames = X.A.frames) {pins : List (Addr × Obj)} {s : Shared} {σ : L2.St} {H : Hp} {p q f : Addr} {t u : Tok} {fd : FuncData} (I : Inv X pins σ H s) (hb : L2.Binds X.K fd ["self", "other"] []) (F : FnOk X.prog X.w X.K X.mg X.base CX0 1 f fd ["self", "other"] (sp_Ceq X.K))
    (hp : IsCar X.K t p H) (hq : IsCar X.K u q H) (ht : t.Ok) (hu : u.Ok) : wpAny (model X.prog X.w) A (call (.ref f) [.ref p, .ref q]) (fun v s' => v = .bool (eqC t u) ∧ ∃ H', Inv X pins σ H' s' ∧ Same H H') X.xe s := by
  have e := I.env0
  have e0 : Env0 X.prog X.w X.K X.mg X.base A X.stack s H := ⟨hfr.trans e.frames, e.mod, e.bs, e.bsz, e.funs, e.frf, e.hok, e.bare⟩
  have sp : sp_Ceq X.K [.ref p, .ref q] H (fun v H' => v = .bl (eqC t u) ∧ Same H H') E0 := ⟨p, q, t, u, rfl, hp, hq, ht, hu, fun H' e => ⟨rfl, e⟩⟩
  have bd : BindsTo s fd ⟨[.ref p, .ref q], []⟩ ((["self", "other"] : List Str).zip [Value.ref p, Value.ref q]) := by
    have z := hb s [.ref p, .ref q] I.kIn rfl
    rwa [List.append_nil] at z
  refine wpAny_call (codeAny_mono (F.run A X.stack s H ⟨[.ref p, .ref q], []⟩ [.ref p, .ref q] [.ref p, .ref q] _ E0 hr e0 bd (.cons rfl (.cons rfl .nil)) sp) fun r s' hq => ?_)
  cases r with
  | error e => exact False.elim hq
  | ok fl =>
    cases fl with
    | ret z =>
      obtain ⟨v, H', I', rv, ev, ex⟩ := I.after hq
      subst ev
      cases rv
      exact ⟨rfl, H', I', ex⟩
    | next => exact False.elim hq
    | brk => exact False.elim hq
    | cont => exact False.elim hq
def rEqC (K : PySem.W.Frag) (g : Bool → Bool) : R2 := fun x y H Q => ∃ (p q : Addr) (t u : Tok), x = .ref p ∧ y = .ref q ∧ IsCar K t p H ∧ IsCar K u q H ∧ t.Ok ∧ u.Ok ∧ ∀ H', Same H H' → Q (.bl (g (eqC t u))) H'
theorem op_eqC (T : Txt X.K X.mg X.base) (hr : Room 2 X.A) : OpR X (compareOp .Eq) (rEqC X.K id) := by
  intro pins s σ H x y v u Q I rx ry h
  obtain ⟨p, q, t, u, rfl, rfl, hp, hq, ht, hu, k⟩ := h
  cases rx
  cases ry
  obtain ⟨f, fd, hm, hb, F⟩ := (ok_Ceq (P := X.prog) (w := X.w) T).ex
  obtain ⟨dx, _, _, _, _, zp⟩ := hp.ex
  obtain ⟨dy, _, _, _, _, zq⟩ := hq.ex
  obtain ⟨mA, J, _⟩ := ins_get I.hok zp.ob
  obtain ⟨mB, J', _⟩ := ins_get I.hok zq.ob
  obtain ⟨od, J, _⟩ := J.look
  obtain ⟨od', J', _⟩ := J'.look
  obtain ⟨m, hF⟩ := I.fr
  show wpAny (model X.prog X.w) X.A (richCompare .Eq (.ref p) (.ref q)) (EP X pins σ Q) X.xe s
  refine PySem.W.cmp_K (op := .Eq) (tb := .ref (CC X.K)) hr.units0 hF I.ok.mod.kin J J'.type T.ownC.nf hm.at_ hm.fn (wpAny_mono (run_eqC T (hr.mono (by decide)) rfl I hb F hp hq ht hu) (fun v s' hv => ?_) fun _ _ z => z)
  obtain ⟨rfl, H', I', e⟩ := hv
  exact ⟨.bl (eqC t u), H', I', rfl, k H' e⟩
theorem op_neC (T : Txt X.K X.mg X.base) (hr : Room 2 X.A) : OpR X (compareOp .NotEq) (rEqC X.K not) := by
  intro pins s σ H x y v u Q I rx ry h
  obtain ⟨p, q, t, u, rfl, rfl, hp, hq, ht, hu, k⟩ := h
  cases rx
  cases ry
  obtain ⟨f, fd, hm, hb, F⟩ := (ok_Ceq (P := X.prog) (w := X.w) T).ex
  obtain ⟨dx, _, _, _, _, zp⟩ := hp.ex
  obtain ⟨dy, _, _, _, _, zq⟩ := hq.ex
  obtain ⟨mA, J, _⟩ := ins_get I.hok zp.ob
  obtain ⟨mB, J', _⟩ := ins_get I.hok zq.ob
  obtain ⟨od, J, _⟩ := J.look
  obtain ⟨od', J', _⟩ := J'.look
  obtain ⟨m, hF⟩ := I.fr
  have un := hr.units
  show wpAny (model X.prog X.w) X.A (richCompare .NotEq (.ref p) (.ref q)) (EP X pins σ Q) X.xe s
  refine ne_K (tb := .ref (CC X.K)) (by omega) hF I.ok.mod.kin J J'.type T.ownC.nf T.ownC.ne T.ownC.c4 hm.at_ hm.fn (wpAny_mono (run_eqC T hr.in1 rfl I hb F hp hq ht hu) (fun v s' hv => ?_) fun _ _ z => z)
  obtain ⟨rfl, H', I', e⟩ := hv
  exact ⟨eqC t u, rfl, .bl (!eqC t u), H', I', rfl, k H' e⟩
end
end
section
/-! ### lambdas handed on -/
open NdefX LamX
/-- a lambda's words, the cells that it captured, its code object -/
structure LF where
  qual : Str
  params : Arguments
  body : Expr
  scope : Scope
  cl : List (Str × Addr)
  c : Addr
abbrev LF.nf (F : LF) : NF := ⟨"<lambda>", F.qual, F.params, [], F.scope, F.cl, F.c⟩
def LamO (f : Addr) (F : LF) : HO := .ext fun h => ∃ pm ctv : Value, h.get? f = some (PySem.W.kla_obj "<lambda>" F.qual F.params F.body F.scope F.cl pm F.c ctv)
theorem lamO_at {P : Program} {w : World} {H : Hp} {h : Heap} {f : Addr} {F : LF} (ok : HOk P w H h) (e : H f = some (LamO f F)) : ∃ pm ctv : Value, h.get? f = some (PySem.W.kla_obj "<lambda>" F.qual F.params F.body F.scope F.cl pm F.c ctv) := by
  obtain ⟨z, _⟩ := ok f _ e
  exact z
/-- the cells of cl -/
def inC (cl : List (Str × Addr)) (b : Addr) : Prop := ∃ y, cl.lookup y = some b
abbrev anyO : HO := .ext fun _ => True
open Classical in
noncomputable def dropC (cl : List (Str × Addr)) (H : Hp) : Hp := fun b => if inC cl b then none else H b
open Classical in
noncomputable def addC (cl : List (Str × Addr)) (h : Heap) (H : Hp) : Hp := fun b => if inC cl b then (h.get? b).map fun o => HO.frz o anyO else H b
theorem drop_in {cl : List (Str × Addr)} {H : Hp} {b : Addr} (h : inC cl b) : dropC cl H b = none := if_pos h
theorem drop_out {cl : List (Str × Addr)} {H : Hp} {b : Addr} (h : ¬ inC cl b) : dropC cl H b = H b := if_neg h
theorem add_in {cl : List (Str × Addr)} {h : Heap} {H : Hp} {b : Addr} {o : Obj} (i : inC cl b) (e : h.get? b = some o) : addC cl h H b = some (.frz o anyO) := by
  unfold addC
  rw [if_pos i, e]
  rfl
theorem add_out {cl : List (Str × Addr)} {h : Heap} {H : Hp} {b : Addr} (i : ¬ inC cl b) : addC cl h H b = H b := if_neg i
/-- the captured cells are known, with what they hold -/
structure CellsTr (cl : List (Str × Addr)) (fr : List Str) (ws : List (Option V)) (H : Hp) : Prop where
  len : ws.length = fr.length
  all : ∀ y c, cl.lookup y = some c → ∃ o v, H c = some (.frz o anyO) ∧ o.data = .cell v
  inj : ∀ x y c, cl.lookup x = some c → cl.lookup y = some c → x = y
  has : ∀ (i : Nat) (y : Str), fr[i]? = some y → ∃ c o, cl.lookup y = some c ∧ H c = some (.frz o anyO) ∧ ∀ v, ws[i]? = some (some v) → ∃ u, L2.RelV v u ∧ o.data = .cell (some u)
theorem CellsTr.mono {cl : List (Str × Addr)} {fr : List Str} {ws : List (Option V)} {H H' : Hp} (h : CellsTr cl fr ws H) (e : Same H H') : CellsTr cl fr ws H' :=
  ⟨h.len, fun y c q => let ⟨o, v, a, b⟩ := h.all y c q; ⟨o, v, e _ _ a, b⟩, h.inj, fun i y q => let ⟨c, o, a, b, d⟩ := h.has i y q; ⟨c, o, a, e _ _ b, d⟩⟩
theorem CellsTr.frz {cl : List (Str × Addr)} {fr : List Str} {ws : List (Option V)} {H : Hp} (h : CellsTr cl fr ws H) {b : Addr} (i : inC cl b) : ∃ o, H b = some (.frz o anyO) := by
  obtain ⟨y, e⟩ := i
  obtain ⟨o, v, a, _⟩ := h.all y b e
  exact ⟨o, a⟩
section
variable {P : Program} {w : World} {cl : List (Str × Addr)} {fr : List Str} {ws : List (Option V)} {H H' : Hp} {h h' : Heap} {fs : List Addr}
theorem hok_drop (ok : HOk P w H h) (C : CellsTr cl fr ws H) : HOk P w (dropC cl H) h := fun a o e => by
  by_cases i : inC cl a
  · rw [drop_in i] at e
    cases e
  · rw [drop_out i] at e
    have out : ∀ {b u}, H b = some u → (∀ o' u', u ≠ .frz o' u') → dropC cl H b = some u := fun {b u} q n => by
      refine (drop_out fun j => ?_).trans q
      obtain ⟨o', z⟩ := C.frz j
      rw [q] at z
      exact n _ _ (Option.some.inj z)
    exact (ok a o e).stay (fun _ _ _ q => q) (fun b q => out q fun _ _ z => nomatch z) fun b xs q => out q fun _ _ z => nomatch z
theorem cells_at (ok : HOk P w H h) (C : CellsTr cl fr ws H) : CellsAt cl fr ws h (dropC cl H) := by
  refine ⟨C.len, fun y c e => ⟨drop_in ⟨y, e⟩, ?_⟩, C.inj, fun i y e => ?_⟩
  · obtain ⟨o, v, a, d⟩ := C.all y c e
    exact ⟨v, o, (ok c _ a).1, d⟩
  · obtain ⟨c, o, a, b, d⟩ := C.has i y e
    refine ⟨c, a, fun v q => ?_⟩
    obtain ⟨u, r, z⟩ := d v q
    exact ⟨u, r, o, (ok c _ b).1, z⟩
theorem cells_tr (C : CellsAt cl fr ws h H) : CellsTr cl fr ws (addC cl h H) := by
  refine ⟨C.len, fun y c e => ?_, C.inj, fun i y e => ?_⟩
  · obtain ⟨_, v, o, ho, hd⟩ := C.all y c e
    exact ⟨o, v, add_in ⟨y, e⟩ ho, hd⟩
  · obtain ⟨c, hc, hv⟩ := C.has i y e
    obtain ⟨_, v0, o, ho, hd⟩ := C.all y c hc
    refine ⟨c, o, hc, add_in ⟨y, hc⟩ ho, fun v q => ?_⟩
    obtain ⟨u, r, o2, ho2, hd2⟩ := hv v q
    rw [ho] at ho2
    cases ho2
    exact ⟨u, r, hd2⟩
theorem hok_add (ok : HOk P w H h) (C : CellsAt cl fr ws h H) : HOk P w (addC cl h H) h := fun a o e => by
  by_cases i : inC cl a
  · obtain ⟨y, q⟩ := i
    obtain ⟨_, v, ob, ho, hd⟩ := C.all y a q
    rw [add_in ⟨y, q⟩ ho] at e
    cases e
    exact ⟨ho, trivial, ⟨ob, ho⟩, fun _ _ z _ => z⟩
  · rw [add_out i] at e
    have out : ∀ {b u}, H b = some u → addC cl h H b = some u := fun {b u} q => by
      refine (add_out fun j => ?_).trans q
      obtain ⟨y, z⟩ := j
      rw [(C.all y b z).1] at q
      cases q
    exact (ok a o e).stay (fun _ _ _ q => q) (fun b q => out q) fun b xs q => out q
/-- the lambda ran without its cells: they are as they were -/
theorem un_drop (un : Un fs [] (dropC cl H) H' h h') (C : CellsTr cl fr ws H) (hfs : ∀ b ∈ fs, H b = none) (ok : HOk P w H h) (ok' : HOk P w H' h') :
    ∃ H2, Un fs [] H H2 h h' ∧ HOk P w H2 h' ∧ (∀ b, inC cl b → H2 b = H b) ∧ ∀ b, ¬ inC cl b → H2 b = H' b := by
  classical
  have cold : ∀ b, inC cl b → ∃ o, H b = some (.frz o anyO) ∧ h.get? b = some o ∧ h'.get? b = some o ∧ H' b = none := fun b i => by
    obtain ⟨o, e⟩ := C.frz i
    have g : h.get? b = some o := (ok b _ e).1
    have n : b ∉ fs := fun z => by
      rw [hfs b z] at e
      cases e
    exact ⟨o, e, g, un.keep b o g (drop_in i) n (by simp), un.free b o g (drop_in i) (by simp)⟩
  refine ⟨fun b => if inC cl b then H b else H' b, ?_, ?_, fun b i => if_pos i, fun b i => if_neg i⟩
  · have none_out : ∀ {b}, H b = none → ¬ inC cl b := fun {b} n i => by
      obtain ⟨o, e, _⟩ := cold b i
      rw [n] at e
      cases e
    have some_eq : ∀ {b u}, H b = some u → (¬ inC cl b → H' b = some u) → (if inC cl b then H b else H' b) = some u := fun {b u} q k => by
      by_cases i : inC cl b
      · rw [if_pos i]
        exact q
      · rw [if_neg i]
        exact k i
    refine ⟨fun b o q n z x => un.keep b o q ((drop_out (none_out n)).trans n) z x, fun b o q n z x => un.slot b o q ((drop_out (none_out n)).trans n) z x, fun b o q n x => ?_, un.there,
      fun b xs q => some_eq q fun i => un.tups b xs ((drop_out i).trans q), fun b o u q => some_eq q fun i => un.frzs b o u ((drop_out i).trans q), fun b ps q => ?_⟩
    · show (if inC cl b then H b else H' b) = none
      rw [if_neg (none_out n)]
      exact un.free b o q ((drop_out (none_out n)).trans n) x
    · have i : ¬ inC cl b := fun i => by
        obtain ⟨o, e, _⟩ := cold b i
        rw [q] at e
        cases e
      obtain ⟨more, e⟩ := un.tbls b ps ((drop_out i).trans q)
      exact ⟨more, (if_neg i).trans e⟩
  · intro a o e
    by_cases i : inC cl a
    · obtain ⟨ob, e1, g, g', n⟩ := cold a i
      have e : (if inC cl a then H a else H' a) = some o := e
      rw [if_pos i, e1] at e
      cases e
      exact ⟨g', trivial, ⟨ob, g'⟩, fun _ _ z _ => z⟩
    · have e : (if inC cl a then H a else H' a) = some o := e
      rw [if_neg i] at e
      have out : ∀ {b u}, H' b = some u → (if inC cl b then H b else H' b) = some u := fun {b u} q => by
        refine (if_neg fun j => ?_).trans q
        obtain ⟨_, _, _, _, n⟩ := cold b j
        rw [q] at n
        cases n
      exact (ok' a o e).stay (fun _ _ _ q => q) (fun b q => out q) fun b xs q => out q
/-- a def ran with the cells known: they are as they were -/
theorem un_add (un : Un fs [] (addC cl h H) H' h h') (C : CellsAt cl fr ws h H) (ok' : HOk P w H' h') : Un fs [] H (dropC cl H') h h' ∧ HOk P w (dropC cl H') h' := by
  have cold : ∀ b, inC cl b → ∃ o, H b = none ∧ h.get? b = some o ∧ H' b = some (.frz o anyO) ∧ h'.get? b = some o := fun b ⟨y, i⟩ => by
    obtain ⟨n, v, o, ho, _⟩ := C.all y b i
    have e := un.frzs b o anyO (add_in ⟨y, i⟩ ho)
    exact ⟨o, n, ho, e, (ok' b _ e).1⟩
  have some_out : ∀ {b u}, H b = some u → ¬ inC cl b := fun {b u} q i => by
    obtain ⟨_, n, _⟩ := cold b i
    rw [q] at n
    cases n
  constructor
  · refine ⟨fun b o q n z x => ?_, fun b o q n z x => ?_, fun b o q n x => ?_, un.there, fun b xs q => ?_, fun b o u q => ?_, fun b ps q => ?_⟩
    · by_cases i : inC cl b
      · obtain ⟨o2, _, g, _, g'⟩ := cold b i
        rw [q] at g
        rw [Option.some.inj g]
        exact g'
      · exact un.keep b o q ((add_out i).trans n) z x
    · by_cases i : inC cl b
      · obtain ⟨o2, _, g, _, g'⟩ := cold b i
        rw [q] at g
        rw [Option.some.inj g]
        exact ⟨o2.slots, g'⟩
      · exact un.slot b o q ((add_out i).trans n) z x
    · by_cases i : inC cl b
      · exact drop_in i
      · exact (drop_out i).trans (un.free b o q ((add_out i).trans n) x)
    · exact (drop_out (some_out q)).trans (un.tups b xs ((add_out (some_out q)).trans q))
    · exact (drop_out (some_out q)).trans (un.frzs b o u ((add_out (some_out q)).trans q))
    · obtain ⟨more, e⟩ := un.tbls b ps ((add_out (some_out q)).trans q)
      exact ⟨more, (drop_out (some_out q)).trans e⟩
  · intro a o e
    by_cases i : inC cl a
    · rw [drop_in i] at e
      cases e
    · rw [drop_out i] at e
      have out : ∀ {b u}, H' b = some u → (∀ o' u', u ≠ .frz o' u') → dropC cl H' b = some u := fun {b u} q n => by
        refine (drop_out fun j => ?_).trans q
        obtain ⟨o', _, _, z, _⟩ := cold b j
        rw [q] at z
        exact n _ _ (Option.some.inj z)
      exact (ok' a o e).stay (fun _ _ _ q => q) (fun b q => out q fun _ _ z => nomatch z) fun b xs q => out q fun _ _ z => nomatch z
end
end
section
open NdefX LamX
section
variable {X : Cx} {pins : List (Addr × Obj)} {σ : L2.St} {H : Hp} {s : Shared}
/-- the lambda's object is known from now on -/
theorem inv_lam {F : LF} {o : Obj} {t' : Nat} {pm ctv : Value} (I : Inv X pins σ H s) (ho : o = PySem.W.kla_obj "<lambda>" F.qual F.params F.body F.scope F.cl pm F.c ctv) :
    Inv X pins σ (upd H s.heap.objs.size (LamO s.heap.objs.size F)) { s with heap := s.heap.push o, toks := t' } := by
  subst ho
  refine I.laid (a := s.heap.objs.size) (fun b u q => Heap.get?_push_of_some _ q) (Nat.le_refl _) ?_
  have at_ : (s.heap.push (PySem.W.kla_obj "<lambda>" F.qual F.params F.body F.scope F.cl pm F.c ctv)).get? s.heap.objs.size = some (PySem.W.kla_obj "<lambda>" F.qual F.params F.body F.scope F.cl pm F.c ctv) := Heap.get?_push_size _ rfl
  exact ⟨⟨pm, ctv, at_⟩, ⟨_, at_⟩, fun h1 h2 ⟨a, b, z⟩ keep => ⟨a, b, keep _ z⟩⟩
theorem lamO_ne {f : Addr} {F : LF} (ps : Array Value) : LamO f F ≠ .tbl ps := fun z => by
  unfold LamO at z
  cases z
theorem lam_made {T : List (Addr × Str)} {c P : Addr} {params : Arguments} {body : Expr} {scope : Scope} {pos : Pos} {Ex : Value → Shared → Prop} {Qf : Value → Shared → Prop} (I : Inv X pins σ H s) (TB : TabB X.base X.mg c P) (hcode : X.env.code = .ref c)
    (inT : (P, X.env.qual ++ "<lambda>") ∈ T) (one : ∀ p ∈ T, p.1 = P → p.2 = X.env.qual ++ "<lambda>") (hT : Tabs T H) (hdef : defaultsOf params X.env = ([], [])) (hfree : ∀ y ∈ scope.names, y.2 = .free → ∃ c, X.env.cells.lookup y.1 = some c)
    (k : ∀ (f c' : Addr) (H1 : Hp) (s' : Shared), Inv X pins σ H1 s' → ExtN H H1 → Tabs T H1 → H f = none → H1 f = some (LamO f ⟨X.env.qual ++ "<lambda>", params, body, scope, cloFrom X.env.cells scope.names [], c'⟩) → H1 c' = some (CodeO c' (X.env.qual ++ "<lambda>")) → Qf (.ref f) s') :
    wpAny (model X.prog X.w) X.A (eval (.Lambda params body scope pos) X.env) Qf Ex s := by
  obtain ⟨ps, hP, trip, among⟩ := hT _ inT
  have bP : s.heap.BuiltinsAt X.mg P := TB.bm.keeps I.bk
  have objP : s.heap.get? P = some { cls := .none, data := .fields ps } := I.hok P _ hP
  refine PySem.W.kla_eval hdef ?_
  cases look : codeAmong pos ps.toList with
  | some cv =>
    obtain ⟨c', ec, hco⟩ := among pos cv look
    subst ec
    refine PySem.W.kla_makeFunctionHit (mg := X.mg) (c := c) (P := P) (ps := ps) (closure_ok hfree) I.ok.glob (I.mod.glob.keeps I.bk) hcode (TB.code.keeps I.bk) objP trip look bP fun ctv h' tk keep _ => ?_
    have I1 : Inv X pins σ H { s with heap := h', toks := tk } := I.kept keep
    have nF : H h'.objs.size = none := I1.hok.fresh (Nat.le_refl _)
    have I2 := inv_lam (F := ⟨X.env.qual ++ "<lambda>", params, body, scope, cloFrom X.env.cells scope.names [], c'⟩) (t' := tk) (pm := (X.mg "__name__").getD .none) (ctv := ctv) I1 rfl
    have grow : ∀ b o, H b = some o → upd H h'.objs.size (LamO h'.objs.size ⟨X.env.qual ++ "<lambda>", params, body, scope, cloFrom X.env.cells scope.names [], c'⟩) b = some o := fun b o e => (upd_ne (ne_of_none e nF)).trans e
    exact k h'.objs.size c' _ _ I2 (ExtN.of grow) (hT.ext grow) nF upd_same (grow _ _ hco)
  | none =>
    refine PySem.W.kla_makeFunction (mg := X.mg) (c := c) (P := P) (ps := ps) (closure_ok hfree) I.ok.glob (I.mod.glob.keeps I.bk) hcode (TB.code.keeps I.bk) objP trip look TB.gP bP fun c' ctv h' tk keep new lt rec_ tab => ?_
    obtain ⟨c2, oc, vs, tn, e2, hoc, hd, hv⟩ := rec_
    cases e2
    have nC : H c' = none := I.hok.fresh new
    have I1 := inv_table (t' := tk) (more := #[rawInt pos.line, rawInt pos.col, .ref c']) (h' := h') I hP keep tab new ⟨oc, vs, tn, hoc, hd, hv⟩
    have nF := I1.hok.fresh (Nat.le_refl _)
    have I2 := inv_lam (F := ⟨X.env.qual ++ "<lambda>", params, body, scope, cloFrom X.env.cells scope.names [], c'⟩) (t' := tk) (pm := (X.mg "__name__").getD .none) (ctv := ctv) I1 rfl
    have g1 : ExtN H (upd (upd H P (.tbl (ps ++ #[rawInt pos.line, rawInt pos.col, .ref c']))) c' (CodeO c' (X.env.qual ++ "<lambda>"))) := fun b o e n => by
      have nb : b ≠ P := fun z => n ps (by rw [z, hP] at e; exact (Option.some.inj e).symm)
      exact (upd_ne (ne_of_none e nC)).trans ((upd_ne nb).trans e)
    have T1 : Tabs T (upd (upd H P (.tbl (ps ++ #[rawInt pos.line, rawInt pos.col, .ref c']))) c' (CodeO c' (X.env.qual ++ "<lambda>"))) := fun p hp => by
      by_cases hb : p.1 = P
      · have el : (ps ++ #[rawInt pos.line, rawInt pos.col, .ref c']).toList = ps.toList ++ [rawInt pos.line, rawInt pos.col, .ref c'] := by simp
        rw [one p hp hb, hb]
        refine ⟨ps ++ #[rawInt pos.line, rawInt pos.col, .ref c'], (upd_ne (ne_of_none hP nC)).trans upd_same, ?_, fun p' cv hcv => ?_⟩
        · rw [el]
          exact PySem.TriplesOk_snoc _ _ _ _ trip
        · rw [el] at hcv
          rcases among_app _ trip hcv with z | z
          · obtain ⟨c0, z1, z2⟩ := among p' cv z
            exact ⟨c0, z1, g1 _ _ z2 codeO_ne⟩
          · exact ⟨c', z, upd_same⟩
      · obtain ⟨qs, q1, q2, q3⟩ := hT p hp
        refine ⟨qs, (upd_ne (ne_of_none q1 nC)).trans ((upd_ne hb).trans q1), q2, fun p' cv hcv => ?_⟩
        obtain ⟨c0, z1, z2⟩ := q3 p' cv hcv
        exact ⟨c0, z1, g1 _ _ z2 codeO_ne⟩
    have hc1 : upd (upd H P (.tbl (ps ++ #[rawInt pos.line, rawInt pos.col, .ref c']))) c' (CodeO c' (X.env.qual ++ "<lambda>")) c' = some (CodeO c' (X.env.qual ++ "<lambda>")) := upd_same
    generalize upd (upd H P (.tbl (ps ++ #[rawInt pos.line, rawInt pos.col, .ref c']))) c' (CodeO c' (X.env.qual ++ "<lambda>")) = H1 at I1 I2 nF g1 T1 hc1
    have grow : ∀ b o, H1 b = some o → upd H1 h'.objs.size (LamO h'.objs.size ⟨X.env.qual ++ "<lambda>", params, body, scope, cloFrom X.env.cells scope.names [], c'⟩) b = some o := fun b o e => (upd_ne (ne_of_none e nF)).trans e
    exact k h'.objs.size c' _ _ I2 (g1.trans (ExtN.of grow)) (T1.ext grow) (I.hok.fresh (Nat.le_trans new (Nat.le_of_lt lt))) upd_same (grow _ _ hc1)
end
/-! ### what a lambda of one parameter answers -/
/-- called with w, its cells holding ws, the lambda F at f gives v -/
structure LOk (P : Program) (w : World) (K : PySem.W.Frag) (mg : Str → Option Value) (base : Heap) (k : Nat) (fr : List Str) (params : Arguments) (body : Expr) (scope : Scope) (qual : Str) (R : List (Option V) → V → Hp → V → Prop) : Prop where
  run : ∀ (cl : List (Str × Addr)) (c f : Addr) (A : Around) (outer : List Env) (s : Shared) (H : Hp) (u : Value) (x v : V) (ws : List (Option V)) (Q : VK) (E : XK), Room k A → Env0 P w K mg base A outer s H → H f = some (LamO f ⟨qual, params, body, scope, cl, c⟩) → H c = some (CodeO c qual) →
    CellsAt cl fr ws s.heap H → L2.RelV x u → R ws x H v → (∀ H', Same H H' → Q v H') → codeAny (model P w) A (.call (.ref f) ⟨[u], []⟩) (CR C8.CX0 outer P w H s Q E) s
theorem lok_of {P : Program} {w : World} {K : PySem.W.Frag} {mg : Str → Option Value} {base : Heap} {k : Nat} {N fr : List Str} {p : Str} {params : Arguments} {body : Expr} {scope : Scope} {qual : Str} {R : List (Option V) → V → Hp → V → Prop} (S : NScope N [p] fr scope)
    (hb : ∀ (cl : List (Str × Addr)) (pm cv ctv : Value) (u : Value), bindArgs (PySem.W.kla_fn "<lambda>" qual params body scope cl pm cv ctv) ⟨[u], []⟩ = pure [(p, u)])
    (hbody : ∀ (cl : List (Str × Addr)) (c f : Addr) (A : Around) (outer : List Env) (s : Shared) (H : Hp) (x v : V) (ws : List (Option V)) (Q : VK) (E : XK), Room k (A.deeper (envF (LF.nf ⟨qual, params, body, scope, cl, c⟩) f s.heap.objs.size)) → ws.length = fr.length → R ws x H v → (∀ H', Same H H' → Q v H') →
      ∃ t, PE (ncx C8.CX0 P w K mg base N (LF.nf ⟨qual, params, body, scope, cl, c⟩) f A outer s H E) body t ∧ t (startF N [x] ws) H Q) :
    LOk P w K mg base (k + 1) fr params body scope qual R := by
  refine ⟨fun cl c f A outer s H u x v ws Q E hr e0 hf hc C rx hR q => ?_⟩
  have lim : s.heap.NoLimit := e0.mod.nolimit.keeps fun b o e => (e0.bs b o e).1
  obtain ⟨pm, ctv, ho⟩ := lamO_at e0.hok hf
  refine PySem.W.kla_callFunE hr.depth ho rfl S.co S.gen rfl (codeO_at e0.hok hc) ?_
  rw [hb cl pm (.ref c) ctv u]
  refine wpAny_pure (wpAny_newFunctionEnv S.nocell (fun y hy => ?_) (fun h₁ hns hsb => ⟨lim.fresh _ hsb, ?_⟩) S.kind)
  · rw [List.mem_singleton.mp hy]
    exact S.par p List.mem_cons_self
  show codeAny _ _ (.expr body (envF (LF.nf ⟨qual, params, body, scope, cl, c⟩) f s.heap.objs.size)) _ _
  have keep : ∀ b o, s.heap.get? b = some o → h₁.get? b = some o := fun b o e => hsb.extBut b o (Nat.ne_of_lt (Heap.lt_size e)) (Heap.get?_push_of_some _ e)
  obtain ⟨t, ht, hq⟩ := hbody cl c f A outer s H x v ws Q E (hr.deeper _) C.len hR q
  have I : Inv (ncx C8.CX0 P w K mg base N (LF.nf ⟨qual, params, body, scope, cl, c⟩) f A outer s H E) [] (startF N [x] ws) H { s with heap := h₁, toks := s.toks + ([p].zip [u]).length } := inv_startN S hr.hd e0 rfl (.cons rx .nil) C hns keep
  refine PySem.W.kla_codeExpr (wpAny_mono (ht.run [] _ _ H Q I hq) (fun w' s' hs => ?_) fun e s' hs => hs)
  obtain ⟨v', H', J, rv, z⟩ := hs
  exact ⟨v', H', J.os, J.bare, J.base, J.hok, rv, z⟩
/-- the function at f, called with a place, gives g of it -/
structure LamIn (P : Program) (w : World) (K : PySem.W.Frag) (mg : Str → Option Value) (base : Heap) (k : Nat) (f : Addr) (dm : Int → Int → Prop) (g : Int → Int → V) (H : Hp) : Prop where
  ex : ∃ (fr : List Str) (params : Arguments) (body : Expr) (scope : Scope) (qual : Str) (R : List (Option V) → V → Hp → V → Prop) (cl : List (Str × Addr)) (c : Addr) (ws : List (Option V)), LOk P w K mg base k fr params body scope qual R ∧ H f = some (LamO f ⟨qual, params, body, scope, cl, c⟩) ∧ H c = some (CodeO c qual) ∧ CellsTr cl fr ws H ∧
    ∀ (H' : Hp) (q : Addr) (x y : Int), dm x y → Same H H' → Pair x y q H' → R ws (.ref q) (dropC cl H') (g x y)
theorem LamIn.mono {P : Program} {w : World} {K : PySem.W.Frag} {mg : Str → Option Value} {base : Heap} {k : Nat} {f : Addr} {dm : Int → Int → Prop} {g : Int → Int → V} {H H' : Hp} (h : LamIn P w K mg base k f dm g H) (e : Same H H') : LamIn P w K mg base k f dm g H' := by
  obtain ⟨fr, params, body, scope, qual, R, cl, c, ws, ok, hf, hc, C, hR⟩ := h.ex
  exact ⟨fr, params, body, scope, qual, R, cl, c, ws, ok, e _ _ hf, e _ _ hc, C.mono e, fun H2 q x y d e2 => hR H2 q x y d (e.trans e2)⟩
def tCallL (P : Program) (w : World) (K : PySem.W.Frag) (mg : Str → Option Value) (base : Heap) (k i : Nat) (t : TA) : TE := fun σ H Q => ∃ (f : Addr) (dm : Int → Int → Prop) (g : Int → Int → V), σ[i]? = some (some (.ref f)) ∧ LamIn P w K mg base k f dm g H ∧
  t σ H fun vs H1 => ∃ (q : Addr) (x y : Int), vs = [.ref q] ∧ Same H H1 ∧ Pair x y q H1 ∧ dm x y ∧ ∀ H2, Same H1 H2 → Q (g x y) H2
theorem lam_fnAt {X : Cx} {pins : List (Addr × Obj)} {σ : L2.St} {H : Hp} {s : Shared} {f : Addr} {F : LF} (I : Inv X pins σ H s) (e : H f = some (LamO f F)) : PySem.W.FnAt f s.heap := by
  obtain ⟨pm, ctv, ho⟩ := lamO_at I.hok e
  exact ⟨_, _, _, _, ho⟩
theorem pe_callL {X : Cx} {P : Program} {w : World} {K : PySem.W.Frag} {mg : Str → Option Value} {base : Heap} {k j i : Nat} {x : Str} {e : Expr} {p pos : Pos} {t : TA} (hP : X.prog = P) (hw : X.w = w) (hK : X.K = K) (hm : X.mg = mg) (hB : X.base = base) (hr : Room j X.A) (hk : k ≤ j)
    (hN : X.N[i]? = some x) (hv : Vis X.env.scope x) (ha : PA X [e] t) (hd : (x == ("__debug__" : Str)) = false := by decide) (hcd : (x == ("__classdict__" : Str)) = false := by decide)
    (he : starEach [e] X.env = (false, eval e X.env) :: starEach [] X.env := by rfl) (hpl : (backTo pos (starEach [] X.env)).any (·.1) = false := by rfl) :
    PE X (.Call (.Name x p) [e] [] pos) (tCallL P w K mg base k i t) := by
  subst hP hw hK hm hB
  constructor
  intro pins s σ H Q I h
  obtain ⟨f, dm, g, hs, L, h⟩ := h
  refine wpAny_Call_Name_kw (thn ((pe_var (pos := p) hN hv hd hcd).run pins s σ H (fun v H1 => v = .ref f ∧ H1 = H) I ⟨.ref f, hs, rfl, rfl⟩) fun u s1 ⟨v, H1, I1, r1, ev, eH⟩ => ?_)
  subst ev eH
  obtain rfl : u = Value.ref f := r1
  obtain ⟨_, _, _, _, _, _, _, _, _, _, hf1, _⟩ := L.ex
  refine PySem.W.callWith_F (first := []) (lam_fnAt I1 hf1) (thn (ha.run pos pins s1 σ H1 _ I1 h) fun us s2 ⟨vs, H2, I2, r, q, xx, yy, evs, e12, hq, hdm, k2⟩ => ?_) he hpl
  have L2' := L.mono e12
  obtain ⟨fr, params, body, scope, qual, R, cl, c, ws, ok, hf, hc, C, hR⟩ := L2'.ex
  refine ⟨lam_fnAt I2 hf, ?_⟩
  subst evs
  obtain ⟨u1, eu, ru⟩ := vals1 r
  subst eu
  have e0 := I2.env0
  have noCell : ∀ {b : Addr} {o : HO}, H2 b = some o → (∀ o' u', o ≠ .frz o' u') → dropC cl H2 b = some o := fun {b o} z n => by
    refine (drop_out fun i => ?_).trans z
    obtain ⟨o', z'⟩ := C.frz i
    rw [z] at z'
    exact n _ _ (Option.some.inj z')
  have e0d : Env0 X.prog X.w X.K X.mg X.base X.A X.stack s2 (dropC cl H2) := by
    have nn : ∀ b, H2 b = none → dropC cl H2 b = none := fun b n => by
      by_cases i : inC cl b
      · exact drop_in i
      · exact (drop_out i).trans n
    exact ⟨e0.frames, e0.mod, fun b o z => ⟨(e0.bs b o z).1, nn b (e0.bs b o z).2⟩, e0.bsz, e0.funs, fun b hb => nn b (e0.frf b hb), hok_drop e0.hok C, e0.bare⟩
  have run := ok.run cl c f X.A X.stack s2 (dropC cl H2) u1 (.ref q) (g xx yy) ws (fun v H' => v = g xx yy ∧ Same (dropC cl H2) H') (fun _ _ _ => False) (hr.mono hk) e0d (noCell hf fun _ _ z => by unfold LamO at z; cases z) (noCell hc fun _ _ z => by unfold CodeO at z; cases z) (cells_at e0.hok C) ru (hR H2 q xx yy hdm (Same.refl _) hq) fun H' e => ⟨rfl, e⟩
  show wpAny _ _ (call (.ref f) [u1]) _ _ _
  refine wpAny_call (codeAny_mono run fun r s' hq => ?_)
  cases r with
  | error e => exact False.elim hq
  | ok fl =>
    cases fl with
    | ret u =>
      obtain ⟨v, H3, os, bare, un, hok, rv, ev, e3⟩ := hq
      obtain ⟨H4, un4, hok4, hin, hout⟩ := un_drop un C e0.frf e0.hok hok
      have e4 : Same H2 H4 := fun b o z => by
        by_cases i : inC cl b
        · rw [hin b i]
          exact z
        · rw [hout b i]
          exact e3 b o ((drop_out i).trans z)
      subst ev
      exact I2.after ⟨g xx yy, H4, os, bare, un4, hok4, rv, k2 H4 e4⟩
    | next => exact False.elim hq
    | brk => exact False.elim hq
    | cont => exact False.elim hq
end
section
open NdefX LamX
def tLamE (T : List (Addr × Str)) (qual : Str) (params : Arguments) (body : Expr) (scope : Scope) (cl : List (Str × Addr)) : TE := fun _ H Q => Tabs T H ∧ ∀ (f c' : Addr) (H1 : Hp), ExtN H H1 → Tabs T H1 → H f = none → H1 f = some (LamO f ⟨qual, params, body, scope, cl, c'⟩) → H1 c' = some (CodeO c' qual) → Q (.ref f) H1
section
variable {X : Cx}
theorem pe_lamE {T : List (Addr × Str)} {c P : Addr} {params : Arguments} {body : Expr} {scope : Scope} {lpos : Pos} (TB : TabB X.base X.mg c P) (hcode : X.env.code = .ref c) (inT : (P, X.env.qual ++ "<lambda>") ∈ T) (one : ∀ p ∈ T, p.1 = P → p.2 = X.env.qual ++ "<lambda>")
    (hfree : ∀ y ∈ scope.names, y.2 = .free → X.env.scope.names.lookup y.1 = some .cell ∨ X.env.scope.names.lookup y.1 = some .free) (hdef : defaultsOf params X.env = ([], []) := by rfl) :
    PE X (.Lambda params body scope lpos) (tLamE T (X.env.qual ++ "<lambda>") params body scope (cloFrom X.env.cells scope.names [])) := by
  constructor
  intro pins s σ H Q I ⟨hT, k⟩
  have fr : ∀ y ∈ scope.names, y.2 = .free → ∃ c, X.env.cells.lookup y.1 = some c := fun y hy e => I.ok.has _ (hfree y hy e)
  exact lam_made I TB hcode inT one hT hdef fr fun f c' H1 s' I1 eN T1 nf hf hc => ⟨.ref f, H1, I1, rfl, k f c' H1 eN T1 nf hf hc⟩
/-- a call while the cells of cl are known -/
def tCallC (cl : List (Str × Addr)) (fr : List Str) (js : List Nat) (sp : Sp) (t : TA) : TE := fun σ H Q => t σ H fun vs H1 => ∀ H3 : Hp, CellsTr cl fr (js.map (slotAt σ)) H3 → (∀ b o, H1 b = some o → H3 b = some o) → (∀ b, inC cl b → H1 b = none) → (∀ b, ¬ inC cl b → H3 b = H1 b) →
  sp vs H3 (fun v H4 => (∀ b, inC cl b → ∃ o, H4 b = some (.frz o anyO)) → Q v (dropC cl H4)) fun _ _ _ => False
theorem pe_callC {x : Str} {k j : Nat} {ps : List Str} {sp : Sp} {p pos : Pos} {e : Expr} {es : List Expr} {t : TA} {cl : List (Str × Addr)} {fr : List Str} {js : List Nat} (D : DefOk X.prog X.w X.K X.mg X.base x k ps sp) (hr : Room j X.A) (hk : k ≤ j) (hg : Gl X x) (cp : X.Ok → Caps X cl fr js) (hfn : ∀ y c, cl.lookup y = some c → X.fn y = true) (ha : PA X (e :: es) t)
    (hdb : (x == ("__debug__" : Str)) = false := by decide) (he : starEach (e :: es) X.env = (false, eval e X.env) :: starEach es X.env := by rfl) (hpl : (backTo pos (starEach es X.env)).any (·.1) = false := by rfl) :
    PE X (.Call (.Name x p) (e :: es) [] pos) (tCallC cl fr js sp t) := by
  obtain ⟨g, fd, hm, hkp, hb, F⟩ := D.ex
  constructor
  intro pins s σ H Q I h
  refine wpAny_Call_Name_kw (ld_glob I hg hm ?_ hdb)
  refine PySem.W.callWith_K (h₀ := X.base) I.ok.mod.kin hkp (thn (ha.run pos pins s σ H _ I h) fun us s1 ⟨vs, H1, I1, r, q⟩ => ⟨I1.kIn, ?_⟩) he hpl
  have C := cells_of I1 (cp I1.ok)
  have C3 := cells_tr C
  have sub : ∀ b o, H1 b = some o → addC cl s1.heap H1 b = some o := fun b o e => by
    refine (add_out fun ⟨y, z⟩ => ?_).trans e
    rw [(C.all y b z).1] at e
    cases e
  have q3 := q (addC cl s1.heap H1) C3 sub (fun b ⟨y, z⟩ => (C.all y b z).1) fun b i => add_out i
  have e0 := I1.env0
  have base_ : ∀ b o, X.base.get? b = some o → addC cl s1.heap H1 b = none := fun b o z => by
    refine (add_out fun ⟨y, i⟩ => ?_).trans (e0.bs b o z).2
    have lt : b < X.base.objs.size := Heap.lt_size z
    have ge : X.s_0.heap.objs.size ≤ b := I1.ok.cab y b (hfn y b i) ((cp I1.ok).sub y b i)
    have bz := I1.ok.bsz
    exact absurd lt (Nat.not_lt_of_le (Nat.le_trans bz ge))
  have frames_ : ∀ b ∈ frs X.stack, addC cl s1.heap H1 b = none := fun b hb => by
    refine (add_out fun ⟨y, i⟩ => ?_).trans (e0.frf b hb)
    have ge := I1.ok.cab y b (hfn y b i) ((cp I1.ok).sub y b i)
    have ge : X.s_0.heap.objs.size ≤ b := ge
    rcases List.mem_cons.mp (I1.stkSub b hb) with e' | hb'
    · obtain ⟨_, v, o, ho, hd⟩ := C.all y b i
      obtain ⟨m, ⟨o2, es, ep, ho2, hd2, _⟩, _⟩ := I1.loc
      rw [← e', ho] at ho2
      rw [← Option.some.inj ho2, hd] at hd2
      cases hd2
    · obtain ⟨_, o, ho, _⟩ := I1.ok.funs.mem hb'
      have lt : b < X.s_0.heap.objs.size := Heap.lt_size ho
      exact absurd lt (Nat.not_lt_of_le ge)
  have e3 : Env0 X.prog X.w X.K X.mg X.base X.A X.stack s1 (addC cl s1.heap H1) := ⟨e0.frames, e0.mod, fun b o z => ⟨(e0.bs b o z).1, base_ b o z⟩, e0.bsz, e0.funs, frames_, hok_add e0.hok C, e0.bare⟩
  have hl := F.len _ _ _ _ q3
  have bd : BindsTo s1 fd ⟨us, []⟩ (ps.zip us) := by
    have z := hb s1 us I1.kIn (by rw [List.append_nil, ← r.length]; exact hl)
    rwa [List.append_nil] at z
  refine wpAny_call (codeAny_mono (F.run X.A X.stack s1 _ ⟨us, []⟩ us vs _ _ (hr.mono hk) e3 bd r q3) fun rs s' hq => ?_)
  cases rs with
  | error e => exact False.elim hq
  | ok fl =>
    cases fl with
    | ret u =>
      obtain ⟨v, H4, os, bare, un, hok, rv, z⟩ := hq
      obtain ⟨un', hok'⟩ := un_add un C hok
      refine I1.after ⟨v, dropC cl H4, os, bare, un', hok', rv, z fun b ⟨y, i⟩ => ?_⟩
      obtain ⟨_, v0, o, ho, _⟩ := C.all y b i
      exact ⟨o, un.frzs b o anyO (add_in ⟨y, i⟩ ho)⟩
    | next => exact False.elim hq
    | brk => exact False.elim hq
    | cont => exact False.elim hq
theorem pe_callLam {x : Str} {k j : Nat} {ps : List Str} {sp : Sp} {p pos lpos : Pos} {e : Expr} {t1 : TE} {fr : List Str} {js : List Nat} {T : List (Addr × Str)} {c P : Addr} {params : Arguments} {body : Expr} {scope : Scope} (D : DefOk X.prog X.w X.K X.mg X.base x k ps sp) (hr : Room j X.A) (hk : k ≤ j) (hg : Gl X x)
    (h1 : PE X e t1) (TB : TabB X.base X.mg c P) (hcode : X.env.code = .ref c) (inT : (P, X.env.qual ++ "<lambda>") ∈ T) (one : ∀ p ∈ T, p.1 = P → p.2 = X.env.qual ++ "<lambda>") (hB : ndefB X.env.scope scope fr = true) (hjs : js.map (fun j => X.N[j]?) = fr.map some)
    (hfn : (scope.names.all fun y => !decide (y.2 = .free) || X.fn y.1) = true) (hdb : (x == ("__debug__" : Str)) = false := by decide) (hdef : defaultsOf params X.env = ([], []) := by rfl)
    (he : starEach [e, .Lambda params body scope lpos] X.env = (false, eval e X.env) :: starEach [.Lambda params body scope lpos] X.env := by rfl) (hpl : (backTo pos (starEach [.Lambda params body scope lpos] X.env)).any (·.1) = false := by rfl)
    (he2 : starEach [.Lambda params body scope lpos] X.env = (false, eval (.Lambda params body scope lpos) X.env) :: starEach [] X.env := by rfl) :
    PE X (.Call (.Name x p) [e, .Lambda params body scope lpos] [] pos) (tCallC (cloFrom X.env.cells scope.names []) fr js sp (tCons t1 (tCons (tLamE T (X.env.qual ++ "<lambda>") params body scope (cloFrom X.env.cells scope.names [])) tNil))) := by
  have free := ndef_free hB
  refine pe_callC D hr hk hg (fun ok => Caps.made ok free (ndef_fr hB) hjs) (fun y c' hl => ?_) (pa_cons h1 (pa_cons (pe_lamE TB hcode inT one free hdef) pa_nil he2) he) hdb he hpl
  rcases cloFrom_mem (PySem.mem_of_lookup hl) with hm | ⟨hm, _⟩
  · cases hm
  · have z := List.all_eq_true.mp hfn _ hm
    simpa using z
end
end
section
open NdefX LamX
theorem led_get (m : List (Nat × Nat)) (c : Nat) : ((valV (mapK m) (.inl ((c : Nat) : Int))).getD (.int (c : Nat))) = .int (led m c : Nat) := by
  rw [look_val]
  unfold led look
  cases (m.find? fun p => decide (p.1 = c)) <;> rfl
section
variable {P : Program} {w : World} {K : PySem.W.Frag} {mg : Str → Option Value} {base : Heap}
def sp_led : Sp := fun vs H Q _ => ∃ (D : Addr) (m : List (Nat × Nat)) (c : Nat), vs = [.ref D, .int c] ∧ IsMap m D H ∧ Ret H Q (.int (led m c : Nat))
theorem ok_led (T : Txt K mg base) : DefOk P w K mg base "led_by" 1 ["colours", "colour"] sp_led := by
  refine defok T.d_led_by T.g_led_by sc_led_by (fun _ _ _ _ _ _ us hl => match us, hl with | [_, _], _ => rfl) (fun vs H Q E h => ?_) fun cdv A outer s H vs Q E hr h => ?_
  · obtain ⟨D, m, c, rfl, _⟩ := h
    rfl
  obtain ⟨D, m, c, rfl, hD, k⟩ := h
  have hu1 : ∀ {A' : Around}, Room 0 A' → A'.units + 1 < cLine := fun r => by have := r.units; omega
  refine ⟨_, pss_one (ps_ret (pe_ifExp (pt_val (pe_callB call_isi (by rfl) T.f_isinstance (by decide +kernel) (pa_cons (pv 0) (pa_cons (pe_bltn (v := .ty "dict") (by rfl) T.f_dict (by decide +kernel) rfl) pa_nil))))
    (pe_dget2 (hu1 hr) (pv 0) (pv 1) (pv 1) ⟨by rfl, by rfl, by rfl, by rfl⟩) (pe_ix ix_list (pv 0) (pv 1) (fun _ _ => rfl)))), ?_⟩
  refine ⟨_, rfl, _, _, _, _, true, rfl, .ty "dict", .base (.dK hD), kit_ty (by decide +kernel), true, rfl, iteT ?_⟩
  refine ⟨_, rfl, D, rfl, .inl ⟨_, .inl hD⟩, _, rfl, _, rfl, _, DGet.k (k := .inl ((c : Nat) : Int)) hD, ?_⟩
  rw [led_get]
  exact k H (Same.refl H)
def Map9 (m : List (Nat × Nat)) : Prop := ∀ p ∈ m, p.1 ≤ 9 ∧ p.2 ≤ 9
def sp_cmap : Sp := fun vs H Q _ => ∃ (D : Addr) (m : List (Nat × Nat)), vs = [.ref D] ∧ IsMap m D H ∧ Map9 m ∧ NodupF m ∧ m.length ≤ 10 ∧ Ret H Q (.bl true)
theorem ok_cmap (T : Txt K mg base) : DefOk P w K mg base "is_colour_map" 4 ["value"] sp_cmap := by
  refine defok T.d_is_colour_map T.g_is_colour_map sc_is_colour_map (fun _ _ _ _ _ _ us hl => match us, hl with | [_], _ => rfl) (fun vs H Q E h => ?_) fun cdv A outer s H vs Q E hr h => ?_
  · obtain ⟨D, m, rfl, _⟩ := h
    rfl
  obtain ⟨D, m, rfl, hD, h9, nd, l10, k⟩ := h
  have hS := sc_is_colour_map.nd
  have hu1 : ∀ {A' : Around}, Room 3 A' → A'.units + 1 < cLine := fun r => by have := r.units; omega
  refine ⟨_, pss_cons (ps_if (pt_val (pe_callB call_isi (by rfl) T.f_isinstance (by decide +kernel) (pa_cons (pv 0) (pa_cons (pe_bltn (v := .ty "dict") (by rfl) T.f_dict (by decide +kernel) rfl) pa_nil))))
    (pss_one (ps_ret (pe_callB (cr_all rfl) (by rfl) T.f_all (by decide +kernel) (pa_cons (pe_lock (pe_lc (own := [("key", 1)]) (g := gName 1) (tt := tYes) rfl hS (pi_keys (pv 0))
      (blkOk_by (own := [("key", 1)]) (N := ["value", "key"]) (sc := defScope s_is_colour_map) (by decide +kernel)) (fun _ _ _ _ _ => pg_name (i := 1) hS rfl (Or.inl rfl)) (fun _ _ _ _ _ => pts_nil)
      (fun _ _ _ _ _ => pe_and (pe_cd (ok_is_colour T) hr (by decide) (by rfl) (pa_cons (pv 1) pa_nil)) (pe_one (pe_cd (ok_is_colour T) hr (by decide) (by rfl) (pa_cons (pe_dget (hu1 hr) (pv 0) (pv 1) (fun _ _ => rfl)) pa_nil)))))) pa_nil)))) pss_nil) pss_never, ?_⟩
  refine ⟨_, rfl, _, _, _, _, true, rfl, .ty "dict", .base (.dK hD), kit_ty (by decide +kernel), true, rfl, iteT ?_⟩
  have lenK : (mapK m).length = m.length := List.length_map _
  refine ⟨D, _, hD, True.intro, fun od => ⟨_, rfl, D, od, rfl, .inl ⟨_, upd_same, ?_⟩⟩⟩
  refine lcW (j := 1) (walk_keys (d := D) (o := od) (kvs := mapK m)) (Stab.val fun _ => .bl true) (by omega) (fun H' e => e _ _ upd_same) (by intro x; rfl) (fun i x H5 H6 hi e y => ?_) fun D2 acc2 H5 e5 nD2 hD2 hl2 g2 => ?_
  · obtain ⟨rfl, kk, v, hk, rfl⟩ := y
    have hi' : i < m.length := by omega
    have hk' : (mapK m)[i]? = some (.inl (((m.getD i (0, 0)).1 : Nat) : Int), .int (((m.getD i (0, 0)).2 : Nat) : Int)) := by
      unfold mapK
      rw [List.getElem?_map, getD_at (d := (0, 0)) hi']
      rfl
    have ek : kk = .inl (((m.getD i (0, 0)).1 : Nat) : Int) := congrArg Prod.fst (Option.some.inj (hk.symm.trans hk'))
    subst ek
    have hmem := List.mem_of_getElem? (getD_at (d := (0, 0)) hi')
    have h9' := h9 _ hmem
    have hl := mem_look nd (c := (m.getD i (0, 0)).1) (e := (m.getD i (0, 0)).2) hmem
    have hv : valV (mapK m) (.inl (((m.getD i (0, 0)).1 : Nat) : Int)) = some (.int (((m.getD i (0, 0)).2 : Nat) : Int)) := by
      rw [look_val, hl]
      rfl
    refine ⟨rfl, fun Q' z => ⟨_, rfl, _, rfl, by omega, by omega, fun H7 e7 => ⟨true, rfl, iteT ?_⟩⟩⟩
    have f7 := e7 _ _ (e _ _ upd_same)
    have hg : DGet H7 D (kV (.inl (((m.getD i (0, 0)).1 : Nat) : Int))) (some (.int (((m.getD i (0, 0)).2 : Nat) : Int))) := .inl ⟨_, _, .inr ⟨od, f7⟩, rfl, hv.symm⟩
    exact ⟨_, rfl, _, rfl, D, _, rfl, hg, _, rfl, by omega, by omega, fun H8 e8 => z _ H8 (e7.trans e8) rfl⟩
  · have ea := good_val g2 hl2
    have nDD : D2 ≠ D := fun z => by
      rw [z, upd_same] at nD2
      cases nD2
    refine ⟨e5 _ _ upd_same, D2, (List.range (mapK m).length).map fun _ => true, rfl, SqL.of ?_, ?_⟩
    · rw [upd_ne nDD, hD2, ea, List.map_map]
      rfl
    · have et : ((List.range (mapK m).length).map fun _ => true).all id = true := by
        rw [List.all_eq_true]
        intro b hb
        obtain ⟨_, _, rfl⟩ := List.mem_map.mp hb
        rfl
      rw [et]
      refine k _ fun c o hc => ?_
      by_cases ec : c = D
      · rw [ec] at hc ⊢
        rw [upd_same, ← hc]
        exact hD.symm
      · rw [upd_ne ec]
        exact e5 _ _ ((upd_ne ec).trans hc)
def sp_rows_by (P : Program) (w : World) (K : PySem.W.Frag) (mg : Str → Option Value) (base : Heap) (n : Nat) : Sp := fun vs H Q _ => ∃ (l f : Addr) (a d : Nat) (b : Int) (dm : Int → Int → Prop) (g : Int → Int → V) (sg : Nat → Nat → Nat), vs = [.ref l, .ref f] ∧ IsLat K a b d l H ∧ a ≤ 144 ∧ d ≤ 144 ∧ LamIn P w K mg base n f dm g H ∧
  (∀ x y : Nat, x < a → y < d → dm x y ∧ g x y = .str (dS [sg x y])) ∧ RetR H Q (IsRows ((List.range d).map fun y => (List.range a).map fun x => sg x y))
theorem ok_rows_by (T : Txt K mg base) {n : Nat} : DefOk P w K mg base "rows_by" (n + 1) ["lattice", "sign_of"] (sp_rows_by P w K mg base n) := by
  refine defok T.d_rows_by T.g_rows_by sc_rows_by (fun _ _ _ _ _ _ us hl => match us, hl with | [_, _], _ => rfl) (fun vs H Q E h => ?_) fun cdv A outer s H vs Q E hr h => ?_
  · obtain ⟨l, f, a, d, b, dm, g, sg, rfl, _⟩ := h
    rfl
  obtain ⟨l, f, a, d, b, dm, g, sg, rfl, hl, ha, hd, hf, hg, k⟩ := h
  have hS := sc_rows_by.nd
  obtain ⟨dx, hl0⟩ := hl.ex
  refine ⟨_, pss_one (ps_ret (pe_callTy call_tuple_of (by rfl) T.f_tuple (by decide +kernel) (pa_cons (pe_lc (own := [("y", 2)]) (g := gName 2) (tt := tYes) rfl hS (pi_range1 rfl T.f_range (pa_cons (pe_fld (pv 0) rfl) pa_nil))
      (blkOk_by (own := [("y", 2)]) (N := ["lattice", "sign_of", "y", "x"]) (sc := defScope s_rows_by) (by decide +kernel)) (fun _ _ _ _ _ => pg_name (i := 2) hS rfl (Or.inr rfl)) (fun _ _ _ _ _ => pts_nil)
      (fun _ _ _ _ _ => pjn K pe_str (pe_lc (own := [("x", 3)]) (g := gName 3) (tt := tYes) (wi := iRng1 (tCons (tFld K (tVar 0) "a") tNil)) rfl hS (pi_range1 rfl T.f_range (pa_cons (pfl K (pv 0) rfl) pa_nil)) (blkOk_by (own := [("x", 3)]) (by rfl))
        (fun _ _ _ _ _ => pg_name (i := 3) hS rfl (Or.inl rfl)) (fun _ _ _ _ _ => pts_nil)
        (fun _ _ _ _ _ => pe_callL (P := P) (w := w) (K := K) (mg := mg) (base := base) (k := n) (i := 1) rfl rfl rfl rfl rfl hr (Nat.le_refl _) rfl (by first | exact .inl rfl | exact .inr (.inl rfl) | exact .inr (.inr rfl)) (pa_cons (pe_tup (pa_cons (pv 3) (pa_cons (pv 2) pa_nil))) pa_nil))))) pa_nil))), ?_⟩
  refine ⟨_, rfl, l, _, dx, _, _, rfl, hl0, T.clsL, T.nL_d, lf_d, (d : Nat), rfl, by omega, by omega, ?_⟩
  refine lcR (n := d) (lo := 0) (j := 2) (Stab.val fun y => .str (dS ((List.range a).map fun x => sg x y))) (by omega) (by intro x; rfl) (fun y H1 hy e1 Q' z => ?_) fun D acc H1 e1 nD hD hl1 g1 => ?_
  · refine ⟨⟨_, rfl⟩, _, rfl, l, _, dx, _, _, rfl, e1 _ _ hl0, T.clsL, T.nL_a, lf_a, (a : Nat), rfl, by omega, by omega, ?_⟩
    refine lcR (n := a) (lo := 0) (j := 3) (Stab.val fun x => .str (dS [sg x y])) (by omega) (by intro x; rfl) (fun x H2 hx e2 Q2 z2 => ?_) fun D2 acc2 H2 e2 nD2 hD2 hl2 g2 => ?_
    · have f2 := hf.mono (e1.trans e2)
      refine ⟨f, dm, g, rfl, f2, _, rfl, _, rfl, by show 2 ≤ sizeLine; decide, fun q nq => ?_⟩
      have e3 := Same.upd (o := .tup [.int (0 + (x : Nat)), .int (0 + (y : Nat))]) nq
      refine ⟨q, 0 + (x : Nat), 0 + (y : Nat), rfl, e3, upd_same, ?_, fun H4 e4 => z2 _ H4 (e3.trans e4) ?_⟩
      · rw [Int.zero_add, Int.zero_add]
        exact (hg x y hx hy).1
      · rw [Int.zero_add, Int.zero_add]
        exact (hg x y hx hy).2
    · have ea := good_val g2 hl2
      have el : acc2 = (((List.range a).map fun x => sg x y).map fun c => dS [c]).map V.str := by
        rw [ea, List.map_map, List.map_map]
        rfl
      refine ⟨Str.ofString "", D2, ((List.range a).map fun x => sg x y).map fun c => dS [c], rfl, rfl, .inl (SqL.of ?_), join_size _ (by rw [List.length_map, List.length_range]; omega), ?_⟩
      · rw [hD2, el]
      · rw [join_dS]
        exact z _ H2 e2 rfl
  · have ea := good_val g1 hl1
    have el : acc = rowsV ((List.range d).map fun y => (List.range a).map fun x => sg x y) := by
      rw [ea]
      unfold rowsV
      rw [List.map_map]
      rfl
    rw [el] at hD
    refine ⟨D, _, rfl, .inl ⟨SqL.of hD, fun r nr => k r _ (e1.trans (Same.upd nr)) upd_same⟩⟩
end
end
section
open NdefX LamX
/-- the two tables of code objects -/
def TT (K : PySem.W.Frag) : List (Addr × Str) := [((He.cT K ("recoloured", none)).2, "recoloured.<locals>.<lambda>"), ((He.cT K ("woven", none)).2, "woven.<locals>.<lambda>")]
theorem keep_drop {cl : List (Str × Addr)} {H : Hp} (fz : ∀ b, inC cl b → ∃ o, H b = some (.frz o anyO)) {b : Addr} {o : HO} (e : H b = some o) (n : ∀ o' u', o ≠ .frz o' u') : dropC cl H b = some o := by
  refine (drop_out fun i => ?_).trans e
  obtain ⟨o', z⟩ := fz b i
  rw [e] at z
  exact n _ _ (Option.some.inj z)
theorem tabs_drop {T : List (Addr × Str)} {cl : List (Str × Addr)} {H : Hp} (t : Tabs T H) (fz : ∀ b, inC cl b → ∃ o, H b = some (.frz o anyO)) : Tabs T (dropC cl H) := fun p hp => by
  obtain ⟨ps, h1, h2, h3⟩ := t p hp
  refine ⟨ps, keep_drop fz h1 (fun _ _ z => nomatch z), h2, fun pos cv hc => ?_⟩
  obtain ⟨c, e1, e2⟩ := h3 pos cv hc
  exact ⟨c, e1, keep_drop fz e2 fun _ _ z => by unfold CodeO at z; cases z⟩
theorem val_tabT {f : Nat → Bool} {key : Nat → List Key} {v : Nat → V} : ∀ {n i : Nat}, (∀ i m, i < m → m < n → key i ≠ key m) → i < n → f i = true → valV (tabT f key v n) (key i) = some (v i)
  | 0, i, _, h, _ => nomatch h
  | n + 1, i, inj, h, hf => by
    rw [tabT_succ]
    have ih : i < n → valV (tabT f key v n) (key i) = some (v i) := fun lt => val_tabT (fun a m h1 h2 => inj a m h1 (by omega)) lt hf
    cases hn : f n with
    | false =>
      rw [if_neg (by decide), List.append_nil]
      refine ih ?_
      rcases Nat.lt_or_ge i n with q | q
      · exact q
      · have : i = n := by omega
        rw [this, hn] at hf
        cases hf
    | true =>
      rw [if_pos rfl, valV_snoc _ _ _ _ (tabT_new fun a ha => inj a n ha (by omega))]
      by_cases e : i = n
      · rw [e, if_pos rfl]
      · rw [if_neg (inj i n (by omega) (by omega))]
        exact ih (by omega)
def lkey (a j : Nat) : List Key := [.inl ((j % a : Nat) : Int), .inl ((j / a : Nat) : Int)]
theorem lkey_inj {a i j : Nat} (h : lkey a i = lkey a j) : i = j := by
  unfold lkey at h
  injection h with h1 h2
  injection h2 with h2 _
  have e1 : i % a = j % a := Int.ofNat.inj (Sum.inl.inj h1)
  have e2 : i / a = j / a := Int.ofNat.inj (Sum.inl.inj h2)
  rw [← Nat.div_add_mod i a, ← Nat.div_add_mod j a, e1, e2]
/-- the carpet woven by the colours of a lattice's places -/
def wovT (t : Tok) (col : Nat → Nat → Nat) : Tok := ⟨t.a, t.b, t.d, (List.range t.d).map fun y => (List.range t.a).map fun x => col x y⟩
theorem wovT_ok {t : Tok} {col : Nat → Nat → Nat} (h : t.Ok) (h9 : ∀ x y, x < t.a → y < t.d → col x y ≤ 9) : (wovT t col).Ok := by
  refine ⟨h.a1, h.b1, h.d1, h.ar, by show ((List.range t.d).map _).length = t.d; rw [List.length_map, List.length_range], fun z hz => ?_, fun z hz c hc => ?_⟩
  · obtain ⟨y, _, rfl⟩ := List.mem_map.mp hz
    show ((List.range t.a).map _).length = t.a
    rw [List.length_map, List.length_range]
  · obtain ⟨y, hy, rfl⟩ := List.mem_map.mp hz
    obtain ⟨x, hx, rfl⟩ := List.mem_map.mp hc
    exact h9 x y (List.mem_range.mp hx) (List.mem_range.mp hy)
section
variable {P : Program} {w : World} {K : PySem.W.Frag} {mg : Str → Option Value} {base : Heap}
def sp_woven (P : Program) (w : World) (K : PySem.W.Frag) (mg : Str → Option Value) (base : Heap) : Sp := fun vs H Q _ => ∃ (l f : Addr) (t : Tok) (g : Int → Int → V) (col : Nat → Nat → Nat), vs = [.ref l, .ref f] ∧ IsTokL K t l H ∧ t.Ok ∧ LamIn P w K mg base 9 f (fun _ _ => True) g H ∧
  (∀ x y : Nat, x < t.a → y < t.d → g x y = .int (col x y : Nat) ∧ col x y ≤ 9) ∧ Tabs (TT K) H ∧ ∀ (p : Addr) (H' : Hp), ExtN H H' → Tabs (TT K) H' → IsCar K (wovT t col) p H' → Q (.ref p) H'
theorem ok_woven (T : Txt K mg base) : DefOk P w K mg base "woven" 11 ["lattice", "colour_of"] (sp_woven P w K mg base) := by
  refine defokC T.d_woven T.g_woven sc_woven (fun _ _ _ _ _ _ us hl => match us, hl with | [_, _], _ => rfl) (fun vs H Q E h => ?_) fun cdv A outer s H vs Q E hcd hr h => ?_
  · obtain ⟨l, f, t, g, col, rfl, _⟩ := h
    rfl
  obtain ⟨l, f, t, g, col, rfl, hl, ht, hf, hg, hT, k⟩ := h
  have hS := sc_woven.nd
  have hu1 : ∀ {A' : Around}, Room 10 A' → A'.units + 1 < cLine := fun r => by have := r.units; omega
  obtain ⟨dx, hl0⟩ := hl.ex
  have ha1 := ht.a1
  have ha2 := ht.a2
  have hd2 := ht.d2
  refine ⟨_, pss_cons (ps_expr (pe_cd (ok_check_lattice T) hr (by decide) (by rfl) (pa_cons (pv 0) pa_nil)))
    (pss_cons (ps_expr (pe_cd (ok_check_size T) hr (by decide) (by rfl) (pa_cons (pe_md0 (ok_area T) T.clsL hr (by decide) (pv 0)) pa_nil)))
    (pss_cons (ps_set (i := 2) hS rfl (.inr rfl) pe_dnewT)
    (pss_cons (ps_for PassesOwn.never rfl (pi_list (pe_md0 (ok_places T) T.clsL hr (by decide) (pv 0))) (pg_name (i := 3) hS rfl (.inl rfl))
      (pss_cons (ps_set (i := 4) hS rfl (.inl rfl) (pe_callL (P := P) (w := w) (K := K) (mg := mg) (base := base) (k := 9) (i := 1) rfl rfl rfl rfl rfl hr (by decide) rfl (by first | exact .inl rfl | exact .inr (.inl rfl)) (pa_cons (pv 3) pa_nil)))
      (pss_cons (ps_expr (pe_cd (ok_check_colour T) hr (by decide) (by rfl) (pa_cons (pv 4) pa_nil)))
      (pss_one (ps_dput (hu1 hr) (pv 2) (pv 3) (pe_callTy call_str_int (by rfl) T.f_str (by decide +kernel) (pa_cons (pv 4) pa_nil)) (by rfl))))))
    (pss_one (ps_ret (pe_mk (ok_Cinit T) hr (by decide) (by rfl) T.g_Carpet (pa_cons (pe_fld (pv 0) rfl) (pa_cons (pe_fld (pv 0) rfl) (pa_cons (pe_fld (pv 0) rfl)
      (pa_cons (pe_callLam (fr := ["signs"]) (js := [2]) (T := TT K) (ok_rows_by T (n := 1)) hr (by decide) (by rfl) (pv 0) (T.tb _ (.tail _ (.head _))) hcd (.tail _ (.head _)) (fun p hp e => ?_) (by rfl) rfl (by rfl)) pa_nil)))))))))), ?_⟩
  · rcases List.mem_cons.mp hp with h | h
    · rw [h] at e
      exact absurd e T.t12
    · rw [List.mem_singleton.mp h]
      rfl
  refine ⟨_, rfl, l, _, _, _, rfl, hl, fun H1 e1 => ?_⟩
  have ar : (t.a : Int) * (t.d : Int) ≤ 144 := by
    have := ht.ar
    have e : ((t.a * t.d : Nat) : Int) = (t.a : Int) * (t.d : Int) := Int.natCast_mul _ _
    omega
  refine ⟨_, rfl, l, dx, _, rfl, e1 _ _ hl0, lf_ar, l, _, _, _, rfl, hl.mono e1, ⟨by omega, by omega⟩, fun H2 e2 => ⟨_, rfl, ar, fun H3 e3 => fun F nF => ?_⟩⟩
  have e4 := Same.upd (o := .dT []) nF
  have e14 := e1.trans (e2.trans (e3.trans e4))
  have nF0 : H F = none := Same.none (e1.trans (e2.trans e3)) nF
  have hF4 : upd H3 F (.dT []) F = some (.dT []) := upd_same
  generalize upd H3 F (.dT []) = H4 at e4 e14 hF4
  have h4 := e14 _ _ hl0
  refine ⟨_, rfl, l, dx, _, rfl, h4, lf_pls, l, t.a, t.d, t.b, rfl, hl.mono e14, ⟨ha1, by omega⟩, by omega, fun D acc H5 e5 hD hlen gd => ?_⟩
  have hF5 := e5 _ _ hF4
  have e15 := e14.trans e5
  have nDF : D ≠ F := ne_of hD hF5 (fun z => nomatch z)
  have same : ∀ {H' : Hp}, Sb F H5 H' → Same H H' := fun {H'} sb c o hc => sb _ _ (e15 _ _ hc) (ne_of_none hc nF0)
  have key_ne : ∀ i m, i < m → m < t.d * t.a → lkey t.a i ≠ lkey t.a m := fun i m h _ z => absurd (lkey_inj z) (by omega)
  refine ⟨D, rfl, ⟨_, SqL.of hD⟩, for_list (K := K) (a := D) (xs := acc) (fun i σ H' => ∃ y3 y4, σ = [some (.ref l), some (.ref f), some (.ref F), y3, y4] ∧ Sb F H5 H' ∧ H' F = some (.dT (tabT (fun _ => true) (lkey t.a) (fun j => .str (dS [col (j % t.a) (j / t.a)])) i)))
    ⟨none, none, rfl, Sb.of (Same.refl _), hF5⟩ (fun i σ H' _ ⟨_, _, _, sb, _⟩ => SqL.of (sb _ _ hD nDF)) ?_ ?_⟩
  · rintro i v σ H6 hi ⟨y3, y4, rfl, sb, hF⟩
    have lt : i < t.d * t.a := by
      have := (List.getElem?_eq_some_iff.mp hi).1
      omega
    have l1 : i % t.a < t.a := Nat.mod_lt _ (by omega)
    have l2 : i / t.a < t.d := Nat.div_lt_of_lt_mul (by rw [Nat.mul_comm]; exact lt)
    obtain ⟨gv, g9⟩ := hg _ _ l1 l2
    obtain ⟨pp, rfl, hpp⟩ := gd i v hi
    have npp : pp ≠ F := ne_of hpp hF5 (fun q => nomatch q)
    have f6 := sb _ _ hpp npp
    have f6' := hf.mono (same sb)
    refine ⟨f, _, g, rfl, f6', _, rfl, pp, _, _, rfl, Same.refl _, f6, trivial, fun H7 e7 => ?_⟩
    rw [gv]
    refine ⟨_, rfl, _, rfl, by omega, by omega, fun H8 e8 => ⟨_, rfl, _, rfl, str_int_ok g9, ?_⟩⟩
    have e78 := e7.trans e8
    have bnd : t.d * t.a ≤ 144 := by rw [Nat.mul_comm]; exact ht.ar
    refine ⟨_, rfl, _, rfl, F, _, rfl, DPut.t (k := lkey t.a i) (e78 _ _ hF) (e78 _ _ f6) (Nat.lt_of_le_of_lt tabT_len (Nat.lt_of_lt_of_le (show i < 100000 by omega) (by decide))), ?_⟩
    refine ⟨_, _, rfl, (sb.trans (Sb.of e78)).trans Sb.put, ?_⟩
    rw [upd_same, putK_new _ (tabT_new fun m hm => key_ne m i hm lt), tabT_succ, if_pos rfl]
    show some (HO.dT (_ ++ [(lkey t.a i, V.str (Str.ofString (toString ((col (i % t.a) (i / t.a) : Nat) : Int))))])) = _
    rw [str_dS g9]
  · rintro σ H6 ⟨y3, y4, rfl, sb, hF⟩
    rw [hlen] at hF
    have s6 := same sb
    have h6 := s6 _ _ hl0
    refine ⟨_, rfl, l, _, dx, _, _, rfl, h6, T.clsL, T.nL_a, lf_a, _, rfl, l, _, dx, _, _, rfl, h6, T.clsL, T.nL_b, lf_b, _, rfl, l, _, dx, _, _, rfl, h6, T.clsL, T.nL_d, lf_d, ?_⟩
    refine ⟨_, rfl, hT.ext s6, fun f2 c' H7 eN7 T7 nf2 hf2 hc2 => fun H8 C8 sub nin eqo => ?_⟩
    have nt : ∀ {b o}, H6 b = some o → (∀ ps, o ≠ HO.tbl ps) → H8 b = some o := fun {b o} e n => sub _ _ (eN7 _ _ e n)
    have hF8 := nt hF fun _ z => nomatch z
    have wsE : [2].map (slotAt [some (V.ref l), some (.ref f), some (.ref F), y3, y4]) = [some (.ref F)] := rfl
    rw [wsE] at C8
    refine ⟨l, f2, t.a, t.d, t.b, fun x y => 0 ≤ x ∧ x < t.a ∧ 0 ≤ y ∧ y < t.d, fun x y => .str (dS [col x.toNat y.toNat]), col, rfl, ⟨dx, nt h6 fun _ z => nomatch z⟩, ha2, hd2, ?lam, fun x y hx hy => ⟨⟨by omega, by omega, by omega, by omega⟩, rfl⟩, fun r H9 e9 hr9 => fun fz => ?_⟩
    case lam =>
      refine ⟨["signs"], _, _, _, _, fun ws x H v => ∃ F q kvs kk, ws = [some (.ref F)] ∧ x = .ref q ∧ H F = some (.dT kvs) ∧ H q = some (.tup (kk.map kV)) ∧ valV kvs kk = some v, _, c', _, ?ok, sub _ _ hf2, sub _ _ hc2, C8, fun H' q x y hd e hq => ?_⟩
      case ok =>
        refine lok_of (k := 0) (N := ["place", "signs"]) (p := "place") (nscope_by (by decide +kernel)) (fun _ _ _ _ _ => rfl) fun cl c f A outer s H x v ws Q E hr hl hR q => ?_
        obtain ⟨F, q', kvs, kk, rfl, rfl, g1, g2, g3⟩ := hR
        have hu : ∀ {A' : Around}, Room 0 A' → A'.units + 1 < cLine := fun r => by have := r.units; omega
        refine ⟨_, pe_dget (hu hr) (pv 1) (pv 0) (fun _ _ => rfl), ?_⟩
        exact ⟨_, rfl, _, rfl, F, v, rfl, .inr ⟨kvs, kk, q', .inl g1, rfl, g2, g3.symm⟩, q H (Same.refl H)⟩
      · have fz' : ∀ b, inC _ b → ∃ o, H' b = some (.frz o anyO) := fun b i => (C8.mono e).frz i
        refine ⟨F, q, _, [.inl x, .inl y], rfl, rfl, keep_drop fz' (e _ _ hF8) (fun _ _ z => nomatch z), keep_drop fz' hq (fun _ _ z => nomatch z), ?_⟩
        obtain ⟨d1, d2, d3, d4⟩ := hd
        obtain ⟨x', rfl⟩ := Int.eq_ofNat_of_zero_le d1
        obtain ⟨y', rfl⟩ := Int.eq_ofNat_of_zero_le d3
        have lx : x' < t.a := by omega
        have ly : y' < t.d := by omega
        have h1 : (y' * t.a + x') % t.a = x' := by rw [Nat.mul_comm, Nat.mul_add_mod]; exact Nat.mod_eq_of_lt lx
        have h2 : (y' * t.a + x') / t.a = y' := by rw [Nat.mul_comm, Nat.mul_add_div (by omega), Nat.div_eq_of_lt lx, Nat.add_zero]
        have li : y' * t.a + x' < t.d * t.a := by
          have := Nat.mul_le_mul_right t.a (show y' + 1 ≤ t.d by omega)
          rw [Nat.succ_mul] at this
          omega
        have q := val_tabT (f := fun _ => true) (key := lkey t.a) (v := fun j => V.str (dS [col (j % t.a) (j / t.a)])) key_ne li rfl
        have ek : lkey t.a (y' * t.a + x') = [.inl ((x' : Nat) : Int), .inl ((y' : Nat) : Int)] := by
          unfold lkey
          rw [h1, h2]
        rw [ek] at q
        rw [h1, h2] at q
        exact q
    refine car_make (t := wovT t col) (r := r) (wovT_ok ht fun x y hx hy => (hg x y hx hy).2) (.inr (keep_drop fz hr9 fun _ _ z => nomatch z)) fun p H10 e10 hp => ?_
    refine k p H10 (fun b o hb n => ?_) ((tabs_drop ((T7.ext sub).ext e9) fz).ext e10) hp
    have b7 := eN7 _ _ (s6 _ _ hb) n
    refine e10 _ _ ((drop_out fun i => ?_).trans (e9 _ _ (sub _ _ b7)))
    rw [nin b i] at b7
    cases b7
end
end
section
open NdefX LamX
theorem IsCar.drop {K : PySem.W.Frag} {t : Tok} {p : Addr} {cl : List (Str × Addr)} {H : Hp} (h : IsCar K t p H) (fz : ∀ b, inC cl b → ∃ o, H b = some (.frz o anyO)) : IsCar K t p (dropC cl H) := by
  obtain ⟨dx, r, bs, sh, sr, c⟩ := h.ex
  obtain ⟨db, hb⟩ := c.bs.ex
  exact ⟨dx, r, bs, sh, sr, keep_drop fz c.ob fun _ _ z => (nomatch z), keep_drop fz c.rw fun _ _ z => (nomatch z), ⟨db, keep_drop fz hb fun _ _ z => (nomatch z)⟩, keep_drop fz c.sh fun _ _ z => (nomatch z), keep_drop fz c.sr fun _ _ z => (nomatch z)⟩
theorem IsCar.ext {K : PySem.W.Frag} {t : Tok} {p : Addr} {H H' : Hp} (h : IsCar K t p H) (e : ExtN H H') : IsCar K t p H' := by
  obtain ⟨dx, r, bs, sh, sr, c⟩ := h.ex
  obtain ⟨db, hb⟩ := c.bs.ex
  exact ⟨dx, r, bs, sh, sr, e _ _ c.ob fun _ z => (nomatch z), e _ _ c.rw fun _ z => (nomatch z), ⟨db, e _ _ hb fun _ z => (nomatch z)⟩, e _ _ c.sh fun _ z => (nomatch z), e _ _ c.sr fun _ z => (nomatch z)⟩
theorem led9 {m : List (Nat × Nat)} (h : Map9 m) {c : Nat} (hc : c ≤ 9) : led m c ≤ 9 := by
  unfold led
  cases e : m.find? fun p => decide (p.1 = c) with
  | none => exact hc
  | some p => exact (h p (List.mem_of_find?_eq_some e)).2
/-- the colours led by m -/
def ledC (m : List (Nat × Nat)) (t : Tok) : Nat → Nat → Nat := fun x y => led m (sgn t (x : Int) (y : Int))
section
variable {P : Program} {w : World} {K : PySem.W.Frag} {mg : Str → Option Value} {base : Heap}
def sp_recoloured (K : PySem.W.Frag) : Sp := fun vs H Q _ => ∃ (p D : Addr) (t : Tok) (m : List (Nat × Nat)), vs = [.ref p, .ref D] ∧ IsCar K t p H ∧ t.Ok ∧ IsMap m D H ∧ Map9 m ∧ NodupF m ∧ m.length ≤ 10 ∧ Tabs (TT K) H ∧
  ∀ (q : Addr) (H' : Hp), ExtN H H' → Tabs (TT K) H' → IsCar K (shpT (wovT t (ledC m t))) q H' → Q (.ref q) H'
theorem ok_recoloured (T : Txt K mg base) : DefOk P w K mg base "recoloured" 12 ["carpet", "colours"] (sp_recoloured K) := by
  refine defokC T.d_recoloured T.g_recoloured sc_recoloured (fun _ _ _ _ _ _ us hl => match us, hl with | [_, _], _ => rfl) (fun vs H Q E h => ?_) fun cdv A outer s H vs Q E hcd hr h => ?_
  · obtain ⟨p, D, t, m, rfl, _⟩ := h
    rfl
  obtain ⟨p, D, t, m, rfl, hp, ht, hD, h9, nd, l10, hT, k⟩ := h
  have hS := sc_recoloured.nd
  refine ⟨_, pss_cons (ps_expr (pe_cd (ok_look T) hr (by decide) (by rfl) (pa_cons (pv 0) pa_nil)))
    (pss_cons (ps_if (pt_not (pt_val (pe_cd (ok_cmap T) hr (by decide) (by rfl) (pa_cons (pv 1) pa_nil)))) pss_never pss_nil)
    (pss_one (ps_ret (pe_md0 (ok_Cin T) T.clsC hr (by decide)
      (pe_callLam (fr := ["carpet", "colours"]) (js := [0, 1]) (T := TT K) (ok_woven (P := P) (w := w) T) hr (by decide) (by rfl) (pe_md0 (ok_Clattice T) T.clsC hr (by decide) (pv 0)) (T.tb _ (.head _)) hcd (.head _) (fun p hp e => ?_) (by rfl) rfl (by rfl)))))), ?_⟩
  · rcases List.mem_cons.mp hp with h | h
    · rw [h]
      rfl
    · rw [List.mem_singleton.mp h] at e
      exact absurd e.symm T.t12
  refine ⟨_, rfl, p, t, rfl, hp, fun H1 e1 => ⟨_, rfl, D, m, rfl, e1 _ _ hD, h9, nd, l10, fun H2 e2 => ⟨_, rfl, iteF ?_⟩⟩⟩
  have e12 := e1.trans e2
  obtain ⟨dx, r, bs, sh, sr, z⟩ := hp.ex
  refine ⟨_, rfl, p, dx, _, rfl, e12 _ _ z.ob, cf_lat, p, t, rfl, hp.mono e12, ht, fun l H3 e3 hl => ?_⟩
  have e13 := e12.trans e3
  refine ⟨hT.ext e13, fun f c' H4 eN4 T4 nf hf hc => fun H5 C5 sub nin eqo => ?_⟩
  have nt : ∀ {b o}, H b = some o → (∀ ps, o ≠ HO.tbl ps) → H5 b = some o := fun {b o} e n => sub _ _ (eN4 _ _ (e13 _ _ e) n)
  have eN5 : ExtN H3 H5 := fun b o e n => sub _ _ (eN4 _ _ e n)
  have eN05 : ExtN H H5 := fun b o e n => nt e n
  have wsE : [0, 1].map (slotAt [some (V.ref p), some (.ref D)]) = [some (.ref p), some (.ref D)] := rfl
  rw [show [0, 1].map (slotAt (L2.start ["carpet", "colours"] [V.ref p, V.ref D])) = [some (.ref p), some (.ref D)] from rfl] at C5
  obtain ⟨dl, hl0⟩ := hl.ex
  refine ⟨l, f, t, fun x y => .int (led m (sgn t x y) : Nat), ledC m t, rfl, ⟨dl, eN5 _ _ hl0 fun _ z => nomatch z⟩, ht, ?lam, fun x y hx hy => ⟨rfl, led9 h9 (sgn9 ht _ _)⟩, T4.ext sub, fun q H6 eN6 T6 hq => fun fz => ?_⟩
  case lam =>
    refine ⟨["carpet", "colours"], _, _, _, _, fun ws x H v => ∃ p D q t m X Y, ws = [some (.ref p), some (.ref D)] ∧ x = .ref q ∧ IsCar K t p H ∧ t.Ok ∧ IsMap m D H ∧ Pair X Y q H ∧ v = .int (led m (sgn t X Y) : Nat), _, c', _, ?ok, sub _ _ hf, sub _ _ hc, C5, fun H' q x y hd e hq => ?_⟩
    case ok =>
      refine lok_of (k := 8) (N := ["cell", "carpet", "colours"]) (p := "cell") (nscope_by (by decide +kernel)) (fun _ _ _ _ _ => rfl) fun cl c f A outer s H x v ws Q E hr hl hR q => ?_
      obtain ⟨p, D, q', t, m, X, Y, rfl, rfl, g1, g2, g3, g4, rfl⟩ := hR
      refine ⟨_, pe_cd (ok_led T) hr (by decide) (by rfl) (pa_cons (pv 2) (pa_cons (pe_md (ok_Ccolour T) T.clsC hr (by decide) (pv 1) (pa_cons (pv 0) pa_nil)) pa_nil)), ?_⟩
      obtain ⟨dx, r, bs, sh, sr, z⟩ := g1.ex
      exact ⟨_, rfl, _, rfl, p, dx, _, rfl, z.ob, cf_colour, _, rfl, p, q', t, X, Y, rfl, g1, g2, g4, fun H1 e1 => ⟨D, m, _, rfl, e1 _ _ g3, fun H2 e2 => q H2 (e1.trans e2)⟩⟩
    · have fz' : ∀ b, inC _ b → ∃ o, H' b = some (.frz o anyO) := fun b i => (C5.mono e).frz i
      exact ⟨p, D, q, t, m, x, y, rfl, rfl, ((hp.ext eN05).mono e).drop fz', ht, keep_drop fz' (e _ _ (nt hD fun _ z => nomatch z)) (fun _ _ z => nomatch z), keep_drop fz' hq (fun _ _ z => nomatch z), rfl⟩
  have hq' := hq.drop fz
  obtain ⟨dq, _, _, _, _, zq⟩ := hq'.ex
  refine ⟨q, dq, _, rfl, zq.ob, cf_inn, q, _, rfl, hq', wovT_ok ht fun x y _ _ => led9 h9 (sgn9 ht _ _), fun q2 H7 e7 hq2 => ?_⟩
  refine k q2 H7 (fun b o hb n => ?_) ((tabs_drop T6 fz).ext e7) hq2
  have b4 := eN4 _ _ (e13 _ _ hb) n
  refine e7 _ _ ((drop_out fun i => ?_).trans (eN6 _ _ (sub _ _ b4) n))
  rw [nin b i] at b4
  cases b4
end
end
section
/-! ### the law's last words -/
theorem map9_of {t u : Tok} {m : List (Nat × Nat)} (ht : t.Ok) (hu : u.Ok) (h : IsDue t u m) : Map9 m := fun p hp => by
  obtain ⟨X, Y, h1, h2⟩ := (h.mem p.1 p.2).mp hp
  rw [← h1, ← h2]
  exact ⟨sgn9 ht X Y, sgn9 hu X Y⟩
theorem len10_of {t u : Tok} {m : List (Nat × Nat)} (ht : t.Ok) (hu : u.Ok) (h : IsDue t u m) : m.length ≤ 10 := by
  have := nodup_le 10 (m.map Prod.fst) (srt_nodup h.srt) fun x hx => by
    obtain ⟨p, hp, rfl⟩ := List.mem_map.mp hx
    have := (map9_of ht hu h p hp).1
    omega
  rwa [List.length_map] at this
theorem led_of {t u : Tok} {m : List (Nat × Nat)} (h : IsDue t u m) (X Y : Int) : led m (sgn t X Y) = sgn u X Y := by
  have q := mem_look (srt_nodup h.srt) ((h.mem _ _).mpr ⟨X, Y, rfl, rfl⟩)
  have e : led m (sgn t X Y) = (look m (sgn t X Y)).getD (sgn t X Y) := rfl
  rw [e, q]
  rfl
theorem wov_sgn {t : Tok} {m : List (Nat × Nat)} (h : t.Ok) (X Y : Int) : sgn (wovT t (ledC m t)) X Y = led m (sgn t X Y) := by
  have ha := h.a1
  have hd := h.d1
  have hx := plX_rng (a := (t.a : Int)) (b := t.b) (d := t.d) (x := X) (y := Y) (by omega)
  have hy := plY_rng (d := (t.d : Int)) (y := Y) (by omega)
  have q := at_place (per_a h) (per_bd h) X Y
  have lx : (plX t.a t.b t.d X Y).toNat < t.a := by omega
  have ly : (plY t.d Y).toNat < t.d := by omega
  show (((List.range t.d).map fun y => (List.range t.a).map fun x => ledC m t x y).getD (plY t.d Y).toNat []).getD (plX t.a t.b t.d X Y).toNat 0 = _
  have h1 : ((List.range t.d).map fun y => (List.range t.a).map fun x => ledC m t x y).getD (plY t.d Y).toNat [] = (List.range t.a).map fun x => ledC m t x (plY t.d Y).toNat := by
    rw [List.getD_eq_getElem?_getD, List.getElem?_map, List.getElem?_range ly]
    rfl
  rw [h1, List.getD_eq_getElem?_getD, List.getElem?_map, List.getElem?_range lx]
  show led m (sgn t ((plX t.a t.b t.d X Y).toNat : Int) ((plY t.d Y).toNat : Int)) = _
  rw [Int.toNat_of_nonneg hx.1, Int.toNat_of_nonneg hy.1, q]
/-- the carpet led by the map is the other -/
theorem led_eq {t u : Tok} {m : List (Nat × Nat)} (ht : t.Ok) (hu : u.Ok) (h : IsDue t u m) : eqC (shpT (wovT t (ledC m t))) u = true := by
  have ok : (wovT t (ledC m t)).Ok := wovT_ok ht fun x y _ _ => led9 (map9_of ht hu h) (sgn9 ht _ _)
  exact alike_eq (fun X Y => ((shp_alike ok X Y).trans (wov_sgn ht X Y)).trans (led_of h X Y)) (shpT_ok ok) hu
theorem alike_fun {t u : Tok} (h : Alike t u) : Fun t u := fun c e e' ⟨X, Y, h1, h2⟩ ⟨X', Y', h3, h4⟩ => by
  rw [← h2, ← h4, ← h X Y, ← h X' Y', h1, h3]
theorem snd_fun {t u : Tok} {m : List (Nat × Nat)} (h : IsDue t u m) : (m.map Prod.snd).Nodup ↔ Fun u t := by
  constructor
  · intro n c e e' ⟨X, Y, h1, h2⟩ ⟨X', Y', h3, h4⟩
    have m1 := (h.mem e c).mpr ⟨X, Y, h2, h1⟩
    have m2 := (h.mem e' c).mpr ⟨X', Y', h4, h3⟩
    have aux : ∀ {l : List (Nat × Nat)}, (l.map Prod.snd).Nodup → (e, c) ∈ l → (e', c) ∈ l → e = e' := fun {l} => by
      induction l with
      | nil => exact fun _ z => nomatch z
      | cons p r ih =>
        intro nd z1 z2
        obtain ⟨n1, n2⟩ := List.nodup_cons.mp nd
        rcases List.mem_cons.mp z1 with y1 | y1 <;> rcases List.mem_cons.mp z2 with y2 | y2
        · exact congrArg Prod.fst (y1.trans y2.symm)
        · exact absurd (List.mem_map.mpr ⟨_, y2, by rw [← y1]⟩) n1
        · exact absurd (List.mem_map.mpr ⟨_, y1, by rw [← y2]⟩) n1
        · exact ih n2 y1 y2
    exact aux n m1 m2
  · intro f
    have nd := srt_nodup h.srt
    unfold NodupF at nd
    unfold List.Nodup at nd ⊢
    rw [List.pairwise_map] at nd ⊢
    refine List.Pairwise.imp_of_mem (fun {a b} ha hb ne e => ne ?_) nd
    obtain ⟨X, Y, h1, h2⟩ := (h.mem a.1 a.2).mp ha
    obtain ⟨X', Y', h3, h4⟩ := (h.mem b.1 b.2).mp hb
    exact f b.2 a.1 b.1 ⟨X, Y, h2.trans e, h1⟩ ⟨X', Y', h4, h3⟩
/-- as many keys as pairs: no key twice -/
theorem merge_len : ∀ (more kvs : List (Key × V)), (kvs.map (·.1)).Nodup → ((mergeK kvs more).length = kvs.length + more.length ↔ ((kvs ++ more).map (·.1)).Nodup)
  | [], kvs, n => by
    rw [List.append_nil]
    exact ⟨fun _ => n, fun _ => rfl⟩
  | p :: r, kvs, n => by
    have step : mergeK kvs (p :: r) = mergeK (putK kvs p.1 p.2) r := rfl
    rw [step]
    cases e : valV kvs p.1 with
    | none =>
      have ne : p.1 ∉ kvs.map (·.1) := fun z => by
        obtain ⟨q, hq, eq⟩ := List.mem_map.mp z
        unfold valV at e
        rw [Option.map_eq_none_iff, List.find?_eq_none] at e
        exact e q hq (decide_eq_true eq)
      rw [putK_new _ e]
      have n2 : ((kvs ++ [(p.1, p.2)]).map (·.1)).Nodup := by
        rw [List.map_append, List.nodup_append]
        refine ⟨n, by simp, fun a ha b hb ab => ?_⟩
        rw [ab, List.mem_singleton.mp hb] at ha
        exact ne ha
      have q := merge_len r (kvs ++ [(p.1, p.2)]) n2
      rw [List.append_assoc, List.length_append] at q
      have e1 : kvs.length + [(p.1, p.2)].length + r.length = kvs.length + (p :: r).length := by
        rw [List.length_cons, List.length_cons, List.length_nil]
        omega
      rw [e1] at q
      exact q
    | some v =>
      have hmem : p.1 ∈ kvs.map (·.1) := by
        unfold valV at e
        cases z : kvs.find? fun kv => decide (kv.1 = p.1) with
        | none =>
          rw [z] at e
          cases e
        | some q =>
          have : q.1 = p.1 := by simpa using List.find?_some z
          exact List.mem_map.mpr ⟨q, List.mem_of_find?_eq_some z, this⟩
      have lp : (putK kvs p.1 p.2).length = kvs.length := by
        unfold putK
        rw [valV_any, e, Option.isSome_some, if_pos rfl, List.length_map]
      constructor
      · intro h
        have := length_mergeK r (putK kvs p.1 p.2)
        rw [h, lp, List.length_cons] at this
        omega
      · intro h
        rw [List.map_append, List.nodup_append] at h
        exact absurd rfl (h.2.2 _ hmem p.1 (List.mem_map.mpr ⟨p, List.mem_cons_self, rfl⟩))
theorem merge_same {k : Key} {v : V} : ∀ (n : Nat), mergeK [(k, v)] (List.replicate n (k, v)) = [(k, v)]
  | 0 => rfl
  | n + 1 => by
    show mergeK (putK [(k, v)] k v) (List.replicate n (k, v)) = _
    have e : putK [(k, v)] k v = [(k, v)] := by
      unfold putK
      simp
    rw [e]
    exact merge_same n
theorem plain_sgn {c : Nat} (X Y : Int) : sgn (plainT c) X Y = c := by
  have hx : plX 1 0 1 X Y = 0 := by
    unfold plX
    exact Int.emod_one _
  have hy : plY 1 Y = 0 := by
    rw [plY_emod]
    exact Int.emod_one _
  show (([[c]] : List (List Nat)).getD (plY 1 Y).toNat []).getD (plX 1 0 1 X Y).toNat 0 = c
  rw [hx, hy]
  rfl
theorem plain_sm {c : Nat} (h : c ≤ 9) : (plainT c).Sm := ⟨plainT_ok h, (by show 1 ≤ 6; decide), (by show 1 ≤ 3; decide), 1, Nat.le_refl _, by decide, Nat.dvd_refl _, fun x y => by rw [plain_sgn, plain_sgn]⟩
theorem plain_fun {t : Tok} {c : Nat} : Fun t (plainT c) := fun a e e' ⟨X, Y, _, h2⟩ ⟨X', Y', _, h4⟩ => by
  rw [plain_sgn] at h2 h4
  rw [← h2, ← h4]
theorem due_plain {t : Tok} {c : Nat} {m : List (Nat × Nat)} (h : IsDue t (plainT c) m) : ∃ n, m.map Prod.snd = List.replicate (n + 1) c := by
  have all : ∀ e ∈ m.map Prod.snd, e = c := fun e he => by
    obtain ⟨p, hp, rfl⟩ := List.mem_map.mp he
    obtain ⟨X, Y, _, h2⟩ := (h.mem p.1 p.2).mp hp
    rw [← h2]
    exact plain_sgn X Y
  have ne : (sgn t 0 0, c) ∈ m := (h.mem _ _).mpr ⟨0, 0, rfl, plain_sgn 0 0⟩
  have e := List.eq_replicate_of_mem all
  have pos : 0 < (m.map Prod.snd).length := by
    rw [List.length_map]
    exact List.length_pos_of_mem ne
  exact ⟨(m.map Prod.snd).length - 1, by rw [show (m.map Prod.snd).length - 1 + 1 = (m.map Prod.snd).length by omega]; exact e⟩
theorem due34 : IsDue (plainT 3) (plainT 4) [(3, 4)] := by
  refine ⟨List.pairwise_singleton _ _, fun c e => ⟨fun h => ?_, fun ⟨X, Y, h1, h2⟩ => ?_⟩⟩
  · cases List.mem_singleton.mp h
    exact ⟨0, 0, plain_sgn 0 0, plain_sgn 0 0⟩
  · rw [plain_sgn] at h1 h2
    rw [← h1, ← h2]
    exact List.mem_singleton.mpr rfl
/-- what law and program hand back for a pair of carpets -/
def DV (t u : Tok) (v : V) (H : Hp) : Prop := (¬ Fun t u ∧ v = .non) ∨ ∃ m D, IsDue t u m ∧ v = .ref D ∧ IsMap m D H
theorem DV.ext {t u : Tok} {v : V} {H H' : Hp} (h : DV t u v H) (e : LamX.ExtN H H') : DV t u v H' := by
  rcases h with h | ⟨m, D, h1, h2, h3⟩
  · exact .inl h
  · exact .inr ⟨m, D, h1, h2, e _ _ h3 fun _ z => (nomatch z)⟩
/-- .. and a map stands apart from what was -/
def NewV (H : Hp) (v : V) : Prop := ∀ D, v = .ref D → H D = none
theorem go_due {t u : Tok} {H : Hp} {Q : VK} (k : ∀ v H', Same H H' → DV t u v H' → NewV H v → Q v H') : (¬ Fun t u → Ret H Q .non) ∧ ∀ m, IsDue t u m → RetN H Q (IsMap m) :=
  ⟨fun h H' e => k _ H' e (.inl ⟨h, rfl⟩) fun _ z => (nomatch z), fun m hm D H' nD e hD => k _ H' e (.inr ⟨m, D, hm, rfl, hD⟩) fun D' z => by cases z; exact nD⟩
theorem go_rec {t u : Tok} {H : Hp} {Q : VK} (ht : t.Sm) (hu : u.Sm) (k : ∀ v H', Same H H' → DV t u v H' → NewV H v → Q v H') : (recM t u = none → Ret H Q .non) ∧ ∀ m, recM t u = some m → RetN H Q (IsMap m) := by
  refine ⟨fun h H' e => k _ H' e (.inl ⟨fun f => ?_, rfl⟩) fun _ z => (nomatch z), fun m hm D H' nD e hD => k _ H' e (.inr ⟨m, D, ?_, rfl, hD⟩) fun D' z => by cases z; exact nD⟩
  · rw [(rec_fun ht hu f).1] at h
    cases h
  · rcases Classical.em (Fun t u) with f | f
    · have q := (rec_fun ht hu f).1.symm.trans hm
      rw [← Option.some.inj q]
      exact (rec_fun ht hu f).2
    · rw [rec_nofun ht hu f] at hm
      cases hm
theorem same_map {m : List (Nat × Nat)} (h : NodupF m) : ∀ p ∈ mapK m, valV (mapK m) p.1 = some p.2 ∧ flatB p.2 = true := fun p hp => by
  unfold mapK at hp
  obtain ⟨q, hq, rfl⟩ := List.mem_map.mp hp
  refine ⟨?_, rfl⟩
  show valV (mapK m) (.inl ((q.1 : Nat) : Int)) = _
  rw [look_val, mem_look h hq]
  rfl
theorem ne_dv {t u : Tok} {v v' : V} {H : Hp} {Q : VK} (h : DV t u v H) (h' : DV t u v' H) (k : Q (.bl false) H) : rNe v v' H Q ∨ rNeDA v v' H Q := by
  rcases h with ⟨f, rfl⟩ | ⟨m, D, hm, rfl, hD⟩
  · rcases h' with ⟨_, rfl⟩ | ⟨m', D', hm', _, _⟩
    · exact .inl ⟨rfl, k⟩
    · exact absurd hm'.fn f
  · rcases h' with ⟨f, rfl⟩ | ⟨m', D', hm', rfl, hD'⟩
    · exact absurd hm.fn f
    · rw [← hm.uniq hm'] at hD'
      exact .inr ⟨D, D', _, _, rfl, rfl, hD, hD', rfl, same_map (srt_nodup hm.srt), k⟩
theorem dp_ints {K : PySem.W.Frag} {H : Hp} : ∀ l : List Int, DpAll K H (l.map V.int) (l.map PyData.int)
  | [] => .nil
  | a :: r => .cons (.int a) (dp_ints r)
theorem sh_ints (l : List Int) : SeqAt.shaped (.list (l.map PyData.int)) = true := by
  have aux : PySem.PyData.canLayAll0 (l.map PyData.int) = true ∧ PySem.PyData.depthAll (l.map PyData.int) ≤ 0 := by
    induction l with
    | nil => exact ⟨rfl, Nat.le_refl _⟩
    | cons a r ih =>
      refine ⟨?_, ?_⟩
      · show (true && PySem.PyData.canLayAll0 (r.map PyData.int)) = true
        rw [ih.1]
        rfl
      · show max 0 (PySem.PyData.depthAll (r.map PyData.int)) ≤ 0
        have := ih.2
        omega
  unfold SeqAt.shaped
  rw [Bool.and_eq_true]
  refine ⟨aux.1, decide_eq_true ?_⟩
  show PySem.PyData.depthAll (l.map PyData.int) + 1 ≤ 64
  have := aux.2
  omega
theorem eqv_ints : ∀ l : List Int, PyData.eqvAll (l.map PyData.int) (l.map PyData.int) = true
  | [] => rfl
  | a :: r => by
    show (a == a && PyData.eqvAll (r.map PyData.int) (r.map PyData.int)) = true
    rw [eqv_ints r]
    simp
theorem keys_ints (m : List (Nat × Nat)) : (mapK m).map (fun kv => kV kv.1) = (m.map fun p => ((p.1 : Nat) : Int)).map V.int := by
  unfold mapK
  rw [List.map_map, List.map_map]
  rfl
end
section
open NdefX LamX
theorem sq_ext {K : PySem.W.Frag} {H H' : Hp} {a : Addr} {xs : List V} (h : SqL K H a xs) (e : ExtN H H') : SqL K H' a xs := by
  rcases h with (h | ⟨o, h⟩) | h
  · exact .inl (.inl (e _ _ h fun _ z => nomatch z))
  · exact .inl (.inr ⟨o, e _ _ h fun _ z => nomatch z⟩)
  · exact .inr h
abbrev rLenK : List V → Hp → VK → Prop := fun xs H Q => ∃ a kvs, xs = [V.ref a] ∧ H a = some (.dK kvs) ∧ Q (.int kvs.length) H
theorem call_lenK {X : Cx} : CallR X (.builtin "len") rLenK := by
  intro pins s σ H xs us Q I r h
  obtain ⟨a, kvs, rfl, e, q⟩ := h
  obtain ⟨u, rfl, rx⟩ := vals1 r
  cases rx
  exact d_len I (.inl e) fun t s' I' => ⟨.int _, H, I', ⟨_, rfl⟩, q⟩
abbrev rDictP (K : PySem.W.Frag) : List V → Hp → VK → Prop := fun xs H Q => ∃ (a : Addr) (ps : List Addr) (kvs : List (Key × V)), xs = [.ref a] ∧ SqL K H a (ps.map V.ref) ∧ Paired (fun p kv => SqT K H p [kV kv.1, kv.2]) ps kvs ∧ ∀ p, H p = none → Q (.ref p) (upd H p (.dK (mergeK [] kvs)))
section
variable {K : PySem.W.Frag} {σ : L2.St} {H : Hp} {t u : Tok} {d b r : V}
theorem test_keys {Q' : Bool → Hp → Prop} (h9 : σ[9]? = some (some r)) (h7 : σ[7]? = some (some d)) (hr : DV t u r H) (hd : DV t u d H) (k : ∀ H', Same H H' → Q' false H') :
    tAnd (tB (tNotN (tVar 9))) (tTest (tOp (rNeD K) (tCB rListD (tCons (tVar 9) tNil)) (tCB rListD (tCons (tVar 7) tNil)))) σ H Q' := by
  rcases hr with ⟨f, rfl⟩ | ⟨m, D, hm, rfl, hD⟩
  · exact ⟨_, h9, _, rfl, iteF (k H (Same.refl H))⟩
  · rcases hd with ⟨f, rfl⟩ | ⟨m', D', hm', rfl, hD'⟩
    · exact absurd hm.fn f
    · rw [← hm.uniq hm'] at hD'
      refine ⟨_, h9, _, rfl, iteT ⟨_, h9, D, _, rfl, hD, fun L1 n1 => ?_⟩⟩
      have e1 := Same.upd (o := .lst ((mapK m).map fun kv => kV kv.1)) n1
      refine ⟨_, h7, D', _, rfl, e1 _ _ hD', fun L2 n2 => ?_⟩
      have e2 := Same.upd (o := .lst ((mapK m).map fun kv => kV kv.1)) n2
      refine ⟨.list ((m.map fun p => ((p.1 : Nat) : Int)).map PyData.int), .list ((m.map fun p => ((p.1 : Nat) : Int)).map PyData.int), .lst (SqL.of (e2 _ _ upd_same)) ?_, .lst (SqL.of upd_same) ?_, sh_ints _, sh_ints _, _, rfl, ?_⟩
      · rw [keys_ints]
        exact dp_ints _
      · rw [keys_ints]
        exact dp_ints _
      · have e : PyData.eqv (.list ((m.map fun p => ((p.1 : Nat) : Int)).map PyData.int)) (.list ((m.map fun p => ((p.1 : Nat) : Int)).map PyData.int)) = true := eqv_ints _
        rw [e]
        exact k _ (e1.trans e2)
theorem test_led {Q' : Bool → Hp → Prop} {c1 c2 : Addr} (h9 : σ[9]? = some (some r)) (h5 : σ[5]? = some (some (.ref c1))) (h6 : σ[6]? = some (some (.ref c2))) (hr : DV t u r H) (hc1 : IsCar K t c1 H) (hc2 : IsCar K u c2 H) (ht : t.Ok) (hu : u.Ok) (hT : Tabs (TT K) H)
    (k : ∀ H', ExtN H H' → Tabs (TT K) H' → Q' false H') :
    tAnd (tB (tNotN (tVar 9))) (tTest (tOp (rEqC K not) (tCall (sp_recoloured K) [] E0 (tCons (tVar 5) (tCons (tVar 9) tNil))) (tVar 6))) σ H Q' := by
  rcases hr with ⟨f, rfl⟩ | ⟨m, D, hm, rfl, hD⟩
  · exact ⟨_, h9, _, rfl, iteF (k H (ExtN.refl H) hT)⟩
  · refine ⟨_, h9, _, rfl, iteT ⟨_, h5, _, h9, c1, D, t, m, rfl, hc1, ht, hD, map9_of ht hu hm, srt_nodup hm.srt, len10_of ht hu hm, hT, fun q H1 e1 T1 hq => ?_⟩⟩
    have ok : (wovT t (ledC m t)).Ok := wovT_ok ht fun x y _ _ => led9 (map9_of ht hu hm) (sgn9 ht _ _)
    refine ⟨_, h6, q, c2, _, u, rfl, rfl, hq, hc2.ext e1, shpT_ok ok, hu, fun H2 e2 => ⟨_, rfl, ?_⟩⟩
    rw [led_eq ht hu hm]
    exact k H2 (e1.trans (ExtN.of e2)) (T1.ext e2)
theorem test_alike {Q' : Bool → Hp → Prop} {c1 c2 : Addr} (h7 : σ[7]? = some (some d)) (h5 : σ[5]? = some (some (.ref c1))) (h6 : σ[6]? = some (some (.ref c2))) (hd : DV t u d H) (hc1 : IsCar K t c1 H) (hc2 : IsCar K u c2 H) (ht : t.Ok) (hu : u.Ok)
    (k : ∀ H', Same H H' → Q' false H') : tAnd (tB (tIsN (tVar 7))) (tTest (tOp (rEqC K id) (tVar 5) (tVar 6))) σ H Q' := by
  rcases hd with ⟨f, rfl⟩ | ⟨m, D, hm, rfl, hD⟩
  · refine ⟨_, h7, _, rfl, iteT ⟨_, h5, _, h6, c1, c2, t, u, rfl, rfl, hc1, hc2, ht, hu, fun H1 e1 => ⟨_, rfl, ?_⟩⟩⟩
    have e : eqC t u = false := by
      cases z : eqC t u with
      | false => rfl
      | true => exact absurd (alike_fun (eq_alike z ht hu)) f
    rw [e]
    exact k H1 e1
  · exact ⟨_, h7, _, rfl, iteF (k H (Same.refl H))⟩
theorem test_back {Q' : Bool → Hp → Prop} {y0 y1 y2 y3 y4 y5 y6 y9 y10 y11 : Option V} (hd : DV t u d H) (hb : DV u t b H) (ht : t.Ok) (hu : u.Ok) (k : ∀ H', Same H H' → Q' false H') :
    tAnd (tB (tNotN (tVar 7))) (tTest (tOp rNe (tNotN (tVar 8)) (tOp rEq (tCB rLenK (tCons (tCB (rDictP K) (tCons (tLockE (tLc (iKeys (tVar 7)) (gName 10) tYes (tTup (tCons (tDGet (tVar 7) (tVar 10)) (tCons (tC (.int 1)) tNil))) [10])) tNil)) tNil)) (tCB rLenK (tCons (tVar 7) tNil))))) [y0, y1, y2, y3, y4, y5, y6, some d, some b, y9, y10, y11] H Q' := by
  rcases hd with ⟨f, rfl⟩ | ⟨m, D, hm, rfl, hD⟩
  · exact ⟨_, rfl, _, rfl, iteF (k H (Same.refl H))⟩
  · have nd := srt_nodup hm.srt
    have l10 := len10_of ht hu hm
    have lenK : (mapK m).length = m.length := List.length_map _
    refine ⟨_, rfl, _, rfl, iteT ⟨_, rfl, D, _, hD, True.intro, fun od => ⟨_, rfl, D, od, rfl, .inl ⟨_, upd_same, ?_⟩⟩⟩⟩
    refine lcW (j := 10) (walk_keys (d := D) (o := od) (kvs := mapK m)) (Stab.tup fun i => [.int (((m.getD i (0, 0)).2 : Nat) : Int), .int 1]) (by omega) (fun H' e => e _ _ upd_same) ?_ (fun i x H5 H6 hi e y => ?_) fun D2 acc2 H5 e5 nD2 hD2 hl2 g2 => ?_
    · intro x
      rfl
    · obtain ⟨rfl, kk, v, hk, rfl⟩ := y
      have hi' : i < m.length := by omega
      have hk' : (mapK m)[i]? = some (.inl (((m.getD i (0, 0)).1 : Nat) : Int), .int (((m.getD i (0, 0)).2 : Nat) : Int)) := by
        unfold mapK
        rw [List.getElem?_map, getD_at (d := (0, 0)) hi']
        rfl
      have ek : kk = .inl (((m.getD i (0, 0)).1 : Nat) : Int) := congrArg Prod.fst (Option.some.inj (hk.symm.trans hk'))
      subst ek
      have hl := mem_look nd (c := (m.getD i (0, 0)).1) (e := (m.getD i (0, 0)).2) (List.mem_of_getElem? (getD_at (d := (0, 0)) hi'))
      have hv : valV (mapK m) (.inl (((m.getD i (0, 0)).1 : Nat) : Int)) = some (.int (((m.getD i (0, 0)).2 : Nat) : Int)) := by
        rw [look_val, hl]
        rfl
      have hg : DGet H6 D (kV (.inl (((m.getD i (0, 0)).1 : Nat) : Int))) (some (.int (((m.getD i (0, 0)).2 : Nat) : Int))) := .inl ⟨_, _, .inr ⟨od, e _ _ upd_same⟩, rfl, hv.symm⟩
      exact ⟨rfl, fun Q2 z => ⟨_, rfl, _, rfl, D, _, rfl, hg, by show 2 ≤ sizeLine; decide, fun n nn => z _ _ (Same.upd nn) ⟨n, rfl, upd_same⟩⟩⟩
    · obtain ⟨ps, eps, lps, gps⟩ := good_refs g2 hl2
      have nDD : D2 ≠ D := fun z => by
        rw [z, upd_same] at nD2
        cases nD2
      refine ⟨e5 _ _ upd_same, ?_⟩
      have s5 : Same H (upd H5 D (.dK (mapK m))) := fun c o hc => by
        by_cases ec : c = D
        · rw [ec] at hc ⊢
          rw [upd_same, ← hc]
          exact hD.symm
        · rw [upd_ne ec]
          exact e5 _ _ ((upd_ne ec).trans hc)
      have hD6 : upd H5 D (.dK (mapK m)) D = some (.dK (mapK m)) := upd_same
      have hL6 : upd H5 D (.dK (mapK m)) D2 = some (.lst (ps.map V.ref)) := by rw [upd_ne nDD, hD2, eps]
      have hP6 : ∀ i p, ps[i]? = some p → upd H5 D (.dK (mapK m)) p = some (.tup [.int (((m.getD i (0, 0)).2 : Nat) : Int), .int 1]) := fun i p hp => by
        have q := gps i p hp
        have np : p ≠ D := fun z => by
          rw [z, e5 _ _ upd_same] at q
          cases q
        rw [upd_ne np]
        exact q
      generalize upd H5 D (.dK (mapK m)) = H6 at s5 hD6 hL6 hP6
      have lkv : (m.map fun p => ((.inl ((p.2 : Nat) : Int) : Key), V.int 1)).length = m.length := List.length_map _
      refine ⟨D2, ps, m.map fun p => ((.inl ((p.2 : Nat) : Int) : Key), V.int 1), rfl, SqL.of hL6, paired_of (by omega) fun i a kv ha hkv => ?_, fun R nR => ?_⟩
      · have hi : i < m.length := by
          have := (List.getElem?_eq_some_iff.mp ha).1
          omega
        rw [List.getElem?_map, getD_at (d := (0, 0)) hi] at hkv
        have ekv := (Option.some.inj hkv).symm
        rw [ekv]
        exact SqT.of (hP6 i a ha)
      · have eR : Same H6 (upd H6 R (.dK (mergeK [] (m.map fun p => ((.inl ((p.2 : Nat) : Int) : Key), V.int 1))))) := Same.upd nR
        refine ⟨R, _, rfl, upd_same, _, rfl, D, _, rfl, eR _ _ hD6, rfl, rfl, _, rfl, ?_⟩
        have q := merge_len (m.map fun p => ((.inl ((p.2 : Nat) : Int) : Key), V.int 1)) [] List.nodup_nil
        have nq : ((([] : List (Key × V)) ++ m.map fun p => ((.inl ((p.2 : Nat) : Int) : Key), V.int 1)).map (·.1)).Nodup ↔ (m.map Prod.snd).Nodup := by
          rw [List.nil_append, List.map_map]
          unfold List.Nodup
          rw [List.pairwise_map, List.pairwise_map]
          constructor
          · exact fun h => h.imp fun {a b} n z => n (show (Sum.inl ((a.2 : Nat) : Int) : Key) = Sum.inl ((b.2 : Nat) : Int) by rw [z])
          · exact fun h => h.imp fun {a b} n z => n (Int.ofNat.inj (Sum.inl.inj z))
        rw [nq, snd_fun hm, List.length_nil, Nat.zero_add, lkv] at q
        have bb : (!decide (b = V.non)) = decide (V.int ((mergeK [] (m.map fun p => ((.inl ((p.2 : Nat) : Int) : Key), V.int 1))).length : Nat) = V.int ((mapK m).length : Nat)) := by
          rcases hb with ⟨f, rfl⟩ | ⟨m', D', hm', rfl, _⟩
          · rw [decide_eq_true rfl, Bool.not_true]
            refine (decide_eq_false fun z => f (q.mp ?_)).symm
            have := Int.ofNat.inj (V.int.inj z)
            omega
          · have e1 : (mergeK [] (m.map fun p => ((.inl ((p.2 : Nat) : Int) : Key), V.int 1))).length = (mapK m).length := (q.mpr hm'.fn).trans lenK.symm
            rw [e1, decide_eq_true rfl]
            rfl
        have fin : (!decide (V.bl (!decide (b = V.non)) = V.bl (decide (V.int ((mergeK [] (m.map fun p => ((.inl ((p.2 : Nat) : Int) : Key), V.int 1))).length : Nat) = V.int ((mapK m).length : Nat))))) = false := by
          rw [bb, decide_eq_true rfl]
          rfl
        have out := k _ (s5.trans eR)
        rw [← fin] at out
        exact out
end
end
section
open NdefX LamX
theorem IsTk.ext {t : Tok} {p : Addr} {H H' : Hp} (h : IsTk t p H) (e : ExtN H H') : IsTk t p H' := by
  obtain ⟨r, h1, h2⟩ := h.ex
  exact ⟨r, e _ _ h1 fun _ z => (nomatch z), e _ _ h2 fun _ z => (nomatch z)⟩
section
variable {P : Program} {w : World} {K : PySem.W.Frag} {mg : Str → Option Value} {base : Heap}
def sp_law (K : PySem.W.Frag) : Sp := fun vs H Q _ => ∃ (a : Addr) (ns : List Int), vs = [.ref a] ∧ SqL K H a (ns.map V.int) ∧ Tabs (TT K) H ∧ ∀ H', Q (.bl true) H'
theorem ok_law (T : Txt K mg base) {fd : FuncData} (F : FunD K "law" "law" (defArgs s_law) (defBody s_law) (defScope s_law) [] [] (He.ga K "law") fd) : FnOk P w K mg base CX0 13 (He.ga K "law") fd ["_law_script"] (sp_law K) := by
  refine fnok F sc_law (fun vs H Q E h => ?_) fun cdv A outer s H vs Q E hr h => ?_
  · obtain ⟨a, ns, rfl, _⟩ := h
    rfl
  obtain ⟨a, ns, rfl, ha, hT, k⟩ := h
  have hS := sc_law.nd
  have hu1 : ∀ {A' : Around}, Room 12 A' → A'.units + 1 < cLine := fun r => by have := r.units; omega
  have hr2 : Room 2 (A.deeper (envOfC "law" (defScope s_law) s.heap.objs.size (He.ga K "law") cdv)) := hr.mono (by decide)
  refine ⟨_, pss_cons (ps_for PassesOwn.never rfl (pi_list (pe_cd (ok_rounds T) hr (by decide) (by rfl) (pa_cons (pv 0) pa_nil))) (pg_name (i := 1) hS rfl (.inl rfl))
      (pss_cons (ps_set (i := 2) hS rfl (.inl rfl) (pe_cd (ok_pool T) hr (by decide) (by rfl) (pa_cons (pv 0) (pa_cons (pv 1) pa_nil))))
      (pss_cons (ps_set (i := 3) hS rfl (.inl rfl) (pe_cd (ok_token T) hr (by decide) (by rfl) (pa_cons (pv 2) pa_nil)))
      (pss_cons (ps_set (i := 4) hS rfl (.inl rfl) (pe_cd (ok_second T) hr (by decide) (by rfl) (pa_cons (pv 2) (pa_cons (pv 3) pa_nil))))
      (pss_cons (ps_par (i := 5) (j := 6) (by rfl) hS rfl rfl (by decide) rfl rfl (pa_cons (pe_cd (ok_made T) hr (by decide) (by rfl) (pa_cons (pv 3) pa_nil)) (pa_cons (pe_cd (ok_made T) hr (by decide) (by rfl) (pa_cons (pv 4) pa_nil)) pa_nil)) (by rfl))
      (pss_cons (ps_asg (pe_tup (pa_cons (pe_cd (ok_due T) hr (by decide) (by rfl) (pa_cons (pv 3) (pa_cons (pv 4) pa_nil))) (pa_cons (pe_cd (ok_due T) hr (by decide) (by rfl) (pa_cons (pv 4) (pa_cons (pv 3) pa_nil))) pa_nil)))
          (pg_tup rfl (pgs_cons (pg_name (i := 7) hS rfl (.inr rfl)) (pgs_cons (pg_name (i := 8) hS rfl (.inl rfl)) pgs_nil))))
      (pss_cons (ps_set (i := 9) hS rfl (.inl rfl) (pe_cd (ok_rec T) hr (by decide) (by rfl) (pa_cons (pv 5) (pa_cons (pv 6) pa_nil))))
      (pss_cons (ps_if (PW.pt (pw_or (pt_cmpR (OpR.or op_ne (op_ne_dictA hr.units0)) (pv 9) (pv 7) (nomark _)) (pw_or1 (PW.pt (pw_and (pt_cmp (pc_notN (pv 9))) (pw_and1 (pt_cmpR (op_neD hr.units) (pe_callTy (call_list_dK rfl) (by rfl) T.f_list (by decide +kernel) (pa_cons (pv 9) pa_nil))
          (pe_callTy (call_list_dK rfl) (by rfl) T.f_list (by decide +kernel) (pa_cons (pv 7) pa_nil)) (nomark _)))))))) (pss_one (ps_ret pe_bl)) pss_nil)
      (pss_cons (ps_if (PW.pt (pw_and (pt_cmp (pc_notN (pv 9))) (pw_and1 (pt_cmpR (op_neC T hr2) (pe_cd (ok_recoloured T) hr (by decide) (by rfl) (pa_cons (pv 5) (pa_cons (pv 9) pa_nil))) (pv 6) (nomark _))))) (pss_one (ps_ret pe_bl)) pss_nil)
      (pss_cons (ps_if (pt_cmpR (OpR.or op_ne (op_ne_dictA hr.units0)) (pe_cd (ok_rec T) hr (by decide) (by rfl) (pa_cons (pv 6) (pa_cons (pv 5) pa_nil))) (pv 8) (nomark _)) (pss_one (ps_ret pe_bl)) pss_nil)
      (pss_cons (ps_if (PW.pt (pw_and (pt_cmp (pc_notN (pv 7))) (pw_and1 (pt_cmpR op_ne (pe_cmp (pc_notN (pv 8))) (pe_cmpR op_eq (pe_callB call_lenK (by rfl) T.f_len (by decide +kernel) (pa_cons (pe_callTy (call_dictP rfl) (by rfl) T.f_dict (by decide +kernel)
          (pa_cons (pe_lock (pe_lc (own := [("_law_key_here", 10)]) (g := gName 10) (tt := tYes) rfl hS (pi_keys (pv 7))
            (blkOk_by (own := [("_law_key_here", 10)]) (N := ["_law_script", "_law_k", "_law_source", "_law_one_here", "_law_other", "_law_first", "_law_second_here", "_law_due_here", "_law_back", "_law_rule", "_law_key_here", "_law_one_to"]) (sc := defScope s_law) (by decide +kernel))
            (fun _ _ _ _ _ => pg_name (i := 10) hS rfl (Or.inl rfl)) (fun _ _ _ _ _ => pts_nil) (fun _ _ _ _ _ => pe_tup (pa_cons (pe_dget (hu1 hr) (pv 7) (pv 10) (fun _ _ => rfl)) (pa_cons pe_int pa_nil))))) pa_nil)) pa_nil))
          (pe_callB call_lenK (by rfl) T.f_len (by decide +kernel) (pa_cons (pv 7) pa_nil)) (nomark _)) (nomark _))))) (pss_one (ps_ret pe_bl)) pss_nil)
      (pss_cons (ps_if (PW.pt (pw_or (PW.pt (pw_and (pt_cmp (pc_isN (pv 7))) (pw_and1 (pt_cmpR (op_eqC T hr2) (pv 5) (pv 6) (nomark _))))) (pw_or1 (pt_cmpR (OpR.or op_ne (op_ne_dictA hr.units0)) (pe_cd (ok_rec T) hr (by decide) (by rfl) (pa_cons (pv 5) (pa_cons (pv 5) pa_nil)))
          (pe_cd (ok_due T) hr (by decide) (by rfl) (pa_cons (pv 3) (pa_cons (pv 3) pa_nil))) (nomark _))))) (pss_one (ps_ret pe_bl)) pss_nil)
      (pss_one (ps_if (pt_cmpR (op_neD hr.units) (pe_callTy (call_list_dK rfl) (by rfl) T.f_list (by decide +kernel) (pa_cons (pe_callTy (call_dictP rfl) (by rfl) T.f_dict (by decide +kernel) (pa_cons
          (pe_lc (own := [("_law_one_to", 11)]) (g := gName 11) (tt := tYes) rfl hS (pi_values (pe_frz (pe_cd (ok_rec T) hr (by decide) (by rfl) (pa_cons (pv 5) (pa_cons (pe_cd (ok_plain T) hr (by decide) (by rfl) (pa_cons pe_int pa_nil)) pa_nil)))))
            (blkOk_by (own := [("_law_one_to", 11)]) (N := ["_law_script", "_law_k", "_law_source", "_law_one_here", "_law_other", "_law_first", "_law_second_here", "_law_due_here", "_law_back", "_law_rule", "_law_key_here", "_law_one_to"]) (sc := defScope s_law) (by decide +kernel))
            (fun _ _ _ _ _ => pg_name (i := 11) hS rfl (Or.inl rfl)) (fun _ _ _ _ _ => pts_nil) (fun _ _ _ _ _ => pe_tup (pa_cons (pv 11) (pa_cons pe_int pa_nil)))) pa_nil)) pa_nil))
          (pe_lst (pa_cons pe_int pa_nil)) (nomark _)) (pss_one (ps_ret pe_bl)) pss_nil))))))))))))))
    (pss_one (ps_ret (pe_cmpR (op_eq_dictA hr.units0) (pe_cd (ok_rec T) hr (by decide) (by rfl) (pa_cons (pe_cd (ok_plain T) hr (by decide) (by rfl) (pa_cons pe_int pa_nil)) (pa_cons (pe_cd (ok_plain T) hr (by decide) (by rfl) (pa_cons pe_int pa_nil)) pa_nil)))
      (pe_disp (pps_cons pe_int pe_int pps_nil) rfl rfl (by simp) (by show 1 ≤ 15; decide)) (nomark _)))), ?_⟩
  refine ⟨_, rfl, a, _, rfl, ha, fun n n1 n3 => fun L H0 nL e0 hL => ?_⟩
  have T0 : Tabs (TT K) H0 := hT.ext e0
  have lenR : (rgV 0 n).length = n := by
    rw [rgV_length]
    omega
  refine ⟨L, rfl, ⟨_, SqL.of hL⟩, for_list (K := K) (a := L) (xs := rgV 0 n) (fun i σ H' => (∃ y1 y2 y3 y4 y5 y6 y7 y8 y9 y10 y11, σ = [some (.ref a), y1, y2, y3, y4, y5, y6, y7, y8, y9, y10, y11]) ∧ ExtN H0 H' ∧ Tabs (TT K) H')
    ⟨⟨none, none, none, none, none, none, none, none, none, none, none, rfl⟩, ExtN.refl _, T0⟩ (fun i σ H' _ ⟨_, e, _⟩ => SqL.of (e _ _ hL fun _ z => nomatch z)) ?_ ?_⟩
  · rintro i v σ H1 hi ⟨⟨y1, y2, y3, y4, y5, y6, y7, y8, y9, y10, y11, rfl⟩, eN, T1⟩
    have hin : i < n := by
      have := (List.getElem?_eq_some_iff.mp hi).1
      omega
    have ev : v = .int ((i : Nat) : Int) := by
      have e : (rgV 0 n)[i]? = some (.int ((i : Nat) : Int)) := by
        unfold rgV
        rw [List.getElem?_map, List.getElem?_range (by omega)]
        show some (V.int (0 + (i : Nat))) = _
        rw [Int.zero_add]
      exact Option.some.inj (hi.symm.trans e)
    subst ev
    have ha1 : SqL K H1 a (ns.map V.int) := sq_ext ha ((ExtN.of e0).trans eN)
    refine ⟨_, rfl, _, rfl, a, ns, i, rfl, ha1, by omega, fun S H2 nS e2 hs2 => ?_⟩
    refine ⟨_, rfl, S, rfl, hs2, fun v H3 sb3 hs3 ⟨t, p, ev, hp, ht⟩ => ?_⟩
    subst ev
    refine ⟨_, rfl, _, rfl, S, p, t, rfl, hs3, hp, ht, fun v H4 sb4 hs4 ⟨u, q, ev, hq, hu⟩ => ?_⟩
    subst ev
    have hp4 := hp.sb hs3 sb4
    have s14 : Same H1 H4 := fun c o hc => (sb3.trans sb4) c o (e2 c o hc) (ne_of_none hc nS)
    have htm := ht.sm
    have hto := htm.ok
    have huo := hu.ok
    have htl := sm_l3 htm
    have hul := sm_l3 hu
    refine ⟨_, rfl, p, t, rfl, hp4, hto, fun c1 H5 e5 hc1 => ⟨_, rfl, q, u, rfl, hq.mono e5, huo, fun c2 H6 e6 hc2 => ⟨_, _, rfl, ?_⟩⟩⟩
    have hp6 := hp4.mono (e5.trans e6)
    have hq6 := hq.mono (e5.trans e6)
    refine ⟨_, rfl, _, rfl, p, q, t, u, rfl, hp6, hq6, htm, hu, go_due fun d H7 e7 hd nd => ⟨_, rfl, _, rfl, q, p, u, t, rfl, hq6.mono e7, hp6.mono e7, hu, htm, go_due fun b H8 e8 hb nb => ⟨by show 2 ≤ sizeLine; decide, fun tt ntt => ⟨tt, _, rfl, SqT.of upd_same, rfl, _, _, rfl, _, _, rfl, rfl, ?_⟩⟩⟩⟩
    have e9 := Same.upd (o := .tup [d, b]) ntt
    have hp9 := hp6.mono (e7.trans (e8.trans e9))
    have hq9 := hq6.mono (e7.trans (e8.trans e9))
    have hc19 := hc1.mono (e6.trans (e7.trans (e8.trans e9)))
    have hc29 := hc2.mono (e7.trans (e8.trans e9))
    have hd9 := hd.ext (ExtN.of (e8.trans e9))
    have hb9 := hb.ext (ExtN.of e9)
    have s19 := s14.trans (e5.trans (e6.trans (e7.trans (e8.trans e9))))
    generalize upd H8 tt (.tup [d, b]) = H9 at e9 hp9 hq9 hc19 hc29 hd9 hb9 s19
    refine ⟨_, rfl, _, rfl, c1, c2, t, u, rfl, hc19, hc29, hto, huo, htl, hul, go_rec htm hu fun r H10 e10 hr nr => ?_⟩
    have hp10 := hp9.mono e10
    have hq10 := hq9.mono e10
    have hc110 := hc19.mono e10
    have hc210 := hc29.mono e10
    have hd10 := hd9.ext (ExtN.of e10)
    have hb10 := hb9.ext (ExtN.of e10)
    have s110 := s19.trans e10
    -- the map is the one that is due
    have T10 : Tabs (TT K) H10 := T1.ext s110
    refine ⟨_, rfl, _, rfl, ne_dv hr hd10 ⟨_, rfl, iteF (test_keys rfl rfl hr hd10 fun H11 e11 => iteF ?_)⟩⟩
    refine test_led rfl rfl rfl (hr.ext (ExtN.of e11)) (hc110.mono e11) (hc210.mono e11) hto huo (T10.ext e11) fun H12 e12 T12 => iteF ?_
    have x12 := (ExtN.of e11).trans e12
    have x112 := (ExtN.of s110).trans x12
    have hc112 := hc110.ext x12
    have hc212 := hc210.ext x12
    have hd12 := hd10.ext x12
    have hb12 := hb10.ext x12
    have hp12 := hp10.ext x12
    refine ⟨_, rfl, _, rfl, c2, c1, u, t, rfl, hc212, hc112, huo, hto, hul, htl, go_rec hu htm fun r2 H13 e13 hr2 nr2 => ⟨_, rfl, ne_dv hr2 (hb12.ext (ExtN.of e13)) ⟨_, rfl, iteF ?_⟩⟩⟩
    refine test_back (hd12.ext (ExtN.of e13)) (hb12.ext (ExtN.of e13)) hto huo fun H14 e14 => iteF ?_
    have s14b := e13.trans e14
    refine test_alike rfl rfl rfl (hd12.ext (ExtN.of s14b)) (hc112.mono s14b) (hc212.mono s14b) hto huo fun H15 e15 => iteF ?_
    have s15 := s14b.trans e15
    refine ⟨_, rfl, _, rfl, c1, c1, t, t, rfl, hc112.mono s15, hc112.mono s15, hto, hto, htl, htl, go_rec htm htm fun r3 H16 e16 hr3 _ => ⟨_, rfl, _, rfl, p, p, t, t, rfl, hp12.mono (s15.trans e16), hp12.mono (s15.trans e16), htm, htm, go_due fun d3 H17 e17 hd3 _ => ne_dv (hr3.ext (ExtN.of e17)) hd3 ⟨_, rfl, iteF ?_⟩⟩⟩
    have s17 := s15.trans (e16.trans e17)
    refine ⟨_, rfl, 7, rfl, by decide, fun p7 H18 e18 hp7 => ⟨c1, p7, t, plainT 7, rfl, hc112.mono (s17.trans e18), hp7, hto, plainT_ok (by decide), htl, sm_l3 (plain_sm (by decide)), go_rec htm (plain_sm (by decide)) fun v H19 e19 hv nv => ?_⟩⟩
    have s19b := s17.trans (e18.trans e19)
    rcases hv with ⟨f, _⟩ | ⟨m, D, hm, rfl, hD⟩
    · exact absurd plain_fun f
    obtain ⟨nn, hnn⟩ := due_plain hm
    have lenM : m.length = nn + 1 := by
      have := congrArg List.length hnn
      rwa [List.length_map, List.length_replicate] at this
    have l10 := len10_of hto (plainT_ok (by decide)) hm
    have lenK : (mapK m).length = m.length := List.length_map _
    refine ⟨D, _, rfl, hD, True.intro, fun od => ⟨D, od, _, rfl, upd_same, ?_⟩⟩
    have nD18 : H18 D = none := nv D rfl
    have s20 : Same H12 (upd H19 D (.frz od (.dK (mapK m)))) := Same.mut s19b (Same.none (s17.trans e18) nD18)
    refine lcW (j := 11) (walk_values (d := D) (o := od) (kvs := mapK m)) (Stab.tup fun _ => [.int 7, .int 1]) (by omega) (fun H' e => e _ _ upd_same) (by intro x; rfl) (fun j x H20 H21 hj e y => ?_) fun D2 acc2 H20 e20 nD2 hD2 hl2 g2 => ?_
    · obtain ⟨rfl, kk, hk⟩ := y
      have hj' : j < m.length := by omega
      have hk' : (mapK m)[j]? = some (.inl (((m.getD j (0, 0)).1 : Nat) : Int), .int (((m.getD j (0, 0)).2 : Nat) : Int)) := by
        unfold mapK
        rw [List.getElem?_map, getD_at (d := (0, 0)) hj']
        rfl
      have ex : x = .int (((m.getD j (0, 0)).2 : Nat) : Int) := congrArg Prod.snd (Option.some.inj (hk.symm.trans hk'))
      have e7 : (m.getD j (0, 0)).2 = 7 := by
        have : (m.getD j (0, 0)).2 ∈ m.map Prod.snd := List.mem_map.mpr ⟨_, List.mem_of_getElem? (getD_at (d := (0, 0)) hj'), rfl⟩
        rw [hnn] at this
        exact List.eq_of_mem_replicate this
      rw [e7] at ex
      subst ex
      exact ⟨rfl, fun Q' z => ⟨_, rfl, by show 2 ≤ sizeLine; decide, fun q nq => z _ _ (Same.upd nq) ⟨q, rfl, upd_same⟩⟩⟩
    · obtain ⟨ps, eps, lps, gps⟩ := good_refs g2 hl2
      refine ⟨D2, ps, List.replicate (nn + 1) ((.inl 7 : Key), V.int 1), rfl, SqL.of (by rw [hD2, eps]), paired_of (by rw [List.length_replicate]; omega) fun j q kv hq hkv => ?_, fun R nR => ?_⟩
      · have ekv := List.eq_of_mem_replicate (List.mem_of_getElem? hkv)
        rw [ekv]
        exact SqT.of (gps j q hq)
      · have em : mergeK [] (List.replicate (nn + 1) ((.inl 7 : Key), V.int 1)) = [((.inl 7 : Key), V.int 1)] := merge_same nn
        rw [em]
        have eR : Same H20 (upd H20 R (.dK [((.inl 7 : Key), V.int 1)])) := Same.upd nR
        refine ⟨R, _, rfl, upd_same, fun L1 nL1 => ⟨by show 1 ≤ sizeLine; decide, fun L2 nL2 => ?_⟩⟩
        have eL1 := Same.upd (o := .lst [V.int 7]) nL1
        have eL2 := Same.upd (o := .lst [V.int 7]) nL2
        refine ⟨.list [.int 7], .list [.int 7], .lst (SqL.of (xs := [.int 7]) (eL2 _ _ upd_same)) (.cons (.int 7) .nil), .lst (SqL.of (xs := [.int 7]) upd_same) (.cons (.int 7) .nil), rfl, rfl, _, rfl, iteF ?_⟩
        have sEnd := s20.trans (e20.trans (eR.trans (eL1.trans eL2)))
        exact ⟨⟨_, _, _, _, _, _, _, _, _, _, _, rfl⟩, eN.trans (x112.trans (ExtN.of sEnd)), T12.ext sEnd⟩
  · rintro σ H1 ⟨⟨y1, y2, y3, y4, y5, y6, y7, y8, y9, y10, y11, rfl⟩, eN, T1⟩
    refine ⟨3, rfl, by decide, fun p3 H2 e2 h3 => ⟨4, rfl, by decide, fun p4 H3 e3 h4 => ?_⟩⟩
    refine ⟨p3, p4, plainT 3, plainT 4, rfl, h3.mono e3, h4, plainT_ok (by decide), plainT_ok (by decide), sm_l3 (plain_sm (by decide)), sm_l3 (plain_sm (by decide)), go_rec (plain_sm (by decide)) (plain_sm (by decide)) fun v H4 e4 hv nv => ?_⟩
    rcases hv with ⟨f, _⟩ | ⟨m, D, hm, rfl, hD⟩
    · exact absurd plain_fun f
    · rw [hm.uniq due34] at hD
      refine fun q nq => ⟨upd_same, [(.inl 3, .int 4)], rfl, by show 1 ≤ 15; decide, D, q, _, _, rfl, rfl, ?_, upd_same, rfl, ?_, k _⟩
      · rw [upd_upd, upd_ne (ne_of_none hD nq)]
        exact hD
      · intro p hp
        cases List.mem_singleton.mp hp
        exact ⟨rfl, rfl⟩
end
end
section
open NdefX LamX
theorem fnL_plain : (fnL.all fun d => d.dfl.isEmpty && d.kwd.isEmpty) = true := rfl
theorem txt_of {K : PySem.W.Frag} {mg : Str → Option Value} {base h : Heap} {w : World} (X : K.In h) (G : h.Ns mainGlobals mg) (c : He.SaysX faL fnL [] tfL exB w h K) (TB : ∀ p ∈ tfL.map (He.cT K), LamX.TabB base mg p.1 p.2) : Txt K mg base := by
  have more := c.more
  unfold exB at more
  rw [Bool.and_eq_true] at more
  obtain ⟨own, apart⟩ := more
  have a7 : ∀ {f : He.Fa}, f ∈ gloL.map He.Fa.glo ++ freL.map He.Fa.free ++ clsL.map He.Fa.cls ++ naL.map (fun p => He.Fa.noat p.1 p.2) ++ meL.map (fun p => He.Fa.meth p.1 p.2) ++ clsL.map He.Fa.mkr ++ intL.map (fun p => He.Fa.int p.1 p.2) → f ∈ faL := fun {f} z => List.mem_append_left _ z
  have a6 : ∀ {f : He.Fa}, f ∈ gloL.map He.Fa.glo ++ freL.map He.Fa.free ++ clsL.map He.Fa.cls ++ naL.map (fun p => He.Fa.noat p.1 p.2) ++ meL.map (fun p => He.Fa.meth p.1 p.2) ++ clsL.map He.Fa.mkr → f ∈ faL := fun {f} z => a7 (List.mem_append_left _ z)
  have a5 : ∀ {f : He.Fa}, f ∈ gloL.map He.Fa.glo ++ freL.map He.Fa.free ++ clsL.map He.Fa.cls ++ naL.map (fun p => He.Fa.noat p.1 p.2) ++ meL.map (fun p => He.Fa.meth p.1 p.2) → f ∈ faL := fun {f} z => a6 (List.mem_append_left _ z)
  have a4 : ∀ {f : He.Fa}, f ∈ gloL.map He.Fa.glo ++ freL.map He.Fa.free ++ clsL.map He.Fa.cls ++ naL.map (fun p => He.Fa.noat p.1 p.2) → f ∈ faL := fun {f} z => a5 (List.mem_append_left _ z)
  have a3 : ∀ {f : He.Fa}, f ∈ gloL.map He.Fa.glo ++ freL.map He.Fa.free ++ clsL.map He.Fa.cls → f ∈ faL := fun {f} z => a4 (List.mem_append_left _ z)
  have a2 : ∀ {f : He.Fa}, f ∈ gloL.map He.Fa.glo ++ freL.map He.Fa.free → f ∈ faL := fun {f} z => a3 (List.mem_append_left _ z)
  have ff := @He.SaysD.facts faL fnL K c.t.d
  refine ⟨fun i d e => ?_, fun i x e => ?_, fun i x e => ?_, fun i p e => ?_, fun i p e => ?_, fun i C e => ⟨?_, ?_, ?_⟩, fun i p e => ?_, ?_, fun p hp => TB _ (List.mem_map.mpr ⟨p, hp, rfl⟩), of_decide_eq_true apart⟩
  · have hd := List.mem_of_getElem? e
    obtain ⟨fd, F⟩ := c.t.d.defs hd
    have z := List.all_eq_true.mp fnL_plain d hd
    rw [Bool.and_eq_true, List.isEmpty_iff, List.isEmpty_iff] at z
    have e1 : d.dvs K = [] := by
      unfold He.DefD.dvs
      rw [z.1]
      rfl
    have e2 : d.kws K = [] := by
      unfold He.DefD.kws
      rw [z.2]
      rfl
    rw [e1, e2] at F
    exact ⟨fd, F⟩
  · exact He.glo_ok X G (ff (a2 (List.mem_append_left _ (List.mem_map.mpr ⟨x, List.mem_of_getElem? e, rfl⟩))))
  · exact He.free_ok X G (ff (a2 (List.mem_append_right _ (List.mem_map.mpr ⟨x, List.mem_of_getElem? e, rfl⟩))))
  · exact He.noat_ok (ff (a4 (List.mem_append_right _ (List.mem_map.mpr ⟨p, List.mem_of_getElem? e, rfl⟩))))
  · exact He.meth_ok (ff (a5 (List.mem_append_right _ (List.mem_map.mpr ⟨p, List.mem_of_getElem? e, rfl⟩))))
  · exact He.cls_ok (ff (a3 (List.mem_append_right _ (List.mem_map.mpr ⟨C, List.mem_of_getElem? e, rfl⟩))))
  · exact He.mkr_ok (ff (a6 (List.mem_append_right _ (List.mem_map.mpr ⟨C, List.mem_of_getElem? e, rfl⟩))))
  · exact own_of (List.all_eq_true.mp own C (List.mem_of_getElem? e))
  · exact He.int_ok X G (ff (a7 (List.mem_append_right _ (List.mem_map.mpr ⟨p, List.mem_of_getElem? e, rfl⟩))))
  · exact He.str_ok X G (ff (List.mem_append_right _ (List.mem_singleton.mpr rfl)))
theorem law_at {w : World} {K : PySem.W.Frag} {mg : Str → Option Value} {fa : Addr} {h : Heap} (X : K.In h) (c : He.SaysX faL fnL [] tfL exB w h K) (G : h.Ns mainGlobals mg) (hmg : mg "law" = some (.ref fa)) :
    LawAtS PySem.Challenge.rw_endlessplane_k18_whole_recolourings w K L2.CX0 13 63 "_law_script" mg fa h := by
  obtain ⟨fd, F⟩ := c.t.d.defs (d := dd_law) (by unfold fnL; simp)
  have F' : FunD K "law" "law" (defArgs s_law) (defBody s_law) (defScope s_law) [] [] (He.ga K "law") fd := F
  have ef : fa = He.ga K "law" := by
    have z := He.glo_ok (x := "law") X G (c.t.d.facts (f := .glo "law") (by unfold faL gloL; simp))
    rw [hmg] at z
    exact Value.ref.inj (Option.some.inj z)
  subst ef
  have b := FunD.bindsA (ps := ["_law_script"]) F' fun _ _ _ _ _ _ us hl => match us, hl with | [_], _ => rfl
  have mem : ∀ p ∈ tfL.map (He.cT K), ∃ q ∈ tfL, He.cT K q = p := fun p hp => List.mem_map.mp hp
  refine ⟨fd, tfL.map (He.cT K), sp_law K, fun p hp => ?_, fun p hp => ?_, fun p hp => ?_, fun s v => b s [v] rfl, fun H a ns hl _ hH hS => ⟨a, ns, rfl, hS, fun p hp => ?_, fun H' => rfl⟩, fun base KB GB TB => ok_law (txt_of X G c TB) F'⟩
  · obtain ⟨q, hq, rfl⟩ := mem p hp
    exact c.empty q hq
  · obtain ⟨q, hq, rfl⟩ := mem p hp
    exact c.out q hq
  · obtain ⟨q, hq, rfl⟩ := mem p hp
    exact PySem.W.codeHd_of_K X (c.hd q hq)
  · rcases List.mem_cons.mp hp with z | z
    · rw [z]
      exact TabS.nil (hH (He.cT K ("recoloured", none)) (List.mem_map.mpr ⟨_, .head _, rfl⟩))
    · rw [List.mem_singleton.mp z]
      exact TabS.nil (hH (He.cT K ("woven", none)) (List.mem_map.mpr ⟨_, .tail _ (.head _), rfl⟩))
end
end EP
open PySem PySem.W PySem.Calls PyProof.Rows
theorem PySem.Challenge.cw_endlessplane_k18_whole_recolourings_holds : PySem.Challenge.rw_endlessplane_k18_whole_recolourings.Holds := by
  w_on; o_law
  refine HandSHeadRun.head_any (r := OpenLaw.row PySem.Challenge.rw_endlessplane_k18_whole_recolourings) (q := view (OpenLaw.row PySem.Challenge.rw_endlessplane_k18_whole_recolourings).prog [72]) (H := EP.hk) (ob := EP.ob) (M := 8000) (loose := EP.looseL) (d := HandSHeadRun.topDef (OpenLaw.row PySem.Challenge.rw_endlessplane_k18_whole_recolourings).prog 72) (kwd := []) EP.ob_eq
    (by kernel_rfl) (fun s => by kernel_rfl) EP.run (by kernel_rfl) (by kernel_rfl) (by kernel_rfl) (by rfl) (by first | assumption | decide +kernel) (by decide +kernel) ⟨rfl, rfl, rfl, rfl, rfl, by decide +kernel⟩ ?hw ?hc
  case hw => w_witness2
  case hc =>
    refine LamX.walk_ofTsE (l := PySem.Challenge.rw_endlessplane_k18_whole_recolourings) (n := 63) (k := 13) (x := "_law_script") (CX := fun _ => L2.CX0) rfl (by decide) (by kernel_rfl) ⟨rfl, by decide, by decide⟩ ?F (fun _ _ _ _ _ z => z)
    intro w mg fa h Y G hmg0
    obtain ⟨K, KX, c⟩ := Y
    have hmg : mg ("law" : PySem.Str) = some (.ref fa) := by
      have e : (HandSHeadRun.topDef (OpenLaw.row PySem.Challenge.rw_endlessplane_k18_whole_recolourings).prog 72).name = ("law" : PySem.Str) := by kernel_rfl
      rw [← e]
      exact hmg0
    exact ⟨K, KX, EP.law_at KX c G hmg⟩
