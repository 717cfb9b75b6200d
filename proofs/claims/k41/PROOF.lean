import PyProof.Rows.All
import Wide.All
import OpenK.AllK
import Wide.FinOn
import HandS.ForMost
import HandS.Defaults
import HandS.HeadHook2
import PySem.Challenge.RW_ladderdays_k41_whole_months_and_years_of
import KE.KStateDown
import Lean
import HandS.Head0
import HandS.Head1
import HandS.Head2
import HandS.HeadEnd
import HandS.HeadHook1
import HandS.Property
import HandS.Style
import HandS.DictComp
import HandS.IsInst
import HandS.Deep
import HandS.Wide
import KE.KDictZip
import HandS.SetFor
import HandS.Zip
import HandS.Strs
import HandS.Ends
set_option Elab.async false
set_option linter.all false
set_option maxRecDepth 100000
set_option maxHeartbeats 4000000
namespace Lk
open PySem L2
def top (i : Nat) : Stmt := PySem.Challenge.pw_ladderdays_k41_whole_months_and_years_of.main.body.getD i (.Pass ⟨0, 0, 0, 0⟩)
abbrev s_copied : Stmt := top 2
abbrev s_never_falls : Stmt := top 15
abbrev s_always_rises : Stmt := top 16
abbrev s_is_ladder : Stmt := top 17
abbrev s_is_set : Stmt := top 18
abbrev s_need_ladder : Stmt := top 19
abbrev s_need_set : Stmt := top 20
abbrev s_need_number : Stmt := top 21
abbrev s_common_divisor : Stmt := top 23
abbrev s_common_multiple : Stmt := top 24
abbrev s_prime_parts : Stmt := top 25
abbrev s_number_at : Stmt := top 26
abbrev s_first_numbers : Stmt := top 27
abbrev s_comes_again : Stmt := top 28
abbrev s_least_length : Stmt := top 29
abbrev s_least_way : Stmt := top 30
abbrev s_least_row : Stmt := top 31
abbrev s_set_row : Stmt := top 33
abbrev s_set_from : Stmt := top 34
abbrev s_counts_of : Stmt := top 36
abbrev s_nth_of : Stmt := top 37
abbrev s_first_at_least : Stmt := top 38
abbrev s_joined_ladders : Stmt := top 39
abbrev s_common_way : Stmt := top 40
abbrev s_risen : Stmt := top 41
abbrev s_unlike_day : Stmt := top 44
abbrev s_less_day : Stmt := top 45
abbrev s_least_set : Stmt := top 47
abbrev s_counts : Stmt := top 58
abbrev s_nth_days : Stmt := top 59
abbrev s_check_feast : Stmt := top 76
abbrev s_check_feasts : Stmt := top 77
abbrev s_names_in : Stmt := top 78
abbrev s_Almanac_init : Stmt := inClass (top 79) 0
abbrev s_Almanac_calendar : Stmt := inClass (top 79) 1
abbrev s_Almanac_names : Stmt := inClass (top 79) 3
abbrev s_Almanac_sets : Stmt := inClass (top 79) 4
abbrev s_Almanac_days : Stmt := inClass (top 79) 5
abbrev s_Almanac_plain : Stmt := inClass (top 79) 6
abbrev s_Almanac_told : Stmt := inClass (top 79) 7
abbrev s_days_of : Stmt := top 80
abbrev s_value : Stmt := top 84
abbrev s_least_ladder : Stmt := top 85
abbrev s_joined : Stmt := top 86
abbrev s_alike : Stmt := top 89
abbrev s_first_less : Stmt := top 90
abbrev s_days_on : Stmt := top 94
abbrev s_going_on : Stmt := top 96
abbrev s_opened_step : Stmt := top 97
abbrev s_opened_term : Stmt := top 98
abbrev s_check_ends : Stmt := top 99
abbrev s_checked_term : Stmt := top 100
abbrev s_ladder_of_step : Stmt := top 101
abbrev s_joined_all : Stmt := top 102
abbrev s_ladder_of_steps : Stmt := top 103
abbrev s_ladder_of : Stmt := top 104
abbrev s_due : Stmt := top 105
abbrev s_two_ladders : Stmt := top 106
abbrev s_first_later : Stmt := top 107
abbrev s_never_later : Stmt := top 108
abbrev s_passing : Stmt := top 109
abbrev s_are_years : Stmt := top 111
abbrev s_Calendar_init : Stmt := inClass (top 113) 0
abbrev s_Calendar_owners : Stmt := inClass (top 113) 2
abbrev s_Calendar_index_of : Stmt := inClass (top 113) 3
abbrev s_Calendar_month_at : Stmt := inClass (top 113) 4
abbrev s_Calendar_set_of_cycle : Stmt := inClass (top 113) 5
abbrev s_Calendar_ladder_of_cycle : Stmt := inClass (top 113) 6
abbrev s_Calendar_date : Stmt := inClass (top 113) 7
abbrev s_Calendar_day : Stmt := inClass (top 113) 8
abbrev s_Calendar_month_starts : Stmt := inClass (top 113) 10
abbrev s_Calendar_last_days : Stmt := inClass (top 113) 12
abbrev s_Calendar_months_on : Stmt := inClass (top 113) 13
abbrev s_Calendar_year_on : Stmt := inClass (top 113) 14
abbrev s_Calendar_years_on : Stmt := inClass (top 113) 15
abbrev s_Calendar_months : Stmt := inClass (top 113) 16
abbrev s_law_purse : Stmt := top 115
abbrev s_law_coin : Stmt := top 116
abbrev s_law_copied : Stmt := top 117
abbrev s_law_wide_years : Stmt := top 118
abbrev s_law_later_date : Stmt := top 119
abbrev s_law_one_right : Stmt := top 120
abbrev s_law_ways_right : Stmt := top 121
abbrev s_law_month_ends_right : Stmt := top 122
abbrev s_law_right : Stmt := top 123
abbrev s_law : Stmt := top 124
abbrev s_need_two_ladders : Stmt := top 82
theorem c_copied : FnScope ["thing", "part"] ["thing"] (defScope s_copied) := ⟨rfl, rfl, rfl, by decide +kernel, rfl, by decide +kernel, by decide +kernel⟩
theorem c_never_falls : FnScope ["numbers", "one", "other"] ["numbers"] (defScope s_never_falls) := ⟨rfl, rfl, rfl, by decide +kernel, rfl, by decide +kernel, by decide +kernel⟩
theorem c_always_rises : FnScope ["numbers", "one", "other"] ["numbers"] (defScope s_always_rises) := ⟨rfl, rfl, rfl, by decide +kernel, rfl, by decide +kernel, by decide +kernel⟩
theorem c_is_ladder : FnScope ["ladder", "early", "turn", "rise"] ["ladder"] (defScope s_is_ladder) := ⟨rfl, rfl, rfl, by decide +kernel, rfl, by decide +kernel, by decide +kernel⟩
theorem c_is_set : FnScope ["told", "early", "first", "length", "found"] ["told"] (defScope s_is_set) := ⟨rfl, rfl, rfl, by decide +kernel, rfl, by decide +kernel, by decide +kernel⟩
theorem c_need_ladder : FnScope ["ladder"] ["ladder"] (defScope s_need_ladder) := ⟨rfl, rfl, rfl, by decide +kernel, rfl, by decide +kernel, by decide +kernel⟩
theorem c_need_set : FnScope ["told"] ["told"] (defScope s_need_set) := ⟨rfl, rfl, rfl, by decide +kernel, rfl, by decide +kernel, by decide +kernel⟩
theorem c_need_number : FnScope ["number", "least"] ["number", "least"] (defScope s_need_number) := ⟨rfl, rfl, rfl, by decide +kernel, rfl, by decide +kernel, by decide +kernel⟩
theorem c_common_divisor : FnScope ["one", "other"] ["one", "other"] (defScope s_common_divisor) := ⟨rfl, rfl, rfl, by decide +kernel, rfl, by decide +kernel, by decide +kernel⟩
theorem c_common_multiple : FnScope ["one", "other"] ["one", "other"] (defScope s_common_multiple) := ⟨rfl, rfl, rfl, by decide +kernel, rfl, by decide +kernel, by decide +kernel⟩
theorem c_prime_parts : FnScope ["number", "found", "left", "part"] ["number"] (defScope s_prime_parts) := ⟨rfl, rfl, rfl, by decide +kernel, rfl, by decide +kernel, by decide +kernel⟩
theorem c_number_at : FnScope ["ladder", "day", "early", "turn", "rise", "times", "place"] ["ladder", "day"] (defScope s_number_at) := ⟨rfl, rfl, rfl, by decide +kernel, rfl, by decide +kernel, by decide +kernel⟩
theorem c_first_numbers : FnScope ["ladder", "many", "early", "turn", "rise", "laps", "found", "lap", "number"] ["ladder", "many"] (defScope s_first_numbers) := ⟨rfl, rfl, rfl, by decide +kernel, rfl, by decide +kernel, by decide +kernel⟩
theorem c_comes_again : FnScope ["turn", "rise", "length", "times", "later", "number", "more"] ["turn", "rise", "length"] (defScope s_comes_again) := ⟨rfl, rfl, rfl, by decide +kernel, rfl, by decide +kernel, by decide +kernel⟩
theorem c_least_length : FnScope ["turn", "rise", "length", "part"] ["turn", "rise"] (defScope s_least_length) := ⟨rfl, rfl, rfl, by decide +kernel, rfl, by decide +kernel, by decide +kernel⟩
theorem c_least_way : FnScope ["ladder", "early", "turn", "rise", "length", "gain", "numbers", "first"] ["ladder"] (defScope s_least_way) := ⟨rfl, rfl, rfl, by decide +kernel, rfl, by decide +kernel, by decide +kernel⟩
theorem c_least_row : FnScope ["row", "early", "turn"] ["row"] (defScope s_least_row) := ⟨rfl, rfl, rfl, by decide +kernel, rfl, by decide +kernel, by decide +kernel⟩
theorem c_set_row : FnScope ["told", "early", "first", "length", "found", "days", "places", "day", "place"] ["told"] (defScope s_set_row) := ⟨rfl, rfl, rfl, by decide +kernel, rfl, by decide +kernel, by decide +kernel⟩
theorem c_set_from : FnScope ["row", "begun", "again", "early", "day", "bit", "place"] ["row"] (defScope s_set_from) := ⟨rfl, rfl, rfl, by decide +kernel, rfl, by decide +kernel, by decide +kernel⟩
theorem c_counts_of : FnScope ["told", "begun", "again", "numbers", "many", "bit"] ["told"] (defScope s_counts_of) := ⟨rfl, rfl, rfl, by decide +kernel, rfl, by decide +kernel, by decide +kernel⟩
theorem c_nth_of : FnScope ["told", "early", "first", "length", "found", "place"] ["told"] (defScope s_nth_of) := ⟨rfl, rfl, rfl, by decide +kernel, rfl, by decide +kernel, by decide +kernel⟩
theorem c_first_at_least : FnScope ["ladder", "number", "early", "turn", "rise", "day", "tells", "times", "place"] ["ladder", "number"] (defScope s_first_at_least) := ⟨rfl, rfl, rfl, by decide +kernel, rfl, by decide +kernel, by decide +kernel⟩
theorem c_joined_ladders : FnScope ["one", "other", "early", "turn", "rise", "begun", "again", "more", "first", "length", "gain", "times", "numbers", "number"] ["one", "other"] (defScope s_joined_ladders) := ⟨rfl, rfl, rfl, by decide +kernel, rfl, by decide +kernel, by decide +kernel⟩
theorem c_common_way : FnScope ["one", "other"] ["one", "other"] (defScope s_common_way) := ⟨rfl, rfl, rfl, by decide +kernel, rfl, by decide +kernel, by decide +kernel⟩
theorem c_risen : FnScope ["ladder", "length"] ["ladder", "length"] (defScope s_risen) := ⟨rfl, rfl, rfl, by decide +kernel, rfl, by decide +kernel, by decide +kernel⟩
theorem c_unlike_day : FnScope ["one", "other", "many", "day", "number", "more"] ["one", "other"] (defScope s_unlike_day) := ⟨rfl, rfl, rfl, by decide +kernel, rfl, by decide +kernel, by decide +kernel⟩
theorem c_less_day : FnScope ["one", "other", "first", "length", "many", "gain", "found", "day", "number", "more", "later"] ["one", "other"] (defScope s_less_day) := ⟨rfl, rfl, rfl, by decide +kernel, rfl, by decide +kernel, by decide +kernel⟩
theorem c_least_set : FnScope ["told"] ["told"] (defScope s_least_set) := ⟨rfl, rfl, rfl, by decide +kernel, rfl, by decide +kernel, by decide +kernel⟩
theorem c_counts : FnScope ["told"] ["told"] (defScope s_counts) := ⟨rfl, rfl, rfl, by decide +kernel, rfl, by decide +kernel, by decide +kernel⟩
theorem c_nth_days : FnScope ["told"] ["told"] (defScope s_nth_days) := ⟨rfl, rfl, rfl, by decide +kernel, rfl, by decide +kernel, by decide +kernel⟩
theorem c_check_feast : FnScope ["feast", "names", "word", "part"] ["feast", "names"] (defScope s_check_feast) := ⟨rfl, rfl, rfl, by decide +kernel, rfl, by decide +kernel, by decide +kernel⟩
theorem c_check_feasts : FnScope ["feasts", "names", "name", "place", "feast"] ["feasts"] (defScope s_check_feasts) := ⟨rfl, rfl, rfl, by decide +kernel, rfl, by decide +kernel, by decide +kernel⟩
theorem c_names_in : FnScope ["feast", "part", "name"] ["feast"] (defScope s_names_in) := ⟨rfl, rfl, rfl, by decide +kernel, rfl, by decide +kernel, by decide +kernel⟩
theorem c_Almanac_init : FnScope ["self", "calendar", "feasts"] ["self", "calendar", "feasts"] (defScope s_Almanac_init) := ⟨rfl, rfl, rfl, by decide +kernel, rfl, by decide +kernel, by decide +kernel⟩
theorem c_Almanac_calendar : FnScope ["self"] ["self"] (defScope s_Almanac_calendar) := ⟨rfl, rfl, rfl, by decide +kernel, rfl, by decide +kernel, by decide +kernel⟩
theorem c_Almanac_names : FnScope ["self", "name", "feast"] ["self"] (defScope s_Almanac_names) := ⟨rfl, rfl, rfl, by decide +kernel, rfl, by decide +kernel, by decide +kernel⟩
theorem c_Almanac_sets : FnScope ["self", "count", "found", "name", "feast"] ["self", "count"] (defScope s_Almanac_sets) := ⟨rfl, rfl, rfl, by decide +kernel, rfl, by decide +kernel, by decide +kernel⟩
theorem c_Almanac_days : FnScope ["self", "feast", "names", "name"] ["self", "feast"] (defScope s_Almanac_days) := ⟨rfl, rfl, rfl, by decide +kernel, rfl, by decide +kernel, by decide +kernel⟩
theorem c_Almanac_plain : FnScope ["self", "feast", "word"] ["self", "feast"] (defScope s_Almanac_plain) := ⟨rfl, rfl, rfl, by decide +kernel, rfl, by decide +kernel, by decide +kernel⟩
theorem c_Almanac_told : FnScope ["self", "feast", "known", "word", "parts", "part"] ["self", "feast", "known"] (defScope s_Almanac_told) := ⟨rfl, rfl, rfl, by decide +kernel, rfl, by decide +kernel, by decide +kernel⟩
theorem c_days_of : FnScope ["almanac", "feast"] ["almanac", "feast"] (defScope s_days_of) := ⟨rfl, rfl, rfl, by decide +kernel, rfl, by decide +kernel, by decide +kernel⟩
theorem c_value : FnScope ["ladder", "day"] ["ladder", "day"] (defScope s_value) := ⟨rfl, rfl, rfl, by decide +kernel, rfl, by decide +kernel, by decide +kernel⟩
theorem c_least_ladder : FnScope ["ladder"] ["ladder"] (defScope s_least_ladder) := ⟨rfl, rfl, rfl, by decide +kernel, rfl, by decide +kernel, by decide +kernel⟩
theorem c_joined : FnScope ["one", "other"] ["one", "other"] (defScope s_joined) := ⟨rfl, rfl, rfl, by decide +kernel, rfl, by decide +kernel, by decide +kernel⟩
theorem c_alike : FnScope ["one", "other"] ["one", "other"] (defScope s_alike) := ⟨rfl, rfl, rfl, by decide +kernel, rfl, by decide +kernel, by decide +kernel⟩
theorem c_first_less : FnScope ["one", "other"] ["one", "other"] (defScope s_first_less) := ⟨rfl, rfl, rfl, by decide +kernel, rfl, by decide +kernel, by decide +kernel⟩
theorem c_days_on : FnScope ["number"] ["number"] (defScope s_days_on) := ⟨rfl, rfl, rfl, by decide +kernel, rfl, by decide +kernel, by decide +kernel⟩
theorem c_going_on : FnScope ["told", "number"] ["told", "number"] (defScope s_going_on) := ⟨rfl, rfl, rfl, by decide +kernel, rfl, by decide +kernel, by decide +kernel⟩
theorem c_opened_step : FnScope ["almanac", "step", "word"] ["almanac", "step"] (defScope s_opened_step) := ⟨rfl, rfl, rfl, by decide +kernel, rfl, by decide +kernel, by decide +kernel⟩
theorem c_opened_term : FnScope ["almanac", "term", "step"] ["almanac", "term"] (defScope s_opened_term) := ⟨rfl, rfl, rfl, by decide +kernel, rfl, by decide +kernel, by decide +kernel⟩
theorem c_check_ends : FnScope ["steps", "step"] ["steps"] (defScope s_check_ends) := ⟨rfl, rfl, rfl, by decide +kernel, rfl, by decide +kernel, by decide +kernel⟩
theorem c_checked_term : FnScope ["almanac", "term", "steps"] ["almanac", "term"] (defScope s_checked_term) := ⟨rfl, rfl, rfl, by decide +kernel, rfl, by decide +kernel, by decide +kernel⟩
theorem c_ladder_of_step : FnScope ["almanac", "step", "word"] ["almanac", "step"] (defScope s_ladder_of_step) := ⟨rfl, rfl, rfl, by decide +kernel, rfl, by decide +kernel, by decide +kernel⟩
theorem c_joined_all : FnScope ["ladders", "found", "ladder"] ["ladders"] (defScope s_joined_all) := ⟨rfl, rfl, rfl, by decide +kernel, rfl, by decide +kernel, by decide +kernel⟩
theorem c_ladder_of_steps : FnScope ["almanac", "steps", "step"] ["almanac", "steps"] (defScope s_ladder_of_steps) := ⟨rfl, rfl, rfl, by decide +kernel, rfl, by decide +kernel, by decide +kernel⟩
theorem c_ladder_of : FnScope ["almanac", "term"] ["almanac", "term"] (defScope s_ladder_of) := ⟨rfl, rfl, rfl, by decide +kernel, rfl, by decide +kernel, by decide +kernel⟩
theorem c_due : FnScope ["almanac", "term", "day"] ["almanac", "term", "day"] (defScope s_due) := ⟨rfl, rfl, rfl, by decide +kernel, rfl, by decide +kernel, by decide +kernel⟩
theorem c_two_ladders : FnScope ["almanac", "one", "other"] ["almanac", "one", "other"] (defScope s_two_ladders) := ⟨rfl, rfl, rfl, by decide +kernel, rfl, by decide +kernel, by decide +kernel⟩
theorem c_first_later : FnScope ["almanac", "one", "other", "first", "second"] ["almanac", "one", "other"] (defScope s_first_later) := ⟨rfl, rfl, rfl, by decide +kernel, rfl, by decide +kernel, by decide +kernel⟩
theorem c_never_later : FnScope ["almanac", "one", "other"] ["almanac", "one", "other"] (defScope s_never_later) := ⟨rfl, rfl, rfl, by decide +kernel, rfl, by decide +kernel, by decide +kernel⟩
theorem c_passing : FnScope ["almanac", "one", "other", "first", "second"] ["almanac", "one", "other"] (defScope s_passing) := ⟨rfl, rfl, rfl, by decide +kernel, rfl, by decide +kernel, by decide +kernel⟩
theorem c_are_years : FnScope ["years", "months"] ["years"] (defScope s_are_years) := ⟨rfl, rfl, rfl, by decide +kernel, rfl, by decide +kernel, by decide +kernel⟩
theorem c_Calendar_init : FnScope ["self", "years", "length", "months", "year", "month"] ["self", "years"] (defScope s_Calendar_init) := ⟨rfl, rfl, rfl, by decide +kernel, rfl, by decide +kernel, by decide +kernel⟩
theorem c_Calendar_owners : FnScope ["self", "index", "length", "place"] ["self"] (defScope s_Calendar_owners) := ⟨rfl, rfl, rfl, by decide +kernel, rfl, by decide +kernel, by decide +kernel⟩
theorem c_Calendar_index_of : FnScope ["self", "year", "month"] ["self", "year", "month"] (defScope s_Calendar_index_of) := ⟨rfl, rfl, rfl, by decide +kernel, rfl, by decide +kernel, by decide +kernel⟩
theorem c_Calendar_month_at : FnScope ["self", "index", "rounds", "rest"] ["self", "index"] (defScope s_Calendar_month_at) := ⟨rfl, rfl, rfl, by decide +kernel, rfl, by decide +kernel, by decide +kernel⟩
theorem c_Calendar_set_of_cycle : FnScope ["self", "days"] ["self", "days"] (defScope s_Calendar_set_of_cycle) := ⟨rfl, rfl, rfl, by decide +kernel, rfl, by decide +kernel, by decide +kernel⟩
theorem c_Calendar_ladder_of_cycle : FnScope ["self", "told", "rise"] ["self", "told", "rise"] (defScope s_Calendar_ladder_of_cycle) := ⟨rfl, rfl, rfl, by decide +kernel, rfl, by decide +kernel, by decide +kernel⟩
theorem c_Calendar_date : FnScope ["self", "day", "rounds", "rest", "index", "year", "month", "first"] ["self", "day"] (defScope s_Calendar_date) := ⟨rfl, rfl, rfl, by decide +kernel, rfl, by decide +kernel, by decide +kernel⟩
theorem c_Calendar_day : FnScope ["self", "date", "number", "year", "month", "place", "rounds", "rest", "months"] ["self", "date"] (defScope s_Calendar_day) := ⟨rfl, rfl, rfl, by decide +kernel, rfl, by decide +kernel, by decide +kernel⟩
theorem c_Calendar_month_starts : FnScope ["self"] ["self"] (defScope s_Calendar_month_starts) := ⟨rfl, rfl, rfl, by decide +kernel, rfl, by decide +kernel, by decide +kernel⟩
theorem c_Calendar_last_days : FnScope ["self", "first", "length"] ["self"] (defScope s_Calendar_last_days) := ⟨rfl, rfl, rfl, by decide +kernel, rfl, by decide +kernel, by decide +kernel⟩
theorem c_Calendar_months_on : FnScope ["self", "months", "found", "day", "index", "first", "length"] ["self", "months"] (defScope s_Calendar_months_on) := ⟨rfl, rfl, rfl, by decide +kernel, rfl, by decide +kernel, by decide +kernel⟩
theorem c_Calendar_year_on : FnScope ["self", "day", "index", "years", "year", "month", "rounds", "rest", "count", "first", "length", "place"] ["self", "day", "index", "years"] (defScope s_Calendar_year_on) := ⟨rfl, rfl, rfl, by decide +kernel, rfl, by decide +kernel, by decide +kernel⟩
theorem c_Calendar_years_on : FnScope ["self", "years", "found", "day", "index"] ["self", "years"] (defScope s_Calendar_years_on) := ⟨rfl, rfl, rfl, by decide +kernel, rfl, by decide +kernel, by decide +kernel⟩
theorem c_Calendar_months : FnScope ["self"] ["self"] (defScope s_Calendar_months) := ⟨rfl, rfl, rfl, by decide +kernel, rfl, by decide +kernel, by decide +kernel⟩
theorem c_law_purse : FnScope ["_law_script", "_law_place", "_law_cell"] ["_law_script", "_law_place"] (defScope s_law_purse) := ⟨rfl, rfl, rfl, by decide +kernel, rfl, by decide +kernel, by decide +kernel⟩
theorem c_law_coin : FnScope ["_law_purse_here", "_law_many", "_law_drawn", "_law_mixed"] ["_law_purse_here", "_law_many"] (defScope s_law_coin) := ⟨rfl, rfl, rfl, by decide +kernel, rfl, by decide +kernel, by decide +kernel⟩
theorem c_law_copied : FnScope ["_law_thing", "_law_part"] ["_law_thing"] (defScope s_law_copied) := ⟨rfl, rfl, rfl, by decide +kernel, rfl, by decide +kernel, by decide +kernel⟩
theorem c_law_wide_years : FnScope ["_law_purse_here", "_law_count", "_law_found", "_law_turn", "_law_many", "_law_top", "_law_spot"] ["_law_purse_here"] (defScope s_law_wide_years) := ⟨rfl, rfl, rfl, by decide +kernel, rfl, by decide +kernel, by decide +kernel⟩
theorem c_law_later_date : FnScope ["_law_years_here", "_law_date", "_law_number", "_law_year", "_law_month", "_law_place", "_law_lengths"] ["_law_years_here", "_law_date", "_law_number"] (defScope s_law_later_date) := ⟨rfl, rfl, rfl, by decide +kernel, rfl, by decide +kernel, by decide +kernel⟩
theorem c_law_one_right : FnScope ["_law_made", "_law_calendar_here", "_law_years_here", "_law_day", "_law_number", "_law_there", "_law_begun", "_law_place", "_law_goal", "_law_length", "_law_owed"] ["_law_made", "_law_calendar_here", "_law_years_here", "_law_day", "_law_number"] (defScope s_law_one_right) := ⟨rfl, rfl, rfl, by decide +kernel, rfl, by decide +kernel, by decide +kernel⟩
theorem c_law_ways_right : FnScope ["_law_made", "_law_calendar_here", "_law_years_here", "_law_pair", "_law_lengths", "_law_months_here", "_law_counts_here", "_law_word", "_law_steps_here", "_law_is_even", "_law_more", "_law_number"] ["_law_made", "_law_calendar_here", "_law_years_here", "_law_pair"] (defScope s_law_ways_right) := ⟨rfl, rfl, rfl, by decide +kernel, rfl, by decide +kernel, by decide +kernel⟩
theorem c_law_month_ends_right : FnScope ["_law_made", "_law_ways", "_law_ladders_here", "_law_way"] ["_law_made"] (defScope s_law_month_ends_right) := ⟨rfl, rfl, rfl, by decide +kernel, rfl, by decide +kernel, by decide +kernel⟩
theorem c_law_right : FnScope ["_law_purse_here", "_law_years_here", "_law_calendar_here", "_law_made", "_law_turn", "_law_number", "_law_day", "_law_pair"] ["_law_purse_here"] (defScope s_law_right) := ⟨rfl, rfl, rfl, by decide +kernel, rfl, by decide +kernel, by decide +kernel⟩
theorem c_law : FnScope ["_law_script", "_law_spot"] ["_law_script"] (defScope s_law) := ⟨rfl, rfl, rfl, by decide +kernel, rfl, by decide +kernel, by decide +kernel⟩
theorem c_need_two_ladders : FnScope ["one", "other"] ["one", "other"] (defScope s_need_two_ladders) := ⟨rfl, rfl, rfl, by decide +kernel, rfl, by decide +kernel, by decide +kernel⟩
end Lk
set_option Elab.async false
set_option linter.all false
set_option maxRecDepth 100000
set_option maxHeartbeats 0
namespace Lk
open PySem L2
def d_copied : He.DefD := ⟨("copied", none), "copied", "copied", defArgs s_copied, defBody s_copied, defScope s_copied, [], []⟩
def d_never_falls : He.DefD := ⟨("never_falls", none), "never_falls", "never_falls", defArgs s_never_falls, defBody s_never_falls, defScope s_never_falls, [], []⟩
def d_always_rises : He.DefD := ⟨("always_rises", none), "always_rises", "always_rises", defArgs s_always_rises, defBody s_always_rises, defScope s_always_rises, [], []⟩
def d_is_ladder : He.DefD := ⟨("is_ladder", none), "is_ladder", "is_ladder", defArgs s_is_ladder, defBody s_is_ladder, defScope s_is_ladder, [], []⟩
def d_is_set : He.DefD := ⟨("is_set", none), "is_set", "is_set", defArgs s_is_set, defBody s_is_set, defScope s_is_set, [], []⟩
def d_need_ladder : He.DefD := ⟨("need_ladder", none), "need_ladder", "need_ladder", defArgs s_need_ladder, defBody s_need_ladder, defScope s_need_ladder, [], []⟩
def d_need_set : He.DefD := ⟨("need_set", none), "need_set", "need_set", defArgs s_need_set, defBody s_need_set, defScope s_need_set, [], []⟩
def d_need_number : He.DefD := ⟨("need_number", none), "need_number", "need_number", defArgs s_need_number, defBody s_need_number, defScope s_need_number, [], []⟩
def d_common_divisor : He.DefD := ⟨("common_divisor", none), "common_divisor", "common_divisor", defArgs s_common_divisor, defBody s_common_divisor, defScope s_common_divisor, [], []⟩
def d_common_multiple : He.DefD := ⟨("common_multiple", none), "common_multiple", "common_multiple", defArgs s_common_multiple, defBody s_common_multiple, defScope s_common_multiple, [], []⟩
def d_prime_parts : He.DefD := ⟨("prime_parts", none), "prime_parts", "prime_parts", defArgs s_prime_parts, defBody s_prime_parts, defScope s_prime_parts, [], []⟩
def d_number_at : He.DefD := ⟨("number_at", none), "number_at", "number_at", defArgs s_number_at, defBody s_number_at, defScope s_number_at, [], []⟩
def d_first_numbers : He.DefD := ⟨("first_numbers", none), "first_numbers", "first_numbers", defArgs s_first_numbers, defBody s_first_numbers, defScope s_first_numbers, [], []⟩
def d_comes_again : He.DefD := ⟨("comes_again", none), "comes_again", "comes_again", defArgs s_comes_again, defBody s_comes_again, defScope s_comes_again, [], []⟩
def d_least_length : He.DefD := ⟨("least_length", none), "least_length", "least_length", defArgs s_least_length, defBody s_least_length, defScope s_least_length, [], []⟩
def d_least_way : He.DefD := ⟨("least_way", none), "least_way", "least_way", defArgs s_least_way, defBody s_least_way, defScope s_least_way, [], []⟩
def d_least_row : He.DefD := ⟨("least_row", none), "least_row", "least_row", defArgs s_least_row, defBody s_least_row, defScope s_least_row, [], []⟩
def d_set_row : He.DefD := ⟨("set_row", none), "set_row", "set_row", defArgs s_set_row, defBody s_set_row, defScope s_set_row, [], []⟩
def d_set_from : He.DefD := ⟨("set_from", none), "set_from", "set_from", defArgs s_set_from, defBody s_set_from, defScope s_set_from, [], []⟩
def d_counts_of : He.DefD := ⟨("counts_of", none), "counts_of", "counts_of", defArgs s_counts_of, defBody s_counts_of, defScope s_counts_of, [], []⟩
def d_nth_of : He.DefD := ⟨("nth_of", none), "nth_of", "nth_of", defArgs s_nth_of, defBody s_nth_of, defScope s_nth_of, [], []⟩
def d_first_at_least : He.DefD := ⟨("first_at_least", none), "first_at_least", "first_at_least", defArgs s_first_at_least, defBody s_first_at_least, defScope s_first_at_least, [], []⟩
def d_joined_ladders : He.DefD := ⟨("joined_ladders", none), "joined_ladders", "joined_ladders", defArgs s_joined_ladders, defBody s_joined_ladders, defScope s_joined_ladders, [], []⟩
def d_common_way : He.DefD := ⟨("common_way", none), "common_way", "common_way", defArgs s_common_way, defBody s_common_way, defScope s_common_way, [], []⟩
def d_risen : He.DefD := ⟨("risen", none), "risen", "risen", defArgs s_risen, defBody s_risen, defScope s_risen, [], []⟩
def d_unlike_day : He.DefD := ⟨("unlike_day", none), "unlike_day", "unlike_day", defArgs s_unlike_day, defBody s_unlike_day, defScope s_unlike_day, [], []⟩
def d_less_day : He.DefD := ⟨("less_day", none), "less_day", "less_day", defArgs s_less_day, defBody s_less_day, defScope s_less_day, [], []⟩
def d_least_set : He.DefD := ⟨("least_set", none), "least_set", "least_set", defArgs s_least_set, defBody s_least_set, defScope s_least_set, [], []⟩
def d_counts : He.DefD := ⟨("counts", none), "counts", "counts", defArgs s_counts, defBody s_counts, defScope s_counts, [], []⟩
def d_nth_days : He.DefD := ⟨("nth_days", none), "nth_days", "nth_days", defArgs s_nth_days, defBody s_nth_days, defScope s_nth_days, [], []⟩
def d_check_feast : He.DefD := ⟨("check_feast", none), "check_feast", "check_feast", defArgs s_check_feast, defBody s_check_feast, defScope s_check_feast, [], []⟩
def d_check_feasts : He.DefD := ⟨("check_feasts", none), "check_feasts", "check_feasts", defArgs s_check_feasts, defBody s_check_feasts, defScope s_check_feasts, [], []⟩
def d_names_in : He.DefD := ⟨("names_in", none), "names_in", "names_in", defArgs s_names_in, defBody s_names_in, defScope s_names_in, [], []⟩
def d_Almanac_init : He.DefD := ⟨("Almanac", some "__init__"), "__init__", "Almanac.__init__", defArgs s_Almanac_init, defBody s_Almanac_init, defScope s_Almanac_init, [], []⟩
def d_Almanac_calendar : He.DefD := ⟨("Almanac", some "calendar"), "calendar", "Almanac.calendar", defArgs s_Almanac_calendar, defBody s_Almanac_calendar, defScope s_Almanac_calendar, [], []⟩
def d_Almanac_names : He.DefD := ⟨("Almanac", some "names"), "names", "Almanac.names", defArgs s_Almanac_names, defBody s_Almanac_names, defScope s_Almanac_names, [], []⟩
def d_Almanac_sets : He.DefD := ⟨("Almanac", some "sets"), "sets", "Almanac.sets", defArgs s_Almanac_sets, defBody s_Almanac_sets, defScope s_Almanac_sets, [], []⟩
def d_Almanac_days : He.DefD := ⟨("Almanac", some "days"), "days", "Almanac.days", defArgs s_Almanac_days, defBody s_Almanac_days, defScope s_Almanac_days, [], []⟩
def d_Almanac_plain : He.DefD := ⟨("Almanac", some "plain"), "plain", "Almanac.plain", defArgs s_Almanac_plain, defBody s_Almanac_plain, defScope s_Almanac_plain, [], []⟩
def d_Almanac_told : He.DefD := ⟨("Almanac", some "told"), "told", "Almanac.told", defArgs s_Almanac_told, defBody s_Almanac_told, defScope s_Almanac_told, [], []⟩
def d_days_of : He.DefD := ⟨("days_of", none), "days_of", "days_of", defArgs s_days_of, defBody s_days_of, defScope s_days_of, [], []⟩
def d_value : He.DefD := ⟨("value", none), "value", "value", defArgs s_value, defBody s_value, defScope s_value, [], []⟩
def d_least_ladder : He.DefD := ⟨("least_ladder", none), "least_ladder", "least_ladder", defArgs s_least_ladder, defBody s_least_ladder, defScope s_least_ladder, [], []⟩
def d_joined : He.DefD := ⟨("joined", none), "joined", "joined", defArgs s_joined, defBody s_joined, defScope s_joined, [], []⟩
def d_alike : He.DefD := ⟨("alike", none), "alike", "alike", defArgs s_alike, defBody s_alike, defScope s_alike, [], []⟩
def d_first_less : He.DefD := ⟨("first_less", none), "first_less", "first_less", defArgs s_first_less, defBody s_first_less, defScope s_first_less, [], []⟩
def d_days_on : He.DefD := ⟨("days_on", none), "days_on", "days_on", defArgs s_days_on, defBody s_days_on, defScope s_days_on, [], []⟩
def d_going_on : He.DefD := ⟨("going_on", none), "going_on", "going_on", defArgs s_going_on, defBody s_going_on, defScope s_going_on, [], []⟩
def d_opened_step : He.DefD := ⟨("opened_step", none), "opened_step", "opened_step", defArgs s_opened_step, defBody s_opened_step, defScope s_opened_step, [], []⟩
def d_opened_term : He.DefD := ⟨("opened_term", none), "opened_term", "opened_term", defArgs s_opened_term, defBody s_opened_term, defScope s_opened_term, [], []⟩
def d_check_ends : He.DefD := ⟨("check_ends", none), "check_ends", "check_ends", defArgs s_check_ends, defBody s_check_ends, defScope s_check_ends, [], []⟩
def d_checked_term : He.DefD := ⟨("checked_term", none), "checked_term", "checked_term", defArgs s_checked_term, defBody s_checked_term, defScope s_checked_term, [], []⟩
def d_ladder_of_step : He.DefD := ⟨("ladder_of_step", none), "ladder_of_step", "ladder_of_step", defArgs s_ladder_of_step, defBody s_ladder_of_step, defScope s_ladder_of_step, [], []⟩
def d_joined_all : He.DefD := ⟨("joined_all", none), "joined_all", "joined_all", defArgs s_joined_all, defBody s_joined_all, defScope s_joined_all, [], []⟩
def d_ladder_of_steps : He.DefD := ⟨("ladder_of_steps", none), "ladder_of_steps", "ladder_of_steps", defArgs s_ladder_of_steps, defBody s_ladder_of_steps, defScope s_ladder_of_steps, [], []⟩
def d_ladder_of : He.DefD := ⟨("ladder_of", none), "ladder_of", "ladder_of", defArgs s_ladder_of, defBody s_ladder_of, defScope s_ladder_of, [], []⟩
def d_due : He.DefD := ⟨("due", none), "due", "due", defArgs s_due, defBody s_due, defScope s_due, [], []⟩
def d_two_ladders : He.DefD := ⟨("two_ladders", none), "two_ladders", "two_ladders", defArgs s_two_ladders, defBody s_two_ladders, defScope s_two_ladders, [], []⟩
def d_first_later : He.DefD := ⟨("first_later", none), "first_later", "first_later", defArgs s_first_later, defBody s_first_later, defScope s_first_later, [], []⟩
def d_never_later : He.DefD := ⟨("never_later", none), "never_later", "never_later", defArgs s_never_later, defBody s_never_later, defScope s_never_later, [], []⟩
def d_passing : He.DefD := ⟨("passing", none), "passing", "passing", defArgs s_passing, defBody s_passing, defScope s_passing, [], []⟩
def d_are_years : He.DefD := ⟨("are_years", none), "are_years", "are_years", defArgs s_are_years, defBody s_are_years, defScope s_are_years, [], []⟩
def d_Calendar_init : He.DefD := ⟨("Calendar", some "__init__"), "__init__", "Calendar.__init__", defArgs s_Calendar_init, defBody s_Calendar_init, defScope s_Calendar_init, [], []⟩
def d_Calendar_owners : He.DefD := ⟨("Calendar", some "owners"), "owners", "Calendar.owners", defArgs s_Calendar_owners, defBody s_Calendar_owners, defScope s_Calendar_owners, [], []⟩
def d_Calendar_index_of : He.DefD := ⟨("Calendar", some "index_of"), "index_of", "Calendar.index_of", defArgs s_Calendar_index_of, defBody s_Calendar_index_of, defScope s_Calendar_index_of, [], []⟩
def d_Calendar_month_at : He.DefD := ⟨("Calendar", some "month_at"), "month_at", "Calendar.month_at", defArgs s_Calendar_month_at, defBody s_Calendar_month_at, defScope s_Calendar_month_at, [], []⟩
def d_Calendar_set_of_cycle : He.DefD := ⟨("Calendar", some "set_of_cycle"), "set_of_cycle", "Calendar.set_of_cycle", defArgs s_Calendar_set_of_cycle, defBody s_Calendar_set_of_cycle, defScope s_Calendar_set_of_cycle, [], []⟩
def d_Calendar_ladder_of_cycle : He.DefD := ⟨("Calendar", some "ladder_of_cycle"), "ladder_of_cycle", "Calendar.ladder_of_cycle", defArgs s_Calendar_ladder_of_cycle, defBody s_Calendar_ladder_of_cycle, defScope s_Calendar_ladder_of_cycle, [], []⟩
def d_Calendar_date : He.DefD := ⟨("Calendar", some "date"), "date", "Calendar.date", defArgs s_Calendar_date, defBody s_Calendar_date, defScope s_Calendar_date, [], []⟩
def d_Calendar_day : He.DefD := ⟨("Calendar", some "day"), "day", "Calendar.day", defArgs s_Calendar_day, defBody s_Calendar_day, defScope s_Calendar_day, [], []⟩
def d_Calendar_month_starts : He.DefD := ⟨("Calendar", some "month_starts"), "month_starts", "Calendar.month_starts", defArgs s_Calendar_month_starts, defBody s_Calendar_month_starts, defScope s_Calendar_month_starts, [], []⟩
def d_Calendar_last_days : He.DefD := ⟨("Calendar", some "last_days"), "last_days", "Calendar.last_days", defArgs s_Calendar_last_days, defBody s_Calendar_last_days, defScope s_Calendar_last_days, [], []⟩
def d_Calendar_months_on : He.DefD := ⟨("Calendar", some "months_on"), "months_on", "Calendar.months_on", defArgs s_Calendar_months_on, defBody s_Calendar_months_on, defScope s_Calendar_months_on, [], []⟩
def d_Calendar_year_on : He.DefD := ⟨("Calendar", some "year_on"), "year_on", "Calendar.year_on", defArgs s_Calendar_year_on, defBody s_Calendar_year_on, defScope s_Calendar_year_on, [], []⟩
def d_Calendar_years_on : He.DefD := ⟨("Calendar", some "years_on"), "years_on", "Calendar.years_on", defArgs s_Calendar_years_on, defBody s_Calendar_years_on, defScope s_Calendar_years_on, [], []⟩
def d_Calendar_months : He.DefD := ⟨("Calendar", some "months"), "months", "Calendar.months", defArgs s_Calendar_months, defBody s_Calendar_months, defScope s_Calendar_months, [], []⟩
def d_law_purse : He.DefD := ⟨("_law_purse", none), "_law_purse", "_law_purse", defArgs s_law_purse, defBody s_law_purse, defScope s_law_purse, [], []⟩
def d_law_coin : He.DefD := ⟨("_law_coin", none), "_law_coin", "_law_coin", defArgs s_law_coin, defBody s_law_coin, defScope s_law_coin, [], []⟩
def d_law_copied : He.DefD := ⟨("_law_copied", none), "_law_copied", "_law_copied", defArgs s_law_copied, defBody s_law_copied, defScope s_law_copied, [], []⟩
def d_law_wide_years : He.DefD := ⟨("_law_wide_years", none), "_law_wide_years", "_law_wide_years", defArgs s_law_wide_years, defBody s_law_wide_years, defScope s_law_wide_years, [], []⟩
def d_law_later_date : He.DefD := ⟨("_law_later_date", none), "_law_later_date", "_law_later_date", defArgs s_law_later_date, defBody s_law_later_date, defScope s_law_later_date, [], []⟩
def d_law_one_right : He.DefD := ⟨("_law_one_right", none), "_law_one_right", "_law_one_right", defArgs s_law_one_right, defBody s_law_one_right, defScope s_law_one_right, [], []⟩
def d_law_ways_right : He.DefD := ⟨("_law_ways_right", none), "_law_ways_right", "_law_ways_right", defArgs s_law_ways_right, defBody s_law_ways_right, defScope s_law_ways_right, [], []⟩
def d_law_month_ends_right : He.DefD := ⟨("_law_month_ends_right", none), "_law_month_ends_right", "_law_month_ends_right", defArgs s_law_month_ends_right, defBody s_law_month_ends_right, defScope s_law_month_ends_right, [], []⟩
def d_law_right : He.DefD := ⟨("_law_right", none), "_law_right", "_law_right", defArgs s_law_right, defBody s_law_right, defScope s_law_right, [], []⟩
def d_law : He.DefD := ⟨("law", none), "law", "law", defArgs s_law, defBody s_law, defScope s_law, [], []⟩
def d_need_two_ladders : He.DefD := ⟨("need_two_ladders", none), "need_two", "need_two", defArgs s_need_two_ladders, defBody s_need_two_ladders, defScope s_need_two_ladders, [], []⟩
def fn : List He.DefD := [d_copied, d_never_falls, d_always_rises, d_is_ladder, d_is_set, d_need_ladder, d_need_set, d_need_number, d_common_divisor, d_common_multiple, d_prime_parts, d_number_at, d_first_numbers, d_comes_again, d_least_length, d_least_way, d_least_row, d_set_row, d_set_from, d_counts_of, d_nth_of, d_first_at_least, d_joined_ladders, d_common_way, d_risen, d_unlike_day, d_less_day, d_least_set, d_counts, d_nth_days, d_check_feast, d_check_feasts, d_names_in, d_Almanac_init, d_Almanac_names, d_Almanac_sets, d_Almanac_days, d_Almanac_plain, d_Almanac_told, d_days_of, d_value, d_least_ladder, d_joined, d_alike, d_first_less, d_days_on, d_going_on, d_opened_step, d_opened_term, d_check_ends, d_checked_term, d_ladder_of_step, d_joined_all, d_ladder_of_steps, d_ladder_of, d_due, d_two_ladders, d_first_later, d_never_later, d_passing, d_are_years, d_Calendar_init, d_Calendar_owners, d_Calendar_index_of, d_Calendar_month_at, d_Calendar_set_of_cycle, d_Calendar_ladder_of_cycle, d_Calendar_date, d_Calendar_day, d_Calendar_month_starts, d_Calendar_last_days, d_Calendar_months_on, d_Calendar_year_on, d_Calendar_years_on, d_Calendar_months, d_law_purse, d_law_coin, d_law_copied, d_law_wide_years, d_law_later_date, d_law_one_right, d_law_ways_right, d_law_month_ends_right, d_law_right, d_law, d_need_two_ladders]
def fa : List He.Fa := [.glo "copied", .glo "never_falls", .glo "always_rises", .glo "is_ladder", .glo "is_set", .glo "need_ladder", .glo "need_set", .glo "need_number", .glo "common_divisor", .glo "common_multiple", .glo "prime_parts", .glo "number_at", .glo "first_numbers", .glo "comes_again", .glo "least_length", .glo "least_way", .glo "least_row", .glo "set_row", .glo "set_from", .glo "counts_of", .glo "nth_of", .glo "first_at_least", .glo "joined_ladders", .glo "common_way", .glo "risen", .glo "unlike_day", .glo "less_day", .glo "least_set", .glo "counts", .glo "nth_days", .glo "check_feast", .glo "check_feasts", .glo "names_in", .glo "days_of", .glo "value", .glo "least_ladder", .glo "joined", .glo "alike", .glo "first_less", .glo "days_on", .glo "going_on", .glo "opened_step", .glo "opened_term", .glo "check_ends", .glo "checked_term", .glo "ladder_of_step", .glo "joined_all", .glo "ladder_of_steps", .glo "ladder_of", .glo "due", .glo "two_ladders", .glo "first_later", .glo "never_later", .glo "passing", .glo "are_years", .glo "_law_purse", .glo "_law_coin", .glo "_law_copied", .glo "_law_wide_years", .glo "_law_later_date", .glo "_law_one_right", .glo "_law_ways_right", .glo "_law_month_ends_right", .glo "_law_right", .glo "law", .glo "need_two_ladders", .glo "Almanac", .cls "Almanac", .mkr "Almanac", .meth "Almanac" "names", .meth "Almanac" "sets", .meth "Almanac" "days", .meth "Almanac" "plain", .meth "Almanac" "told", .glo "Calendar", .cls "Calendar", .mkr "Calendar", .meth "Calendar" "owners", .meth "Calendar" "index_of", .meth "Calendar" "month_at", .meth "Calendar" "set_of_cycle", .meth "Calendar" "ladder_of_cycle", .meth "Calendar" "date", .meth "Calendar" "day", .meth "Calendar" "month_starts", .meth "Calendar" "last_days", .meth "Calendar" "months_on", .meth "Calendar" "year_on", .meth "Calendar" "years_on", .meth "Calendar" "months", .noat "Almanac" "own_calendar", .noat "Almanac" "own_feasts", .noat "Calendar" "own_years", .noat "Calendar" "spots", .noat "Calendar" "lengths", .noat "Calendar" "firsts", .noat "Calendar" "total", .glo "PAIRS", .glo "GOING", .free "all", .free "zip", .free "len", .free "divmod", .free "max", .free "min", .free "range", .free "enumerate", .free "sorted", .free "set", .free "int", .free "abs", .free "isinstance", .free "tuple", .free "sum", .free "list"]
/-LOOSE 113 -/
def nm0 : List Str := ["_wall", "copied", "DaysError", "InvalidLadder", "InvalidSet", "InvalidNumber", "InvalidYears", "InvalidDate", "InvalidName", "DoubleName", "UnknownName", "NoDays", "never_falls", "always_rises", "is_ladder", "is_set", "need_ladder", "need_set", "need_number", "common_divisor", "common_multiple", "prime_parts", "number_at", "first_numbers", "comes_again", "least_length", "least_way", "least_row", "first_of_row", "set_row"]
def nm1 : List Str := ["set_from", "set_of_days", "counts_of", "nth_of", "first_at_least", "joined_ladders", "common_way", "risen", "last_ahead", "chosen_ladder", "unlike_day", "less_day", "least_set", "set_of", "every", "common_rows", "need_two", "need_two_days", "both", "either", "but", "others", "moved", "counts", "nth_days", "LETTERS", "MOST_LETTERS", "is_name", "days_below", "next_days"]
def nm2 : List Str := ["last_days", "nth_between", "nth_from", "frame", "framed", "next_set", "last_set", "nth_set", "joined_set", "check_days", "check_feast", "check_feasts", "names_in", "Almanac", "days_of", "need_two_ladders", "value", "least_ladder", "joined", "earlier", "later", "alike", "first_less", "PAIRS", "GOING", "days_on", "from_day", "going_on", "opened_step", "opened_term"]
def nm3 : List Str := ["check_ends", "checked_term", "ladder_of_step", "joined_all", "ladder_of_steps", "ladder_of", "due", "two_ladders", "first_later", "never_later", "passing", "are_years", "least_cycle", "Calendar", "_law_purse", "_law_coin", "_law_copied", "_law_wide_years", "_law_later_date", "_law_one_right", "_law_ways_right", "_law_month_ends_right", "_law_right"]
def names : List Str := nm0 ++ nm1 ++ nm2 ++ nm3
end Lk
set_option Elab.async false
set_option linter.all false
set_option maxRecDepth 100000
set_option maxHeartbeats 0
namespace Lk
open PySem L2
def refsX (o : Obj) : List Addr := match o.data with
  | .dict es _ => es.toList.flatMap fun e => He.refV e.val
  | .func fd => He.refV fd.code
  | .cls cd => cd.ns :: cd.mro.flatMap He.refV
  | .fields vs => (match o.cls with
    | .type c => (match decide (c = "property") with
      | true => vs.toList.flatMap He.refV
      | false => [])
    | _ => [])
  | _ => []
def nxt (g : Addr → Option Obj) (as : List Addr) : List Addr := as.flatMap fun a => match g a with
  | some o => refsX o
  | none => []
def asX (g : Addr → Option Obj) : List Addr :=
  (fun l1 => (fun l2 => (fun l3 => (fun l4 => (fun l5 => mainGlobals :: (l1 ++ (l2 ++ (l3 ++ (l4 ++ l5))))) (nxt g l4)) (nxt g l3)) (nxt g l2)) (nxt g l1)) (nxt g [mainGlobals])
/-! ### what the head tells besides: a property's getter, two tables -/
def pAd (K : PySem.W.Frag) : Addr := He.ma K (He.ga K "Almanac") "calendar"
def gAd (K : PySem.W.Frag) : Addr := (match PySem.W.recIn K (pAd K) "property" with
  | some vs => (match vs with
    | .ref g :: _ => g
    | _ => 0)
  | none => 0)
def isRec (o : Option (List Value)) : Bool := (match o with
  | some vs => (match vs with
    | .ref _ :: _ => true
    | _ => false)
  | none => false)
def propB (K : PySem.W.Frag) : Bool := He.eqO (PySem.W.findIn K (.ref (He.ga K "Almanac")) "calendar") (some (some (.ref (pAd K)))) &&
  (He.eqO (PySem.W.specialIn K (.ref (pAd K)) "__get__") (some (some (.builtin "property.__get__"))) && (decide (PySem.W.takesIn K (.ref (pAd K)) = some true) && isRec (PySem.W.recIn K (pAd K) "property")))
def fnAt (K : PySem.W.Frag) (g : Addr) : Option FuncData := (K.lookup g).bind fun o => (match o.data with
  | .func fd => some fd
  | _ => none)
def getB (K : PySem.W.Frag) (g : Addr) (q : Str) : Bool := PySem.W.keepIn K (.ref g) && (match fnAt K g with
  | some fd => PySem.W.codeIn K fd.code q && decide (fd.defaults = .none)
  | none => false)
def getW (K : PySem.W.Frag) (g : Addr) : He.FnW := (fnAt K g).map fun fd => (fd.name, fd.qualname, fd.params, fd.body, fd.scope, fd.globals, fd.closure, fd.builtins)
def pairsV : List He.Dv := [.str "earlier", .str "later"]
def goingV : List He.Dv := [.str "to", .str "work"]
def moreB (K : PySem.W.Frag) : Bool := propB K && (getB K (gAd K) "Almanac.calendar" && (He.tupB K "PAIRS" pairsV && He.tupB K "GOING" goingV))
def obsX (fa : List He.Fa) (fn : List He.DefD) (K : PySem.W.Frag) : He.AlD := ((He.obsD fa fn K).1 && moreB K, getW K (gAd K) :: (He.obsD fa fn K).2)
def valX (fn : List He.DefD) : He.AlD := (true, d_Almanac_calendar.val :: fn.map He.DefD.val)
def SaysX (fa : List He.Fa) (fn : List He.DefD) (K : PySem.W.Frag) : Prop := obsX fa fn K = valX fn
theorem SaysX.both {fa : List He.Fa} {fn : List He.DefD} {K : PySem.W.Frag} (h : SaysX fa fn K) : He.SaysD fa fn K ∧ moreB K = true ∧ getW K (gAd K) = d_Almanac_calendar.val := by
  have h1 : ((He.obsD fa fn K).1 && moreB K) = true := congrArg (fun z : He.AlD => z.1) h
  have h2 : getW K (gAd K) :: (He.obsD fa fn K).2 = d_Almanac_calendar.val :: fn.map He.DefD.val := congrArg (fun z : He.AlD => z.2) h
  rw [Bool.and_eq_true_iff] at h1
  rw [List.cons.injEq] at h2
  exact ⟨Prod.ext h1.1 h2.2, h1.2, h2.1⟩
theorem getD {K : PySem.W.Frag} {g : Addr} {d : He.DefD} (hd : d.dfl = []) (hk : d.kwd = []) (e : getW K g = d.val) (c : getB K g d.qual = true) : ∃ fd, FunD K d.name d.qual d.params d.body d.scope [] [] g fd := by
  unfold getB at c
  rw [Bool.and_eq_true_iff] at c
  obtain ⟨kp, c⟩ := c
  unfold getW at e
  obtain ⟨fd, hf, ev⟩ := Option.map_eq_some_iff.mp (show (fnAt K g).map _ = some _ from e)
  rw [hf] at c
  obtain ⟨hc, hn⟩ := Bool.and_eq_true_iff.mp (show (PySem.W.codeIn K fd.code d.qual && decide (fd.defaults = .none)) = true from c)
  have hn := of_decide_eq_true hn
  obtain ⟨o, ho, hq⟩ := Option.bind_eq_some_iff.mp (show (K.lookup g).bind _ = some fd from hf)
  obtain ⟨oc, od, dt, osl⟩ := o
  cases dt with
  | func fd' =>
    cases hq
    cases fd with
    | mk a1 a2 a3 a4 a5 a6 a7 a8 a9 a10 a11 a12 a13 a14 a15 =>
      simp only [Prod.mk.injEq] at ev
      obtain ⟨v1, v2, v3, v4, v5, v6, v7, v8⟩ := ev
      subst v1 v2 v3 v4 v5 v6 v7 v8
      refine ⟨_, ⟨oc, od, a8, a9, a10, a11, a12, a13, a14, osl, rfl, ho, hc, .inl ⟨rfl, hn⟩, .inl rfl⟩, kp⟩
  | _ => cases hq
theorem prop_ok {K : PySem.W.Frag} (h : propB K = true) : PropOf K (He.ga K "Almanac") "calendar" (pAd K) (gAd K) := by
  unfold propB at h
  rw [Bool.and_eq_true_iff, Bool.and_eq_true_iff, Bool.and_eq_true_iff] at h
  obtain ⟨p1, p2, p3, p4⟩ := h
  refine ⟨He.eqO_ok p1, He.eqO_ok p2, of_decide_eq_true p3, ?_⟩
  unfold gAd
  cases e : PySem.W.recIn K (pAd K) "property" with
  | none => rw [e] at p4; cases p4
  | some vs =>
    rw [e] at p4
    cases vs with
    | nil => cases p4
    | cons v r =>
      cases v with
      | ref g => exact ⟨r, rfl⟩
      | _ => cases p4
def hookX (fa : List He.Fa) (fn : List He.DefD) : PySem.W.Hook where
  α := He.AlD
  obs := fun s => obsX fa fn (He.frG s.heap.get? (asX s.heap.get?))
  val := fun _ => valX fn
  says := fun _ h => ∃ K : PySem.W.Frag, K.In h ∧ SaysX fa fn K
  of := fun _ _ e => ⟨_, He.frG_in, e⟩
  keeps := fun _ _ _ ⟨K, hK, c⟩ k => ⟨K, PySem.W.Frag.In.keeps hK k, c⟩
def ob (fa : List He.Fa) (fn : List He.DefD) (s : PySem.W.SharedT) : He.AlD := obsX fa fn (He.frG (HandSHeadRun.getT s) (asX (HandSHeadRun.getT s)))
theorem ob_eq (fa : List He.Fa) (fn : List He.DefD) (s : PySem.W.SharedT) : ob fa fn s = (hookX fa fn).obs s.abs := by
  have e : HandSHeadRun.getT s = s.abs.heap.get? := funext (HandSHeadRun.getT_eq s)
  unfold ob
  rw [e]
  rfl
end Lk
set_option Elab.async false
set_option linter.all false
set_option maxRecDepth 100000
set_option maxHeartbeats 0
namespace Lk
open PySem L2
abbrev R : PySem.W.OpenRow := PySem.W.OpenLaw.row PySem.Challenge.rw_ladderdays_k41_whole_months_and_years_of
theorem run (w : World) : HandSHeadRun.RunEq R (PySem.W.view R.prog [124]) (hookX fa fn) (ob fa fn) 12000 names w := by
  intro os
  kernel_rfl
end Lk
set_option Elab.async false
set_option linter.all false
set_option maxRecDepth 100000
set_option maxHeartbeats 4000000
/-! A layer over HandS: readings told over plain data (Dt), with a stable part G of the abstract heap H. -/
namespace Lk
open PySem L2
abbrev Fr := PySem.W.Frag
abbrev Stt := L2.St

inductive Dt where
  | non | bl (b : Bool) | int (i : Int) | str (x : Str)
  | lst (xs : List Dt) | tup (xs : List Dt)
  | obj (C : Addr) (ns : List Str) (fs : List Dt)
  | dic (ks : List Int)
  | raw (v : V)

mutual
def Rp (K : Fr) (G : Hp) : Dt → V → Prop
  | .non, v => v = .non
  | .bl b, v => v = .bl b
  | .int i, v => v = .int i
  | .str x, v => v = .str x
  | .lst ds, v => ∃ a xs, v = .ref a ∧ G a = some (.lst xs) ∧ RpL K G ds xs
  | .tup ds, v => ∃ a xs, v = .ref a ∧ SqT K G a xs ∧ RpL K G ds xs
  | .obj C ns ds, v => ∃ a dx xs, v = .ref a ∧ G a = some (.ins C dx (ns.zip xs)) ∧ xs.length = ns.length ∧ RpL K G ds xs
  | .dic ks, v => ∃ a, v = .ref a ∧ G a = some (.dK (ks.map fun k => ((Sum.inl k : Key), V.bl true)))
  | .raw w, v => v = w
def RpL (K : Fr) (G : Hp) : List Dt → List V → Prop
  | [], xs => xs = []
  | d :: ds, xs => ∃ x r, xs = x :: r ∧ Rp K G d x ∧ RpL K G ds r
end

theorem sqT_mono {K : Fr} {H H' : Hp} {a : Addr} {xs : List V} (e : Same H H') (h : SqT K H a xs) : SqT K H' a xs := by
  rcases h with (h | ⟨o, h⟩) | h
  · exact .inl (.inl (e _ _ h))
  · exact .inl (.inr ⟨o, e _ _ h⟩)
  · exact .inr h
mutual
theorem Rp.mono {K : Fr} {G G' : Hp} (e : Same G G') : ∀ (d : Dt) (v : V), Rp K G d v → Rp K G' d v
  | .non, _, h => by unfold Rp at h ⊢; exact h
  | .bl b, _, h => by unfold Rp at h ⊢; exact h
  | .int i, _, h => by unfold Rp at h ⊢; exact h
  | .str x, _, h => by unfold Rp at h ⊢; exact h
  | .lst ds, _, h => by
    unfold Rp at h ⊢
    obtain ⟨a, xs, e1, e2, e3⟩ := h
    exact ⟨a, xs, e1, e _ _ e2, RpL.mono e ds xs e3⟩
  | .tup ds, _, h => by
    unfold Rp at h ⊢
    obtain ⟨a, xs, e1, e2, e3⟩ := h
    exact ⟨a, xs, e1, sqT_mono e e2, RpL.mono e ds xs e3⟩
  | .obj C ns ds, _, h => by
    unfold Rp at h ⊢
    obtain ⟨a, dx, xs, e1, e2, e4, e3⟩ := h
    exact ⟨a, dx, xs, e1, e _ _ e2, e4, RpL.mono e ds xs e3⟩
  | .dic ks, _, h => by
    unfold Rp at h ⊢
    obtain ⟨a, e1, e2⟩ := h
    exact ⟨a, e1, e _ _ e2⟩
  | .raw w, _, h => by unfold Rp at h ⊢; exact h
theorem RpL.mono {K : Fr} {G G' : Hp} (e : Same G G') : ∀ (ds : List Dt) (xs : List V), RpL K G ds xs → RpL K G' ds xs
  | [], _, h => by unfold RpL at h ⊢; exact h
  | d :: ds, _, h => by
    unfold RpL at h ⊢
    obtain ⟨x, r, e1, e2, e3⟩ := h
    exact ⟨x, r, e1, Rp.mono e d x e2, RpL.mono e ds r e3⟩
end
section
variable {K : Fr} {G : Hp}
theorem rp_int {i : Int} {v : V} : Rp K G (.int i) v ↔ v = .int i := by unfold Rp; exact Iff.rfl
theorem rp_bl {i : Bool} {v : V} : Rp K G (.bl i) v ↔ v = .bl i := by unfold Rp; exact Iff.rfl
theorem rp_str {i : Str} {v : V} : Rp K G (.str i) v ↔ v = .str i := by unfold Rp; exact Iff.rfl
theorem rp_non {v : V} : Rp K G .non v ↔ v = .non := by unfold Rp; exact Iff.rfl
theorem rp_raw {w v : V} : Rp K G (.raw w) v ↔ v = w := by unfold Rp; exact Iff.rfl
theorem rp_lst {ds : List Dt} {v : V} : Rp K G (.lst ds) v ↔ ∃ a xs, v = .ref a ∧ G a = some (.lst xs) ∧ RpL K G ds xs := by
  constructor
  · intro h; unfold Rp at h; exact h
  · intro h; unfold Rp; exact h
theorem rp_tup {ds : List Dt} {v : V} : Rp K G (.tup ds) v ↔ ∃ a xs, v = .ref a ∧ SqT K G a xs ∧ RpL K G ds xs := by
  constructor
  · intro h; unfold Rp at h; exact h
  · intro h; unfold Rp; exact h
theorem rp_obj {C : Addr} {ns : List Str} {ds : List Dt} {v : V} : Rp K G (.obj C ns ds) v ↔ ∃ a dx xs, v = .ref a ∧ G a = some (.ins C dx (ns.zip xs)) ∧ xs.length = ns.length ∧ RpL K G ds xs := by
  constructor
  · intro h; unfold Rp at h; exact h
  · intro h; unfold Rp; exact h
theorem rp_dic {ks : List Int} {v : V} : Rp K G (.dic ks) v ↔ ∃ a, v = .ref a ∧ G a = some (.dK (ks.map fun k => ((Sum.inl k : Key), V.bl true))) := by
  constructor
  · intro h; unfold Rp at h; exact h
  · intro h; unfold Rp; exact h
theorem rpl_nil {xs : List V} : RpL K G [] xs ↔ xs = [] := by unfold RpL; exact Iff.rfl
theorem rpl_cons {d : Dt} {ds : List Dt} {xs : List V} : RpL K G (d :: ds) xs ↔ ∃ x r, xs = x :: r ∧ Rp K G d x ∧ RpL K G ds r := by
  constructor
  · intro h; unfold RpL at h; exact h
  · intro h; unfold RpL; exact h
theorem rpl_len : ∀ {ds : List Dt} {xs : List V}, RpL K G ds xs → xs.length = ds.length
  | [], xs, h => by rw [rpl_nil.mp h]; rfl
  | d :: ds, xs, h => by
    obtain ⟨x, r, rfl, _, h3⟩ := rpl_cons.mp h
    rw [List.length_cons, List.length_cons, rpl_len h3]
theorem rpl_get : ∀ {ds : List Dt} {xs : List V} {i : Nat} {d : Dt}, RpL K G ds xs → ds[i]? = some d → ∃ x, xs[i]? = some x ∧ Rp K G d x
  | [], _, _, _, _, e => by simp at e
  | d :: ds, xs, 0, d', h, e => by
    obtain ⟨x, r, rfl, h2, _⟩ := rpl_cons.mp h
    simp at e; subst e
    exact ⟨x, rfl, h2⟩
  | d :: ds, xs, i + 1, d', h, e => by
    obtain ⟨x, r, rfl, _, h3⟩ := rpl_cons.mp h
    obtain ⟨y, e1, e2⟩ := rpl_get (i := i) h3 (by simpa using e)
    exact ⟨y, by simpa using e1, e2⟩
theorem rpl_app : ∀ {ds es : List Dt} {xs ys : List V}, RpL K G ds xs → RpL K G es ys → RpL K G (ds ++ es) (xs ++ ys)
  | [], _, xs, _, h, h' => by rw [rpl_nil.mp h]; exact h'
  | d :: ds, es, xs, ys, h, h' => by
    obtain ⟨x, r, rfl, h2, h3⟩ := rpl_cons.mp h
    exact rpl_cons.mpr ⟨x, r ++ ys, rfl, h2, rpl_app h3 h'⟩
theorem rpl_drop : ∀ {ds : List Dt} {xs : List V} (n : Nat), RpL K G ds xs → RpL K G (ds.drop n) (xs.drop n)
  | _, _, 0, h => h
  | [], _, n + 1, h => by rw [rpl_nil.mp h]; exact rpl_nil.mpr rfl
  | d :: ds, xs, n + 1, h => by
    obtain ⟨x, r, rfl, _, h3⟩ := rpl_cons.mp h
    exact rpl_drop n h3
theorem rpl_take : ∀ {ds : List Dt} {xs : List V} (n : Nat), RpL K G ds xs → RpL K G (ds.take n) (xs.take n)
  | _, _, 0, h => rpl_nil.mpr rfl
  | [], _, n + 1, h => by rw [rpl_nil.mp h]; exact rpl_nil.mpr rfl
  | d :: ds, xs, n + 1, h => by
    obtain ⟨x, r, rfl, h2, h3⟩ := rpl_cons.mp h
    exact rpl_cons.mpr ⟨x, _, rfl, h2, rpl_take n h3⟩
theorem rpl_ints : ∀ {ns : List Int} {xs : List V}, RpL K G (ns.map Dt.int) xs ↔ xs = ns.map V.int
  | [], xs => by
    rw [List.map_nil, rpl_nil]; exact Iff.rfl
  | n :: ns, xs => by
    rw [List.map_cons, rpl_cons]
    constructor
    · rintro ⟨x, r, rfl, h2, h3⟩
      rw [rp_int.mp h2, rpl_ints.mp h3]; rfl
    · rintro rfl
      exact ⟨_, _, rfl, rp_int.mpr rfl, rpl_ints.mpr rfl⟩
theorem rpl_bls : ∀ {ns : List Bool} {xs : List V}, RpL K G (ns.map Dt.bl) xs ↔ xs = ns.map V.bl
  | [], xs => by
    rw [List.map_nil, rpl_nil]; exact Iff.rfl
  | n :: ns, xs => by
    rw [List.map_cons, rpl_cons]
    constructor
    · rintro ⟨x, r, rfl, h2, h3⟩
      rw [rp_bl.mp h2, rpl_bls.mp h3]; rfl
    · rintro rfl
      exact ⟨_, _, rfl, rp_bl.mpr rfl, rpl_bls.mpr rfl⟩
theorem rpl_rep : ∀ (k : Nat) {ds : List Dt} {xs : List V}, RpL K G ds xs → RpL K G (List.replicate k ds).flatten (List.replicate k xs).flatten
  | 0, _, _, _ => rpl_nil.mpr rfl
  | k + 1, ds, xs, h => by
    rw [List.replicate_succ, List.replicate_succ, List.flatten_cons, List.flatten_cons]
    exact rpl_app h (rpl_rep k h)
end

/-! ### heaps -/
structure Step (G H G' H' : Hp) : Prop where
  hh : Same H H'
  gg : Same G G'
  gh : Same G' H'
  no : ∀ a o, G a = none → H a = some o → G' a = none
theorem Step.refl {G H : Hp} (e : Same G H) : Step G H G H := ⟨Same.refl _, Same.refl _, e, fun _ _ h _ => h⟩
theorem Step.trans {G H G1 H1 G2 H2 : Hp} (a : Step G H G1 H1) (b : Step G1 H1 G2 H2) : Step G H G2 H2 :=
  ⟨a.hh.trans b.hh, a.gg.trans b.gg, b.gh, fun x o h1 h2 => b.no x o (a.no x o h1 h2) (a.hh x o h2)⟩
theorem same_new {H : Hp} {p : Addr} {o : HO} (h : H p = none) : Same H (upd H p o) := fun a u e => by
  rw [upd_ne (ne_of_none e h)]; exact e
theorem Step.new {G H : Hp} {p : Addr} {o : HO} (e : Same G H) (h : H p = none) : Step G H (upd G p o) (upd H p o) :=
  ⟨same_new h, same_new (e.free h), fun a u ha => by
    by_cases q : a = p
    · subst q; rw [upd_same] at ha ⊢; exact ha
    · rw [upd_ne q] at ha ⊢; exact e a u ha, fun a u h1 h2 => by rw [upd_ne (ne_of_none h2 h)]; exact h1⟩

abbrev Env := List (Option Dt)
def EnvOk (K : Fr) (G : Hp) (env : Env) (σ : Stt) : Prop := σ.length = env.length ∧ ∀ (i : Nat) d, env[i]? = some (some d) → ∃ v, σ[i]? = some (some v) ∧ Rp K G d v
theorem EnvOk.mono {K : Fr} {G G' : Hp} {env : Env} {σ : Stt} (h : EnvOk K G env σ) (e : Same G G') : EnvOk K G' env σ :=
  ⟨h.1, fun i d q => let ⟨v, e1, r⟩ := h.2 i d q; ⟨v, e1, Rp.mono e d v r⟩⟩
theorem EnvOk.set {K : Fr} {G : Hp} {env : Env} {σ : Stt} {i : Nat} {d : Dt} {v : V} (h : EnvOk K G env σ) (r : Rp K G d v) : EnvOk K G (env.set i (some d)) (σ.set i (some v)) := by
  refine ⟨by rw [List.length_set, List.length_set, h.1], fun j d' q => ?_⟩
  by_cases hj : i = j
  · subst hj
    have hi : i < env.length := by
      have := (List.getElem?_eq_some_iff.mp q).1
      rwa [List.length_set] at this
    rw [List.getElem?_set_self hi] at q
    cases q
    exact ⟨v, List.getElem?_set_self (by rw [h.1]; exact hi), r⟩
  · rw [List.getElem?_set_ne hj] at q
    rw [List.getElem?_set_ne hj]
    exact h.2 j d' q
def ewipe (env : Env) : List Nat → Env
  | [] => env
  | v :: vs => (ewipe env vs).set v none
theorem EnvOk.wipe {K : Fr} {G : Hp} {env : Env} {σ : Stt} (h : EnvOk K G env σ) : ∀ vs, EnvOk K G (ewipe env vs) (wipe σ vs)
  | [] => h
  | v :: vs => by
    have ih := EnvOk.wipe h vs
    unfold ewipe L2.wipe
    refine ⟨by rw [List.length_set, List.length_set, ih.1], fun j d q => ?_⟩
    by_cases hj : v = j
    · subst hj
      have hi : v < (ewipe env vs).length := by
        have := (List.getElem?_eq_some_iff.mp q).1
        rwa [List.length_set] at this
      rw [List.getElem?_set_self hi] at q
      cases q
    · rw [List.getElem?_set_ne hj] at q
      rw [List.getElem?_set_ne hj]
      exact ih.2 j d q

/-! ### readings over data -/
def EV (K : Fr) (te : TE) (env : Env) (d : Dt) : Prop := ∀ σ G H Q, Same G H → EnvOk K G env σ → (∀ v G' H', Step G H G' H' → Rp K G' d v → Q v H') → te σ H Q
def EA (K : Fr) (ta : TA) (env : Env) (ds : List Dt) : Prop := ∀ σ G H Q, Same G H → EnvOk K G env σ → (∀ vs G' H', Step G H G' H' → RpL K G' ds vs → Q vs H') → ta σ H Q
def ET (K : Fr) (tt : TT) (env : Env) (b : Bool) : Prop := ∀ σ G H Q, Same G H → EnvOk K G env σ → (∀ G' H', Step G H G' H' → Q b H') → tt σ H Q
def EO (K : Fr) (to : TO) (env : Env) (o : Option Int) : Prop := ∀ σ G H Q, Same G H → EnvOk K G env σ → (∀ G' H', Step G H G' H' → Q o H') → to σ H Q
/-- an operation by values -/
def RD (K : Fr) (r : R2) (d1 d2 d : Dt) : Prop := ∀ x y G H Q, Same G H → Rp K G d1 x → Rp K G d2 y → (∀ v G' H', Step G H G' H' → Rp K G' d v → Q v H') → r x y H Q
/-- a call by values -/
def RC (K : Fr) (r : List V → Hp → VK → Prop) (ds : List Dt) (d : Dt) : Prop := ∀ xs G H Q, Same G H → RpL K G ds xs → (∀ v G' H', Step G H G' H' → Rp K G' d v → Q v H') → r xs H Q
section
variable {K : Fr} {env : Env} {d d1 d2 d3 : Dt} {ds : List Dt} {te ta tb : TE} {tt tu : TT} {r : R2}
theorem ev_var {i : Nat} (h : env[i]? = some (some d)) : EV K (tVar i) env d := fun σ G H Q gh eo k => by
  obtain ⟨v, e, r⟩ := eo.2 i d h
  exact ⟨v, e, k v G H (.refl gh) r⟩
theorem ev_c {v : V} (h : ∀ G, Rp K G d v) : EV K (tC v) env d := fun σ G H Q gh _ k => k v G H (.refl gh) (h G)
theorem ev_int {i : Int} : EV K (tC (.int i)) env (.int i) := ev_c fun _ => rp_int.mpr rfl
theorem ev_bl {i : Bool} : EV K (tC (.bl i)) env (.bl i) := ev_c fun _ => rp_bl.mpr rfl
theorem ev_str {i : Str} : EV K (tC (.str i)) env (.str i) := ev_c fun _ => rp_str.mpr rfl
theorem ev_non : EV K (tC .non) env .non := ev_c fun _ => rp_non.mpr rfl
theorem ev_op (ha : EV K ta env d1) (hb : EV K tb env d2) (hr : RD K r d1 d2 d) : EV K (tOp r ta tb) env d := fun σ G H Q gh eo k =>
  ha σ G H _ gh eo fun x G1 H1 s1 r1 => hb σ G1 H1 _ s1.gh (eo.mono s1.gg) fun y G2 H2 s2 r2 =>
    hr x y G2 H2 Q s2.gh (Rp.mono s2.gg _ _ r1) r2 fun v G3 H3 s3 r3 => k v G3 H3 ((s1.trans s2).trans s3) r3
theorem ev_un {r : V → Hp → VK → Prop} (ha : EV K ta env d1) (hr : ∀ x G H Q, Same G H → Rp K G d1 x → (∀ v G' H', Step G H G' H' → Rp K G' d v → Q v H') → r x H Q) : EV K (tUn r ta) env d := fun σ G H Q gh eo k =>
  ha σ G H _ gh eo fun x G1 H1 s1 r1 => hr x G1 H1 Q s1.gh r1 fun v G3 H3 s3 r3 => k v G3 H3 (s1.trans s3) r3
theorem ev_neg {i : Int} (ha : EV K ta env (.int i)) : EV K (tUn (rU fun i => .int (-i)) ta) env (.int (-i)) := ev_un ha fun x G H Q gh r1 k => ⟨i, rp_int.mp r1, k _ G H (.refl gh) (rp_int.mpr rfl)⟩
theorem ev_is (h : EV K te env d) (e : d = d1) : EV K te env d1 := e ▸ h
theorem ea_nil : EA K tNil env [] := fun σ G H Q gh _ k => k [] G H (.refl gh) (rpl_nil.mpr rfl)
theorem ea_cons {tr : TA} (h : EV K te env d) (hr : EA K tr env ds) : EA K (tCons te tr) env (d :: ds) := fun σ G H Q gh eo k =>
  h σ G H _ gh eo fun x G1 H1 s1 r1 => hr σ G1 H1 _ s1.gh (eo.mono s1.gg) fun xs G2 H2 s2 r2 => k _ G2 H2 (s1.trans s2) (rpl_cons.mpr ⟨x, xs, rfl, Rp.mono s2.gg _ _ r1, r2⟩)
theorem sz_of {n : Nat} (h : n ≤ 100000) : n ≤ sizeLine := Nat.le_trans h (by decide)
theorem sz_lt {n : Nat} (h : n < 100000) : n < sizeLine := Nat.lt_of_lt_of_le h (by decide)
theorem ev_tup {t : TA} (h : EA K t env ds) (hl : ds.length ≤ 100000) : EV K (tTup t) env (.tup ds) := fun σ G H Q gh eo k =>
  h σ G H _ gh eo fun xs G1 H1 s1 r1 => ⟨sz_of (by rw [rpl_len r1]; exact hl), fun p hp => by
    have st := Step.new (o := .tup xs) s1.gh hp
    exact k _ _ _ (s1.trans st) (rp_tup.mpr ⟨p, xs, rfl, SqT.of upd_same, RpL.mono st.gg _ _ r1⟩)⟩
theorem ev_lst {t : TA} (h : EA K t env ds) (hl : ds.length ≤ 100000) : EV K (tLst t) env (.lst ds) := fun σ G H Q gh eo k =>
  h σ G H _ gh eo fun xs G1 H1 s1 r1 => ⟨sz_of (by rw [rpl_len r1]; exact hl), fun p hp => by
    have st := Step.new (o := .lst xs) s1.gh hp
    exact k _ _ _ (s1.trans st) (rp_lst.mpr ⟨p, xs, rfl, upd_same, RpL.mono st.gg _ _ r1⟩)⟩
/-! ints -/
theorem rd_I0 {g : Int → Int → V} {i j : Int} (h : ∀ G, Rp K G d (g i j)) : RD K (rI0 g) (.int i) (.int j) d := fun x y G H Q gh r1 r2 k =>
  ⟨i, j, rp_int.mp r1, rp_int.mp r2, k _ G H (.refl gh) (h G)⟩
theorem rd_I {C : Int → Int → Prop} {g : Int → Int → V} {i j : Int} (hc : C i j) (h : ∀ G, Rp K G d (g i j)) : RD K (rI C g) (.int i) (.int j) d := fun x y G H Q gh r1 r2 k =>
  ⟨i, j, rp_int.mp r1, rp_int.mp r2, hc, k _ G H (.refl gh) (h G)⟩
/-! generic operators -/
def rAddG : R2 := fun x y H Q => rI0 (fun i j => .int (i + j)) x y H Q ∨ rCat x y H Q
def rMulG : R2 := fun x y H Q => rI CMul (fun i j => .int (i * j)) x y H Q ∨ rRep x y H Q
def rEqG (K : Fr) : R2 := fun x y H Q => rEq x y H Q ∨ rEqD K x y H Q
def rNeG (K : Fr) : R2 := fun x y H Q => rNe x y H Q ∨ rNeD K x y H Q
def rIxG (K : Fr) : R2 := fun x y H Q => rIxL K x y H Q ∨ rIxT K x y H Q
def rSlG (K : Fr) : V → Option Int → Option Int → Hp → VK → Prop := fun x lo hi H Q => rSlL K x lo hi H Q ∨ rSlT K x lo hi H Q
theorem op_addG {X : Cx} : OpR X (binaryOp .Add) rAddG := op_add.or op_cat
theorem op_mulG {X : Cx} : OpR X (binaryOp .Mult) rMulG := op_mul.or op_rep
theorem op_eqG {X : Cx} (hu : X.A.units + 64 < cLine) : OpR X (compareOp .Eq) (rEqG X.K) := op_eq.or (op_eqD hu)
theorem op_neG {X : Cx} (hu : X.A.units + 64 < cLine) : OpR X (compareOp .NotEq) (rNeG X.K) := op_ne.or (op_neD hu)
theorem ix_G {X : Cx} : IxR X (rIxG X.K) := ix_list.or ix_tup
theorem sl_G {X : Cx} : SlR X (rSlG X.K) := sl_list.or sl_tup
theorem pe_never {X : Cx} {e : Expr} : PE X e (fun _ _ _ => False) := ⟨fun _ _ _ _ _ _ h => h.elim⟩

theorem rd_addI {i j : Int} : RD K rAddG (.int i) (.int j) (.int (i + j)) := fun x y G H Q gh r1 r2 k => .inl (rd_I0 (K := K) (d := .int (i + j)) (fun _ => rp_int.mpr rfl) x y G H Q gh r1 r2 k)
theorem rd_addL {xs ys : List Dt} (hl : xs.length + ys.length ≤ 100000) : RD K rAddG (.lst xs) (.lst ys) (.lst (xs ++ ys)) := fun x y G H Q gh r1 r2 k => by
  obtain ⟨a, us, e1, e2, e3⟩ := rp_lst.mp r1
  obtain ⟨b, ws, f1, f2, f3⟩ := rp_lst.mp r2
  refine .inr ⟨a, b, us, ws, e1, f1, gh _ _ e2, gh _ _ f2, sz_of (by rw [rpl_len e3, rpl_len f3]; exact hl), fun p hp => ?_⟩
  have st := Step.new (o := .lst (us ++ ws)) gh hp
  exact k _ _ _ st (rp_lst.mpr ⟨p, _, rfl, upd_same, rpl_app (RpL.mono st.gg _ _ e3) (RpL.mono st.gg _ _ f3)⟩)
theorem rd_mulI {i j : Int} (hc : CMul i j) : RD K rMulG (.int i) (.int j) (.int (i * j)) := fun x y G H Q gh r1 r2 k => .inl (rd_I (K := K) (d := .int (i * j)) hc (fun _ => rp_int.mpr rfl) x y G H Q gh r1 r2 k)
theorem rd_sub {i j : Int} : RD K (rI0 fun i j => .int (i - j)) (.int i) (.int j) (.int (i - j)) := rd_I0 fun _ => rp_int.mpr rfl
theorem rd_fdiv {i j : Int} (hc : CDiv i j) : RD K (rI CDiv fun i j => .int (i / j)) (.int i) (.int j) (.int (i / j)) := rd_I hc fun _ => rp_int.mpr rfl
theorem rd_mod {i j : Int} (hc : 0 < j) : RD K (rI (fun _ j => 0 < j) fun i j => .int (i % j)) (.int i) (.int j) (.int (i % j)) := rd_I (C := fun _ j => 0 < j) hc fun _ => rp_int.mpr rfl
theorem rd_lt {i j : Int} : RD K (rI0 fun i j => .bl (decide (i < j))) (.int i) (.int j) (.bl (decide (i < j))) := rd_I0 fun _ => rp_bl.mpr rfl
theorem rd_le {i j : Int} : RD K (rI0 fun i j => .bl (decide (i ≤ j))) (.int i) (.int j) (.bl (decide (i ≤ j))) := rd_I0 fun _ => rp_bl.mpr rfl
theorem rd_gt {i j : Int} : RD K (rI0 fun i j => .bl (decide (j < i))) (.int i) (.int j) (.bl (decide (j < i))) := rd_I0 fun _ => rp_bl.mpr rfl
theorem rd_ge {i j : Int} : RD K (rI0 fun i j => .bl (decide (j ≤ i))) (.int i) (.int j) (.bl (decide (j ≤ i))) := rd_I0 fun _ => rp_bl.mpr rfl
/-! == of data -/
mutual
def toPy : Dt → PyData
  | .non => .none
  | .bl b => .bool b
  | .int i => .int i
  | .str x => .str x
  | .lst xs => .list (toPyL xs)
  | .tup xs => .tuple (toPyL xs)
  | .obj _ _ _ => .none
  | .dic _ => .none
  | .raw _ => .none
def toPyL : List Dt → List PyData
  | [] => []
  | d :: ds => toPy d :: toPyL ds
end
mutual
def plain : Dt → Bool
  | .non => true
  | .bl _ => true
  | .int _ => true
  | .str _ => true
  | .lst xs => plainL xs
  | .tup xs => plainL xs
  | .obj _ _ _ => false
  | .dic _ => false
  | .raw _ => false
def plainL : List Dt → Bool
  | [] => true
  | d :: ds => plain d && plainL ds
end
mutual
theorem dp_of {H : Hp} : ∀ (d : Dt) (v : V), plain d = true → Rp K H d v → Dp K H v (toPy d)
  | .non, v, _, h => by rw [rp_non.mp h]; unfold toPy; exact .non
  | .bl b, v, _, h => by rw [rp_bl.mp h]; unfold toPy; exact .bl b
  | .int i, v, _, h => by rw [rp_int.mp h]; unfold toPy; exact .int i
  | .str x, v, _, h => by rw [rp_str.mp h]; unfold toPy; exact .str x
  | .lst ds, v, p, h => by
    obtain ⟨a, xs, rfl, e2, e3⟩ := rp_lst.mp h
    unfold plain at p; unfold toPy
    exact .lst (SqL.of e2) (dpAll_of ds xs p e3)
  | .tup ds, v, p, h => by
    obtain ⟨a, xs, rfl, e2, e3⟩ := rp_tup.mp h
    unfold plain at p; unfold toPy
    exact .tup e2 (dpAll_of ds xs p e3)
  | .obj _ _ _, _, p, _ => by unfold plain at p; cases p
  | .dic _, _, p, _ => by unfold plain at p; cases p
  | .raw _, _, p, _ => by unfold plain at p; cases p
theorem dpAll_of {H : Hp} : ∀ (ds : List Dt) (xs : List V), plainL ds = true → RpL K H ds xs → DpAll K H xs (toPyL ds)
  | [], xs, _, h => by rw [rpl_nil.mp h]; unfold toPyL; exact .nil
  | d :: ds, xs, p, h => by
    obtain ⟨x, r, rfl, e1, e2⟩ := rpl_cons.mp h
    unfold plainL at p
    obtain ⟨p1, p2⟩ := Bool.and_eq_true_iff.mp p
    unfold toPyL
    exact .cons (dp_of d x p1 e1) (dpAll_of ds r p2 e2)
end
theorem rd_eqD (h1 : plain d1 = true) (h2 : plain d2 = true) (s1 : SeqAt.shaped (toPy d1) = true) (s2 : SeqAt.shaped (toPy d2) = true) : RD K (rEqG K) d1 d2 (.bl (PyData.eqv (toPy d1) (toPy d2))) := fun x y G H Q gh r1 r2 k =>
  .inr ⟨_, _, dp_of d1 x h1 (Rp.mono gh _ _ r1), dp_of d2 y h2 (Rp.mono gh _ _ r2), s1, s2, k _ G H (.refl gh) (rp_bl.mpr rfl)⟩
theorem rd_neD (h1 : plain d1 = true) (h2 : plain d2 = true) (s1 : SeqAt.shaped (toPy d1) = true) (s2 : SeqAt.shaped (toPy d2) = true) : RD K (rNeG K) d1 d2 (.bl (!PyData.eqv (toPy d1) (toPy d2))) := fun x y G H Q gh r1 r2 k =>
  .inr ⟨_, _, dp_of d1 x h1 (Rp.mono gh _ _ r1), dp_of d2 y h2 (Rp.mono gh _ _ r2), s1, s2, k _ G H (.refl gh) (rp_bl.mpr rfl)⟩
theorem rd_eqI {i j : Int} : RD K (rEqG K) (.int i) (.int j) (.bl (decide (i = j))) := fun x y G H Q gh r1 r2 k => by
  rw [rp_int.mp r1, rp_int.mp r2]
  refine .inl ⟨rfl, k _ G H (.refl gh) (rp_bl.mpr ?_)⟩
  rw [dec_int, Bool.beq_eq_decide_eq]
theorem rd_neI {i j : Int} : RD K (rNeG K) (.int i) (.int j) (.bl (!decide (i = j))) := fun x y G H Q gh r1 r2 k => by
  rw [rp_int.mp r1, rp_int.mp r2]
  refine .inl ⟨rfl, k _ G H (.refl gh) (rp_bl.mpr ?_)⟩
  rw [dec_int, Bool.beq_eq_decide_eq]
theorem rd_eqS {i j : Str} : RD K (rEqG K) (.str i) (.str j) (.bl (decide (i = j))) := fun x y G H Q gh r1 r2 k => by
  rw [rp_str.mp r1, rp_str.mp r2]
  refine .inl ⟨rfl, k _ G H (.refl gh) (rp_bl.mpr ?_)⟩
  rw [dec_str]
  by_cases h : i = j
  · subst h; simp
  · rw [decide_eq_false h]; exact congrArg V.bl (beq_eq_false_iff_ne.mpr h)
theorem rd_isN (e : (d1 = .non ∧ d = .bl true) ∨ (∃ i, d1 = .int i ∧ d = .bl false)) : RD K (fun x y H Q => y = .non ∧ Q (.bl (decide (x = .non))) H) d1 .non d := fun x y G H Q gh r1 r2 k => by
  refine ⟨rp_non.mp r2, k _ G H (.refl gh) ?_⟩
  rcases e with ⟨rfl, rfl⟩ | ⟨i, rfl, rfl⟩
  · rw [rp_non.mp r1]; exact rp_bl.mpr rfl
  · rw [rp_int.mp r1]; exact rp_bl.mpr rfl
/-! subscripts -/
theorem atI_ok {xs : List V} {ds : List Dt} {G : Hp} {i : Int} (h : RpL K G ds xs) (e : atI ds i = some d) : ∃ v, atI xs i = some v ∧ Rp K G d v := by
  unfold atI at e ⊢
  rw [rpl_len h]
  cases q : ixN ds.length i with
  | none => rw [q] at e; cases e
  | some j =>
    rw [q] at e
    exact rpl_get h e
theorem rd_ixL {i : Int} (e : atI ds i = some d) : RD K (rIxG K) (.lst ds) (.int i) d := fun x y G H Q gh r1 r2 k => by
  obtain ⟨a, xs, e1, e2, e3⟩ := rp_lst.mp r1
  obtain ⟨v, f1, f2⟩ := atI_ok e3 e
  exact .inl ⟨a, xs, i, v, e1, rp_int.mp r2, SqL.of (gh _ _ e2), f1, k v G H (.refl gh) f2⟩
theorem rd_ixT {i : Int} (e : atI ds i = some d) : RD K (rIxG K) (.tup ds) (.int i) d := fun x y G H Q gh r1 r2 k => by
  obtain ⟨a, xs, e1, e2, e3⟩ := rp_tup.mp r1
  obtain ⟨v, f1, f2⟩ := atI_ok e3 e
  exact .inr ⟨a, xs, i, v, e1, rp_int.mp r2, sqT_mono gh e2, f1, k v G H (.refl gh) f2⟩
/-! slices -/
theorem eo_none : EO K tNoPart env none := fun σ G H Q gh _ k => k G H (.refl gh)
theorem eo_some {i : Int} (h : EV K te env (.int i)) : EO K (tPart te) env (some i) := fun σ G H Q gh eo k =>
  h σ G H _ gh eo fun v G1 H1 s1 r1 => ⟨i, rp_int.mp r1, k G1 H1 s1⟩
def cutD (xs : List Dt) (lo hi : Option Int) : List Dt := (xs.drop (HT.sIx xs.length 0 lo)).take (HT.sIx xs.length xs.length hi - HT.sIx xs.length 0 lo)
theorem rpl_cut {G : Hp} {xs : List V} {lo hi : Option Int} (h : RpL K G ds xs) : RpL K G (cutD ds lo hi) (cutV xs lo hi) := by
  unfold cutD cutV
  rw [rpl_len h]
  exact rpl_take _ (rpl_drop _ h)
theorem ev_slL {tl th : TO} {lo hi : Option Int} (he : EV K te env (.lst ds)) (hl : EO K tl env lo) (hh : EO K th env hi) : EV K (tSl (rSlG K) te tl th) env (.lst (cutD ds lo hi)) := fun σ G H Q gh eo k =>
  he σ G H _ gh eo fun x G1 H1 s1 r1 => hl σ G1 H1 _ s1.gh (eo.mono s1.gg) fun G2 H2 s2 => hh σ G2 H2 _ s2.gh (eo.mono (s1.trans s2).gg) fun G3 H3 s3 => by
    obtain ⟨a, xs, e1, e2, e3⟩ := rp_lst.mp (Rp.mono (s2.trans s3).gg _ _ r1)
    refine .inl ⟨a, xs, e1, SqL.of (s3.gh _ _ e2), fun p hp => ?_⟩
    have st := Step.new (o := .lst (cutV xs lo hi)) s3.gh hp
    exact k _ _ _ (((s1.trans s2).trans s3).trans st) (rp_lst.mpr ⟨p, _, rfl, upd_same, rpl_cut (RpL.mono st.gg _ _ e3)⟩)
theorem ev_slT {tl th : TO} {lo hi : Option Int} (he : EV K te env (.tup ds)) (hl : EO K tl env lo) (hh : EO K th env hi) (hne : ¬ (HT.sIx ds.length 0 lo = 0 ∧ HT.sIx ds.length ds.length hi = ds.length)) : EV K (tSl (rSlG K) te tl th) env (.tup (cutD ds lo hi)) := fun σ G H Q gh eo k =>
  he σ G H _ gh eo fun x G1 H1 s1 r1 => hl σ G1 H1 _ s1.gh (eo.mono s1.gg) fun G2 H2 s2 => hh σ G2 H2 _ s2.gh (eo.mono (s1.trans s2).gg) fun G3 H3 s3 => by
    obtain ⟨a, xs, e1, e2, e3⟩ := rp_tup.mp (Rp.mono (s2.trans s3).gg _ _ r1)
    refine .inr ⟨a, xs, e1, sqT_mono s3.gh e2, by rw [rpl_len e3]; exact hne, fun p hp => ?_⟩
    have st := Step.new (o := .tup (cutV xs lo hi)) s3.gh hp
    exact k _ _ _ (((s1.trans s2).trans s3).trans st) (rp_tup.mpr ⟨p, _, rfl, SqT.of upd_same, rpl_cut (RpL.mono st.gg _ _ e3)⟩)
/-! calls of built-ins -/
theorem ev_cb {r : List V → Hp → VK → Prop} {t : TA} (h : EA K t env ds) (hr : RC K r ds d) : EV K (tCB r t) env d := fun σ G H Q gh eo k =>
  h σ G H _ gh eo fun xs G1 H1 s1 r1 => hr xs G1 H1 Q s1.gh r1 fun v G2 H2 s2 r2 => k v G2 H2 (s1.trans s2) r2
def rLenG (K : Fr) : List V → Hp → VK → Prop := fun xs H Q => ∃ x n, xs = [x] ∧ LenV K x H n ∧ Q (.int n) H
theorem c_len {X : Cx} : CallR X (.builtin "len") (rLenG X.K) := call_len
theorem rpl1 {G : Hp} {xs : List V} (h : RpL K G [d1] xs) : ∃ x, xs = [x] ∧ Rp K G d1 x := by
  obtain ⟨x, r, rfl, h1, h2⟩ := rpl_cons.mp h
  rw [rpl_nil.mp h2]
  exact ⟨x, rfl, h1⟩
theorem rpl2 {G : Hp} {xs : List V} (h : RpL K G [d1, d2] xs) : ∃ x y, xs = [x, y] ∧ Rp K G d1 x ∧ Rp K G d2 y := by
  obtain ⟨x, r, rfl, h1, h2⟩ := rpl_cons.mp h
  obtain ⟨y, rfl, h3⟩ := rpl1 h2
  exact ⟨x, y, rfl, h1, h3⟩
theorem rc_lenL : RC K (rLenG K) [.lst ds] (.int ds.length) := fun xs G H Q gh r k => by
  obtain ⟨x, rfl, h1⟩ := rpl1 r
  obtain ⟨a, us, rfl, e2, e3⟩ := rp_lst.mp h1
  exact ⟨_, us.length, rfl, .inl ⟨us, SqL.of (gh _ _ e2), rfl⟩, k _ G H (.refl gh) (rp_int.mpr (by rw [rpl_len e3]))⟩
theorem rc_lenT : RC K (rLenG K) [.tup ds] (.int ds.length) := fun xs G H Q gh r k => by
  obtain ⟨x, rfl, h1⟩ := rpl1 r
  obtain ⟨a, us, rfl, e2, e3⟩ := rp_tup.mp h1
  exact ⟨_, us.length, rfl, .inr ⟨us, sqT_mono gh e2, rfl⟩, k _ G H (.refl gh) (rp_int.mpr (by rw [rpl_len e3]))⟩
def rMax2G : List V → Hp → VK → Prop := fun xs H Q => ∃ i j, xs = [.int i, .int j] ∧ Q (.int (if j > i then j else i)) H
def rMin2G : List V → Hp → VK → Prop := fun xs H Q => ∃ i j, xs = [.int i, .int j] ∧ Q (.int (if j < i then j else i)) H
theorem c_max2 {X : Cx} (hc : X.calm = true) : CallR X (.builtin "max") rMax2G := call_max2 hc
theorem c_min2 {X : Cx} (hc : X.calm = true) : CallR X (.builtin "min") rMin2G := call_min2 hc
theorem rc_max2 {i j : Int} : RC K rMax2G [.int i, .int j] (.int (max i j)) := fun xs G H Q gh r k => by
  obtain ⟨x, y, rfl, h1, h2⟩ := rpl2 r
  rw [rp_int.mp h1, rp_int.mp h2]
  refine ⟨i, j, rfl, k _ G H (.refl gh) (rp_int.mpr ?_)⟩
  congr 1
  split <;> omega
theorem rc_min2 {i j : Int} : RC K rMin2G [.int i, .int j] (.int (min i j)) := fun xs G H Q gh r k => by
  obtain ⟨x, y, rfl, h1, h2⟩ := rpl2 r
  rw [rp_int.mp h1, rp_int.mp h2]
  refine ⟨i, j, rfl, k _ G H (.refl gh) (rp_int.mpr ?_)⟩
  congr 1
  split <;> omega
/-- max, min, sum, all of one list -/
theorem rc_sum {ns : List Int} : RC K (rSum K) [.lst (ns.map Dt.int)] (.int ns.sum) := fun xs G H Q gh r k => by
  obtain ⟨x, rfl, h1⟩ := rpl1 r
  obtain ⟨a, us, rfl, e2, e3⟩ := rp_lst.mp h1
  rw [rpl_ints.mp e3] at e2
  exact ⟨a, ns, rfl, SqL.of (gh _ _ e2), k _ G H (.refl gh) (rp_int.mpr rfl)⟩
theorem rc_min {ns : List Int} {m : Int} (h0 : 0 < ns.length) (hm : ∀ m', m' ∈ ns → (∀ y, y ∈ ns → m' ≤ y) → m' = m) : RC K (rMin K) [.lst (ns.map Dt.int)] (.int m) := fun xs G H Q gh r k => by
  obtain ⟨x, rfl, h1⟩ := rpl1 r
  obtain ⟨a, us, rfl, e2, e3⟩ := rp_lst.mp h1
  rw [rpl_ints.mp e3] at e2
  exact ⟨a, ns, rfl, SqL.of (gh _ _ e2), h0, fun m' a1 a2 => k _ G H (.refl gh) (rp_int.mpr (by rw [hm m' a1 a2]))⟩
theorem rc_max {ns : List Int} {m : Int} (h0 : 0 < ns.length) (hm : ∀ m', m' ∈ ns → (∀ y, y ∈ ns → y ≤ m') → m' = m) : RC K (rMax K) [.lst (ns.map Dt.int)] (.int m) := fun xs G H Q gh r k => by
  obtain ⟨x, rfl, h1⟩ := rpl1 r
  obtain ⟨a, us, rfl, e2, e3⟩ := rp_lst.mp h1
  rw [rpl_ints.mp e3] at e2
  exact ⟨a, ns, rfl, SqL.of (gh _ _ e2), h0, fun m' a1 a2 => k _ G H (.refl gh) (rp_int.mpr (by rw [hm m' a1 a2]))⟩
theorem rc_all {bs : List Bool} : RC K (rAll K) [.lst (bs.map Dt.bl)] (.bl (bs.all id)) := fun xs G H Q gh r k => by
  obtain ⟨x, rfl, h1⟩ := rpl1 r
  obtain ⟨a, us, rfl, e2, e3⟩ := rp_lst.mp h1
  rw [rpl_bls.mp e3] at e2
  exact ⟨a, bs, rfl, SqL.of (gh _ _ e2), k _ G H (.refl gh) (rp_bl.mpr rfl)⟩
def rDivmodG : List V → Hp → VK → Prop := fun xs H Q => ∃ i j, xs = [.int i, .int j] ∧ CDiv i j ∧ ∀ p, H p = none → Q (.ref p) (upd H p (.tup [.int (i / j), .int (i % j)]))
theorem c_divmod {X : Cx} : CallR X (.builtin "divmod") rDivmodG := call_divmod
theorem rc_divmod {i j : Int} (hc : CDiv i j) : RC K rDivmodG [.int i, .int j] (.tup [.int (i / j), .int (i % j)]) := fun xs G H Q gh r k => by
  obtain ⟨x, y, rfl, h1, h2⟩ := rpl2 r
  rw [rp_int.mp h1, rp_int.mp h2]
  refine ⟨i, j, rfl, hc, fun p hp => ?_⟩
  have st := Step.new (o := .tup [.int (i / j), .int (i % j)]) gh hp
  exact k _ _ _ st (rp_tup.mpr ⟨p, _, rfl, SqT.of upd_same, rpl_cons.mpr ⟨_, _, rfl, rp_int.mpr rfl, rpl_cons.mpr ⟨_, _, rfl, rp_int.mpr rfl, rpl_nil.mpr rfl⟩⟩⟩)
def rIntG : List V → Hp → VK → Prop := fun xs H Q => (∃ i, xs = [.int i] ∧ Q (.int i) H) ∨ ∃ k, xs = [.bl k] ∧ Q (.int (if k then 1 else 0)) H
theorem c_int {X : Cx} : CallR X (.type "int") rIntG := call_int1
theorem rc_intI {i : Int} : RC K rIntG [.int i] (.int i) := fun xs G H Q gh r k => by
  obtain ⟨x, rfl, h1⟩ := rpl1 r
  rw [rp_int.mp h1]
  exact .inl ⟨i, rfl, k _ G H (.refl gh) (rp_int.mpr rfl)⟩
theorem rc_intB {b : Bool} : RC K rIntG [.bl b] (.int (if b then 1 else 0)) := fun xs G H Q gh r k => by
  obtain ⟨x, rfl, h1⟩ := rpl1 r
  rw [rp_bl.mp h1]
  exact .inr ⟨b, rfl, k _ G H (.refl gh) (rp_int.mpr rfl)⟩
def rListG (K : Fr) : List V → Hp → VK → Prop := fun xs H Q => ∃ p ys, xs = [.ref p] ∧ (SqL K H p ys ∨ SqT K H p ys) ∧ ∀ l, H l = none → Q (.ref l) (upd H l (.lst ys))
theorem c_list {X : Cx} : CallR X (.type "list") (rListG X.K) := call_list_of
theorem rc_listL : RC K (rListG K) [.lst ds] (.lst ds) := fun xs G H Q gh r k => by
  obtain ⟨x, rfl, h1⟩ := rpl1 r
  obtain ⟨a, us, rfl, e2, e3⟩ := rp_lst.mp h1
  refine ⟨a, us, rfl, .inl (SqL.of (gh _ _ e2)), fun p hp => ?_⟩
  have st := Step.new (o := .lst us) gh hp
  exact k _ _ _ st (rp_lst.mpr ⟨p, us, rfl, upd_same, RpL.mono st.gg _ _ e3⟩)
def rTupleG (K : Fr) : List V → Hp → VK → Prop := fun xs H Q => ∃ p ys, xs = [.ref p] ∧ ((SqL K H p ys ∧ ∀ l, H l = none → Q (.ref l) (upd H l (.tup ys))) ∨ (SqT K H p ys ∧ Q (.ref p) H))
theorem c_tuple {X : Cx} : CallR X (.type "tuple") (rTupleG X.K) := call_tuple_of
theorem rc_tupleL : RC K (rTupleG K) [.lst ds] (.tup ds) := fun xs G H Q gh r k => by
  obtain ⟨x, rfl, h1⟩ := rpl1 r
  obtain ⟨a, us, rfl, e2, e3⟩ := rp_lst.mp h1
  refine ⟨a, us, rfl, .inl ⟨SqL.of (gh _ _ e2), fun p hp => ?_⟩⟩
  have st := Step.new (o := .tup us) gh hp
  exact k _ _ _ st (rp_tup.mpr ⟨p, us, rfl, SqT.of upd_same, RpL.mono st.gg _ _ e3⟩)
def rAbsG : List V → Hp → VK → Prop := fun xs H Q => ∃ i, xs = [.int i] ∧ Q (.int (if i < 0 then -i else i)) H
theorem c_abs {X : Cx} : CallR X (.builtin "abs") rAbsG := call_abs
theorem rc_abs {i : Int} : RC K rAbsG [.int i] (.int (if i < 0 then -i else i)) := fun xs G H Q gh r k => by
  obtain ⟨x, rfl, h1⟩ := rpl1 r
  rw [rp_int.mp h1]
  exact ⟨i, rfl, k _ G H (.refl gh) (rp_int.mpr rfl)⟩
/-! tests -/
theorem et_test {b : Bool} (h : EV K te env (.bl b)) : ET K (tTest te) env b := fun σ G H Q gh eo k =>
  h σ G H _ gh eo fun v G1 H1 s1 r1 => ⟨b, rp_bl.mp r1, k G1 H1 s1⟩
theorem et_B {b : Bool} (h : EV K te env (.bl b)) : ET K (tB te) env b := fun σ G H Q gh eo k =>
  h σ G H _ gh eo fun v G1 H1 s1 r1 => ⟨b, rp_bl.mp r1, k G1 H1 s1⟩
theorem et_not {b : Bool} (h : ET K tt env b) : ET K (tNot tt) env (!b) := fun σ G H Q gh eo k => h σ G H _ gh eo fun G1 H1 s1 => k G1 H1 s1
theorem et_and {a b : Bool} (h1 : ET K tt env a) (h2 : a = true → ET K tu env b) : ET K (tAnd tt tu) env (a && b) := fun σ G H Q gh eo k => h1 σ G H _ gh eo fun G1 H1 s1 => by
  cases a with
  | true =>
    show tu σ H1 Q
    exact h2 rfl σ G1 H1 Q s1.gh (eo.mono s1.gg) fun G2 H2 s2 => k G2 H2 (s1.trans s2)
  | false =>
    show Q false H1
    exact k G1 H1 s1
theorem et_or {a b : Bool} (h1 : ET K tt env a) (h2 : a = false → ET K tu env b) : ET K (tOr tt tu) env (a || b) := fun σ G H Q gh eo k => h1 σ G H _ gh eo fun G1 H1 s1 => by
  cases a with
  | true =>
    show Q true H1
    exact k G1 H1 s1
  | false =>
    show tu σ H1 Q
    exact h2 rfl σ G1 H1 Q s1.gh (eo.mono s1.gg) fun G2 H2 s2 => k G2 H2 (s1.trans s2)
theorem et_is {a b : Bool} (h : ET K tt env a) (e : a = b) : ET K tt env b := e ▸ h
theorem et_yes : ET K tYes env true := fun σ G H Q gh _ k => k G H (.refl gh)
theorem ev_and {a b : Bool} (h1 : EV K ta env (.bl a)) (h2 : a = true → EV K tb env (.bl b)) : EV K (tAndV ta tb) env (.bl (a && b)) := fun σ G H Q gh eo k => h1 σ G H _ gh eo fun v G1 H1 s1 r1 => ⟨a, rp_bl.mp r1, by
  cases a with
  | true =>
    show tb σ H1 Q
    exact h2 rfl σ G1 H1 Q s1.gh (eo.mono s1.gg) fun v G2 H2 s2 r2 => k v G2 H2 (s1.trans s2) r2
  | false =>
    show Q (.bl false) H1
    exact k _ G1 H1 s1 (rp_bl.mpr rfl)⟩
theorem ev_or {a b : Bool} (h1 : EV K ta env (.bl a)) (h2 : a = false → EV K tb env (.bl b)) : EV K (tOrV ta tb) env (.bl (a || b)) := fun σ G H Q gh eo k => h1 σ G H _ gh eo fun v G1 H1 s1 r1 => ⟨a, rp_bl.mp r1, by
  cases a with
  | true =>
    show Q (.bl true) H1
    exact k _ G1 H1 s1 (rp_bl.mpr rfl)
  | false =>
    show tb σ H1 Q
    exact h2 rfl σ G1 H1 Q s1.gh (eo.mono s1.gg) fun v G2 H2 s2 r2 => k v G2 H2 (s1.trans s2) r2⟩
theorem ev_if {b : Bool} (h : ET K tt env b) (h1 : b = true → EV K ta env d) (h2 : b = false → EV K tb env d) : EV K (tIf tt ta tb) env d := fun σ G H Q gh eo k => h σ G H _ gh eo fun G1 H1 s1 => by
  cases b with
  | true =>
    show ta σ H1 Q
    exact h1 rfl σ G1 H1 Q s1.gh (eo.mono s1.gg) fun v G2 H2 s2 r2 => k v G2 H2 (s1.trans s2) r2
  | false =>
    show tb σ H1 Q
    exact h2 rfl σ G1 H1 Q s1.gh (eo.mono s1.gg) fun v G2 H2 s2 r2 => k v G2 H2 (s1.trans s2) r2
/-! membership in a list or tuple of flat things -/
def flatD : Dt → Bool
  | .non => true
  | .bl _ => true
  | .int _ => true
  | .str _ => true
  | _ => false
def vOf : Dt → V
  | .non => .non
  | .bl b => .bl b
  | .int i => .int i
  | .str x => .str x
  | .raw v => v
  | _ => .non
theorem vOf_ok {G : Hp} {v : V} (h : flatD d = true) (r : Rp K G d v) : v = vOf d := by
  cases d with
  | non => exact rp_non.mp r
  | bl b => exact rp_bl.mp r
  | int i => exact rp_int.mp r
  | str x => exact rp_str.mp r
  | lst _ => cases h
  | tup _ => cases h
  | obj _ _ _ => cases h
  | dic _ => cases h
  | raw _ => cases h
theorem vOf_all {G : Hp} : ∀ {ds : List Dt} {xs : List V}, ds.all flatD = true → RpL K G ds xs → xs = ds.map vOf
  | [], xs, _, r => rpl_nil.mp r
  | d :: ds, xs, h, r => by
    obtain ⟨x, q, rfl, h1, h2⟩ := rpl_cons.mp r
    rw [List.all_cons, Bool.and_eq_true_iff] at h
    rw [vOf_ok h.1 h1, vOf_all h.2 h2]; rfl
theorem rd_inT (h1 : flatD d1 = true) (h2 : ds.all flatD = true) (h3 : flatV (vOf d1) = true) (h4 : (ds.map vOf).all flatV = true) : RD K (rIn K false) d1 (.tup ds) (.bl (inV (vOf d1) (ds.map vOf))) := fun x y G H Q gh r1 r2 k => by
  obtain ⟨a, xs, rfl, e2, e3⟩ := rp_tup.mp r2
  rw [vOf_all h2 e3] at e2
  rw [vOf_ok h1 r1]
  exact ⟨a, _, rfl, .inr (sqT_mono gh e2), h3, h4, k _ G H (.refl gh) (rp_bl.mpr rfl)⟩
/-! fields, calls -/
def fldIx : List Str → Str → Option Nat
  | [], _ => none
  | n :: ns, f => if f = n then some 0 else (fldIx ns f).map (· + 1)
theorem look_zip {f : Str} : ∀ {ns : List Str} {xs : List V} {i : Nat} {v : V}, fldIx ns f = some i → xs[i]? = some v → (ns.zip xs).lookup f = some v
  | [], _, _, _, h, _ => by cases h
  | n :: ns, [], i, v, h, e => by simp at e
  | n :: ns, x :: xs, i, v, h, e => by
    unfold fldIx at h
    rw [List.zip_cons_cons, List.lookup_cons]
    split at h
    · rename_i q
      cases h
      have e' : x = v := by simpa using e
      rw [q, e']; simp
    · rename_i q
      obtain ⟨j, h1, rfl⟩ := Option.map_eq_some_iff.mp h
      have : (f == n) = false := beq_eq_false_iff_ne.mpr q
      rw [this]
      exact look_zip h1 (by simpa using e)
theorem look_none {f : Str} : ∀ {ns : List Str} {xs : List V}, fldIx ns f = none → (ns.zip xs).lookup f = none
  | [], _, _ => by simp
  | n :: ns, [], _ => by simp
  | n :: ns, x :: xs, h => by
    unfold fldIx at h
    rw [List.zip_cons_cons, List.lookup_cons]
    split at h
    · cases h
    · rename_i q
      have : (f == n) = false := beq_eq_false_iff_ne.mpr q
      rw [this]
      exact look_none (by simpa using h)
theorem ev_fld {C : Addr} {ns : List Str} {f : Str} {i : Nat} (h : EV K te env (.obj C ns ds)) (c : Cls K C) (n : NoAttr K C f) (hi : fldIx ns f = some i) (hd : ds[i]? = some d) : EV K (tFld K te f) env d := fun σ G H Q gh eo k =>
  h σ G H _ gh eo fun x G1 H1 s1 r1 => by
    obtain ⟨a, dx, xs, e1, e2, _, e4⟩ := rp_obj.mp r1
    obtain ⟨v, f1, f2⟩ := rpl_get e4 hd
    exact ⟨a, C, dx, _, v, e1, s1.gh _ _ e2, c, n, look_zip hi f1, k v G1 H1 s1 f2⟩
/-- the promise of a def that reads data and gives data -/
def spD (K : Fr) (F : List Dt → Dt → Prop) : Sp := fun vs H Q _ => ∃ ds d G, Same G H ∧ RpL K G ds vs ∧ F ds d ∧ ∀ v G' H', Step G H G' H' → Rp K G' d v → Q v H'
theorem ev_call {F : List Dt → Dt → Prop} {E : XK} {t : TA} (h : EA K t env ds) (hF : F ds d) : EV K (tCall (spD K F) [] E t) env d := fun σ G H Q gh eo k =>
  h σ G H _ gh eo fun xs G1 H1 s1 r1 => ⟨ds, d, G1, s1.gh, by rw [List.append_nil]; exact r1, hF, fun v G2 H2 s2 r2 => k v G2 H2 (s1.trans s2) r2⟩
theorem ev_meth {F : List Dt → Dt → Prop} {E : XK} {C : Addr} {m : Str} {ns : List Str} {fs : List Dt} {t : TA} (ho : EV K te env (.obj C ns fs)) (hn : fldIx ns m = none) (h : EA K t env ds) (hF : F (.obj C ns fs :: ds) d) : EV K (tMeth C m (spD K F) [] E te t) env d := fun σ G H Q gh eo k =>
  ho σ G H _ gh eo fun x G0 H0 s0 r0 => by
    obtain ⟨a, dx, xs, e1, e2, e3, e4⟩ := rp_obj.mp r0
    refine ⟨a, dx, _, e1, s0.gh _ _ e2, look_none hn, ?_⟩
    refine h σ G0 H0 _ s0.gh (eo.mono s0.gg) fun ys G1 H1 s1 r1 => ⟨.obj C ns fs :: ds, d, G1, s1.gh, ?_, hF, fun v G2 H2 s2 r2 => k v G2 H2 ((s0.trans s1).trans s2) r2⟩
    rw [List.append_nil]
    exact rpl_cons.mpr ⟨x, ys, rfl, Rp.mono s1.gg _ _ r0, r1⟩
end
end Lk
set_option Elab.async false
set_option linter.all false
set_option maxRecDepth 100000
set_option maxHeartbeats 4000000
/-! The layer over data: what is walked, comprehensions, targets, statements, a def's promise. -/
namespace Lk
open PySem L2
/-! ### what is walked -/
structure Yields (K : Fr) (J : It) (G1 : Hp) (items : List Dt) : Prop where
  go : ∀ G2 H2, Same G1 G2 → Same G2 H2 → ∀ (i : Nat) d, items[i]? = some d → J.go i H2 ∧ ∀ x H3, J.yld i H2 x H3 → ∃ G3, Step G2 H2 G3 H3 ∧ Rp K G3 d x
  stop : ∀ G2 H2, Same G1 G2 → Same G2 H2 → J.stop items.length H2
def IV (K : Fr) (wi : TI) (env : Env) (items : List Dt) : Prop := ∀ σ G H R, Same G H → EnvOk K G env σ → (∀ J G1 H1, Step G H G1 H1 → Yields K J G1 items → R J H1) → wi σ H R
section
variable {K : Fr} {env : Env} {d d1 d2 : Dt} {ds es : List Dt} {tl : TE} {ta : TA}
theorem iv_list (h : EV K tl env (.lst ds)) : IV K (iList K tl) env ds := fun σ G H R gh eo k =>
  h σ G H _ gh eo fun v G1 H1 s1 r1 => by
    obtain ⟨a, xs, e1, e2, e3⟩ := rp_lst.mp r1
    refine ⟨a, e1, ⟨xs, SqL.of (s1.gh _ _ e2)⟩, k _ G1 H1 s1 ⟨fun G2 H2 g12 gh2 i d hd => ?_, fun G2 H2 g12 gh2 => ?_⟩⟩
    · obtain ⟨x, f1, f2⟩ := rpl_get e3 hd
      have q : SqL K H2 a xs := SqL.of (gh2 _ _ (g12 _ _ e2))
      refine ⟨⟨xs, x, q, f1⟩, fun y H3 ⟨e, z⟩ => ?_⟩
      subst e
      have := z xs q
      rw [f1] at this; cases this
      exact ⟨G2, .refl gh2, Rp.mono g12 _ _ f2⟩
    · exact ⟨xs, SqL.of (gh2 _ _ (g12 _ _ e2)), Nat.le_of_eq (rpl_len e3)⟩
theorem iv_tup (h : EV K tl env (.tup ds)) : IV K (iTup K tl) env ds := fun σ G H R gh eo k =>
  h σ G H _ gh eo fun v G1 H1 s1 r1 => by
    obtain ⟨a, xs, e1, e2, e3⟩ := rp_tup.mp r1
    refine ⟨a, e1, ⟨xs, sqT_mono s1.gh e2⟩, k _ G1 H1 s1 ⟨fun G2 H2 g12 gh2 i d hd => ?_, fun G2 H2 g12 gh2 => ?_⟩⟩
    · obtain ⟨x, f1, f2⟩ := rpl_get e3 hd
      have q : SqT K H2 a xs := sqT_mono (g12.trans gh2) e2
      refine ⟨⟨xs, x, q, f1⟩, fun y H3 ⟨e, z⟩ => ?_⟩
      subst e
      have := z xs q
      rw [f1] at this; cases this
      exact ⟨G2, .refl gh2, Rp.mono g12 _ _ f2⟩
    · exact ⟨xs, sqT_mono (g12.trans gh2) e2, Nat.le_of_eq (rpl_len e3)⟩
def rangeD (lo : Int) (n : Nat) : List Dt := (List.range n).map fun (i : Nat) => Dt.int (lo + (i : Nat))
theorem rangeD_len (lo : Int) (n : Nat) : (rangeD lo n).length = n := by unfold rangeD; rw [List.length_map, List.length_range]
theorem iv_range1 {j : Int} (h : EA K ta env [.int j]) (h1 : -(2 ^ 62) ≤ j) (h2 : j < 2 ^ 62) : IV K (iRng1 ta) env (rangeD 0 j.toNat) := fun σ G H R gh eo k =>
  h σ G H _ gh eo fun xs G1 H1 s1 r1 => by
    obtain ⟨x, rfl, e1⟩ := rpl1 r1
    refine ⟨j, by rw [rp_int.mp e1], h1, h2, k _ G1 H1 s1 ⟨fun G2 H2 g12 gh2 i d hd => ?_, fun G2 H2 g12 gh2 => ?_⟩⟩
    · have hi : i < j.toNat := by
        have := (List.getElem?_eq_some_iff.mp hd).1
        rwa [rangeD_len] at this
      refine ⟨hi, fun y H3 ⟨e, z⟩ => ?_⟩
      subst e z
      refine ⟨G2, .refl gh2, ?_⟩
      unfold rangeD at hd
      rw [List.getElem?_map, List.getElem?_range hi] at hd
      cases hd
      exact rp_int.mpr rfl
    · rw [rangeD_len]; exact Nat.le_refl _
def pairD (p : Dt × Dt) : Dt := .tup [p.1, p.2]
def zipD (xs ys : List Dt) : List Dt := (xs.zip ys).map pairD
def enumD (xs : List Dt) : List Dt := zipD ((List.range xs.length).map fun (i : Nat) => Dt.int (i : Nat)) xs
theorem rp_pair {G : Hp} {x y : V} {T : Addr} (h1 : Rp K G d1 x) (h2 : Rp K G d2 y) (e : G T = some (.tup [x, y])) : Rp K G (.tup [d1, d2]) (.ref T) :=
  rp_tup.mpr ⟨T, _, rfl, SqT.of e, rpl_cons.mpr ⟨_, _, rfl, h1, rpl_cons.mpr ⟨_, _, rfl, h2, rpl_nil.mpr rfl⟩⟩⟩
theorem iv_enum (h : EA K ta env [.lst ds]) : IV K (iEnum K ta) env (enumD ds) := fun σ G H R gh eo k =>
  h σ G H _ gh eo fun vs G1 H1 s1 r1 => by
    obtain ⟨v, rfl, r2⟩ := rpl1 r1
    obtain ⟨a, xs, rfl, e2, e3⟩ := rp_lst.mp r2
    have hl : (enumD ds).length = ds.length := by unfold enumD zipD; simp
    refine ⟨a, xs, rfl, SqL.of (s1.gh _ _ e2), k _ G1 H1 s1 ⟨fun G2 H2 g12 gh2 i d hd => ?_, fun G2 H2 g12 gh2 => ?_⟩⟩
    · have hi : i < ds.length := by
        have := (List.getElem?_eq_some_iff.mp hd).1
        rwa [hl] at this
      obtain ⟨x, f1, f2⟩ := rpl_get e3 (List.getElem?_eq_getElem hi)
      have q : SqL K H2 a xs := SqL.of (gh2 _ _ (g12 _ _ e2))
      have ed : d = .tup [.int (i : Nat), ds[i]] := by
        unfold enumD zipD at hd
        rw [List.getElem?_map, show (((List.range ds.length).map fun (i : Nat) => Dt.int (i : Nat)).zip ds)[i]? = some (.int (i : Nat), ds[i]) from List.getElem?_zip_eq_some.mpr ⟨by rw [List.getElem?_map, List.getElem?_range hi]; rfl, List.getElem?_eq_getElem hi⟩] at hd
        cases hd; rfl
      subst ed
      refine ⟨⟨xs, x, q, f1⟩, fun y H3 ⟨T, z, e, hT, e', hz⟩ => ?_⟩
      subst e e'
      have := hz xs q
      rw [f1] at this; cases this
      have st := Step.new (o := .tup [.int (i : Nat), x]) gh2 hT
      exact ⟨_, st, rp_pair (rp_int.mpr rfl) (Rp.mono (g12.trans st.gg) _ _ f2) upd_same⟩
    · rw [hl]
      exact ⟨xs, SqL.of (gh2 _ _ (g12 _ _ e2)), Nat.le_of_eq (rpl_len e3)⟩
theorem iv_zip (h : EA K ta env [.lst ds, .lst es]) : IV K (iZip K ta) env (zipD ds es) := fun σ G H R gh eo k =>
  h σ G H _ gh eo fun vs G1 H1 s1 r1 => by
    obtain ⟨v, w, rfl, r2, r3⟩ := rpl2 r1
    obtain ⟨a, xs, rfl, e2, e3⟩ := rp_lst.mp r2
    obtain ⟨b, ys, rfl, f2, f3⟩ := rp_lst.mp r3
    have hl : (zipD ds es).length = min ds.length es.length := by unfold zipD; simp
    refine ⟨a, b, xs, ys, rfl, SqL.of (s1.gh _ _ e2), SqL.of (s1.gh _ _ f2), k _ G1 H1 s1 ⟨fun G2 H2 g12 gh2 i d hd => ?_, fun G2 H2 g12 gh2 => ?_⟩⟩
    · have hi : i < min ds.length es.length := by
        have := (List.getElem?_eq_some_iff.mp hd).1
        rwa [hl] at this
      have hi1 : i < ds.length := by omega
      have hi2 : i < es.length := by omega
      obtain ⟨x, p1, p2⟩ := rpl_get e3 (List.getElem?_eq_getElem hi1)
      obtain ⟨y, q1, q2⟩ := rpl_get f3 (List.getElem?_eq_getElem hi2)
      have q : SqL K H2 a xs := SqL.of (gh2 _ _ (g12 _ _ e2))
      have q' : SqL K H2 b ys := SqL.of (gh2 _ _ (g12 _ _ f2))
      have ed : d = .tup [ds[i], es[i]] := by
        unfold zipD at hd
        rw [List.getElem?_map, show (ds.zip es)[i]? = some (ds[i], es[i]) from List.getElem?_zip_eq_some.mpr ⟨List.getElem?_eq_getElem hi1, List.getElem?_eq_getElem hi2⟩] at hd
        cases hd; rfl
      subst ed
      refine ⟨⟨xs, ys, x, y, q, q', p1, q1⟩, fun u H3 ⟨T, z, z', e, hT, e', hz, hz'⟩ => ?_⟩
      subst e e'
      have h1 := hz xs q
      have h2 := hz' ys q'
      rw [p1] at h1; cases h1
      rw [q1] at h2; cases h2
      have st := Step.new (o := .tup [x, y]) gh2 hT
      exact ⟨_, st, rp_pair (Rp.mono (g12.trans st.gg) _ _ p2) (Rp.mono (g12.trans st.gg) _ _ q2) upd_same⟩
    · rw [hl]
      refine ⟨xs, ys, SqL.of (gh2 _ _ (g12 _ _ e2)), SqL.of (gh2 _ _ (g12 _ _ f2)), ?_⟩
      rw [rpl_len e3, rpl_len f3]
      omega
end

/-! ### targets -/
def Off (vs : List Nat) (σ σ' : Stt) : Prop := σ'.length = σ.length ∧ ∀ i, i ∉ vs → σ'[i]? = σ[i]?
def GV (K : Fr) (g : TG) (d : Dt) (env env' : Env) : Prop := ∀ σ v G H Q, Same G H → EnvOk K G env σ → Rp K G d v → (∀ σ', EnvOk K G env' σ' → Q σ' H) → g v σ H Q
def GVs (K : Fr) (g : TGs) (ds : List Dt) (env env' : Env) : Prop := ∀ σ vs G H Q, Same G H → EnvOk K G env σ → RpL K G ds vs → (∀ σ', EnvOk K G env' σ' → Q σ' H) → g vs σ H Q
def GO (g : TG) (is : List Nat) : Prop := ∀ v σ H Q, g v σ H Q → g v σ H fun σ' H' => Off is σ σ' ∧ Q σ' H'
def GOs (g : TGs) (is : List Nat) : Prop := ∀ vs σ H Q, g vs σ H Q → g vs σ H fun σ' H' => Off is σ σ' ∧ Q σ' H'
section
variable {K : Fr} {env env' env'' : Env} {d : Dt} {ds : List Dt} {g : TG} {gs : TGs} {is : List Nat} {i n : Nat}
theorem Off.refl (σ : Stt) : Off is σ σ := ⟨rfl, fun _ _ => rfl⟩
theorem Off.trans {a b c : Stt} (h : Off is a b) (h' : Off is b c) : Off is a c := ⟨h'.1.trans h.1, fun i hi => (h'.2 i hi).trans (h.2 i hi)⟩
theorem gv_name : GV K (gName i) d env (env.set i (some d)) := fun σ v G H Q gh eo r k => k _ (eo.set r)
theorem gv_nil : GVs K gNil [] env env := fun σ vs G H Q gh eo r k => ⟨rpl_nil.mp r, k _ eo⟩
theorem gv_cons (h1 : GV K g d env env') (h2 : GVs K gs ds env' env'') : GVs K (gCons g gs) (d :: ds) env env'' := fun σ vs G H Q gh eo r k => by
  obtain ⟨x, q, e, r1, r2⟩ := rpl_cons.mp r
  exact ⟨x, q, e, h1 σ x G H _ gh eo r1 fun σ' eo' => h2 σ' q G H Q gh eo' r2 k⟩
theorem gv_tup (h : GVs K gs ds env env') (hn : ds.length = n) : GV K (gTup K n gs) (.tup ds) env env' := fun σ v G H Q gh eo r k => by
  obtain ⟨a, xs, e1, e2, e3⟩ := rp_tup.mp r
  exact ⟨a, xs, e1, sqT_mono gh e2, by rw [rpl_len e3]; exact hn, h σ xs G H Q gh eo e3 k⟩
theorem go_name (h : i ∈ is) : GO (gName i) is := fun v σ H Q q => ⟨⟨List.length_set, fun j hj => List.getElem?_set_ne fun e => hj (by rw [← e]; exact h)⟩, q⟩
theorem gos_nil : GOs gNil is := fun vs σ H Q q => ⟨q.1, .refl _, q.2⟩
theorem GO.mono {v : V} {σ : Stt} {H : Hp} {Q Q' : Stt → Hp → Prop} (hm : ∀ v σ H (Q Q' : Stt → Hp → Prop), (∀ σ H, Q σ H → Q' σ H) → g v σ H Q → g v σ H Q') (h : ∀ σ H, Q σ H → Q' σ H) (q : g v σ H Q) : g v σ H Q' := hm v σ H Q Q' h q
end
/-- a target that is monotone, and stores to slots of is alone -/
structure GOk (g : TG) (is : List Nat) : Prop where
  mono : ∀ v σ H (Q Q' : Stt → Hp → Prop), (∀ σ H, Q σ H → Q' σ H) → g v σ H Q → g v σ H Q'
  off : GO g is
structure GOks (g : TGs) (is : List Nat) : Prop where
  mono : ∀ v σ H (Q Q' : Stt → Hp → Prop), (∀ σ H, Q σ H → Q' σ H) → g v σ H Q → g v σ H Q'
  off : GOs g is
section
variable {K : Fr} {g : TG} {gs : TGs} {is : List Nat} {i n : Nat}
theorem gk_name (h : i ∈ is) : GOk (gName i) is := ⟨fun _ _ _ _ _ h q => h _ _ q, go_name h⟩
theorem gk_nil : GOks gNil is := ⟨fun _ _ _ _ _ h q => ⟨q.1, h _ _ q.2⟩, gos_nil⟩
theorem gk_cons (h1 : GOk g is) (h2 : GOks gs is) : GOks (gCons g gs) is := by
  refine ⟨fun vs σ H Q Q' h ⟨v, r, e, q⟩ => ⟨v, r, e, h1.mono _ _ _ _ _ (fun σ H q => h2.mono _ _ _ _ _ h q) q⟩, fun vs σ H Q ⟨v, r, e, q⟩ => ⟨v, r, e, ?_⟩⟩
  refine h1.mono _ _ _ _ _ ?_ (h1.off _ _ _ _ q)
  rintro σ1 H1 ⟨o1, q1⟩
  refine h2.mono _ _ _ _ _ ?_ (h2.off _ _ _ _ q1)
  rintro σ2 H2 ⟨o2, q2⟩
  exact ⟨o1.trans o2, q2⟩
theorem gk_tup (h : GOks gs is) : GOk (gTup K n gs) is := by
  refine ⟨fun v σ H Q Q' hq ⟨a, xs, e1, e2, e3, q⟩ => ⟨a, xs, e1, e2, e3, h.mono _ _ _ _ _ hq q⟩, fun v σ H Q ⟨a, xs, e1, e2, e3, q⟩ => ⟨a, xs, e1, e2, e3, h.off _ _ _ _ q⟩⟩
end
theorem wipe_none {σ : Stt} {i : Nat} : ∀ {vs : List Nat}, i ∈ vs → i < σ.length → (wipe σ vs)[i]? = some none
  | v :: vs, h, hl => by
    unfold L2.wipe
    by_cases e : v = i
    · subst e
      exact List.getElem?_set_self (by rw [wipe_length]; exact hl)
    · rw [List.getElem?_set_ne e]
      exact wipe_none ((List.mem_cons.mp h).resolve_left fun q => e q.symm) hl
theorem wipe_keep {σ : Stt} {i : Nat} : ∀ {vs : List Nat}, i ∉ vs → (wipe σ vs)[i]? = σ[i]?
  | [], _ => rfl
  | v :: vs, h => by
    unfold L2.wipe
    rw [List.getElem?_set_ne fun e => h (by rw [e]; exact List.mem_cons_self)]
    exact wipe_keep fun q => h (List.mem_cons_of_mem _ q)
theorem wipe_off {σ σ2 : Stt} {vs : List Nat} (h : Off vs (wipe σ vs) σ2) : wipe σ2 vs = wipe σ vs := by
  apply List.ext_getElem?
  intro i
  have hl : σ2.length = σ.length := h.1.trans (wipe_length σ vs)
  by_cases hi : i ∈ vs
  · by_cases hk : i < σ.length
    · rw [wipe_none hi (by rw [hl]; exact hk), wipe_none hi hk]
    · rw [List.getElem?_eq_none (by rw [wipe_length, hl]; omega), List.getElem?_eq_none (by rw [wipe_length]; omega)]
  · rw [wipe_keep hi, h.2 i hi]

/-! ### comprehensions -/
/-- behind a walk's begin at G1, H1 the new list at D holds outs -/
structure CSt (K : Fr) (G1 H1 : Hp) (D : Addr) (outs : List Dt) (G' H' : Hp) : Prop where
  gh : Same G' H'
  gg : Same G1 G'
  hh : Same H1 H'
  no : ∀ a o, G1 a = none → H1 a = some o → G' a = none
  dn : G' D = none
  at_ : ∃ acc, H' D = some (.lst acc) ∧ RpL K G' outs acc
section
variable {K : Fr} {env : Env} {G1 H1 G' H' G2 H2 : Hp} {D : Addr} {outs : List Dt}
theorem CSt.step (c : CSt K G1 H1 D outs G' H') (s : Step G' H' G2 H2) : CSt K G1 H1 D outs G2 H2 := by
  obtain ⟨acc, e, r⟩ := c.at_
  exact ⟨s.gh, c.gg.trans s.gg, c.hh.trans s.hh, fun a o h1 h2 => s.no a o (c.no a o h1 h2) (c.hh _ _ h2), s.no _ _ c.dn e, acc, s.hh _ _ e, RpL.mono s.gg _ _ r⟩
theorem CSt.add {y : V} {d : Dt} (hD : H1 D = none) (c : CSt K G1 H1 D outs G' H') (r : Rp K G' d y) : ∃ acc, H' D = some (.lst acc) ∧ acc.length = outs.length ∧ CSt K G1 H1 D (outs ++ [d]) G' (upd H' D (.lst (acc ++ [y]))) := by
  obtain ⟨acc, e, q⟩ := c.at_
  refine ⟨acc, e, rpl_len q, ⟨fun a o h => ?_, c.gg, fun a o h => ?_, c.no, c.dn, _, upd_same, rpl_app q (rpl_cons.mpr ⟨y, [], rfl, r, rpl_nil.mpr rfl⟩)⟩⟩
  · rw [upd_ne (ne_of_none h c.dn)]; exact c.gh _ _ h
  · rw [upd_ne (ne_of_none h hD)]; exact c.hh _ _ h
theorem CSt.fin (hD : H1 D = none) (c : CSt K G1 H1 D outs G' H') : ∃ G2, Step G1 H1 G2 H' ∧ Rp K G2 (.lst outs) (.ref D) := by
  obtain ⟨acc, e, q⟩ := c.at_
  have sn : Same G' (upd G' D (.lst acc)) := same_new c.dn
  refine ⟨upd G' D (.lst acc), ⟨c.hh, c.gg.trans sn, fun a o h => ?_, fun a o h1 h2 => ?_⟩, rp_lst.mpr ⟨D, acc, rfl, upd_same, RpL.mono sn _ _ q⟩⟩
  · by_cases z : a = D
    · subst z; rw [upd_same] at h; cases h; exact e
    · rw [upd_ne z] at h; exact c.gh _ _ h
  · rw [upd_ne (ne_of_none h2 hD)]; exact c.no _ _ h1 h2
theorem CSt.start (g : Same G1 H1) (hD : H1 D = none) : CSt K G1 H1 D [] G1 (upd H1 D (.lst [])) :=
  ⟨fun a o h => by rw [upd_ne (ne_of_none (g _ _ h) hD)]; exact g _ _ h, Same.refl _, same_new hD, fun _ _ h _ => h, g.free hD, [], upd_same, rpl_nil.mpr rfl⟩
end
theorem take_succ_fm {F : Dt → Option Dt} {items : List Dt} {i : Nat} {d : Dt} (h : items[i]? = some d) : (items.take (i + 1)).filterMap F = (items.take i).filterMap F ++ (match F d with | some y => [y] | none => []) := by
  rw [List.take_succ, h, List.filterMap_append]
  congr 1
  show [d].filterMap F = _
  rw [List.filterMap_cons]
  cases F d <;> rfl
section
variable {K : Fr} {env : Env} {wi wi1 : TI} {g g1 : TG} {tt tt1 : TT} {te : TE} {vs vs1 : List Nat} {items out : List Dt}
theorem ev_lc (F : Dt → Option Dt) (hi : IV K wi env items) (hl : items.length ≤ 100000) (gk : GOk g vs)
    (hb : ∀ d ∈ items, ∃ env', GV K g d (ewipe env vs) env' ∧ ∃ b, ET K tt env' b ∧ (b = true → ∃ y, F d = some y ∧ EV K te env' y) ∧ (b = false → F d = none)) (ho : items.filterMap F = out) :
    EV K (tLc wi g tt te vs) env (.lst out) := by
  intro σ G H Q gh eo k
  refine hi σ G H _ gh eo fun J G1 H1 s1 yl D hD => ?_
  have eo1 := eo.mono s1.gg
  refine ⟨fun i m H' => m = items.length - i ∧ i ≤ items.length ∧ ∃ G', CSt K G1 H1 D ((items.take i).filterMap F) G' H', ⟨items.length, rfl, Nat.zero_le _, G1, .start s1.gh hD⟩, ?_⟩
  rintro i m H' ⟨rfl, hi', G', c⟩
  by_cases hlt : i < items.length
  · obtain ⟨go, yld⟩ := yl.go G' H' c.gg c.gh i _ (List.getElem?_eq_getElem hlt)
    refine .inr ⟨go, fun H'' => ∃ G'', CSt K G1 H1 D ((items.take (i + 1)).filterMap F) G'' H'', fun H'' ⟨G'', c''⟩ => ⟨items.length - (i + 1), by omega, rfl, hlt, G'', c''⟩, fun x H3 y3 => ?_⟩
    obtain ⟨G3, s3, r3⟩ := yld x H3 y3
    obtain ⟨env', gv, b, et, ht, hf⟩ := hb _ (List.getElem_mem hlt)
    have c3 := c.step s3
    refine gk.mono _ _ _ _ _ ?_ (gk.off _ _ _ _ (gv (wipe σ vs) x G3 H3 (fun σ2 H2 => H2 = H3 ∧ EnvOk K G3 env' σ2) s3.gh ((eo1.mono (c.gg.trans s3.gg)).wipe vs) r3 fun σ2 e2 => ⟨rfl, e2⟩))
    rintro σ2 H2 ⟨of, rfl, e2⟩
    refine ⟨wipe_off of, et σ2 G3 H2 _ s3.gh e2 fun G4 H4 s4 => ?_⟩
    have c4 := c3.step s4
    have ts := take_succ_fm (F := F) (List.getElem?_eq_getElem hlt)
    cases b with
    | true =>
      obtain ⟨y, fy, ev⟩ := ht rfl
      show te σ2 H4 _
      refine ev σ2 G4 H4 _ s4.gh (e2.mono s4.gg) fun v G5 H5 s5 r5 => ?_
      obtain ⟨acc, a1, a2, a3⟩ := (c4.step s5).add hD r5
      refine ⟨acc, a1, ?_, G5, ?_⟩
      · rw [a2]
        refine sz_lt (Nat.lt_of_le_of_lt (List.length_filterMap_le ..) ?_)
        rw [List.length_take]; omega
      · rw [ts, fy]; exact a3
    | false =>
      show ∃ G'', CSt K G1 H1 D ((items.take (i + 1)).filterMap F) G'' H4
      refine ⟨G4, ?_⟩
      rw [ts, hf rfl]
      show CSt K G1 H1 D (_ ++ []) G4 H4
      rw [List.append_nil]; exact c4
  · have e : i = items.length := by omega
    subst e
    rw [List.take_length] at c
    obtain ⟨G2, s2, r2⟩ := c.fin hD
    exact .inl ⟨yl.stop G' H' c.gg c.gh, k _ G2 H' (s1.trans s2) (by rw [← ho]; exact r2)⟩
/-- without a test -/
theorem ev_lc1 (f : Dt → Dt) (hi : IV K wi env items) (hl : items.length ≤ 100000) (gk : GOk g vs)
    (hb : ∀ d ∈ items, ∃ env', GV K g d (ewipe env vs) env' ∧ EV K te env' (f d)) (ho : items.map f = out) : EV K (tLc wi g tYes te vs) env (.lst out) :=
  ev_lc (fun d => some (f d)) hi hl gk (fun d hd => let ⟨env', h1, h2⟩ := hb d hd; ⟨env', h1, true, et_yes, fun _ => ⟨_, rfl, h2⟩, fun h => by cases h⟩) (by rw [← ho, List.filterMap_eq_map'])
theorem take_succ_flat {F : Dt → List Dt} {items : List Dt} {i : Nat} {d : Dt} (h : items[i]? = some d) : (items.take (i + 1)).flatMap F = (items.take i).flatMap F ++ F d := by
  rw [List.take_succ, h, List.flatMap_append]
  congr 1
  show [d].flatMap F = _
  simp
theorem flat_le {F : Dt → List Dt} {items : List Dt} (i : Nat) : ((items.take i).flatMap F).length ≤ (items.flatMap F).length := by
  have h : items.flatMap F = (items.take i).flatMap F ++ (items.drop i).flatMap F := by rw [← List.flatMap_append, List.take_append_drop]
  rw [h, List.length_append]; omega
/-- two for -/
theorem ev_lc2 (F : Dt → List Dt) (hi : IV K wi env items) (gk : GOk g vs) (gk1 : GOk g1 vs1) (hl : (items.flatMap F).length ≤ 100000)
    (hb : ∀ d ∈ items, ∃ env', GV K g d (ewipe env vs) env' ∧ ET K tt env' true ∧ ∃ items1, IV K wi1 env' items1 ∧ ∃ f : Dt → Dt, F d = items1.map f ∧
      ∀ d1 ∈ items1, ∃ env'', GV K g1 d1 (ewipe env' vs1) env'' ∧ ET K tt1 env'' true ∧ EV K te env'' (f d1)) (ho : items.flatMap F = out) :
    EV K (tLc2 wi g tt wi1 g1 tt1 te vs vs1) env (.lst out) := by
  intro σ G H Q gh eo k
  refine hi σ G H _ gh eo fun J G1 H1 s1 yl D hD => ?_
  have eo1 := eo.mono s1.gg
  refine ⟨fun i m H' => m = items.length - i ∧ i ≤ items.length ∧ ∃ G', CSt K G1 H1 D ((items.take i).flatMap F) G' H', ⟨items.length, rfl, Nat.zero_le _, G1, .start s1.gh hD⟩, ?_⟩
  rintro i m H' ⟨rfl, hi', G', c⟩
  by_cases hlt : i < items.length
  · obtain ⟨go, yld⟩ := yl.go G' H' c.gg c.gh i _ (List.getElem?_eq_getElem hlt)
    refine .inr ⟨go, fun H'' => ∃ G'', CSt K G1 H1 D ((items.take (i + 1)).flatMap F) G'' H'', fun H'' ⟨G'', c''⟩ => ⟨items.length - (i + 1), by omega, rfl, hlt, G'', c''⟩, fun x H3 y3 => ?_⟩
    obtain ⟨G3, s3, r3⟩ := yld x H3 y3
    obtain ⟨env', gv, et, items1, iv, f, hF, hb1⟩ := hb _ (List.getElem_mem hlt)
    have c3 := c.step s3
    have ts := take_succ_flat (F := F) (List.getElem?_eq_getElem hlt)
    have lb := flat_le (F := F) (items := items) (i + 1)
    rw [ts, List.length_append, hF, List.length_map] at lb
    refine gk.mono _ _ _ _ _ ?_ (gk.off _ _ _ _ (gv (wipe σ vs) x G3 H3 (fun σ2 H2 => H2 = H3 ∧ EnvOk K G3 env' σ2) s3.gh ((eo1.mono (c.gg.trans s3.gg)).wipe vs) r3 fun σ2 e2 => ⟨rfl, e2⟩))
    rintro σ2 H2 ⟨of, rfl, e2⟩
    refine ⟨wipe_off of, et σ2 G3 H2 _ s3.gh e2 fun G4 H4 s4 => ?_⟩
    have c4 := c3.step s4
    rw [if_pos rfl]
    refine iv σ2 G4 H4 _ s4.gh (e2.mono s4.gg) fun J1 G5 H5 s5 yl1 => ?_
    have c5 := c4.step s5
    have e5 := e2.mono (s4.trans s5).gg
    refine ⟨fun j m H' => m = items1.length - j ∧ j ≤ items1.length ∧ ∃ G', Same G5 G' ∧ CSt K G1 H1 D ((items.take i).flatMap F ++ (items1.take j).map f) G' H', ⟨items1.length, rfl, Nat.zero_le _, G5, Same.refl _, by simpa using c5⟩, ?_⟩
    rintro j m1 H6 ⟨rfl, hj, G6, g56, c6⟩
    by_cases hjt : j < items1.length
    · obtain ⟨go1, yld1⟩ := yl1.go G6 H6 g56 c6.gh j _ (List.getElem?_eq_getElem hjt)
      refine .inr ⟨go1, fun H'' => ∃ G'', Same G5 G'' ∧ CSt K G1 H1 D ((items.take i).flatMap F ++ (items1.take (j + 1)).map f) G'' H'', fun H'' ⟨G'', g'', c''⟩ => ⟨items1.length - (j + 1), by omega, rfl, hjt, G'', g'', c''⟩, fun x1 H7 y7 => ?_⟩
      obtain ⟨G7, s7, r7⟩ := yld1 x1 H7 y7
      obtain ⟨env'', gv1, et1, ev1⟩ := hb1 _ (List.getElem_mem hjt)
      have c7 := c6.step s7
      refine gk1.mono _ _ _ _ _ ?_ (gk1.off _ _ _ _ (gv1 (wipe σ2 vs1) x1 G7 H7 (fun σ3 H3 => H3 = H7 ∧ EnvOk K G7 env'' σ3) s7.gh ((e5.mono (g56.trans s7.gg)).wipe vs1) r7 fun σ3 e3 => ⟨rfl, e3⟩))
      rintro σ3 H8 ⟨of1, rfl, e3⟩
      refine ⟨wipe_off of1, et1 σ3 G7 H8 _ s7.gh e3 fun G9 H9 s9 => ?_⟩
      rw [if_pos rfl]
      refine ev1 σ3 G9 H9 _ s9.gh (e3.mono s9.gg) fun v G10 H10 s10 r10 => ?_
      obtain ⟨acc, a1, a2, a3⟩ := ((c7.step s9).step s10).add hD r10
      refine ⟨acc, a1, ?_, G10, (g56.trans s7.gg).trans (s9.trans s10).gg, ?_⟩
      · rw [a2]
        refine sz_lt ?_
        rw [List.length_append, List.length_map, List.length_take]
        omega
      · have : (items1.take (j + 1)).map f = (items1.take j).map f ++ [f items1[j]] := by
          rw [List.take_succ, List.getElem?_eq_getElem hjt, List.map_append]; rfl
        rw [this, ← List.append_assoc]
        exact a3
    · have e : j = items1.length := by omega
      subst e
      rw [List.take_length] at c6
      refine .inl ⟨yl1.stop G6 H6 g56 c6.gh, G6, ?_⟩
      rw [ts, hF]; exact c6
  · have e : i = items.length := by omega
    subst e
    rw [List.take_length] at c
    obtain ⟨G2, s2, r2⟩ := c.fin hD
    exact .inl ⟨yl.stop G' H' c.gg c.gh, k _ G2 H' (s1.trans s2) (by rw [← ho]; exact r2)⟩
end
end Lk
set_option Elab.async false
set_option linter.all false
set_option maxRecDepth 100000
set_option maxHeartbeats 4000000
/-! Statements over data; a def's promise from its body. -/
namespace Lk
open PySem L2
abbrev Mem := Option (Addr × List Dt)
structure Inw (K : Fr) (G0 H0 : Hp) (M : Mem) (G H : Hp) : Prop where
  gg : Same G0 G
  gh : Same G H
  hh : Same H0 H
  no : ∀ a o, G0 a = none → H0 a = some o → G a = none
  mem : ∀ p ds, M = some (p, ds) → G p = none ∧ H0 p = none ∧ ∃ xs, H p = some (.lst xs) ∧ RpL K G ds xs
structure Ed where
  nx : Env → Mem → Prop := fun _ _ => False
  rt : Dt → Prop := fun _ => False
  bk : Env → Mem → Prop := fun _ _ => False
  ct : Env → Mem → Prop := fun _ _ => False
section
variable {K : Fr} {G0 H0 G H G' H' : Hp} {M : Mem}
theorem Inw.step (w : Inw K G0 H0 M G H) (s : Step G H G' H') : Inw K G0 H0 M G' H' :=
  ⟨w.gg.trans s.gg, s.gh, w.hh.trans s.hh, fun a o h1 h2 => s.no a o (w.no a o h1 h2) (w.hh _ _ h2), fun p ds e => by
    obtain ⟨h1, h2, xs, h3, h4⟩ := w.mem p ds e
    exact ⟨s.no _ _ h1 h3, h2, xs, s.hh _ _ h3, RpL.mono s.gg _ _ h4⟩⟩
theorem Inw.toStep (w : Inw K G0 H0 M G H) : Step G0 H0 G H := ⟨w.hh, w.gg, w.gh, w.no⟩
/-- the mutable list becomes a stable one -/
theorem Inw.freeze {p : Addr} {ds : List Dt} (w : Inw K G0 H0 (some (p, ds)) G H) : ∃ G', Inw K G0 H0 none G' H ∧ Same G G' ∧ Rp K G' (.lst ds) (.ref p) := by
  obtain ⟨h1, h2, xs, h3, h4⟩ := w.mem p ds rfl
  have sn : Same G (upd G p (.lst xs)) := same_new h1
  refine ⟨upd G p (.lst xs), ⟨w.gg.trans sn, fun a o h => ?_, w.hh, fun a o e1 e2 => ?_, fun _ _ e => by cases e⟩, sn, rp_lst.mpr ⟨p, xs, rfl, upd_same, RpL.mono sn _ _ h4⟩⟩
  · by_cases z : a = p
    · subst z; rw [upd_same] at h; cases h; exact h3
    · rw [upd_ne z] at h; exact w.gh _ _ h
  · rw [upd_ne (ne_of_none e2 h2)]; exact w.no _ _ e1 e2
/-- a list just made becomes the mutable one -/
theorem Inw.melt {v : V} {ds : List Dt} {G1 H1 : Hp} (w : Inw K G0 H0 none G H) {p : Addr} {xs : List V} (hp : H p = none) (r : RpL K G ds xs) : Inw K G0 H0 (some (p, ds)) G (upd H p (.lst xs)) :=
  ⟨w.gg, fun a o h => by rw [upd_ne (ne_of_none (w.gh _ _ h) hp)]; exact w.gh _ _ h, w.hh.trans (same_new hp), w.no, fun q es e => by
    cases e
    exact ⟨w.gh.free hp, w.hh.free hp, xs, upd_same, r⟩⟩
theorem Inw.put {p : Addr} {ds es : List Dt} {ys : List V} (w : Inw K G0 H0 (some (p, ds)) G H) (r : RpL K G es ys) : Inw K G0 H0 (some (p, es)) G (upd H p (.lst ys)) := by
  obtain ⟨h1, h2, xs, h3, h4⟩ := w.mem p ds rfl
  exact ⟨w.gg, fun a o h => by rw [upd_ne (ne_of_none h h1)]; exact w.gh _ _ h, fun a o h => by rw [upd_ne (ne_of_none h h2)]; exact w.hh _ _ h, w.no, fun q zs e => by
    cases e
    exact ⟨h1, h2, ys, upd_same, r⟩⟩
/-- a block may be run as from an entry of its own -/
theorem Inw.enter (w : Inw K G0 H0 M G H) : ∃ Hb, Inw K G Hb M G H ∧ ∀ M' G2 H2, Inw K G Hb M' G2 H2 → Inw K G0 H0 M' G2 H2 := by
  cases M with
  | none =>
    refine ⟨H, ⟨Same.refl _, w.gh, Same.refl _, fun _ _ h _ => h, fun _ _ e => by cases e⟩, fun M' G2 H2 w' => ⟨w.gg.trans w'.gg, w'.gh, w.hh.trans w'.hh, fun a o h1 h2 => w'.no a o (w.no a o h1 h2) (w.hh _ _ h2), fun p ds e => ?_⟩⟩
    obtain ⟨h1, h2, h3⟩ := w'.mem p ds e
    exact ⟨h1, w.hh.free h2, h3⟩
  | some qq =>
    obtain ⟨q, zs⟩ := qq
    obtain ⟨a1, a2, xs, a3, a4⟩ := w.mem q zs rfl
    have sb : Same H0 (fun a => if a = q then none else H a) := fun a o h => by
      have z : a ≠ q := fun e => by rw [e, a2] at h; cases h
      show (if a = q then none else H a) = some o
      rw [if_neg z]; exact w.hh _ _ h
    refine ⟨fun a => if a = q then none else H a, ⟨Same.refl _, w.gh, fun a o h => ?_, fun _ _ h _ => h, fun p ds e => ?_⟩, fun M' G2 H2 w' => ⟨w.gg.trans w'.gg, w'.gh, sb.trans w'.hh, fun a o h1 h2 => w'.no a o (w.no a o h1 h2) (sb _ _ h2), fun p ds e => ?_⟩⟩
    · have h' : (if a = q then none else H a) = some o := h
      split at h'
      · cases h'
      · exact h'
    · cases e
      exact ⟨a1, if_pos rfl, xs, a3, a4⟩
    · obtain ⟨h1, h2, h3⟩ := w'.mem p ds e
      exact ⟨h1, sb.free h2, h3⟩
end
/-- a block over data -/
def SV (K : Fr) (ts : TS) (env : Env) (M : Mem) (E : Ed) : Prop := ∀ G0 H0 G H σ (D : Ends), Inw K G0 H0 M G H → EnvOk K G env σ →
  (∀ σ' G' H' env' M', Inw K G0 H0 M' G' H' → EnvOk K G' env' σ' → E.nx env' M' → D.nx σ' H') →
  (∀ v G' H' d M', Inw K G0 H0 M' G' H' → Rp K G' d v → E.rt d → D.rt v H') →
  (∀ σ' G' H' env' M', Inw K G0 H0 M' G' H' → EnvOk K G' env' σ' → E.bk env' M' → D.bk σ' H') →
  (∀ σ' G' H' env' M', Inw K G0 H0 M' G' H' → EnvOk K G' env' σ' → E.ct env' M' → D.ct σ' H') → ts D σ H
section
variable {K : Fr} {env env' : Env} {M : Mem} {E : Ed} {te ta : TE} {d d1 : Dt} {ds : List Dt} {g : TG} {ts tu tz : TS} {tc : TT} {i : Nat}
theorem q_seq (N : Env → Mem → Prop) (h : SV K ts env M { E with nx := N }) (k : ∀ e m, N e m → SV K tz e m E) : SV K (tSeq ts tz) env M E := fun G0 H0 G H σ D w eo c1 c2 c3 c4 =>
  h G0 H0 G H σ { D with nx := tz D } w eo (fun σ' G' H' e m w' eo' n => k e m n G0 H0 G' H' σ' D w' eo' c1 c2 c3 c4) c2 c3 c4
theorem q_asg (h : EV K te env d) (hg : GV K g d env env') (k : SV K tz env' M E) : SV K (tSeq (tAsg te g) tz) env M E := fun G0 H0 G H σ D w eo c1 c2 c3 c4 =>
  h σ G H _ w.gh eo fun v G1 H1 s1 r1 => hg σ v G1 H1 _ s1.gh (eo.mono s1.gg) r1 fun σ' eo' => k G0 H0 G1 H1 σ' D (w.step s1) eo' c1 c2 c3 c4
/-- the name is stored -/
theorem q_set (h : EV K te env d) (k : SV K tz (env.set i (some d)) M E) : SV K (tSeq (tAsg te (gName i)) tz) env M E := q_asg h gv_name k
theorem q_ret (h : EV K te env d) (e : E.rt d) : SV K (tSeq (tRet te) tz) env M E := fun G0 H0 G H σ D w eo c1 c2 c3 c4 =>
  h σ G H _ w.gh eo fun v G1 H1 s1 r1 => c2 v G1 H1 d M (w.step s1) r1 e
theorem l_ret (h : EV K te env d) (e : E.rt d) : SV K (tRet te) env M E := fun G0 H0 G H σ D w eo c1 c2 c3 c4 =>
  h σ G H _ w.gh eo fun v G1 H1 s1 r1 => c2 v G1 H1 d M (w.step s1) r1 e
theorem q_drop (h : EV K te env d) (k : SV K tz env M E) : SV K (tSeq (tDrop te) tz) env M E := fun G0 H0 G H σ D w eo c1 c2 c3 c4 =>
  h σ G H _ w.gh eo fun v G1 H1 s1 r1 => k G0 H0 G1 H1 σ D (w.step s1) (eo.mono s1.gg) c1 c2 c3 c4
theorem q_if {b : Bool} (h : ET K tc env b) (h1 : b = true → SV K (tSeq ts tz) env M E) (h2 : b = false → SV K (tSeq tu tz) env M E) : SV K (tSeq (tIfS tc ts tu) tz) env M E := fun G0 H0 G H σ D w eo c1 c2 c3 c4 =>
  h σ G H _ w.gh eo fun G1 H1 s1 => by
    cases b with
    | true =>
      show tSeq ts tz D σ H1
      exact h1 rfl G0 H0 G1 H1 σ D (w.step s1) (eo.mono s1.gg) c1 c2 c3 c4
    | false =>
      show tSeq tu tz D σ H1
      exact h2 rfl G0 H0 G1 H1 σ D (w.step s1) (eo.mono s1.gg) c1 c2 c3 c4
/-- an if whose test is known to fail, without else -/
theorem q_no (h : ET K tc env false) (k : SV K tz env M E) : SV K (tSeq (tIfS tc ts tNext) tz) env M E := fun G0 H0 G H σ D w eo c1 c2 c3 c4 =>
  h σ G H _ w.gh eo fun G1 H1 s1 => k G0 H0 G1 H1 σ D (w.step s1) (eo.mono s1.gg) c1 c2 c3 c4
theorem q_noE (h : ET K tc env false) (k : SV K (tSeq tu tz) env M E) : SV K (tSeq (tIfS tc ts tu) tz) env M E := q_if h (fun e => by cases e) fun _ => k
theorem q_yes (h : ET K tc env true) (k : SV K (tSeq ts tz) env M E) : SV K (tSeq (tIfS tc ts tu) tz) env M E := q_if h (fun _ => k) fun e => by cases e
theorem q_next (k : SV K tz env M E) : SV K (tSeq tNext tz) env M E := k
theorem q_as {t1 t2 : TS} (k : SV K (tSeq t1 (tSeq t2 tz)) env M E) : SV K (tSeq (tSeq t1 t2) tz) env M E := k
theorem l_q (k : SV K (tSeq ts tNext) env M E) : SV K ts env M E := k
theorem l_end (e : E.nx env M) : SV K tNext env M E := fun G0 H0 G H σ D w eo c1 c2 c3 c4 => c1 σ G H env M w eo e
/-- a, b = x, y -/
theorem q_par {i j : Nat} {ta : TA} {d1 d2 : Dt} (h : EA K ta env [d1, d2]) (k : SV K tz ((env.set i (some d1)).set j (some d2)) M E) : SV K (tSeq (tPar i j ta) tz) env M E := fun G0 H0 G H σ D w eo c1 c2 c3 c4 =>
  h σ G H _ w.gh eo fun vs G1 H1 s1 r1 => by
    obtain ⟨x, y, rfl, e1, e2⟩ := rpl2 r1
    exact ⟨x, y, rfl, k G0 H0 G1 H1 _ D (w.step s1) (((eo.mono s1.gg).set e1).set e2) c1 c2 c3 c4⟩
/-- x op= e -/
theorem q_aug {f : Int → Int → Int} {a b : Int} (hx : env[i]? = some (some (.int a))) (h : EV K te env (.int b)) (k : SV K tz (env.set i (some (.int (f a b)))) M E) : SV K (tSeq (tAug i te (ipI f)) tz) env M E := fun G0 H0 G H σ D w eo c1 c2 c3 c4 => by
  obtain ⟨v, e1, r⟩ := eo.2 i _ hx
  refine ⟨v, e1, h σ G H _ w.gh eo fun u G1 H1 s1 r1 => ⟨a, b, rp_int.mp r, rp_int.mp r1, ?_⟩⟩
  exact k G0 H0 G1 H1 _ D (w.step s1) ((eo.mono s1.gg).set (rp_int.mpr rfl)) c1 c2 c3 c4
/-- x = [] , a list that will change -/
theorem q_new {ta : TA} (h : EA K ta env ds) (hl : ds.length ≤ 100000) (k : ∀ p, SV K tz (env.set i (some (.raw (.ref p)))) (some (p, ds)) E) : SV K (tSeq (tAsg (tLst ta) (gName i)) tz) env none E := fun G0 H0 G H σ D w eo c1 c2 c3 c4 =>
  h σ G H _ w.gh eo fun xs G1 H1 s1 r1 => ⟨sz_of (by rw [rpl_len r1]; exact hl), fun p hp => by
    have w1 := w.step s1
    exact k p G0 H0 G1 _ _ D (w1.melt (v := .non) (G1 := G) (H1 := H) hp r1) ((eo.mono s1.gg).set (rp_raw.mpr rfl)) c1 c2 c3 c4⟩
/-- x.append(e) -/
theorem q_app {p : Addr} (hx : EV K ta env (.raw (.ref p))) (h : EV K te env d) (hl : ds.length < 100000) (k : SV K tz env (some (p, ds ++ [d])) E) : SV K (tSeq (tDrop (tBM K "list" rAppend ta (tCons te tNil))) tz) env (some (p, ds)) E := fun G0 H0 G H σ D w eo c1 c2 c3 c4 =>
  hx σ G H _ w.gh eo fun u G1 H1 s1 r1 => by
    rw [rp_raw.mp r1]
    have w1 := w.step s1
    obtain ⟨h1, h2, xs, h3, h4⟩ := w1.mem p ds rfl
    refine ⟨.inl ⟨rfl, _, .inl (.inl h3)⟩, ?_⟩
    refine h σ G1 H1 _ w1.gh (eo.mono s1.gg) fun v G2 H2 s2 r2 => ?_
    have w2 := w1.step s2
    refine ⟨p, xs, v, rfl, rfl, s2.hh _ _ h3, sz_lt (by rw [rpl_len h4]; exact hl), ?_⟩
    exact k G0 H0 G2 _ σ D (w2.put (rpl_app (RpL.mono s2.gg _ _ h4) (rpl_cons.mpr ⟨v, [], rfl, r2, rpl_nil.mpr rfl⟩))) ((eo.mono s1.gg).mono s2.gg) c1 c2 c3 c4
/-- the changing list is stable from here on -/
theorem q_frz {p : Addr} (hx : env[i]? = some (some (.raw (.ref p)))) (k : SV K tz (env.set i (some (.lst ds))) none E) : SV K tz env (some (p, ds)) E := fun G0 H0 G H σ D w eo c1 c2 c3 c4 => by
  obtain ⟨G', w', sg, r⟩ := w.freeze
  have e2 := (eo.mono sg).set (i := i) r
  obtain ⟨v, q, rv⟩ := eo.2 i _ hx
  have hs : σ.set i (some (.ref p)) = σ := by
    apply List.ext_getElem?
    intro j
    by_cases hj : i = j
    · subst hj
      rw [List.getElem?_set_self (List.getElem?_eq_some_iff.mp q).1, q, rp_raw.mp rv]
    · rw [List.getElem?_set_ne hj]
  rw [hs] at e2
  exact k G0 H0 G' H σ D w' e2 c1 c2 c3 c4
/-- while -/
theorem q_while (P : Nat → Env → Mem → Prop) (m0 : Nat) (h0 : P m0 env M)
    (hs : ∀ m e M', P m e M' → ∃ b, ET K tc e b ∧ (b = true → SV K ts e M' { E with nx := fun e2 M2 => ∃ m', m' < m ∧ P m' e2 M2, ct := fun e2 M2 => ∃ m', m' < m ∧ P m' e2 M2, bk := fun _ _ => False }) ∧ (b = false → SV K tz e M' E)) :
    SV K (tSeq (tWhile tc ts) tz) env M E := fun G0 H0 G H σ D w eo c1 c2 c3 c4 => by
  refine ⟨fun m σ' H' => ∃ e M' G', P m e M' ∧ Inw K G0 H0 M' G' H' ∧ EnvOk K G' e σ', ⟨m0, env, M, G, h0, w, eo⟩, ?_⟩
  rintro m σ1 H1 ⟨e, M1, G1, p, w1, eo1⟩
  obtain ⟨b, et, ht, hf⟩ := hs m e M1 p
  refine et σ1 G1 H1 _ w1.gh eo1 fun G2 H2 s2 => ?_
  have w2 := w1.step s2
  have eo2 := eo1.mono s2.gg
  cases b with
  | true =>
    rw [if_pos rfl]
    refine ⟨fun σ' H' => ∃ m' e2 M2 G', m' < m ∧ P m' e2 M2 ∧ Inw K G0 H0 M2 G' H' ∧ EnvOk K G' e2 σ', fun σ' H' ⟨m', e2, M2, G', l, p', w', eo'⟩ => ⟨m', l, e2, M2, G', p', w', eo'⟩, ?_⟩
    exact ht rfl G0 H0 G2 H2 σ1 _ w2 eo2 (fun σ' G' H' e2 M2 w' eo' ⟨m', l, p'⟩ => ⟨m', e2, M2, G', l, p', w', eo'⟩) c2 (fun _ _ _ _ _ _ _ z => z.elim) (fun σ' G' H' e2 M2 w' eo' ⟨m', l, p'⟩ => ⟨m', e2, M2, G', l, p', w', eo'⟩)
  | false =>
    rw [if_neg Bool.false_ne_true]
    exact hf rfl G0 H0 G2 H2 σ1 D w2 eo2 c1 c2 c3 c4
/-- for -/
theorem q_for {wi : TI} {items : List Dt} (hi : IV K wi env items) (P : Nat → Env → Mem → Prop) (h0 : P 0 env M)
    (hs : ∀ (i : Nat) d e M', items[i]? = some d → P i e M' → ∃ e2, GV K g d e e2 ∧ SV K ts e2 M' { E with nx := P (i + 1), ct := P (i + 1), bk := fun _ _ => False })
    (hd : ∀ e M', P items.length e M' → SV K tz e M' E) : SV K (tSeq (tFor wi g ts) tz) env M E := fun G0 H0 G H σ D w eo c1 c2 c3 c4 => by
  refine hi σ G H _ w.gh eo fun J G1 H1 s1 yl => ?_
  refine ⟨fun i m σ' H' => m = items.length - i ∧ i ≤ items.length ∧ ∃ e M' G', P i e M' ∧ Inw K G0 H0 M' G' H' ∧ Same G1 G' ∧ EnvOk K G' e σ', ⟨items.length, rfl, Nat.zero_le _, env, M, G1, h0, w.step s1, Same.refl _, eo.mono s1.gg⟩, ?_⟩
  rintro i m σ1 H' ⟨rfl, hi', e, M1, G', p, w1, g1, eo1⟩
  by_cases hlt : i < items.length
  · obtain ⟨go, yld⟩ := yl.go G' H' g1 w1.gh i _ (List.getElem?_eq_getElem hlt)
    refine .inr ⟨go, fun σ' H' => ∃ e M' G', P (i + 1) e M' ∧ Inw K G0 H0 M' G' H' ∧ Same G1 G' ∧ EnvOk K G' e σ', fun σ' H' ⟨e, M', G', p', w', g', eo'⟩ => ⟨items.length - (i + 1), by omega, rfl, hlt, e, M', G', p', w', g', eo'⟩, fun x H3 y3 => ?_⟩
    obtain ⟨G3, s3, r3⟩ := yld x H3 y3
    obtain ⟨e2, gv, sv⟩ := hs i _ e M1 (List.getElem?_eq_getElem hlt) p
    have w3 := w1.step s3
    refine gv σ1 x G3 H3 _ s3.gh (eo1.mono s3.gg) r3 fun σ2 eo2 => ?_
    obtain ⟨Hb, w4, back⟩ := w3.enter
    exact sv G3 Hb G3 H3 σ2 _ w4 eo2 (fun σ' G' H' e3 M3 w' eo' p' => ⟨e3, M3, G', p', back _ _ _ w', (g1.trans s3.gg).trans w'.gg, eo'⟩)
      (fun v G' H' d M' w' r e => c2 v G' H' d M' (back _ _ _ w') r e) (fun _ _ _ _ _ _ _ z => z.elim)
      (fun σ' G' H' e3 M3 w' eo' p' => ⟨e3, M3, G', p', back _ _ _ w', (g1.trans s3.gg).trans w'.gg, eo'⟩)
  · have e : i = items.length := by omega
    subst e
    exact .inl ⟨yl.stop G' H' g1 w1.gh, hd e _ p G0 H0 G' H' σ1 D w1 eo1 c1 c2 c3 c4⟩
end
/-! ### a def -/
def env0 (n : Nat) (ds : List Dt) : Env := ds.map some ++ List.replicate (n - ds.length) none
theorem env0_ok {K : Fr} {G : Hp} {ds : List Dt} {vs : List V} {N : List Str} (r : RpL K G ds vs) : EnvOk K G (env0 N.length ds) (L2.start N vs) := by
  have hl := rpl_len r
  unfold env0 L2.start
  refine ⟨by simp [hl], fun i d h => ?_⟩
  by_cases hi : i < ds.length
  · rw [List.getElem?_append_left (by simpa using hi), List.getElem?_map] at h
    rw [List.getElem?_append_left (by simpa [hl] using hi), List.getElem?_map]
    obtain ⟨d', e1, e2⟩ := Option.map_eq_some_iff.mp h
    cases e2
    obtain ⟨v, f1, f2⟩ := rpl_get r e1
    exact ⟨v, by rw [f1]; rfl, f2⟩
  · rw [List.getElem?_append_right (by simpa using Nat.le_of_not_lt hi)] at h
    have := List.mem_of_getElem? h
    rw [List.mem_replicate] at this
    cases this.2
/-- a def keeps the promise F -/
theorem ok_of {P : Program} {w : World} {K : Fr} {mg : Str → Option Value} {base : Heap} {CX : CXT} {N ps : List Str} {k : Nat} {x qual : Str} {params : Arguments} {body : List Stmt} {scope : Scope} {dvs : List V} {kws : List (Str × V)} {f : Addr} {fd : FuncData}
    {F : List Dt → Dt → Prop} (T : FunD K x qual params body scope dvs kws f fd) (S : FnScope N ps scope) (len : ∀ ds d, F ds d → ds.length = ps.length)
    (hbody : ∀ (cdv : Value) (A : Around) (outer : List PySem.Env) (s : Shared) (H : Hp) (E : XK), Room k (A.deeper (PyProof.Rows.envOfC qual scope s.heap.objs.size f cdv)) →
      ∃ t, PSs (cxOf CX P w K mg base N qual scope f cdv A outer s H E) body t ∧ ∀ ds d, F ds d → SV K t (env0 N.length ds) none { nx := fun _ _ => d = .non, rt := fun d' => d' = d }) :
    FnOk P w K mg base CX (k + 1) f fd ps (spD K F) := by
  refine T.ok S (fun vs H Q E ⟨ds, d, G, _, r, hF, _⟩ => by rw [rpl_len r, len ds d hF]) fun cdv A outer s H vs Q E hr ⟨ds, d, G, gh, r, hF, q⟩ => ?_
  obtain ⟨t, h1, h2⟩ := hbody cdv A outer s H E hr
  refine ⟨t, h1, h2 ds d hF G H G H _ _ ⟨Same.refl _, gh, Same.refl _, fun _ _ h _ => h, fun _ _ e => by cases e⟩ (env0_ok r) ?_ ?_ (fun _ _ _ _ _ _ _ z => z.elim) (fun _ _ _ _ _ _ _ z => z.elim)⟩
  · rintro σ' G' H' e M' w' _ rfl
    exact q _ G' H' w'.toStep (rp_non.mpr rfl)
  · rintro v G' H' d' M' w' r' rfl
    exact q v G' H' w'.toStep r'
end Lk
set_option Elab.async false
set_option linter.all false
set_option maxRecDepth 100000
set_option maxHeartbeats 4000000
/-! Operators by short names; three targets, isinstance, index, dicts, powers. -/
namespace Lk
open PySem L2
abbrev rSubG : R2 := rI0 fun i j => .int (i - j)
abbrev rFdivG : R2 := rI CDiv fun i j => .int (i / j)
abbrev rFdivW : R2 := rI CDivW fun i j => .int (i / j)
abbrev rModG : R2 := rI (fun _ j => 0 < j) fun i j => .int (i % j)
abbrev rLtG : R2 := rI0 fun i j => .bl (decide (i < j))
abbrev rLeG : R2 := rI0 fun i j => .bl (decide (i ≤ j))
abbrev rGtG : R2 := rI0 fun i j => .bl (decide (j < i))
abbrev rGeG : R2 := rI0 fun i j => .bl (decide (j ≤ i))
abbrev rIsNG : R2 := fun x y H Q => y = .non ∧ Q (.bl (decide (x = .non))) H
def CPowW (i j : Int) : Prop := 0 ≤ j ∧ j ≤ 100 ∧ i.natAbs < 2 ^ 1000
abbrev rPowG : R2 := rI CPowW fun i j => .int (i ^ j.toNat)
section
variable {X : Cx}
theorem op_subG : OpR X (binaryOp .Sub) rSubG := op_sub
theorem op_fdivG : OpR X (binaryOp .FloorDiv) rFdivG := op_fdiv
theorem op_fdivWG : OpR X (binaryOp .FloorDiv) rFdivW := op_fdivW
theorem op_modG : OpR X (binaryOp .Mod) rModG := op_mod
theorem op_ltG : OpR X (compareOp .Lt) rLtG := op_lt
theorem op_leG : OpR X (compareOp .LtE) rLeG := op_le
theorem op_gtG : OpR X (compareOp .Gt) rGtG := op_gt
theorem op_geG : OpR X (compareOp .GtE) rGeG := op_ge
theorem op_isNG : OpR X (compareOp .Is) rIsNG := op_isN
theorem log2_lt {n k : Nat} (h : n < 2 ^ k) (hk : 0 < k) : n.log2 < k := by
  by_cases h0 : n = 0
  · subst h0; simpa using hk
  · exact (Nat.log2_lt h0).mpr h
theorem op_powG : OpR X (binaryOp .Pow) rPowG := opI fun i j _ _ _ _ _ hc q => by
  refine PyProof.Rows.pow_int hc.1 ?_ q
  have h1 : (Builtin.Int.intBits i : Int) ≤ 1001 := by
    have := log2_lt hc.2.2 (by decide)
    unfold Builtin.Int.intBits
    split <;> omega
  have h2 : (Builtin.Int.intBits i : Int) * j ≤ 1001 * 100 :=
    Int.le_trans (Int.mul_le_mul_of_nonneg_right h1 hc.1) (Int.mul_le_mul_of_nonneg_left hc.2.1 (by decide))
  have h3 : (1001 * 100 : Int) ≤ 2 ^ 27 := by decide
  omega
end
section
variable {K : Fr} {env : Env} {d d1 d2 d3 : Dt} {ds : List Dt} {te ta tb : TE} {M : Mem} {E : Ed} {tz ts : TS}
theorem rd_subG {i j : Int} : RD K rSubG (.int i) (.int j) (.int (i - j)) := rd_sub
theorem rd_fdivG {i j : Int} (hc : 0 < j ∧ j < 1073741824) : RD K rFdivG (.int i) (.int j) (.int (i / j)) := rd_fdiv hc
theorem rd_fdivWG {i j : Int} (h : 0 < j) (hb : j.natAbs < 2 ^ 8000) : RD K rFdivW (.int i) (.int j) (.int (i / j)) := rd_I (wide_div h hb (by decide) (by decide)) fun _ => rp_int.mpr rfl
theorem rd_modG {i j : Int} (hc : 0 < j) : RD K rModG (.int i) (.int j) (.int (i % j)) := rd_mod hc
theorem rd_ltG {i j : Int} : RD K rLtG (.int i) (.int j) (.bl (decide (i < j))) := rd_lt
theorem rd_leG {i j : Int} : RD K rLeG (.int i) (.int j) (.bl (decide (i ≤ j))) := rd_le
theorem rd_gtG {i j : Int} : RD K rGtG (.int i) (.int j) (.bl (decide (j < i))) := rd_gt
theorem rd_geG {i j : Int} : RD K rGeG (.int i) (.int j) (.bl (decide (j ≤ i))) := rd_ge
theorem rd_powG {i j : Int} (h : CPowW i j) : RD K rPowG (.int i) (.int j) (.int (i ^ j.toNat)) := rd_I h fun _ => rp_int.mpr rfl
theorem rd_repL {k : Int} (h0 : 0 ≤ k) (h1 : k ≤ 100) (hl : ds.length ≤ 100) : RD K rMulG (.lst ds) (.int k) (.lst (List.replicate k.toNat ds).flatten) := fun x y G H Q gh r1 r2 q => by
  obtain ⟨a, us, e1, e2, e3⟩ := rp_lst.mp r1
  refine .inr ⟨a, k, us, e1, rp_int.mp r2, gh _ _ e2, by omega, by omega, ?_, fun p hp => ?_⟩
  · rw [rpl_len e3]
    have : ds.length * k.toNat ≤ 100 * 100 := Nat.mul_le_mul hl (by omega)
    exact sz_of (by omega)
  · have st := Step.new (o := .lst (List.replicate k.toNat us).flatten) gh hp
    exact q _ _ _ st (rp_lst.mpr ⟨p, _, rfl, upd_same, rpl_rep _ (RpL.mono st.gg _ _ e3)⟩)
theorem q_par3 {i j l : Nat} (h : EA K ta' env [d1, d2, d3]) (k : SV K tz (((env.set i (some d1)).set j (some d2)).set l (some d3)) M E) : SV K (tSeq (tPar3 i j l ta') tz) env M E := fun G0 H0 G H σ D w eo c1 c2 c3 c4 =>
  h σ G H _ w.gh eo fun vs G1 H1 s1 r1 => by
    obtain ⟨x, r, rfl, e1, r2⟩ := rpl_cons.mp r1
    obtain ⟨y, z, rfl, e2, e3⟩ := rpl2 r2
    exact ⟨x, y, z, rfl, k G0 H0 G1 H1 _ D (w.step s1) ((((eo.mono s1.gg).set e1).set e2).set e3) c1 c2 c3 c4⟩
/-! isinstance -/
def tyOfD : Dt → Option String
  | .non => some "NoneType"
  | .bl _ => some "bool"
  | .int _ => some "int"
  | .str _ => some "str"
  | .lst _ => some "list"
  | .tup _ => some "tuple"
  | _ => none
theorem tyx_of {G H : Hp} {x : V} {t : String} (gh : Same G H) (r : Rp K G d x) (h : tyOfD d = some t) : TyX K H x (.type t) := by
  cases d with
  | non => rw [rp_non.mp r]; cases h; exact .base .non
  | bl b => rw [rp_bl.mp r]; cases h; exact .base (.bl b)
  | int i => rw [rp_int.mp r]; cases h; exact .base (.int i)
  | str x => rw [rp_str.mp r]; cases h; exact .base (.str x)
  | lst ds =>
    obtain ⟨a, xs, rfl, e2, e3⟩ := rp_lst.mp r
    cases h; exact .base (.lst (gh _ _ e2))
  | tup ds =>
    obtain ⟨a, xs, rfl, e2, e3⟩ := rp_tup.mp r
    cases h
    rcases e2 with (e2 | ⟨o, e2⟩) | ⟨o, its, n, hk, hc, _⟩
    · exact .base (.tup (gh _ _ e2))
    · exact .fTuple (gh _ _ e2)
    · exact .kTuple hk hc
  | obj _ _ _ => cases h
  | dic _ => cases h
  | raw _ => cases h
theorem rc_isi {t u : String} {b : Bool} (h : tyOfD d = some t) (hk : PySem.W.kitOne K (.type t) (.type u) = some b) : RC K (rIsi K) [d, .raw (.ty u)] (.bl b) := fun xs G H Q gh r k => by
  obtain ⟨x, y, rfl, h1, h2⟩ := rpl2 r
  rw [rp_raw.mp h2]
  exact ⟨x, .ty u, .type t, .type u, b, rfl, .ty u, tyx_of gh h1 h, hk, k _ G H (.refl gh) (rp_bl.mpr rfl)⟩
theorem ev_raw {v : V} : EV K (tC v) env (.raw v) := ev_c fun _ => rp_raw.mpr rfl
/-! xs.index(y) -/
theorem ev_index {to : TE} {t : TA} {j : Nat} {z : Dt} (ho : EV K to env (.lst ds)) (h : EA K t env [d]) (p1 : plain (.lst ds) = true) (p2 : plain d = true) (s1 : SeqAt.shaped (toPy (.lst ds)) = true) (s2 : SeqAt.shaped (toPy d) = true)
    (hz : ds[j]? = some z) (he : PyData.eqv (toPy z) (toPy d) = true) (hno : ∀ (m : Nat) z', m < j → ds[m]? = some z' → PyData.eqv (toPy z') (toPy d) = false) : EV K (tBM K "list" (rIndexD K) to t) env (.int (j : Nat)) := fun σ G H Q gh eo k =>
  ho σ G H _ gh eo fun v G1 H1 s1' r1 => by
    obtain ⟨a, us, rfl, e2, e3⟩ := rp_lst.mp r1
    refine ⟨.inl ⟨rfl, _, .inl (.inl (s1'.gh _ _ e2))⟩, ?_⟩
    refine h σ G1 H1 _ s1'.gh (eo.mono s1'.gg) fun xs G2 H2 s2' r2 => ?_
    obtain ⟨y, rfl, r3⟩ := rpl1 r2
    have r4 := Rp.mono (s2'.gg.trans s2'.gh) _ _ r1
    have gl : ∀ (l : List Dt) (m : Nat), (toPyL l)[m]? = l[m]?.map toPy := by
      intro l
      induction l with
      | nil => intro m; unfold toPyL; rfl
      | cons x l ih =>
        intro m
        unfold toPyL
        cases m with
        | zero => rfl
        | succ m => simpa using ih m
    have q1 := dp_of _ _ p1 r4
    have q2 := dp_of _ _ p2 (Rp.mono s2'.gh _ _ r3)
    unfold toPy at q1 s1
    refine ⟨a, y, toPy d, toPyL ds, j, toPy z, rfl, rfl, q1, q2, s1, s2, by rw [gl, hz]; rfl, he, fun m z' hm hz' => ?_, k _ G2 H2 (s1'.trans s2') (rp_int.mpr rfl)⟩
    rw [gl] at hz'
    obtain ⟨w, w1, rfl⟩ := Option.map_eq_some_iff.mp hz'
    exact hno m w hm w1
/-! dicts of ints -/
abbrev kvD (ks : List Int) : List (Key × V) := ks.map fun k => ((Sum.inl k : Key), V.bl true)
theorem valV_dic : ∀ {ks : List Int} {i : Int}, (valV (kvD ks) (Sum.inl i : Key)).isSome = decide (i ∈ ks)
  | [], i => by simp [valV]
  | k :: ks, i => by
    have ih := valV_dic (ks := ks) (i := i)
    by_cases e : k = i
    · rw [show kvD (k :: ks) = ((Sum.inl k : Key), V.bl true) :: kvD ks from rfl, valV_pos (by rw [e])]
      simp [e]
    · rw [show kvD (k :: ks) = ((Sum.inl k : Key), V.bl true) :: kvD ks from rfl, valV_neg (fun q => e (Sum.inl.inj q)), ih]
      have e' : ¬ i = k := fun q => e q.symm
      simp [e']
theorem ev_din {ti td : TE} {ks : List Int} {i : Int} (h1 : EV K ti env (.int i)) (h2 : EV K td env (.dic ks)) : EV K (tDIn ti td) env (.bl (decide (i ∈ ks))) := fun σ G H Q gh eo k =>
  h1 σ G H _ gh eo fun v G1 H1 s1 r1 => h2 σ G1 H1 _ s1.gh (eo.mono s1.gg) fun u G2 H2 s2 r2 => by
    obtain ⟨a, rfl, e⟩ := rp_dic.mp r2
    rw [rp_int.mp r1]
    refine ⟨a, _, rfl, DGet.k (k := Sum.inl i) (s2.gh _ _ e), k _ G2 H2 (s1.trans s2) ?_⟩
    exact rp_bl.mpr (congrArg V.bl valV_dic)
/-- {k: True for k in a list of unlike ints} -/
theorem ev_dc {wi : TI} {j : Nat} {vs : List Nat} {tk tv : TE} {ks : List Int} (hi : IV K wi env (ks.map Dt.int)) (hl : ks.length ≤ 100000) (hn : ks.Nodup) (hj : j ∈ vs)
    (hk : ∀ i ∈ ks, EV K tk ((ewipe env vs).set j (some (.int i))) (.int i)) (hv : ∀ i ∈ ks, EV K tv ((ewipe env vs).set j (some (.int i))) (.bl true)) : EV K (tDc wi (gName j) tYes tk tv vs) env (.dic ks) := by
  intro σ G H Q gh eo k
  refine hi σ G H _ gh eo fun J G1 H1 s1 yl D hD => ?_
  have eo1 := eo.mono s1.gg
  have el : (ks.map Dt.int).length = ks.length := List.length_map ..
  refine ⟨fun i m H' => m = ks.length - i ∧ i ≤ ks.length ∧ ∃ G', Same G' H' ∧ Same G1 G' ∧ Same H1 H' ∧ (∀ a o, G1 a = none → H1 a = some o → G' a = none) ∧ G' D = none ∧ H' D = some (.dK (kvD (ks.take i))),
    ⟨ks.length, rfl, Nat.zero_le _, G1, fun a o h => by rw [upd_ne (ne_of_none (s1.gh _ _ h) hD)]; exact s1.gh _ _ h, Same.refl _, same_new hD, fun _ _ h _ => h, s1.gh.free hD, upd_same⟩, ?_⟩
  rintro i m H' ⟨rfl, hi', G', c1, c2, c3, c4, c5, c6⟩
  by_cases hlt : i < ks.length
  · have hgi : (ks.map Dt.int)[i]? = some (.int ks[i]) := by rw [List.getElem?_map, List.getElem?_eq_getElem hlt]; rfl
    obtain ⟨go, yld⟩ := yl.go G' H' c2 c1 i _ hgi
    refine .inr ⟨go, fun H'' => ∃ G'', Same G'' H'' ∧ Same G1 G'' ∧ Same H1 H'' ∧ (∀ a o, G1 a = none → H1 a = some o → G'' a = none) ∧ G'' D = none ∧ H'' D = some (.dK (kvD (ks.take (i + 1)))), fun H'' h => ⟨ks.length - (i + 1), by omega, rfl, hlt, h⟩, fun x H3 y3 => ?_⟩
    obtain ⟨G3, s3, r3⟩ := yld x H3 y3
    have eo3 : EnvOk K G3 ((ewipe env vs).set j (some (.int ks[i]))) ((wipe σ vs).set j (some x)) := (((eo1.mono (c2.trans s3.gg)).wipe vs).set r3)
    refine ⟨wipe_off ⟨List.length_set, fun q hq => List.getElem?_set_ne fun e => hq (by rw [← e]; exact hj)⟩, ?_⟩
    show tk _ H3 _
    refine hk _ (List.getElem_mem hlt) _ G3 H3 _ s3.gh eo3 fun v4 G4 H4 s4 r4 => ?_
    refine hv _ (List.getElem_mem hlt) _ G4 H4 _ s4.gh (eo3.mono s4.gg) fun v5 G5 H5 s5 r5 => ?_
    rw [rp_int.mp r4, rp_bl.mp r5]
    have s35 := (s3.trans s4).trans s5
    have d5 := s35.hh _ _ c6
    have n5 := s35.no _ _ c5 c6
    have hnew : valV (kvD (ks.take i)) (Sum.inl ks[i] : Key) = none := by
      have h1 : (valV (kvD (ks.take i)) (Sum.inl ks[i] : Key)).isSome = false := by
        rw [valV_dic]
        refine decide_eq_false fun hm => ?_
        obtain ⟨q, hq, e⟩ := List.mem_iff_getElem.mp hm
        have hq' : q < i := by rw [List.length_take] at hq; omega
        rw [List.getElem_take] at e
        exact absurd ((List.getElem_inj hn).mp e) (by omega)
      exact Option.not_isSome_iff_eq_none.mp (by rw [h1]; decide)
    refine ⟨_, Sum.inl ks[i], rfl, d5, sz_lt (by rw [List.length_map, List.length_take]; omega), G5, fun a o h => ?_, c2.trans s35.gg, fun a o h => ?_, fun a o h1 h2 => s35.no _ _ (c4 _ _ h1 h2) (c3 _ _ h2), n5, ?_⟩
    · rw [upd_ne (ne_of_none h n5)]; exact s35.gh _ _ h
    · rw [upd_ne (ne_of_none h hD)]; exact s35.hh _ _ (c3 _ _ h)
    · rw [upd_same, putK_new _ hnew, List.take_succ, List.getElem?_eq_getElem hlt]
      show some (HO.dK (kvD (ks.take i) ++ [_])) = _
      have ek : kvD (ks.take i ++ (some ks[i]).toList) = kvD (ks.take i) ++ [((Sum.inl ks[i] : Key), V.bl true)] := by
        show (ks.take i ++ [ks[i]]).map _ = _
        rw [List.map_append]; rfl
      rw [ek]
  · have e : i = ks.length := by omega
    subst e
    rw [List.take_length] at c6
    have sn : Same G' (upd G' D (.dK (kvD ks))) := same_new c5
    have st := yl.stop G' H' c2 c1
    rw [el] at st
    refine .inl ⟨st, k _ (upd G' D (.dK (kvD ks))) H' (s1.trans ⟨c3, c2.trans sn, fun a o h => ?_, fun a o h1 h2 => ?_⟩) (rp_dic.mpr ⟨D, rfl, upd_same⟩)⟩
    · by_cases z : a = D
      · subst z; rw [upd_same] at h; cases h; exact c6
      · rw [upd_ne z] at h; exact c1 _ _ h
    · rw [upd_ne (ne_of_none h2 hD)]; exact c4 _ _ h1 h2
end
end Lk
set_option Elab.async false
set_option maxHeartbeats 2000000
/-! Plain functions: periods, canonical ladders, sets, invented calendars. No program here. -/
namespace Lk
theorem exists_min {P : Nat → Prop} (h : ∃ n, P n) : ∃ n, P n ∧ ∀ m, P m → n ≤ m := by
  obtain ⟨n, hn⟩ := h
  induction n using Nat.strongRecOn with
  | _ n ih =>
    by_cases q : ∃ m, m < n ∧ P m
    · obtain ⟨m, h1, h2⟩ := q
      exact ih m h1 h2
    · exact ⟨n, hn, fun m hm => Nat.le_of_not_lt fun hl => q ⟨m, hl, hm⟩⟩
/-- f comes again behind n days, greater by c -/
def Per (f : Nat → Nat) (n c : Nat) : Prop := ∀ x, f (x + n) = f x + c
def HasPer (f : Nat → Nat) (n : Nat) : Prop := ∃ c, Per f n c
open Classical in
noncomputable def minPer (f : Nat → Nat) : Nat := if h : ∃ n, 0 < n ∧ HasPer f n then Classical.choose (exists_min h) else 1
section
variable {f : Nat → Nat} {n c m k : Nat}
theorem Per.mul (h : Per f n c) : ∀ k, Per f (n * k) (c * k)
  | 0 => fun x => by simp
  | k + 1 => fun x => by
    rw [Nat.mul_succ, Nat.mul_succ, ← Nat.add_assoc, h, Per.mul h k x, Nat.add_assoc]
theorem Per.eval (h : Per f n c) (hn : 0 < n) (x : Nat) : f x = f (x % n) + c * (x / n) := by
  have := Per.mul h (x / n) (x % n)
  rw [Nat.add_comm, Nat.div_add_mod] at this
  exact this
theorem Per.val (h : Per f n c) : c = f n - f 0 := by
  have := h 0
  rw [Nat.zero_add] at this
  omega
theorem Per.uniq {c' : Nat} (h : Per f n c) (h' : Per f n c') : c = c' := by
  have h1 := h 0
  have h2 := h' 0
  omega
theorem Per.sub {c' : Nat} (h : Per f n c) (h' : Per f m c') (hm : m ≤ n) : ∀ x, f (x + (n - m)) + c' = f x + c := fun x => by
  have h1 := h' (x + (n - m))
  have h2 := h x
  rw [show x + (n - m) + m = x + n by omega] at h1
  omega
theorem HasPer.sub (h : HasPer f n) (h' : HasPer f m) (hm : m ≤ n) (hk : 0 < n - m) : HasPer f (n - m) := by
  obtain ⟨c, h⟩ := h
  obtain ⟨c', h'⟩ := h'
  have q := Per.sub h h' hm
  by_cases hc : c' ≤ c
  · exact ⟨c - c', fun x => by have := q x; omega⟩
  · -- f would fall for ever
    exfalso
    have fall : ∀ j, f ((n - m) * j) + j ≤ f 0 := by
      intro j
      induction j with
      | zero => simp
      | succ j ih =>
        have := q ((n - m) * j)
        rw [Nat.mul_succ]
        omega
    have := fall (f 0 + 1)
    omega
theorem minPer_spec (h : HasPer f n) (hn : 0 < n) : 0 < minPer f ∧ HasPer f (minPer f) ∧ ∀ m, 0 < m → HasPer f m → minPer f ≤ m := by
  have e : ∃ n, 0 < n ∧ HasPer f n := ⟨n, hn, h⟩
  have s := Classical.choose_spec (exists_min e)
  unfold minPer
  rw [dif_pos e]
  exact ⟨s.1.1, s.1.2, fun m h1 h2 => s.2 m ⟨h1, h2⟩⟩
theorem minPer_dvd (h : HasPer f n) (hn : 0 < n) : ∀ m, HasPer f m → minPer f ∣ m := by
  obtain ⟨h1, h2, h3⟩ := minPer_spec h hn
  intro m
  induction m using Nat.strongRecOn with
  | _ m ih =>
    intro hm
    by_cases h0 : m = 0
    · subst h0; exact Nat.dvd_zero _
    · have hle := h3 m (by omega) hm
      by_cases he : m = minPer f
      · rw [← he]; exact Nat.dvd_refl _
      · have := ih (m - minPer f) (by omega) (hm.sub h2 hle (by omega))
        have e : m = minPer f + (m - minPer f) := by omega
        rw [e]
        exact Nat.dvd_add (Nat.dvd_refl _) this
theorem minPer_per (h : HasPer f n) (hn : 0 < n) : Per f (minPer f) (f (minPer f) - f 0) := by
  obtain ⟨c, hc⟩ := (minPer_spec h hn).2.1
  rw [← hc.val]; exact hc
/-- the rise of the least round, by any round -/
theorem minPer_rise (h : Per f n c) (hn : 0 < n) : c * minPer f / n = f (minPer f) - f 0 := by
  obtain ⟨k, hk⟩ := minPer_dvd ⟨c, h⟩ hn n ⟨c, h⟩
  have hp := (minPer_spec ⟨c, h⟩ hn).1
  have p := minPer_per ⟨c, h⟩ hn
  have hkp : 0 < k := by
    rcases Nat.eq_zero_or_pos k with z | z
    · subst z; omega
    · exact z
  have e : c = (f (minPer f) - f 0) * k := by
    have := p.mul k
    rw [← hk] at this
    exact h.uniq this
  rw [e]
  generalize hd : f (minPer f) - f 0 = d
  rw [show d * k * minPer f = d * (minPer f * k) by rw [Nat.mul_assoc, Nat.mul_comm k]]
  rw [← hk]
  exact Nat.mul_div_cancel _ hn
end
end Lk
set_option Elab.async false
set_option linter.all false
set_option maxRecDepth 100000
set_option maxHeartbeats 4000000
/-! What each def is asked and gives, over data. -/
namespace Lk
open PySem L2
/-! ### promises by the number of arguments -/
def F1 (r : Dt → Dt → Prop) : List Dt → Dt → Prop
  | [a], d => r a d
  | _, _ => False
def F2 (r : Dt → Dt → Dt → Prop) : List Dt → Dt → Prop
  | [a, b], d => r a b d
  | _, _ => False
def F3 (r : Dt → Dt → Dt → Dt → Prop) : List Dt → Dt → Prop
  | [a, b, c], d => r a b c d
  | _, _ => False
def F4 (r : Dt → Dt → Dt → Dt → Dt → Prop) : List Dt → Dt → Prop
  | [a, b, c, e], d => r a b c e d
  | _, _ => False
theorem F1.ex {r : Dt → Dt → Prop} : ∀ {ds : List Dt} {d : Dt}, F1 r ds d → ∃ a, ds = [a] ∧ r a d
  | [a], d, h => ⟨a, rfl, h⟩
theorem F2.ex {r : Dt → Dt → Dt → Prop} : ∀ {ds : List Dt} {d : Dt}, F2 r ds d → ∃ a b, ds = [a, b] ∧ r a b d
  | [a, b], d, h => ⟨a, b, rfl, h⟩
theorem F3.ex {r : Dt → Dt → Dt → Dt → Prop} : ∀ {ds : List Dt} {d : Dt}, F3 r ds d → ∃ a b c, ds = [a, b, c] ∧ r a b c d
  | [a, b, c], d, h => ⟨a, b, c, rfl, h⟩
theorem F4.ex {r : Dt → Dt → Dt → Dt → Dt → Prop} : ∀ {ds : List Dt} {d : Dt}, F4 r ds d → ∃ a b c e, ds = [a, b, c, e] ∧ r a b c e d
  | [a, b, c, e], d, h => ⟨a, b, c, e, rfl, h⟩
theorem F1.len {r : Dt → Dt → Prop} {ds : List Dt} {d : Dt} (h : F1 r ds d) : ds.length = 1 := by obtain ⟨a, rfl, _⟩ := h.ex; rfl
theorem F2.len {r : Dt → Dt → Dt → Prop} {ds : List Dt} {d : Dt} (h : F2 r ds d) : ds.length = 2 := by obtain ⟨a, b, rfl, _⟩ := h.ex; rfl
theorem F3.len {r : Dt → Dt → Dt → Dt → Prop} {ds : List Dt} {d : Dt} (h : F3 r ds d) : ds.length = 3 := by obtain ⟨a, b, c, rfl, _⟩ := h.ex; rfl
theorem F4.len {r : Dt → Dt → Dt → Dt → Dt → Prop} {ds : List Dt} {d : Dt} (h : F4 r ds d) : ds.length = 4 := by obtain ⟨a, b, c, e, rfl, _⟩ := h.ex; rfl

/-! ### the text behind the top -/
structure Txt (K : Fr) (mg : Str → Option Value) : Prop where
  sayx : SaysX fa fn K
  glo : ∀ x, (He.Fa.glo x).ok K = true → mg x = some (.ref (He.ga K x))
  free : ∀ x, (He.Fa.free x).ok K = true → mg x = none
theorem Txt.says {K : Fr} {mg : Str → Option Value} (T : Txt K mg) : He.SaysD fa fn K := T.sayx.both.1
theorem Txt.prop {K : Fr} {mg : Str → Option Value} (T : Txt K mg) : PropOf K (He.ga K "Almanac") "calendar" (pAd K) (gAd K) := by
  have h := T.sayx.both.2.1
  unfold moreB at h
  rw [Bool.and_eq_true_iff] at h
  exact prop_ok h.1
theorem Txt.getter {K : Fr} {mg : Str → Option Value} (T : Txt K mg) : ∃ fd, FunD K "calendar" "Almanac.calendar" (defArgs s_Almanac_calendar) (defBody s_Almanac_calendar) (defScope s_Almanac_calendar) [] [] (gAd K) fd := by
  have h := T.sayx.both.2.1
  unfold moreB at h
  rw [Bool.and_eq_true_iff, Bool.and_eq_true_iff] at h
  exact getD (d := d_Almanac_calendar) rfl rfl T.sayx.both.2.2 h.2.1
theorem Txt.tabs {K : Fr} {mg : Str → Option Value} (T : Txt K mg) : He.tupB K "PAIRS" pairsV = true ∧ He.tupB K "GOING" goingV = true := by
  have h := T.sayx.both.2.1
  unfold moreB at h
  rw [Bool.and_eq_true_iff, Bool.and_eq_true_iff, Bool.and_eq_true_iff] at h
  exact h.2.2
/-- a def stands at f and keeps the promise -/
def Has (P : Program) (w : World) (K : Fr) (mg : Str → Option Value) (base : Heap) (k : Nat) (f : Addr) (ps : List Str) (sp : Sp) : Prop :=
  PySem.W.keepIn K (.ref f) = true ∧ ∃ fd, FnOk P w K mg base CX0 k f fd ps sp ∧ Binds K fd ps []

/-! ### data -/
def tab (f : Nat → Nat) (n : Nat) : List Int := (List.range n).map fun i => ((f i : Nat) : Int)
def ladD (t : List Int) (r : Int) : Dt := .tup [.lst [], .lst (t.map Dt.int), .int r]
def rep (f : Nat → Nat) (n c : Nat) : Dt := ladD (tab f n) c
noncomputable def canon (f : Nat → Nat) : Dt := rep f (minPer f) (f (minPer f) - f 0)
def ind (S : Nat → Bool) (x : Nat) : Nat := if S x then 1 else 0
def days (S : Nat → Bool) (n : Nat) : List Int := ((List.range n).filter S).map fun i => ((i : Nat) : Int)
def setS (S : Nat → Bool) (n : Nat) : Dt := .tup [.lst [], .int 0, .int n, .lst ((days S n).map Dt.int)]
noncomputable def setC (S : Nat → Bool) : Dt := setS S (minPer (ind S))
/-- how many days of S are less than x -/
def cnt (S : Nat → Bool) : Nat → Nat
  | 0 => 0
  | x + 1 => cnt S x + ind S x
open Classical in
/-- the k-th day of S -/
noncomputable def nthS (S : Nat → Bool) (k : Nat) : Nat := if h : ∃ x, S x = true ∧ cnt S x = k then Classical.choose h else 0
/-- a ladder: its rounds, never falling -/
structure Lad (f : Nat → Nat) (n c : Nat) : Prop where
  per : Per f n c
  pos : 0 < n
  mono : ∀ x, f x ≤ f (x + 1)
/-! ### checks, rounds -/
def falls (ns : List Int) : Bool := (ns.zip (ns.drop 1)).all fun p => decide (p.1 ≤ p.2)
def rises (ns : List Int) : Bool := (ns.zip (ns.drop 1)).all fun p => decide (p.1 < p.2)
abbrev F_never_falls (K : Fr) := F1 fun a d => ∃ ns : List Int, a = .lst (ns.map Dt.int) ∧ ns.length ≤ 20000 ∧ d = .bl (falls ns)
abbrev F_always_rises (K : Fr) := F1 fun a d => ∃ ns : List Int, a = .lst (ns.map Dt.int) ∧ ns.length ≤ 20000 ∧ d = .bl (rises ns)
abbrev F_is_ladder (K : Fr) := F1 fun a d => ∃ f n c, a = rep f n c ∧ Lad f n c ∧ n ≤ 5000 ∧ d = .bl true
abbrev F_need_ladder (K : Fr) := F1 fun a d => ∃ f n c, a = rep f n c ∧ Lad f n c ∧ n ≤ 5000 ∧ d = .non
abbrev F_is_set (K : Fr) := F1 fun a d => ∃ S n, a = setS S n ∧ 0 < n ∧ n ≤ 5000 ∧ d = .bl true
abbrev F_need_set (K : Fr) := F1 fun a d => ∃ S n, a = setS S n ∧ 0 < n ∧ n ≤ 5000 ∧ d = .non
abbrev F_need_number (K : Fr) := F2 fun a b d => ∃ i j : Int, a = .int i ∧ b = .int j ∧ j ≤ i ∧ d = .non
abbrev F_common_divisor (K : Fr) := F2 fun a b d => ∃ i j : Nat, a = .int i ∧ b = .int j ∧ d = .int (Nat.gcd i j)
abbrev F_common_multiple (K : Fr) := F2 fun a b d => ∃ i j : Nat, a = .int i ∧ b = .int j ∧ 0 < i ∧ 0 < j ∧ i ≤ 5000 ∧ j ≤ 5000 ∧ d = .int (Nat.lcm i j)
/-- the primes that divide n, below k -/
def isPr (n p : Nat) : Bool := decide (1 < p ∧ p ∣ n) && (List.range p).all fun q => !(decide (1 < q ∧ q ∣ p))
def primes (n k : Nat) : List Int := ((List.range k).filter (isPr n)).map fun i => ((i : Nat) : Int)
abbrev F_prime_parts (K : Fr) := F1 fun a d => ∃ n : Nat, a = .int n ∧ 0 < n ∧ n ≤ 5000 ∧ d = .lst ((primes n (n + 1)).map Dt.int)
abbrev F_number_at (K : Fr) := F2 fun a b d => ∃ (f : Nat → Nat) (n c x : Nat), a = rep f n c ∧ Per f n c ∧ 0 < n ∧ n ≤ 5000 ∧ c ≤ 5000 ∧ b = .int x ∧ d = .int (f x)
abbrev F_first_numbers (K : Fr) := F2 fun a b d => ∃ (f : Nat → Nat) (n c m : Nat), a = rep f n c ∧ Per f n c ∧ 0 < n ∧ n ≤ 5000 ∧ c ≤ 5000 ∧ b = .int m ∧ m ≤ 10000 ∧ d = .lst ((tab f m).map Dt.int)
open Classical in
abbrev F_comes_again (K : Fr) := F3 fun a b c d => ∃ (f : Nat → Nat) (n r l : Nat), a = .lst ((tab f n).map Dt.int) ∧ b = .int r ∧ c = .int l ∧ Per f n r ∧ 0 < n ∧ n ≤ 5000 ∧ 0 < l ∧ l ∣ n ∧ d = .bl (decide (HasPer f l))
abbrev F_least_length (K : Fr) := F2 fun a b d => ∃ (f : Nat → Nat) (n r : Nat), a = .lst ((tab f n).map Dt.int) ∧ b = .int r ∧ Per f n r ∧ 0 < n ∧ n ≤ 5000 ∧ d = .int (minPer f)
abbrev F_least_way (K : Fr) := F1 fun a d => ∃ (f : Nat → Nat) (n c : Nat), a = rep f n c ∧ Per f n c ∧ 0 < n ∧ n ≤ 5000 ∧ c ≤ 5000 ∧ d = canon f
abbrev F_least_row (K : Fr) := F1 fun a d => ∃ (f : Nat → Nat) (n : Nat), a = .tup [.lst [], .lst ((tab f n).map Dt.int)] ∧ Per f n 0 ∧ 0 < n ∧ n ≤ 5000 ∧ d = .tup [.lst [], .lst ((tab f (minPer f)).map Dt.int)]
abbrev F_set_row (K : Fr) := F1 fun a d => ∃ (S : Nat → Bool) (n : Nat), a = setS S n ∧ 0 < n ∧ n ≤ 5000 ∧ d = .tup [.lst [], .lst ((tab (ind S) n).map Dt.int)]
abbrev F_set_from (K : Fr) := F1 fun a d => ∃ (S : Nat → Bool) (n : Nat), a = .tup [.lst [], .lst ((tab (ind S) n).map Dt.int)] ∧ Per (ind S) n 0 ∧ 0 < n ∧ n ≤ 5000 ∧ d = setC S
abbrev F_counts_of (K : Fr) := F1 fun a d => ∃ (S : Nat → Bool) (n : Nat), a = setS S n ∧ Per (ind S) n 0 ∧ 0 < n ∧ n ≤ 5000 ∧ d = canon (cnt S)
abbrev F_nth_of (K : Fr) := F1 fun a d => ∃ (S : Nat → Bool) (n : Nat), a = setS S n ∧ Per (ind S) n 0 ∧ 0 < n ∧ n ≤ 5000 ∧ (∃ x, S x = true) ∧ d = canon (nthS S)
abbrev F_first_at_least (K : Fr) := F2 fun a b d => ∃ (f : Nat → Nat) (n c : Nat), a = rep f n c ∧ 0 < n ∧ n ≤ 5000 ∧ 0 < c ∧ c ≤ 5000 ∧ b = .int 0 ∧ d = .int 0
abbrev F_joined_ladders (K : Fr) := F2 fun a b d => ∃ (f g : Nat → Nat) (n c m r : Nat), a = rep f n c ∧ b = rep g m r ∧ Per f n c ∧ Per g m r ∧ 0 < n ∧ n ≤ 60 ∧ 0 < c ∧ c ≤ 60 ∧ 0 < m ∧ m ≤ 60 ∧ r ≤ 60 ∧ d = canon fun x => g (f x)
abbrev F_common_way (K : Fr) := F2 fun a b d => ∃ (f g : Nat → Nat) (n c m r : Nat), a = rep f n c ∧ b = rep g m r ∧ 0 < n ∧ n ≤ 60 ∧ 0 < m ∧ m ≤ 60 ∧ d = .tup [.int 0, .int (Nat.lcm n m)]
abbrev F_risen (K : Fr) := F2 fun a b d => ∃ (f : Nat → Nat) (n c l : Nat), a = rep f n c ∧ b = .int l ∧ 0 < n ∧ n ≤ 5000 ∧ c ≤ 5000 ∧ d = .int (c * (l / n))
abbrev F_unlike_day (K : Fr) := F2 fun a b d => ∃ (f g : Nat → Nat) (n c m r : Nat), a = rep f n c ∧ b = rep g m r ∧ Per f n c ∧ Per g m r ∧ 0 < n ∧ n ≤ 60 ∧ c ≤ 60 ∧ 0 < m ∧ m ≤ 60 ∧ r ≤ 60 ∧ (∀ x, f x = g x) ∧ d = .non
abbrev F_less_day (K : Fr) := F2 fun a b d => ∃ (f g : Nat → Nat) (n c m r : Nat), a = rep f n c ∧ b = rep g m r ∧ Per f n c ∧ Per g m r ∧ 0 < n ∧ n ≤ 60 ∧ c ≤ 60 ∧ 0 < m ∧ m ≤ 60 ∧ r ≤ 60 ∧ (∀ x, g x ≤ f x) ∧ r * (Nat.lcm n m / m) ≤ c * (Nat.lcm n m / n) ∧ d = .non
/-! ### days -/
abbrev F_least_set (K : Fr) := F1 fun a d => ∃ (S : Nat → Bool) (n : Nat), a = setS S n ∧ Per (ind S) n 0 ∧ 0 < n ∧ n ≤ 5000 ∧ d = setC S
abbrev F_counts (K : Fr) := F_counts_of K
abbrev F_nth_days (K : Fr) := F_nth_of K
/-! ### ladders -/
abbrev F_value (K : Fr) := F2 fun a b d => ∃ (f : Nat → Nat) (n c x : Nat), a = rep f n c ∧ Lad f n c ∧ n ≤ 5000 ∧ c ≤ 5000 ∧ b = .int x ∧ d = .int (f x)
abbrev F_least_ladder (K : Fr) := F1 fun a d => ∃ (f : Nat → Nat) (n c : Nat), a = rep f n c ∧ Lad f n c ∧ n ≤ 5000 ∧ c ≤ 5000 ∧ d = canon f
abbrev F_need_two_ladders (K : Fr) := F2 fun a b d => ∃ (f g : Nat → Nat) (n c m r : Nat), a = rep f n c ∧ b = rep g m r ∧ Lad f n c ∧ Lad g m r ∧ n ≤ 5000 ∧ m ≤ 5000 ∧ d = .non
abbrev F_joined (K : Fr) := F2 fun a b d => ∃ (f g : Nat → Nat) (n c m r : Nat), a = rep f n c ∧ b = rep g m r ∧ Lad f n c ∧ Lad g m r ∧ n ≤ 60 ∧ 0 < c ∧ c ≤ 60 ∧ m ≤ 60 ∧ r ≤ 60 ∧ d = canon fun x => g (f x)
abbrev F_alike (K : Fr) := F2 fun a b d => ∃ (f g : Nat → Nat) (n c m r : Nat), a = rep f n c ∧ b = rep g m r ∧ Lad f n c ∧ Lad g m r ∧ n ≤ 60 ∧ c ≤ 60 ∧ m ≤ 60 ∧ r ≤ 60 ∧ (∀ x, f x = g x) ∧ d = .bl true
abbrev F_first_less (K : Fr) := F2 fun a b d => ∃ (f g : Nat → Nat) (n c m r : Nat), a = rep f n c ∧ b = rep g m r ∧ Lad f n c ∧ Lad g m r ∧ n ≤ 60 ∧ c ≤ 60 ∧ m ≤ 60 ∧ r ≤ 60 ∧ (∀ x, g x ≤ f x) ∧ r * (Nat.lcm n m / m) ≤ c * (Nat.lcm n m / n) ∧ d = .non
abbrev sp_never_falls (K : Fr) := spD K (F_never_falls K)
abbrev sp_always_rises (K : Fr) := spD K (F_always_rises K)
abbrev sp_is_ladder (K : Fr) := spD K (F_is_ladder K)
abbrev sp_need_ladder (K : Fr) := spD K (F_need_ladder K)
abbrev sp_is_set (K : Fr) := spD K (F_is_set K)
abbrev sp_need_set (K : Fr) := spD K (F_need_set K)
abbrev sp_need_number (K : Fr) := spD K (F_need_number K)
abbrev sp_common_divisor (K : Fr) := spD K (F_common_divisor K)
abbrev sp_common_multiple (K : Fr) := spD K (F_common_multiple K)
abbrev sp_prime_parts (K : Fr) := spD K (F_prime_parts K)
abbrev sp_number_at (K : Fr) := spD K (F_number_at K)
abbrev sp_first_numbers (K : Fr) := spD K (F_first_numbers K)
abbrev sp_comes_again (K : Fr) := spD K (F_comes_again K)
abbrev sp_least_length (K : Fr) := spD K (F_least_length K)
abbrev sp_least_way (K : Fr) := spD K (F_least_way K)
abbrev sp_least_row (K : Fr) := spD K (F_least_row K)
abbrev sp_set_row (K : Fr) := spD K (F_set_row K)
abbrev sp_set_from (K : Fr) := spD K (F_set_from K)
abbrev sp_counts_of (K : Fr) := spD K (F_counts_of K)
abbrev sp_nth_of (K : Fr) := spD K (F_nth_of K)
abbrev sp_first_at_least (K : Fr) := spD K (F_first_at_least K)
abbrev sp_joined_ladders (K : Fr) := spD K (F_joined_ladders K)
abbrev sp_common_way (K : Fr) := spD K (F_common_way K)
abbrev sp_risen (K : Fr) := spD K (F_risen K)
abbrev sp_unlike_day (K : Fr) := spD K (F_unlike_day K)
abbrev sp_less_day (K : Fr) := spD K (F_less_day K)
abbrev sp_least_set (K : Fr) := spD K (F_least_set K)
abbrev sp_counts (K : Fr) := spD K (F_counts K)
abbrev sp_nth_days (K : Fr) := spD K (F_nth_days K)
abbrev sp_value (K : Fr) := spD K (F_value K)
abbrev sp_least_ladder (K : Fr) := spD K (F_least_ladder K)
abbrev sp_need_two_ladders (K : Fr) := spD K (F_need_two_ladders K)
abbrev sp_joined (K : Fr) := spD K (F_joined K)
abbrev sp_alike (K : Fr) := spD K (F_alike K)
abbrev sp_first_less (K : Fr) := spD K (F_first_less K)
end Lk
set_option Elab.async false
set_option linter.all false
set_option maxRecDepth 100000
namespace Lk
open PySem L2
section
variable {K : Fr} {mg : Str → Option Value} (T : Txt K mg)
include T
theorem m_copied : mg "copied" = some (.ref (He.ga K "copied")) := T.glo _ (T.says.fact 0 (f := .glo "copied") rfl)
theorem m_never_falls : mg "never_falls" = some (.ref (He.ga K "never_falls")) := T.glo _ (T.says.fact 1 (f := .glo "never_falls") rfl)
theorem m_always_rises : mg "always_rises" = some (.ref (He.ga K "always_rises")) := T.glo _ (T.says.fact 2 (f := .glo "always_rises") rfl)
theorem m_is_ladder : mg "is_ladder" = some (.ref (He.ga K "is_ladder")) := T.glo _ (T.says.fact 3 (f := .glo "is_ladder") rfl)
theorem m_is_set : mg "is_set" = some (.ref (He.ga K "is_set")) := T.glo _ (T.says.fact 4 (f := .glo "is_set") rfl)
theorem m_need_ladder : mg "need_ladder" = some (.ref (He.ga K "need_ladder")) := T.glo _ (T.says.fact 5 (f := .glo "need_ladder") rfl)
theorem m_need_set : mg "need_set" = some (.ref (He.ga K "need_set")) := T.glo _ (T.says.fact 6 (f := .glo "need_set") rfl)
theorem m_need_number : mg "need_number" = some (.ref (He.ga K "need_number")) := T.glo _ (T.says.fact 7 (f := .glo "need_number") rfl)
theorem m_common_divisor : mg "common_divisor" = some (.ref (He.ga K "common_divisor")) := T.glo _ (T.says.fact 8 (f := .glo "common_divisor") rfl)
theorem m_common_multiple : mg "common_multiple" = some (.ref (He.ga K "common_multiple")) := T.glo _ (T.says.fact 9 (f := .glo "common_multiple") rfl)
theorem m_prime_parts : mg "prime_parts" = some (.ref (He.ga K "prime_parts")) := T.glo _ (T.says.fact 10 (f := .glo "prime_parts") rfl)
theorem m_number_at : mg "number_at" = some (.ref (He.ga K "number_at")) := T.glo _ (T.says.fact 11 (f := .glo "number_at") rfl)
theorem m_first_numbers : mg "first_numbers" = some (.ref (He.ga K "first_numbers")) := T.glo _ (T.says.fact 12 (f := .glo "first_numbers") rfl)
theorem m_comes_again : mg "comes_again" = some (.ref (He.ga K "comes_again")) := T.glo _ (T.says.fact 13 (f := .glo "comes_again") rfl)
theorem m_least_length : mg "least_length" = some (.ref (He.ga K "least_length")) := T.glo _ (T.says.fact 14 (f := .glo "least_length") rfl)
theorem m_least_way : mg "least_way" = some (.ref (He.ga K "least_way")) := T.glo _ (T.says.fact 15 (f := .glo "least_way") rfl)
theorem m_least_row : mg "least_row" = some (.ref (He.ga K "least_row")) := T.glo _ (T.says.fact 16 (f := .glo "least_row") rfl)
theorem m_set_row : mg "set_row" = some (.ref (He.ga K "set_row")) := T.glo _ (T.says.fact 17 (f := .glo "set_row") rfl)
theorem m_set_from : mg "set_from" = some (.ref (He.ga K "set_from")) := T.glo _ (T.says.fact 18 (f := .glo "set_from") rfl)
theorem m_counts_of : mg "counts_of" = some (.ref (He.ga K "counts_of")) := T.glo _ (T.says.fact 19 (f := .glo "counts_of") rfl)
theorem m_nth_of : mg "nth_of" = some (.ref (He.ga K "nth_of")) := T.glo _ (T.says.fact 20 (f := .glo "nth_of") rfl)
theorem m_first_at_least : mg "first_at_least" = some (.ref (He.ga K "first_at_least")) := T.glo _ (T.says.fact 21 (f := .glo "first_at_least") rfl)
theorem m_joined_ladders : mg "joined_ladders" = some (.ref (He.ga K "joined_ladders")) := T.glo _ (T.says.fact 22 (f := .glo "joined_ladders") rfl)
theorem m_common_way : mg "common_way" = some (.ref (He.ga K "common_way")) := T.glo _ (T.says.fact 23 (f := .glo "common_way") rfl)
theorem m_risen : mg "risen" = some (.ref (He.ga K "risen")) := T.glo _ (T.says.fact 24 (f := .glo "risen") rfl)
theorem m_unlike_day : mg "unlike_day" = some (.ref (He.ga K "unlike_day")) := T.glo _ (T.says.fact 25 (f := .glo "unlike_day") rfl)
theorem m_less_day : mg "less_day" = some (.ref (He.ga K "less_day")) := T.glo _ (T.says.fact 26 (f := .glo "less_day") rfl)
theorem m_least_set : mg "least_set" = some (.ref (He.ga K "least_set")) := T.glo _ (T.says.fact 27 (f := .glo "least_set") rfl)
theorem m_counts : mg "counts" = some (.ref (He.ga K "counts")) := T.glo _ (T.says.fact 28 (f := .glo "counts") rfl)
theorem m_nth_days : mg "nth_days" = some (.ref (He.ga K "nth_days")) := T.glo _ (T.says.fact 29 (f := .glo "nth_days") rfl)
theorem m_check_feast : mg "check_feast" = some (.ref (He.ga K "check_feast")) := T.glo _ (T.says.fact 30 (f := .glo "check_feast") rfl)
theorem m_check_feasts : mg "check_feasts" = some (.ref (He.ga K "check_feasts")) := T.glo _ (T.says.fact 31 (f := .glo "check_feasts") rfl)
theorem m_names_in : mg "names_in" = some (.ref (He.ga K "names_in")) := T.glo _ (T.says.fact 32 (f := .glo "names_in") rfl)
theorem m_days_of : mg "days_of" = some (.ref (He.ga K "days_of")) := T.glo _ (T.says.fact 33 (f := .glo "days_of") rfl)
theorem m_value : mg "value" = some (.ref (He.ga K "value")) := T.glo _ (T.says.fact 34 (f := .glo "value") rfl)
theorem m_least_ladder : mg "least_ladder" = some (.ref (He.ga K "least_ladder")) := T.glo _ (T.says.fact 35 (f := .glo "least_ladder") rfl)
theorem m_joined : mg "joined" = some (.ref (He.ga K "joined")) := T.glo _ (T.says.fact 36 (f := .glo "joined") rfl)
theorem m_alike : mg "alike" = some (.ref (He.ga K "alike")) := T.glo _ (T.says.fact 37 (f := .glo "alike") rfl)
theorem m_first_less : mg "first_less" = some (.ref (He.ga K "first_less")) := T.glo _ (T.says.fact 38 (f := .glo "first_less") rfl)
theorem m_days_on : mg "days_on" = some (.ref (He.ga K "days_on")) := T.glo _ (T.says.fact 39 (f := .glo "days_on") rfl)
theorem m_going_on : mg "going_on" = some (.ref (He.ga K "going_on")) := T.glo _ (T.says.fact 40 (f := .glo "going_on") rfl)
theorem m_opened_step : mg "opened_step" = some (.ref (He.ga K "opened_step")) := T.glo _ (T.says.fact 41 (f := .glo "opened_step") rfl)
theorem m_opened_term : mg "opened_term" = some (.ref (He.ga K "opened_term")) := T.glo _ (T.says.fact 42 (f := .glo "opened_term") rfl)
theorem m_check_ends : mg "check_ends" = some (.ref (He.ga K "check_ends")) := T.glo _ (T.says.fact 43 (f := .glo "check_ends") rfl)
theorem m_checked_term : mg "checked_term" = some (.ref (He.ga K "checked_term")) := T.glo _ (T.says.fact 44 (f := .glo "checked_term") rfl)
theorem m_ladder_of_step : mg "ladder_of_step" = some (.ref (He.ga K "ladder_of_step")) := T.glo _ (T.says.fact 45 (f := .glo "ladder_of_step") rfl)
theorem m_joined_all : mg "joined_all" = some (.ref (He.ga K "joined_all")) := T.glo _ (T.says.fact 46 (f := .glo "joined_all") rfl)
theorem m_ladder_of_steps : mg "ladder_of_steps" = some (.ref (He.ga K "ladder_of_steps")) := T.glo _ (T.says.fact 47 (f := .glo "ladder_of_steps") rfl)
theorem m_ladder_of : mg "ladder_of" = some (.ref (He.ga K "ladder_of")) := T.glo _ (T.says.fact 48 (f := .glo "ladder_of") rfl)
theorem m_due : mg "due" = some (.ref (He.ga K "due")) := T.glo _ (T.says.fact 49 (f := .glo "due") rfl)
theorem m_two_ladders : mg "two_ladders" = some (.ref (He.ga K "two_ladders")) := T.glo _ (T.says.fact 50 (f := .glo "two_ladders") rfl)
theorem m_first_later : mg "first_later" = some (.ref (He.ga K "first_later")) := T.glo _ (T.says.fact 51 (f := .glo "first_later") rfl)
theorem m_never_later : mg "never_later" = some (.ref (He.ga K "never_later")) := T.glo _ (T.says.fact 52 (f := .glo "never_later") rfl)
theorem m_passing : mg "passing" = some (.ref (He.ga K "passing")) := T.glo _ (T.says.fact 53 (f := .glo "passing") rfl)
theorem m_are_years : mg "are_years" = some (.ref (He.ga K "are_years")) := T.glo _ (T.says.fact 54 (f := .glo "are_years") rfl)
theorem m_law_purse : mg "_law_purse" = some (.ref (He.ga K "_law_purse")) := T.glo _ (T.says.fact 55 (f := .glo "_law_purse") rfl)
theorem m_law_coin : mg "_law_coin" = some (.ref (He.ga K "_law_coin")) := T.glo _ (T.says.fact 56 (f := .glo "_law_coin") rfl)
theorem m_law_copied : mg "_law_copied" = some (.ref (He.ga K "_law_copied")) := T.glo _ (T.says.fact 57 (f := .glo "_law_copied") rfl)
theorem m_law_wide_years : mg "_law_wide_years" = some (.ref (He.ga K "_law_wide_years")) := T.glo _ (T.says.fact 58 (f := .glo "_law_wide_years") rfl)
theorem m_law_later_date : mg "_law_later_date" = some (.ref (He.ga K "_law_later_date")) := T.glo _ (T.says.fact 59 (f := .glo "_law_later_date") rfl)
theorem m_law_one_right : mg "_law_one_right" = some (.ref (He.ga K "_law_one_right")) := T.glo _ (T.says.fact 60 (f := .glo "_law_one_right") rfl)
theorem m_law_ways_right : mg "_law_ways_right" = some (.ref (He.ga K "_law_ways_right")) := T.glo _ (T.says.fact 61 (f := .glo "_law_ways_right") rfl)
theorem m_law_month_ends_right : mg "_law_month_ends_right" = some (.ref (He.ga K "_law_month_ends_right")) := T.glo _ (T.says.fact 62 (f := .glo "_law_month_ends_right") rfl)
theorem m_law_right : mg "_law_right" = some (.ref (He.ga K "_law_right")) := T.glo _ (T.says.fact 63 (f := .glo "_law_right") rfl)
theorem m_law : mg "law" = some (.ref (He.ga K "law")) := T.glo _ (T.says.fact 64 (f := .glo "law") rfl)
theorem m_need_two_ladders : mg "need_two_ladders" = some (.ref (He.ga K "need_two_ladders")) := T.glo _ (T.says.fact 65 (f := .glo "need_two_ladders") rfl)
theorem m_Almanac : mg "Almanac" = some (.ref (He.ga K "Almanac")) := T.glo _ (T.says.fact 66 (f := .glo "Almanac") rfl)
theorem k_Almanac : Cls K (He.ga K "Almanac") := He.cls_ok (T.says.fact 67 (f := .cls "Almanac") rfl)
theorem mk_Almanac : Mk K (He.ga K "Almanac") (He.ma K (He.ga K "Almanac") "__init__") := He.mkr_ok (T.says.fact 68 (f := .mkr "Almanac") rfl)
theorem mt_Almanac_names : Meth K (He.ga K "Almanac") "names" (He.ma K (He.ga K "Almanac") "names") := He.meth_ok (T.says.fact 69 (f := .meth "Almanac" "names") rfl)
theorem mt_Almanac_sets : Meth K (He.ga K "Almanac") "sets" (He.ma K (He.ga K "Almanac") "sets") := He.meth_ok (T.says.fact 70 (f := .meth "Almanac" "sets") rfl)
theorem mt_Almanac_days : Meth K (He.ga K "Almanac") "days" (He.ma K (He.ga K "Almanac") "days") := He.meth_ok (T.says.fact 71 (f := .meth "Almanac" "days") rfl)
theorem mt_Almanac_plain : Meth K (He.ga K "Almanac") "plain" (He.ma K (He.ga K "Almanac") "plain") := He.meth_ok (T.says.fact 72 (f := .meth "Almanac" "plain") rfl)
theorem mt_Almanac_told : Meth K (He.ga K "Almanac") "told" (He.ma K (He.ga K "Almanac") "told") := He.meth_ok (T.says.fact 73 (f := .meth "Almanac" "told") rfl)
theorem m_Calendar : mg "Calendar" = some (.ref (He.ga K "Calendar")) := T.glo _ (T.says.fact 74 (f := .glo "Calendar") rfl)
theorem k_Calendar : Cls K (He.ga K "Calendar") := He.cls_ok (T.says.fact 75 (f := .cls "Calendar") rfl)
theorem mk_Calendar : Mk K (He.ga K "Calendar") (He.ma K (He.ga K "Calendar") "__init__") := He.mkr_ok (T.says.fact 76 (f := .mkr "Calendar") rfl)
theorem mt_Calendar_owners : Meth K (He.ga K "Calendar") "owners" (He.ma K (He.ga K "Calendar") "owners") := He.meth_ok (T.says.fact 77 (f := .meth "Calendar" "owners") rfl)
theorem mt_Calendar_index_of : Meth K (He.ga K "Calendar") "index_of" (He.ma K (He.ga K "Calendar") "index_of") := He.meth_ok (T.says.fact 78 (f := .meth "Calendar" "index_of") rfl)
theorem mt_Calendar_month_at : Meth K (He.ga K "Calendar") "month_at" (He.ma K (He.ga K "Calendar") "month_at") := He.meth_ok (T.says.fact 79 (f := .meth "Calendar" "month_at") rfl)
theorem mt_Calendar_set_of_cycle : Meth K (He.ga K "Calendar") "set_of_cycle" (He.ma K (He.ga K "Calendar") "set_of_cycle") := He.meth_ok (T.says.fact 80 (f := .meth "Calendar" "set_of_cycle") rfl)
theorem mt_Calendar_ladder_of_cycle : Meth K (He.ga K "Calendar") "ladder_of_cycle" (He.ma K (He.ga K "Calendar") "ladder_of_cycle") := He.meth_ok (T.says.fact 81 (f := .meth "Calendar" "ladder_of_cycle") rfl)
theorem mt_Calendar_date : Meth K (He.ga K "Calendar") "date" (He.ma K (He.ga K "Calendar") "date") := He.meth_ok (T.says.fact 82 (f := .meth "Calendar" "date") rfl)
theorem mt_Calendar_day : Meth K (He.ga K "Calendar") "day" (He.ma K (He.ga K "Calendar") "day") := He.meth_ok (T.says.fact 83 (f := .meth "Calendar" "day") rfl)
theorem mt_Calendar_month_starts : Meth K (He.ga K "Calendar") "month_starts" (He.ma K (He.ga K "Calendar") "month_starts") := He.meth_ok (T.says.fact 84 (f := .meth "Calendar" "month_starts") rfl)
theorem mt_Calendar_last_days : Meth K (He.ga K "Calendar") "last_days" (He.ma K (He.ga K "Calendar") "last_days") := He.meth_ok (T.says.fact 85 (f := .meth "Calendar" "last_days") rfl)
theorem mt_Calendar_months_on : Meth K (He.ga K "Calendar") "months_on" (He.ma K (He.ga K "Calendar") "months_on") := He.meth_ok (T.says.fact 86 (f := .meth "Calendar" "months_on") rfl)
theorem mt_Calendar_year_on : Meth K (He.ga K "Calendar") "year_on" (He.ma K (He.ga K "Calendar") "year_on") := He.meth_ok (T.says.fact 87 (f := .meth "Calendar" "year_on") rfl)
theorem mt_Calendar_years_on : Meth K (He.ga K "Calendar") "years_on" (He.ma K (He.ga K "Calendar") "years_on") := He.meth_ok (T.says.fact 88 (f := .meth "Calendar" "years_on") rfl)
theorem mt_Calendar_months : Meth K (He.ga K "Calendar") "months" (He.ma K (He.ga K "Calendar") "months") := He.meth_ok (T.says.fact 89 (f := .meth "Calendar" "months") rfl)
theorem n_Almanac_own_calendar : NoAttr K (He.ga K "Almanac") "own_calendar" := He.noat_ok (T.says.fact 90 (f := .noat "Almanac" "own_calendar") rfl)
theorem n_Almanac_own_feasts : NoAttr K (He.ga K "Almanac") "own_feasts" := He.noat_ok (T.says.fact 91 (f := .noat "Almanac" "own_feasts") rfl)
theorem n_Calendar_own_years : NoAttr K (He.ga K "Calendar") "own_years" := He.noat_ok (T.says.fact 92 (f := .noat "Calendar" "own_years") rfl)
theorem n_Calendar_spots : NoAttr K (He.ga K "Calendar") "spots" := He.noat_ok (T.says.fact 93 (f := .noat "Calendar" "spots") rfl)
theorem n_Calendar_lengths : NoAttr K (He.ga K "Calendar") "lengths" := He.noat_ok (T.says.fact 94 (f := .noat "Calendar" "lengths") rfl)
theorem n_Calendar_firsts : NoAttr K (He.ga K "Calendar") "firsts" := He.noat_ok (T.says.fact 95 (f := .noat "Calendar" "firsts") rfl)
theorem n_Calendar_total : NoAttr K (He.ga K "Calendar") "total" := He.noat_ok (T.says.fact 96 (f := .noat "Calendar" "total") rfl)
theorem m_PAIRS : mg "PAIRS" = some (.ref (He.ga K "PAIRS")) := T.glo _ (T.says.fact 97 (f := .glo "PAIRS") rfl)
theorem m_GOING : mg "GOING" = some (.ref (He.ga K "GOING")) := T.glo _ (T.says.fact 98 (f := .glo "GOING") rfl)
theorem z_all : mg "all" = none := T.free _ (T.says.fact 99 (f := .free "all") rfl)
theorem z_zip : mg "zip" = none := T.free _ (T.says.fact 100 (f := .free "zip") rfl)
theorem z_len : mg "len" = none := T.free _ (T.says.fact 101 (f := .free "len") rfl)
theorem z_divmod : mg "divmod" = none := T.free _ (T.says.fact 102 (f := .free "divmod") rfl)
theorem z_max : mg "max" = none := T.free _ (T.says.fact 103 (f := .free "max") rfl)
theorem z_min : mg "min" = none := T.free _ (T.says.fact 104 (f := .free "min") rfl)
theorem z_range : mg "range" = none := T.free _ (T.says.fact 105 (f := .free "range") rfl)
theorem z_enumerate : mg "enumerate" = none := T.free _ (T.says.fact 106 (f := .free "enumerate") rfl)
theorem z_sorted : mg "sorted" = none := T.free _ (T.says.fact 107 (f := .free "sorted") rfl)
theorem z_set : mg "set" = none := T.free _ (T.says.fact 108 (f := .free "set") rfl)
theorem z_int : mg "int" = none := T.free _ (T.says.fact 109 (f := .free "int") rfl)
theorem z_abs : mg "abs" = none := T.free _ (T.says.fact 110 (f := .free "abs") rfl)
theorem z_isinstance : mg "isinstance" = none := T.free _ (T.says.fact 111 (f := .free "isinstance") rfl)
theorem z_tuple : mg "tuple" = none := T.free _ (T.says.fact 112 (f := .free "tuple") rfl)
theorem z_sum : mg "sum" = none := T.free _ (T.says.fact 113 (f := .free "sum") rfl)
theorem z_list : mg "list" = none := T.free _ (T.says.fact 114 (f := .free "list") rfl)
end
end Lk
set_option Elab.async false
set_option linter.all false
set_option maxRecDepth 100000
set_option maxHeartbeats 4000000
/-! Comprehensions over lists of ints, ready to use; facts of tables. -/
namespace Lk
open PySem L2
section
variable {K : Fr} {env : Env} {ta : TA} {te tl : TE} {tt : TT} {vs : List Nat} {i j : Nat}
theorem memL {xs : List Int} {d : Dt} (h : d ∈ xs.map Dt.int) : ∃ x, x ∈ xs ∧ d = .int x := by
  obtain ⟨x, h1, h2⟩ := List.mem_map.mp h
  exact ⟨x, h1, h2.symm⟩
/-- over a list of ints, ints come out -/
theorem lc_LI {xs : List Int} (g : Int → Int) (h : EV K tl env (.lst (xs.map Dt.int))) (hl : xs.length ≤ 100000) (hi : i ∈ vs) (he : ∀ x ∈ xs, EV K te ((ewipe env vs).set i (some (.int x))) (.int (g x))) :
    EV K (tLc (iList K tl) (gName i) tYes te vs) env (.lst ((xs.map g).map Dt.int)) :=
  ev_lc1 (fun d => match d with | .int x => .int (g x) | d => d) (iv_list h) (by rw [List.length_map]; exact hl) (gk_name hi) (fun d hd => by
    obtain ⟨x, h1, rfl⟩ := memL hd
    exact ⟨_, gv_name, he x h1⟩) (by rw [List.map_map, List.map_map]; rfl)
/-- over a range, ints come out -/
theorem lc_RI {n : Nat} (g : Nat → Int) (h : EA K ta env [.int (n : Int)]) (hl : n ≤ 100000) (hi : i ∈ vs) (he : ∀ k, k < n → EV K te ((ewipe env vs).set i (some (.int (k : Nat)))) (.int (g k))) :
    EV K (tLc (iRng1 ta) (gName i) tYes te vs) env (.lst (((List.range n).map g).map Dt.int)) := by
  have e0 : rangeD 0 n = (List.range n).map fun (k : Nat) => Dt.int (k : Nat) := by
    unfold rangeD
    apply List.map_congr_left
    intro k _
    rw [Int.zero_add]
  refine ev_lc1 (fun d => match d with | .int x => .int (g x.toNat) | d => d) (iv_range1 h (by omega) (by omega)) (by rw [rangeD_len]; simpa using hl) (gk_name hi) (fun d hd => ?_) ?_
  · rw [Int.toNat_natCast, e0] at hd
    obtain ⟨k, h1, rfl⟩ := List.mem_map.mp hd
    exact ⟨_, gv_name, by simpa using he k (List.mem_range.mp h1)⟩
  · rw [Int.toNat_natCast, e0, List.map_map, List.map_map]
    apply List.map_congr_left
    intro k _
    simp
theorem memZ {xs ys : List Int} {d : Dt} (h : d ∈ zipD (xs.map Dt.int) (ys.map Dt.int)) : ∃ x y, (x, y) ∈ xs.zip ys ∧ d = .tup [.int x, .int y] := by
  unfold zipD at h
  obtain ⟨p, h1, rfl⟩ := List.mem_map.mp h
  rw [List.zip_map] at h1
  obtain ⟨q, h2, rfl⟩ := List.mem_map.mp h1
  exact ⟨q.1, q.2, h2, rfl⟩
theorem zipD_map (xs ys : List Int) (G : Dt → Dt) : (zipD (xs.map Dt.int) (ys.map Dt.int)).map G = (xs.zip ys).map fun p => G (.tup [.int p.1, .int p.2]) := by
  unfold zipD
  rw [List.zip_map, List.map_map, List.map_map]; rfl
/-- over zip of two lists of ints, bools come out -/
theorem lc_ZB {xs ys : List Int} (g : Int → Int → Bool) (h : EA K ta env [.lst (xs.map Dt.int), .lst (ys.map Dt.int)]) (hl : xs.length ≤ 100000) (hi : i ∈ vs) (hj : j ∈ vs)
    (he : ∀ x y, (x, y) ∈ xs.zip ys → EV K te (((ewipe env vs).set i (some (.int x))).set j (some (.int y))) (.bl (g x y))) :
    EV K (tLc (iZip K ta) (gTup K 2 (gCons (gName i) (gCons (gName j) gNil))) tYes te vs) env (.lst (((xs.zip ys).map fun p => g p.1 p.2).map Dt.bl)) :=
  ev_lc1 (fun d => match d with | .tup [.int x, .int y] => .bl (g x y) | d => d) (iv_zip h) (by unfold zipD; simp; omega) (gk_tup (gk_cons (gk_name hi) (gk_cons (gk_name hj) gk_nil))) (fun d hd => by
    obtain ⟨x, y, h1, rfl⟩ := memZ hd
    exact ⟨_, gv_tup (gv_cons gv_name (gv_cons gv_name gv_nil)) rfl, he x y h1⟩) (by rw [zipD_map, List.map_map]; rfl)
theorem enumD_ints (xs : List Int) : enumD (xs.map Dt.int) = (xs.zipIdx).map fun p => .tup [.int (p.2 : Nat), .int p.1] := by
  unfold enumD zipD
  rw [List.length_map]
  apply List.ext_getElem?
  intro k
  rw [List.getElem?_map, List.getElem?_map, List.getElem?_zipIdx]
  by_cases hk : k < xs.length
  · rw [show (((List.range xs.length).map fun (i : Nat) => Dt.int (i : Nat)).zip (xs.map Dt.int))[k]? = some (.int (k : Nat), .int xs[k]) from List.getElem?_zip_eq_some.mpr ⟨by rw [List.getElem?_map, List.getElem?_range hk]; rfl, by rw [List.getElem?_map, List.getElem?_eq_getElem hk]; rfl⟩, List.getElem?_eq_getElem hk]
    simp [pairD]
  · rw [List.getElem?_eq_none (by simp; omega), List.getElem?_eq_none (by omega)]; rfl
/-- over enumerate of a list of ints with a test on the item: the places come out -/
theorem lc_EP {xs : List Int} (p : Int → Bool) (h : EA K ta env [.lst (xs.map Dt.int)]) (hl : xs.length ≤ 100000) (hi : i ∈ vs) (hj : j ∈ vs)
    (ht : ∀ (k : Nat) x, xs[k]? = some x → ET K tt (((ewipe env vs).set i (some (.int (k : Nat)))).set j (some (.int x))) (p x))
    (he : ∀ (k : Nat) x, xs[k]? = some x → EV K te (((ewipe env vs).set i (some (.int (k : Nat)))).set j (some (.int x))) (.int (k : Nat))) :
    EV K (tLc (iEnum K ta) (gTup K 2 (gCons (gName i) (gCons (gName j) gNil))) tt te vs) env (.lst (((xs.zipIdx).filterMap fun q => if p q.1 then some ((q.2 : Nat) : Int) else none).map Dt.int)) := by
  refine ev_lc (fun d => match d with | .tup [.int k, .int x] => if p x then some (.int k) else none | d => none) (iv_enum h) (by rw [enumD_ints]; simpa using hl) (gk_tup (gk_cons (gk_name hi) (gk_cons (gk_name hj) gk_nil))) (fun d hd => ?_) ?_
  · rw [enumD_ints] at hd
    obtain ⟨q, h1, rfl⟩ := List.mem_map.mp hd
    obtain ⟨x, k⟩ := q
    have hk : xs[k]? = some x := by simpa using List.mem_zipIdx_iff_getElem?.mp h1
    refine ⟨_, gv_tup (gv_cons gv_name (gv_cons gv_name gv_nil)) rfl, p x, ht k x hk, fun e => ⟨_, ?_, he k x hk⟩, fun e => ?_⟩
    · show (if p x = true then _ else _) = _
      rw [if_pos e]
    · show (if p x = true then _ else _) = _
      rw [if_neg (by rw [e]; decide)]
  · rw [enumD_ints, List.filterMap_map, List.map_filterMap]
    refine congrArg (fun F => List.filterMap F xs.zipIdx) (funext fun q => ?_)
    show (if p q.1 = true then _ else _) = _
    by_cases e : p q.1 = true
    · rw [if_pos e, if_pos e]; rfl
    · rw [if_neg e, if_neg e]; rfl
end
theorem tab_get {f : Nat → Nat} {n i : Nat} (h : i < n) : (tab f n)[i]? = some ((f i : Nat) : Int) := by
  unfold tab; rw [List.getElem?_map, List.getElem?_range h]; rfl
theorem tab_len (f : Nat → Nat) (n : Nat) : (tab f n).length = n := by unfold tab; rw [List.length_map, List.length_range]
theorem at_tab {f : Nat → Nat} {n i : Nat} (h : i < n) : atI ((tab f n).map Dt.int) (i : Int) = some (.int (f i)) := by
  refine atI_nat ?_
  rw [List.getElem?_map, tab_get h]; rfl
theorem sIx_some (n d k : Nat) : HT.sIx n d (some (k : Int)) = min k n := HT.sIx_nat n d k
/-- a cut of a list -/
theorem cut_to (xs : List Dt) (k : Nat) : cutD xs none (some (k : Int)) = xs.take k := by
  unfold cutD
  rw [HT.sIx_none, HT.sIx_nat, List.drop_zero, Nat.sub_zero]
  rw [List.take_eq_take_iff]; omega
theorem cut_from (xs : List Dt) (k : Nat) : cutD xs (some (k : Int)) none = xs.drop k := by
  unfold cutD
  rw [HT.sIx_none, HT.sIx_nat]
  by_cases h : k ≤ xs.length
  · rw [Nat.min_eq_left h, List.take_of_length_le (by rw [List.length_drop]; exact Nat.le_refl _)]
  · rw [Nat.min_eq_right (by omega), Nat.sub_self, List.take_zero, List.drop_eq_nil_of_le (by omega)]
theorem map_take' (xs : List Int) (k : Nat) : (xs.map Dt.int).take k = (xs.take k).map Dt.int := List.map_take.symm
theorem map_drop' (xs : List Int) (k : Nat) : (xs.map Dt.int).drop k = (xs.drop k).map Dt.int := List.map_drop.symm
theorem tab_take (f : Nat → Nat) {n k : Nat} (h : k ≤ n) : (tab f n).take k = tab f k := by
  unfold tab
  rw [← List.map_take, List.take_range, Nat.min_eq_left h]
theorem app_ints (xs ys : List Int) : xs.map Dt.int ++ ys.map Dt.int = (xs ++ ys).map Dt.int := List.map_append.symm
end Lk
set_option Elab.async false
set_option linter.all false
set_option maxRecDepth 100000
set_option maxHeartbeats 4000000
/-! Equality of simple data; is_ladder's and is_set's mathematics. -/
namespace Lk
open PySem L2
/-- simple data: ints, lists and tuples at most k deep -/
inductive Smp : Nat → Dt → Prop where
  | int (k : Nat) (i : Int) : Smp k (.int i)
  | non (k : Nat) : Smp k .non
  | lst {k : Nat} {ds : List Dt} (h : ∀ d ∈ ds, Smp k d) : Smp (k + 1) (.lst ds)
  | tup {k : Nat} {ds : List Dt} (h : ∀ d ∈ ds, Smp k d) : Smp (k + 1) (.tup ds)
theorem plainL_all {ds : List Dt} (h : ∀ d ∈ ds, plain d = true) : plainL ds = true := by
  induction ds with
  | nil => rfl
  | cons d ds ih =>
    unfold plainL
    rw [h d List.mem_cons_self, ih fun x hx => h x (List.mem_cons_of_mem _ hx)]; rfl
theorem layL_all {ds : List Dt} (h : ∀ d ∈ ds, (toPy d).canLay0 = true) : PyData.canLayAll0 (toPyL ds) = true := by
  induction ds with
  | nil => rfl
  | cons d ds ih =>
    unfold toPyL PyData.canLayAll0
    rw [h d List.mem_cons_self, ih fun x hx => h x (List.mem_cons_of_mem _ hx)]; rfl
theorem depL_all {ds : List Dt} {k : Nat} (h : ∀ d ∈ ds, (toPy d).depth ≤ k) : PyData.depthAll (toPyL ds) ≤ k := by
  induction ds with
  | nil => exact Nat.zero_le _
  | cons d ds ih =>
    unfold toPyL PyData.depthAll
    exact Nat.max_le.mpr ⟨h d List.mem_cons_self, ih fun x hx => h x (List.mem_cons_of_mem _ hx)⟩
theorem Smp.all {k : Nat} {d : Dt} (h : Smp k d) : plain d = true ∧ (toPy d).canLay0 = true ∧ (toPy d).depth ≤ k := by
  induction h with
  | int k i => exact ⟨rfl, rfl, Nat.zero_le _⟩
  | non k => exact ⟨rfl, rfl, Nat.zero_le _⟩
  | lst h ih =>
    unfold plain toPy PyData.canLay0 PyData.depth
    exact ⟨plainL_all fun d hd => (ih d hd).1, layL_all fun d hd => (ih d hd).2.1, Nat.succ_le_succ (depL_all fun d hd => (ih d hd).2.2)⟩
  | tup h ih =>
    unfold plain toPy PyData.canLay0 PyData.depth
    exact ⟨plainL_all fun d hd => (ih d hd).1, layL_all fun d hd => (ih d hd).2.1, Nat.succ_le_succ (depL_all fun d hd => (ih d hd).2.2)⟩
theorem Smp.mono {k m : Nat} {d : Dt} (h : Smp k d) (hm : k ≤ m) : Smp m d := by
  induction h generalizing m with
  | int k i => exact .int m i
  | non k => exact .non m
  | lst h ih =>
    obtain ⟨q, rfl⟩ : ∃ q, m = q + 1 := ⟨m - 1, by omega⟩
    exact .lst fun d hd => ih d hd (by omega)
  | tup h ih =>
    obtain ⟨q, rfl⟩ : ∃ q, m = q + 1 := ⟨m - 1, by omega⟩
    exact .tup fun d hd => ih d hd (by omega)
theorem Smp.pl {k : Nat} {d : Dt} (h : Smp k d) : plain d = true := h.all.1
theorem Smp.sh {k : Nat} {d : Dt} (h : Smp k d) (hk : k ≤ 64) : SeqAt.shaped (toPy d) = true := by
  unfold SeqAt.shaped
  rw [h.all.2.1, decide_eq_true (Nat.le_trans h.all.2.2 hk)]; rfl
theorem Smp.refl {k : Nat} {d : Dt} (h : Smp k d) : PyData.eqv (toPy d) (toPy d) = true := SeqAt.eqv_refl _ h.all.2.1
theorem smp_ints (ns : List Int) : Smp 1 (.lst (ns.map Dt.int)) := .lst fun d hd => by
  obtain ⟨x, _, rfl⟩ := List.mem_map.mp hd
  exact .int 0 x
theorem smp_nil : Smp 1 (.lst []) := .lst fun d hd => by cases hd
theorem smp_lad (t : List Int) (r : Int) : Smp 2 (ladD t r) := .tup fun d hd => by
  rcases List.mem_cons.mp hd with rfl | hd
  · exact smp_nil
  rcases List.mem_cons.mp hd with rfl | hd
  · exact smp_ints t
  rcases List.mem_cons.mp hd with rfl | hd
  · exact .int 1 r
  · cases hd
section
variable {K : Fr} {d1 d2 : Dt} {ds : List Dt}
theorem rd_eqS2 {k : Nat} (h1 : Smp k d1) (h2 : Smp k d2) (hk : k ≤ 64) : RD K (rEqG K) d1 d2 (.bl (PyData.eqv (toPy d1) (toPy d2))) := rd_eqD h1.pl h2.pl (h1.sh hk) (h2.sh hk)
theorem rd_neS2 {k : Nat} (h1 : Smp k d1) (h2 : Smp k d2) (hk : k ≤ 64) : RD K (rNeG K) d1 d2 (.bl (!PyData.eqv (toPy d1) (toPy d2))) := rd_neD h1.pl h2.pl (h1.sh hk) (h2.sh hk)
theorem rd_isEmpty {k : Nat} (h1 : Smp k (.lst ds)) (hk : k ≤ 64) (h0 : 0 < k) (hn : ds ≠ []) : RD K (rEqG K) (.lst ds) (.lst []) (.bl false) := by
  have e : PyData.eqv (toPy (.lst ds)) (toPy (.lst [])) = false := by
    cases ds with
    | nil => exact absurd rfl hn
    | cons d ds => rfl
  have := rd_eqS2 (K := K) h1 (smp_nil.mono h0) hk
  rw [e] at this; exact this
theorem rd_notEmpty {k : Nat} (h1 : Smp k (.lst ds)) (hk : k ≤ 64) (h0 : 0 < k) (hn : ds ≠ []) : RD K (rNeG K) (.lst ds) (.lst []) (.bl true) := by
  have e : PyData.eqv (toPy (.lst ds)) (toPy (.lst [])) = false := by
    cases ds with
    | nil => exact absurd rfl hn
    | cons d ds => rfl
  have := rd_neS2 (K := K) h1 (smp_nil.mono h0) hk
  rw [e] at this; exact this
theorem rd_eqRefl {k : Nat} (h1 : Smp k d1) (hk : k ≤ 64) : RD K (rEqG K) d1 d1 (.bl true) := by
  have := rd_eqS2 (K := K) h1 h1 hk
  rw [h1.refl] at this; exact this
theorem rd_neRefl {k : Nat} (h1 : Smp k d1) (hk : k ≤ 64) : RD K (rNeG K) d1 d1 (.bl false) := by
  have := rd_neS2 (K := K) h1 h1 hk
  rw [h1.refl] at this; exact this
end
theorem tab_ne {f : Nat → Nat} {n : Nat} (h : 0 < n) : (tab f n).map Dt.int ≠ [] := by
  intro e
  have := congrArg List.length e
  rw [List.length_map, tab_len] at this
  simp at this; omega
theorem tab_succ (f : Nat → Nat) (n : Nat) : tab f (n + 1) = tab f n ++ [((f n : Nat) : Int)] := by
  unfold tab; rw [List.range_succ, List.map_append]; rfl
theorem falls_of {ns : List Int} (h : ∀ (i : Nat) a b, ns[i]? = some a → ns[i + 1]? = some b → a ≤ b) : falls ns = true := by
  unfold falls
  rw [List.all_eq_true]
  rintro ⟨a, b⟩ hm
  obtain ⟨i, hi⟩ := List.mem_iff_getElem?.mp hm
  rw [List.getElem?_zip_eq_some] at hi
  have h2 := hi.2
  rw [List.getElem?_drop, Nat.add_comm] at h2
  exact decide_eq_true (h i a b hi.1 h2)
theorem rises_of {ns : List Int} (h : ∀ (i : Nat) a b, ns[i]? = some a → ns[i + 1]? = some b → a < b) : rises ns = true := by
  unfold rises
  rw [List.all_eq_true]
  rintro ⟨a, b⟩ hm
  obtain ⟨i, hi⟩ := List.mem_iff_getElem?.mp hm
  rw [List.getElem?_zip_eq_some] at hi
  have h2 := hi.2
  rw [List.getElem?_drop, Nat.add_comm] at h2
  exact decide_eq_true (h i a b hi.1 h2)
/-- 0, a ladder's first round, the next number: never falling -/
theorem falls_lad {f : Nat → Nat} {n c : Nat} (h : Lad f n c) : falls ([0] ++ tab f n ++ [((f 0 : Nat) : Int) + c]) = true := by
  have e : [0] ++ tab f n ++ [((f 0 : Nat) : Int) + c] = 0 :: tab f (n + 1) := by
    have := h.per 0
    rw [Nat.zero_add] at this
    rw [tab_succ, this]; simp
  rw [e]
  refine falls_of fun i a b ha hb => ?_
  cases i with
  | zero =>
    simp only [List.getElem?_cons_zero, Option.some.injEq] at ha
    rw [List.getElem?_cons_succ, tab_get (by omega)] at hb
    cases hb; omega
  | succ i =>
    rw [List.getElem?_cons_succ] at ha hb
    have hi : i + 1 < n + 1 := by
      have := (List.getElem?_eq_some_iff.mp hb).1
      rwa [tab_len] at this
    rw [tab_get (by omega)] at ha
    rw [tab_get hi] at hb
    cases ha; cases hb
    have := h.mono i
    omega
theorem days_sorted (S : Nat → Bool) (n : Nat) : (((List.range n).filter S)).Pairwise (· < ·) := List.Pairwise.filter _ List.pairwise_lt_range
/-- -1, a set's places, its length: rising -/
theorem rises_days (S : Nat → Bool) (n : Nat) : rises ([-1] ++ days S n ++ [(n : Int)]) = true := by
  have p : ([-1] ++ days S n ++ [(n : Int)]).Pairwise (· < ·) := by
    have hm : ∀ x ∈ days S n, 0 ≤ x ∧ x < (n : Int) := fun x hx => by
      unfold days at hx
      obtain ⟨i, h1, rfl⟩ := List.mem_map.mp hx
      have := List.mem_range.mp (List.mem_filter.mp h1).1
      omega
    rw [List.append_assoc, List.pairwise_append]
    refine ⟨List.pairwise_singleton _ _, ?_, fun a ha b hb => ?_⟩
    · rw [List.pairwise_append]
      refine ⟨?_, List.pairwise_singleton _ _, fun a ha b hb => ?_⟩
      · unfold days
        rw [List.pairwise_map]
        exact (days_sorted S n).imp fun h => by omega
      · have := hm a ha
        rw [List.mem_singleton] at hb; omega
    · rw [List.mem_singleton] at ha
      rcases List.mem_append.mp hb with hb | hb
      · have := hm b hb; omega
      · rw [List.mem_singleton] at hb; omega
  refine rises_of fun i a b ha hb => ?_
  obtain ⟨h1, e1⟩ := List.getElem?_eq_some_iff.mp ha
  obtain ⟨h2, e2⟩ := List.getElem?_eq_some_iff.mp hb
  have := List.pairwise_iff_getElem.mp p i (i + 1) h1 h2 (by omega)
  rw [e1, e2] at this; exact this
theorem days_len (S : Nat → Bool) (n : Nat) : (days S n).length ≤ n := by
  unfold days
  rw [List.length_map]
  have := List.length_filter_le S (List.range n)
  rwa [List.length_range] at this
end Lk
set_option Elab.async false
set_option linter.all false
set_option maxRecDepth 100000
set_option maxHeartbeats 4000000
/-! Sets of days: counts, the k-th day, tables. -/
namespace Lk
open PySem L2
theorem ind_le (S : Nat → Bool) (x : Nat) : ind S x ≤ 1 := by unfold ind; split <;> omega
theorem ind_iff {S : Nat → Bool} {x : Nat} : ind S x = 1 ↔ S x = true := by
  unfold ind
  by_cases h : S x = true
  · rw [if_pos h]; exact ⟨fun _ => h, fun _ => rfl⟩
  · rw [if_neg h]; exact ⟨fun e => (by cases e), fun e => absurd e h⟩
theorem Per.S {S : Nat → Bool} {n : Nat} (h : Per (ind S) n 0) (x : Nat) : S (x + n) = S x := by
  have := h x
  apply Bool.eq_iff_iff.mpr
  rw [← ind_iff, ← ind_iff]; omega
theorem cnt_le (S : Nat → Bool) : ∀ x, cnt S x ≤ x
  | 0 => Nat.le_refl _
  | x + 1 => by have := cnt_le S x; have := ind_le S x; show cnt S x + ind S x ≤ x + 1; omega
theorem cnt_mono (S : Nat → Bool) : ∀ x, cnt S x ≤ cnt S (x + 1) := fun x => Nat.le_add_right _ _
theorem cnt_mono' (S : Nat → Bool) {x y : Nat} (h : x ≤ y) : cnt S x ≤ cnt S y := by
  obtain ⟨d, rfl⟩ := Nat.exists_eq_add_of_le h
  induction d with
  | zero => exact Nat.le_refl _
  | succ d ih => exact Nat.le_trans (ih (by omega)) (cnt_mono S _)
theorem cnt_lt {S : Nat → Bool} {x y : Nat} (h : S x = true) (hl : x < y) : cnt S x < cnt S y := by
  have h1 : cnt S (x + 1) ≤ cnt S y := cnt_mono' S hl
  have h2 : cnt S (x + 1) = cnt S x + 1 := by show cnt S x + ind S x = _; rw [ind_iff.mpr h]
  omega
theorem cnt_add {S : Nat → Bool} {n : Nat} (h : Per (ind S) n 0) : Per (cnt S) n (cnt S n) := fun x => by
  induction x with
  | zero => simp [cnt]
  | succ x ih =>
    rw [show x + 1 + n = (x + n) + 1 by omega]
    show cnt S (x + n) + ind S (x + n) = cnt S x + ind S x + cnt S n
    rw [ih, h x]; omega
theorem tab_sum (S : Nat → Bool) : ∀ n, (tab (ind S) n).sum = ((cnt S n : Nat) : Int)
  | 0 => rfl
  | n + 1 => by
    rw [tab_succ, List.sum_append, tab_sum S n]
    show _ + (_ + 0) = ((cnt S n + ind S n : Nat) : Int)
    omega
theorem nthS_eq {S : Nat → Bool} {k x : Nat} (h1 : S x = true) (h2 : cnt S x = k) : nthS S k = x := by
  have e : ∃ x, S x = true ∧ cnt S x = k := ⟨x, h1, h2⟩
  have s := Classical.choose_spec e
  unfold nthS
  rw [dif_pos e]
  rcases Nat.lt_trichotomy (Classical.choose e) x with z | z | z
  · have := cnt_lt s.1 z; omega
  · exact z
  · have := cnt_lt h1 z; omega
theorem days_eq (S : Nat → Bool) : ∀ n, days S n = tab (nthS S) (cnt S n)
  | 0 => rfl
  | n + 1 => by
    have ih := days_eq S n
    unfold days at ih ⊢
    rw [List.range_succ, List.filter_append, List.map_append, ih, List.filter_cons]
    show _ = tab (nthS S) (cnt S n + ind S n)
    by_cases h : S n = true
    · rw [if_pos h, ind_iff.mpr h, tab_succ, nthS_eq h rfl]; rfl
    · rw [if_neg h]
      have : ind S n = 0 := by unfold ind; rw [if_neg h]
      rw [this]; simp [List.filter_nil]
section
variable {S : Nat → Bool} {n : Nat} (h : Per (ind S) n 0) (hn : 0 < n) (he : ∃ x, S x = true)
include h hn he
theorem cnt_pos : 0 < cnt S n := by
  obtain ⟨x, hx⟩ := he
  have e : S (x % n) = true := by
    have q := h.mul (x / n) (x % n)
    rw [Nat.zero_mul, Nat.mod_add_div] at q
    rw [← ind_iff]
    rw [ind_iff.mpr hx] at q
    omega
  have := cnt_lt e (Nat.mod_lt x hn)
  omega
theorem S_has (k : Nat) : ∃ x, S x = true ∧ cnt S x = k := by
  have hp := cnt_pos h hn he
  -- within the first round
  have first : ∀ m k, k < cnt S m → ∃ x, S x = true ∧ cnt S x = k := by
    intro m
    induction m with
    | zero => intro k hk; exact absurd hk (Nat.not_lt_zero _)
    | succ m ih =>
      intro k hk
      by_cases hk2 : k < cnt S m
      · exact ih k hk2
      · have h1 : cnt S (m + 1) = cnt S m + ind S m := rfl
        have h2 := ind_le S m
        refine ⟨m, ind_iff.mp (by omega), by omega⟩
  have hm : k < cnt S (n * (k + 1)) := by
    have q := (cnt_add h).mul (k + 1) 0
    rw [Nat.zero_add] at q
    rw [q]
    have : k + 1 ≤ cnt S n * (k + 1) := Nat.le_mul_of_pos_left _ hp
    show k < cnt S 0 + _
    simp only [cnt]; omega
  exact first _ k hm
theorem nthS_spec (k : Nat) : S (nthS S k) = true ∧ cnt S (nthS S k) = k := by
  obtain ⟨x, h1, h2⟩ := S_has h hn he k
  rw [nthS_eq h1 h2]; exact ⟨h1, h2⟩
theorem nthS_per : Per (nthS S) (cnt S n) n := fun k => by
  obtain ⟨h1, h2⟩ := nthS_spec h hn he k
  apply nthS_eq
  · rw [h.S]; exact h1
  · rw [cnt_add h, h2]
theorem nthS_mono (k : Nat) : nthS S k ≤ nthS S (k + 1) := by
  obtain ⟨h1, h2⟩ := nthS_spec h hn he k
  obtain ⟨h3, h4⟩ := nthS_spec h hn he (k + 1)
  refine Nat.le_of_not_lt fun hl => ?_
  have := cnt_lt h3 hl
  omega
end
theorem mem_days {S : Nat → Bool} {n k : Nat} (hk : k < n) : ((k : Nat) : Int) ∈ days S n ↔ S k = true := by
  unfold days
  rw [List.mem_map]
  constructor
  · rintro ⟨i, h1, h2⟩
    have : i = k := by omega
    subst this
    exact (List.mem_filter.mp h1).2
  · exact fun h => ⟨k, List.mem_filter.mpr ⟨List.mem_range.mpr hk, h⟩, rfl⟩
theorem days_nodup (S : Nat → Bool) (n : Nat) : (days S n).Nodup := by
  unfold days
  rw [List.nodup_iff_pairwise_ne, List.pairwise_map]
  exact (days_sorted S n).imp fun h => by omega
theorem bits_days (S : Nat → Bool) : ∀ n, ((tab (ind S) n).zipIdx).filterMap (fun q => if decide (q.1 = 1) then some ((q.2 : Nat) : Int) else none) = days S n
  | 0 => rfl
  | n + 1 => by
    rw [tab_succ, List.zipIdx_append, List.filterMap_append, bits_days S n, tab_len]
    unfold days
    rw [List.range_succ, List.filter_append, List.map_append]
    congr 1
    rw [List.filter_cons]
    by_cases h : S n = true
    · rw [if_pos h]
      have := ind_iff.mpr h
      simp [this]
    · rw [if_neg h]
      have : ind S n = 0 := by unfold ind; rw [if_neg h]
      simp [this]
end Lk
set_option Elab.async false
set_option linter.all false
set_option maxRecDepth 100000
set_option maxHeartbeats 4000000
namespace Lk
open PySem L2
local macro_rules | `(tactic| walk_at "ev1") => `(tactic| first
  | ((with_reducible apply ev_var); exact rfl)
  | with_reducible exact ev_int | with_reducible exact ev_str | with_reducible exact ev_bl | with_reducible exact ev_non | with_reducible exact ea_nil | with_reducible apply ea_cons
  | with_reducible exact rd_addI | with_reducible exact rd_subG | with_reducible exact rd_ltG | with_reducible exact rd_leG | with_reducible exact rd_gtG | with_reducible exact rd_geG | with_reducible exact rd_eqI | with_reducible exact rd_neI | with_reducible exact rd_eqS
  | with_reducible exact rc_lenL | with_reducible exact rc_lenT | with_reducible exact rc_max2 | with_reducible exact rc_min2 | with_reducible exact rc_abs | with_reducible exact rc_intI | with_reducible exact rc_intB | with_reducible exact rc_listL | with_reducible exact rc_tupleL | with_reducible exact rc_all | with_reducible exact rc_sum
  | with_reducible exact gv_name | with_reducible exact gv_nil | with_reducible apply gv_cons | ((with_reducible apply gv_tup) <;> try exact rfl)
  | with_reducible apply rd_mulI | with_reducible apply rd_fdivG | with_reducible apply rd_modG | with_reducible apply rc_divmod | with_reducible apply rd_ixL | with_reducible apply rd_ixT | with_reducible apply rd_addL
  | with_reducible apply ev_tup | with_reducible apply ev_lst | with_reducible apply ev_op | with_reducible apply ev_cb | with_reducible exact eo_none | with_reducible apply eo_some | with_reducible apply ev_neg
  | with_reducible apply et_test | with_reducible apply et_B | with_reducible apply et_not | exact Nat.le_of_ble_eq_true rfl)
local macro_rules | `(tactic| walk_at "ev") => `(tactic| repeat' (walk_at "ev1"))
local macro_rules | `(tactic| walk_at "env") => `(tactic| simp only [rep, ladD, setS, setC, env0, List.map_cons, List.map_nil, List.length_cons, List.length_nil, Nat.reduceAdd, Nat.reduceSub, List.replicate_succ, List.replicate_zero, List.cons_append, List.nil_append])
def t_need_number (K : Fr) : TS :=
  (tIfS (tTest (tOp rLtG (tVar 0) (tVar 1))) tNever tNext)
def t_number_at (K : Fr) : TS :=
  (tSeq (tAsg (tVar 0) (gTup K 3 (gCons (gName 2) (gCons (gName 3) (gCons (gName 4) gNil)))))
      (tSeq (tIfS (tTest (tOp rLtG (tVar 1) (tCB (rLenG K) (tCons (tVar 2) tNil)))) (tRet (tOp (rIxG K) (tVar 2) (tVar 1))) tNext)
      (tSeq (tAsg (tCB rDivmodG (tCons (tOp rSubG (tVar 1) (tCB (rLenG K) (tCons (tVar 2) tNil))) (tCons (tCB (rLenG K) (tCons (tVar 3) tNil)) tNil))) (gTup K 2 (gCons (gName 5) (gCons (gName 6) gNil))))
      (tRet (tOp rAddG (tOp (rIxG K) (tVar 3) (tVar 6)) (tOp rMulG (tVar 4) (tVar 5)))))))
def t_never_falls (K : Fr) : TS :=
  (tRet (tCB (rAll K) (tCons (tLc (iZip K (tCons (tVar 0) (tCons (tSl (rSlG K) (tVar 0) (tPart (tC (.int 1))) tNoPart) tNil))) (gTup K 2 (gCons (gName 1) (gCons (gName 2) gNil))) tYes (tOp rLeG (tVar 1) (tVar 2)) [1, 2]) tNil)))
def t_always_rises (K : Fr) : TS :=
  (tRet (tCB (rAll K) (tCons (tLc (iZip K (tCons (tVar 0) (tCons (tSl (rSlG K) (tVar 0) (tPart (tC (.int 1))) tNoPart) tNil))) (gTup K 2 (gCons (gName 1) (gCons (gName 2) gNil))) tYes (tOp rLtG (tVar 1) (tVar 2)) [1, 2]) tNil)))
def t_common_divisor (K : Fr) : TS :=
  (tSeq (tWhile (tTest (tOp rGtG (tVar 1) (tC (.int 0)))) (tPar 0 1 (tCons (tVar 1) (tCons (tOp rModG (tVar 0) (tVar 1)) tNil))))
      (tRet (tVar 0)))
def t_common_multiple (K : Fr) : TS :=
  (tRet (tOp rFdivG (tOp rMulG (tVar 0) (tVar 1)) (tCall (sp_common_divisor K) [] E0 (tCons (tVar 0) (tCons (tVar 1) tNil)))))
theorem ok_need_number {P : Program} {w : World} {K : Fr} {mg : Str → Option Value} {base : Heap} (T : Txt K mg) : Has P w K mg base 1 (He.ga K "need_number") ["number", "least"] (sp_need_number K) := by
  obtain ⟨fd, F⟩ := T.says.def_ 7 (d := d_need_number) rfl
  have F : FunD K "need_number" "need_number" (defArgs s_need_number) (defBody s_need_number) (defScope s_need_number) [] [] (He.ga K "need_number") fd := F
  skip
  refine ⟨F.kp, fd, ?_, F.bindsN fun _ _ _ _ _ _ us hl => match us, hl with | [_, _], _ => rfl⟩
  refine ok_of F c_need_number (by (intro ds d h; exact h.len)) fun cdv A outer s H E hr => ⟨t_need_number K, PSs.nox
      (pss_one (ps_if (pt_cmpR op_ltG (pv 0) (pv 1) (nomark _)) (pss_one ps_never) pss_nil)), fun ds d hF => ?_⟩
  obtain ⟨a, b, rfl, i, j, rfl, rfl, hij, rfl⟩ := hF.ex
  refine l_q (q_no (et_is (et_test (ev_op (ev_var rfl) (ev_var rfl) rd_ltG)) (decide_eq_false (by omega))) (l_end rfl))
theorem ok_number_at {P : Program} {w : World} {K : Fr} {mg : Str → Option Value} {base : Heap} (T : Txt K mg) : Has P w K mg base 1 (He.ga K "number_at") ["ladder", "day"] (sp_number_at K) := by
  obtain ⟨fd, F⟩ := T.says.def_ 11 (d := d_number_at) rfl
  have F : FunD K "number_at" "number_at" (defArgs s_number_at) (defBody s_number_at) (defScope s_number_at) [] [] (He.ga K "number_at") fd := F
  skip
  refine ⟨F.kp, fd, ?_, F.bindsN fun _ _ _ _ _ _ us hl => match us, hl with | [_, _], _ => rfl⟩
  refine ok_of F c_number_at (by (intro ds d h; exact h.len)) fun cdv A outer s H E hr => ⟨t_number_at K, PSs.nox
      (pss_cons (ps_asg (pv 0) (pg_tup (by rfl) (pgs_cons (pg_name (i := 2) c_number_at.nd rfl (Or.inl rfl)) (pgs_cons (pg_name (i := 3) c_number_at.nd rfl (Or.inl rfl)) (pgs_cons (pg_name (i := 4) c_number_at.nd rfl (Or.inl rfl)) pgs_nil)))))
      (pss_cons (ps_if (pt_cmpR op_ltG (pv 1) (pe_callB c_len (by rfl) (z_len T) (by decide +kernel) (pa_cons (pv 2) pa_nil)) (nomark _)) (pss_one (ps_ret (pe_ix ix_G (pv 2) (pv 1) (fun _ _ => rfl)))) pss_nil)
      (pss_cons (ps_asg (pe_callB c_divmod (by rfl) (z_divmod T) (by decide +kernel) (pa_cons (pe_op op_subG (pv 1) (pe_callB c_len (by rfl) (z_len T) (by decide +kernel) (pa_cons (pv 2) pa_nil))) (pa_cons (pe_callB c_len (by rfl) (z_len T) (by decide +kernel) (pa_cons (pv 3) pa_nil)) pa_nil))) (pg_tup (by rfl) (pgs_cons (pg_name (i := 5) c_number_at.nd rfl (Or.inl rfl)) (pgs_cons (pg_name (i := 6) c_number_at.nd rfl (Or.inl rfl)) pgs_nil))))
      (pss_one (ps_ret (pe_op op_addG (pe_ix ix_G (pv 3) (pv 6) (fun _ _ => rfl)) (pe_op op_mulG (pv 4) (pv 5)))))))), fun ds d hF => ?_⟩
  obtain ⟨a, b, rfl, f, n, c, x, rfl, hp, hn, hn2, hc, rfl, rfl⟩ := hF.ex
  walk_at "env"
  have e1 : ((x : Int) - 0) / (n : Int) = ((x / n : Nat) : Int) := by rw [Int.sub_zero]; exact (Int.natCast_ediv x n).symm
  have e2 : ((x : Int) - 0) % (n : Int) = ((x % n : Nat) : Int) := by rw [Int.sub_zero]; exact (Int.natCast_emod x n).symm
  apply q_asg (ev_var rfl)
  · walk_at "ev"
  apply q_no
  · apply et_is
    · walk_at "ev"
    · refine decide_eq_false ?_
      show ¬ (x : Int) < 0
      omega
  apply q_asg
  · walk_at "ev"
    rw [List.length_map, tab_len]; exact ⟨by omega, by omega⟩
  · walk_at "ev"
  apply l_ret
  walk_at "ev"
  · rw [List.length_map, tab_len]
    show atI _ (((x : Int) - 0) % (n : Int)) = _
    rw [e2]
    exact at_tab (Nat.mod_lt _ hn)
  · exact .inl ⟨by omega, by omega⟩
  · walk_at "ev"
  · rw [List.length_map, tab_len]
    show Dt.int (_ + _ * (((x : Int) - 0) / (n : Int))) = _
    rw [e1, hp.eval hn x]
    simp
theorem ok_never_falls {P : Program} {w : World} {K : Fr} {mg : Str → Option Value} {base : Heap} (T : Txt K mg) : Has P w K mg base 1 (He.ga K "never_falls") ["numbers"] (sp_never_falls K) := by
  obtain ⟨fd, F⟩ := T.says.def_ 1 (d := d_never_falls) rfl
  have F : FunD K "never_falls" "never_falls" (defArgs s_never_falls) (defBody s_never_falls) (defScope s_never_falls) [] [] (He.ga K "never_falls") fd := F
  skip
  refine ⟨F.kp, fd, ?_, F.bindsN fun _ _ _ _ _ _ us hl => match us, hl with | [_], _ => rfl⟩
  refine ok_of F c_never_falls (by (intro ds d h; exact h.len)) fun cdv A outer s H E hr => ⟨t_never_falls K, PSs.nox
      (pss_one (ps_ret (pe_callB (cr_all rfl) (by rfl) (z_all T) (by decide +kernel) (pa_cons (pe_lc (own := [("one", 1), ("other", 2)]) (wi := (iZip K (tCons (tVar 0) (tCons (tSl (rSlG K) (tVar 0) (tPart (tC (.int 1))) tNoPart) tNil)))) (g := (gTup K 2 (gCons (gName 1) (gCons (gName 2) gNil)))) (tt := tYes) (te := (tOp rLeG (tVar 1) (tVar 2))) (by rfl) c_never_falls.nd (pi_zip (by rfl) (z_zip T) (pa_cons (pv 0) (pa_cons (pe_slice sl_G (pv 0) (po_some pe_int) po_none) pa_nil))) (blkOk_by (own := [("one", 1), ("other", 2)]) (N := ["numbers", "one", "other"]) (sc := defScope s_never_falls) (by decide +kernel)) (fun _ _ _ _ _ => (pg_tup (by rfl) (pgs_cons (pg_name (i := 1) c_never_falls.nd rfl (Or.inl rfl)) (pgs_cons (pg_name (i := 2) c_never_falls.nd rfl (Or.inl rfl)) pgs_nil)))) (fun _ _ _ _ _ => pts_nil) (fun _ _ _ _ _ => (pe_cmpR op_leG (pv 1) (pv 2) (nomark _)))) pa_nil)))), fun ds d hF => ?_⟩
  obtain ⟨a, rfl, ns, rfl, hl, rfl⟩ := hF.ex
  walk_at "env"
  have hs : EA K (tCons (tVar 0) (tCons (tSl (rSlG K) (tVar 0) (tPart (tC (V.int 1))) tNoPart) tNil)) [some (Dt.lst (List.map Dt.int ns)), none, none] [.lst (ns.map Dt.int), .lst ((ns.drop 1).map Dt.int)] := by
    refine ea_cons (ev_var rfl) (ea_cons (ev_is (ev_slL (ev_var rfl) (eo_some ev_int) eo_none) ?_) ea_nil)
    rw [show (1 : Int) = ((1 : Nat) : Int) from rfl, cut_from, map_drop']
  refine l_ret (ev_cb (ea_cons (lc_ZB (fun x y => decide (x ≤ y)) hs (by omega) (by decide) (by decide) fun x y _ => ?_) ea_nil) rc_all) ?_
  · exact ev_op (ev_var rfl) (ev_var rfl) rd_leG
  · unfold falls; rw [List.all_map]; rfl
theorem ok_always_rises {P : Program} {w : World} {K : Fr} {mg : Str → Option Value} {base : Heap} (T : Txt K mg) : Has P w K mg base 1 (He.ga K "always_rises") ["numbers"] (sp_always_rises K) := by
  obtain ⟨fd, F⟩ := T.says.def_ 2 (d := d_always_rises) rfl
  have F : FunD K "always_rises" "always_rises" (defArgs s_always_rises) (defBody s_always_rises) (defScope s_always_rises) [] [] (He.ga K "always_rises") fd := F
  skip
  refine ⟨F.kp, fd, ?_, F.bindsN fun _ _ _ _ _ _ us hl => match us, hl with | [_], _ => rfl⟩
  refine ok_of F c_always_rises (by (intro ds d h; exact h.len)) fun cdv A outer s H E hr => ⟨t_always_rises K, PSs.nox
      (pss_one (ps_ret (pe_callB (cr_all rfl) (by rfl) (z_all T) (by decide +kernel) (pa_cons (pe_lc (own := [("one", 1), ("other", 2)]) (wi := (iZip K (tCons (tVar 0) (tCons (tSl (rSlG K) (tVar 0) (tPart (tC (.int 1))) tNoPart) tNil)))) (g := (gTup K 2 (gCons (gName 1) (gCons (gName 2) gNil)))) (tt := tYes) (te := (tOp rLtG (tVar 1) (tVar 2))) (by rfl) c_always_rises.nd (pi_zip (by rfl) (z_zip T) (pa_cons (pv 0) (pa_cons (pe_slice sl_G (pv 0) (po_some pe_int) po_none) pa_nil))) (blkOk_by (own := [("one", 1), ("other", 2)]) (N := ["numbers", "one", "other"]) (sc := defScope s_always_rises) (by decide +kernel)) (fun _ _ _ _ _ => (pg_tup (by rfl) (pgs_cons (pg_name (i := 1) c_always_rises.nd rfl (Or.inl rfl)) (pgs_cons (pg_name (i := 2) c_always_rises.nd rfl (Or.inl rfl)) pgs_nil)))) (fun _ _ _ _ _ => pts_nil) (fun _ _ _ _ _ => (pe_cmpR op_ltG (pv 1) (pv 2) (nomark _)))) pa_nil)))), fun ds d hF => ?_⟩
  obtain ⟨a, rfl, ns, rfl, hl, rfl⟩ := hF.ex
  walk_at "env"
  have hs : EA K (tCons (tVar 0) (tCons (tSl (rSlG K) (tVar 0) (tPart (tC (V.int 1))) tNoPart) tNil)) [some (Dt.lst (List.map Dt.int ns)), none, none] [.lst (ns.map Dt.int), .lst ((ns.drop 1).map Dt.int)] := by
    refine ea_cons (ev_var rfl) (ea_cons (ev_is (ev_slL (ev_var rfl) (eo_some ev_int) eo_none) ?_) ea_nil)
    rw [show (1 : Int) = ((1 : Nat) : Int) from rfl, cut_from, map_drop']
  refine l_ret (ev_cb (ea_cons (lc_ZB (fun x y => decide (x < y)) hs (by omega) (by decide) (by decide) fun x y _ => ?_) ea_nil) rc_all) ?_
  · exact ev_op (ev_var rfl) (ev_var rfl) rd_ltG
  · unfold rises; rw [List.all_map]; rfl
theorem ok_common_divisor {P : Program} {w : World} {K : Fr} {mg : Str → Option Value} {base : Heap} (T : Txt K mg) : Has P w K mg base 1 (He.ga K "common_divisor") ["one", "other"] (sp_common_divisor K) := by
  obtain ⟨fd, F⟩ := T.says.def_ 8 (d := d_common_divisor) rfl
  have F : FunD K "common_divisor" "common_divisor" (defArgs s_common_divisor) (defBody s_common_divisor) (defScope s_common_divisor) [] [] (He.ga K "common_divisor") fd := F
  skip
  refine ⟨F.kp, fd, ?_, F.bindsN fun _ _ _ _ _ _ us hl => match us, hl with | [_, _], _ => rfl⟩
  refine ok_of F c_common_divisor (by (intro ds d h; exact h.len)) fun cdv A outer s H E hr => ⟨t_common_divisor K, PSs.nox
      (pss_cons (ps_while PassesOwn.never (pt_cmpR op_gtG (pv 1) pe_int (nomark _)) (pss_one (ps_par (i := 0) (j := 1) (by rfl) c_common_divisor.nd rfl rfl (by decide) rfl rfl (pa_cons (pv 1) (pa_cons (pe_op op_modG (pv 0) (pv 1)) pa_nil)) (by rfl))))
      (pss_one (ps_ret (pv 0)))), fun ds d hF => ?_⟩
  obtain ⟨a, b, rfl, i, j, rfl, rfl, rfl⟩ := hF.ex
  walk_at "env"
  refine q_while (fun m e M' => ∃ x y : Nat, m = y ∧ e = [some (.int x), some (.int y)] ∧ M' = none ∧ Nat.gcd x y = Nat.gcd i j) j ⟨i, j, rfl, rfl, rfl, rfl⟩ ?_
  rintro m e M' ⟨x, y, rfl, rfl, rfl, hg⟩
  refine ⟨decide ((0 : Int) < (m : Int)), et_test (ev_op (ev_var rfl) ev_int rd_gtG), fun hb => ?_, fun hb => ?_⟩
  · have hm : 0 < m := by have := of_decide_eq_true hb; omega
    refine l_q (q_par (ea_cons (ev_var rfl) (ea_cons (ev_op (ev_var rfl) (ev_var rfl) (rd_modG (by omega))) ea_nil)) (l_end ⟨x % m, Nat.mod_lt _ hm, m, x % m, rfl, ?_, rfl, ?_⟩))
    · show [_, _] = [_, _]
      rw [show ((x : Int) % (m : Int)) = ((x % m : Nat) : Int) from (Int.natCast_emod x m).symm]
    · rw [← hg, Nat.gcd_comm x m, Nat.gcd_rec m x, Nat.gcd_comm]
  · have hm : m = 0 := by have := of_decide_eq_false hb; omega
    subst hm
    refine l_ret (ev_var rfl) ?_
    rw [← hg, Nat.gcd_zero_right]
theorem ok_common_multiple {P : Program} {w : World} {K : Fr} {mg : Str → Option Value} {base : Heap} (T : Txt K mg) : Has P w K mg base 2 (He.ga K "common_multiple") ["one", "other"] (sp_common_multiple K) := by
  obtain ⟨fd, F⟩ := T.says.def_ 9 (d := d_common_multiple) rfl
  have F : FunD K "common_multiple" "common_multiple" (defArgs s_common_multiple) (defBody s_common_multiple) (defScope s_common_multiple) [] [] (He.ga K "common_multiple") fd := F
  obtain ⟨kp_common_divisor, fd_common_divisor, G_common_divisor, b_common_divisor⟩ := ok_common_divisor (P := P) (w := w) (base := base) T
  refine ⟨F.kp, fd, ?_, F.bindsN fun _ _ _ _ _ _ us hl => match us, hl with | [_, _], _ => rfl⟩
  refine ok_of F c_common_multiple (by (intro ds d h; exact h.len)) fun cdv A outer s H E hr => ⟨t_common_multiple K, PSs.nox
      (pss_one (ps_ret (pe_op op_fdivG (pe_op op_mulG (pv 0) (pv 1)) (pe_call G_common_divisor (hr.mono (by decide)) (by rfl) (m_common_divisor T) kp_common_divisor b_common_divisor .nil pass0 (pa_cons (pv 0) (pa_cons (pv 1) pa_nil)))))), fun ds d hF => ?_⟩
  obtain ⟨a, b, rfl, i, j, rfl, rfl, hi, hj, hi2, hj2, rfl⟩ := hF.ex
  walk_at "env"
  have hg : 0 < Nat.gcd i j := Nat.gcd_pos_of_pos_left _ hi
  have hg2 : Nat.gcd i j ≤ i := Nat.gcd_le_left _ hi
  refine l_ret (ev_op (ev_op (ev_var rfl) (ev_var rfl) (rd_mulI (.inl ⟨by omega, by omega⟩))) (ev_call (ea_cons (ev_var rfl) (ea_cons (ev_var rfl) ea_nil)) ⟨i, j, rfl, rfl, rfl⟩) (rd_fdivG ⟨by omega, by omega⟩)) ?_
  show Dt.int _ = _
  rw [← Int.natCast_mul, ← Int.natCast_ediv]; rfl
end Lk
set_option Elab.async false
set_option linter.all false
set_option maxRecDepth 100000
set_option maxHeartbeats 4000000
namespace Lk
open PySem L2
local macro_rules | `(tactic| walk_at "ev1") => `(tactic| first
  | ((with_reducible apply ev_var); exact rfl)
  | with_reducible exact ev_int | with_reducible exact ev_str | with_reducible exact ev_bl | with_reducible exact ev_non | with_reducible exact ea_nil | with_reducible apply ea_cons
  | with_reducible exact rd_addI | with_reducible exact rd_subG | with_reducible exact rd_ltG | with_reducible exact rd_leG | with_reducible exact rd_gtG | with_reducible exact rd_geG | with_reducible exact rd_eqI | with_reducible exact rd_neI | with_reducible exact rd_eqS
  | with_reducible exact rc_lenL | with_reducible exact rc_lenT | with_reducible exact rc_max2 | with_reducible exact rc_min2 | with_reducible exact rc_abs | with_reducible exact rc_intI | with_reducible exact rc_intB | with_reducible exact rc_listL | with_reducible exact rc_tupleL | with_reducible exact rc_all | with_reducible exact rc_sum
  | with_reducible exact gv_name | with_reducible exact gv_nil | with_reducible apply gv_cons | ((with_reducible apply gv_tup) <;> try exact rfl)
  | with_reducible apply rd_mulI | with_reducible apply rd_fdivG | with_reducible apply rd_modG | with_reducible apply rc_divmod | with_reducible apply rd_ixL | with_reducible apply rd_ixT | with_reducible apply rd_addL
  | with_reducible apply ev_tup | with_reducible apply ev_lst | with_reducible apply ev_op | with_reducible apply ev_cb | with_reducible exact eo_none | with_reducible apply eo_some | with_reducible apply ev_neg
  | with_reducible apply et_test | with_reducible apply et_B | with_reducible apply et_not | exact Nat.le_of_ble_eq_true rfl)
local macro_rules | `(tactic| walk_at "ev") => `(tactic| repeat' (walk_at "ev1"))
local macro_rules | `(tactic| walk_at "env") => `(tactic| simp only [rep, ladD, setS, setC, env0, List.map_cons, List.map_nil, List.length_cons, List.length_nil, Nat.reduceAdd, Nat.reduceSub, List.replicate_succ, List.replicate_zero, List.cons_append, List.nil_append])
-- IMPORTS LkA1
def t_is_ladder (K : Fr) : TS :=
  (tSeq (tAsg (tVar 0) (gTup K 3 (gCons (gName 1) (gCons (gName 2) (gCons (gName 3) gNil)))))
      (tSeq (tIfS (tOr (tTest (tOp (rEqG K) (tVar 2) (tLst tNil))) (tTest (tOp rLtG (tVar 3) (tC (.int 0))))) (tRet (tC (.bl false))) tNext)
      (tRet (tCall (sp_never_falls K) [] E0 (tCons (tOp rAddG (tOp rAddG (tOp rAddG (tLst (tCons (tC (.int 0)) tNil)) (tVar 1)) (tVar 2)) (tLst (tCons (tOp rAddG (tOp (rIxG K) (tVar 2) (tC (.int 0))) (tVar 3)) tNil))) tNil)))))
def t_need_ladder (K : Fr) : TS :=
  (tIfS (tNot (tB (tCall (sp_is_ladder K) [] E0 (tCons (tVar 0) tNil)))) tNever tNext)
def t_is_set (K : Fr) : TS :=
  (tSeq (tAsg (tVar 0) (gTup K 4 (gCons (gName 1) (gCons (gName 2) (gCons (gName 3) (gCons (gName 4) gNil))))))
      (tSeq (tIfS (tOr (tTest (tOp rLtG (tVar 2) (tC (.int 0)))) (tTest (tOp rLtG (tVar 3) (tC (.int 1))))) (tRet (tC (.bl false))) tNext)
      (tRet (tAndV (tCall (sp_always_rises K) [] E0 (tCons (tOp rAddG (tOp rAddG (tLst (tCons (tUn (rU fun i => .int (-i)) (tC (.int 1))) tNil)) (tVar 1)) (tLst (tCons (tVar 2) tNil))) tNil)) (tCall (sp_always_rises K) [] E0 (tCons (tOp rAddG (tOp rAddG (tLst (tCons (tUn (rU fun i => .int (-i)) (tC (.int 1))) tNil)) (tVar 4)) (tLst (tCons (tVar 3) tNil))) tNil))))))
def t_need_set (K : Fr) : TS :=
  (tIfS (tNot (tB (tCall (sp_is_set K) [] E0 (tCons (tVar 0) tNil)))) tNever tNext)
theorem ok_is_ladder {P : Program} {w : World} {K : Fr} {mg : Str → Option Value} {base : Heap} (T : Txt K mg) : Has P w K mg base 2 (He.ga K "is_ladder") ["ladder"] (sp_is_ladder K) := by
  obtain ⟨fd, F⟩ := T.says.def_ 3 (d := d_is_ladder) rfl
  have F : FunD K "is_ladder" "is_ladder" (defArgs s_is_ladder) (defBody s_is_ladder) (defScope s_is_ladder) [] [] (He.ga K "is_ladder") fd := F
  obtain ⟨kp_never_falls, fd_never_falls, G_never_falls, b_never_falls⟩ := ok_never_falls (P := P) (w := w) (base := base) T
  refine ⟨F.kp, fd, ?_, F.bindsN fun _ _ _ _ _ _ us hl => match us, hl with | [_], _ => rfl⟩
  refine ok_of F c_is_ladder (by (intro ds d h; exact h.len)) fun cdv A outer s H E hr => ⟨t_is_ladder K, PSs.nox
      (pss_cons (ps_asg (pv 0) (pg_tup (by rfl) (pgs_cons (pg_name (i := 1) c_is_ladder.nd rfl (Or.inl rfl)) (pgs_cons (pg_name (i := 2) c_is_ladder.nd rfl (Or.inl rfl)) (pgs_cons (pg_name (i := 3) c_is_ladder.nd rfl (Or.inl rfl)) pgs_nil)))))
      (pss_cons (ps_if (PW.pt (pw_or (pt_cmpR (op_eqG hr.units) (pv 2) (pe_lst pa_nil) (nomark _)) (pw_or1 (pt_cmpR op_ltG (pv 3) pe_int (nomark _))))) (pss_one (ps_ret pe_bl)) pss_nil)
      (pss_one (ps_ret (pe_call G_never_falls (hr.mono (by decide)) (by rfl) (m_never_falls T) kp_never_falls b_never_falls .nil pass0 (pa_cons (pe_op op_addG (pe_op op_addG (pe_op op_addG (pe_lst (pa_cons pe_int pa_nil)) (pv 1)) (pv 2)) (pe_lst (pa_cons (pe_op op_addG (pe_ix ix_G (pv 2) pe_int (fun _ _ => rfl)) (pv 3)) pa_nil))) pa_nil)))))), fun ds d hF => ?_⟩
  obtain ⟨a, rfl, f, n, c, rfl, hL, hn, rfl⟩ := hF.ex
  walk_at "env"
  have hp := hL.pos
  apply q_asg (ev_var rfl)
  · walk_at "ev"
  refine q_no (et_or (a := false) (b := false) (et_test (ev_op (ev_var rfl) (ev_lst ea_nil (by simp)) (rd_isEmpty (smp_ints _) (by decide) (by decide) (tab_ne hp)))) fun _ => et_is (et_test (ev_op (ev_var rfl) ev_int rd_ltG)) (decide_eq_false (by omega))) ?_
  have e0 : atI ((tab f n).map Dt.int) 0 = some (.int (f 0)) := at_tab hp
  refine l_ret (ev_call (d := .bl true) (ea_cons (ev_op (ev_op (ev_op (ev_lst (ea_cons ev_int ea_nil) (by simp)) (ev_var rfl) (rd_addL (by simp))) (ev_var rfl) (rd_addL (by simp [tab_len]; omega)))
    (ev_lst (ea_cons (ev_op (ev_op (ev_var rfl) ev_int (rd_ixL e0)) (ev_var rfl) rd_addI) ea_nil) (by simp)) (rd_addL (by simp [tab_len]; omega))) ea_nil) ⟨[0] ++ tab f n ++ [((f 0 : Nat) : Int) + c], ?_, ?_, ?_⟩) rfl
  · simp
  · simp [tab_len]; omega
  · rw [falls_lad hL]
theorem ok_need_ladder {P : Program} {w : World} {K : Fr} {mg : Str → Option Value} {base : Heap} (T : Txt K mg) : Has P w K mg base 3 (He.ga K "need_ladder") ["ladder"] (sp_need_ladder K) := by
  obtain ⟨fd, F⟩ := T.says.def_ 5 (d := d_need_ladder) rfl
  have F : FunD K "need_ladder" "need_ladder" (defArgs s_need_ladder) (defBody s_need_ladder) (defScope s_need_ladder) [] [] (He.ga K "need_ladder") fd := F
  obtain ⟨kp_is_ladder, fd_is_ladder, G_is_ladder, b_is_ladder⟩ := ok_is_ladder (P := P) (w := w) (base := base) T
  refine ⟨F.kp, fd, ?_, F.bindsN fun _ _ _ _ _ _ us hl => match us, hl with | [_], _ => rfl⟩
  refine ok_of F c_need_ladder (by (intro ds d h; exact h.len)) fun cdv A outer s H E hr => ⟨t_need_ladder K, PSs.nox
      (pss_one (ps_if (pt_not (pt_val (pe_call G_is_ladder (hr.mono (by decide)) (by rfl) (m_is_ladder T) kp_is_ladder b_is_ladder .nil pass0 (pa_cons (pv 0) pa_nil)))) (pss_one ps_never) pss_nil)), fun ds d hF => ?_⟩
  obtain ⟨a, rfl, f, n, c, rfl, hL, hn, rfl⟩ := hF.ex
  walk_at "env"
  exact l_q (q_no (et_not (b := true) (et_B (ev_call (ea_cons (ev_var rfl) ea_nil) ⟨f, n, c, rfl, hL, hn, rfl⟩))) (l_end (by trivial)))
theorem ok_is_set {P : Program} {w : World} {K : Fr} {mg : Str → Option Value} {base : Heap} (T : Txt K mg) : Has P w K mg base 2 (He.ga K "is_set") ["told"] (sp_is_set K) := by
  obtain ⟨fd, F⟩ := T.says.def_ 4 (d := d_is_set) rfl
  have F : FunD K "is_set" "is_set" (defArgs s_is_set) (defBody s_is_set) (defScope s_is_set) [] [] (He.ga K "is_set") fd := F
  obtain ⟨kp_always_rises, fd_always_rises, G_always_rises, b_always_rises⟩ := ok_always_rises (P := P) (w := w) (base := base) T
  refine ⟨F.kp, fd, ?_, F.bindsN fun _ _ _ _ _ _ us hl => match us, hl with | [_], _ => rfl⟩
  refine ok_of F c_is_set (by (intro ds d h; exact h.len)) fun cdv A outer s H E hr => ⟨t_is_set K, PSs.nox
      (pss_cons (ps_asg (pv 0) (pg_tup (by rfl) (pgs_cons (pg_name (i := 1) c_is_set.nd rfl (Or.inl rfl)) (pgs_cons (pg_name (i := 2) c_is_set.nd rfl (Or.inl rfl)) (pgs_cons (pg_name (i := 3) c_is_set.nd rfl (Or.inl rfl)) (pgs_cons (pg_name (i := 4) c_is_set.nd rfl (Or.inl rfl)) pgs_nil))))))
      (pss_cons (ps_if (PW.pt (pw_or (pt_cmpR op_ltG (pv 2) pe_int (nomark _)) (pw_or1 (pt_cmpR op_ltG (pv 3) pe_int (nomark _))))) (pss_one (ps_ret pe_bl)) pss_nil)
      (pss_one (ps_ret (pe_and (pe_call G_always_rises (hr.mono (by decide)) (by rfl) (m_always_rises T) kp_always_rises b_always_rises .nil pass0 (pa_cons (pe_op op_addG (pe_op op_addG (pe_lst (pa_cons (pe_un un_neg pe_int) pa_nil)) (pv 1)) (pe_lst (pa_cons (pv 2) pa_nil))) pa_nil)) (pe_one (pe_call G_always_rises (hr.mono (by decide)) (by rfl) (m_always_rises T) kp_always_rises b_always_rises .nil pass0 (pa_cons (pe_op op_addG (pe_op op_addG (pe_lst (pa_cons (pe_un un_neg pe_int) pa_nil)) (pv 4)) (pe_lst (pa_cons (pv 3) pa_nil))) pa_nil)))))))), fun ds d hF => ?_⟩
  obtain ⟨a, rfl, S, n, rfl, hp, hn, rfl⟩ := hF.ex
  walk_at "env"
  apply q_asg (ev_var rfl)
  · walk_at "ev"
  refine q_no (et_or (a := false) (b := false) (et_is (et_test (ev_op (ev_var rfl) ev_int rd_ltG)) (decide_eq_false (by omega))) fun _ => et_is (et_test (ev_op (ev_var rfl) ev_int rd_ltG)) (decide_eq_false (by omega))) ?_
  have hl := days_len S n
  refine l_ret (ev_and (a := true) (b := true) (ev_call (ea_cons (ev_op (ev_op (ev_lst (ea_cons (ev_neg ev_int) ea_nil) (by simp)) (ev_var rfl) (rd_addL (by simp))) (ev_lst (ea_cons (ev_var rfl) ea_nil) (by simp)) (rd_addL (by simp))) ea_nil) ⟨[-1, 0], rfl, by simp, rfl⟩)
    fun _ => ev_call (ea_cons (ev_op (ev_op (ev_lst (ea_cons (ev_neg ev_int) ea_nil) (by simp)) (ev_var rfl) (rd_addL (by simp; omega))) (ev_lst (ea_cons (ev_var rfl) ea_nil) (by simp)) (rd_addL (by simp; omega))) ea_nil) ⟨[-1] ++ days S n ++ [(n : Int)], by simp, by simp; omega, by rw [rises_days]⟩) rfl
theorem ok_need_set {P : Program} {w : World} {K : Fr} {mg : Str → Option Value} {base : Heap} (T : Txt K mg) : Has P w K mg base 3 (He.ga K "need_set") ["told"] (sp_need_set K) := by
  obtain ⟨fd, F⟩ := T.says.def_ 6 (d := d_need_set) rfl
  have F : FunD K "need_set" "need_set" (defArgs s_need_set) (defBody s_need_set) (defScope s_need_set) [] [] (He.ga K "need_set") fd := F
  obtain ⟨kp_is_set, fd_is_set, G_is_set, b_is_set⟩ := ok_is_set (P := P) (w := w) (base := base) T
  refine ⟨F.kp, fd, ?_, F.bindsN fun _ _ _ _ _ _ us hl => match us, hl with | [_], _ => rfl⟩
  refine ok_of F c_need_set (by (intro ds d h; exact h.len)) fun cdv A outer s H E hr => ⟨t_need_set K, PSs.nox
      (pss_one (ps_if (pt_not (pt_val (pe_call G_is_set (hr.mono (by decide)) (by rfl) (m_is_set T) kp_is_set b_is_set .nil pass0 (pa_cons (pv 0) pa_nil)))) (pss_one ps_never) pss_nil)), fun ds d hF => ?_⟩
  obtain ⟨a, rfl, S, n, rfl, hp, hn, rfl⟩ := hF.ex
  walk_at "env"
  exact l_q (q_no (et_not (b := true) (et_B (ev_call (ea_cons (ev_var rfl) ea_nil) ⟨S, n, rfl, hp, hn, rfl⟩))) (l_end (by trivial)))
end Lk
set_option Elab.async false
set_option linter.all false
set_option maxRecDepth 100000
set_option maxHeartbeats 4000000
namespace Lk
open PySem L2
local macro_rules | `(tactic| walk_at "ev1") => `(tactic| first
  | ((with_reducible apply ev_var); exact rfl)
  | with_reducible exact ev_int | with_reducible exact ev_str | with_reducible exact ev_bl | with_reducible exact ev_non | with_reducible exact ea_nil | with_reducible apply ea_cons
  | with_reducible exact rd_addI | with_reducible exact rd_subG | with_reducible exact rd_ltG | with_reducible exact rd_leG | with_reducible exact rd_gtG | with_reducible exact rd_geG | with_reducible exact rd_eqI | with_reducible exact rd_neI | with_reducible exact rd_eqS
  | with_reducible exact rc_lenL | with_reducible exact rc_lenT | with_reducible exact rc_max2 | with_reducible exact rc_min2 | with_reducible exact rc_abs | with_reducible exact rc_intI | with_reducible exact rc_intB | with_reducible exact rc_listL | with_reducible exact rc_tupleL | with_reducible exact rc_all | with_reducible exact rc_sum
  | with_reducible exact gv_name | with_reducible exact gv_nil | with_reducible apply gv_cons | ((with_reducible apply gv_tup) <;> try exact rfl)
  | with_reducible apply rd_mulI | with_reducible apply rd_fdivG | with_reducible apply rd_modG | with_reducible apply rc_divmod | with_reducible apply rd_ixL | with_reducible apply rd_ixT | with_reducible apply rd_addL
  | with_reducible apply ev_tup | with_reducible apply ev_lst | with_reducible apply ev_op | with_reducible apply ev_cb | with_reducible exact eo_none | with_reducible apply eo_some | with_reducible apply ev_neg
  | with_reducible apply et_test | with_reducible apply et_B | with_reducible apply et_not | exact Nat.le_of_ble_eq_true rfl)
local macro_rules | `(tactic| walk_at "ev") => `(tactic| repeat' (walk_at "ev1"))
local macro_rules | `(tactic| walk_at "env") => `(tactic| simp only [rep, ladD, setS, setC, env0, List.map_cons, List.map_nil, List.length_cons, List.length_nil, Nat.reduceAdd, Nat.reduceSub, List.replicate_succ, List.replicate_zero, List.cons_append, List.nil_append])
-- IMPORTS LkA1
def t_first_numbers (K : Fr) : TS :=
  (tSeq (tAsg (tVar 0) (gTup K 3 (gCons (gName 2) (gCons (gName 3) (gCons (gName 4) gNil)))))
      (tSeq (tAsg (tOp rAddG (tOp rFdivG (tCB rMax2G (tCons (tC (.int 0)) (tCons (tOp rSubG (tVar 1) (tCB (rLenG K) (tCons (tVar 2) tNil))) tNil))) (tCB (rLenG K) (tCons (tVar 3) tNil))) (tC (.int 1))) (gName 5))
      (tSeq (tAsg (tOp rAddG (tVar 2) (tLc2 (iRng1 (tCons (tVar 5) tNil)) (gName 7) tYes (iList K (tVar 3)) (gName 8) tYes (tOp rAddG (tVar 8) (tOp rMulG (tVar 4) (tVar 7))) [7, 8] [8])) (gName 6))
      (tRet (tSl (rSlG K) (tVar 6) tNoPart (tPart (tVar 1)))))))
def t_comes_again (K : Fr) : TS :=
  (tSeq (tAsg (tOp rFdivG (tCB (rLenG K) (tCons (tVar 0) tNil)) (tVar 2)) (gName 3))
      (tSeq (tIfS (tTest (tOp (rNeG K) (tOp rModG (tVar 1) (tVar 3)) (tC (.int 0)))) (tRet (tC (.bl false))) tNext)
      (tSeq (tAsg (tOp rAddG (tSl (rSlG K) (tVar 0) (tPart (tVar 2)) tNoPart) (tLc (iList K (tSl (rSlG K) (tVar 0) tNoPart (tPart (tVar 2)))) (gName 5) tYes (tOp rAddG (tVar 5) (tVar 1)) [5])) (gName 4))
      (tRet (tCB (rAll K) (tCons (tLc (iZip K (tCons (tVar 0) (tCons (tVar 4) tNil))) (gTup K 2 (gCons (gName 5) (gCons (gName 6) gNil))) tYes (tOp (rEqG K) (tOp rAddG (tVar 5) (tOp rFdivG (tVar 1) (tVar 3))) (tVar 6)) [5, 6]) tNil))))))
theorem tab_add (f : Nat → Nat) {n c : Nat} (h : Per f n c) (m : Nat) : tab f (n + m) = tab f n ++ (tab f m).map fun x => x + (c : Int) := by
  induction m with
  | zero => simp [tab]
  | succ m ih =>
    rw [← Nat.add_assoc, tab_succ, tab_succ, ih, List.map_append, ← List.append_assoc]
    congr 1
    have := h m
    rw [Nat.add_comm] at this
    simp; omega
theorem tab_rounds {f : Nat → Nat} {n c : Nat} (h : Per f n c) : ∀ L : Nat, (List.range L).flatMap (fun k => (tab f n).map fun x => x + (c : Int) * (k : Nat)) = tab f (n * L)
  | 0 => by simp [tab]
  | L + 1 => by
    rw [List.range_succ, List.flatMap_append, tab_rounds h L, Nat.mul_succ, tab_add f (h.mul L)]
    congr 1
    simp
theorem tab_drop (f : Nat → Nat) (l n : Nat) : (tab f (n + l)).drop l = tab (fun i => f (i + l)) n := by
  apply List.ext_getElem?
  intro i
  rw [List.getElem?_drop]
  by_cases hi : i < n
  · rw [tab_get (by omega), tab_get hi, Nat.add_comm]
  · rw [List.getElem?_eq_none (by rw [tab_len]; omega), List.getElem?_eq_none (by rw [tab_len]; omega)]
theorem ok_first_numbers {P : Program} {w : World} {K : Fr} {mg : Str → Option Value} {base : Heap} (T : Txt K mg) : Has P w K mg base 1 (He.ga K "first_numbers") ["ladder", "many"] (sp_first_numbers K) := by
  obtain ⟨fd, F⟩ := T.says.def_ 12 (d := d_first_numbers) rfl
  have F : FunD K "first_numbers" "first_numbers" (defArgs s_first_numbers) (defBody s_first_numbers) (defScope s_first_numbers) [] [] (He.ga K "first_numbers") fd := F
  skip
  refine ⟨F.kp, fd, ?_, F.bindsN fun _ _ _ _ _ _ us hl => match us, hl with | [_, _], _ => rfl⟩
  refine ok_of F c_first_numbers (by (intro ds d h; exact h.len)) fun cdv A outer s H E hr => ⟨t_first_numbers K, PSs.nox
      (pss_cons (ps_asg (pv 0) (pg_tup (by rfl) (pgs_cons (pg_name (i := 2) c_first_numbers.nd rfl (Or.inl rfl)) (pgs_cons (pg_name (i := 3) c_first_numbers.nd rfl (Or.inr rfl)) (pgs_cons (pg_name (i := 4) c_first_numbers.nd rfl (Or.inr rfl)) pgs_nil)))))
      (pss_cons (ps_set (i := 5) c_first_numbers.nd rfl (Or.inl rfl) (pe_op op_addG (pe_op op_fdivG (pe_callB (c_max2 rfl) (by rfl) (z_max T) (by decide +kernel) (pa_cons pe_int (pa_cons (pe_op op_subG (pv 1) (pe_callB c_len (by rfl) (z_len T) (by decide +kernel) (pa_cons (pv 2) pa_nil))) pa_nil))) (pe_callB c_len (by rfl) (z_len T) (by decide +kernel) (pa_cons (pv 3) pa_nil))) pe_int))
      (pss_cons (ps_set (i := 6) c_first_numbers.nd rfl (Or.inl rfl) (pe_op op_addG (pv 2) (pe_lc2 (own := [("lap", 7), ("number", 8)]) (vs1 := [8]) (wi := (iRng1 (tCons (tVar 5) tNil))) (wi1 := (iList K (tVar 3))) (g := (gName 7)) (g1 := (gName 8)) (tt := tYes) (tt1 := tYes) (te := (tOp rAddG (tVar 8) (tOp rMulG (tVar 4) (tVar 7)))) (by rfl) c_first_numbers.nd (pi_range1 (by rfl) (z_range T) (pa_cons (pv 5) pa_nil)) (blkOk_by (own := [("lap", 7), ("number", 8)]) (N := ["ladder", "many", "early", "turn", "rise", "laps", "found", "lap", "number"]) (sc := defScope s_first_numbers) (by decide +kernel)) (by decide) (fun _ _ _ _ _ => (pg_name (i := 7) c_first_numbers.nd rfl (Or.inl rfl))) (fun _ _ _ _ _ => pts_nil) (fun _ _ _ _ _ => (pi_list (pv 3))) (fun _ _ _ _ _ => (pg_name (i := 8) c_first_numbers.nd rfl (Or.inl rfl))) (fun _ _ _ _ _ => pts_nil) (fun _ _ _ _ _ => (pe_op op_addG (pv 8) (pe_op op_mulG (pv 4) (pv 7)))))))
      (pss_one (ps_ret (pe_slice sl_G (pv 6) po_none (po_some (pv 1)))))))), fun ds d hF => ?_⟩
  obtain ⟨a, b, rfl, f, n, c, m, rfl, hp, hn, hn2, hc, rfl, hm, rfl⟩ := hF.ex
  walk_at "env"
  apply q_asg (ev_var rfl)
  · walk_at "ev"
  have eL : max 0 ((m : Int) - 0) / (n : Int) + 1 = ((m / n + 1 : Nat) : Int) := by
    rw [Int.sub_zero, Int.max_eq_right (by omega)]
    simp
  have hmn : m / n ≤ m := Nat.div_le_self _ _
  have hL : m ≤ n * (m / n + 1) := by
    have := Nat.div_add_mod m n
    have := Nat.mod_lt m hn
    rw [Nat.mul_succ]; omega
  apply q_set (d := .int ((m / n + 1 : Nat) : Int))
  · apply ev_is
    walk_at "ev"
    · rw [List.length_map, tab_len]; exact ⟨by omega, by omega⟩
    · rw [List.length_map, tab_len]
      exact congrArg Dt.int eL
  have hbig : n * (m / n + 1) ≤ 100000 := by
    have : n * (m / n) ≤ m := Nat.mul_div_le m n
    rw [Nat.mul_succ]; omega
  have hL2 : m / n + 1 ≤ 10001 := by omega
  clear eL hmn
  generalize m / n + 1 = L at *
  have e0 : rangeD 0 ((L : Nat) : Int).toNat = (List.range L).map fun (k : Nat) => Dt.int (k : Nat) := by
    rw [Int.toNat_natCast]
    unfold rangeD
    apply List.map_congr_left
    intro k _
    rw [Int.zero_add]
  have eo : (rangeD 0 ((L : Nat) : Int).toNat).flatMap (fun d => match d with | .int k => ((tab f n).map fun x => x + (c : Int) * k).map Dt.int | _ => []) = (tab f (n * L)).map Dt.int := by
    rw [e0, ← tab_rounds hp, List.flatMap_map, List.map_flatMap]
  refine q_set (d := .lst ((tab f (n * L)).map Dt.int)) (ev_is (ev_op (ev_var rfl) (ev_lc2 (fun d => match d with | .int k => ((tab f n).map fun x => x + (c : Int) * k).map Dt.int | _ => []) (iv_range1 (ea_cons (ev_var rfl) ea_nil) (by omega) (by omega)) (gk_name (by decide)) (gk_name (by decide)) (by rw [eo, List.length_map, tab_len]; exact hbig) (fun d hd => ?_) eo) (rd_addL (by rw [List.length_map, tab_len]; simpa using hbig))) (by rw [List.nil_append])) ?_
  · rw [e0] at hd
    obtain ⟨k, hk, rfl⟩ := List.mem_map.mp hd
    refine ⟨_, gv_name, et_yes, (tab f n).map Dt.int, iv_list (ev_var rfl), fun d => match d with | .int x => .int (x + (c : Int) * (k : Nat)) | d => d, ?_, fun d1 hd1 => ?_⟩
    · show ((tab f n).map fun x => x + (c : Int) * ((k : Nat) : Int)).map Dt.int = _
      rw [List.map_map, List.map_map]; rfl
    · obtain ⟨x, hx, rfl⟩ := memL hd1
      refine ⟨_, gv_name, et_yes, ?_⟩
      exact ev_op (ev_var rfl) (ev_op (ev_var rfl) (ev_var rfl) (rd_mulI (.inl ⟨by omega, by omega⟩))) rd_addI
  refine l_ret (ev_slL (ev_var rfl) eo_none (eo_some (ev_var rfl))) ?_
  rw [cut_to, map_take', tab_take f hL]
theorem per_of_table {f : Nat → Nat} {n r l c : Nat} (h : Per f n r) (hn : 0 < n) (ht : ∀ i, i < n → f (i + l) = f i + c) : Per f l c := fun x => by
  have e : x = x % n + n * (x / n) := by have := Nat.mod_add_div x n; omega
  have h1 := h.mul (x / n) (x % n + l)
  have h2 := h.mul (x / n) (x % n)
  rw [show x + l = x % n + l + n * (x / n) by omega, h1, ht _ (Nat.mod_lt _ hn)]
  have : f x = f (x % n + n * (x / n)) := by rw [← e]
  rw [this, h2]; omega
theorem has_per_iff {f : Nat → Nat} {n r l : Nat} (h : Per f n r) (hn : 0 < n) (hl : l ∣ n) (hl0 : 0 < l) (hr : r % (n / l) = 0) : HasPer f l ↔ ∀ i, i < n → f (i + l) = f i + r / (n / l) := by
  constructor
  · rintro ⟨c, hc⟩ i _
    have h1 := hc.mul (n / l)
    rw [Nat.mul_div_cancel' hl] at h1
    have ht : 0 < n / l := Nat.div_pos (Nat.le_of_dvd hn hl) hl0
    have : r / (n / l) = c := by rw [h.uniq h1]; exact Nat.mul_div_cancel _ ht
    rw [hc, this]
  · exact fun ht => ⟨_, per_of_table h hn ht⟩
open Classical in
theorem ok_comes_again {P : Program} {w : World} {K : Fr} {mg : Str → Option Value} {base : Heap} (T : Txt K mg) : Has P w K mg base 1 (He.ga K "comes_again") ["turn", "rise", "length"] (sp_comes_again K) := by
  obtain ⟨fd, F⟩ := T.says.def_ 13 (d := d_comes_again) rfl
  have F : FunD K "comes_again" "comes_again" (defArgs s_comes_again) (defBody s_comes_again) (defScope s_comes_again) [] [] (He.ga K "comes_again") fd := F
  skip
  refine ⟨F.kp, fd, ?_, F.bindsN fun _ _ _ _ _ _ us hl => match us, hl with | [_, _, _], _ => rfl⟩
  refine ok_of F c_comes_again (by (intro ds d h; exact h.len)) fun cdv A outer s H E hr => ⟨t_comes_again K, PSs.nox
      (pss_cons (ps_set (i := 3) c_comes_again.nd rfl (Or.inr rfl) (pe_op op_fdivG (pe_callB c_len (by rfl) (z_len T) (by decide +kernel) (pa_cons (pv 0) pa_nil)) (pv 2)))
      (pss_cons (ps_if (pt_cmpR (op_neG hr.units) (pe_op op_modG (pv 1) (pv 3)) pe_int (nomark _)) (pss_one (ps_ret pe_bl)) pss_nil)
      (pss_cons (ps_set (i := 4) c_comes_again.nd rfl (Or.inl rfl) (pe_op op_addG (pe_slice sl_G (pv 0) (po_some (pv 2)) po_none) (pe_lc (own := [("number", 5)]) (wi := (iList K (tSl (rSlG K) (tVar 0) tNoPart (tPart (tVar 2))))) (g := (gName 5)) (tt := tYes) (te := (tOp rAddG (tVar 5) (tVar 1))) (by rfl) c_comes_again.nd (pi_list (pe_slice sl_G (pv 0) po_none (po_some (pv 2)))) (blkOk_by (own := [("number", 5)]) (N := ["turn", "rise", "length", "times", "later", "number", "more"]) (sc := defScope s_comes_again) (by decide +kernel)) (fun _ _ _ _ _ => (pg_name (i := 5) c_comes_again.nd rfl (Or.inl rfl))) (fun _ _ _ _ _ => pts_nil) (fun _ _ _ _ _ => (pe_op op_addG (pv 5) (pv 1))))))
      (pss_one (ps_ret (pe_callB (cr_all rfl) (by rfl) (z_all T) (by decide +kernel) (pa_cons (pe_lc (own := [("number", 5), ("more", 6)]) (wi := (iZip K (tCons (tVar 0) (tCons (tVar 4) tNil)))) (g := (gTup K 2 (gCons (gName 5) (gCons (gName 6) gNil)))) (tt := tYes) (te := (tOp (rEqG K) (tOp rAddG (tVar 5) (tOp rFdivG (tVar 1) (tVar 3))) (tVar 6))) (by rfl) c_comes_again.nd (pi_zip (by rfl) (z_zip T) (pa_cons (pv 0) (pa_cons (pv 4) pa_nil))) (blkOk_by (own := [("number", 5), ("more", 6)]) (N := ["turn", "rise", "length", "times", "later", "number", "more"]) (sc := defScope s_comes_again) (by decide +kernel)) (fun _ _ _ _ _ => (pg_tup (by rfl) (pgs_cons (pg_name (i := 5) c_comes_again.nd rfl (Or.inl rfl)) (pgs_cons (pg_name (i := 6) c_comes_again.nd rfl (Or.inl rfl)) pgs_nil)))) (fun _ _ _ _ _ => pts_nil) (fun _ _ _ _ _ => (pe_cmpR (op_eqG hr.units) (pe_op op_addG (pv 5) (pe_op op_fdivG (pv 1) (pv 3))) (pv 6) (nomark _)))) pa_nil))))))), fun ds d hF => ?_⟩
  obtain ⟨a, b, c, rfl, f, n, r, l, rfl, rfl, rfl, hp, hn, hn2, hl, hd, rfl⟩ := hF.ex
  walk_at "env"
  have hln : l ≤ n := Nat.le_of_dvd hn hd
  have ht : 0 < n / l := Nat.div_pos hln hl
  have ht2 : n / l ≤ n := Nat.div_le_self _ _
  apply q_set (d := .int ((n / l : Nat) : Int))
  · apply ev_is
    walk_at "ev"
    · omega
    · rw [List.length_map, tab_len, Int.natCast_ediv]
  refine q_if (b := decide (r % (n / l) ≠ 0)) (et_is (et_test (ev_op (ev_op (ev_var rfl) (ev_var rfl) (rd_modG (by omega))) ev_int rd_neI)) ?_) (fun hb => ?_) (fun hb => ?_)
  · rw [← Int.natCast_emod, ← decide_not]
    apply decide_eq_decide.mpr
    omega
  · have hb := of_decide_eq_true hb
    refine q_ret ev_bl ?_
    show Dt.bl false = _
    rw [decide_eq_false]
    rintro ⟨c', hc'⟩
    apply hb
    have h1 := hc'.mul (n / l)
    rw [Nat.mul_div_cancel' hd] at h1
    rw [hp.uniq h1]
    exact Nat.mul_mod_left _ _
  · have hb : r % (n / l) = 0 := by have := of_decide_eq_false hb; omega
    refine q_next ?_
    have e1 : (tab f n).drop l ++ (tab f l).map (fun x => x + (r : Int)) = tab (fun i => f (i + l)) n := by
      rw [← tab_drop, Nat.add_comm n l, Nat.add_comm l n, tab_add f hp, List.drop_append_of_le_length (by rw [tab_len]; exact hln)]
    refine q_set (d := .lst ((tab (fun i => f (i + l)) n).map Dt.int)) (ev_is (ev_op (ev_slL (ev_var rfl) (eo_some (ev_var rfl)) eo_none)
      (lc_LI (xs := tab f l) (fun x => x + (r : Int)) (ev_is (ev_slL (ev_var rfl) eo_none (eo_some (ev_var rfl))) (by rw [cut_to, map_take', tab_take f hln])) (by rw [tab_len]; omega) (by decide) fun x _ => ev_op (ev_var rfl) (ev_var rfl) rd_addI) (rd_addL ?_)) ?_) ?_
    · rw [cut_from, List.length_drop, List.length_map, List.length_map, List.length_map, tab_len, tab_len]; omega
    · rw [cut_from, map_drop', app_ints, e1]
    refine l_ret (ev_cb (ea_cons (lc_ZB (fun x y => decide (x + (r : Int) / ((n / l : Nat) : Int) = y)) (ea_cons (ev_var rfl) (ea_cons (ev_var rfl) ea_nil)) (by rw [tab_len]; omega) (by decide) (by decide) fun x y _ => ?_) ea_nil) rc_all) ?_
    · exact ev_op (ev_op (ev_var rfl) (ev_op (ev_var rfl) (ev_var rfl) (rd_fdivG (by omega))) rd_addI) (ev_var rfl) rd_eqI
    · show Dt.bl _ = Dt.bl _
      congr 1
      rw [List.all_map]
      apply Bool.eq_iff_iff.mpr
      rw [List.all_eq_true, decide_eq_true_iff, has_per_iff hp hn hd hl hb]
      constructor
      · intro h i hi
        have := h ((f i : Nat), (f (i + l) : Nat)) (List.mem_iff_getElem?.mpr ⟨i, List.getElem?_zip_eq_some.mpr ⟨tab_get hi, tab_get (f := fun i => f (i + l)) hi⟩⟩)
        have := of_decide_eq_true this
        rw [← Int.natCast_ediv] at this
        simp only at this
        omega
      · rintro h ⟨x, y⟩ hm
        obtain ⟨i, hi⟩ := List.mem_iff_getElem?.mp hm
        rw [List.getElem?_zip_eq_some] at hi
        have hin : i < n := by
          have := (List.getElem?_eq_some_iff.mp hi.1).1
          rwa [tab_len] at this
        have e1 := hi.1
        have e2 := hi.2
        rw [tab_get hin] at e1
        rw [tab_get (f := fun i => f (i + l)) hin] at e2
        cases e1; cases e2
        refine decide_eq_true ?_
        rw [← Int.natCast_ediv, h i hin]
        simp
end Lk
set_option Elab.async false
set_option linter.all false
set_option maxRecDepth 100000
set_option maxHeartbeats 4000000
namespace Lk
open PySem L2
local macro_rules | `(tactic| walk_at "ev1") => `(tactic| first
  | ((with_reducible apply ev_var); exact rfl)
  | with_reducible exact ev_int | with_reducible exact ev_str | with_reducible exact ev_bl | with_reducible exact ev_non | with_reducible exact ea_nil | with_reducible apply ea_cons
  | with_reducible exact rd_addI | with_reducible exact rd_subG | with_reducible exact rd_ltG | with_reducible exact rd_leG | with_reducible exact rd_gtG | with_reducible exact rd_geG | with_reducible exact rd_eqI | with_reducible exact rd_neI | with_reducible exact rd_eqS
  | with_reducible exact rc_lenL | with_reducible exact rc_lenT | with_reducible exact rc_max2 | with_reducible exact rc_min2 | with_reducible exact rc_abs | with_reducible exact rc_intI | with_reducible exact rc_intB | with_reducible exact rc_listL | with_reducible exact rc_tupleL | with_reducible exact rc_all | with_reducible exact rc_sum
  | with_reducible exact gv_name | with_reducible exact gv_nil | with_reducible apply gv_cons | ((with_reducible apply gv_tup) <;> try exact rfl)
  | with_reducible apply rd_mulI | with_reducible apply rd_fdivG | with_reducible apply rd_modG | with_reducible apply rc_divmod | with_reducible apply rd_ixL | with_reducible apply rd_ixT | with_reducible apply rd_addL
  | with_reducible apply ev_tup | with_reducible apply ev_lst | with_reducible apply ev_op | with_reducible apply ev_cb | with_reducible exact eo_none | with_reducible apply eo_some | with_reducible apply ev_neg
  | with_reducible apply et_test | with_reducible apply et_B | with_reducible apply et_not | exact Nat.le_of_ble_eq_true rfl)
local macro_rules | `(tactic| walk_at "ev") => `(tactic| repeat' (walk_at "ev1"))
local macro_rules | `(tactic| walk_at "env") => `(tactic| simp only [rep, ladD, setS, setC, env0, List.map_cons, List.map_nil, List.length_cons, List.length_nil, Nat.reduceAdd, Nat.reduceSub, List.replicate_succ, List.replicate_zero, List.cons_append, List.nil_append])
-- IMPORTS LkA1
def t_prime_parts (K : Fr) : TS :=
  (tSeq (tAsg (tLst tNil) (gName 1))
      (tSeq (tPar 2 3 (tCons (tVar 0) (tCons (tC (.int 2)) tNil)))
      (tSeq (tWhile (tTest (tOp rGtG (tVar 2) (tC (.int 1)))) (tSeq (tIfS (tTest (tOp (rEqG K) (tOp rModG (tVar 2) (tVar 3)) (tC (.int 0)))) (tSeq (tDrop (tBM K "list" rAppend (tVar 1) (tCons (tVar 3) tNil)))
      (tWhile (tTest (tOp (rEqG K) (tOp rModG (tVar 2) (tVar 3)) (tC (.int 0)))) (tAsg (tOp rFdivG (tVar 2) (tVar 3)) (gName 2)))) tNext)
      (tAug 3 (tC (.int 1)) (ipI fun i j => i + j))))
      (tRet (tVar 1)))))
theorem isPr_iff {n p : Nat} : isPr n p = true ↔ (1 < p ∧ p ∣ n) ∧ ∀ q, q < p → 1 < q → ¬ q ∣ p := by
  unfold isPr
  rw [Bool.and_eq_true, decide_eq_true_iff, List.all_eq_true]
  constructor
  · rintro ⟨h1, h2⟩
    refine ⟨h1, fun q hq hq1 hd => ?_⟩
    have := h2 q (List.mem_range.mpr hq)
    rw [Bool.not_eq_true', decide_eq_false_iff_not] at this
    exact this ⟨hq1, hd⟩
  · rintro ⟨h1, h2⟩
    refine ⟨h1, fun q hq => ?_⟩
    rw [Bool.not_eq_true', decide_eq_false_iff_not]
    rintro ⟨a, b⟩
    exact h2 q (List.mem_range.mp hq) a b
/-- p, q primes unlike: p divides q * m only if it divides m -/
theorem pr_dvd {n p q m : Nat} (hp : isPr n p = true) (hq : 1 < q) (hqp : q < p) (h : p ∣ q * m) : p ∣ m := by
  have hc : Nat.Coprime p q := by
    have hg : Nat.gcd p q ∣ p := Nat.gcd_dvd_left _ _
    have hg2 : Nat.gcd p q ≤ q := Nat.gcd_le_right _ (by omega)
    have h0 : 0 < Nat.gcd p q := Nat.gcd_pos_of_pos_right _ (by omega)
    by_cases h1 : 1 < Nat.gcd p q
    · exact absurd hg ((isPr_iff.mp hp).2 _ (by omega) h1)
    · show Nat.gcd p q = 1
      omega
  exact hc.dvd_of_dvd_mul_left h
/-- the loop's invariant: left is n without the primes below part -/
structure PInv (n left part : Nat) : Prop where
  pos : 0 < left
  dvd : left ∣ n
  two : 2 ≤ part
  low : ∀ q, 1 < q → q < part → ¬ q ∣ left
  pr : ∀ p, part ≤ p → isPr n p = true → p ∣ left
theorem PInv.part_le {n left part : Nat} (h : PInv n left part) (h1 : 1 < left) : part ≤ left := Nat.le_of_not_lt fun hl => h.low left h1 hl (Nat.dvd_refl _)
theorem PInv.is {n left part : Nat} (h : PInv n left part) : isPr n part = true ↔ part ∣ left := by
  constructor
  · exact h.pr part (Nat.le_refl _)
  · intro hd
    rw [isPr_iff]
    exact ⟨⟨h.two, Nat.dvd_trans hd h.dvd⟩, fun q hq h1 hqd => h.low q h1 hq (Nat.dvd_trans hqd hd)⟩
theorem primes_succ (n k : Nat) : primes n (k + 1) = primes n k ++ (if isPr n k then [((k : Nat) : Int)] else []) := by
  unfold primes
  rw [List.range_succ, List.filter_append, List.map_append]
  congr 1
  rw [List.filter_cons]
  by_cases h : isPr n k = true
  · rw [if_pos h, if_pos h]; rfl
  · rw [if_neg h, if_neg h]; rfl
theorem primes_two (n : Nat) : primes n 2 = [] := by
  unfold primes
  rw [show List.range 2 = [0, 1] from rfl]
  have h0 : isPr n 0 = false := by
    rw [← Bool.not_eq_true]; intro h; have := (isPr_iff.mp h).1.1; omega
  have h1 : isPr n 1 = false := by
    rw [← Bool.not_eq_true]; intro h; have := (isPr_iff.mp h).1.1; omega
  simp [List.filter_cons, h0, h1]
theorem primes_rest {n part : Nat} (h : PInv n 1 part) : ∀ d, primes n (part + d) = primes n part
  | 0 => rfl
  | d + 1 => by
    rw [← Nat.add_assoc, primes_succ, primes_rest h d, if_neg, List.append_nil]
    intro hp
    have h1 := h.pr (part + d) (by omega) hp
    have := Nat.le_of_dvd (by decide) h1
    have := h.two
    omega
theorem primes_len (n k : Nat) : (primes n k).length ≤ k := by
  unfold primes
  rw [List.length_map]
  have := List.length_filter_le (isPr n) (List.range k)
  rwa [List.length_range] at this
theorem ok_prime_parts {P : Program} {w : World} {K : Fr} {mg : Str → Option Value} {base : Heap} (T : Txt K mg) : Has P w K mg base 1 (He.ga K "prime_parts") ["number"] (sp_prime_parts K) := by
  obtain ⟨fd, F⟩ := T.says.def_ 10 (d := d_prime_parts) rfl
  have F : FunD K "prime_parts" "prime_parts" (defArgs s_prime_parts) (defBody s_prime_parts) (defScope s_prime_parts) [] [] (He.ga K "prime_parts") fd := F
  skip
  refine ⟨F.kp, fd, ?_, F.bindsN fun _ _ _ _ _ _ us hl => match us, hl with | [_], _ => rfl⟩
  refine ok_of F c_prime_parts (by (intro ds d h; exact h.len)) fun cdv A outer s H E hr => ⟨t_prime_parts K, PSs.nox
      (pss_cons (ps_set (i := 1) c_prime_parts.nd rfl (Or.inl rfl) (pe_lst pa_nil))
      (pss_cons (ps_par (i := 2) (j := 3) (by rfl) c_prime_parts.nd rfl rfl (by decide) rfl rfl (pa_cons (pv 0) (pa_cons pe_int pa_nil)) (by rfl))
      (pss_cons (ps_while PassesOwn.never (pt_cmpR op_gtG (pv 2) pe_int (nomark _)) (pss_cons (ps_if (pt_cmpR (op_eqG hr.units) (pe_op op_modG (pv 2) (pv 3)) pe_int (nomark _)) (pss_cons (ps_expr (pe_bm PySem.F.plainAttrs_list PySem.F.slot_list_append PySem.F.type_list_append mt_append (pv 1) (pa_cons (pv 3) pa_nil)))
      (pss_one (ps_while PassesOwn.never (pt_cmpR (op_eqG hr.units) (pe_op op_modG (pv 2) (pv 3)) pe_int (nomark _)) (pss_one (ps_set (i := 2) c_prime_parts.nd rfl (Or.inl rfl) (pe_op op_fdivG (pv 2) (pv 3))))))) pss_nil)
      (pss_one (ps_aug (i := 3) c_prime_parts.nd rfl (Or.inl rfl) pe_int ip_add))))
      (pss_one (ps_ret (pv 1)))))), fun ds d hF => ?_⟩
  obtain ⟨a, rfl, n, rfl, hn, hn2, rfl⟩ := hF.ex
  walk_at "env"
  refine q_new ea_nil (by simp) fun p => ?_
  refine q_par (ea_cons (ev_var rfl) (ea_cons ev_int ea_nil)) ?_
  refine q_while (fun m e M' => ∃ left part : Nat, m = left + 1 - part ∧ e = [some (.int n), some (.raw (.ref p)), some (.int left), some (.int part)] ∧ M' = some (p, (primes n part).map Dt.int) ∧ PInv n left part ∧ part ≤ n + 1) (n + 1 - 2)
    ⟨n, 2, rfl, rfl, by rw [primes_two]; rfl, ⟨hn, Nat.dvd_refl _, Nat.le_refl _, fun q h1 h2 => by omega, fun p _ hp => (isPr_iff.mp hp).1.2⟩, by omega⟩ ?_
  rintro m e M' ⟨left, part, rfl, rfl, rfl, hI, hle⟩
  have h2 := hI.two
  refine ⟨decide ((1 : Int) < (left : Int)), et_test (ev_op (ev_var rfl) ev_int rd_gtG), fun hb => ?_, fun hb => ?_⟩
  · have hl : 1 < left := by have := of_decide_eq_true hb; omega
    have hpl := hI.part_le hl
    have hln : left ≤ n := Nat.le_of_dvd hn hI.dvd
    have hz : ((left : Int) % (part : Int) = 0) ↔ part ∣ left := by
      rw [← Int.natCast_emod]
      constructor
      · intro h; exact Nat.dvd_of_mod_eq_zero (by omega)
      · intro h; rw [Nat.mod_eq_zero_of_dvd h]; rfl
    refine q_seq (fun e m => ∃ left' : Nat, e = [some (.int n), some (.raw (.ref p)), some (.int left'), some (.int part)] ∧ m = some (p, (primes n (part + 1)).map Dt.int) ∧ PInv n left' (part + 1) ∧ left' ≤ left) (l_q (q_if (b := decide ((left : Int) % (part : Int) = 0)) (et_test (ev_op (ev_op (ev_var rfl) (ev_var rfl) (rd_modG (by omega))) ev_int rd_eqI)) (fun hb => ?_) fun hb => ?_)) ?_
    · have hd := hz.mp (of_decide_eq_true hb)
      have hpr := hI.is.mpr hd
      have hpl2 := primes_len n part
      refine q_as (q_app (ev_var rfl) (ev_var rfl) (by rw [List.length_map]; omega) ?_)
      have e1 : (primes n part).map Dt.int ++ [Dt.int (part : Nat)] = (primes n (part + 1)).map Dt.int := by
        rw [primes_succ, if_pos hpr, List.map_append]; rfl
      rw [e1]
      refine q_while (fun m e M' => ∃ x : Nat, m = x ∧ e = [some (.int n), some (.raw (.ref p)), some (.int x), some (.int part)] ∧ M' = some (p, (primes n (part + 1)).map Dt.int) ∧ 0 < x ∧ x ∣ left ∧ (∀ q, part + 1 ≤ q → isPr n q = true → q ∣ x)) left ⟨left, rfl, rfl, rfl, hI.pos, Nat.dvd_refl _, fun q hq hp => hI.pr q (by omega) hp⟩ ?_
      rintro m e M' ⟨x, rfl, rfl, rfl, hx, hxl, hxp⟩
      have hz' : ((m : Int) % (part : Int) = 0) ↔ part ∣ m := by
        rw [← Int.natCast_emod]
        constructor
        · intro h; exact Nat.dvd_of_mod_eq_zero (by omega)
        · intro h; rw [Nat.mod_eq_zero_of_dvd h]; rfl
      have hml : m ≤ left := Nat.le_of_dvd hI.pos hxl
      refine ⟨decide ((m : Int) % (part : Int) = 0), et_test (ev_op (ev_op (ev_var rfl) (ev_var rfl) (rd_modG (by omega))) ev_int rd_eqI), fun hb2 => ?_, fun hb2 => ?_⟩
      · have hd2 := hz'.mp (of_decide_eq_true hb2)
        refine l_q (q_set (ev_op (ev_var rfl) (ev_var rfl) (rd_fdivG ⟨by omega, by omega⟩)) (l_end ⟨m / part, Nat.div_lt_self hx h2, m / part, rfl, ?_, rfl, Nat.div_pos (Nat.le_of_dvd hx hd2) (by omega), ?_, ?_⟩))
        · show [_, _, _, _] = [_, _, _, _]
          rw [Int.natCast_ediv]
        · exact Nat.dvd_trans (Nat.div_dvd_of_dvd hd2) hxl
        · intro q hq hp
          have h3 := hxp q hq hp
          rw [← Nat.mul_div_cancel' hd2] at h3
          exact pr_dvd hp h2 (by omega) h3
      · have hd2 : ¬ part ∣ m := fun h => absurd (hz'.mpr h) (of_decide_eq_false hb2)
        refine l_end ⟨m, rfl, rfl, ⟨hx, Nat.dvd_trans hxl hI.dvd, by omega, fun q h1 hq hd3 => ?_, hxp⟩, hml⟩
        by_cases hqp : q < part
        · exact hI.low q h1 hqp (Nat.dvd_trans hd3 hxl)
        · exact hd2 (by rw [show part = q by omega]; exact hd3)
    · have hd : ¬ part ∣ left := fun h => absurd (hz.mpr h) (of_decide_eq_false hb)
      have hpr : ¬ isPr n part = true := fun h => hd (hI.is.mp h)
      refine q_next (l_end ⟨left, rfl, ?_, ⟨hI.pos, hI.dvd, by omega, fun q h1 hq hd3 => ?_, fun q hq hp => hI.pr q (by omega) hp⟩, Nat.le_refl _⟩)
      · rw [primes_succ, if_neg hpr, List.append_nil]
      · by_cases hqp : q < part
        · exact hI.low q h1 hqp hd3
        · exact hd (by rw [show part = q by omega]; exact hd3)
    · rintro e m ⟨left', rfl, rfl, hI', hl'⟩
      refine l_q (q_aug (f := fun i j => i + j) rfl ev_int (l_end ⟨left' + 1 - (part + 1), by omega, left', part + 1, rfl, ?_, rfl, hI', by omega⟩))
      show [_, _, _, _] = [_, _, _, _]
      rw [show ((part : Int) + 1) = ((part + 1 : Nat) : Int) from rfl]
  · have hl : left = 1 := by have := of_decide_eq_false hb; have := hI.pos; omega
    subst hl
    refine q_frz (i := 1) rfl (l_ret (ev_var rfl) ?_)
    show Dt.lst _ = Dt.lst _
    have := primes_rest hI (n + 1 - part)
    rw [show part + (n + 1 - part) = n + 1 by omega] at this
    rw [this]
end Lk
set_option Elab.async false
set_option linter.all false
set_option maxRecDepth 100000
set_option maxHeartbeats 4000000
namespace Lk
open PySem L2
local macro_rules | `(tactic| walk_at "ev1") => `(tactic| first
  | ((with_reducible apply ev_var); exact rfl)
  | with_reducible exact ev_int | with_reducible exact ev_str | with_reducible exact ev_bl | with_reducible exact ev_non | with_reducible exact ea_nil | with_reducible apply ea_cons
  | with_reducible exact rd_addI | with_reducible exact rd_subG | with_reducible exact rd_ltG | with_reducible exact rd_leG | with_reducible exact rd_gtG | with_reducible exact rd_geG | with_reducible exact rd_eqI | with_reducible exact rd_neI | with_reducible exact rd_eqS
  | with_reducible exact rc_lenL | with_reducible exact rc_lenT | with_reducible exact rc_max2 | with_reducible exact rc_min2 | with_reducible exact rc_abs | with_reducible exact rc_intI | with_reducible exact rc_intB | with_reducible exact rc_listL | with_reducible exact rc_tupleL | with_reducible exact rc_all | with_reducible exact rc_sum
  | with_reducible exact gv_name | with_reducible exact gv_nil | with_reducible apply gv_cons | ((with_reducible apply gv_tup) <;> try exact rfl)
  | with_reducible apply rd_mulI | with_reducible apply rd_fdivG | with_reducible apply rd_modG | with_reducible apply rc_divmod | with_reducible apply rd_ixL | with_reducible apply rd_ixT | with_reducible apply rd_addL
  | with_reducible apply ev_tup | with_reducible apply ev_lst | with_reducible apply ev_op | with_reducible apply ev_cb | with_reducible exact eo_none | with_reducible apply eo_some | with_reducible apply ev_neg
  | with_reducible apply et_test | with_reducible apply et_B | with_reducible apply et_not | exact Nat.le_of_ble_eq_true rfl)
local macro_rules | `(tactic| walk_at "ev") => `(tactic| repeat' (walk_at "ev1"))
local macro_rules | `(tactic| walk_at "env") => `(tactic| simp only [rep, ladD, setS, setC, env0, List.map_cons, List.map_nil, List.length_cons, List.length_nil, Nat.reduceAdd, Nat.reduceSub, List.replicate_succ, List.replicate_zero, List.cons_append, List.nil_append])
-- IMPORTS LkA3 LkA4
def t_least_length (K : Fr) : TS :=
  (tSeq (tAsg (tCB (rLenG K) (tCons (tVar 0) tNil)) (gName 2))
      (tSeq (tFor (iList K (tCall (sp_prime_parts K) [] E0 (tCons (tVar 2) tNil))) (gName 3) (tWhile (tAnd (tTest (tOp (rEqG K) (tOp rModG (tVar 2) (tVar 3)) (tC (.int 0)))) (tB (tCall (sp_comes_again K) [] E0 (tCons (tVar 0) (tCons (tVar 1) (tCons (tOp rFdivG (tVar 2) (tVar 3)) tNil)))))) (tAsg (tOp rFdivG (tVar 2) (tVar 3)) (gName 2))))
      (tRet (tVar 2))))
def t_least_way (K : Fr) : TS :=
  (tSeq (tAsg (tVar 0) (gTup K 3 (gCons (gName 1) (gCons (gName 2) (gCons (gName 3) gNil)))))
      (tSeq (tAsg (tCall (sp_least_length K) [] E0 (tCons (tVar 2) (tCons (tVar 3) tNil))) (gName 4))
      (tSeq (tAsg (tOp rFdivG (tOp rMulG (tVar 3) (tVar 4)) (tCB (rLenG K) (tCons (tVar 2) tNil))) (gName 5))
      (tSeq (tPar 6 7 (tCons (tOp rAddG (tVar 1) (tSl (rSlG K) (tVar 2) tNoPart (tPart (tVar 4)))) (tCons (tCB (rLenG K) (tCons (tVar 1) tNil)) tNil)))
      (tSeq (tWhile (tAnd (tTest (tOp rGtG (tVar 7) (tC (.int 0)))) (tTest (tOp (rEqG K) (tOp rAddG (tOp (rIxG K) (tVar 6) (tOp rSubG (tVar 7) (tC (.int 1)))) (tVar 5)) (tOp (rIxG K) (tVar 6) (tOp rAddG (tOp rSubG (tVar 7) (tC (.int 1))) (tVar 4)))))) tNever)
      (tRet (tTup (tCons (tSl (rSlG K) (tVar 6) tNoPart (tPart (tVar 7))) (tCons (tSl (rSlG K) (tVar 6) (tPart (tVar 7)) (tPart (tOp rAddG (tVar 7) (tVar 4)))) (tCons (tVar 5) tNil))))))))))
def t_least_row (K : Fr) : TS :=
  (tSeq (tAsg (tVar 0) (gTup K 2 (gCons (gName 1) (gCons (gName 2) gNil))))
      (tRet (tSl (rSlG K) (tCall (sp_least_way K) [] E0 (tCons (tTup (tCons (tVar 1) (tCons (tVar 2) (tCons (tC (.int 0)) tNil)))) tNil)) tNoPart (tPart (tC (.int 2))))))
/-- a divisor above one has a prime -/
theorem has_prime {n q : Nat} (hq : 1 < q) (hd : q ∣ n) : ∃ p, isPr n p = true ∧ p ∣ q := by
  obtain ⟨p, ⟨h1, h2⟩, h3⟩ := exists_min (P := fun p => 1 < p ∧ p ∣ q) ⟨q, hq, Nat.dvd_refl _⟩
  refine ⟨p, isPr_iff.mpr ⟨⟨h1, Nat.dvd_trans h2 hd⟩, fun e he he1 hed => ?_⟩, h2⟩
  have := h3 e ⟨he1, Nat.dvd_trans hed h2⟩
  omega
theorem HasPer.mul {f : Nat → Nat} {n : Nat} (h : HasPer f n) (k : Nat) : HasPer f (n * k) := by
  obtain ⟨c, hc⟩ := h
  exact ⟨_, hc.mul k⟩
/-- no prime more can be taken out: the least round -/
theorem least_of {f : Nat → Nat} {n l : Nat} (hn : 0 < n) (hl : l ∣ n) (hp : HasPer f n) (h : HasPer f l) (hno : ∀ p, isPr n p = true → ¬ (p ∣ l ∧ HasPer f (l / p))) : l = minPer f := by
  have hl0 : 0 < l := Nat.pos_of_dvd_of_pos hl hn
  have hm := (minPer_spec hp hn).1
  obtain ⟨k, hk⟩ := minPer_dvd hp hn l h
  by_cases h1 : 1 < k
  · obtain ⟨p, hpr, hpk⟩ := has_prime (n := n) h1 (Nat.dvd_trans ⟨minPer f, by rw [Nat.mul_comm]; exact hk⟩ hl)
    exfalso
    refine hno p hpr ⟨Nat.dvd_trans hpk ⟨minPer f, by rw [Nat.mul_comm]; exact hk⟩, ?_⟩
    rw [hk, Nat.mul_div_assoc _ hpk]
    exact (minPer_spec hp hn).2.1.mul _
  · rcases Nat.eq_zero_or_pos k with z | z
    · subst z; omega
    · have : k = 1 := by omega
      subst this; omega
open Classical in
theorem ok_least_length {P : Program} {w : World} {K : Fr} {mg : Str → Option Value} {base : Heap} (T : Txt K mg) : Has P w K mg base 2 (He.ga K "least_length") ["turn", "rise"] (sp_least_length K) := by
  obtain ⟨fd, F⟩ := T.says.def_ 14 (d := d_least_length) rfl
  have F : FunD K "least_length" "least_length" (defArgs s_least_length) (defBody s_least_length) (defScope s_least_length) [] [] (He.ga K "least_length") fd := F
  obtain ⟨kp_prime_parts, fd_prime_parts, G_prime_parts, b_prime_parts⟩ := ok_prime_parts (P := P) (w := w) (base := base) T
  obtain ⟨kp_comes_again, fd_comes_again, G_comes_again, b_comes_again⟩ := ok_comes_again (P := P) (w := w) (base := base) T
  refine ⟨F.kp, fd, ?_, F.bindsN fun _ _ _ _ _ _ us hl => match us, hl with | [_, _], _ => rfl⟩
  refine ok_of F c_least_length (by (intro ds d h; exact h.len)) fun cdv A outer s H E hr => ⟨t_least_length K, PSs.nox
      (pss_cons (ps_set (i := 2) c_least_length.nd rfl (Or.inl rfl) (pe_callB c_len (by rfl) (z_len T) (by decide +kernel) (pa_cons (pv 0) pa_nil)))
      (pss_cons (ps_for PassesOwn.never rfl (pi_list (pe_call G_prime_parts (hr.mono (by decide)) (by rfl) (m_prime_parts T) kp_prime_parts b_prime_parts .nil pass0 (pa_cons (pv 2) pa_nil))) (pg_name (i := 3) c_least_length.nd rfl (Or.inl rfl)) (pss_one (ps_while PassesOwn.never (PW.pt (pw_and (pt_cmpR (op_eqG hr.units) (pe_op op_modG (pv 2) (pv 3)) pe_int (nomark _)) (pw_and1 (pt_val (pe_call G_comes_again (hr.mono (by decide)) (by rfl) (m_comes_again T) kp_comes_again b_comes_again .nil pass0 (pa_cons (pv 0) (pa_cons (pv 1) (pa_cons (pe_op op_fdivG (pv 2) (pv 3)) pa_nil)))))))) (pss_one (ps_set (i := 2) c_least_length.nd rfl (Or.inl rfl) (pe_op op_fdivG (pv 2) (pv 3)))))))
      (pss_one (ps_ret (pv 2))))), fun ds d hF => ?_⟩
  obtain ⟨a, b, rfl, f, n, r, rfl, rfl, hp, hn, hn2, rfl⟩ := hF.ex
  walk_at "env"
  refine q_set (d := .int (n : Nat)) (ev_is (ev_cb (ea_cons (ev_var rfl) ea_nil) rc_lenL) (by rw [List.length_map, tab_len])) ?_
  have hmem : ∀ p, isPr n p = true → ((p : Nat) : Int) ∈ primes n (n + 1) := fun p h => by
    unfold primes
    have := (isPr_iff.mp h).1
    exact List.mem_map.mpr ⟨p, List.mem_filter.mpr ⟨List.mem_range.mpr (Nat.lt_succ_of_le (Nat.le_of_dvd hn this.2)), h⟩, rfl⟩
  refine q_for (iv_list (ev_call (ea_cons (ev_var rfl) ea_nil) ⟨n, rfl, hn, hn2, rfl⟩)) (fun i e M => ∃ (l : Nat) (x : Option Dt), e = [some (.lst ((tab f n).map Dt.int)), some (.int r), some (.int l), x] ∧ M = none ∧ 0 < l ∧ l ∣ n ∧ HasPer f l ∧ ∀ (j : Nat) (p : Nat), j < i → (primes n (n + 1))[j]? = some ((p : Nat) : Int) → ¬ (p ∣ l ∧ HasPer f (l / p)))
    ⟨n, none, rfl, rfl, hn, Nat.dvd_refl _, ⟨r, hp⟩, fun j p h => by omega⟩ ?_ ?_
  · rintro i d e M hd ⟨l, x, rfl, rfl, hl0, hl, hlp, hno⟩
    rw [List.getElem?_map] at hd
    obtain ⟨z, hzi, rfl⟩ := Option.map_eq_some_iff.mp hd
    obtain ⟨q, hq, rfl⟩ : ∃ q : Nat, isPr n q = true ∧ z = ((q : Nat) : Int) := by
      have := List.mem_of_getElem? hzi
      unfold primes at this
      obtain ⟨q, h1, h2⟩ := List.mem_map.mp this
      exact ⟨q, (List.mem_filter.mp h1).2, h2.symm⟩
    have hq1 : 1 < q := (isPr_iff.mp hq).1.1
    refine ⟨_, gv_name, ?_⟩
    refine l_q (q_while (fun m e M => ∃ l' : Nat, m = l' ∧ e = [some (.lst ((tab f n).map Dt.int)), some (.int r), some (.int l'), some (.int q)] ∧ M = none ∧ 0 < l' ∧ l' ∣ l ∧ HasPer f l') l ⟨l, rfl, rfl, rfl, hl0, Nat.dvd_refl _, hlp⟩ ?_)
    rintro m e M ⟨l', rfl, rfl, rfl, hm0, hml, hmp⟩
    have hmn : m ∣ n := Nat.dvd_trans hml hl
    have hmn2 : m ≤ n := Nat.le_of_dvd hn hmn
    have hqn2 : q ≤ n := Nat.le_of_dvd hn (isPr_iff.mp hq).1.2
    have hz : ((m : Int) % (q : Int) = 0) ↔ q ∣ m := by
      rw [← Int.natCast_emod]
      constructor
      · intro h; exact Nat.dvd_of_mod_eq_zero (by omega)
      · intro h; rw [Nat.mod_eq_zero_of_dvd h]; rfl
    refine ⟨decide ((m : Int) % (q : Int) = 0) && decide (HasPer f (m / q)), et_and (et_test (ev_op (ev_op (ev_var rfl) (ev_var rfl) (rd_modG (by omega))) ev_int rd_eqI)) (fun hb => ?_), fun hb => ?_, fun hb => ?_⟩
    · have hqm := hz.mp (of_decide_eq_true hb)
      refine et_B (ev_call (ea_cons (ev_var rfl) (ea_cons (ev_var rfl) (ea_cons (ev_op (ev_var rfl) (ev_var rfl) (rd_fdivG ⟨by omega, by omega⟩)) ea_nil))) ⟨f, n, r, m / q, rfl, rfl, ?_, hp, hn, hn2, Nat.div_pos (Nat.le_of_dvd hm0 hqm) (by omega), Nat.dvd_trans (Nat.div_dvd_of_dvd hqm) hmn, rfl⟩)
      rw [Int.natCast_ediv]
    · rw [Bool.and_eq_true] at hb
      have hqm := hz.mp (of_decide_eq_true hb.1)
      refine l_q (q_set (ev_op (ev_var rfl) (ev_var rfl) (rd_fdivG ⟨by omega, by omega⟩)) (l_end ⟨m / q, Nat.div_lt_self hm0 hq1, m / q, rfl, ?_, rfl, Nat.div_pos (Nat.le_of_dvd hm0 hqm) (by omega), Nat.dvd_trans (Nat.div_dvd_of_dvd hqm) hml, of_decide_eq_true hb.2⟩))
      show [_, _, _, _] = [_, _, _, _]
      rw [Int.natCast_ediv]
    · refine l_end ⟨m, _, rfl, rfl, hm0, hmn, hmp, fun j p hj hjp => ?_⟩
      by_cases hji : j < i
      · rintro ⟨h1, h2⟩
        refine hno j p hji hjp ⟨Nat.dvd_trans h1 hml, ?_⟩
        obtain ⟨k, hk⟩ := hml
        rw [hk, Nat.mul_comm, Nat.mul_div_assoc _ h1, Nat.mul_comm]
        exact h2.mul k
      · have : j = i := by omega
        subst this
        rw [hzi] at hjp
        have hpq : q = p := by have := Option.some.inj hjp; omega
        subst hpq
        rintro ⟨h1, h2⟩
        rw [decide_eq_true (hz.mpr h1), decide_eq_true h2] at hb
        cases hb
  · rintro e M ⟨l, x, rfl, rfl, hl0, hl, hlp, hno⟩
    refine l_ret (ev_var rfl) ?_
    show Dt.int _ = Dt.int _
    rw [least_of hn hl ⟨r, hp⟩ hlp fun p hpr => ?_]
    obtain ⟨j, hj⟩ := List.mem_iff_getElem?.mp (hmem p hpr)
    refine hno j p ?_ hj
    have := (List.getElem?_eq_some_iff.mp hj).1
    rwa [List.length_map]
theorem ok_least_way {P : Program} {w : World} {K : Fr} {mg : Str → Option Value} {base : Heap} (T : Txt K mg) : Has P w K mg base 3 (He.ga K "least_way") ["ladder"] (sp_least_way K) := by
  obtain ⟨fd, F⟩ := T.says.def_ 15 (d := d_least_way) rfl
  have F : FunD K "least_way" "least_way" (defArgs s_least_way) (defBody s_least_way) (defScope s_least_way) [] [] (He.ga K "least_way") fd := F
  obtain ⟨kp_least_length, fd_least_length, G_least_length, b_least_length⟩ := ok_least_length (P := P) (w := w) (base := base) T
  refine ⟨F.kp, fd, ?_, F.bindsN fun _ _ _ _ _ _ us hl => match us, hl with | [_], _ => rfl⟩
  refine ok_of F c_least_way (by (intro ds d h; exact h.len)) fun cdv A outer s H E hr => ⟨t_least_way K, PSs.nox
      (pss_cons (ps_asg (pv 0) (pg_tup (by rfl) (pgs_cons (pg_name (i := 1) c_least_way.nd rfl (Or.inl rfl)) (pgs_cons (pg_name (i := 2) c_least_way.nd rfl (Or.inl rfl)) (pgs_cons (pg_name (i := 3) c_least_way.nd rfl (Or.inl rfl)) pgs_nil)))))
      (pss_cons (ps_set (i := 4) c_least_way.nd rfl (Or.inl rfl) (pe_call G_least_length (hr.mono (by decide)) (by rfl) (m_least_length T) kp_least_length b_least_length .nil pass0 (pa_cons (pv 2) (pa_cons (pv 3) pa_nil))))
      (pss_cons (ps_set (i := 5) c_least_way.nd rfl (Or.inl rfl) (pe_op op_fdivG (pe_op op_mulG (pv 3) (pv 4)) (pe_callB c_len (by rfl) (z_len T) (by decide +kernel) (pa_cons (pv 2) pa_nil))))
      (pss_cons (ps_par (i := 6) (j := 7) (by rfl) c_least_way.nd rfl rfl (by decide) rfl rfl (pa_cons (pe_op op_addG (pv 1) (pe_slice sl_G (pv 2) po_none (po_some (pv 4)))) (pa_cons (pe_callB c_len (by rfl) (z_len T) (by decide +kernel) (pa_cons (pv 1) pa_nil)) pa_nil)) (by rfl))
      (pss_cons (ps_while PassesOwn.never (PW.pt (pw_and (pt_cmpR op_gtG (pv 7) pe_int (nomark _)) (pw_and1 (pt_cmpR (op_eqG hr.units) (pe_op op_addG (pe_ix ix_G (pv 6) (pe_op op_subG (pv 7) pe_int) (fun _ _ => rfl)) (pv 5)) (pe_ix ix_G (pv 6) (pe_op op_addG (pe_op op_subG (pv 7) pe_int) (pv 4)) (fun _ _ => rfl)) (nomark _))))) pss_never)
      (pss_one (ps_ret (pe_tup (pa_cons (pe_slice sl_G (pv 6) po_none (po_some (pv 7))) (pa_cons (pe_slice sl_G (pv 6) (po_some (pv 7)) (po_some (pe_op op_addG (pv 7) (pv 4)))) (pa_cons (pv 5) pa_nil))))))))))), fun ds d hF => ?_⟩
  obtain ⟨a, rfl, f, n, c, rfl, hp, hn, hn2, hc, rfl⟩ := hF.ex
  walk_at "env"
  obtain ⟨m1, m2, m3⟩ := minPer_spec ⟨c, hp⟩ hn
  have hmn : minPer f ≤ n := Nat.le_of_dvd hn (minPer_dvd ⟨c, hp⟩ hn n ⟨c, hp⟩)
  apply q_asg (ev_var rfl)
  · walk_at "ev"
  refine q_set (ev_call (ea_cons (ev_var rfl) (ea_cons (ev_var rfl) ea_nil)) ⟨f, n, c, rfl, rfl, hp, hn, hn2, rfl⟩) ?_
  refine q_set (d := .int ((f (minPer f) - f 0 : Nat) : Int)) (ev_is (ev_op (ev_op (ev_var rfl) (ev_var rfl) (rd_mulI (.inl ⟨by omega, by omega⟩))) (ev_cb (ea_cons (ev_var rfl) ea_nil) rc_lenL) (rd_fdivG ?_)) ?_) ?_
  · rw [List.length_map, tab_len]; exact ⟨by omega, by omega⟩
  · rw [List.length_map, tab_len, ← Int.natCast_mul, ← Int.natCast_ediv, minPer_rise hp hn]
  refine q_par (d1 := .lst ((tab f (minPer f)).map Dt.int)) (d2 := .int 0) (ea_cons (ev_is (ev_op (ev_var rfl) (ev_slL (ev_var rfl) eo_none (eo_some (ev_var rfl))) (rd_addL ?_)) ?_) (ea_cons (ev_cb (ea_cons (ev_var rfl) ea_nil) rc_lenL) ea_nil)) ?_
  · rw [cut_to, List.length_take, List.length_map, tab_len, List.length_nil]; omega
  · rw [cut_to, map_take', tab_take f hmn, List.nil_append]
  refine q_while (fun m e M => m = 0 ∧ e = [some (.tup [.lst [], .lst ((tab f n).map Dt.int), .int c]), some (.lst []), some (.lst ((tab f n).map Dt.int)), some (.int c), some (.int (minPer f)), some (.int ((f (minPer f) - f 0 : Nat) : Int)), some (.lst ((tab f (minPer f)).map Dt.int)), some (.int 0)] ∧ M = none) 0 ⟨rfl, rfl, rfl⟩ ?_
  rintro m e M ⟨rfl, rfl, rfl⟩
  refine ⟨false, et_and (a := false) (b := false) (et_is (et_test (ev_op (ev_var rfl) ev_int rd_gtG)) (by simp)) (fun h => (by cases h)), fun h => (by cases h), fun _ => ?_⟩
  refine l_ret (ev_tup (ea_cons (ev_slL (ev_var rfl) eo_none (eo_some (ev_var rfl))) (ea_cons (ev_slL (ev_var rfl) (eo_some (ev_var rfl)) (eo_some (ev_op (ev_var rfl) (ev_var rfl) rd_addI))) (ea_cons (ev_var rfl) ea_nil))) (by simp)) ?_
  have e1 : cutD ((tab f (minPer f)).map Dt.int) none (some 0) = [] := cut_to _ 0
  have e2 : cutD ((tab f (minPer f)).map Dt.int) (some 0) (some (0 + (minPer f : Int))) = (tab f (minPer f)).map Dt.int := by
    rw [Int.zero_add]
    unfold cutD
    rw [show (some (0 : Int)) = some ((0 : Nat) : Int) from rfl, HT.sIx_nat, HT.sIx_nat, List.length_map, tab_len]
    simp
    exact List.take_of_length_le (by rw [List.length_map, tab_len]; exact Nat.le_refl _)
  rw [e1, e2]
  rfl
theorem ok_least_row {P : Program} {w : World} {K : Fr} {mg : Str → Option Value} {base : Heap} (T : Txt K mg) : Has P w K mg base 4 (He.ga K "least_row") ["row"] (sp_least_row K) := by
  obtain ⟨fd, F⟩ := T.says.def_ 16 (d := d_least_row) rfl
  have F : FunD K "least_row" "least_row" (defArgs s_least_row) (defBody s_least_row) (defScope s_least_row) [] [] (He.ga K "least_row") fd := F
  obtain ⟨kp_least_way, fd_least_way, G_least_way, b_least_way⟩ := ok_least_way (P := P) (w := w) (base := base) T
  refine ⟨F.kp, fd, ?_, F.bindsN fun _ _ _ _ _ _ us hl => match us, hl with | [_], _ => rfl⟩
  refine ok_of F c_least_row (by (intro ds d h; exact h.len)) fun cdv A outer s H E hr => ⟨t_least_row K, PSs.nox
      (pss_cons (ps_asg (pv 0) (pg_tup (by rfl) (pgs_cons (pg_name (i := 1) c_least_row.nd rfl (Or.inl rfl)) (pgs_cons (pg_name (i := 2) c_least_row.nd rfl (Or.inl rfl)) pgs_nil))))
      (pss_one (ps_ret (pe_slice sl_G (pe_call G_least_way (hr.mono (by decide)) (by rfl) (m_least_way T) kp_least_way b_least_way .nil pass0 (pa_cons (pe_tup (pa_cons (pv 1) (pa_cons (pv 2) (pa_cons pe_int pa_nil)))) pa_nil)) po_none (po_some pe_int))))), fun ds d hF => ?_⟩
  obtain ⟨a, rfl, f, n, rfl, hp, hn, hn2, rfl⟩ := hF.ex
  walk_at "env"
  apply q_asg (ev_var rfl)
  · walk_at "ev"
  have e1 : canon f = .tup [.lst [], .lst ((tab f (minPer f)).map Dt.int), .int ((f (minPer f) - f 0 : Nat) : Int)] := rfl
  refine l_ret (ev_slT (ds := [.lst [], .lst ((tab f (minPer f)).map Dt.int), .int ((f (minPer f) - f 0 : Nat) : Int)]) (ev_is (ev_call (ea_cons (ev_tup (ea_cons (ev_var rfl) (ea_cons (ev_var rfl) (ea_cons ev_int ea_nil))) (by simp)) ea_nil) ⟨f, n, 0, rfl, hp, hn, hn2, by omega, rfl⟩) e1) eo_none (eo_some ev_int) ?_) ?_
  · rw [show (2 : Int) = ((2 : Nat) : Int) from rfl, HT.sIx_nat]
    simp
  · rw [show (2 : Int) = ((2 : Nat) : Int) from rfl, cut_to]; rfl
end Lk
set_option Elab.async false
set_option linter.all false
set_option maxRecDepth 100000
set_option maxHeartbeats 4000000
namespace Lk
open PySem L2
local macro_rules | `(tactic| walk_at "ev1") => `(tactic| first
  | ((with_reducible apply ev_var); exact rfl)
  | with_reducible exact ev_int | with_reducible exact ev_str | with_reducible exact ev_bl | with_reducible exact ev_non | with_reducible exact ea_nil | with_reducible apply ea_cons
  | with_reducible exact rd_addI | with_reducible exact rd_subG | with_reducible exact rd_ltG | with_reducible exact rd_leG | with_reducible exact rd_gtG | with_reducible exact rd_geG | with_reducible exact rd_eqI | with_reducible exact rd_neI | with_reducible exact rd_eqS
  | with_reducible exact rc_lenL | with_reducible exact rc_lenT | with_reducible exact rc_max2 | with_reducible exact rc_min2 | with_reducible exact rc_abs | with_reducible exact rc_intI | with_reducible exact rc_intB | with_reducible exact rc_listL | with_reducible exact rc_tupleL | with_reducible exact rc_all | with_reducible exact rc_sum
  | with_reducible exact gv_name | with_reducible exact gv_nil | with_reducible apply gv_cons | ((with_reducible apply gv_tup) <;> try exact rfl)
  | with_reducible apply rd_mulI | with_reducible apply rd_fdivG | with_reducible apply rd_modG | with_reducible apply rc_divmod | with_reducible apply rd_ixL | with_reducible apply rd_ixT | with_reducible apply rd_addL
  | with_reducible apply ev_tup | with_reducible apply ev_lst | with_reducible apply ev_op | with_reducible apply ev_cb | with_reducible exact eo_none | with_reducible apply eo_some | with_reducible apply ev_neg
  | with_reducible apply et_test | with_reducible apply et_B | with_reducible apply et_not | exact Nat.le_of_ble_eq_true rfl)
local macro_rules | `(tactic| walk_at "ev") => `(tactic| repeat' (walk_at "ev1"))
local macro_rules | `(tactic| walk_at "env") => `(tactic| simp only [rep, ladD, setS, setC, env0, List.map_cons, List.map_nil, List.length_cons, List.length_nil, Nat.reduceAdd, Nat.reduceSub, List.replicate_succ, List.replicate_zero, List.cons_append, List.nil_append])
-- IMPORTS LkA5 LkSets
def t_set_row (K : Fr) : TS :=
  (tSeq (tAsg (tVar 0) (gTup K 4 (gCons (gName 1) (gCons (gName 2) (gCons (gName 3) (gCons (gName 4) gNil))))))
      (tSeq (tAsg (tTup (tCons (tDc (iList K (tVar 1)) (gName 7) tYes (tVar 7) (tC (.bl true)) [7]) (tCons (tDc (iList K (tVar 4)) (gName 8) tYes (tVar 8) (tC (.bl true)) [8]) tNil))) (gTup K 2 (gCons (gName 5) (gCons (gName 6) gNil))))
      (tRet (tTup (tCons (tLc (iRng1 (tCons (tVar 2) tNil)) (gName 7) tYes (tCB rIntG (tCons (tDIn (tVar 7) (tVar 5)) tNil)) [7]) (tCons (tLc (iRng1 (tCons (tVar 3) tNil)) (gName 8) tYes (tCB rIntG (tCons (tDIn (tVar 8) (tVar 6)) tNil)) [8]) tNil))))))
def t_set_from (K : Fr) : TS :=
  (tSeq (tAsg (tCall (sp_least_row K) [] E0 (tCons (tVar 0) tNil)) (gTup K 2 (gCons (gName 1) (gCons (gName 2) gNil))))
      (tSeq (tAsg (tLc (iEnum K (tCons (tVar 1) tNil)) (gTup K 2 (gCons (gName 4) (gCons (gName 5) gNil))) (tTest (tOp (rEqG K) (tVar 5) (tC (.int 1)))) (tVar 4) [4, 5]) (gName 3))
      (tRet (tTup (tCons (tVar 3) (tCons (tCB (rLenG K) (tCons (tVar 1) tNil)) (tCons (tCB (rLenG K) (tCons (tVar 2) tNil)) (tCons (tLc (iEnum K (tCons (tVar 2) tNil)) (gTup K 2 (gCons (gName 6) (gCons (gName 5) gNil))) (tTest (tOp (rEqG K) (tVar 5) (tC (.int 1)))) (tVar 6) [6, 5]) tNil))))))))
def t_counts_of (K : Fr) : TS :=
  (tSeq (tAsg (tCall (sp_set_row K) [] E0 (tCons (tVar 0) tNil)) (gTup K 2 (gCons (gName 1) (gCons (gName 2) gNil))))
      (tSeq (tAsg (tLst tNil) (gName 3))
      (tSeq (tAsg (tC (.int 0)) (gName 4))
      (tSeq (tFor (iList K (tOp rAddG (tVar 1) (tVar 2))) (gName 5) (tSeq (tDrop (tBM K "list" rAppend (tVar 3) (tCons (tVar 4) tNil)))
      (tAsg (tOp rAddG (tVar 4) (tVar 5)) (gName 4))))
      (tRet (tCall (sp_least_way K) [] E0 (tCons (tTup (tCons (tSl (rSlG K) (tVar 3) tNoPart (tPart (tCB (rLenG K) (tCons (tVar 1) tNil)))) (tCons (tSl (rSlG K) (tVar 3) (tPart (tCB (rLenG K) (tCons (tVar 1) tNil))) tNoPart) (tCons (tCB (rSum K) (tCons (tVar 2) tNil)) tNil)))) tNil)))))))
def t_nth_of (K : Fr) : TS :=
  (tSeq (tAsg (tVar 0) (gTup K 4 (gCons (gName 1) (gCons (gName 2) (gCons (gName 3) (gCons (gName 4) gNil))))))
      (tRet (tCall (sp_least_way K) [] E0 (tCons (tTup (tCons (tCB (rListG K) (tCons (tVar 1) tNil)) (tCons (tLc (iList K (tVar 4)) (gName 5) tYes (tOp rAddG (tVar 2) (tVar 5)) [5]) (tCons (tVar 3) tNil)))) tNil))))
def t_first_at_least (K : Fr) : TS :=
  (tSeq (tAsg (tVar 0) (gTup K 3 (gCons (gName 2) (gCons (gName 3) (gCons (gName 4) gNil)))))
      (tSeq (tFor (iEnum K (tCons (tVar 2) tNil)) (gTup K 2 (gCons (gName 5) (gCons (gName 6) gNil))) (tIfS (tTest (tOp rGeG (tVar 6) (tVar 1))) tNever tNext))
      (tSeq (tAsg (tCB rMax2G (tCons (tC (.int 0)) (tCons (tOp rFdivG (tOp rSubG (tOp rAddG (tOp rSubG (tVar 1) (tOp (rIxG K) (tVar 3) (tUn (rU fun i => .int (-i)) (tC (.int 1))))) (tVar 4)) (tC (.int 1))) (tVar 4)) tNil))) (gName 7))
      (tSeq (tAsg (tOp (rIxG K) (tLc (iEnum K (tCons (tVar 3) tNil)) (gTup K 2 (gCons (gName 8) (gCons (gName 6) gNil))) (tTest (tOp rGeG (tOp rAddG (tVar 6) (tOp rMulG (tVar 4) (tVar 7))) (tVar 1))) (tVar 8) [8, 6]) (tC (.int 0))) (gName 8))
      (tRet (tOp rAddG (tOp rAddG (tCB (rLenG K) (tCons (tVar 2) tNil)) (tOp rMulG (tCB (rLenG K) (tCons (tVar 3) tNil)) (tVar 7))) (tVar 8)))))))
theorem ok_set_row {P : Program} {w : World} {K : Fr} {mg : Str → Option Value} {base : Heap} (T : Txt K mg) : Has P w K mg base 1 (He.ga K "set_row") ["told"] (sp_set_row K) := by
  obtain ⟨fd, F⟩ := T.says.def_ 17 (d := d_set_row) rfl
  have F : FunD K "set_row" "set_row" (defArgs s_set_row) (defBody s_set_row) (defScope s_set_row) [] [] (He.ga K "set_row") fd := F
  skip
  refine ⟨F.kp, fd, ?_, F.bindsN fun _ _ _ _ _ _ us hl => match us, hl with | [_], _ => rfl⟩
  refine ok_of F c_set_row (by (intro ds d h; exact h.len)) fun cdv A outer s H E hr => ⟨t_set_row K, PSs.nox
      (pss_cons (ps_asg (pv 0) (pg_tup (by rfl) (pgs_cons (pg_name (i := 1) c_set_row.nd rfl (Or.inl rfl)) (pgs_cons (pg_name (i := 2) c_set_row.nd rfl (Or.inl rfl)) (pgs_cons (pg_name (i := 3) c_set_row.nd rfl (Or.inl rfl)) (pgs_cons (pg_name (i := 4) c_set_row.nd rfl (Or.inl rfl)) pgs_nil))))))
      (pss_cons (ps_asg (pe_tup (pa_cons (pe_dc (own := [("day", 7)]) (g := (gName 7)) (tt := tYes) (tk := (tVar 7)) (tv := (tC (.bl true))) (by rfl) c_set_row.nd (pi_list (pv 1)) (blkOk_by (own := [("day", 7)]) (N := ["told", "early", "first", "length", "found", "days", "places", "day", "place"]) (sc := defScope s_set_row) (by decide +kernel)) (fun _ _ _ _ _ => (pg_name (i := 7) c_set_row.nd rfl (Or.inl rfl))) (fun _ _ _ _ _ => pts_nil) (fun _ _ _ _ _ => (pv 7)) (fun _ _ _ _ _ => pe_bl)) (pa_cons (pe_dc (own := [("place", 8)]) (g := (gName 8)) (tt := tYes) (tk := (tVar 8)) (tv := (tC (.bl true))) (by rfl) c_set_row.nd (pi_list (pv 4)) (blkOk_by (own := [("place", 8)]) (N := ["told", "early", "first", "length", "found", "days", "places", "day", "place"]) (sc := defScope s_set_row) (by decide +kernel)) (fun _ _ _ _ _ => (pg_name (i := 8) c_set_row.nd rfl (Or.inl rfl))) (fun _ _ _ _ _ => pts_nil) (fun _ _ _ _ _ => (pv 8)) (fun _ _ _ _ _ => pe_bl)) pa_nil))) (pg_tup (by rfl) (pgs_cons (pg_name (i := 5) c_set_row.nd rfl (Or.inr rfl)) (pgs_cons (pg_name (i := 6) c_set_row.nd rfl (Or.inr rfl)) pgs_nil))))
      (pss_one (ps_ret (pe_tup (pa_cons (pe_lc (own := [("day", 7)]) (wi := (iRng1 (tCons (tVar 2) tNil))) (g := (gName 7)) (tt := tYes) (te := (tCB rIntG (tCons (tDIn (tVar 7) (tVar 5)) tNil))) (by rfl) c_set_row.nd (pi_range1 (by rfl) (z_range T) (pa_cons (pv 2) pa_nil)) (blkOk_by (own := [("day", 7)]) (N := ["told", "early", "first", "length", "found", "days", "places", "day", "place"]) (sc := defScope s_set_row) (by decide +kernel)) (fun _ _ _ _ _ => (pg_name (i := 7) c_set_row.nd rfl (Or.inl rfl))) (fun _ _ _ _ _ => pts_nil) (fun _ _ _ _ _ => (pe_callTy c_int (by rfl) (z_int T) (by decide +kernel) (pa_cons (pe_cmp (pc_din (hu_of hr) (pv 7) (pv 5)) rfl) pa_nil)))) (pa_cons (pe_lc (own := [("place", 8)]) (wi := (iRng1 (tCons (tVar 3) tNil))) (g := (gName 8)) (tt := tYes) (te := (tCB rIntG (tCons (tDIn (tVar 8) (tVar 6)) tNil))) (by rfl) c_set_row.nd (pi_range1 (by rfl) (z_range T) (pa_cons (pv 3) pa_nil)) (blkOk_by (own := [("place", 8)]) (N := ["told", "early", "first", "length", "found", "days", "places", "day", "place"]) (sc := defScope s_set_row) (by decide +kernel)) (fun _ _ _ _ _ => (pg_name (i := 8) c_set_row.nd rfl (Or.inl rfl))) (fun _ _ _ _ _ => pts_nil) (fun _ _ _ _ _ => (pe_callTy c_int (by rfl) (z_int T) (by decide +kernel) (pa_cons (pe_cmp (pc_din (hu_of hr) (pv 8) (pv 6)) rfl) pa_nil)))) pa_nil))))))), fun ds d hF => ?_⟩
  obtain ⟨a, rfl, S, n, rfl, hn, hn2, rfl⟩ := hF.ex
  walk_at "env"
  have hl := days_len S n
  apply q_asg (ev_var rfl)
  · walk_at "ev"
  refine q_asg (d := .tup [.dic [], .dic (days S n)]) (ev_tup (ea_cons (ev_dc (ks := []) (iv_list (ev_var rfl)) (by simp) List.nodup_nil (by decide) (fun i hi => by cases hi) (fun i hi => by cases hi)) (ea_cons (ev_dc (ks := days S n) (iv_list (ev_var rfl)) (by omega) (days_nodup S n) (by decide) (fun i hi => ev_var rfl) (fun i hi => ev_bl)) ea_nil)) (by simp)) (gv_tup (gv_cons gv_name (gv_cons gv_name gv_nil)) rfl) ?_
  refine l_ret (ev_tup (ea_cons (lc_RI (n := 0) (fun _ => 0) (ea_cons (ev_var rfl) ea_nil) (by simp) (by decide) fun k hk => absurd hk (Nat.not_lt_zero _)) (ea_cons (lc_RI (n := n) (fun k => ((ind S k : Nat) : Int)) (ea_cons (ev_var rfl) ea_nil) (by omega) (by decide) fun k hk => ?_) ea_nil)) (by simp)) ?_
  · refine ev_is (ev_cb (ea_cons (ev_din (ev_var rfl) (ev_var rfl)) ea_nil) rc_intB) ?_
    congr 1
    unfold ind
    by_cases h : S k = true
    · rw [if_pos h, decide_eq_true ((mem_days hk).mpr h)]; rfl
    · rw [if_neg h, decide_eq_false fun q => h ((mem_days hk).mp q)]; rfl
  · rfl
theorem ok_set_from {P : Program} {w : World} {K : Fr} {mg : Str → Option Value} {base : Heap} (T : Txt K mg) : Has P w K mg base 5 (He.ga K "set_from") ["row"] (sp_set_from K) := by
  obtain ⟨fd, F⟩ := T.says.def_ 18 (d := d_set_from) rfl
  have F : FunD K "set_from" "set_from" (defArgs s_set_from) (defBody s_set_from) (defScope s_set_from) [] [] (He.ga K "set_from") fd := F
  obtain ⟨kp_least_row, fd_least_row, G_least_row, b_least_row⟩ := ok_least_row (P := P) (w := w) (base := base) T
  refine ⟨F.kp, fd, ?_, F.bindsN fun _ _ _ _ _ _ us hl => match us, hl with | [_], _ => rfl⟩
  refine ok_of F c_set_from (by (intro ds d h; exact h.len)) fun cdv A outer s H E hr => ⟨t_set_from K, PSs.nox
      (pss_cons (ps_asg (pe_call G_least_row (hr.mono (by decide)) (by rfl) (m_least_row T) kp_least_row b_least_row .nil pass0 (pa_cons (pv 0) pa_nil)) (pg_tup (by rfl) (pgs_cons (pg_name (i := 1) c_set_from.nd rfl (Or.inl rfl)) (pgs_cons (pg_name (i := 2) c_set_from.nd rfl (Or.inl rfl)) pgs_nil))))
      (pss_cons (ps_setLc (i := 3) (own := [("day", 4), ("bit", 5)]) (wi := (iEnum K (tCons (tVar 1) tNil))) (g := (gTup K 2 (gCons (gName 4) (gCons (gName 5) gNil)))) (tt := (tTest (tOp (rEqG K) (tVar 5) (tC (.int 1))))) (te := (tVar 4)) (by rfl) c_set_from.nd rfl rfl (sw_true rfl rfl rfl (by decide +kernel)) (pi_enum (by rfl) (z_enumerate T) (pa_cons (pv 1) pa_nil)) (blkOk_by (own := [("day", 4), ("bit", 5)]) (N := ["row", "begun", "again", "early", "day", "bit", "place"]) (sc := defScope s_set_from) (by decide +kernel)) (fun _ _ _ _ _ => (pg_tup (by rfl) (pgs_cons (pg_name (i := 4) c_set_from.nd rfl (Or.inl rfl)) (pgs_cons (pg_name (i := 5) c_set_from.nd rfl (Or.inl rfl)) pgs_nil)))) (fun _ _ _ _ _ => (pts_one (pt_cmpR (op_eqG hr.units) (pv 5) pe_int (nomark _)))) (fun _ _ _ _ _ => (pv 4)))
      (pss_one (ps_ret (pe_tup (pa_cons (pv 3) (pa_cons (pe_callB c_len (by rfl) (z_len T) (by decide +kernel) (pa_cons (pv 1) pa_nil)) (pa_cons (pe_callB c_len (by rfl) (z_len T) (by decide +kernel) (pa_cons (pv 2) pa_nil)) (pa_cons (pe_lc (own := [("place", 6), ("bit", 5)]) (wi := (iEnum K (tCons (tVar 2) tNil))) (g := (gTup K 2 (gCons (gName 6) (gCons (gName 5) gNil)))) (tt := (tTest (tOp (rEqG K) (tVar 5) (tC (.int 1))))) (te := (tVar 6)) (by rfl) c_set_from.nd (pi_enum (by rfl) (z_enumerate T) (pa_cons (pv 2) pa_nil)) (blkOk_by (own := [("place", 6), ("bit", 5)]) (N := ["row", "begun", "again", "early", "day", "bit", "place"]) (sc := defScope s_set_from) (by decide +kernel)) (fun _ _ _ _ _ => (pg_tup (by rfl) (pgs_cons (pg_name (i := 6) c_set_from.nd rfl (Or.inl rfl)) (pgs_cons (pg_name (i := 5) c_set_from.nd rfl (Or.inl rfl)) pgs_nil)))) (fun _ _ _ _ _ => (pts_one (pt_cmpR (op_eqG hr.units) (pv 5) pe_int (nomark _)))) (fun _ _ _ _ _ => (pv 6))) pa_nil))))))))), fun ds d hF => ?_⟩
  obtain ⟨a, rfl, S, n, rfl, hp, hn, hn2, rfl⟩ := hF.ex
  walk_at "env"
  obtain ⟨m1, m2, m3⟩ := minPer_spec ⟨0, hp⟩ hn
  have hmn : minPer (ind S) ≤ n := Nat.le_of_dvd hn (minPer_dvd ⟨0, hp⟩ hn n ⟨0, hp⟩)
  refine q_asg (ev_call (ea_cons (ev_var rfl) ea_nil) ⟨ind S, n, rfl, hp, hn, hn2, rfl⟩) (gv_tup (gv_cons gv_name (gv_cons gv_name gv_nil)) rfl) ?_
  refine q_set (d := .lst []) (ev_is (lc_EP (xs := []) (fun x => decide (x = 1)) (ea_cons (ev_var rfl) ea_nil) (by simp) (by decide) (by decide) (fun k x hx => by simp at hx) (fun k x hx => by simp at hx)) rfl) ?_
  refine l_ret (ev_tup (ea_cons (ev_var rfl) (ea_cons (ev_cb (ea_cons (ev_var rfl) ea_nil) rc_lenL) (ea_cons (ev_cb (ea_cons (ev_var rfl) ea_nil) rc_lenL) (ea_cons (lc_EP (xs := tab (ind S) (minPer (ind S))) (fun x => decide (x = 1)) (ea_cons (ev_var rfl) ea_nil) (by rw [tab_len]; omega) (by decide) (by decide) (fun k x hx => ?_) (fun k x hx => ?_)) ea_nil)))) (by simp)) ?_
  · exact et_test (ev_op (ev_var rfl) ev_int rd_eqI)
  · exact ev_var rfl
  · rw [bits_days, List.length_map, tab_len]; rfl
theorem ok_counts_of {P : Program} {w : World} {K : Fr} {mg : Str → Option Value} {base : Heap} (T : Txt K mg) : Has P w K mg base 4 (He.ga K "counts_of") ["told"] (sp_counts_of K) := by
  obtain ⟨fd, F⟩ := T.says.def_ 19 (d := d_counts_of) rfl
  have F : FunD K "counts_of" "counts_of" (defArgs s_counts_of) (defBody s_counts_of) (defScope s_counts_of) [] [] (He.ga K "counts_of") fd := F
  obtain ⟨kp_least_way, fd_least_way, G_least_way, b_least_way⟩ := ok_least_way (P := P) (w := w) (base := base) T
  obtain ⟨kp_set_row, fd_set_row, G_set_row, b_set_row⟩ := ok_set_row (P := P) (w := w) (base := base) T
  refine ⟨F.kp, fd, ?_, F.bindsN fun _ _ _ _ _ _ us hl => match us, hl with | [_], _ => rfl⟩
  refine ok_of F c_counts_of (by (intro ds d h; exact h.len)) fun cdv A outer s H E hr => ⟨t_counts_of K, PSs.nox
      (pss_cons (ps_asg (pe_call G_set_row (hr.mono (by decide)) (by rfl) (m_set_row T) kp_set_row b_set_row .nil pass0 (pa_cons (pv 0) pa_nil)) (pg_tup (by rfl) (pgs_cons (pg_name (i := 1) c_counts_of.nd rfl (Or.inl rfl)) (pgs_cons (pg_name (i := 2) c_counts_of.nd rfl (Or.inl rfl)) pgs_nil))))
      (pss_cons (ps_set (i := 3) c_counts_of.nd rfl (Or.inl rfl) (pe_lst pa_nil))
      (pss_cons (ps_set (i := 4) c_counts_of.nd rfl (Or.inl rfl) pe_int)
      (pss_cons (ps_for PassesOwn.never rfl (pi_list (pe_op op_addG (pv 1) (pv 2))) (pg_name (i := 5) c_counts_of.nd rfl (Or.inl rfl)) (pss_cons (ps_expr (pe_bm PySem.F.plainAttrs_list PySem.F.slot_list_append PySem.F.type_list_append mt_append (pv 3) (pa_cons (pv 4) pa_nil)))
      (pss_one (ps_set (i := 4) c_counts_of.nd rfl (Or.inl rfl) (pe_op op_addG (pv 4) (pv 5))))))
      (pss_one (ps_ret (pe_call G_least_way (hr.mono (by decide)) (by rfl) (m_least_way T) kp_least_way b_least_way .nil pass0 (pa_cons (pe_tup (pa_cons (pe_slice sl_G (pv 3) po_none (po_some (pe_callB c_len (by rfl) (z_len T) (by decide +kernel) (pa_cons (pv 1) pa_nil)))) (pa_cons (pe_slice sl_G (pv 3) (po_some (pe_callB c_len (by rfl) (z_len T) (by decide +kernel) (pa_cons (pv 1) pa_nil))) po_none) (pa_cons (pe_callB (cr_sum rfl) (by rfl) (z_sum T) (by decide +kernel) (pa_cons (pv 2) pa_nil)) pa_nil)))) pa_nil)))))))), fun ds d hF => ?_⟩
  obtain ⟨a, rfl, S, n, rfl, hp, hn, hn2, rfl⟩ := hF.ex
  walk_at "env"
  refine q_asg (ev_call (ea_cons (ev_var rfl) ea_nil) ⟨S, n, rfl, hn, hn2, rfl⟩) (gv_tup (gv_cons gv_name (gv_cons gv_name gv_nil)) rfl) ?_
  refine q_new ea_nil (by simp) fun p => ?_
  refine q_set ev_int ?_
  refine q_for (items := (tab (ind S) n).map Dt.int) (iv_list (ev_is (ev_op (ev_var rfl) (ev_var rfl) (rd_addL (by rw [List.length_map, tab_len, List.length_nil]; omega))) (by rw [List.nil_append])))
    (fun i e M => ∃ x : Option Dt, e = [some (setS S n), some (.lst []), some (.lst ((tab (ind S) n).map Dt.int)), some (.raw (.ref p)), some (.int (cnt S i)), x] ∧ M = some (p, (tab (cnt S) i).map Dt.int)) ⟨none, rfl, rfl⟩ ?_ ?_
  · rintro i d e M hd ⟨x, rfl, rfl⟩
    have hi : i < n := by
      have := (List.getElem?_eq_some_iff.mp hd).1
      rwa [List.length_map, tab_len] at this
    rw [List.getElem?_map, tab_get hi] at hd
    cases hd
    refine ⟨_, gv_name, ?_⟩
    refine q_app (ev_var rfl) (ev_var rfl) (by rw [List.length_map, tab_len]; omega) ?_
    refine l_q (q_set (ev_op (ev_var rfl) (ev_var rfl) rd_addI) (l_end ⟨some (.int (ind S i)), ?_, ?_⟩))
    · rfl
    · rw [tab_succ, List.map_append]; rfl
  · rintro e M ⟨x, rfl, rfl⟩
    rw [List.length_map, tab_len]
    refine q_frz (i := 3) rfl ?_
    refine l_ret (ev_call (d := canon (cnt S)) (ea_cons (ev_tup (ea_cons (ev_slL (ev_var rfl) eo_none (eo_some (ev_cb (ea_cons (ev_var rfl) ea_nil) rc_lenL))) (ea_cons (ev_slL (ev_var rfl) (eo_some (ev_cb (ea_cons (ev_var rfl) ea_nil) rc_lenL)) eo_none) (ea_cons (ev_cb (ea_cons (ev_var rfl) ea_nil) rc_sum) ea_nil))) (by simp)) ea_nil) ⟨cnt S, n, cnt S n, ?_, cnt_add hp, hn, hn2, Nat.le_trans (cnt_le S n) hn2, rfl⟩) rfl
    rw [cut_to, cut_from, tab_sum]; rfl
theorem ok_nth_of {P : Program} {w : World} {K : Fr} {mg : Str → Option Value} {base : Heap} (T : Txt K mg) : Has P w K mg base 4 (He.ga K "nth_of") ["told"] (sp_nth_of K) := by
  obtain ⟨fd, F⟩ := T.says.def_ 20 (d := d_nth_of) rfl
  have F : FunD K "nth_of" "nth_of" (defArgs s_nth_of) (defBody s_nth_of) (defScope s_nth_of) [] [] (He.ga K "nth_of") fd := F
  obtain ⟨kp_least_way, fd_least_way, G_least_way, b_least_way⟩ := ok_least_way (P := P) (w := w) (base := base) T
  refine ⟨F.kp, fd, ?_, F.bindsN fun _ _ _ _ _ _ us hl => match us, hl with | [_], _ => rfl⟩
  refine ok_of F c_nth_of (by (intro ds d h; exact h.len)) fun cdv A outer s H E hr => ⟨t_nth_of K, PSs.nox
      (pss_cons (ps_asg (pv 0) (pg_tup (by rfl) (pgs_cons (pg_name (i := 1) c_nth_of.nd rfl (Or.inl rfl)) (pgs_cons (pg_name (i := 2) c_nth_of.nd rfl (Or.inr rfl)) (pgs_cons (pg_name (i := 3) c_nth_of.nd rfl (Or.inl rfl)) (pgs_cons (pg_name (i := 4) c_nth_of.nd rfl (Or.inl rfl)) pgs_nil))))))
      (pss_one (ps_ret (pe_call G_least_way (hr.mono (by decide)) (by rfl) (m_least_way T) kp_least_way b_least_way .nil pass0 (pa_cons (pe_tup (pa_cons (pe_callTy c_list (by rfl) (z_list T) (by decide +kernel) (pa_cons (pv 1) pa_nil)) (pa_cons (pe_lc (own := [("place", 5)]) (wi := (iList K (tVar 4))) (g := (gName 5)) (tt := tYes) (te := (tOp rAddG (tVar 2) (tVar 5))) (by rfl) c_nth_of.nd (pi_list (pv 4)) (blkOk_by (own := [("place", 5)]) (N := ["told", "early", "first", "length", "found", "place"]) (sc := defScope s_nth_of) (by decide +kernel)) (fun _ _ _ _ _ => (pg_name (i := 5) c_nth_of.nd rfl (Or.inl rfl))) (fun _ _ _ _ _ => pts_nil) (fun _ _ _ _ _ => (pe_op op_addG (pv 2) (pv 5)))) (pa_cons (pv 3) pa_nil)))) pa_nil))))), fun ds d hF => ?_⟩
  obtain ⟨a, rfl, S, n, rfl, hp, hn, hn2, he, rfl⟩ := hF.ex
  walk_at "env"
  have hl := days_len S n
  have hc := cnt_le S n
  apply q_asg (ev_var rfl)
  · walk_at "ev"
  refine l_ret (ev_call (d := canon (nthS S)) (ea_cons (ev_tup (ea_cons (ev_cb (ea_cons (ev_var rfl) ea_nil) rc_listL) (ea_cons (lc_LI (xs := days S n) (fun x => 0 + x) (ev_var rfl) (by omega) (by decide) fun x _ => ev_op (ev_var rfl) (ev_var rfl) rd_addI) (ea_cons (ev_var rfl) ea_nil))) (by simp)) ea_nil) ⟨nthS S, cnt S n, n, ?_, nthS_per hp hn he, cnt_pos hp hn he, by omega, hn2, rfl⟩) rfl
  rw [days_eq]
  simp only [Int.zero_add, List.map_id']
  rfl
theorem at_last_tab {f : Nat → Nat} {n : Nat} (h : 0 < n) : atI ((tab f n).map Dt.int) (-1) = some (.int (f (n - 1))) := by
  obtain ⟨m, rfl⟩ : ∃ m, n = m + 1 := ⟨n - 1, by omega⟩
  rw [tab_succ, List.map_append]
  exact atI_last _ _
theorem ok_first_at_least {P : Program} {w : World} {K : Fr} {mg : Str → Option Value} {base : Heap} (T : Txt K mg) : Has P w K mg base 1 (He.ga K "first_at_least") ["ladder", "number"] (sp_first_at_least K) := by
  obtain ⟨fd, F⟩ := T.says.def_ 21 (d := d_first_at_least) rfl
  have F : FunD K "first_at_least" "first_at_least" (defArgs s_first_at_least) (defBody s_first_at_least) (defScope s_first_at_least) [] [] (He.ga K "first_at_least") fd := F
  skip
  refine ⟨F.kp, fd, ?_, F.bindsN fun _ _ _ _ _ _ us hl => match us, hl with | [_, _], _ => rfl⟩
  refine ok_of F c_first_at_least (by (intro ds d h; exact h.len)) fun cdv A outer s H E hr => ⟨t_first_at_least K, PSs.nox
      (pss_cons (ps_asg (pv 0) (pg_tup (by rfl) (pgs_cons (pg_name (i := 2) c_first_at_least.nd rfl (Or.inl rfl)) (pgs_cons (pg_name (i := 3) c_first_at_least.nd rfl (Or.inl rfl)) (pgs_cons (pg_name (i := 4) c_first_at_least.nd rfl (Or.inr rfl)) pgs_nil)))))
      (pss_cons (ps_for PassesOwn.never rfl (pi_enum (by rfl) (z_enumerate T) (pa_cons (pv 2) pa_nil)) (pg_tup (by rfl) (pgs_cons (pg_name (i := 5) c_first_at_least.nd rfl (Or.inl rfl)) (pgs_cons (pg_name (i := 6) c_first_at_least.nd rfl (Or.inl rfl)) pgs_nil))) (pss_one (ps_if (pt_cmpR op_geG (pv 6) (pv 1) (nomark _)) pss_never pss_nil)))
      (pss_cons (ps_set (i := 7) c_first_at_least.nd rfl (Or.inr rfl) (pe_callB (c_max2 rfl) (by rfl) (z_max T) (by decide +kernel) (pa_cons pe_int (pa_cons (pe_op op_fdivG (pe_op op_subG (pe_op op_addG (pe_op op_subG (pv 1) (pe_ix ix_G (pv 3) (pe_un un_neg pe_int) (fun _ _ => rfl))) (pv 4)) pe_int) (pv 4)) pa_nil))))
      (pss_cons (ps_set (i := 8) c_first_at_least.nd rfl (Or.inl rfl) (pe_ix ix_G (pe_lc (own := [("place", 8), ("tells", 6)]) (wi := (iEnum K (tCons (tVar 3) tNil))) (g := (gTup K 2 (gCons (gName 8) (gCons (gName 6) gNil)))) (tt := (tTest (tOp rGeG (tOp rAddG (tVar 6) (tOp rMulG (tVar 4) (tVar 7))) (tVar 1)))) (te := (tVar 8)) (by rfl) c_first_at_least.nd (pi_enum (by rfl) (z_enumerate T) (pa_cons (pv 3) pa_nil)) (blkOk_by (own := [("place", 8), ("tells", 6)]) (N := ["ladder", "number", "early", "turn", "rise", "day", "tells", "times", "place"]) (sc := defScope s_first_at_least) (by decide +kernel)) (fun _ _ _ _ _ => (pg_tup (by rfl) (pgs_cons (pg_name (i := 8) c_first_at_least.nd rfl (Or.inl rfl)) (pgs_cons (pg_name (i := 6) c_first_at_least.nd rfl (Or.inl rfl)) pgs_nil)))) (fun _ _ _ _ _ => (pts_one (pt_cmpR op_geG (pe_op op_addG (pv 6) (pe_op op_mulG (pv 4) (pv 7))) (pv 1) (nomark _)))) (fun _ _ _ _ _ => (pv 8))) pe_int (fun _ _ => rfl)))
      (pss_one (ps_ret (pe_op op_addG (pe_op op_addG (pe_callB c_len (by rfl) (z_len T) (by decide +kernel) (pa_cons (pv 2) pa_nil)) (pe_op op_mulG (pe_callB c_len (by rfl) (z_len T) (by decide +kernel) (pa_cons (pv 3) pa_nil)) (pv 7))) (pv 8)))))))), fun ds d hF => ?_⟩
  obtain ⟨a, b, rfl, f, n, c, rfl, hn, hn2, hc, hc2, rfl, rfl⟩ := hF.ex
  walk_at "env"
  apply q_asg (ev_var rfl)
  · walk_at "ev"
  refine q_for (items := enumD []) (iv_enum (ea_cons (ev_var rfl) ea_nil)) (fun i e M => i = 0 ∧ e = [some (ladD (tab f n) c), some (.int 0), some (.lst []), some (.lst ((tab f n).map Dt.int)), some (.int c), none, none, none, none] ∧ M = none) ⟨rfl, rfl, rfl⟩ (fun i d e M hd _ => by simp [enumD, zipD] at hd) ?_
  rintro e M ⟨_, rfl, rfl⟩
  have e1 : max (0 : Int) ((0 - ((f (n - 1) : Nat) : Int) + (c : Int) - 1) / (c : Int)) = 0 := by
    have : (0 - ((f (n - 1) : Nat) : Int) + (c : Int) - 1) / (c : Int) < 1 := Int.ediv_lt_of_lt_mul (by omega) (by omega)
    omega
  refine q_set (d := .int 0) (ev_is (ev_cb (ea_cons ev_int (ea_cons (ev_op (ev_op (ev_op (ev_op (ev_var rfl) (ev_op (ev_var rfl) (ev_neg ev_int) (rd_ixL (at_last_tab hn))) rd_subG) (ev_var rfl) rd_addI) ev_int rd_subG) (ev_var rfl) (rd_fdivG (by omega))) ea_nil)) rc_max2) (by rw [e1])) ?_
  have e2 : atI ((((tab f n).zipIdx).filterMap fun q => if decide (0 ≤ q.1 + (c : Int) * 0) then some ((q.2 : Nat) : Int) else none).map Dt.int) 0 = some (.int 0) := by
    obtain ⟨m, rfl⟩ : ∃ m, n = m + 1 := ⟨n - 1, by omega⟩
    have : tab f (m + 1) = ((f 0 : Nat) : Int) :: tab (fun i => f (i + 1)) m := by
      unfold tab
      rw [List.range_succ_eq_map]; simp
    rw [this, List.zipIdx_cons, List.filterMap_cons]
    have : decide (0 ≤ ((f 0 : Nat) : Int) + (c : Int) * 0) = true := decide_eq_true (by omega)
    simp only [this, if_true]
    exact atI_nat (j := 0) rfl
  refine q_set (d := .int 0) (ev_op (lc_EP (xs := tab f n) (fun x => decide (0 ≤ x + (c : Int) * 0)) (ea_cons (ev_var rfl) ea_nil) (by rw [tab_len]; omega) (by decide) (by decide) (fun k x hx => ?_) (fun k x hx => ?_)) ev_int (rd_ixL e2)) ?_
  · exact et_test (ev_op (ev_op (ev_var rfl) (ev_op (ev_var rfl) (ev_var rfl) (rd_mulI (.inl ⟨by omega, by omega⟩))) rd_addI) (ev_var rfl) rd_geG)
  · exact ev_var rfl
  refine l_ret (ev_op (ev_op (ev_cb (ea_cons (ev_var rfl) ea_nil) rc_lenL) (ev_op (ev_cb (ea_cons (ev_var rfl) ea_nil) rc_lenL) (ev_var rfl) (rd_mulI (.inr ⟨by omega, by omega⟩))) rd_addI) (ev_var rfl) rd_addI) ?_
  simp
end Lk
set_option Elab.async false
set_option linter.all false
set_option maxRecDepth 100000
set_option maxHeartbeats 4000000
namespace Lk
open PySem L2
local macro_rules | `(tactic| walk_at "ev1") => `(tactic| first
  | ((with_reducible apply ev_var); exact rfl)
  | with_reducible exact ev_int | with_reducible exact ev_str | with_reducible exact ev_bl | with_reducible exact ev_non | with_reducible exact ea_nil | with_reducible apply ea_cons
  | with_reducible exact rd_addI | with_reducible exact rd_subG | with_reducible exact rd_ltG | with_reducible exact rd_leG | with_reducible exact rd_gtG | with_reducible exact rd_geG | with_reducible exact rd_eqI | with_reducible exact rd_neI | with_reducible exact rd_eqS
  | with_reducible exact rc_lenL | with_reducible exact rc_lenT | with_reducible exact rc_max2 | with_reducible exact rc_min2 | with_reducible exact rc_abs | with_reducible exact rc_intI | with_reducible exact rc_intB | with_reducible exact rc_listL | with_reducible exact rc_tupleL | with_reducible exact rc_all | with_reducible exact rc_sum
  | with_reducible exact gv_name | with_reducible exact gv_nil | with_reducible apply gv_cons | ((with_reducible apply gv_tup) <;> try exact rfl)
  | with_reducible apply rd_mulI | with_reducible apply rd_fdivG | with_reducible apply rd_modG | with_reducible apply rc_divmod | with_reducible apply rd_ixL | with_reducible apply rd_ixT | with_reducible apply rd_addL
  | with_reducible apply ev_tup | with_reducible apply ev_lst | with_reducible apply ev_op | with_reducible apply ev_cb | with_reducible exact eo_none | with_reducible apply eo_some | with_reducible apply ev_neg
  | with_reducible apply et_test | with_reducible apply et_B | with_reducible apply et_not | exact Nat.le_of_ble_eq_true rfl)
local macro_rules | `(tactic| walk_at "ev") => `(tactic| repeat' (walk_at "ev1"))
local macro_rules | `(tactic| walk_at "env") => `(tactic| simp only [rep, ladD, setS, setC, env0, List.map_cons, List.map_nil, List.length_cons, List.length_nil, Nat.reduceAdd, Nat.reduceSub, List.replicate_succ, List.replicate_zero, List.cons_append, List.nil_append])
-- IMPORTS LkA6
def t_joined_ladders (K : Fr) : TS :=
  (tSeq (tAsg (tVar 0) (gTup K 3 (gCons (gName 2) (gCons (gName 3) (gCons (gName 4) gNil)))))
      (tSeq (tAsg (tVar 1) (gTup K 3 (gCons (gName 5) (gCons (gName 6) (gCons (gName 7) gNil)))))
      (tSeq (tPar3 8 9 10 (tCons (tCB (rLenG K) (tCons (tVar 2) tNil)) (tCons (tCB (rLenG K) (tCons (tVar 3) tNil)) (tCons (tC (.int 0)) tNil))))
      (tSeq (tIfS (tTest (tOp rGtG (tVar 4) (tC (.int 0)))) (tSeq (tAsg (tCB rMax2G (tCons (tVar 8) (tCons (tCall (sp_first_at_least K) [] E0 (tCons (tVar 0) (tCons (tCB (rLenG K) (tCons (tVar 5) tNil)) tNil))) tNil))) (gName 8))
      (tSeq (tAsg (tOp rFdivG (tCB (rLenG K) (tCons (tVar 6) tNil)) (tCall (sp_common_divisor K) [] E0 (tCons (tVar 4) (tCons (tCB (rLenG K) (tCons (tVar 6) tNil)) tNil)))) (gName 11))
      (tPar 9 10 (tCons (tOp rMulG (tVar 9) (tVar 11)) (tCons (tOp rMulG (tOp rFdivG (tOp rMulG (tVar 4) (tVar 11)) (tCB (rLenG K) (tCons (tVar 6) tNil))) (tVar 7)) tNil))))) tNext)
      (tSeq (tAsg (tLc (iList K (tCall (sp_first_numbers K) [] E0 (tCons (tVar 0) (tCons (tOp rAddG (tVar 8) (tVar 9)) tNil)))) (gName 13) tYes (tCall (sp_number_at K) [] E0 (tCons (tVar 1) (tCons (tVar 13) tNil))) [13]) (gName 12))
      (tRet (tCall (sp_least_way K) [] E0 (tCons (tTup (tCons (tSl (rSlG K) (tVar 12) tNoPart (tPart (tVar 8))) (tCons (tSl (rSlG K) (tVar 12) (tPart (tVar 8)) tNoPart) (tCons (tVar 10) tNil)))) tNil))))))))
def t_common_way (K : Fr) : TS :=
  (tRet (tTup (tCons (tCB rMax2G (tCons (tCB (rLenG K) (tCons (tOp (rIxG K) (tVar 0) (tC (.int 0))) tNil)) (tCons (tCB (rLenG K) (tCons (tOp (rIxG K) (tVar 1) (tC (.int 0))) tNil)) tNil))) (tCons (tCall (sp_common_multiple K) [] E0 (tCons (tCB (rLenG K) (tCons (tOp (rIxG K) (tVar 0) (tC (.int 1))) tNil)) (tCons (tCB (rLenG K) (tCons (tOp (rIxG K) (tVar 1) (tC (.int 1))) tNil)) tNil))) tNil))))
def t_risen (K : Fr) : TS :=
  (tRet (tOp rMulG (tOp (rIxG K) (tVar 0) (tC (.int 2))) (tOp rFdivG (tVar 1) (tCB (rLenG K) (tCons (tOp (rIxG K) (tVar 0) (tC (.int 1))) tNil)))))
theorem join_per {f g : Nat → Nat} {n c m r : Nat} (hf : Per f n c) (hg : Per g m r) (hc : 0 < c) (hm : 0 < m) : Per (fun x => g (f x)) (n * (m / Nat.gcd c m)) (c * (m / Nat.gcd c m) / m * r) := fun x => by
  have hgp : 0 < Nat.gcd c m := Nat.gcd_pos_of_pos_left _ hc
  obtain ⟨k, hk⟩ := Nat.gcd_dvd_left c m
  obtain ⟨l, hl⟩ := Nat.gcd_dvd_right c m
  have e1 : m / Nat.gcd c m = l := by
    rw [Nat.div_eq_iff_eq_mul_right hgp (Nat.gcd_dvd_right c m)]; exact hl
  have e2 : c * (m / Nat.gcd c m) = m * k := by
    rw [e1]
    calc c * l = (Nat.gcd c m * k) * l := by rw [← hk]
      _ = (Nat.gcd c m * l) * k := by rw [Nat.mul_assoc, Nat.mul_comm k l, Nat.mul_assoc]
      _ = m * k := by rw [← hl]
  show g (f (x + n * (m / Nat.gcd c m))) = g (f x) + _
  rw [hf.mul _ x, e2, Nat.mul_div_cancel_left _ hm, hg.mul k (f x), Nat.mul_comm r k]
theorem ok_joined_ladders {P : Program} {w : World} {K : Fr} {mg : Str → Option Value} {base : Heap} (T : Txt K mg) : Has P w K mg base 4 (He.ga K "joined_ladders") ["one", "other"] (sp_joined_ladders K) := by
  obtain ⟨fd, F⟩ := T.says.def_ 22 (d := d_joined_ladders) rfl
  have F : FunD K "joined_ladders" "joined_ladders" (defArgs s_joined_ladders) (defBody s_joined_ladders) (defScope s_joined_ladders) [] [] (He.ga K "joined_ladders") fd := F
  obtain ⟨kp_least_way, fd_least_way, G_least_way, b_least_way⟩ := ok_least_way (P := P) (w := w) (base := base) T
  obtain ⟨kp_first_numbers, fd_first_numbers, G_first_numbers, b_first_numbers⟩ := ok_first_numbers (P := P) (w := w) (base := base) T
  obtain ⟨kp_number_at, fd_number_at, G_number_at, b_number_at⟩ := ok_number_at (P := P) (w := w) (base := base) T
  obtain ⟨kp_common_divisor, fd_common_divisor, G_common_divisor, b_common_divisor⟩ := ok_common_divisor (P := P) (w := w) (base := base) T
  obtain ⟨kp_first_at_least, fd_first_at_least, G_first_at_least, b_first_at_least⟩ := ok_first_at_least (P := P) (w := w) (base := base) T
  refine ⟨F.kp, fd, ?_, F.bindsN fun _ _ _ _ _ _ us hl => match us, hl with | [_, _], _ => rfl⟩
  refine ok_of F c_joined_ladders (by (intro ds d h; exact h.len)) fun cdv A outer s H E hr => ⟨t_joined_ladders K, PSs.nox
      (pss_cons (ps_asg (pv 0) (pg_tup (by rfl) (pgs_cons (pg_name (i := 2) c_joined_ladders.nd rfl (Or.inl rfl)) (pgs_cons (pg_name (i := 3) c_joined_ladders.nd rfl (Or.inl rfl)) (pgs_cons (pg_name (i := 4) c_joined_ladders.nd rfl (Or.inl rfl)) pgs_nil)))))
      (pss_cons (ps_asg (pv 1) (pg_tup (by rfl) (pgs_cons (pg_name (i := 5) c_joined_ladders.nd rfl (Or.inl rfl)) (pgs_cons (pg_name (i := 6) c_joined_ladders.nd rfl (Or.inl rfl)) (pgs_cons (pg_name (i := 7) c_joined_ladders.nd rfl (Or.inl rfl)) pgs_nil)))))
      (pss_cons (ps_par3 (i := 8) (j := 9) (l := 10) (by rfl) c_joined_ladders.nd rfl rfl rfl (by decide) (by decide) (by decide) rfl rfl rfl (pa_cons (pe_callB c_len (by rfl) (z_len T) (by decide +kernel) (pa_cons (pv 2) pa_nil)) (pa_cons (pe_callB c_len (by rfl) (z_len T) (by decide +kernel) (pa_cons (pv 3) pa_nil)) (pa_cons pe_int pa_nil))) (by rfl))
      (pss_cons (ps_if (pt_cmpR op_gtG (pv 4) pe_int (nomark _)) (pss_cons (ps_set (i := 8) c_joined_ladders.nd rfl (Or.inl rfl) (pe_callB (c_max2 rfl) (by rfl) (z_max T) (by decide +kernel) (pa_cons (pv 8) (pa_cons (pe_call G_first_at_least (hr.mono (by decide)) (by rfl) (m_first_at_least T) kp_first_at_least b_first_at_least .nil pass0 (pa_cons (pv 0) (pa_cons (pe_callB c_len (by rfl) (z_len T) (by decide +kernel) (pa_cons (pv 5) pa_nil)) pa_nil))) pa_nil))))
      (pss_cons (ps_set (i := 11) c_joined_ladders.nd rfl (Or.inl rfl) (pe_op op_fdivG (pe_callB c_len (by rfl) (z_len T) (by decide +kernel) (pa_cons (pv 6) pa_nil)) (pe_call G_common_divisor (hr.mono (by decide)) (by rfl) (m_common_divisor T) kp_common_divisor b_common_divisor .nil pass0 (pa_cons (pv 4) (pa_cons (pe_callB c_len (by rfl) (z_len T) (by decide +kernel) (pa_cons (pv 6) pa_nil)) pa_nil)))))
      (pss_one (ps_par (i := 9) (j := 10) (by rfl) c_joined_ladders.nd rfl rfl (by decide) rfl rfl (pa_cons (pe_op op_mulG (pv 9) (pv 11)) (pa_cons (pe_op op_mulG (pe_op op_fdivG (pe_op op_mulG (pv 4) (pv 11)) (pe_callB c_len (by rfl) (z_len T) (by decide +kernel) (pa_cons (pv 6) pa_nil))) (pv 7)) pa_nil)) (by rfl))))) pss_nil)
      (pss_cons (ps_setLc (i := 12) (own := [("number", 13)]) (wi := (iList K (tCall (sp_first_numbers K) [] E0 (tCons (tVar 0) (tCons (tOp rAddG (tVar 8) (tVar 9)) tNil))))) (g := (gName 13)) (tt := tYes) (te := (tCall (sp_number_at K) [] E0 (tCons (tVar 1) (tCons (tVar 13) tNil)))) (by rfl) c_joined_ladders.nd rfl rfl (sw_true rfl rfl rfl (by decide +kernel)) (pi_list (pe_call G_first_numbers (hr.mono (by decide)) (by rfl) (m_first_numbers T) kp_first_numbers b_first_numbers .nil pass0 (pa_cons (pv 0) (pa_cons (pe_op op_addG (pv 8) (pv 9)) pa_nil)))) (blkOk_by (own := [("number", 13)]) (N := ["one", "other", "early", "turn", "rise", "begun", "again", "more", "first", "length", "gain", "times", "numbers", "number"]) (sc := defScope s_joined_ladders) (by decide +kernel)) (fun _ _ _ _ _ => (pg_name (i := 13) c_joined_ladders.nd rfl (Or.inl rfl))) (fun _ _ _ _ _ => pts_nil) (fun _ _ _ _ _ => (pe_call G_number_at (hr.mono (by decide)) (by rfl) (m_number_at T) kp_number_at b_number_at .nil pass0 (pa_cons (pv 1) (pa_cons (pv 13) pa_nil)))))
      (pss_one (ps_ret (pe_call G_least_way (hr.mono (by decide)) (by rfl) (m_least_way T) kp_least_way b_least_way .nil pass0 (pa_cons (pe_tup (pa_cons (pe_slice sl_G (pv 12) po_none (po_some (pv 8))) (pa_cons (pe_slice sl_G (pv 12) (po_some (pv 8)) po_none) (pa_cons (pv 10) pa_nil)))) pa_nil))))))))), fun ds d hF => ?_⟩
  obtain ⟨a, b, rfl, f, g, n, c, m, r, rfl, rfl, hf, hg, hn, hn2, hc, hc2, hm, hm2, hr2, rfl⟩ := hF.ex
  walk_at "env"
  have hgp : 0 < Nat.gcd c m := Nat.gcd_pos_of_pos_left _ hc
  have hgm : Nat.gcd c m ≤ m := Nat.gcd_le_right _ hm
  have hjp := join_per hf hg hc hm
  generalize ht : m / Nat.gcd c m = t at hjp
  have htm : t ≤ 60 := by rw [← ht]; exact Nat.le_trans (Nat.div_le_self _ _) hm2
  have ht0 : 0 < t := by rw [← ht]; exact Nat.div_pos hgm hgp
  have hnt : n * t ≤ 60 * 60 := Nat.mul_le_mul hn2 htm
  have hnt0 : 0 < n * t := Nat.mul_pos hn ht0
  have hct : c * t / m ≤ 60 := by
    rw [← ht]
    refine Nat.le_trans (Nat.div_le_of_le_mul ?_) hc2
    rw [Nat.mul_comm m c]
    exact Nat.mul_le_mul_left c (Nat.div_le_self _ _)
  have hctr : c * t / m * r ≤ 60 * 60 := Nat.mul_le_mul hct hr2
  apply q_asg (ev_var rfl)
  · walk_at "ev"
  apply q_asg (ev_var rfl)
  · walk_at "ev"
  refine q_par3 (d1 := .int 0) (d2 := .int n) (d3 := .int 0) (ea_cons (ev_cb (ea_cons (ev_var rfl) ea_nil) rc_lenL) (ea_cons (ev_is (ev_cb (ea_cons (ev_var rfl) ea_nil) rc_lenL) (by rw [List.length_map, tab_len])) (ea_cons ev_int ea_nil))) ?_
  refine q_yes (et_is (et_test (ev_op (ev_var rfl) ev_int rd_gtG)) (decide_eq_true (by omega))) ?_
  refine q_as (q_set (d := .int 0) (ev_is (ev_cb (ea_cons (ev_var rfl) (ea_cons (ev_call (d := .int 0) (ea_cons (ev_var rfl) (ea_cons (ev_cb (ea_cons (ev_var rfl) ea_nil) rc_lenL) ea_nil)) ⟨f, n, c, rfl, hn, by omega, hc, by omega, rfl, rfl⟩) ea_nil)) rc_max2) rfl) ?_)
  have el : (((tab g m).map Dt.int).length : Int) = ((m : Nat) : Int) := by rw [List.length_map, tab_len]
  refine q_as (q_set (d := .int t) (ev_is (ev_op (ev_cb (ea_cons (ev_var rfl) ea_nil) rc_lenL) (ev_call (d := .int (Nat.gcd c m)) (ea_cons (ev_var rfl) (ea_cons (ev_is (ev_cb (ea_cons (ev_var rfl) ea_nil) rc_lenL) (congrArg Dt.int el)) ea_nil)) ⟨c, m, rfl, rfl, rfl⟩) (rd_fdivG ⟨by omega, by omega⟩)) (by rw [el, ← ht, Int.natCast_ediv])) ?_)
  refine q_par (d1 := .int ((n * t : Nat) : Int)) (d2 := .int ((c * t / m * r : Nat) : Int)) (ea_cons (ev_is (ev_op (ev_var rfl) (ev_var rfl) (rd_mulI (.inl ⟨by omega, by omega⟩))) (by rw [Int.natCast_mul])) (ea_cons (ev_is (ev_op (ev_op (ev_op (ev_var rfl) (ev_var rfl) (rd_mulI (.inl ⟨by omega, by omega⟩))) (ev_cb (ea_cons (ev_var rfl) ea_nil) rc_lenL) (rd_fdivG ⟨by rw [el]; omega, by rw [el]; omega⟩)) (ev_var rfl) (rd_mulI (.inr ⟨by omega, by omega⟩))) ?_) ea_nil)) ?_
  · rw [el, Int.natCast_mul, Int.natCast_ediv, Int.natCast_mul]
  refine q_set (d := .lst ((tab (fun x => g (f x)) (n * t)).map Dt.int)) (ev_is (lc_LI (xs := tab f (n * t)) (fun y => ((g y.toNat : Nat) : Int)) (ev_call (ea_cons (ev_var rfl) (ea_cons (ev_op (ev_var rfl) (ev_var rfl) rd_addI) ea_nil)) ⟨f, n, c, n * t, rfl, hf, hn, by omega, by omega, by rw [Int.zero_add], by omega, rfl⟩) (by rw [tab_len]; omega) (by decide) fun y hy => ?_) ?_) ?_
  · obtain ⟨i, hi, rfl⟩ := List.mem_map.mp (show y ∈ (List.range (n * t)).map fun i => ((f i : Nat) : Int) from hy)
    exact ev_call (ea_cons (ev_var rfl) (ea_cons (ev_var rfl) ea_nil)) ⟨g, m, r, f i, rfl, hg, hm, by omega, by omega, rfl, by rw [Int.toNat_natCast]⟩
  · unfold tab
    rw [List.map_map (l := List.range _)]
    rfl
  refine l_ret (ev_call (d := canon fun x => g (f x)) (ea_cons (ev_tup (ea_cons (ev_slL (ev_var rfl) eo_none (eo_some (ev_var rfl))) (ea_cons (ev_slL (ev_var rfl) (eo_some (ev_var rfl)) eo_none) (ea_cons (ev_var rfl) ea_nil))) (by simp)) ea_nil) ⟨fun x => g (f x), n * t, c * t / m * r, ?_, hjp, hnt0, by omega, by omega, rfl⟩) rfl
  rw [show ((0 : Int)) = (((0 : Nat)) : Int) from rfl, cut_to, cut_from]; rfl
theorem ok_common_way {P : Program} {w : World} {K : Fr} {mg : Str → Option Value} {base : Heap} (T : Txt K mg) : Has P w K mg base 3 (He.ga K "common_way") ["one", "other"] (sp_common_way K) := by
  obtain ⟨fd, F⟩ := T.says.def_ 23 (d := d_common_way) rfl
  have F : FunD K "common_way" "common_way" (defArgs s_common_way) (defBody s_common_way) (defScope s_common_way) [] [] (He.ga K "common_way") fd := F
  obtain ⟨kp_common_multiple, fd_common_multiple, G_common_multiple, b_common_multiple⟩ := ok_common_multiple (P := P) (w := w) (base := base) T
  refine ⟨F.kp, fd, ?_, F.bindsN fun _ _ _ _ _ _ us hl => match us, hl with | [_, _], _ => rfl⟩
  refine ok_of F c_common_way (by (intro ds d h; exact h.len)) fun cdv A outer s H E hr => ⟨t_common_way K, PSs.nox
      (pss_one (ps_ret (pe_tup (pa_cons (pe_callB (c_max2 rfl) (by rfl) (z_max T) (by decide +kernel) (pa_cons (pe_callB c_len (by rfl) (z_len T) (by decide +kernel) (pa_cons (pe_ix ix_G (pv 0) pe_int (fun _ _ => rfl)) pa_nil)) (pa_cons (pe_callB c_len (by rfl) (z_len T) (by decide +kernel) (pa_cons (pe_ix ix_G (pv 1) pe_int (fun _ _ => rfl)) pa_nil)) pa_nil))) (pa_cons (pe_call G_common_multiple (hr.mono (by decide)) (by rfl) (m_common_multiple T) kp_common_multiple b_common_multiple .nil pass0 (pa_cons (pe_callB c_len (by rfl) (z_len T) (by decide +kernel) (pa_cons (pe_ix ix_G (pv 0) pe_int (fun _ _ => rfl)) pa_nil)) (pa_cons (pe_callB c_len (by rfl) (z_len T) (by decide +kernel) (pa_cons (pe_ix ix_G (pv 1) pe_int (fun _ _ => rfl)) pa_nil)) pa_nil))) pa_nil))))), fun ds d hF => ?_⟩
  obtain ⟨a, b, rfl, f, g, n, c, m, r, rfl, rfl, hn, hn2, hm, hm2, rfl⟩ := hF.ex
  walk_at "env"
  refine l_ret (ev_is (ev_tup (ea_cons (ev_cb (ea_cons (ev_cb (ea_cons (ev_op (ev_var rfl) ev_int (rd_ixT (atI_nat (j := 0) rfl))) ea_nil) rc_lenL) (ea_cons (ev_cb (ea_cons (ev_op (ev_var rfl) ev_int (rd_ixT (atI_nat (j := 0) rfl))) ea_nil) rc_lenL) ea_nil)) rc_max2)
    (ea_cons (ev_call (d := .int (Nat.lcm n m)) (ea_cons (ev_cb (ea_cons (ev_op (ev_var rfl) ev_int (rd_ixT (atI_nat (j := 1) rfl))) ea_nil) rc_lenL) (ea_cons (ev_cb (ea_cons (ev_op (ev_var rfl) ev_int (rd_ixT (atI_nat (j := 1) rfl))) ea_nil) rc_lenL) ea_nil)) ⟨n, m, by rw [List.length_map, tab_len], by rw [List.length_map, tab_len], hn, hm, by omega, by omega, rfl⟩) ea_nil)) (by simp)) rfl) rfl
theorem ok_risen {P : Program} {w : World} {K : Fr} {mg : Str → Option Value} {base : Heap} (T : Txt K mg) : Has P w K mg base 1 (He.ga K "risen") ["ladder", "length"] (sp_risen K) := by
  obtain ⟨fd, F⟩ := T.says.def_ 24 (d := d_risen) rfl
  have F : FunD K "risen" "risen" (defArgs s_risen) (defBody s_risen) (defScope s_risen) [] [] (He.ga K "risen") fd := F
  skip
  refine ⟨F.kp, fd, ?_, F.bindsN fun _ _ _ _ _ _ us hl => match us, hl with | [_, _], _ => rfl⟩
  refine ok_of F c_risen (by (intro ds d h; exact h.len)) fun cdv A outer s H E hr => ⟨t_risen K, PSs.nox
      (pss_one (ps_ret (pe_op op_mulG (pe_ix ix_G (pv 0) pe_int (fun _ _ => rfl)) (pe_op op_fdivG (pv 1) (pe_callB c_len (by rfl) (z_len T) (by decide +kernel) (pa_cons (pe_ix ix_G (pv 0) pe_int (fun _ _ => rfl)) pa_nil)))))), fun ds d hF => ?_⟩
  obtain ⟨a, b, rfl, f, n, c, l, rfl, rfl, hn, hn2, hc, rfl⟩ := hF.ex
  walk_at "env"
  have el : (((tab f n).map Dt.int).length : Int) = ((n : Nat) : Int) := by rw [List.length_map, tab_len]
  refine l_ret (ev_is (ev_op (ev_op (ev_var rfl) ev_int (rd_ixT (atI_nat (j := 2) rfl))) (ev_op (ev_var rfl) (ev_cb (ea_cons (ev_op (ev_var rfl) ev_int (rd_ixT (atI_nat (j := 1) rfl))) ea_nil) rc_lenL) (rd_fdivG ⟨by rw [el]; omega, by rw [el]; omega⟩)) (rd_mulI (.inl ⟨by omega, by omega⟩))) ?_) rfl
  rw [el]
end Lk
set_option Elab.async false
set_option linter.all false
set_option maxRecDepth 100000
set_option maxHeartbeats 4000000
namespace Lk
open PySem L2
local macro_rules | `(tactic| walk_at "ev1") => `(tactic| first
  | ((with_reducible apply ev_var); exact rfl)
  | with_reducible exact ev_int | with_reducible exact ev_str | with_reducible exact ev_bl | with_reducible exact ev_non | with_reducible exact ea_nil | with_reducible apply ea_cons
  | with_reducible exact rd_addI | with_reducible exact rd_subG | with_reducible exact rd_ltG | with_reducible exact rd_leG | with_reducible exact rd_gtG | with_reducible exact rd_geG | with_reducible exact rd_eqI | with_reducible exact rd_neI | with_reducible exact rd_eqS
  | with_reducible exact rc_lenL | with_reducible exact rc_lenT | with_reducible exact rc_max2 | with_reducible exact rc_min2 | with_reducible exact rc_abs | with_reducible exact rc_intI | with_reducible exact rc_intB | with_reducible exact rc_listL | with_reducible exact rc_tupleL | with_reducible exact rc_all | with_reducible exact rc_sum
  | with_reducible exact gv_name | with_reducible exact gv_nil | with_reducible apply gv_cons | ((with_reducible apply gv_tup) <;> try exact rfl)
  | with_reducible apply rd_mulI | with_reducible apply rd_fdivG | with_reducible apply rd_modG | with_reducible apply rc_divmod | with_reducible apply rd_ixL | with_reducible apply rd_ixT | with_reducible apply rd_addL
  | with_reducible apply ev_tup | with_reducible apply ev_lst | with_reducible apply ev_op | with_reducible apply ev_cb | with_reducible exact eo_none | with_reducible apply eo_some | with_reducible apply ev_neg
  | with_reducible apply et_test | with_reducible apply et_B | with_reducible apply et_not | exact Nat.le_of_ble_eq_true rfl)
local macro_rules | `(tactic| walk_at "ev") => `(tactic| repeat' (walk_at "ev1"))
local macro_rules | `(tactic| walk_at "env") => `(tactic| simp only [rep, ladD, setS, setC, env0, List.map_cons, List.map_nil, List.length_cons, List.length_nil, Nat.reduceAdd, Nat.reduceSub, List.replicate_succ, List.replicate_zero, List.cons_append, List.nil_append])
-- IMPORTS LkA7 LkA2
def t_least_set (K : Fr) : TS :=
  (tSeq (tDrop (tCall (sp_need_set K) [] E0 (tCons (tVar 0) tNil)))
      (tRet (tCall (sp_set_from K) [] E0 (tCons (tCall (sp_set_row K) [] E0 (tCons (tVar 0) tNil)) tNil))))
def t_counts (K : Fr) : TS :=
  (tSeq (tDrop (tCall (sp_need_set K) [] E0 (tCons (tVar 0) tNil)))
      (tRet (tCall (sp_counts_of K) [] E0 (tCons (tVar 0) tNil))))
def t_nth_days (K : Fr) : TS :=
  (tSeq (tDrop (tCall (sp_need_set K) [] E0 (tCons (tVar 0) tNil)))
      (tSeq (tIfS (tTest (tOp (rEqG K) (tOp (rIxG K) (tVar 0) (tC (.int 3))) (tLst tNil))) tNever tNext)
      (tRet (tCall (sp_nth_of K) [] E0 (tCons (tVar 0) tNil)))))
def t_value (K : Fr) : TS :=
  (tSeq (tDrop (tCall (sp_need_ladder K) [] E0 (tCons (tVar 0) tNil)))
      (tSeq (tDrop (tCall (sp_need_number K) [] E0 (tCons (tVar 1) (tCons (tC (.int 0)) tNil))))
      (tRet (tCall (sp_number_at K) [] E0 (tCons (tVar 0) (tCons (tVar 1) tNil))))))
def t_least_ladder (K : Fr) : TS :=
  (tSeq (tDrop (tCall (sp_need_ladder K) [] E0 (tCons (tVar 0) tNil)))
      (tRet (tCall (sp_least_way K) [] E0 (tCons (tVar 0) tNil))))
def t_need_two_ladders (K : Fr) : TS :=
  (tSeq (tDrop (tCall (sp_need_ladder K) [] E0 (tCons (tVar 0) tNil)))
      (tDrop (tCall (sp_need_ladder K) [] E0 (tCons (tVar 1) tNil))))
def t_joined (K : Fr) : TS :=
  (tSeq (tDrop (tCall (sp_need_two_ladders K) [] E0 (tCons (tVar 0) (tCons (tVar 1) tNil))))
      (tRet (tCall (sp_joined_ladders K) [] E0 (tCons (tVar 0) (tCons (tVar 1) tNil)))))
theorem ok_least_set {P : Program} {w : World} {K : Fr} {mg : Str → Option Value} {base : Heap} (T : Txt K mg) : Has P w K mg base 6 (He.ga K "least_set") ["told"] (sp_least_set K) := by
  obtain ⟨fd, F⟩ := T.says.def_ 27 (d := d_least_set) rfl
  have F : FunD K "least_set" "least_set" (defArgs s_least_set) (defBody s_least_set) (defScope s_least_set) [] [] (He.ga K "least_set") fd := F
  obtain ⟨kp_set_row, fd_set_row, G_set_row, b_set_row⟩ := ok_set_row (P := P) (w := w) (base := base) T
  obtain ⟨kp_set_from, fd_set_from, G_set_from, b_set_from⟩ := ok_set_from (P := P) (w := w) (base := base) T
  obtain ⟨kp_need_set, fd_need_set, G_need_set, b_need_set⟩ := ok_need_set (P := P) (w := w) (base := base) T
  refine ⟨F.kp, fd, ?_, F.bindsN fun _ _ _ _ _ _ us hl => match us, hl with | [_], _ => rfl⟩
  refine ok_of F c_least_set (by (intro ds d h; exact h.len)) fun cdv A outer s H E hr => ⟨t_least_set K, PSs.nox
      (pss_cons (ps_expr (pe_call G_need_set (hr.mono (by decide)) (by rfl) (m_need_set T) kp_need_set b_need_set .nil pass0 (pa_cons (pv 0) pa_nil)))
      (pss_one (ps_ret (pe_call G_set_from (hr.mono (by decide)) (by rfl) (m_set_from T) kp_set_from b_set_from .nil pass0 (pa_cons (pe_call G_set_row (hr.mono (by decide)) (by rfl) (m_set_row T) kp_set_row b_set_row .nil pass0 (pa_cons (pv 0) pa_nil)) pa_nil))))), fun ds d hF => ?_⟩
  obtain ⟨a, rfl, S, n, rfl, hp, hn, hn2, rfl⟩ := hF.ex
  walk_at "env"
  refine q_drop (ev_call (d := .non) (ea_cons (ev_var rfl) ea_nil) ⟨S, n, rfl, hn, hn2, rfl⟩) ?_
  exact l_ret (ev_call (d := setC S) (ea_cons (ev_call (d := .tup [.lst [], .lst ((tab (ind S) n).map Dt.int)]) (ea_cons (ev_var rfl) ea_nil) ⟨S, n, rfl, hn, hn2, rfl⟩) ea_nil) ⟨S, n, rfl, hp, hn, hn2, rfl⟩) rfl
theorem ok_counts {P : Program} {w : World} {K : Fr} {mg : Str → Option Value} {base : Heap} (T : Txt K mg) : Has P w K mg base 5 (He.ga K "counts") ["told"] (sp_counts K) := by
  obtain ⟨fd, F⟩ := T.says.def_ 28 (d := d_counts) rfl
  have F : FunD K "counts" "counts" (defArgs s_counts) (defBody s_counts) (defScope s_counts) [] [] (He.ga K "counts") fd := F
  obtain ⟨kp_counts_of, fd_counts_of, G_counts_of, b_counts_of⟩ := ok_counts_of (P := P) (w := w) (base := base) T
  obtain ⟨kp_need_set, fd_need_set, G_need_set, b_need_set⟩ := ok_need_set (P := P) (w := w) (base := base) T
  refine ⟨F.kp, fd, ?_, F.bindsN fun _ _ _ _ _ _ us hl => match us, hl with | [_], _ => rfl⟩
  refine ok_of F c_counts (by (intro ds d h; exact h.len)) fun cdv A outer s H E hr => ⟨t_counts K, PSs.nox
      (pss_cons (ps_expr (pe_call G_need_set (hr.mono (by decide)) (by rfl) (m_need_set T) kp_need_set b_need_set .nil pass0 (pa_cons (pv 0) pa_nil)))
      (pss_one (ps_ret (pe_call G_counts_of (hr.mono (by decide)) (by rfl) (m_counts_of T) kp_counts_of b_counts_of .nil pass0 (pa_cons (pv 0) pa_nil))))), fun ds d hF => ?_⟩
  obtain ⟨a, rfl, S, n, rfl, hp, hn, hn2, rfl⟩ := hF.ex
  walk_at "env"
  refine q_drop (ev_call (d := .non) (ea_cons (ev_var rfl) ea_nil) ⟨S, n, rfl, hn, hn2, rfl⟩) ?_
  exact l_ret (ev_call (d := canon (cnt S)) (ea_cons (ev_var rfl) ea_nil) ⟨S, n, rfl, hp, hn, hn2, rfl⟩) rfl
theorem ok_nth_days {P : Program} {w : World} {K : Fr} {mg : Str → Option Value} {base : Heap} (T : Txt K mg) : Has P w K mg base 5 (He.ga K "nth_days") ["told"] (sp_nth_days K) := by
  obtain ⟨fd, F⟩ := T.says.def_ 29 (d := d_nth_days) rfl
  have F : FunD K "nth_days" "nth_days" (defArgs s_nth_days) (defBody s_nth_days) (defScope s_nth_days) [] [] (He.ga K "nth_days") fd := F
  obtain ⟨kp_nth_of, fd_nth_of, G_nth_of, b_nth_of⟩ := ok_nth_of (P := P) (w := w) (base := base) T
  obtain ⟨kp_need_set, fd_need_set, G_need_set, b_need_set⟩ := ok_need_set (P := P) (w := w) (base := base) T
  refine ⟨F.kp, fd, ?_, F.bindsN fun _ _ _ _ _ _ us hl => match us, hl with | [_], _ => rfl⟩
  refine ok_of F c_nth_days (by (intro ds d h; exact h.len)) fun cdv A outer s H E hr => ⟨t_nth_days K, PSs.nox
      (pss_cons (ps_expr (pe_call G_need_set (hr.mono (by decide)) (by rfl) (m_need_set T) kp_need_set b_need_set .nil pass0 (pa_cons (pv 0) pa_nil)))
      (pss_cons (ps_if (pt_cmpR (op_eqG hr.units) (pe_ix ix_G (pv 0) pe_int (fun _ _ => rfl)) (pe_lst pa_nil) (nomark _)) (pss_one ps_never) pss_nil)
      (pss_one (ps_ret (pe_call G_nth_of (hr.mono (by decide)) (by rfl) (m_nth_of T) kp_nth_of b_nth_of .nil pass0 (pa_cons (pv 0) pa_nil)))))), fun ds d hF => ?_⟩
  obtain ⟨a, rfl, S, n, rfl, hp, hn, hn2, he, rfl⟩ := hF.ex
  walk_at "env"
  refine q_drop (ev_call (d := .non) (ea_cons (ev_var rfl) ea_nil) ⟨S, n, rfl, hn, hn2, rfl⟩) ?_
  have hne : (days S n).map Dt.int ≠ [] := by
    rw [days_eq]; exact tab_ne (cnt_pos hp hn he)
  refine q_no (et_test (ev_op (ev_op (ev_var rfl) ev_int (rd_ixT (atI_nat (j := 3) rfl))) (ev_lst ea_nil (by simp)) (rd_isEmpty (smp_ints _) (by decide) (by decide) hne))) ?_
  exact l_ret (ev_call (d := canon (nthS S)) (ea_cons (ev_var rfl) ea_nil) ⟨S, n, rfl, hp, hn, hn2, he, rfl⟩) rfl
theorem ok_value {P : Program} {w : World} {K : Fr} {mg : Str → Option Value} {base : Heap} (T : Txt K mg) : Has P w K mg base 4 (He.ga K "value") ["ladder", "day"] (sp_value K) := by
  obtain ⟨fd, F⟩ := T.says.def_ 40 (d := d_value) rfl
  have F : FunD K "value" "value" (defArgs s_value) (defBody s_value) (defScope s_value) [] [] (He.ga K "value") fd := F
  obtain ⟨kp_number_at, fd_number_at, G_number_at, b_number_at⟩ := ok_number_at (P := P) (w := w) (base := base) T
  obtain ⟨kp_need_number, fd_need_number, G_need_number, b_need_number⟩ := ok_need_number (P := P) (w := w) (base := base) T
  obtain ⟨kp_need_ladder, fd_need_ladder, G_need_ladder, b_need_ladder⟩ := ok_need_ladder (P := P) (w := w) (base := base) T
  refine ⟨F.kp, fd, ?_, F.bindsN fun _ _ _ _ _ _ us hl => match us, hl with | [_, _], _ => rfl⟩
  refine ok_of F c_value (by (intro ds d h; exact h.len)) fun cdv A outer s H E hr => ⟨t_value K, PSs.nox
      (pss_cons (ps_expr (pe_call G_need_ladder (hr.mono (by decide)) (by rfl) (m_need_ladder T) kp_need_ladder b_need_ladder .nil pass0 (pa_cons (pv 0) pa_nil)))
      (pss_cons (ps_expr (pe_call G_need_number (hr.mono (by decide)) (by rfl) (m_need_number T) kp_need_number b_need_number .nil pass0 (pa_cons (pv 1) (pa_cons pe_int pa_nil))))
      (pss_one (ps_ret (pe_call G_number_at (hr.mono (by decide)) (by rfl) (m_number_at T) kp_number_at b_number_at .nil pass0 (pa_cons (pv 0) (pa_cons (pv 1) pa_nil))))))), fun ds d hF => ?_⟩
  obtain ⟨a, b, rfl, f, n, c, x, rfl, hl, hn2, hc2, rfl, rfl⟩ := hF.ex
  walk_at "env"
  refine q_drop (ev_call (d := .non) (ea_cons (ev_var rfl) ea_nil) ⟨f, n, c, rfl, hl, hn2, rfl⟩) ?_
  refine q_drop (ev_call (d := .non) (ea_cons (ev_var rfl) (ea_cons ev_int ea_nil)) ⟨x, 0, rfl, rfl, by omega, rfl⟩) ?_
  exact l_ret (ev_call (d := .int (f x)) (ea_cons (ev_var rfl) (ea_cons (ev_var rfl) ea_nil)) ⟨f, n, c, x, rfl, hl.per, hl.pos, hn2, hc2, rfl, rfl⟩) rfl
theorem ok_least_ladder {P : Program} {w : World} {K : Fr} {mg : Str → Option Value} {base : Heap} (T : Txt K mg) : Has P w K mg base 4 (He.ga K "least_ladder") ["ladder"] (sp_least_ladder K) := by
  obtain ⟨fd, F⟩ := T.says.def_ 41 (d := d_least_ladder) rfl
  have F : FunD K "least_ladder" "least_ladder" (defArgs s_least_ladder) (defBody s_least_ladder) (defScope s_least_ladder) [] [] (He.ga K "least_ladder") fd := F
  obtain ⟨kp_least_way, fd_least_way, G_least_way, b_least_way⟩ := ok_least_way (P := P) (w := w) (base := base) T
  obtain ⟨kp_need_ladder, fd_need_ladder, G_need_ladder, b_need_ladder⟩ := ok_need_ladder (P := P) (w := w) (base := base) T
  refine ⟨F.kp, fd, ?_, F.bindsN fun _ _ _ _ _ _ us hl => match us, hl with | [_], _ => rfl⟩
  refine ok_of F c_least_ladder (by (intro ds d h; exact h.len)) fun cdv A outer s H E hr => ⟨t_least_ladder K, PSs.nox
      (pss_cons (ps_expr (pe_call G_need_ladder (hr.mono (by decide)) (by rfl) (m_need_ladder T) kp_need_ladder b_need_ladder .nil pass0 (pa_cons (pv 0) pa_nil)))
      (pss_one (ps_ret (pe_call G_least_way (hr.mono (by decide)) (by rfl) (m_least_way T) kp_least_way b_least_way .nil pass0 (pa_cons (pv 0) pa_nil))))), fun ds d hF => ?_⟩
  obtain ⟨a, rfl, f, n, c, rfl, hl, hn2, hc2, rfl⟩ := hF.ex
  walk_at "env"
  refine q_drop (ev_call (d := .non) (ea_cons (ev_var rfl) ea_nil) ⟨f, n, c, rfl, hl, hn2, rfl⟩) ?_
  exact l_ret (ev_call (d := canon f) (ea_cons (ev_var rfl) ea_nil) ⟨f, n, c, rfl, hl.per, hl.pos, hn2, hc2, rfl⟩) rfl
theorem ok_need_two_ladders {P : Program} {w : World} {K : Fr} {mg : Str → Option Value} {base : Heap} (T : Txt K mg) : Has P w K mg base 4 (He.ga K "need_two_ladders") ["one", "other"] (sp_need_two_ladders K) := by
  obtain ⟨fd, F⟩ := T.says.def_ 85 (d := d_need_two_ladders) rfl
  have F : FunD K "need_two" "need_two" (defArgs s_need_two_ladders) (defBody s_need_two_ladders) (defScope s_need_two_ladders) [] [] (He.ga K "need_two_ladders") fd := F
  obtain ⟨kp_need_ladder, fd_need_ladder, G_need_ladder, b_need_ladder⟩ := ok_need_ladder (P := P) (w := w) (base := base) T
  refine ⟨F.kp, fd, ?_, F.bindsN fun _ _ _ _ _ _ us hl => match us, hl with | [_, _], _ => rfl⟩
  refine ok_of F c_need_two_ladders (by (intro ds d h; exact h.len)) fun cdv A outer s H E hr => ⟨t_need_two_ladders K, PSs.nox
      (pss_cons (ps_expr (pe_call G_need_ladder (hr.mono (by decide)) (by rfl) (m_need_ladder T) kp_need_ladder b_need_ladder .nil pass0 (pa_cons (pv 0) pa_nil)))
      (pss_one (ps_expr (pe_call G_need_ladder (hr.mono (by decide)) (by rfl) (m_need_ladder T) kp_need_ladder b_need_ladder .nil pass0 (pa_cons (pv 1) pa_nil))))), fun ds d hF => ?_⟩
  obtain ⟨a, b, rfl, f, g, n, c, m, r, rfl, rfl, hf, hg, hn2, hm2, rfl⟩ := hF.ex
  walk_at "env"
  refine q_drop (ev_call (d := .non) (ea_cons (ev_var rfl) ea_nil) ⟨f, n, c, rfl, hf, hn2, rfl⟩) ?_
  refine l_q (q_drop (ev_call (d := .non) (ea_cons (ev_var rfl) ea_nil) ⟨g, m, r, rfl, hg, hm2, rfl⟩) ?_)
  exact l_end (by trivial)
theorem ok_joined {P : Program} {w : World} {K : Fr} {mg : Str → Option Value} {base : Heap} (T : Txt K mg) : Has P w K mg base 5 (He.ga K "joined") ["one", "other"] (sp_joined K) := by
  obtain ⟨fd, F⟩ := T.says.def_ 42 (d := d_joined) rfl
  have F : FunD K "joined" "joined" (defArgs s_joined) (defBody s_joined) (defScope s_joined) [] [] (He.ga K "joined") fd := F
  obtain ⟨kp_joined_ladders, fd_joined_ladders, G_joined_ladders, b_joined_ladders⟩ := ok_joined_ladders (P := P) (w := w) (base := base) T
  obtain ⟨kp_need_two_ladders, fd_need_two_ladders, G_need_two_ladders, b_need_two_ladders⟩ := ok_need_two_ladders (P := P) (w := w) (base := base) T
  refine ⟨F.kp, fd, ?_, F.bindsN fun _ _ _ _ _ _ us hl => match us, hl with | [_, _], _ => rfl⟩
  refine ok_of F c_joined (by (intro ds d h; exact h.len)) fun cdv A outer s H E hr => ⟨t_joined K, PSs.nox
      (pss_cons (ps_expr (pe_call G_need_two_ladders (hr.mono (by decide)) (by rfl) (m_need_two_ladders T) kp_need_two_ladders b_need_two_ladders .nil pass0 (pa_cons (pv 0) (pa_cons (pv 1) pa_nil))))
      (pss_one (ps_ret (pe_call G_joined_ladders (hr.mono (by decide)) (by rfl) (m_joined_ladders T) kp_joined_ladders b_joined_ladders .nil pass0 (pa_cons (pv 0) (pa_cons (pv 1) pa_nil)))))), fun ds d hF => ?_⟩
  obtain ⟨a, b, rfl, f, g, n, c, m, r, rfl, rfl, hf, hg, hn2, hc, hc2, hm2, hr2, rfl⟩ := hF.ex
  walk_at "env"
  refine q_drop (ev_call (d := .non) (ea_cons (ev_var rfl) (ea_cons (ev_var rfl) ea_nil)) ⟨f, g, n, c, m, r, rfl, rfl, hf, hg, by omega, by omega, rfl⟩) ?_
  exact l_ret (ev_call (d := canon fun x => g (f x)) (ea_cons (ev_var rfl) (ea_cons (ev_var rfl) ea_nil)) ⟨f, g, n, c, m, r, rfl, rfl, hf.per, hg.per, hf.pos, hn2, hc, hc2, hg.pos, hm2, hr2, rfl⟩) rfl
end Lk
set_option Elab.async false
set_option linter.all false
set_option maxRecDepth 100000
set_option maxHeartbeats 4000000
/-! Invented calendars, plainly: sums, places, clipped dates. No program here. -/
namespace Lk
/-! ### sums and places -/
def sm (g : Nat → Nat) : Nat → Nat
  | 0 => 0
  | k + 1 => sm g k + g k
/-- the place that x lies in -/
def loc (g : Nat → Nat) : Nat → Nat
  | 0 => 0
  | x + 1 => if sm g (loc g x + 1) ≤ x + 1 then loc g x + 1 else loc g x
section
variable {g : Nat → Nat} (hg : ∀ k, 0 < g k)
include hg
theorem sm_lt {i j : Nat} (h : i < j) : sm g i < sm g j := by
  induction j with
  | zero => omega
  | succ j ih =>
    have e : sm g (j + 1) = sm g j + g j := rfl
    have := hg j
    by_cases q : i = j
    · subst q; omega
    · have := ih (by omega); omega
theorem sm_le {i j : Nat} (h : i ≤ j) : sm g i ≤ sm g j := by
  rcases Nat.lt_or_eq_of_le h with h | h
  · exact Nat.le_of_lt (sm_lt hg h)
  · rw [h]; exact Nat.le_refl _
theorem loc_spec (x : Nat) : sm g (loc g x) ≤ x ∧ x < sm g (loc g x + 1) := by
  induction x with
  | zero =>
    refine ⟨Nat.le_refl _, ?_⟩
    have e : sm g (loc g 0 + 1) = 0 + g 0 := rfl
    have := hg 0
    omega
  | succ x ih =>
    have e : loc g (x + 1) = if sm g (loc g x + 1) ≤ x + 1 then loc g x + 1 else loc g x := rfl
    rw [e]
    by_cases q : sm g (loc g x + 1) ≤ x + 1
    · rw [if_pos q]
      have := sm_lt hg (show loc g x + 1 < loc g x + 1 + 1 by omega)
      exact ⟨q, by omega⟩
    · rw [if_neg q]
      exact ⟨by omega, by omega⟩
theorem loc_uniq {x k : Nat} (h1 : sm g k ≤ x) (h2 : x < sm g (k + 1)) : loc g x = k := by
  obtain ⟨a, b⟩ := loc_spec hg x
  rcases Nat.lt_trichotomy (loc g x) k with z | z | z
  · have := sm_le hg (show loc g x + 1 ≤ k by omega); omega
  · exact z
  · have := sm_le hg (show k + 1 ≤ loc g x by omega); omega
theorem loc_at {k m : Nat} (h : m < g k) : loc g (sm g k + m) = k := loc_uniq hg (by omega) (by show _ < sm g k + g k; omega)
theorem loc_sm (k : Nat) : loc g (sm g k) = k := loc_at hg (m := 0) (hg k)
theorem loc_mono (x : Nat) : loc g x ≤ loc g (x + 1) := by
  have e : loc g (x + 1) = if sm g (loc g x + 1) ≤ x + 1 then loc g x + 1 else loc g x := rfl
  rw [e]
  split <;> omega
theorem loc_lt {x k : Nat} (h : x < sm g k) : loc g x < k := by
  have := (loc_spec hg x).1
  rcases Nat.lt_or_ge (loc g x) k with z | z
  · exact z
  · have := sm_le hg z; omega
theorem sm_ge (k : Nat) : k ≤ sm g k := by
  induction k with
  | zero => exact Nat.le_refl _
  | succ k ih =>
    have e : sm g (k + 1) = sm g k + g k := rfl
    have := hg k
    omega
end
section
variable {g : Nat → Nat} {N : Nat} (hp : Per g N 0)
include hp
theorem sm_per : Per (sm g) N (sm g N) := fun k => by
  induction k with
  | zero => rw [Nat.zero_add]; show _ = 0 + _; rw [Nat.zero_add]
  | succ k ih =>
    rw [show k + 1 + N = k + N + 1 by omega]
    show sm g (k + N) + g (k + N) = sm g k + g k + sm g N
    rw [ih, hp k]; omega
theorem loc_per (hg : ∀ k, 0 < g k) : Per (loc g) (sm g N) N := fun x => by
  obtain ⟨a, b⟩ := loc_spec hg x
  have h1 := sm_per hp (loc g x)
  have h2 := sm_per hp (loc g x + 1)
  refine loc_uniq hg (by omega) ?_
  rw [show loc g x + N + 1 = loc g x + 1 + N by omega]; omega
end
/-- a table of rounds, laid flat -/
theorem flat_sm {α : Type} (g : Nat → Nat) (h : Nat → α) : ∀ n, ((List.range n).flatMap fun q => (List.range (g q)).map fun m => h (sm g q + m)) = (List.range (sm g n)).map h
  | 0 => rfl
  | n + 1 => by
    rw [List.range_succ, List.flatMap_append, flat_sm g h n]
    show _ ++ _ = (List.range (sm g n + g n)).map h
    rw [List.range_add, List.map_append, List.map_map]
    simp [Function.comp_def]
/-! ### starts and ends -/
def stS (g : Nat → Nat) (x : Nat) : Bool := decide (x = sm g (loc g x))
def enS (g : Nat → Nat) (x : Nat) : Bool := stS g (x + 1)
section
variable {g : Nat → Nat} (hg : ∀ k, 0 < g k)
include hg
theorem cnt_st (x : Nat) : cnt (stS g) (x + 1) = loc g x + 1 := by
  induction x with
  | zero => rfl
  | succ x ih =>
    show cnt (stS g) (x + 1) + ind (stS g) (x + 1) = _
    rw [ih]
    have e : loc g (x + 1) = if sm g (loc g x + 1) ≤ x + 1 then loc g x + 1 else loc g x := rfl
    obtain ⟨a, b⟩ := loc_spec hg x
    by_cases q : sm g (loc g x + 1) ≤ x + 1
    · have e2 : loc g (x + 1) = loc g x + 1 := by rw [e, if_pos q]
      have : stS g (x + 1) = true := decide_eq_true (by rw [e2]; omega)
      rw [ind_iff.mpr this, e2]
    · have e2 : loc g (x + 1) = loc g x := by rw [e, if_neg q]
      have : ¬ stS g (x + 1) = true := fun h => by
        have := of_decide_eq_true h
        rw [e2] at this; omega
      have h0 : ind (stS g) (x + 1) = 0 := by unfold ind; rw [if_neg this]
      rw [h0, e2]
theorem cnt_sm (k : Nat) : cnt (stS g) (sm g k) = k := by
  cases k with
  | zero => rfl
  | succ k =>
    have h0 : 0 < sm g (k + 1) := by have := sm_lt hg (show 0 < k + 1 by omega); exact Nat.lt_of_le_of_lt (Nat.zero_le _) this
    obtain ⟨y, hy⟩ : ∃ y, sm g (k + 1) = y + 1 := ⟨sm g (k + 1) - 1, by omega⟩
    rw [hy, cnt_st hg, loc_uniq hg (k := k) (by have := sm_lt hg (show k < k + 1 by omega); omega) (by omega)]
theorem nth_st (k : Nat) : nthS (stS g) k = sm g k := nthS_eq (decide_eq_true (by rw [loc_sm hg])) (cnt_sm hg k)
theorem nx_st (x : Nat) : nthS (stS g) (cnt (stS g) (x + 1)) = sm g (loc g x + 1) := by rw [cnt_st hg, nth_st hg]
theorem cnt_en (x : Nat) : cnt (enS g) x = loc g x := by
  have h : ∀ x, cnt (enS g) x + 1 = cnt (stS g) (x + 1) := by
    intro x
    induction x with
    | zero => rfl
    | succ x ih =>
      show cnt (enS g) x + ind (enS g) x + 1 = cnt (stS g) (x + 1) + ind (stS g) (x + 1)
      have : ind (enS g) x = ind (stS g) (x + 1) := rfl
      omega
  have := h x
  rw [cnt_st hg] at this; omega
theorem nth_en (k : Nat) : nthS (enS g) k = sm g (k + 1) - 1 := by
  have h0 : 0 < sm g (k + 1) := by have := sm_lt hg (show 0 < k + 1 by omega); exact Nat.lt_of_le_of_lt (Nat.zero_le _) this
  refine nthS_eq ?_ ?_
  · show stS g (sm g (k + 1) - 1 + 1) = true
    rw [show sm g (k + 1) - 1 + 1 = sm g (k + 1) by omega]
    exact decide_eq_true (by rw [loc_sm hg])
  · rw [cnt_en hg]
    exact loc_uniq hg (by have := sm_lt hg (show k < k + 1 by omega); omega) (by omega)
theorem nx_en (x : Nat) : nthS (enS g) (cnt (enS g) x) = sm g (loc g x + 1) - 1 := by rw [cnt_en hg, nth_en hg]
end
section
variable {g : Nat → Nat} {N : Nat} (hp : Per g N 0) (hg : ∀ k, 0 < g k)
include hp hg
theorem stS_per : Per (ind (stS g)) (sm g N) 0 := fun x => by
  have h1 := loc_per hp hg x
  have h2 := sm_per hp (loc g x)
  have : stS g (x + sm g N) = stS g x := by
    unfold stS
    rw [h1, h2]
    by_cases q : x = sm g (loc g x)
    · rw [decide_eq_true q, decide_eq_true (by omega)]
    · rw [decide_eq_false q, decide_eq_false (by omega)]
  unfold ind
  rw [this]; rfl
theorem enS_per : Per (ind (enS g)) (sm g N) 0 := fun x => by
  have := stS_per hp hg (x + 1)
  rw [show x + 1 + sm g N = x + sm g N + 1 by omega] at this
  exact this
theorem days_st : days (stS g) (sm g N) = tab (sm g) N := by
  rw [days_eq, cnt_sm hg]
  unfold tab
  apply List.map_congr_left
  intro k _
  rw [nth_st hg]
theorem days_en : days (enS g) (sm g N) = tab (fun k => sm g (k + 1) - 1) N := by
  rw [days_eq, cnt_en hg, loc_sm hg]
  unfold tab
  apply List.map_congr_left
  intro k _
  rw [nth_en hg]
end
/-! ### a calendar -/
abbrev Yrs := List (List Nat)
structure YOk (ys : Yrs) : Prop where
  ne : ys ≠ []
  few : ys.length ≤ 3
  ms : ∀ ms ∈ ys, ms ≠ [] ∧ ms.length ≤ 3 ∧ ∀ l ∈ ms, 1 ≤ l ∧ l ≤ 5
/-- the months of year q -/
def yr (ys : Yrs) (q : Nat) : List Nat := ys.getD (q % ys.length) []
def yc (ys : Yrs) (q : Nat) : Nat := (yr ys q).length
abbrev yst (ys : Yrs) : Nat → Nat := sm (yc ys)
def NN (ys : Yrs) : Nat := yst ys ys.length
/-- the year, the month in the year, of month k -/
abbrev yof (ys : Yrs) (k : Nat) : Nat := loc (yc ys) k
abbrev mof (ys : Yrs) (k : Nat) : Nat := k - yst ys (yof ys k)
def ml (ys : Yrs) (k : Nat) : Nat := (yr ys (yof ys k)).getD (mof ys k) 1
abbrev ms (ys : Yrs) : Nat → Nat := sm (ml ys)
def TT (ys : Yrs) : Nat := ms ys (NN ys)
/-- the month that day x lies in, the place within it -/
abbrev mon (ys : Yrs) (x : Nat) : Nat := loc (ml ys) x
abbrev pl (ys : Yrs) (x : Nat) : Nat := x - ms ys (mon ys x)
section
variable {ys : Yrs} (h : YOk ys)
include h
theorem len_pos : 0 < ys.length := by
  rcases ys with _ | ⟨a, l⟩
  · exact absurd rfl h.ne
  · simp
theorem yr_mem (q : Nat) : yr ys q ∈ ys := by
  unfold yr
  have hl := Nat.mod_lt q (len_pos h)
  rw [List.getD_eq_getElem?_getD, List.getElem?_eq_getElem hl]
  exact List.getElem_mem hl
theorem yc_pos (q : Nat) : 0 < yc ys q := by
  have := (h.ms _ (yr_mem h q)).1
  unfold yc
  rcases e : yr ys q with _ | ⟨a, l⟩
  · exact absurd e this
  · simp
theorem yc_le (q : Nat) : yc ys q ≤ 3 := (h.ms _ (yr_mem h q)).2.1
theorem yr_per (q : Nat) : yr ys (q + ys.length) = yr ys q := by
  unfold yr
  rw [Nat.add_mod_right]
theorem yc_per : Per (yc ys) ys.length 0 := fun q => by
  unfold yc
  rw [yr_per h]; rfl
theorem yof_per : Per (loc (yc ys)) (NN ys) ys.length := loc_per (yc_per h) (yc_pos h)
theorem mof_lt (k : Nat) : mof ys k < yc ys (yof ys k) := by
  obtain ⟨a, b⟩ := loc_spec (yc_pos h) k
  have e : sm (yc ys) (loc (yc ys) k + 1) = sm (yc ys) (loc (yc ys) k) + yc ys (loc (yc ys) k) := rfl
  show k - sm (yc ys) (loc (yc ys) k) < yc ys (loc (yc ys) k)
  omega
theorem ml_mem (k : Nat) : ml ys k ∈ yr ys (yof ys k) := by
  unfold ml
  have hl : mof ys k < (yr ys (yof ys k)).length := mof_lt h k
  rw [List.getD_eq_getElem?_getD, List.getElem?_eq_getElem hl]
  exact List.getElem_mem hl
theorem ml_bd (k : Nat) : 1 ≤ ml ys k ∧ ml ys k ≤ 5 := (h.ms _ (yr_mem h _)).2.2 _ (ml_mem h k)
theorem ml_pos (k : Nat) : 0 < ml ys k := (ml_bd h k).1
theorem mof_per (k : Nat) : mof ys (k + NN ys) = mof ys k := by
  show k + NN ys - sm (yc ys) (loc (yc ys) (k + NN ys)) = _
  rw [yof_per h k, sm_per (yc_per h)]
  show k + NN ys - (sm (yc ys) (loc (yc ys) k) + NN ys) = k - sm (yc ys) (loc (yc ys) k)
  omega
theorem ml_per : Per (ml ys) (NN ys) 0 := fun k => by
  unfold ml
  rw [mof_per h]
  show (yr ys (loc (yc ys) (k + NN ys))).getD _ 1 = _
  rw [yof_per h k, yr_per h]; rfl
theorem ml_at {q m : Nat} (hm : m < yc ys q) : ml ys (yst ys q + m) = (yr ys q).getD m 1 ∧ yof ys (yst ys q + m) = q ∧ mof ys (yst ys q + m) = m := by
  have e : yof ys (yst ys q + m) = q := loc_at (yc_pos h) hm
  have e2 : mof ys (yst ys q + m) = m := by
    show yst ys q + m - yst ys (yof ys (yst ys q + m)) = m
    rw [e]; omega
  exact ⟨by unfold ml; rw [e, e2], e, e2⟩
theorem NN_pos : 0 < NN ys := Nat.lt_of_lt_of_le (len_pos h) (sm_ge (yc_pos h) _)
theorem NN_le : NN ys ≤ 9 := by
  have : ∀ q, yst ys q ≤ 3 * q := by
    intro q
    induction q with
    | zero => exact Nat.le_refl _
    | succ q ih =>
      have := yc_le h q
      show sm (yc ys) q + yc ys q ≤ _
      have : sm (yc ys) q ≤ 3 * q := ih
      omega
  have h1 := this ys.length
  have h2 := h.few
  unfold NN; omega
theorem TT_pos : 0 < TT ys := Nat.lt_of_lt_of_le (NN_pos h) (sm_ge (ml_pos h) _)
theorem TT_le : TT ys ≤ 45 := by
  have : ∀ q, ms ys q ≤ 5 * q := by
    intro q
    induction q with
    | zero => exact Nat.le_refl _
    | succ q ih =>
      have := (ml_bd h q).2
      show sm (ml ys) q + ml ys q ≤ _
      have : sm (ml ys) q ≤ 5 * q := ih
      omega
  have h1 := this (NN ys)
  have h2 := NN_le h
  unfold TT; omega
theorem mon_per : Per (loc (ml ys)) (TT ys) (NN ys) := loc_per (ml_per h) (ml_pos h)
theorem ms_per : Per (sm (ml ys)) (NN ys) (TT ys) := sm_per (ml_per h)
theorem pl_lt (x : Nat) : pl ys x < ml ys (mon ys x) := by
  obtain ⟨a, b⟩ := loc_spec (ml_pos h) x
  have e : sm (ml ys) (loc (ml ys) x + 1) = sm (ml ys) (loc (ml ys) x) + ml ys (loc (ml ys) x) := rfl
  show x - sm (ml ys) (loc (ml ys) x) < ml ys (loc (ml ys) x)
  omega
theorem ms_pl (x : Nat) : ms ys (mon ys x) + pl ys x = x := by
  have := (loc_spec (ml_pos h) x).1
  show sm (ml ys) (loc (ml ys) x) + (x - sm (ml ys) (loc (ml ys) x)) = x
  omega
theorem mon_at {k p : Nat} (hp : p < ml ys k) : mon ys (ms ys k + p) = k ∧ pl ys (ms ys k + p) = p := by
  have e : mon ys (ms ys k + p) = k := loc_at (ml_pos h) hp
  refine ⟨e, ?_⟩
  show ms ys k + p - ms ys (mon ys (ms ys k + p)) = p
  rw [e]; omega
theorem pl_per (x : Nat) : pl ys (x + TT ys) = pl ys x := by
  show x + TT ys - sm (ml ys) (loc (ml ys) (x + TT ys)) = _
  rw [mon_per h x, ms_per h]
  show x + TT ys - (sm (ml ys) (loc (ml ys) x) + TT ys) = x - sm (ml ys) (loc (ml ys) x)
  omega
end
/-! ### months on, years on -/
def mo (ys : Yrs) (a x : Nat) : Nat := ms ys (mon ys x + a) + min (pl ys x) (ml ys (mon ys x + a) - 1)
/-- the date n years later, clipped: month number, place -/
def cm (ys : Yrs) (q m : Nat) : Nat := min m (yc ys q - 1)
def cp (ys : Yrs) (q m p : Nat) : Nat := if yc ys q ≤ m then ml ys (yst ys q + cm ys q m) - 1 else min p (ml ys (yst ys q + cm ys q m) - 1)
def at3 (ys : Yrs) (q m p : Nat) : Nat := ms ys (yst ys q + m) + p
def yo (ys : Yrs) (a x : Nat) : Nat := at3 ys (yof ys (mon ys x) + a) (cm ys (yof ys (mon ys x) + a) (mof ys (mon ys x))) (cp ys (yof ys (mon ys x) + a) (mof ys (mon ys x)) (pl ys x))
section
variable {ys : Yrs} (h : YOk ys)
include h
theorem mo_mon (a x : Nat) : mon ys (mo ys a x) = mon ys x + a ∧ pl ys (mo ys a x) = min (pl ys x) (ml ys (mon ys x + a) - 1) := by
  have := ml_pos h (mon ys x + a)
  exact mon_at h (by omega)
theorem mo_per (a : Nat) : Per (mo ys a) (TT ys) (TT ys) := fun x => by
  unfold mo
  rw [pl_per h]
  have e : mon ys (x + TT ys) + a = mon ys x + a + NN ys := by
    have : loc (ml ys) (x + TT ys) = _ := mon_per h x
    show loc (ml ys) (x + TT ys) + a = loc (ml ys) x + a + NN ys
    omega
  have e1 : ml ys (mon ys x + a + NN ys) = ml ys (mon ys x + a) := ml_per h _
  have e2 : ms ys (mon ys x + a + NN ys) = ms ys (mon ys x + a) + TT ys := ms_per h _
  rw [e, e1, e2]; omega
/-- the next day: in the same month, or the first of the next -/
theorem next_day (x : Nat) : (mon ys (x + 1) = mon ys x ∧ pl ys (x + 1) = pl ys x + 1) ∨ (mon ys (x + 1) = mon ys x + 1 ∧ pl ys (x + 1) = 0 ∧ pl ys x + 1 = ml ys (mon ys x)) := by
  have h1 := pl_lt h x
  have h2 := ms_pl h x
  rcases Nat.lt_or_ge (pl ys x + 1) (ml ys (mon ys x)) with q | q
  · left
    have := mon_at h q
    rw [← Nat.add_assoc, h2] at this
    exact this
  · right
    have e : ms ys (mon ys x + 1) = ms ys (mon ys x) + ml ys (mon ys x) := rfl
    have := mon_at h (k := mon ys x + 1) (p := 0) (ml_pos h _)
    rw [show ms ys (mon ys x + 1) + 0 = x + 1 by omega] at this
    exact ⟨this.1, this.2, by omega⟩
theorem mo_mono (a x : Nat) : mo ys a x ≤ mo ys a (x + 1) := by
  unfold mo
  rcases next_day h x with ⟨e1, e2⟩ | ⟨e1, e2, e3⟩
  · rw [e1, e2]; omega
  · rw [e1, e2, show mon ys x + 1 + a = mon ys x + a + 1 by omega]
    have e : ms ys (mon ys x + a + 1) = ms ys (mon ys x + a) + ml ys (mon ys x + a) := rfl
    have := ml_pos h (mon ys x + a)
    omega
theorem mo_mo (a b x : Nat) : mo ys b (mo ys a x) ≤ mo ys (a + b) x := by
  obtain ⟨e1, e2⟩ := mo_mon h a x
  show ms ys (mon ys (mo ys a x) + b) + min (pl ys (mo ys a x)) _ ≤ ms ys (mon ys x + (a + b)) + min (pl ys x) _
  rw [e1, e2, Nat.add_assoc]
  have := ml_pos h (mon ys x + (a + b))
  omega
theorem at3_of (x : Nat) : at3 ys (yof ys (mon ys x)) (mof ys (mon ys x)) (pl ys x) = x := by
  have := (loc_spec (yc_pos h) (mon ys x)).1
  unfold at3
  rw [show yst ys (yof ys (mon ys x)) + mof ys (mon ys x) = mon ys x from by show sm (yc ys) (loc (yc ys) (mon ys x)) + (mon ys x - sm (yc ys) (loc (yc ys) (mon ys x))) = _; omega]
  exact ms_pl h x
/-- a date that is one -/
theorem date_at {q m p : Nat} (hm : m < yc ys q) (hp : p < ml ys (yst ys q + m)) : yof ys (mon ys (at3 ys q m p)) = q ∧ mof ys (mon ys (at3 ys q m p)) = m ∧ pl ys (at3 ys q m p) = p := by
  obtain ⟨e1, e2⟩ := mon_at h hp
  obtain ⟨_, f2, f3⟩ := ml_at h hm
  unfold at3
  rw [e1, e2]
  exact ⟨f2, f3, rfl⟩
theorem cm_lt (q m : Nat) : cm ys q m < yc ys q := by
  have := yc_pos h q
  unfold cm; omega
theorem cp_lt (q m p : Nat) : cp ys q m p < ml ys (yst ys q + cm ys q m) := by
  have := ml_pos h (yst ys q + cm ys q m)
  unfold cp
  split <;> omega
theorem yo_date (a x : Nat) : yof ys (mon ys (yo ys a x)) = yof ys (mon ys x) + a ∧ mof ys (mon ys (yo ys a x)) = cm ys (yof ys (mon ys x) + a) (mof ys (mon ys x)) ∧ pl ys (yo ys a x) = cp ys (yof ys (mon ys x) + a) (mof ys (mon ys x)) (pl ys x) :=
  date_at h (cm_lt h _ _) (cp_lt h _ _ _)
theorem cm_per (q m : Nat) : cm ys (q + ys.length) m = cm ys q m := by unfold cm yc; rw [yr_per h]
theorem ml_yper (q m : Nat) : ml ys (yst ys (q + ys.length) + m) = ml ys (yst ys q + m) := by
  have e : yst ys (q + ys.length) = yst ys q + NN ys := sm_per (yc_per h) q
  have := ml_per h (yst ys q + m)
  rw [e, show yst ys q + NN ys + m = yst ys q + m + NN ys by omega]
  exact this
theorem cp_per (q m p : Nat) : cp ys (q + ys.length) m p = cp ys q m p := by
  unfold cp
  rw [cm_per h, ml_yper h]
  have : yc ys (q + ys.length) = yc ys q := by unfold yc; rw [yr_per h]
  rw [this]
theorem at3_per (q m p : Nat) : at3 ys (q + ys.length) m p = at3 ys q m p + TT ys := by
  unfold at3
  have e : yst ys (q + ys.length) = yst ys q + NN ys := sm_per (yc_per h) q
  have : ms ys (yst ys q + m + NN ys) = ms ys (yst ys q + m) + TT ys := ms_per h _
  rw [e, show yst ys q + NN ys + m = yst ys q + m + NN ys by omega, this]; omega
theorem yof_T (x : Nat) : yof ys (mon ys (x + TT ys)) = yof ys (mon ys x) + ys.length ∧ mof ys (mon ys (x + TT ys)) = mof ys (mon ys x) := by
  have e : mon ys (x + TT ys) = mon ys x + NN ys := mon_per h x
  rw [e]
  exact ⟨yof_per h _, mof_per h _⟩
theorem yo_per (a : Nat) : Per (yo ys a) (TT ys) (TT ys) := fun x => by
  unfold yo
  obtain ⟨e1, e2⟩ := yof_T h x
  rw [e1, e2, pl_per h, show yof ys (mon ys x) + ys.length + a = yof ys (mon ys x) + a + ys.length by omega, cm_per h, cp_per h, at3_per h]
/-- dates in order give days in order -/
theorem at3_le {q m p q' m' p' : Nat} (hm : m < yc ys q) (hp : p < ml ys (yst ys q + m)) (hle : q < q' ∨ (q = q' ∧ (m < m' ∨ (m = m' ∧ p ≤ p')))) : at3 ys q m p ≤ at3 ys q' m' p' := by
  unfold at3
  have step : ∀ k k', k < k' → ms ys k + ml ys k ≤ ms ys k' := fun k k' hk => sm_le (ml_pos h) (show k + 1 ≤ k' from hk)
  rcases hle with z | ⟨rfl, z | ⟨rfl, z⟩⟩
  · have h1 : yst ys q + yc ys q ≤ yst ys q' := sm_le (yc_pos h) (show q + 1 ≤ q' from z)
    have := step (yst ys q + m) (yst ys q' + m') (by omega)
    omega
  · have := step (yst ys q + m) (yst ys q + m') (by omega)
    omega
  · omega
theorem next_date (x : Nat) : (yof ys (mon ys (x + 1)) = yof ys (mon ys x) ∧ mof ys (mon ys (x + 1)) = mof ys (mon ys x) ∧ pl ys (x + 1) = pl ys x + 1)
    ∨ (yof ys (mon ys (x + 1)) = yof ys (mon ys x) ∧ mof ys (mon ys (x + 1)) = mof ys (mon ys x) + 1) ∨ (yof ys (mon ys (x + 1)) = yof ys (mon ys x) + 1) := by
  rcases next_day h x with ⟨e1, e2⟩ | ⟨e1, e2, e3⟩
  · left
    rw [e1]; exact ⟨rfl, rfl, e2⟩
  · right
    obtain ⟨a, b⟩ := loc_spec (yc_pos h) (mon ys x)
    have e : yst ys (yof ys (mon ys x) + 1) = yst ys (yof ys (mon ys x)) + yc ys (yof ys (mon ys x)) := rfl
    rcases Nat.lt_or_ge (mof ys (mon ys x) + 1) (yc ys (yof ys (mon ys x))) with q | q
    · left
      obtain ⟨_, f2, f3⟩ := ml_at h q
      have hm : yst ys (yof ys (mon ys x)) + (mof ys (mon ys x) + 1) = mon ys (x + 1) := by
        rw [e1]
        show sm (yc ys) (loc (yc ys) (mon ys x)) + (mon ys x - sm (yc ys) (loc (yc ys) (mon ys x)) + 1) = _
        omega
      rw [hm] at f2 f3
      exact ⟨f2, f3⟩
    · right
      have hl := mof_lt h (mon ys x)
      have hm : yst ys (yof ys (mon ys x) + 1) + 0 = mon ys (x + 1) := by
        rw [e1, e]
        have q' : mon ys x - yst ys (yof ys (mon ys x)) + 1 = yc ys (yof ys (mon ys x)) := by
          have : mof ys (mon ys x) + 1 = yc ys (yof ys (mon ys x)) := by omega
          exact this
        have a' : yst ys (yof ys (mon ys x)) ≤ mon ys x := a
        omega
      obtain ⟨_, f2, _⟩ := ml_at h (q := yof ys (mon ys x) + 1) (m := 0) (yc_pos h _)
      rw [hm] at f2
      exact f2
theorem clip_le {q m p m' p' : Nat} (hle : m < m' ∨ (m = m' ∧ p ≤ p')) : at3 ys q (cm ys q m) (cp ys q m p) ≤ at3 ys q (cm ys q m') (cp ys q m' p') := by
  refine at3_le h (cm_lt h _ _) (cp_lt h _ _ _) (.inr ⟨rfl, ?_⟩)
  have hc := yc_pos h q
  rcases hle with z | ⟨rfl, z⟩
  · by_cases w : yc ys q ≤ m'
    · by_cases w2 : cm ys q m = cm ys q m'
      · right
        refine ⟨w2, ?_⟩
        have := cp_lt h q m p
        rw [w2] at this
        have e : cp ys q m' p' = ml ys (yst ys q + cm ys q m') - 1 := by unfold cp; rw [if_pos w]
        omega
      · left
        unfold cm at w2 ⊢; omega
    · left
      unfold cm; omega
  · right
    refine ⟨rfl, ?_⟩
    unfold cp
    split <;> omega
theorem yo_mono (a x : Nat) : yo ys a x ≤ yo ys a (x + 1) := by
  unfold yo
  rcases next_date h x with ⟨e1, e2, e3⟩ | ⟨e1, e2⟩ | e1
  · rw [e1, e2, e3]
    exact clip_le h (.inr ⟨rfl, Nat.le_succ _⟩)
  · rw [e1, e2]
    exact clip_le h (.inl (Nat.lt_succ_self _))
  · rw [e1]
    exact at3_le h (cm_lt h _ _) (cp_lt h _ _ _) (.inl (by omega))
theorem yo_yo (a b x : Nat) : yo ys b (yo ys a x) ≤ yo ys (a + b) x := by
  obtain ⟨e1, e2, e3⟩ := yo_date h a x
  rw [show yo ys b (yo ys a x) = at3 ys (yof ys (mon ys (yo ys a x)) + b) (cm ys (yof ys (mon ys (yo ys a x)) + b) (mof ys (mon ys (yo ys a x)))) (cp ys (yof ys (mon ys (yo ys a x)) + b) (mof ys (mon ys (yo ys a x))) (pl ys (yo ys a x))) from rfl,
    show yo ys (a + b) x = at3 ys (yof ys (mon ys x) + (a + b)) (cm ys (yof ys (mon ys x) + (a + b)) (mof ys (mon ys x))) (cp ys (yof ys (mon ys x) + (a + b)) (mof ys (mon ys x)) (pl ys x)) from rfl, e1, e2, e3, Nat.add_assoc]
  by_cases w : yc ys (yof ys (mon ys x) + a) ≤ mof ys (mon ys x)
  · refine clip_le h (.inl ?_)
    have := cm_lt h (yof ys (mon ys x) + a) (mof ys (mon ys x))
    omega
  · have em : cm ys (yof ys (mon ys x) + a) (mof ys (mon ys x)) = mof ys (mon ys x) := by unfold cm; omega
    rw [em]
    refine clip_le h (.inr ⟨rfl, ?_⟩)
    unfold cp
    rw [if_neg w]; omega
end
/-! ### even calendars -/
section
variable {ys : Yrs} (h : YOk ys)
include h
theorem mo_even {l : Nat} (hl : ∀ k, ml ys k = l) (a x : Nat) : mo ys a x = ms ys (mon ys x + a) + pl ys x := by
  have := pl_lt h x
  unfold mo
  rw [hl] at this ⊢
  omega
theorem mo_swap {l : Nat} (hl : ∀ k, ml ys k = l) (a b x : Nat) : mo ys b (mo ys a x) = mo ys a (mo ys b x) := by
  have e1 := mo_mon h a x
  have e2 := mo_mon h b x
  have := pl_lt h x
  rw [hl] at this
  rw [mo_even h hl b, mo_even h hl a (mo ys b x), e1.1, e1.2, e2.1, e2.2, hl, hl, Nat.add_right_comm]
theorem yst_even {c : Nat} (hc : ∀ q, yc ys q = c) (q a : Nat) : yst ys (q + a) = yst ys q + a * c := by
  induction a with
  | zero => simp
  | succ a ih =>
    show sm (yc ys) (q + a) + yc ys (q + a) = _
    rw [hc, Nat.succ_mul]
    have : sm (yc ys) (q + a) = _ := ih
    omega
theorem yo_mo {c : Nat} (hc : ∀ q, yc ys q = c) (a x : Nat) : yo ys a x = mo ys (a * c) x := by
  have hl := mof_lt h (mon ys x)
  rw [hc] at hl
  have em : cm ys (yof ys (mon ys x) + a) (mof ys (mon ys x)) = mof ys (mon ys x) := by unfold cm; rw [hc]; omega
  have hk : yst ys (yof ys (mon ys x) + a) + mof ys (mon ys x) = mon ys x + a * c := by
    rw [yst_even h hc]
    have := (loc_spec (yc_pos h) (mon ys x)).1
    show sm (yc ys) (loc (yc ys) (mon ys x)) + a * c + (mon ys x - sm (yc ys) (loc (yc ys) (mon ys x))) = _
    omega
  unfold yo mo at3 cp
  rw [em, hk, if_neg (by rw [hc]; omega)]
theorem yo_swap {l c : Nat} (hl : ∀ k, ml ys k = l) (hc : ∀ q, yc ys q = c) (a b x : Nat) : yo ys b (yo ys a x) = yo ys a (yo ys b x) := by
  rw [yo_mo h hc, yo_mo h hc, yo_mo h hc, yo_mo h hc, mo_swap h hl]
end
/-! ### ladders of rate one -/
structure R1 (f : Nat → Nat) (T : Nat) : Prop where
  per : Per f T T
  pos : 0 < T
  le : T ≤ 45
  mono : ∀ x, f x ≤ f (x + 1)
theorem mono_le {f : Nat → Nat} (h : ∀ x, f x ≤ f (x + 1)) {x y : Nat} (hl : x ≤ y) : f x ≤ f y := by
  obtain ⟨d, rfl⟩ := Nat.exists_eq_add_of_le hl
  induction d with
  | zero => exact Nat.le_refl _
  | succ d ih => exact Nat.le_trans (ih (by omega)) (h _)
section
variable {f g : Nat → Nat} {T : Nat}
theorem R1.comp (h : R1 f T) (k : R1 g T) : R1 (fun x => g (f x)) T := ⟨fun x => by
  show g (f (x + T)) = g (f x) + T
  rw [h.per x, k.per], h.pos, h.le, fun x => mono_le k.mono (h.mono x)⟩
theorem R1.rise (h : R1 f T) : f (minPer f) - f 0 = minPer f := by
  rw [← minPer_rise h.per h.pos, Nat.mul_div_cancel_left _ h.pos]
theorem R1.mp (h : R1 f T) : 0 < minPer f ∧ minPer f ≤ 45 := ⟨(minPer_spec ⟨T, h.per⟩ h.pos).1, Nat.le_trans (Nat.le_of_dvd h.pos (minPer_dvd ⟨T, h.per⟩ h.pos T ⟨T, h.per⟩)) h.le⟩
theorem R1.lad (h : R1 f T) : Lad f (minPer f) (minPer f) := ⟨by
  have := minPer_per (f := f) ⟨T, h.per⟩ h.pos
  rw [h.rise] at this; exact this, h.mp.1, h.mono⟩
theorem R1.canon (h : R1 f T) : canon f = rep f (minPer f) ((minPer f : Nat) : Nat) := by unfold Lk.canon; rw [h.rise]
end
theorem R1.add {T : Nat} (hT : 0 < T) (hl : T ≤ 45) (d : Nat) : R1 (fun x => x + d) T := ⟨fun x => by show x + T + d = x + d + T; omega, hT, hl, fun x => by show x + d ≤ x + 1 + d; omega⟩
theorem R1.mo {ys : Yrs} (h : YOk ys) (a : Nat) : R1 (mo ys a) (TT ys) := ⟨mo_per h a, TT_pos h, TT_le h, mo_mono h a⟩
theorem R1.yo {ys : Yrs} (h : YOk ys) (a : Nat) : R1 (yo ys a) (TT ys) := ⟨yo_per h a, TT_pos h, TT_le h, yo_mono h a⟩
/-- any ladder's least form is one -/
theorem canon_lad {f : Nat → Nat} {n c : Nat} (h : Lad f n c) (hn : n ≤ 60) (hc0 : 0 < c) (hc : c ≤ 60) : ∃ m r, canon f = rep f m r ∧ Lad f m r ∧ m ≤ 60 ∧ 0 < r ∧ r ≤ 60 := by
  have hh : HasPer f n := ⟨c, h.per⟩
  obtain ⟨h1, h2, h3⟩ := minPer_spec hh h.pos
  have hd := minPer_dvd hh h.pos n hh
  have hle := Nat.le_of_dvd h.pos hd
  have hp := minPer_per hh h.pos
  refine ⟨minPer f, f (minPer f) - f 0, rfl, ⟨hp, h1, h.mono⟩, by omega, ?_, ?_⟩
  · obtain ⟨k, hk⟩ := hd
    have := hp.mul k
    rw [← hk] at this
    have e := h.per.uniq this
    rcases Nat.eq_zero_or_pos (f (minPer f) - f 0) with z | z
    · rw [z, Nat.zero_mul] at e; omega
    · exact z
  · have e := h.per 0
    rw [Nat.zero_add] at e
    have := mono_le h.mono hle
    omega
end Lk
set_option Elab.async false
set_option linter.all false
set_option maxRecDepth 100000
set_option maxHeartbeats 4000000
/-! Calendars, almanacs, terms over data; the promises of their defs. -/
namespace Lk
open PySem L2
def natL (l : List Nat) : Dt := .lst (l.map fun i => .int (i : Nat))
def yD (ys : Yrs) : Dt := .lst (ys.map natL)
def spotD (ys : Yrs) (k : Nat) : Dt := .tup [.int (yof ys k : Nat), .int (mof ys k : Nat)]
def spotsD (ys : Yrs) : Dt := .lst ((List.range (NN ys)).map (spotD ys))
abbrev calN : List Str := ["own_years", "spots", "lengths", "firsts", "total"]
def calV (ys : Yrs) : List Dt := [yD ys, spotsD ys, .lst ((tab (ml ys) (NN ys)).map Dt.int), .lst ((tab (ms ys) (NN ys)).map Dt.int), .int (TT ys : Nat)]
def calD (K : Fr) (ys : Yrs) : Dt := .obj (He.ga K "Calendar") calN (calV ys)
abbrev almN : List Str := ["own_calendar", "own_feasts"]
def almD (K : Fr) (ys : Yrs) : Dt := .obj (He.ga K "Almanac") almN [calD K ys, .lst []]
/-! ### copies -/
/-- simple data with short lists -/
inductive Sml : Nat → Dt → Prop where
  | int (k : Nat) (i : Int) : Sml k (.int i)
  | lst {k : Nat} {ds : List Dt} (hl : ds.length ≤ 1000) (h : ∀ d ∈ ds, Sml k d) : Sml (k + 1) (.lst ds)
  | tup {k : Nat} {ds : List Dt} (hl : ds.length ≤ 1000) (h : ∀ d ∈ ds, Sml k d) : Sml (k + 1) (.tup ds)
abbrev F_copiedAt (k : Nat) := F1 fun a d => Sml k a ∧ d = a
abbrev F_copied (K : Fr) := F_copiedAt 2
abbrev F_law_copied (K : Fr) := F_copiedAt 2
abbrev sp_law_copied (K : Fr) := spD K (F_law_copied K)
abbrev sp_copied (K : Fr) := spD K (F_copied K)
/-! ### calendars -/
abbrev F_are_years (K : Fr) := F1 fun a d => ∃ ys, YOk ys ∧ a = yD ys ∧ d = .bl true
abbrev F_Calendar_owners (K : Fr) := F1 fun a d => ∃ ys, YOk ys ∧ a = calD K ys ∧ d = .lst ((tab (loc (ml ys)) (TT ys)).map Dt.int)
abbrev F_Calendar_index_of (K : Fr) := F3 fun a b c d => ∃ ys q m, YOk ys ∧ a = calD K ys ∧ b = .int (q : Nat) ∧ c = .int (m : Nat) ∧ q < ys.length ∧ m < yc ys q ∧ d = .int (yst ys q + m : Nat)
abbrev F_Calendar_month_at (K : Fr) := F2 fun a b d => ∃ ys k, YOk ys ∧ a = calD K ys ∧ b = .int (k : Nat) ∧ d = .tup [.int (ms ys k : Nat), .int (ml ys k : Nat)]
abbrev F_Calendar_set_of_cycle (K : Fr) := F2 fun a b d => ∃ ys S, YOk ys ∧ a = calD K ys ∧ b = .lst ((days S (TT ys)).map Dt.int) ∧ Per (ind S) (TT ys) 0 ∧ d = setC S
abbrev F_Calendar_ladder_of_cycle (K : Fr) := F3 fun a b c d => ∃ ys f r, YOk ys ∧ a = calD K ys ∧ b = .lst ((tab f (TT ys)).map Dt.int) ∧ c = .int (r : Nat) ∧ Lad f (TT ys) r ∧ r ≤ 60 ∧ d = canon f
def dateD (ys : Yrs) (x : Nat) : Dt := .tup [.int (yof ys (mon ys x) : Nat), .int (mof ys (mon ys x) : Nat), .int (pl ys x : Nat)]
abbrev F_Calendar_date (K : Fr) := F2 fun a b d => ∃ ys x, YOk ys ∧ a = calD K ys ∧ b = .int (x : Nat) ∧ d = dateD ys x
abbrev F_Calendar_day (K : Fr) := F2 fun a b d => ∃ ys q m p, YOk ys ∧ a = calD K ys ∧ b = .tup [.int (q : Nat), .int (m : Nat), .int (p : Nat)] ∧ m < yc ys q ∧ p < ml ys (yst ys q + m) ∧ d = .int (at3 ys q m p : Nat)
abbrev F_Calendar_month_starts (K : Fr) := F1 fun a d => ∃ ys, YOk ys ∧ a = calD K ys ∧ d = setC (stS (ml ys))
abbrev F_Calendar_last_days (K : Fr) := F1 fun a d => ∃ ys, YOk ys ∧ a = calD K ys ∧ d = setC (enS (ml ys))
abbrev F_Calendar_months_on (K : Fr) := F2 fun a b d => ∃ ys n, YOk ys ∧ a = calD K ys ∧ b = .int (n : Nat) ∧ d = canon (mo ys n)
abbrev F_Calendar_year_on (K : Fr) := F4 fun a b c e d => ∃ ys x n, YOk ys ∧ a = calD K ys ∧ b = .int (x : Nat) ∧ c = .int (loc (ml ys) x : Nat) ∧ e = .int (n : Nat) ∧ x < TT ys ∧ d = .int (yo ys n x : Nat)
abbrev F_Calendar_years_on (K : Fr) := F2 fun a b d => ∃ ys n, YOk ys ∧ a = calD K ys ∧ b = .int (n : Nat) ∧ d = canon (yo ys n)
abbrev F_Calendar_months (K : Fr) := F1 fun a d => ∃ ys, YOk ys ∧ a = calD K ys ∧ d = canon (loc (ml ys))
abbrev sp_are_years (K : Fr) := spD K (F_are_years K)
abbrev sp_Calendar_owners (K : Fr) := spD K (F_Calendar_owners K)
abbrev sp_Calendar_index_of (K : Fr) := spD K (F_Calendar_index_of K)
abbrev sp_Calendar_month_at (K : Fr) := spD K (F_Calendar_month_at K)
abbrev sp_Calendar_set_of_cycle (K : Fr) := spD K (F_Calendar_set_of_cycle K)
abbrev sp_Calendar_ladder_of_cycle (K : Fr) := spD K (F_Calendar_ladder_of_cycle K)
abbrev sp_Calendar_date (K : Fr) := spD K (F_Calendar_date K)
abbrev sp_Calendar_day (K : Fr) := spD K (F_Calendar_day K)
abbrev sp_Calendar_month_starts (K : Fr) := spD K (F_Calendar_month_starts K)
abbrev sp_Calendar_last_days (K : Fr) := spD K (F_Calendar_last_days K)
abbrev sp_Calendar_months_on (K : Fr) := spD K (F_Calendar_months_on K)
abbrev sp_Calendar_year_on (K : Fr) := spD K (F_Calendar_year_on K)
abbrev sp_Calendar_years_on (K : Fr) := spD K (F_Calendar_years_on K)
abbrev sp_Calendar_months (K : Fr) := spD K (F_Calendar_months K)
/-! ### feasts -/
inductive Fst where
  | starts | ends
def Fst.w : Fst → Str
  | .starts => "starts"
  | .ends => "ends"
def Fst.D (f : Fst) : Dt := .tup [.str f.w]
def Fst.S (f : Fst) (ys : Yrs) : Nat → Bool := match f with
  | .starts => stS (ml ys)
  | .ends => enS (ml ys)
abbrev F_check_feast (K : Fr) := F2 fun a b d => ∃ f : Fst, a = f.D ∧ b = .lst [] ∧ d = .non
abbrev F_check_feasts (K : Fr) := F1 fun a d => a = .lst [] ∧ d = .non
abbrev F_names_in (K : Fr) := F1 fun a d => ∃ f : Fst, a = f.D ∧ d = .lst []
abbrev F_Almanac_calendar (K : Fr) := F1 fun a d => ∃ ys, YOk ys ∧ a = almD K ys ∧ d = calD K ys
abbrev F_Almanac_names (K : Fr) := F1 fun a d => ∃ ys, YOk ys ∧ a = almD K ys ∧ d = .lst []
abbrev F_Almanac_sets (K : Fr) := F2 fun a b d => ∃ ys, YOk ys ∧ a = almD K ys ∧ b = .int 0 ∧ d = .dic []
abbrev F_Almanac_plain (K : Fr) := F2 fun a b d => ∃ ys, ∃ f : Fst, YOk ys ∧ a = almD K ys ∧ b = f.D ∧ d = setC (f.S ys)
abbrev F_Almanac_told (K : Fr) := F3 fun a b c d => ∃ ys, ∃ f : Fst, YOk ys ∧ a = almD K ys ∧ b = f.D ∧ c = .dic [] ∧ d = setC (f.S ys)
abbrev F_Almanac_days (K : Fr) := F2 fun a b d => ∃ ys, ∃ f : Fst, YOk ys ∧ a = almD K ys ∧ b = f.D ∧ d = setC (f.S ys)
abbrev F_days_of (K : Fr) := F2 fun a b d => ∃ ys, ∃ f : Fst, YOk ys ∧ a = almD K ys ∧ b = f.D ∧ d = setC (f.S ys)
abbrev sp_check_feast (K : Fr) := spD K (F_check_feast K)
abbrev sp_check_feasts (K : Fr) := spD K (F_check_feasts K)
abbrev sp_names_in (K : Fr) := spD K (F_names_in K)
abbrev sp_Almanac_calendar (K : Fr) := spD K (F_Almanac_calendar K)
abbrev sp_Almanac_names (K : Fr) := spD K (F_Almanac_names K)
abbrev sp_Almanac_sets (K : Fr) := spD K (F_Almanac_sets K)
abbrev sp_Almanac_plain (K : Fr) := spD K (F_Almanac_plain K)
abbrev sp_Almanac_told (K : Fr) := spD K (F_Almanac_told K)
abbrev sp_Almanac_days (K : Fr) := spD K (F_Almanac_days K)
abbrev sp_days_of (K : Fr) := spD K (F_days_of K)
/-! ### terms -/
inductive Stp where
  | months (n : Nat) | years (n : Nat) | days (n : Nat) | to (f : Fst) | work
noncomputable def nx (S : Nat → Bool) (k x : Nat) : Nat := nthS S (cnt S x + k)
/-- as given -/
def Stp.D : Stp → Dt
  | .months n => .tup [.str "months", .int (n : Nat)]
  | .years n => .tup [.str "years", .int (n : Nat)]
  | .days n => .tup [.str "days", .int (n : Nat)]
  | .to f => .tup [.str "to", f.D]
  | .work => .tup [.str "work", .int 1, Fst.starts.D]
/-- as opened -/
noncomputable def Stp.O (ys : Yrs) : Stp → Dt
  | .months n => .tup [.str "months", .int (n : Nat)]
  | .years n => .tup [.str "years", .int (n : Nat)]
  | .days n => .tup [.str "days", .int (n : Nat)]
  | .to f => .tup [.str "to", .int 1, setC (f.S ys)]
  | .work => .tup [.str "work", .int 1, setC (Fst.starts.S ys)]
/-- what it does to a day -/
noncomputable def Stp.f (ys : Yrs) : Stp → Nat → Nat
  | .months n => mo ys n
  | .years n => yo ys n
  | .days n => fun x => x + n
  | .to f => nx (f.S ys) 0
  | .work => fun x => nx (Fst.starts.S ys) 0 (x + 1)
def runF (fs : List (Nat → Nat)) (x : Nat) : Nat := fs.foldl (fun v f => f v) x
noncomputable abbrev runS (ys : Yrs) (ss : List Stp) : Nat → Nat := runF (ss.map (Stp.f ys))
def termD (ss : List Stp) : Dt := .lst (ss.map Stp.D)
noncomputable def termO (ys : Yrs) (ss : List Stp) : Dt := .lst (ss.map (Stp.O ys))
abbrev F_days_on (K : Fr) := F1 fun a d => ∃ n : Nat, a = .int n ∧ d = canon fun x => x + n
abbrev F_going_on (K : Fr) := F2 fun a b d => ∃ S n, ∃ k : Nat, a = setS S n ∧ b = .int k ∧ Per (ind S) n 0 ∧ 0 < n ∧ n ≤ 45 ∧ (∃ x, S x = true) ∧ d = canon (nx S k)
abbrev F_opened_step (K : Fr) := F2 fun a b d => ∃ ys s, YOk ys ∧ a = almD K ys ∧ b = Stp.D s ∧ d = Stp.O ys s
abbrev F_opened_term (K : Fr) := F2 fun a b d => ∃ ys ss, YOk ys ∧ a = almD K ys ∧ b = termD ss ∧ ss.length ≤ 10 ∧ d = termO ys ss
abbrev F_check_ends (K : Fr) := F1 fun a d => ∃ ys ss, YOk ys ∧ a = termO ys ss ∧ ss.length ≤ 10 ∧ d = .non
abbrev F_checked_term (K : Fr) := F_opened_term K
abbrev F_ladder_of_step (K : Fr) := F2 fun a b d => ∃ ys s, YOk ys ∧ a = almD K ys ∧ b = Stp.O ys s ∧ d = canon (Stp.f ys s)
abbrev F_joined_all (K : Fr) := F1 fun a d => ∃ fs T, (∀ f ∈ fs, R1 f T) ∧ 0 < T ∧ T ≤ 45 ∧ fs.length ≤ 10 ∧ a = .lst (fs.map canon) ∧ d = canon (runF fs)
abbrev F_ladder_of_steps (K : Fr) := F2 fun a b d => ∃ ys ss, YOk ys ∧ a = almD K ys ∧ b = termO ys ss ∧ ss.length ≤ 10 ∧ d = canon (runS ys ss)
abbrev F_ladder_of (K : Fr) := F2 fun a b d => ∃ ys ss, YOk ys ∧ a = almD K ys ∧ b = termD ss ∧ ss.length ≤ 10 ∧ d = canon (runS ys ss)
abbrev F_due (K : Fr) := F3 fun a b c d => ∃ ys ss, ∃ x : Nat, YOk ys ∧ a = almD K ys ∧ b = termD ss ∧ ss.length ≤ 10 ∧ c = .int x ∧ d = .int (runS ys ss x : Nat)
abbrev F_two_ladders (K : Fr) := F3 fun a b c d => ∃ ys s1 s2, YOk ys ∧ a = almD K ys ∧ b = termD s1 ∧ c = termD s2 ∧ s1.length ≤ 10 ∧ s2.length ≤ 10 ∧ d = .tup [canon (runS ys s1), canon (runS ys s2)]
abbrev F_first_later (K : Fr) := F3 fun a b c d => ∃ ys s1 s2, YOk ys ∧ a = almD K ys ∧ b = termD s1 ∧ c = termD s2 ∧ s1.length ≤ 10 ∧ s2.length ≤ 10 ∧ (∀ x, runS ys s1 x ≤ runS ys s2 x) ∧ d = .non
abbrev F_never_later (K : Fr) := F3 fun a b c d => ∃ ys s1 s2, YOk ys ∧ a = almD K ys ∧ b = termD s1 ∧ c = termD s2 ∧ s1.length ≤ 10 ∧ s2.length ≤ 10 ∧ (∀ x, runS ys s1 x ≤ runS ys s2 x) ∧ d = .bl true
abbrev F_passing (K : Fr) := F3 fun a b c d => ∃ ys s1 s2, YOk ys ∧ a = almD K ys ∧ b = termD s1 ∧ c = termD s2 ∧ s1.length ≤ 10 ∧ s2.length ≤ 10 ∧ (∀ x, runS ys s2 (runS ys s1 x) = runS ys s1 (runS ys s2 x)) ∧ d = .bl true
abbrev sp_days_on (K : Fr) := spD K (F_days_on K)
abbrev sp_going_on (K : Fr) := spD K (F_going_on K)
abbrev sp_opened_step (K : Fr) := spD K (F_opened_step K)
abbrev sp_opened_term (K : Fr) := spD K (F_opened_term K)
abbrev sp_check_ends (K : Fr) := spD K (F_check_ends K)
abbrev sp_checked_term (K : Fr) := spD K (F_checked_term K)
abbrev sp_ladder_of_step (K : Fr) := spD K (F_ladder_of_step K)
abbrev sp_joined_all (K : Fr) := spD K (F_joined_all K)
abbrev sp_ladder_of_steps (K : Fr) := spD K (F_ladder_of_steps K)
abbrev sp_ladder_of (K : Fr) := spD K (F_ladder_of K)
abbrev sp_due (K : Fr) := spD K (F_due K)
abbrev sp_two_ladders (K : Fr) := spD K (F_two_ladders K)
abbrev sp_first_later (K : Fr) := spD K (F_first_later K)
abbrev sp_never_later (K : Fr) := spD K (F_never_later K)
abbrev sp_passing (K : Fr) := spD K (F_passing K)
end Lk
set_option Elab.async false
set_option linter.all false
set_option maxRecDepth 100000
set_option maxHeartbeats 4000000
namespace Lk
open PySem L2
local macro_rules | `(tactic| walk_at "ev1") => `(tactic| first
  | ((with_reducible apply ev_var); exact rfl)
  | with_reducible exact ev_int | with_reducible exact ev_str | with_reducible exact ev_bl | with_reducible exact ev_non | with_reducible exact ea_nil | with_reducible apply ea_cons
  | with_reducible exact rd_addI | with_reducible exact rd_subG | with_reducible exact rd_ltG | with_reducible exact rd_leG | with_reducible exact rd_gtG | with_reducible exact rd_geG | with_reducible exact rd_eqI | with_reducible exact rd_neI | with_reducible exact rd_eqS
  | with_reducible exact rc_lenL | with_reducible exact rc_lenT | with_reducible exact rc_max2 | with_reducible exact rc_min2 | with_reducible exact rc_abs | with_reducible exact rc_intI | with_reducible exact rc_intB | with_reducible exact rc_listL | with_reducible exact rc_tupleL | with_reducible exact rc_all | with_reducible exact rc_sum
  | with_reducible exact gv_name | with_reducible exact gv_nil | with_reducible apply gv_cons | ((with_reducible apply gv_tup) <;> try exact rfl)
  | with_reducible apply rd_mulI | with_reducible apply rd_fdivG | with_reducible apply rd_modG | with_reducible apply rc_divmod | with_reducible apply rd_ixL | with_reducible apply rd_ixT | with_reducible apply rd_addL
  | with_reducible apply ev_tup | with_reducible apply ev_lst | with_reducible apply ev_op | with_reducible apply ev_cb | with_reducible exact eo_none | with_reducible apply eo_some | with_reducible apply ev_neg
  | with_reducible apply et_test | with_reducible apply et_B | with_reducible apply et_not | exact Nat.le_of_ble_eq_true rfl)
local macro_rules | `(tactic| walk_at "ev") => `(tactic| repeat' (walk_at "ev1"))
local macro_rules | `(tactic| walk_at "env") => `(tactic| simp only [rep, ladD, setS, setC, env0, List.map_cons, List.map_nil, List.length_cons, List.length_nil, Nat.reduceAdd, Nat.reduceSub, List.replicate_succ, List.replicate_zero, List.cons_append, List.nil_append])
-- IMPORTS LkA8 LkSpec2
theorem hu65_of {k : Nat} {A : Around} (r : Room k A) : A.units + 65 < cLine := by have := r.un; omega
section
variable {K : Fr} {mg : Str → Option Value} (T : Txt K mg) {env : Env} {ys : Yrs} {i : Nat}
include T
theorem f_own_years (h : env[i]? = some (some (calD K ys))) : EV K (tFld K (tVar i) "own_years") env (yD ys) := ev_fld (ev_var h) (k_Calendar T) (n_Calendar_own_years T) (i := 0) rfl rfl
theorem f_spots (h : env[i]? = some (some (calD K ys))) : EV K (tFld K (tVar i) "spots") env (spotsD ys) := ev_fld (ev_var h) (k_Calendar T) (n_Calendar_spots T) (i := 1) rfl rfl
theorem f_lengths (h : env[i]? = some (some (calD K ys))) : EV K (tFld K (tVar i) "lengths") env (.lst ((tab (ml ys) (NN ys)).map Dt.int)) := ev_fld (ev_var h) (k_Calendar T) (n_Calendar_lengths T) (i := 2) rfl rfl
theorem f_firsts (h : env[i]? = some (some (calD K ys))) : EV K (tFld K (tVar i) "firsts") env (.lst ((tab (ms ys) (NN ys)).map Dt.int)) := ev_fld (ev_var h) (k_Calendar T) (n_Calendar_firsts T) (i := 3) rfl rfl
theorem f_total (h : env[i]? = some (some (calD K ys))) : EV K (tFld K (tVar i) "total") env (.int (TT ys : Nat)) := ev_fld (ev_var h) (k_Calendar T) (n_Calendar_total T) (i := 4) rfl rfl
end
/-- a method of the calendar -/
theorem cal_meth {K : Fr} {env : Env} {ys : Yrs} {i : Nat} {m : Str} {F : List Dt → Dt → Prop} {ds : List Dt} {d : Dt} {t : TA} (h : env[i]? = some (some (calD K ys))) (hn : fldIx calN m = none) (ha : EA K t env ds) (hF : F (calD K ys :: ds) d) :
    EV K (tMeth (He.ga K "Calendar") m (spD K F) [] E0 (tVar i) t) env d := ev_meth (ev_var h) hn ha hF
theorem list_min : ∀ {ns : List Int}, ns ≠ [] → ∃ m, m ∈ ns ∧ ∀ y, y ∈ ns → m ≤ y
  | [a], _ => ⟨a, List.mem_cons_self, fun y hy => by rw [List.mem_singleton] at hy; omega⟩
  | a :: b :: l, _ => by
    obtain ⟨m, h1, h2⟩ := list_min (ns := b :: l) (by simp)
    by_cases q : a ≤ m
    · exact ⟨a, List.mem_cons_self, fun y hy => by
        rcases List.mem_cons.mp hy with rfl | hy
        · exact Int.le_refl _
        · have := h2 y hy; omega⟩
    · exact ⟨m, List.mem_cons_of_mem _ h1, fun y hy => by
        rcases List.mem_cons.mp hy with rfl | hy
        · omega
        · exact h2 y hy⟩
theorem enumD_tab (f : Nat → Nat) (n : Nat) : enumD ((tab f n).map Dt.int) = (List.range n).map fun (k : Nat) => .tup [.int (k : Nat), .int (f k : Nat)] := by
  rw [enumD_ints]
  apply List.ext_getElem?
  intro k
  rw [List.getElem?_map, List.getElem?_map, List.getElem?_zipIdx]
  by_cases hk : k < n
  · rw [tab_get hk, List.getElem?_range hk]; simp
  · rw [List.getElem?_eq_none (by rw [tab_len]; omega), List.getElem?_eq_none (by simp; omega)]; rfl
theorem natL_eq (l : List Nat) : natL l = .lst ((l.map fun (i : Nat) => (i : Int)).map Dt.int) := by
  unfold natL; rw [List.map_map]; rfl
theorem smp_natL (l : List Nat) : Smp 1 (natL l) := by rw [natL_eq]; exact smp_ints _
theorem smp_yD (ys : Yrs) : Smp 2 (yD ys) := .lst fun d hd => by
  obtain ⟨l, _, rfl⟩ := List.mem_map.mp hd
  exact smp_natL l
theorem smp_spot (ys : Yrs) (k : Nat) : Smp 1 (spotD ys k) := .tup fun d hd => by
  rcases List.mem_cons.mp hd with rfl | hd
  · exact .int 0 _
  rcases List.mem_cons.mp hd with rfl | hd
  · exact .int 0 _
  · cases hd
theorem smp_spots (ys : Yrs) : Smp 2 (spotsD ys) := .lst fun d hd => by
  obtain ⟨l, _, rfl⟩ := List.mem_map.mp hd
  exact smp_spot ys l
theorem at_spots {ys : Yrs} {k : Nat} (h : k < NN ys) : atI ((List.range (NN ys)).map (spotD ys)) (k : Int) = some (spotD ys k) := by
  refine atI_nat ?_
  rw [List.getElem?_map, List.getElem?_range h]; rfl
theorem at_years {ys : Yrs} (h : YOk ys) (q : Nat) : atI (ys.map natL) ((q % ys.length : Nat) : Int) = some (natL (yr ys q)) := by
  refine atI_nat ?_
  have hl := Nat.mod_lt q (len_pos h)
  rw [List.getElem?_map, List.getElem?_eq_getElem hl]
  unfold yr
  rw [List.getD_eq_getElem?_getD, List.getElem?_eq_getElem hl]; rfl
theorem at_months {ys : Yrs} (h : YOk ys) {q m : Nat} (hm : m < yc ys q) : atI ((yr ys q).map fun i => Dt.int (i : Nat)) (m : Int) = some (.int (ml ys (yst ys q + m) : Nat)) := by
  refine atI_nat ?_
  rw [(ml_at h hm).1, List.getElem?_map, List.getElem?_eq_getElem hm, List.getD_eq_getElem?_getD, List.getElem?_eq_getElem hm]; rfl
theorem yD_len (ys : Yrs) : (ys.map natL).length = ys.length := List.length_map ..
/-- firsts up to a day of the first round -/
theorem firsts_upto {ys : Yrs} (h : YOk ys) {r : Nat} (hr : r < TT ys) : ((tab (ms ys) (NN ys)).filter fun x => decide (x ≤ (r : Int))).length = loc (ml ys) r + 1 := by
  obtain ⟨a, b⟩ := loc_spec (ml_pos h) r
  have hl : loc (ml ys) r < NN ys := loc_lt (ml_pos h) hr
  have : ∀ n, ((tab (ms ys) n).filter fun x => decide (x ≤ (r : Int))).length = min n (loc (ml ys) r + 1) := by
    intro n
    induction n with
    | zero => simp [tab]
    | succ n ih =>
      rw [tab_succ, List.filter_append, List.length_append, ih]
      by_cases q : n ≤ loc (ml ys) r
      · have := sm_le (ml_pos h) q
        have hz : ms ys n ≤ r := by show sm (ml ys) n ≤ r; omega
        have e : decide (((ms ys n : Nat) : Int) ≤ (r : Int)) = true := decide_eq_true (by omega)
        rw [List.filter_cons, if_pos e]
        simp; omega
      · have := sm_le (ml_pos h) (show loc (ml ys) r + 1 ≤ n by omega)
        have e : ¬ decide (((ms ys n : Nat) : Int) ≤ (r : Int)) = true := fun z => by
          have z := of_decide_eq_true z
          have : ¬ ms ys n ≤ r := by show ¬ sm (ml ys) n ≤ r; omega
          omega
        rw [List.filter_cons, if_neg e]
        simp; omega
  rw [this]; omega
theorem mod_loc {ys : Yrs} (h : YOk ys) (x : Nat) : loc (ml ys) x = loc (ml ys) (x % TT ys) + NN ys * (x / TT ys) := (mon_per h).eval (TT_pos h) x
theorem mod_ms {ys : Yrs} (h : YOk ys) (k : Nat) : ms ys k = ms ys (k % NN ys) + TT ys * (k / NN ys) := (ms_per h).eval (NN_pos h) k
theorem mod_ml {ys : Yrs} (h : YOk ys) (k : Nat) : ml ys k = ml ys (k % NN ys) := by
  have := (ml_per h).eval (NN_pos h) k
  rw [Nat.zero_mul] at this; exact this
theorem mod_yst {ys : Yrs} (h : YOk ys) (q : Nat) : yst ys q = yst ys (q % ys.length) + NN ys * (q / ys.length) := (sm_per (yc_per h)).eval (len_pos h) q
theorem mod_yc {ys : Yrs} (h : YOk ys) (q : Nat) : yc ys q = yc ys (q % ys.length) := by
  have := (yc_per h).eval (len_pos h) q
  rw [Nat.zero_mul] at this; exact this
theorem eqv_pair (a b c d : Int) : PyData.eqv (toPy (.tup [.int a, .int b])) (toPy (.tup [.int c, .int d])) = (a == c && b == d) := by
  simp [toPy, toPyL, PyData.eqv, PyData.eqvAll]
def t_are_years (K : Fr) : TS :=
  (tRet (tAndV (tOp (rNeG K) (tVar 0) (tLst tNil)) (tCB (rAll K) (tCons (tLc (iList K (tVar 0)) (gName 1) tYes (tAndV (tOp (rNeG K) (tVar 1) (tLst tNil)) (tOp rGeG (tCB (rMin K) (tCons (tVar 1) tNil)) (tC (.int 1)))) [1]) tNil))))
def t_Calendar_owners (K : Fr) : TS :=
  (tRet (tLc2 (iEnum K (tCons (tFld K (tVar 0) "lengths") tNil)) (gTup K 2 (gCons (gName 1) (gCons (gName 2) gNil))) tYes (iRng1 (tCons (tVar 2) tNil)) (gName 3) tYes (tVar 1) [1, 2, 3] [3]))
def t_Calendar_index_of (K : Fr) : TS :=
  (tRet (tBM K "list" (rIndexD K) (tFld K (tVar 0) "spots") (tCons (tTup (tCons (tVar 1) (tCons (tVar 2) tNil))) tNil)))
def t_Calendar_month_at (K : Fr) : TS :=
  (tSeq (tAsg (tCB rDivmodG (tCons (tVar 1) (tCons (tCB (rLenG K) (tCons (tFld K (tVar 0) "lengths") tNil)) tNil))) (gTup K 2 (gCons (gName 2) (gCons (gName 3) gNil))))
      (tRet (tTup (tCons (tOp rAddG (tOp rMulG (tVar 2) (tFld K (tVar 0) "total")) (tOp (rIxG K) (tFld K (tVar 0) "firsts") (tVar 3))) (tCons (tOp (rIxG K) (tFld K (tVar 0) "lengths") (tVar 3)) tNil)))))
def t_Calendar_set_of_cycle (K : Fr) : TS :=
  (tRet (tCall (sp_least_set K) [] E0 (tCons (tTup (tCons (tLst tNil) (tCons (tC (.int 0)) (tCons (tFld K (tVar 0) "total") (tCons (tVar 1) tNil))))) tNil)))
def t_Calendar_ladder_of_cycle (K : Fr) : TS :=
  (tRet (tCall (sp_least_ladder K) [] E0 (tCons (tTup (tCons (tLst tNil) (tCons (tVar 1) (tCons (tVar 2) tNil)))) tNil)))
theorem ok_are_years {P : Program} {w : World} {K : Fr} {mg : Str → Option Value} {base : Heap} (T : Txt K mg) : Has P w K mg base 1 (He.ga K "are_years") ["years"] (sp_are_years K) := by
  obtain ⟨fd, F⟩ := T.says.def_ 60 (d := d_are_years) rfl
  have F : FunD K "are_years" "are_years" (defArgs s_are_years) (defBody s_are_years) (defScope s_are_years) [] [] (He.ga K "are_years") fd := F
  skip
  refine ⟨F.kp, fd, ?_, F.bindsN fun _ _ _ _ _ _ us hl => match us, hl with | [_], _ => rfl⟩
  refine ok_of F c_are_years (by (intro ds d h; exact h.len)) fun cdv A outer s H E hr => ⟨t_are_years K, PSs.nox
      (pss_one (ps_ret (pe_and (pe_cmpR (op_neG hr.units) (pv 0) (pe_lst pa_nil) (nomark _)) (pe_one (pe_callB (cr_all rfl) (by rfl) (z_all T) (by decide +kernel) (pa_cons (pe_lc (own := [("months", 1)]) (wi := (iList K (tVar 0))) (g := (gName 1)) (tt := tYes) (te := (tAndV (tOp (rNeG K) (tVar 1) (tLst tNil)) (tOp rGeG (tCB (rMin K) (tCons (tVar 1) tNil)) (tC (.int 1))))) (by rfl) c_are_years.nd (pi_list (pv 0)) (blkOk_by (own := [("months", 1)]) (N := ["years", "months"]) (sc := defScope s_are_years) (by decide +kernel)) (fun _ _ _ _ _ => (pg_name (i := 1) c_are_years.nd rfl (Or.inl rfl))) (fun _ _ _ _ _ => pts_nil) (fun _ _ _ _ _ => (pe_and (pe_cmpR (op_neG hr.units) (pv 1) (pe_lst pa_nil) (nomark _)) (pe_one (pe_cmpR op_geG (pe_callB (cr_min rfl) (by rfl) (z_min T) (by decide +kernel) (pa_cons (pv 1) pa_nil)) pe_int (nomark _)))))) pa_nil)))))), fun ds d hF => ?_⟩
  obtain ⟨a, rfl, ys, h, rfl, rfl⟩ := hF.ex
  walk_at "env"
  have hne : ys.map natL ≠ [] := by
    intro e
    exact h.ne (List.map_eq_nil_iff.mp e)
  refine l_ret (ev_and (a := true) (b := true) (ev_op (ev_var rfl) (ev_lst ea_nil (by simp)) (rd_notEmpty (smp_yD ys) (by decide) (by decide) hne)) fun _ => ?_) rfl
  refine ev_is (ev_cb (ea_cons (ev_lc1 (out := (ys.map fun _ => true).map Dt.bl) (items := ys.map natL) (fun _ => .bl true) (iv_list (ev_var rfl)) (by rw [yD_len]; have := h.few; omega) (gk_name (by decide)) (fun d hd => ?_) (by rw [List.map_map, List.map_map]; rfl)) ea_nil) rc_all) ?_
  · obtain ⟨l, hl, rfl⟩ := List.mem_map.mp hd
    obtain ⟨h1, h2, h3⟩ := h.ms l hl
    have hl0 : l.map (fun (i : Nat) => (i : Int)) ≠ [] := fun e => h1 (List.map_eq_nil_iff.mp e)
    obtain ⟨m, m1, m2⟩ := list_min hl0
    refine ⟨_, gv_name, ev_and (a := true) (b := true) (ev_op (ev_var rfl) (ev_lst ea_nil (by simp)) (rd_notEmpty (smp_natL l) (by decide) (by decide) (fun e => h1 (List.map_eq_nil_iff.mp e)))) fun _ => ?_⟩
    refine ev_is (ev_op (ev_cb (ea_cons (ev_is (ev_var rfl) (natL_eq l)) ea_nil) (rc_min (m := m) ?_ fun m' a1 a2 => ?_)) ev_int rd_geG) ?_
    · exact List.length_pos_iff.mpr hl0
    · have := m2 m' a1
      have := a2 m m1
      omega
    · obtain ⟨i, hi, rfl⟩ := List.mem_map.mp m1
      exact congrArg Dt.bl (decide_eq_true (by have := (h3 i hi).1; omega))
  · congr 1
    rw [List.all_eq_true]
    intro x hx
    obtain ⟨_, _, rfl⟩ := List.mem_map.mp hx
    rfl
theorem ok_Calendar_owners {P : Program} {w : World} {K : Fr} {mg : Str → Option Value} {base : Heap} (T : Txt K mg) : Has P w K mg base 1 (He.ma K (He.ga K "Calendar") "owners") ["self"] (sp_Calendar_owners K) := by
  obtain ⟨fd, F⟩ := T.says.def_ 62 (d := d_Calendar_owners) rfl
  have F : FunD K "owners" "Calendar.owners" (defArgs s_Calendar_owners) (defBody s_Calendar_owners) (defScope s_Calendar_owners) [] [] (He.ma K (He.ga K "Calendar") "owners") fd := F
  skip
  refine ⟨F.kp, fd, ?_, F.bindsN fun _ _ _ _ _ _ us hl => match us, hl with | [_], _ => rfl⟩
  refine ok_of F c_Calendar_owners (by (intro ds d h; exact h.len)) fun cdv A outer s H E hr => ⟨t_Calendar_owners K, PSs.nox
      (pss_one (ps_ret (pe_lc2 (own := [("index", 1), ("length", 2), ("place", 3)]) (vs1 := [3]) (wi := (iEnum K (tCons (tFld K (tVar 0) "lengths") tNil))) (wi1 := (iRng1 (tCons (tVar 2) tNil))) (g := (gTup K 2 (gCons (gName 1) (gCons (gName 2) gNil)))) (g1 := (gName 3)) (tt := tYes) (tt1 := tYes) (te := (tVar 1)) (by rfl) c_Calendar_owners.nd (pi_enum (by rfl) (z_enumerate T) (pa_cons (pe_fld (pv 0) rfl) pa_nil)) (blkOk_by (own := [("index", 1), ("length", 2), ("place", 3)]) (N := ["self", "index", "length", "place"]) (sc := defScope s_Calendar_owners) (by decide +kernel)) (by decide) (fun _ _ _ _ _ => (pg_tup (by rfl) (pgs_cons (pg_name (i := 1) c_Calendar_owners.nd rfl (Or.inl rfl)) (pgs_cons (pg_name (i := 2) c_Calendar_owners.nd rfl (Or.inl rfl)) pgs_nil)))) (fun _ _ _ _ _ => pts_nil) (fun _ _ _ _ _ => (pi_range1 (by rfl) (z_range T) (pa_cons (pv 2) pa_nil))) (fun _ _ _ _ _ => (pg_name (i := 3) c_Calendar_owners.nd rfl (Or.inl rfl))) (fun _ _ _ _ _ => pts_nil) (fun _ _ _ _ _ => (pv 1))))), fun ds d hF => ?_⟩
  obtain ⟨a, rfl, ys, h, rfl, rfl⟩ := hF.ex
  walk_at "env"
  have hT := TT_le h
  have hN := NN_le h
  have ho : (enumD ((tab (ml ys) (NN ys)).map Dt.int)).flatMap (fun d => match d with | .tup [.int k, .int x] => (List.range x.toNat).map fun _ => Dt.int k | _ => []) = (tab (loc (ml ys)) (TT ys)).map Dt.int := by
    have := flat_sm (ml ys) (fun x => Dt.int (loc (ml ys) x : Nat)) (NN ys)
    have e1 : (tab (loc (ml ys)) (TT ys)).map Dt.int = (List.range (sm (ml ys) (NN ys))).map fun x => Dt.int (loc (ml ys) x : Nat) := by
      unfold tab; rw [List.map_map]; rfl
    rw [e1, ← this, enumD_tab, List.flatMap_map]
    refine congrArg (fun F => List.flatMap F (List.range (NN ys))) (funext fun k => ?_)
    show (List.range ((ml ys k : Nat) : Int).toNat).map _ = _
    rw [Int.toNat_natCast]
    apply List.map_congr_left
    intro m hm
    rw [loc_at (ml_pos h) (List.mem_range.mp hm)]
  refine l_ret (ev_lc2 (fun d => match d with | .tup [.int k, .int x] => (List.range x.toNat).map fun _ => Dt.int k | _ => []) (iv_enum (ea_cons (f_lengths T rfl) ea_nil)) (gk_tup (gk_cons (gk_name (by decide)) (gk_cons (gk_name (by decide)) gk_nil))) (gk_name (by decide)) (by rw [ho, List.length_map, tab_len]; omega) (fun d hd => ?_) ho) rfl
  rw [enumD_tab] at hd
  obtain ⟨k, hk, rfl⟩ := List.mem_map.mp hd
  have hb := (ml_bd h k).2
  refine ⟨_, gv_tup (gv_cons gv_name (gv_cons gv_name gv_nil)) rfl, et_yes, _, iv_range1 (j := ((ml ys k : Nat) : Int)) (ea_cons (ev_var rfl) ea_nil) (by omega) (by omega), fun _ => .int (k : Nat), ?_, fun d1 hd1 => ?_⟩
  · unfold rangeD
    rw [List.map_map]; rfl
  · obtain ⟨j, _, rfl⟩ := List.mem_map.mp hd1
    exact ⟨_, gv_name, et_yes, ev_var rfl⟩
theorem ok_Calendar_index_of {P : Program} {w : World} {K : Fr} {mg : Str → Option Value} {base : Heap} (T : Txt K mg) : Has P w K mg base 1 (He.ma K (He.ga K "Calendar") "index_of") ["self", "year", "month"] (sp_Calendar_index_of K) := by
  obtain ⟨fd, F⟩ := T.says.def_ 63 (d := d_Calendar_index_of) rfl
  have F : FunD K "index_of" "Calendar.index_of" (defArgs s_Calendar_index_of) (defBody s_Calendar_index_of) (defScope s_Calendar_index_of) [] [] (He.ma K (He.ga K "Calendar") "index_of") fd := F
  skip
  refine ⟨F.kp, fd, ?_, F.bindsN fun _ _ _ _ _ _ us hl => match us, hl with | [_, _, _], _ => rfl⟩
  refine ok_of F c_Calendar_index_of (by (intro ds d h; exact h.len)) fun cdv A outer s H E hr => ⟨t_Calendar_index_of K, PSs.nox
      (pss_one (ps_ret (pe_bm PySem.F.plainAttrs_list PySem.F.slot_list_index PySem.F.type_list_index (mt_indexD (hu65_of hr)) (pe_fld (pv 0) rfl) (pa_cons (pe_tup (pa_cons (pv 1) (pa_cons (pv 2) pa_nil))) pa_nil)))), fun ds d hF => ?_⟩
  obtain ⟨a, b, c, rfl, ys, q, m, h, rfl, rfl, rfl, hq, hm, rfl⟩ := hF.ex
  walk_at "env"
  have hk : yst ys q + m < NN ys := by
    have : yst ys (q + 1) ≤ yst ys ys.length := sm_le (yc_pos h) hq
    have e : yst ys (q + 1) = yst ys q + yc ys q := rfl
    unfold NN; omega
  obtain ⟨_, e2, e3⟩ := ml_at h hm
  refine l_ret (ev_index (d := .tup [.int (q : Nat), .int (m : Nat)]) (j := yst ys q + m) (z := spotD ys (yst ys q + m)) (f_spots T rfl) (ea_cons (ev_tup (ea_cons (ev_var rfl) (ea_cons (ev_var rfl) ea_nil)) (by simp)) ea_nil) (smp_spots ys).pl rfl ((smp_spots ys).sh (by decide)) ?_ ?_ ?_ fun k z hk1 hz => ?_) rfl
  · exact (Smp.tup (k := 0) fun d hd => by
      rcases List.mem_cons.mp hd with rfl | hd
      · exact .int 0 _
      rcases List.mem_cons.mp hd with rfl | hd
      · exact .int 0 _
      · cases hd).sh (by decide)
  · rw [List.getElem?_map, List.getElem?_range hk]; rfl
  · unfold spotD
    rw [e2, e3, eqv_pair]; simp
  · rw [List.getElem?_map, List.getElem?_range (by omega)] at hz
    cases hz
    unfold spotD
    rw [eqv_pair]
    apply Bool.eq_false_iff.mpr
    intro z
    rw [Bool.and_eq_true_iff, beq_iff_eq, beq_iff_eq] at z
    obtain ⟨z1, z2⟩ := z
    have z1 : yof ys k = q := by omega
    have z2 : mof ys k = m := by omega
    have := (loc_spec (yc_pos h) k).1
    have z3 : k - yst ys (yof ys k) = m := z2
    rw [z1] at z3
    have z4 : sm (yc ys) (yof ys k) ≤ k := this
    rw [z1] at z4
    have : yst ys q ≤ k := z4
    omega
theorem ok_Calendar_month_at {P : Program} {w : World} {K : Fr} {mg : Str → Option Value} {base : Heap} (T : Txt K mg) : Has P w K mg base 1 (He.ma K (He.ga K "Calendar") "month_at") ["self", "index"] (sp_Calendar_month_at K) := by
  obtain ⟨fd, F⟩ := T.says.def_ 64 (d := d_Calendar_month_at) rfl
  have F : FunD K "month_at" "Calendar.month_at" (defArgs s_Calendar_month_at) (defBody s_Calendar_month_at) (defScope s_Calendar_month_at) [] [] (He.ma K (He.ga K "Calendar") "month_at") fd := F
  skip
  refine ⟨F.kp, fd, ?_, F.bindsN fun _ _ _ _ _ _ us hl => match us, hl with | [_, _], _ => rfl⟩
  refine ok_of F c_Calendar_month_at (by (intro ds d h; exact h.len)) fun cdv A outer s H E hr => ⟨t_Calendar_month_at K, PSs.nox
      (pss_cons (ps_asg (pe_callB c_divmod (by rfl) (z_divmod T) (by decide +kernel) (pa_cons (pv 1) (pa_cons (pe_callB c_len (by rfl) (z_len T) (by decide +kernel) (pa_cons (pe_fld (pv 0) rfl) pa_nil)) pa_nil))) (pg_tup (by rfl) (pgs_cons (pg_name (i := 2) c_Calendar_month_at.nd rfl (Or.inl rfl)) (pgs_cons (pg_name (i := 3) c_Calendar_month_at.nd rfl (Or.inl rfl)) pgs_nil))))
      (pss_one (ps_ret (pe_tup (pa_cons (pe_op op_addG (pe_op op_mulG (pv 2) (pe_fld (pv 0) rfl)) (pe_ix ix_G (pe_fld (pv 0) rfl) (pv 3) (fun _ _ => rfl))) (pa_cons (pe_ix ix_G (pe_fld (pv 0) rfl) (pv 3) (fun _ _ => rfl)) pa_nil)))))), fun ds d hF => ?_⟩
  obtain ⟨a, b, rfl, ys, k, h, rfl, rfl, rfl⟩ := hF.ex
  walk_at "env"
  have hT := TT_le h
  have hN := NN_le h
  have hN0 := NN_pos h
  have el : (((tab (ml ys) (NN ys)).map Dt.int).length : Int) = ((NN ys : Nat) : Int) := by rw [List.length_map, tab_len]
  have hlt := Nat.mod_lt k hN0
  refine q_asg (d := .tup [.int (k / NN ys : Nat), .int (k % NN ys : Nat)]) (ev_is (ev_cb (ea_cons (ev_var rfl) (ea_cons (ev_cb (ea_cons (f_lengths T rfl) ea_nil) rc_lenL) ea_nil)) (rc_divmod ⟨by rw [el]; omega, by rw [el]; omega⟩)) (by rw [el]; rfl)) (gv_tup (gv_cons gv_name (gv_cons gv_name gv_nil)) rfl) ?_
  refine l_ret (ev_tup (ea_cons (ev_is (ev_op (ev_op (ev_var rfl) (f_total T rfl) (rd_mulI (.inr ⟨by omega, by omega⟩))) (ev_op (f_firsts T rfl) (ev_var rfl) (rd_ixL (at_tab hlt))) rd_addI) ?_) (ea_cons (ev_is (ev_op (f_lengths T rfl) (ev_var rfl) (rd_ixL (at_tab hlt))) ?_) ea_nil)) (by simp)) rfl
  · congr 1
    rw [mod_ms h k, Int.natCast_add, Int.natCast_mul, Int.mul_comm, Int.add_comm]
  · rw [← mod_ml h k]
theorem ok_Calendar_set_of_cycle {P : Program} {w : World} {K : Fr} {mg : Str → Option Value} {base : Heap} (T : Txt K mg) : Has P w K mg base 7 (He.ma K (He.ga K "Calendar") "set_of_cycle") ["self", "days"] (sp_Calendar_set_of_cycle K) := by
  obtain ⟨fd, F⟩ := T.says.def_ 65 (d := d_Calendar_set_of_cycle) rfl
  have F : FunD K "set_of_cycle" "Calendar.set_of_cycle" (defArgs s_Calendar_set_of_cycle) (defBody s_Calendar_set_of_cycle) (defScope s_Calendar_set_of_cycle) [] [] (He.ma K (He.ga K "Calendar") "set_of_cycle") fd := F
  obtain ⟨kp_least_set, fd_least_set, G_least_set, b_least_set⟩ := ok_least_set (P := P) (w := w) (base := base) T
  refine ⟨F.kp, fd, ?_, F.bindsN fun _ _ _ _ _ _ us hl => match us, hl with | [_, _], _ => rfl⟩
  refine ok_of F c_Calendar_set_of_cycle (by (intro ds d h; exact h.len)) fun cdv A outer s H E hr => ⟨t_Calendar_set_of_cycle K, PSs.nox
      (pss_one (ps_ret (pe_call G_least_set (hr.mono (by decide)) (by rfl) (m_least_set T) kp_least_set b_least_set .nil pass0 (pa_cons (pe_tup (pa_cons (pe_lst pa_nil) (pa_cons pe_int (pa_cons (pe_fld (pv 0) rfl) (pa_cons (pv 1) pa_nil))))) pa_nil)))), fun ds d hF => ?_⟩
  obtain ⟨a, b, rfl, ys, S, h, rfl, rfl, hp, rfl⟩ := hF.ex
  walk_at "env"
  have hT := TT_le h
  exact l_ret (ev_call (d := setC S) (ea_cons (ev_tup (ea_cons (ev_lst ea_nil (by simp)) (ea_cons ev_int (ea_cons (f_total T rfl) (ea_cons (ev_var rfl) ea_nil)))) (by simp)) ea_nil) ⟨S, TT ys, rfl, hp, TT_pos h, by omega, rfl⟩) rfl
theorem ok_Calendar_ladder_of_cycle {P : Program} {w : World} {K : Fr} {mg : Str → Option Value} {base : Heap} (T : Txt K mg) : Has P w K mg base 5 (He.ma K (He.ga K "Calendar") "ladder_of_cycle") ["self", "told", "rise"] (sp_Calendar_ladder_of_cycle K) := by
  obtain ⟨fd, F⟩ := T.says.def_ 66 (d := d_Calendar_ladder_of_cycle) rfl
  have F : FunD K "ladder_of_cycle" "Calendar.ladder_of_cycle" (defArgs s_Calendar_ladder_of_cycle) (defBody s_Calendar_ladder_of_cycle) (defScope s_Calendar_ladder_of_cycle) [] [] (He.ma K (He.ga K "Calendar") "ladder_of_cycle") fd := F
  obtain ⟨kp_least_ladder, fd_least_ladder, G_least_ladder, b_least_ladder⟩ := ok_least_ladder (P := P) (w := w) (base := base) T
  refine ⟨F.kp, fd, ?_, F.bindsN fun _ _ _ _ _ _ us hl => match us, hl with | [_, _, _], _ => rfl⟩
  refine ok_of F c_Calendar_ladder_of_cycle (by (intro ds d h; exact h.len)) fun cdv A outer s H E hr => ⟨t_Calendar_ladder_of_cycle K, PSs.nox
      (pss_one (ps_ret (pe_call G_least_ladder (hr.mono (by decide)) (by rfl) (m_least_ladder T) kp_least_ladder b_least_ladder .nil pass0 (pa_cons (pe_tup (pa_cons (pe_lst pa_nil) (pa_cons (pv 1) (pa_cons (pv 2) pa_nil)))) pa_nil)))), fun ds d hF => ?_⟩
  obtain ⟨a, b, c, rfl, ys, f, r, h, rfl, rfl, rfl, hl, hr2, rfl⟩ := hF.ex
  walk_at "env"
  have hT := TT_le h
  exact l_ret (ev_call (d := canon f) (ea_cons (ev_tup (ea_cons (ev_lst ea_nil (by simp)) (ea_cons (ev_var rfl) (ea_cons (ev_var rfl) ea_nil))) (by simp)) ea_nil) ⟨f, TT ys, r, rfl, hl, by omega, by omega, rfl⟩) rfl
end Lk
set_option Elab.async false
set_option linter.all false
set_option maxRecDepth 100000
set_option maxHeartbeats 4000000
namespace Lk
open PySem L2
local macro_rules | `(tactic| walk_at "ev1") => `(tactic| first
  | ((with_reducible apply ev_var); exact rfl)
  | with_reducible exact ev_int | with_reducible exact ev_str | with_reducible exact ev_bl | with_reducible exact ev_non | with_reducible exact ea_nil | with_reducible apply ea_cons
  | with_reducible exact rd_addI | with_reducible exact rd_subG | with_reducible exact rd_ltG | with_reducible exact rd_leG | with_reducible exact rd_gtG | with_reducible exact rd_geG | with_reducible exact rd_eqI | with_reducible exact rd_neI | with_reducible exact rd_eqS
  | with_reducible exact rc_lenL | with_reducible exact rc_lenT | with_reducible exact rc_max2 | with_reducible exact rc_min2 | with_reducible exact rc_abs | with_reducible exact rc_intI | with_reducible exact rc_intB | with_reducible exact rc_listL | with_reducible exact rc_tupleL | with_reducible exact rc_all | with_reducible exact rc_sum
  | with_reducible exact gv_name | with_reducible exact gv_nil | with_reducible apply gv_cons | ((with_reducible apply gv_tup) <;> try exact rfl)
  | with_reducible apply rd_mulI | with_reducible apply rd_fdivG | with_reducible apply rd_modG | with_reducible apply rc_divmod | with_reducible apply rd_ixL | with_reducible apply rd_ixT | with_reducible apply rd_addL
  | with_reducible apply ev_tup | with_reducible apply ev_lst | with_reducible apply ev_op | with_reducible apply ev_cb | with_reducible exact eo_none | with_reducible apply eo_some | with_reducible apply ev_neg
  | with_reducible apply et_test | with_reducible apply et_B | with_reducible apply et_not | exact Nat.le_of_ble_eq_true rfl)
local macro_rules | `(tactic| walk_at "ev") => `(tactic| repeat' (walk_at "ev1"))
local macro_rules | `(tactic| walk_at "env") => `(tactic| simp only [rep, ladD, setS, setC, env0, List.map_cons, List.map_nil, List.length_cons, List.length_nil, Nat.reduceAdd, Nat.reduceSub, List.replicate_succ, List.replicate_zero, List.cons_append, List.nil_append])
-- IMPORTS LkB1
theorem idx_lt {ys : Yrs} (h : YOk ys) {q m : Nat} (hq : q < ys.length) (hm : m < yc ys q) : yst ys q + m < NN ys := by
  have : yst ys (q + 1) ≤ yst ys ys.length := sm_le (yc_pos h) hq
  have e : yst ys (q + 1) = yst ys q + yc ys q := rfl
  unfold NN; omega
theorem ymod {ys : Yrs} (h : YOk ys) (q m : Nat) : yst ys q + m = yst ys (q % ys.length) + m + NN ys * (q / ys.length) := by
  have := mod_yst h q
  omega
theorem ml_ymod {ys : Yrs} (h : YOk ys) (q m : Nat) : ml ys (yst ys q + m) = ml ys (yst ys (q % ys.length) + m) := by
  have := (ml_per h).mul (q / ys.length) (yst ys (q % ys.length) + m)
  rw [Nat.zero_mul] at this
  rw [ymod h]; exact this
theorem at3_mod {ys : Yrs} (h : YOk ys) (q m p : Nat) : at3 ys q m p = ms ys (yst ys (q % ys.length) + m) + TT ys * (q / ys.length) + p := by
  have := (ms_per h).mul (q / ys.length) (yst ys (q % ys.length) + m)
  unfold at3
  rw [ymod h]
  exact congrArg (· + p) this
theorem mod_yof {ys : Yrs} (h : YOk ys) (x : Nat) : yof ys (mon ys x) = yof ys (mon ys (x % TT ys)) + ys.length * (x / TT ys) := by
  have := (yof_per h).mul (x / TT ys) (mon ys (x % TT ys))
  rw [← mod_loc h x] at this
  exact this
theorem mod_mof {ys : Yrs} (h : YOk ys) (x : Nat) : mof ys (mon ys x) = mof ys (mon ys (x % TT ys)) := by
  have hp : Per (mof ys) (NN ys) 0 := mof_per h
  have := hp.mul (x / TT ys) (mon ys (x % TT ys))
  rw [← mod_loc h x, Nat.zero_mul] at this
  exact this
theorem mod_pl {ys : Yrs} (h : YOk ys) (x : Nat) : pl ys x = pl ys (x % TT ys) := by
  have hp : Per (pl ys) (TT ys) 0 := pl_per h
  have := hp.eval (TT_pos h) x
  rw [Nat.zero_mul] at this
  exact this
/-- over a list of ints with a test: those that pass come out -/
theorem lc_LF {K : Fr} {env : Env} {tl te : TE} {tt : L2.TT} {vs : List Nat} {i : Nat} {xs : List Int} (p : Int → Bool) (h : EV K tl env (.lst (xs.map Dt.int))) (hl : xs.length ≤ 100000) (hi : i ∈ vs)
    (ht : ∀ x ∈ xs, ET K tt ((ewipe env vs).set i (some (.int x))) (p x)) (he : ∀ x ∈ xs, EV K te ((ewipe env vs).set i (some (.int x))) (.int x)) : EV K (tLc (iList K tl) (gName i) tt te vs) env (.lst ((xs.filter p).map Dt.int)) := by
  refine ev_lc (fun d => match d with | .int x => if p x then some (.int x) else none | d => none) (iv_list h) (by rw [List.length_map]; exact hl) (gk_name hi) (fun d hd => ?_) ?_
  · obtain ⟨x, h1, rfl⟩ := memL hd
    refine ⟨_, gv_name, p x, ht x h1, fun e => ⟨_, ?_, he x h1⟩, fun e => ?_⟩
    · show (if p x = true then _ else _) = _
      rw [if_pos e]
    · show (if p x = true then _ else _) = _
      rw [if_neg (by rw [e]; decide)]
  · rw [List.filterMap_map, ← List.filterMap_eq_filter, List.map_filterMap]
    refine congrArg (fun F => List.filterMap F xs) (funext fun x => ?_)
    show (if p x = true then _ else _) = _
    by_cases e : p x = true
    · rw [if_pos e]; simp [Option.guard, e]
    · rw [if_neg e]; simp [Option.guard, e]
def t_Calendar_date (K : Fr) : TS :=
  (tSeq (tDrop (tCall (sp_need_number K) [] E0 (tCons (tVar 1) (tCons (tC (.int 0)) tNil))))
      (tSeq (tAsg (tCB rDivmodG (tCons (tVar 1) (tCons (tFld K (tVar 0) "total") tNil))) (gTup K 2 (gCons (gName 2) (gCons (gName 3) gNil))))
      (tSeq (tAsg (tOp rSubG (tCB (rLenG K) (tCons (tLc (iList K (tFld K (tVar 0) "firsts")) (gName 7) (tTest (tOp rLeG (tVar 7) (tVar 3))) (tVar 7) [7]) tNil)) (tC (.int 1))) (gName 4))
      (tSeq (tAsg (tOp (rIxG K) (tFld K (tVar 0) "spots") (tVar 4)) (gTup K 2 (gCons (gName 5) (gCons (gName 6) gNil))))
      (tRet (tTup (tCons (tOp rAddG (tOp rMulG (tVar 2) (tCB (rLenG K) (tCons (tFld K (tVar 0) "own_years") tNil))) (tVar 5)) (tCons (tVar 6) (tCons (tOp rSubG (tVar 3) (tOp (rIxG K) (tFld K (tVar 0) "firsts") (tVar 4))) tNil)))))))))
def t_Calendar_day (K : Fr) : TS :=
  (tSeq (tFor (iTup K (tVar 1)) (gName 2) (tDrop (tCall (sp_need_number K) [] E0 (tCons (tVar 2) (tCons (tC (.int 0)) tNil)))))
      (tSeq (tAsg (tVar 1) (gTup K 3 (gCons (gName 3) (gCons (gName 4) (gCons (gName 5) gNil)))))
      (tSeq (tAsg (tCB rDivmodG (tCons (tVar 3) (tCons (tCB (rLenG K) (tCons (tFld K (tVar 0) "own_years") tNil)) tNil))) (gTup K 2 (gCons (gName 6) (gCons (gName 7) gNil))))
      (tSeq (tAsg (tOp (rIxG K) (tFld K (tVar 0) "own_years") (tVar 7)) (gName 8))
      (tSeq (tIfS (tOr (tTest (tOp rGeG (tVar 4) (tCB (rLenG K) (tCons (tVar 8) tNil)))) (tTest (tOp rGeG (tVar 5) (tOp (rIxG K) (tVar 8) (tVar 4))))) tNever tNext)
      (tRet (tOp rAddG (tOp rAddG (tOp rMulG (tVar 6) (tFld K (tVar 0) "total")) (tOp (rIxG K) (tFld K (tVar 0) "firsts") (tMeth (He.ga K "Calendar") "index_of" (sp_Calendar_index_of K) [] E0 (tVar 0) (tCons (tVar 7) (tCons (tVar 4) tNil))))) (tVar 5))))))))
def t_Calendar_month_starts (K : Fr) : TS :=
  (tRet (tMeth (He.ga K "Calendar") "set_of_cycle" (sp_Calendar_set_of_cycle K) [] E0 (tVar 0) (tCons (tCB (rListG K) (tCons (tFld K (tVar 0) "firsts") tNil)) tNil)))
def t_Calendar_last_days (K : Fr) : TS :=
  (tRet (tMeth (He.ga K "Calendar") "set_of_cycle" (sp_Calendar_set_of_cycle K) [] E0 (tVar 0) (tCons (tLc (iZip K (tCons (tFld K (tVar 0) "firsts") (tCons (tFld K (tVar 0) "lengths") tNil))) (gTup K 2 (gCons (gName 1) (gCons (gName 2) gNil))) tYes (tOp rSubG (tOp rAddG (tVar 1) (tVar 2)) (tC (.int 1))) [1, 2]) tNil)))
def t_Calendar_months_on (K : Fr) : TS :=
  (tSeq (tDrop (tCall (sp_need_number K) [] E0 (tCons (tVar 1) (tCons (tC (.int 0)) tNil))))
      (tSeq (tAsg (tLst tNil) (gName 2))
      (tSeq (tFor (iEnum K (tCons (tMeth (He.ga K "Calendar") "owners" (sp_Calendar_owners K) [] E0 (tVar 0) tNil) tNil)) (gTup K 2 (gCons (gName 3) (gCons (gName 4) gNil))) (tSeq (tAsg (tMeth (He.ga K "Calendar") "month_at" (sp_Calendar_month_at K) [] E0 (tVar 0) (tCons (tOp rAddG (tVar 4) (tVar 1)) tNil)) (gTup K 2 (gCons (gName 5) (gCons (gName 6) gNil))))
      (tDrop (tBM K "list" rAppend (tVar 2) (tCons (tOp rAddG (tVar 5) (tCB rMin2G (tCons (tOp rSubG (tVar 3) (tOp (rIxG K) (tFld K (tVar 0) "firsts") (tVar 4))) (tCons (tOp rSubG (tVar 6) (tC (.int 1))) tNil)))) tNil)))))
      (tRet (tMeth (He.ga K "Calendar") "ladder_of_cycle" (sp_Calendar_ladder_of_cycle K) [] E0 (tVar 0) (tCons (tVar 2) (tCons (tFld K (tVar 0) "total") tNil)))))))
def t_Calendar_year_on (K : Fr) : TS :=
  (tSeq (tAsg (tOp (rIxG K) (tFld K (tVar 0) "spots") (tVar 2)) (gTup K 2 (gCons (gName 4) (gCons (gName 5) gNil))))
      (tSeq (tAsg (tCB rDivmodG (tCons (tOp rAddG (tVar 4) (tVar 3)) (tCons (tCB (rLenG K) (tCons (tFld K (tVar 0) "own_years") tNil)) tNil))) (gTup K 2 (gCons (gName 6) (gCons (gName 7) gNil))))
      (tSeq (tAsg (tCB (rLenG K) (tCons (tOp (rIxG K) (tFld K (tVar 0) "own_years") (tVar 7)) tNil)) (gName 8))
      (tSeq (tAsg (tMeth (He.ga K "Calendar") "month_at" (sp_Calendar_month_at K) [] E0 (tVar 0) (tCons (tMeth (He.ga K "Calendar") "index_of" (sp_Calendar_index_of K) [] E0 (tVar 0) (tCons (tVar 7) (tCons (tCB rMin2G (tCons (tVar 5) (tCons (tOp rSubG (tVar 8) (tC (.int 1))) tNil))) tNil))) tNil)) (gTup K 2 (gCons (gName 9) (gCons (gName 10) gNil))))
      (tSeq (tAsg (tIf (tTest (tOp rGeG (tVar 5) (tVar 8))) (tOp rSubG (tVar 10) (tC (.int 1))) (tCB rMin2G (tCons (tOp rSubG (tVar 1) (tOp (rIxG K) (tFld K (tVar 0) "firsts") (tVar 2))) (tCons (tOp rSubG (tVar 10) (tC (.int 1))) tNil)))) (gName 11))
      (tRet (tOp rAddG (tOp rAddG (tOp rMulG (tVar 6) (tFld K (tVar 0) "total")) (tVar 9)) (tVar 11))))))))
def t_Calendar_years_on (K : Fr) : TS :=
  (tSeq (tDrop (tCall (sp_need_number K) [] E0 (tCons (tVar 1) (tCons (tC (.int 0)) tNil))))
      (tSeq (tAsg (tLc (iEnum K (tCons (tMeth (He.ga K "Calendar") "owners" (sp_Calendar_owners K) [] E0 (tVar 0) tNil) tNil)) (gTup K 2 (gCons (gName 3) (gCons (gName 4) gNil))) tYes (tMeth (He.ga K "Calendar") "year_on" (sp_Calendar_year_on K) [] E0 (tVar 0) (tCons (tVar 3) (tCons (tVar 4) (tCons (tVar 1) tNil)))) [3, 4]) (gName 2))
      (tRet (tMeth (He.ga K "Calendar") "ladder_of_cycle" (sp_Calendar_ladder_of_cycle K) [] E0 (tVar 0) (tCons (tVar 2) (tCons (tFld K (tVar 0) "total") tNil))))))
def t_Calendar_months (K : Fr) : TS :=
  (tRet (tMeth (He.ga K "Calendar") "ladder_of_cycle" (sp_Calendar_ladder_of_cycle K) [] E0 (tVar 0) (tCons (tMeth (He.ga K "Calendar") "owners" (sp_Calendar_owners K) [] E0 (tVar 0) tNil) (tCons (tCB (rLenG K) (tCons (tFld K (tVar 0) "lengths") tNil)) tNil))))
theorem ok_Calendar_date {P : Program} {w : World} {K : Fr} {mg : Str → Option Value} {base : Heap} (T : Txt K mg) : Has P w K mg base 2 (He.ma K (He.ga K "Calendar") "date") ["self", "day"] (sp_Calendar_date K) := by
  obtain ⟨fd, F⟩ := T.says.def_ 67 (d := d_Calendar_date) rfl
  have F : FunD K "date" "Calendar.date" (defArgs s_Calendar_date) (defBody s_Calendar_date) (defScope s_Calendar_date) [] [] (He.ma K (He.ga K "Calendar") "date") fd := F
  obtain ⟨kp_need_number, fd_need_number, G_need_number, b_need_number⟩ := ok_need_number (P := P) (w := w) (base := base) T
  refine ⟨F.kp, fd, ?_, F.bindsN fun _ _ _ _ _ _ us hl => match us, hl with | [_, _], _ => rfl⟩
  refine ok_of F c_Calendar_date (by (intro ds d h; exact h.len)) fun cdv A outer s H E hr => ⟨t_Calendar_date K, PSs.nox
      (pss_cons (ps_expr (pe_call G_need_number (hr.mono (by decide)) (by rfl) (m_need_number T) kp_need_number b_need_number .nil pass0 (pa_cons (pv 1) (pa_cons pe_int pa_nil))))
      (pss_cons (ps_asg (pe_callB c_divmod (by rfl) (z_divmod T) (by decide +kernel) (pa_cons (pv 1) (pa_cons (pe_fld (pv 0) rfl) pa_nil))) (pg_tup (by rfl) (pgs_cons (pg_name (i := 2) c_Calendar_date.nd rfl (Or.inl rfl)) (pgs_cons (pg_name (i := 3) c_Calendar_date.nd rfl (Or.inr rfl)) pgs_nil))))
      (pss_cons (ps_set (i := 4) c_Calendar_date.nd rfl (Or.inl rfl) (pe_op op_subG (pe_callB c_len (by rfl) (z_len T) (by decide +kernel) (pa_cons (pe_lc (own := [("first", 7)]) (wi := (iList K (tFld K (tVar 0) "firsts"))) (g := (gName 7)) (tt := (tTest (tOp rLeG (tVar 7) (tVar 3)))) (te := (tVar 7)) (by rfl) c_Calendar_date.nd (pi_list (pe_fld (pv 0) rfl)) (blkOk_by (own := [("first", 7)]) (N := ["self", "day", "rounds", "rest", "index", "year", "month", "first"]) (sc := defScope s_Calendar_date) (by decide +kernel)) (fun _ _ _ _ _ => (pg_name (i := 7) c_Calendar_date.nd rfl (Or.inl rfl))) (fun _ _ _ _ _ => (pts_one (pt_cmpR op_leG (pv 7) (pv 3) (nomark _)))) (fun _ _ _ _ _ => (pv 7))) pa_nil)) pe_int))
      (pss_cons (ps_asg (pe_ix ix_G (pe_fld (pv 0) rfl) (pv 4) (fun _ _ => rfl)) (pg_tup (by rfl) (pgs_cons (pg_name (i := 5) c_Calendar_date.nd rfl (Or.inl rfl)) (pgs_cons (pg_name (i := 6) c_Calendar_date.nd rfl (Or.inl rfl)) pgs_nil))))
      (pss_one (ps_ret (pe_tup (pa_cons (pe_op op_addG (pe_op op_mulG (pv 2) (pe_callB c_len (by rfl) (z_len T) (by decide +kernel) (pa_cons (pe_fld (pv 0) rfl) pa_nil))) (pv 5)) (pa_cons (pv 6) (pa_cons (pe_op op_subG (pv 3) (pe_ix ix_G (pe_fld (pv 0) rfl) (pv 4) (fun _ _ => rfl))) pa_nil)))))))))), fun ds d hF => ?_⟩
  obtain ⟨a, b, rfl, ys, x, h, rfl, rfl, rfl⟩ := hF.ex
  walk_at "env"
  have hT := TT_le h
  have hT0 := TT_pos h
  have hN := NN_le h
  have hr := Nat.mod_lt x hT0
  have hi : loc (ml ys) (x % TT ys) < NN ys := loc_lt (ml_pos h) hr
  have hY := len_pos h
  have hY3 := h.few
  refine q_drop (ev_call (d := .non) (ea_cons (ev_var rfl) (ea_cons ev_int ea_nil)) ⟨x, 0, rfl, rfl, by omega, rfl⟩) ?_
  refine q_asg (d := .tup [.int (x / TT ys : Nat), .int (x % TT ys : Nat)]) (ev_is (ev_cb (ea_cons (ev_var rfl) (ea_cons (f_total T rfl) ea_nil)) (rc_divmod ⟨by omega, by omega⟩)) rfl) (gv_tup (gv_cons gv_name (gv_cons gv_name gv_nil)) rfl) ?_
  refine q_set (d := .int (loc (ml ys) (x % TT ys) : Nat)) (ev_is (ev_op (ev_cb (ea_cons (lc_LF (xs := tab (ms ys) (NN ys)) (fun y => decide (y ≤ ((x % TT ys : Nat) : Int))) (f_firsts T rfl) (by rw [tab_len]; omega) (by decide) (fun y _ => et_test (ev_op (ev_var rfl) (ev_var rfl) rd_leG)) fun y _ => ev_var rfl) ea_nil) rc_lenL) ev_int rd_subG) ?_) ?_
  · rw [List.length_map, firsts_upto h hr]
    congr 1
    omega
  refine q_asg (ev_op (f_spots T rfl) (ev_var rfl) (rd_ixL (at_spots hi))) (gv_tup (gv_cons gv_name (gv_cons gv_name gv_nil)) rfl) ?_
  refine l_ret (ev_tup (ea_cons (ev_is (ev_op (ev_op (ev_var rfl) (ev_cb (ea_cons (f_own_years T rfl) ea_nil) rc_lenL) (rd_mulI (.inr ⟨by rw [yD_len]; omega, by rw [yD_len]; omega⟩))) (ev_var rfl) rd_addI) ?_) (ea_cons (ev_is (ev_var rfl) ?_) (ea_cons (ev_is (ev_op (ev_var rfl) (ev_op (f_firsts T rfl) (ev_var rfl) (rd_ixL (at_tab hi))) rd_subG) ?_) ea_nil))) (by simp)) rfl
  · rw [yD_len, mod_yof h x]
    congr 1
    rw [Int.natCast_add, Int.natCast_mul, Int.mul_comm, Int.add_comm]
  · rw [mod_mof h x]
  · rw [mod_pl h x]
    congr 1
    have := (loc_spec (ml_pos h) (x % TT ys)).1
    show _ = ((x % TT ys - sm (ml ys) (loc (ml ys) (x % TT ys)) : Nat) : Int)
    have h4 : ms ys (loc (ml ys) (x % TT ys)) = sm (ml ys) (loc (ml ys) (x % TT ys)) := rfl
    omega
theorem ok_Calendar_day {P : Program} {w : World} {K : Fr} {mg : Str → Option Value} {base : Heap} (T : Txt K mg) : Has P w K mg base 2 (He.ma K (He.ga K "Calendar") "day") ["self", "date"] (sp_Calendar_day K) := by
  obtain ⟨fd, F⟩ := T.says.def_ 68 (d := d_Calendar_day) rfl
  have F : FunD K "day" "Calendar.day" (defArgs s_Calendar_day) (defBody s_Calendar_day) (defScope s_Calendar_day) [] [] (He.ma K (He.ga K "Calendar") "day") fd := F
  obtain ⟨kp_Calendar_index_of, fd_Calendar_index_of, G_Calendar_index_of, b_Calendar_index_of⟩ := ok_Calendar_index_of (P := P) (w := w) (base := base) T
  obtain ⟨kp_need_number, fd_need_number, G_need_number, b_need_number⟩ := ok_need_number (P := P) (w := w) (base := base) T
  refine ⟨F.kp, fd, ?_, F.bindsN fun _ _ _ _ _ _ us hl => match us, hl with | [_, _], _ => rfl⟩
  refine ok_of F c_Calendar_day (by (intro ds d h; exact h.len)) fun cdv A outer s H E hr => ⟨t_Calendar_day K, PSs.nox
      (pss_cons (ps_for PassesOwn.never rfl (pi_tup (pv 1)) (pg_name (i := 2) c_Calendar_day.nd rfl (Or.inl rfl)) (pss_one (ps_expr (pe_call G_need_number (hr.mono (by decide)) (by rfl) (m_need_number T) kp_need_number b_need_number .nil pass0 (pa_cons (pv 2) (pa_cons pe_int pa_nil))))))
      (pss_cons (ps_asg (pv 1) (pg_tup (by rfl) (pgs_cons (pg_name (i := 3) c_Calendar_day.nd rfl (Or.inl rfl)) (pgs_cons (pg_name (i := 4) c_Calendar_day.nd rfl (Or.inl rfl)) (pgs_cons (pg_name (i := 5) c_Calendar_day.nd rfl (Or.inl rfl)) pgs_nil)))))
      (pss_cons (ps_asg (pe_callB c_divmod (by rfl) (z_divmod T) (by decide +kernel) (pa_cons (pv 3) (pa_cons (pe_callB c_len (by rfl) (z_len T) (by decide +kernel) (pa_cons (pe_fld (pv 0) rfl) pa_nil)) pa_nil))) (pg_tup (by rfl) (pgs_cons (pg_name (i := 6) c_Calendar_day.nd rfl (Or.inl rfl)) (pgs_cons (pg_name (i := 7) c_Calendar_day.nd rfl (Or.inl rfl)) pgs_nil))))
      (pss_cons (ps_set (i := 8) c_Calendar_day.nd rfl (Or.inl rfl) (pe_ix ix_G (pe_fld (pv 0) rfl) (pv 7) (fun _ _ => rfl)))
      (pss_cons (ps_if (PW.pt (pw_or (pt_cmpR op_geG (pv 4) (pe_callB c_len (by rfl) (z_len T) (by decide +kernel) (pa_cons (pv 8) pa_nil)) (nomark _)) (pw_or1 (pt_cmpR op_geG (pv 5) (pe_ix ix_G (pv 8) (pv 4) (fun _ _ => rfl)) (nomark _))))) (pss_one ps_never) pss_nil)
      (pss_one (ps_ret (pe_op op_addG (pe_op op_addG (pe_op op_mulG (pv 6) (pe_fld (pv 0) rfl)) (pe_ix ix_G (pe_fld (pv 0) rfl) (pe_meth (pv 0) (k_Calendar T) (mt_Calendar_index_of T) G_Calendar_index_of (hr.mono (by decide)) b_Calendar_index_of .nil pass0 (pa_cons (pv 7) (pa_cons (pv 4) pa_nil))) (fun _ _ => rfl))) (pv 5))))))))), fun ds d hF => ?_⟩
  obtain ⟨a, b, rfl, ys, q, m, p, h, rfl, rfl, hm, hp, rfl⟩ := hF.ex
  walk_at "env"
  have hT := TT_le h
  have hY := len_pos h
  have hY3 := h.few
  have hq := Nat.mod_lt q hY
  have hm' : m < yc ys (q % ys.length) := by rw [← mod_yc h q]; exact hm
  refine q_for (items := [.int (q : Nat), .int (m : Nat), .int (p : Nat)]) (iv_tup (ev_var rfl)) (fun i e M => ∃ x : Option Dt, e = [some (calD K ys), some (.tup [.int (q : Nat), .int (m : Nat), .int (p : Nat)]), x, none, none, none, none, none, none] ∧ M = none) ⟨none, rfl, rfl⟩ ?_ ?_
  · rintro i d e M hd ⟨x, rfl, rfl⟩
    have : ∃ n : Nat, d = .int (n : Nat) := by
      rcases i with _ | _ | _ | i
      · exact ⟨q, by cases hd; rfl⟩
      · exact ⟨m, by cases hd; rfl⟩
      · exact ⟨p, by cases hd; rfl⟩
      · simp at hd
    obtain ⟨n, rfl⟩ := this
    exact ⟨_, gv_name, l_q (q_drop (ev_call (d := .non) (ea_cons (ev_var rfl) (ea_cons ev_int ea_nil)) ⟨n, 0, rfl, rfl, by omega, rfl⟩) (l_end ⟨some (.int (n : Nat)), rfl, rfl⟩))⟩
  rintro e M ⟨x, rfl, rfl⟩
  refine q_asg (ev_var rfl) (gv_tup (gv_cons gv_name (gv_cons gv_name (gv_cons gv_name gv_nil))) rfl) ?_
  refine q_asg (d := .tup [.int (q / ys.length : Nat), .int (q % ys.length : Nat)]) (ev_is (ev_cb (ea_cons (ev_var rfl) (ea_cons (ev_cb (ea_cons (f_own_years T rfl) ea_nil) rc_lenL) ea_nil)) (rc_divmod ⟨by rw [yD_len]; omega, by rw [yD_len]; omega⟩)) (by rw [yD_len]; rfl)) (gv_tup (gv_cons gv_name (gv_cons gv_name gv_nil)) rfl) ?_
  refine q_set (d := natL (yr ys q)) (ev_op (f_own_years T rfl) (ev_var rfl) (rd_ixL (at_years h q))) ?_
  refine q_no (et_is (et_or (a := false) (b := false) (et_is (et_test (ev_op (ev_var rfl) (ev_cb (ea_cons (ev_var rfl) ea_nil) rc_lenL) rd_geG)) ?_) fun _ => et_is (et_test (ev_op (ev_var rfl) (ev_op (ev_var rfl) (ev_var rfl) (rd_ixL (at_months h hm))) rd_geG)) ?_) rfl) ?_
  · refine decide_eq_false ?_
    rw [List.length_map]
    have : m < (yr ys q).length := hm
    omega
  · exact decide_eq_false (by omega)
  refine l_ret (ev_is (ev_op (ev_op (ev_op (ev_var rfl) (f_total T rfl) (rd_mulI (.inr ⟨by omega, by omega⟩))) (ev_op (f_firsts T rfl) (cal_meth (d := .int (yst ys (q % ys.length) + m : Nat)) rfl rfl (ea_cons (ev_var rfl) (ea_cons (ev_var rfl) ea_nil)) ⟨ys, q % ys.length, m, h, rfl, rfl, rfl, hq, hm', rfl⟩) (rd_ixL (at_tab (idx_lt h hq hm')))) rd_addI) (ev_var rfl) rd_addI) ?_) rfl
  rw [at3_mod h]
  congr 1
  rw [Int.natCast_add, Int.natCast_add (ms ys (yst ys (q % ys.length) + m)), Int.natCast_mul, Int.mul_comm, Int.add_comm ((TT ys : Nat) * _ : Int)]
theorem ok_Calendar_month_starts {P : Program} {w : World} {K : Fr} {mg : Str → Option Value} {base : Heap} (T : Txt K mg) : Has P w K mg base 8 (He.ma K (He.ga K "Calendar") "month_starts") ["self"] (sp_Calendar_month_starts K) := by
  obtain ⟨fd, F⟩ := T.says.def_ 69 (d := d_Calendar_month_starts) rfl
  have F : FunD K "month_starts" "Calendar.month_starts" (defArgs s_Calendar_month_starts) (defBody s_Calendar_month_starts) (defScope s_Calendar_month_starts) [] [] (He.ma K (He.ga K "Calendar") "month_starts") fd := F
  obtain ⟨kp_Calendar_set_of_cycle, fd_Calendar_set_of_cycle, G_Calendar_set_of_cycle, b_Calendar_set_of_cycle⟩ := ok_Calendar_set_of_cycle (P := P) (w := w) (base := base) T
  refine ⟨F.kp, fd, ?_, F.bindsN fun _ _ _ _ _ _ us hl => match us, hl with | [_], _ => rfl⟩
  refine ok_of F c_Calendar_month_starts (by (intro ds d h; exact h.len)) fun cdv A outer s H E hr => ⟨t_Calendar_month_starts K, PSs.nox
      (pss_one (ps_ret (pe_meth (pv 0) (k_Calendar T) (mt_Calendar_set_of_cycle T) G_Calendar_set_of_cycle (hr.mono (by decide)) b_Calendar_set_of_cycle .nil pass0 (pa_cons (pe_callTy c_list (by rfl) (z_list T) (by decide +kernel) (pa_cons (pe_fld (pv 0) rfl) pa_nil)) pa_nil)))), fun ds d hF => ?_⟩
  obtain ⟨a, rfl, ys, h, rfl, rfl⟩ := hF.ex
  walk_at "env"
  exact l_ret (cal_meth (d := setC (stS (ml ys))) rfl rfl (ea_cons (ev_cb (ea_cons (f_firsts T rfl) ea_nil) rc_listL) ea_nil) ⟨ys, stS (ml ys), h, rfl, by rw [show TT ys = sm (ml ys) (NN ys) from rfl, days_st (ml_per h) (ml_pos h)], stS_per (ml_per h) (ml_pos h), rfl⟩) rfl
theorem ok_Calendar_last_days {P : Program} {w : World} {K : Fr} {mg : Str → Option Value} {base : Heap} (T : Txt K mg) : Has P w K mg base 8 (He.ma K (He.ga K "Calendar") "last_days") ["self"] (sp_Calendar_last_days K) := by
  obtain ⟨fd, F⟩ := T.says.def_ 70 (d := d_Calendar_last_days) rfl
  have F : FunD K "last_days" "Calendar.last_days" (defArgs s_Calendar_last_days) (defBody s_Calendar_last_days) (defScope s_Calendar_last_days) [] [] (He.ma K (He.ga K "Calendar") "last_days") fd := F
  obtain ⟨kp_Calendar_set_of_cycle, fd_Calendar_set_of_cycle, G_Calendar_set_of_cycle, b_Calendar_set_of_cycle⟩ := ok_Calendar_set_of_cycle (P := P) (w := w) (base := base) T
  refine ⟨F.kp, fd, ?_, F.bindsN fun _ _ _ _ _ _ us hl => match us, hl with | [_], _ => rfl⟩
  refine ok_of F c_Calendar_last_days (by (intro ds d h; exact h.len)) fun cdv A outer s H E hr => ⟨t_Calendar_last_days K, PSs.nox
      (pss_one (ps_ret (pe_meth (pv 0) (k_Calendar T) (mt_Calendar_set_of_cycle T) G_Calendar_set_of_cycle (hr.mono (by decide)) b_Calendar_set_of_cycle .nil pass0 (pa_cons (pe_lc (own := [("first", 1), ("length", 2)]) (wi := (iZip K (tCons (tFld K (tVar 0) "firsts") (tCons (tFld K (tVar 0) "lengths") tNil)))) (g := (gTup K 2 (gCons (gName 1) (gCons (gName 2) gNil)))) (tt := tYes) (te := (tOp rSubG (tOp rAddG (tVar 1) (tVar 2)) (tC (.int 1)))) (by rfl) c_Calendar_last_days.nd (pi_zip (by rfl) (z_zip T) (pa_cons (pe_fld (pv 0) rfl) (pa_cons (pe_fld (pv 0) rfl) pa_nil))) (blkOk_by (own := [("first", 1), ("length", 2)]) (N := ["self", "first", "length"]) (sc := defScope s_Calendar_last_days) (by decide +kernel)) (fun _ _ _ _ _ => (pg_tup (by rfl) (pgs_cons (pg_name (i := 1) c_Calendar_last_days.nd rfl (Or.inl rfl)) (pgs_cons (pg_name (i := 2) c_Calendar_last_days.nd rfl (Or.inl rfl)) pgs_nil)))) (fun _ _ _ _ _ => pts_nil) (fun _ _ _ _ _ => (pe_op op_subG (pe_op op_addG (pv 1) (pv 2)) pe_int))) pa_nil)))), fun ds d hF => ?_⟩
  obtain ⟨a, rfl, ys, h, rfl, rfl⟩ := hF.ex
  walk_at "env"
  have hN := NN_le h
  refine l_ret (cal_meth (d := setC (enS (ml ys))) rfl rfl (ea_cons (ev_lc1 (out := (tab (fun k => sm (ml ys) (k + 1) - 1) (NN ys)).map Dt.int) (items := zipD ((tab (ms ys) (NN ys)).map Dt.int) ((tab (ml ys) (NN ys)).map Dt.int)) (fun d => match d with | .tup [.int x, .int y] => .int (x + y - 1) | d => d) (iv_zip (ea_cons (f_firsts T rfl) (ea_cons (f_lengths T rfl) ea_nil))) ?_ (gk_tup (gk_cons (gk_name (by decide)) (gk_cons (gk_name (by decide)) gk_nil))) (fun d hd => ?_) ?_) ea_nil)
    ⟨ys, enS (ml ys), h, rfl, by rw [show TT ys = sm (ml ys) (NN ys) from rfl, days_en (ml_per h) (ml_pos h)], enS_per (ml_per h) (ml_pos h), rfl⟩) rfl
  · unfold zipD
    simp [tab_len]; omega
  · obtain ⟨x, y, _, rfl⟩ := memZ hd
    exact ⟨_, gv_tup (gv_cons gv_name (gv_cons gv_name gv_nil)) rfl, ev_op (ev_op (ev_var rfl) (ev_var rfl) rd_addI) ev_int rd_subG⟩
  · rw [zipD_map]
    unfold tab
    rw [List.zip_map', List.map_map, List.map_map]
    apply List.map_congr_left
    intro k _
    have := ml_pos h k
    have e : sm (ml ys) (k + 1) = sm (ml ys) k + ml ys k := rfl
    show Dt.int (((sm (ml ys) k : Nat) : Int) + ((ml ys k : Nat) : Int) - 1) = Dt.int ((sm (ml ys) (k + 1) - 1 : Nat) : Int)
    congr 1
    omega
theorem ok_Calendar_months_on {P : Program} {w : World} {K : Fr} {mg : Str → Option Value} {base : Heap} (T : Txt K mg) : Has P w K mg base 6 (He.ma K (He.ga K "Calendar") "months_on") ["self", "months"] (sp_Calendar_months_on K) := by
  obtain ⟨fd, F⟩ := T.says.def_ 71 (d := d_Calendar_months_on) rfl
  have F : FunD K "months_on" "Calendar.months_on" (defArgs s_Calendar_months_on) (defBody s_Calendar_months_on) (defScope s_Calendar_months_on) [] [] (He.ma K (He.ga K "Calendar") "months_on") fd := F
  obtain ⟨kp_Calendar_ladder_of_cycle, fd_Calendar_ladder_of_cycle, G_Calendar_ladder_of_cycle, b_Calendar_ladder_of_cycle⟩ := ok_Calendar_ladder_of_cycle (P := P) (w := w) (base := base) T
  obtain ⟨kp_Calendar_owners, fd_Calendar_owners, G_Calendar_owners, b_Calendar_owners⟩ := ok_Calendar_owners (P := P) (w := w) (base := base) T
  obtain ⟨kp_Calendar_month_at, fd_Calendar_month_at, G_Calendar_month_at, b_Calendar_month_at⟩ := ok_Calendar_month_at (P := P) (w := w) (base := base) T
  obtain ⟨kp_need_number, fd_need_number, G_need_number, b_need_number⟩ := ok_need_number (P := P) (w := w) (base := base) T
  refine ⟨F.kp, fd, ?_, F.bindsN fun _ _ _ _ _ _ us hl => match us, hl with | [_, _], _ => rfl⟩
  refine ok_of F c_Calendar_months_on (by (intro ds d h; exact h.len)) fun cdv A outer s H E hr => ⟨t_Calendar_months_on K, PSs.nox
      (pss_cons (ps_expr (pe_call G_need_number (hr.mono (by decide)) (by rfl) (m_need_number T) kp_need_number b_need_number .nil pass0 (pa_cons (pv 1) (pa_cons pe_int pa_nil))))
      (pss_cons (ps_set (i := 2) c_Calendar_months_on.nd rfl (Or.inl rfl) (pe_lst pa_nil))
      (pss_cons (ps_for PassesOwn.never rfl (pi_enum (by rfl) (z_enumerate T) (pa_cons (pe_meth0 (pv 0) (k_Calendar T) (mt_Calendar_owners T) G_Calendar_owners (hr.mono (by decide)) b_Calendar_owners .nil pass0) pa_nil)) (pg_tup (by rfl) (pgs_cons (pg_name (i := 3) c_Calendar_months_on.nd rfl (Or.inl rfl)) (pgs_cons (pg_name (i := 4) c_Calendar_months_on.nd rfl (Or.inl rfl)) pgs_nil))) (pss_cons (ps_asg (pe_meth (pv 0) (k_Calendar T) (mt_Calendar_month_at T) G_Calendar_month_at (hr.mono (by decide)) b_Calendar_month_at .nil pass0 (pa_cons (pe_op op_addG (pv 4) (pv 1)) pa_nil)) (pg_tup (by rfl) (pgs_cons (pg_name (i := 5) c_Calendar_months_on.nd rfl (Or.inl rfl)) (pgs_cons (pg_name (i := 6) c_Calendar_months_on.nd rfl (Or.inl rfl)) pgs_nil))))
      (pss_one (ps_expr (pe_bm PySem.F.plainAttrs_list PySem.F.slot_list_append PySem.F.type_list_append mt_append (pv 2) (pa_cons (pe_op op_addG (pv 5) (pe_callB (c_min2 rfl) (by rfl) (z_min T) (by decide +kernel) (pa_cons (pe_op op_subG (pv 3) (pe_ix ix_G (pe_fld (pv 0) rfl) (pv 4) (fun _ _ => rfl))) (pa_cons (pe_op op_subG (pv 6) pe_int) pa_nil)))) pa_nil))))))
      (pss_one (ps_ret (pe_meth (pv 0) (k_Calendar T) (mt_Calendar_ladder_of_cycle T) G_Calendar_ladder_of_cycle (hr.mono (by decide)) b_Calendar_ladder_of_cycle .nil pass0 (pa_cons (pv 2) (pa_cons (pe_fld (pv 0) rfl) pa_nil)))))))), fun ds d hF => ?_⟩
  obtain ⟨a, b, rfl, ys, n, h, rfl, rfl, rfl⟩ := hF.ex
  walk_at "env"
  have hT := TT_le h
  have hN := NN_le h
  refine q_drop (ev_call (d := .non) (ea_cons (ev_var rfl) (ea_cons ev_int ea_nil)) ⟨n, 0, rfl, rfl, by omega, rfl⟩) ?_
  refine q_new ea_nil (by simp) fun p => ?_
  have el : (enumD ((tab (loc (ml ys)) (TT ys)).map Dt.int)).length = TT ys := by rw [enumD_tab]; simp
  refine q_for (items := enumD ((tab (loc (ml ys)) (TT ys)).map Dt.int)) (iv_enum (ea_cons (cal_meth (d := .lst ((tab (loc (ml ys)) (TT ys)).map Dt.int)) rfl rfl ea_nil ⟨ys, h, rfl, rfl⟩) ea_nil))
    (fun i e M => ∃ x3 x4 x5 x6 : Option Dt, e = [some (calD K ys), some (.int (n : Nat)), some (.raw (.ref p)), x3, x4, x5, x6] ∧ M = some (p, (tab (mo ys n) i).map Dt.int)) ⟨none, none, none, none, rfl, rfl⟩ ?_ ?_
  · rintro i d e M hd ⟨x3, x4, x5, x6, rfl, rfl⟩
    have hi : i < TT ys := by
      have := (List.getElem?_eq_some_iff.mp hd).1
      rwa [el] at this
    rw [enumD_tab, List.getElem?_map, List.getElem?_range hi] at hd
    cases hd
    have hk : loc (ml ys) i < NN ys := loc_lt (ml_pos h) hi
    refine ⟨_, gv_tup (gv_cons gv_name (gv_cons gv_name gv_nil)) rfl, ?_⟩
    refine q_asg (cal_meth (d := .tup [.int (ms ys (loc (ml ys) i + n) : Nat), .int (ml ys (loc (ml ys) i + n) : Nat)]) rfl rfl (ea_cons (ev_op (ev_var rfl) (ev_var rfl) rd_addI) ea_nil) ⟨ys, loc (ml ys) i + n, h, rfl, rfl, rfl⟩) (gv_tup (gv_cons gv_name (gv_cons gv_name gv_nil)) rfl) ?_
    refine l_q (q_app (d := .int (mo ys n i : Nat)) (ev_var rfl) (ev_is (ev_op (ev_var rfl) (ev_cb (ea_cons (ev_op (ev_var rfl) (ev_op (f_firsts T rfl) (ev_var rfl) (rd_ixL (at_tab hk))) rd_subG) (ea_cons (ev_op (ev_var rfl) ev_int rd_subG) ea_nil)) rc_min2) rd_addI) ?_) (by rw [List.length_map, tab_len]; omega) (l_end ⟨_, _, _, _, rfl, ?_⟩))
    · congr 1
      have h1 := (loc_spec (ml_pos h) i).1
      have h2 := ml_pos h (loc (ml ys) i + n)
      show _ = ((sm (ml ys) (loc (ml ys) i + n) + min (i - sm (ml ys) (loc (ml ys) i)) (ml ys (loc (ml ys) i + n) - 1) : Nat) : Int)
      have h3 : ms ys (loc (ml ys) i + n) = sm (ml ys) (loc (ml ys) i + n) := rfl
      have h4 : ms ys (loc (ml ys) i) = sm (ml ys) (loc (ml ys) i) := rfl
      omega
    · rw [tab_succ, List.map_append]; rfl
  · rintro e M ⟨x3, x4, x5, x6, rfl, rfl⟩
    rw [el]
    refine q_frz (i := 2) rfl ?_
    exact l_ret (cal_meth (d := canon (mo ys n)) rfl rfl (ea_cons (ev_var rfl) (ea_cons (f_total T rfl) ea_nil)) ⟨ys, mo ys n, TT ys, h, rfl, rfl, rfl, ⟨mo_per h n, TT_pos h, mo_mono h n⟩, by omega, rfl⟩) rfl
theorem ok_Calendar_year_on {P : Program} {w : World} {K : Fr} {mg : Str → Option Value} {base : Heap} (T : Txt K mg) : Has P w K mg base 2 (He.ma K (He.ga K "Calendar") "year_on") ["self", "day", "index", "years"] (sp_Calendar_year_on K) := by
  obtain ⟨fd, F⟩ := T.says.def_ 72 (d := d_Calendar_year_on) rfl
  have F : FunD K "year_on" "Calendar.year_on" (defArgs s_Calendar_year_on) (defBody s_Calendar_year_on) (defScope s_Calendar_year_on) [] [] (He.ma K (He.ga K "Calendar") "year_on") fd := F
  obtain ⟨kp_Calendar_month_at, fd_Calendar_month_at, G_Calendar_month_at, b_Calendar_month_at⟩ := ok_Calendar_month_at (P := P) (w := w) (base := base) T
  obtain ⟨kp_Calendar_index_of, fd_Calendar_index_of, G_Calendar_index_of, b_Calendar_index_of⟩ := ok_Calendar_index_of (P := P) (w := w) (base := base) T
  refine ⟨F.kp, fd, ?_, F.bindsN fun _ _ _ _ _ _ us hl => match us, hl with | [_, _, _, _], _ => rfl⟩
  refine ok_of F c_Calendar_year_on (by (intro ds d h; exact h.len)) fun cdv A outer s H E hr => ⟨t_Calendar_year_on K, PSs.nox
      (pss_cons (ps_asg (pe_ix ix_G (pe_fld (pv 0) rfl) (pv 2) (fun _ _ => rfl)) (pg_tup (by rfl) (pgs_cons (pg_name (i := 4) c_Calendar_year_on.nd rfl (Or.inl rfl)) (pgs_cons (pg_name (i := 5) c_Calendar_year_on.nd rfl (Or.inl rfl)) pgs_nil))))
      (pss_cons (ps_asg (pe_callB c_divmod (by rfl) (z_divmod T) (by decide +kernel) (pa_cons (pe_op op_addG (pv 4) (pv 3)) (pa_cons (pe_callB c_len (by rfl) (z_len T) (by decide +kernel) (pa_cons (pe_fld (pv 0) rfl) pa_nil)) pa_nil))) (pg_tup (by rfl) (pgs_cons (pg_name (i := 6) c_Calendar_year_on.nd rfl (Or.inl rfl)) (pgs_cons (pg_name (i := 7) c_Calendar_year_on.nd rfl (Or.inl rfl)) pgs_nil))))
      (pss_cons (ps_set (i := 8) c_Calendar_year_on.nd rfl (Or.inl rfl) (pe_callB c_len (by rfl) (z_len T) (by decide +kernel) (pa_cons (pe_ix ix_G (pe_fld (pv 0) rfl) (pv 7) (fun _ _ => rfl)) pa_nil)))
      (pss_cons (ps_asg (pe_meth (pv 0) (k_Calendar T) (mt_Calendar_month_at T) G_Calendar_month_at (hr.mono (by decide)) b_Calendar_month_at .nil pass0 (pa_cons (pe_meth (pv 0) (k_Calendar T) (mt_Calendar_index_of T) G_Calendar_index_of (hr.mono (by decide)) b_Calendar_index_of .nil pass0 (pa_cons (pv 7) (pa_cons (pe_callB (c_min2 rfl) (by rfl) (z_min T) (by decide +kernel) (pa_cons (pv 5) (pa_cons (pe_op op_subG (pv 8) pe_int) pa_nil))) pa_nil))) pa_nil)) (pg_tup (by rfl) (pgs_cons (pg_name (i := 9) c_Calendar_year_on.nd rfl (Or.inl rfl)) (pgs_cons (pg_name (i := 10) c_Calendar_year_on.nd rfl (Or.inl rfl)) pgs_nil))))
      (pss_cons (ps_set (i := 11) c_Calendar_year_on.nd rfl (Or.inl rfl) (pe_ifExp (pt_cmpR op_geG (pv 5) (pv 8) (nomark _)) (pe_op op_subG (pv 10) pe_int) (pe_callB (c_min2 rfl) (by rfl) (z_min T) (by decide +kernel) (pa_cons (pe_op op_subG (pv 1) (pe_ix ix_G (pe_fld (pv 0) rfl) (pv 2) (fun _ _ => rfl))) (pa_cons (pe_op op_subG (pv 10) pe_int) pa_nil)))))
      (pss_one (ps_ret (pe_op op_addG (pe_op op_addG (pe_op op_mulG (pv 6) (pe_fld (pv 0) rfl)) (pv 9)) (pv 11))))))))), fun ds d hF => ?_⟩
  obtain ⟨a, b, c, e, rfl, ys, x, n, h, rfl, rfl, rfl, rfl, hx, rfl⟩ := hF.ex
  walk_at "env"
  have hT := TT_le h
  have hN := NN_le h
  have hY := len_pos h
  have hY3 := h.few
  have hk : loc (ml ys) x < NN ys := loc_lt (ml_pos h) hx
  generalize hq : yof ys (loc (ml ys) x) + n = q
  generalize hmm : mof ys (loc (ml ys) x) = m
  have hql := Nat.mod_lt q hY
  have hc := cm_lt h q m
  have hc' : cm ys q m < yc ys (q % ys.length) := by rw [← mod_yc h q]; exact hc
  have hyp := yc_pos h q
  refine q_asg (ev_op (f_spots T rfl) (ev_var rfl) (rd_ixL (at_spots hk))) (gv_tup (gv_cons gv_name (gv_cons gv_name gv_nil)) rfl) ?_
  refine q_asg (d := .tup [.int (q / ys.length : Nat), .int (q % ys.length : Nat)]) (ev_is (ev_cb (ea_cons (ev_op (ev_var rfl) (ev_var rfl) rd_addI) (ea_cons (ev_cb (ea_cons (f_own_years T rfl) ea_nil) rc_lenL) ea_nil)) (rc_divmod ⟨by rw [yD_len]; omega, by rw [yD_len]; omega⟩)) (by rw [yD_len, ← hq]; rfl)) (gv_tup (gv_cons gv_name (gv_cons gv_name gv_nil)) rfl) ?_
  refine q_set (d := .int (yc ys q : Nat)) (ev_is (ev_cb (ea_cons (ev_op (f_own_years T rfl) (ev_var rfl) (rd_ixL (at_years h q))) ea_nil) rc_lenL) (by rw [List.length_map]; rfl)) ?_
  refine q_asg (cal_meth (d := .tup [.int (ms ys (yst ys (q % ys.length) + cm ys q m) : Nat), .int (ml ys (yst ys (q % ys.length) + cm ys q m) : Nat)]) rfl rfl (ea_cons (cal_meth (d := .int (yst ys (q % ys.length) + cm ys q m : Nat)) rfl rfl (ea_cons (ev_var rfl) (ea_cons (ev_is (d1 := .int (cm ys q m : Nat)) (ev_cb (ea_cons (ev_var rfl) (ea_cons (ev_op (ev_var rfl) ev_int rd_subG) ea_nil)) rc_min2) ?_) ea_nil)) ⟨ys, q % ys.length, cm ys q m, h, rfl, rfl, rfl, hql, hc', rfl⟩) ea_nil) ⟨ys, _, h, rfl, rfl, rfl⟩) (gv_tup (gv_cons gv_name (gv_cons gv_name gv_nil)) rfl) ?_
  · congr 1
    unfold cm
    rw [← hmm]
    have : mof ys (loc (ml ys) x) = mof ys (loc (ml ys) x) := rfl
    show min ((mof ys (loc (ml ys) x) : Nat) : Int) ((yc ys q : Nat) - 1) = _
    omega
  have hml := ml_ymod h q (cm ys q m)
  have hml0 := ml_pos h (yst ys (q % ys.length) + cm ys q m)
  refine q_set (d := .int (cp ys q m (pl ys x) : Nat)) (ev_if (b := decide (yc ys q ≤ m)) (et_is (et_test (ev_op (ev_var rfl) (ev_var rfl) rd_geG)) ?_) (fun e => ev_is (ev_op (ev_var rfl) ev_int rd_subG) ?_) (fun e => ev_is (ev_cb (ea_cons (ev_op (ev_var rfl) (ev_op (f_firsts T rfl) (ev_var rfl) (rd_ixL (at_tab hk))) rd_subG) (ea_cons (ev_op (ev_var rfl) ev_int rd_subG) ea_nil)) rc_min2) ?_)) ?_
  · rw [← hmm]
    apply Bool.eq_iff_iff.mpr
    rw [decide_eq_true_iff, decide_eq_true_iff]
    exact Int.ofNat_le
  · have e := of_decide_eq_true e
    unfold cp
    rw [if_pos e, hml]
    congr 1
    omega
  · have e := of_decide_eq_false e
    unfold cp
    rw [if_neg e, hml]
    congr 1
    have h1 := (loc_spec (ml_pos h) x).1
    show _ = ((min (x - sm (ml ys) (loc (ml ys) x)) (ml ys (yst ys (q % ys.length) + cm ys q m) - 1) : Nat) : Int)
    have h4 : ms ys (loc (ml ys) x) = sm (ml ys) (loc (ml ys) x) := rfl
    omega
  refine l_ret (ev_is (ev_op (ev_op (ev_op (ev_var rfl) (f_total T rfl) (rd_mulI (.inr ⟨by omega, by omega⟩))) (ev_var rfl) rd_addI) (ev_var rfl) rd_addI) ?_) rfl
  have : yo ys n x = at3 ys q (cm ys q m) (cp ys q m (pl ys x)) := by rw [← hq, ← hmm]; rfl
  rw [this, at3_mod h]
  congr 1
  rw [Int.natCast_add, Int.natCast_add (ms ys (yst ys (q % ys.length) + cm ys q m)), Int.natCast_mul, Int.mul_comm, Int.add_comm ((TT ys : Nat) * _ : Int)]
theorem ok_Calendar_years_on {P : Program} {w : World} {K : Fr} {mg : Str → Option Value} {base : Heap} (T : Txt K mg) : Has P w K mg base 6 (He.ma K (He.ga K "Calendar") "years_on") ["self", "years"] (sp_Calendar_years_on K) := by
  obtain ⟨fd, F⟩ := T.says.def_ 73 (d := d_Calendar_years_on) rfl
  have F : FunD K "years_on" "Calendar.years_on" (defArgs s_Calendar_years_on) (defBody s_Calendar_years_on) (defScope s_Calendar_years_on) [] [] (He.ma K (He.ga K "Calendar") "years_on") fd := F
  obtain ⟨kp_Calendar_ladder_of_cycle, fd_Calendar_ladder_of_cycle, G_Calendar_ladder_of_cycle, b_Calendar_ladder_of_cycle⟩ := ok_Calendar_ladder_of_cycle (P := P) (w := w) (base := base) T
  obtain ⟨kp_Calendar_owners, fd_Calendar_owners, G_Calendar_owners, b_Calendar_owners⟩ := ok_Calendar_owners (P := P) (w := w) (base := base) T
  obtain ⟨kp_Calendar_year_on, fd_Calendar_year_on, G_Calendar_year_on, b_Calendar_year_on⟩ := ok_Calendar_year_on (P := P) (w := w) (base := base) T
  obtain ⟨kp_need_number, fd_need_number, G_need_number, b_need_number⟩ := ok_need_number (P := P) (w := w) (base := base) T
  refine ⟨F.kp, fd, ?_, F.bindsN fun _ _ _ _ _ _ us hl => match us, hl with | [_, _], _ => rfl⟩
  refine ok_of F c_Calendar_years_on (by (intro ds d h; exact h.len)) fun cdv A outer s H E hr => ⟨t_Calendar_years_on K, PSs.nox
      (pss_cons (ps_expr (pe_call G_need_number (hr.mono (by decide)) (by rfl) (m_need_number T) kp_need_number b_need_number .nil pass0 (pa_cons (pv 1) (pa_cons pe_int pa_nil))))
      (pss_cons (ps_setLc (i := 2) (own := [("day", 3), ("index", 4)]) (wi := (iEnum K (tCons (tMeth (He.ga K "Calendar") "owners" (sp_Calendar_owners K) [] E0 (tVar 0) tNil) tNil))) (g := (gTup K 2 (gCons (gName 3) (gCons (gName 4) gNil)))) (tt := tYes) (te := (tMeth (He.ga K "Calendar") "year_on" (sp_Calendar_year_on K) [] E0 (tVar 0) (tCons (tVar 3) (tCons (tVar 4) (tCons (tVar 1) tNil))))) (by rfl) c_Calendar_years_on.nd rfl rfl (sw_true rfl rfl rfl (by decide +kernel)) (pi_enum (by rfl) (z_enumerate T) (pa_cons (pe_meth0 (pv 0) (k_Calendar T) (mt_Calendar_owners T) G_Calendar_owners (hr.mono (by decide)) b_Calendar_owners .nil pass0) pa_nil)) (blkOk_by (own := [("day", 3), ("index", 4)]) (N := ["self", "years", "found", "day", "index"]) (sc := defScope s_Calendar_years_on) (by decide +kernel)) (fun _ _ _ _ _ => (pg_tup (by rfl) (pgs_cons (pg_name (i := 3) c_Calendar_years_on.nd rfl (Or.inl rfl)) (pgs_cons (pg_name (i := 4) c_Calendar_years_on.nd rfl (Or.inl rfl)) pgs_nil)))) (fun _ _ _ _ _ => pts_nil) (fun _ _ _ _ _ => (pe_meth (pv 0) (k_Calendar T) (mt_Calendar_year_on T) G_Calendar_year_on (hr.mono (by decide)) b_Calendar_year_on .nil pass0 (pa_cons (pv 3) (pa_cons (pv 4) (pa_cons (pv 1) pa_nil))))))
      (pss_one (ps_ret (pe_meth (pv 0) (k_Calendar T) (mt_Calendar_ladder_of_cycle T) G_Calendar_ladder_of_cycle (hr.mono (by decide)) b_Calendar_ladder_of_cycle .nil pass0 (pa_cons (pv 2) (pa_cons (pe_fld (pv 0) rfl) pa_nil))))))), fun ds d hF => ?_⟩
  obtain ⟨a, b, rfl, ys, n, h, rfl, rfl, rfl⟩ := hF.ex
  walk_at "env"
  have hT := TT_le h
  refine q_drop (ev_call (d := .non) (ea_cons (ev_var rfl) (ea_cons ev_int ea_nil)) ⟨n, 0, rfl, rfl, by omega, rfl⟩) ?_
  refine q_set (d := .lst ((tab (yo ys n) (TT ys)).map Dt.int)) (ev_lc1 (items := enumD ((tab (loc (ml ys)) (TT ys)).map Dt.int)) (fun d => match d with | .tup [.int x, _] => .int (yo ys n x.toNat : Nat) | d => d) (iv_enum (ea_cons (cal_meth (d := .lst ((tab (loc (ml ys)) (TT ys)).map Dt.int)) rfl rfl ea_nil ⟨ys, h, rfl, rfl⟩) ea_nil)) ?_ (gk_tup (gk_cons (gk_name (by decide)) (gk_cons (gk_name (by decide)) gk_nil))) (fun d hd => ?_) ?_) ?_
  · rw [enumD_tab]; simp; omega
  · rw [enumD_tab] at hd
    obtain ⟨k, hk, rfl⟩ := List.mem_map.mp hd
    refine ⟨_, gv_tup (gv_cons gv_name (gv_cons gv_name gv_nil)) rfl, ?_⟩
    exact cal_meth rfl rfl (ea_cons (ev_var rfl) (ea_cons (ev_var rfl) (ea_cons (ev_var rfl) ea_nil))) ⟨ys, k, n, h, rfl, rfl, rfl, rfl, List.mem_range.mp hk, by show Dt.int ((yo ys n (Int.toNat (k : Nat)) : Nat) : Int) = _; rw [Int.toNat_natCast]⟩
  · rw [enumD_tab, List.map_map]
    unfold tab
    rw [List.map_map]
    apply List.map_congr_left
    intro k _
    show Dt.int ((yo ys n (Int.toNat (k : Nat)) : Nat) : Int) = _
    rw [Int.toNat_natCast]; rfl
  exact l_ret (cal_meth (d := canon (yo ys n)) rfl rfl (ea_cons (ev_var rfl) (ea_cons (f_total T rfl) ea_nil)) ⟨ys, yo ys n, TT ys, h, rfl, rfl, rfl, ⟨yo_per h n, TT_pos h, yo_mono h n⟩, by omega, rfl⟩) rfl
theorem ok_Calendar_months {P : Program} {w : World} {K : Fr} {mg : Str → Option Value} {base : Heap} (T : Txt K mg) : Has P w K mg base 6 (He.ma K (He.ga K "Calendar") "months") ["self"] (sp_Calendar_months K) := by
  obtain ⟨fd, F⟩ := T.says.def_ 74 (d := d_Calendar_months) rfl
  have F : FunD K "months" "Calendar.months" (defArgs s_Calendar_months) (defBody s_Calendar_months) (defScope s_Calendar_months) [] [] (He.ma K (He.ga K "Calendar") "months") fd := F
  obtain ⟨kp_Calendar_ladder_of_cycle, fd_Calendar_ladder_of_cycle, G_Calendar_ladder_of_cycle, b_Calendar_ladder_of_cycle⟩ := ok_Calendar_ladder_of_cycle (P := P) (w := w) (base := base) T
  obtain ⟨kp_Calendar_owners, fd_Calendar_owners, G_Calendar_owners, b_Calendar_owners⟩ := ok_Calendar_owners (P := P) (w := w) (base := base) T
  refine ⟨F.kp, fd, ?_, F.bindsN fun _ _ _ _ _ _ us hl => match us, hl with | [_], _ => rfl⟩
  refine ok_of F c_Calendar_months (by (intro ds d h; exact h.len)) fun cdv A outer s H E hr => ⟨t_Calendar_months K, PSs.nox
      (pss_one (ps_ret (pe_meth (pv 0) (k_Calendar T) (mt_Calendar_ladder_of_cycle T) G_Calendar_ladder_of_cycle (hr.mono (by decide)) b_Calendar_ladder_of_cycle .nil pass0 (pa_cons (pe_meth0 (pv 0) (k_Calendar T) (mt_Calendar_owners T) G_Calendar_owners (hr.mono (by decide)) b_Calendar_owners .nil pass0) (pa_cons (pe_callB c_len (by rfl) (z_len T) (by decide +kernel) (pa_cons (pe_fld (pv 0) rfl) pa_nil)) pa_nil))))), fun ds d hF => ?_⟩
  obtain ⟨a, rfl, ys, h, rfl, rfl⟩ := hF.ex
  walk_at "env"
  have hN := NN_le h
  exact l_ret (cal_meth (d := canon (loc (ml ys))) rfl rfl (ea_cons (cal_meth (d := .lst ((tab (loc (ml ys)) (TT ys)).map Dt.int)) rfl rfl ea_nil ⟨ys, h, rfl, rfl⟩) (ea_cons (ev_is (ev_cb (ea_cons (f_lengths T rfl) ea_nil) rc_lenL) (by rw [List.length_map, tab_len])) ea_nil)) ⟨ys, loc (ml ys), NN ys, h, rfl, rfl, rfl, ⟨mon_per h, TT_pos h, loc_mono (ml_pos h)⟩, by omega, rfl⟩) rfl
end Lk
set_option Elab.async false
set_option linter.all false
set_option maxRecDepth 100000
set_option maxHeartbeats 4000000
namespace Lk
open PySem L2
local macro_rules | `(tactic| walk_at "ev1") => `(tactic| first
  | ((with_reducible apply ev_var); exact rfl)
  | with_reducible exact ev_int | with_reducible exact ev_str | with_reducible exact ev_bl | with_reducible exact ev_non | with_reducible exact ea_nil | with_reducible apply ea_cons
  | with_reducible exact rd_addI | with_reducible exact rd_subG | with_reducible exact rd_ltG | with_reducible exact rd_leG | with_reducible exact rd_gtG | with_reducible exact rd_geG | with_reducible exact rd_eqI | with_reducible exact rd_neI | with_reducible exact rd_eqS
  | with_reducible exact rc_lenL | with_reducible exact rc_lenT | with_reducible exact rc_max2 | with_reducible exact rc_min2 | with_reducible exact rc_abs | with_reducible exact rc_intI | with_reducible exact rc_intB | with_reducible exact rc_listL | with_reducible exact rc_tupleL | with_reducible exact rc_all | with_reducible exact rc_sum
  | with_reducible exact gv_name | with_reducible exact gv_nil | with_reducible apply gv_cons | ((with_reducible apply gv_tup) <;> try exact rfl)
  | with_reducible apply rd_mulI | with_reducible apply rd_fdivG | with_reducible apply rd_modG | with_reducible apply rc_divmod | with_reducible apply rd_ixL | with_reducible apply rd_ixT | with_reducible apply rd_addL
  | with_reducible apply ev_tup | with_reducible apply ev_lst | with_reducible apply ev_op | with_reducible apply ev_cb | with_reducible exact eo_none | with_reducible apply eo_some | with_reducible apply ev_neg
  | with_reducible apply et_test | with_reducible apply et_B | with_reducible apply et_not | exact Nat.le_of_ble_eq_true rfl)
local macro_rules | `(tactic| walk_at "ev") => `(tactic| repeat' (walk_at "ev1"))
local macro_rules | `(tactic| walk_at "env") => `(tactic| simp only [rep, ladD, setS, setC, env0, List.map_cons, List.map_nil, List.length_cons, List.length_nil, Nat.reduceAdd, Nat.reduceSub, List.replicate_succ, List.replicate_zero, List.cons_append, List.nil_append])
-- IMPORTS LkB2
/-! ### copies -/
theorem sml_ints {ns : List Int} (h : ns.length ≤ 1000) : Sml 1 (.lst (ns.map Dt.int)) := .lst (by rw [List.length_map]; exact h) fun d hd => by
  obtain ⟨x, _, rfl⟩ := List.mem_map.mp hd
  exact .int 0 x
theorem sml_yD {ys : Yrs} (h : YOk ys) : Sml 2 (yD ys) := .lst (by rw [yD_len]; have := h.few; omega) fun d hd => by
  obtain ⟨l, hl, rfl⟩ := List.mem_map.mp hd
  rw [natL_eq]
  exact sml_ints (by rw [List.length_map]; have := (h.ms l hl).2.1; omega)
theorem sml_set {S : Nat → Bool} {n : Nat} (h : n ≤ 1000) : Sml 2 (setS S n) :=   .tup (by simp) fun d hd => by
  have hl := days_len S n
  rcases List.mem_cons.mp hd with rfl | hd
  · exact sml_ints (ns := []) (by decide)
  rcases List.mem_cons.mp hd with rfl | hd
  · exact .int 1 _
  rcases List.mem_cons.mp hd with rfl | hd
  · exact .int 1 _
  rcases List.mem_cons.mp hd with rfl | hd
  · exact sml_ints (by omega)
  · cases hd
def t_copied0 (K : Fr) : TS :=
  (tSeq (tIfS (tB (tCB (rIsi K) (tCons (tVar 0) (tCons (tC (.ty "list")) tNil)))) tNever tNext)
      (tSeq (tIfS (tB (tCB (rIsi K) (tCons (tVar 0) (tCons (tC (.ty "tuple")) tNil)))) tNever tNext)
      (tRet (tVar 0))))
def t_copiedS (K : Fr) (S : Sp) : TS :=
  (tSeq (tIfS (tB (tCB (rIsi K) (tCons (tVar 0) (tCons (tC (.ty "list")) tNil)))) (tRet (tLc (iList K (tVar 0)) (gName 1) tYes (tCall S [] E0 (tCons (tVar 1) tNil)) [1])) tNext)
      (tSeq (tIfS (tB (tCB (rIsi K) (tCons (tVar 0) (tCons (tC (.ty "tuple")) tNil)))) (tRet (tCB (rTupleG K) (tCons (tLc (iTup K (tVar 0)) (gName 1) tYes (tCall S [] E0 (tCons (tVar 1) tNil)) [1]) tNil))) tNext)
      (tRet (tVar 0))))
theorem et_isi {K : Fr} {env : Env} {i : Nat} {d : Dt} {t u : String} {b : Bool} (h : env[i]? = some (some d)) (ht : tyOfD d = some t) (hk : PySem.W.kitOne K (.type t) (.type u) = some b) : ET K (tB (tCB (rIsi K) (tCons (tVar i) (tCons (tC (.ty u)) tNil)))) env b :=
  et_B (ev_cb (ea_cons (ev_var h) (ea_cons ev_raw ea_nil)) (rc_isi ht hk))
theorem kit_il {K : Fr} : PySem.W.kitOne K (.type "int") (.type "list") = some false := by kernel_rfl
theorem kit_it {K : Fr} : PySem.W.kitOne K (.type "int") (.type "tuple") = some false := by kernel_rfl
theorem kit_ll {K : Fr} : PySem.W.kitOne K (.type "list") (.type "list") = some true := by kernel_rfl
theorem kit_tl {K : Fr} : PySem.W.kitOne K (.type "tuple") (.type "list") = some false := by kernel_rfl
theorem kit_tt {K : Fr} : PySem.W.kitOne K (.type "tuple") (.type "tuple") = some true := by kernel_rfl
theorem sv_copied0 {K : Fr} {d : Dt} {E : Ed} (h : Sml 0 d) (e : E.rt d) : SV K (t_copied0 K) [some d, none] none E := by
  cases h with
  | int k i =>
    refine q_no (et_isi rfl rfl kit_il) ?_
    refine q_no (et_isi rfl rfl kit_it) ?_
    exact l_ret (ev_var rfl) e
theorem sv_copiedS {K : Fr} {k : Nat} {d : Dt} {E : Ed} (h : Sml (k + 1) d) (e : E.rt d) : SV K (t_copiedS K (spD K (F_copiedAt k))) [some d, none] none E := by
  cases h with
  | int k i =>
    refine q_no (et_isi rfl rfl kit_il) ?_
    refine q_no (et_isi rfl rfl kit_it) ?_
    exact l_ret (ev_var rfl) e
  | lst hl h =>
    rename_i ds
    refine q_yes (et_isi rfl rfl kit_ll) ?_
    exact q_ret (ev_lc1 (fun d => d) (iv_list (ev_var rfl)) (by omega) (gk_name (by decide)) (fun d hd => ⟨_, gv_name, ev_call (ea_cons (ev_var rfl) ea_nil) ⟨h d hd, rfl⟩⟩) (List.map_id' ds)) e
  | tup hl h =>
    rename_i ds
    refine q_no (et_isi rfl rfl kit_tl) ?_
    refine q_yes (et_isi rfl rfl kit_tt) ?_
    exact q_ret (ev_cb (ea_cons (ev_lc1 (fun d => d) (iv_tup (ev_var rfl)) (by omega) (gk_name (by decide)) (fun d hd => ⟨_, gv_name, ev_call (ea_cons (ev_var rfl) ea_nil) ⟨h d hd, rfl⟩⟩) (List.map_id' ds)) ea_nil) rc_tupleL) e
theorem copied_at {P : Program} {w : World} {K : Fr} {mg : Str → Option Value} {base : Heap} (T : Txt K mg) : ∀ k, Has P w K mg base (k + 1) (He.ga K "copied") ["thing"] (spD K (F_copiedAt k))
  | 0 => by
    obtain ⟨fd, F⟩ := T.says.def_ 0 (d := d_copied) rfl
    have F : FunD K "copied" "copied" (defArgs s_copied) (defBody s_copied) (defScope s_copied) [] [] (He.ga K "copied") fd := F
    refine ⟨F.kp, fd, ?_, F.bindsN fun _ _ _ _ _ _ us hl => match us, hl with | [_], _ => rfl⟩
    refine ok_of F c_copied (by (intro ds d h; exact h.len)) fun cdv A outer s H E hr => ⟨t_copied0 K, PSs.nox
      (pss_cons (ps_if (pt_val (pe_callB call_isi (by rfl) (z_isinstance T) (by decide +kernel) (pa_cons (pv 0) (pa_cons (pe_bltn (v := .ty "list") (by rfl) (z_list T) (by decide +kernel) rfl) pa_nil)))) pss_never pss_nil)
      (pss_cons (ps_if (pt_val (pe_callB call_isi (by rfl) (z_isinstance T) (by decide +kernel) (pa_cons (pv 0) (pa_cons (pe_bltn (v := .ty "tuple") (by rfl) (z_tuple T) (by decide +kernel) rfl) pa_nil)))) pss_never pss_nil)
      (pss_one (ps_ret (pv 0))))), fun ds d hF => ?_⟩
    obtain ⟨a, rfl, h, rfl⟩ := hF.ex
    exact sv_copied0 h rfl
  | k + 1 => by
    obtain ⟨kp_copied, fd_copied, G_copied, b_copied⟩ := copied_at (P := P) (w := w) (base := base) T k
    obtain ⟨fd, F⟩ := T.says.def_ 0 (d := d_copied) rfl
    have F : FunD K "copied" "copied" (defArgs s_copied) (defBody s_copied) (defScope s_copied) [] [] (He.ga K "copied") fd := F
    refine ⟨F.kp, fd, ?_, F.bindsN fun _ _ _ _ _ _ us hl => match us, hl with | [_], _ => rfl⟩
    refine ok_of F c_copied (by (intro ds d h; exact h.len)) fun cdv A outer s H E hr => ⟨t_copiedS K (spD K (F_copiedAt k)), PSs.nox
      (pss_cons (ps_if (pt_val (pe_callB call_isi (by rfl) (z_isinstance T) (by decide +kernel) (pa_cons (pv 0) (pa_cons (pe_bltn (v := .ty "list") (by rfl) (z_list T) (by decide +kernel) rfl) pa_nil)))) (pss_one (ps_ret (pe_lc (own := [("part", 1)]) (wi := (iList K (tVar 0))) (g := (gName 1)) (tt := tYes) (te := (tCall (spD K (F_copiedAt k)) [] E0 (tCons (tVar 1) tNil))) (by rfl) c_copied.nd (pi_list (pv 0)) (blkOk_by (own := [("part", 1)]) (N := ["thing", "part"]) (sc := defScope s_copied) (by decide +kernel)) (fun _ _ _ _ _ => (pg_name (i := 1) c_copied.nd rfl (Or.inl rfl))) (fun _ _ _ _ _ => pts_nil) (fun _ _ _ _ _ => (pe_call G_copied hr (by rfl) (m_copied T) kp_copied b_copied .nil pass0 (pa_cons (pv 1) pa_nil)))))) pss_nil)
      (pss_cons (ps_if (pt_val (pe_callB call_isi (by rfl) (z_isinstance T) (by decide +kernel) (pa_cons (pv 0) (pa_cons (pe_bltn (v := .ty "tuple") (by rfl) (z_tuple T) (by decide +kernel) rfl) pa_nil)))) (pss_one (ps_ret (pe_callTy c_tuple (by rfl) (z_tuple T) (by decide +kernel) (pa_cons (pe_lc (own := [("part", 1)]) (wi := (iTup K (tVar 0))) (g := (gName 1)) (tt := tYes) (te := (tCall (spD K (F_copiedAt k)) [] E0 (tCons (tVar 1) tNil))) (by rfl) c_copied.nd (pi_tup (pv 0)) (blkOk_by (own := [("part", 1)]) (N := ["thing", "part"]) (sc := defScope s_copied) (by decide +kernel)) (fun _ _ _ _ _ => (pg_name (i := 1) c_copied.nd rfl (Or.inl rfl))) (fun _ _ _ _ _ => pts_nil) (fun _ _ _ _ _ => (pe_call G_copied hr (by rfl) (m_copied T) kp_copied b_copied .nil pass0 (pa_cons (pv 1) pa_nil)))) pa_nil)))) pss_nil)
      (pss_one (ps_ret (pv 0))))), fun ds d hF => ?_⟩
    obtain ⟨a, rfl, h, rfl⟩ := hF.ex
    exact sv_copiedS h rfl
theorem ok_copied {P : Program} {w : World} {K : Fr} {mg : Str → Option Value} {base : Heap} (T : Txt K mg) : Has P w K mg base 3 (He.ga K "copied") ["thing"] (sp_copied K) := copied_at T 2
/-! ### the almanac -/
section
variable {K : Fr} {mg : Str → Option Value} (T : Txt K mg) {env : Env} {ys : Yrs} {i : Nat}
include T
theorem f_own_calendar (h : env[i]? = some (some (almD K ys))) : EV K (tFld K (tVar i) "own_calendar") env (calD K ys) := ev_fld (ev_var h) (k_Almanac T) (n_Almanac_own_calendar T) (i := 0) rfl rfl
theorem f_own_feasts (h : env[i]? = some (some (almD K ys))) : EV K (tFld K (tVar i) "own_feasts") env (.lst []) := ev_fld (ev_var h) (k_Almanac T) (n_Almanac_own_feasts T) (i := 1) rfl rfl
end
theorem alm_meth {K : Fr} {env : Env} {ys : Yrs} {i : Nat} {m : Str} {F : List Dt → Dt → Prop} {ds : List Dt} {d : Dt} {t : TA} (h : env[i]? = some (some (almD K ys))) (hn : fldIx almN m = none) (ha : EA K t env ds) (hF : F (almD K ys :: ds) d) :
    EV K (tMeth (He.ga K "Almanac") m (spD K F) [] E0 (tVar i) t) env d := ev_meth (ev_var h) hn ha hF
theorem ev_dnew {K : Fr} {env : Env} : EV K tDNewK env (.dic []) := fun σ G H Q gh eo k => fun p hp => by
  have st := Step.new (o := .dK []) gh hp
  exact k _ _ _ st (rp_dic.mpr ⟨p, rfl, upd_same⟩)
/-- the property -/
theorem ev_prop {K : Fr} {env : Env} {te : TE} {ys : Yrs} {F : List Dt → Dt → Prop} {d : Dt} (h : EV K te env (almD K ys)) (hF : F [almD K ys] d) : EV K (tProp (He.ga K "Almanac") (spD K F) [] E0 te) env d := fun σ G H Q gh eo k =>
  h σ G H _ gh eo fun x G1 H1 s1 r1 => by
    obtain ⟨a, dx, xs, e1, e2, e3, e4⟩ := rp_obj.mp r1
    exact ⟨a, dx, _, e1, s1.gh _ _ e2, [almD K ys], d, G1, s1.gh, rpl_cons.mpr ⟨_, _, rfl, by rw [← e1]; exact r1, rpl_nil.mpr rfl⟩, hF, fun v G2 H2 s2 r2 => k v G2 H2 (s1.trans s2) r2⟩
theorem cut_feast (w : Str) : cutD [.str w] (some 1) none = [] := cut_from [.str w] 1
theorem ev_rest {K : Fr} {env : Env} {i : Nat} {f : Fst} (h : env[i]? = some (some f.D)) : EV K (tSl (rSlG K) (tVar i) (tPart (tC (.int 1))) tNoPart) env (.tup []) := by
  refine ev_is (ev_slT (ds := [.str f.w]) (ev_var h) (eo_some ev_int) eo_none ?_) (congrArg Dt.tup (cut_feast f.w))
  rw [show (some (1 : Int)) = some ((1 : Nat) : Int) from rfl, HT.sIx_nat]
  exact fun z => absurd z.1 (by simp)
theorem ev_word {K : Fr} {env : Env} {i : Nat} {f : Fst} (h : env[i]? = some (some f.D)) : EV K (tOp (rIxG K) (tVar i) (tC (.int 0))) env (.str f.w) := ev_op (ev_var h) ev_int (rd_ixT (atI_nat (j := 0) rfl))
theorem et_word {K : Fr} {env : Env} {te : TE} {f : Fst} {x : Str} {b : Bool} (h : EV K te env (.str f.w)) (e : decide (f.w = x) = b) : ET K (tTest (tOp (rEqG K) te (tC (.str x)))) env b := et_is (et_test (ev_op h ev_str rd_eqS)) e
theorem et_two {K : Fr} {env : Env} {te : TE} {w x y : Str} {b : Bool} (h : EV K te env (.str w)) (e : inV (.str w) [.str x, .str y] = b) : ET K (tTest (tOp (rIn K false) te (tTup (tCons (tC (.str x)) (tCons (tC (.str y)) tNil))))) env b :=
  et_is (et_test (ev_op h (ev_tup (ea_cons ev_str (ea_cons ev_str ea_nil)) (by simp)) (rd_inT rfl rfl rfl rfl))) e
def t_check_feast (K : Fr) : TS :=
  (tSeq (tAsg (tOp (rIxG K) (tVar 0) (tC (.int 0))) (gName 2))
      (tSeq (tIfS (tTest (tOp (rEqG K) (tVar 2) (tC (.str "on")))) tNever (tIfS (tTest (tOp (rEqG K) (tVar 2) (tC (.str "name")))) tNever (tIfS (tTest (tOp (rIn K false) (tVar 2) (tTup (tCons (tC (.str "each")) (tCons (tC (.str "nth")) tNil))))) tNever (tIfS (tTest (tOp (rEqG K) (tVar 2) (tC (.str "date")))) tNever tNext))))
      (tSeq (tIfS (tTest (tOp (rIn K false) (tVar 2) (tTup (tCons (tC (.str "each")) (tCons (tC (.str "date")) tNil))))) tNever tNext)
      (tFor (iTup K (tSl (rSlG K) (tVar 0) (tPart (tC (.int 1))) tNoPart)) (gName 3) (tIfS (tB (tCB (rIsi K) (tCons (tVar 3) (tCons (tC (.ty "tuple")) tNil)))) tNever tNext)))))
def t_check_feasts (K : Fr) : TS :=
  (tSeq (tAsg (tLc (iList K (tVar 0)) (gTup K 2 (gCons (gName 2) (gCons (gName 4) gNil))) tYes (tVar 2) [2, 4]) (gName 1))
      (tSeq (tFor (iList K (tVar 1)) (gName 2) (tIfS (tNot (tB (fun _ _ _ => False))) tNever tNext))
      (tSeq (tFor (iEnum K (tCons (tVar 1) tNil)) (gTup K 2 (gCons (gName 3) (gCons (gName 2) gNil))) (tIfS (tTest (tOp (rIn K false) (tVar 2) (tSl (rSlG K) (tVar 1) tNoPart (tPart (tVar 3))))) tNever tNext))
      (tFor (iEnum K (tCons (tVar 0) tNil)) (gTup K 2 (gCons (gName 3) (gCons (gTup K 2 (gCons (gName 2) (gCons (gName 4) gNil))) gNil))) (tDrop (tCall (sp_check_feast K) [] E0 (tCons (tVar 4) (tCons (tSl (rSlG K) (tVar 1) tNoPart (tPart (tVar 3))) tNil))))))))
def t_names_in (K : Fr) : TS :=
  (tSeq (tIfS (tTest (tOp (rEqG K) (tOp (rIxG K) (tVar 0) (tC (.int 0))) (tC (.str "name")))) (tRet (tLst (tCons (tOp (rIxG K) (tVar 0) (tC (.int 1))) tNil))) tNext)
      (tRet (tLc2 (iTup K (tSl (rSlG K) (tVar 0) (tPart (tC (.int 1))) tNoPart)) (gName 1) (tB (tCB (rIsi K) (tCons (tVar 1) (tCons (tC (.ty "tuple")) tNil)))) (iList K (fun _ _ _ => False)) (gName 2) tYes (tVar 2) [1, 2] [2])))
def t_Almanac_names (K : Fr) : TS :=
  (tRet (tLc (iList K (tFld K (tVar 0) "own_feasts")) (gTup K 2 (gCons (gName 1) (gCons (gName 2) gNil))) tYes (tVar 1) [1, 2]))
def t_Almanac_plain (K : Fr) : TS :=
  (tSeq (tAsg (tOp (rIxG K) (tVar 1) (tC (.int 0))) (gName 2))
      (tSeq (tIfS (tTest (tOp (rEqG K) (tVar 2) (tC (.str "each")))) tNever tNext)
      (tSeq (tIfS (tTest (tOp (rEqG K) (tVar 2) (tC (.str "on")))) tNever tNext)
      (tSeq (tIfS (tTest (tOp (rEqG K) (tVar 2) (tC (.str "date")))) tNever tNext)
      (tRet (tIf (tTest (tOp (rEqG K) (tVar 2) (tC (.str "starts")))) (tMeth (He.ga K "Calendar") "month_starts" (sp_Calendar_month_starts K) [] E0 (tFld K (tVar 0) "own_calendar") tNil) (tMeth (He.ga K "Calendar") "last_days" (sp_Calendar_last_days K) [] E0 (tFld K (tVar 0) "own_calendar") tNil)))))))
def t_Almanac_told (K : Fr) : TS :=
  (tSeq (tAsg (tOp (rIxG K) (tVar 1) (tC (.int 0))) (gName 3))
      (tSeq (tIfS (tTest (tOp (rEqG K) (tVar 3) (tC (.str "name")))) tNever tNext)
      (tSeq (tAsg (tLc (iTup K (tSl (rSlG K) (tVar 1) (tPart (tC (.int 1))) tNoPart)) (gName 5) (tB (tCB (rIsi K) (tCons (tVar 5) (tCons (tC (.ty "tuple")) tNil)))) (fun _ _ _ => False) [5]) (gName 4))
      (tSeq (tIfS (tTest (tOp (rEqG K) (tVar 4) (tLst tNil))) (tRet (tMeth (He.ga K "Almanac") "plain" (sp_Almanac_plain K) [] E0 (tVar 0) (tCons (tVar 1) tNil))) tNext)
      (tSeq (tIfS (tTest (tOp (rEqG K) (tVar 3) (tC (.str "not")))) tNever tNext)
      (tSeq (tIfS (tTest (tOp (rEqG K) (tVar 3) (tC (.str "moved")))) tNever tNext)
      (tSeq (tIfS (tTest (tOp (rEqG K) (tVar 3) (tC (.str "nth")))) tNever tNext)
      (tRet (fun _ _ _ => False)))))))))
def t_Almanac_sets (K : Fr) : TS :=
  (tSeq (tAsg tDNewK (gName 2))
      (tSeq (tFor (iList K (tSl (rSlG K) (tFld K (tVar 0) "own_feasts") tNoPart (tPart (tVar 1)))) (gTup K 2 (gCons (gName 3) (gCons (gName 4) gNil))) (tAsg (tMeth (He.ga K "Almanac") "told" (sp_Almanac_told K) [] E0 (tVar 0) (tCons (tVar 4) (tCons (tVar 2) tNil))) (gSub (tVar 2) (tVar 3) rSetL)))
      (tRet (tVar 2))))
def t_Almanac_days (K : Fr) : TS :=
  (tSeq (tAsg (tMeth (He.ga K "Almanac") "names" (sp_Almanac_names K) [] E0 (tVar 0) tNil) (gName 2))
      (tRet (tMeth (He.ga K "Almanac") "told" (sp_Almanac_told K) [] E0 (tVar 0) (tCons (tVar 1) (tCons (tMeth (He.ga K "Almanac") "sets" (sp_Almanac_sets K) [] E0 (tVar 0) (tCons (tCB (rMax K) (tCons (tOp rAddG (tLst (tCons (tC (.int 0)) tNil)) (tLc (iList K (tCall (sp_names_in K) [] E0 (tCons (tVar 1) tNil))) (gName 3) tYes (tOp rAddG (fun _ _ _ => False) (tC (.int 1))) [3])) tNil)) tNil)) tNil)))))
def t_days_of (K : Fr) : TS :=
  (tSeq (tDrop (tCall (sp_check_feast K) [] E0 (tCons (tVar 1) (tCons (tMeth (He.ga K "Almanac") "names" (sp_Almanac_names K) [] E0 (tVar 0) tNil) tNil))))
      (tRet (tCall (sp_copied K) [] E0 (tCons (tMeth (He.ga K "Almanac") "days" (sp_Almanac_days K) [] E0 (tVar 0) (tCons (tVar 1) tNil)) tNil))))
theorem ok_check_feast {P : Program} {w : World} {K : Fr} {mg : Str → Option Value} {base : Heap} (T : Txt K mg) : Has P w K mg base 1 (He.ga K "check_feast") ["feast", "names"] (sp_check_feast K) := by
  obtain ⟨fd, F⟩ := T.says.def_ 30 (d := d_check_feast) rfl
  have F : FunD K "check_feast" "check_feast" (defArgs s_check_feast) (defBody s_check_feast) (defScope s_check_feast) [] [] (He.ga K "check_feast") fd := F
  skip
  refine ⟨F.kp, fd, ?_, F.bindsN fun _ _ _ _ _ _ us hl => match us, hl with | [_, _], _ => rfl⟩
  refine ok_of F c_check_feast (by (intro ds d h; exact h.len)) fun cdv A outer s H E hr => ⟨t_check_feast K, PSs.nox
      (pss_cons (ps_set (i := 2) c_check_feast.nd rfl (Or.inl rfl) (pe_ix ix_G (pv 0) pe_int (fun _ _ => rfl)))
      (pss_cons (ps_if (pt_cmpR (op_eqG hr.units) (pv 2) pe_str (nomark _)) pss_never (pss_one (ps_if (pt_cmpR (op_eqG hr.units) (pv 2) pe_str (nomark _)) pss_never (pss_one (ps_if (pt_cmpR op_in_seq (pv 2) (pe_tup (pa_cons pe_str (pa_cons pe_str pa_nil))) (by rfl)) pss_never (pss_one (ps_if (pt_cmpR (op_eqG hr.units) (pv 2) pe_str (nomark _)) pss_never pss_nil)))))))
      (pss_cons (ps_if (pt_cmpR op_in_seq (pv 2) (pe_tup (pa_cons pe_str (pa_cons pe_str pa_nil))) (by rfl)) pss_never pss_nil)
      (pss_one (ps_for PassesOwn.never rfl (pi_tup (pe_slice sl_G (pv 0) (po_some pe_int) po_none)) (pg_name (i := 3) c_check_feast.nd rfl (Or.inl rfl)) (pss_one (ps_if (pt_val (pe_callB call_isi (by rfl) (z_isinstance T) (by decide +kernel) (pa_cons (pv 3) (pa_cons (pe_bltn (v := .ty "tuple") (by rfl) (z_tuple T) (by decide +kernel) rfl) pa_nil)))) pss_never pss_nil))))))), fun ds d hF => ?_⟩
  obtain ⟨a, b, rfl, f, rfl, rfl, rfl⟩ := hF.ex
  walk_at "env"
  refine q_set (ev_word rfl) ?_
  refine q_noE (et_word (ev_var rfl) (by cases f <;> rfl)) (q_noE (et_word (ev_var rfl) (by cases f <;> rfl)) (q_noE (et_two (ev_var rfl) (by cases f <;> decide)) (q_no (et_word (ev_var rfl) (by cases f <;> rfl)) ?_)))
  refine q_no (et_two (ev_var rfl) (by cases f <;> decide)) ?_
  refine l_q (q_for (items := []) (iv_tup (ev_rest rfl)) (fun i e M => True) trivial (fun i d e M hd => by cases hd) fun e M _ => l_end (by trivial))
theorem ok_check_feasts {P : Program} {w : World} {K : Fr} {mg : Str → Option Value} {base : Heap} (T : Txt K mg) : Has P w K mg base 2 (He.ga K "check_feasts") ["feasts"] (sp_check_feasts K) := by
  obtain ⟨fd, F⟩ := T.says.def_ 31 (d := d_check_feasts) rfl
  have F : FunD K "check_feasts" "check_feasts" (defArgs s_check_feasts) (defBody s_check_feasts) (defScope s_check_feasts) [] [] (He.ga K "check_feasts") fd := F
  obtain ⟨kp_check_feast, fd_check_feast, G_check_feast, b_check_feast⟩ := ok_check_feast (P := P) (w := w) (base := base) T
  refine ⟨F.kp, fd, ?_, F.bindsN fun _ _ _ _ _ _ us hl => match us, hl with | [_], _ => rfl⟩
  refine ok_of F c_check_feasts (by (intro ds d h; exact h.len)) fun cdv A outer s H E hr => ⟨t_check_feasts K, PSs.nox
      (pss_cons (ps_setLc (i := 1) (own := [("name", 2), ("feast", 4)]) (wi := (iList K (tVar 0))) (g := (gTup K 2 (gCons (gName 2) (gCons (gName 4) gNil)))) (tt := tYes) (te := (tVar 2)) (by rfl) c_check_feasts.nd rfl rfl (sw_true rfl rfl rfl (by decide +kernel)) (pi_list (pv 0)) (blkOk_by (own := [("name", 2), ("feast", 4)]) (N := ["feasts", "names", "name", "place", "feast"]) (sc := defScope s_check_feasts) (by decide +kernel)) (fun _ _ _ _ _ => (pg_tup (by rfl) (pgs_cons (pg_name (i := 2) c_check_feasts.nd rfl (Or.inl rfl)) (pgs_cons (pg_name (i := 4) c_check_feasts.nd rfl (Or.inl rfl)) pgs_nil)))) (fun _ _ _ _ _ => pts_nil) (fun _ _ _ _ _ => (pv 2)))
      (pss_cons (ps_for PassesOwn.never rfl (pi_list (pv 1)) (pg_name (i := 2) c_check_feasts.nd rfl (Or.inl rfl)) (pss_one (ps_if (pt_not (pt_val pe_never)) (pss_one ps_never) pss_nil)))
      (pss_cons (ps_for PassesOwn.never rfl (pi_enum (by rfl) (z_enumerate T) (pa_cons (pv 1) pa_nil)) (pg_tup (by rfl) (pgs_cons (pg_name (i := 3) c_check_feasts.nd rfl (Or.inl rfl)) (pgs_cons (pg_name (i := 2) c_check_feasts.nd rfl (Or.inl rfl)) pgs_nil))) (pss_one (ps_if (pt_cmpR op_in_seq (pv 2) (pe_slice sl_G (pv 1) po_none (po_some (pv 3))) (by rfl)) (pss_one ps_never) pss_nil)))
      (pss_one (ps_for PassesOwn.never rfl (pi_enum (by rfl) (z_enumerate T) (pa_cons (pv 0) pa_nil)) (pg_tup (by rfl) (pgs_cons (pg_name (i := 3) c_check_feasts.nd rfl (Or.inl rfl)) (pgs_cons (pg_tup (by rfl) (pgs_cons (pg_name (i := 2) c_check_feasts.nd rfl (Or.inl rfl)) (pgs_cons (pg_name (i := 4) c_check_feasts.nd rfl (Or.inl rfl)) pgs_nil))) pgs_nil))) (pss_one (ps_expr (pe_call G_check_feast (hr.mono (by decide)) (by rfl) (m_check_feast T) kp_check_feast b_check_feast .nil pass0 (pa_cons (pv 4) (pa_cons (pe_slice sl_G (pv 1) po_none (po_some (pv 3))) pa_nil)))))))))), fun ds d hF => ?_⟩
  obtain ⟨a, rfl, rfl, rfl⟩ := hF.ex
  walk_at "env"
  refine q_set (d := .lst []) (ev_lc1 (items := []) (fun d => d) (iv_list (ev_var rfl)) (by decide) (gk_tup (gk_cons (gk_name (by decide)) (gk_cons (gk_name (by decide)) gk_nil))) (fun d hd => by cases hd) rfl) ?_
  refine q_for (items := []) (iv_list (ev_var rfl)) (fun i e M => e = [some (.lst []), some (.lst []), none, none, none] ∧ M = none) ⟨rfl, rfl⟩ (fun i d e M hd => by cases hd) ?_
  rintro e M ⟨rfl, rfl⟩
  refine q_for (items := []) (iv_enum (ds := []) (ea_cons (ev_var rfl) ea_nil)) (fun i e M => e = [some (.lst []), some (.lst []), none, none, none] ∧ M = none) ⟨rfl, rfl⟩ (fun i d e M hd => by cases hd) ?_
  rintro e M ⟨rfl, rfl⟩
  exact l_q (q_for (items := []) (iv_enum (ds := []) (ea_cons (ev_var rfl) ea_nil)) (fun i e M => True) trivial (fun i d e M hd => by cases hd) fun e M _ => l_end (by trivial))
theorem ok_names_in {P : Program} {w : World} {K : Fr} {mg : Str → Option Value} {base : Heap} (T : Txt K mg) : Has P w K mg base 1 (He.ga K "names_in") ["feast"] (sp_names_in K) := by
  obtain ⟨fd, F⟩ := T.says.def_ 32 (d := d_names_in) rfl
  have F : FunD K "names_in" "names_in" (defArgs s_names_in) (defBody s_names_in) (defScope s_names_in) [] [] (He.ga K "names_in") fd := F
  skip
  refine ⟨F.kp, fd, ?_, F.bindsN fun _ _ _ _ _ _ us hl => match us, hl with | [_], _ => rfl⟩
  refine ok_of F c_names_in (by (intro ds d h; exact h.len)) fun cdv A outer s H E hr => ⟨t_names_in K, PSs.nox
      (pss_cons (ps_if (pt_cmpR (op_eqG hr.units) (pe_ix ix_G (pv 0) pe_int (fun _ _ => rfl)) pe_str (nomark _)) (pss_one (ps_ret (pe_lst (pa_cons (pe_ix ix_G (pv 0) pe_int (fun _ _ => rfl)) pa_nil)))) pss_nil)
      (pss_one (ps_ret (pe_lc2 (own := [("part", 1), ("name", 2)]) (vs1 := [2]) (wi := (iTup K (tSl (rSlG K) (tVar 0) (tPart (tC (.int 1))) tNoPart))) (wi1 := (iList K (fun _ _ _ => False))) (g := (gName 1)) (g1 := (gName 2)) (tt := (tB (tCB (rIsi K) (tCons (tVar 1) (tCons (tC (.ty "tuple")) tNil))))) (tt1 := tYes) (te := (tVar 2)) (by rfl) c_names_in.nd (pi_tup (pe_slice sl_G (pv 0) (po_some pe_int) po_none)) (blkOk_by (own := [("part", 1), ("name", 2)]) (N := ["feast", "part", "name"]) (sc := defScope s_names_in) (by decide +kernel)) (by decide) (fun _ _ _ _ _ => (pg_name (i := 1) c_names_in.nd rfl (Or.inl rfl))) (fun _ _ _ _ _ => (pts_one (pt_val (pe_callB call_isi (by rfl) (z_isinstance T) (by decide +kernel) (pa_cons (pv 1) (pa_cons (pe_bltn (v := .ty "tuple") (by rfl) (z_tuple T) (by decide +kernel) rfl) pa_nil)))))) (fun _ _ _ _ _ => (pi_list pe_never)) (fun _ _ _ _ _ => (pg_name (i := 2) c_names_in.nd rfl (Or.inl rfl))) (fun _ _ _ _ _ => pts_nil) (fun _ _ _ _ _ => (pv 2)))))), fun ds d hF => ?_⟩
  obtain ⟨a, rfl, f, rfl, rfl⟩ := hF.ex
  walk_at "env"
  refine q_no (et_word (ev_word rfl) (by cases f <;> rfl)) ?_
  exact l_ret (ev_lc2 (items := []) (fun _ => []) (iv_tup (ev_rest rfl)) (gk_name (by decide)) (gk_name (by decide)) (by decide) (fun d hd => by cases hd) rfl) rfl
theorem ok_Almanac_names {P : Program} {w : World} {K : Fr} {mg : Str → Option Value} {base : Heap} (T : Txt K mg) : Has P w K mg base 1 (He.ma K (He.ga K "Almanac") "names") ["self"] (sp_Almanac_names K) := by
  obtain ⟨fd, F⟩ := T.says.def_ 34 (d := d_Almanac_names) rfl
  have F : FunD K "names" "Almanac.names" (defArgs s_Almanac_names) (defBody s_Almanac_names) (defScope s_Almanac_names) [] [] (He.ma K (He.ga K "Almanac") "names") fd := F
  skip
  refine ⟨F.kp, fd, ?_, F.bindsN fun _ _ _ _ _ _ us hl => match us, hl with | [_], _ => rfl⟩
  refine ok_of F c_Almanac_names (by (intro ds d h; exact h.len)) fun cdv A outer s H E hr => ⟨t_Almanac_names K, PSs.nox
      (pss_one (ps_ret (pe_lc (own := [("name", 1), ("feast", 2)]) (wi := (iList K (tFld K (tVar 0) "own_feasts"))) (g := (gTup K 2 (gCons (gName 1) (gCons (gName 2) gNil)))) (tt := tYes) (te := (tVar 1)) (by rfl) c_Almanac_names.nd (pi_list (pe_fld (pv 0) rfl)) (blkOk_by (own := [("name", 1), ("feast", 2)]) (N := ["self", "name", "feast"]) (sc := defScope s_Almanac_names) (by decide +kernel)) (fun _ _ _ _ _ => (pg_tup (by rfl) (pgs_cons (pg_name (i := 1) c_Almanac_names.nd rfl (Or.inl rfl)) (pgs_cons (pg_name (i := 2) c_Almanac_names.nd rfl (Or.inl rfl)) pgs_nil)))) (fun _ _ _ _ _ => pts_nil) (fun _ _ _ _ _ => (pv 1))))), fun ds d hF => ?_⟩
  obtain ⟨a, rfl, ys, h, rfl, rfl⟩ := hF.ex
  walk_at "env"
  exact l_ret (ev_lc1 (items := []) (fun d => d) (iv_list (f_own_feasts T rfl)) (by decide) (gk_tup (gk_cons (gk_name (by decide)) (gk_cons (gk_name (by decide)) gk_nil))) (fun d hd => by cases hd) rfl) rfl
theorem ok_Almanac_plain {P : Program} {w : World} {K : Fr} {mg : Str → Option Value} {base : Heap} (T : Txt K mg) : Has P w K mg base 9 (He.ma K (He.ga K "Almanac") "plain") ["self", "feast"] (sp_Almanac_plain K) := by
  obtain ⟨fd, F⟩ := T.says.def_ 37 (d := d_Almanac_plain) rfl
  have F : FunD K "plain" "Almanac.plain" (defArgs s_Almanac_plain) (defBody s_Almanac_plain) (defScope s_Almanac_plain) [] [] (He.ma K (He.ga K "Almanac") "plain") fd := F
  obtain ⟨kp_Calendar_month_starts, fd_Calendar_month_starts, G_Calendar_month_starts, b_Calendar_month_starts⟩ := ok_Calendar_month_starts (P := P) (w := w) (base := base) T
  obtain ⟨kp_Calendar_last_days, fd_Calendar_last_days, G_Calendar_last_days, b_Calendar_last_days⟩ := ok_Calendar_last_days (P := P) (w := w) (base := base) T
  refine ⟨F.kp, fd, ?_, F.bindsN fun _ _ _ _ _ _ us hl => match us, hl with | [_, _], _ => rfl⟩
  refine ok_of F c_Almanac_plain (by (intro ds d h; exact h.len)) fun cdv A outer s H E hr => ⟨t_Almanac_plain K, PSs.nox
      (pss_cons (ps_set (i := 2) c_Almanac_plain.nd rfl (Or.inl rfl) (pe_ix ix_G (pv 1) pe_int (fun _ _ => rfl)))
      (pss_cons (ps_if (pt_cmpR (op_eqG hr.units) (pv 2) pe_str (nomark _)) pss_never pss_nil)
      (pss_cons (ps_if (pt_cmpR (op_eqG hr.units) (pv 2) pe_str (nomark _)) pss_never pss_nil)
      (pss_cons (ps_if (pt_cmpR (op_eqG hr.units) (pv 2) pe_str (nomark _)) pss_never pss_nil)
      (pss_one (ps_ret (pe_ifExp (pt_cmpR (op_eqG hr.units) (pv 2) pe_str (nomark _)) (pe_meth0 (pe_fld (pv 0) rfl) (k_Calendar T) (mt_Calendar_month_starts T) G_Calendar_month_starts (hr.mono (by decide)) b_Calendar_month_starts .nil pass0) (pe_meth0 (pe_fld (pv 0) rfl) (k_Calendar T) (mt_Calendar_last_days T) G_Calendar_last_days (hr.mono (by decide)) b_Calendar_last_days .nil pass0)))))))), fun ds d hF => ?_⟩
  obtain ⟨a, b, rfl, ys, f, h, rfl, rfl, rfl⟩ := hF.ex
  walk_at "env"
  refine q_set (ev_word rfl) ?_
  refine q_no (et_word (ev_var rfl) (by cases f <;> rfl)) ?_
  refine q_no (et_word (ev_var rfl) (by cases f <;> rfl)) ?_
  refine q_no (et_word (ev_var rfl) (by cases f <;> rfl)) ?_
  refine l_ret (ev_if (b := match f with | .starts => true | .ends => false) (et_word (ev_var rfl) (by cases f <;> rfl)) (fun e => ?_) (fun e => ?_)) rfl
  · cases f with
    | starts => exact ev_meth (f_own_calendar T rfl) rfl ea_nil ⟨ys, h, rfl, rfl⟩
    | ends => cases e
  · cases f with
    | starts => cases e
    | ends => exact ev_meth (f_own_calendar T rfl) rfl ea_nil ⟨ys, h, rfl, rfl⟩
theorem ok_Almanac_told {P : Program} {w : World} {K : Fr} {mg : Str → Option Value} {base : Heap} (T : Txt K mg) : Has P w K mg base 10 (He.ma K (He.ga K "Almanac") "told") ["self", "feast", "known"] (sp_Almanac_told K) := by
  obtain ⟨fd, F⟩ := T.says.def_ 38 (d := d_Almanac_told) rfl
  have F : FunD K "told" "Almanac.told" (defArgs s_Almanac_told) (defBody s_Almanac_told) (defScope s_Almanac_told) [] [] (He.ma K (He.ga K "Almanac") "told") fd := F
  obtain ⟨kp_Almanac_plain, fd_Almanac_plain, G_Almanac_plain, b_Almanac_plain⟩ := ok_Almanac_plain (P := P) (w := w) (base := base) T
  refine ⟨F.kp, fd, ?_, F.bindsN fun _ _ _ _ _ _ us hl => match us, hl with | [_, _, _], _ => rfl⟩
  refine ok_of F c_Almanac_told (by (intro ds d h; exact h.len)) fun cdv A outer s H E hr => ⟨t_Almanac_told K, PSs.nox
      (pss_cons (ps_set (i := 3) c_Almanac_told.nd rfl (Or.inl rfl) (pe_ix ix_G (pv 1) pe_int (fun _ _ => rfl)))
      (pss_cons (ps_if (pt_cmpR (op_eqG hr.units) (pv 3) pe_str (nomark _)) pss_never pss_nil)
      (pss_cons (ps_setLc (i := 4) (own := [("part", 5)]) (wi := (iTup K (tSl (rSlG K) (tVar 1) (tPart (tC (.int 1))) tNoPart))) (g := (gName 5)) (tt := (tB (tCB (rIsi K) (tCons (tVar 5) (tCons (tC (.ty "tuple")) tNil))))) (te := (fun _ _ _ => False)) (by rfl) c_Almanac_told.nd rfl rfl (sw_true rfl rfl rfl (by decide +kernel)) (pi_tup (pe_slice sl_G (pv 1) (po_some pe_int) po_none)) (blkOk_by (own := [("part", 5)]) (N := ["self", "feast", "known", "word", "parts", "part"]) (sc := defScope s_Almanac_told) (by decide +kernel)) (fun _ _ _ _ _ => (pg_name (i := 5) c_Almanac_told.nd rfl (Or.inl rfl))) (fun _ _ _ _ _ => (pts_one (pt_val (pe_callB call_isi (by rfl) (z_isinstance T) (by decide +kernel) (pa_cons (pv 5) (pa_cons (pe_bltn (v := .ty "tuple") (by rfl) (z_tuple T) (by decide +kernel) rfl) pa_nil)))))) (fun _ _ _ _ _ => pe_never))
      (pss_cons (ps_if (pt_cmpR (op_eqG hr.units) (pv 4) (pe_lst pa_nil) (nomark _)) (pss_one (ps_ret (pe_meth (pv 0) (k_Almanac T) (mt_Almanac_plain T) G_Almanac_plain (hr.mono (by decide)) b_Almanac_plain .nil pass0 (pa_cons (pv 1) pa_nil)))) pss_nil)
      (pss_cons (ps_if (pt_cmpR (op_eqG hr.units) (pv 3) pe_str (nomark _)) pss_never pss_nil)
      (pss_cons (ps_if (pt_cmpR (op_eqG hr.units) (pv 3) pe_str (nomark _)) pss_never pss_nil)
      (pss_cons (ps_if (pt_cmpR (op_eqG hr.units) (pv 3) pe_str (nomark _)) pss_never pss_nil)
      (pss_one (ps_ret pe_never))))))))), fun ds d hF => ?_⟩
  obtain ⟨a, b, c, rfl, ys, f, h, rfl, rfl, rfl, rfl⟩ := hF.ex
  walk_at "env"
  refine q_set (ev_word rfl) ?_
  refine q_no (et_word (ev_var rfl) (by cases f <;> rfl)) ?_
  refine q_set (d := .lst []) (ev_lc (items := []) (fun _ => none) (iv_tup (ev_rest rfl)) (by decide) (gk_name (by decide)) (fun d hd => by cases hd) rfl) ?_
  refine q_yes (et_test (ev_op (ev_var rfl) (ev_lst ea_nil (by decide)) (rd_eqRefl smp_nil (by decide)))) ?_
  exact q_ret (alm_meth (d := setC (f.S ys)) rfl rfl (ea_cons (ev_var rfl) ea_nil) ⟨ys, f, h, rfl, rfl, rfl⟩) rfl
theorem ok_Almanac_sets {P : Program} {w : World} {K : Fr} {mg : Str → Option Value} {base : Heap} (T : Txt K mg) : Has P w K mg base 11 (He.ma K (He.ga K "Almanac") "sets") ["self", "count"] (sp_Almanac_sets K) := by
  obtain ⟨fd, F⟩ := T.says.def_ 35 (d := d_Almanac_sets) rfl
  have F : FunD K "sets" "Almanac.sets" (defArgs s_Almanac_sets) (defBody s_Almanac_sets) (defScope s_Almanac_sets) [] [] (He.ma K (He.ga K "Almanac") "sets") fd := F
  obtain ⟨kp_Almanac_told, fd_Almanac_told, G_Almanac_told, b_Almanac_told⟩ := ok_Almanac_told (P := P) (w := w) (base := base) T
  refine ⟨F.kp, fd, ?_, F.bindsN fun _ _ _ _ _ _ us hl => match us, hl with | [_, _], _ => rfl⟩
  refine ok_of F c_Almanac_sets (by (intro ds d h; exact h.len)) fun cdv A outer s H E hr => ⟨t_Almanac_sets K, PSs.nox
      (pss_cons (ps_set (i := 2) c_Almanac_sets.nd rfl (Or.inl rfl) pe_dnewK)
      (pss_cons (ps_for PassesOwn.never rfl (pi_list (pe_slice sl_G (pe_fld (pv 0) rfl) po_none (po_some (pv 1)))) (pg_tup (by rfl) (pgs_cons (pg_name (i := 3) c_Almanac_sets.nd rfl (Or.inl rfl)) (pgs_cons (pg_name (i := 4) c_Almanac_sets.nd rfl (Or.inl rfl)) pgs_nil))) (pss_one (ps_asg (pe_meth (pv 0) (k_Almanac T) (mt_Almanac_told T) G_Almanac_told (hr.mono (by decide)) b_Almanac_told .nil pass0 (pa_cons (pv 4) (pa_cons (pv 2) pa_nil))) (pg_sub (pv 2) (pv 3) set_list))))
      (pss_one (ps_ret (pv 2))))), fun ds d hF => ?_⟩
  obtain ⟨a, b, rfl, ys, h, rfl, rfl, rfl⟩ := hF.ex
  walk_at "env"
  refine q_set ev_dnew ?_
  refine q_for (items := []) (iv_list (ev_is (ev_slL (f_own_feasts T rfl) eo_none (eo_some (ev_var rfl))) (congrArg Dt.lst (cut_to [] 0)))) (fun i e M => e = [some (almD K ys), some (.int 0), some (.dic []), none, none] ∧ M = none) ⟨rfl, rfl⟩ (fun i d e M hd => by cases hd) ?_
  rintro e M ⟨rfl, rfl⟩
  exact l_ret (ev_var rfl) rfl
theorem ok_Almanac_days {P : Program} {w : World} {K : Fr} {mg : Str → Option Value} {base : Heap} (T : Txt K mg) : Has P w K mg base 12 (He.ma K (He.ga K "Almanac") "days") ["self", "feast"] (sp_Almanac_days K) := by
  obtain ⟨fd, F⟩ := T.says.def_ 36 (d := d_Almanac_days) rfl
  have F : FunD K "days" "Almanac.days" (defArgs s_Almanac_days) (defBody s_Almanac_days) (defScope s_Almanac_days) [] [] (He.ma K (He.ga K "Almanac") "days") fd := F
  obtain ⟨kp_Almanac_told, fd_Almanac_told, G_Almanac_told, b_Almanac_told⟩ := ok_Almanac_told (P := P) (w := w) (base := base) T
  obtain ⟨kp_Almanac_sets, fd_Almanac_sets, G_Almanac_sets, b_Almanac_sets⟩ := ok_Almanac_sets (P := P) (w := w) (base := base) T
  obtain ⟨kp_names_in, fd_names_in, G_names_in, b_names_in⟩ := ok_names_in (P := P) (w := w) (base := base) T
  obtain ⟨kp_Almanac_names, fd_Almanac_names, G_Almanac_names, b_Almanac_names⟩ := ok_Almanac_names (P := P) (w := w) (base := base) T
  refine ⟨F.kp, fd, ?_, F.bindsN fun _ _ _ _ _ _ us hl => match us, hl with | [_, _], _ => rfl⟩
  refine ok_of F c_Almanac_days (by (intro ds d h; exact h.len)) fun cdv A outer s H E hr => ⟨t_Almanac_days K, PSs.nox
      (pss_cons (ps_set (i := 2) c_Almanac_days.nd rfl (Or.inr rfl) (pe_meth0 (pv 0) (k_Almanac T) (mt_Almanac_names T) G_Almanac_names (hr.mono (by decide)) b_Almanac_names .nil pass0))
      (pss_one (ps_ret (pe_meth (pv 0) (k_Almanac T) (mt_Almanac_told T) G_Almanac_told (hr.mono (by decide)) b_Almanac_told .nil pass0 (pa_cons (pv 1) (pa_cons (pe_meth (pv 0) (k_Almanac T) (mt_Almanac_sets T) G_Almanac_sets (hr.mono (by decide)) b_Almanac_sets .nil pass0 (pa_cons (pe_callB (cr_max rfl) (by rfl) (z_max T) (by decide +kernel) (pa_cons (pe_op op_addG (pe_lst (pa_cons pe_int pa_nil)) (pe_lc (own := [("name", 3)]) (wi := (iList K (tCall (sp_names_in K) [] E0 (tCons (tVar 1) tNil)))) (g := (gName 3)) (tt := tYes) (te := (tOp rAddG (fun _ _ _ => False) (tC (.int 1)))) (by rfl) c_Almanac_days.nd (pi_list (pe_call G_names_in (hr.mono (by decide)) (by rfl) (m_names_in T) kp_names_in b_names_in .nil pass0 (pa_cons (pv 1) pa_nil))) (blkOk_by (own := [("name", 3)]) (N := ["self", "feast", "names", "name"]) (sc := defScope s_Almanac_days) (by decide +kernel)) (fun _ _ _ _ _ => (pg_name (i := 3) c_Almanac_days.nd rfl (Or.inl rfl))) (fun _ _ _ _ _ => pts_nil) (fun _ _ _ _ _ => (pe_op op_addG pe_never pe_int)))) pa_nil)) pa_nil)) pa_nil)))))), fun ds d hF => ?_⟩
  obtain ⟨a, b, rfl, ys, f, h, rfl, rfl, rfl⟩ := hF.ex
  walk_at "env"
  refine q_set (d := .lst []) (alm_meth rfl rfl ea_nil ⟨ys, h, rfl, rfl⟩) ?_
  refine l_ret (alm_meth (d := setC (f.S ys)) rfl rfl (ea_cons (ev_var rfl) (ea_cons (alm_meth (d := .dic []) rfl rfl (ea_cons (d := .int 0) (ev_cb (ea_cons (ev_is (d1 := .lst (([0] : List Int).map Dt.int)) (ev_op (ev_lst (ea_cons ev_int ea_nil) (by decide)) (ev_lc1 (items := []) (out := []) (fun d => d) (iv_list (ev_call (d := .lst []) (ea_cons (ev_var rfl) ea_nil) ⟨f, rfl, rfl⟩)) (by decide) (gk_name (by decide)) (fun d hd => by cases hd) rfl) (rd_addL (by decide))) rfl) ea_nil) (rc_max (by decide) fun m' a1 _ => by rw [List.mem_singleton] at a1; exact a1)) ea_nil) ⟨ys, h, rfl, rfl, rfl⟩) ea_nil)) ⟨ys, f, h, rfl, rfl, rfl, rfl⟩) rfl
theorem ok_days_of {P : Program} {w : World} {K : Fr} {mg : Str → Option Value} {base : Heap} (T : Txt K mg) : Has P w K mg base 13 (He.ga K "days_of") ["almanac", "feast"] (sp_days_of K) := by
  obtain ⟨fd, F⟩ := T.says.def_ 39 (d := d_days_of) rfl
  have F : FunD K "days_of" "days_of" (defArgs s_days_of) (defBody s_days_of) (defScope s_days_of) [] [] (He.ga K "days_of") fd := F
  obtain ⟨kp_Almanac_days, fd_Almanac_days, G_Almanac_days, b_Almanac_days⟩ := ok_Almanac_days (P := P) (w := w) (base := base) T
  obtain ⟨kp_copied, fd_copied, G_copied, b_copied⟩ := ok_copied (P := P) (w := w) (base := base) T
  obtain ⟨kp_Almanac_names, fd_Almanac_names, G_Almanac_names, b_Almanac_names⟩ := ok_Almanac_names (P := P) (w := w) (base := base) T
  obtain ⟨kp_check_feast, fd_check_feast, G_check_feast, b_check_feast⟩ := ok_check_feast (P := P) (w := w) (base := base) T
  refine ⟨F.kp, fd, ?_, F.bindsN fun _ _ _ _ _ _ us hl => match us, hl with | [_, _], _ => rfl⟩
  refine ok_of F c_days_of (by (intro ds d h; exact h.len)) fun cdv A outer s H E hr => ⟨t_days_of K, PSs.nox
      (pss_cons (ps_expr (pe_call G_check_feast (hr.mono (by decide)) (by rfl) (m_check_feast T) kp_check_feast b_check_feast .nil pass0 (pa_cons (pv 1) (pa_cons (pe_meth0 (pv 0) (k_Almanac T) (mt_Almanac_names T) G_Almanac_names (hr.mono (by decide)) b_Almanac_names .nil pass0) pa_nil))))
      (pss_one (ps_ret (pe_call G_copied (hr.mono (by decide)) (by rfl) (m_copied T) kp_copied b_copied .nil pass0 (pa_cons (pe_meth (pv 0) (k_Almanac T) (mt_Almanac_days T) G_Almanac_days (hr.mono (by decide)) b_Almanac_days .nil pass0 (pa_cons (pv 1) pa_nil)) pa_nil))))), fun ds d hF => ?_⟩
  obtain ⟨a, b, rfl, ys, f, h, rfl, rfl, rfl⟩ := hF.ex
  walk_at "env"
  refine q_drop (ev_call (d := .non) (ea_cons (ev_var rfl) (ea_cons (alm_meth (d := .lst []) rfl rfl ea_nil ⟨ys, h, rfl, rfl⟩) ea_nil)) ⟨f, rfl, rfl, rfl⟩) ?_
  refine l_ret (ev_call (d := setC (f.S ys)) (ea_cons (alm_meth (d := setC (f.S ys)) rfl rfl (ea_cons (ev_var rfl) ea_nil) ⟨ys, f, h, rfl, rfl, rfl⟩) ea_nil) ⟨?_, rfl⟩) rfl
  have hT := TT_le h
  have hp : Per (ind (f.S ys)) (TT ys) 0 := by
    cases f with
    | starts => exact stS_per (ml_per h) (ml_pos h)
    | ends => exact enS_per (ml_per h) (ml_pos h)
  have := Nat.le_of_dvd (TT_pos h) (minPer_dvd ⟨0, hp⟩ (TT_pos h) (TT ys) ⟨0, hp⟩)
  exact sml_set (by omega)
/-- the property's getter -/
theorem ok_Almanac_calendar {P : Program} {w : World} {K : Fr} {mg : Str → Option Value} {base : Heap} (T : Txt K mg) : Has P w K mg base 1 (gAd K) ["self"] (sp_Almanac_calendar K) := by
  obtain ⟨fd, F⟩ := T.getter
  refine ⟨F.kp, fd, ?_, F.bindsN fun _ _ _ _ _ _ us hl => match us, hl with | [_], _ => rfl⟩
  refine ok_of F c_Almanac_calendar (by (intro ds d h; exact h.len)) fun cdv A outer s H E hr => ⟨tRet (tFld K (tVar 0) "own_calendar"), PSs.nox
      (pss_one (ps_ret (pe_fld (pv 0) rfl))), fun ds d hF => ?_⟩
  obtain ⟨a, rfl, ys, h, rfl, rfl⟩ := hF.ex
  walk_at "env"
  exact l_ret (f_own_calendar T rfl) rfl
theorem p_calendar {K : Fr} {mg : Str → Option Value} (T : Txt K mg) : PropOf K (He.ga K "Almanac") "calendar" (pAd K) (gAd K) := T.prop
end Lk
set_option Elab.async false
set_option linter.all false
set_option maxRecDepth 100000
set_option maxHeartbeats 4000000
namespace Lk
open PySem L2
local macro_rules | `(tactic| walk_at "ev1") => `(tactic| first
  | ((with_reducible apply ev_var); exact rfl)
  | with_reducible exact ev_int | with_reducible exact ev_str | with_reducible exact ev_bl | with_reducible exact ev_non | with_reducible exact ea_nil | with_reducible apply ea_cons
  | with_reducible exact rd_addI | with_reducible exact rd_subG | with_reducible exact rd_ltG | with_reducible exact rd_leG | with_reducible exact rd_gtG | with_reducible exact rd_geG | with_reducible exact rd_eqI | with_reducible exact rd_neI | with_reducible exact rd_eqS
  | with_reducible exact rc_lenL | with_reducible exact rc_lenT | with_reducible exact rc_max2 | with_reducible exact rc_min2 | with_reducible exact rc_abs | with_reducible exact rc_intI | with_reducible exact rc_intB | with_reducible exact rc_listL | with_reducible exact rc_tupleL | with_reducible exact rc_all | with_reducible exact rc_sum
  | with_reducible exact gv_name | with_reducible exact gv_nil | with_reducible apply gv_cons | ((with_reducible apply gv_tup) <;> try exact rfl)
  | with_reducible apply rd_mulI | with_reducible apply rd_fdivG | with_reducible apply rd_modG | with_reducible apply rc_divmod | with_reducible apply rd_ixL | with_reducible apply rd_ixT | with_reducible apply rd_addL
  | with_reducible apply ev_tup | with_reducible apply ev_lst | with_reducible apply ev_op | with_reducible apply ev_cb | with_reducible exact eo_none | with_reducible apply eo_some | with_reducible apply ev_neg
  | with_reducible apply et_test | with_reducible apply et_B | with_reducible apply et_not | exact Nat.le_of_ble_eq_true rfl)
local macro_rules | `(tactic| walk_at "ev") => `(tactic| repeat' (walk_at "ev1"))
local macro_rules | `(tactic| walk_at "env") => `(tactic| simp only [rep, ladD, setS, setC, env0, List.map_cons, List.map_nil, List.length_cons, List.length_nil, Nat.reduceAdd, Nat.reduceSub, List.replicate_succ, List.replicate_zero, List.cons_append, List.nil_append])
-- IMPORTS LkC1
/-- a comprehension by places -/
theorem ev_lcx {K : Fr} {env : Env} {wi : TI} {g : TG} {te : TE} {vs : List Nat} {items out : List Dt} (hi : IV K wi env items) (hl : items.length ≤ 100000) (gk : GOk g vs) (hlen : out.length = items.length)
    (hb : ∀ (i : Nat) d, items[i]? = some d → ∃ env' y, GV K g d (ewipe env vs) env' ∧ out[i]? = some y ∧ EV K te env' y) : EV K (tLc wi g tYes te vs) env (.lst out) := by
  intro σ G H Q gh eo k
  refine hi σ G H _ gh eo fun J G1 H1 s1 yl D hD => ?_
  have eo1 := eo.mono s1.gg
  refine ⟨fun i m H' => m = items.length - i ∧ i ≤ items.length ∧ ∃ G', CSt K G1 H1 D (out.take i) G' H', ⟨items.length, rfl, Nat.zero_le _, G1, .start s1.gh hD⟩, ?_⟩
  rintro i m H' ⟨rfl, hi', G', c⟩
  by_cases hlt : i < items.length
  · obtain ⟨go, yld⟩ := yl.go G' H' c.gg c.gh i _ (List.getElem?_eq_getElem hlt)
    refine .inr ⟨go, fun H'' => ∃ G'', CSt K G1 H1 D (out.take (i + 1)) G'' H'', fun H'' ⟨G'', c''⟩ => ⟨items.length - (i + 1), by omega, rfl, hlt, G'', c''⟩, fun x H3 y3 => ?_⟩
    obtain ⟨G3, s3, r3⟩ := yld x H3 y3
    obtain ⟨env', y, gv, hy, ev⟩ := hb i _ (List.getElem?_eq_getElem hlt)
    have c3 := c.step s3
    refine gk.mono _ _ _ _ _ ?_ (gk.off _ _ _ _ (gv (wipe σ vs) x G3 H3 (fun σ2 H2 => H2 = H3 ∧ EnvOk K G3 env' σ2) s3.gh ((eo1.mono (c.gg.trans s3.gg)).wipe vs) r3 fun σ2 e2 => ⟨rfl, e2⟩))
    rintro σ2 H2 ⟨of, rfl, e2⟩
    refine ⟨wipe_off of, ?_⟩
    show te σ2 H2 _
    refine ev σ2 G3 H2 _ s3.gh e2 fun v G5 H5 s5 r5 => ?_
    obtain ⟨acc, a1, a2, a3⟩ := (c3.step s5).add hD r5
    refine ⟨acc, a1, ?_, G5, ?_⟩
    · rw [a2]
      refine sz_lt ?_
      rw [List.length_take]; omega
    · rw [List.take_succ, hy]; exact a3
  · have e : i = items.length := by omega
    subst e
    rw [← hlen, List.take_length] at c
    obtain ⟨G2, s2, r2⟩ := c.fin hD
    exact .inl ⟨yl.stop G' H' c.gg c.gh, k _ G2 H' (s1.trans s2) r2⟩
/-! ### what steps do -/
section
variable {S : Nat → Bool} {n : Nat} (h : Per (ind S) n 0) (hn : 0 < n) (he : ∃ x, S x = true)
include h hn he
theorem nx_per (k : Nat) : Per (nx S k) n n := fun x => by
  have h1 := cnt_add h x
  have h2 := nthS_per h hn he (cnt S x + k)
  show nthS S (cnt S (x + n) + k) = nthS S (cnt S x + k) + n
  rw [h1, show cnt S x + cnt S n + k = cnt S x + k + cnt S n by omega, h2]
theorem nx_mono (k x : Nat) : nx S k x ≤ nx S k (x + 1) := by
  refine mono_le (nthS_mono h hn he) ?_
  have := cnt_mono S x
  omega
end
theorem st_ex (g : Nat → Nat) : ∃ x, stS g x = true := ⟨0, rfl⟩
theorem en_ex {g : Nat → Nat} (hg : ∀ k, 0 < g k) : ∃ x, enS g x = true := by
  have h0 : 0 < sm g 1 := sm_lt hg (show 0 < 1 by omega)
  refine ⟨sm g 1 - 1, ?_⟩
  show stS g (sm g 1 - 1 + 1) = true
  rw [show sm g 1 - 1 + 1 = sm g 1 by omega]
  exact decide_eq_true (by rw [loc_sm hg])
theorem fst_per {ys : Yrs} (h : YOk ys) (f : Fst) : Per (ind (f.S ys)) (TT ys) 0 := by
  cases f with
  | starts => exact stS_per (ml_per h) (ml_pos h)
  | ends => exact enS_per (ml_per h) (ml_pos h)
theorem fst_ex {ys : Yrs} (h : YOk ys) (f : Fst) : ∃ x, f.S ys x = true := by
  cases f with
  | starts => exact st_ex _
  | ends => exact en_ex (ml_pos h)
theorem fst_mp {ys : Yrs} (h : YOk ys) (f : Fst) : Per (ind (f.S ys)) (minPer (ind (f.S ys))) 0 ∧ 0 < minPer (ind (f.S ys)) ∧ minPer (ind (f.S ys)) ≤ 45 := by
  have hp := fst_per h f
  obtain ⟨h1, _, _⟩ := minPer_spec ⟨0, hp⟩ (TT_pos h)
  have h2 := Nat.le_of_dvd (TT_pos h) (minPer_dvd ⟨0, hp⟩ (TT_pos h) (TT ys) ⟨0, hp⟩)
  have h3 := TT_le h
  have p := minPer_per ⟨0, hp⟩ (TT_pos h)
  have e := minPer_rise hp (TT_pos h)
  rw [Nat.zero_mul, Nat.zero_div] at e
  rw [← e] at p
  exact ⟨p, h1, by omega⟩
theorem R1.id {T : Nat} (hT : 0 < T) (hl : T ≤ 45) : R1 (fun x => x) T := R1.add hT hl 0
theorem stp_R1 {ys : Yrs} (h : YOk ys) (s : Stp) : R1 (s.f ys) (TT ys) := by
  have nxR : ∀ f : Fst, R1 (nx (f.S ys) 0) (TT ys) := fun f => ⟨nx_per (fst_per h f) (TT_pos h) (fst_ex h f) 0, TT_pos h, TT_le h, nx_mono (fst_per h f) (TT_pos h) (fst_ex h f) 0⟩
  cases s with
  | months n => exact .mo h n
  | years n => exact .yo h n
  | days n => exact .add (TT_pos h) (TT_le h) n
  | to f => exact nxR f
  | work => exact (R1.add (TT_pos h) (TT_le h) 1).comp (nxR .starts)
theorem runF_R1 {T : Nat} (hT : 0 < T) (hl : T ≤ 45) : ∀ {fs : List (Nat → Nat)}, (∀ f ∈ fs, R1 f T) → R1 (runF fs) T
  | [], _ => R1.id hT hl
  | f :: fs, h => (h f List.mem_cons_self).comp (runF_R1 hT hl (fs := fs) fun g hg => h g (List.mem_cons_of_mem _ hg))
theorem runF_take {fs : List (Nat → Nat)} {i : Nat} {f : Nat → Nat} (h : fs[i]? = some f) : runF (fs.take (i + 1)) = fun x => f (runF (fs.take i) x) := by
  funext x
  unfold runF
  rw [List.take_succ, h, List.foldl_append]; rfl
theorem runS_R1 {ys : Yrs} (h : YOk ys) (ss : List Stp) : R1 (runS ys ss) (TT ys) := runF_R1 (TT_pos h) (TT_le h) fun f hf => by
  obtain ⟨s, _, rfl⟩ := List.mem_map.mp hf
  exact stp_R1 h s
theorem joinF {K : Fr} {f g : Nat → Nat} {T U : Nat} (hf : R1 f T) (hg : R1 g U) : F_joined K [canon f, canon g] (canon fun x => g (f x)) := by
  have a := hf.mp
  have b := hg.mp
  exact ⟨f, g, minPer f, minPer f, minPer g, minPer g, hf.canon, hg.canon, hf.lad, hg.lad, by omega, a.1, by omega, by omega, by omega, rfl⟩
theorem minPer_add (n : Nat) : minPer (fun x => x + n) = 1 := by
  have hp : HasPer (fun x => x + n) 1 := ⟨1, fun x => by show x + 1 + n = x + n + 1; omega⟩
  obtain ⟨h1, _, h3⟩ := minPer_spec hp (by decide)
  have := h3 1 (by decide) hp
  omega
/-! ### steps as data -/
theorem et_tab {K : Fr} {env : Env} {te : TE} {w x y : Str} {a : Addr} {b : Bool} (h : EV K te env (.str w)) (t : ∀ H, SqT K H a [.str x, .str y]) (e : inV (.str w) [.str x, .str y] = b) : ET K (tTest (tOp (rIn K false) te (tC (.ref a)))) env b :=
  et_is (et_test (ev_op (d := .bl (inV (.str w) [.str x, .str y])) h (ev_raw (v := .ref a)) fun u v G H Q gh r1 r2 k => by
    rw [rp_str.mp r1, rp_raw.mp r2]
    exact ⟨a, _, rfl, .inr (t H), rfl, rfl, k _ G H (.refl gh) (rp_bl.mpr rfl)⟩)) e
theorem et_str {K : Fr} {env : Env} {te : TE} {w x : Str} {b : Bool} (h : EV K te env (.str w)) (e : decide (w = x) = b) : ET K (tTest (tOp (rEqG K) te (tC (.str x)))) env b := et_is (et_test (ev_op h ev_str rd_eqS)) e
theorem ev_at {K : Fr} {env : Env} {i j : Nat} {ds : List Dt} {d : Dt} (h : env[i]? = some (some (.tup ds))) (e : ds[j]? = some d) : EV K (tOp (rIxG K) (tVar i) (tC (.int (j : Nat)))) env d := ev_op (ev_var h) ev_int (rd_ixT (atI_nat e))
theorem tab_pairs {K : Fr} {mg : Str → Option Value} (T : Txt K mg) (H : Hp) : SqT K H (He.ga K "PAIRS") [.str "earlier", .str "later"] := He.tupB_ok T.tabs.1 H
theorem tab_going {K : Fr} {mg : Str → Option Value} (T : Txt K mg) (H : Hp) : SqT K H (He.ga K "GOING") [.str "to", .str "work"] := He.tupB_ok T.tabs.2 H
def t_days_on (K : Fr) : TS :=
  (tRet (tTup (tCons (tLst tNil) (tCons (tLst (tCons (tVar 0) tNil)) (tCons (tC (.int 1)) tNil)))))
def t_going_on (K : Fr) : TS :=
  (tRet (tCall (sp_joined K) [] E0 (tCons (tCall (sp_joined K) [] E0 (tCons (tCall (sp_counts K) [] E0 (tCons (tVar 0) tNil)) (tCons (tCall (sp_days_on K) [] E0 (tCons (tVar 1) tNil)) tNil))) (tCons (tCall (sp_nth_days K) [] E0 (tCons (tVar 0) tNil)) tNil))))
def t_opened_step (K : Fr) : TS :=
  (tSeq (tAsg (tOp (rIxG K) (tVar 1) (tC (.int 0))) (gName 2))
      (tSeq (tIfS (tTest (tOp (rIn K false) (tVar 2) (tC (.ref (He.ga K "PAIRS"))))) tNever tNext)
      (tSeq (tIfS (tTest (tOp (rEqG K) (tVar 2) (tC (.str "to")))) (tRet (tTup (tCons (tVar 2) (tCons (tC (.int 1)) (tCons (tCall (sp_days_of K) [] E0 (tCons (tVar 0) (tCons (tOp (rIxG K) (tVar 1) (tC (.int 1))) tNil))) tNil))))) tNext)
      (tSeq (tDrop (tCall (sp_need_number K) [] E0 (tCons (tOp (rIxG K) (tVar 1) (tC (.int 1))) (tCons (tIf (tTest (tOp (rEqG K) (tVar 2) (tC (.str "work")))) (tC (.int 1)) (tC (.int 0))) tNil))))
      (tSeq (tIfS (tTest (tOp (rEqG K) (tVar 2) (tC (.str "work")))) (tRet (tTup (tCons (tVar 2) (tCons (tOp (rIxG K) (tVar 1) (tC (.int 1))) (tCons (tCall (sp_days_of K) [] E0 (tCons (tVar 0) (tCons (tOp (rIxG K) (tVar 1) (tC (.int 2))) tNil))) tNil))))) tNext)
      (tRet (tTup (tCons (tVar 2) (tCons (tOp (rIxG K) (tVar 1) (tC (.int 1))) tNil)))))))))
def t_opened_term (K : Fr) : TS :=
  (tRet (tLc (iList K (tVar 1)) (gName 2) tYes (tCall (sp_opened_step K) [] E0 (tCons (tVar 0) (tCons (tVar 2) tNil))) [2]))
def t_check_ends (K : Fr) : TS :=
  (tFor (iList K (tVar 0)) (gName 1) (tIfS (tTest (tOp (rIn K false) (tOp (rIxG K) (tVar 1) (tC (.int 0))) (tC (.ref (He.ga K "PAIRS"))))) tNever (tIfS (tAnd (tTest (tOp (rIn K false) (tOp (rIxG K) (tVar 1) (tC (.int 0))) (tC (.ref (He.ga K "GOING"))))) (tTest (tOp (rEqG K) (tOp (rIxG K) (tOp (rIxG K) (tVar 1) (tC (.int 2))) (tC (.int 3))) (tLst tNil)))) tNever tNext)))
def t_checked_term (K : Fr) : TS :=
  (tSeq (tAsg (tCall (sp_opened_term K) [] E0 (tCons (tVar 0) (tCons (tVar 1) tNil))) (gName 2))
      (tSeq (tDrop (tCall (sp_check_ends K) [] E0 (tCons (tVar 2) tNil)))
      (tRet (tVar 2))))
def t_ladder_of_step (K : Fr) : TS :=
  (tSeq (tAsg (tOp (rIxG K) (tVar 1) (tC (.int 0))) (gName 2))
      (tSeq (tIfS (tTest (tOp (rEqG K) (tVar 2) (tC (.str "earlier")))) tNever tNext)
      (tSeq (tIfS (tTest (tOp (rEqG K) (tVar 2) (tC (.str "later")))) tNever tNext)
      (tSeq (tIfS (tTest (tOp (rEqG K) (tVar 2) (tC (.str "to")))) (tRet (tCall (sp_going_on K) [] E0 (tCons (tOp (rIxG K) (tVar 1) (tC (.int 2))) (tCons (tC (.int 0)) tNil)))) tNext)
      (tSeq (tIfS (tTest (tOp (rEqG K) (tVar 2) (tC (.str "work")))) (tRet (tCall (sp_joined K) [] E0 (tCons (tCall (sp_days_on K) [] E0 (tCons (tC (.int 1)) tNil)) (tCons (tCall (sp_going_on K) [] E0 (tCons (tOp (rIxG K) (tVar 1) (tC (.int 2))) (tCons (tOp rSubG (tOp (rIxG K) (tVar 1) (tC (.int 1))) (tC (.int 1))) tNil))) tNil)))) tNext)
      (tSeq (tIfS (tTest (tOp (rEqG K) (tVar 2) (tC (.str "months")))) (tRet (tMeth (He.ga K "Calendar") "months_on" (sp_Calendar_months_on K) [] E0 (tProp (He.ga K "Almanac") (sp_Almanac_calendar K) [] E0 (tVar 0)) (tCons (tOp (rIxG K) (tVar 1) (tC (.int 1))) tNil))) tNext)
      (tSeq (tIfS (tTest (tOp (rEqG K) (tVar 2) (tC (.str "years")))) (tRet (tMeth (He.ga K "Calendar") "years_on" (sp_Calendar_years_on K) [] E0 (tProp (He.ga K "Almanac") (sp_Almanac_calendar K) [] E0 (tVar 0)) (tCons (tOp (rIxG K) (tVar 1) (tC (.int 1))) tNil))) tNext)
      (tRet (tIf (tTest (tOp (rEqG K) (tVar 2) (tC (.str "not before")))) (fun _ _ _ => False) (tCall (sp_days_on K) [] E0 (tCons (tOp (rIxG K) (tVar 1) (tC (.int 1))) tNil)))))))))))
def t_joined_all (K : Fr) : TS :=
  (tSeq (tAsg (tCall (sp_days_on K) [] E0 (tCons (tC (.int 0)) tNil)) (gName 1))
      (tSeq (tFor (iList K (tVar 0)) (gName 2) (tAsg (tCall (sp_joined K) [] E0 (tCons (tVar 1) (tCons (tVar 2) tNil))) (gName 1)))
      (tRet (tVar 1))))
def t_ladder_of_steps (K : Fr) : TS :=
  (tRet (tCall (sp_joined_all K) [] E0 (tCons (tLc (iList K (tVar 1)) (gName 2) tYes (tCall (sp_ladder_of_step K) [] E0 (tCons (tVar 0) (tCons (tVar 2) tNil))) [2]) tNil)))
def t_ladder_of (K : Fr) : TS :=
  (tRet (tCall (sp_ladder_of_steps K) [] E0 (tCons (tVar 0) (tCons (tCall (sp_checked_term K) [] E0 (tCons (tVar 0) (tCons (tVar 1) tNil))) tNil))))
def t_due (K : Fr) : TS :=
  (tRet (tCall (sp_value K) [] E0 (tCons (tCall (sp_ladder_of K) [] E0 (tCons (tVar 0) (tCons (tVar 1) tNil))) (tCons (tVar 2) tNil))))
def t_two_ladders (K : Fr) : TS :=
  (tRet (tTup (tCons (tCall (sp_ladder_of K) [] E0 (tCons (tVar 0) (tCons (tVar 1) tNil))) (tCons (tCall (sp_ladder_of K) [] E0 (tCons (tVar 0) (tCons (tVar 2) tNil))) tNil))))
theorem ok_days_on {P : Program} {w : World} {K : Fr} {mg : Str → Option Value} {base : Heap} (T : Txt K mg) : Has P w K mg base 1 (He.ga K "days_on") ["number"] (sp_days_on K) := by
  obtain ⟨fd, F⟩ := T.says.def_ 45 (d := d_days_on) rfl
  have F : FunD K "days_on" "days_on" (defArgs s_days_on) (defBody s_days_on) (defScope s_days_on) [] [] (He.ga K "days_on") fd := F
  skip
  refine ⟨F.kp, fd, ?_, F.bindsN fun _ _ _ _ _ _ us hl => match us, hl with | [_], _ => rfl⟩
  refine ok_of F c_days_on (by (intro ds d h; exact h.len)) fun cdv A outer s H E hr => ⟨t_days_on K, PSs.nox
      (pss_one (ps_ret (pe_tup (pa_cons (pe_lst pa_nil) (pa_cons (pe_lst (pa_cons (pv 0) pa_nil)) (pa_cons pe_int pa_nil)))))), fun ds d hF => ?_⟩
  obtain ⟨a, rfl, n, rfl, rfl⟩ := hF.ex
  walk_at "env"
  refine l_ret (ev_is (ev_tup (ea_cons (ev_lst ea_nil (by simp)) (ea_cons (ev_lst (ea_cons (ev_var rfl) ea_nil) (by simp)) (ea_cons ev_int ea_nil))) (by simp)) ?_) rfl
  unfold canon rep ladD
  rw [minPer_add]
  have e : (1 + n - (0 + n) : Nat) = 1 := by omega
  show _ = Dt.tup [.lst [], .lst ((tab (fun x => x + n) 1).map Dt.int), .int ((1 + n - (0 + n) : Nat) : Int)]
  rw [e]
  have e2 : tab (fun x => x + n) 1 = [((n : Nat) : Int)] := by simp [tab, List.range_succ]
  rw [e2]; rfl
theorem ok_going_on {P : Program} {w : World} {K : Fr} {mg : Str → Option Value} {base : Heap} (T : Txt K mg) : Has P w K mg base 6 (He.ga K "going_on") ["told", "number"] (sp_going_on K) := by
  obtain ⟨fd, F⟩ := T.says.def_ 46 (d := d_going_on) rfl
  have F : FunD K "going_on" "going_on" (defArgs s_going_on) (defBody s_going_on) (defScope s_going_on) [] [] (He.ga K "going_on") fd := F
  obtain ⟨kp_nth_days, fd_nth_days, G_nth_days, b_nth_days⟩ := ok_nth_days (P := P) (w := w) (base := base) T
  obtain ⟨kp_days_on, fd_days_on, G_days_on, b_days_on⟩ := ok_days_on (P := P) (w := w) (base := base) T
  obtain ⟨kp_counts, fd_counts, G_counts, b_counts⟩ := ok_counts (P := P) (w := w) (base := base) T
  obtain ⟨kp_joined, fd_joined, G_joined, b_joined⟩ := ok_joined (P := P) (w := w) (base := base) T
  refine ⟨F.kp, fd, ?_, F.bindsN fun _ _ _ _ _ _ us hl => match us, hl with | [_, _], _ => rfl⟩
  refine ok_of F c_going_on (by (intro ds d h; exact h.len)) fun cdv A outer s H E hr => ⟨t_going_on K, PSs.nox
      (pss_one (ps_ret (pe_call G_joined (hr.mono (by decide)) (by rfl) (m_joined T) kp_joined b_joined .nil pass0 (pa_cons (pe_call G_joined (hr.mono (by decide)) (by rfl) (m_joined T) kp_joined b_joined .nil pass0 (pa_cons (pe_call G_counts (hr.mono (by decide)) (by rfl) (m_counts T) kp_counts b_counts .nil pass0 (pa_cons (pv 0) pa_nil)) (pa_cons (pe_call G_days_on (hr.mono (by decide)) (by rfl) (m_days_on T) kp_days_on b_days_on .nil pass0 (pa_cons (pv 1) pa_nil)) pa_nil))) (pa_cons (pe_call G_nth_days (hr.mono (by decide)) (by rfl) (m_nth_days T) kp_nth_days b_nth_days .nil pass0 (pa_cons (pv 0) pa_nil)) pa_nil))))), fun ds d hF => ?_⟩
  obtain ⟨a, b, rfl, S, n, k, rfl, rfl, hp, hn, hn2, he, rfl⟩ := hF.ex
  walk_at "env"
  have hc0 := cnt_pos hp hn he
  have hcn := cnt_le S n
  have L1 : Lad (cnt S) n (cnt S n) := ⟨cnt_add hp, hn, cnt_mono S⟩
  have L2' : Lad (fun x => cnt S x + k) n (cnt S n) := ⟨fun x => by show cnt S (x + n) + k = cnt S x + k + cnt S n; have := cnt_add hp x; omega, hn, fun x => by show cnt S x + k ≤ cnt S (x + 1) + k; have := cnt_mono S x; omega⟩
  have L3 : Lad (nthS S) (cnt S n) n := ⟨nthS_per hp hn he, hc0, nthS_mono hp hn he⟩
  obtain ⟨m1, r1, c1, l1, a1, b1, d1⟩ := canon_lad L1 (by omega) hc0 (by omega)
  obtain ⟨m2, r2, c2, l2, a2, b2, d2⟩ := canon_lad L2' (by omega) hc0 (by omega)
  obtain ⟨m3, r3, c3, l3, a3, b3, d3⟩ := canon_lad L3 (by omega) hn (by omega)
  have hR := R1.add (T := 1) (by decide) (by decide) k
  have q := hR.mp
  exact l_ret (ev_call (d := canon (nx S k)) (ea_cons (ev_call (d := canon fun x => cnt S x + k) (ea_cons (ev_call (d := canon (cnt S)) (ea_cons (ev_var rfl) ea_nil) ⟨S, n, rfl, hp, hn, by omega, rfl⟩) (ea_cons (ev_call (d := canon fun x => x + k) (ea_cons (ev_var rfl) ea_nil) ⟨k, rfl, rfl⟩) ea_nil)) ⟨cnt S, fun x => x + k, m1, r1, _, _, c1, hR.canon, l1, hR.lad, a1, b1, d1, by omega, by omega, rfl⟩)
    (ea_cons (ev_call (d := canon (nthS S)) (ea_cons (ev_var rfl) ea_nil) ⟨S, n, rfl, hp, hn, by omega, he, rfl⟩) ea_nil)) ⟨fun x => cnt S x + k, nthS S, m2, r2, m3, r3, c2, c3, l2, l3, a2, b2, d2, a3, d3, rfl⟩) rfl
theorem ok_opened_step {P : Program} {w : World} {K : Fr} {mg : Str → Option Value} {base : Heap} (T : Txt K mg) : Has P w K mg base 14 (He.ga K "opened_step") ["almanac", "step"] (sp_opened_step K) := by
  obtain ⟨fd, F⟩ := T.says.def_ 47 (d := d_opened_step) rfl
  have F : FunD K "opened_step" "opened_step" (defArgs s_opened_step) (defBody s_opened_step) (defScope s_opened_step) [] [] (He.ga K "opened_step") fd := F
  obtain ⟨kp_days_of, fd_days_of, G_days_of, b_days_of⟩ := ok_days_of (P := P) (w := w) (base := base) T
  obtain ⟨kp_need_number, fd_need_number, G_need_number, b_need_number⟩ := ok_need_number (P := P) (w := w) (base := base) T
  refine ⟨F.kp, fd, ?_, F.bindsN fun _ _ _ _ _ _ us hl => match us, hl with | [_, _], _ => rfl⟩
  refine ok_of F c_opened_step (by (intro ds d h; exact h.len)) fun cdv A outer s H E hr => ⟨t_opened_step K, PSs.nox
      (pss_cons (ps_set (i := 2) c_opened_step.nd rfl (Or.inl rfl) (pe_ix ix_G (pv 1) pe_int (fun _ _ => rfl)))
      (pss_cons (ps_if (pt_cmpR op_in_seq (pv 2) (pe_glob rfl (m_PAIRS T) rfl) (by rfl)) pss_never pss_nil)
      (pss_cons (ps_if (pt_cmpR (op_eqG hr.units) (pv 2) pe_str (nomark _)) (pss_one (ps_ret (pe_tup (pa_cons (pv 2) (pa_cons pe_int (pa_cons (pe_call G_days_of (hr.mono (by decide)) (by rfl) (m_days_of T) kp_days_of b_days_of .nil pass0 (pa_cons (pv 0) (pa_cons (pe_ix ix_G (pv 1) pe_int (fun _ _ => rfl)) pa_nil))) pa_nil)))))) pss_nil)
      (pss_cons (ps_expr (pe_call G_need_number (hr.mono (by decide)) (by rfl) (m_need_number T) kp_need_number b_need_number .nil pass0 (pa_cons (pe_ix ix_G (pv 1) pe_int (fun _ _ => rfl)) (pa_cons (pe_ifExp (pt_cmpR (op_eqG hr.units) (pv 2) pe_str (nomark _)) pe_int pe_int) pa_nil))))
      (pss_cons (ps_if (pt_cmpR (op_eqG hr.units) (pv 2) pe_str (nomark _)) (pss_one (ps_ret (pe_tup (pa_cons (pv 2) (pa_cons (pe_ix ix_G (pv 1) pe_int (fun _ _ => rfl)) (pa_cons (pe_call G_days_of (hr.mono (by decide)) (by rfl) (m_days_of T) kp_days_of b_days_of .nil pass0 (pa_cons (pv 0) (pa_cons (pe_ix ix_G (pv 1) pe_int (fun _ _ => rfl)) pa_nil))) pa_nil)))))) pss_nil)
      (pss_one (ps_ret (pe_tup (pa_cons (pv 2) (pa_cons (pe_ix ix_G (pv 1) pe_int (fun _ _ => rfl)) pa_nil)))))))))), fun ds d hF => ?_⟩
  obtain ⟨a, b, rfl, ys, s, h, rfl, rfl, rfl⟩ := hF.ex
  walk_at "env"
  have small : ∀ {n : Nat} {w : Str}, (env : Env) → True := fun _ => trivial
  cases s with
  | months n =>
    refine q_set (ev_at (j := 0) rfl rfl) ?_
    refine q_no (et_tab (ev_var rfl) (tab_pairs T) (by decide)) ?_
    refine q_no (et_str (ev_var rfl) rfl) ?_
    refine q_drop (ev_call (d := .non) (ea_cons (ev_at (j := 1) rfl rfl) (ea_cons (ev_if (b := false) (d := .int 0) (et_str (ev_var rfl) rfl) (fun e => by cases e) fun _ => ev_int) ea_nil)) ⟨n, 0, rfl, rfl, by omega, rfl⟩) ?_
    refine q_no (et_str (ev_var rfl) rfl) ?_
    exact l_ret (ev_tup (ea_cons (ev_var rfl) (ea_cons (ev_at (j := 1) rfl rfl) ea_nil)) (by simp)) rfl
  | years n =>
    refine q_set (ev_at (j := 0) rfl rfl) ?_
    refine q_no (et_tab (ev_var rfl) (tab_pairs T) (by decide)) ?_
    refine q_no (et_str (ev_var rfl) rfl) ?_
    refine q_drop (ev_call (d := .non) (ea_cons (ev_at (j := 1) rfl rfl) (ea_cons (ev_if (b := false) (d := .int 0) (et_str (ev_var rfl) rfl) (fun e => by cases e) fun _ => ev_int) ea_nil)) ⟨n, 0, rfl, rfl, by omega, rfl⟩) ?_
    refine q_no (et_str (ev_var rfl) rfl) ?_
    exact l_ret (ev_tup (ea_cons (ev_var rfl) (ea_cons (ev_at (j := 1) rfl rfl) ea_nil)) (by simp)) rfl
  | days n =>
    refine q_set (ev_at (j := 0) rfl rfl) ?_
    refine q_no (et_tab (ev_var rfl) (tab_pairs T) (by decide)) ?_
    refine q_no (et_str (ev_var rfl) rfl) ?_
    refine q_drop (ev_call (d := .non) (ea_cons (ev_at (j := 1) rfl rfl) (ea_cons (ev_if (b := false) (d := .int 0) (et_str (ev_var rfl) rfl) (fun e => by cases e) fun _ => ev_int) ea_nil)) ⟨n, 0, rfl, rfl, by omega, rfl⟩) ?_
    refine q_no (et_str (ev_var rfl) rfl) ?_
    exact l_ret (ev_tup (ea_cons (ev_var rfl) (ea_cons (ev_at (j := 1) rfl rfl) ea_nil)) (by simp)) rfl
  | to f =>
    refine q_set (ev_at (j := 0) rfl rfl) ?_
    refine q_no (et_tab (ev_var rfl) (tab_pairs T) (by decide)) ?_
    refine q_yes (et_str (ev_var rfl) rfl) ?_
    exact q_ret (ev_tup (ea_cons (ev_var rfl) (ea_cons ev_int (ea_cons (ev_call (d := setC (f.S ys)) (ea_cons (ev_var rfl) (ea_cons (ev_at (j := 1) rfl rfl) ea_nil)) ⟨ys, f, h, rfl, rfl, rfl⟩) ea_nil))) (by simp)) rfl
  | work =>
    refine q_set (ev_at (j := 0) rfl rfl) ?_
    refine q_no (et_tab (ev_var rfl) (tab_pairs T) (by decide)) ?_
    refine q_no (et_str (ev_var rfl) rfl) ?_
    refine q_drop (ev_call (d := .non) (ea_cons (ev_at (j := 1) rfl rfl) (ea_cons (ev_if (b := true) (d := .int 1) (et_str (ev_var rfl) rfl) (fun _ => ev_int) fun e => by cases e) ea_nil)) ⟨1, 1, rfl, rfl, by omega, rfl⟩) ?_
    refine q_yes (et_str (ev_var rfl) rfl) ?_
    exact q_ret (ev_tup (ea_cons (ev_var rfl) (ea_cons (ev_at (j := 1) rfl rfl) (ea_cons (ev_call (d := setC (Fst.starts.S ys)) (ea_cons (ev_var rfl) (ea_cons (ev_at (j := 2) rfl rfl) ea_nil)) ⟨ys, .starts, h, rfl, rfl, rfl⟩) ea_nil))) (by simp)) rfl
theorem ok_opened_term {P : Program} {w : World} {K : Fr} {mg : Str → Option Value} {base : Heap} (T : Txt K mg) : Has P w K mg base 15 (He.ga K "opened_term") ["almanac", "term"] (sp_opened_term K) := by
  obtain ⟨fd, F⟩ := T.says.def_ 48 (d := d_opened_term) rfl
  have F : FunD K "opened_term" "opened_term" (defArgs s_opened_term) (defBody s_opened_term) (defScope s_opened_term) [] [] (He.ga K "opened_term") fd := F
  obtain ⟨kp_opened_step, fd_opened_step, G_opened_step, b_opened_step⟩ := ok_opened_step (P := P) (w := w) (base := base) T
  refine ⟨F.kp, fd, ?_, F.bindsN fun _ _ _ _ _ _ us hl => match us, hl with | [_, _], _ => rfl⟩
  refine ok_of F c_opened_term (by (intro ds d h; exact h.len)) fun cdv A outer s H E hr => ⟨t_opened_term K, PSs.nox
      (pss_one (ps_ret (pe_lc (own := [("step", 2)]) (wi := (iList K (tVar 1))) (g := (gName 2)) (tt := tYes) (te := (tCall (sp_opened_step K) [] E0 (tCons (tVar 0) (tCons (tVar 2) tNil)))) (by rfl) c_opened_term.nd (pi_list (pv 1)) (blkOk_by (own := [("step", 2)]) (N := ["almanac", "term", "step"]) (sc := defScope s_opened_term) (by decide +kernel)) (fun _ _ _ _ _ => (pg_name (i := 2) c_opened_term.nd rfl (Or.inl rfl))) (fun _ _ _ _ _ => pts_nil) (fun _ _ _ _ _ => (pe_call G_opened_step (hr.mono (by decide)) (by rfl) (m_opened_step T) kp_opened_step b_opened_step .nil pass0 (pa_cons (pv 0) (pa_cons (pv 2) pa_nil))))))), fun ds d hF => ?_⟩
  obtain ⟨a, b, rfl, ys, ss, h, rfl, rfl, hl, rfl⟩ := hF.ex
  walk_at "env"
  refine l_ret (ev_lcx (items := ss.map Stp.D) (out := ss.map (Stp.O ys)) (iv_list (ev_var rfl)) (by rw [List.length_map]; omega) (gk_name (by decide)) (by rw [List.length_map, List.length_map]) fun i d hd => ?_) rfl
  rw [List.getElem?_map] at hd
  obtain ⟨s, hs, rfl⟩ := Option.map_eq_some_iff.mp hd
  exact ⟨_, Stp.O ys s, gv_name, by rw [List.getElem?_map, hs]; rfl, ev_call (ea_cons (ev_var rfl) (ea_cons (ev_var rfl) ea_nil)) ⟨ys, s, h, rfl, rfl, rfl⟩⟩
theorem ok_check_ends {P : Program} {w : World} {K : Fr} {mg : Str → Option Value} {base : Heap} (T : Txt K mg) : Has P w K mg base 1 (He.ga K "check_ends") ["steps"] (sp_check_ends K) := by
  obtain ⟨fd, F⟩ := T.says.def_ 49 (d := d_check_ends) rfl
  have F : FunD K "check_ends" "check_ends" (defArgs s_check_ends) (defBody s_check_ends) (defScope s_check_ends) [] [] (He.ga K "check_ends") fd := F
  skip
  refine ⟨F.kp, fd, ?_, F.bindsN fun _ _ _ _ _ _ us hl => match us, hl with | [_], _ => rfl⟩
  refine ok_of F c_check_ends (by (intro ds d h; exact h.len)) fun cdv A outer s H E hr => ⟨t_check_ends K, PSs.nox
      (pss_one (ps_for PassesOwn.never rfl (pi_list (pv 0)) (pg_name (i := 1) c_check_ends.nd rfl (Or.inl rfl)) (pss_one (ps_if (pt_cmpR op_in_seq (pe_ix ix_G (pv 1) pe_int (fun _ _ => rfl)) (pe_glob rfl (m_PAIRS T) rfl) (by rfl)) pss_never (pss_one (ps_if (PW.pt (pw_and (pt_cmpR op_in_seq (pe_ix ix_G (pv 1) pe_int (fun _ _ => rfl)) (pe_glob rfl (m_GOING T) rfl) (by rfl)) (pw_and1 (pt_cmpR (op_eqG hr.units) (pe_ix ix_G (pe_ix ix_G (pv 1) pe_int (fun _ _ => rfl)) pe_int (fun _ _ => rfl)) (pe_lst pa_nil) (nomark _))))) pss_never pss_nil)))))), fun ds d hF => ?_⟩
  obtain ⟨a, rfl, ys, ss, h, rfl, hl, rfl⟩ := hF.ex
  walk_at "env"
  have ne : ∀ f : Fst, (days (f.S ys) (minPer (ind (f.S ys)))).map Dt.int ≠ [] := fun f => by
    obtain ⟨p, p0, _⟩ := fst_mp h f
    rw [days_eq]
    exact tab_ne (cnt_pos p p0 (fst_ex h f))
  have nb : ∀ {env : Env} (f : Fst) {o : Dt}, env[1]? = some (some (.tup [o, .int 1, setC (f.S ys)])) → ET K (tTest (tOp (rEqG K) (tOp (rIxG K) (tOp (rIxG K) (tVar 1) (tC (.int 2))) (tC (.int 3))) (tLst tNil))) env false := fun f o e =>
    et_test (ev_op (ev_op (ev_at (j := 2) e rfl) ev_int (rd_ixT (atI_nat (j := 3) rfl))) (ev_lst ea_nil (by simp)) (rd_isEmpty (smp_ints _) (by decide) (by decide) (ne f)))
  refine l_q (q_for (items := ss.map (Stp.O ys)) (iv_list (ev_var rfl)) (fun i e M => ∃ x : Option Dt, e = [some (termO ys ss), x] ∧ M = none) ⟨none, rfl, rfl⟩ ?_ ?_)
  · rintro i d e M hd ⟨x, rfl, rfl⟩
    rw [List.getElem?_map] at hd
    obtain ⟨s, hs, rfl⟩ := Option.map_eq_some_iff.mp hd
    refine ⟨_, gv_name, ?_⟩
    cases s with
    | months n => exact l_q (q_noE (et_tab (ev_at (j := 0) rfl rfl) (tab_pairs T) (by decide)) (q_no (et_and (a := false) (b := false) (et_tab (ev_at (j := 0) rfl rfl) (tab_going T) (by decide)) fun e => by cases e) (l_end ⟨_, rfl, rfl⟩)))
    | years n => exact l_q (q_noE (et_tab (ev_at (j := 0) rfl rfl) (tab_pairs T) (by decide)) (q_no (et_and (a := false) (b := false) (et_tab (ev_at (j := 0) rfl rfl) (tab_going T) (by decide)) fun e => by cases e) (l_end ⟨_, rfl, rfl⟩)))
    | days n => exact l_q (q_noE (et_tab (ev_at (j := 0) rfl rfl) (tab_pairs T) (by decide)) (q_no (et_and (a := false) (b := false) (et_tab (ev_at (j := 0) rfl rfl) (tab_going T) (by decide)) fun e => by cases e) (l_end ⟨_, rfl, rfl⟩)))
    | to f => exact l_q (q_noE (et_tab (ev_at (j := 0) rfl rfl) (tab_pairs T) (by decide)) (q_no (et_and (a := true) (b := false) (et_tab (ev_at (j := 0) rfl rfl) (tab_going T) (by decide)) fun _ => nb f rfl) (l_end ⟨_, rfl, rfl⟩)))
    | work => exact l_q (q_noE (et_tab (ev_at (j := 0) rfl rfl) (tab_pairs T) (by decide)) (q_no (et_and (a := true) (b := false) (et_tab (ev_at (j := 0) rfl rfl) (tab_going T) (by decide)) fun _ => nb .starts rfl) (l_end ⟨_, rfl, rfl⟩)))
  · rintro e M ⟨x, rfl, rfl⟩
    exact l_end (by trivial)
theorem ok_checked_term {P : Program} {w : World} {K : Fr} {mg : Str → Option Value} {base : Heap} (T : Txt K mg) : Has P w K mg base 16 (He.ga K "checked_term") ["almanac", "term"] (sp_checked_term K) := by
  obtain ⟨fd, F⟩ := T.says.def_ 50 (d := d_checked_term) rfl
  have F : FunD K "checked_term" "checked_term" (defArgs s_checked_term) (defBody s_checked_term) (defScope s_checked_term) [] [] (He.ga K "checked_term") fd := F
  obtain ⟨kp_check_ends, fd_check_ends, G_check_ends, b_check_ends⟩ := ok_check_ends (P := P) (w := w) (base := base) T
  obtain ⟨kp_opened_term, fd_opened_term, G_opened_term, b_opened_term⟩ := ok_opened_term (P := P) (w := w) (base := base) T
  refine ⟨F.kp, fd, ?_, F.bindsN fun _ _ _ _ _ _ us hl => match us, hl with | [_, _], _ => rfl⟩
  refine ok_of F c_checked_term (by (intro ds d h; exact h.len)) fun cdv A outer s H E hr => ⟨t_checked_term K, PSs.nox
      (pss_cons (ps_set (i := 2) c_checked_term.nd rfl (Or.inl rfl) (pe_call G_opened_term (hr.mono (by decide)) (by rfl) (m_opened_term T) kp_opened_term b_opened_term .nil pass0 (pa_cons (pv 0) (pa_cons (pv 1) pa_nil))))
      (pss_cons (ps_expr (pe_call G_check_ends (hr.mono (by decide)) (by rfl) (m_check_ends T) kp_check_ends b_check_ends .nil pass0 (pa_cons (pv 2) pa_nil)))
      (pss_one (ps_ret (pv 2))))), fun ds d hF => ?_⟩
  obtain ⟨a, b, rfl, ys, ss, h, rfl, rfl, hl, rfl⟩ := hF.ex
  walk_at "env"
  refine q_set (ev_call (d := termO ys ss) (ea_cons (ev_var rfl) (ea_cons (ev_var rfl) ea_nil)) ⟨ys, ss, h, rfl, rfl, hl, rfl⟩) ?_
  refine q_drop (ev_call (d := .non) (ea_cons (ev_var rfl) ea_nil) ⟨ys, ss, h, rfl, hl, rfl⟩) ?_
  exact l_ret (ev_var rfl) rfl
theorem ok_ladder_of_step {P : Program} {w : World} {K : Fr} {mg : Str → Option Value} {base : Heap} (T : Txt K mg) : Has P w K mg base 7 (He.ga K "ladder_of_step") ["almanac", "step"] (sp_ladder_of_step K) := by
  obtain ⟨fd, F⟩ := T.says.def_ 51 (d := d_ladder_of_step) rfl
  have F : FunD K "ladder_of_step" "ladder_of_step" (defArgs s_ladder_of_step) (defBody s_ladder_of_step) (defScope s_ladder_of_step) [] [] (He.ga K "ladder_of_step") fd := F
  obtain ⟨kp_days_on, fd_days_on, G_days_on, b_days_on⟩ := ok_days_on (P := P) (w := w) (base := base) T
  obtain ⟨kp_Almanac_calendar, fd_Almanac_calendar, G_Almanac_calendar, b_Almanac_calendar⟩ := ok_Almanac_calendar (P := P) (w := w) (base := base) T
  obtain ⟨kp_Calendar_years_on, fd_Calendar_years_on, G_Calendar_years_on, b_Calendar_years_on⟩ := ok_Calendar_years_on (P := P) (w := w) (base := base) T
  obtain ⟨kp_Calendar_months_on, fd_Calendar_months_on, G_Calendar_months_on, b_Calendar_months_on⟩ := ok_Calendar_months_on (P := P) (w := w) (base := base) T
  obtain ⟨kp_going_on, fd_going_on, G_going_on, b_going_on⟩ := ok_going_on (P := P) (w := w) (base := base) T
  obtain ⟨kp_joined, fd_joined, G_joined, b_joined⟩ := ok_joined (P := P) (w := w) (base := base) T
  refine ⟨F.kp, fd, ?_, F.bindsN fun _ _ _ _ _ _ us hl => match us, hl with | [_, _], _ => rfl⟩
  refine ok_of F c_ladder_of_step (by (intro ds d h; exact h.len)) fun cdv A outer s H E hr => ⟨t_ladder_of_step K, PSs.nox
      (pss_cons (ps_set (i := 2) c_ladder_of_step.nd rfl (Or.inl rfl) (pe_ix ix_G (pv 1) pe_int (fun _ _ => rfl)))
      (pss_cons (ps_if (pt_cmpR (op_eqG hr.units) (pv 2) pe_str (nomark _)) pss_never pss_nil)
      (pss_cons (ps_if (pt_cmpR (op_eqG hr.units) (pv 2) pe_str (nomark _)) pss_never pss_nil)
      (pss_cons (ps_if (pt_cmpR (op_eqG hr.units) (pv 2) pe_str (nomark _)) (pss_one (ps_ret (pe_call G_going_on (hr.mono (by decide)) (by rfl) (m_going_on T) kp_going_on b_going_on .nil pass0 (pa_cons (pe_ix ix_G (pv 1) pe_int (fun _ _ => rfl)) (pa_cons pe_int pa_nil))))) pss_nil)
      (pss_cons (ps_if (pt_cmpR (op_eqG hr.units) (pv 2) pe_str (nomark _)) (pss_one (ps_ret (pe_call G_joined (hr.mono (by decide)) (by rfl) (m_joined T) kp_joined b_joined .nil pass0 (pa_cons (pe_call G_days_on (hr.mono (by decide)) (by rfl) (m_days_on T) kp_days_on b_days_on .nil pass0 (pa_cons pe_int pa_nil)) (pa_cons (pe_call G_going_on (hr.mono (by decide)) (by rfl) (m_going_on T) kp_going_on b_going_on .nil pass0 (pa_cons (pe_ix ix_G (pv 1) pe_int (fun _ _ => rfl)) (pa_cons (pe_op op_subG (pe_ix ix_G (pv 1) pe_int (fun _ _ => rfl)) pe_int) pa_nil))) pa_nil))))) pss_nil)
      (pss_cons (ps_if (pt_cmpR (op_eqG hr.units) (pv 2) pe_str (nomark _)) (pss_one (ps_ret (pe_meth (pe_prop (pv 0) (k_Almanac T) (p_calendar T) G_Almanac_calendar (hr.mono (by decide)) b_Almanac_calendar .nil pass0 rfl) (k_Calendar T) (mt_Calendar_months_on T) G_Calendar_months_on (hr.mono (by decide)) b_Calendar_months_on .nil pass0 (pa_cons (pe_ix ix_G (pv 1) pe_int (fun _ _ => rfl)) pa_nil)))) pss_nil)
      (pss_cons (ps_if (pt_cmpR (op_eqG hr.units) (pv 2) pe_str (nomark _)) (pss_one (ps_ret (pe_meth (pe_prop (pv 0) (k_Almanac T) (p_calendar T) G_Almanac_calendar (hr.mono (by decide)) b_Almanac_calendar .nil pass0 rfl) (k_Calendar T) (mt_Calendar_years_on T) G_Calendar_years_on (hr.mono (by decide)) b_Calendar_years_on .nil pass0 (pa_cons (pe_ix ix_G (pv 1) pe_int (fun _ _ => rfl)) pa_nil)))) pss_nil)
      (pss_one (ps_ret (pe_ifExp (pt_cmpR (op_eqG hr.units) (pv 2) pe_str (nomark _)) pe_never (pe_call G_days_on (hr.mono (by decide)) (by rfl) (m_days_on T) kp_days_on b_days_on .nil pass0 (pa_cons (pe_ix ix_G (pv 1) pe_int (fun _ _ => rfl)) pa_nil)))))))))))), fun ds d hF => ?_⟩
  obtain ⟨a, b, rfl, ys, s, h, rfl, rfl, rfl⟩ := hF.ex
  walk_at "env"
  have go : ∀ f : Fst, F_going_on K [setC (f.S ys), .int 0] (canon (nx (f.S ys) 0)) := fun f => by
    obtain ⟨p, p0, p1⟩ := fst_mp h f
    exact ⟨f.S ys, minPer (ind (f.S ys)), 0, rfl, rfl, p, p0, p1, fst_ex h f, rfl⟩
  cases s with
  | months n =>
    refine q_set (ev_at (j := 0) rfl rfl) ?_
    refine q_no (et_str (ev_var rfl) rfl) (q_no (et_str (ev_var rfl) rfl) (q_no (et_str (ev_var rfl) rfl) (q_no (et_str (ev_var rfl) rfl) (q_yes (et_str (ev_var rfl) rfl) ?_))))
    exact q_ret (ev_meth (ev_prop (ev_var rfl) ⟨ys, h, rfl, rfl⟩) rfl (ea_cons (ev_at (j := 1) rfl rfl) ea_nil) ⟨ys, n, h, rfl, rfl, rfl⟩) rfl
  | years n =>
    refine q_set (ev_at (j := 0) rfl rfl) ?_
    refine q_no (et_str (ev_var rfl) rfl) (q_no (et_str (ev_var rfl) rfl) (q_no (et_str (ev_var rfl) rfl) (q_no (et_str (ev_var rfl) rfl) (q_no (et_str (ev_var rfl) rfl) (q_yes (et_str (ev_var rfl) rfl) ?_)))))
    exact q_ret (ev_meth (ev_prop (ev_var rfl) ⟨ys, h, rfl, rfl⟩) rfl (ea_cons (ev_at (j := 1) rfl rfl) ea_nil) ⟨ys, n, h, rfl, rfl, rfl⟩) rfl
  | days n =>
    refine q_set (ev_at (j := 0) rfl rfl) ?_
    refine q_no (et_str (ev_var rfl) rfl) (q_no (et_str (ev_var rfl) rfl) (q_no (et_str (ev_var rfl) rfl) (q_no (et_str (ev_var rfl) rfl) (q_no (et_str (ev_var rfl) rfl) (q_no (et_str (ev_var rfl) rfl) ?_)))))
    exact l_ret (ev_if (b := false) (et_str (ev_var rfl) rfl) (fun e => by cases e) fun _ => ev_call (ea_cons (ev_at (j := 1) rfl rfl) ea_nil) ⟨n, rfl, rfl⟩) rfl
  | to f =>
    refine q_set (ev_at (j := 0) rfl rfl) ?_
    refine q_no (et_str (ev_var rfl) rfl) (q_no (et_str (ev_var rfl) rfl) (q_yes (et_str (ev_var rfl) rfl) ?_))
    exact q_ret (ev_call (ea_cons (ev_at (j := 2) rfl rfl) (ea_cons ev_int ea_nil)) (go f)) rfl
  | work =>
    refine q_set (ev_at (j := 0) rfl rfl) ?_
    refine q_no (et_str (ev_var rfl) rfl) (q_no (et_str (ev_var rfl) rfl) (q_no (et_str (ev_var rfl) rfl) (q_yes (et_str (ev_var rfl) rfl) ?_)))
    exact q_ret (ev_call (ea_cons (ev_call (d := canon fun x => x + 1) (ea_cons ev_int ea_nil) ⟨1, rfl, rfl⟩) (ea_cons (ev_call (d := canon (nx (Fst.starts.S ys) 0)) (ea_cons (ev_at (j := 2) rfl rfl) (ea_cons (ev_is (d1 := .int 0) (ev_op (ev_at (j := 1) rfl rfl) ev_int rd_subG) rfl) ea_nil)) (go .starts)) ea_nil)) (joinF (R1.add (TT_pos h) (TT_le h) 1) (stp_R1 h (.to .starts)))) rfl
theorem ok_joined_all {P : Program} {w : World} {K : Fr} {mg : Str → Option Value} {base : Heap} (T : Txt K mg) : Has P w K mg base 6 (He.ga K "joined_all") ["ladders"] (sp_joined_all K) := by
  obtain ⟨fd, F⟩ := T.says.def_ 52 (d := d_joined_all) rfl
  have F : FunD K "joined_all" "joined_all" (defArgs s_joined_all) (defBody s_joined_all) (defScope s_joined_all) [] [] (He.ga K "joined_all") fd := F
  obtain ⟨kp_joined, fd_joined, G_joined, b_joined⟩ := ok_joined (P := P) (w := w) (base := base) T
  obtain ⟨kp_days_on, fd_days_on, G_days_on, b_days_on⟩ := ok_days_on (P := P) (w := w) (base := base) T
  refine ⟨F.kp, fd, ?_, F.bindsN fun _ _ _ _ _ _ us hl => match us, hl with | [_], _ => rfl⟩
  refine ok_of F c_joined_all (by (intro ds d h; exact h.len)) fun cdv A outer s H E hr => ⟨t_joined_all K, PSs.nox
      (pss_cons (ps_set (i := 1) c_joined_all.nd rfl (Or.inl rfl) (pe_call G_days_on (hr.mono (by decide)) (by rfl) (m_days_on T) kp_days_on b_days_on .nil pass0 (pa_cons pe_int pa_nil)))
      (pss_cons (ps_for PassesOwn.never rfl (pi_list (pv 0)) (pg_name (i := 2) c_joined_all.nd rfl (Or.inl rfl)) (pss_one (ps_set (i := 1) c_joined_all.nd rfl (Or.inl rfl) (pe_call G_joined (hr.mono (by decide)) (by rfl) (m_joined T) kp_joined b_joined .nil pass0 (pa_cons (pv 1) (pa_cons (pv 2) pa_nil))))))
      (pss_one (ps_ret (pv 1))))), fun ds d hF => ?_⟩
  obtain ⟨a, rfl, fs, T', hR, hT, hT2, hl, rfl, rfl⟩ := hF.ex
  walk_at "env"
  refine q_set (d := canon (runF [])) (ev_call (ea_cons ev_int ea_nil) ⟨0, rfl, rfl⟩) ?_
  refine q_for (items := fs.map canon) (iv_list (ev_var rfl)) (fun i e M => ∃ x : Option Dt, e = [some (.lst (fs.map canon)), some (canon (runF (fs.take i))), x] ∧ M = none) ⟨none, rfl, rfl⟩ ?_ ?_
  · rintro i d e M hd ⟨x, rfl, rfl⟩
    rw [List.getElem?_map] at hd
    obtain ⟨f, hf, rfl⟩ := Option.map_eq_some_iff.mp hd
    refine ⟨_, gv_name, l_q (q_set (ev_call (d := canon fun x => f (runF (fs.take i) x)) (ea_cons (ev_var rfl) (ea_cons (ev_var rfl) ea_nil)) (joinF (T := T') (U := T') (runF_R1 hT hT2 fun g hg => hR g (List.mem_of_mem_take hg)) (hR f (List.mem_of_getElem? hf)))) (l_end ⟨some (canon f), ?_, rfl⟩))⟩
    rw [runF_take hf]; rfl
  · rintro e M ⟨x, rfl, rfl⟩
    rw [List.length_map, List.take_length]
    exact l_ret (ev_var rfl) rfl
theorem ok_ladder_of_steps {P : Program} {w : World} {K : Fr} {mg : Str → Option Value} {base : Heap} (T : Txt K mg) : Has P w K mg base 8 (He.ga K "ladder_of_steps") ["almanac", "steps"] (sp_ladder_of_steps K) := by
  obtain ⟨fd, F⟩ := T.says.def_ 53 (d := d_ladder_of_steps) rfl
  have F : FunD K "ladder_of_steps" "ladder_of_steps" (defArgs s_ladder_of_steps) (defBody s_ladder_of_steps) (defScope s_ladder_of_steps) [] [] (He.ga K "ladder_of_steps") fd := F
  obtain ⟨kp_ladder_of_step, fd_ladder_of_step, G_ladder_of_step, b_ladder_of_step⟩ := ok_ladder_of_step (P := P) (w := w) (base := base) T
  obtain ⟨kp_joined_all, fd_joined_all, G_joined_all, b_joined_all⟩ := ok_joined_all (P := P) (w := w) (base := base) T
  refine ⟨F.kp, fd, ?_, F.bindsN fun _ _ _ _ _ _ us hl => match us, hl with | [_, _], _ => rfl⟩
  refine ok_of F c_ladder_of_steps (by (intro ds d h; exact h.len)) fun cdv A outer s H E hr => ⟨t_ladder_of_steps K, PSs.nox
      (pss_one (ps_ret (pe_call G_joined_all (hr.mono (by decide)) (by rfl) (m_joined_all T) kp_joined_all b_joined_all .nil pass0 (pa_cons (pe_lc (own := [("step", 2)]) (wi := (iList K (tVar 1))) (g := (gName 2)) (tt := tYes) (te := (tCall (sp_ladder_of_step K) [] E0 (tCons (tVar 0) (tCons (tVar 2) tNil)))) (by rfl) c_ladder_of_steps.nd (pi_list (pv 1)) (blkOk_by (own := [("step", 2)]) (N := ["almanac", "steps", "step"]) (sc := defScope s_ladder_of_steps) (by decide +kernel)) (fun _ _ _ _ _ => (pg_name (i := 2) c_ladder_of_steps.nd rfl (Or.inl rfl))) (fun _ _ _ _ _ => pts_nil) (fun _ _ _ _ _ => (pe_call G_ladder_of_step (hr.mono (by decide)) (by rfl) (m_ladder_of_step T) kp_ladder_of_step b_ladder_of_step .nil pass0 (pa_cons (pv 0) (pa_cons (pv 2) pa_nil))))) pa_nil)))), fun ds d hF => ?_⟩
  obtain ⟨a, b, rfl, ys, ss, h, rfl, rfl, hl, rfl⟩ := hF.ex
  walk_at "env"
  refine l_ret (ev_call (d := canon (runS ys ss)) (ea_cons (ev_lcx (items := ss.map (Stp.O ys)) (out := (ss.map (Stp.f ys)).map canon) (iv_list (ev_var rfl)) (by rw [List.length_map]; omega) (gk_name (by decide)) (by rw [List.length_map, List.length_map, List.length_map]) fun i d hd => ?_) ea_nil) ⟨ss.map (Stp.f ys), TT ys, fun f hf => ?_, TT_pos h, TT_le h, by rw [List.length_map]; exact hl, rfl, rfl⟩) rfl
  · rw [List.getElem?_map] at hd
    obtain ⟨s, hs, rfl⟩ := Option.map_eq_some_iff.mp hd
    exact ⟨_, canon (Stp.f ys s), gv_name, by rw [List.getElem?_map, List.getElem?_map, hs]; rfl, ev_call (ea_cons (ev_var rfl) (ea_cons (ev_var rfl) ea_nil)) ⟨ys, s, h, rfl, rfl, rfl⟩⟩
  · obtain ⟨s, _, rfl⟩ := List.mem_map.mp hf
    exact stp_R1 h s
theorem ok_ladder_of {P : Program} {w : World} {K : Fr} {mg : Str → Option Value} {base : Heap} (T : Txt K mg) : Has P w K mg base 17 (He.ga K "ladder_of") ["almanac", "term"] (sp_ladder_of K) := by
  obtain ⟨fd, F⟩ := T.says.def_ 54 (d := d_ladder_of) rfl
  have F : FunD K "ladder_of" "ladder_of" (defArgs s_ladder_of) (defBody s_ladder_of) (defScope s_ladder_of) [] [] (He.ga K "ladder_of") fd := F
  obtain ⟨kp_checked_term, fd_checked_term, G_checked_term, b_checked_term⟩ := ok_checked_term (P := P) (w := w) (base := base) T
  obtain ⟨kp_ladder_of_steps, fd_ladder_of_steps, G_ladder_of_steps, b_ladder_of_steps⟩ := ok_ladder_of_steps (P := P) (w := w) (base := base) T
  refine ⟨F.kp, fd, ?_, F.bindsN fun _ _ _ _ _ _ us hl => match us, hl with | [_, _], _ => rfl⟩
  refine ok_of F c_ladder_of (by (intro ds d h; exact h.len)) fun cdv A outer s H E hr => ⟨t_ladder_of K, PSs.nox
      (pss_one (ps_ret (pe_call G_ladder_of_steps (hr.mono (by decide)) (by rfl) (m_ladder_of_steps T) kp_ladder_of_steps b_ladder_of_steps .nil pass0 (pa_cons (pv 0) (pa_cons (pe_call G_checked_term (hr.mono (by decide)) (by rfl) (m_checked_term T) kp_checked_term b_checked_term .nil pass0 (pa_cons (pv 0) (pa_cons (pv 1) pa_nil))) pa_nil))))), fun ds d hF => ?_⟩
  obtain ⟨a, b, rfl, ys, ss, h, rfl, rfl, hl, rfl⟩ := hF.ex
  walk_at "env"
  exact l_ret (ev_call (d := canon (runS ys ss)) (ea_cons (ev_var rfl) (ea_cons (ev_call (d := termO ys ss) (ea_cons (ev_var rfl) (ea_cons (ev_var rfl) ea_nil)) ⟨ys, ss, h, rfl, rfl, hl, rfl⟩) ea_nil)) ⟨ys, ss, h, rfl, rfl, hl, rfl⟩) rfl
theorem ok_due {P : Program} {w : World} {K : Fr} {mg : Str → Option Value} {base : Heap} (T : Txt K mg) : Has P w K mg base 18 (He.ga K "due") ["almanac", "term", "day"] (sp_due K) := by
  obtain ⟨fd, F⟩ := T.says.def_ 55 (d := d_due) rfl
  have F : FunD K "due" "due" (defArgs s_due) (defBody s_due) (defScope s_due) [] [] (He.ga K "due") fd := F
  obtain ⟨kp_ladder_of, fd_ladder_of, G_ladder_of, b_ladder_of⟩ := ok_ladder_of (P := P) (w := w) (base := base) T
  obtain ⟨kp_value, fd_value, G_value, b_value⟩ := ok_value (P := P) (w := w) (base := base) T
  refine ⟨F.kp, fd, ?_, F.bindsN fun _ _ _ _ _ _ us hl => match us, hl with | [_, _, _], _ => rfl⟩
  refine ok_of F c_due (by (intro ds d h; exact h.len)) fun cdv A outer s H E hr => ⟨t_due K, PSs.nox
      (pss_one (ps_ret (pe_call G_value (hr.mono (by decide)) (by rfl) (m_value T) kp_value b_value .nil pass0 (pa_cons (pe_call G_ladder_of (hr.mono (by decide)) (by rfl) (m_ladder_of T) kp_ladder_of b_ladder_of .nil pass0 (pa_cons (pv 0) (pa_cons (pv 1) pa_nil))) (pa_cons (pv 2) pa_nil))))), fun ds d hF => ?_⟩
  obtain ⟨a, b, c, rfl, ys, ss, x, h, rfl, rfl, hl, rfl, rfl⟩ := hF.ex
  walk_at "env"
  have hR := runS_R1 h ss
  have q := hR.mp
  exact l_ret (ev_call (d := .int (runS ys ss x : Nat)) (ea_cons (ev_call (d := canon (runS ys ss)) (ea_cons (ev_var rfl) (ea_cons (ev_var rfl) ea_nil)) ⟨ys, ss, h, rfl, rfl, hl, rfl⟩) (ea_cons (ev_var rfl) ea_nil)) ⟨runS ys ss, _, _, x, hR.canon, hR.lad, by omega, by omega, rfl, rfl⟩) rfl
theorem ok_two_ladders {P : Program} {w : World} {K : Fr} {mg : Str → Option Value} {base : Heap} (T : Txt K mg) : Has P w K mg base 18 (He.ga K "two_ladders") ["almanac", "one", "other"] (sp_two_ladders K) := by
  obtain ⟨fd, F⟩ := T.says.def_ 56 (d := d_two_ladders) rfl
  have F : FunD K "two_ladders" "two_ladders" (defArgs s_two_ladders) (defBody s_two_ladders) (defScope s_two_ladders) [] [] (He.ga K "two_ladders") fd := F
  obtain ⟨kp_ladder_of, fd_ladder_of, G_ladder_of, b_ladder_of⟩ := ok_ladder_of (P := P) (w := w) (base := base) T
  refine ⟨F.kp, fd, ?_, F.bindsN fun _ _ _ _ _ _ us hl => match us, hl with | [_, _, _], _ => rfl⟩
  refine ok_of F c_two_ladders (by (intro ds d h; exact h.len)) fun cdv A outer s H E hr => ⟨t_two_ladders K, PSs.nox
      (pss_one (ps_ret (pe_tup (pa_cons (pe_call G_ladder_of (hr.mono (by decide)) (by rfl) (m_ladder_of T) kp_ladder_of b_ladder_of .nil pass0 (pa_cons (pv 0) (pa_cons (pv 1) pa_nil))) (pa_cons (pe_call G_ladder_of (hr.mono (by decide)) (by rfl) (m_ladder_of T) kp_ladder_of b_ladder_of .nil pass0 (pa_cons (pv 0) (pa_cons (pv 2) pa_nil))) pa_nil))))), fun ds d hF => ?_⟩
  obtain ⟨a, b, c, rfl, ys, s1, s2, h, rfl, rfl, rfl, h1, h2, rfl⟩ := hF.ex
  walk_at "env"
  exact l_ret (ev_tup (ea_cons (ev_call (d := canon (runS ys s1)) (ea_cons (ev_var rfl) (ea_cons (ev_var rfl) ea_nil)) ⟨ys, s1, h, rfl, rfl, h1, rfl⟩) (ea_cons (ev_call (d := canon (runS ys s2)) (ea_cons (ev_var rfl) (ea_cons (ev_var rfl) ea_nil)) ⟨ys, s2, h, rfl, rfl, h2, rfl⟩) ea_nil)) (by simp)) rfl
end Lk
set_option Elab.async false
set_option linter.all false
set_option maxRecDepth 100000
set_option maxHeartbeats 4000000
/-! enumerate(zip(a, b)): the zip's own tuple stays out, or has gone. -/
namespace Lk
open PySem L2
open Sem (wp)
section
variable {prog : Program} {w : World} {A : Around} {E : Value → Shared → Prop} {s : Shared} {z TI TO i1 i2 a b : Addr} {f0 f1 : Value} {k : Nat} {xs ys : Array Value} {x y : Value}
abbrev ZipF (h : Heap) (z TI TO : Addr) (f0 f1 : Value) : Prop := h.get? z = some { cls := .type "zip", dict := none, data := .fields #[f0, f1, .bool false, .ref TI, .ref TO], slots := #[] }
def FreeT (h : Heap) (f0 : Value) : Prop := f0 = .none ∨ ∃ T : Addr, f0 = rawInt T ∧ h.get? T = none
theorem gone {T : Addr} {Q : Option Obj → Shared → Prop} (e : s.heap.get? T = none) (q : Q none s) : wpAny (model prog w) A (loadIfAlive T) Q E s := by
  have q2 : Q (s.heap.get? T) s := e ▸ q
  intro _ _ _
  exact q2
theorem zf_free {Q : Bool → Shared → Prop} (hz : ZipF s.heap z TI TO f0 f1) (hf : FreeT s.heap f0) (q : Q true s) : wpAny (model prog w) A (Builtin.SmallTypes.ownedTupleIsFree (.ref z)) Q E s := by
  unfold Builtin.SmallTypes.ownedTupleIsFree
  rcases hf with rfl | ⟨T, rfl, e⟩
  · exact wpAny_bind (wpAny_field hz rfl (x := .none) rfl (wpAny_pure q))
  · refine wpAny_bind (wpAny_field hz rfl (x := rawInt T) rfl ?_)
    show wpAny _ _ (loadIfAlive ((T : Int).toNat) >>= fun r => _) _ _ _
    rw [show ((T : Int).toNat) = T from Int.toNat_natCast T]
    refine wpAny_bind (gone e ?_)
    rw [if_pos (show (none : Option Obj).isNone = true from rfl)]
    exact wpAny_pure q
theorem zf_item {c d : Value} {Q : Value → Shared → Prop} (D : ZipApart z TI TO i1 i2 a b) (hz : ZipF s.heap z TI TO f0 f1) (hf : FreeT s.heap f0) (pI : IsPair s.heap TI (.ref i1) (.ref i2)) (pO : IsPair s.heap TO c d)
    (t1 : s.heap.IsListIter i1 a k) (t2 : s.heap.IsListIter i2 b k) (l1 : s.heap.IsList a xs) (l2 : s.heap.IsList b ys) (e1 : xs[k]? = some x) (e2 : ys[k]? = some y)
    (q : ∀ h', ZipF h' z TI TO (rawInt s.heap.objs.size) (.bool false) → IsPair h' TO x y → h'.IsListIter i1 a (k + 1) → h'.IsListIter i2 b (k + 1) → IsPair h' s.heap.objs.size x y → h'.objs.size = s.heap.objs.size + 1 →
      (∀ m o, m ≠ z → m ≠ TO → m ≠ i1 → m ≠ i2 → s.heap.get? m = some o → h'.get? m = some o) → Q (.ref s.heap.objs.size) { s with heap := h' }) :
    wpAny (model prog w) A (Builtin.«zip.__next__» ⟨[.ref z], []⟩) (fun fin s' => ∃ v, fin = .done (.ret v) ∧ Q v s') E s := by
  show wpAny _ _ (field (.ref z) 2 >>= fun r => _) _ _ _
  refine wpAny_bind (wpAny_field hz rfl (x := Value.bool false) rfl ?_)
  show wpAny _ _ (field (.ref z) 3 >>= fun r => _) _ _ _
  refine wpAny_bind (wpAny_field hz rfl (x := Value.ref TI) rfl ?_)
  refine wpAny_bind (wpAny_seqItems pI rfl ?_)
  show wpAny _ _ (Builtin.SmallTypes.ownedTupleIsFree (.ref z) >>= fun r => _) _ _ _
  refine wpAny_bind (zf_free hz hf ?_)
  simp only [if_true]
  refine wpAny_bind (wpAny_rule ?_)
  refine wpAny_bind (wpAny_field hz rfl (x := Value.ref TO) rfl ?_)
  refine wpAny_bind (wpAny_setField_rec hz (by simp) fun g1 hz1 b1 => ?_)
  replace hz1 : ZipF g1 z TI TO .ellipsis f1 := hz1
  refine wpAny_bind ?_
  simp only [List.zipIdx_cons, List.zipIdx_nil, List.forIn_cons, List.forIn_nil]
  refine wpAny_bind (wpAny_bind (wpAny_onRaise ?_))
  show wpAny _ _ (Builtin.SmallTypes.nextOf (.ref i1) >>= fun r => _) _ _ _
  refine wpAny_bind (wpAny_nextOf_list_item (t1.extBut b1.extBut D.i1z) (l1.extBut b1.extBut D.l1z) e1 fun g2 u2 b2 => wpAny_pure ?_)
  have pO2 : IsPair g2 TO c d := b2.extBut _ _ D.TOi1 (b1.extBut _ _ D.TOz pO)
  refine wpAny_bind (wpAny_seqItems pO2 rfl ?_)
  refine wpAny_bind (wpAny_updateSeq_pair pO2 fun g3 pO3 b3 => ?_)
  replace pO3 : IsPair g3 TO x d := pO3
  refine wpAny_bind (wpAny_letGo (wpAny_pure ?_))
  refine wpAny_bind (wpAny_bind (wpAny_onRaise ?_))
  show wpAny _ _ (Builtin.SmallTypes.nextOf (.ref i2) >>= fun r => _) _ _ _
  have t2' := ((t2.extBut b1.extBut D.i2z).extBut b2.extBut D.i12.symm).extBut b3.extBut D.TOi2.symm
  have l2' := ((l2.extBut b1.extBut D.l2z).extBut b2.extBut D.l2i1).extBut b3.extBut D.l2TO
  refine wpAny_bind (wpAny_nextOf_list_item t2' l2' e2 fun g4 u4 b4 => wpAny_pure ?_)
  have pO4 : IsPair g4 TO x d := b4.extBut _ _ D.TOi2 pO3
  refine wpAny_bind (wpAny_seqItems pO4 rfl ?_)
  refine wpAny_bind (wpAny_updateSeq_pair pO4 fun g5 pO5 b5 => ?_)
  replace pO5 : IsPair g5 TO x y := pO5
  refine wpAny_bind (wpAny_letGo (wpAny_pure (wpAny_pure ?_)))
  refine wpAny_bind (wpAny_seqItems pO5 rfl ?_)
  refine wpAny_bind (wpAny_newTuple ?_)
  have en : g5.objs.size = s.heap.objs.size := by rw [b5.1, b4.1, b3.1, b2.1, b1.1]
  have z5 : ZipF g5 z TI TO .ellipsis f1 := b5.extBut _ _ D.TOz.symm (b4.extBut _ _ D.i2z.symm (b3.extBut _ _ D.TOz.symm (b2.extBut _ _ D.i1z.symm hz1)))
  have k5 : ∀ m o, m ≠ z → m ≠ TO → m ≠ i1 → m ≠ i2 → s.heap.get? m = some o → g5.get? m = some o := fun m o m1 m2 m3 m4 e =>
    b5.extBut _ _ m2 (b4.extBut _ _ m4 (b3.extBut _ _ m2 (b2.extBut _ _ m3 (b1.extBut _ _ m1 e))))
  have v1 : g5.IsListIter i1 a (k + 1) := ((u2.extBut b3.extBut D.TOi1.symm).extBut b4.extBut D.i12).extBut b5.extBut D.TOi1.symm
  have v2 : g5.IsListIter i2 b (k + 1) := u4.extBut b5.extBut D.TOi2.symm
  have nz : z < g5.objs.size := Heap.lt_size z5
  show wpAny _ _ (Builtin.SmallTypes.ownedTupleHandOut (.ref z) (.ref g5.objs.size) >>= fun r => _) _ _ _
  refine wpAny_bind ?_
  unfold Builtin.SmallTypes.ownedTupleHandOut
  have z6 : ZipF (g5.push { cls := .type "tuple", data := .seq #[x, y] }) z TI TO .ellipsis f1 := Heap.get?_push_of_some _ z5
  refine wpAny_bind (wpAny_setField_rec z6 (by simp) fun g7 z7 b7 => ?_)
  replace z7 : ZipF g7 z TI TO (rawInt g5.objs.size) f1 := z7
  refine wpAny_setField_rec z7 (by simp) fun g8 z8 b8 => ?_
  replace z8 : ZipF g8 z TI TO (rawInt g5.objs.size) (.bool false) := z8
  have up : ∀ m o, m ≠ z → g5.get? m = some o → g8.get? m = some o := fun m o m1 e => b8.extBut _ _ m1 (b7.extBut _ _ m1 (Heap.get?_push_of_some _ e))
  have pT : IsPair g8 g5.objs.size x y := b8.extBut _ _ (Nat.ne_of_gt nz) (b7.extBut _ _ (Nat.ne_of_gt nz) (Heap.get?_push_size _ rfl))
  have n8 : g8.objs.size = g5.objs.size + 1 := by rw [b8.1, b7.1, Heap.size_push]
  rw [en] at z8 pT n8
  refine wpAny_pure ⟨_, rfl, ?_⟩
  show Q (.ref g5.objs.size) _
  rw [en]
  exact q g8 z8 (up _ _ D.TOz pO5) (v1.at fun o e => up _ o D.i1z e) (v2.at fun o e => up _ o D.i2z e) pT n8 fun m o m1 m2 m3 m4 e => up m o m1 (k5 m o m1 m2 m3 m4 e)
theorem zf_end {c d : Value} {Q : Fin → Shared → Prop} (hh : A.handled = none) (D : ZipApart z TI TO i1 i2 a b) (hz : ZipF s.heap z TI TO f0 f1) (hf : FreeT s.heap f0) (pI : IsPair s.heap TI (.ref i1) (.ref i2)) (pO : IsPair s.heap TO c d)
    (t1 : s.heap.IsListIter i1 a k) (t2 : s.heap.IsListIter i2 b k) (l1 : s.heap.IsList a xs) (l2 : s.heap.IsList b ys) (fin : xs[k]? = none ∨ ys[k]? = none)
    (q : ∀ h' e, (∀ m o, m ≠ z → m ≠ TO → m ≠ i1 → m ≠ i2 → s.heap.get? m = some o → h'.get? m = some o) → (∃ o, h'.get? e = some o ∧ o.cls = .type "StopIteration") → E (.ref e) { s with heap := h' }) :
    wpAny (model prog w) A (Builtin.«zip.__next__» ⟨[.ref z], []⟩) Q E s := by
  show wpAny _ _ (field (.ref z) 2 >>= fun r => _) _ _ _
  refine wpAny_bind (wpAny_field hz rfl (x := Value.bool false) rfl ?_)
  show wpAny _ _ (field (.ref z) 3 >>= fun r => _) _ _ _
  refine wpAny_bind (wpAny_field hz rfl (x := Value.ref TI) rfl ?_)
  refine wpAny_bind (wpAny_seqItems pI rfl ?_)
  show wpAny _ _ (Builtin.SmallTypes.ownedTupleIsFree (.ref z) >>= fun r => _) _ _ _
  refine wpAny_bind (zf_free hz hf ?_)
  simp only [if_true]
  refine wpAny_bind (wpAny_rule ?_)
  refine wpAny_bind (wpAny_field hz rfl (x := Value.ref TO) rfl ?_)
  refine wpAny_bind (wpAny_setField_rec hz (by simp) fun g1 hz1 b1 => ?_)
  replace hz1 : ZipF g1 z TI TO .ellipsis f1 := hz1
  refine wpAny_bind ?_
  simp only [List.zipIdx_cons, List.zipIdx_nil, List.forIn_cons, List.forIn_nil]
  refine wpAny_bind (wpAny_bind (wpAny_onRaise ?_))
  show wpAny _ _ (Builtin.SmallTypes.nextOf (.ref i1) >>= fun r => _) _ _ _
  cases e1 : xs[k]? with
  | none =>
    refine wpAny_bind (wpAny_nextOf_list_end hh (t1.extBut b1.extBut D.i1z) (l1.extBut b1.extBut D.l1z) e1 fun g2 e b2 he => ?_)
    obtain ⟨o, ho, hc⟩ := he
    have z2 : ZipF g2 z TI TO .ellipsis f1 := b2 _ _ D.i1z.symm hz1
    have ne : e ≠ z := by
      rintro rfl
      rw [z2] at ho; cases ho; simp at hc
    refine wpAny_setField_rec z2 (by simp) fun g3 _ b3 => q g3 e (fun m o' m1 _ m3 _ r => b3.extBut _ _ m1 (b2 _ _ m3 (b1.extBut _ _ m1 r))) ⟨o, b3.extBut _ _ ne ho, hc⟩
  | some x =>
    have e2 : ys[k]? = none := by
      rcases fin with r | r
      · rw [e1] at r; cases r
      · exact r
    refine wpAny_bind (wpAny_nextOf_list_item (t1.extBut b1.extBut D.i1z) (l1.extBut b1.extBut D.l1z) e1 fun g2 u2 b2 => wpAny_pure ?_)
    have pO2 : IsPair g2 TO c d := b2.extBut _ _ D.TOi1 (b1.extBut _ _ D.TOz pO)
    refine wpAny_bind (wpAny_seqItems pO2 rfl ?_)
    refine wpAny_bind (wpAny_updateSeq_pair pO2 fun g3 pO3 b3 => ?_)
    refine wpAny_bind (wpAny_letGo (wpAny_pure ?_))
    refine wpAny_bind (wpAny_bind (wpAny_onRaise ?_))
    show wpAny _ _ (Builtin.SmallTypes.nextOf (.ref i2) >>= fun r => _) _ _ _
    have t2' := ((t2.extBut b1.extBut D.i2z).extBut b2.extBut D.i12.symm).extBut b3.extBut D.TOi2.symm
    have l2' := ((l2.extBut b1.extBut D.l2z).extBut b2.extBut D.l2i1).extBut b3.extBut D.l2TO
    refine wpAny_bind (wpAny_nextOf_list_end hh t2' l2' e2 fun g4 e b4 he => ?_)
    obtain ⟨o, ho, hc⟩ := he
    have z4 : ZipF g4 z TI TO .ellipsis f1 := b4 _ _ D.i2z.symm (b3.extBut _ _ D.TOz.symm (b2.extBut _ _ D.i1z.symm hz1))
    have ne : e ≠ z := by
      rintro rfl
      rw [z4] at ho; cases ho; simp at hc
    refine wpAny_setField_rec z4 (by simp) fun g5 _ b5 => q g5 e (fun m o' m1 m2 m3 m4 r => b5.extBut _ _ m1 (b4 _ _ m4 (b3.extBut _ _ m2 (b2.extBut _ _ m3 (b1.extBut _ _ m1 r))))) ⟨o, b5.extBut _ _ ne ho, hc⟩
/-- a zip at turn i, whatever of its tuple -/
structure ZSt (h : Heap) (z TI TO i1 i2 a b : Addr) (i : Nat) : Prop where
  zp : ∃ f0 f1, ZipF h z TI TO f0 f1 ∧ (f0 = .none ∨ ∃ (T : Addr) (f : Bool), f0 = rawInt T ∧ f1 = .bool f)
  pI : IsPair h TI (.ref i1) (.ref i2)
  pO : ∃ c d, IsPair h TO c d
  t1 : h.IsListIter i1 a i
  t2 : h.IsListIter i2 b i
theorem ZSt.at {h h' : Heap} {i : Nat} (S : ZSt h z TI TO i1 i2 a b i) (k : ∀ m ∈ [z, TI, TO, i1, i2], ∀ o, h.get? m = some o → h'.get? m = some o) : ZSt h' z TI TO i1 i2 a b i := by
  obtain ⟨⟨f0, f1, hz, hf⟩, pI, ⟨c, d, pO⟩, t1, t2⟩ := S
  exact ⟨⟨f0, f1, k z (by simp) _ hz, hf⟩, k TI (by simp) _ pI, ⟨c, d, k TO (by simp) _ pO⟩, t1.at fun o e => k i1 (by simp) o e, t2.at fun o e => k i2 (by simp) o e⟩
theorem ZSt.ty {i : Nat} (S : ZSt s.heap z TI TO i1 i2 a b i) : s.TypeIs (.ref z) "zip" := by
  obtain ⟨⟨f0, f1, hz, _⟩, _⟩ := S
  exact ⟨_, hz, rfl⟩
theorem zn_item {i : Nat} {Q : Value → Shared → Prop} (D : ZipApart z TI TO i1 i2 a b) (S : ZSt s.heap z TI TO i1 i2 a b i) (l1 : s.heap.IsList a xs) (l2 : s.heap.IsList b ys) (e1 : xs[i]? = some x) (e2 : ys[i]? = some y)
    (q : ∀ h', ZSt h' z TI TO i1 i2 a b (i + 1) → IsPair h' s.heap.objs.size x y → h'.objs.size = s.heap.objs.size + 1 → (∀ m o, m ∉ [z, TI, TO, i1, i2] → s.heap.get? m = some o → h'.get? m = some o) → Q (.ref s.heap.objs.size) { s with heap := h' }) :
    wpAny (model prog w) A (Builtin.SmallTypes.nextOf (.ref z)) Q E s := by
  have ty := S.ty
  obtain ⟨⟨f0, f1, hz, hf⟩, pI, ⟨c, d, pO⟩, t1, t2⟩ := S
  unfold Builtin.SmallTypes.nextOf
  refine wpAny_bind (wpAny_callSpecial?_slot (name := Str.ofString "__next__") ty F.slot_zip_next (wpAny_call_entry F.slot_zip_next ty F.entry_zip_next ?_ (F.args_zip_next_1 _)))
  have free : FreeT s.heap f0 → wpAny (model prog w) A.in1 (Builtin.«zip.__next__» ⟨[.ref z], []⟩) (fun fin s' => ∃ v, fin = .done (.ret v) ∧ wpAny (model prog w) A ((fun r => match r with
      | some v => pure v
      | none => rule "iternext.gone" >>= fun _ => Builtin.SmallTypes.nextOf (.ref z)) (some v)) Q E s') E s := fun fr =>
    zf_item D hz fr pI pO t1 t2 l1 l2 e1 e2 fun h' z' pO' t1' t2' pT n k => wpAny_pure (q h' ⟨⟨_, _, z', .inr ⟨_, _, rfl, rfl⟩⟩, k _ _ D.TIz D.TITO D.TIi1 D.TIi2 pI, ⟨x, y, pO'⟩, t1', t2'⟩ pT n fun m o hm e =>
      k m o (fun r => hm (by simp [r])) (fun r => hm (by simp [r])) (fun r => hm (by simp [r])) (fun r => hm (by simp [r])) e)
  rcases hf with rfl | ⟨T, f, rfl, rfl⟩
  · exact free (.inl rfl)
  · cases eT : s.heap.get? T with
    | none => exact free (.inr ⟨T, rfl, eT⟩)
    | some oT =>
      exact zip_next_item_held D hz eT pI t1 t2 l1 l2 e1 e2 fun h' z' t1' t2' pT n k => wpAny_pure (q h' ⟨⟨_, _, z', .inr ⟨_, _, rfl, rfl⟩⟩, k _ _ D.TIz D.TIi1 D.TIi2 pI, ⟨c, d, k _ _ D.TOz D.TOi1 D.TOi2 pO⟩, t1', t2'⟩ pT n fun m o hm e =>
        k m o (fun r => hm (by simp [r])) (fun r => hm (by simp [r])) (fun r => hm (by simp [r])) e)
theorem zn_end {i : Nat} {Q : Value → Shared → Prop} (hh : A.handled = none) (D : ZipApart z TI TO i1 i2 a b) (S : ZSt s.heap z TI TO i1 i2 a b i) (l1 : s.heap.IsList a xs) (l2 : s.heap.IsList b ys) (fin : xs[i]? = none ∨ ys[i]? = none)
    (q : ∀ h' e, (∀ m o, m ∉ [z, TI, TO, i1, i2] → s.heap.get? m = some o → h'.get? m = some o) → (∃ o, h'.get? e = some o ∧ o.cls = .type "StopIteration") → E (.ref e) { s with heap := h' }) :
    wpAny (model prog w) A (Builtin.SmallTypes.nextOf (.ref z)) Q E s := by
  have ty := S.ty
  obtain ⟨⟨f0, f1, hz, hf⟩, pI, ⟨c, d, pO⟩, t1, t2⟩ := S
  unfold Builtin.SmallTypes.nextOf
  refine wpAny_bind (wpAny_callSpecial?_slot (name := Str.ofString "__next__") ty F.slot_zip_next (wpAny_call_entry F.slot_zip_next ty F.entry_zip_next ?_ (F.args_zip_next_1 _)))
  have hh' : A.in1.handled = none := hh
  rcases hf with rfl | ⟨T, f, rfl, rfl⟩
  · exact zf_end hh' D hz (.inl rfl) pI pO t1 t2 l1 l2 fin fun h' e k he => q h' e (fun m o hm r => k m o (fun r => hm (by simp [r])) (fun r => hm (by simp [r])) (fun r => hm (by simp [r])) (fun r => hm (by simp [r])) r) he
  · cases eT : s.heap.get? T with
    | none => exact zf_end hh' D hz (.inr ⟨T, rfl, eT⟩) pI pO t1 t2 l1 l2 fin fun h' e k he => q h' e (fun m o hm r => k m o (fun r => hm (by simp [r])) (fun r => hm (by simp [r])) (fun r => hm (by simp [r])) (fun r => hm (by simp [r])) r) he
    | some oT => exact zip_next_end_held hh' D hz eT pI t1 t2 l1 l2 fin fun h' e k he => q h' e (fun m o hm r => k m o (fun r => hm (by simp [r])) (fun r => hm (by simp [r])) (fun r => hm (by simp [r])) r) he
end
end Lk
set_option Elab.async false
set_option linter.all false
set_option maxRecDepth 100000
set_option maxHeartbeats 4000000
namespace Lk
open PySem L2 PyProof.Rows
open Sem (wp)
section
variable {prog : Program} {w : World} {A : Around} {E : Value → Shared → Prop} {s : Shared} {e it : Addr} {old : Value} {n : Nat}
/-- one turn of enumerate, whatever it walks: behind the inner item the pair is new, all but e stays -/
theorem en_item {Q : Option Value → Shared → Prop} (he : IsEnum s.heap e it (n : Int) old)
    (hN : ∀ E', wpAny (model prog w) A.in1 (Builtin.SmallTypes.nextOf (.ref it)) (fun x s1 => IsEnum s1.heap e it (n : Int) old ∧ ∀ h' tk, IsEnumOut h' e it ((n : Int) + 1) x s1.heap.objs.size →
      h'.get? s1.heap.objs.size = some { cls := .type "tuple", data := .seq #[.int n tk, x] } → h'.objs.size = s1.heap.objs.size + 1 → (∀ m o, m ≠ e → s1.heap.get? m = some o → h'.get? m = some o) →
      Q (some (.ref s1.heap.objs.size)) { s1 with heap := h', toks := tk + 1 }) E' s) :
    wpAny (model prog w) A (pyNext (.ref e)) Q E s := by
  have ty : s.TypeIs (.ref e) "enumerate" := ⟨_, he, rfl⟩
  unfold pyNext
  refine wpAny_bind (wpAny_attempt (wpAny_callSpecial?_slot (name := Str.ofString "__next__") ty F.slot_enumerate_next (wpAny_call_entry F.slot_enumerate_next ty F.entry_enumerate_next ?_ (F.args_enumerate_next_1 _))))
  show wpAny _ _ (field (.ref e) 2 >>= fun r => _) _ _ _
  refine wpAny_bind (wpAny_field he rfl (x := Value.ref it) rfl ?_)
  refine wpAny_bind (thn (hN _) ?_)
  rintro x ⟨g1, gg, d, tk, os⟩ ⟨e1, q⟩
  replace e1 : IsEnum g1 e it (n : Int) old := e1
  show wpAny _ _ (field (.ref e) 3 >>= fun r => _) _ _ _
  refine wpAny_bind (wpAny_field e1 rfl (x := rawInt (n : Int)) rfl ?_)
  show wpAny _ _ (field (.ref e) 4 >>= fun r => _) _ _ _
  refine wpAny_bind (wpAny_field e1 rfl (x := Value.none) rfl ?_)
  show wpAny _ _ (mkInt (n : Int) >>= fun r => _) _ _ _
  refine wpAny_bind (wpAny_mkInt ?_)
  show wpAny _ _ (setField (.ref e) 3 (rawInt ((n : Int) + 1)) >>= fun r => _) _ _ _
  refine wpAny_bind (wpAny_setField_rec e1 (by simp) fun g2 e2 b2 => ?_)
  replace b2 : Heap.SameBut e g1 g2 := b2
  replace e2 : IsEnum g2 e it ((n : Int) + 1) old := e2
  show wpAny _ _ (setField (.ref e) 4 .none >>= fun r => _) _ _ _
  refine wpAny_bind (wpAny_setField_rec e2 (by simp) fun g3 e3 b3 => ?_)
  replace b3 : Heap.SameBut e g2 g3 := b3
  replace e3 : IsEnum g3 e it ((n : Int) + 1) old := e3
  show wpAny _ _ (newTuple [.int n tk, x] >>= fun r => _) _ _ _
  refine wpAny_bind (wpAny_newTuple ?_)
  have n3 : g3.objs.size = g1.objs.size := by rw [b3.1, b2.1]
  have ne : e < g1.objs.size := Heap.lt_size e1
  obtain ⟨g4, r4⟩ : ∃ g4, g4 = g3.push { cls := .type "tuple", data := .seq #[.int n tk, x] } := ⟨_, rfl⟩
  have e4 : IsEnum g4 e it ((n : Int) + 1) old := by rw [r4]; exact Heap.get?_push_of_some _ e3
  have p4 : g4.get? g1.objs.size = some { cls := .type "tuple", data := .seq #[.int n tk, x] } := by rw [r4, ← n3]; exact Heap.get?_push_size _ rfl
  have n4 : g4.objs.size = g1.objs.size + 1 := by rw [r4, Heap.size_push, n3]
  have k4 : ∀ m o, m ≠ e → g1.get? m = some o → g4.get? m = some o := fun m o hm h => by
    rw [r4]; exact Heap.get?_push_of_some _ (b3.extBut m o hm (b2.extBut m o hm h))
  show wpAny _ _ (Builtin.SmallTypes.ownedTupleIsFree (.ref e) >>= fun r => _) _ _ ⟨g3.push { cls := .type "tuple", data := .seq #[.int n tk, x] }, gg, d, tk + 1, os⟩
  rw [← r4, n3]
  refine wpAny_bind ?_
  unfold Builtin.SmallTypes.ownedTupleIsFree
  refine wpAny_bind (wpAny_field e4 rfl (x := Value.none) rfl (wpAny_pure ?_))
  simp only [if_true]
  refine wpAny_bind (wpAny_rule ?_)
  refine wpAny_bind (wpAny_field e4 rfl (x := old) rfl ?_)
  refine wpAny_bind (wpAny_setField_rec e4 (by simp) fun g5 e5 b5 => ?_)
  replace b5 : Heap.SameBut e g4 g5 := b5
  replace e5 : IsEnum g5 e it ((n : Int) + 1) x := e5
  show wpAny _ _ (Builtin.SmallTypes.ownedTupleHandOut (.ref e) (.ref g1.objs.size) >>= fun r => _) _ _ _
  refine wpAny_bind ?_
  unfold Builtin.SmallTypes.ownedTupleHandOut
  refine wpAny_bind (wpAny_setField_rec e5 (by simp) fun g6 e6 b6 => ?_)
  replace b6 : Heap.SameBut e g5 g6 := b6
  replace e6 : IsEnumOut g6 e it ((n : Int) + 1) x g1.objs.size := e6
  refine wpAny_setField_rec e6 (by simp) fun g7 e7 b7 => ?_
  replace b7 : Heap.SameBut e g6 g7 := b7
  replace e7 : IsEnumOut g7 e it ((n : Int) + 1) x g1.objs.size := e7
  refine wpAny_bind (wpAny_letGo (wpAny_pure ⟨_, rfl, wpAny_pure (q g7 tk e7 ?_ ?_ ?_)⟩))
  · exact b7.extBut _ _ (Nat.ne_of_gt ne) (b6.extBut _ _ (Nat.ne_of_gt ne) (b5.extBut _ _ (Nat.ne_of_gt ne) p4))
  · show g7.objs.size = g1.objs.size + 1
    rw [b7.1, b6.1, b5.1, n4]
  · exact fun m o hm h => b7.extBut m o hm (b6.extBut m o hm (b5.extBut m o hm (k4 m o hm h)))
theorem en_end {Q : Option Value → Shared → Prop} (he : IsEnum s.heap e it (n : Int) old)
    (hN : ∀ (Q' : Value → Shared → Prop) (E' : Value → Shared → Prop), (∀ h' u, (∃ o, h'.get? u = some o ∧ o.cls = .type "StopIteration") → Q none { s with heap := h' } → E' (.ref u) { s with heap := h' }) → wpAny (model prog w) A.in1 (Builtin.SmallTypes.nextOf (.ref it)) Q' E' s) :
    wpAny (model prog w) A (pyNext (.ref e)) Q E s := by
  have ty : s.TypeIs (.ref e) "enumerate" := ⟨_, he, rfl⟩
  unfold pyNext
  refine wpAny_bind (wpAny_attempt (wpAny_callSpecial?_slot (name := Str.ofString "__next__") ty F.slot_enumerate_next (wpAny_call_entry F.slot_enumerate_next ty F.entry_enumerate_next ?_ (F.args_enumerate_next_1 _))))
  show wpAny _ _ (field (.ref e) 2 >>= fun r => _) _ _ _
  refine wpAny_bind (wpAny_field he rfl (x := Value.ref it) rfl ?_)
  refine wpAny_bind (hN _ _ fun h' u hu q => ?_)
  obtain ⟨o, ho, hc⟩ := hu
  refine wpAny_bind (wpAny_isInstance (T := "StopIteration") (b := true) ⟨o, ho, hc⟩ isSubtype_stop ?_)
  exact wpAny_pure q
end
/-! ### what it walks -/
def Itez (K : Fr) (a b : Addr) : It :=
  ⟨fun i H => ∃ (xs ys : List V) (x y : V), SqL K H a xs ∧ SqL K H b ys ∧ xs[i]? = some x ∧ ys[i]? = some y,
    fun i H v H' => ∃ T P x y, v = .ref P ∧ H T = none ∧ upd H T (.tup [x, y]) P = none ∧ H' = upd (upd H T (.tup [x, y])) P (.tup [.int (i : Nat), .ref T]) ∧ (∀ xs, SqL K H a xs → xs[i]? = some x) ∧ ∀ ys, SqL K H b ys → ys[i]? = some y,
    fun i H => ∃ xs ys : List V, SqL K H a xs ∧ SqL K H b ys ∧ (xs.length ≤ i ∨ ys.length ≤ i)⟩
theorem turn_ez {P : Program} {w : World} {K : Fr} {elts : List Expr} {kk : Nat} {tpos : Pos} {a b e z TI TO i1 i2 : Addr} (D : ZipApart z TI TO i1 i2 a b) (he : e ∉ [z, TI, TO, i1, i2]) :
    Turn P w K (.Tuple elts kk tpos) (Itez K a b) [e, z, TI, TO, i1, i2] e (fun i h => (∃ old, IsEnum h e z ((i : Nat) : Int) old) ∧ ZSt h z TI TO i1 i2 a b i) where
  mem := by simp
  obj := fun i h st c hc => by
    obtain ⟨⟨old, he⟩, ⟨f0, f1, hz, _⟩, pI, ⟨x, y, pO⟩, ⟨o1, m1, _, d1⟩, ⟨o2, m2, _, d2⟩⟩ := st
    have q : c = e ∨ c = z ∨ c = TI ∨ c = TO ∨ c = i1 ∨ c = i2 := by simpa using hc
    rcases q with rfl | rfl | rfl | rfl | rfl | rfl
    · exact ⟨_, he, fun v q => nomatch q⟩
    · exact ⟨_, hz, fun v q => nomatch q⟩
    · exact ⟨_, pI, fun v q => nomatch q⟩
    · exact ⟨_, pO, fun v q => nomatch q⟩
    · exact ⟨o1, m1, fun v q => by rw [d1] at q; cases q⟩
    · exact ⟨o2, m2, fun v q => by rw [d2] at q; cases q⟩
  keep := fun i h h' st k => by
    obtain ⟨⟨old, he⟩, S⟩ := st
    exact ⟨⟨old, k e (by simp) _ he⟩, S.at fun m hm o q => k m (List.mem_cons_of_mem _ hm) o q⟩
  item := by
    intro X hP hw hK hc i pins s σ H E I hf st hg
    subst hP hw hK
    obtain ⟨⟨old, hE⟩, S⟩ := st
    obtain ⟨xs, ys, x, y, hqx, hqy, hx, hy⟩ := hg
    obtain ⟨its, rv, p, _⟩ := I.list hqx
    obtain ⟨its2, rv2, p2, _⟩ := I.list hqy
    obtain ⟨u, hu, ru⟩ := rv.get hx
    obtain ⟨u2, hu2, ru2⟩ := rv2.get hy
    have lt : ∀ c ∈ [e, z, TI, TO, i1, i2], c < s.heap.objs.size := fun c hcm => by
      obtain ⟨⟨f0, f1, hz, _⟩, pI, ⟨x, y, pO⟩, ⟨o1, m1, _⟩, ⟨o2, m2, _⟩⟩ := S
      have q : c = e ∨ c = z ∨ c = TI ∨ c = TO ∨ c = i1 ∨ c = i2 := by simpa using hcm
      rcases q with rfl | rfl | rfl | rfl | rfl | rfl
      · exact Heap.lt_size hE
      · exact Heap.lt_size hz
      · exact Heap.lt_size pI
      · exact Heap.lt_size pO
      · exact Heap.lt_size m1
      · exact Heap.lt_size m2
    refine en_item hE fun E' => zn_item D S p.isList p2.isList (x := u) (y := u2) (by simpa using hu) (by simpa using hu2) fun g1 S1 pT n1 k1 => ⟨k1 e _ he hE, fun g2 tk e2 pP n2 k2 => ⟨_, rfl, ?_⟩⟩
    replace n1 : g1.objs.size = s.heap.objs.size + 1 := n1
    replace pP : g2.get? g1.objs.size = some { cls := .type "tuple", data := .seq #[.int i tk, .ref s.heap.objs.size] } := pP
    refine wpAny_letOwnedTupleGo_enum (s := { s with heap := g2, toks := tk + 1 }) e2 fun g3 e3 b3 => ?_
    have le : e < s.heap.objs.size := lt e (by simp)
    have le1 : e < g1.objs.size := by rw [n1]; exact Nat.lt_succ_of_lt le
    have new1 : ObjOk X.prog X.w (upd H s.heap.objs.size (.tup [x, y])) g1 s.heap.objs.size (.tup [x, y]) := ⟨by show 2 ≤ sizeLine; decide, [u, u2], .cons ru (.cons ru2 .nil), ⟨_, pT, rfl, _, rfl⟩⟩
    have I1 : Inv X pins σ (upd H s.heap.objs.size (.tup [x, y])) { s with heap := g1, toks := s.toks } := I.turnedNew (ch := [e, z, TI, TO, i1, i2]) (fun c o hb q => k1 c o (fun r => hb (List.mem_cons_of_mem _ r)) q) hf (Nat.le_refl _) new1
    have hf1 : ∀ c ∈ [e], FpOk X pins (upd H s.heap.objs.size (.tup [x, y])) c := fun c hcm => by
      have r : c = e := by simpa using hcm
      subst r
      obtain ⟨f0, f1⟩ := hf c (by simp)
      exact ⟨by rw [upd_ne (Nat.ne_of_lt le)]; exact f0, f1⟩
    have pP3 : g3.get? g1.objs.size = some { cls := .type "tuple", data := .seq #[.int i tk, .ref s.heap.objs.size] } := (b3.2 _ (Nat.ne_of_gt le1)).trans pP
    have new2 : ObjOk X.prog X.w (upd (upd H s.heap.objs.size (.tup [x, y])) g1.objs.size (.tup [.int (i : Nat), .ref s.heap.objs.size])) g3 g1.objs.size (.tup [.int (i : Nat), .ref s.heap.objs.size]) :=
      ⟨by show 2 ≤ sizeLine; decide, [.int i tk, .ref s.heap.objs.size], .cons ⟨_, rfl⟩ (.cons rfl .nil), ⟨_, pP3, rfl, _, rfl⟩⟩
    have I2 : Inv X pins σ (upd (upd H s.heap.objs.size (.tup [x, y])) g1.objs.size (.tup [.int (i : Nat), .ref s.heap.objs.size])) { s with heap := g3, toks := tk + 1 } :=
      I1.turnedNew (s := { s with heap := g1, toks := s.toks }) (ch := [e]) (fun c o hb q => (b3.2 c (fun r => hb (by simp [r]))).trans (k2 c o (fun r => hb (by simp [r])) q)) hf1 (Nat.le_refl _) new2
    refine ⟨.ref g1.objs.size, _, I2, rfl, ⟨_, _, x, y, rfl, I.hok.fresh (Nat.le_refl _), I1.hok.fresh (Nat.le_refl _), rfl, fun l hl => by rw [I.list_inj hl hqx]; exact hx, fun l hl => by rw [I.list_inj hl hqy]; exact hy⟩, ⟨⟨.ref s.heap.objs.size, ?_⟩, ?_⟩, fun c hcm => ?_⟩
    · rw [show ((i + 1 : Nat) : Int) = (i : Int) + 1 by omega]
      exact e3
    · refine S1.at fun m hm o q => ?_
      have ne : m ≠ e := fun r => he (by rw [← r]; exact hm)
      exact (b3.2 m ne).trans (k2 m o ne q)
    · have l := lt c hcm
      have l' : c < g1.objs.size := by rw [n1]; exact Nat.lt_succ_of_lt l
      rw [upd_ne (Nat.ne_of_lt l'), upd_ne (Nat.ne_of_lt l)]
      exact (hf c hcm).1
  done := by
    intro X hP hw hK hc i pins s σ H E I hf st hg
    subst hP hw hK
    obtain ⟨⟨old, hE⟩, S⟩ := st
    obtain ⟨xs, ys, hqx, hqy, fin⟩ := hg
    obtain ⟨its, rv, p, _⟩ := I.list hqx
    obtain ⟨its2, rv2, p2, _⟩ := I.list hqy
    have l1 := rv.length
    have l2 := rv2.length
    have fin' : its.toArray[i]? = none ∨ its2.toArray[i]? = none := by
      rcases fin with q | q
      · exact .inl (by simp; omega)
      · exact .inr (by simp; omega)
    refine en_end hE fun Q' E' q => zn_end (I.ok.hd hc) D S p.isList p2.isList fin' fun h' u k hu => q h' u hu ⟨rfl, ?_⟩
    exact I.turnedL (t' := s.toks) (ch := [e, z, TI, TO, i1, i2]) (fun c o hb q => k c o (fun r => hb (List.mem_cons_of_mem _ r)) q) hf
  self := fun A i s Q E st h => by
    obtain ⟨⟨_, he⟩, _⟩ := st
    exact wpAny_pyIter_enum he h
/-! ### enumerate(z) of a zip -/
theorem meets_ez (z : Addr) : Meets (Builtin.«enumerate.__new__» ⟨[.type "enumerate", .ref z], []⟩) (fun _ R s => (∃ TI TO f0, IsZip s.heap z TI TO f0) ∧
    R (.ok (.ret (.ref s.heap.objs.size))) { s with heap := s.heap.push { cls := .type "enumerate", data := .fields #[.none, .bool false, .ref z, rawInt 0, .none, .none] } }) :=
  .of_wp fun prog w A R s h => by
    obtain ⟨hp, g, d, tk, os⟩ := s
    obtain ⟨⟨TI, TO, f0, hz⟩, h⟩ := h
    have hsub := sub_enumerate
    have hZ : IsZip (Shared.heap ⟨hp, g, d, tk, os⟩) z TI TO f0 := hz
    wp_walk
    refine wpAny_stack_any fun st => wpAny_pure ?_
    split
    · rename_i c _ _ _ _ _
      cases (c == Value.type "enumerate") <;> (wp_walk using wpAny_pyIter_zip hZ; exact ⟨_, rfl, h⟩)
    · wp_walk using wpAny_pyIter_zip hZ
      exact ⟨_, rfl, h⟩
section
variable {prog : Program} {w : World} {A : Around} {E : Value → Shared → Prop} {s : Shared}
theorem call_ez {z TI TO : Addr} {f0 : Value} {Q : Value → Shared → Prop} (hz : IsZip s.heap z TI TO f0)
    (q : ∀ h', IsEnum h' s.heap.objs.size z 0 .none → h'.objs.size = s.heap.objs.size + 1 → (∀ m o, s.heap.get? m = some o → h'.get? m = some o) → Q (.ref s.heap.objs.size) { s with heap := h' }) :
    wpAny (model prog w) A (call (.type "enumerate") [.ref z]) Q E s := by
  refine callType_new F.called_enumerate (by decide) (F.typeCall_enumerate_1 _) (F.newCall_enumerate_1 _) (fun obj => F.args_object_init_2 obj _) F.entry_enumerate_new (meets_ez z) ⟨⟨TI, TO, f0, hz⟩, ?_⟩
  have he : IsEnum (s.heap.push { cls := .type "enumerate", data := .fields #[.none, .bool false, .ref z, rawInt 0, .none, .none] }) s.heap.objs.size z 0 .none := Heap.get?_push_size _ rfl
  exact ⟨⟨_, he, rfl⟩, q _ he (Heap.size_push ..) fun m o r => Heap.get?_push_of_some _ r⟩
end
/-- enumerate(zip(a, b)): the layer's reading -/
def iEnumZip (K : Fr) (ta : TA) : TI := fun σ H R => ta σ H fun vs H1 => ∃ a b xs ys, vs = [.ref a, .ref b] ∧ SqL K H1 a xs ∧ SqL K H1 b ys ∧ R (Itez K a b) H1
theorem pi_enumzip {X : Cx} {e e2 : Expr} {ta : TA} {p p2 pos pos2 tpos : Pos} {elts : List Expr} {kk : Nat} (hg : Gl X "enumerate") (hm : X.mg "enumerate" = none) (hg2 : Gl X "zip") (hm2 : X.mg "zip" = none) (ha : PA X [e, e2] ta)
    (hs2 : starEach [e, e2] X.env = (false, eval e X.env) :: starEach [e2] X.env := by rfl) (hpl : (backTo pos2 (starEach [e2] X.env)).any (·.1) = false := by rfl)
    (hs : starEach [.Call (.Name "zip" p2) [e, e2] [] pos2] X.env = [(false, eval (.Call (.Name "zip" p2) [e, e2] [] pos2) X.env)] := by rfl) :
    PI X (.Tuple elts kk tpos) (.Call (.Name "enumerate" p) [.Call (.Name "zip" p2) [e, e2] [] pos2] [] pos) (iEnumZip X.K ta) := by
  constructor
  intro pins s σ H R I h
  refine Call_ (ld_blt I hg hm boot_enumerate (PyProof.Rows.callWith_type1 ?_ hs rfl))
  rw [hs]
  show wpAny _ _ (spliced ((false, eval (.Call (.Name "zip" p2) [e, e2] [] pos2) X.env) :: backTo pos [])) _ _ s
  refine Calls.spliced_cons (Call_ (ld_blt I hg2 hm2 PyProof.Rows.boot_zip (PyProof.Rows.callWith_type1 (thn (ha.run pos2 pins s σ H _ I h) ?_) hs2 hpl)))
  rintro us s1 ⟨vs, H1, I1, r1, a, b, xs, ys, rfl, hqx, hqy, q⟩
  cases r1 with
  | cons r rr =>
    cases rr with
    | cons r' rr =>
      cases rr
      cases r
      cases r'
      obtain ⟨its, rv, p1, _⟩ := I1.list hqx
      obtain ⟨its2, rv2, p2', _⟩ := I1.list hqy
      have la : a < s1.heap.objs.size := p1.lt
      have lb : b < s1.heap.objs.size := p2'.lt
      refine call_zip_2 p1.isList p2'.isList fun g1 hz pI pO t1 t2 n1 k1 => Calls.spliced_nil (call_ez hz fun g2 he n2 k2 => wpAny_pyIter_enum he ?_)
      replace n1 : g1.objs.size = s1.heap.objs.size + 5 := n1
      replace k2 : ∀ m o, g1.get? m = some o → g2.get? m = some o := k2
      have D := PySem.W.ktu_apart s1.heap.objs.size a b la lb
      have I2 : Inv X pins σ H1 { s1 with heap := g2 } := I1.kept (t' := s1.toks) fun m o r => k2 m o (k1 m o r)
      have ne : g1.objs.size ∉ [s1.heap.objs.size + 4, s1.heap.objs.size + 2, s1.heap.objs.size + 3, s1.heap.objs.size, s1.heap.objs.size + 1] := by
        rw [n1]; simp
      have S0 : ZSt g1 (s1.heap.objs.size + 4) (s1.heap.objs.size + 2) (s1.heap.objs.size + 3) s1.heap.objs.size (s1.heap.objs.size + 1) a b 0 := ⟨⟨.none, .bool false, hz, .inl rfl⟩, pI, ⟨_, _, pO⟩, t1, t2⟩
      refine ⟨g1.objs.size, [g1.objs.size, s1.heap.objs.size + 4, s1.heap.objs.size + 2, s1.heap.objs.size + 3, s1.heap.objs.size, s1.heap.objs.size + 1], _, _, H1, rfl, I2, turn_ez D ne, ⟨⟨.none, he⟩, S0.at fun m _ o r => k2 m o r⟩, fun c hcm => ?_, q⟩
      have hle : s1.heap.objs.size ≤ c := by
        rw [n1] at hcm
        have e' : c = s1.heap.objs.size + 5 ∨ c = s1.heap.objs.size + 4 ∨ c = s1.heap.objs.size + 2 ∨ c = s1.heap.objs.size + 3 ∨ c = s1.heap.objs.size ∨ c = s1.heap.objs.size + 1 := by simpa using hcm
        rcases e' with r | r | r | r | r | r <;> (rw [r]; first | exact Nat.le_add_right _ _ | exact Nat.le_refl _)
      exact I1.fpOk hle (I1.hok.fresh hle)
/-- over data: the items are (place, (x, y)) -/
theorem iv_enumzip {K : Fr} {env : Env} {ta : TA} {ds es : List Dt} (h : EA K ta env [.lst ds, .lst es]) : IV K (iEnumZip K ta) env (enumD (zipD ds es)) := fun σ G H R gh eo k =>
  h σ G H _ gh eo fun vs G1 H1 s1 r1 => by
    obtain ⟨v, u, rfl, r2, r3⟩ := rpl2 r1
    obtain ⟨a, xs, rfl, e2, e3⟩ := rp_lst.mp r2
    obtain ⟨b, ys, rfl, f2, f3⟩ := rp_lst.mp r3
    have hz : (zipD ds es).length = min ds.length es.length := by unfold zipD; simp
    have hl : (enumD (zipD ds es)).length = min ds.length es.length := by rw [← hz]; unfold enumD; generalize zipD ds es = l; unfold zipD; simp
    refine ⟨a, b, xs, ys, rfl, SqL.of (s1.gh _ _ e2), SqL.of (s1.gh _ _ f2), k _ G1 H1 s1 ⟨fun G2 H2 g12 gh2 i d hd => ?_, fun G2 H2 g12 gh2 => ?_⟩⟩
    · have hi : i < min ds.length es.length := by
        have := (List.getElem?_eq_some_iff.mp hd).1
        rwa [hl] at this
      have hi1 : i < ds.length := by omega
      have hi2 : i < es.length := by omega
      obtain ⟨x, p1, p2⟩ := rpl_get e3 (List.getElem?_eq_getElem hi1)
      obtain ⟨y, q1, q2⟩ := rpl_get f3 (List.getElem?_eq_getElem hi2)
      have q : SqL K H2 a xs := SqL.of (gh2 _ _ (g12 _ _ e2))
      have q' : SqL K H2 b ys := SqL.of (gh2 _ _ (g12 _ _ f2))
      have zi : (zipD ds es)[i]? = some (.tup [ds[i], es[i]]) := by
        unfold zipD
        rw [List.getElem?_map, show (ds.zip es)[i]? = some (ds[i], es[i]) from List.getElem?_zip_eq_some.mpr ⟨List.getElem?_eq_getElem hi1, List.getElem?_eq_getElem hi2⟩]; rfl
      have ed : d = .tup [.int (i : Nat), .tup [ds[i], es[i]]] := by
        have hi3 : i < (zipD ds es).length := by omega
        unfold enumD at hd
        generalize zipD ds es = l at hd zi hi3
        unfold zipD at hd
        rw [List.getElem?_map, show (((List.range l.length).map fun (i : Nat) => Dt.int (i : Nat)).zip l)[i]? = some (.int (i : Nat), .tup [ds[i], es[i]]) from List.getElem?_zip_eq_some.mpr ⟨by rw [List.getElem?_map, List.getElem?_range hi3]; rfl, zi⟩] at hd
        cases hd; rfl
      subst ed
      refine ⟨⟨xs, ys, x, y, q, q', p1, q1⟩, fun u H3 ⟨T, P, z, z', e, hT, hP, e', hz, hz'⟩ => ?_⟩
      subst e e'
      have h1 := hz xs q
      have h2 := hz' ys q'
      rw [p1] at h1; cases h1
      rw [q1] at h2; cases h2
      have st := Step.new (o := .tup [x, y]) gh2 hT
      have st2 := Step.new (o := .tup [.int (i : Nat), .ref T]) st.gh hP
      refine ⟨_, st.trans st2, rp_pair (rp_int.mpr rfl) (Rp.mono st2.gg _ _ (rp_pair (Rp.mono (g12.trans st.gg) _ _ p2) (Rp.mono (g12.trans st.gg) _ _ q2) upd_same)) upd_same⟩
    · rw [hl]
      refine ⟨xs, ys, SqL.of (gh2 _ _ (g12 _ _ e2)), SqL.of (gh2 _ _ (g12 _ _ f2)), ?_⟩
      rw [rpl_len e3, rpl_len f3]
      omega
end Lk
set_option Elab.async false
set_option linter.all false
set_option maxRecDepth 100000
set_option maxHeartbeats 4000000
namespace Lk
open PySem L2
local macro_rules | `(tactic| walk_at "ev1") => `(tactic| first
  | ((with_reducible apply ev_var); exact rfl)
  | with_reducible exact ev_int | with_reducible exact ev_str | with_reducible exact ev_bl | with_reducible exact ev_non | with_reducible exact ea_nil | with_reducible apply ea_cons
  | with_reducible exact rd_addI | with_reducible exact rd_subG | with_reducible exact rd_ltG | with_reducible exact rd_leG | with_reducible exact rd_gtG | with_reducible exact rd_geG | with_reducible exact rd_eqI | with_reducible exact rd_neI | with_reducible exact rd_eqS
  | with_reducible exact rc_lenL | with_reducible exact rc_lenT | with_reducible exact rc_max2 | with_reducible exact rc_min2 | with_reducible exact rc_abs | with_reducible exact rc_intI | with_reducible exact rc_intB | with_reducible exact rc_listL | with_reducible exact rc_tupleL | with_reducible exact rc_all | with_reducible exact rc_sum
  | with_reducible exact gv_name | with_reducible exact gv_nil | with_reducible apply gv_cons | ((with_reducible apply gv_tup) <;> try exact rfl)
  | with_reducible apply rd_mulI | with_reducible apply rd_fdivG | with_reducible apply rd_modG | with_reducible apply rc_divmod | with_reducible apply rd_ixL | with_reducible apply rd_ixT | with_reducible apply rd_addL
  | with_reducible apply ev_tup | with_reducible apply ev_lst | with_reducible apply ev_op | with_reducible apply ev_cb | with_reducible exact eo_none | with_reducible apply eo_some | with_reducible apply ev_neg
  | with_reducible apply et_test | with_reducible apply et_B | with_reducible apply et_not | exact Nat.le_of_ble_eq_true rfl)
local macro_rules | `(tactic| walk_at "ev") => `(tactic| repeat' (walk_at "ev1"))
local macro_rules | `(tactic| walk_at "env") => `(tactic| simp only [rep, ladD, setS, setC, env0, List.map_cons, List.map_nil, List.length_cons, List.length_nil, Nat.reduceAdd, Nat.reduceSub, List.replicate_succ, List.replicate_zero, List.cons_append, List.nil_append])
-- IMPORTS LkEnz
theorem ez_tab (f g : Nat → Nat) (n : Nat) : enumD (zipD ((tab f n).map Dt.int) ((tab g n).map Dt.int)) = (List.range n).map fun (k : Nat) => .tup [.int (k : Nat), .tup [.int (f k : Nat), .int (g k : Nat)]] := by
  have e : zipD ((tab f n).map Dt.int) ((tab g n).map Dt.int) = (List.range n).map fun (k : Nat) => .tup [.int (f k : Nat), .int (g k : Nat)] := by
    unfold zipD tab
    rw [List.map_map, List.map_map, List.zip_map', List.map_map]; rfl
  rw [e]
  unfold enumD zipD
  rw [List.length_map, List.length_range, List.zip_map', List.map_map]; rfl
def t_unlike_day (K : Fr) : TS :=
  (tSeq (tAsg (tOp rAddG (tOp rAddG (tOp rAddG (tCB rMax2G (tCons (tCB (rLenG K) (tCons (tOp (rIxG K) (tVar 0) (tC (.int 0))) tNil)) (tCons (tCB (rLenG K) (tCons (tOp (rIxG K) (tVar 1) (tC (.int 0))) tNil)) tNil))) (tCB (rLenG K) (tCons (tOp (rIxG K) (tVar 0) (tC (.int 1))) tNil))) (tCB (rLenG K) (tCons (tOp (rIxG K) (tVar 1) (tC (.int 1))) tNil))) (tC (.int 1))) (gName 2))
      (tSeq (tFor (iEnumZip K (tCons (tCall (sp_first_numbers K) [] E0 (tCons (tVar 0) (tCons (tVar 2) tNil))) (tCons (tCall (sp_first_numbers K) [] E0 (tCons (tVar 1) (tCons (tVar 2) tNil))) tNil))) (gTup K 2 (gCons (gName 3) (gCons (gTup K 2 (gCons (gName 4) (gCons (gName 5) gNil))) gNil))) (tIfS (tTest (tOp (rNeG K) (tVar 4) (tVar 5))) tNever tNext))
      (tRet (tC .non))))
def t_less_day (K : Fr) : TS :=
  (tSeq (tAsg (tCall (sp_common_way K) [] E0 (tCons (tVar 0) (tCons (tVar 1) tNil))) (gTup K 2 (gCons (gName 2) (gCons (gName 3) gNil))))
      (tSeq (tPar 4 5 (tCons (tOp rAddG (tVar 2) (tVar 3)) (tCons (tOp rSubG (tCall (sp_risen K) [] E0 (tCons (tVar 1) (tCons (tVar 3) tNil))) (tCall (sp_risen K) [] E0 (tCons (tVar 0) (tCons (tVar 3) tNil)))) tNil)))
      (tSeq (tAsg (tC .non) (gName 6))
      (tSeq (tFor (iEnumZip K (tCons (tCall (sp_first_numbers K) [] E0 (tCons (tVar 0) (tCons (tVar 4) tNil))) (tCons (tCall (sp_first_numbers K) [] E0 (tCons (tVar 1) (tCons (tVar 4) tNil))) tNil))) (gTup K 2 (gCons (gName 7) (gCons (gTup K 2 (gCons (gName 8) (gCons (gName 9) gNil))) gNil))) (tSeq (tIfS (tTest (tOp rLtG (tVar 8) (tVar 9))) tNever tNext)
      (tIfS (tAnd (tTest (tOp rGeG (tVar 7) (tVar 2))) (tTest (tOp rGtG (tVar 5) (tC (.int 0))))) tNever tNext)))
      (tRet (tVar 6))))))
def t_alike (K : Fr) : TS :=
  (tSeq (tDrop (tCall (sp_need_two_ladders K) [] E0 (tCons (tVar 0) (tCons (tVar 1) tNil))))
      (tRet (tOp rIsNG (tCall (sp_unlike_day K) [] E0 (tCons (tVar 0) (tCons (tVar 1) tNil))) (tC .non))))
def t_first_less (K : Fr) : TS :=
  (tSeq (tDrop (tCall (sp_need_two_ladders K) [] E0 (tCons (tVar 0) (tCons (tVar 1) tNil))))
      (tRet (tCall (sp_less_day K) [] E0 (tCons (tVar 0) (tCons (tVar 1) tNil)))))
def t_first_later (K : Fr) : TS :=
  (tSeq (tAsg (tCall (sp_two_ladders K) [] E0 (tCons (tVar 0) (tCons (tVar 1) (tCons (tVar 2) tNil)))) (gTup K 2 (gCons (gName 3) (gCons (gName 4) gNil))))
      (tRet (tCall (sp_first_less K) [] E0 (tCons (tVar 4) (tCons (tVar 3) tNil)))))
def t_never_later (K : Fr) : TS :=
  (tRet (tOp rIsNG (tCall (sp_first_later K) [] E0 (tCons (tVar 0) (tCons (tVar 1) (tCons (tVar 2) tNil)))) (tC .non)))
def t_passing (K : Fr) : TS :=
  (tSeq (tAsg (tCall (sp_two_ladders K) [] E0 (tCons (tVar 0) (tCons (tVar 1) (tCons (tVar 2) tNil)))) (gTup K 2 (gCons (gName 3) (gCons (gName 4) gNil))))
      (tRet (tCall (sp_alike K) [] E0 (tCons (tCall (sp_joined K) [] E0 (tCons (tVar 3) (tCons (tVar 4) tNil))) (tCons (tCall (sp_joined K) [] E0 (tCons (tVar 4) (tCons (tVar 3) tNil))) tNil)))))
theorem ok_unlike_day {P : Program} {w : World} {K : Fr} {mg : Str → Option Value} {base : Heap} (T : Txt K mg) : Has P w K mg base 2 (He.ga K "unlike_day") ["one", "other"] (sp_unlike_day K) := by
  obtain ⟨fd, F⟩ := T.says.def_ 25 (d := d_unlike_day) rfl
  have F : FunD K "unlike_day" "unlike_day" (defArgs s_unlike_day) (defBody s_unlike_day) (defScope s_unlike_day) [] [] (He.ga K "unlike_day") fd := F
  obtain ⟨kp_first_numbers, fd_first_numbers, G_first_numbers, b_first_numbers⟩ := ok_first_numbers (P := P) (w := w) (base := base) T
  refine ⟨F.kp, fd, ?_, F.bindsN fun _ _ _ _ _ _ us hl => match us, hl with | [_, _], _ => rfl⟩
  refine ok_of F c_unlike_day (by (intro ds d h; exact h.len)) fun cdv A outer s H E hr => ⟨t_unlike_day K, PSs.nox
      (pss_cons (ps_set (i := 2) c_unlike_day.nd rfl (Or.inl rfl) (pe_op op_addG (pe_op op_addG (pe_op op_addG (pe_callB (c_max2 rfl) (by rfl) (z_max T) (by decide +kernel) (pa_cons (pe_callB c_len (by rfl) (z_len T) (by decide +kernel) (pa_cons (pe_ix ix_G (pv 0) pe_int (fun _ _ => rfl)) pa_nil)) (pa_cons (pe_callB c_len (by rfl) (z_len T) (by decide +kernel) (pa_cons (pe_ix ix_G (pv 1) pe_int (fun _ _ => rfl)) pa_nil)) pa_nil))) (pe_callB c_len (by rfl) (z_len T) (by decide +kernel) (pa_cons (pe_ix ix_G (pv 0) pe_int (fun _ _ => rfl)) pa_nil))) (pe_callB c_len (by rfl) (z_len T) (by decide +kernel) (pa_cons (pe_ix ix_G (pv 1) pe_int (fun _ _ => rfl)) pa_nil))) pe_int))
      (pss_cons (ps_for PassesOwn.never rfl (pi_enumzip (by rfl) (z_enumerate T) (by rfl) (z_zip T) (pa_cons (pe_call G_first_numbers (hr.mono (by decide)) (by rfl) (m_first_numbers T) kp_first_numbers b_first_numbers .nil pass0 (pa_cons (pv 0) (pa_cons (pv 2) pa_nil))) (pa_cons (pe_call G_first_numbers (hr.mono (by decide)) (by rfl) (m_first_numbers T) kp_first_numbers b_first_numbers .nil pass0 (pa_cons (pv 1) (pa_cons (pv 2) pa_nil))) pa_nil))) (pg_tup (by rfl) (pgs_cons (pg_name (i := 3) c_unlike_day.nd rfl (Or.inl rfl)) (pgs_cons (pg_tup (by rfl) (pgs_cons (pg_name (i := 4) c_unlike_day.nd rfl (Or.inl rfl)) (pgs_cons (pg_name (i := 5) c_unlike_day.nd rfl (Or.inl rfl)) pgs_nil))) pgs_nil))) (pss_one (ps_if (pt_cmpR (op_neG hr.units) (pv 4) (pv 5) (nomark _)) pss_never pss_nil)))
      (pss_one (ps_ret pe_non)))), fun ds d hF => ?_⟩
  obtain ⟨a, b, rfl, f, g, n, c, m, r, rfl, rfl, hf, hg, hn, hn2, hc, hm, hm2, hr, he, rfl⟩ := hF.ex
  walk_at "env"
  have el1 : (((tab f n).map Dt.int).length : Int) = ((n : Nat) : Int) := by rw [List.length_map, tab_len]
  have el2 : (((tab g m).map Dt.int).length : Int) = ((m : Nat) : Int) := by rw [List.length_map, tab_len]
  refine q_set (d := .int ((n + m + 1 : Nat) : Int)) (ev_is (ev_op (ev_op (ev_op (ev_cb (ea_cons (ev_cb (ea_cons (ev_at (j := 0) rfl rfl) ea_nil) rc_lenL) (ea_cons (ev_cb (ea_cons (ev_at (j := 0) rfl rfl) ea_nil) rc_lenL) ea_nil)) rc_max2) (ev_cb (ea_cons (ev_at (j := 1) rfl rfl) ea_nil) rc_lenL) rd_addI) (ev_cb (ea_cons (ev_at (j := 1) rfl rfl) ea_nil) rc_lenL) rd_addI) ev_int rd_addI) ?_) ?_
  · rw [el1, el2]
    congr 1
    show max (0 : Int) 0 + (n : Int) + (m : Int) + 1 = _
    omega
  refine q_for (items := enumD (zipD ((tab f (n + m + 1)).map Dt.int) ((tab g (n + m + 1)).map Dt.int))) (iv_enumzip (ea_cons (ev_call (ea_cons (ev_var rfl) (ea_cons (ev_var rfl) ea_nil)) ⟨f, n, c, n + m + 1, rfl, hf, hn, by omega, by omega, rfl, by omega, rfl⟩) (ea_cons (ev_call (ea_cons (ev_var rfl) (ea_cons (ev_var rfl) ea_nil)) ⟨g, m, r, n + m + 1, rfl, hg, hm, by omega, by omega, rfl, by omega, rfl⟩) ea_nil)))
    (fun i e M => ∃ x y z : Option Dt, e = [some (ladD (tab f n) c), some (ladD (tab g m) r), some (.int ((n + m + 1 : Nat) : Int)), x, y, z] ∧ M = none) ⟨none, none, none, rfl, rfl⟩ ?_ ?_
  · rintro i d e M hd ⟨x, y, z, rfl, rfl⟩
    rw [ez_tab, List.getElem?_map] at hd
    obtain ⟨k, _, rfl⟩ := Option.map_eq_some_iff.mp hd
    refine ⟨_, gv_tup (gv_cons gv_name (gv_cons (gv_tup (gv_cons gv_name (gv_cons gv_name gv_nil)) rfl) gv_nil)) rfl, ?_⟩
    refine l_q (q_no (et_is (et_test (ev_op (ev_var rfl) (ev_var rfl) rd_neI)) ?_) (l_end ⟨_, _, _, rfl, rfl⟩))
    rw [he k]
    simp
  · rintro e M ⟨x, y, z, rfl, rfl⟩
    exact l_ret ev_non rfl
theorem ok_less_day {P : Program} {w : World} {K : Fr} {mg : Str → Option Value} {base : Heap} (T : Txt K mg) : Has P w K mg base 4 (He.ga K "less_day") ["one", "other"] (sp_less_day K) := by
  obtain ⟨fd, F⟩ := T.says.def_ 26 (d := d_less_day) rfl
  have F : FunD K "less_day" "less_day" (defArgs s_less_day) (defBody s_less_day) (defScope s_less_day) [] [] (He.ga K "less_day") fd := F
  obtain ⟨kp_first_numbers, fd_first_numbers, G_first_numbers, b_first_numbers⟩ := ok_first_numbers (P := P) (w := w) (base := base) T
  obtain ⟨kp_risen, fd_risen, G_risen, b_risen⟩ := ok_risen (P := P) (w := w) (base := base) T
  obtain ⟨kp_common_way, fd_common_way, G_common_way, b_common_way⟩ := ok_common_way (P := P) (w := w) (base := base) T
  refine ⟨F.kp, fd, ?_, F.bindsN fun _ _ _ _ _ _ us hl => match us, hl with | [_, _], _ => rfl⟩
  refine ok_of F c_less_day (by (intro ds d h; exact h.len)) fun cdv A outer s H E hr => ⟨t_less_day K, PSs.nox
      (pss_cons (ps_asg (pe_call G_common_way (hr.mono (by decide)) (by rfl) (m_common_way T) kp_common_way b_common_way .nil pass0 (pa_cons (pv 0) (pa_cons (pv 1) pa_nil))) (pg_tup (by rfl) (pgs_cons (pg_name (i := 2) c_less_day.nd rfl (Or.inl rfl)) (pgs_cons (pg_name (i := 3) c_less_day.nd rfl (Or.inl rfl)) pgs_nil))))
      (pss_cons (ps_par (i := 4) (j := 5) (by rfl) c_less_day.nd rfl rfl (by decide) rfl rfl (pa_cons (pe_op op_addG (pv 2) (pv 3)) (pa_cons (pe_op op_subG (pe_call G_risen (hr.mono (by decide)) (by rfl) (m_risen T) kp_risen b_risen .nil pass0 (pa_cons (pv 1) (pa_cons (pv 3) pa_nil))) (pe_call G_risen (hr.mono (by decide)) (by rfl) (m_risen T) kp_risen b_risen .nil pass0 (pa_cons (pv 0) (pa_cons (pv 3) pa_nil)))) pa_nil)) (by rfl))
      (pss_cons (ps_set (i := 6) c_less_day.nd rfl (Or.inl rfl) pe_non)
      (pss_cons (ps_for PassesOwn.never rfl (pi_enumzip (by rfl) (z_enumerate T) (by rfl) (z_zip T) (pa_cons (pe_call G_first_numbers (hr.mono (by decide)) (by rfl) (m_first_numbers T) kp_first_numbers b_first_numbers .nil pass0 (pa_cons (pv 0) (pa_cons (pv 4) pa_nil))) (pa_cons (pe_call G_first_numbers (hr.mono (by decide)) (by rfl) (m_first_numbers T) kp_first_numbers b_first_numbers .nil pass0 (pa_cons (pv 1) (pa_cons (pv 4) pa_nil))) pa_nil))) (pg_tup (by rfl) (pgs_cons (pg_name (i := 7) c_less_day.nd rfl (Or.inl rfl)) (pgs_cons (pg_tup (by rfl) (pgs_cons (pg_name (i := 8) c_less_day.nd rfl (Or.inl rfl)) (pgs_cons (pg_name (i := 9) c_less_day.nd rfl (Or.inl rfl)) pgs_nil))) pgs_nil))) (pss_cons (ps_if (pt_cmpR op_ltG (pv 8) (pv 9) (nomark _)) pss_never pss_nil)
      (pss_one (ps_if (PW.pt (pw_and (pt_cmpR op_geG (pv 7) (pv 2) (nomark _)) (pw_and1 (pt_cmpR op_gtG (pv 5) pe_int (nomark _))))) pss_never pss_nil))))
      (pss_one (ps_ret (pv 6))))))), fun ds d hF => ?_⟩
  obtain ⟨a, b, rfl, f, g, n, c, m, r, rfl, rfl, hf, hg, hn, hn2, hc, hm, hm2, hr, hle, hgn, rfl⟩ := hF.ex
  walk_at "env"
  have hL : Nat.lcm n m ≤ 60 * 60 := Nat.le_trans (Nat.le_of_dvd (Nat.mul_pos hn hm) (Nat.lcm_dvd_mul n m)) (Nat.mul_le_mul hn2 hm2)
  generalize hk : Nat.lcm n m = L at hgn hL
  refine q_asg (ev_call (d := .tup [.int 0, .int (L : Nat)]) (ea_cons (ev_var rfl) (ea_cons (ev_var rfl) ea_nil)) ⟨f, g, n, c, m, r, rfl, rfl, hn, hn2, hm, hm2, by rw [hk]⟩) (gv_tup (gv_cons gv_name (gv_cons gv_name gv_nil)) rfl) ?_
  refine q_par (d1 := .int (L : Nat)) (d2 := .int ((r * (L / m) : Nat) - (c * (L / n) : Nat) : Int)) (ea_cons (ev_is (ev_op (ev_var rfl) (ev_var rfl) rd_addI) (by rw [Int.zero_add])) (ea_cons (ev_op (ev_call (d := .int (r * (L / m) : Nat)) (ea_cons (ev_var rfl) (ea_cons (ev_var rfl) ea_nil)) ⟨g, m, r, L, rfl, rfl, hm, by omega, by omega, rfl⟩) (ev_call (d := .int (c * (L / n) : Nat)) (ea_cons (ev_var rfl) (ea_cons (ev_var rfl) ea_nil)) ⟨f, n, c, L, rfl, rfl, hn, by omega, by omega, rfl⟩) rd_subG) ea_nil)) ?_
  refine q_set ev_non ?_
  refine q_for (items := enumD (zipD ((tab f L).map Dt.int) ((tab g L).map Dt.int))) (iv_enumzip (ea_cons (ev_call (ea_cons (ev_var rfl) (ea_cons (ev_var rfl) ea_nil)) ⟨f, n, c, L, rfl, hf, hn, by omega, by omega, rfl, by omega, rfl⟩) (ea_cons (ev_call (ea_cons (ev_var rfl) (ea_cons (ev_var rfl) ea_nil)) ⟨g, m, r, L, rfl, hg, hm, by omega, by omega, rfl, by omega, rfl⟩) ea_nil)))
    (fun i e M => ∃ x y z : Option Dt, e = [some (ladD (tab f n) c), some (ladD (tab g m) r), some (.int 0), some (.int (L : Nat)), some (.int (L : Nat)), some (.int ((r * (L / m) : Nat) - (c * (L / n) : Nat) : Int)), some .non, x, y, z, none] ∧ M = none) ⟨none, none, none, rfl, rfl⟩ ?_ ?_
  · rintro i d e M hd ⟨x, y, z, rfl, rfl⟩
    rw [ez_tab, List.getElem?_map] at hd
    obtain ⟨k, _, rfl⟩ := Option.map_eq_some_iff.mp hd
    refine ⟨_, gv_tup (gv_cons gv_name (gv_cons (gv_tup (gv_cons gv_name (gv_cons gv_name gv_nil)) rfl) gv_nil)) rfl, ?_⟩
    refine q_no (et_is (et_test (ev_op (ev_var rfl) (ev_var rfl) rd_ltG)) (decide_eq_false (by have := hle k; omega))) ?_
    refine l_q (q_no (et_is (et_and (a := true) (b := false) (et_is (et_test (ev_op (ev_var rfl) (ev_var rfl) rd_geG)) (decide_eq_true (by omega))) fun _ => et_is (et_test (ev_op (ev_var rfl) ev_int rd_gtG)) (decide_eq_false (by omega))) rfl) (l_end ⟨_, _, _, rfl, rfl⟩))
  · rintro e M ⟨x, y, z, rfl, rfl⟩
    exact l_ret (ev_var rfl) rfl
theorem ok_alike {P : Program} {w : World} {K : Fr} {mg : Str → Option Value} {base : Heap} (T : Txt K mg) : Has P w K mg base 5 (He.ga K "alike") ["one", "other"] (sp_alike K) := by
  obtain ⟨fd, F⟩ := T.says.def_ 43 (d := d_alike) rfl
  have F : FunD K "alike" "alike" (defArgs s_alike) (defBody s_alike) (defScope s_alike) [] [] (He.ga K "alike") fd := F
  obtain ⟨kp_unlike_day, fd_unlike_day, G_unlike_day, b_unlike_day⟩ := ok_unlike_day (P := P) (w := w) (base := base) T
  obtain ⟨kp_need_two_ladders, fd_need_two_ladders, G_need_two_ladders, b_need_two_ladders⟩ := ok_need_two_ladders (P := P) (w := w) (base := base) T
  refine ⟨F.kp, fd, ?_, F.bindsN fun _ _ _ _ _ _ us hl => match us, hl with | [_, _], _ => rfl⟩
  refine ok_of F c_alike (by (intro ds d h; exact h.len)) fun cdv A outer s H E hr => ⟨t_alike K, PSs.nox
      (pss_cons (ps_expr (pe_call G_need_two_ladders (hr.mono (by decide)) (by rfl) (m_need_two_ladders T) kp_need_two_ladders b_need_two_ladders .nil pass0 (pa_cons (pv 0) (pa_cons (pv 1) pa_nil))))
      (pss_one (ps_ret (pe_cmpR op_isNG (pe_call G_unlike_day (hr.mono (by decide)) (by rfl) (m_unlike_day T) kp_unlike_day b_unlike_day .nil pass0 (pa_cons (pv 0) (pa_cons (pv 1) pa_nil))) pe_non (nomark _))))), fun ds d hF => ?_⟩
  obtain ⟨a, b, rfl, f, g, n, c, m, r, rfl, rfl, hf, hg, hn2, hc, hm2, hr, he, rfl⟩ := hF.ex
  walk_at "env"
  refine q_drop (ev_call (d := .non) (ea_cons (ev_var rfl) (ea_cons (ev_var rfl) ea_nil)) ⟨f, g, n, c, m, r, rfl, rfl, hf, hg, by omega, by omega, rfl⟩) ?_
  exact l_ret (ev_op (ev_call (d := .non) (ea_cons (ev_var rfl) (ea_cons (ev_var rfl) ea_nil)) ⟨f, g, n, c, m, r, rfl, rfl, hf.per, hg.per, hf.pos, hn2, hc, hg.pos, hm2, hr, he, rfl⟩) ev_non (rd_isN (.inl ⟨rfl, rfl⟩))) rfl
theorem ok_first_less {P : Program} {w : World} {K : Fr} {mg : Str → Option Value} {base : Heap} (T : Txt K mg) : Has P w K mg base 5 (He.ga K "first_less") ["one", "other"] (sp_first_less K) := by
  obtain ⟨fd, F⟩ := T.says.def_ 44 (d := d_first_less) rfl
  have F : FunD K "first_less" "first_less" (defArgs s_first_less) (defBody s_first_less) (defScope s_first_less) [] [] (He.ga K "first_less") fd := F
  obtain ⟨kp_less_day, fd_less_day, G_less_day, b_less_day⟩ := ok_less_day (P := P) (w := w) (base := base) T
  obtain ⟨kp_need_two_ladders, fd_need_two_ladders, G_need_two_ladders, b_need_two_ladders⟩ := ok_need_two_ladders (P := P) (w := w) (base := base) T
  refine ⟨F.kp, fd, ?_, F.bindsN fun _ _ _ _ _ _ us hl => match us, hl with | [_, _], _ => rfl⟩
  refine ok_of F c_first_less (by (intro ds d h; exact h.len)) fun cdv A outer s H E hr => ⟨t_first_less K, PSs.nox
      (pss_cons (ps_expr (pe_call G_need_two_ladders (hr.mono (by decide)) (by rfl) (m_need_two_ladders T) kp_need_two_ladders b_need_two_ladders .nil pass0 (pa_cons (pv 0) (pa_cons (pv 1) pa_nil))))
      (pss_one (ps_ret (pe_call G_less_day (hr.mono (by decide)) (by rfl) (m_less_day T) kp_less_day b_less_day .nil pass0 (pa_cons (pv 0) (pa_cons (pv 1) pa_nil)))))), fun ds d hF => ?_⟩
  obtain ⟨a, b, rfl, f, g, n, c, m, r, rfl, rfl, hf, hg, hn2, hc, hm2, hr, hle, hgn, rfl⟩ := hF.ex
  walk_at "env"
  refine q_drop (ev_call (d := .non) (ea_cons (ev_var rfl) (ea_cons (ev_var rfl) ea_nil)) ⟨f, g, n, c, m, r, rfl, rfl, hf, hg, by omega, by omega, rfl⟩) ?_
  exact l_ret (ev_call (d := .non) (ea_cons (ev_var rfl) (ea_cons (ev_var rfl) ea_nil)) ⟨f, g, n, c, m, r, rfl, rfl, hf.per, hg.per, hf.pos, hn2, hc, hg.pos, hm2, hr, hle, hgn, rfl⟩) rfl
theorem ok_first_later {P : Program} {w : World} {K : Fr} {mg : Str → Option Value} {base : Heap} (T : Txt K mg) : Has P w K mg base 19 (He.ga K "first_later") ["almanac", "one", "other"] (sp_first_later K) := by
  obtain ⟨fd, F⟩ := T.says.def_ 57 (d := d_first_later) rfl
  have F : FunD K "first_later" "first_later" (defArgs s_first_later) (defBody s_first_later) (defScope s_first_later) [] [] (He.ga K "first_later") fd := F
  obtain ⟨kp_first_less, fd_first_less, G_first_less, b_first_less⟩ := ok_first_less (P := P) (w := w) (base := base) T
  obtain ⟨kp_two_ladders, fd_two_ladders, G_two_ladders, b_two_ladders⟩ := ok_two_ladders (P := P) (w := w) (base := base) T
  refine ⟨F.kp, fd, ?_, F.bindsN fun _ _ _ _ _ _ us hl => match us, hl with | [_, _, _], _ => rfl⟩
  refine ok_of F c_first_later (by (intro ds d h; exact h.len)) fun cdv A outer s H E hr => ⟨t_first_later K, PSs.nox
      (pss_cons (ps_asg (pe_call G_two_ladders (hr.mono (by decide)) (by rfl) (m_two_ladders T) kp_two_ladders b_two_ladders .nil pass0 (pa_cons (pv 0) (pa_cons (pv 1) (pa_cons (pv 2) pa_nil)))) (pg_tup (by rfl) (pgs_cons (pg_name (i := 3) c_first_later.nd rfl (Or.inl rfl)) (pgs_cons (pg_name (i := 4) c_first_later.nd rfl (Or.inl rfl)) pgs_nil))))
      (pss_one (ps_ret (pe_call G_first_less (hr.mono (by decide)) (by rfl) (m_first_less T) kp_first_less b_first_less .nil pass0 (pa_cons (pv 4) (pa_cons (pv 3) pa_nil)))))), fun ds d hF => ?_⟩
  obtain ⟨a, b, c, rfl, ys, s1, s2, h, rfl, rfl, rfl, h1, h2, hle, rfl⟩ := hF.ex
  walk_at "env"
  have R1' := runS_R1 h s1
  have R2' := runS_R1 h s2
  have q1 := R1'.mp
  have q2 := R2'.mp
  refine q_asg (ev_call (d := .tup [canon (runS ys s1), canon (runS ys s2)]) (ea_cons (ev_var rfl) (ea_cons (ev_var rfl) (ea_cons (ev_var rfl) ea_nil))) ⟨ys, s1, s2, h, rfl, rfl, rfl, h1, h2, rfl⟩) (gv_tup (gv_cons gv_name (gv_cons gv_name gv_nil)) rfl) ?_
  refine l_ret (ev_call (d := .non) (ea_cons (ev_var rfl) (ea_cons (ev_var rfl) ea_nil)) ⟨runS ys s2, runS ys s1, _, _, _, _, R2'.canon, R1'.canon, R2'.lad, R1'.lad, by omega, by omega, by omega, by omega, hle, ?_, rfl⟩) rfl
  rw [Nat.mul_div_cancel' (Nat.dvd_lcm_right _ _), Nat.mul_div_cancel' (Nat.dvd_lcm_left _ _)]
  exact Nat.le_refl _
theorem ok_never_later {P : Program} {w : World} {K : Fr} {mg : Str → Option Value} {base : Heap} (T : Txt K mg) : Has P w K mg base 20 (He.ga K "never_later") ["almanac", "one", "other"] (sp_never_later K) := by
  obtain ⟨fd, F⟩ := T.says.def_ 58 (d := d_never_later) rfl
  have F : FunD K "never_later" "never_later" (defArgs s_never_later) (defBody s_never_later) (defScope s_never_later) [] [] (He.ga K "never_later") fd := F
  obtain ⟨kp_first_later, fd_first_later, G_first_later, b_first_later⟩ := ok_first_later (P := P) (w := w) (base := base) T
  refine ⟨F.kp, fd, ?_, F.bindsN fun _ _ _ _ _ _ us hl => match us, hl with | [_, _, _], _ => rfl⟩
  refine ok_of F c_never_later (by (intro ds d h; exact h.len)) fun cdv A outer s H E hr => ⟨t_never_later K, PSs.nox
      (pss_one (ps_ret (pe_cmpR op_isNG (pe_call G_first_later (hr.mono (by decide)) (by rfl) (m_first_later T) kp_first_later b_first_later .nil pass0 (pa_cons (pv 0) (pa_cons (pv 1) (pa_cons (pv 2) pa_nil)))) pe_non (nomark _)))), fun ds d hF => ?_⟩
  obtain ⟨a, b, c, rfl, ys, s1, s2, h, rfl, rfl, rfl, h1, h2, hle, rfl⟩ := hF.ex
  walk_at "env"
  exact l_ret (ev_op (ev_call (d := .non) (ea_cons (ev_var rfl) (ea_cons (ev_var rfl) (ea_cons (ev_var rfl) ea_nil))) ⟨ys, s1, s2, h, rfl, rfl, rfl, h1, h2, hle, rfl⟩) ev_non (rd_isN (.inl ⟨rfl, rfl⟩))) rfl
theorem ok_passing {P : Program} {w : World} {K : Fr} {mg : Str → Option Value} {base : Heap} (T : Txt K mg) : Has P w K mg base 19 (He.ga K "passing") ["almanac", "one", "other"] (sp_passing K) := by
  obtain ⟨fd, F⟩ := T.says.def_ 59 (d := d_passing) rfl
  have F : FunD K "passing" "passing" (defArgs s_passing) (defBody s_passing) (defScope s_passing) [] [] (He.ga K "passing") fd := F
  obtain ⟨kp_joined, fd_joined, G_joined, b_joined⟩ := ok_joined (P := P) (w := w) (base := base) T
  obtain ⟨kp_alike, fd_alike, G_alike, b_alike⟩ := ok_alike (P := P) (w := w) (base := base) T
  obtain ⟨kp_two_ladders, fd_two_ladders, G_two_ladders, b_two_ladders⟩ := ok_two_ladders (P := P) (w := w) (base := base) T
  refine ⟨F.kp, fd, ?_, F.bindsN fun _ _ _ _ _ _ us hl => match us, hl with | [_, _, _], _ => rfl⟩
  refine ok_of F c_passing (by (intro ds d h; exact h.len)) fun cdv A outer s H E hr => ⟨t_passing K, PSs.nox
      (pss_cons (ps_asg (pe_call G_two_ladders (hr.mono (by decide)) (by rfl) (m_two_ladders T) kp_two_ladders b_two_ladders .nil pass0 (pa_cons (pv 0) (pa_cons (pv 1) (pa_cons (pv 2) pa_nil)))) (pg_tup (by rfl) (pgs_cons (pg_name (i := 3) c_passing.nd rfl (Or.inl rfl)) (pgs_cons (pg_name (i := 4) c_passing.nd rfl (Or.inl rfl)) pgs_nil))))
      (pss_one (ps_ret (pe_call G_alike (hr.mono (by decide)) (by rfl) (m_alike T) kp_alike b_alike .nil pass0 (pa_cons (pe_call G_joined (hr.mono (by decide)) (by rfl) (m_joined T) kp_joined b_joined .nil pass0 (pa_cons (pv 3) (pa_cons (pv 4) pa_nil))) (pa_cons (pe_call G_joined (hr.mono (by decide)) (by rfl) (m_joined T) kp_joined b_joined .nil pass0 (pa_cons (pv 4) (pa_cons (pv 3) pa_nil))) pa_nil)))))), fun ds d hF => ?_⟩
  obtain ⟨a, b, c, rfl, ys, s1, s2, h, rfl, rfl, rfl, h1, h2, he, rfl⟩ := hF.ex
  walk_at "env"
  have R1' := runS_R1 h s1
  have R2' := runS_R1 h s2
  have R3' := R1'.comp R2'
  have R4' := R2'.comp R1'
  have q3 := R3'.mp
  have q4 := R4'.mp
  refine q_asg (ev_call (d := .tup [canon (runS ys s1), canon (runS ys s2)]) (ea_cons (ev_var rfl) (ea_cons (ev_var rfl) (ea_cons (ev_var rfl) ea_nil))) ⟨ys, s1, s2, h, rfl, rfl, rfl, h1, h2, rfl⟩) (gv_tup (gv_cons gv_name (gv_cons gv_name gv_nil)) rfl) ?_
  exact l_ret (ev_call (d := .bl true) (ea_cons (ev_call (d := canon fun x => runS ys s2 (runS ys s1 x)) (ea_cons (ev_var rfl) (ea_cons (ev_var rfl) ea_nil)) (joinF R1' R2')) (ea_cons (ev_call (d := canon fun x => runS ys s1 (runS ys s2 x)) (ea_cons (ev_var rfl) (ea_cons (ev_var rfl) ea_nil)) (joinF R2' R1')) ea_nil)) ⟨_, _, _, _, _, _, R3'.canon, R4'.canon, R3'.lad, R4'.lad, by omega, by omega, by omega, by omega, he, rfl⟩) rfl
end Lk
set_option Elab.async false
set_option linter.all false
set_option maxRecDepth 100000
set_option maxHeartbeats 4000000
namespace Lk
open PySem L2
local macro_rules | `(tactic| walk_at "ev1") => `(tactic| first
  | ((with_reducible apply ev_var); exact rfl)
  | with_reducible exact ev_int | with_reducible exact ev_str | with_reducible exact ev_bl | with_reducible exact ev_non | with_reducible exact ea_nil | with_reducible apply ea_cons
  | with_reducible exact rd_addI | with_reducible exact rd_subG | with_reducible exact rd_ltG | with_reducible exact rd_leG | with_reducible exact rd_gtG | with_reducible exact rd_geG | with_reducible exact rd_eqI | with_reducible exact rd_neI | with_reducible exact rd_eqS
  | with_reducible exact rc_lenL | with_reducible exact rc_lenT | with_reducible exact rc_max2 | with_reducible exact rc_min2 | with_reducible exact rc_abs | with_reducible exact rc_intI | with_reducible exact rc_intB | with_reducible exact rc_listL | with_reducible exact rc_tupleL | with_reducible exact rc_all | with_reducible exact rc_sum
  | with_reducible exact gv_name | with_reducible exact gv_nil | with_reducible apply gv_cons | ((with_reducible apply gv_tup) <;> try exact rfl)
  | with_reducible apply rd_mulI | with_reducible apply rd_fdivG | with_reducible apply rd_modG | with_reducible apply rc_divmod | with_reducible apply rd_ixL | with_reducible apply rd_ixT | with_reducible apply rd_addL
  | with_reducible apply ev_tup | with_reducible apply ev_lst | with_reducible apply ev_op | with_reducible apply ev_cb | with_reducible exact eo_none | with_reducible apply eo_some | with_reducible apply ev_neg
  | with_reducible apply et_test | with_reducible apply et_B | with_reducible apply et_not | exact Nat.le_of_ble_eq_true rfl)
local macro_rules | `(tactic| walk_at "ev") => `(tactic| repeat' (walk_at "ev1"))
local macro_rules | `(tactic| walk_at "env") => `(tactic| simp only [rep, ladD, setS, setC, env0, List.map_cons, List.map_nil, List.length_cons, List.length_nil, Nat.reduceAdd, Nat.reduceSub, List.replicate_succ, List.replicate_zero, List.cons_append, List.nil_append])
-- IMPORTS LkD1
/-! ### an object in the making: x, its fields, at most one list of it that changes -/
structure OI (C x dx : Addr) (ns : List Str) (es : List Dt) (M : Mem) (K : Fr) (G0 H0 G H : Hp) : Prop where
  gg : Same G0 G
  gh : Same G H
  hh : ∀ a o, a ≠ x → H0 a = some o → H a = some o
  no : ∀ a o, G0 a = none → H0 a = some o → G a = none
  nx : G x = none ∧ ∃ o, H0 x = some o
  fx : ∃ xs, H x = some (.ins C dx (ns.zip xs)) ∧ xs.length = ns.length ∧ RpL K G es xs
  mem : ∀ p ds, M = some (p, ds) → G p = none ∧ H0 p = none ∧ ∃ xs, H p = some (.lst xs) ∧ RpL K G ds xs
section
variable {K : Fr} {C x dx : Addr} {ns : List Str} {es : List Dt} {M : Mem} {G0 H0 G H G' H' : Hp} {d : Dt} {v : V} {f : Str}
theorem OI.step (w : OI C x dx ns es M K G0 H0 G H) (s : Step G H G' H') : OI C x dx ns es M K G0 H0 G' H' := by
  obtain ⟨xs, e1, e2, e3⟩ := w.fx
  refine ⟨w.gg.trans s.gg, s.gh, fun a o n e => s.hh _ _ (w.hh a o n e), fun a o h1 h2 => ?_, ⟨s.no _ _ w.nx.1 e1, w.nx.2⟩, ⟨xs, s.hh _ _ e1, e2, RpL.mono s.gg _ _ e3⟩, fun p ds e => ?_⟩
  · by_cases q : a = x
    · rw [q]; exact s.no _ _ w.nx.1 e1
    · exact s.no a o (w.no a o h1 h2) (w.hh a o q h2)
  · obtain ⟨h1, h2, ys, h3, h4⟩ := w.mem p ds e
    exact ⟨s.no _ _ h1 h3, h2, ys, s.hh _ _ h3, RpL.mono s.gg _ _ h4⟩
/-- a field is stored -/
theorem OI.put {fs : List (Str × V)} {ns' : List Str} {es' : List Dt} {xs' : List V} (w : OI C x dx ns es M K G0 H0 G H) (hf : fs = ns'.zip xs') (hl : xs'.length = ns'.length) (r : RpL K G es' xs') : OI C x dx ns' es' M K G0 H0 G (upd H x (.ins C dx fs)) := by
  refine ⟨w.gg, fun a o e => ?_, fun a o n e => ?_, w.no, w.nx, ⟨xs', by rw [upd_same, hf], hl, r⟩, fun p ds e => ?_⟩
  · rw [upd_ne (ne_of_none e w.nx.1)]; exact w.gh _ _ e
  · rw [upd_ne n]; exact w.hh a o n e
  · obtain ⟨h1, h2, ys, h3, h4⟩ := w.mem p ds e
    refine ⟨h1, h2, ys, ?_, h4⟩
    have : p ≠ x := fun q => by
      obtain ⟨o, ho⟩ := w.nx.2
      rw [q, ho] at h2; cases h2
    rw [upd_ne this]; exact h3
end
theorem putF_new {f : Str} {v : V} : ∀ {ns : List Str} {xs : List V}, f ∉ ns → xs.length = ns.length → putF f v (ns.zip xs) = (ns ++ [f]).zip (xs ++ [v])
  | [], [], _, _ => rfl
  | n :: ns, x :: xs, h, hl => by
    have hn : ¬ n = f := fun e => h (by rw [e]; exact List.mem_cons_self)
    show (if n = f then _ else (n, x) :: putF f v (ns.zip xs)) = (n, x) :: (ns ++ [f]).zip (xs ++ [v])
    rw [if_neg hn, putF_new (fun q => h (List.mem_cons_of_mem _ q)) (by simpa using hl)]
theorem o_fld {K : Fr} {C x dx : Addr} {ns : List Str} {es : List Dt} {M : Mem} {G0 H0 G H : Hp} {d : Dt} {f : Str} {env : Env} {σ : Stt} {i : Nat} {tv : TE} {D : Ends} (w : OI C x dx ns es M K G0 H0 G H) (eo : EnvOk K G env σ) (h : EV K tv env d) (hx : env[i]? = some (some (.raw (.ref x))))
    (c : Cls K C) (n : NoAttr K C f) (hf : f ∉ ns) (hl : ns.length < 900) (k : ∀ G' H', OI C x dx (ns ++ [f]) (es ++ [d]) M K G0 H0 G' H' → Same G G' → D.nx σ H') : sFld K (tVar i) tv f D σ H :=
  h σ G H _ w.gh eo fun v G1 H1 s1 r1 => by
    have w1 := w.step s1
    obtain ⟨y, b1, b2⟩ := (eo.mono s1.gg).2 i _ hx
    obtain ⟨xs, f1, f2, f3⟩ := w1.fx
    refine ⟨y, b1, x, C, dx, _, rp_raw.mp b2, f1, c, n, ?_, k G1 _ (w1.put (putF_new hf f2) (by simp [f2]) (rpl_app f3 (rpl_cons.mpr ⟨_, _, rfl, r1, rpl_nil.mpr rfl⟩))) s1.gg⟩
    rw [List.length_zip]; omega
/-- x.f = [] , a list that will change -/
theorem o_new {K : Fr} {C x dx : Addr} {ns : List Str} {es : List Dt} {G0 H0 G H : Hp} {f : Str} {env : Env} {σ : Stt} {i : Nat} {D : Ends} (w : OI C x dx ns es none K G0 H0 G H) (eo : EnvOk K G env σ) (hx : env[i]? = some (some (.raw (.ref x))))
    (c : Cls K C) (n : NoAttr K C f) (hf : f ∉ ns) (hl : ns.length < 900) (k : ∀ p H', OI C x dx (ns ++ [f]) (es ++ [.raw (.ref p)]) (some (p, [])) K G0 H0 G H' → D.nx σ H') : sFld K (tVar i) (tLst tNil) f D σ H := by
  refine ⟨by decide, fun p hp => ?_⟩
  obtain ⟨y, b1, b2⟩ := eo.2 i _ hx
  obtain ⟨xs, f1, f2, f3⟩ := w.fx
  have hpx : p ≠ x := fun e => by rw [e, f1] at hp; cases hp
  have h0p : H0 p = none := by
    cases e : H0 p with
    | none => rfl
    | some o => rw [w.hh p o hpx e] at hp; cases hp
  have w5 : OI C x dx ns es (some (p, [])) K G0 H0 G (upd H p (.lst [])) :=
    ⟨w.gg, w.gh.trans (same_new hp), fun a o n e => same_new hp a o (w.hh a o n e), w.no, w.nx, ⟨xs, same_new hp _ _ f1, f2, f3⟩, fun p' ds' e => by
      cases e
      exact ⟨w.gh.free hp, h0p, [], upd_same, rpl_nil.mpr rfl⟩⟩
  refine ⟨y, b1, x, C, dx, _, rp_raw.mp b2, same_new hp _ _ f1, c, n, ?_, k p _ (w5.put (putF_new hf f2) (by simp [f2]) (rpl_app f3 (rpl_cons.mpr ⟨_, _, rfl, rp_raw.mpr rfl, rpl_nil.mpr rfl⟩)))⟩
  rw [List.length_zip]; omega
theorem o_no {K : Fr} {env : Env} {σ : Stt} {G H : Hp} {tc : L2.TT} {ts tz : TS} {D : Ends} (h : ET K tc env false) (gh : Same G H) (eo : EnvOk K G env σ) (k : ∀ G1 H1, Step G H G1 H1 → tz D σ H1) : tSeq (tIfS tc ts tNext) tz D σ H := h σ G H _ gh eo fun G1 H1 s1 => k G1 H1 s1
/-- the promise of a class's __init__: from arguments to fields -/
def spI (K : Fr) (C : Addr) (ns : List Str) (F : List Dt → List Dt → Prop) : Sp := fun vs H Q _ => ∃ ds es G x dx us, F ds es ∧ vs = .ref x :: us ∧ Same G H ∧ RpL K G ds us ∧ G x = none ∧ H x = some (.ins C dx []) ∧
  ∀ G' H', OI C x dx ns es none K G H G' H' → Q .non H'
theorem ev_make {K : Fr} {C : Addr} {ns : List Str} {F : List Dt → List Dt → Prop} {env : Env} {t : TA} {ds es : List Dt} (h : EA K t env ds) (hF : F ds es) : EV K (tMake C (spI K C ns F) [] E0 t) env (.obj C ns es) := fun σ G H Q gh eo k =>
  h σ G H _ gh eo fun us G1 H1 s1 r1 x dx hx hd hne => by
    have s2 : Same H1 (upd (upd H1 dx (.own x)) x (.ins C dx [])) := (same_new hd).trans (same_new (by rw [upd_ne (Ne.symm hne)]; exact hx))
    refine ⟨ds, es, G1, x, dx, us, hF, by rw [List.append_nil], s1.gh.trans s2, r1, s1.gh.free hx, upd_same, fun G2 H2 w => ⟨rfl, ?_⟩⟩
    obtain ⟨xs, e1, e2, e3⟩ := w.fx
    have sn : Same G2 (upd G2 x (.ins C dx (ns.zip xs))) := same_new w.nx.1
    have up : ∀ a o, H1 a = some o → H2 a = some o := fun a o e => w.hh a o (ne_of_none e hx) (s2 a o e)
    refine k _ (upd G2 x (.ins C dx (ns.zip xs))) H2 (s1.trans ⟨up, w.gg.trans sn, fun a o e => ?_, fun a o e1' e2' => ?_⟩) (rp_obj.mpr ⟨x, dx, xs, rfl, upd_same, e2, RpL.mono sn _ _ e3⟩)
    · by_cases q : a = x
      · subst q; rw [upd_same] at e; cases e; exact e1
      · rw [upd_ne q] at e; exact w.gh _ _ e
    · rw [upd_ne (ne_of_none e2' hx)]
      exact w.no a o e1' (s2 a o e2')
abbrev FI_Calendar (ds es : List Dt) : Prop := ∃ ys, YOk ys ∧ ds = [yD ys] ∧ es = calV ys
abbrev FI_Almanac (K : Fr) (ds es : List Dt) : Prop := ∃ ys, YOk ys ∧ ds = [calD K ys, .lst []] ∧ es = [calD K ys, .lst []]
abbrev sp_Calendar_init (K : Fr) : Sp := spI K (He.ga K "Calendar") calN FI_Calendar
abbrev sp_Almanac_init (K : Fr) : Sp := spI K (He.ga K "Almanac") almN (FI_Almanac K)
/-! ### the plain values -/
theorem ys_eq {ys : Yrs} (h : YOk ys) : ys = (List.range ys.length).map (yr ys) := by
  apply List.ext_getElem?
  intro q
  rw [List.getElem?_map]
  by_cases hq : q < ys.length
  · rw [List.getElem?_range hq, List.getElem?_eq_getElem hq]
    show _ = some (yr ys q)
    unfold yr
    rw [Nat.mod_eq_of_lt hq, List.getD_eq_getElem?_getD, List.getElem?_eq_getElem hq]; rfl
  · rw [List.getElem?_eq_none (by omega), List.getElem?_eq_none (by simp; omega)]; rfl
theorem list_eq (l : List Nat) : l = (List.range l.length).map fun m => l.getD m 1 := by
  apply List.ext_getElem?
  intro q
  rw [List.getElem?_map]
  by_cases hq : q < l.length
  · rw [List.getElem?_range hq, List.getElem?_eq_getElem hq]
    show _ = some (l.getD q 1)
    rw [List.getD_eq_getElem?_getD, List.getElem?_eq_getElem hq]; rfl
  · rw [List.getElem?_eq_none (by omega), List.getElem?_eq_none (by simp; omega)]; rfl
theorem flat_lens {ys : Yrs} (h : YOk ys) : ys.flatMap (fun l => l.map fun (i : Nat) => Dt.int (i : Nat)) = (tab (ml ys) (NN ys)).map Dt.int := by
  have e := flat_sm (yc ys) (fun k => Dt.int (ml ys k : Nat)) ys.length
  have e1 : (tab (ml ys) (NN ys)).map Dt.int = (List.range (sm (yc ys) ys.length)).map fun k => Dt.int (ml ys k : Nat) := by
    unfold tab; rw [List.map_map]; rfl
  rw [e1, ← e]
  conv => lhs; rw [ys_eq h]
  rw [List.flatMap_map]
  refine congrArg (fun F => List.flatMap F (List.range ys.length)) (funext fun q => ?_)
  conv => lhs; rw [list_eq (yr ys q)]
  rw [List.map_map]
  apply List.map_congr_left
  intro m hm
  rw [(ml_at h (List.mem_range.mp hm)).1]; rfl
theorem enum_ys {ys : Yrs} (h : YOk ys) : enumD (ys.map natL) = (List.range ys.length).map fun (q : Nat) => .tup [.int (q : Nat), natL (yr ys q)] := by
  unfold enumD zipD
  rw [List.length_map]
  have e : ys.map natL = (List.range ys.length).map fun q => natL (yr ys q) := by
    conv => lhs; rw [ys_eq h]
    rw [List.map_map]; rfl
  rw [e, List.zip_map', List.map_map]; rfl
theorem flat_spots {ys : Yrs} (h : YOk ys) : (enumD (ys.map natL)).flatMap (fun d => match d with | .tup [.int q, .lst l] => (List.range l.length).map fun (m : Nat) => Dt.tup [.int q, .int (m : Nat)] | _ => []) = (List.range (NN ys)).map (spotD ys) := by
  have e := flat_sm (yc ys) (spotD ys) ys.length
  rw [show NN ys = sm (yc ys) ys.length from rfl, ← e, enum_ys h, List.flatMap_map]
  refine congrArg (fun F => List.flatMap F (List.range ys.length)) (funext fun q => ?_)
  show (List.range ((yr ys q).map fun i => Dt.int (i : Nat)).length).map _ = _
  rw [List.length_map]
  apply List.map_congr_left
  intro m hm
  obtain ⟨_, f2, f3⟩ := ml_at h (List.mem_range.mp hm)
  unfold spotD
  rw [f2, f3]
/-- what a list in the stable heap yields -/
theorem yields_list {K : Fr} {G1 : Hp} {a : Addr} {ds : List Dt} {xs : List V} (e2 : G1 a = some (.lst xs)) (e3 : RpL K G1 ds xs) : Yields K (Itl K a) G1 ds := by
  refine ⟨fun G2 H2 g12 gh2 i d hd => ?_, fun G2 H2 g12 gh2 => ?_⟩
  · obtain ⟨x, f1, f2⟩ := rpl_get e3 hd
    have q : SqL K H2 a xs := SqL.of (gh2 _ _ (g12 _ _ e2))
    refine ⟨⟨xs, x, q, f1⟩, ?_⟩
    rintro y H3 ⟨rfl, z⟩
    have := z xs q
    rw [f1] at this; cases this
    exact ⟨G2, .refl gh2, Rp.mono g12 _ _ f2⟩
  · exact ⟨xs, SqL.of (gh2 _ _ (g12 _ _ e2)), Nat.le_of_eq (rpl_len e3)⟩
def t_Almanac_init (K : Fr) : TS :=
  (tSeq (tDrop (tCall (sp_check_feasts K) [] E0 (tCons (tVar 2) tNil)))
      (tSeq (sFld K (tVar 0) (tVar 1) "own_calendar")
      (sFld K (tVar 0) (tCall (sp_copied K) [] E0 (tCons (tVar 2) tNil)) "own_feasts")))
def t_Calendar_init (K : Fr) : TS :=
  (tSeq (tIfS (tNot (tB (tCall (sp_are_years K) [] E0 (tCons (tVar 1) tNil)))) tNever tNext)
      (tSeq (sFld K (tVar 0) (tLc (iList K (tVar 1)) (gName 3) tYes (tCB (rListG K) (tCons (tVar 3) tNil)) [3]) "own_years")
      (tSeq (sFld K (tVar 0) (tLc2 (iEnum K (tCons (tVar 1) tNil)) (gTup K 2 (gCons (gName 4) (gCons (gName 3) gNil))) tYes (iRng1 (tCons (tCB (rLenG K) (tCons (tVar 3) tNil)) tNil)) (gName 5) tYes (tTup (tCons (tVar 4) (tCons (tVar 5) tNil))) [4, 3, 5] [5]) "spots")
      (tSeq (sFld K (tVar 0) (tLc2 (iList K (tVar 1)) (gName 3) tYes (iList K (tVar 3)) (gName 2) tYes (tVar 2) [3, 2] [2]) "lengths")
      (tSeq (sFld K (tVar 0) (tLst tNil) "firsts")
      (tSeq (sFld K (tVar 0) (tC (.int 0)) "total")
      (tFor (iList K (tFld K (tVar 0) "lengths")) (gName 2) (tSeq (tDrop (tBM K "list" rAppend (tFld K (tVar 0) "firsts") (tCons (tFld K (tVar 0) "total") tNil)))
      (sFldAug K (tVar 0) (tVar 2) rAdd "total")))))))))
theorem ok_Almanac_init {P : Program} {w : World} {K : Fr} {mg : Str → Option Value} {base : Heap} (T : Txt K mg) : Has P w K mg base 4 (He.ma K (He.ga K "Almanac") "__init__") ["self", "calendar", "feasts"] (sp_Almanac_init K) := by
  obtain ⟨fd, F⟩ := T.says.def_ 33 (d := d_Almanac_init) rfl
  have F : FunD K "__init__" "Almanac.__init__" (defArgs s_Almanac_init) (defBody s_Almanac_init) (defScope s_Almanac_init) [] [] (He.ma K (He.ga K "Almanac") "__init__") fd := F
  obtain ⟨kp_copied, fd_copied, G_copied, b_copied⟩ := ok_copied (P := P) (w := w) (base := base) T
  obtain ⟨kp_check_feasts, fd_check_feasts, G_check_feasts, b_check_feasts⟩ := ok_check_feasts (P := P) (w := w) (base := base) T
  refine ⟨F.kp, fd, ?_, F.bindsN fun _ _ _ _ _ _ us hl => match us, hl with | [_, _, _], _ => rfl⟩
  refine F.ok c_Almanac_init ?_ fun cdv A outer s H vs Q E hr hsp => ⟨t_Almanac_init K, PSs.nox
      (pss_cons (ps_expr (pe_call G_check_feasts (hr.mono (by decide)) (by rfl) (m_check_feasts T) kp_check_feasts b_check_feasts .nil pass0 (pa_cons (pv 2) pa_nil)))
      (pss_cons (ps_fld (pv 0) (pv 1) rfl)
      (pss_one (ps_fld (pv 0) (pe_call G_copied (hr.mono (by decide)) (by rfl) (m_copied T) kp_copied b_copied .nil pass0 (pa_cons (pv 2) pa_nil)) rfl)))), ?_⟩
  · rintro vs H Q E ⟨ds, es, G, x, dx, us, ⟨ys, h, rfl, rfl⟩, rfl, gh, r, _⟩
    rw [List.length_cons, rpl_len r]; rfl
  obtain ⟨ds, es, G, x, dx, us, ⟨ys, h, rfl, rfl⟩, rfl, gh, r, gx, hx, q⟩ := hsp
  obtain ⟨v, u, rfl, r1, r2⟩ := rpl2 r
  have w0 : OI (He.ga K "Almanac") x dx [] [] none K G H G H := ⟨Same.refl _, gh, fun _ _ _ e => e, fun _ _ e _ => e, ⟨gx, _, hx⟩, ⟨[], hx, rfl, rpl_nil.mpr rfl⟩, fun _ _ e => by cases e⟩
  have eo : EnvOk K G [some (.raw (.ref x)), some (calD K ys), some (.lst [])] (L2.start ["self", "calendar", "feasts"] [.ref x, v, u]) := env0_ok (N := ["self", "calendar", "feasts"]) (ds := [.raw (.ref x), calD K ys, .lst []]) (rpl_cons.mpr ⟨_, _, rfl, rp_raw.mpr rfl, r⟩)
  refine (ev_call (d := .non) (ea_cons (ev_var rfl) ea_nil) ⟨rfl, rfl⟩ : EV K (tCall (sp_check_feasts K) [] E0 (tCons (tVar 2) tNil)) _ .non) _ G H _ gh eo fun v1 G1 H1 s1 _ => ?_
  refine o_fld (w0.step s1) (eo.mono s1.gg) (ev_var rfl) rfl (k_Almanac T) (n_Almanac_own_calendar T) (by decide) (by decide) fun G2 H2 w2 g2 => ?_
  refine o_fld w2 ((eo.mono s1.gg).mono g2) (ev_call (d := .lst []) (ea_cons (ev_var rfl) ea_nil) ⟨.lst (by decide) (fun d hd => by cases hd), rfl⟩) rfl (k_Almanac T) (n_Almanac_own_feasts T) (by decide) (by decide) fun G3 H3 w3 g3 => ?_
  exact q _ _ w3
theorem ok_Calendar_init {P : Program} {w : World} {K : Fr} {mg : Str → Option Value} {base : Heap} (T : Txt K mg) : Has P w K mg base 2 (He.ma K (He.ga K "Calendar") "__init__") ["self", "years"] (sp_Calendar_init K) := by
  obtain ⟨fd, F⟩ := T.says.def_ 61 (d := d_Calendar_init) rfl
  have F : FunD K "__init__" "Calendar.__init__" (defArgs s_Calendar_init) (defBody s_Calendar_init) (defScope s_Calendar_init) [] [] (He.ma K (He.ga K "Calendar") "__init__") fd := F
  obtain ⟨kp_are_years, fd_are_years, G_are_years, b_are_years⟩ := ok_are_years (P := P) (w := w) (base := base) T
  refine ⟨F.kp, fd, ?_, F.bindsN fun _ _ _ _ _ _ us hl => match us, hl with | [_, _], _ => rfl⟩
  refine F.ok c_Calendar_init ?_ fun cdv A outer s H vs Q E hr hsp => ⟨t_Calendar_init K, PSs.nox
      (pss_cons (ps_if (pt_not (pt_val (pe_call G_are_years (hr.mono (by decide)) (by rfl) (m_are_years T) kp_are_years b_are_years .nil pass0 (pa_cons (pv 1) pa_nil)))) (pss_one ps_never) pss_nil)
      (pss_cons (ps_fld (pv 0) (pe_lc (own := [("months", 3)]) (wi := (iList K (tVar 1))) (g := (gName 3)) (tt := tYes) (te := (tCB (rListG K) (tCons (tVar 3) tNil))) (by rfl) c_Calendar_init.nd (pi_list (pv 1)) (blkOk_by (own := [("months", 3)]) (N := ["self", "years", "length", "months", "year", "month"]) (sc := defScope s_Calendar_init) (by decide +kernel)) (fun _ _ _ _ _ => (pg_name (i := 3) c_Calendar_init.nd rfl (Or.inl rfl))) (fun _ _ _ _ _ => pts_nil) (fun _ _ _ _ _ => (pe_callTy c_list (by rfl) (z_list T) (by decide +kernel) (pa_cons (pv 3) pa_nil)))) rfl)
      (pss_cons (ps_fld (pv 0) (pe_lc2 (own := [("year", 4), ("months", 3), ("month", 5)]) (vs1 := [5]) (wi := (iEnum K (tCons (tVar 1) tNil))) (wi1 := (iRng1 (tCons (tCB (rLenG K) (tCons (tVar 3) tNil)) tNil))) (g := (gTup K 2 (gCons (gName 4) (gCons (gName 3) gNil)))) (g1 := (gName 5)) (tt := tYes) (tt1 := tYes) (te := (tTup (tCons (tVar 4) (tCons (tVar 5) tNil)))) (by rfl) c_Calendar_init.nd (pi_enum (by rfl) (z_enumerate T) (pa_cons (pv 1) pa_nil)) (blkOk_by (own := [("year", 4), ("months", 3), ("month", 5)]) (N := ["self", "years", "length", "months", "year", "month"]) (sc := defScope s_Calendar_init) (by decide +kernel)) (by decide) (fun _ _ _ _ _ => (pg_tup (by rfl) (pgs_cons (pg_name (i := 4) c_Calendar_init.nd rfl (Or.inl rfl)) (pgs_cons (pg_name (i := 3) c_Calendar_init.nd rfl (Or.inl rfl)) pgs_nil)))) (fun _ _ _ _ _ => pts_nil) (fun _ _ _ _ _ => (pi_range1 (by rfl) (z_range T) (pa_cons (pe_callB c_len (by rfl) (z_len T) (by decide +kernel) (pa_cons (pv 3) pa_nil)) pa_nil))) (fun _ _ _ _ _ => (pg_name (i := 5) c_Calendar_init.nd rfl (Or.inl rfl))) (fun _ _ _ _ _ => pts_nil) (fun _ _ _ _ _ => (pe_tup (pa_cons (pv 4) (pa_cons (pv 5) pa_nil))))) rfl)
      (pss_cons (ps_fld (pv 0) (pe_lc2 (own := [("months", 3), ("length", 2)]) (vs1 := [2]) (wi := (iList K (tVar 1))) (wi1 := (iList K (tVar 3))) (g := (gName 3)) (g1 := (gName 2)) (tt := tYes) (tt1 := tYes) (te := (tVar 2)) (by rfl) c_Calendar_init.nd (pi_list (pv 1)) (blkOk_by (own := [("months", 3), ("length", 2)]) (N := ["self", "years", "length", "months", "year", "month"]) (sc := defScope s_Calendar_init) (by decide +kernel)) (by decide) (fun _ _ _ _ _ => (pg_name (i := 3) c_Calendar_init.nd rfl (Or.inl rfl))) (fun _ _ _ _ _ => pts_nil) (fun _ _ _ _ _ => (pi_list (pv 3))) (fun _ _ _ _ _ => (pg_name (i := 2) c_Calendar_init.nd rfl (Or.inl rfl))) (fun _ _ _ _ _ => pts_nil) (fun _ _ _ _ _ => (pv 2))) rfl)
      (pss_cons (ps_fld (pv 0) (pe_lst pa_nil) rfl)
      (pss_cons (ps_fld (pv 0) pe_int rfl)
      (pss_one (ps_for PassesOwn.never rfl (pi_list (pe_fld (pv 0) rfl)) (pg_name (i := 2) c_Calendar_init.nd rfl (Or.inl rfl)) (pss_cons (ps_expr (pe_bm PySem.F.plainAttrs_list PySem.F.slot_list_append PySem.F.type_list_append mt_append (pe_fld (pv 0) rfl) (pa_cons (pe_fld (pv 0) rfl) pa_nil)))
      (pss_one (ps_fldaug (pv 0) (pv 2) in_add))))))))))), ?_⟩
  · rintro vs H Q E ⟨ds, es, G, x, dx, us, ⟨ys, h, rfl, rfl⟩, rfl, gh, r, _⟩
    rw [List.length_cons, rpl_len r]; rfl
  obtain ⟨ds, es, G, x, dx, us, ⟨ys, h, rfl, rfl⟩, rfl, gh, r, gx, hx, q⟩ := hsp
  obtain ⟨v, rfl, r1⟩ := rpl1 r
  have hT := TT_le h
  have hN := NN_le h
  have hY := h.few
  have w0 : OI (He.ga K "Calendar") x dx [] [] none K G H G H := ⟨Same.refl _, gh, fun _ _ _ e => e, fun _ _ e _ => e, ⟨gx, _, hx⟩, ⟨[], hx, rfl, rpl_nil.mpr rfl⟩, fun _ _ e => by cases e⟩
  have eo : EnvOk K G [some (.raw (.ref x)), some (yD ys), none, none, none, none] (L2.start ["self", "years", "length", "months", "year", "month"] [.ref x, v]) := env0_ok (N := ["self", "years", "length", "months", "year", "month"]) (ds := [.raw (.ref x), yD ys]) (rpl_cons.mpr ⟨_, _, rfl, rp_raw.mpr rfl, r⟩)
  refine o_no (et_not (b := true) (et_B (ev_call (d := .bl true) (ea_cons (ev_var rfl) ea_nil) ⟨ys, h, rfl, rfl⟩))) gh eo fun G1 H1 s1 => ?_
  have eo1 := eo.mono s1.gg
  refine o_fld (d := yD ys) (w0.step s1) eo1 (ev_lc1 (fun d => d) (iv_list (ev_var rfl)) (by rw [yD_len]; omega) (gk_name (by decide)) (fun d hd => ?_) (List.map_id' _)) rfl (k_Calendar T) (n_Calendar_own_years T) (by decide) (by decide) fun G2 H2 w2 g2 => ?_
  · obtain ⟨l, _, rfl⟩ := List.mem_map.mp hd
    exact ⟨_, gv_name, ev_cb (ea_cons (ev_var rfl) ea_nil) rc_listL⟩
  have eo2 := eo1.mono g2
  refine o_fld (d := spotsD ys) w2 eo2 (ev_lc2 (fun d => match d with | .tup [.int q, .lst l] => (List.range l.length).map fun (m : Nat) => Dt.tup [.int q, .int (m : Nat)] | _ => []) (iv_enum (ds := ys.map natL) (ea_cons (ev_var rfl) ea_nil)) (gk_tup (gk_cons (gk_name (by decide)) (gk_cons (gk_name (by decide)) gk_nil))) (gk_name (by decide)) (by rw [flat_spots h]; simp; omega) (fun d hd => ?_) (flat_spots h)) rfl (k_Calendar T) (n_Calendar_spots T) (by decide) (by decide) fun G3 H3 w3 g3 => ?_
  · rw [enum_ys h] at hd
    obtain ⟨k, hk, rfl⟩ := List.mem_map.mp hd
    have hc := yc_le h k
    have hc : (yr ys k).length ≤ 3 := hc
    have hcl : ((yr ys k).map fun i => Dt.int (i : Nat)).length = (yr ys k).length := List.length_map ..
    refine ⟨_, gv_tup (gv_cons gv_name (gv_cons gv_name gv_nil)) rfl, et_yes, _, iv_range1 (j := (((yr ys k).map fun i => Dt.int (i : Nat)).length : Nat)) (ea_cons (ev_cb (ea_cons (ev_var rfl) ea_nil) rc_lenL) ea_nil) (by omega) (by omega), fun d1 => .tup [.int (k : Nat), d1], ?_, fun d1 hd1 => ?_⟩
    · unfold rangeD
      rw [List.map_map]
      show (List.range ((yr ys k).map fun i => Dt.int (i : Nat)).length).map _ = _
      rw [Int.toNat_natCast]
      apply List.map_congr_left
      intro m _
      show Dt.tup [.int (k : Nat), .int (m : Nat)] = Dt.tup [.int (k : Nat), .int (0 + (m : Nat))]
      rw [Int.zero_add]
    · obtain ⟨j, _, rfl⟩ := List.mem_map.mp hd1
      exact ⟨_, gv_name, et_yes, ev_tup (ea_cons (ev_var rfl) (ea_cons (ev_var rfl) ea_nil)) (by simp)⟩
  have eo3 := eo2.mono g3
  have hfl : (ys.map natL).flatMap (fun d => match d with | .lst l => l | _ => []) = (tab (ml ys) (NN ys)).map Dt.int := by
    rw [List.flatMap_map]
    exact flat_lens h
  refine o_fld (d := .lst ((tab (ml ys) (NN ys)).map Dt.int)) w3 eo3 (ev_lc2 (fun d => match d with | .lst l => l | _ => []) (iv_list (ev_var rfl)) (gk_name (by decide)) (gk_name (by decide)) (by rw [hfl, List.length_map, tab_len]; omega) (fun d hd => ?_) hfl) rfl (k_Calendar T) (n_Calendar_lengths T) (by decide) (by decide) fun G4 H4 w4 g4 => ?_
  · obtain ⟨l, _, rfl⟩ := List.mem_map.mp hd
    exact ⟨_, gv_name, et_yes, _, iv_list (ev_var rfl), fun d => d, (List.map_id' _).symm, fun d1 _ => ⟨_, gv_name, et_yes, ev_var rfl⟩⟩
  have eo4 := eo3.mono g4
  refine o_new w4 eo4 rfl (k_Calendar T) (n_Calendar_firsts T) (by decide) (by decide) fun p H6 w6 => ?_
  refine o_fld (d := .int 0) w6 eo4 ev_int rfl (k_Calendar T) (n_Calendar_total T) (by decide) (by decide) fun G7 H7 w7 g7 => ?_
  have eo7 := eo4.mono g7
  -- the loop
  obtain ⟨y0, b1, b2⟩ := eo7.2 0 _ rfl
  obtain ⟨xs7, f1, f2, f3⟩ := w7.fx
  obtain ⟨z1, r7, rfl, _, f3⟩ := rpl_cons.mp f3
  obtain ⟨z2, r7, rfl, _, f3⟩ := rpl_cons.mp f3
  obtain ⟨z3, r7, rfl, rl, _⟩ := rpl_cons.mp f3
  obtain ⟨la, ll, rfl, lg, lr⟩ := rp_lst.mp rl
  refine ⟨y0, b1, x, _, dx, _, _, rp_raw.mp b2, f1, k_Calendar T, n_Calendar_lengths T, rfl, la, rfl, ⟨ll, SqL.of (w7.gh _ _ lg)⟩, ?_⟩
  have yl := yields_list (K := K) lg lr
  have el : ((tab (ml ys) (NN ys)).map Dt.int).length = NN ys := by rw [List.length_map, tab_len]
  refine ⟨fun i m σ' H' => m = NN ys - i ∧ i ≤ NN ys ∧ ∃ G' x2, OI (He.ga K "Calendar") x dx calN [yD ys, spotsD ys, .lst ((tab (ml ys) (NN ys)).map Dt.int), .raw (.ref p), .int (ms ys i : Nat)] (some (p, (tab (ms ys) i).map Dt.int)) K G H G' H' ∧ Same G7 G' ∧ EnvOk K G' [some (.raw (.ref x)), some (yD ys), x2, none, none, none] σ', ⟨NN ys, rfl, Nat.zero_le _, G7, none, w7, Same.refl _, eo7⟩, ?_⟩
  rintro i m σ' H' ⟨rfl, hi', G', x2, w, g, eo'⟩
  by_cases hlt : i < NN ys
  · have hgi : ((tab (ml ys) (NN ys)).map Dt.int)[i]? = some (.int (ml ys i : Nat)) := by rw [List.getElem?_map, tab_get hlt]; rfl
    obtain ⟨go, yld⟩ := yl.go G' H' g w.gh i _ hgi
    refine .inr ⟨go, fun σ'' H'' => ∃ G'' x2, OI (He.ga K "Calendar") x dx calN [yD ys, spotsD ys, .lst ((tab (ml ys) (NN ys)).map Dt.int), .raw (.ref p), .int (ms ys (i + 1) : Nat)] (some (p, (tab (ms ys) (i + 1)).map Dt.int)) K G H G'' H'' ∧ Same G7 G'' ∧ EnvOk K G'' [some (.raw (.ref x)), some (yD ys), x2, none, none, none] σ'', fun σ'' H'' ⟨G'', x2, a1, a2, a3⟩ => ⟨NN ys - (i + 1), by omega, rfl, hlt, G'', x2, a1, a2, a3⟩, fun u H3 y3 => ?_⟩
    obtain ⟨G3, s3, r3⟩ := yld u H3 y3
    have w3 := w.step s3
    have eo3' : EnvOk K G3 [some (.raw (.ref x)), some (yD ys), some (.int (ml ys i : Nat)), none, none, none] (σ'.set 2 (some u)) := (eo'.mono s3.gg).set (i := 2) r3
    show tSeq (tDrop (tBM K "list" rAppend (tFld K (tVar 0) "firsts") (tCons (tFld K (tVar 0) "total") tNil))) (sFldAug K (tVar 0) (tVar 2) rAdd "total") _ (σ'.set 2 (some u)) H3
    obtain ⟨y0, b1, b2⟩ := eo3'.2 0 _ rfl
    obtain ⟨t2, c1, c2⟩ := eo3'.2 2 _ rfl
    obtain ⟨xs8, f1, f2, f3⟩ := w3.fx
    obtain ⟨z1, r8, rfl, q1, f3⟩ := rpl_cons.mp f3
    obtain ⟨z2, r8, rfl, q2, f3⟩ := rpl_cons.mp f3
    obtain ⟨z3, r8, rfl, q3, f3⟩ := rpl_cons.mp f3
    obtain ⟨z4, r8, rfl, q4, f3⟩ := rpl_cons.mp f3
    obtain ⟨z5, rfl, q5⟩ := rpl1 f3
    obtain rfl := rp_raw.mp q4
    obtain rfl := rp_int.mp q5
    obtain ⟨m1, m2, acc, m3, m4⟩ := w3.mem p _ rfl
    refine ⟨y0, b1, x, _, dx, _, _, rp_raw.mp b2, f1, k_Calendar T, n_Calendar_firsts T, rfl, .inl ⟨rfl, _, .inl (.inl m3)⟩, ?_⟩
    refine ⟨y0, b1, x, _, dx, _, _, rp_raw.mp b2, f1, k_Calendar T, n_Calendar_total T, rfl, p, acc, _, rfl, rfl, m3, ?_, ?_⟩
    · rw [rpl_len m4, List.length_map, tab_len]
      exact sz_lt (by omega)
    have npx : x ≠ p := fun e => by rw [← e, f1] at m3; cases m3
    have w9 : OI (He.ga K "Calendar") x dx calN [yD ys, spotsD ys, .lst ((tab (ml ys) (NN ys)).map Dt.int), .raw (.ref p), .int (ms ys i : Nat)] (some (p, (tab (ms ys) (i + 1)).map Dt.int)) K G H G3 (upd H3 p (.lst (acc ++ [.int (ms ys i : Nat)]))) := by
      refine ⟨w3.gg, fun a o e => ?_, fun a o n e => ?_, w3.no, w3.nx, ⟨_, by rw [upd_ne npx]; exact f1, f2, rpl_cons.mpr ⟨_, _, rfl, q1, rpl_cons.mpr ⟨_, _, rfl, q2, rpl_cons.mpr ⟨_, _, rfl, q3, rpl_cons.mpr ⟨_, _, rfl, q4, rpl_cons.mpr ⟨_, _, rfl, rp_int.mpr rfl, rpl_nil.mpr rfl⟩⟩⟩⟩⟩⟩, fun p' ds' e => ?_⟩
      · rw [upd_ne (ne_of_none e m1)]; exact w3.gh _ _ e
      · rw [upd_ne (ne_of_none e m2)]; exact w3.hh a o n e
      · cases e
        refine ⟨m1, m2, _, upd_same, ?_⟩
        rw [tab_succ, List.map_append]
        exact rpl_app m4 (rpl_cons.mpr ⟨_, _, rfl, rp_int.mpr rfl, rpl_nil.mpr rfl⟩)
    refine ⟨y0, b1, x, _, dx, _, _, rp_raw.mp b2, by rw [upd_ne npx]; exact f1, k_Calendar T, n_Calendar_total T, rfl, ?_⟩
    refine ⟨t2, c1, _, _, rfl, rp_int.mp c2, dx, _, by rw [upd_ne npx]; exact f1, by simp, ?_⟩
    refine ⟨G3, some (.int (ml ys i : Nat)), w9.put (xs' := [z1, z2, z3, .ref p, .int (ms ys (i + 1) : Nat)]) ?_ rfl (rpl_cons.mpr ⟨_, _, rfl, q1, rpl_cons.mpr ⟨_, _, rfl, q2, rpl_cons.mpr ⟨_, _, rfl, q3, rpl_cons.mpr ⟨_, _, rfl, q4, rpl_cons.mpr ⟨_, _, rfl, rp_int.mpr rfl, rpl_nil.mpr rfl⟩⟩⟩⟩⟩), g.trans s3.gg, eo3'⟩
    rw [show ((ms ys (i + 1) : Nat) : Int) = ((ms ys i : Nat) : Int) + ((ml ys i : Nat) : Int) from Int.natCast_add _ _]
    rfl
  · have e : i = NN ys := by omega
    subst e
    have st := yl.stop G' H' g w.gh
    rw [el] at st
    refine .inl ⟨st, ?_⟩
    -- the list of firsts is stable from here on
    obtain ⟨m1, m2, acc, m3, m4⟩ := w.mem p _ rfl
    obtain ⟨xs8, f1, f2, f3⟩ := w.fx
    obtain ⟨z1, r8, rfl, q1, f3⟩ := rpl_cons.mp f3
    obtain ⟨z2, r8, rfl, q2, f3⟩ := rpl_cons.mp f3
    obtain ⟨z3, r8, rfl, q3, f3⟩ := rpl_cons.mp f3
    obtain ⟨z4, r8, rfl, q4, f3⟩ := rpl_cons.mp f3
    have sn : Same G' (upd G' p (.lst acc)) := same_new m1
    have npx : x ≠ p := fun e => by rw [← e, f1] at m3; cases m3
    refine q (upd G' p (.lst acc)) H' ⟨w.gg.trans sn, fun a o e => ?_, w.hh, fun a o e1 e2 => ?_, ⟨by rw [upd_ne npx]; exact w.nx.1, w.nx.2⟩, ⟨_, f1, f2, ?_⟩, fun _ _ e => by cases e⟩
    · by_cases z : a = p
      · subst z; rw [upd_same] at e; cases e; exact m3
      · rw [upd_ne z] at e; exact w.gh _ _ e
    · rw [upd_ne (ne_of_none e2 m2)]; exact w.no _ _ e1 e2
    · refine rpl_cons.mpr ⟨_, _, rfl, Rp.mono sn _ _ q1, rpl_cons.mpr ⟨_, _, rfl, Rp.mono sn _ _ q2, rpl_cons.mpr ⟨_, _, rfl, Rp.mono sn _ _ q3, rpl_cons.mpr ⟨_, _, rfl, ?_, RpL.mono sn _ _ f3⟩⟩⟩⟩
      exact rp_lst.mpr ⟨p, acc, rp_raw.mp q4, upd_same, RpL.mono sn _ _ m4⟩
end Lk
set_option Elab.async false
set_option linter.all false
set_option maxRecDepth 100000
set_option maxHeartbeats 4000000
/-! set(list of ints): its table can be walked; len(set(..)), sorted(set(..)). -/
namespace Lk
open PySem PySem.Spec PyProof.Rows L2
section
variable {P : Program} {w : World} {A : Around} {E : Value → Shared → Prop} {s : Shared}
set_option maxHeartbeats 8000000 in
theorem set_of_list {l : Addr} {items : Array Value} (ns : List Int) {Q : Value → Shared → Prop} (nh : A.handled = none) (tl : s.heap.IsList l items) (ti : IntsAre items.toList ns) (few : ns.length + 1 < scanBound)
    (q : ∀ (h' : Heap) (tk c : Nat), SetR w h' s.heap.objs.size (fun j => decide (j ∈ ns)) c → c ≤ ns.length → (∀ b o, s.heap.get? b = some o → h'.get? b = some o) → Q (.ref s.heap.objs.size) { s with heap := h', toks := tk }) :
    wpAny (model P w) A (call (.type "set") [.ref l]) Q E s := by
  have ns_sz : items.size = ns.length := by
    have e := IntsAre.length ti
    rwa [Array.length_toList] at e
  obtain ⟨_, _, mro_⟩ := F.called_set.mro
  have made_ := F.called_set.made
  have sub_ := F.called_set.sub
  have not_ := F.called_set.notType
  have can_ := F.called_set.canCreate
  have tc_ := F.typeCall_set_1 (.ref l)
  apply wpAny_call
  apply codeAny_of_tree
  show wpAny _ _ (callAny (.type "set") ⟨[.ref l], []⟩) _ _ _
  apply wpAny_pure
  refine ⟨Code.quiet_builtin _ (by decide +kernel), codeAny_builtin F.entry_type_call ?_⟩
  rw [Around.under_plain (weight_type_call_type "set" [.ref l] []) rfl]
  repeat (any_goals (first | assumption | wp_step))
  refine codeAny_mono (code_set_led1 (.ref l) (E := E) (Q₁ := fun ob t => ob = .ref s.heap.objs.size ∧ t = { s with heap := s.heap.push { cls := .type "set", dict := none, data := .set #[] 0 (.fresh 0 0 (!w.params.followText "set-order")) } }) ⟨rfl, rfl⟩) ?_
  intro r t hr
  cases r with
  | error er => exact hr
  | ok fl =>
    cases fl with
    | ret ob =>
      obtain ⟨rfl, rfl⟩ := hr
      have g0 : (s.heap.push { cls := .type "set", dict := none, data := .set #[] 0 (.fresh 0 0 (!w.params.followText "set-order")) }).get? s.heap.objs.size = some { cls := .type "set", dict := none, data := .set #[] 0 (.fresh 0 0 (!w.params.followText "set-order")) } := Heap.get?_push_size _ rfl
      have ty : Shared.TypeIs { s with heap := s.heap.push { cls := .type "set", dict := none, data := .set #[] 0 (.fresh 0 0 (!w.params.followText "set-order")) } } (.ref s.heap.objs.size) "set" := ⟨_, g0, rfl⟩
      have il_ := F.called_set.init.lookup
      have ib_ := F.called_set.init.bind (.ref s.heap.objs.size)
      repeat (any_goals (first | assumption | wp_step))
      refine codeAny_mono (codeAny_call_builtin (R := wants (fun r t => r = .none ∧ ∃ h' tk c, t = { s with heap := h', toks := tk } ∧ SetR w h' s.heap.objs.size (fun j => decide (j ∈ ns)) c ∧ c ≤ ns.length ∧ ∀ b o, s.heap.get? b = some o → h'.get? b = some o) E) F.called_set.init.plain F.entry_set_init (check_set_init_1 ty ?_)) ?_
      · obtain ⟨⟨oc, od, odt, osl⟩, ol, e1, n1, e2⟩ := tl
        simp only at e1 e2
        subst e1 e2
        have ll : l < s.heap.objs.size := Heap.lt_size ol
        have ol' : (s.heap.push { cls := .type "set", dict := none, data := .set #[] 0 (.fresh 0 0 (!w.params.followText "set-order")) }).get? l = some { cls := .type "list", dict := od, data := .seq items n1, slots := osl } := Heap.get?_push_of_some _ ol
        have sl_ := F.sub_list_set
        have sf_ := F.sub_list_frozenset
        have nd_ : (Value.type "list" == Value.type "dict") = false := by decide
        have tl1 : (s.heap.push { cls := .type "set", dict := none, data := .set #[] 0 (.fresh 0 0 (!w.params.followText "set-order")) }).IsList l items := ⟨_, ol', rfl, n1, rfl⟩
        unfold Builtin.«set.__init__» noKeywords Builtin.Frozenset.updateFrom
        generalize eI : pyIter = it_
        wp_walk
        subst eI
        apply wpAny_pyIter_list tl1
        apply wpAny_bind
        apply wpAny_runValue
        have nh3 : A.in1.in1.in1.handled = none := by simp [nh]
        have n_I : l ≠ (s.heap.push { cls := .type "set", dict := none, data := .set #[] 0 (.fresh 0 0 (!w.params.followText "set-order")) }).objs.size := by
          rw [Heap.size_push]
          exact Nat.ne_of_lt (Nat.lt_succ_of_lt ll)
        have n_S : s.heap.objs.size ∉ [(s.heap.push { cls := .type "set", dict := none, data := .set #[] 0 (.fresh 0 0 (!w.params.followText "set-order")) }).objs.size, l] := by
          rw [Heap.size_push]
          intro z
          rcases List.mem_cons.mp z with z | z
          · exact Nat.ne_of_lt (Nat.lt_succ_self _) z
          · exact Nat.ne_of_gt ll (List.mem_singleton.mp z)
        have vals_ : ∀ (i : Nat) (v : Value), items[i]? = some v → ∃ k t, ns[i]? = some k ∧ v = .int k t := fun i v hv => by
          have hi : i < ns.length := ns_sz ▸ (Array.getElem?_eq_some_iff.mp hv).1
          obtain ⟨t, e⟩ := PyProof.Rows.IntsAre.int_at ti i v (by rw [Array.getElem?_toList]; exact hv)
          refine ⟨ns[i], t, List.getElem?_eq_getElem hi, e.trans ?_⟩
          rw [List.getD_eq_getElem?_getD, List.getElem?_eq_getElem hi]
          rfl
        refine set_update_ints ((Walks.list nh3 _ l n_I items).toS) s.heap.objs.size n_S ns ns_sz few vals_ (items.size - 0) 0 _ (by omega) (Nat.zero_le _) ⟨⟨_, Heap.get?_push_size _ rfl, rfl, rfl⟩, tl1.push _⟩ ⟨0, Nat.le_refl 0, setR_new_at (Heap.get?_push_of_some _ g0)⟩ ?_
        rintro ⟨h', g2, d', tk', os'⟩ c' mv le R
        obtain rfl : g2 = s.gens := mv.gens
        obtain rfl : d' = s.drawn := mv.drawn
        obtain rfl : os' = s.os := mv.os
        show wpAny _ _ _ _ _ _
        apply wpAny_pure
        show wpAny _ _ (ret Value.none) _ _ _
        refine wpAny_pure ⟨rfl, h', tk', c', rfl, R, ns_sz ▸ le, fun b o e => ?_⟩
        have b0 : b < s.heap.objs.size := Heap.lt_size e
        refine mv.heap b o (fun z => ?_) (Heap.get?_push_of_some _ (Heap.get?_push_of_some _ e))
        rcases List.mem_cons.mp z with z | z
        · exact Nat.ne_of_lt b0 z
        · rw [List.mem_singleton.mp z, Heap.size_push] at b0
          exact Nat.lt_irrefl _ (Nat.lt_of_succ_lt b0)
      · intro r2 t2 h2
        cases r2 with
        | error er => exact h2
        | ok fl2 =>
          cases fl2 with
          | ret v2 =>
            obtain ⟨rfl, h', tk, c', rfl, R, le, kp⟩ := h2
            repeat (any_goals (first | assumption | wp_step))
            exact q h' tk c' R le kp
          | _ => exact h2.elim
    | _ => exact hr.elim
end
end Lk
set_option Elab.async false
set_option linter.all false
set_option maxRecDepth 100000
set_option maxHeartbeats 4000000
namespace Lk
open PySem PySem.Spec PyProof.Rows L2
/-- c is how many unlike ones there are -/
def Card (ns : List Int) (c : Nat) : Prop := ∃ ks : List Int, ks.Nodup ∧ (∀ k, k ∈ ks ↔ k ∈ ns) ∧ ks.length = c
theorem Card.one {ns : List Int} {c : Nat} (h : Card ns c) (hn : ns ≠ []) : c = 1 ↔ ∀ x ∈ ns, ∀ y ∈ ns, x = y := by
  obtain ⟨ks, nd, mem, rfl⟩ := h
  constructor
  · intro e x hx y hy
    obtain ⟨k, rfl⟩ := List.length_eq_one_iff.mp e
    rw [List.mem_singleton.mp ((mem x).mpr hx), List.mem_singleton.mp ((mem y).mpr hy)]
  · intro e
    cases ks with
    | nil =>
      cases ns with
      | nil => exact absurd rfl hn
      | cons a l => exact absurd ((mem a).mpr List.mem_cons_self) (by simp)
    | cons k ks =>
      cases ks with
      | nil => rfl
      | cons k' ks =>
        exfalso
        have := e k ((mem k).mp List.mem_cons_self) k' ((mem k').mp (List.mem_cons_of_mem _ List.mem_cons_self))
        subst this
        exact (List.nodup_cons.mp nd).1 List.mem_cons_self
theorem card_of {w : World} {h : Heap} {a : Addr} {ns : List Int} {c : Nat} (R : SetR w h a (fun j => decide (j ∈ ns)) c) : Card ns c := by
  obtain ⟨o, es, ep, t, ho, hx, hd, g, nd, hm, hb, hf, hn, _⟩ := R
  exact ⟨es.toList.map keyOf, nd, fun k => by rw [← hm k, decide_eq_true_eq], by rw [List.length_map, Array.length_toList]; exact hn⟩
def tLenSet (K : Fr) (ta : TE) : TE := fun σ H Q => ta σ H fun x H1 => ∃ (l : Addr) (ns : List Int), x = .ref l ∧ SqL K H1 l (ns.map V.int) ∧ ns.length < 64 ∧ ∀ c, Card ns c → Q (.int (c : Nat)) H1
def tSortSet (K : Fr) (ta : TE) : TE := fun σ H Q => ta σ H fun x H1 => ∃ (l : Addr) (ns : List Int), x = .ref l ∧ SqL K H1 l (ns.map V.int) ∧ ns.length < 64 ∧ ∀ (ks : List Int) (p : Addr), Card ns ks.length → H1 p = none → Q (.ref p) (upd H1 p (.lst (ks.map V.int)))
section
variable {X : Cx} {a : Expr} {ta : TA} {te : TE} {p p2 q pos : Pos}
theorem pe_lenset (hg : Gl X "len") (hm : X.mg "len" = none) (hg2 : Gl X "set") (hm2 : X.mg "set" = none) (ha : PE X a te) (calm : X.calm = true := by rfl) (na : starEach [a] X.env = (false, eval a X.env) :: starEach [] X.env := by rfl) :
    PE X (.Call (.Name "len" p) [.Call (.Name "set" p2) [a] [] q] [] pos) (tLenSet X.K te) := by
  constructor
  intro pins s σ H Q I h
  refine Call_ (ld_blt I hg hm boot_len (PyProof.Rows.callWith_builtin1 (PyProof.Rows.args_cons ?_ rfl) rfl rfl))
  refine Call_ (ld_blt I hg2 hm2 boot_set (PyProof.Rows.callWith_type1 (PyProof.Rows.args_cons (thn (ha.run pins s σ H _ I h) ?_) na) na rfl))
  rintro v s1 ⟨x, H1, I1, r1, l, ns, rfl, hq, few, k⟩
  cases r1
  obtain ⟨its, rv, pl, _⟩ := I1.list hq
  refine PyProof.Rows.args_nil (set_of_list ns (I1.ok.hd calm) pl.isList (by simpa using RZ.intsAre_vals rv) (by unfold scanBound; omega) fun g tk c R le kp => PyProof.Rows.args_nil ?_)
  have cd := card_of R
  obtain ⟨o, es, ep, t, ho, hx, hd, _, _, _, hb, hf, hn, _⟩ := R
  have J : Inv X pins σ H1 { s1 with heap := g, toks := tk } := I1.kept kp
  exact call_len_set ho hx hd hf (by rw [hn]; omega) ⟨.int (c : Nat), H1, J.tok _, ⟨_, by rw [hn]⟩, k c cd⟩
theorem pe_sortset (hg : Gl X "sorted") (hm : X.mg "sorted" = none) (hg2 : Gl X "set") (hm2 : X.mg "set" = none) (ha : PE X a te) (calm : X.calm = true := by rfl) (na : starEach [a] X.env = (false, eval a X.env) :: starEach [] X.env := by rfl) :
    PE X (.Call (.Name "sorted" p) [.Call (.Name "set" p2) [a] [] q] [] pos) (tSortSet X.K te) := by
  constructor
  intro pins s σ H Q I h
  refine Call_ (ld_blt I hg hm PyProof.Rows.boot_sorted (PyProof.Rows.callWith_builtin1 (PyProof.Rows.args_cons ?_ rfl) rfl rfl))
  refine Call_ (ld_blt I hg2 hm2 boot_set (PyProof.Rows.callWith_type1 (PyProof.Rows.args_cons (thn (ha.run pins s σ H _ I h) ?_) na) na rfl))
  rintro v s1 ⟨x, H1, I1, r1, l, ns, rfl, hq, few, k⟩
  cases r1
  obtain ⟨its, rv, pl, _⟩ := I1.list hq
  refine PyProof.Rows.args_nil (set_of_list ns (I1.ok.hd calm) pl.isList (by simpa using RZ.intsAre_vals rv) (by unfold scanBound; omega) fun g tk c R le kp => PyProof.Rows.args_nil ?_)
  have J : Inv X pins σ H1 { s1 with heap := g, toks := tk } := I1.kept kp
  refine sorted_set R (J.ok.hd calm) (Nat.lt_of_le_of_lt le few) ?_
  intro s' d out n ks k2 gg oo hd hg' hi hs hmem hlen
  have fresh : H1 d = none := J.hok.fresh hd
  have short : (ks.map V.int).length ≤ sizeLine := by
    rw [List.length_map, hlen, sizeLine_eq]; omega
  have J2 : Inv X pins σ (upd H1 d (.lst (ks.map V.int))) s' := Inv.call' J (ch := []) oo (Un.laid k2 hd fresh) (J.hok.laid k2 hd ⟨short, out.toList, n, vals_of_ints hi, hg'⟩) (by rw [gg]; exact J.bare) fun _ z => nomatch z
  refine ⟨.ref d, _, J2, rfl, k ks d ⟨ks, ?_, fun j => by rw [hmem j, decide_eq_true_eq], rfl⟩ fresh⟩
  exact hs.imp fun h => by omega
end
/-! ### over data -/
/-- one of several data -/
def EVN (K : Fr) (te : TE) (env : Env) (D : Dt → Prop) : Prop := ∀ σ G H Q, Same G H → EnvOk K G env σ → (∀ d v G' H', D d → Step G H G' H' → Rp K G' d v → Q v H') → te σ H Q
section
variable {K : Fr} {env : Env} {te : TE} {ns : List Int}
theorem ev_lenset (h : EV K te env (.lst (ns.map Dt.int))) (few : ns.length < 64) (hn : ns ≠ []) {b : Bool} (hb : b = true ↔ ∀ x ∈ ns, ∀ y ∈ ns, x = y) : EV K (tOp (rEqG K) (tLenSet K te) (tC (.int 1))) env (.bl b) := fun σ G H Q gh eo k =>
  h σ G H _ gh eo fun v G1 H1 s1 r1 => by
    obtain ⟨a, xs, rfl, e2, e3⟩ := rp_lst.mp r1
    rw [rpl_ints.mp e3] at e2
    refine ⟨a, ns, rfl, SqL.of (s1.gh _ _ e2), few, fun c hc => ?_⟩
    have e : b = decide (((c : Nat) : Int) = 1) := by
      apply Bool.eq_iff_iff.mpr
      rw [hb, ← hc.one hn, decide_eq_true_eq]; omega
    refine rd_eqI (K := K) (i := (c : Nat)) (j := 1) _ _ G1 H1 _ s1.gh (rp_int.mpr rfl) (rp_int.mpr rfl) fun v G2 H2 s2 r2 => k v G2 H2 (s1.trans s2) (by rw [e]; exact r2)
theorem evn_sortset (h : EV K te env (.lst (ns.map Dt.int))) (few : ns.length < 64) : EVN K (tSortSet K te) env (fun d => ∃ ks : List Int, d = .lst (ks.map Dt.int) ∧ Card ns ks.length) := fun σ G H Q gh eo k =>
  h σ G H _ gh eo fun v G1 H1 s1 r1 => by
    obtain ⟨a, xs, rfl, e2, e3⟩ := rp_lst.mp r1
    rw [rpl_ints.mp e3] at e2
    refine ⟨a, ns, rfl, SqL.of (s1.gh _ _ e2), few, fun ks p hc hp => ?_⟩
    have st := Step.new (o := .lst (ks.map V.int)) s1.gh hp
    exact k _ _ _ _ ⟨ks, rfl, hc⟩ (s1.trans st) (rp_lst.mpr ⟨p, _, rfl, upd_same, rpl_ints.mpr rfl⟩)
theorem q_setN {D : Dt → Prop} {tz : TS} {i : Nat} {M : Mem} {E : Ed} (h : EVN K te env D) (k : ∀ d, D d → SV K tz (env.set i (some d)) M E) : SV K (tSeq (tAsg te (gName i)) tz) env M E := fun G0 H0 G H σ D' w eo c1 c2 c3 c4 =>
  h σ G H _ w.gh eo fun d v G1 H1 hd s1 r1 => gv_name σ v G1 H1 _ s1.gh (eo.mono s1.gg) r1 fun σ' eo' => k d hd G0 H0 G1 H1 σ' D' (w.step s1) eo' c1 c2 c3 c4
end
end Lk
set_option Elab.async false
set_option linter.all false
set_option maxRecDepth 100000
set_option maxHeartbeats 4000000
namespace Lk
open PySem L2
local macro_rules | `(tactic| walk_at "ev1") => `(tactic| first
  | ((with_reducible apply ev_var); exact rfl)
  | with_reducible exact ev_int | with_reducible exact ev_str | with_reducible exact ev_bl | with_reducible exact ev_non | with_reducible exact ea_nil | with_reducible apply ea_cons
  | with_reducible exact rd_addI | with_reducible exact rd_subG | with_reducible exact rd_ltG | with_reducible exact rd_leG | with_reducible exact rd_gtG | with_reducible exact rd_geG | with_reducible exact rd_eqI | with_reducible exact rd_neI | with_reducible exact rd_eqS
  | with_reducible exact rc_lenL | with_reducible exact rc_lenT | with_reducible exact rc_max2 | with_reducible exact rc_min2 | with_reducible exact rc_abs | with_reducible exact rc_intI | with_reducible exact rc_intB | with_reducible exact rc_listL | with_reducible exact rc_tupleL | with_reducible exact rc_all | with_reducible exact rc_sum
  | with_reducible exact gv_name | with_reducible exact gv_nil | with_reducible apply gv_cons | ((with_reducible apply gv_tup) <;> try exact rfl)
  | with_reducible apply rd_mulI | with_reducible apply rd_fdivG | with_reducible apply rd_modG | with_reducible apply rc_divmod | with_reducible apply rd_ixL | with_reducible apply rd_ixT | with_reducible apply rd_addL
  | with_reducible apply ev_tup | with_reducible apply ev_lst | with_reducible apply ev_op | with_reducible apply ev_cb | with_reducible exact eo_none | with_reducible apply eo_some | with_reducible apply ev_neg
  | with_reducible apply et_test | with_reducible apply et_B | with_reducible apply et_not | exact Nat.le_of_ble_eq_true rfl)
local macro_rules | `(tactic| walk_at "ev") => `(tactic| repeat' (walk_at "ev1"))
local macro_rules | `(tactic| walk_at "env") => `(tactic| simp only [rep, ladD, setS, setC, env0, List.map_cons, List.map_nil, List.length_cons, List.length_nil, Nat.reduceAdd, Nat.reduceSub, List.replicate_succ, List.replicate_zero, List.cons_append, List.nil_append])
-- IMPORTS LkSet2
/-! ### what the law's own defs are asked and give -/
def F5 (r : Dt → Dt → Dt → Dt → Dt → Dt → Prop) : List Dt → Dt → Prop
  | [a, b, c, e, f], d => r a b c e f d
  | _, _ => False
theorem F5.ex {r : Dt → Dt → Dt → Dt → Dt → Dt → Prop} : ∀ {ds : List Dt} {d : Dt}, F5 r ds d → ∃ a b c e f, ds = [a, b, c, e, f] ∧ r a b c e f d
  | [a, b, c, e, f], d, h => ⟨a, b, c, e, f, rfl, h⟩
theorem F5.len {r : Dt → Dt → Dt → Dt → Dt → Dt → Prop} {ds : List Dt} {d : Dt} (h : F5 r ds d) : ds.length = 5 := by obtain ⟨a, b, c, e, f, rfl, _⟩ := h.ex; rfl
def owedD (ys : Yrs) (n x : Nat) : Dt := .tup [.int (yof ys (mon ys x) + n : Nat), .int (cm ys (yof ys (mon ys x) + n) (mof ys (mon ys x)) : Nat), .int (cp ys (yof ys (mon ys x) + n) (mof ys (mon ys x)) (pl ys x) : Nat)]
abbrev F_law_later_date (K : Fr) := F3 fun a b c d => ∃ ys, ∃ x n : Nat, YOk ys ∧ a = yD ys ∧ b = dateD ys x ∧ c = .int n ∧ d = owedD ys n x
abbrev F_law_one_right (K : Fr) := F5 fun a b c e f d => ∃ ys, ∃ x n : Nat, YOk ys ∧ a = almD K ys ∧ b = calD K ys ∧ c = yD ys ∧ e = .int x ∧ f = .int n ∧ d = .bl true
abbrev F_law_ways_right (K : Fr) := F4 fun a b c e d => ∃ ys, ∃ x y : Nat, YOk ys ∧ a = almD K ys ∧ b = calD K ys ∧ c = yD ys ∧ e = .lst [.int x, .int y] ∧ d = .bl true
abbrev F_law_month_ends_right (K : Fr) := F1 fun a d => ∃ ys, YOk ys ∧ a = almD K ys ∧ d = .bl true
abbrev sp_law_later_date (K : Fr) := spD K (F_law_later_date K)
abbrev sp_law_one_right (K : Fr) := spD K (F_law_one_right K)
abbrev sp_law_ways_right (K : Fr) := spD K (F_law_ways_right K)
abbrev sp_law_month_ends_right (K : Fr) := spD K (F_law_month_ends_right K)
/-! ### the law's copies -/
theorem law_copied_at {P : Program} {w : World} {K : Fr} {mg : Str → Option Value} {base : Heap} (T : Txt K mg) : ∀ k, Has P w K mg base (k + 1) (He.ga K "_law_copied") ["_law_thing"] (spD K (F_copiedAt k))
  | 0 => by
    obtain ⟨fd, F⟩ := T.says.def_ 77 (d := d_law_copied) rfl
    have F : FunD K "_law_copied" "_law_copied" (defArgs s_law_copied) (defBody s_law_copied) (defScope s_law_copied) [] [] (He.ga K "_law_copied") fd := F
    refine ⟨F.kp, fd, ?_, F.bindsN fun _ _ _ _ _ _ us hl => match us, hl with | [_], _ => rfl⟩
    refine ok_of F c_law_copied (by (intro ds d h; exact h.len)) fun cdv A outer s H E hr => ⟨t_copied0 K, PSs.nox
      (pss_cons (ps_if (pt_val (pe_callB call_isi (by rfl) (z_isinstance T) (by decide +kernel) (pa_cons (pv 0) (pa_cons (pe_bltn (v := .ty "list") (by rfl) (z_list T) (by decide +kernel) rfl) pa_nil)))) pss_never pss_nil)
      (pss_cons (ps_if (pt_val (pe_callB call_isi (by rfl) (z_isinstance T) (by decide +kernel) (pa_cons (pv 0) (pa_cons (pe_bltn (v := .ty "tuple") (by rfl) (z_tuple T) (by decide +kernel) rfl) pa_nil)))) pss_never pss_nil)
      (pss_one (ps_ret (pv 0))))), fun ds d hF => ?_⟩
    obtain ⟨a, rfl, h, rfl⟩ := hF.ex
    exact sv_copied0 h rfl
  | k + 1 => by
    obtain ⟨kp_law_copied, fd_law_copied, G_law_copied, b_law_copied⟩ := law_copied_at (P := P) (w := w) (base := base) T k
    obtain ⟨fd, F⟩ := T.says.def_ 77 (d := d_law_copied) rfl
    have F : FunD K "_law_copied" "_law_copied" (defArgs s_law_copied) (defBody s_law_copied) (defScope s_law_copied) [] [] (He.ga K "_law_copied") fd := F
    refine ⟨F.kp, fd, ?_, F.bindsN fun _ _ _ _ _ _ us hl => match us, hl with | [_], _ => rfl⟩
    refine ok_of F c_law_copied (by (intro ds d h; exact h.len)) fun cdv A outer s H E hr => ⟨t_copiedS K (spD K (F_copiedAt k)), PSs.nox
      (pss_cons (ps_if (pt_val (pe_callB call_isi (by rfl) (z_isinstance T) (by decide +kernel) (pa_cons (pv 0) (pa_cons (pe_bltn (v := .ty "list") (by rfl) (z_list T) (by decide +kernel) rfl) pa_nil)))) (pss_one (ps_ret (pe_lc (own := [("_law_part", 1)]) (wi := (iList K (tVar 0))) (g := (gName 1)) (tt := tYes) (te := (tCall (spD K (F_copiedAt k)) [] E0 (tCons (tVar 1) tNil))) (by rfl) c_law_copied.nd (pi_list (pv 0)) (blkOk_by (own := [("_law_part", 1)]) (N := ["_law_thing", "_law_part"]) (sc := defScope s_law_copied) (by decide +kernel)) (fun _ _ _ _ _ => (pg_name (i := 1) c_law_copied.nd rfl (Or.inl rfl))) (fun _ _ _ _ _ => pts_nil) (fun _ _ _ _ _ => (pe_call G_law_copied hr (by rfl) (m_law_copied T) kp_law_copied b_law_copied .nil pass0 (pa_cons (pv 1) pa_nil)))))) pss_nil)
      (pss_cons (ps_if (pt_val (pe_callB call_isi (by rfl) (z_isinstance T) (by decide +kernel) (pa_cons (pv 0) (pa_cons (pe_bltn (v := .ty "tuple") (by rfl) (z_tuple T) (by decide +kernel) rfl) pa_nil)))) (pss_one (ps_ret (pe_callTy c_tuple (by rfl) (z_tuple T) (by decide +kernel) (pa_cons (pe_lc (own := [("_law_part", 1)]) (wi := (iTup K (tVar 0))) (g := (gName 1)) (tt := tYes) (te := (tCall (spD K (F_copiedAt k)) [] E0 (tCons (tVar 1) tNil))) (by rfl) c_law_copied.nd (pi_tup (pv 0)) (blkOk_by (own := [("_law_part", 1)]) (N := ["_law_thing", "_law_part"]) (sc := defScope s_law_copied) (by decide +kernel)) (fun _ _ _ _ _ => (pg_name (i := 1) c_law_copied.nd rfl (Or.inl rfl))) (fun _ _ _ _ _ => pts_nil) (fun _ _ _ _ _ => (pe_call G_law_copied hr (by rfl) (m_law_copied T) kp_law_copied b_law_copied .nil pass0 (pa_cons (pv 1) pa_nil)))) pa_nil)))) pss_nil)
      (pss_one (ps_ret (pv 0))))), fun ds d hF => ?_⟩
    obtain ⟨a, rfl, h, rfl⟩ := hF.ex
    exact sv_copiedS h rfl
theorem ok_law_copied {P : Program} {w : World} {K : Fr} {mg : Str → Option Value} {base : Heap} (T : Txt K mg) : Has P w K mg base 3 (He.ga K "_law_copied") ["_law_thing"] (sp_law_copied K) := law_copied_at T 2
/-! ### plain facts -/
theorem canon_smp {f : Nat → Nat} : Smp 2 (canon f) := smp_lad _ _
theorem last_at {ys : Yrs} (h : YOk ys) (q : Nat) : atI ((yr ys q).map fun i => Dt.int (i : Nat)) (-1) = some (.int (ml ys (yst ys q + (yc ys q - 1)) : Nat)) := by
  have hp := yc_pos h q
  have hp : 0 < (yr ys q).length := hp
  rw [(ml_at h (show yc ys q - 1 < yc ys q by have := yc_pos h q; omega)).1]
  have e : (yr ys q).map (fun i => Dt.int (i : Nat)) = ((yr ys q).dropLast.map fun i => Dt.int (i : Nat)) ++ [.int ((yr ys q).getD (yc ys q - 1) 1 : Nat)] := by
    have hne : yr ys q ≠ [] := List.length_pos_iff.mp hp
    conv => lhs; rw [← List.dropLast_concat_getLast hne]
    rw [List.map_append]
    congr 1
    show [Dt.int (((yr ys q).getLast hne : Nat) : Int)] = _
    rw [List.getLast_eq_getElem, List.getD_eq_getElem?_getD, List.getElem?_eq_getElem (show yc ys q - 1 < (yr ys q).length by unfold yc; omega)]; rfl
  rw [e]
  exact atI_last _ _
theorem yq_at {K : Fr} {env : Env} {ys : Yrs} (h : YOk ys) {i : Nat} {te tn : TE} {q : Nat} (h1 : EV K te env (yD ys)) (h2 : EV K tn env (.int (q : Nat))) : EV K (tOp (rIxG K) te (tOp rModG (tCB rIntG (tCons tn tNil)) (tCB (rLenG K) (tCons te tNil)))) env (natL (yr ys q)) := by
  have hY := len_pos h
  refine ev_op h1 (ev_is (d1 := .int ((q % ys.length : Nat) : Int)) (ev_op (ev_cb (ea_cons h2 ea_nil) rc_intI) (ev_cb (ea_cons h1 ea_nil) rc_lenL) (rd_modG (by rw [yD_len]; omega))) ?_) (rd_ixL (at_years h q))
  rw [yD_len]; rfl
theorem smp_date (a b c : Int) : Smp 1 (.tup [.int a, .int b, .int c]) := .tup fun d hd => by
  rcases List.mem_cons.mp hd with rfl | hd
  · exact .int 0 _
  rcases List.mem_cons.mp hd with rfl | hd
  · exact .int 0 _
  rcases List.mem_cons.mp hd with rfl | hd
  · exact .int 0 _
  · cases hd
def t_law_later_date (K : Fr) : TS :=
  (tSeq (tAsg (tVar 1) (gTup K 3 (gCons (gName 3) (gCons (gName 4) (gCons (gName 5) gNil)))))
      (tSeq (tAsg (tOp (rIxG K) (tVar 0) (tOp rModG (tCB rIntG (tCons (tOp rAddG (tVar 3) (tVar 2)) tNil)) (tCB (rLenG K) (tCons (tVar 0) tNil)))) (gName 6))
      (tSeq (tIfS (tTest (tOp rGeG (tVar 4) (tCB (rLenG K) (tCons (tVar 6) tNil)))) (tRet (tTup (tCons (tOp rAddG (tVar 3) (tVar 2)) (tCons (tOp rSubG (tCB (rLenG K) (tCons (tVar 6) tNil)) (tC (.int 1))) (tCons (tOp rSubG (tOp (rIxG K) (tVar 6) (tUn (rU fun i => .int (-i)) (tC (.int 1)))) (tC (.int 1))) tNil))))) tNext)
      (tRet (tTup (tCons (tOp rAddG (tVar 3) (tVar 2)) (tCons (tVar 4) (tCons (tCB rMin2G (tCons (tVar 5) (tCons (tOp rSubG (tOp (rIxG K) (tVar 6) (tVar 4)) (tC (.int 1))) tNil))) tNil))))))))
def t_law_one_right (K : Fr) : TS :=
  (tSeq (tPar 5 6 (tCons (tCall (sp_due K) [] E0 (tCons (tVar 0) (tCons (tLst (tCons (tTup (tCons (tC (.str "months")) (tCons (tVar 4) tNil))) tNil)) (tCons (tVar 3) tNil)))) (tCons (tMeth (He.ga K "Calendar") "months" (sp_Calendar_months K) [] E0 (tVar 1) tNil) tNil)))
      (tSeq (tIfS (tOr (tTest (tOp (rNeG K) (tCall (sp_value K) [] E0 (tCons (tVar 6) (tCons (tVar 5) tNil))) (tOp rAddG (tCall (sp_value K) [] E0 (tCons (tVar 6) (tCons (tVar 3) tNil))) (tVar 4)))) (tTest (tOp (rNeG K) (tVar 5) (tCall (sp_value K) [] E0 (tCons (tMeth (He.ga K "Calendar") "months_on" (sp_Calendar_months_on K) [] E0 (tVar 1) (tCons (tVar 4) tNil)) (tCons (tVar 3) tNil)))))) (tRet (tC (.bl false))) tNext)
      (tSeq (tPar 7 8 (tCons (tOp (rIxG K) (tMeth (He.ga K "Calendar") "date" (sp_Calendar_date K) [] E0 (tVar 1) (tCons (tVar 3) tNil)) (tC (.int 2))) (tCons (tMeth (He.ga K "Calendar") "date" (sp_Calendar_date K) [] E0 (tVar 1) (tCons (tVar 5) tNil)) tNil)))
      (tSeq (tAsg (tOp (rIxG K) (tOp (rIxG K) (tVar 2) (tOp rModG (tCB rIntG (tCons (tOp (rIxG K) (tVar 8) (tC (.int 0))) tNil)) (tCB (rLenG K) (tCons (tVar 2) tNil)))) (tOp (rIxG K) (tVar 8) (tC (.int 1)))) (gName 9))
      (tSeq (tIfS (tTest (tOp (rNeG K) (tOp (rIxG K) (tVar 8) (tC (.int 2))) (tCB rMin2G (tCons (tVar 7) (tCons (tOp rSubG (tVar 9) (tC (.int 1))) tNil))))) (tRet (tC (.bl false))) tNext)
      (tSeq (tAsg (tCall (sp_due K) [] E0 (tCons (tVar 0) (tCons (tLst (tCons (tTup (tCons (tC (.str "years")) (tCons (tVar 4) tNil))) tNil)) (tCons (tVar 3) tNil)))) (gName 5))
      (tSeq (tAsg (tCall (sp_law_later_date K) [] E0 (tCons (tVar 2) (tCons (tMeth (He.ga K "Calendar") "date" (sp_Calendar_date K) [] E0 (tVar 1) (tCons (tVar 3) tNil)) (tCons (tVar 4) tNil)))) (gName 10))
      (tRet (tAndV (tOp (rEqG K) (tMeth (He.ga K "Calendar") "date" (sp_Calendar_date K) [] E0 (tVar 1) (tCons (tVar 5) tNil)) (tVar 10)) (tOp (rEqG K) (tMeth (He.ga K "Calendar") "day" (sp_Calendar_day K) [] E0 (tVar 1) (tCons (tVar 10) tNil)) (tVar 5)))))))))))
def t_law_ways_right (K : Fr) : TS :=
  (tSeq (tAsg (tLst tNil) (gName 4))
      (tSeq (tFor (iList K (tVar 2)) (gName 5) (tAsg (tOp rAddG (tVar 4) (tVar 5)) (gName 4)))
      (tSeq (tAsg (tSortSet K (tLc (iList K (tVar 2)) (gName 5) tYes (tCB (rLenG K) (tCons (tVar 5) tNil)) [5])) (gName 6))
      (tSeq (tFor (iTup K (tTup (tCons (tC (.str "months")) (tCons (tC (.str "years")) tNil)))) (gName 7) (tSeq (tAsg (tLc (iList K (tVar 3)) (gName 11) tYes (tTup (tCons (tVar 7) (tCons (tVar 11) tNil))) [11]) (gName 8))
      (tSeq (tIfS (tNot (tB (tCall (sp_never_later K) [] E0 (tCons (tVar 0) (tCons (tVar 8) (tCons (tLst (tCons (tTup (tCons (tVar 7) (tCons (tOp rAddG (tOp (rIxG K) (tVar 3) (tC (.int 0))) (tOp (rIxG K) (tVar 3) (tC (.int 1)))) tNil))) tNil)) tNil)))))) (tRet (tC (.bl false))) tNext)
      (tSeq (tAsg (tAndV (tOp (rEqG K) (tLenSet K (tVar 4)) (tC (.int 1))) (tOrV (tOp (rEqG K) (tVar 7) (tC (.str "months"))) (tOp (rEqG K) (tCB (rLenG K) (tCons (tVar 6) tNil)) (tC (.int 1))))) (gName 9))
      (tIfS (tAnd (tB (tVar 9)) (tNot (tB (tCall (sp_passing K) [] E0 (tCons (tVar 0) (tCons (tSl (rSlG K) (tVar 8) tNoPart (tPart (tC (.int 1)))) (tCons (tSl (rSlG K) (tVar 8) (tPart (tC (.int 1))) tNoPart) tNil))))))) (tRet (tC (.bl false))) tNext)))))
      (tSeq (tIfS (tTest (tOp (rNeG K) (tCall (sp_ladder_of K) [] E0 (tCons (tVar 0) (tCons (tLst (tCons (tTup (tCons (tC (.str "months")) (tCons (tOp (rIxG K) (tVar 3) (tC (.int 0))) tNil))) tNil)) tNil))) (tMeth (He.ga K "Calendar") "months_on" (sp_Calendar_months_on K) [] E0 (tVar 1) (tCons (tOp (rIxG K) (tVar 3) (tC (.int 0))) tNil)))) (tRet (tC (.bl false))) tNext)
      (tSeq (tIfS (tTest (tOp (rNeG K) (tCall (sp_ladder_of K) [] E0 (tCons (tVar 0) (tCons (tLst (tCons (tTup (tCons (tC (.str "years")) (tCons (tOp (rIxG K) (tVar 3) (tC (.int 1))) tNil))) tNil)) tNil))) (tMeth (He.ga K "Calendar") "years_on" (sp_Calendar_years_on K) [] E0 (tVar 1) (tCons (tOp (rIxG K) (tVar 3) (tC (.int 1))) tNil)))) (tRet (tC (.bl false))) tNext)
      (tSeq (tIfS (tTest (tOp (rEqG K) (tCB (rLenG K) (tCons (tVar 6) tNil)) (tC (.int 1)))) (tSeq (tAsg (tCall (sp_ladder_of K) [] E0 (tCons (tVar 0) (tCons (tLst (tCons (tTup (tCons (tC (.str "months")) (tCons (tOp rMulG (tOp (rIxG K) (tVar 3) (tC (.int 0))) (tCB (rLenG K) (tCons (tOp (rIxG K) (tVar 2) (tC (.int 0))) tNil))) tNil))) tNil)) tNil))) (gName 10))
      (tIfS (tTest (tOp (rNeG K) (tCall (sp_ladder_of K) [] E0 (tCons (tVar 0) (tCons (tLst (tCons (tTup (tCons (tC (.str "years")) (tCons (tOp (rIxG K) (tVar 3) (tC (.int 0))) tNil))) tNil)) tNil))) (tVar 10))) (tRet (tC (.bl false))) tNext)) tNext)
      (tRet (tC (.bl true))))))))))
def t_law_month_ends_right (K : Fr) : TS :=
  (tSeq (tAsg (tLst (tCons (tLst (tCons (tTup (tCons (tC (.str "days")) (tCons (tC (.int 1)) tNil))) (tCons (tTup (tCons (tC (.str "to")) (tCons (tTup (tCons (tC (.str "starts")) tNil)) tNil))) tNil))) (tCons (tLst (tCons (tTup (tCons (tC (.str "to")) (tCons (tTup (tCons (tC (.str "ends")) tNil)) tNil))) (tCons (tTup (tCons (tC (.str "days")) (tCons (tC (.int 1)) tNil))) tNil))) (tCons (tLst (tCons (tTup (tCons (tC (.str "work")) (tCons (tC (.int 1)) (tCons (tTup (tCons (tC (.str "starts")) tNil)) tNil)))) tNil)) tNil)))) (gName 1))
      (tSeq (tAsg (tLc (iList K (tVar 1)) (gName 3) tYes (tCall (sp_ladder_of K) [] E0 (tCons (tVar 0) (tCons (tVar 3) tNil))) [3]) (gName 2))
      (tSeq (tIfS (tTest (tOp (rNeG K) (tVar 2) (tOp rMulG (tSl (rSlG K) (tVar 2) tNoPart (tPart (tC (.int 1)))) (tC (.int 3))))) (tRet (tC (.bl false))) tNext)
      (tRet (tCall (sp_never_later K) [] E0 (tCons (tVar 0) (tCons (tLst (tCons (tTup (tCons (tC (.str "to")) (tCons (tTup (tCons (tC (.str "ends")) tNil)) tNil))) tNil)) (tCons (tLst (tCons (tTup (tCons (tC (.str "work")) (tCons (tC (.int 1)) (tCons (tTup (tCons (tC (.str "starts")) tNil)) tNil)))) tNil)) tNil))))))))
theorem ok_law_later_date {P : Program} {w : World} {K : Fr} {mg : Str → Option Value} {base : Heap} (T : Txt K mg) : Has P w K mg base 1 (He.ga K "_law_later_date") ["_law_years_here", "_law_date", "_law_number"] (sp_law_later_date K) := by
  obtain ⟨fd, F⟩ := T.says.def_ 79 (d := d_law_later_date) rfl
  have F : FunD K "_law_later_date" "_law_later_date" (defArgs s_law_later_date) (defBody s_law_later_date) (defScope s_law_later_date) [] [] (He.ga K "_law_later_date") fd := F
  skip
  refine ⟨F.kp, fd, ?_, F.bindsN fun _ _ _ _ _ _ us hl => match us, hl with | [_, _, _], _ => rfl⟩
  refine ok_of F c_law_later_date (by (intro ds d h; exact h.len)) fun cdv A outer s H E hr => ⟨t_law_later_date K, PSs.nox
      (pss_cons (ps_asg (pv 1) (pg_tup (by rfl) (pgs_cons (pg_name (i := 3) c_law_later_date.nd rfl (Or.inl rfl)) (pgs_cons (pg_name (i := 4) c_law_later_date.nd rfl (Or.inl rfl)) (pgs_cons (pg_name (i := 5) c_law_later_date.nd rfl (Or.inl rfl)) pgs_nil)))))
      (pss_cons (ps_set (i := 6) c_law_later_date.nd rfl (Or.inl rfl) (pe_ix ix_G (pv 0) (pe_op op_modG (pe_callTy c_int (by rfl) (z_int T) (by decide +kernel) (pa_cons (pe_op op_addG (pv 3) (pv 2)) pa_nil)) (pe_callB c_len (by rfl) (z_len T) (by decide +kernel) (pa_cons (pv 0) pa_nil))) (fun _ _ => rfl)))
      (pss_cons (ps_if (pt_cmpR op_geG (pv 4) (pe_callB c_len (by rfl) (z_len T) (by decide +kernel) (pa_cons (pv 6) pa_nil)) (nomark _)) (pss_one (ps_ret (pe_tup (pa_cons (pe_op op_addG (pv 3) (pv 2)) (pa_cons (pe_op op_subG (pe_callB c_len (by rfl) (z_len T) (by decide +kernel) (pa_cons (pv 6) pa_nil)) pe_int) (pa_cons (pe_op op_subG (pe_ix ix_G (pv 6) (pe_un un_neg pe_int) (fun _ _ => rfl)) pe_int) pa_nil)))))) pss_nil)
      (pss_one (ps_ret (pe_tup (pa_cons (pe_op op_addG (pv 3) (pv 2)) (pa_cons (pv 4) (pa_cons (pe_callB (c_min2 rfl) (by rfl) (z_min T) (by decide +kernel) (pa_cons (pv 5) (pa_cons (pe_op op_subG (pe_ix ix_G (pv 6) (pv 4) (fun _ _ => rfl)) pe_int) pa_nil))) pa_nil))))))))), fun ds d hF => ?_⟩
  obtain ⟨a, b, c, rfl, ys, x, n, h, rfl, rfl, rfl, rfl⟩ := hF.ex
  walk_at "env"
  generalize hq : yof ys (mon ys x) + n = q
  generalize hm : mof ys (mon ys x) = m
  have hyp := yc_pos h q
  have hll : (((yr ys q).map fun i => Dt.int (i : Nat)).length : Int) = ((yc ys q : Nat) : Int) := by rw [List.length_map]; rfl
  refine q_asg (ev_var rfl) (gv_tup (gv_cons gv_name (gv_cons gv_name (gv_cons gv_name gv_nil))) rfl) ?_
  have ey : ∀ {env : Env}, env[3]? = some (some (.int (yof ys (mon ys x) : Nat))) → env[2]? = some (some (.int (n : Nat))) → EV K (tOp rAddG (tVar 3) (tVar 2)) env (.int (q : Nat)) := fun e1 e2 => ev_is (ev_op (ev_var e1) (ev_var e2) rd_addI) (by rw [← hq]; rfl)
  refine q_set (d := natL (yr ys q)) (yq_at (i := 0) h (ev_var rfl) (ey rfl rfl)) ?_
  by_cases w : yc ys q ≤ m
  · refine q_yes (et_is (et_test (ev_op (ev_var rfl) (ev_cb (ea_cons (ev_var rfl) ea_nil) rc_lenL) rd_geG)) ?_) ?_
    · rw [hll, hm]
      exact decide_eq_true (Int.ofNat_le.mpr w)
    refine q_ret (ev_tup (ea_cons (ey rfl rfl) (ea_cons (ev_is (d1 := .int (cm ys q m : Nat)) (ev_op (ev_cb (ea_cons (ev_var rfl) ea_nil) rc_lenL) ev_int rd_subG) ?_) (ea_cons (ev_is (d1 := .int (cp ys q m (pl ys x) : Nat)) (ev_op (ev_op (ev_var rfl) (ev_neg ev_int) (rd_ixL (last_at h q))) ev_int rd_subG) ?_) ea_nil))) (by simp)) ?_
    · rw [hll]
      congr 1
      unfold cm; omega
    · have e : cm ys q m = yc ys q - 1 := by unfold cm; omega
      have e2 : cp ys q m (pl ys x) = ml ys (yst ys q + (yc ys q - 1)) - 1 := by unfold cp; rw [if_pos w, e]
      rw [e2]
      congr 1
      have := ml_pos h (yst ys q + (yc ys q - 1))
      omega
    · unfold owedD; rw [hq, hm]
  · refine q_no (et_is (et_test (ev_op (ev_var rfl) (ev_cb (ea_cons (ev_var rfl) ea_nil) rc_lenL) rd_geG)) ?_) ?_
    · rw [hll, hm]
      exact decide_eq_false fun z => w (Int.ofNat_le.mp z)
    have hmq : m < yc ys q := by omega
    have e : cm ys q m = m := by unfold cm; omega
    refine l_ret (ev_tup (ea_cons (ey rfl rfl) (ea_cons (ev_is (d1 := .int (cm ys q m : Nat)) (ev_var rfl) (by rw [hm, e])) (ea_cons (ev_is (d1 := .int (cp ys q m (pl ys x) : Nat)) (ev_cb (ea_cons (ev_var rfl) (ea_cons (ev_op (ev_op (ev_var rfl) (ev_is (ev_var rfl) (by rw [hm])) (rd_ixL (at_months h hmq))) ev_int rd_subG) ea_nil)) rc_min2) ?_) ea_nil))) (by simp)) ?_
    · have e2 : cp ys q m (pl ys x) = min (pl ys x) (ml ys (yst ys q + m) - 1) := by unfold cp; rw [if_neg w, e]
      rw [e2]
      congr 1
      have := ml_pos h (yst ys q + m)
      omega
    · unfold owedD; rw [hq, hm]
theorem ok_law_one_right {P : Program} {w : World} {K : Fr} {mg : Str → Option Value} {base : Heap} (T : Txt K mg) : Has P w K mg base 19 (He.ga K "_law_one_right") ["_law_made", "_law_calendar_here", "_law_years_here", "_law_day", "_law_number"] (sp_law_one_right K) := by
  obtain ⟨fd, F⟩ := T.says.def_ 80 (d := d_law_one_right) rfl
  have F : FunD K "_law_one_right" "_law_one_right" (defArgs s_law_one_right) (defBody s_law_one_right) (defScope s_law_one_right) [] [] (He.ga K "_law_one_right") fd := F
  obtain ⟨kp_Calendar_date, fd_Calendar_date, G_Calendar_date, b_Calendar_date⟩ := ok_Calendar_date (P := P) (w := w) (base := base) T
  obtain ⟨kp_Calendar_day, fd_Calendar_day, G_Calendar_day, b_Calendar_day⟩ := ok_Calendar_day (P := P) (w := w) (base := base) T
  obtain ⟨kp_law_later_date, fd_law_later_date, G_law_later_date, b_law_later_date⟩ := ok_law_later_date (P := P) (w := w) (base := base) T
  obtain ⟨kp_due, fd_due, G_due, b_due⟩ := ok_due (P := P) (w := w) (base := base) T
  obtain ⟨kp_value, fd_value, G_value, b_value⟩ := ok_value (P := P) (w := w) (base := base) T
  obtain ⟨kp_Calendar_months_on, fd_Calendar_months_on, G_Calendar_months_on, b_Calendar_months_on⟩ := ok_Calendar_months_on (P := P) (w := w) (base := base) T
  obtain ⟨kp_Calendar_months, fd_Calendar_months, G_Calendar_months, b_Calendar_months⟩ := ok_Calendar_months (P := P) (w := w) (base := base) T
  refine ⟨F.kp, fd, ?_, F.bindsN fun _ _ _ _ _ _ us hl => match us, hl with | [_, _, _, _, _], _ => rfl⟩
  refine ok_of F c_law_one_right (by (intro ds d h; exact h.len)) fun cdv A outer s H E hr => ⟨t_law_one_right K, PSs.nox
      (pss_cons (ps_par (i := 5) (j := 6) (by rfl) c_law_one_right.nd rfl rfl (by decide) rfl rfl (pa_cons (pe_call G_due (hr.mono (by decide)) (by rfl) (m_due T) kp_due b_due .nil pass0 (pa_cons (pv 0) (pa_cons (pe_lst (pa_cons (pe_tup (pa_cons pe_str (pa_cons (pv 4) pa_nil))) pa_nil)) (pa_cons (pv 3) pa_nil)))) (pa_cons (pe_meth0 (pv 1) (k_Calendar T) (mt_Calendar_months T) G_Calendar_months (hr.mono (by decide)) b_Calendar_months .nil pass0) pa_nil)) (by rfl))
      (pss_cons (ps_if (PW.pt (pw_or (pt_cmpR (op_neG hr.units) (pe_call G_value (hr.mono (by decide)) (by rfl) (m_value T) kp_value b_value .nil pass0 (pa_cons (pv 6) (pa_cons (pv 5) pa_nil))) (pe_op op_addG (pe_call G_value (hr.mono (by decide)) (by rfl) (m_value T) kp_value b_value .nil pass0 (pa_cons (pv 6) (pa_cons (pv 3) pa_nil))) (pv 4)) (nomark _)) (pw_or1 (pt_cmpR (op_neG hr.units) (pv 5) (pe_call G_value (hr.mono (by decide)) (by rfl) (m_value T) kp_value b_value .nil pass0 (pa_cons (pe_meth (pv 1) (k_Calendar T) (mt_Calendar_months_on T) G_Calendar_months_on (hr.mono (by decide)) b_Calendar_months_on .nil pass0 (pa_cons (pv 4) pa_nil)) (pa_cons (pv 3) pa_nil))) (nomark _))))) (pss_one (ps_ret pe_bl)) pss_nil)
      (pss_cons (ps_par (i := 7) (j := 8) (by rfl) c_law_one_right.nd rfl rfl (by decide) rfl rfl (pa_cons (pe_ix ix_G (pe_meth (pv 1) (k_Calendar T) (mt_Calendar_date T) G_Calendar_date (hr.mono (by decide)) b_Calendar_date .nil pass0 (pa_cons (pv 3) pa_nil)) pe_int (fun _ _ => rfl)) (pa_cons (pe_meth (pv 1) (k_Calendar T) (mt_Calendar_date T) G_Calendar_date (hr.mono (by decide)) b_Calendar_date .nil pass0 (pa_cons (pv 5) pa_nil)) pa_nil)) (by rfl))
      (pss_cons (ps_set (i := 9) c_law_one_right.nd rfl (Or.inl rfl) (pe_ix ix_G (pe_ix ix_G (pv 2) (pe_op op_modG (pe_callTy c_int (by rfl) (z_int T) (by decide +kernel) (pa_cons (pe_ix ix_G (pv 8) pe_int (fun _ _ => rfl)) pa_nil)) (pe_callB c_len (by rfl) (z_len T) (by decide +kernel) (pa_cons (pv 2) pa_nil))) (fun _ _ => rfl)) (pe_ix ix_G (pv 8) pe_int (fun _ _ => rfl)) (fun _ _ => rfl)))
      (pss_cons (ps_if (pt_cmpR (op_neG hr.units) (pe_ix ix_G (pv 8) pe_int (fun _ _ => rfl)) (pe_callB (c_min2 rfl) (by rfl) (z_min T) (by decide +kernel) (pa_cons (pv 7) (pa_cons (pe_op op_subG (pv 9) pe_int) pa_nil))) (nomark _)) (pss_one (ps_ret pe_bl)) pss_nil)
      (pss_cons (ps_set (i := 5) c_law_one_right.nd rfl (Or.inl rfl) (pe_call G_due (hr.mono (by decide)) (by rfl) (m_due T) kp_due b_due .nil pass0 (pa_cons (pv 0) (pa_cons (pe_lst (pa_cons (pe_tup (pa_cons pe_str (pa_cons (pv 4) pa_nil))) pa_nil)) (pa_cons (pv 3) pa_nil)))))
      (pss_cons (ps_set (i := 10) c_law_one_right.nd rfl (Or.inl rfl) (pe_call G_law_later_date (hr.mono (by decide)) (by rfl) (m_law_later_date T) kp_law_later_date b_law_later_date .nil pass0 (pa_cons (pv 2) (pa_cons (pe_meth (pv 1) (k_Calendar T) (mt_Calendar_date T) G_Calendar_date (hr.mono (by decide)) b_Calendar_date .nil pass0 (pa_cons (pv 3) pa_nil)) (pa_cons (pv 4) pa_nil)))))
      (pss_one (ps_ret (pe_and (pe_cmpR (op_eqG hr.units) (pe_meth (pv 1) (k_Calendar T) (mt_Calendar_date T) G_Calendar_date (hr.mono (by decide)) b_Calendar_date .nil pass0 (pa_cons (pv 5) pa_nil)) (pv 10) (nomark _)) (pe_one (pe_cmpR (op_eqG hr.units) (pe_meth (pv 1) (k_Calendar T) (mt_Calendar_day T) G_Calendar_day (hr.mono (by decide)) b_Calendar_day .nil pass0 (pa_cons (pv 10) pa_nil)) (pv 5) (nomark _))))))))))))), fun ds d hF => ?_⟩
  obtain ⟨a, b, c, e, f, rfl, ys, x, n, h, rfl, rfl, rfl, rfl, rfl, rfl⟩ := hF.ex
  walk_at "env"
  have hN := NN_le h
  have hN0 := NN_pos h
  have hT := TT_le h
  obtain ⟨m1, m2⟩ := mo_mon h n x
  obtain ⟨y1, y2, y3⟩ := yo_date h n x
  have LM : Lad (loc (ml ys)) (TT ys) (NN ys) := ⟨mon_per h, TT_pos h, loc_mono (ml_pos h)⟩
  obtain ⟨k1, r1, c1, l1, a1, b1, d1⟩ := canon_lad LM (by omega) hN0 (by omega)
  have RM := R1.mo h n
  have qM := RM.mp
  have dM : runS ys [.months n] = mo ys n := rfl
  have dY : runS ys [.years n] = yo ys n := rfl
  refine q_par (d1 := .int (mo ys n x : Nat)) (d2 := canon (loc (ml ys))) (ea_cons (ev_call (ea_cons (ev_var rfl) (ea_cons (ev_lst (ds := [Stp.D (.months n)]) (ea_cons (ev_tup (ea_cons ev_str (ea_cons (ev_var rfl) ea_nil)) (by simp)) ea_nil) (by simp)) (ea_cons (ev_var rfl) ea_nil))) ⟨ys, [.months n], x, h, rfl, rfl, by simp, rfl, rfl⟩) (ea_cons (cal_meth rfl rfl ea_nil ⟨ys, h, rfl, rfl⟩) ea_nil)) ?_
  have vb : ∀ {env : Env} {i : Nat} {z : Nat}, env[6]? = some (some (canon (loc (ml ys)))) → env[i]? = some (some (.int (z : Nat))) → EV K (tCall (sp_value K) [] E0 (tCons (tVar 6) (tCons (tVar i) tNil))) env (.int (loc (ml ys) z : Nat)) := fun e1 e2 =>
    ev_call (ea_cons (ev_var e1) (ea_cons (ev_var e2) ea_nil)) ⟨loc (ml ys), k1, r1, _, c1, l1, by omega, by omega, rfl, rfl⟩
  refine q_no (et_is (et_or (a := false) (b := false) (et_is (et_test (ev_op (vb rfl rfl) (ev_op (vb rfl rfl) (ev_var rfl) rd_addI) rd_neI)) ?_) fun _ => et_is (et_test (ev_op (ev_var rfl) (ev_call (d := .int (mo ys n x : Nat)) (ea_cons (cal_meth (d := canon (mo ys n)) rfl rfl (ea_cons (ev_var rfl) ea_nil) ⟨ys, n, h, rfl, rfl, rfl⟩) (ea_cons (ev_var rfl) ea_nil)) ⟨mo ys n, _, _, x, RM.canon, RM.lad, by omega, by omega, rfl, rfl⟩) rd_neI)) ?_) rfl) ?_
  · have : loc (ml ys) (mo ys n x) = loc (ml ys) x + n := m1
    rw [this]; simp
  · simp
  refine q_par (d1 := .int (pl ys x : Nat)) (d2 := dateD ys (mo ys n x)) (ea_cons (ev_op (cal_meth (d := dateD ys x) rfl rfl (ea_cons (ev_var rfl) ea_nil) ⟨ys, x, h, rfl, rfl, rfl⟩) ev_int (rd_ixT (atI_nat (j := 2) rfl))) (ea_cons (cal_meth rfl rfl (ea_cons (ev_var rfl) ea_nil) ⟨ys, mo ys n x, h, rfl, rfl, rfl⟩) ea_nil)) ?_
  have hml : ml ys (yst ys (yof ys (mon ys (mo ys n x))) + mof ys (mon ys (mo ys n x))) = ml ys (mon ys x + n) := by
    have := (loc_spec (yc_pos h) (mon ys (mo ys n x))).1
    rw [show yst ys (yof ys (mon ys (mo ys n x))) + mof ys (mon ys (mo ys n x)) = mon ys (mo ys n x) from by show sm (yc ys) (loc (yc ys) (mon ys (mo ys n x))) + (mon ys (mo ys n x) - sm (yc ys) (loc (yc ys) (mon ys (mo ys n x)))) = _; omega, m1]
  refine q_set (d := .int (ml ys (mon ys x + n) : Nat)) (ev_is (ev_op (yq_at (i := 2) h (ev_var rfl) (ev_at (j := 0) rfl rfl)) (ev_at (j := 1) rfl rfl) (rd_ixL (at_months h (mof_lt h _)))) (by rw [hml])) ?_
  refine q_no (et_is (et_test (ev_op (ev_at (j := 2) rfl rfl) (ev_cb (ea_cons (ev_var rfl) (ea_cons (ev_op (ev_var rfl) ev_int rd_subG) ea_nil)) rc_min2) rd_neI)) ?_) ?_
  · have e : pl ys (mo ys n x) = min (pl ys x) (ml ys (mon ys x + n) - 1) := m2
    have := ml_pos h (mon ys x + n)
    rw [show ((pl ys (mo ys n x) : Nat) : Int) = min ((pl ys x : Nat) : Int) (((ml ys (mon ys x + n) : Nat) : Int) - 1) from by rw [e]; omega]
    simp
  refine q_set (d := .int (yo ys n x : Nat)) (ev_call (ea_cons (ev_var rfl) (ea_cons (ev_lst (ds := [Stp.D (.years n)]) (ea_cons (ev_tup (ea_cons ev_str (ea_cons (ev_var rfl) ea_nil)) (by simp)) ea_nil) (by simp)) (ea_cons (ev_var rfl) ea_nil))) ⟨ys, [.years n], x, h, rfl, rfl, by simp, rfl, rfl⟩) ?_
  refine q_set (d := owedD ys n x) (ev_call (ea_cons (ev_var rfl) (ea_cons (cal_meth (d := dateD ys x) rfl rfl (ea_cons (ev_var rfl) ea_nil) ⟨ys, x, h, rfl, rfl, rfl⟩) (ea_cons (ev_var rfl) ea_nil))) ⟨ys, x, n, h, rfl, rfl, rfl, rfl⟩) ?_
  refine l_ret (ev_and (a := true) (b := true) (ev_op (cal_meth (d := owedD ys n x) rfl rfl (ea_cons (ev_var rfl) ea_nil) ⟨ys, yo ys n x, h, rfl, rfl, ?_⟩) (ev_var rfl) (rd_eqRefl (smp_date _ _ _) (by decide))) fun _ => ev_is (ev_op (cal_meth (d := .int (yo ys n x : Nat)) rfl rfl (ea_cons (ev_var rfl) ea_nil) ⟨ys, _, _, _, h, rfl, rfl, cm_lt h _ _, cp_lt h _ _ _, rfl⟩) (ev_var rfl) rd_eqI) ?_) rfl
  · unfold owedD dateD
    rw [y1, y2, y3]
  · simp
theorem ok_law_month_ends_right {P : Program} {w : World} {K : Fr} {mg : Str → Option Value} {base : Heap} (T : Txt K mg) : Has P w K mg base 21 (He.ga K "_law_month_ends_right") ["_law_made"] (sp_law_month_ends_right K) := by
  obtain ⟨fd, F⟩ := T.says.def_ 82 (d := d_law_month_ends_right) rfl
  have F : FunD K "_law_month_ends_right" "_law_month_ends_right" (defArgs s_law_month_ends_right) (defBody s_law_month_ends_right) (defScope s_law_month_ends_right) [] [] (He.ga K "_law_month_ends_right") fd := F
  obtain ⟨kp_never_later, fd_never_later, G_never_later, b_never_later⟩ := ok_never_later (P := P) (w := w) (base := base) T
  obtain ⟨kp_ladder_of, fd_ladder_of, G_ladder_of, b_ladder_of⟩ := ok_ladder_of (P := P) (w := w) (base := base) T
  refine ⟨F.kp, fd, ?_, F.bindsN fun _ _ _ _ _ _ us hl => match us, hl with | [_], _ => rfl⟩
  refine ok_of F c_law_month_ends_right (by (intro ds d h; exact h.len)) fun cdv A outer s H E hr => ⟨t_law_month_ends_right K, PSs.nox
      (pss_cons (ps_set (i := 1) c_law_month_ends_right.nd rfl (Or.inl rfl) (pe_lst (pa_cons (pe_lst (pa_cons (pe_tup (pa_cons pe_str (pa_cons pe_int pa_nil))) (pa_cons (pe_tup (pa_cons pe_str (pa_cons (pe_tup (pa_cons pe_str pa_nil)) pa_nil))) pa_nil))) (pa_cons (pe_lst (pa_cons (pe_tup (pa_cons pe_str (pa_cons (pe_tup (pa_cons pe_str pa_nil)) pa_nil))) (pa_cons (pe_tup (pa_cons pe_str (pa_cons pe_int pa_nil))) pa_nil))) (pa_cons (pe_lst (pa_cons (pe_tup (pa_cons pe_str (pa_cons pe_int (pa_cons (pe_tup (pa_cons pe_str pa_nil)) pa_nil)))) pa_nil)) pa_nil)))))
      (pss_cons (ps_setLc (i := 2) (own := [("_law_way", 3)]) (wi := (iList K (tVar 1))) (g := (gName 3)) (tt := tYes) (te := (tCall (sp_ladder_of K) [] E0 (tCons (tVar 0) (tCons (tVar 3) tNil)))) (by rfl) c_law_month_ends_right.nd rfl rfl (sw_true rfl rfl rfl (by decide +kernel)) (pi_list (pv 1)) (blkOk_by (own := [("_law_way", 3)]) (N := ["_law_made", "_law_ways", "_law_ladders_here", "_law_way"]) (sc := defScope s_law_month_ends_right) (by decide +kernel)) (fun _ _ _ _ _ => (pg_name (i := 3) c_law_month_ends_right.nd rfl (Or.inl rfl))) (fun _ _ _ _ _ => pts_nil) (fun _ _ _ _ _ => (pe_call G_ladder_of (hr.mono (by decide)) (by rfl) (m_ladder_of T) kp_ladder_of b_ladder_of .nil pass0 (pa_cons (pv 0) (pa_cons (pv 3) pa_nil)))))
      (pss_cons (ps_if (pt_cmpR (op_neG hr.units) (pv 2) (pe_op op_mulG (pe_slice sl_G (pv 2) po_none (po_some pe_int)) pe_int) (nomark _)) (pss_one (ps_ret pe_bl)) pss_nil)
      (pss_one (ps_ret (pe_call G_never_later (hr.mono (by decide)) (by rfl) (m_never_later T) kp_never_later b_never_later .nil pass0 (pa_cons (pv 0) (pa_cons (pe_lst (pa_cons (pe_tup (pa_cons pe_str (pa_cons (pe_tup (pa_cons pe_str pa_nil)) pa_nil))) pa_nil)) (pa_cons (pe_lst (pa_cons (pe_tup (pa_cons pe_str (pa_cons pe_int (pa_cons (pe_tup (pa_cons pe_str pa_nil)) pa_nil)))) pa_nil)) pa_nil))))))))), fun ds d hF => ?_⟩
  obtain ⟨a, rfl, ys, h, rfl, rfl⟩ := hF.ex
  walk_at "env"
  have w1 : runS ys [.days 1, .to .starts] = runS ys [.work] := rfl
  have w2 : runS ys [.to .ends, .days 1] = runS ys [.work] := by
    funext x
    show nthS (enS (ml ys)) (cnt (enS (ml ys)) x) + 1 = nthS (stS (ml ys)) (cnt (stS (ml ys)) (x + 1))
    rw [nx_en (ml_pos h), nx_st (ml_pos h)]
    have : 0 < sm (ml ys) (loc (ml ys) x + 1) := Nat.lt_of_le_of_lt (Nat.zero_le _) (sm_lt (ml_pos h) (show 0 < loc (ml ys) x + 1 by omega))
    omega
  have eto : ∀ {env : Env} {f : Fst}, EV K (tTup (tCons (tC (.str "to")) (tCons (tTup (tCons (tC (.str f.w)) tNil)) tNil))) env (Stp.D (.to f)) := fun {env f} => ev_tup (ds := [.str "to", f.D]) (ea_cons ev_str (ea_cons (ev_tup (ea_cons ev_str ea_nil) (by simp)) ea_nil)) (by simp)
  have ewk : ∀ {env : Env}, EV K (tTup (tCons (tC (.str "work")) (tCons (tC (.int 1)) (tCons (tTup (tCons (tC (.str "starts")) tNil)) tNil)))) env (Stp.D .work) := ev_tup (ds := [.str "work", .int 1, Fst.starts.D]) (ea_cons ev_str (ea_cons ev_int (ea_cons (ev_tup (ea_cons ev_str ea_nil) (by simp)) ea_nil))) (by simp)
  have edy : ∀ {env : Env}, EV K (tTup (tCons (tC (.str "days")) (tCons (tC (.int 1)) tNil))) env (Stp.D (.days 1)) := ev_tup (ds := [.str "days", .int 1]) (ea_cons ev_str (ea_cons ev_int ea_nil)) (by simp)
  refine q_set (d := .lst [termD [.days 1, .to .starts], termD [.to .ends, .days 1], termD [.work]]) (ev_lst (ea_cons (ev_lst (ea_cons edy (ea_cons (eto (f := .starts)) ea_nil)) (by simp)) (ea_cons (ev_lst (ea_cons (eto (f := .ends)) (ea_cons edy ea_nil)) (by simp)) (ea_cons (ev_lst (ea_cons ewk ea_nil) (by simp)) ea_nil))) (by simp)) ?_
  refine q_set (d := .lst [canon (runS ys [.work]), canon (runS ys [.work]), canon (runS ys [.work])]) (ev_lcx (iv_list (ev_var rfl)) (by simp) (gk_name (by decide)) rfl fun i d hd => ?_) ?_
  · rcases i with _ | _ | _ | i
    · cases hd
      exact ⟨_, _, gv_name, rfl, ev_call (ea_cons (ev_var rfl) (ea_cons (ev_var rfl) ea_nil)) ⟨ys, _, h, rfl, rfl, by decide, by rw [w1]⟩⟩
    · cases hd
      exact ⟨_, _, gv_name, rfl, ev_call (ea_cons (ev_var rfl) (ea_cons (ev_var rfl) ea_nil)) ⟨ys, _, h, rfl, rfl, by decide, by rw [w2]⟩⟩
    · cases hd
      exact ⟨_, _, gv_name, rfl, ev_call (ea_cons (ev_var rfl) (ea_cons (ev_var rfl) ea_nil)) ⟨ys, _, h, rfl, rfl, by decide, rfl⟩⟩
    · simp at hd
  have s3 : Smp 3 (.lst [canon (runS ys [.work]), canon (runS ys [.work]), canon (runS ys [.work])]) := .lst fun d hd => by
    have : d = canon (runS ys [.work]) := by simpa using hd
    rw [this]; exact canon_smp
  refine q_no (et_test (ev_op (ev_var rfl) (ev_is (ev_op (ev_slL (ev_var rfl) eo_none (eo_some ev_int)) ev_int (rd_repL (by decide) (by decide) (by rw [show (some (1 : Int)) = some ((1 : Nat) : Int) from rfl, cut_to]; simp))) ?_) (rd_neRefl s3 (by decide)))) ?_
  · rw [show (some (1 : Int)) = some ((1 : Nat) : Int) from rfl, cut_to]; rfl
  refine l_ret (ev_call (d := .bl true) (ea_cons (ev_var rfl) (ea_cons (ev_lst (ds := [Stp.D (.to .ends)]) (ea_cons (eto (f := .ends)) ea_nil) (by simp)) (ea_cons (ev_lst (ds := [Stp.D .work]) (ea_cons ewk ea_nil) (by simp)) ea_nil))) ⟨ys, [.to .ends], [.work], h, rfl, rfl, rfl, by decide, by decide, fun x => ?_, rfl⟩) rfl
  have := congrFun w2 x
  rw [← this]
  exact Nat.le_succ _
end Lk
set_option Elab.async false
set_option linter.all false
set_option maxRecDepth 100000
set_option maxHeartbeats 4000000
namespace Lk
open PySem L2
local macro_rules | `(tactic| walk_at "ev1") => `(tactic| first
  | ((with_reducible apply ev_var); exact rfl)
  | with_reducible exact ev_int | with_reducible exact ev_str | with_reducible exact ev_bl | with_reducible exact ev_non | with_reducible exact ea_nil | with_reducible apply ea_cons
  | with_reducible exact rd_addI | with_reducible exact rd_subG | with_reducible exact rd_ltG | with_reducible exact rd_leG | with_reducible exact rd_gtG | with_reducible exact rd_geG | with_reducible exact rd_eqI | with_reducible exact rd_neI | with_reducible exact rd_eqS
  | with_reducible exact rc_lenL | with_reducible exact rc_lenT | with_reducible exact rc_max2 | with_reducible exact rc_min2 | with_reducible exact rc_abs | with_reducible exact rc_intI | with_reducible exact rc_intB | with_reducible exact rc_listL | with_reducible exact rc_tupleL | with_reducible exact rc_all | with_reducible exact rc_sum
  | with_reducible exact gv_name | with_reducible exact gv_nil | with_reducible apply gv_cons | ((with_reducible apply gv_tup) <;> try exact rfl)
  | with_reducible apply rd_mulI | with_reducible apply rd_fdivG | with_reducible apply rd_modG | with_reducible apply rc_divmod | with_reducible apply rd_ixL | with_reducible apply rd_ixT | with_reducible apply rd_addL
  | with_reducible apply ev_tup | with_reducible apply ev_lst | with_reducible apply ev_op | with_reducible apply ev_cb | with_reducible exact eo_none | with_reducible apply eo_some | with_reducible apply ev_neg
  | with_reducible apply et_test | with_reducible apply et_B | with_reducible apply et_not | exact Nat.le_of_ble_eq_true rfl)
local macro_rules | `(tactic| walk_at "ev") => `(tactic| repeat' (walk_at "ev1"))
local macro_rules | `(tactic| walk_at "env") => `(tactic| simp only [rep, ladD, setS, setC, env0, List.map_cons, List.map_nil, List.length_cons, List.length_nil, Nat.reduceAdd, Nat.reduceSub, List.replicate_succ, List.replicate_zero, List.cons_append, List.nil_append])
-- IMPORTS LkE1
theorem flat_len : ∀ {ls : List (List Nat)}, (∀ l ∈ ls, l.length ≤ 3) → (ls.flatMap fun l => l.map fun (i : Nat) => Dt.int (i : Nat)).length ≤ 3 * ls.length
  | [], _ => Nat.le_refl _
  | l :: ls, h => by
    have h1 := h l List.mem_cons_self
    have h2 := flat_len (ls := ls) fun x hx => h x (List.mem_cons_of_mem _ hx)
    rw [List.flatMap_cons, List.length_append, List.length_map, List.length_cons]
    omega
theorem lens_flat {ys : Yrs} (h : YOk ys) : (ys.map natL).map (fun d => match d with | .lst l => Dt.int (l.length : Nat) | d => d) = (tab (yc ys) ys.length).map Dt.int := by
  rw [List.map_map]
  conv => lhs; rw [ys_eq h]
  unfold tab
  rw [List.map_map, List.map_map]
  apply List.map_congr_left
  intro q _
  show Dt.int ((((yr ys q).map fun i => Dt.int (i : Nat)).length : Nat) : Int) = _
  rw [List.length_map]; rfl
def WM (m : Bool) : Str := bif m then "months" else "years"
def mkM (m : Bool) (n : Nat) : Stp := bif m then .months n else .years n
theorem mkM_D (m : Bool) (n : Nat) : Stp.D (mkM m n) = .tup [.str (WM m), .int (n : Nat)] := by cases m <;> rfl
theorem all_ml {ys : Yrs} (h : YOk ys) (e : ∀ x ∈ tab (ml ys) (NN ys), ∀ y ∈ tab (ml ys) (NN ys), x = y) : ∃ l, ∀ k, ml ys k = l := by
  have hN := NN_pos h
  have mem : ∀ k, ((ml ys (k % NN ys) : Nat) : Int) ∈ tab (ml ys) (NN ys) := fun k => List.mem_map.mpr ⟨k % NN ys, List.mem_range.mpr (Nat.mod_lt _ hN), rfl⟩
  refine ⟨ml ys 0, fun k => ?_⟩
  have := e _ (mem k) _ (mem 0)
  rw [mod_ml h k, mod_ml h 0]
  omega
theorem all_yc {ys : Yrs} (h : YOk ys) (e : ∀ x ∈ tab (yc ys) ys.length, ∀ y ∈ tab (yc ys) ys.length, x = y) : ∀ q, yc ys q = yc ys 0 := by
  have hN := len_pos h
  have mem : ∀ k, ((yc ys (k % ys.length) : Nat) : Int) ∈ tab (yc ys) ys.length := fun k => List.mem_map.mpr ⟨k % ys.length, List.mem_range.mpr (Nat.mod_lt _ hN), rfl⟩
  intro k
  have := e _ (mem k) _ (mem 0)
  rw [mod_yc h k, mod_yc h 0]
  omega
theorem tab_ne' {f : Nat → Nat} {n : Nat} (h : 0 < n) : tab f n ≠ [] := fun e => by
  have := congrArg List.length e
  rw [tab_len] at this
  simp at this; omega
theorem ok_law_ways_right {P : Program} {w : World} {K : Fr} {mg : Str → Option Value} {base : Heap} (T : Txt K mg) : Has P w K mg base 21 (He.ga K "_law_ways_right") ["_law_made", "_law_calendar_here", "_law_years_here", "_law_pair"] (sp_law_ways_right K) := by
  obtain ⟨fd, F⟩ := T.says.def_ 81 (d := d_law_ways_right) rfl
  have F : FunD K "_law_ways_right" "_law_ways_right" (defArgs s_law_ways_right) (defBody s_law_ways_right) (defScope s_law_ways_right) [] [] (He.ga K "_law_ways_right") fd := F
  obtain ⟨kp_ladder_of, fd_ladder_of, G_ladder_of, b_ladder_of⟩ := ok_ladder_of (P := P) (w := w) (base := base) T
  obtain ⟨kp_Calendar_years_on, fd_Calendar_years_on, G_Calendar_years_on, b_Calendar_years_on⟩ := ok_Calendar_years_on (P := P) (w := w) (base := base) T
  obtain ⟨kp_Calendar_months_on, fd_Calendar_months_on, G_Calendar_months_on, b_Calendar_months_on⟩ := ok_Calendar_months_on (P := P) (w := w) (base := base) T
  obtain ⟨kp_passing, fd_passing, G_passing, b_passing⟩ := ok_passing (P := P) (w := w) (base := base) T
  obtain ⟨kp_never_later, fd_never_later, G_never_later, b_never_later⟩ := ok_never_later (P := P) (w := w) (base := base) T
  refine ⟨F.kp, fd, ?_, F.bindsN fun _ _ _ _ _ _ us hl => match us, hl with | [_, _, _, _], _ => rfl⟩
  refine ok_of F c_law_ways_right (by (intro ds d h; exact h.len)) fun cdv A outer s H E hr => ⟨t_law_ways_right K, PSs.nox
      (pss_cons (ps_set (i := 4) c_law_ways_right.nd rfl (Or.inl rfl) (pe_lst pa_nil))
      (pss_cons (ps_for PassesOwn.never rfl (pi_list (pv 2)) (pg_name (i := 5) c_law_ways_right.nd rfl (Or.inl rfl)) (pss_one (ps_set (i := 4) c_law_ways_right.nd rfl (Or.inl rfl) (pe_op op_addG (pv 4) (pv 5)))))
      (pss_cons (ps_set (i := 6) c_law_ways_right.nd rfl (Or.inl rfl) (pe_sortset (by rfl) (z_sorted T) (by rfl) (z_set T) (pe_lc (own := [("_law_months_here", 5)]) (wi := (iList K (tVar 2))) (g := (gName 5)) (tt := tYes) (te := (tCB (rLenG K) (tCons (tVar 5) tNil))) (by rfl) c_law_ways_right.nd (pi_list (pv 2)) (blkOk_by (own := [("_law_months_here", 5)]) (N := ["_law_made", "_law_calendar_here", "_law_years_here", "_law_pair", "_law_lengths", "_law_months_here", "_law_counts_here", "_law_word", "_law_steps_here", "_law_is_even", "_law_more", "_law_number"]) (sc := defScope s_law_ways_right) (by decide +kernel)) (fun _ _ _ _ _ => (pg_name (i := 5) c_law_ways_right.nd rfl (Or.inl rfl))) (fun _ _ _ _ _ => pts_nil) (fun _ _ _ _ _ => (pe_callB c_len (by rfl) (z_len T) (by decide +kernel) (pa_cons (pv 5) pa_nil))))))
      (pss_cons (ps_for PassesOwn.never rfl (pi_tup (pe_tup (pa_cons pe_str (pa_cons pe_str pa_nil)))) (pg_name (i := 7) c_law_ways_right.nd rfl (Or.inr rfl)) (pss_cons (ps_setLc (i := 8) (own := [("_law_number", 11)]) (wi := (iList K (tVar 3))) (g := (gName 11)) (tt := tYes) (te := (tTup (tCons (tVar 7) (tCons (tVar 11) tNil)))) (by rfl) c_law_ways_right.nd rfl rfl (sw_true rfl rfl rfl (by decide +kernel)) (pi_list (pv 3)) (blkOk_by (own := [("_law_number", 11)]) (N := ["_law_made", "_law_calendar_here", "_law_years_here", "_law_pair", "_law_lengths", "_law_months_here", "_law_counts_here", "_law_word", "_law_steps_here", "_law_is_even", "_law_more", "_law_number"]) (sc := defScope s_law_ways_right) (by decide +kernel)) (fun _ _ _ _ _ => (pg_name (i := 11) c_law_ways_right.nd rfl (Or.inl rfl))) (fun _ _ _ _ _ => pts_nil) (fun _ _ _ _ _ => (pe_tup (pa_cons (pv 7) (pa_cons (pv 11) pa_nil)))))
      (pss_cons (ps_if (pt_not (pt_val (pe_call G_never_later (hr.mono (by decide)) (by rfl) (m_never_later T) kp_never_later b_never_later .nil pass0 (pa_cons (pv 0) (pa_cons (pv 8) (pa_cons (pe_lst (pa_cons (pe_tup (pa_cons (pv 7) (pa_cons (pe_op op_addG (pe_ix ix_G (pv 3) pe_int (fun _ _ => rfl)) (pe_ix ix_G (pv 3) pe_int (fun _ _ => rfl))) pa_nil))) pa_nil)) pa_nil)))))) (pss_one (ps_ret pe_bl)) pss_nil)
      (pss_cons (ps_set (i := 9) c_law_ways_right.nd rfl (Or.inl rfl) (pe_and (pe_cmpR (op_eqG hr.units) (pe_lenset (by rfl) (z_len T) (by rfl) (z_set T) (pv 4)) pe_int (nomark _)) (pe_one (pe_or (pe_cmpR (op_eqG hr.units) (pv 7) pe_str (nomark _)) (pe_one (pe_cmpR (op_eqG hr.units) (pe_callB c_len (by rfl) (z_len T) (by decide +kernel) (pa_cons (pv 6) pa_nil)) pe_int (nomark _)))))))
      (pss_one (ps_if (PW.pt (pw_and (pt_val (pv 9)) (pw_and1 (pt_not (pt_val (pe_call G_passing (hr.mono (by decide)) (by rfl) (m_passing T) kp_passing b_passing .nil pass0 (pa_cons (pv 0) (pa_cons (pe_slice sl_G (pv 8) po_none (po_some pe_int)) (pa_cons (pe_slice sl_G (pv 8) (po_some pe_int) po_none) pa_nil))))))))) (pss_one (ps_ret pe_bl)) pss_nil))))))
      (pss_cons (ps_if (pt_cmpR (op_neG hr.units) (pe_call G_ladder_of (hr.mono (by decide)) (by rfl) (m_ladder_of T) kp_ladder_of b_ladder_of .nil pass0 (pa_cons (pv 0) (pa_cons (pe_lst (pa_cons (pe_tup (pa_cons pe_str (pa_cons (pe_ix ix_G (pv 3) pe_int (fun _ _ => rfl)) pa_nil))) pa_nil)) pa_nil))) (pe_meth (pv 1) (k_Calendar T) (mt_Calendar_months_on T) G_Calendar_months_on (hr.mono (by decide)) b_Calendar_months_on .nil pass0 (pa_cons (pe_ix ix_G (pv 3) pe_int (fun _ _ => rfl)) pa_nil)) (nomark _)) (pss_one (ps_ret pe_bl)) pss_nil)
      (pss_cons (ps_if (pt_cmpR (op_neG hr.units) (pe_call G_ladder_of (hr.mono (by decide)) (by rfl) (m_ladder_of T) kp_ladder_of b_ladder_of .nil pass0 (pa_cons (pv 0) (pa_cons (pe_lst (pa_cons (pe_tup (pa_cons pe_str (pa_cons (pe_ix ix_G (pv 3) pe_int (fun _ _ => rfl)) pa_nil))) pa_nil)) pa_nil))) (pe_meth (pv 1) (k_Calendar T) (mt_Calendar_years_on T) G_Calendar_years_on (hr.mono (by decide)) b_Calendar_years_on .nil pass0 (pa_cons (pe_ix ix_G (pv 3) pe_int (fun _ _ => rfl)) pa_nil)) (nomark _)) (pss_one (ps_ret pe_bl)) pss_nil)
      (pss_cons (ps_if (pt_cmpR (op_eqG hr.units) (pe_callB c_len (by rfl) (z_len T) (by decide +kernel) (pa_cons (pv 6) pa_nil)) pe_int (nomark _)) (pss_cons (ps_set (i := 10) c_law_ways_right.nd rfl (Or.inl rfl) (pe_call G_ladder_of (hr.mono (by decide)) (by rfl) (m_ladder_of T) kp_ladder_of b_ladder_of .nil pass0 (pa_cons (pv 0) (pa_cons (pe_lst (pa_cons (pe_tup (pa_cons pe_str (pa_cons (pe_op op_mulG (pe_ix ix_G (pv 3) pe_int (fun _ _ => rfl)) (pe_callB c_len (by rfl) (z_len T) (by decide +kernel) (pa_cons (pe_ix ix_G (pv 2) pe_int (fun _ _ => rfl)) pa_nil))) pa_nil))) pa_nil)) pa_nil))))
      (pss_one (ps_if (pt_cmpR (op_neG hr.units) (pe_call G_ladder_of (hr.mono (by decide)) (by rfl) (m_ladder_of T) kp_ladder_of b_ladder_of .nil pass0 (pa_cons (pv 0) (pa_cons (pe_lst (pa_cons (pe_tup (pa_cons pe_str (pa_cons (pe_ix ix_G (pv 3) pe_int (fun _ _ => rfl)) pa_nil))) pa_nil)) pa_nil))) (pv 10) (nomark _)) (pss_one (ps_ret pe_bl)) pss_nil))) pss_nil)
      (pss_one (ps_ret pe_bl))))))))), fun ds d hF => ?_⟩
  obtain ⟨a, b, c, e, rfl, ys, x, y, h, rfl, rfl, rfl, rfl, rfl⟩ := hF.ex
  walk_at "env"
  have hN := NN_le h
  have hN0 := NN_pos h
  have hY := len_pos h
  have hY3 := h.few
  refine q_set (d := .lst []) (ev_lst ea_nil (by simp)) ?_
  refine q_for (items := ys.map natL) (iv_list (ev_var rfl)) (fun i e M => ∃ x5 : Option Dt, e = [some (almD K ys), some (calD K ys), some (yD ys), some (.lst [.int (x : Nat), .int (y : Nat)]), some (.lst ((ys.take i).flatMap fun l => l.map fun (j : Nat) => Dt.int (j : Nat))), x5, none, none, none, none, none, none] ∧ M = none) ⟨none, rfl, rfl⟩ ?_ ?_
  · rintro i d e M hd ⟨x5, rfl, rfl⟩
    rw [List.getElem?_map] at hd
    obtain ⟨l, hl, rfl⟩ := Option.map_eq_some_iff.mp hd
    have hl3 := (h.ms l (List.mem_of_getElem? hl)).2.1
    have hfl := flat_len (ls := ys.take i) fun l' hl' => (h.ms l' (List.mem_of_mem_take hl')).2.1
    rw [List.length_take] at hfl
    refine ⟨_, gv_name, l_q (q_set (ev_op (ev_var rfl) (ev_var rfl) (rd_addL (by rw [List.length_map]; omega))) (l_end ⟨some (natL l), ?_, rfl⟩))⟩
    rw [List.take_succ, hl, List.flatMap_append]
    simp
  rintro e M ⟨x5, rfl, rfl⟩
  rw [yD_len, List.take_length, flat_lens h]
  refine q_setN (evn_sortset (ns := tab (yc ys) ys.length) (ev_lc1 (items := ys.map natL) (fun d => match d with | .lst l => Dt.int (l.length : Nat) | d => d) (iv_list (ev_var rfl)) (by rw [yD_len]; omega) (gk_name (by decide)) (fun d hd => ?_) (lens_flat h)) (by rw [tab_len]; omega)) ?_
  · obtain ⟨l, _, rfl⟩ := List.mem_map.mp hd
    exact ⟨_, gv_name, ev_cb (ea_cons (ev_var rfl) ea_nil) rc_lenL⟩
  rintro d ⟨ks, rfl, cd⟩
  obtain ⟨b2, hb2⟩ : ∃ b2 : Bool, b2 = decide (((ks.length : Nat) : Int) = 1) := ⟨_, rfl⟩
  have hc2 : b2 = true → ∀ q, yc ys q = yc ys 0 := fun e => all_yc h ((cd.one (tab_ne' hY)).mp (by rw [hb2] at e; have := of_decide_eq_true e; omega))
  obtain ⟨bL, hbL⟩ : ∃ bL : Bool, bL = decide (∀ u ∈ tab (ml ys) (NN ys), ∀ v ∈ tab (ml ys) (NN ys), u = v) := ⟨_, rfl⟩
  have hcL : bL = true → ∃ l, ∀ k, ml ys k = l := fun e => all_ml h (by rw [hbL] at e; exact of_decide_eq_true e)
  have elen : ∀ {env : Env}, env[6]? = some (some (.lst (ks.map Dt.int))) → EV K (tOp (rEqG K) (tCB (rLenG K) (tCons (tVar 6) tNil)) (tC (.int 1))) env (.bl b2) := fun e => ev_is (ev_op (ev_cb (ea_cons (ev_var e) ea_nil) rc_lenL) ev_int rd_eqI) (by rw [hb2, List.length_map])
  have p0 : ∀ {env : Env}, env[3]? = some (some (.lst [.int (x : Nat), .int (y : Nat)])) → EV K (tOp (rIxG K) (tVar 3) (tC (.int 0))) env (.int (x : Nat)) := fun e => ev_op (ev_var e) ev_int (rd_ixL (atI_nat (j := 0) rfl))
  have p1 : ∀ {env : Env}, env[3]? = some (some (.lst [.int (x : Nat), .int (y : Nat)])) → EV K (tOp (rIxG K) (tVar 3) (tC (.int 1))) env (.int (y : Nat)) := fun e => ev_op (ev_var e) ev_int (rd_ixL (atI_nat (j := 1) rfl))
  refine q_for (items := [.str "months", .str "years"]) (iv_tup (ev_tup (ea_cons ev_str (ea_cons ev_str ea_nil)) (by simp))) (fun i e M => ∃ x7 x8 x9 : Option Dt, e = [some (almD K ys), some (calD K ys), some (yD ys), some (.lst [.int (x : Nat), .int (y : Nat)]), some (.lst ((tab (ml ys) (NN ys)).map Dt.int)), x5, some (.lst (ks.map Dt.int)), x7, x8, x9, none, none] ∧ M = none) ⟨none, none, none, rfl, rfl⟩ ?_ ?_
  · rintro i d e M hd ⟨x7, x8, x9, rfl, rfl⟩
    obtain ⟨m, rfl⟩ : ∃ m : Bool, d = .str (WM m) := by
      rcases i with _ | _ | i
      · cases hd; exact ⟨true, rfl⟩
      · cases hd; exact ⟨false, rfl⟩
      · simp at hd
    have hle : ∀ z, runS ys [mkM m x, mkM m y] z ≤ runS ys [mkM m (x + y)] z := by
      cases m with
      | true => exact fun z => mo_mo h x y z
      | false => exact fun z => yo_yo h x y z
    have hsw : (bL && (m || b2)) = true → ∀ z, runS ys [mkM m y] (runS ys [mkM m x] z) = runS ys [mkM m x] (runS ys [mkM m y] z) := fun e z => by
      rw [Bool.and_eq_true_iff] at e
      obtain ⟨l, hl⟩ := hcL e.1
      cases m with
      | true => exact mo_swap h hl x y z
      | false => exact yo_swap h hl (hc2 (by simpa using e.2)) x y z
    refine ⟨_, gv_name, ?_⟩
    refine q_set (d := .lst [Stp.D (mkM m x), Stp.D (mkM m y)]) (ev_lc1 (items := [.int (x : Nat), .int (y : Nat)]) (fun d => .tup [.str (WM m), d]) (iv_list (ev_var rfl)) (by simp) (gk_name (by decide)) (fun d hd => ⟨_, gv_name, ev_tup (ea_cons (ev_var rfl) (ea_cons (ev_var rfl) ea_nil)) (by simp)⟩) (by rw [mkM_D, mkM_D]; rfl)) ?_
    refine q_no (et_not (b := true) (et_B (ev_call (d := .bl true) (ea_cons (ev_var rfl) (ea_cons (ev_var rfl) (ea_cons (ev_lst (ds := [Stp.D (mkM m (x + y))]) (ea_cons (ev_is (ev_tup (ea_cons (ev_var rfl) (ea_cons (ev_op (p0 rfl) (p1 rfl) rd_addI) ea_nil)) (by simp)) (by rw [mkM_D]; rfl)) ea_nil) (by simp)) ea_nil))) ⟨ys, [mkM m x, mkM m y], [mkM m (x + y)], h, rfl, rfl, rfl, by simp, by simp, hle, rfl⟩))) ?_
    refine q_set (d := .bl (bL && (m || b2))) (ev_and (ev_lenset (ev_var rfl) (by rw [tab_len]; omega) (tab_ne' hN0) (by rw [hbL, decide_eq_true_eq])) fun _ => ev_or (ev_is (ev_op (ev_var rfl) ev_str rd_eqS) (by cases m <;> rfl)) fun _ => elen rfl) ?_
    refine l_q (q_no (et_is (et_and (b := false) (et_B (ev_var rfl)) fun e => et_not (b := true) (et_B (ev_call (d := .bl true) (ea_cons (ev_var rfl) (ea_cons (ev_is (d1 := termD [mkM m x]) (ev_slL (ev_var rfl) eo_none (eo_some ev_int)) ?_) (ea_cons (ev_is (d1 := termD [mkM m y]) (ev_slL (ev_var rfl) (eo_some ev_int) eo_none) ?_) ea_nil))) ⟨ys, [mkM m x], [mkM m y], h, rfl, rfl, rfl, by simp, by simp, hsw e, rfl⟩))) (Bool.and_false _)) (l_end ⟨_, _, _, rfl, rfl⟩))
    · rw [show (some (1 : Int)) = some ((1 : Nat) : Int) from rfl, cut_to]; rfl
    · rw [show (some (1 : Int)) = some ((1 : Nat) : Int) from rfl, cut_from]; rfl
  rintro e M ⟨x7, x8, x9, rfl, rfl⟩
  have lad : ∀ {env : Env} {w : Str} {s : Stp} {n : Nat} {te : TE}, env[0]? = some (some (almD K ys)) → EV K te env (.int (n : Nat)) → Stp.D s = .tup [.str w, .int (n : Nat)] → EV K (tCall (sp_ladder_of K) [] E0 (tCons (tVar 0) (tCons (tLst (tCons (tTup (tCons (tC (.str w)) (tCons te tNil))) tNil)) tNil))) env (canon (Stp.f ys s)) := fun {env w s n te} e1 e2 e3 =>
    ev_call (d := canon (Stp.f ys s)) (ea_cons (ev_var e1) (ea_cons (ev_lst (ds := [Stp.D s]) (ea_cons (ev_is (ev_tup (ea_cons ev_str (ea_cons e2 ea_nil)) (by simp)) e3.symm) ea_nil) (by simp)) ea_nil)) ⟨ys, [s], h, rfl, rfl, by simp, rfl⟩
  refine q_no (et_test (ev_op (lad (s := .months x) rfl (p0 rfl) rfl) (cal_meth (d := canon (mo ys x)) rfl rfl (ea_cons (p0 rfl) ea_nil) ⟨ys, x, h, rfl, rfl, rfl⟩) (rd_neRefl canon_smp (by decide)))) ?_
  refine q_no (et_test (ev_op (lad (s := .years y) rfl (p1 rfl) rfl) (cal_meth (d := canon (yo ys y)) rfl rfl (ea_cons (p1 rfl) ea_nil) ⟨ys, y, h, rfl, rfl, rfl⟩) (rd_neRefl canon_smp (by decide)))) ?_
  refine q_if (b := b2) (et_test (elen rfl)) (fun e2 => ?_) fun _ => q_next (l_ret ev_bl rfl)
  have hyc := hc2 e2
  have hyo : yo ys x = mo ys (x * yc ys 0) := funext fun z => yo_mo h hyc x z
  have hy0 : EV K (tOp (rIxG K) (tVar 2) (tC (.int 0))) [some (almD K ys), some (calD K ys), some (yD ys), some (.lst [.int (x : Nat), .int (y : Nat)]), some (.lst ((tab (ml ys) (NN ys)).map Dt.int)), x5, some (.lst (ks.map Dt.int)), x7, x8, x9, none, none] (natL (yr ys 0)) := ev_op (ev_var rfl) ev_int (rd_ixL (by have := at_years h 0; rw [Nat.zero_mod] at this; exact this))
  refine q_as (q_set (d := canon (mo ys (x * yc ys 0))) (lad (s := .months (x * yc ys 0)) rfl (ev_is (ev_op (p0 rfl) (ev_cb (ea_cons hy0 ea_nil) rc_lenL) (rd_mulI (.inr ?_))) ?_) rfl) ?_)
  · have := yc_le h 0
    have this : (yr ys 0).length ≤ 3 := this
    rw [List.length_map]
    omega
  · rw [List.length_map, Int.natCast_mul]; rfl
  refine q_no (et_test (ev_op (ev_is (d1 := canon (mo ys (x * yc ys 0))) (lad (s := .years x) rfl (p0 rfl) rfl) (congrArg canon hyo)) (ev_var rfl) (rd_neRefl canon_smp (by decide)))) ?_
  exact l_ret ev_bl rfl
end Lk
set_option Elab.async false
set_option linter.all false
set_option maxRecDepth 100000
set_option maxHeartbeats 4000000
namespace Lk
open PySem L2
local macro_rules | `(tactic| walk_at "ev1") => `(tactic| first
  | ((with_reducible apply ev_var); exact rfl)
  | with_reducible exact ev_int | with_reducible exact ev_str | with_reducible exact ev_bl | with_reducible exact ev_non | with_reducible exact ea_nil | with_reducible apply ea_cons
  | with_reducible exact rd_addI | with_reducible exact rd_subG | with_reducible exact rd_ltG | with_reducible exact rd_leG | with_reducible exact rd_gtG | with_reducible exact rd_geG | with_reducible exact rd_eqI | with_reducible exact rd_neI | with_reducible exact rd_eqS
  | with_reducible exact rc_lenL | with_reducible exact rc_lenT | with_reducible exact rc_max2 | with_reducible exact rc_min2 | with_reducible exact rc_abs | with_reducible exact rc_intI | with_reducible exact rc_intB | with_reducible exact rc_listL | with_reducible exact rc_tupleL | with_reducible exact rc_all | with_reducible exact rc_sum
  | with_reducible exact gv_name | with_reducible exact gv_nil | with_reducible apply gv_cons | ((with_reducible apply gv_tup) <;> try exact rfl)
  | with_reducible apply rd_mulI | with_reducible apply rd_fdivG | with_reducible apply rd_modG | with_reducible apply rc_divmod | with_reducible apply rd_ixL | with_reducible apply rd_ixT | with_reducible apply rd_addL
  | with_reducible apply ev_tup | with_reducible apply ev_lst | with_reducible apply ev_op | with_reducible apply ev_cb | with_reducible exact eo_none | with_reducible apply eo_some | with_reducible apply ev_neg
  | with_reducible apply et_test | with_reducible apply et_B | with_reducible apply et_not | exact Nat.le_of_ble_eq_true rfl)
local macro_rules | `(tactic| walk_at "ev") => `(tactic| repeat' (walk_at "ev1"))
local macro_rules | `(tactic| walk_at "env") => `(tactic| simp only [rep, ladD, setS, setC, env0, List.map_cons, List.map_nil, List.length_cons, List.length_nil, Nat.reduceAdd, Nat.reduceSub, List.replicate_succ, List.replicate_zero, List.cons_append, List.nil_append])
-- IMPORTS LkE2
/-! ### the purse: a list of three ints at p that changes -/
structure Pz (p : Addr) (b : Nat) (G H : Hp) : Prop where
  gh : Same G H
  gp : G p = none
  hp : ∃ i j k : Int, H p = some (.lst [.int i, .int j, .int k]) ∧ 0 ≤ i ∧ 0 ≤ j ∧ j < 10 ^ 24 + 7 ∧ 0 ≤ k ∧ k + b ≤ 2000
structure Zt (p : Addr) (G H G' H' : Hp) : Prop where
  hh : ∀ a o, a ≠ p → H a = some o → H' a = some o
  gg : Same G G'
  no : ∀ a o, G a = none → H a = some o → G' a = none
section
variable {p : Addr} {b : Nat} {G H G' H' G1 H1 G2 H2 : Hp}
theorem Zt.trans (a : Zt p G H G1 H1) (hp : ∃ o, H p = some o) (c : Zt p G1 H1 G2 H2) (hp1 : ∃ o, H1 p = some o) : Zt p G H G2 H2 :=
  ⟨fun x o n e => c.hh x o n (a.hh x o n e), a.gg.trans c.gg, fun x o h1 h2 => by
    by_cases q : x = p
    · obtain ⟨o1, h3⟩ := hp1
      subst q
      exact c.no x o1 (a.no x o h1 h2) h3
    · exact c.no x o (a.no x o h1 h2) (a.hh x o q h2)⟩
theorem Pz.ex (z : Pz p b G H) : ∃ o, H p = some o := by
  obtain ⟨i, j, k, e, _⟩ := z.hp
  exact ⟨_, e⟩
theorem Pz.step (z : Pz p b G H) (s : Step G H G' H') : Pz p b G' H' ∧ Zt p G H G' H' := by
  obtain ⟨i, j, k, e, r⟩ := z.hp
  exact ⟨⟨s.gh, s.no _ _ z.gp e, i, j, k, s.hh _ _ e, r⟩, fun a o _ h => s.hh a o h, s.gg, s.no⟩
theorem Pz.less {c : Nat} (z : Pz p b G H) (h : c ≤ b) : Pz p c G H := by
  obtain ⟨i, j, k, e, h1, h2, h3, h4, h5⟩ := z.hp
  exact ⟨z.gh, z.gp, i, j, k, e, h1, h2, h3, h4, by omega⟩
theorem Zt.refl : Zt p G H G H := ⟨fun _ _ _ e => e, Same.refl _, fun _ _ e _ => e⟩
end
/-- an expression that may draw c coins of the purse at p; one of several data comes -/
def EZ (K : Fr) (p : Addr) (c : Nat) (te : TE) (env : Env) (D : Dt → Prop) : Prop := ∀ b σ G H Q, Pz p (b + c) G H → EnvOk K G env σ → (∀ d v G' H', D d → Pz p b G' H' → Zt p G H G' H' → Rp K G' d v → Q v H') → te σ H Q
section
variable {K : Fr} {p : Addr} {c c1 c2 : Nat} {env : Env} {te ta tb : TE} {d : Dt} {D D1 D2 : Dt → Prop} {r : R2}
theorem ez_ev (h : EV K te env d) : EZ K p 0 te env (fun x => x = d) := fun b σ G H Q z eo k =>
  h σ G H _ z.gh eo fun v G' H' s q => k d v G' H' rfl (z.step s).1 (z.step s).2 q
theorem ez_sub (h : EZ K p c te env D) (hc : c ≤ c1) (hD : ∀ d, D d → D1 d) : EZ K p c1 te env D1 := fun b σ G H Q z eo k =>
  h (b + (c1 - c)) σ G H Q (z.less (by omega)) eo fun d v G' H' hd z' t q => k d v G' H' (hD d hd) (z'.less (by omega)) t q
theorem ez_op (ha : EZ K p c1 ta env D1) (hb : EZ K p c2 tb env D2) (hr : ∀ x y, D1 x → D2 y → ∃ d, D d ∧ RD K r x y d) : EZ K p (c1 + c2) (tOp r ta tb) env D := fun b σ G H Q z eo k =>
  ha (b + c2) σ G H _ (z.less (by omega)) eo fun x u G1 H1 hx z1 t1 q1 => hb b σ G1 H1 _ z1 (eo.mono t1.gg) fun y w G2 H2 hy z2 t2 q2 => by
    obtain ⟨d, hd, rd⟩ := hr x y hx hy
    refine rd u w G2 H2 Q z2.gh (Rp.mono t2.gg _ _ q1) q2 fun v G3 H3 s3 q3 => ?_
    have e := z2.step s3
    exact k d v G3 H3 hd e.1 ((t1.trans z.ex t2 z1.ex).trans z.ex e.2 z2.ex) q3
theorem ez_cb1 {rr : List V → Hp → VK → Prop} (ha : EZ K p c ta env D1) (hr : ∀ x, D1 x → ∃ d, D d ∧ RC K rr [x] d) : EZ K p c (tCB rr (tCons ta tNil)) env D := fun b σ G H Q z eo k =>
  ha b σ G H _ z eo fun x u G1 H1 hx z1 t1 q1 => by
    obtain ⟨d, hd, rc⟩ := hr x hx
    refine rc [u] G1 H1 Q z1.gh (rpl_cons.mpr ⟨_, _, rfl, q1, rpl_nil.mpr rfl⟩) fun v G2 H2 s2 q2 => ?_
    have e := z1.step s2
    exact k d v G2 H2 hd e.1 (t1.trans z.ex e.2 z1.ex) q2
theorem ez_if (h : EZ K p c1 te env fun d => ∃ b, d = .bl b) (ha : EZ K p c2 ta env D) (hb : EZ K p c2 tb env D) : EZ K p (c1 + c2) (tIf (tTest te) ta tb) env D := fun b σ G H Q z eo k =>
  h (b + c2) σ G H _ (z.less (by omega)) eo fun x u G1 H1 hx z1 t1 q1 => by
    obtain ⟨e, rfl⟩ := hx
    refine ⟨e, rp_bl.mp q1, ?_⟩
    have fin : ∀ d v G' H', D d → Pz p b G' H' → Zt p G1 H1 G' H' → Rp K G' d v → Q v H' := fun d v G' H' hd z' t' q' => k d v G' H' hd z' (t1.trans z.ex t' z1.ex) q'
    cases e with
    | true =>
      show ta σ H1 Q
      exact ha b σ G1 H1 Q z1 (eo.mono t1.gg) fin
    | false =>
      show tb σ H1 Q
      exact hb b σ G1 H1 Q z1 (eo.mono t1.gg) fin
end
/-! ### a coin -/
def sp_law_coin (_K : Fr) : Sp := fun vs H Q _ => ∃ (p : Addr) (i j k m : Int), vs = [.ref p, .int m] ∧ H p = some (.lst [.int i, .int j, .int k]) ∧ 0 ≤ i ∧ 0 ≤ j ∧ j < 10 ^ 24 + 7 ∧ 0 ≤ k ∧ k ≤ 2000 ∧ 0 < m ∧ m ≤ 10 ^ 30 ∧
  ∀ (r i' k' : Int) H', 0 ≤ r → r < m → 0 ≤ i' → k ≤ k' → k' ≤ k + 1 → (∀ a o, a ≠ p → H a = some o → H' a = some o) → H' p = some (.lst [.int i', .int j, .int k']) → Q (.int r) H'
theorem ez_coin {K : Fr} {p : Addr} {c i : Nat} {env : Env} {te : TE} {B : Int} (hi : env[i]? = some (some (.raw (.ref p)))) (h : EZ K p c te env fun d => ∃ m : Int, d = .int m ∧ 0 < m ∧ m ≤ B) (hB : B ≤ 10 ^ 30) :
    EZ K p (c + 1) (tCall (sp_law_coin K) [] E0 (tCons (tVar i) (tCons te tNil))) env fun d => ∃ r : Nat, d = .int r ∧ (r : Int) < B := fun b σ G H Q z eo k => by
  obtain ⟨u, e1, e2⟩ := eo.2 i _ hi
  refine ⟨u, e1, ?_⟩
  rw [rp_raw.mp e2]
  refine h (b + 1) σ G H _ (z.less (by omega)) eo fun d v G1 H1 hd z1 t1 q1 => ?_
  obtain ⟨m, rfl, m0, mB⟩ := hd
  obtain ⟨i0, j0, k0, hp, h1, h2, h3, h4, h5⟩ := z1.hp
  refine ⟨p, i0, j0, k0, m, by rw [rp_int.mp q1]; rfl, hp, h1, h2, h3, h4, by omega, m0, by omega, fun r i' k' H' r0 rm i'0 k1 k2 keep hp' => ?_⟩
  obtain ⟨rn, rfl⟩ : ∃ rn : Nat, r = rn := ⟨r.toNat, by omega⟩
  have z2 : Pz p b G1 H' := ⟨fun a o e => keep a o (fun q => by rw [q, z1.gp] at e; cases e) (z1.gh _ _ e), z1.gp, i', j0, k', hp', i'0, h2, h3, by omega, by omega⟩
  have t2 : Zt p G1 H1 G1 H' := ⟨keep, Same.refl _, fun _ _ e _ => e⟩
  exact k (.int rn) _ G1 H' ⟨rn, rfl, by omega⟩ z2 (t1.trans z.ex t2 z1.ex) (rp_int.mpr rfl)
def t_law_coin (K : Fr) : TS :=
  (tSeq (tIfS (tTest (tOp rGtG (tOp (rIxG K) (tVar 0) (tC (.int 0))) (tC (.int 0)))) (tSeq (tAsg (tOp rModG (tCB rIntG (tCons (tOp (rIxG K) (tVar 0) (tC (.int 0))) tNil)) (tVar 1)) (gName 2))
      (tSeq (tAsg (tOp rFdivW (tOp (rIxG K) (tVar 0) (tC (.int 0))) (tVar 1)) (gSub (tVar 0) (tC (.int 0)) rSetL))
      (tRet (tVar 2)))) tNext)
      (tSeq (tAsg (tOp rAddG (tOp (rIxG K) (tVar 0) (tC (.int 2))) (tC (.int 1))) (gSub (tVar 0) (tC (.int 2)) rSetL))
      (tSeq (tAsg (tOp rModG (tOp rPowG (tCB rIntG (tCons (tOp rAddG (tOp (rIxG K) (tVar 0) (tC (.int 1))) (tOp rMulG (tC (.int 1500450271)) (tOp (rIxG K) (tVar 0) (tC (.int 2))))) tNil)) (tC (.int 3))) (tOp rAddG (tOp rPowG (tC (.int 10)) (tC (.int 25))) (tC (.int 13)))) (gName 3))
      (tSeq (tAsg (tOp rModG (tOp rPowG (tCB rIntG (tCons (tOp rAddG (tVar 3) (tOp rMulG (tC (.int 982451653)) (tOp (rIxG K) (tVar 0) (tC (.int 2))))) tNil)) (tC (.int 2))) (tOp rAddG (tOp rPowG (tC (.int 10)) (tC (.int 24))) (tC (.int 7)))) (gName 3))
      (tRet (tOp rModG (tCB rIntG (tCons (tOp rFdivW (tVar 3) (tC (.int 1024))) tNil)) (tVar 1)))))))
/-- what is read while nothing but the purse changes: the purse as data -/
theorem purse_env {p : Addr} {H : Hp} {K : Fr} {i j k : Int} {r : Env} {σ : Stt} (hp : H p = some (.lst [.int i, .int j, .int k])) (h : EnvOk K H (some (.raw (.ref p)) :: r) σ) : EnvOk K H (some (.lst ([i, j, k].map Dt.int)) :: r) σ :=
  ⟨h.1, fun n d e => by
    cases n with
    | zero =>
      obtain ⟨v, e1, e2⟩ := h.2 0 _ rfl
      cases e
      exact ⟨v, e1, by rw [rp_raw.mp e2]; exact rp_lst.mpr ⟨p, _, rfl, hp, rpl_ints.mpr rfl⟩⟩
    | succ n => exact h.2 (n + 1) d e⟩
theorem at_purse {i j k : Int} : atI ([i, j, k].map Dt.int) 0 = some (.int i) ∧ atI ([i, j, k].map Dt.int) 1 = some (.int j) ∧ atI ([i, j, k].map Dt.int) 2 = some (.int k) := ⟨atI_nat (j := 0) rfl, atI_nat (j := 1) rfl, atI_nat (j := 2) rfl⟩
theorem pow_ok {i j : Int} {n : Nat} (h : i.natAbs < 2 ^ n) (hn : n ≤ 1000) (h0 : 0 ≤ j) (h1 : j ≤ 100) : CPowW i j := ⟨h0, h1, Nat.lt_of_lt_of_le h (Nat.pow_le_pow_right (by decide) hn)⟩
theorem o_if {K : Fr} {env : Env} {σ : Stt} {G H : Hp} {tc : L2.TT} {ts tu tz : TS} {D : Ends} {b : Bool} (h : ET K tc env b) (gh : Same G H) (eo : EnvOk K G env σ) (k1 : b = true → ∀ G1 H1, Step G H G1 H1 → tSeq ts tz D σ H1) (k2 : b = false → ∀ G1 H1, Step G H G1 H1 → tSeq tu tz D σ H1) : tSeq (tIfS tc ts tu) tz D σ H :=
  h σ G H _ gh eo fun G1 H1 s1 => by
    cases b with
    | true => exact k1 rfl G1 H1 s1
    | false => exact k2 rfl G1 H1 s1
/-- purse[c] = e -/
theorem o_put {K : Fr} {env : Env} {σ : Stt} {H : Hp} {te : TE} {D : Ends} {p : Addr} {xs : List V} {n c : Int} {t : Nat} (h : EV K te env (.int n)) (eo : EnvOk K H env σ) (hp : H p = some (.lst xs)) (h0 : σ[0]? = some (some (.ref p))) (ix : ixN xs.length c = some t)
    (k : ∀ H', (∀ a o, a ≠ p → H a = some o → H' a = some o) → H' p = some (.lst (xs.set t (.int n))) → D.nx σ H') : tAsg te (gSub (tVar 0) (tC (.int c)) rSetL) D σ H :=
  h σ H H _ (Same.refl _) eo fun v G1 H1 s1 r1 => by
    rw [rp_int.mp r1]
    exact ⟨.ref p, h0, p, xs, c, t, rfl, rfl, s1.hh _ _ hp, ix, k _ (fun a o n e => by rw [upd_ne n]; exact s1.hh _ _ e) upd_same⟩
theorem o_name {K : Fr} {env : Env} {σ : Stt} {G H : Hp} {te : TE} {D : Ends} {d : Dt} {i : Nat} (h : EV K te env d) (gh : Same G H) (eo : EnvOk K G env σ) (k : ∀ v G1 H1, Step G H G1 H1 → Rp K G1 d v → D.nx (σ.set i (some v)) H1) : tAsg te (gName i) D σ H :=
  h σ G H _ gh eo fun v G1 H1 s1 r1 => k v G1 H1 s1 r1
theorem big_lt {x : Int} {a b : Nat} (h : x.natAbs < 2 ^ a) (hab : a ≤ b) : x.natAbs < 2 ^ b := Nat.lt_of_lt_of_le h (Nat.pow_le_pow_right (by decide) hab)
theorem ok_law_coin {P : Program} {w : World} {K : Fr} {mg : Str → Option Value} {base : Heap} (T : Txt K mg) : Has P w K mg base 1 (He.ga K "_law_coin") ["_law_purse_here", "_law_many"] (sp_law_coin K) := by
  obtain ⟨fd, F⟩ := T.says.def_ 76 (d := d_law_coin) rfl
  have F : FunD K "_law_coin" "_law_coin" (defArgs s_law_coin) (defBody s_law_coin) (defScope s_law_coin) [] [] (He.ga K "_law_coin") fd := F
  refine ⟨F.kp, fd, ?_, F.bindsN fun _ _ _ _ _ _ us hl => match us, hl with | [_, _], _ => rfl⟩
  refine F.ok c_law_coin ?_ fun cdv A outer s H vs Q E hr hsp => ⟨t_law_coin K, PSs.nox
      (pss_cons (ps_if (pt_cmpR op_gtG (pe_ix ix_G (pv 0) pe_int (fun _ _ => rfl)) pe_int (nomark _)) (pss_cons (ps_set (i := 2) c_law_coin.nd rfl (Or.inl rfl) (pe_op op_modG (pe_callTy c_int (by rfl) (z_int T) (by decide +kernel) (pa_cons (pe_ix ix_G (pv 0) pe_int (fun _ _ => rfl)) pa_nil)) (pv 1)))
      (pss_cons (ps_asg (pe_op op_fdivWG (pe_ix ix_G (pv 0) pe_int (fun _ _ => rfl)) (pv 1)) (pg_sub (pv 0) pe_int set_list))
      (pss_one (ps_ret (pv 2))))) pss_nil)
      (pss_cons (ps_asg (pe_op op_addG (pe_ix ix_G (pv 0) pe_int (fun _ _ => rfl)) pe_int) (pg_sub (pv 0) pe_int set_list))
      (pss_cons (ps_set (i := 3) c_law_coin.nd rfl (Or.inl rfl) (pe_op op_modG (pe_op op_powG (pe_callTy c_int (by rfl) (z_int T) (by decide +kernel) (pa_cons (pe_op op_addG (pe_ix ix_G (pv 0) pe_int (fun _ _ => rfl)) (pe_op op_mulG pe_int (pe_ix ix_G (pv 0) pe_int (fun _ _ => rfl)))) pa_nil)) pe_int) (pe_op op_addG (pe_op op_powG pe_int pe_int) pe_int)))
      (pss_cons (ps_set (i := 3) c_law_coin.nd rfl (Or.inl rfl) (pe_op op_modG (pe_op op_powG (pe_callTy c_int (by rfl) (z_int T) (by decide +kernel) (pa_cons (pe_op op_addG (pv 3) (pe_op op_mulG pe_int (pe_ix ix_G (pv 0) pe_int (fun _ _ => rfl)))) pa_nil)) pe_int) (pe_op op_addG (pe_op op_powG pe_int pe_int) pe_int)))
      (pss_one (ps_ret (pe_op op_modG (pe_callTy c_int (by rfl) (z_int T) (by decide +kernel) (pa_cons (pe_op op_fdivWG (pv 3) pe_int) pa_nil)) (pv 1)))))))), ?_⟩
  · rintro vs H Q E ⟨p, i, j, k, m, rfl, _⟩
    rfl
  obtain ⟨p, i, j, k, m, rfl, hp, i0, j0, j1, k0, k1, m0, m1, q⟩ := hsp
  have eoA : ∀ G, EnvOk K G [some (.raw (.ref p)), some (.int m), none, none] (L2.start ["_law_purse_here", "_law_many", "_law_drawn", "_law_mixed"] [.ref p, .int m]) := fun G => env0_ok (N := ["_law_purse_here", "_law_many", "_law_drawn", "_law_mixed"]) (ds := [.raw (.ref p), .int m]) (rpl_cons.mpr ⟨_, _, rfl, rp_raw.mpr rfl, rpl_cons.mpr ⟨_, _, rfl, rp_int.mpr rfl, rpl_nil.mpr rfl⟩⟩)
  have mb : m.natAbs < 2 ^ 100 := by omega
  refine o_if (b := decide (0 < i)) (et_test (ev_op (ev_op (ev_var rfl) ev_int (rd_ixL at_purse.1)) ev_int rd_gtG)) (Same.refl H) (purse_env hp (eoA H)) (fun e => ?_) fun e => ?_
  · intro G1 H1 s1
    have hi := of_decide_eq_true e
    have hp1 := s1.hh _ _ hp
    refine o_name (d := .int (i % m)) (ev_op (ev_cb (ea_cons (ev_op (ev_var rfl) ev_int (rd_ixL at_purse.1)) ea_nil) rc_intI) (ev_var rfl) (rd_modG m0)) (Same.refl H1) (purse_env hp1 (eoA H1)) fun v G2 H2 s2 r2 => ?_
    have hp2 := s2.hh _ _ hp1
    obtain rfl := rp_int.mp r2
    refine o_put (n := i / m) (t := 0) (ev_op (ev_op (ev_var rfl) ev_int (rd_ixL at_purse.1)) (ev_var rfl) (rd_fdivWG m0 (big_lt mb (by decide)))) (purse_env hp2 ((eoA H2).set (i := 2) (d := .int (i % m)) (v := .int (i % m)) (rp_int.mpr rfl))) hp2 rfl rfl fun H3 keep hp3 => ?_
    exact ⟨_, rfl, q (i % m) (i / m) k H3 (Int.emod_nonneg _ (by omega)) (Int.emod_lt_of_pos _ m0) (Int.ediv_nonneg i0 (by omega)) (Int.le_refl _) (by omega) (fun a o n e => keep a o n (s2.hh _ _ (s1.hh _ _ e))) hp3⟩
  · intro G1 H1 s1
    have hp1 := s1.hh _ _ hp
    refine o_put (n := k + 1) (t := 2) (ev_op (ev_op (ev_var rfl) ev_int (rd_ixL at_purse.2.2)) ev_int rd_addI) (purse_env hp1 (eoA H1)) hp1 rfl rfl fun H2 keep hp2 => ?_
    replace hp2 : H2 p = some (.lst [.int i, .int j, .int (k + 1)]) := hp2
    have p3 : CPowW (j + 1500450271 * (k + 1)) 3 := pow_ok (n := 100) (by omega) (by decide) (by decide) (by decide)
    obtain ⟨x, hx⟩ : ∃ x : Int, x = (j + 1500450271 * (k + 1)) ^ (3 : Int).toNat % ((10 : Int) ^ (25 : Int).toNat + 13) := ⟨_, rfl⟩
    have x0 : 0 ≤ x := by rw [hx]; exact Int.emod_nonneg _ (by decide)
    have x1 : x < 10 ^ 25 + 13 := by rw [hx]; exact Int.emod_lt_of_pos _ (by decide)
    refine o_name (d := .int x) (ev_is (ev_op (ev_op (ev_cb (ea_cons (ev_op (ev_op (ev_var rfl) ev_int (rd_ixL at_purse.2.1)) (ev_op ev_int (ev_op (ev_var rfl) ev_int (rd_ixL at_purse.2.2)) (rd_mulI (.inl ⟨by decide, by decide⟩))) rd_addI) ea_nil) rc_intI) ev_int (rd_powG p3)) (ev_op (ev_op ev_int ev_int (rd_powG (pow_ok (n := 10) (by decide) (by decide) (by decide) (by decide)))) ev_int rd_addI) (rd_modG (by decide))) (by rw [hx])) (Same.refl H2) (purse_env hp2 (eoA H2)) fun v G3 H3 s3 r3 => ?_
    have hp3 := s3.hh _ _ hp2
    obtain rfl := rp_int.mp r3
    have p2 : CPowW (x + 982451653 * (k + 1)) 2 := pow_ok (n := 100) (by omega) (by decide) (by decide) (by decide)
    obtain ⟨y, hy⟩ : ∃ y : Int, y = (x + 982451653 * (k + 1)) ^ (2 : Int).toNat % ((10 : Int) ^ (24 : Int).toNat + 7) := ⟨_, rfl⟩
    have eo3 : ∀ G, EnvOk K G [some (.raw (.ref p)), some (.int m), none, some (.int x)] ((L2.start ["_law_purse_here", "_law_many", "_law_drawn", "_law_mixed"] [.ref p, .int m]).set 3 (some (.int x))) := fun G => (eoA G).set (i := 3) (d := .int x) (rp_int.mpr rfl)
    refine o_name (d := .int y) (ev_is (ev_op (ev_op (ev_cb (ea_cons (ev_op (ev_var rfl) (ev_op ev_int (ev_op (ev_var rfl) ev_int (rd_ixL at_purse.2.2)) (rd_mulI (.inl ⟨by decide, by decide⟩))) rd_addI) ea_nil) rc_intI) ev_int (rd_powG p2)) (ev_op (ev_op ev_int ev_int (rd_powG (pow_ok (n := 10) (by decide) (by decide) (by decide) (by decide)))) ev_int rd_addI) (rd_modG (by decide))) (by rw [hy])) (Same.refl H3) (purse_env hp3 (eo3 H3)) fun v G4 H4 s4 r4 => ?_
    have hp4 := s4.hh _ _ hp3
    obtain rfl := rp_int.mp r4
    refine (ev_op (ev_cb (ea_cons (ev_op (ev_var (env := [some (.raw (.ref p)), some (.int m), none, some (.int y)]) (d := .int y) rfl) ev_int (rd_fdivWG (by decide) (big_lt (a := 11) (by decide) (by decide)))) ea_nil) rc_intI) (ev_var rfl) (rd_modG m0) : EV K _ _ (.int (y / 1024 % m))) _ H4 H4 _ (Same.refl H4) ((eo3 H4).set (i := 3) (d := .int y) (rp_int.mpr rfl)) fun v G5 H5 s5 r5 => ?_
    rw [rp_int.mp r5]
    exact q (y / 1024 % m) i (k + 1) H5 (Int.emod_nonneg _ (by omega)) (Int.emod_lt_of_pos _ m0) i0 (by omega) (Int.le_refl _) (fun a o n e => s5.hh _ _ (s4.hh _ _ (s3.hh _ _ (keep a o n (s1.hh _ _ e))))) (s5.hh _ _ hp4)
end Lk
set_option Elab.async false
set_option linter.all false
set_option maxRecDepth 100000
set_option maxHeartbeats 4000000
namespace Lk
open PySem L2
local macro_rules | `(tactic| walk_at "ev1") => `(tactic| first
  | ((with_reducible apply ev_var); exact rfl)
  | with_reducible exact ev_int | with_reducible exact ev_str | with_reducible exact ev_bl | with_reducible exact ev_non | with_reducible exact ea_nil | with_reducible apply ea_cons
  | with_reducible exact rd_addI | with_reducible exact rd_subG | with_reducible exact rd_ltG | with_reducible exact rd_leG | with_reducible exact rd_gtG | with_reducible exact rd_geG | with_reducible exact rd_eqI | with_reducible exact rd_neI | with_reducible exact rd_eqS
  | with_reducible exact rc_lenL | with_reducible exact rc_lenT | with_reducible exact rc_max2 | with_reducible exact rc_min2 | with_reducible exact rc_abs | with_reducible exact rc_intI | with_reducible exact rc_intB | with_reducible exact rc_listL | with_reducible exact rc_tupleL | with_reducible exact rc_all | with_reducible exact rc_sum
  | with_reducible exact gv_name | with_reducible exact gv_nil | with_reducible apply gv_cons | ((with_reducible apply gv_tup) <;> try exact rfl)
  | with_reducible apply rd_mulI | with_reducible apply rd_fdivG | with_reducible apply rd_modG | with_reducible apply rc_divmod | with_reducible apply rd_ixL | with_reducible apply rd_ixT | with_reducible apply rd_addL
  | with_reducible apply ev_tup | with_reducible apply ev_lst | with_reducible apply ev_op | with_reducible apply ev_cb | with_reducible exact eo_none | with_reducible apply eo_some | with_reducible apply ev_neg
  | with_reducible apply et_test | with_reducible apply et_B | with_reducible apply et_not | exact Nat.le_of_ble_eq_true rfl)
local macro_rules | `(tactic| walk_at "ev") => `(tactic| repeat' (walk_at "ev1"))
local macro_rules | `(tactic| walk_at "env") => `(tactic| simp only [rep, ladD, setS, setC, env0, List.map_cons, List.map_nil, List.length_cons, List.length_nil, Nat.reduceAdd, Nat.reduceSub, List.replicate_succ, List.replicate_zero, List.cons_append, List.nil_append])
-- IMPORTS LkF1
/-! ### a list built while coins are drawn -/
structure CZ (K : Fr) (p : Addr) (b : Nat) (G1 H1 : Hp) (D : Addr) (outs : List Dt) (G' H' : Hp) : Prop where
  pz : Pz p b G' H'
  zt : Zt p G1 H1 G' H'
  dn : G' D = none
  ne : D ≠ p
  at_ : ∃ acc, H' D = some (.lst acc) ∧ RpL K G' outs acc
section
variable {K : Fr} {p : Addr} {b c : Nat} {env : Env} {te ta : TE} {D : Dt → Prop}
/-- [te for x in range(n)] -/
theorem ez_lc {j n : Nat} {t : TA} (hn : EA K t env [.int (n : Nat)]) (hl : n ≤ 1000) (he : ∀ i : Nat, i < n → EZ K p c te ((ewipe env [j]).set j (some (.int (i : Nat)))) D) :
    EZ K p (n * c) (tLc (iRng1 t) (gName j) tYes te [j]) env fun d => ∃ ds : List Dt, d = .lst ds ∧ ds.length = n ∧ ∀ x ∈ ds, D x := fun b σ G H Q z eo k => by
  refine iv_range1 hn (by omega) (by omega) σ G H _ z.gh eo fun J G1 H1 s1 yl L hL => ?_
  have en : (rangeD 0 ((n : Nat) : Int).toNat).length = n := by rw [rangeD_len, Int.toNat_natCast]
  have z1 := (z.step s1).1
  have t1 := (z.step s1).2
  have eo1 := eo.mono s1.gg
  have Lp : L ≠ p := fun e => by
    obtain ⟨o, ho⟩ := z1.ex
    rw [e, ho] at hL; cases hL
  have z0 : Pz p (b + n * c) G1 (upd H1 L (.lst [])) := by
    obtain ⟨i, j, k, e, r⟩ := z1.hp
    exact ⟨fun a o e => by rw [upd_ne (ne_of_none (z1.gh _ _ e) hL)]; exact z1.gh _ _ e, z1.gp, i, j, k, by rw [upd_ne (Ne.symm Lp)]; exact e, r⟩
  refine ⟨fun i m H' => m = n - i ∧ i ≤ n ∧ ∃ outs G', CZ K p (b + (n - i) * c) G1 H1 L outs G' H' ∧ outs.length = i ∧ ∀ x ∈ outs, D x, ⟨n, rfl, Nat.zero_le _, [], G1, ⟨by rw [Nat.sub_zero]; exact z0, ⟨fun a o _ e => by rw [upd_ne (ne_of_none e hL)]; exact e, Same.refl _, fun _ _ e _ => e⟩, z1.gh.free hL, Lp, [], upd_same, rpl_nil.mpr rfl⟩, rfl, fun x hx => by cases hx⟩, ?_⟩
  rintro i m H' ⟨rfl, hi, outs, G', w, ho, hD⟩
  by_cases hlt : i < n
  · have hgi : (rangeD 0 ((n : Nat) : Int).toNat)[i]? = some (.int (i : Nat)) := by
      unfold rangeD
      rw [Int.toNat_natCast, List.getElem?_map, List.getElem?_range hlt]
      show some (Dt.int (0 + (i : Nat))) = _
      rw [Int.zero_add]
    obtain ⟨go, yld⟩ := yl.go G' H' w.zt.gg w.pz.gh i _ hgi
    refine .inr ⟨go, fun H'' => ∃ outs G'', CZ K p (b + (n - (i + 1)) * c) G1 H1 L outs G'' H'' ∧ outs.length = i + 1 ∧ ∀ x ∈ outs, D x, fun H'' ⟨outs, G'', a1, a2, a3⟩ => ⟨n - (i + 1), by omega, rfl, hlt, outs, G'', a1, a2, a3⟩, fun x H3 y3 => ?_⟩
    obtain ⟨G3, s3, r3⟩ := yld x H3 y3
    have zs := w.pz.step s3
    have eo3 : EnvOk K G3 ((ewipe env [j]).set j (some (.int (i : Nat)))) ((wipe σ [j]).set j (some x)) := ((eo1.mono (w.zt.gg.trans s3.gg)).wipe [j]).set r3
    refine ⟨wipe_off ⟨List.length_set, fun q hq => List.getElem?_set_ne fun e => hq (by rw [← e]; exact List.mem_singleton.mpr rfl)⟩, ?_⟩
    show te _ H3 _
    have hb : b + (n - i) * c = b + (n - (i + 1)) * c + c := by
      rw [show n - i = n - (i + 1) + 1 by omega, Nat.succ_mul]; omega
    refine he i hlt _ _ G3 H3 _ (hb ▸ zs.1) eo3 fun d v G5 H5 hd z5 t5 r5 => ?_
    obtain ⟨acc, a1, a2⟩ := w.at_
    have a3 := t5.hh _ _ w.ne (s3.hh _ _ a1)
    have n5 : G5 L = none := t5.no _ _ (s3.no _ _ w.dn a1) (s3.hh _ _ a1)
    have r6 := RpL.mono (s3.gg.trans t5.gg) _ _ a2
    refine ⟨acc, a3, ?_, outs ++ [d], G5, ⟨?_, ?_, n5, w.ne, _, upd_same, rpl_app r6 (rpl_cons.mpr ⟨v, [], rfl, r5, rpl_nil.mpr rfl⟩)⟩, by rw [List.length_append, ho]; rfl, fun y hy => ?_⟩
    · rw [rpl_len a2, ho]; exact sz_lt (by omega)
    · obtain ⟨i', j', k', e, r⟩ := z5.hp
      exact ⟨fun a o e => by rw [upd_ne (ne_of_none e n5)]; exact z5.gh _ _ e, z5.gp, i', j', k', by rw [upd_ne (Ne.symm w.ne)]; exact e, r⟩
    · have tt := (w.zt.trans z1.ex zs.2 w.pz.ex).trans z1.ex t5 zs.1.ex
      exact ⟨fun a o n e => by rw [upd_ne (ne_of_none e hL)]; exact tt.hh a o n e, tt.gg, tt.no⟩
    · rcases List.mem_append.mp hy with hy | hy
      · exact hD y hy
      · rw [List.mem_singleton.mp hy]; exact hd
  · have e : i = n := by omega
    subst e
    have st := yl.stop G' H' w.zt.gg w.pz.gh
    rw [en] at st
    obtain ⟨acc, a1, a2⟩ := w.at_
    have sn : Same G' (upd G' L (.lst acc)) := same_new w.dn
    have pz := w.pz
    rw [Nat.sub_self, Nat.zero_mul, Nat.add_zero] at pz
    refine .inl ⟨st, k _ _ (upd G' L (.lst acc)) H' ⟨outs, rfl, ho, hD⟩ ⟨fun a o e => ?_, by rw [upd_ne (Ne.symm w.ne)]; exact pz.gp, pz.hp⟩ (t1.trans z.ex ⟨w.zt.hh, w.zt.gg.trans sn, fun a o e1 e2 => ?_⟩ z1.ex) (rp_lst.mpr ⟨L, acc, rfl, upd_same, RpL.mono sn _ _ a2⟩)⟩
    · by_cases q : a = L
      · subst q; rw [upd_same] at e; cases e; exact a1
      · rw [upd_ne q] at e; exact pz.gh _ _ e
    · rw [upd_ne (ne_of_none e2 hL)]; exact w.zt.no _ _ e1 e2
end
/-! ### the law's years -/
def sp_law_wide_years (K : Fr) : Sp := fun vs H Q _ => ∃ p b G, vs = [.ref p] ∧ Pz p (b + 20) G H ∧ ∀ ys v G' H', YOk ys → Pz p b G' H' → Zt p G H G' H' → Rp K G' (yD ys) v → Q v H'
def MOk (ms : List Nat) : Prop := ms ≠ [] ∧ ms.length ≤ 3 ∧ ∀ l ∈ ms, 1 ≤ l ∧ l ≤ 5
/-- the state of the loop: the purse, one list that changes -/
structure IZ (K : Fr) (p : Addr) (b : Nat) (G0 H0 : Hp) (q : Addr) (ds : List Dt) (G H : Hp) : Prop where
  pz : Pz p b G H
  zt : Zt p G0 H0 G H
  qn : G q = none
  q0 : H0 q = none
  ne : q ≠ p
  at_ : ∃ xs, H q = some (.lst xs) ∧ RpL K G ds xs
theorem IZ.step {K : Fr} {p q : Addr} {b c : Nat} {G0 H0 G H G' H' : Hp} {ds : List Dt} (w : IZ K p b G0 H0 q ds G H) (h0 : ∃ o, H0 p = some o) (z : Pz p c G' H') (t : Zt p G H G' H') : IZ K p c G0 H0 q ds G' H' := by
  obtain ⟨xs, e, r⟩ := w.at_
  exact ⟨z, w.zt.trans h0 t w.pz.ex, t.no _ _ w.qn e, w.q0, w.ne, xs, t.hh _ _ w.ne e, RpL.mono t.gg _ _ r⟩
def t_law_wide_years (K : Fr) : TS :=
  (tSeq (tPar 1 2 (tCons (tOp rAddG (tC (.int 1)) (tCall (sp_law_coin K) [] E0 (tCons (tVar 0) (tCons (tC (.int 3)) tNil)))) (tCons (tLst tNil) tNil)))
      (tSeq (tFor (iRng1 (tCons (tOp rAddG (tC (.int 1)) (tCall (sp_law_coin K) [] E0 (tCons (tVar 0) (tCons (tC (.int 3)) tNil)))) tNil)) (gName 3) (tSeq (tAsg (tIf (tTest (tOp (rEqG K) (tCall (sp_law_coin K) [] E0 (tCons (tVar 0) (tCons (tC (.int 2)) tNil))) (tC (.int 0)))) (tVar 1) (tOp rAddG (tC (.int 1)) (tCall (sp_law_coin K) [] E0 (tCons (tVar 0) (tCons (tC (.int 3)) tNil))))) (gName 4))
      (tSeq (tAsg (tOp (rIxG K) (tLst (tCons (tC (.int 5)) (tCons (tC (.int 1)) tNil))) (tCB rIntG (tCons (tOp (rEqG K) (tCall (sp_law_coin K) [] E0 (tCons (tVar 0) (tCons (tC (.int 6)) tNil))) (tC (.int 0))) tNil))) (gName 5))
      (tDrop (tBM K "list" rAppend (tVar 2) (tCons (tLc (iRng1 (tCons (tVar 4) tNil)) (gName 6) tYes (tOp rAddG (tC (.int 1)) (tCall (sp_law_coin K) [] E0 (tCons (tVar 0) (tCons (tVar 5) tNil)))) [6]) tNil))))))
      (tRet (tVar 2))))
theorem coin_of {K : Fr} {p : Addr} {env : Env} {m : Int} (h : env[0]? = some (some (.raw (.ref p)))) (h0 : 0 < m) (hb : m ≤ 10 ^ 30) : EZ K p 1 (tCall (sp_law_coin K) [] E0 (tCons (tVar 0) (tCons (tC (.int m)) tNil))) env fun d => ∃ r : Nat, d = .int r ∧ (r : Int) < m :=
  ez_coin h (ez_sub (ez_ev ev_int) (Nat.le_refl 0) fun d e => ⟨m, e, h0, Int.le_refl _⟩) hb
theorem one_coin {K : Fr} {p : Addr} {env : Env} {m : Int} (h : env[0]? = some (some (.raw (.ref p)))) (h0 : 0 < m) (hb : m ≤ 10 ^ 30) : EZ K p 1 (tOp rAddG (tC (.int 1)) (tCall (sp_law_coin K) [] E0 (tCons (tVar 0) (tCons (tC (.int m)) tNil)))) env fun d => ∃ r : Nat, d = .int r ∧ 1 ≤ r ∧ (r : Int) ≤ m :=
  ez_op (c1 := 0) (ez_ev ev_int) (coin_of h h0 hb) fun x y hx ⟨r, hy, hr⟩ => ⟨.int ((1 + r : Nat) : Int), ⟨1 + r, rfl, by omega, by omega⟩, by
    rw [hx, hy, Int.natCast_add]; exact rd_addI⟩
theorem ok_law_wide_years {P : Program} {w : World} {K : Fr} {mg : Str → Option Value} {base : Heap} (T : Txt K mg) : Has P w K mg base 2 (He.ga K "_law_wide_years") ["_law_purse_here"] (sp_law_wide_years K) := by
  obtain ⟨fd, F⟩ := T.says.def_ 78 (d := d_law_wide_years) rfl
  have F : FunD K "_law_wide_years" "_law_wide_years" (defArgs s_law_wide_years) (defBody s_law_wide_years) (defScope s_law_wide_years) [] [] (He.ga K "_law_wide_years") fd := F
  obtain ⟨kp_law_coin, fd_law_coin, G_law_coin, b_law_coin⟩ := ok_law_coin (P := P) (w := w) (base := base) T
  refine ⟨F.kp, fd, ?_, F.bindsN fun _ _ _ _ _ _ us hl => match us, hl with | [_], _ => rfl⟩
  refine F.ok c_law_wide_years ?_ fun cdv A outer s H vs Q E hr hsp => ⟨t_law_wide_years K, PSs.nox
      (pss_cons (ps_par (i := 1) (j := 2) (by rfl) c_law_wide_years.nd rfl rfl (by decide) rfl rfl (pa_cons (pe_op op_addG pe_int (pe_call G_law_coin (hr.mono (by decide)) (by rfl) (m_law_coin T) kp_law_coin b_law_coin .nil pass0 (pa_cons (pv 0) (pa_cons pe_int pa_nil)))) (pa_cons (pe_lst pa_nil) pa_nil)) (by rfl))
      (pss_cons (ps_for PassesOwn.never rfl (pi_range1 (by rfl) (z_range T) (pa_cons (pe_op op_addG pe_int (pe_call G_law_coin (hr.mono (by decide)) (by rfl) (m_law_coin T) kp_law_coin b_law_coin .nil pass0 (pa_cons (pv 0) (pa_cons pe_int pa_nil)))) pa_nil)) (pg_name (i := 3) c_law_wide_years.nd rfl (Or.inl rfl)) (pss_cons (ps_set (i := 4) c_law_wide_years.nd rfl (Or.inl rfl) (pe_ifExp (pt_cmpR (op_eqG hr.units) (pe_call G_law_coin (hr.mono (by decide)) (by rfl) (m_law_coin T) kp_law_coin b_law_coin .nil pass0 (pa_cons (pv 0) (pa_cons pe_int pa_nil))) pe_int (nomark _)) (pv 1) (pe_op op_addG pe_int (pe_call G_law_coin (hr.mono (by decide)) (by rfl) (m_law_coin T) kp_law_coin b_law_coin .nil pass0 (pa_cons (pv 0) (pa_cons pe_int pa_nil))))))
      (pss_cons (ps_set (i := 5) c_law_wide_years.nd rfl (Or.inr rfl) (pe_ix ix_G (pe_lst (pa_cons pe_int (pa_cons pe_int pa_nil))) (pe_callTy c_int (by rfl) (z_int T) (by decide +kernel) (pa_cons (pe_cmpR (op_eqG hr.units) (pe_call G_law_coin (hr.mono (by decide)) (by rfl) (m_law_coin T) kp_law_coin b_law_coin .nil pass0 (pa_cons (pv 0) (pa_cons pe_int pa_nil))) pe_int (nomark _)) pa_nil)) (fun _ _ => rfl)))
      (pss_one (ps_expr (pe_bm PySem.F.plainAttrs_list PySem.F.slot_list_append PySem.F.type_list_append mt_append (pv 2) (pa_cons (pe_lc (own := [("_law_spot", 6)]) (wi := (iRng1 (tCons (tVar 4) tNil))) (g := (gName 6)) (tt := tYes) (te := (tOp rAddG (tC (.int 1)) (tCall (sp_law_coin K) [] E0 (tCons (tVar 0) (tCons (tVar 5) tNil))))) (by rfl) c_law_wide_years.nd (pi_range1 (by rfl) (z_range T) (pa_cons (pv 4) pa_nil)) (blkOk_by (own := [("_law_spot", 6)]) (N := ["_law_purse_here", "_law_count", "_law_found", "_law_turn", "_law_many", "_law_top", "_law_spot"]) (sc := defScope s_law_wide_years) (by decide +kernel)) (fun _ _ _ _ _ => (pg_name (i := 6) c_law_wide_years.nd rfl (Or.inl rfl))) (fun _ _ _ _ _ => pts_nil) (fun _ _ _ _ _ => (pe_op op_addG pe_int (pe_call G_law_coin (hr.mono (by decide)) (by rfl) (m_law_coin T) kp_law_coin b_law_coin .nil pass0 (pa_cons (pv 0) (pa_cons (pv 5) pa_nil)))))) pa_nil)))))))
      (pss_one (ps_ret (pv 2))))), ?_⟩
  · rintro vs H Q E ⟨p, b, G, rfl, _⟩
    rfl
  obtain ⟨p, b, G, rfl, z, k⟩ := hsp
  have eo : EnvOk K G [some (.raw (.ref p)), none, none, none, none, none, none] (L2.start ["_law_purse_here", "_law_count", "_law_found", "_law_turn", "_law_many", "_law_top", "_law_spot"] [.ref p]) := env0_ok (N := ["_law_purse_here", "_law_count", "_law_found", "_law_turn", "_law_many", "_law_top", "_law_spot"]) (ds := [.raw (.ref p)]) (rpl_cons.mpr ⟨_, _, rfl, rp_raw.mpr rfl, rpl_nil.mpr rfl⟩)
  -- count, found
  refine one_coin (m := 3) rfl (by decide) (by decide) (b + 19) _ G H _ (z.less (by omega)) eo fun d v G1 H1 hd z1 t1 r1 => ?_
  obtain ⟨cnt, rfl, c1, c3⟩ := hd
  refine ⟨by decide, fun q hq => ⟨_, _, rfl, ?_⟩⟩
  have eo1 := eo.mono t1.gg
  have qp : q ≠ p := fun e => by
    obtain ⟨o, ho⟩ := z1.ex
    rw [e, ho] at hq; cases hq
  have h0q : H q = none := by
    cases e : H q with
    | none => rfl
    | some o => rw [t1.hh q o qp e] at hq; cases hq
  have w2 : IZ K p (b + 19) G H q [] G1 (upd H1 q (.lst [])) := by
    obtain ⟨i, j, l, e, r⟩ := z1.hp
    exact ⟨⟨fun a o e => by rw [upd_ne (ne_of_none (z1.gh _ _ e) hq)]; exact z1.gh _ _ e, z1.gp, i, j, l, by rw [upd_ne (Ne.symm qp)]; exact e, r⟩, ⟨fun a o n e => by rw [upd_ne (ne_of_none e h0q)]; exact t1.hh a o n e, t1.gg, t1.no⟩, z1.gh.free hq, h0q, qp, [], upd_same, rpl_nil.mpr rfl⟩
  have eo2 := (eo1.set (i := 1) r1).set (i := 2) (d := .raw (.ref q)) (v := .ref q) (rp_raw.mpr rfl)
  -- how many years
  refine one_coin (m := 3) rfl (by decide) (by decide) (b + 18) _ G1 _ _ w2.pz eo2 fun d v G3 H3 hd z3 t3 r3 => ?_
  obtain ⟨n, rfl, n1, n3⟩ := hd
  obtain rfl := rp_int.mp r3
  have w3 := w2.step z.ex z3 t3
  have eo3 := eo2.mono t3.gg
  refine ⟨n, rfl, by omega, by omega, ?_⟩
  have en : ((n : Nat) : Int).toNat = n := Int.toNat_natCast n
  rw [en]
  refine ⟨fun i m σ' H' => m = n - i ∧ i ≤ n ∧ ∃ yss : Yrs, ∃ G' x3 x4 x5, IZ K p (b + 6 * (3 - i)) G H q (yss.map natL) G' H' ∧ EnvOk K G' [some (.raw (.ref p)), some (.int (cnt : Nat)), some (.raw (.ref q)), x3, x4, x5, none] σ' ∧ yss.length = i ∧ ∀ ms ∈ yss, MOk ms, ⟨n, rfl, Nat.zero_le _, [], G3, none, none, none, w3, eo3, rfl, fun _ h => by cases h⟩, ?_⟩
  rintro i m σ' H' ⟨rfl, hi, yss, G', x3, x4, x5, w, eo', hl, hm⟩
  by_cases hlt : i < n
  · refine .inr ⟨hlt, fun σ'' H'' => ∃ yss : Yrs, ∃ G'' x3 x4 x5, IZ K p (b + 6 * (3 - (i + 1))) G H q (yss.map natL) G'' H'' ∧ EnvOk K G'' [some (.raw (.ref p)), some (.int (cnt : Nat)), some (.raw (.ref q)), x3, x4, x5, none] σ'' ∧ yss.length = i + 1 ∧ ∀ ms ∈ yss, MOk ms, fun σ'' H'' ⟨yss, G'', x3, x4, x5, a1, a2, a3, a4⟩ => ⟨n - (i + 1), by omega, rfl, hlt, yss, G'', x3, x4, x5, a1, a2, a3, a4⟩, ?_⟩
    rintro v H4 ⟨rfl, rfl⟩
    have eo4 := eo'.set (i := 3) (d := .int (0 + (i : Nat))) (v := .int (0 + (i : Nat))) (rp_int.mpr rfl)
    have hb : b + 6 * (3 - i) = b + 6 * (3 - (i + 1)) + 6 := by omega
    obtain ⟨b', eb⟩ : ∃ b', b' = b + 6 * (3 - (i + 1)) := ⟨_, rfl⟩
    have w := hb ▸ w
    rw [← eb] at w ⊢
    -- many
    refine (ez_if (c1 := 1) (c2 := 1) (D := fun d => ∃ r : Nat, d = .int r ∧ 1 ≤ r ∧ r ≤ 3)
      (ez_op (c2 := 0) (coin_of (m := 2) rfl (by decide) (by decide)) (ez_ev ev_int) fun x y ⟨r, hx, _⟩ hy => ⟨_, ⟨decide ((r : Int) = 0), rfl⟩, by rw [hx, hy]; exact rd_eqI⟩)
      (ez_sub (ez_ev (ev_var (d := .int (cnt : Nat)) rfl)) (by decide) fun d e => ⟨cnt, e, c1, by omega⟩)
      (ez_sub (one_coin (m := 3) rfl (by decide) (by decide)) (Nat.le_refl _) fun d ⟨r, e, h1, h2⟩ => ⟨r, e, h1, by omega⟩)) (b' + 4) _ G' H4 _ w.pz eo4 fun d v G5 H5 hd z5 t5 r5 => ?_
    obtain ⟨many, rfl, y1, y3⟩ := hd
    have w5 := w.step z.ex z5 t5
    have eo5 := (eo4.mono t5.gg).set (i := 4) r5
    -- top
    refine (ez_op (c1 := 0) (c2 := 1) (D := fun d => ∃ t : Nat, d = .int t ∧ 1 ≤ t ∧ t ≤ 5) (r := rIxG K) (ez_ev (ev_lst (ds := [.int 5, .int 1]) (ea_cons ev_int (ea_cons ev_int ea_nil)) (by decide)))
      (ez_cb1 (D := fun d => d = .int 0 ∨ d = .int 1) (ez_op (c2 := 0) (D := fun d => ∃ e : Bool, d = .bl e) (coin_of (m := 6) rfl (by decide) (by decide)) (ez_ev ev_int) fun x y ⟨r, hx, _⟩ hy => ⟨_, ⟨decide ((r : Int) = 0), rfl⟩, by rw [hx, hy]; exact rd_eqI⟩) fun x ⟨e, hx⟩ => by
        subst hx
        cases e with
        | true => exact ⟨.int 1, .inr rfl, rc_intB⟩
        | false => exact ⟨.int 0, .inl rfl, rc_intB⟩) fun x y hx hy => by
        subst hx
        rcases hy with rfl | rfl
        · exact ⟨.int 5, ⟨5, rfl, by decide, by decide⟩, rd_ixL (atI_nat (j := 0) rfl)⟩
        · exact ⟨.int 1, ⟨1, rfl, by decide, by decide⟩, rd_ixL (atI_nat (j := 1) rfl)⟩) (b' + 3) _ G5 H5 _ w5.pz eo5 fun d v G6 H6 hd z6 t6 r6 => ?_
    obtain ⟨top, rfl, u1, u5⟩ := hd
    have w6 := w5.step z.ex z6 t6
    have eo6 := (eo5.mono t6.gg).set (i := 5) r6
    -- the months
    obtain ⟨vq, q1, q2⟩ := eo6.2 2 _ rfl
    obtain ⟨xs6, f1, f2⟩ := w6.at_
    obtain rfl := rp_raw.mp q2
    refine ⟨_, q1, .inl ⟨rfl, _, .inl (.inl f1)⟩, ?_⟩
    refine (ez_sub (c1 := 3) (ez_lc (p := p) (c := 1) (j := 6) (n := many) (D := fun d => ∃ r : Nat, d = .int r ∧ 1 ≤ r ∧ r ≤ 5) (ea_cons (ev_var rfl) ea_nil) (by omega) fun i _ =>
      ez_op (c1 := 0) (ez_ev ev_int) (ez_coin (B := 5) rfl (ez_sub (ez_ev (ev_var (d := .int (top : Nat)) rfl)) (Nat.le_refl 0) fun d e => ⟨top, e, by omega, by omega⟩) (by decide)) fun x y hx ⟨r, hy, hr⟩ => ⟨.int ((1 + r : Nat) : Int), ⟨1 + r, rfl, by omega, by omega⟩, by rw [hx, hy, Int.natCast_add]; exact rd_addI⟩) (by omega) fun d e => e) b' _ G6 H6 _ w6.pz eo6 fun d v G7 H7 hd z7 t7 r7 => ?_
    obtain ⟨ds, rfl, dl, dD⟩ := hd
    have w7 := w6.step z.ex z7 t7
    obtain ⟨xs7, g1, g2⟩ := w7.at_
    -- as numbers
    obtain ⟨ms, hms, hmok⟩ : ∃ ms : List Nat, ds = ms.map (fun i => Dt.int (i : Nat)) ∧ ∀ l ∈ ms, 1 ≤ l ∧ l ≤ 5 := by
      clear dl r7
      induction ds with
      | nil => exact ⟨[], rfl, fun _ h => by cases h⟩
      | cons d ds ih =>
        obtain ⟨ms, e1, e2⟩ := ih fun x hx => dD x (List.mem_cons_of_mem _ hx)
        obtain ⟨r, h1, h2, h3⟩ := dD d List.mem_cons_self
        refine ⟨r :: ms, by rw [h1, e1]; rfl, fun l hl => ?_⟩
        rcases List.mem_cons.mp hl with rfl | hl
        · exact ⟨h2, h3⟩
        · exact e2 l hl
    have hml : ms.length = many := by rw [← dl, hms, List.length_map]
    refine ⟨q, xs7, v, rfl, rfl, g1, ?_, ?_⟩
    · rw [rpl_len g2, List.length_map]; exact sz_lt (by omega)
    refine ⟨yss ++ [ms], G7, some (.int (0 + (i : Nat))), some (.int (many : Nat)), some (.int (top : Nat)), ?_, eo6.mono t7.gg, by rw [List.length_append, hl]; rfl, fun x hx => ?_⟩
    · obtain ⟨i', j', k', e, r⟩ := w7.pz.hp
      refine ⟨⟨fun a o e => by rw [upd_ne (ne_of_none e w7.qn)]; exact w7.pz.gh _ _ e, w7.pz.gp, i', j', k', by rw [upd_ne (Ne.symm w7.ne)]; exact e, r⟩, ⟨fun a o n e => by rw [upd_ne (ne_of_none e w7.q0)]; exact w7.zt.hh a o n e, w7.zt.gg, w7.zt.no⟩, w7.qn, w7.q0, w7.ne, _, upd_same, ?_⟩
      rw [List.map_append]
      refine rpl_app g2 (rpl_cons.mpr ⟨v, [], rfl, ?_, rpl_nil.mpr rfl⟩)
      unfold natL
      rw [← hms]; exact r7
    · rcases List.mem_append.mp hx with hx | hx
      · exact hm x hx
      · rw [List.mem_singleton.mp hx]
        exact ⟨fun e => by rw [e] at hml; simp at hml; omega, by omega, hmok⟩
  · have e : i = n := by omega
    refine .inl ⟨Nat.le_of_eq e.symm, ?_⟩
    obtain ⟨vq, q1, q2⟩ := eo'.2 2 _ rfl
    obtain ⟨xs, f1, f2⟩ := w.at_
    have sn : Same G' (upd G' q (.lst xs)) := same_new w.qn
    refine ⟨vq, q1, k yss vq (upd G' q (.lst xs)) H' ⟨fun e0 => by rw [e0] at hl; simp at hl; omega, by omega, hm⟩ ⟨fun a o e => ?_, by rw [upd_ne (Ne.symm w.ne)]; exact w.pz.gp, ?_⟩ ⟨w.zt.hh, w.zt.gg.trans sn, fun a o e1 e2 => ?_⟩ ?_⟩
    · by_cases x : a = q
      · subst x; rw [upd_same] at e; cases e; exact f1
      · rw [upd_ne x] at e; exact w.pz.gh _ _ e
    · exact (w.pz.less (Nat.le_add_right _ _)).hp
    · rw [upd_ne (ne_of_none e2 w.q0)]; exact w.zt.no _ _ e1 e2
    · rw [rp_raw.mp q2]
      exact rp_lst.mpr ⟨q, xs, rfl, upd_same, RpL.mono sn _ _ f2⟩
end Lk
set_option Elab.async false
set_option linter.all false
set_option maxRecDepth 100000
set_option maxHeartbeats 4000000
namespace Lk
open PySem L2
local macro_rules | `(tactic| walk_at "ev1") => `(tactic| first
  | ((with_reducible apply ev_var); exact rfl)
  | with_reducible exact ev_int | with_reducible exact ev_str | with_reducible exact ev_bl | with_reducible exact ev_non | with_reducible exact ea_nil | with_reducible apply ea_cons
  | with_reducible exact rd_addI | with_reducible exact rd_subG | with_reducible exact rd_ltG | with_reducible exact rd_leG | with_reducible exact rd_gtG | with_reducible exact rd_geG | with_reducible exact rd_eqI | with_reducible exact rd_neI | with_reducible exact rd_eqS
  | with_reducible exact rc_lenL | with_reducible exact rc_lenT | with_reducible exact rc_max2 | with_reducible exact rc_min2 | with_reducible exact rc_abs | with_reducible exact rc_intI | with_reducible exact rc_intB | with_reducible exact rc_listL | with_reducible exact rc_tupleL | with_reducible exact rc_all | with_reducible exact rc_sum
  | with_reducible exact gv_name | with_reducible exact gv_nil | with_reducible apply gv_cons | ((with_reducible apply gv_tup) <;> try exact rfl)
  | with_reducible apply rd_mulI | with_reducible apply rd_fdivG | with_reducible apply rd_modG | with_reducible apply rc_divmod | with_reducible apply rd_ixL | with_reducible apply rd_ixT | with_reducible apply rd_addL
  | with_reducible apply ev_tup | with_reducible apply ev_lst | with_reducible apply ev_op | with_reducible apply ev_cb | with_reducible exact eo_none | with_reducible apply eo_some | with_reducible apply ev_neg
  | with_reducible apply et_test | with_reducible apply et_B | with_reducible apply et_not | exact Nat.le_of_ble_eq_true rfl)
local macro_rules | `(tactic| walk_at "ev") => `(tactic| repeat' (walk_at "ev1"))
local macro_rules | `(tactic| walk_at "env") => `(tactic| simp only [rep, ladD, setS, setC, env0, List.map_cons, List.map_nil, List.length_cons, List.length_nil, Nat.reduceAdd, Nat.reduceSub, List.replicate_succ, List.replicate_zero, List.cons_append, List.nil_append])
-- IMPORTS LkF2
/-! ### one turn of the law, the law -/
def sp_law_purse (K : Fr) : Sp := fun vs H Q _ => ∃ (a : Addr) (ns : List Int) (k : Nat), vs = [.ref a, .int (k : Nat)] ∧ SqL K H a (ns.map V.int) ∧
  ∀ (i j : Int) p H', 0 ≤ i → 0 ≤ j → j < 10 ^ 24 + 7 → Same H H' → H' p = none → Q (.ref p) (upd H' p (.lst [.int i, .int j, .int 0]))
def sp_law_right (_K : Fr) : Sp := fun vs H Q _ => ∃ (p : Addr) (i j : Int), vs = [.ref p] ∧ H p = some (.lst [.int i, .int j, .int 0]) ∧ 0 ≤ i ∧ 0 ≤ j ∧ j < 10 ^ 24 + 7 ∧ ∀ H', (∀ a o, a ≠ p → H a = some o → H' a = some o) → Q (.bl true) H'
def sp_law (K : Fr) : Sp := fun vs H Q _ => ∃ (a : Addr) (ns : List Int), vs = [.ref a] ∧ SqL K H a (ns.map V.int) ∧ ∀ H', Q (.bl true) H'
theorem sqL_mono {K : Fr} {H H' : Hp} {a : Addr} {xs : List V} (e : Same H H') (h : SqL K H a xs) : SqL K H' a xs := by
  rcases h with (h | ⟨o, h⟩) | h
  · exact .inl (.inl (e _ _ h))
  · exact .inl (.inr ⟨o, e _ _ h⟩)
  · exact .inr h
theorem o_noL {K : Fr} {env : Env} {σ : Stt} {G H : Hp} {tc : L2.TT} {ts : TS} {D : Ends} (h : ET K tc env false) (gh : Same G H) (eo : EnvOk K G env σ) (k : ∀ G1 H1, Step G H G1 H1 → D.nx σ H1) : tIfS tc ts tNext D σ H := h σ G H _ gh eo fun G1 H1 s1 => k G1 H1 s1
theorem o_nameZ {K : Fr} {p : Addr} {b c : Nat} {env : Env} {σ : Stt} {G H : Hp} {te : TE} {D : Ends} {Dd : Dt → Prop} {i : Nat} (h : EZ K p c te env Dd) (z : Pz p (b + c) G H) (eo : EnvOk K G env σ) (k : ∀ d v G' H', Dd d → Pz p b G' H' → Zt p G H G' H' → Rp K G' d v → D.nx (σ.set i (some v)) H') : tAsg te (gName i) D σ H :=
  h b σ G H _ z eo fun d v G' H' hd z' t' r => k d v G' H' hd z' t' r
theorem pick3 {K : Fr} {p : Addr} {env : Env} {ea eb ec : TE} {a b c : Int} (hp : env[0]? = some (some (.raw (.ref p)))) (h1 : EV K ea env (.int a)) (h2 : EV K eb env (.int b)) (h3 : EV K ec env (.int c)) (q : 0 < a ∧ a ≤ 10 ^ 29 ∧ 0 < b ∧ b ≤ 10 ^ 29 ∧ 0 < c ∧ c ≤ 10 ^ 29) :
    EZ K p 1 (tOp (rIxG K) (tLst (tCons ea (tCons eb (tCons ec tNil)))) (tCall (sp_law_coin K) [] E0 (tCons (tVar 0) (tCons (tC (.int 3)) tNil)))) env fun d => ∃ m : Int, d = .int m ∧ 0 < m ∧ m ≤ 10 ^ 29 :=
  ez_op (c1 := 0) (ez_ev (ev_lst (ds := [.int a, .int b, .int c]) (ea_cons h1 (ea_cons h2 (ea_cons h3 ea_nil))) (by simp))) (coin_of (m := 3) hp (by decide) (by decide)) fun x y hx ⟨r, hy, hr⟩ => by
    subst hx hy
    rcases r with _ | _ | _ | r
    · exact ⟨_, ⟨a, rfl, q.1, q.2.1⟩, rd_ixL (atI_nat (j := 0) rfl)⟩
    · exact ⟨_, ⟨b, rfl, q.2.2.1, q.2.2.2.1⟩, rd_ixL (atI_nat (j := 1) rfl)⟩
    · exact ⟨_, ⟨c, rfl, q.2.2.2.2.1, q.2.2.2.2.2⟩, rd_ixL (atI_nat (j := 2) rfl)⟩
    · omega
theorem ev_pow10 {K : Fr} {env : Env} {n : Int} (h0 : 0 ≤ n) (h1 : n ≤ 100) : EV K (tOp rPowG (tC (.int 10)) (tC (.int n))) env (.int ((10 : Int) ^ n.toNat)) := ev_op ev_int ev_int (rd_powG (pow_ok (n := 10) (by decide) (by decide) h0 h1))
set_option maxHeartbeats 1000000
def t_law_right (K : Fr) : TS :=
  (tSeq (tAsg (tCall (sp_law_wide_years K) [] E0 (tCons (tVar 0) tNil)) (gName 1))
      (tSeq (tAsg (tMake (He.ga K "Calendar") (sp_Calendar_init K) [] E0 (tCons (tCall (sp_law_copied K) [] E0 (tCons (tVar 1) tNil)) tNil)) (gName 2))
      (tSeq (tAsg (tMake (He.ga K "Almanac") (sp_Almanac_init K) [] E0 (tCons (tVar 2) (tCons (tLst tNil) tNil))) (gName 3))
      (tSeq (tFor (iRng1 (tCons (tC (.int 3)) tNil)) (gName 4) (tSeq (tAsg (tCall (sp_law_coin K) [] E0 (tCons (tVar 0) (tCons (tOp (rIxG K) (tLst (tCons (tC (.int 4)) (tCons (tC (.int 20)) (tCons (tOp rPowG (tC (.int 10)) (tC (.int 29))) tNil)))) (tCall (sp_law_coin K) [] E0 (tCons (tVar 0) (tCons (tC (.int 3)) tNil)))) tNil))) (gName 5))
      (tSeq (tAsg (tCall (sp_law_coin K) [] E0 (tCons (tVar 0) (tCons (tOp (rIxG K) (tLst (tCons (tC (.int 50)) (tCons (tC (.int 200)) (tCons (tOp rPowG (tC (.int 10)) (tC (.int 29))) tNil)))) (tCall (sp_law_coin K) [] E0 (tCons (tVar 0) (tCons (tC (.int 3)) tNil)))) tNil))) (gName 6))
      (tIfS (tNot (tB (tCall (sp_law_one_right K) [] E0 (tCons (tVar 3) (tCons (tVar 2) (tCons (tVar 1) (tCons (tVar 6) (tCons (tVar 5) tNil)))))))) (tRet (tC (.bl false))) tNext))))
      (tSeq (tAsg (tLc (iRng1 (tCons (tC (.int 2)) tNil)) (gName 4) tYes (tCall (sp_law_coin K) [] E0 (tCons (tVar 0) (tCons (tOp (rIxG K) (tLst (tCons (tC (.int 4)) (tCons (tC (.int 20)) (tCons (tOp rPowG (tC (.int 10)) (tC (.int 28))) tNil)))) (tCall (sp_law_coin K) [] E0 (tCons (tVar 0) (tCons (tC (.int 3)) tNil)))) tNil))) [4]) (gName 7))
      (tRet (tAndV (tCall (sp_law_ways_right K) [] E0 (tCons (tVar 3) (tCons (tVar 2) (tCons (tVar 1) (tCons (tVar 7) tNil))))) (tCall (sp_law_month_ends_right K) [] E0 (tCons (tVar 3) tNil)))))))))
theorem ok_law_right {P : Program} {w : World} {K : Fr} {mg : Str → Option Value} {base : Heap} (T : Txt K mg) : Has P w K mg base 22 (He.ga K "_law_right") ["_law_purse_here"] (sp_law_right K) := by
  obtain ⟨fd, F⟩ := T.says.def_ 83 (d := d_law_right) rfl
  have F : FunD K "_law_right" "_law_right" (defArgs s_law_right) (defBody s_law_right) (defScope s_law_right) [] [] (He.ga K "_law_right") fd := F
  obtain ⟨kp_law_ways_right, fd_law_ways_right, G_law_ways_right, b_law_ways_right⟩ := ok_law_ways_right (P := P) (w := w) (base := base) T
  obtain ⟨kp_law_month_ends_right, fd_law_month_ends_right, G_law_month_ends_right, b_law_month_ends_right⟩ := ok_law_month_ends_right (P := P) (w := w) (base := base) T
  obtain ⟨kp_law_coin, fd_law_coin, G_law_coin, b_law_coin⟩ := ok_law_coin (P := P) (w := w) (base := base) T
  obtain ⟨kp_law_one_right, fd_law_one_right, G_law_one_right, b_law_one_right⟩ := ok_law_one_right (P := P) (w := w) (base := base) T
  obtain ⟨kp_Almanac_init, fd_Almanac_init, G_Almanac_init, b_Almanac_init⟩ := ok_Almanac_init (P := P) (w := w) (base := base) T
  obtain ⟨kp_law_copied, fd_law_copied, G_law_copied, b_law_copied⟩ := ok_law_copied (P := P) (w := w) (base := base) T
  obtain ⟨kp_Calendar_init, fd_Calendar_init, G_Calendar_init, b_Calendar_init⟩ := ok_Calendar_init (P := P) (w := w) (base := base) T
  obtain ⟨kp_law_wide_years, fd_law_wide_years, G_law_wide_years, b_law_wide_years⟩ := ok_law_wide_years (P := P) (w := w) (base := base) T
  refine ⟨F.kp, fd, ?_, F.bindsN fun _ _ _ _ _ _ us hl => match us, hl with | [_], _ => rfl⟩
  refine F.ok c_law_right ?_ fun cdv A outer s H vs Q E hr hsp => ⟨t_law_right K, PSs.nox
      (pss_cons (ps_set (i := 1) c_law_right.nd rfl (Or.inl rfl) (pe_call G_law_wide_years (hr.mono (by decide)) (by rfl) (m_law_wide_years T) kp_law_wide_years b_law_wide_years .nil pass0 (pa_cons (pv 0) pa_nil)))
      (pss_cons (ps_set (i := 2) c_law_right.nd rfl (Or.inl rfl) (pe_make (mk_Calendar T) G_Calendar_init (hr.mono (by decide)) (by rfl) (m_Calendar T) b_Calendar_init .nil pass0 (pa_cons (pe_call G_law_copied (hr.mono (by decide)) (by rfl) (m_law_copied T) kp_law_copied b_law_copied .nil pass0 (pa_cons (pv 1) pa_nil)) pa_nil)))
      (pss_cons (ps_set (i := 3) c_law_right.nd rfl (Or.inl rfl) (pe_make (mk_Almanac T) G_Almanac_init (hr.mono (by decide)) (by rfl) (m_Almanac T) b_Almanac_init .nil pass0 (pa_cons (pv 2) (pa_cons (pe_lst pa_nil) pa_nil))))
      (pss_cons (ps_for PassesOwn.never rfl (pi_range1 (by rfl) (z_range T) (pa_cons pe_int pa_nil)) (pg_name (i := 4) c_law_right.nd rfl (Or.inl rfl)) (pss_cons (ps_set (i := 5) c_law_right.nd rfl (Or.inl rfl) (pe_call G_law_coin (hr.mono (by decide)) (by rfl) (m_law_coin T) kp_law_coin b_law_coin .nil pass0 (pa_cons (pv 0) (pa_cons (pe_ix ix_G (pe_lst (pa_cons pe_int (pa_cons pe_int (pa_cons (pe_op op_powG pe_int pe_int) pa_nil)))) (pe_call G_law_coin (hr.mono (by decide)) (by rfl) (m_law_coin T) kp_law_coin b_law_coin .nil pass0 (pa_cons (pv 0) (pa_cons pe_int pa_nil))) (fun _ _ => rfl)) pa_nil))))
      (pss_cons (ps_set (i := 6) c_law_right.nd rfl (Or.inl rfl) (pe_call G_law_coin (hr.mono (by decide)) (by rfl) (m_law_coin T) kp_law_coin b_law_coin .nil pass0 (pa_cons (pv 0) (pa_cons (pe_ix ix_G (pe_lst (pa_cons pe_int (pa_cons pe_int (pa_cons (pe_op op_powG pe_int pe_int) pa_nil)))) (pe_call G_law_coin (hr.mono (by decide)) (by rfl) (m_law_coin T) kp_law_coin b_law_coin .nil pass0 (pa_cons (pv 0) (pa_cons pe_int pa_nil))) (fun _ _ => rfl)) pa_nil))))
      (pss_one (ps_if (pt_not (pt_val (pe_call G_law_one_right (hr.mono (by decide)) (by rfl) (m_law_one_right T) kp_law_one_right b_law_one_right .nil pass0 (pa_cons (pv 3) (pa_cons (pv 2) (pa_cons (pv 1) (pa_cons (pv 6) (pa_cons (pv 5) pa_nil)))))))) (pss_one (ps_ret pe_bl)) pss_nil)))))
      (pss_cons (ps_setLc (i := 7) (own := [("_law_turn", 4)]) (wi := (iRng1 (tCons (tC (.int 2)) tNil))) (g := (gName 4)) (tt := tYes) (te := (tCall (sp_law_coin K) [] E0 (tCons (tVar 0) (tCons (tOp (rIxG K) (tLst (tCons (tC (.int 4)) (tCons (tC (.int 20)) (tCons (tOp rPowG (tC (.int 10)) (tC (.int 28))) tNil)))) (tCall (sp_law_coin K) [] E0 (tCons (tVar 0) (tCons (tC (.int 3)) tNil)))) tNil)))) (by rfl) c_law_right.nd rfl rfl (sw_true rfl rfl rfl (by decide +kernel)) (pi_range1 (by rfl) (z_range T) (pa_cons pe_int pa_nil)) (blkOk_by (own := [("_law_turn", 4)]) (N := ["_law_purse_here", "_law_years_here", "_law_calendar_here", "_law_made", "_law_turn", "_law_number", "_law_day", "_law_pair"]) (sc := defScope s_law_right) (by decide +kernel)) (fun _ _ _ _ _ => (pg_name (i := 4) c_law_right.nd rfl (Or.inl rfl))) (fun _ _ _ _ _ => pts_nil) (fun _ _ _ _ _ => (pe_call G_law_coin (hr.mono (by decide)) (by rfl) (m_law_coin T) kp_law_coin b_law_coin .nil pass0 (pa_cons (pv 0) (pa_cons (pe_ix ix_G (pe_lst (pa_cons pe_int (pa_cons pe_int (pa_cons (pe_op op_powG pe_int pe_int) pa_nil)))) (pe_call G_law_coin (hr.mono (by decide)) (by rfl) (m_law_coin T) kp_law_coin b_law_coin .nil pass0 (pa_cons (pv 0) (pa_cons pe_int pa_nil))) (fun _ _ => rfl)) pa_nil)))))
      (pss_one (ps_ret (pe_and (pe_call G_law_ways_right (hr.mono (by decide)) (by rfl) (m_law_ways_right T) kp_law_ways_right b_law_ways_right .nil pass0 (pa_cons (pv 3) (pa_cons (pv 2) (pa_cons (pv 1) (pa_cons (pv 7) pa_nil))))) (pe_one (pe_call G_law_month_ends_right (hr.mono (by decide)) (by rfl) (m_law_month_ends_right T) kp_law_month_ends_right b_law_month_ends_right .nil pass0 (pa_cons (pv 3) pa_nil))))))))))), ?_⟩
  · rintro vs H Q E ⟨p, i, j, rfl, _⟩
    rfl
  obtain ⟨p, i, j, rfl, hp, i0, j0, j1, k⟩ := hsp
  obtain ⟨G, eG⟩ : ∃ G : Hp, G = fun _ => none := ⟨_, rfl⟩
  have gH : Same G H := fun a o e => by rw [eG] at e; cases e
  have z : Pz p 2000 G H := ⟨gH, by rw [eG], i, j, 0, hp, i0, j0, j1, Int.le_refl _, by decide⟩
  have eo : EnvOk K G [some (.raw (.ref p)), none, none, none, none, none, none, none] (L2.start ["_law_purse_here", "_law_years_here", "_law_calendar_here", "_law_made", "_law_turn", "_law_number", "_law_day", "_law_pair"] [.ref p]) := env0_ok (N := ["_law_purse_here", "_law_years_here", "_law_calendar_here", "_law_made", "_law_turn", "_law_number", "_law_day", "_law_pair"]) (ds := [.raw (.ref p)]) (rpl_cons.mpr ⟨_, _, rfl, rp_raw.mpr rfl, rpl_nil.mpr rfl⟩)
  refine ⟨.ref p, rfl, p, 1980, G, rfl, z, fun ys v1 G1 H1 h z1 t1 r1 => ?_⟩
  have eo1 := (eo.mono t1.gg).set (i := 1) r1
  refine o_name (d := calD K ys) (ev_make (ea_cons (ev_call (d := yD ys) (ea_cons (ev_var rfl) ea_nil) ⟨sml_yD h, rfl⟩) ea_nil) ⟨ys, h, rfl, rfl⟩) z1.gh eo1 fun v2 G2 H2 s2 r2 => ?_
  have z2 := (z1.step s2).1
  have t2 := t1.trans z.ex (z1.step s2).2 z1.ex
  have eo2 := (eo1.mono s2.gg).set (i := 2) r2
  refine o_name (d := almD K ys) (ev_make (ea_cons (ev_var (d := calD K ys) rfl) (ea_cons (ev_lst (ds := []) ea_nil (by simp)) ea_nil)) ⟨ys, h, rfl, rfl⟩) z2.gh eo2 fun v3 G3 H3 s3 r3 => ?_
  have z3 := (z2.step s3).1
  have t3 := t2.trans z.ex (z2.step s3).2 z2.ex
  have eo3 := (eo2.mono s3.gg).set (i := 3) r3
  -- three turns
  refine ⟨3, rfl, by decide, by decide, ?_⟩
  refine ⟨fun i m σ' H' => m = 3 - i ∧ i ≤ 3 ∧ ∃ G' x4 x5 x6, Pz p (1000 + 4 * (3 - i)) G' H' ∧ Zt p G H G' H' ∧ EnvOk K G' [some (.raw (.ref p)), some (yD ys), some (calD K ys), some (almD K ys), x4, x5, x6, none] σ', ⟨3, rfl, Nat.zero_le _, G3, none, none, none, z3.less (by decide), t3, eo3⟩, ?_⟩
  rintro i m σ' H' ⟨rfl, hi, G', x4, x5, x6, z', t', eo'⟩
  by_cases hlt : i < 3
  · refine .inr ⟨hlt, fun σ'' H'' => ∃ G'' x4 x5 x6, Pz p (1000 + 4 * (3 - (i + 1))) G'' H'' ∧ Zt p G H G'' H'' ∧ EnvOk K G'' [some (.raw (.ref p)), some (yD ys), some (calD K ys), some (almD K ys), x4, x5, x6, none] σ'', fun σ'' H'' ⟨G'', x4, x5, x6, a1, a2, a3⟩ => ⟨3 - (i + 1), by omega, rfl, hlt, G'', x4, x5, x6, a1, a2, a3⟩, ?_⟩
    rintro v H4 ⟨rfl, rfl⟩
    have eo4 := eo'.set (i := 4) (d := .int (0 + (i : Nat))) (v := .int (0 + (i : Nat))) (rp_int.mpr rfl)
    obtain ⟨b', eb⟩ : ∃ b', b' = 1000 + 4 * (3 - (i + 1)) := ⟨_, rfl⟩
    rw [← eb]
    have z' : Pz p (b' + 2 + 2) G' H4 := z'.less (by omega)
    refine (ez_coin (c := 1) (B := 10 ^ 29) rfl (pick3 rfl ev_int ev_int (ev_pow10 (by decide) (by decide)) (by decide)) (by decide)) (b' + 2) _ G' H4 _ z' eo4 fun d v5 G5 H5 hd z5 t5 r5 => ?_
    obtain ⟨n, rfl, _⟩ := hd
    have eo5 := (eo4.mono t5.gg).set (i := 5) r5
    refine (ez_coin (c := 1) (B := 10 ^ 29) rfl (pick3 rfl ev_int ev_int (ev_pow10 (by decide) (by decide)) (by decide)) (by decide)) b' _ G5 H5 _ z5 eo5 fun d v6 G6 H6 hd z6 t6 r6 => ?_
    obtain ⟨x, rfl, _⟩ := hd
    have eo6 := (eo5.mono t6.gg).set (i := 6) r6
    refine o_noL (et_not (b := true) (et_B (ev_call (d := .bl true) (ea_cons (ev_var rfl) (ea_cons (ev_var rfl) (ea_cons (ev_var rfl) (ea_cons (ev_var rfl) (ea_cons (ev_var rfl) ea_nil))))) ⟨ys, x, n, h, rfl, rfl, rfl, rfl, rfl, rfl⟩))) z6.gh eo6 fun G7 H7 s7 => ?_
    have e7 := z6.step s7
    exact ⟨G7, _, _, _, e7.1, ((t'.trans z.ex t5 z'.ex).trans z.ex t6 z5.ex).trans z.ex e7.2 z6.ex, eo6.mono s7.gg⟩
  · have e : i = 3 := by omega
    subst e
    refine .inl ⟨Nat.le_refl _, ?_⟩
    have coins : ∀ {env : Env}, env[0]? = some (some (.raw (.ref p))) → EZ K p 2 (tCall (sp_law_coin K) [] E0 (tCons (tVar 0) (tCons (tOp (rIxG K) (tLst (tCons (tC (.int 4)) (tCons (tC (.int 20)) (tCons (tOp rPowG (tC (.int 10)) (tC (.int 28))) tNil)))) (tCall (sp_law_coin K) [] E0 (tCons (tVar 0) (tCons (tC (.int 3)) tNil)))) tNil))) env fun d => ∃ r : Nat, d = .int r ∧ (r : Int) < 10 ^ 29 :=
      fun e => ez_coin (c := 1) (B := 10 ^ 29) e (pick3 e ev_int ev_int (ev_pow10 (by decide) (by decide)) (by decide)) (by decide)
    have pairZ := ez_lc (K := K) (p := p) (c := 2) (j := 4) (n := 2) (env := [some (.raw (.ref p)), some (yD ys), some (calD K ys), some (almD K ys), x4, x5, x6, none]) (t := tCons (tC (.int 2)) tNil) (ea_cons ev_int ea_nil) (by decide) fun i _ => coins (env := (ewipe [some (.raw (.ref p)), some (yD ys), some (calD K ys), some (almD K ys), x4, x5, x6, none] [4]).set 4 (some (.int (i : Nat)))) rfl
    refine o_nameZ (b := 500) pairZ (z'.less (by decide)) eo' fun d v8 G8 H8 hd z8 t8 r8 => ?_
    obtain ⟨ds, rfl, dl, dD⟩ := hd
    obtain ⟨x, y, rfl⟩ : ∃ x y : Nat, ds = [.int (x : Nat), .int (y : Nat)] := by
      match ds, dl, dD with
      | [a, b], _, dD =>
        obtain ⟨x, hx, _⟩ := dD a (by simp)
        obtain ⟨y, hy, _⟩ := dD b (by simp)
        exact ⟨x, y, by rw [hx, hy]⟩
    have eo8 := (eo'.mono t8.gg).set (i := 7) r8
    refine (ev_and (a := true) (b := true) (ev_call (ea_cons (ev_var rfl) (ea_cons (ev_var rfl) (ea_cons (ev_var rfl) (ea_cons (ev_var rfl) ea_nil)))) ⟨ys, x, y, h, rfl, rfl, rfl, rfl, rfl⟩) (fun _ => ev_call (ea_cons (ev_var rfl) ea_nil) ⟨ys, h, rfl, rfl⟩) : EV K (tAndV (tCall (sp_law_ways_right K) [] E0 (tCons (tVar 3) (tCons (tVar 2) (tCons (tVar 1) (tCons (tVar 7) tNil))))) (tCall (sp_law_month_ends_right K) [] E0 (tCons (tVar 3) tNil))) _ (.bl (true && true))) _ G8 H8 _ z8.gh eo8 fun v9 G9 H9 s9 r9 => ?_
    rw [rp_bl.mp r9]
    have e9 := z8.step s9
    exact k H9 ((t'.trans z.ex t8 z'.ex).trans z.ex e9.2 z8.ex).hh
end Lk
set_option Elab.async false
set_option linter.all false
set_option maxRecDepth 100000
set_option maxHeartbeats 4000000
namespace Lk
open PySem L2
local macro_rules | `(tactic| walk_at "ev1") => `(tactic| first
  | ((with_reducible apply ev_var); exact rfl)
  | with_reducible exact ev_int | with_reducible exact ev_str | with_reducible exact ev_bl | with_reducible exact ev_non | with_reducible exact ea_nil | with_reducible apply ea_cons
  | with_reducible exact rd_addI | with_reducible exact rd_subG | with_reducible exact rd_ltG | with_reducible exact rd_leG | with_reducible exact rd_gtG | with_reducible exact rd_geG | with_reducible exact rd_eqI | with_reducible exact rd_neI | with_reducible exact rd_eqS
  | with_reducible exact rc_lenL | with_reducible exact rc_lenT | with_reducible exact rc_max2 | with_reducible exact rc_min2 | with_reducible exact rc_abs | with_reducible exact rc_intI | with_reducible exact rc_intB | with_reducible exact rc_listL | with_reducible exact rc_tupleL | with_reducible exact rc_all | with_reducible exact rc_sum
  | with_reducible exact gv_name | with_reducible exact gv_nil | with_reducible apply gv_cons | ((with_reducible apply gv_tup) <;> try exact rfl)
  | with_reducible apply rd_mulI | with_reducible apply rd_fdivG | with_reducible apply rd_modG | with_reducible apply rc_divmod | with_reducible apply rd_ixL | with_reducible apply rd_ixT | with_reducible apply rd_addL
  | with_reducible apply ev_tup | with_reducible apply ev_lst | with_reducible apply ev_op | with_reducible apply ev_cb | with_reducible exact eo_none | with_reducible apply eo_some | with_reducible apply ev_neg
  | with_reducible apply et_test | with_reducible apply et_B | with_reducible apply et_not | exact Nat.le_of_ble_eq_true rfl)
local macro_rules | `(tactic| walk_at "ev") => `(tactic| repeat' (walk_at "ev1"))
local macro_rules | `(tactic| walk_at "env") => `(tactic| simp only [rep, ladD, setS, setC, env0, List.map_cons, List.map_nil, List.length_cons, List.length_nil, Nat.reduceAdd, Nat.reduceSub, List.replicate_succ, List.replicate_zero, List.cons_append, List.nil_append])
-- IMPORTS LkF3
def t_law_purse (K : Fr) : TS :=
  (tSeq (tAsg (tIf (tTest (tOp rLtG (tVar 1) (tCB (rLenG K) (tCons (tVar 0) tNil)))) (tOp (rIxG K) (tVar 0) (tVar 1)) (tC (.int 0))) (gName 2))
      (tRet (tLst (tCons (tCB rMax2G (tCons (tC (.int 0)) (tCons (tOp rSubG (tCB rAbsG (tCons (tVar 2) tNil)) (tOp rPowG (tC (.int 10)) (tC (.int 18)))) tNil))) (tCons (tOp rModG (tCB rIntG (tCons (tOp rAddG (tOp rAddG (tOp rMulG (tVar 2) (tC (.int 40009))) (tOp rMulG (tVar 1) (tC (.int 6700417)))) (tC (.int 299993))) tNil)) (tOp rAddG (tOp rPowG (tC (.int 10)) (tC (.int 24))) (tC (.int 7)))) (tCons (tC (.int 0)) tNil))))))
set_option maxHeartbeats 400000
theorem ret_ints {K : Fr} {H : Hp} {D : Ends} {env : Env} {σ : Stt} {t : TA} {ns : List Int} (eo : EnvOk K (fun _ => none) env σ) (hE : EA K t env (ns.map Dt.int)) (hl : ns.length ≤ 100000)
    (q : ∀ p H', Same H H' → H' p = none → D.rt (.ref p) (upd H' p (.lst (ns.map V.int)))) : tRet (tLst t) D σ H :=
  hE σ (fun _ => none) H _ (fun _ _ e => by cases e) eo fun vs G1 H1 s1 r1 => by
    rw [rpl_ints.mp r1]
    exact ⟨sz_of (by rw [List.length_map]; exact hl), fun p hp => q p H1 s1.hh hp⟩
theorem ret3 {K : Fr} {H : Hp} {Q : VK} {D : Ends} {env : Env} {σ : Stt} {ta tb tc : TE} {x y z : Int} (hD : D.rt = Q) (eo : EnvOk K (fun _ => none) env σ) (h1 : EV K ta env (.int x)) (h2 : EV K tb env (.int y)) (h3 : EV K tc env (.int z))
    (q : ∀ p H', Same H H' → H' p = none → Q (.ref p) (upd H' p (.lst [.int x, .int y, .int z]))) : tRet (tLst (tCons ta (tCons tb (tCons tc tNil)))) D σ H := by
  subst hD
  exact ret_ints (ns := [x, y, z]) eo (ea_cons h1 (ea_cons h2 (ea_cons h3 ea_nil))) (by simp) q
theorem ev_first {K : Fr} {env : Env} {c : Int} (h : env[2]? = some (some (.int c))) : ∃ x : Int, 0 ≤ x ∧ EV K (tCB rMax2G (tCons (tC (.int 0)) (tCons (tOp rSubG (tCB rAbsG (tCons (tVar 2) tNil)) (tOp rPowG (tC (.int 10)) (tC (.int 18)))) tNil))) env (.int x) :=
  ⟨_, Int.le_max_left _ _, ev_cb (ea_cons ev_int (ea_cons (ev_op (ev_cb (ea_cons (ev_var h) ea_nil) rc_abs) (ev_pow10 (by decide) (by decide)) rd_subG) ea_nil)) rc_max2⟩
theorem ev_secnd {K : Fr} {env : Env} {c : Int} {k : Nat} (h : env[2]? = some (some (.int c))) (h1 : env[1]? = some (some (.int (k : Nat)))) : ∃ y : Int, (0 ≤ y ∧ y < 10 ^ 24 + 7) ∧ EV K (tOp rModG (tCB rIntG (tCons (tOp rAddG (tOp rAddG (tOp rMulG (tVar 2) (tC (.int 40009))) (tOp rMulG (tVar 1) (tC (.int 6700417)))) (tC (.int 299993))) tNil)) (tOp rAddG (tOp rPowG (tC (.int 10)) (tC (.int 24))) (tC (.int 7)))) env (.int y) := by
  have e1 : EV K (tOp rAddG (tOp rAddG (tOp rMulG (tVar 2) (tC (.int 40009))) (tOp rMulG (tVar 1) (tC (.int 6700417)))) (tC (.int 299993))) env (.int (c * 40009 + (k : Nat) * 6700417 + 299993)) :=
    ev_op (ev_op (ev_op (ev_var h) ev_int (rd_mulI (.inr ⟨by decide, by decide⟩))) (ev_op (ev_var h1) ev_int (rd_mulI (.inr ⟨by decide, by decide⟩))) rd_addI) ev_int rd_addI
  have e2 : EV K (tOp rAddG (tOp rPowG (tC (.int 10)) (tC (.int 24))) (tC (.int 7))) env (.int ((10 : Int) ^ (24 : Int).toNat + 7)) := ev_op (ev_pow10 (by decide) (by decide)) ev_int rd_addI
  have p : (0 : Int) < (10 : Int) ^ (24 : Int).toNat + 7 := by decide
  generalize hm : (10 : Int) ^ (24 : Int).toNat + 7 = m at e2 p
  have hm2 : m = 10 ^ 24 + 7 := by rw [← hm]; rfl
  rw [← hm2]
  exact ⟨_, ⟨Int.emod_nonneg _ (by omega), Int.emod_lt_of_pos _ p⟩, ev_op (ev_cb (ea_cons e1 ea_nil) rc_intI) e2 (rd_modG p)⟩
theorem purse_fin {K : Fr} {H : Hp} {Q : VK} {a : Addr} {k : Nat} {c : Int} {D : Ends} {ta tb : TE} (hD : D.rt = Q) (q : ∀ (i j : Int) p H', 0 ≤ i → 0 ≤ j → j < 10 ^ 24 + 7 → Same H H' → H' p = none → Q (.ref p) (upd H' p (.lst [.int i, .int j, .int 0])))
    (ha : ∀ env : Env, env[2]? = some (some (.int c)) → ∃ x : Int, 0 ≤ x ∧ EV K ta env (.int x)) (hb : ∀ env : Env, env[2]? = some (some (.int c)) → env[1]? = some (some (.int (k : Nat))) → ∃ y : Int, (0 ≤ y ∧ y < 10 ^ 24 + 7) ∧ EV K tb env (.int y)) :
    tRet (tLst (tCons ta (tCons tb (tCons (tC (.int 0)) tNil)))) D ((L2.start ["_law_script", "_law_place", "_law_cell"] [.ref a, .int (k : Nat)]).set 2 (some (.int c))) H := by
  have eo : EnvOk K (fun _ => none) [some (.raw (.ref a)), some (.int (k : Nat)), some (.int c)] ((L2.start ["_law_script", "_law_place", "_law_cell"] [.ref a, .int (k : Nat)]).set 2 (some (.int c))) := (env0_ok (K := K) (G := fun _ => none) (N := ["_law_script", "_law_place", "_law_cell"]) (ds := [.raw (.ref a), .int (k : Nat)]) (rpl_cons.mpr ⟨_, _, rfl, rp_raw.mpr rfl, rpl_cons.mpr ⟨_, _, rfl, rp_int.mpr rfl, rpl_nil.mpr rfl⟩⟩)).set (i := 2) (d := .int c) (rp_int.mpr rfl)
  obtain ⟨x, x0, ex⟩ := ha [some (.raw (.ref a)), some (.int (k : Nat)), some (.int c)] rfl
  obtain ⟨y, ⟨y0, y1⟩, ey⟩ := hb [some (.raw (.ref a)), some (.int (k : Nat)), some (.int c)] rfl rfl
  exact ret3 hD eo ex ey ev_int fun p H' s hp => q x y p H' x0 y0 y1 s hp
theorem ok_law_purse {P : Program} {w : World} {K : Fr} {mg : Str → Option Value} {base : Heap} (T : Txt K mg) : Has P w K mg base 1 (He.ga K "_law_purse") ["_law_script", "_law_place"] (sp_law_purse K) := by
  obtain ⟨fd, F⟩ := T.says.def_ 75 (d := d_law_purse) rfl
  have F : FunD K "_law_purse" "_law_purse" (defArgs s_law_purse) (defBody s_law_purse) (defScope s_law_purse) [] [] (He.ga K "_law_purse") fd := F
  refine ⟨F.kp, fd, ?_, F.bindsN fun _ _ _ _ _ _ us hl => match us, hl with | [_, _], _ => rfl⟩
  refine F.ok c_law_purse ?_ fun cdv A outer s H vs Q E hr hsp => ⟨t_law_purse K, PSs.nox
      (pss_cons (ps_set (i := 2) c_law_purse.nd rfl (Or.inl rfl) (pe_ifExp (pt_cmpR op_ltG (pv 1) (pe_callB c_len (by rfl) (z_len T) (by decide +kernel) (pa_cons (pv 0) pa_nil)) (nomark _)) (pe_ix ix_G (pv 0) (pv 1) (fun _ _ => rfl)) pe_int))
      (pss_one (ps_ret (pe_lst (pa_cons (pe_callB (c_max2 rfl) (by rfl) (z_max T) (by decide +kernel) (pa_cons pe_int (pa_cons (pe_op op_subG (pe_callB c_abs (by rfl) (z_abs T) (by decide +kernel) (pa_cons (pv 2) pa_nil)) (pe_op op_powG pe_int pe_int)) pa_nil))) (pa_cons (pe_op op_modG (pe_callTy c_int (by rfl) (z_int T) (by decide +kernel) (pa_cons (pe_op op_addG (pe_op op_addG (pe_op op_mulG (pv 2) pe_int) (pe_op op_mulG (pv 1) pe_int)) pe_int) pa_nil)) (pe_op op_addG (pe_op op_powG pe_int pe_int) pe_int)) (pa_cons pe_int pa_nil))))))), ?_⟩
  · rintro vs H Q E ⟨a, ns, k, rfl, _⟩
    rfl
  obtain ⟨a, ns, k, rfl, hS, q⟩ := hsp
  refine ⟨.int (k : Nat), rfl, .ref a, rfl, .ref a, ns.length, rfl, .inl ⟨_, hS, by rw [List.length_map]⟩, (k : Nat), (ns.length : Nat), rfl, rfl, _, rfl, ?_⟩
  by_cases hk : (k : Int) < (ns.length : Int)
  · rw [decide_eq_true hk]
    have hk' : k < ns.length := by omega
    obtain ⟨v, e1, e2⟩ := atI_ok (K := K) (G := fun _ => none) (ds := ns.map Dt.int) (xs := ns.map V.int) (rpl_ints.mpr rfl) (atI_nat (j := k) (v := .int ns[k]) (by rw [List.getElem?_map, List.getElem?_eq_getElem hk']; rfl))
    refine ⟨.ref a, rfl, .int (k : Nat), rfl, .inl ⟨a, _, (k : Nat), v, rfl, rfl, hS, e1, ?_⟩⟩
    rw [rp_int.mp e2]
    exact purse_fin (K := K) rfl q (fun env e => ev_first e) fun env e e1 => ev_secnd e e1
  · rw [decide_eq_false hk]
    exact purse_fin (K := K) rfl q (fun env e => ev_first e) fun env e e1 => ev_secnd e e1
end Lk
set_option Elab.async false
set_option linter.all false
set_option maxRecDepth 100000
set_option maxHeartbeats 4000000
namespace Lk
open PySem L2
local macro_rules | `(tactic| walk_at "ev1") => `(tactic| first
  | ((with_reducible apply ev_var); exact rfl)
  | with_reducible exact ev_int | with_reducible exact ev_str | with_reducible exact ev_bl | with_reducible exact ev_non | with_reducible exact ea_nil | with_reducible apply ea_cons
  | with_reducible exact rd_addI | with_reducible exact rd_subG | with_reducible exact rd_ltG | with_reducible exact rd_leG | with_reducible exact rd_gtG | with_reducible exact rd_geG | with_reducible exact rd_eqI | with_reducible exact rd_neI | with_reducible exact rd_eqS
  | with_reducible exact rc_lenL | with_reducible exact rc_lenT | with_reducible exact rc_max2 | with_reducible exact rc_min2 | with_reducible exact rc_abs | with_reducible exact rc_intI | with_reducible exact rc_intB | with_reducible exact rc_listL | with_reducible exact rc_tupleL | with_reducible exact rc_all | with_reducible exact rc_sum
  | with_reducible exact gv_name | with_reducible exact gv_nil | with_reducible apply gv_cons | ((with_reducible apply gv_tup) <;> try exact rfl)
  | with_reducible apply rd_mulI | with_reducible apply rd_fdivG | with_reducible apply rd_modG | with_reducible apply rc_divmod | with_reducible apply rd_ixL | with_reducible apply rd_ixT | with_reducible apply rd_addL
  | with_reducible apply ev_tup | with_reducible apply ev_lst | with_reducible apply ev_op | with_reducible apply ev_cb | with_reducible exact eo_none | with_reducible apply eo_some | with_reducible apply ev_neg
  | with_reducible apply et_test | with_reducible apply et_B | with_reducible apply et_not | exact Nat.le_of_ble_eq_true rfl)
local macro_rules | `(tactic| walk_at "ev") => `(tactic| repeat' (walk_at "ev1"))
local macro_rules | `(tactic| walk_at "env") => `(tactic| simp only [rep, ladD, setS, setC, env0, List.map_cons, List.map_nil, List.length_cons, List.length_nil, Nat.reduceAdd, Nat.reduceSub, List.replicate_succ, List.replicate_zero, List.cons_append, List.nil_append])
-- IMPORTS LkF4
def t_law (K : Fr) : TS :=
  (tSeq (tFor (iRng1 (tCons (tCB rMax2G (tCons (tC (.int 1)) (tCons (tCB rMin2G (tCons (tC (.int 3)) (tCons (tCB (rLenG K) (tCons (tVar 0) tNil)) tNil))) tNil))) tNil)) (gName 1) (tIfS (tNot (tB (tCall (sp_law_right K) [] E0 (tCons (tCall (sp_law_purse K) [] E0 (tCons (tVar 0) (tCons (tVar 1) tNil))) tNil)))) (tRet (tC (.bl false))) tNext))
      (tRet (tC (.bl true))))
theorem law_def {K : Fr} {mg : Str → Option Value} (T : Txt K mg) : ∃ fd, FunD K "law" "law" (defArgs s_law) (defBody s_law) (defScope s_law) [] [] (He.ga K "law") fd := by
  obtain ⟨fd, F⟩ := T.says.def_ 84 (d := d_law) rfl
  exact ⟨fd, F⟩
theorem law_fn {P : Program} {w : World} {K : Fr} {mg : Str → Option Value} {base : Heap} (T : Txt K mg) {fd : FuncData} (F : FunD K "law" "law" (defArgs s_law) (defBody s_law) (defScope s_law) [] [] (He.ga K "law") fd) : FnOk P w K mg base CX0 23 (He.ga K "law") fd ["_law_script"] (sp_law K) := by
  obtain ⟨kp_law_purse, fd_law_purse, G_law_purse, b_law_purse⟩ := ok_law_purse (P := P) (w := w) (base := base) T
  obtain ⟨kp_law_right, fd_law_right, G_law_right, b_law_right⟩ := ok_law_right (P := P) (w := w) (base := base) T
  refine F.ok c_law ?_ fun cdv A outer s H vs Q E hr hsp => ⟨t_law K, PSs.nox
      (pss_cons (ps_for PassesOwn.never rfl (pi_range1 (by rfl) (z_range T) (pa_cons (pe_callB (c_max2 rfl) (by rfl) (z_max T) (by decide +kernel) (pa_cons pe_int (pa_cons (pe_callB (c_min2 rfl) (by rfl) (z_min T) (by decide +kernel) (pa_cons pe_int (pa_cons (pe_callB c_len (by rfl) (z_len T) (by decide +kernel) (pa_cons (pv 0) pa_nil)) pa_nil))) pa_nil))) pa_nil)) (pg_name (i := 1) c_law.nd rfl (Or.inl rfl)) (pss_one (ps_if (pt_not (pt_val (pe_call G_law_right (hr.mono (by decide)) (by rfl) (m_law_right T) kp_law_right b_law_right .nil pass0 (pa_cons (pe_call G_law_purse (hr.mono (by decide)) (by rfl) (m_law_purse T) kp_law_purse b_law_purse .nil pass0 (pa_cons (pv 0) (pa_cons (pv 1) pa_nil))) pa_nil)))) (pss_one (ps_ret pe_bl)) pss_nil)))
      (pss_one (ps_ret pe_bl))), ?_⟩
  · rintro vs H Q E ⟨a, ns, rfl, _⟩
    rfl
  obtain ⟨a, ns, rfl, hS, q⟩ := hsp
  obtain ⟨n, hn⟩ : ∃ n : Nat, (n : Int) = (if (if (ns.length : Int) < 3 then (ns.length : Int) else 3) > 1 then (if (ns.length : Int) < 3 then (ns.length : Int) else 3) else 1) := by
    refine ⟨(if (if (ns.length : Int) < 3 then (ns.length : Int) else 3) > 1 then (if (ns.length : Int) < 3 then (ns.length : Int) else 3) else 1 : Int).toNat, ?_⟩
    have : 0 ≤ (if (if (ns.length : Int) < 3 then (ns.length : Int) else 3) > 1 then (if (ns.length : Int) < 3 then (ns.length : Int) else 3) else 1 : Int) := by split <;> omega
    omega
  refine ⟨.ref a, rfl, .ref a, ns.length, rfl, .inl ⟨_, hS, by rw [List.length_map]⟩, 3, (ns.length : Nat), rfl, 1, _, rfl, (n : Nat), by rw [hn], by omega, ?_, ?_⟩
  · rw [hn]; split <;> (try split) <;> omega
  rw [Int.toNat_natCast]
  refine ⟨fun i m σ' H' => m = n - i ∧ i ≤ n ∧ ∃ x : Option V, σ' = [some (.ref a), x] ∧ Same H H', ⟨n, rfl, Nat.zero_le _, none, rfl, Same.refl _⟩, ?_⟩
  rintro i m σ' H' ⟨rfl, hi, x, rfl, sh⟩
  by_cases hlt : i < n
  · refine .inr ⟨hlt, fun σ'' H'' => ∃ x : Option V, σ'' = [some (.ref a), x] ∧ Same H H'', fun σ'' H'' ⟨x, a1, a2⟩ => ⟨n - (i + 1), by omega, rfl, hlt, x, a1, a2⟩, ?_⟩
    rintro v H4 ⟨rfl, rfl⟩
    refine ⟨.ref a, rfl, .int (0 + (i : Nat)), rfl, a, ns, i, by rw [Int.zero_add]; rfl, sqL_mono sh hS, fun u w p H5 u0 w0 w1 s5 p5 => ?_⟩
    refine ⟨p, u, w, rfl, upd_same, u0, w0, w1, fun H6 keep => ⟨true, rfl, ?_⟩⟩
    refine ⟨some (.int (0 + (i : Nat))), rfl, fun b o e => ?_⟩
    have e5 := s5 _ _ (sh _ _ e)
    exact keep b o (ne_of_none e5 p5) (by rw [upd_ne (ne_of_none e5 p5)]; exact e5)
  · exact .inl ⟨Nat.le_of_not_lt hlt, q H'⟩
end Lk
set_option Elab.async false
set_option linter.all false
set_option maxRecDepth 100000
set_option maxHeartbeats 0
namespace Lk
open PySem L2
theorem txt_of {K : Fr} {h : Heap} {mg : Str → Option Value} (X : K.In h) (G : h.Ns mainGlobals mg) (c : SaysX fa fn K) : Txt K mg := ⟨c, fun _ e => He.glo_ok X G e, fun _ e => He.free_ok X G e⟩
end Lk
open PySem PySem.W PySem.Calls PyProof.Rows
theorem PySem.Challenge.cw_ladderdays_k41_whole_months_and_years_of_holds : PySem.Challenge.rw_ladderdays_k41_whole_months_and_years_of.Holds := by
  w_on; o_law
  refine HandSHeadRun.head_any (r := OpenLaw.row PySem.Challenge.rw_ladderdays_k41_whole_months_and_years_of) (q := view (OpenLaw.row PySem.Challenge.rw_ladderdays_k41_whole_months_and_years_of).prog [124]) (H := Lk.hookX Lk.fa Lk.fn) (ob := Lk.ob Lk.fa Lk.fn) (M := 12000) (loose := Lk.names)
    (d := HandSHeadRun.topDef (OpenLaw.row PySem.Challenge.rw_ladderdays_k41_whole_months_and_years_of).prog 124) (kwd := []) (Lk.ob_eq Lk.fa Lk.fn) (by kernel_rfl) (fun s => by kernel_rfl) Lk.run (by kernel_rfl) (by kernel_rfl) (by kernel_rfl) (by rfl) (by first | assumption | decide +kernel) (by decide +kernel) ⟨rfl, rfl, rfl, rfl, rfl, by decide +kernel⟩ ?hw ?hc
  case hw => w_witness2
  case hc =>
    refine L2.walk_ofE (l := PySem.Challenge.rw_ladderdays_k41_whole_months_and_years_of) (n := 63) (k := 23) (x := "_law_script") (CX := L2.CX0) rfl (by decide) (by kernel_rfl) ⟨rfl, by decide, by decide⟩ ?F (fun _ _ _ _ z => z)
    intro w mg fa h Y G hmg0
    obtain ⟨K, KX, c⟩ := Y
    have T : Lk.Txt K mg := Lk.txt_of KX G c
    have hmg : mg ("law" : PySem.Str) = some (.ref fa) := by
      have e : (HandSHeadRun.topDef (OpenLaw.row PySem.Challenge.rw_ladderdays_k41_whole_months_and_years_of).prog 124).name = ("law" : PySem.Str) := by kernel_rfl
      rw [← e]
      exact hmg0
    have e2 : fa = He.ga K "law" := by
      have := hmg.symm.trans (Lk.m_law T)
      cases this; rfl
    subst e2
    obtain ⟨fd, F⟩ := Lk.law_def T
    have b := L2.FunD.bindsA (ps := ["_law_script"]) F fun _ _ _ _ _ _ us hl => match us, hl with | [_], _ => rfl
    refine ⟨K, fd, Lk.sp_law K, KX, fun s v => b s [v] rfl, fun H a ns hl _ hS => ⟨a, ns, rfl, hS, fun _ => rfl⟩, fun base _ _ => Lk.law_fn T F⟩
