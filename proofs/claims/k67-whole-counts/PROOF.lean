import PyProof.Rows.All
import Wide.All
import OpenK.AllK
import Wide.FinOn
import KE.KStateDown
import Lean
import HandS.ForMost
import HandS.Defaults
import HandS.Head0
import HandS.Head1
import HandS.Head2
import HandS.HeadEnd
import HandS.HeadHook1
import HandS.HeadHook2
import HandS.Walk
import KE.KDictKeyed
import HandS.Nested
import HandS.TupAny
import HandS.TupMul
import HandS.IsInst
import HandS.Style
import HandS.RaiseMore
import HandS.Deep
import HandS.Strs
import HandS.SortOrd
import HandS.TupLen
import KE.KDictDisplayH
import HandS.DictComp
import KE.GoesEnum
import KE.GoesZip
import HandS.SortInts
import KE.KMinBuiltin
import HandS.SetKeys
import PyProof.ReprRoads
import PyProof.Rows.RegFStrParts
import HandS.Lambda
import KE.KExcSuper
import HandS.ExcInit
import HandS.Exc
import HandS.TryMany
import KE.KNestM
import HandS.ExcField
import HandS.EndBits
import PySem.Challenge.RW_editlots_k67_whole_counts_beside_listing
set_option Elab.async false
set_option linter.all false
set_option maxRecDepth 100000
set_option maxHeartbeats 0
namespace K67
open PySem PySem.Spec PyProof.Rows L2
def top (i : Nat) : Stmt := PySem.Challenge.pw_editlots_k67_whole_counts_beside_listing.main.body.getD i (.Pass ⟨0, 0, 0, 0⟩)
abbrev s_is_whole : Stmt := top 9
abbrev s_is_between : Stmt := top 10
abbrev s_is_below : Stmt := top 11
abbrev s_least_divisor : Stmt := top 12
abbrev s_powers_of : Stmt := top 13
abbrev s_is_many : Stmt := top 16
abbrev s_is_cube : Stmt := top 17
abbrev s_places : Stmt := top 18
abbrev s_at : Stmt := top 19
abbrev s_wrong_place : Stmt := top 20
abbrev s_made_table : Stmt := top 21
abbrev s_first_gap_of : Stmt := top 22
abbrev s_table_by : Stmt := top 23
abbrev s_is_power : Stmt := top 27
abbrev s_made_clocks : Stmt := top 28
abbrev s_to_power : Stmt := top 29
abbrev s_parts_of : Stmt := top 30
abbrev s_clocks_with : Stmt := top 31
abbrev s_kinds : Stmt := top 32
abbrev s_product_of : Stmt := top 33
abbrev s_all_hands : Stmt := top 34
abbrev s_carried : Stmt := top 35
abbrev s_table_from : Stmt := top 36
abbrev s_table_of_clocks : Stmt := top 37
abbrev s_turnings_of : Stmt := top 40
abbrev s_self_turnings_of : Stmt := top 41
abbrev s_self_turnings : Stmt := top 42
abbrev s_tables_count : Stmt := top 43
abbrev s_full_table : Stmt := top 45
abbrev s_not_still : Stmt := top 46
abbrev s_not_turned : Stmt := top 47
abbrev s_late_from : Stmt := top 48
abbrev s_not_late : Stmt := top 49
abbrev s_broken_in : Stmt := top 50
abbrev s_order_proof : Stmt := top 52
abbrev s_want_proof : Stmt := top 53
abbrev s_multiples : Stmt := top 54
abbrev s_share_of : Stmt := top 55
abbrev s_generators : Stmt := top 56
abbrev s_coordinates_of : Stmt := top 57
abbrev s_coordinates : Stmt := top 58
abbrev s_law_pool : Stmt := top 60
abbrev s_law_take : Stmt := top 61
abbrev s_law_one : Stmt := top 62
abbrev s_law_put_behind : Stmt := top 63
abbrev s_law_all_hands : Stmt := top 64
abbrev s_law_hands_moved : Stmt := top 65
abbrev s_law_table_of_hands : Stmt := top 66
abbrev s_law_named_table : Stmt := top 67
abbrev s_law_is_still : Stmt := top 68
abbrev s_law_is_turned : Stmt := top 69
abbrev s_law_is_late : Stmt := top 70
abbrev s_law_is_proof : Stmt := top 71
abbrev s_law_power : Stmt := top 72
abbrev s_law_parted_powers : Stmt := top 73
abbrev s_law_all_clocks : Stmt := top 74
abbrev s_law_times : Stmt := top 75
abbrev s_law_heard : Stmt := top 76
abbrev s_law_times_hand : Stmt := top 77
abbrev s_law_hand_sum : Stmt := top 78
abbrev s_law_turnings_tried : Stmt := top 79
abbrev s_law_all_names : Stmt := top 80
abbrev s_law_listed_right : Stmt := top 81
abbrev s_law_number_right : Stmt := top 82
abbrev s_law_refused_right : Stmt := top 83
abbrev s_law : Stmt := top 84
def d_is_whole : He.DefD := ⟨("is_whole", none), "is_whole", "is_whole", defArgs s_is_whole, defBody s_is_whole, defScope s_is_whole, [], []⟩
def d_is_between : He.DefD := ⟨("is_between", none), "is_between", "is_between", defArgs s_is_between, defBody s_is_between, defScope s_is_between, [], []⟩
def d_is_below : He.DefD := ⟨("is_below", none), "is_below", "is_below", defArgs s_is_below, defBody s_is_below, defScope s_is_below, [], []⟩
def d_least_divisor : He.DefD := ⟨("least_divisor", none), "least_divisor", "least_divisor", defArgs s_least_divisor, defBody s_least_divisor, defScope s_least_divisor, [], []⟩
def d_powers_of : He.DefD := ⟨("powers_of", none), "powers_of", "powers_of", defArgs s_powers_of, defBody s_powers_of, defScope s_powers_of, [], []⟩
def d_is_many : He.DefD := ⟨("is_many", none), "is_many", "is_many", defArgs s_is_many, defBody s_is_many, defScope s_is_many, [], []⟩
def d_is_cube : He.DefD := ⟨("is_cube", none), "is_cube", "is_cube", defArgs s_is_cube, defBody s_is_cube, defScope s_is_cube, [], []⟩
def d_places : He.DefD := ⟨("places", none), "places", "places", defArgs s_places, defBody s_places, defScope s_places, [], []⟩
def d_at : He.DefD := ⟨("at", none), "at", "at", defArgs s_at, defBody s_at, defScope s_at, [], []⟩
def d_wrong_place : He.DefD := ⟨("wrong_place", none), "wrong_place", "wrong_place", defArgs s_wrong_place, defBody s_wrong_place, defScope s_wrong_place, [], []⟩
def d_made_table : He.DefD := ⟨("made_table", none), "made_table", "made_table", defArgs s_made_table, defBody s_made_table, defScope s_made_table, [], []⟩
def d_first_gap_of : He.DefD := ⟨("first_gap_of", none), "first_gap_of", "first_gap_of", defArgs s_first_gap_of, defBody s_first_gap_of, defScope s_first_gap_of, [], []⟩
def d_table_by : He.DefD := ⟨("table_by", none), "table_by", "table_by", defArgs s_table_by, defBody s_table_by, defScope s_table_by, [], []⟩
def d_is_power : He.DefD := ⟨("is_power", none), "is_power", "is_power", defArgs s_is_power, defBody s_is_power, defScope s_is_power, [], []⟩
def d_made_clocks : He.DefD := ⟨("made_clocks", none), "made_clocks", "made_clocks", defArgs s_made_clocks, defBody s_made_clocks, defScope s_made_clocks, [], []⟩
def d_to_power : He.DefD := ⟨("to_power", none), "to_power", "to_power", defArgs s_to_power, defBody s_to_power, defScope s_to_power, [], []⟩
def d_parts_of : He.DefD := ⟨("parts_of", none), "parts_of", "parts_of", defArgs s_parts_of, defBody s_parts_of, defScope s_parts_of, [], []⟩
def d_clocks_with : He.DefD := ⟨("clocks_with", none), "clocks_with", "clocks_with", defArgs s_clocks_with, defBody s_clocks_with, defScope s_clocks_with, [], []⟩
def d_kinds : He.DefD := ⟨("kinds", none), "kinds", "kinds", defArgs s_kinds, defBody s_kinds, defScope s_kinds, [], []⟩
def d_product_of : He.DefD := ⟨("product_of", none), "product_of", "product_of", defArgs s_product_of, defBody s_product_of, defScope s_product_of, [], []⟩
def d_all_hands : He.DefD := ⟨("all_hands", none), "all_hands", "all_hands", defArgs s_all_hands, defBody s_all_hands, defScope s_all_hands, [], []⟩
def d_carried : He.DefD := ⟨("carried", none), "carried", "carried", defArgs s_carried, defBody s_carried, defScope s_carried, [], []⟩
def d_table_from : He.DefD := ⟨("table_from", none), "table_from", "table_from", defArgs s_table_from, defBody s_table_from, defScope s_table_from, [], []⟩
def d_table_of_clocks : He.DefD := ⟨("table_of_clocks", none), "table_of_clocks", "table_of_clocks", defArgs s_table_of_clocks, defBody s_table_of_clocks, defScope s_table_of_clocks, [], []⟩
def d_turnings_of : He.DefD := ⟨("turnings_of", none), "turnings_of", "turnings_of", defArgs s_turnings_of, defBody s_turnings_of, defScope s_turnings_of, [], []⟩
def d_self_turnings_of : He.DefD := ⟨("self_turnings_of", none), "self_turnings_of", "self_turnings_of", defArgs s_self_turnings_of, defBody s_self_turnings_of, defScope s_self_turnings_of, [], []⟩
def d_self_turnings : He.DefD := ⟨("self_turnings", none), "self_turnings", "self_turnings", defArgs s_self_turnings, defBody s_self_turnings, defScope s_self_turnings, [], []⟩
def d_tables_count : He.DefD := ⟨("tables_count", none), "tables_count", "tables_count", defArgs s_tables_count, defBody s_tables_count, defScope s_tables_count, [], []⟩
def d_full_table : He.DefD := ⟨("full_table", none), "full_table", "full_table", defArgs s_full_table, defBody s_full_table, defScope s_full_table, [], []⟩
def d_not_still : He.DefD := ⟨("not_still", none), "not_still", "not_still", defArgs s_not_still, defBody s_not_still, defScope s_not_still, [], []⟩
def d_not_turned : He.DefD := ⟨("not_turned", none), "not_turned", "not_turned", defArgs s_not_turned, defBody s_not_turned, defScope s_not_turned, [], []⟩
def d_late_from : He.DefD := ⟨("late_from", none), "late_from", "late_from", defArgs s_late_from, defBody s_late_from, defScope s_late_from, [], []⟩
def d_not_late : He.DefD := ⟨("not_late", none), "not_late", "not_late", defArgs s_not_late, defBody s_not_late, defScope s_not_late, [], []⟩
def d_broken_in : He.DefD := ⟨("broken_in", none), "broken_in", "broken_in", defArgs s_broken_in, defBody s_broken_in, defScope s_broken_in, [], []⟩
def d_order_proof : He.DefD := ⟨("order_proof", none), "order_proof", "order_proof", defArgs s_order_proof, defBody s_order_proof, defScope s_order_proof, [], []⟩
def d_want_proof : He.DefD := ⟨("want_proof", none), "want_proof", "want_proof", defArgs s_want_proof, defBody s_want_proof, defScope s_want_proof, [], []⟩
def d_multiples : He.DefD := ⟨("multiples", none), "multiples", "multiples", defArgs s_multiples, defBody s_multiples, defScope s_multiples, [], []⟩
def d_share_of : He.DefD := ⟨("share_of", none), "share_of", "share_of", defArgs s_share_of, defBody s_share_of, defScope s_share_of, [], []⟩
def d_generators : He.DefD := ⟨("generators", none), "generators", "generators", defArgs s_generators, defBody s_generators, defScope s_generators, [], []⟩
def d_coordinates_of : He.DefD := ⟨("coordinates_of", none), "coordinates_of", "coordinates_of", defArgs s_coordinates_of, defBody s_coordinates_of, defScope s_coordinates_of, [], []⟩
def d_coordinates : He.DefD := ⟨("coordinates", none), "coordinates", "coordinates", defArgs s_coordinates, defBody s_coordinates, defScope s_coordinates, [], []⟩
def d_law_pool : He.DefD := ⟨("_law_pool", none), "_law_pool", "_law_pool", defArgs s_law_pool, defBody s_law_pool, defScope s_law_pool, [], []⟩
def d_law_take : He.DefD := ⟨("_law_take", none), "_law_take", "_law_take", defArgs s_law_take, defBody s_law_take, defScope s_law_take, [], []⟩
def d_law_one : He.DefD := ⟨("_law_one", none), "_law_one", "_law_one", defArgs s_law_one, defBody s_law_one, defScope s_law_one, [], []⟩
def d_law_put_behind : He.DefD := ⟨("_law_put_behind", none), "_law_put_behind", "_law_put_behind", defArgs s_law_put_behind, defBody s_law_put_behind, defScope s_law_put_behind, [], []⟩
def d_law_all_hands : He.DefD := ⟨("_law_all_hands", none), "_law_all_hands", "_law_all_hands", defArgs s_law_all_hands, defBody s_law_all_hands, defScope s_law_all_hands, [], []⟩
def d_law_hands_moved : He.DefD := ⟨("_law_hands_moved", none), "_law_hands_moved", "_law_hands_moved", defArgs s_law_hands_moved, defBody s_law_hands_moved, defScope s_law_hands_moved, [], []⟩
def d_law_table_of_hands : He.DefD := ⟨("_law_table_of_hands", none), "_law_table_of_hands", "_law_table_of_hands", defArgs s_law_table_of_hands, defBody s_law_table_of_hands, defScope s_law_table_of_hands, [], []⟩
def d_law_named_table : He.DefD := ⟨("_law_named_table", none), "_law_named_table", "_law_named_table", defArgs s_law_named_table, defBody s_law_named_table, defScope s_law_named_table, [], []⟩
def d_law_is_still : He.DefD := ⟨("_law_is_still", none), "_law_is_still", "_law_is_still", defArgs s_law_is_still, defBody s_law_is_still, defScope s_law_is_still, [], []⟩
def d_law_is_turned : He.DefD := ⟨("_law_is_turned", none), "_law_is_turned", "_law_is_turned", defArgs s_law_is_turned, defBody s_law_is_turned, defScope s_law_is_turned, [], []⟩
def d_law_is_late : He.DefD := ⟨("_law_is_late", none), "_law_is_late", "_law_is_late", defArgs s_law_is_late, defBody s_law_is_late, defScope s_law_is_late, [], []⟩
def d_law_is_proof : He.DefD := ⟨("_law_is_proof", none), "_law_is_proof", "_law_is_proof", defArgs s_law_is_proof, defBody s_law_is_proof, defScope s_law_is_proof, [], []⟩
def d_law_power : He.DefD := ⟨("_law_power", none), "_law_power", "_law_power", defArgs s_law_power, defBody s_law_power, defScope s_law_power, [], []⟩
def d_law_parted_powers : He.DefD := ⟨("_law_parted_powers", none), "_law_parted_powers", "_law_parted_powers", defArgs s_law_parted_powers, defBody s_law_parted_powers, defScope s_law_parted_powers, [], []⟩
def d_law_all_clocks : He.DefD := ⟨("_law_all_clocks", none), "_law_all_clocks", "_law_all_clocks", defArgs s_law_all_clocks, defBody s_law_all_clocks, defScope s_law_all_clocks, [], []⟩
def d_law_times : He.DefD := ⟨("_law_times", none), "_law_times", "_law_times", defArgs s_law_times, defBody s_law_times, defScope s_law_times, [], []⟩
def d_law_heard : He.DefD := ⟨("_law_heard", none), "_law_heard", "_law_heard", defArgs s_law_heard, defBody s_law_heard, defScope s_law_heard, [], []⟩
def d_law_times_hand : He.DefD := ⟨("_law_times_hand", none), "_law_times_hand", "_law_times_hand", defArgs s_law_times_hand, defBody s_law_times_hand, defScope s_law_times_hand, [], []⟩
def d_law_hand_sum : He.DefD := ⟨("_law_hand_sum", none), "_law_hand_sum", "_law_hand_sum", defArgs s_law_hand_sum, defBody s_law_hand_sum, defScope s_law_hand_sum, [], []⟩
def d_law_turnings_tried : He.DefD := ⟨("_law_turnings_tried", none), "_law_turnings_tried", "_law_turnings_tried", defArgs s_law_turnings_tried, defBody s_law_turnings_tried, defScope s_law_turnings_tried, [], []⟩
def d_law_all_names : He.DefD := ⟨("_law_all_names", none), "_law_all_names", "_law_all_names", defArgs s_law_all_names, defBody s_law_all_names, defScope s_law_all_names, [], []⟩
def d_law_listed_right : He.DefD := ⟨("_law_listed_right", none), "_law_listed_right", "_law_listed_right", defArgs s_law_listed_right, defBody s_law_listed_right, defScope s_law_listed_right, [], []⟩
def d_law_number_right : He.DefD := ⟨("_law_number_right", none), "_law_number_right", "_law_number_right", defArgs s_law_number_right, defBody s_law_number_right, defScope s_law_number_right, [], []⟩
def d_law_refused_right : He.DefD := ⟨("_law_refused_right", none), "_law_refused_right", "_law_refused_right", defArgs s_law_refused_right, defBody s_law_refused_right, defScope s_law_refused_right, [], []⟩
def d_law : He.DefD := ⟨("law", none), "law", "law", defArgs s_law, defBody s_law, defScope s_law, [], []⟩
def fn : List He.DefD := [d_is_whole, d_is_between, d_is_below, d_least_divisor, d_powers_of, d_is_many, d_is_cube, d_places, d_at, d_wrong_place, d_made_table, d_first_gap_of, d_table_by, d_is_power, d_made_clocks, d_to_power, d_parts_of, d_clocks_with, d_kinds, d_product_of, d_all_hands, d_carried, d_table_from, d_table_of_clocks, d_turnings_of, d_self_turnings_of, d_self_turnings, d_tables_count, d_full_table, d_not_still, d_not_turned, d_late_from, d_not_late, d_broken_in, d_order_proof, d_want_proof, d_multiples, d_share_of, d_generators, d_coordinates_of, d_coordinates, d_law_pool, d_law_take, d_law_one, d_law_put_behind, d_law_all_hands, d_law_hands_moved, d_law_table_of_hands, d_law_named_table, d_law_is_still, d_law_is_turned, d_law_is_late, d_law_is_proof, d_law_power, d_law_parted_powers, d_law_all_clocks, d_law_times, d_law_heard, d_law_times_hand, d_law_hand_sum, d_law_turnings_tried, d_law_all_names, d_law_listed_right, d_law_number_right, d_law_refused_right, d_law]
def fa : List He.Fa := [.glo "is_whole", .glo "is_between", .glo "is_below", .glo "least_divisor", .glo "powers_of", .glo "is_many", .glo "is_cube", .glo "places", .glo "at", .glo "wrong_place", .glo "made_table", .glo "first_gap_of", .glo "table_by", .glo "is_power", .glo "made_clocks", .glo "to_power", .glo "parts_of", .glo "clocks_with", .glo "kinds", .glo "product_of", .glo "all_hands", .glo "carried", .glo "table_from", .glo "table_of_clocks", .glo "turnings_of", .glo "self_turnings_of", .glo "self_turnings", .glo "tables_count", .glo "full_table", .glo "not_still", .glo "not_turned", .glo "late_from", .glo "not_late", .glo "broken_in", .glo "order_proof", .glo "want_proof", .glo "multiples", .glo "share_of", .glo "generators", .glo "coordinates_of", .glo "coordinates", .glo "_law_pool", .glo "_law_take", .glo "_law_one", .glo "_law_put_behind", .glo "_law_all_hands", .glo "_law_hands_moved", .glo "_law_table_of_hands", .glo "_law_named_table", .glo "_law_is_still", .glo "_law_is_turned", .glo "_law_is_late", .glo "_law_is_proof", .glo "_law_power", .glo "_law_parted_powers", .glo "_law_all_clocks", .glo "_law_times", .glo "_law_heard", .glo "_law_times_hand", .glo "_law_hand_sum", .glo "_law_turnings_tried", .glo "_law_all_names", .glo "_law_listed_right", .glo "_law_number_right", .glo "_law_refused_right", .glo "law", .free "isinstance", .free "int", .free "bool", .free "tuple", .free "len", .free "all", .free "range", .free "enumerate", .free "zip", .free "sorted", .free "max", .free "sum", .free "repr", .int "MOST_STATES" 12, .int "MOST_CLOCK" 1000000, .int "MOST_PRODUCT" 1000, .int "MOST_COUNTED" 40, .glo "Refused", .glo "BadMany", .glo "BadTable", .glo "TooMany", .glo "Gaps", .glo "NotProof", .glo "BadClocks"]
def loose : List PySem.Str := (["Refused", "BadMany", "BadTable", "TooMany", "Gaps", "NotProof", "BadClocks", "is_whole", "is_between", "is_below", "least_divisor", "powers_of", "MOST_STATES", "is_many", "is_cube", "places", "at", "wrong_place", "made_table", "first_gap_of"] : List PySem.Str) ++ (["table_by", "MOST_CLOCK", "MOST_PRODUCT", "is_power", "made_clocks", "to_power", "parts_of", "clocks_with", "kinds", "product_of", "all_hands", "carried", "table_from", "table_of_clocks", "MOST_COUNTED", "turnings_of", "self_turnings_of", "self_turnings", "tables_count", "full_table"] : List PySem.Str) ++ (["not_still", "not_turned", "late_from", "not_late", "broken_in", "order_proof", "want_proof", "multiples", "share_of", "generators", "coordinates_of", "coordinates", "_law_pool", "_law_take", "_law_one", "_law_put_behind", "_law_all_hands", "_law_hands_moved", "_law_table_of_hands", "_law_named_table"] : List PySem.Str) ++ (["_law_is_still", "_law_is_turned", "_law_is_late", "_law_is_proof", "_law_power", "_law_parted_powers", "_law_all_clocks", "_law_times", "_law_heard", "_law_times_hand", "_law_hand_sum", "_law_turnings_tried", "_law_all_names", "_law_listed_right", "_law_number_right", "_law_refused_right"] : List PySem.Str)
abbrev R : PySem.W.OpenRow := PySem.W.OpenLaw.row PySem.Challenge.rw_editlots_k67_whole_counts_beside_listing
end K67
set_option Elab.async false
set_option linter.all false
set_option maxRecDepth 100000
set_option maxHeartbeats 2000000
namespace K67
open PySem PySem.Spec PyProof.Rows L2
/-- where the tables of code objects of table_from and _law_refused_right lie -/
class TabA where
  p1 : Addr
  p2 : Addr
variable [TabA]

/-! ### small functions that the kernel turns quickly -/
section
variable {α β : Type}
noncomputable def bd (o : Option α) (f : α → Option β) : Option β := @Option.rec α (fun _ => Option β) none f o
noncomputable def nth (l : List α) : Nat → Option α := @List.rec α (fun _ => Nat → Option α) (fun _ => none) (fun a _ ih n => @Nat.rec (fun _ => Option α) (some a) (fun m _ => ih m) n) l
noncomputable def put (l : List α) : Nat → α → List α := @List.rec α (fun _ => Nat → α → List α) (fun _ _ => []) (fun a r ih n x => @Nat.rec (fun _ => List α) (x :: r) (fun m _ => a :: ih m x) n) l
noncomputable def len (l : List α) : Nat := @List.rec α (fun _ => Nat) 0 (fun _ _ ih => Nat.succ ih) l
theorem bd_some {o : Option α} {f : α → Option β} {b : β} (h : bd o f = some b) : ∃ a, o = some a ∧ f a = some b := by
  cases o with
  | none => cases h
  | some a => exact ⟨a, rfl, h⟩
theorem nth_eq : ∀ (l : List α) (n : Nat), nth l n = l[n]?
  | [], n => by cases n <;> rfl
  | a :: r, 0 => rfl
  | a :: r, n + 1 => by
    show nth r n = _
    rw [nth_eq r n]
    simp
theorem put_eq : ∀ (l : List α) (n : Nat) (x : α), put l n x = l.set n x
  | [], n, x => by cases n <;> rfl
  | a :: r, 0, x => rfl
  | a :: r, n + 1, x => by
    show a :: put r n x = _
    rw [put_eq r n x]
    rfl
theorem len_eq : ∀ l : List α, len l = l.length
  | [] => rfl
  | a :: r => by
    show Nat.succ (len r) = _
    rw [len_eq r]
    rfl
end

/-! ### a dict whose keys are tuples of whole numbers and such tuples -/
abbrev Ent := NestedKey × Addr × V
def RelEnt (p : Ent) (q : NestedKey × Addr × Value) : Prop := p.1 = q.1 ∧ p.2.1 = q.2.1 ∧ RelV p.2.2 q.2.2
def dN (P : Program) (w : World) (a : Addr) (es : List Ent) : HO := .ext fun h => es.length ≤ sizeLine ∧ (a == sysModules) = false ∧ (es.map (·.1)).Nodup ∧ (∀ e ∈ es, e.1.depth ≤ 8) ∧ ∃ xs : List (NestedKey × Addr × Value), Paired RelEnt es xs ∧
  ∃ o ents ep, h.get? a = some o ∧ o.ExactDict ∧ o.data = .dict ents ep ∧ ents.toList = xs.map (entryOfKey (nestedKind P w))

mutual
/-- the key that data are -/
def keyOf : PyData → Option NestedKey
  | .int i => some (.num i)
  | .tuple ds => match keysOf ds with
    | some ks => some (.tup ks)
    | none => none
  | _ => none
def keysOf : List PyData → Option (List NestedKey)
  | [] => some []
  | d :: ds => match keyOf d, keysOf ds with
    | some k, some ks => some (k :: ks)
    | _, _ => none
end

/-- a tuple, and that its object has no dict -/
def tF (us : List Value) (xs : List V) : HO := .frz { cls := .type "tuple", data := .seq us.toArray } (.tup xs)

/-! ### what a value is, in a heap that does not change -/
mutual
inductive Dn (P : Program) (w : World) (F : Hp) : V → PyData → Prop
  | non : Dn P w F .non .none
  | bl (b : Bool) : Dn P w F (.bl b) (.bool b)
  | int (i : Int) : Dn P w F (.int i) (.int i)
  | str (x : Str) : Dn P w F (.str x) (.str x)
  | lst {a : Addr} {xs : List V} {ds : List PyData} : F a = some (.lst xs) → DnAll P w F xs ds → Dn P w F (.ref a) (.list ds)
  | tup {a : Addr} {us : List Value} {xs : List V} {ds : List PyData} : F a = some (tF us xs) → DnAll P w F xs ds → Dn P w F (.ref a) (.tuple ds)
  | dic {a : Addr} {o : Obj} {es : List Ent} {kds : List (PyData × PyData)} : F a = some (.frz o (dN P w a es)) → DnEs P w F es kds → Dn P w F (.ref a) (.dict kds)
  | dci {a : Addr} {o : Obj} {kvs : List (Key × V)} {kds : List (PyData × PyData)} : F a = some (.frz o (.dK kvs)) → DnKs P w F kvs kds → Dn P w F (.ref a) (.dict kds)
inductive DnAll (P : Program) (w : World) (F : Hp) : List V → List PyData → Prop
  | nil : DnAll P w F [] []
  | cons {v : V} {vs : List V} {d : PyData} {ds : List PyData} : Dn P w F v d → DnAll P w F vs ds → DnAll P w F (v :: vs) (d :: ds)
inductive DnEs (P : Program) (w : World) (F : Hp) : List Ent → List (PyData × PyData) → Prop
  | nil : DnEs P w F [] []
  | cons {k : NestedKey} {q : Addr} {v : V} {es : List Ent} {kd vd : PyData} {kds : List (PyData × PyData)} : Dn P w F (.ref q) kd → keyOf kd = some k → Dn P w F v vd → DnEs P w F es kds → DnEs P w F ((k, q, v) :: es) ((kd, vd) :: kds)
inductive DnKs (P : Program) (w : World) (F : Hp) : List (Key × V) → List (PyData × PyData) → Prop
  | nil : DnKs P w F [] []
  | cons {i : Int} {v : V} {kvs : List (Key × V)} {vd : PyData} {kds : List (PyData × PyData)} : Dn P w F v vd → DnKs P w F kvs kds → DnKs P w F ((.inl i, v) :: kvs) ((.int i, vd) :: kds)
end
section
variable {P : Program} {w : World} {F F' H H' : Hp}
mutual
theorem Dn.mono (s : Same F F') : ∀ {v : V} {d : PyData}, Dn P w F v d → Dn P w F' v d
  | _, _, .non => .non
  | _, _, .bl b => .bl b
  | _, _, .int i => .int i
  | _, _, .str x => .str x
  | _, _, .lst h r => .lst (s _ _ h) (DnAll.mono s r)
  | _, _, .tup h r => .tup (s _ _ h) (DnAll.mono s r)
  | _, _, .dic h r => .dic (s _ _ h) (DnEs.mono s r)
  | _, _, .dci h r => .dci (s _ _ h) (DnKs.mono s r)
theorem DnAll.mono (s : Same F F') : ∀ {vs : List V} {ds : List PyData}, DnAll P w F vs ds → DnAll P w F' vs ds
  | _, _, .nil => .nil
  | _, _, .cons a b => .cons (Dn.mono s a) (DnAll.mono s b)
theorem DnEs.mono (s : Same F F') : ∀ {es : List Ent} {kds : List (PyData × PyData)}, DnEs P w F es kds → DnEs P w F' es kds
  | _, _, .nil => .nil
  | _, _, .cons a b c d => .cons (Dn.mono s a) b (Dn.mono s c) (DnEs.mono s d)
theorem DnKs.mono (s : Same F F') : ∀ {es : List (Key × V)} {kds : List (PyData × PyData)}, DnKs P w F es kds → DnKs P w F' es kds
  | _, _, .nil => .nil
  | _, _, .cons c d => .cons (Dn.mono s c) (DnKs.mono s d)
end
theorem DnAll.length : ∀ {vs : List V} {ds : List PyData}, DnAll P w F vs ds → vs.length = ds.length
  | _, _, .nil => rfl
  | _, _, .cons _ r => by simp [DnAll.length r]
theorem DnAll.at : ∀ {vs : List V} {ds : List PyData} {i : Nat} {d : PyData}, DnAll P w F vs ds → ds[i]? = some d → ∃ v, vs[i]? = some v ∧ Dn P w F v d
  | _, _, _, _, .nil, h => by simp at h
  | _, _, 0, _, .cons a _, h => by
    simp at h
    subst h
    exact ⟨_, rfl, a⟩
  | _, _, i + 1, d, .cons _ r, h => by
    obtain ⟨v, e, x⟩ := DnAll.at (i := i) r (by simpa using h)
    exact ⟨v, by simpa using e, x⟩
theorem DnAll.at' : ∀ {vs : List V} {ds : List PyData} {i : Nat} {v : V}, DnAll P w F vs ds → vs[i]? = some v → ∃ d, ds[i]? = some d ∧ Dn P w F v d
  | _, _, _, _, .nil, h => by simp at h
  | _, _, 0, _, .cons a _, h => by
    simp at h
    subst h
    exact ⟨_, rfl, a⟩
  | _, _, i + 1, d, .cons _ r, h => by
    obtain ⟨v, e, x⟩ := DnAll.at' (i := i) r (by simpa using h)
    exact ⟨v, by simpa using e, x⟩
theorem DnAll.app : ∀ {xs ys : List V} {ds es : List PyData}, DnAll P w F xs ds → DnAll P w F ys es → DnAll P w F (xs ++ ys) (ds ++ es)
  | _, _, _, _, .nil, r => r
  | _, _, _, _, .cons a b, r => .cons a (DnAll.app b r)

/-! ### growth: what is frozen grows by new objects alone; tables of code objects are written to, each code object frozen -/
def NT : HO → Prop
  | .tbl _ => False
  | _ => True
def NoT (F : Hp) : Prop := ∀ a o, F a = some o → NT o
/-- all stays, tables grow -/
structure SameT (H H' : Hp) : Prop where
  s : ∀ a o, H a = some o → NT o → H' a = some o
  t : ∀ a ps, H a = some (.tbl ps) → ∃ more, H' a = some (.tbl (ps ++ more))
theorem SameT.get {H H' : Hp} (h : SameT H H') (a : Addr) (o : HO) (e : H a = some o) (nt : NT o := by exact trivial) : H' a = some o := h.s a o e nt
theorem nt_or (o : HO) : NT o ∨ ∃ ps, o = .tbl ps := by
  cases o with
  | tbl ps => exact .inr ⟨ps, rfl⟩
  | _ => exact .inl trivial
theorem SameT.of {H H' : Hp} (h : Same H H') : SameT H H' := ⟨fun a o e _ => h a o e, fun a ps e => ⟨#[], by rw [h a _ e]; simp⟩⟩
theorem SameT.refl (H : Hp) : SameT H H := .of (.refl _)
theorem SameT.trans {H H1 H2 : Hp} (a : SameT H H1) (b : SameT H1 H2) : SameT H H2 := ⟨fun x o e n => b.s x o (a.s x o e n) n, fun x ps e => by
  obtain ⟨m, q⟩ := a.t x ps e
  obtain ⟨m', q'⟩ := b.t x _ q
  exact ⟨m ++ m', by rw [q', Array.append_assoc]⟩⟩
theorem SameT.free {H H' : Hp} (h : SameT H H') {a : Addr} (e : H' a = none) : H a = none := by
  cases q : H a with
  | none => rfl
  | some o =>
    rcases nt_or o with n | ⟨ps, rfl⟩
    · rw [h.s a o q n] at e; cases e
    · obtain ⟨m, z⟩ := h.t a ps q
      rw [z] at e; cases e
/-- the name that a code object made at this place bears -/
def NM (l _c : Nat) : Str := if l = 131 then "table_from.<locals>.<lambda>" else "_law_refused_right.<locals>.<lambda>"
/-- the tables are told -/
structure Told (F H : Hp) : Prop where
  k : ∀ P ps, H P = some (.tbl ps) → TriplesOk ps.toList ∧ ∀ (pos : Pos) (cv : Value), codeAmong pos ps.toList = some cv → ∃ c, cv = .ref c ∧ F c = some (LamX.CodeO c (NM pos.line pos.col))
  h1 : ∃ ps, H TabA.p1 = some (.tbl ps)
  h2 : ∃ ps, H TabA.p2 = some (.tbl ps)
/-- tables grow by what is told -/
def Tb (F H H' : Hp) : Prop := ∀ P ps', H' P = some (.tbl ps') → ∃ ps, H P = some (.tbl ps) ∧ (TriplesOk ps.toList → TriplesOk ps'.toList) ∧ ∀ (pos : Pos) (cv : Value), codeAmong pos ps'.toList = some cv → codeAmong pos ps.toList = some cv ∨ ∃ c, cv = .ref c ∧ F c = some (LamX.CodeO c (NM pos.line pos.col))
theorem Tb.refl {F H : Hp} : Tb F H H := fun _ ps e => ⟨ps, e, id, fun _ _ => .inl⟩
theorem Tb.mono {F F' H H' : Hp} (t : Tb F H H') (s : Same F F') : Tb F' H H' := fun P ps e => by
  obtain ⟨ps0, h1, h2, h3⟩ := t P ps e
  refine ⟨ps0, h1, h2, fun pos cv hc => ?_⟩
  rcases h3 pos cv hc with q | ⟨c, q1, q2⟩
  · exact .inl q
  · exact .inr ⟨c, q1, s _ _ q2⟩
theorem Tb.trans {F H H1 H2 : Hp} (a : Tb F H H1) (b : Tb F H1 H2) : Tb F H H2 := fun P ps e => by
  obtain ⟨p1, h1, h2, h3⟩ := b P ps e
  obtain ⟨p0, k1, k2, k3⟩ := a P p1 h1
  refine ⟨p0, k1, fun t => h2 (k2 t), fun pos cv hc => ?_⟩
  rcases h3 pos cv hc with q | q
  · exact k3 pos cv q
  · exact .inr q
theorem Tb.upd {F H : Hp} {p : Addr} {o : HO} (nt : NT o) : Tb F H (upd H p o) := fun P ps e => by
  by_cases z : P = p
  · subst z; rw [upd_same] at e; cases e; exact nt.elim
  · rw [upd_ne z] at e; exact ⟨ps, e, id, fun _ _ => .inl⟩
structure Grow (F H F' H' : Hp) : Prop where
  lo : Same F H
  ff : Same F F'
  hh : SameT H H'
  fh : Same F' H'
  fr : ∀ a o, F' a = some o → F a = some o ∨ H a = none
  tt : Tb F' H H'
  nt : NoT F → NoT F'
theorem SameT.tbl {H H' : Hp} (h : SameT H H') {P : Addr} (e : ∃ ps, H P = some (.tbl ps)) : ∃ ps, H' P = some (.tbl ps) := by
  obtain ⟨ps, q⟩ := e
  obtain ⟨m, z⟩ := h.t P ps q
  exact ⟨_, z⟩
theorem Told.grow (t : Told F H) (gg : Grow F H F' H') : Told F' H' := by
  refine ⟨fun P ps e => ?_, gg.hh.tbl t.h1, gg.hh.tbl t.h2⟩
  obtain ⟨ps0, h1, h2, h3⟩ := gg.tt P ps e
  obtain ⟨t1, t2⟩ := t.k P ps0 h1
  refine ⟨h2 t1, fun pos cv hc => ?_⟩
  rcases h3 pos cv hc with q | q
  · obtain ⟨c, q1, q2⟩ := t2 pos cv q
    exact ⟨c, q1, gg.ff _ _ q2⟩
  · exact q
theorem Grow.refl (h : Same F H) : Grow F H F H := ⟨h, .refl _, .refl _, h, fun _ _ e => .inl e, .refl, id⟩
theorem Grow.trans {F2 H2 : Hp} (g : Grow F H F' H') (g' : Grow F' H' F2 H2) : Grow F H F2 H2 := by
  refine ⟨g.lo, g.ff.trans g'.ff, g.hh.trans g'.hh, g'.fh, fun a o e => ?_, (g.tt.mono g'.ff).trans g'.tt, fun n => g'.nt (g.nt n)⟩
  rcases g'.fr a o e with q | q
  · exact g.fr a o q
  · exact .inr (g.hh.free q)
theorem noT_upd {p : Addr} {o : HO} (n : NoT F) (nt : NT o) : NoT (upd F p o) := fun a u e => by
  by_cases q : a = p
  · subst q; rw [upd_same] at e; cases e; exact nt
  · rw [upd_ne q] at e; exact n a u e
/-- a new object, frozen -/
theorem Grow.new {p : Addr} {o : HO} (h : Same F H) (n : H p = none) (nt : NT o := by exact trivial) : Grow F H (upd F p o) (upd H p o) := by
  refine ⟨h, fun a u e => ?_, .of fun a u e => ?_, fun a u e => ?_, fun a u e => ?_, .upd nt, fun k => noT_upd k nt⟩
  · rw [upd_ne (ne_of_none (h a u e) n)]; exact e
  · rw [upd_ne (ne_of_none e n)]; exact e
  · by_cases q : a = p
    · subst q; rw [upd_same] at e ⊢; exact e
    · rw [upd_ne q] at e ⊢; exact h a u e
  · by_cases q : a = p
    · subst q; exact .inr n
    · rw [upd_ne q] at e; exact .inl e
/-- a new object that nothing names -/
theorem Grow.more {p : Addr} {o : HO} (h : Same F H) (n : H p = none) (nt : NT o := by exact trivial) : Grow F H F (upd H p o) :=
  ⟨h, .refl _, .of fun a u e => by rw [upd_ne (ne_of_none e n)]; exact e, fun a u e => by rw [upd_ne (ne_of_none (h a u e) n)]; exact h a u e, fun _ _ e => .inl e, .upd nt, id⟩
/-- an own object is written -/
theorem Grow.wr {p : Addr} {o : HO} (g : Grow F H F' H') (fp : F' p = none) (zp : H p = none) (nt : NT o := by exact trivial) : Grow F H F' (upd H' p o) := by
  refine ⟨g.lo, g.ff, ⟨fun a u e n => ?_, fun a ps e => ?_⟩, fun a u e => ?_, g.fr, g.tt.trans (.upd nt), g.nt⟩
  · rw [upd_ne (ne_of_none e zp)]; exact g.hh.s a u e n
  · obtain ⟨m, q⟩ := g.hh.t a ps e
    exact ⟨m, by rw [upd_ne (ne_of_none e zp)]; exact q⟩
  · rw [upd_ne (ne_of_none e fp)]; exact g.fh a u e
/-- an own object is frozen -/
theorem Grow.frz {p : Addr} {u : HO} (g : Grow F H F' H') (fp : F' p = none) (zp : H p = none) (hu : H' p = some u) (nt : NT u := by exact trivial) : Grow F H (upd F' p u) H' := by
  have m : Same F' (upd F' p u) := fun a o e => by rw [upd_ne (ne_of_none e fp)]; exact e
  refine ⟨g.lo, g.ff.trans m, g.hh, fun a o e => ?_, fun a o e => ?_, g.tt.mono m, fun k => noT_upd (g.nt k) nt⟩
  · by_cases z : a = p
    · subst z; rw [upd_same] at e; cases e; exact hu
    · rw [upd_ne z] at e; exact g.fh a o e
  · by_cases z : a = p
    · subst z; exact .inr zp
    · rw [upd_ne z] at e; exact g.fr a o e
/-- two growths side by side, the second one over what was less frozen -/
theorem Grow.join {F1 F2 H1 H2 : Hp} (n1 : NoT F1) (gff : Same F F1) (gfh : Same F1 H1) (g2 : Grow F H1 F2 H2) : ∃ F3, Grow F1 H1 F3 H2 ∧ Same F2 F3 := by
  have s23 : ∀ a o, F2 a = some o → (match F1 a with | some o => some o | none => F2 a) = some o := fun a o e => by
    cases q : F1 a with
    | some u =>
      have z := g2.hh.s a _ (gfh a _ q) (n1 a _ q)
      rw [g2.fh a o e] at z
      cases z
      rfl
    | none => exact e
  refine ⟨fun a => match F1 a with | some o => some o | none => F2 a, ⟨gfh, fun a o e => by simp only [e], g2.hh, fun a o e => ?_, fun a o e => ?_, g2.tt.mono s23, fun k a o e => ?_⟩, s23⟩
  · cases q : F1 a with
    | some u =>
      simp only [q] at e
      cases e
      exact g2.hh.s a _ (gfh a _ q) (n1 a _ q)
    | none =>
      simp only [q] at e
      exact g2.fh a o e
  · cases q : F1 a with
    | some u =>
      simp only [q] at e
      cases e
      exact .inl rfl
    | none =>
      simp only [q] at e
      rcases g2.fr a o e with z | z
      · rw [gff a o z] at q; cases q
      · exact .inr z
  · cases q : F1 a with
    | some u =>
      simp only [q] at e
      cases e
      exact k a _ q
    | none =>
      simp only [q] at e
      exact g2.nt (fun b u z => n1 b u (gff b u z)) a o e
end

/-! ### the lambda of table_from -/
def lamP : Arguments × Expr × Scope := match defBody s_table_from with
  | [_, .Return (some (.Call _ [_, .Lambda p b s _] _ _)) _] => (p, b, s)
  | _ => (defArgs s_table_from, .Name "x" ⟨0, 0, 0, 0⟩, defScope s_table_from)
/-- a cell object, known -/
def CellH (o : Obj) : HO := .frz o (.own 0)
def lamO (cl : List (Str × Addr)) (pm : Value) (c' : Addr) (ctv : Value) : Obj := PySem.W.kla_obj "<lambda>" "table_from.<locals>.<lambda>" lamP.1 lamP.2.1 lamP.2.2 cl pm c' ctv
structure LamAt (P : Program) (w : World) (F : Hp) (f c' c1 c2 : Addr) (o1 o2 : Obj) (u1 u2 : Value) (v1 v2 : V) (pm ctv : Value) (cl : List (Str × Addr)) (dc de : PyData) : Prop where
  fo : F f = some (.frz (lamO cl pm c' ctv) (.own 0))
  co : F c' = some (LamX.CodeO c' "table_from.<locals>.<lambda>")
  l1 : cl.lookup ("clocks" : Str) = some c1
  l2 : cl.lookup ("every" : Str) = some c2
  only : ∀ y c, cl.lookup y = some c → (y = "clocks" ∧ c = c1) ∨ (y = "every" ∧ c = c2)
  ne : c1 ≠ c2
  h1 : F c1 = some (CellH o1)
  h2 : F c2 = some (CellH o2)
  d1 : o1.data = .cell (some u1)
  d2 : o2.data = .cell (some u2)
  r1 : RelV v1 u1
  r2 : RelV v2 u2
  n1 : Dn P w F v1 dc
  n2 : Dn P w F v2 de
def FnIn (P : Program) (w : World) (F : Hp) (v : V) (dc de : PyData) : Prop := ∃ f c' c1 c2 o1 o2 u1 u2 v1 v2 pm ctv cl, v = .ref f ∧ LamAt P w F f c' c1 c2 o1 o2 u1 u2 v1 v2 pm ctv cl dc de
theorem FnIn.mono {P : Program} {w : World} {F F' : Hp} {v : V} {dc de : PyData} (s : Same F F') (h : FnIn P w F v dc de) : FnIn P w F' v dc de := by
  obtain ⟨f, c', c1, c2, o1, o2, u1, u2, v1, v2, pm, ctv, cl, e, L⟩ := h
  exact ⟨f, c', c1, c2, o1, o2, u1, u2, v1, v2, pm, ctv, cl, e, ⟨s _ _ L.fo, s _ _ L.co, L.l1, L.l2, L.only, L.ne, s _ _ L.h1, s _ _ L.h2, L.d1, L.d2, L.r1, L.r2, L.n1.mono s, L.n2.mono s⟩⟩

/-! ### slots -/
inductive SV where
  | no
  | fz (d : PyData)
  | ol (ds : List PyData)
  | od (kds : List (PyData × PyData))
  /-- a range object; the lambda of table_from, with what it captured -/
  | rg (lo hi : Int)
  | fn (dc de : PyData)
def SV.own : SV → Prop
  | .ol _ => True
  | .od _ => True
  | _ => False
abbrev En := List SV
def SlotOk (P : Program) (w : World) (H0 F H : Hp) (p : Addr) : Option V → SV → Prop
  | _, .no => True
  | some v, .fz d => Dn P w F v d
  | some v, .ol ds => v = .ref p ∧ F p = none ∧ H0 p = none ∧ ∃ xs, H p = some (.lst xs) ∧ DnAll P w F xs ds.reverse
  | some v, .od kds => v = .ref p ∧ F p = none ∧ H0 p = none ∧ ∃ es, H p = some (dN P w p es) ∧ DnEs P w F es kds
  | some v, .rg lo hi => ∃ a, v = .ref a ∧ F a = some (.rng lo hi)
  | some v, .fn dc de => FnIn P w F v dc de
  | none, _ => False
/-- the state: entered at F0, H0; frozen F; the slots stand for env -/
structure Rel (P : Program) (w : World) (F0 H0 F H : Hp) (σ : L2.St) (env : En) : Prop where
  g : Grow F0 H0 F H
  len : σ.length = env.length
  sl : ∃ p : Nat → Addr, (∀ i so sv, σ[i]? = some so → env[i]? = some sv → SlotOk P w H0 F H (p i) so sv) ∧
    ∀ i j a b, env[i]? = some a → env[j]? = some b → a.own → b.own → p i = p j → i = j
  n0 : NoT F0
  t0 : Told F0 H0
section
variable {P : Program} {w : World} {F F' H H' F0 H0 : Hp} {σ : L2.St} {env : En}
theorem SlotOk.grow {p : Addr} {so : Option V} {sv : SV} (g : Grow F H F' H') (s : SlotOk P w H0 F H p so sv) : SlotOk P w H0 F' H' p so sv := by
  cases so with
  | none => cases sv <;> exact s
  | some v =>
    cases sv with
    | no => trivial
    | fz d => exact Dn.mono g.ff s
    | rg lo hi => obtain ⟨a, e, h⟩ := s; exact ⟨a, e, g.ff _ _ h⟩
    | fn dc de => exact FnIn.mono g.ff s
    | ol ds =>
      obtain ⟨e, f, z, xs, h, r⟩ := s
      refine ⟨e, ?_, z, xs, g.hh.get _ _ h, DnAll.mono g.ff r⟩
      cases q : F' p with
      | none => rfl
      | some o =>
        rcases g.fr p o q with y | y
        · rw [f] at y; cases y
        · rw [h] at y; cases y
    | od kds =>
      obtain ⟨e, f, z, es, h, r⟩ := s
      refine ⟨e, ?_, z, es, g.hh.get _ _ h, DnEs.mono g.ff r⟩
      cases q : F' p with
      | none => rfl
      | some o =>
        rcases g.fr p o q with y | y
        · rw [f] at y; cases y
        · rw [h] at y; cases y
theorem Rel.grow (R : Rel P w F0 H0 F H σ env) (g : Grow F H F' H') : Rel P w F0 H0 F' H' σ env := by
  obtain ⟨p, h1, h2⟩ := R.sl
  exact ⟨R.g.trans g, R.len, ⟨p, fun i so sv a b => (h1 i so sv a b).grow g, h2⟩, R.n0, R.t0⟩
theorem Rel.noT (R : Rel P w F0 H0 F H σ env) : NoT F := R.g.nt R.n0
theorem Rel.told (R : Rel P w F0 H0 F H σ env) : Told F H := R.t0.grow R.g
theorem Rel.fh (R : Rel P w F0 H0 F H σ env) : Same F H := R.g.fh
theorem Rel.get (R : Rel P w F0 H0 F H σ env) {i : Nat} {sv : SV} (h : env[i]? = some sv) : ∃ p so, σ[i]? = some so ∧ SlotOk P w H0 F H p so sv := by
  obtain ⟨p, h1, _⟩ := R.sl
  have hi : i < σ.length := by rw [R.len]; exact (List.getElem?_eq_some_iff.mp h).1
  exact ⟨p i, σ[i], by simp, h1 i _ sv (by simp) h⟩
/-- a slot is stored: data -/
theorem Rel.set (R : Rel P w F0 H0 F H σ env) {i : Nat} {v : V} {d : PyData} (h : Dn P w F v d) : Rel P w F0 H0 F H (σ.set i (some v)) (env.set i (.fz d)) := by
  obtain ⟨p, h1, h2⟩ := R.sl
  refine ⟨R.g, by simp [R.len], ⟨p, fun j so sv a b => ?_, fun j k a b ha hb oa ob e => ?_⟩, R.n0, R.t0⟩
  · by_cases q : i = j
    · subst q
      have hi : i < σ.length := by
        have := (List.getElem?_eq_some_iff.mp a).1
        simpa using this
      rw [List.getElem?_set_self hi] at a
      rw [List.getElem?_set_self (by rw [← R.len]; exact hi)] at b
      cases a; cases b
      exact h
    · rw [List.getElem?_set_ne q] at a b
      exact h1 j so sv a b
  · by_cases q : i = j
    · subst q
      have hi : i < env.length := by
        have := (List.getElem?_eq_some_iff.mp ha).1
        simpa using this
      rw [List.getElem?_set_self hi] at ha
      cases ha
      exact oa.elim
    · by_cases q' : i = k
      · subst q'
        have hi : i < env.length := by
          have := (List.getElem?_eq_some_iff.mp hb).1
          simpa using this
        rw [List.getElem?_set_self hi] at hb
        cases hb
        exact ob.elim
      · rw [List.getElem?_set_ne q] at ha
        rw [List.getElem?_set_ne q'] at hb
        exact h2 j k a b ha hb oa ob e
end
end K67
set_option Elab.async false
set_option linter.all false
set_option maxRecDepth 100000
set_option maxHeartbeats 2000000
namespace K67
open PySem PySem.Spec PyProof.Rows L2
variable [TabA]

abbrev RE := En → Option PyData
abbrev RT := En → Option Bool
abbrev RA := En → Option (List PyData)
inductive Oc where
  | nx (e : En)
  | rt (d : PyData)
abbrev RS := En → Option Oc
section
variable (P : Program) (w : World)
/-- an expression that is worth r -/
def tE (r : RE) : TE := fun σ H Q => ∃ F0 H0 F env d, Rel P w F0 H0 F H σ env ∧ r env = some d ∧ ∀ v F' H', Grow F H F' H' → Dn P w F' v d → Q v H'
def tT (r : RT) : TT := fun σ H Q => ∃ F0 H0 F env b, Rel P w F0 H0 F H σ env ∧ r env = some b ∧ ∀ F' H', Grow F H F' H' → Q b H'
def tA (r : RA) : TA := fun σ H Q => ∃ F0 H0 F env ds, Rel P w F0 H0 F H σ env ∧ r env = some ds ∧ ∀ vs F' H', Grow F H F' H' → DnAll P w F' vs ds → Q vs H'
def OcOk (F0 H0 F : Hp) (D : Ends) : Oc → Prop
  | .nx env' => ∀ σ' F' H', Rel P w F0 H0 F' H' σ' env' → Same F F' → D.nx σ' H'
  | .rt d => ∀ v F' H', Grow F0 H0 F' H' → Dn P w F' v d → D.rt v H'
def tS (r : RS) : TS := fun D σ H => ∃ F0 H0 F env o, Rel P w F0 H0 F H σ env ∧ r env = some o ∧ OcOk P w F0 H0 F D o
theorem OcOk.mono {P : Program} {w : World} {F0 H0 F F' : Hp} {D : Ends} {o : Oc} (s : Same F F') (k : OcOk P w F0 H0 F D o) : OcOk P w F0 H0 F' D o := by
  cases o with
  | nx e => exact fun σ' F2 H2 R s' => k σ' F2 H2 R (s.trans s')
  | rt d => exact k
end
abbrev JE (X : Cx) (e : Expr) (r : RE) : Prop := PE X e (tE X.prog X.w r)
abbrev JT (X : Cx) (e : Expr) (r : RT) : Prop := PT X e (tT X.prog X.w r)
abbrev JW (X : Cx) (e : Expr) (r : RT) : Prop := PW X e (tT X.prog X.w r)
structure JA (X : Cx) (es : List Expr) (r : RA) : Prop where
  pa : PA X es (tA X.prog X.w r)
  len : ∀ env ds, r env = some ds → ds.length = es.length
abbrev JS (X : Cx) (e : Stmt) (r : RS) : Prop := PS X e (tS X.prog X.w r)
abbrev JSs (X : Cx) (e : List Stmt) (r : RS) : Prop := PSs X e (tS X.prog X.w r)

theorem PE.imp {X : Cx} {e : Expr} {t t' : TE} (h : PE X e t) (k : ∀ σ H Q, t' σ H Q → t σ H Q) : PE X e t' := ⟨fun pins s σ H Q I q => h.run pins s σ H Q I (k σ H Q q)⟩
theorem PT.imp {X : Cx} {e : Expr} {t t' : TT} (h : PT X e t) (k : ∀ σ H Q, t' σ H Q → t σ H Q) : PT X e t' := ⟨fun pins s σ H Q I q => h.run pins s σ H Q I (k σ H Q q)⟩
theorem PW.imp {X : Cx} {e : Expr} {t t' : TT} (h : PW X e t) (k : ∀ σ H Q, t' σ H Q → t σ H Q) : PW X e t' := ⟨fun wh pins s σ H Q I q => h.run wh pins s σ H Q I (k σ H Q q)⟩
theorem PA.imp {X : Cx} {e : List Expr} {t t' : TA} (h : PA X e t) (k : ∀ σ H Q, t' σ H Q → t σ H Q) : PA X e t' := ⟨fun p pins s σ H Q I q => h.run p pins s σ H Q I (k σ H Q q)⟩
theorem PS.imp {X : Cx} {e : Stmt} {t t' : TS} (h : PS X e t) (k : ∀ D σ H, t' D σ H → t D σ H) : PS X e t' := ⟨fun pins s σ H D I q => h.run pins s σ H D I (k D σ H q)⟩
theorem PSs.imp {X : Cx} {e : List Stmt} {t t' : TS} (h : PSs X e t) (k : ∀ D σ H, t' D σ H → t D σ H) : PSs X e t' := ⟨fun pins s σ H D I q => h.run pins s σ H D I (k D σ H q)⟩

/-! ### the runners -/
noncomputable def eVar (i : Nat) : RE := fun env => bd (nth env i) fun sv => @SV.rec (fun _ => Option PyData) none (fun d => some d) (fun _ => none) (fun _ => none) (fun _ _ => none) (fun _ _ => none) sv
def eC (d : PyData) : RE := fun _ => some d
noncomputable def e2 (f : PyData → PyData → Option PyData) (a b : RE) : RE := fun env => bd (a env) fun x => bd (b env) fun y => f x y
noncomputable def e1 (f : PyData → Option PyData) (a : RE) : RE := fun env => bd (a env) f
def aNil : RA := fun _ => some []
noncomputable def aCons (a : RE) (r : RA) : RA := fun env => bd (a env) fun x => bd (r env) fun xs => some (x :: xs)
noncomputable def eCall (f : List PyData → Option PyData) (a : RA) : RE := fun env => bd (a env) f
noncomputable def bIf {α : Type} (b : Bool) (x y : α) : α := @Bool.rec (fun _ => α) y x b
theorem bIf_true {α : Type} (x y : α) : bIf true x y = x := rfl
theorem bIf_false {α : Type} (x y : α) : bIf false x y = y := rfl
noncomputable def toB (d : PyData) : Option Bool := @PyData.casesOn (fun _ => Option Bool) d none (fun b => some b) (fun _ => none) (fun _ => none) (fun _ => none) (fun _ => none) (fun _ => none)
noncomputable def toI (d : PyData) : Option Int := @PyData.casesOn (fun _ => Option Int) d none (fun _ => none) (fun i => some i) (fun _ => none) (fun _ => none) (fun _ => none) (fun _ => none)
/-- a list's or a tuple's items -/
noncomputable def toSq (d : PyData) : Option (List PyData) := @PyData.casesOn (fun _ => Option (List PyData)) d none (fun _ => none) (fun _ => none) (fun _ => none) (fun xs => some xs) (fun xs => some xs) (fun _ => none)
theorem toB_some {d : PyData} {b : Bool} (h : toB d = some b) : d = .bool b := by
  cases d <;> first | (cases h; rfl) | cases h
theorem toI_some {d : PyData} {b : Int} (h : toI d = some b) : d = .int b := by
  cases d <;> first | (cases h; rfl) | cases h
theorem toSq_some {d : PyData} {b : List PyData} (h : toSq d = some b) : d = .list b ∨ d = .tuple b := by
  cases d <;> first | (cases h; exact .inl rfl) | (cases h; exact .inr rfl) | cases h
noncomputable def tB (a : RE) : RT := fun env => bd (a env) toB
noncomputable def rAnd (a b : RT) : RT := fun env => bd (a env) fun x => bIf x (b env) (some false)
noncomputable def rOr (a b : RT) : RT := fun env => bd (a env) fun x => bIf x (some true) (b env)
noncomputable def rNot (a : RT) : RT := fun env => bd (a env) fun x => some (bIf x false true)
noncomputable def eIf (c : RT) (a b : RE) : RE := fun env => bd (c env) fun x => bIf x (a env) (b env)
noncomputable def eTB (c : RT) : RE := fun env => bd (c env) fun x => some (.bool x)

/-! ### rules over values -/
section
variable (P : Program) (w : World)
/-- a rule of two values, by data -/
def R2Ok (f : PyData → PyData → Option PyData) (r : R2) : Prop :=
  ∀ (F H : Hp) (x y : V) (d e z : PyData) (Q : VK), Same F H → Dn P w F x d → Dn P w F y e → f d e = some z → (∀ v F' H', Grow F H F' H' → Dn P w F' v z → Q v H') → r x y H Q
def RLOk (f : List PyData → Option PyData) (r : List V → Hp → VK → Prop) : Prop :=
  ∀ (F H : Hp) (xs : List V) (ds : List PyData) (z : PyData) (Q : VK), Same F H → DnAll P w F xs ds → f ds = some z → (∀ v F' H', Grow F H F' H' → Dn P w F' v z → Q v H') → r xs H Q
end
section
variable {X : Cx} {a b c : Expr} {ra rb rc : RE} {pos : Pos}
theorem R2Ok.or {P : Program} {w : World} {f g : PyData → PyData → Option PyData} {r s : R2} (hf : R2Ok P w f r) (hg : R2Ok P w g s) : R2Ok P w (fun x y => match f x y with | some z => some z | none => g x y) (fun x y H Q => r x y H Q ∨ s x y H Q) := by
  intro F H x y d e z Q s hx hy h k
  cases q : f d e with
  | some z' =>
    simp only [q] at h
    cases h
    exact .inl (hf F H x y d e _ Q s hx hy q k)
  | none =>
    simp only [q] at h
    exact .inr (hg F H x y d e z Q s hx hy h k)

/-- two parts in a row -/
theorem two {f : PyData → PyData → Option PyData} {r : R2} (hf : R2Ok X.prog X.w f r) : ∀ σ H Q, tE X.prog X.w (e2 f ra rb) σ H Q → tOp r (tE X.prog X.w ra) (tE X.prog X.w rb) σ H Q := by
  rintro σ H Q ⟨F0, H0, F, env, z, R, hr, k⟩
  obtain ⟨d, h1, hr⟩ := bd_some hr
  obtain ⟨e, h2, hz⟩ := bd_some hr
  exact ⟨F0, H0, F, env, d, R, h1, fun v F1 H1 g1 n1 => ⟨F0, H0, F1, env, e, R.grow g1, h2, fun u F2 H2 g2 n2 =>
    hf F2 H2 v u d e z Q g2.fh (n1.mono g2.ff) n2 hz fun v' F' H' g' n' => k v' F' H' (g1.trans (g2.trans g')) n'⟩⟩
theorem je_bin {op : Operator} {f : PyData → PyData → Option PyData} {r : R2} (ho : OpR X (binaryOp op) r) (hf : R2Ok X.prog X.w f r) (ha : JE X a ra) (hb : JE X b rb) : JE X (.BinOp a op b pos) (e2 f ra rb) := PE.imp (pe_op ho ha hb) (two hf)
theorem je_cmp {op : CmpOp} {f : PyData → PyData → Option PyData} {r : R2} (ho : OpR X (compareOp op) r) (hf : R2Ok X.prog X.w f r) (ha : JE X a ra) (hb : JE X b rb) (hm : behindInMarks op b = false) : JE X (.Compare a [op] [b] pos) (e2 f ra rb) := PE.imp (pe_cmpR ho ha hb hm) (two hf)
theorem bools {t : TE} {r : RE} (h : ∀ σ H Q, tE X.prog X.w r σ H Q → t σ H Q) : ∀ σ H Q, tT X.prog X.w (tB r) σ H Q → t σ H fun x H' => ∃ k, x = .bl k ∧ Q k H' := by
  rintro σ H Q ⟨F0, H0, F, env, z, R, hr, k⟩
  obtain ⟨d, h1, hr⟩ := bd_some hr
  have e := toB_some hr
  subst e
  refine h σ H _ ⟨F0, H0, F, env, _, R, h1, fun v F' H' g n => ?_⟩
  cases n
  exact ⟨_, rfl, k F' H' g⟩
theorem jt_cmp {op : CmpOp} {f : PyData → PyData → Option PyData} {r : R2} (ho : OpR X (compareOp op) r) (hf : R2Ok X.prog X.w f r) (ha : JE X a ra) (hb : JE X b rb) (hm : behindInMarks op b = false) : JT X (.Compare a [op] [b] pos) (tB (e2 f ra rb)) := PT.imp (pt_cmpR ho ha hb hm) (bools (two hf))
/-- an expression whose value is a bool, as a test -/
theorem jt_val {e : Expr} {r : RE} (h : JE X e r) (he : ∀ whole, isTrue e X.env whole = (do let v ← whole; standAt e.pos; holding [v] (truthy v)) := by intro _; rfl) : JT X e (tB r) := PT.imp (pt_val h he) (bools fun _ _ _ q => q)
theorem je_ix {f : PyData → PyData → Option PyData} {r : R2} (hr : IxR X r) (hf : R2Ok X.prog X.w f r) (ha : JE X a ra) (hb : JE X b rb) (hs : PlainIx b) : JE X (.Subscript a b pos) (e2 f ra rb) := PE.imp (pe_ix hr ha hb hs) (two hf)

theorem je_var (i : Nat) {x : Str} (hN : X.N[i]? = some x := by rfl) (hv : Vis X.env.scope x := by first | exact Or.inl rfl | exact Or.inr (Or.inl rfl) | exact Or.inr (Or.inr rfl)) (hd : (x == ("__debug__" : Str)) = false := by decide)
    (hcd : (x == ("__classdict__" : Str)) = false := by decide) : JE X (.Name x pos) (eVar i) := by
  refine PE.imp (pe_var hN hv hd hcd) ?_
  rintro σ H Q ⟨F0, H0, F, env, z, R, hr, k⟩
  obtain ⟨sv, h1, hr⟩ := bd_some hr
  rw [nth_eq] at h1
  cases sv with
  | fz d =>
    cases hr
    obtain ⟨p, so, hso, ok⟩ := R.get h1
    cases so with
    | none => exact ok.elim
    | some v => exact ⟨v, hso, k v F H (Grow.refl R.fh) ok⟩
  | no => cases hr
  | ol _ => cases hr
  | od _ => cases hr
  | rg _ _ => cases hr
  | fn _ _ => cases hr
theorem je_c {v : V} {d : PyData} (h : ∀ F, Dn X.prog X.w F v d) (hp : PE X a (tC v)) : JE X a (eC d) := by
  refine PE.imp hp ?_
  rintro σ H Q ⟨F0, H0, F, env, z, R, hr, k⟩
  cases hr
  exact k v F H (Grow.refl R.fh) (h F)
theorem je_int {i : Int} {j : Nat} : JE X (.Constant (.int i) j pos) (eC (.int i)) := je_c (fun _ => .int i) pe_int
theorem je_bl {i : Bool} {j : Nat} : JE X (.Constant (.bool i) j pos) (eC (.bool i)) := je_c (fun _ => .bl i) pe_bl
theorem je_non {j : Nat} : JE X (.Constant .none j pos) (eC .none) := je_c (fun _ => .non) pe_non
theorem je_str {x : Str} {j : Nat} : JE X (.Constant (.str x) j pos) (eC (.str x)) := je_c (fun _ => .str x) pe_str
/-- a constant of the module -/
theorem je_glob {x : Str} {i : Int} (hg : Gl X x) (hm : ∃ t, X.mg x = some (.int i t)) (hd : (x == ("__debug__" : Str)) = false := by decide) : JE X (.Name x pos) (eC (.int i)) := by
  obtain ⟨t, hm⟩ := hm
  exact je_c (fun _ => .int i) (pe_glob hg hm ⟨t, rfl⟩ hd)

/-! ### and, or, not, if -/
theorem jw_1 {op} {r : RT} (h : JT X a r) : JW X (.BoolOp op [a] pos) r := by
  cases op with
  | And => exact pw_and1 h
  | Or => exact pw_or1 h
theorem jw_and {r r' : RT} {rest : List Expr} (ha : JT X a r) (hb : JW X (.BoolOp .And (b :: rest) pos) r') : JW X (.BoolOp .And (a :: b :: rest) pos) (rAnd r r') := by
  refine PW.imp (pw_and ha hb) ?_
  rintro σ H Q ⟨F0, H0, F, env, z, R, hr, k⟩
  obtain ⟨d, h1, hr⟩ := bd_some hr
  refine ⟨F0, H0, F, env, d, R, h1, fun F1 H1 g1 => ?_⟩
  cases d with
  | true =>
    rw [if_pos rfl]
    exact ⟨F0, H0, F1, env, z, R.grow g1, hr, fun F2 H2 g2 => k F2 H2 (g1.trans g2)⟩
  | false =>
    rw [if_neg Bool.false_ne_true]
    cases hr
    exact k F1 H1 g1
theorem jw_or {r r' : RT} {rest : List Expr} (ha : JT X a r) (hb : JW X (.BoolOp .Or (b :: rest) pos) r') : JW X (.BoolOp .Or (a :: b :: rest) pos) (rOr r r') := by
  refine PW.imp (pw_or ha hb) ?_
  rintro σ H Q ⟨F0, H0, F, env, z, R, hr, k⟩
  obtain ⟨d, h1, hr⟩ := bd_some hr
  refine ⟨F0, H0, F, env, d, R, h1, fun F1 H1 g1 => ?_⟩
  cases d with
  | false =>
    rw [if_neg Bool.false_ne_true]
    exact ⟨F0, H0, F1, env, z, R.grow g1, hr, fun F2 H2 g2 => k F2 H2 (g1.trans g2)⟩
  | true =>
    rw [if_pos rfl]
    cases hr
    exact k F1 H1 g1
theorem jt_not {r : RT} (ha : JT X a r) : JT X (.UnaryOp .Not a pos) (rNot r) := by
  refine PT.imp (pt_not ha) ?_
  rintro σ H Q ⟨F0, H0, F, env, z, R, hr, k⟩
  obtain ⟨d, h1, hr⟩ := bd_some hr
  refine ⟨F0, H0, F, env, d, R, h1, fun F1 H1 g1 => ?_⟩
  cases d <;> (cases hr; exact k F1 H1 g1)
/-- .. as values -/
theorem je_b1 {op} (h : JE X a ra) : JE X (.BoolOp op [a] pos) ra := pe_one h
theorem je_and {rest : List Expr} (ha : JE X a ra) (hb : JE X (.BoolOp .And (b :: rest) pos) rb) : JE X (.BoolOp .And (a :: b :: rest) pos) (eIf (tB ra) rb (eC (.bool false))) := by
  refine PE.imp (pe_and ha hb) ?_
  rintro σ H Q ⟨F0, H0, F, env, z, R, hr, k⟩
  obtain ⟨c, h1, hr⟩ := bd_some hr
  obtain ⟨d, h1, h2⟩ := bd_some h1
  have e := toB_some h2
  subst e
  refine ⟨F0, H0, F, env, _, R, h1, fun v F1 H1 g1 n => ?_⟩
  cases n
  refine ⟨c, rfl, ?_⟩
  cases c with
  | true =>
    rw [if_pos rfl]
    exact ⟨F0, H0, F1, env, z, R.grow g1, hr, fun v F2 H2 g2 n => k v F2 H2 (g1.trans g2) n⟩
  | false =>
    rw [if_neg Bool.false_ne_true]
    cases hr
    exact k _ F1 H1 g1 (.bl _)
theorem je_or {rest : List Expr} (ha : JE X a ra) (hb : JE X (.BoolOp .Or (b :: rest) pos) rb) : JE X (.BoolOp .Or (a :: b :: rest) pos) (eIf (tB ra) (eC (.bool true)) rb) := by
  refine PE.imp (pe_or ha hb) ?_
  rintro σ H Q ⟨F0, H0, F, env, z, R, hr, k⟩
  obtain ⟨c, h1, hr⟩ := bd_some hr
  obtain ⟨d, h1, h2⟩ := bd_some h1
  have e := toB_some h2
  subst e
  refine ⟨F0, H0, F, env, _, R, h1, fun v F1 H1 g1 n => ?_⟩
  cases n
  refine ⟨c, rfl, ?_⟩
  cases c with
  | false =>
    rw [if_neg Bool.false_ne_true]
    exact ⟨F0, H0, F1, env, z, R.grow g1, hr, fun v F2 H2 g2 n => k v F2 H2 (g1.trans g2) n⟩
  | true =>
    rw [if_pos rfl]
    cases hr
    exact k _ F1 H1 g1 (.bl _)
theorem je_not (h : JE X a ra) : JE X (.UnaryOp .Not a pos) (eTB (rNot (tB ra))) := by
  refine PE.imp (pe_not h) ?_
  rintro σ H Q ⟨F0, H0, F, env, z, R, hr, k⟩
  obtain ⟨c, h1, hr⟩ := bd_some hr
  obtain ⟨c', h1, h3⟩ := bd_some h1
  obtain ⟨d, h1, h2⟩ := bd_some h1
  have e := toB_some h2
  subst e
  refine ⟨F0, H0, F, env, _, R, h1, fun v F1 H1 g1 n => ?_⟩
  cases n
  refine ⟨c', rfl, ?_⟩
  cases c' <;> (cases h3; cases hr; exact k _ F1 H1 g1 (.bl _))
theorem je_if {rt : RT} (hc : JT X c rt) (ha : JE X a ra) (hb : JE X b rb) : JE X (.IfExp c a b pos) (eIf rt ra rb) := by
  refine PE.imp (pe_ifExp hc ha hb) ?_
  rintro σ H Q ⟨F0, H0, F, env, z, R, hr, k⟩
  obtain ⟨d, h1, hr⟩ := bd_some hr
  refine ⟨F0, H0, F, env, d, R, h1, fun F1 H1 g1 => ?_⟩
  cases d with
  | true =>
    rw [if_pos rfl]
    exact ⟨F0, H0, F1, env, z, R.grow g1, hr, fun v F2 H2 g2 n => k v F2 H2 (g1.trans g2) n⟩
  | false =>
    rw [if_neg Bool.false_ne_true]
    exact ⟨F0, H0, F1, env, z, R.grow g1, hr, fun v F2 H2 g2 n => k v F2 H2 (g1.trans g2) n⟩

/-! ### arguments, displays, calls -/
theorem ja_nil : JA X [] aNil := by
  refine ⟨PA.imp pa_nil ?_, fun env ds h => ?_⟩
  · rintro σ H Q ⟨F0, H0, F, env, z, R, hr, k⟩
    cases hr
    exact k [] F H (Grow.refl R.fh) .nil
  · cases h; rfl
theorem ja_cons {es : List Expr} {r : RA} (ha : JE X a ra) (hr : JA X es r) (hs : starEach (a :: es) X.env = (false, eval a X.env) :: starEach es X.env := by rfl) : JA X (a :: es) (aCons ra r) := by
  refine ⟨PA.imp (pa_cons ha hr.pa hs) ?_, fun env ds h => ?_⟩
  · rintro σ H Q ⟨F0, H0, F, env, z, R, hr, k⟩
    obtain ⟨d, h1, hr⟩ := bd_some hr
    obtain ⟨ds, h2, hr⟩ := bd_some hr
    cases hr
    exact ⟨F0, H0, F, env, d, R, h1, fun v F1 H1 g1 n1 => ⟨F0, H0, F1, env, ds, R.grow g1, h2, fun vs F2 H2 g2 n2 => k (v :: vs) F2 H2 (g1.trans g2) (.cons (n1.mono g2.ff) n2)⟩⟩
  · obtain ⟨d, h1, h⟩ := bd_some h
    obtain ⟨ds', h2, h⟩ := bd_some h
    cases h
    simp [hr.len env ds' h2]
theorem jcall {f : List PyData → Option PyData} {r : List V → Hp → VK → Prop} {es : List Expr} {rs : RA} (hf : RLOk X.prog X.w f r) : ∀ σ H Q, tE X.prog X.w (eCall f rs) σ H Q → tCB r (tA X.prog X.w rs) σ H Q := by
  rintro σ H Q ⟨F0, H0, F, env, z, R, hr, k⟩
  obtain ⟨ds, h1, hr⟩ := bd_some hr
  exact ⟨F0, H0, F, env, ds, R, h1, fun vs F1 H1 g1 n1 => hf F1 H1 vs ds z Q g1.fh n1 hr fun v F' H' g' n' => k v F' H' (g1.trans g') n'⟩
theorem je_callB {x : Str} {p : Pos} {es : List Expr} {id : String} {f : List PyData → Option PyData} {r : List V → Hp → VK → Prop} {rs : RA} (hc : CallR X (.builtin id) r) (hf : RLOk X.prog X.w f r) (hg : Gl X x) (hm : X.mg x = none) (hv : bootBuiltins x = some (.builtin id)) (ha : JA X (a :: es) rs)
    (hn : x ≠ "__name__" := by decide) (hdb : (x == ("__debug__" : Str)) = false := by decide)
    (he : starEach (a :: es) X.env = (false, eval a X.env) :: starEach es X.env := by rfl) (hpl : (backTo pos (starEach es X.env)).any (·.1) = false := by rfl) : JE X (.Call (.Name x p) (a :: es) [] pos) (eCall f rs) :=
  PE.imp (pe_callB hc hg hm hv ha.pa hn hdb he hpl) (jcall (es := es) hf)
theorem je_callTy {x : Str} {p : Pos} {es : List Expr} {id : String} {f : List PyData → Option PyData} {r : List V → Hp → VK → Prop} {rs : RA} (hc : CallR X (.type id) r) (hf : RLOk X.prog X.w f r) (hg : Gl X x) (hm : X.mg x = none) (hv : bootBuiltins x = some (.type id)) (ha : JA X (a :: es) rs)
    (hn : x ≠ "__name__" := by decide) (hdb : (x == ("__debug__" : Str)) = false := by decide)
    (he : starEach (a :: es) X.env = (false, eval a X.env) :: starEach es X.env := by rfl) (hpl : (backTo pos (starEach es X.env)).any (·.1) = false := by rfl) : JE X (.Call (.Name x p) (a :: es) [] pos) (eCall f rs) :=
  PE.imp (pe_callTy hc hg hm hv ha.pa hn hdb he hpl) (jcall (es := es) hf)
end

/-! ### what a def promises -/
/-- called with data ds, it gives what rf ds says, and what stood stands -/
def spOf (P : Program) (w : World) (n : Nat) (rf : List PyData → Option PyData) : Sp := fun vs H Q _ => ∃ F ds d, Same F H ∧ NoT F ∧ Told F H ∧ DnAll P w F vs ds ∧ ds.length = n ∧ rf ds = some d ∧ ∀ v F' H', Grow F H F' H' → Dn P w F' v d → Q v H'
theorem spOf.len {P : Program} {w : World} {n : Nat} {rf : List PyData → Option PyData} {vs : List V} {H : Hp} {Q : VK} {E : XK} (h : spOf P w n rf vs H Q E) : vs.length = n := by
  obtain ⟨F, ds, d, _, _, _, r, l, _⟩ := h
  rw [r.length, l]
section
variable {X : Cx} {CX : CXT} {k n : Nat} {f : Addr} {fd : FuncData} {ps : List Str} {rf : List PyData → Option PyData} {E : XK} {x : Str} {p pos : Pos} {e : Expr} {es : List Expr} {rs : RA}
theorem je_call (G : FnOk X.prog X.w X.K X.mg X.base CX0 k f fd ps (spOf X.prog X.w n rf)) (hr : Room k X.A) (hg : Gl X x) (hm : X.mg x = some (.ref f)) (hk : PySem.W.keepIn X.K (.ref f) = true) (hb : Binds X.K fd ps []) (ha : JA X (e :: es) rs) (hl : (e :: es).length = n := by rfl)
    (hdb : (x == ("__debug__" : Str)) = false := by decide) (he : starEach (e :: es) X.env = (false, eval e X.env) :: starEach es X.env := by rfl) (hpl : (backTo pos (starEach es X.env)).any (·.1) = false := by rfl) :
    JE X (.Call (.Name x p) (e :: es) [] pos) (eCall rf rs) := by
  refine PE.imp (pe_call G hr hg hm hk hb .nil pass0 ha.pa hdb he hpl) ?_
  rintro σ H Q ⟨F0, H0, F, env, z, R, hr, k⟩
  obtain ⟨ds, h1, hr⟩ := bd_some hr
  refine ⟨F0, H0, F, env, ds, R, h1, fun vs F1 H1 g1 n1 => ?_⟩
  show spOf X.prog X.w n rf (vs ++ []) H1 Q E0
  rw [List.append_nil]
  exact ⟨F1, ds, z, g1.fh, (R.grow g1).noT, (R.grow g1).told, n1, (ha.len env ds h1).trans hl, hr, fun v F' H' g' n' => k v F' H' (g1.trans g') n'⟩
end
end K67
set_option Elab.async false
set_option linter.all false
set_option maxRecDepth 100000
set_option maxHeartbeats 2000000
namespace K67
open PySem PySem.Spec PyProof.Rows L2
variable [TabA]

/-! ### numbers, turned quickly -/
noncomputable def fN {α : Type} (n : Nat) (k : Nat → α) : α := @Nat.rec (fun _ => α) (k 0) (fun m _ => k (Nat.succ m)) n
noncomputable def fZ {α : Type} (i : Int) (k : Int → α) : α := @Int.rec (fun _ => α) (fun n => fN n fun m => k (Int.ofNat m)) (fun n => fN n fun m => k (Int.negSucc m)) i
theorem fN_eq {α : Type} (n : Nat) (k : Nat → α) : fN n k = k n := by cases n <;> rfl
theorem fZ_eq {α : Type} (i : Int) (k : Int → α) : fZ i k = k i := by
  cases i with
  | ofNat n => exact fN_eq n fun m => k (Int.ofNat m)
  | negSucc n => exact fN_eq n fun m => k (Int.negSucc m)
noncomputable def oI (i : Int) : Option PyData := fZ i fun z => some (.int z)
theorem oI_eq (i : Int) : oI i = some (.int i) := fZ_eq i _
noncomputable def zEq (i j : Int) : Bool := @Int.rec (fun _ => Bool) (fun n => @Int.rec (fun _ => Bool) (fun m => Nat.beq n m) (fun _ => false) j) (fun n => @Int.rec (fun _ => Bool) (fun _ => false) (fun m => Nat.beq n m) j) i
theorem zEq_eq (i j : Int) : zEq i j = decide (i = j) := by
  cases i <;> cases j
  · rename_i n m
    show Nat.beq n m = _
    by_cases h : n = m
    · subst h; simp
    · have h1 : Nat.beq n m = false := Bool.eq_false_iff.mpr fun e => h (Nat.eq_of_beq_eq_true e)
      rw [h1]; exact (decide_eq_false fun e => h (by injection e)).symm
  · exact (decide_eq_false (by simp)).symm
  · exact (decide_eq_false (by simp)).symm
  · rename_i n m
    show Nat.beq n m = _
    by_cases h : n = m
    · subst h; simp
    · have h1 : Nat.beq n m = false := Bool.eq_false_iff.mpr fun e => h (Nat.eq_of_beq_eq_true e)
      rw [h1]; exact (decide_eq_false fun e => h (by injection e)).symm
/-- i ≤ j -/
noncomputable def zLe (i j : Int) : Bool := @Int.rec (fun _ => Bool) (fun _ => true) (fun _ => false) (Int.sub j i)
theorem zLe_eq (i j : Int) : zLe i j = decide (i ≤ j) := by
  unfold zLe
  have e : Int.sub j i = j - i := rfl
  rw [e]
  cases h : j - i with
  | ofNat n =>
    have : i ≤ j := by
      have : (0 : Int) ≤ j - i := by rw [h]; exact Int.natCast_nonneg n
      omega
    simp [this]
  | negSucc n =>
    have : ¬ i ≤ j := by
      have : j - i < 0 := by rw [h]; exact Int.negSucc_lt_zero n
      omega
    simp [this]
noncomputable def zLt (i j : Int) : Bool := zLe (Int.add i 1) j
theorem zLt_eq (i j : Int) : zLt i j = decide (i < j) := by
  unfold zLt
  rw [zLe_eq]
  rfl

/-! ### arithmetic -/
noncomputable def iOp (f : Int → Int → Option PyData) (x y : PyData) : Option PyData := bd (toI x) fun i => bd (toI y) fun j => f i j
theorem iOp_some {f : Int → Int → Option PyData} {x y z : PyData} (h : iOp f x y = some z) : ∃ i j, x = .int i ∧ y = .int j ∧ f i j = some z := by
  obtain ⟨i, h1, h⟩ := bd_some h
  obtain ⟨j, h2, h⟩ := bd_some h
  exact ⟨i, j, toI_some h1, toI_some h2, h⟩
noncomputable def dSub : PyData → PyData → Option PyData := iOp fun i j => oI (Int.sub i j)
noncomputable def dDiv : PyData → PyData → Option PyData := iOp fun i j => bIf (zLt 0 j) (bIf (zLt j 1073741824) (oI (Int.ediv i j)) none) none
noncomputable def dMod : PyData → PyData → Option PyData := iOp fun i j => bIf (zLt 0 j) (oI (Int.emod i j)) none
noncomputable def dLt0 : PyData → PyData → Option PyData := iOp fun i j => some (.bool (zLt i j))
noncomputable def dLe : PyData → PyData → Option PyData := iOp fun i j => some (.bool (zLe i j))
noncomputable def dGt : PyData → PyData → Option PyData := iOp fun i j => some (.bool (zLt j i))
noncomputable def dGe : PyData → PyData → Option PyData := iOp fun i j => some (.bool (zLe j i))
noncomputable def app (xs ys : List PyData) : List PyData := @List.rec PyData (fun _ => List PyData) ys (fun x _ ih => x :: ih) xs
theorem app_eq : ∀ xs ys : List PyData, app xs ys = xs ++ ys
  | [], _ => rfl
  | x :: xs, ys => by
    show x :: app xs ys = _
    rw [app_eq xs ys]
    rfl
noncomputable def toTp (d : PyData) : Option (List PyData) := @PyData.casesOn (fun _ => Option (List PyData)) d none (fun _ => none) (fun _ => none) (fun _ => none) (fun _ => none) (fun xs => some xs) (fun _ => none)
noncomputable def toLs (d : PyData) : Option (List PyData) := @PyData.casesOn (fun _ => Option (List PyData)) d none (fun _ => none) (fun _ => none) (fun _ => none) (fun xs => some xs) (fun _ => none) (fun _ => none)
theorem toTp_some {d : PyData} {b : List PyData} (h : toTp d = some b) : d = .tuple b := by
  cases d <;> first | (cases h; rfl) | cases h
theorem toLs_some {d : PyData} {b : List PyData} (h : toLs d = some b) : d = .list b := by
  cases d <;> first | (cases h; rfl) | cases h
noncomputable def tCat (xs ys : List PyData) : Option PyData := bIf (Nat.ble (len xs) 5000) (bIf (Nat.ble (len ys) 5000) (some (.tuple (app xs ys))) none) none
noncomputable def dAdd (x y : PyData) : Option PyData := @PyData.casesOn (fun _ => Option PyData) x none (fun _ => none) (fun i => bd (toI y) fun j => oI (Int.add i j)) (fun _ => none) (fun _ => none) (fun xs => bd (toTp y) fun ys => tCat xs ys) (fun _ => none)
theorem bIf_some {α : Type} {b : Bool} {x : Option α} {z : α} (h : bIf b x none = some z) : b = true ∧ x = some z := by
  cases b with
  | true => exact ⟨rfl, h⟩
  | false => cases h
theorem ble_le {n m : Nat} (h : Nat.ble n m = true) : n ≤ m := Nat.le_of_ble_eq_true h
section
variable {P : Program} {w : World}
theorem r2_int {f : Int → Int → Option PyData} {C : Int → Int → Prop} {g : Int → Int → V} (hf : ∀ i j z, f i j = some z → C i j ∧ ∀ F, Dn P w F (g i j) z) : R2Ok P w (iOp f) (rI C g) := by
  intro F H x y d e z Q s hx hy h k
  obtain ⟨i, j, rfl, rfl, h⟩ := iOp_some h
  cases hx; cases hy
  exact ⟨i, j, rfl, rfl, (hf i j z h).1, k _ F H (Grow.refl s) ((hf i j z h).2 F)⟩
theorem r2_int0 {f : Int → Int → Option PyData} {g : Int → Int → V} (hf : ∀ i j z, f i j = some z → ∀ F, Dn P w F (g i j) z) : R2Ok P w (iOp f) (rI0 g) := by
  intro F H x y d e z Q s hx hy h k
  obtain ⟨i, j, rfl, rfl, h⟩ := iOp_some h
  cases hx; cases hy
  exact ⟨i, j, rfl, rfl, k _ F H (Grow.refl s) (hf i j z h F)⟩
theorem dn_oI {i : Int} {z : PyData} {F : Hp} (h : oI i = some z) : Dn P w F (.int i) z := by
  rw [oI_eq] at h
  cases h
  exact .int i
theorem ok_sub : R2Ok P w dSub (rI0 fun i j => .int (i - j)) := r2_int0 fun i j z h F => dn_oI h
theorem ok_div : R2Ok P w dDiv (rI CDiv fun i j => .int (i / j)) := r2_int fun i j z h => by
  obtain ⟨h1, h⟩ := bIf_some h
  obtain ⟨h2, h⟩ := bIf_some h
  rw [zLt_eq, decide_eq_true_eq] at h1 h2
  exact ⟨⟨h1, h2⟩, fun F => dn_oI h⟩
theorem ok_mod : R2Ok P w dMod (rI (fun _ j => 0 < j) fun i j => .int (i % j)) := r2_int fun i j z h => by
  obtain ⟨h1, h⟩ := bIf_some h
  rw [zLt_eq, decide_eq_true_eq] at h1
  exact ⟨h1, fun F => dn_oI h⟩
theorem dn_bl {b c : Bool} {z : PyData} {F : Hp} (h : some (PyData.bool b) = some z) (e : b = c) : Dn P w F (.bl c) z := by
  cases h
  subst e
  exact .bl b
theorem ok_lt0 : R2Ok P w dLt0 (rI0 fun i j => .bl (decide (i < j))) := r2_int0 fun i j z h F => dn_bl h (zLt_eq i j)
theorem ok_le : R2Ok P w dLe (rI0 fun i j => .bl (decide (i ≤ j))) := r2_int0 fun i j z h F => dn_bl h (zLe_eq i j)
theorem ok_gt : R2Ok P w dGt (rI0 fun i j => .bl (decide (j < i))) := r2_int0 fun i j z h F => dn_bl h (zLt_eq j i)
theorem ok_ge : R2Ok P w dGe (rI0 fun i j => .bl (decide (j ≤ i))) := r2_int0 fun i j z h F => dn_bl h (zLe_eq j i)
theorem line10 {n m : Nat} (h1 : n ≤ 5000) (h2 : m ≤ 5000) : n + m ≤ sizeLine := by rw [sizeLine_eq]; omega
end

/-! ### new tuples, of which it is known that they have no dict -/
section
variable {X : Cx} {pins : List (Addr × Obj)} {σ : L2.St} {H : Hp} {s : Shared}
theorem laidT {vs : List Value} {xs : List V} (I : Inv X pins σ H s) (r : Vals xs vs) (z : xs.length ≤ sizeLine) :
    Inv X pins σ (upd H s.heap.objs.size (tF vs xs)) { s with heap := s.heap.push { cls := .type "tuple", data := .seq vs.toArray } } :=
  I.laid (t' := s.toks) (fun b ob q => Heap.get?_push_of_some _ q) (Nat.le_refl _) ⟨Heap.get?_push_size _ rfl, z, vs, r, IsTup.new _ _⟩
theorem tF_sq {K : PySem.W.Frag} {a : Addr} {us : List Value} {xs : List V} (h : H a = some (tF us xs)) : SqT K H a xs := .inl (.inr ⟨_, h⟩)
def tTupF (t : TA) : TE := fun σ H Q => t σ H fun xs H1 => xs.length ≤ sizeLine ∧ ∀ p us, H1 p = none → Q (.ref p) (upd H1 p (tF us xs))
theorem pe_tupF {es : List Expr} {t : TA} {x1} {pos : Pos} (h : PA X es t) : PE X (.Tuple es x1 pos) (tTupF t) := by
  refine ⟨fun pins s σ H Q I hq => ?_⟩
  refine wpAny_Tuple_spliced (thn (h.run pos pins s σ H _ I hq) fun us s1 ⟨xs, H1, I1, r, z, q⟩ => ⟨by rw [← r.length]; exact z, ?_⟩)
  exact ⟨.ref s1.heap.objs.size, _, laidT I1 r z, rfl, q _ us (I1.hok.fresh (Nat.le_refl _))⟩
def rTupF (K : PySem.W.Frag) : List V → Hp → VK → Prop := fun xs H Q => ∃ p ys, xs = [.ref p] ∧ SqL K H p ys ∧ ∀ l us, H l = none → Q (.ref l) (upd H l (tF us ys))
theorem call_tupleF : CallR X (.type "tuple") (rTupF X.K) := by
  intro pins s σ H xs us Q I r h
  obtain ⟨p, ys, rfl, hq, q⟩ := h
  obtain ⟨u, rfl, rx⟩ := vals1 r
  cases rx
  obtain ⟨its, r', pl, hz⟩ := I.list hq
  have hlen := r'.length
  refine call_tuple_list pl.isList (fun h' kp => ?_) (by simp only [List.size_toArray] <;> omega)
  have I1 : Inv X pins σ H { s with heap := h' } := I.kept (t' := s.toks) kp
  exact ⟨.ref h'.objs.size, _, laidT I1 r' hz, rfl, q _ its (I1.hok.fresh (Nat.le_refl _))⟩
/-- t + u -/
def rCatF (K : PySem.W.Frag) : R2 := fun x y H Q => ∃ a b xs ys, x = .ref a ∧ y = .ref b ∧ SqT K H a xs ∧ SqT K H b ys ∧ xs.length + ys.length ≤ sizeLine ∧
  (xs = [] → Q (.ref b) H) ∧ (ys = [] → Q (.ref a) H) ∧ (xs ≠ [] → ys ≠ [] → ∀ p us, H p = none → Q (.ref p) (upd H p (tF us (xs ++ ys))))
theorem op_catF : OpR X (binaryOp .Add) (rCatF X.K) := by
  intro pins s σ H x y v u Q I rx ry h
  obtain ⟨a, b, xs, ys, rfl, rfl, ha, hb, hz, q0, q1, q2⟩ := h
  cases rx
  cases ry
  obtain ⟨its, r1, p1, _⟩ := I.tuple ha
  obtain ⟨its2, r2, p2, _⟩ := I.tuple hb
  by_cases hx : xs = []
  · subst hx
    cases r1
    exact L2.cat_tup0 p1 p2 ⟨.ref b, H, I, rfl, q0 rfl⟩
  · refine HT.cat_tup p1 p2 (fun z => hx (r1.nil_iff.mp z)) (fun z => ⟨.ref a, H, I, rfl, q1 (r2.nil_iff.mp z)⟩) (fun z => ?_) (by rw [← r1.length, ← r2.length]; exact hz)
    exact ⟨.ref s.heap.objs.size, _, laidT I (r1.append r2) (by rw [List.length_append]; exact hz), rfl, q2 hx (fun w => z (r2.nil_iff.mpr w)) _ _ (I.hok.fresh (Nat.le_refl _))⟩
end
section
variable {P : Program} {w : World} {K : PySem.W.Frag}
theorem ok_add : R2Ok P w dAdd (fun x y H Q => rI0 (fun i j => .int (i + j)) x y H Q ∨ rCatF K x y H Q) := by
  intro F H x y d e z Q s hx hy h k
  cases d with
  | int i =>
    obtain ⟨j, h1, h⟩ := bd_some h
    have e1 := toI_some h1
    subst e1
    cases hx; cases hy
    exact .inl ⟨i, j, rfl, rfl, k _ F H (Grow.refl s) (dn_oI h)⟩
  | tuple ds =>
    obtain ⟨es, h1, h⟩ := bd_some h
    have e1 := toTp_some h1
    subst e1
    obtain ⟨l1, h⟩ := bIf_some h
    obtain ⟨l2, h⟩ := bIf_some h
    have l1 := ble_le l1
    have l2 := ble_le l2
    rw [len_eq] at l1 l2
    cases h
    rw [app_eq] at k
    cases hx with
    | tup ha ra =>
      cases hy with
      | tup hb rb =>
        rename_i a us xs b vs ys
        refine .inr ⟨a, b, xs, ys, rfl, rfl, tF_sq (s _ _ ha), tF_sq (s _ _ hb), by rw [ra.length, rb.length]; exact line10 l1 l2, fun e => ?_, fun e => ?_, fun _ _ p us n => ?_⟩
        · subst e
          cases ra
          exact k _ F H (Grow.refl s) (.tup hb rb)
        · subst e
          cases rb
          rw [List.append_nil] at k
          exact k _ F H (Grow.refl s) (.tup ha ra)
        · have g := Grow.new (o := tF us (xs ++ ys)) s n
          exact k _ _ _ g (.tup upd_same ((ra.mono g.ff).app (rb.mono g.ff)))
  | _ => cases h
end
theorem opr_add {X : Cx} : OpR X (binaryOp .Add) (fun x y H Q => rI0 (fun i j => .int (i + j)) x y H Q ∨ rCatF X.K x y H Q) := op_add.or op_catF
end K67
set_option Elab.async false
set_option linter.all false
set_option maxRecDepth 100000
set_option maxHeartbeats 4000000
namespace K67
open PySem PySem.Spec PyProof.Rows L2
variable [TabA]
/-! ### tuple * int, any number from 0 on -/
theorem tuple_mul1 (l : Addr) (items : Array Value) (n : Nat) (dd : Option Addr) (sl : Array (Option Value)) (u : Tok) :
    Meets (Builtin.«tuple.__mul__» ⟨[.ref l, .int 1 u], []⟩) (fun _ R s => s.heap.get? l = some { cls := .type "tuple", dict := dd, data := .seq items n, slots := sl } ∧
      R (.ok (.ret (Value.ref l))) s) :=
  .of_wp fun prog w A R s h => by
    obtain ⟨hp, g, d, tk, os⟩ := s
    obtain ⟨hl, h⟩ := h
    have f1 := AutoSeq1.idx_int
    wp_walk using wpAny_loadPart' hl
    repeat (first
      | (refine wpAny_ite_false (by decide) ?_; wp_walk using wpAny_loadPart' hl)
      | (refine wpAny_ite_true (by simp) ?_; wp_walk using wpAny_loadPart' hl))
    exact ⟨_, rfl, h⟩
theorem tuple_mul0 (l : Addr) (items : Array Value) (n : Nat) (dd : Option Addr) (sl : Array (Option Value)) (u : Tok) (hi : items.isEmpty = false) :
    Meets (Builtin.«tuple.__mul__» ⟨[.ref l, .int 0 u], []⟩) (fun _ R s => s.heap.get? l = some { cls := .type "tuple", dict := dd, data := .seq items n, slots := sl } ∧
      R (.ok (.ret (Value.ref s.heap.objs.size))) { s with heap := s.heap.push { cls := Value.type "tuple", data := Data.seq #[] } }) :=
  .of_wp fun prog w A R s h => by
    obtain ⟨hp, g, d, tk, os⟩ := s
    obtain ⟨hl, h⟩ := h
    have f1 := AutoSeq1.idx_int
    wp_walk using wpAny_loadPart' hl
    repeat (first
      | (refine wpAny_ite_false (by decide) ?_; wp_walk using wpAny_loadPart' hl)
      | (refine wpAny_ite_false (by rw [hi]; decide) ?_; wp_walk using wpAny_loadPart' hl)
      | (refine wpAny_ite_true (by simp) ?_; wp_walk using wpAny_loadPart' hl))
    exact ⟨_, rfl, h⟩
def rRepF (K : PySem.W.Frag) : R2 := fun x y H Q => ∃ l k xs, x = .ref l ∧ y = .int k ∧ SqT K H l xs ∧ xs ≠ [] ∧ 0 ≤ k ∧ k ≤ 1000 ∧ xs.length ≤ 1000 ∧ (k = 1 → Q (.ref l) H) ∧ (k ≠ 1 → ∀ p us, H p = none → Q (.ref p) (upd H p (tF us (List.replicate k.toNat xs).flatten)))
theorem op_repF {X : Cx} : OpR X (binaryOp .Mult) (rRepF X.K) := by
  intro pins s σ H x y v u Q I rx ry h
  obtain ⟨l, k, xs, rfl, rfl, hT, hne, h1, h2, hz, q1, q⟩ := h
  cases rx
  obtain ⟨t, rfl⟩ := ry
  obtain ⟨its, r, ⟨⟨cls, dd, data, sl⟩, ho, hc, n, hd⟩, hs⟩ := I.tuple hT
  simp only at hc hd
  subst hc hd
  have hle : its.length = xs.length := r.length.symm
  have hn : its ≠ [] := fun e => hne (by
    rw [e] at hle
    exact List.eq_nil_of_length_eq_zero hle.symm)
  have hi : its.toArray.isEmpty = false := by
    cases its with
    | nil => exact absurd rfl hn
    | cons a b => rfl
  by_cases k1 : k = 1
  · subst k1
    exact wpAny_binaryOp_repeat_ref (T := "tuple") (U := "int") (by decide) ⟨_, ho, rfl⟩ (fun s' => typeIs_int s' 1 t) noFill_tuple_mul F.fills_int_mul F.slot_int_rmul repeat_tuple F.slot_int_index.lookup
      (call_meets F.slot_int_rmul (typeIs_int s 1 t) F.entry_int_rmul (F.args_int_rmul_2 _ _) (int_rmul_tuple 1 t l its.toArray n dd sl)
        ⟨ho, rfl, ⟨_, ho, rfl⟩, call_meets F.slot_tuple_mul ⟨_, ho, rfl⟩ F.entry_tuple_mul (F.args_tuple_mul_2 _ _) (tuple_mul1 l its.toArray n dd sl t) ⟨ho, ⟨.ref l, H, I, rfl, q1 rfl⟩⟩⟩)
  · by_cases k0 : k = 0
    · subst k0
      refine wpAny_binaryOp_repeat_ref (T := "tuple") (U := "int") (by decide) ⟨_, ho, rfl⟩ (fun s' => typeIs_int s' 0 t) noFill_tuple_mul F.fills_int_mul F.slot_int_rmul repeat_tuple F.slot_int_index.lookup
        (call_meets F.slot_int_rmul (typeIs_int s 0 t) F.entry_int_rmul (F.args_int_rmul_2 _ _) (int_rmul_tuple 0 t l its.toArray n dd sl)
          ⟨ho, rfl, ⟨_, ho, rfl⟩, call_meets F.slot_tuple_mul ⟨_, ho, rfl⟩ F.entry_tuple_mul (F.args_tuple_mul_2 _ _) (tuple_mul0 l its.toArray n dd sl t hi) ⟨ho, ?_⟩⟩)
      exact ⟨.ref s.heap.objs.size, _, laidT (vs := []) (xs := []) I .nil (Nat.zero_le _), rfl, q (by decide) _ [] (I.hok.fresh (Nat.le_refl _))⟩
    · have hsz0 : its.toArray.size = xs.length := by rw [List.size_toArray, hle]
      have hm : ((its.toArray.size : Nat) : Int) * k ≤ 1000000 := by
        rw [hsz0]
        have a1 : ((xs.length : Nat) : Int) * k ≤ 1000 * k := Int.mul_le_mul_of_nonneg_right (by omega) (by omega)
        omega
      have flen : (List.replicate k.toNat its).flatten.length ≤ sizeLine := by
        rw [PyProof.Rows.lm_len_rep_flat, hle, sizeLine_eq]
        have a1 : k.toNat * xs.length ≤ 1000 * 1000 := Nat.mul_le_mul (by omega) hz
        omega
      have c0 : (decide (k < -(2 ^ 63)) || decide (k ≥ 2 ^ 63)) = false := by
        rw [decide_eq_false (by omega), decide_eq_false (by omega)] <;> rfl
      have c1 : (its.toArray.isEmpty || k == 1) = false := by
        rw [hi, Bool.false_or]
        exact beq_eq_false_iff_ne.mpr (by omega)
      have c2 : (decide (k ≤ 0) || its.toArray.isEmpty) = false := by
        rw [hi, Bool.or_false]
        exact decide_eq_false (by omega)
      have c4 : Builtin.Tuple.tupleTooMany (((its.toArray.size : Nat) : Int) * k) = false := by
        unfold Builtin.Tuple.tupleTooMany
        rw [sizeLine_eq]
        exact decide_eq_false (by omega)
      refine wpAny_binaryOp_repeat_ref (T := "tuple") (U := "int") (by decide) ⟨_, ho, rfl⟩ (fun s' => typeIs_int s' k t) noFill_tuple_mul F.fills_int_mul F.slot_int_rmul repeat_tuple F.slot_int_index.lookup
        (call_meets F.slot_int_rmul (typeIs_int s k t) F.entry_int_rmul (F.args_int_rmul_2 _ _) (int_rmul_tuple k t l its.toArray n dd sl)
          ⟨ho, rfl, ⟨_, ho, rfl⟩, call_meets F.slot_tuple_mul ⟨_, ho, rfl⟩ F.entry_tuple_mul (F.args_tuple_mul_2 _ _) (tuple_mulW l its.toArray n dd sl k t c0 c1 c2 (by omega) c4 (by rw [size_rep, List.size_toArray]; exact flen)) ⟨ho, ?_⟩⟩)
      rw [size_rep]
      exact ⟨.ref s.heap.objs.size, _, laidT I (r.rep k.toNat) (by rw [r.rep k.toNat |>.length]; exact flen), rfl, q k1 _ _ (I.hok.fresh (Nat.le_refl _))⟩
end K67
set_option Elab.async false
set_option linter.all false
set_option maxRecDepth 100000
set_option maxHeartbeats 2000000
namespace K67
open PySem PySem.Spec PyProof.Rows L2
variable [TabA]

/-! ### * -/
noncomputable def repl (xs : List PyData) (k : Nat) : List PyData := @Nat.rec (fun _ => List PyData) [] (fun _ ih => app xs ih) k
theorem repl_eq (xs : List PyData) : ∀ k, repl xs k = (List.replicate k xs).flatten
  | 0 => rfl
  | k + 1 => by
    show app xs (repl xs k) = _
    rw [app_eq, repl_eq xs k]
    rfl
noncomputable def tRep (xs : List PyData) (k : Int) : Option PyData := bIf (zLe 0 k) (bIf (zLe k 1000) (bIf (Nat.ble (len xs) 1000) (@List.rec PyData (fun _ => Option PyData) none (fun _ _ _ => some (.tuple (repl xs k.toNat))) xs) none) none) none
noncomputable def dMul (x y : PyData) : Option PyData := @PyData.casesOn (fun _ => Option PyData) x none (fun _ => none) (fun i => bd (toI y) fun j => bIf (zLt (-18446744073709551616) i) (bIf (zLt i 18446744073709551616) (oI (Int.mul i j)) none) none) (fun _ => none) (fun _ => none) (fun xs => bd (toI y) fun k => tRep xs k) (fun _ => none)
section
variable {P : Program} {w : World} {K : PySem.W.Frag} {F : Hp}
theorem DnAll.rep {xs : List V} {ds : List PyData} (h : DnAll P w F xs ds) : ∀ k : Nat, DnAll P w F (List.replicate k xs).flatten (List.replicate k ds).flatten
  | 0 => .nil
  | k + 1 => h.app (DnAll.rep h k)
theorem ok_mul : R2Ok P w dMul (fun x y H Q => rI CMul (fun i j => .int (i * j)) x y H Q ∨ rRepF K x y H Q) := by
  intro F H x y d e z Q s hx hy h k
  cases d with
  | int i =>
    obtain ⟨j, h1, h⟩ := bd_some h
    have e1 := toI_some h1
    subst e1
    obtain ⟨b1, h⟩ := bIf_some h
    obtain ⟨b2, h⟩ := bIf_some h
    rw [zLt_eq, decide_eq_true_eq] at b1 b2
    cases hx; cases hy
    exact .inl ⟨i, j, rfl, rfl, .inl ⟨by simpa using b1, by simpa using b2⟩, k _ F H (Grow.refl s) (dn_oI h)⟩
  | tuple ds =>
    obtain ⟨j, h1, h⟩ := bd_some h
    have e1 := toI_some h1
    subst e1
    obtain ⟨b1, h⟩ := bIf_some h
    obtain ⟨b2, h⟩ := bIf_some h
    obtain ⟨b3, h⟩ := bIf_some h
    rw [zLe_eq, decide_eq_true_eq] at b1 b2
    have b3 := ble_le b3
    rw [len_eq] at b3
    cases hy
    cases ds with
    | nil => cases h
    | cons d0 dr =>
      cases h
      rw [repl_eq] at k
      cases hx with
      | tup ha ra =>
        rename_i a us xs
        refine .inr ⟨a, j, xs, rfl, rfl, tF_sq (s _ _ ha), fun e => ?_, b1, b2, by rw [ra.length]; exact b3, fun e => ?_, fun _ p us n => ?_⟩
        · subst e; cases ra
        · subst e
          refine k _ F H (Grow.refl s) ?_
          have : (List.replicate (Int.toNat 1) (d0 :: dr)).flatten = d0 :: dr := by simp
          rw [this]
          exact .tup ha ra
        · have g := Grow.new (o := tF us (List.replicate j.toNat xs).flatten) s n
          exact k _ _ _ g (.tup upd_same ((ra.mono g.ff).rep _))
  | _ => cases h
end
theorem opr_mul {X : Cx} : OpR X (binaryOp .Mult) (fun x y H Q => rI CMul (fun i j => .int (i * j)) x y H Q ∨ rRepF X.K x y H Q) := op_mul.or op_repF

/-! ### == and != -/
noncomputable def allB {α : Type} (f : α → Bool) (xs : List α) : Bool := @List.rec α (fun _ => Bool) true (fun x _ ih => bIf (f x) ih false) xs
theorem allB_eq {α : Type} (f : α → Bool) : ∀ xs : List α, allB f xs = xs.all f
  | [] => rfl
  | x :: xs => by
    show bIf (f x) (allB f xs) false = _
    rw [allB_eq f xs, List.all_cons]
    cases f x <;> rfl
/-- data without dicts, at most n deep -/
noncomputable def fits (n : Nat) : PyData → Bool := @Nat.rec (fun _ => PyData → Bool) (fun d => @PyData.casesOn (fun _ => Bool) d true (fun _ => true) (fun _ => true) (fun s => PyData.strOk s) (fun _ => false) (fun _ => false) (fun _ => false))
  (fun _ ih d => @PyData.casesOn (fun _ => Bool) d true (fun _ => true) (fun _ => true) (fun s => PyData.strOk s) (fun xs => allB ih xs) (fun xs => allB ih xs) (fun _ => false)) n
theorem canLayAll_of : ∀ {xs : List PyData}, (∀ x ∈ xs, x.canLay0 = true) → PyData.canLayAll0 xs = true
  | [], _ => by simp [PyData.canLayAll0]
  | x :: xs, h => by
    rw [PyData.canLayAll0, h x List.mem_cons_self, canLayAll_of fun y hy => h y (List.mem_cons_of_mem _ hy)]
    rfl
theorem depthAll_of {n : Nat} : ∀ {xs : List PyData}, (∀ x ∈ xs, x.depth ≤ n) → PyData.depthAll xs ≤ n
  | [], _ => by simp [PyData.depthAll]
  | x :: xs, h => by
    rw [PyData.depthAll]
    have := h x List.mem_cons_self
    have := depthAll_of (n := n) (xs := xs) fun y hy => h y (List.mem_cons_of_mem _ hy)
    omega
theorem fits_ok : ∀ (n : Nat) (d : PyData), fits n d = true → d.canLay0 = true ∧ d.depth ≤ n
  | 0, d, h => by
    cases d with
    | none => exact ⟨rfl, by simp [PyData.depth]⟩
    | bool b => exact ⟨rfl, by simp [PyData.depth]⟩
    | int i => exact ⟨rfl, by simp [PyData.depth]⟩
    | str s => exact ⟨by rw [PyData.canLay0]; exact h, by simp [PyData.depth]⟩
    | list xs => cases h
    | tuple xs => cases h
    | dict kvs => cases h
  | n + 1, d, h => by
    cases d with
    | none => exact ⟨rfl, by simp [PyData.depth]⟩
    | bool b => exact ⟨rfl, by simp [PyData.depth]⟩
    | int i => exact ⟨rfl, by simp [PyData.depth]⟩
    | str s => exact ⟨by rw [PyData.canLay0]; exact h, by simp [PyData.depth]⟩
    | list xs =>
      have h : allB (fits n) xs = true := h
      rw [allB_eq, List.all_eq_true] at h
      rw [PyData.canLay0, PyData.depth]
      refine ⟨canLayAll_of fun x hx => (fits_ok n x (h x hx)).1, ?_⟩
      have := depthAll_of (n := n) (xs := xs) fun x hx => (fits_ok n x (h x hx)).2
      omega
    | tuple xs =>
      have h : allB (fits n) xs = true := h
      rw [allB_eq, List.all_eq_true] at h
      rw [PyData.canLay0, PyData.depth]
      refine ⟨canLayAll_of fun x hx => (fits_ok n x (h x hx)).1, ?_⟩
      have := depthAll_of (n := n) (xs := xs) fun x hx => (fits_ok n x (h x hx)).2
      omega
    | dict kvs => cases h
theorem shaped_of {d : PyData} {n : Nat} (hn : n ≤ 64) (h : fits n d = true) : SeqAt.shaped d = true := by
  obtain ⟨h1, h2⟩ := fits_ok n d h
  show (d.canLay0 && decide (d.depth ≤ 64)) = true
  rw [h1, decide_eq_true (by omega)]
  rfl
mutual
theorem Dn.dp {P : Program} {w : World} {F : Hp} {K : PySem.W.Frag} : ∀ {v : V} {d : PyData}, Dn P w F v d → d.canLay0 = true → Dp K F v d
  | _, _, .non, _ => .non
  | _, _, .bl b, _ => .bl b
  | _, _, .int b, _ => .int b
  | _, _, .str b, _ => .str b
  | _, _, .lst h r, c => .lst (.inl (.inl h)) (DnAll.dp r (by rw [PyData.canLay0] at c; exact c))
  | _, _, .tup h r, c => .tup (tF_sq h) (DnAll.dp r (by rw [PyData.canLay0] at c; exact c))
  | _, _, .dic h r, c => by simp [PyData.canLay0] at c
  | _, _, .dci h r, c => by simp [PyData.canLay0] at c
theorem DnAll.dp {P : Program} {w : World} {F : Hp} {K : PySem.W.Frag} : ∀ {v : List V} {d : List PyData}, DnAll P w F v d → PyData.canLayAll0 d = true → DpAll K F v d
  | _, _, .nil, _ => .nil
  | _, _, .cons a b, c => by
    rw [PyData.canLayAll0, Bool.and_eq_true] at c
    exact .cons (Dn.dp a c.1) (DnAll.dp b c.2)
end
/-- the same data, quickly -/
noncomputable def eqL (f : PyData → PyData → Bool) (xs : List PyData) : List PyData → Bool := @List.rec PyData (fun _ => List PyData → Bool) (fun ys => @List.rec PyData (fun _ => Bool) true (fun _ _ _ => false) ys) (fun x _ ih ys => @List.rec PyData (fun _ => Bool) false (fun y r _ => bIf (f x y) (ih r) false) ys) xs
noncomputable def eqD (n : Nat) : PyData → PyData → Bool := @Nat.rec (fun _ => PyData → PyData → Bool) PyData.eqv
  (fun _ ih d e => @PyData.casesOn (fun _ => Bool) d (PyData.eqv d e) (fun _ => PyData.eqv d e)
    (fun i => @PyData.casesOn (fun _ => Bool) e false (fun _ => PyData.eqv d e) (fun j => zEq i j) (fun _ => false) (fun _ => false) (fun _ => false) (fun _ => false)) (fun _ => PyData.eqv d e)
    (fun xs => @PyData.casesOn (fun _ => Bool) e false (fun _ => false) (fun _ => false) (fun _ => false) (fun ys => eqL ih xs ys) (fun _ => false) (fun _ => false))
    (fun xs => @PyData.casesOn (fun _ => Bool) e false (fun _ => false) (fun _ => false) (fun _ => false) (fun _ => false) (fun ys => eqL ih xs ys) (fun _ => false))
    (fun _ => PyData.eqv d e)) n
theorem eqL_eq {f : PyData → PyData → Bool} (hf : ∀ d e, f d e = PyData.eqv d e) : ∀ xs ys, eqL f xs ys = PyData.eqvAll xs ys
  | [], [] => by rw [PyData.eqvAll]; rfl
  | [], y :: ys => by rw [PyData.eqvAll]; rfl
  | x :: xs, [] => by rw [PyData.eqvAll]; rfl
  | x :: xs, y :: ys => by
    rw [PyData.eqvAll]
    show bIf (f x y) (eqL f xs ys) false = _
    rw [hf, eqL_eq hf xs ys]
    cases PyData.eqv x y <;> rfl
theorem eqD_eq : ∀ (n : Nat) (d e : PyData), eqD n d e = PyData.eqv d e
  | 0, _, _ => rfl
  | n + 1, d, e => by
    have ih := eqL_eq (f := eqD n) fun d e => eqD_eq n d e
    cases d with
    | none => rfl
    | bool b => rfl
    | str b => rfl
    | dict b => rfl
    | int i =>
      cases e with
      | int j =>
        show zEq i j = _
        rw [zEq_eq, PyData.eqv]
        exact (Bool.beq_eq_decide_eq i j).symm
      | bool b => rfl
      | _ => rw [PyData.eqv]; rfl
    | list xs =>
      cases e with
      | list ys =>
        rw [PyData.eqv]
        exact ih xs ys
      | _ => rw [PyData.eqv]; rfl
    | tuple xs =>
      cases e with
      | tuple ys =>
        rw [PyData.eqv]
        exact ih xs ys
      | _ => rw [PyData.eqv]; rfl
noncomputable def dEq0 (k : Bool → PyData) (x y : PyData) : Option PyData := bIf (fits 6 x) (bIf (fits 6 y) (some (k (eqD 6 x y))) none) none
noncomputable def dEq : PyData → PyData → Option PyData := dEq0 fun b => .bool b
noncomputable def dNe : PyData → PyData → Option PyData := dEq0 fun b => .bool (bIf b false true)
section
variable {P : Program} {w : World} {K : PySem.W.Frag}
theorem ok_eq : R2Ok P w dEq (rEqD K) := by
  intro F H x y d e z Q s hx hy h k
  obtain ⟨h1, h⟩ := bIf_some h
  obtain ⟨h2, h⟩ := bIf_some h
  cases h
  rw [eqD_eq] at k
  exact ⟨d, e, (hx.mono s).dp (fits_ok _ _ h1).1, (hy.mono s).dp (fits_ok _ _ h2).1, shaped_of (by decide) h1, shaped_of (by decide) h2, k _ F H (Grow.refl s) (.bl _)⟩
theorem ok_ne : R2Ok P w dNe (rNeD K) := by
  intro F H x y d e z Q s hx hy h k
  obtain ⟨h1, h⟩ := bIf_some h
  obtain ⟨h2, h⟩ := bIf_some h
  cases h
  rw [eqD_eq] at k
  refine ⟨d, e, (hx.mono s).dp (fits_ok _ _ h1).1, (hy.mono s).dp (fits_ok _ _ h2).1, shaped_of (by decide) h1, shaped_of (by decide) h2, k _ F H (Grow.refl s) ?_⟩
  cases PyData.eqv d e <;> exact .bl _

/-! ### < of numbers, of tuples of numbers -/
noncomputable def zints (xs : List PyData) : Option (List Int) := @List.rec PyData (fun _ => Option (List Int)) (some []) (fun x _ ih => bd (toI x) fun i => bd ih fun is => some (i :: is)) xs
theorem zints_some : ∀ {xs : List PyData} {is : List Int}, zints xs = some is → xs = is.map PyData.int
  | [], _, h => by cases h; rfl
  | x :: xs, is, h => by
    obtain ⟨i, h1, h⟩ := bd_some h
    obtain ⟨js, h2, h⟩ := bd_some h
    cases h
    rw [toI_some h1, zints_some h2]
    rfl
theorem dn_ints {F : Hp} : ∀ {is : List Int} {vs : List V}, DnAll P w F vs (is.map PyData.int) → vs = is.map V.int
  | [], _, h => by cases h; rfl
  | i :: is, _, h => by
    cases h with
    | cons a b =>
      cases a
      rw [dn_ints b]
      rfl
noncomputable def lexB (xs : List Int) : List Int → Bool := @List.rec Int (fun _ => List Int → Bool) (fun ys => @List.rec Int (fun _ => Bool) false (fun _ _ _ => true) ys) (fun x _ ih ys => @List.rec Int (fun _ => Bool) false (fun y r _ => bIf (zEq x y) (ih r) (zLt x y)) ys) xs
theorem lexB_eq : ∀ xs ys, lexB xs ys = HT.lexLt xs ys
  | [], [] => rfl
  | [], y :: ys => rfl
  | x :: xs, [] => rfl
  | x :: xs, y :: ys => by
    rw [HT.lexLt_cons]
    show bIf (zEq x y) (lexB xs ys) (zLt x y) = _
    rw [zEq_eq, zLt_eq, lexB_eq xs ys]
    by_cases h : x = y
    · rw [decide_eq_true h, if_pos h]; rfl
    · rw [decide_eq_false h, if_neg h]; rfl
noncomputable def dLt (x y : PyData) : Option PyData := @PyData.casesOn (fun _ => Option PyData) x none (fun _ => none) (fun i => bd (toI y) fun j => some (.bool (zLt i j))) (fun _ => none) (fun _ => none) (fun xs => bd (toTp y) fun ys => bd (zints xs) fun is => bd (zints ys) fun js => some (.bool (lexB is js))) (fun _ => none)
theorem ok_lt : R2Ok P w dLt (fun x y H Q => rI0 (fun i j => .bl (decide (i < j))) x y H Q ∨ rLtT K x y H Q) := by
  intro F H x y d e z Q s hx hy h k
  cases d with
  | int i =>
    obtain ⟨j, h1, h⟩ := bd_some h
    have e1 := toI_some h1
    subst e1
    cases hx; cases hy
    exact .inl ⟨i, j, rfl, rfl, k _ F H (Grow.refl s) (dn_bl h (zLt_eq i j))⟩
  | tuple ds =>
    obtain ⟨es, h1, h⟩ := bd_some h
    obtain ⟨is, h2, h⟩ := bd_some h
    obtain ⟨js, h3, hz⟩ := bd_some h
    have e1 := toTp_some h1
    subst e1
    have e2 := zints_some h2
    have e3 := zints_some h3
    subst e2; subst e3
    cases hx with
    | tup ha ra =>
      cases hy with
      | tup hb rb =>
        have e4 := dn_ints ra
        have e5 := dn_ints rb
        subst e4; subst e5
        exact .inr ⟨_, _, is, js, rfl, rfl, tF_sq (s _ _ ha), tF_sq (s _ _ hb), k _ F H (Grow.refl s) (dn_bl hz (lexB_eq is js))⟩
  | _ => cases h
/-! ### in, not in: flat things -/
noncomputable def flatI (x : PyData) : Option (List PyData) → Option Bool := fun o => bd (toI x) fun i => bd o fun xs => bd (zints xs) fun is => some (@List.rec Int (fun _ => Bool) false (fun j _ ih => bIf (zEq j i) true ih) is)
noncomputable def dIn (x y : PyData) : Option PyData := bd (flatI x (toSq y)) fun b => some (.bool b)
noncomputable def dNotIn (x y : PyData) : Option PyData := bd (flatI x (toSq y)) fun b => some (.bool (bIf b false true))
theorem inV_ints (i : Int) : ∀ is : List Int, inV (.int i) (is.map V.int) = @List.rec Int (fun _ => Bool) false (fun j _ ih => bIf (zEq j i) true ih) is
  | [] => rfl
  | j :: is => by
    show (eqV (.int j) (.int i) || inV (.int i) (is.map V.int)) = bIf (zEq j i) true _
    rw [inV_ints i is, zEq_eq]
    have e : eqV (.int j) (.int i) = decide (j = i) := by
      show (j == i) = _
      exact Bool.beq_eq_decide_eq j i
    rw [e]
    cases decide (j = i) <;> rfl
theorem flat_ints : ∀ is : List Int, (is.map V.int).all flatV = true
  | [] => rfl
  | j :: is => by
    show (flatV (.int j) && (is.map V.int).all flatV) = true
    rw [flat_ints is]
    rfl
theorem ok_in0 {F H : Hp} {x y : V} {d e : PyData} {b : Bool} (s : Same F H) (hx : Dn P w F x d) (hy : Dn P w F y e) (h : flatI d (toSq e) = some b) :
    ∃ p xs, y = .ref p ∧ (SqL K H p xs ∨ SqT K H p xs) ∧ flatV x = true ∧ xs.all flatV = true ∧ inV x xs = b := by
  obtain ⟨i, h1, h⟩ := bd_some h
  obtain ⟨xs, h2, h⟩ := bd_some h
  obtain ⟨is, h3, hz⟩ := bd_some h
  have e1 := toI_some h1
  subst e1
  have e3 := zints_some h3
  subst e3
  cases hx
  cases hz
  rcases toSq_some h2 with rfl | rfl
  · cases hy with
    | lst ha ra =>
      have e4 := dn_ints ra
      subst e4
      exact ⟨_, _, rfl, .inl (.inl (.inl (s _ _ ha))), rfl, flat_ints is, inV_ints i is⟩
  · cases hy with
    | tup ha ra =>
      have e4 := dn_ints ra
      subst e4
      exact ⟨_, _, rfl, .inr (tF_sq (s _ _ ha)), rfl, flat_ints is, inV_ints i is⟩
theorem ok_in : R2Ok P w dIn (rIn K false) := by
  intro F H x y d e z Q s hx hy h k
  obtain ⟨b, h1, h⟩ := bd_some h
  cases h
  obtain ⟨p, xs, e1, e2, e3, e4, e5⟩ := ok_in0 (K := K) s hx hy h1
  refine ⟨p, xs, e1, e2, e3, e4, k _ F H (Grow.refl s) ?_⟩
  rw [← e5]
  exact .bl _
theorem ok_notIn : R2Ok P w dNotIn (rIn K true) := by
  intro F H x y d e z Q s hx hy h k
  obtain ⟨b, h1, h⟩ := bd_some h
  cases h
  obtain ⟨p, xs, e1, e2, e3, e4, e5⟩ := ok_in0 (K := K) s hx hy h1
  refine ⟨p, xs, e1, e2, e3, e4, k _ F H (Grow.refl s) ?_⟩
  rw [← e5]
  show Dn P w F (.bl (!inV x xs)) _
  cases inV x xs <;> exact .bl _
/-! ### is None -/
noncomputable def isN (x : PyData) : Bool := @PyData.casesOn (fun _ => Bool) x true (fun _ => false) (fun _ => false) (fun _ => false) (fun _ => false) (fun _ => false) (fun _ => false)
noncomputable def dIsN (x y : PyData) : Option PyData := bIf (isN y) (some (.bool (isN x))) none
noncomputable def dNotN (x y : PyData) : Option PyData := bIf (isN y) (some (.bool (bIf (isN x) false true))) none
theorem isN_eq {F : Hp} {x : V} {d : PyData} (h : Dn P w F x d) : isN d = decide (x = .non) := by
  cases h <;> first | rfl | exact (decide_eq_true rfl).symm | exact (decide_eq_false (fun z => nomatch z)).symm
theorem isN_none {F : Hp} {x : V} {d : PyData} (h : Dn P w F x d) (e : isN d = true) : x = .non := by
  rw [isN_eq h] at e
  exact of_decide_eq_true e
theorem ok_isN : R2Ok P w dIsN (fun x y H Q => y = .non ∧ Q (.bl (decide (x = .non))) H) := by
  intro F H x y d e z Q s hx hy h k
  obtain ⟨h1, h⟩ := bIf_some h
  cases h
  refine ⟨isN_none hy h1, k _ F H (Grow.refl s) ?_⟩
  rw [← isN_eq hx]
  exact .bl _
theorem ok_notN : R2Ok P w dNotN (fun x y H Q => y = .non ∧ Q (.bl (!decide (x = .non))) H) := by
  intro F H x y d e z Q s hx hy h k
  obtain ⟨h1, h⟩ := bIf_some h
  cases h
  refine ⟨isN_none hy h1, k _ F H (Grow.refl s) ?_⟩
  rw [← isN_eq hx]
  cases isN d <;> exact .bl _
/-! ### xs[i] -/
noncomputable def natOf (i : Int) : Option Nat := @Int.rec (fun _ => Option Nat) (fun n => some n) (fun _ => none) i
noncomputable def dIx (x y : PyData) : Option PyData := bd (toSq x) fun xs => bd (toI y) fun i => bd (natOf i) fun n => nth xs n
theorem natOf_some {i : Int} {n : Nat} (h : natOf i = some n) : i = (n : Int) := by
  cases i with
  | ofNat m => cases h; rfl
  | negSucc m => cases h
theorem ok_ix : R2Ok P w dIx (fun x y H Q => rIxL K x y H Q ∨ rIxT K x y H Q) := by
  intro F H x y d e z Q s hx hy h k
  obtain ⟨xs, h1, h⟩ := bd_some h
  obtain ⟨i, h2, h⟩ := bd_some h
  obtain ⟨n, h3, hz⟩ := bd_some h
  have e2 := toI_some h2
  have e3 := natOf_some h3
  subst e3
  subst e2
  cases hy
  rw [nth_eq] at hz
  rcases toSq_some h1 with rfl | rfl
  · cases hx with
    | lst ha ra =>
      obtain ⟨v, hv, dv⟩ := ra.at hz
      exact .inl ⟨_, _, _, v, rfl, rfl, .inl (.inl (s _ _ ha)), atI_nat hv, k v F H (Grow.refl s) dv⟩
  · cases hx with
    | tup ha ra =>
      obtain ⟨v, hv, dv⟩ := ra.at hz
      exact .inr ⟨_, _, _, v, rfl, rfl, tF_sq (s _ _ ha), atI_nat hv, k v F H (Grow.refl s) dv⟩
end
end K67
set_option Elab.async false
set_option linter.all false
set_option maxRecDepth 100000
set_option maxHeartbeats 2000000
namespace K67
open PySem PySem.Spec PyProof.Rows L2
variable [TabA]

/-! ### displays -/
noncomputable def eTup (r : RA) : RE := fun env => bd (r env) fun ds => some (.tuple ds)
noncomputable def eLst (r : RA) : RE := fun env => bd (r env) fun ds => some (.list ds)
section
variable {X : Cx} {es : List Expr} {e a : Expr} {r : RA} {ra rb : RE} {pos : Pos}
theorem je_tup {k} (h : JA X es r) (hl : Nat.ble es.length 1000 = true := by rfl) : JE X (.Tuple es k pos) (eTup r) := by
  refine PE.imp (pe_tupF h.pa) ?_
  rintro σ H Q ⟨F0, H0, F, env, z, R, hr, k⟩
  obtain ⟨ds, h1, hz⟩ := bd_some hr
  cases hz
  have l : es.length ≤ 1000 := ble_le hl
  refine ⟨F0, H0, F, env, ds, R, h1, fun vs F1 H1 g1 n1 => ⟨by rw [n1.length, h.len env ds h1, sizeLine_eq]; omega, fun p us n => ?_⟩⟩
  have g := Grow.new (o := tF us vs) g1.fh n
  exact k _ _ _ (g1.trans g) (.tup upd_same (n1.mono g.ff))
theorem je_lst (h : JA X es r) (hl : Nat.ble es.length 1000 = true := by rfl) : JE X (.List es pos) (eLst r) := by
  refine PE.imp (pe_lst h.pa) ?_
  rintro σ H Q ⟨F0, H0, F, env, z, R, hr, k⟩
  obtain ⟨ds, h1, hz⟩ := bd_some hr
  cases hz
  have l : es.length ≤ 1000 := ble_le hl
  refine ⟨F0, H0, F, env, ds, R, h1, fun vs F1 H1 g1 n1 => ⟨by rw [n1.length, h.len env ds h1, sizeLine_eq]; omega, fun p n => ?_⟩⟩
  have g := Grow.new (o := HO.lst vs) g1.fh n
  exact k _ _ _ (g1.trans g) (.lst upd_same (n1.mono g.ff))
end

/-! ### built-ins of one argument -/
noncomputable def l1 (f : PyData → Option PyData) (ds : List PyData) : Option PyData := @List.rec PyData (fun _ => Option PyData) none (fun d r _ => @List.rec PyData (fun _ => Option PyData) (f d) (fun _ _ _ => none) r) ds
theorem l1_some {f : PyData → Option PyData} {ds : List PyData} {z : PyData} (h : l1 f ds = some z) : ∃ d, ds = [d] ∧ f d = some z := by
  cases ds with
  | nil => cases h
  | cons d r =>
    cases r with
    | nil => exact ⟨d, rfl, h⟩
    | cons _ _ => cases h
noncomputable def dLen (d : PyData) : Option PyData := bd (toSq d) fun xs => some (.int (Int.ofNat (len xs)))
noncomputable def dTuple (d : PyData) : Option PyData := bd (toLs d) fun xs => some (.tuple xs)
noncomputable def dInt (d : PyData) : Option PyData := @PyData.casesOn (fun _ => Option PyData) d none (fun b => some (.int (bIf b 1 0))) (fun i => some (.int i)) (fun _ => none) (fun _ => none) (fun _ => none) (fun _ => none)
noncomputable def zbools (xs : List PyData) : Option (List Bool) := @List.rec PyData (fun _ => Option (List Bool)) (some []) (fun x _ ih => bd (toB x) fun i => bd ih fun is => some (i :: is)) xs
noncomputable def dAll (d : PyData) : Option PyData := bd (toLs d) fun xs => bd (zbools xs) fun bs => some (.bool (allB (fun b => b) bs))
noncomputable def zSum (is : List Int) : Int := @List.rec Int (fun _ => Int) 0 (fun i _ ih => Int.add i ih) is
noncomputable def dSum (d : PyData) : Option PyData := bd (toLs d) fun xs => bd (zints xs) fun is => oI (zSum is)
section
variable {P : Program} {w : World} {K : PySem.W.Frag} {X : Cx}
theorem rl_one {f : PyData → Option PyData} {r : List V → Hp → VK → Prop} (h : ∀ (F H : Hp) (x : V) (d z : PyData) (Q : VK), Same F H → Dn P w F x d → f d = some z → (∀ v F' H', Grow F H F' H' → Dn P w F' v z → Q v H') → r [x] H Q) : RLOk P w (l1 f) r := by
  intro F H xs ds z Q s hx hf k
  obtain ⟨d, rfl, hz⟩ := l1_some hf
  cases hx with
  | cons a b =>
    cases b
    exact h F H _ d z Q s a hz k
theorem ok_len : RLOk P w (l1 dLen) (fun xs H Q => ∃ p ys, xs = [.ref p] ∧ (SqL K H p ys ∨ SqT K H p ys) ∧ Q (.int ys.length) H) := rl_one fun F H x d z Q s hx h k => by
  obtain ⟨xs, h1, hz⟩ := bd_some h
  cases hz
  rw [len_eq] at k
  rcases toSq_some h1 with rfl | rfl
  · cases hx with
    | lst ha ra => exact ⟨_, _, rfl, .inl (.inl (.inl (s _ _ ha))), k _ F H (Grow.refl s) (by rw [ra.length]; exact .int _)⟩
  · cases hx with
    | tup ha ra => exact ⟨_, _, rfl, .inr (tF_sq (s _ _ ha)), k _ F H (Grow.refl s) (by rw [ra.length]; exact .int _)⟩
theorem ok_tuple : RLOk P w (l1 dTuple) (rTupF K) := rl_one fun F H x d z Q s hx h k => by
  obtain ⟨xs, h1, hz⟩ := bd_some h
  cases hz
  have e := toLs_some h1
  subst e
  cases hx with
  | lst ha ra =>
    rename_i a0 vs0
    refine ⟨_, _, rfl, .inl (.inl (s _ _ ha)), fun l us n => ?_⟩
    have g := Grow.new (o := tF us vs0) s n
    exact k _ _ _ g (.tup upd_same (ra.mono g.ff))
theorem ok_int1 : RLOk P w (l1 dInt) (fun xs H Q => (∃ i, xs = [.int i] ∧ Q (.int i) H) ∨ ∃ k, xs = [.bl k] ∧ Q (.int (if k then 1 else 0)) H) := rl_one fun F H x d z Q s hx h k => by
  cases hx with
  | int i => cases h; exact .inl ⟨i, rfl, k _ F H (Grow.refl s) (.int i)⟩
  | bl b =>
    cases h
    refine .inr ⟨b, rfl, k _ F H (Grow.refl s) ?_⟩
    cases b <;> exact .int _
  | _ => cases h
theorem zbools_some : ∀ {xs : List PyData} {bs : List Bool}, zbools xs = some bs → xs = bs.map PyData.bool
  | [], _, h => by cases h; rfl
  | x :: xs, bs, h => by
    obtain ⟨i, h1, h⟩ := bd_some h
    obtain ⟨js, h2, h⟩ := bd_some h
    cases h
    rw [toB_some h1, zbools_some h2]
    rfl
theorem dn_bools {F : Hp} : ∀ {is : List Bool} {vs : List V}, DnAll P w F vs (is.map PyData.bool) → vs = is.map V.bl
  | [], _, h => by cases h; rfl
  | i :: is, _, h => by
    cases h with
    | cons a b =>
      cases a
      rw [dn_bools b]
      rfl
theorem ok_all : RLOk P w (l1 dAll) (rAll K) := rl_one fun F H x d z Q s hx h k => by
  obtain ⟨xs, h1, h2⟩ := bd_some h
  obtain ⟨bs, h3, hz⟩ := bd_some h2
  cases hz
  have e := toLs_some h1
  subst e
  have e3 := zbools_some h3
  subst e3
  cases hx with
  | lst ha ra =>
    have e4 := dn_bools ra
    subst e4
    refine ⟨_, bs, rfl, .inl (.inl (s _ _ ha)), k _ F H (Grow.refl s) ?_⟩
    rw [allB_eq]
    exact .bl _
theorem zSum_eq : ∀ is : List Int, zSum is = is.sum
  | [] => rfl
  | i :: is => by
    show Int.add i (zSum is) = _
    rw [zSum_eq is, List.sum_cons]
    rfl
theorem ok_sum : RLOk P w (l1 dSum) (rSum K) := rl_one fun F H x d z Q s hx h k => by
  obtain ⟨xs, h1, h2⟩ := bd_some h
  obtain ⟨bs, h3, hz⟩ := bd_some h2
  have e := toLs_some h1
  subst e
  have e3 := zints_some h3
  subst e3
  cases hx with
  | lst ha ra =>
    have e4 := dn_ints ra
    subst e4
    refine ⟨_, bs, rfl, .inl (.inl (s _ _ ha)), k _ F H (Grow.refl s) ?_⟩
    rw [← zSum_eq]
    exact dn_oI hz

/-! ### isinstance -/
noncomputable def isI (n b i s l t : Bool) (d : PyData) : Option PyData := @PyData.casesOn (fun _ => Option PyData) d (some (.bool n)) (fun _ => some (.bool b)) (fun _ => some (.bool i)) (fun _ => some (.bool s)) (fun _ => some (.bool l)) (fun _ => some (.bool t)) (fun _ => none)
/-- isinstance of a built-in class T: the answers for None, a bool, an int, a text, a list, a tuple -/
theorem je_isI {a : Expr} {ra : RE} {p q pos : Pos} {T : String} {xT : Str} {n b i s l t : Bool} (ha : JE X a ra) (hg : Gl X "isinstance") (hm : X.mg "isinstance" = none) (hgT : Gl X xT) (hmT : X.mg xT = none) (hvT : bootBuiltins xT = some (.type T))
    (kn : kitB "NoneType" T = some n) (kb : kitB "bool" T = some b) (ki : kitB "int" T = some i) (ks : kitB "str" T = some s) (kl : kitB "list" T = some l) (kt : kitB "tuple" T = some t)
    (hT : xT ≠ "__name__" := by decide) (hTd : (xT == ("__debug__" : Str)) = false := by decide)
    (he : starEach (a :: [.Name xT q]) X.env = (false, eval a X.env) :: starEach [.Name xT q] X.env := by rfl) (he2 : starEach [.Name xT q] X.env = (false, eval (.Name xT q) X.env) :: starEach [] X.env := by rfl) (hpl : (backTo pos (starEach [.Name xT q] X.env)).any (·.1) = false := by rfl) :
    JE X (.Call (.Name "isinstance" p) [a, .Name xT q] [] pos) (e1 (isI n b i s l t) ra) := by
  refine PE.imp (pe_callB call_isi hg hm (by decide +kernel) (pa_cons ha (pa_cons (pe_bltn hgT hmT hvT (v := .ty T) rfl hT hTd) pa_nil he2) he) (by decide) (by decide) he hpl) ?_
  rintro σ H Q ⟨F0, H0, F, env, z, R, hr, k⟩
  obtain ⟨d, h1, hz⟩ := bd_some hr
  refine ⟨F0, H0, F, env, d, R, h1, fun v F1 H1 g1 n1 => ?_⟩
  show ∃ (x c : V) (t u : Value) (b : Bool), [v, V.ty T] = [x, c] ∧ ClsV c u ∧ TyX X.K H1 x t ∧ PySem.W.kitOne X.K t u = some b ∧ Q (.bl b) H1
  cases n1 with
  | non => cases hz; exact ⟨_, _, _, _, _, rfl, .ty T, .base .non, kit_ty kn, k _ F1 H1 g1 (.bl _)⟩
  | bl => cases hz; exact ⟨_, _, _, _, _, rfl, .ty T, .base (.bl _), kit_ty kb, k _ F1 H1 g1 (.bl _)⟩
  | int => cases hz; exact ⟨_, _, _, _, _, rfl, .ty T, .base (.int _), kit_ty ki, k _ F1 H1 g1 (.bl _)⟩
  | str => cases hz; exact ⟨_, _, _, _, _, rfl, .ty T, .base (.str _), kit_ty ks, k _ F1 H1 g1 (.bl _)⟩
  | lst ha ra => cases hz; exact ⟨_, _, _, _, _, rfl, .ty T, .base (.lst (g1.fh _ _ ha)), kit_ty kl, k _ F1 H1 g1 (.bl _)⟩
  | tup ha ra => cases hz; exact ⟨_, _, _, _, _, rfl, .ty T, .fTuple (g1.fh _ _ ha), kit_ty kt, k _ F1 H1 g1 (.bl _)⟩
  | dic => cases hz
  | dci => cases hz

/-! ### is not True -/
noncomputable def dNotIs (x y : PyData) : Option PyData := bd (toB x) fun a => bd (toB y) fun b => some (.bool (bIf a (bIf b false true) b))
theorem ok_notIs : R2Ok P w dNotIs rNotB := by
  intro F H x y d e z Q s hx hy h k
  obtain ⟨a, h1, h⟩ := bd_some h
  obtain ⟨b, h2, hz⟩ := bd_some h
  have e1 := toB_some h1
  have e2 := toB_some h2
  subst e1; subst e2
  cases hx; cases hy
  cases hz
  refine ⟨a, b, rfl, rfl, k _ F H (Grow.refl s) ?_⟩
  cases a <;> cases b <;> exact .bl _

/-! ### xs[::-1] -/
noncomputable def revO (xs ys : List PyData) : List PyData := @List.rec PyData (fun _ => List PyData → List PyData) (fun ys => ys) (fun x _ ih ys => ih (x :: ys)) xs ys
theorem revO_eq : ∀ xs ys : List PyData, revO xs ys = xs.reverse ++ ys
  | [], ys => rfl
  | x :: xs, ys => by
    show revO xs (x :: ys) = _
    rw [revO_eq xs]
    simp
noncomputable def dRev (d : PyData) : Option PyData := bd (toLs d) fun xs => some (.list (revO xs []))
theorem DnAll.rev {F : Hp} : ∀ {xs : List V} {ds : List PyData}, DnAll P w F xs ds → DnAll P w F xs.reverse ds.reverse
  | _, _, .nil => .nil
  | _, _, .cons a b => by
    rw [List.reverse_cons, List.reverse_cons]
    exact (DnAll.rev b).app (.cons a .nil)
theorem je_rev {e : Expr} {re : RE} {k : Nat} {p1 p2 p3 pos : Pos} (he : JE X e re) : JE X (.Subscript e (.Slice none none (some (.UnaryOp .USub (.Constant (.int 1) k p1) p2)) p3) pos) (e1 dRev re) := by
  refine PE.imp (pe_revL he) ?_
  rintro σ H Q ⟨F0, H0, F, env, z, R, hr, k⟩
  obtain ⟨d, h1, hz⟩ := bd_some hr
  obtain ⟨xs, h2, hz⟩ := bd_some hz
  cases hz
  have e := toLs_some h2
  subst e
  rw [revO_eq, List.append_nil] at k
  refine ⟨F0, H0, F, env, _, R, h1, fun v F1 H1 g1 n1 => ?_⟩
  cases n1 with
  | lst ha ra =>
    rename_i a0 vs0
    refine ⟨_, _, rfl, .inl (.inl (g1.fh _ _ ha)), fun p n => ?_⟩
    have g := Grow.new (o := HO.lst vs0.reverse) g1.fh n
    exact k _ _ _ (g1.trans g) (.lst upd_same (ra.rev.mono g.ff))

/-! ### index -/
noncomputable def idx (i : Int) (is : List Int) : Option Nat := @List.rec Int (fun _ => Option Nat) none (fun j _ ih => bIf (zEq j i) (some 0) (bd ih fun n => some (Nat.succ n))) is
theorem idx_some : ∀ {i : Int} {is : List Int} {n : Nat}, idx i is = some n → is[n]? = some i ∧ ∀ m, m < n → is[m]? ≠ some i
  | i, [], n, h => by cases h
  | i, j :: is, n, h => by
    have h : bIf (zEq j i) (some 0) (bd (idx i is) fun n => some (Nat.succ n)) = some n := h
    rw [zEq_eq] at h
    by_cases e : j = i
    · rw [decide_eq_true e] at h
      cases h
      exact ⟨by rw [e]; rfl, fun m hm => absurd hm (Nat.not_lt_zero m)⟩
    · rw [decide_eq_false e] at h
      obtain ⟨k, h1, h2⟩ := bd_some (show bd (idx i is) (fun n => some (Nat.succ n)) = some n from h)
      cases h2
      obtain ⟨a, b⟩ := idx_some h1
      refine ⟨by simpa using a, fun m hm => ?_⟩
      cases m with
      | zero => simpa using e
      | succ m => simpa using b m (by omega)
noncomputable def dIdx (to : PyData → Option (List PyData)) (x y : PyData) : Option PyData := bd (to x) fun xs => bd (zints xs) fun is => bd (toI y) fun i => bd (idx i is) fun n => some (.int (Int.ofNat n))
theorem je_index {o a : Expr} {ro ra : RE} {apos cpos : Pos} (ho : JE X o ro) (ha : JE X a ra)
    (hbase : attributeBase o "index" X.env (eval o X.env) = eval o X.env := by rfl)
    (hfew : ((backTo cpos (starEach [a] X.env)).all (fun x => !x.1) && (backToKw cpos (keywordEach [] X.env)).all (fun x => x.1.isSome)
      && decide ([a].length + ([] : List Keyword).length + (if ([] : List Keyword).isEmpty then 0 else 1) < 30)) = true := by rfl)
    (hline : (apos.endLine == cpos.line) = true := by rfl) (hs : starEach [a] X.env = (false, eval a X.env) :: starEach [] X.env := by rfl) (hplain : (backTo cpos (starEach [] X.env)).any (·.1) = false := by rfl) :
    JE X (.Call (.Attribute o "index" apos) [a] [] cpos) (e2 (dIdx toLs) ro ra) := by
  refine PE.imp (pe_bm PySem.F.plainAttrs_list PySem.F.slot_list_index PySem.F.type_list_index mt_index ho (pa_cons ha pa_nil hs) hbase hfew hline hs hplain) ?_
  rintro σ H Q ⟨F0, H0, F, env, z, R, hr, k⟩
  obtain ⟨d, h1, hr⟩ := bd_some hr
  obtain ⟨e, h2, hz⟩ := bd_some hr
  obtain ⟨xs, h3, hz⟩ := bd_some hz
  obtain ⟨is, h4, hz⟩ := bd_some hz
  obtain ⟨i, h5, hz⟩ := bd_some hz
  obtain ⟨n, h6, hz⟩ := bd_some hz
  cases hz
  have e1 := toLs_some h3
  have e2 := zints_some h4
  have e3 := toI_some h5
  subst e2; subst e1; subst e3
  refine ⟨F0, H0, F, env, _, R, h1, fun v F1 H1 g1 n1 => ?_⟩
  cases n1 with
  | lst hl ra =>
    have e4 := dn_ints ra
    subst e4
    refine ⟨.inl ⟨rfl, _, .inl (.inl (g1.fh _ _ hl))⟩, F0, H0, F1, env, _, R.grow g1, h2, fun u F2 H2 g2 n2 => ?_⟩
    cases n2
    obtain ⟨hi, hno⟩ := idx_some h6
    refine ⟨_, is.map V.int, _, n, .int i, rfl, rfl, .inl (.inl (g2.hh.get _ _ (g1.fh _ _ hl))), rfl, flat_ints is, by rw [List.getElem?_map, hi]; rfl, ?_, fun m z' hm hz => ?_, k _ F2 H2 (g1.trans g2) (.int _)⟩
    · show (i == i) = true
      exact beq_self_eq_true i
    · rw [List.getElem?_map] at hz
      cases q : is[m]? with
      | none => rw [q] at hz; cases hz
      | some j =>
        rw [q] at hz
        cases hz
        show (j == i) = false
        refine beq_eq_false_iff_ne.mpr fun e => hno m hm ?_
        rw [q, e]
/-- t.index(x), t a tuple of numbers -/
def rTIdx (K : PySem.W.Frag) : V → List V → Hp → VK → Prop := fun x xs H Q => ∃ (p : Addr) (us : List Value) (is : List Int) (i : Int) (j : Nat), x = .ref p ∧ xs = [.int i] ∧ H p = some (tF us (is.map V.int)) ∧ is[j]? = some i ∧ (∀ m, m < j → is[m]? ≠ some i) ∧ Q (.int (j : Nat)) H
theorem mt_tidx : MtR X "tuple.index" (rTIdx X.K) := by
  intro pins s σ H x xs v us Q I rx rs h
  obtain ⟨p, us', ys, z, j, rfl, rfl, hq, hy, hno, q⟩ := h
  cases rx
  obtain ⟨u, rfl, t, rfl⟩ := vals1 rs
  obtain ⟨its, r, pl, hz⟩ := I.tuple (tF_sq hq)
  obtain ⟨⟨cls, dd, dt, sl⟩, ho, hc, n, hd⟩ := pl
  simp only at hc hd
  subst hc
  subst hd
  have hl : its.toArray.size = ys.length := by rw [List.size_toArray, ← r.length, List.length_map]
  have hj : j < its.toArray.size := by rw [hl]; exact (List.getElem?_eq_some_iff.mp hy).1
  have at' : ∀ (m : Nat) (hm : m < its.toArray.size), ∃ y t', ys[m]? = some y ∧ its.toArray[m] = Value.int y t' := fun m hm => by
    have hm' : m < ys.length := by rw [← hl]; exact hm
    obtain ⟨w, hw, t', hw'⟩ := r.get (i := m) (x := .int ys[m]) (by simp [hm'])
    refine ⟨ys[m], t', List.getElem?_eq_getElem hm', ?_⟩
    have e := (List.getElem?_eq_some_iff.mp hw).2
    rw [← hw', ← e]
    simp
  refine call_meets PySem.F.slot_tuple_index ⟨_, ho, rfl⟩ PySem.F.entry_tuple_index (PySem.F.args_tuple_index_2 _ _) (TI.tuple_indexAt p its.toArray n dd sl (.int z t) (eqU (.int z)) j hj ?_ ?_)
    ⟨ho, fun w hw => mem_eqAt (x := .int z) ⟨t, rfl⟩ rfl r (flat_ints ys) w (by simpa using hw), ⟨.int (j : Nat), H, I.tok _, ⟨_, rfl⟩, q⟩⟩
  · obtain ⟨y, t', h1, h2⟩ := at' j hj
    rw [hy] at h1
    cases h1
    rw [h2]
    show (z == z) = true
    exact beq_self_eq_true z
  · intro m hm hmj
    obtain ⟨y, t', h1, h2⟩ := at' m hm
    rw [h2]
    show (y == z) = false
    refine beq_eq_false_iff_ne.mpr fun e => hno m hmj ?_
    rw [h1, e]
theorem je_tindex {o a : Expr} {ro ra : RE} {apos cpos : Pos} (ho : JE X o ro) (ha : JE X a ra)
    (hbase : attributeBase o "index" X.env (eval o X.env) = eval o X.env := by rfl)
    (hfew : ((backTo cpos (starEach [a] X.env)).all (fun x => !x.1) && (backToKw cpos (keywordEach [] X.env)).all (fun x => x.1.isSome)
      && decide ([a].length + ([] : List Keyword).length + (if ([] : List Keyword).isEmpty then 0 else 1) < 30)) = true := by rfl)
    (hline : (apos.endLine == cpos.line) = true := by rfl) (hs : starEach [a] X.env = (false, eval a X.env) :: starEach [] X.env := by rfl) (hplain : (backTo cpos (starEach [] X.env)).any (·.1) = false := by rfl) :
    JE X (.Call (.Attribute o "index" apos) [a] [] cpos) (e2 (dIdx toTp) ro ra) := by
  refine ⟨fun pins s σ H Q I h => ?_⟩
  obtain ⟨F0, H0, F, env, z, R, hr, k⟩ := h
  obtain ⟨d, h1, hr⟩ := bd_some hr
  obtain ⟨e, h2, hz⟩ := bd_some hr
  obtain ⟨xs, h3, hz⟩ := bd_some hz
  obtain ⟨is, h4, hz⟩ := bd_some hz
  obtain ⟨i, h5, hz⟩ := bd_some hz
  obtain ⟨n, h6, hz⟩ := bd_some hz
  cases hz
  have e1 := toTp_some h3
  have e2 := zints_some h4
  have e3 := toI_some h5
  subst e2; subst e1; subst e3
  refine wpAny_Call_method_late hbase hfew hline rfl (thn (ho.run pins s σ H (fun v H1 => ∃ F1, Grow F H F1 H1 ∧ Dn X.prog X.w F1 v (.tuple (is.map PyData.int))) I ⟨F0, H0, F, env, _, R, h1, fun v F' H' g n => ⟨F', g, n⟩⟩) fun u s1 ⟨x, H1, I1, r1, F1, g1, n1⟩ => ?_)
  cases n1 with
  | tup hl ra =>
    rename_i p us ys
    have e4 := dn_ints ra
    subst e4
    cases r1
    have hob := (I1.hok p _ (g1.fh _ _ hl)).1
    refine ⟨"tuple", _, PySem.F.plainAttrs_tuple, PySem.F.slot_tuple_index, PySem.F.type_tuple_index, ⟨_, hob, rfl⟩, fun a e => ?_, ?_⟩
    · cases e
      exact ⟨_, hob, rfl⟩
    · have hA := (pa_cons ha pa_nil hs).run cpos pins s1 σ H1 (fun vs H2 => ∃ F2, Grow F1 H1 F2 H2 ∧ DnAll X.prog X.w F2 vs [.int i]) I1 ⟨F0, H0, F1, env, _, R.grow g1, h2, fun u F2 H2 g2 n2 => ⟨F2, g2, .cons n2 .nil⟩⟩
      rw [hs] at hA ⊢
      refine Calls.callWith_builtin (by show (false || (backTo cpos (starEach [] X.env)).any (·.1)) = false; rw [hplain] <;> rfl) (Calls.evalArgs_plain ?_)
      refine thn hA fun us2 s2 ⟨vs, H2, I2, r2, F2, g2, n2⟩ => ?_
      cases n2 with
      | cons a b =>
        cases a; cases b
        obtain ⟨hi, hno⟩ := idx_some h6
        exact mt_tidx pins s2 σ H2 (.ref p) [.int i] _ us2 Q I2 rfl r2 ⟨p, us, is, i, n, rfl, rfl, g2.hh.get _ _ (g1.fh _ _ hl), hi, hno, k _ F2 H2 (g1.trans g2) (.int _)⟩
end
end K67
set_option Elab.async false
set_option linter.all false
set_option maxRecDepth 100000
set_option maxHeartbeats 2000000
namespace K67
open PySem PySem.Spec PyProof.Rows L2
variable [TabA]

/-! ### owned lists -/
section
variable {P : Program} {w : World} {F F' H H' F0 H0 : Hp} {σ : L2.St} {env : En} {i : Nat} {p : Addr}
theorem SlotOk.wr {q : Addr} {o : HO} {so : Option V} {sv : SV} (hp : F p = none) (hq : sv.own → q ≠ p) (s : SlotOk P w H0 F H q so sv) : SlotOk P w H0 F (upd H p o) q so sv := by
  cases so with
  | none => cases sv <;> exact s
  | some v =>
    cases sv with
    | no => trivial
    | fz d => exact s
    | rg lo hi => exact s
    | fn dc de => exact s
    | ol ds =>
      obtain ⟨e, f, z, xs, h, r⟩ := s
      exact ⟨e, f, z, xs, by rw [upd_ne (hq trivial)]; exact h, r⟩
    | od kds =>
      obtain ⟨e, f, z, es, h, r⟩ := s
      exact ⟨e, f, z, es, by rw [upd_ne (hq trivial)]; exact h, r⟩
theorem SlotOk.there {q : Addr} {so : Option V} {sv : SV} (s : SlotOk P w H0 F H q so sv) (o : sv.own) : (∃ u, H q = some u ∧ NT u) ∧ F q = none ∧ H0 q = none := by
  cases so with
  | none => cases sv <;> first | exact o.elim | exact s.elim
  | some v =>
    cases sv with
    | no => exact o.elim
    | fz d => exact o.elim
    | rg lo hi => exact o.elim
    | fn dc de => exact o.elim
    | ol ds => obtain ⟨e, f, z, xs, h, r⟩ := s; exact ⟨⟨_, h, trivial⟩, f, z⟩
    | od kds => obtain ⟨e, f, z, xs, h, r⟩ := s; exact ⟨⟨_, h, trivial⟩, f, z⟩
/-- slot i holds p, which is its own now -/
theorem Rel.put (R : Rel P w F0 H0 F H σ env) {v : Option V} {sv : SV} (g' : Grow F0 H0 F' H') (hi : SlotOk P w H0 F' H' p v sv)
    (ho : ∀ q so s', SlotOk P w H0 F H q so s' → (s'.own → q ≠ p) → SlotOk P w H0 F' H' q so s')
    (hp : ∀ (q : Nat → Addr), (∀ i so sv, σ[i]? = some so → env[i]? = some sv → SlotOk P w H0 F H (q i) so sv) → (∀ i j a b, env[i]? = some a → env[j]? = some b → a.own → b.own → q i = q j → i = j) → ∀ j s', j ≠ i → env[j]? = some s' → s'.own → q j ≠ p) :
    Rel P w F0 H0 F' H' (σ.set i v) (env.set i sv) := by
  obtain ⟨q, h1, h2⟩ := R.sl
  have hp := hp q h1 h2
  refine ⟨g', by simp [R.len], ⟨fun j => if j = i then p else q j, fun j so s' a b => ?_, fun j k a b ha hb oa ob e => ?_⟩, R.n0, R.t0⟩
  · by_cases e : i = j
    · subst e
      have hi' : i < σ.length := by
        have := (List.getElem?_eq_some_iff.mp a).1
        simpa using this
      rw [List.getElem?_set_self hi'] at a
      rw [List.getElem?_set_self (by rw [← R.len]; exact hi')] at b
      cases a; cases b
      show SlotOk P w H0 F' H' (if i = i then p else q i) v sv
      rw [if_pos rfl]
      exact hi
    · rw [List.getElem?_set_ne e] at a b
      show SlotOk P w H0 F' H' (if j = i then p else q j) so s'
      rw [if_neg (Ne.symm e)]
      exact ho _ _ _ (h1 j so s' a b) fun o => hp j s' (Ne.symm e) b o
  · have key : ∀ j a, (env.set i sv)[j]? = some a → a.own → j ≠ i → q j ≠ p := fun j a ha oa ne => by
      rw [List.getElem?_set_ne (Ne.symm ne)] at ha
      exact hp j a ne ha oa
    by_cases ej : j = i
    · by_cases ek : k = i
      · rw [ej, ek]
      · simp only [ej, if_true, ek, if_false] at e
        exact absurd e.symm (key k b hb ob ek)
    · by_cases ek : k = i
      · simp only [ek, if_true, ej, if_false] at e
        exact absurd e (key j a ha oa ej)
      · simp only [ek, ej, if_false] at e
        rw [List.getElem?_set_ne (Ne.symm ej)] at ha
        rw [List.getElem?_set_ne (Ne.symm ek)] at hb
        exact h2 j k a b ha hb oa ob e
/-- a new object becomes slot i's own -/
theorem Rel.mine (R : Rel P w F0 H0 F H σ env) {o : HO} {sv : SV} (n : H p = none) (hi : SlotOk P w H0 F (upd H p o) p (some (.ref p)) sv) (nt : NT o := by exact trivial) : Rel P w F0 H0 F (upd H p o) (σ.set i (some (.ref p))) (env.set i sv) := by
  have fp : F p = none := R.fh.free n
  refine R.put ?_ hi (fun q so s' s hq => s.wr fp hq) fun q h1 h2 j s' ne hj oj e => ?_
  · exact R.g.trans (Grow.more R.fh n nt)
  · have hj' : j < σ.length := by rw [R.len]; exact (List.getElem?_eq_some_iff.mp hj).1
    obtain ⟨⟨u, hu, _⟩, _⟩ := (h1 j _ s' (List.getElem?_eq_getElem hj') hj).there oj
    rw [e, n] at hu
    cases hu
/-- slot i's own object is written -/
theorem Rel.wr (R : Rel P w F0 H0 F H σ env) {o : HO} {sv sv0 : SV} {v : V} (h0 : env[i]? = some sv0) (o0 : sv0.own) (hv : ∀ q so, σ[i]? = some so → SlotOk P w H0 F H q so sv0 → so = some v ∧ q = p) (hi : SlotOk P w H0 F (upd H p o) p (some v) sv) (nt : NT o := by exact trivial) :
    Rel P w F0 H0 F (upd H p o) σ (env.set i sv) := by
  have hi' : i < σ.length := by rw [R.len]; exact (List.getElem?_eq_some_iff.mp h0).1
  have hs : σ[i]? = some σ[i] := List.getElem?_eq_getElem hi'
  obtain ⟨q, h1, h2⟩ := R.sl
  have s0 := h1 i _ sv0 hs h0
  obtain ⟨e1, e2⟩ := hv _ _ hs s0
  obtain ⟨_, fp, zp⟩ := s0.there o0
  rw [e2] at fp zp
  have e3 : σ.set i (some v) = σ := by
    rw [← e1]
    exact List.set_getElem_self hi'
  rw [← e3]
  refine R.put ?_ hi (fun q so s' s hq => s.wr fp hq) fun q' h1' h2' j s' ne hj oj e => ?_
  · exact R.g.wr fp zp nt
  · obtain ⟨_, e2'⟩ := hv _ _ hs (h1' i _ sv0 hs h0)
    exact ne (h2' j i s' sv0 hj h0 oj o0 (e.trans e2'.symm))
/-- slot i's own object is frozen -/
theorem Rel.frz (R : Rel P w F0 H0 F H σ env) {sv0 : SV} (h0 : env[i]? = some sv0) (o0 : sv0.own) {d : PyData} (hd : ∀ q v o, H q = some o → SlotOk P w H0 F H q (some v) sv0 → Dn P w (upd F q o) v d) :
    ∃ F', Rel P w F0 H0 F' H σ (env.set i (.fz d)) ∧ Same F F' := by
  have hi' : i < σ.length := by rw [R.len]; exact (List.getElem?_eq_some_iff.mp h0).1
  have hs : σ[i]? = some σ[i] := List.getElem?_eq_getElem hi'
  obtain ⟨q, h1, h2⟩ := R.sl
  have s0 := h1 i _ sv0 hs h0
  obtain ⟨⟨u, hu, nu⟩, fp, zp⟩ := s0.there o0
  have mono : Same F (upd F (q i) u) := fun a o e => by rw [upd_ne (ne_of_none e fp)]; exact e
  have e3 : σ.set i σ[i] = σ := List.set_getElem_self hi'
  refine ⟨upd F (q i) u, ?_, mono⟩
  rw [← e3]
  refine R.put (p := q i) (R.g.frz fp zp hu nu) ?_ (fun q' so s' s hq => ?_) fun q' h1' h2' j s' ne hj oj e => ?_
  · cases hv : σ[i] with
    | none =>
      rw [hv] at s0
      cases sv0 <;> first | exact o0.elim | exact s0.elim
    | some v =>
      rw [hv] at s0
      exact hd (q i) v u hu s0
  · cases so with
    | none => cases s' <;> exact s
    | some v =>
      cases s' with
      | no => trivial
      | fz d => exact Dn.mono mono s
      | rg lo hi => obtain ⟨a, e, h⟩ := s; exact ⟨a, e, mono _ _ h⟩
      | fn dc de => exact FnIn.mono mono s
      | ol ds =>
        obtain ⟨e, f, z, xs, h, r⟩ := s
        exact ⟨e, by rw [upd_ne (hq trivial)]; exact f, z, xs, h, r.mono mono⟩
      | od kds =>
        obtain ⟨e, f, z, xs, h, r⟩ := s
        exact ⟨e, by rw [upd_ne (hq trivial)]; exact f, z, xs, h, r.mono mono⟩
  · have sj2 := h1' i _ sv0 hs h0
    have e4 : q' i = q i := by
      cases hv : σ[i] with
      | none =>
        rw [hv] at s0
        cases sv0 <;> first | exact o0.elim | exact s0.elim
      | some v =>
        rw [hv] at s0 sj2
        cases sv0 with
        | no => exact o0.elim
        | fz => exact o0.elim
        | rg => exact o0.elim
        | fn => exact o0.elim
        | ol ds => exact V.ref.inj (sj2.1.symm.trans s0.1)
        | od ds => exact V.ref.inj (sj2.1.symm.trans s0.1)
    exact ne (h2' j i s' sv0 hj h0 oj o0 (e.trans e4.symm))
end

/-! ### statements -/
noncomputable def sNx : RS := fun env => some (.nx env)
noncomputable def sSeq (a b : RS) : RS := fun env => bd (a env) fun o => @Oc.rec (fun _ => Option Oc) (fun e => b e) (fun d => some (.rt d)) o
noncomputable def sSet (i : Nat) (r : RE) : RS := fun env => bd (r env) fun d => some (.nx (put env i (.fz d)))
noncomputable def sRet (r : RE) : RS := fun env => bd (r env) fun d => some (.rt d)
noncomputable def sIf (c : RT) (a b : RS) : RS := fun env => bd (c env) fun x => bIf x (a env) (b env)
noncomputable def sExp (r : RE) : RS := fun env => bd (r env) fun _ => some (.nx env)
noncomputable def ownL (env : En) (i : Nat) : Option (List PyData) := bd (nth env i) fun sv => @SV.rec (fun _ => Option (List PyData)) none (fun _ => none) (fun ds => some ds) (fun _ => none) (fun _ _ => none) (fun _ _ => none) sv
noncomputable def sOwn (i : Nat) (r : RA) : RS := fun env => bd (r env) fun ds => some (.nx (put env i (.ol (revO ds []))))
noncomputable def sApp (i : Nat) (r : RE) : RS := fun env => bd (ownL env i) fun rs => bd (r env) fun d => bIf (Nat.ble (len rs) 100000) (some (.nx (put env i (.ol (d :: rs))))) none
noncomputable def sExt (i : Nat) (r : RE) : RS := fun env => bd (ownL env i) fun rs => bd (r env) fun d => bd (toLs d) fun ds => bIf (Nat.ble (len rs) 100000) (bIf (Nat.ble (len ds) 100000) (some (.nx (put env i (.ol (revO ds rs))))) none) none
noncomputable def sFrz (i : Nat) (s : RS) : RS := fun env => bd (ownL env i) fun rs => s (put env i (.fz (.list (revO rs []))))
theorem ownL_some {env : En} {i : Nat} {rs : List PyData} (h : ownL env i = some rs) : env[i]? = some (.ol rs) := by
  obtain ⟨sv, h1, h2⟩ := bd_some h
  rw [nth_eq] at h1
  cases sv <;> first | cases h2 | skip
  exact h1
section
variable {X : Cx} {st : Stmt} {rest : List Stmt} {a b c e : Expr} {ra rb : RE} {pos : Pos} {s t u : RS}
theorem tS_intro {P : Program} {w : World} {r : RS} {D : Ends} {σ : L2.St} {H F0 H0 F : Hp} {env : En} {o : Oc} (R : Rel P w F0 H0 F H σ env) (h : r env = some o) (k : OcOk P w F0 H0 F D o) : tS P w r D σ H := ⟨F0, H0, F, env, o, R, h, k⟩
theorem jss_nil : JSs X [] sNx := by
  refine PSs.imp pss_nil ?_
  rintro D σ H ⟨F0, H0, F, env, o, R, hr, k⟩
  cases hr
  exact k σ F H R (.refl _)
theorem jss_cons (h1 : JS X st s) (h2 : JSs X rest t) : JSs X (st :: rest) (sSeq s t) := by
  refine PSs.imp (pss_cons h1 h2) ?_
  rintro D σ H ⟨F0, H0, F, env, o, R, hr, k⟩
  obtain ⟨o1, h1, hr⟩ := bd_some hr
  refine ⟨F0, H0, F, env, o1, R, h1, ?_⟩
  cases o1 with
  | nx e1 => exact fun σ' F' H' R' s => ⟨F0, H0, F', e1, o, R', hr, k.mono s⟩
  | rt d =>
    cases hr
    exact k
theorem jss_one (h1 : JS X st s) : JSs X [st] s := pss_one h1
theorem js_frz {i : Nat} (h : JSs X rest s) : JSs X rest (sFrz i s) := by
  refine PSs.imp h ?_
  rintro D σ H ⟨F0, H0, F, env, o, R, hr, k⟩
  obtain ⟨rs, h1, hr⟩ := bd_some hr
  have h1 := ownL_some h1
  rw [put_eq, revO_eq, List.append_nil] at hr
  obtain ⟨F', R', sm⟩ := R.frz (i := i) h1 trivial (d := .list rs.reverse) fun q v o ho s => by
    obtain ⟨rfl, f, z, xs, h, r⟩ := s
    rw [ho] at h
    cases h
    exact .lst upd_same (r.mono fun a u e => by rw [upd_ne (ne_of_none e f)]; exact e)
  exact ⟨F0, H0, F', _, o, R', hr, k.mono sm⟩
theorem js_set {i : Nat} {x : Str} {pos' : Pos} (hN : X.N.Nodup) (hi : X.N[i]? = some x) (hx : Loc X.env.scope x) (he : JE X e ra) (hs : swapsWith e (some (.Name x pos')) pos.line X.env = pure false := by rfl) (hf : X.fn x = true ∨ X.env.scope.names.lookup x = some .local := by first | exact .inl rfl | exact .inr rfl | assumption) :
    JS X (.Assign [.Name x pos'] e pos) (sSet i ra) := by
  refine PS.imp (ps_set hN hi hx he hs hf) ?_
  rintro D σ H ⟨F0, H0, F, env, o, R, hr, k⟩
  obtain ⟨d, h1, hz⟩ := bd_some hr
  cases hz
  refine ⟨F0, H0, F, env, d, R, h1, fun v F1 H1 g1 n1 => ?_⟩
  have R1 := (R.grow g1).set (i := i) n1
  rw [← put_eq env i] at R1
  exact k _ F1 H1 R1 g1.ff
theorem js_ret (he : JE X e ra) : JS X (.Return (some e) pos) (sRet ra) := by
  refine PS.imp (ps_ret he) ?_
  rintro D σ H ⟨F0, H0, F, env, o, R, hr, k⟩
  obtain ⟨d, h1, hz⟩ := bd_some hr
  cases hz
  exact ⟨F0, H0, F, env, d, R, h1, fun v F1 H1 g1 n1 => k v F1 H1 (R.g.trans g1) n1⟩
theorem js_if {A B : List Stmt} {rt : RT} (hc : JT X c rt) (ha : JSs X A s) (hb : JSs X B t) : JS X (.If c A B pos) (sIf rt s t) := by
  refine PS.imp (ps_if hc ha hb) ?_
  rintro D σ H ⟨F0, H0, F, env, o, R, hr, k⟩
  obtain ⟨d, h1, hr⟩ := bd_some hr
  refine ⟨F0, H0, F, env, d, R, h1, fun F1 H1 g1 => ?_⟩
  cases d with
  | true =>
    rw [if_pos rfl]
    exact ⟨F0, H0, F1, env, o, R.grow g1, hr, k.mono g1.ff⟩
  | false =>
    rw [if_neg Bool.false_ne_true]
    exact ⟨F0, H0, F1, env, o, R.grow g1, hr, k.mono g1.ff⟩
theorem js_exp (he : JE X e ra) (hs : swapsWith e none pos.line X.env = pure false := by rfl) : JS X (.Expr e pos) (sExp ra) := by
  refine PS.imp (ps_expr he hs) ?_
  rintro D σ H ⟨F0, H0, F, env, o, R, hr, k⟩
  obtain ⟨d, h1, hz⟩ := bd_some hr
  cases hz
  exact ⟨F0, H0, F, env, d, R, h1, fun v F1 H1 g1 n1 => k σ F1 H1 (R.grow g1) g1.ff⟩
/-- x = [..], to be changed later on -/
theorem js_own {i : Nat} {x : Str} {pos' p2 : Pos} {es : List Expr} {r : RA} (hN : X.N.Nodup) (hi : X.N[i]? = some x) (hx : Loc X.env.scope x) (he : JA X es r) (hl : Nat.ble es.length 1000 = true := by rfl) (hs : swapsWith (.List es p2) (some (.Name x pos')) pos.line X.env = pure false := by rfl) (hf : X.fn x = true ∨ X.env.scope.names.lookup x = some .local := by first | exact .inl rfl | exact .inr rfl | assumption) :
    JS X (.Assign [.Name x pos'] (.List es p2) pos) (sOwn i r) := by
  refine PS.imp (ps_set hN hi hx (pe_lst he.pa) hs hf) ?_
  rintro D σ H ⟨F0, H0, F, env, o, R, hr, k⟩
  obtain ⟨ds, h1, hz⟩ := bd_some hr
  cases hz
  have l : es.length ≤ 1000 := ble_le hl
  refine ⟨F0, H0, F, env, ds, R, h1, fun vs F1 H1 g1 n1 => ⟨by rw [n1.length, he.len env ds h1, sizeLine_eq]; omega, fun p n => ?_⟩⟩
  have R1 := (R.grow g1).mine (i := i) (o := HO.lst vs) (sv := .ol (revO ds [])) n ⟨rfl, g1.fh.free n, (R.grow g1).g.hh.free n, vs, upd_same, by rw [revO_eq, List.append_nil, List.reverse_reverse]; exact n1⟩
  rw [← put_eq env i] at R1
  exact k _ F1 _ R1 g1.ff
theorem lineS {n m : Nat} (h1 : n ≤ 100000) (h2 : m ≤ 100000) : n + m ≤ sizeLine := by rw [sizeLine_eq]; omega
/-- x.append(e), x the frame's own list -/
theorem js_app {i : Nat} {x : Str} {p1 p2 cpos : Pos} (hN : X.N[i]? = some x) (hv : Vis X.env.scope x) (ha : JE X a ra) (hd : (x == ("__debug__" : Str)) = false := by decide) (hcd : (x == ("__classdict__" : Str)) = false := by decide)
    (hbase : attributeBase (.Name x p1) "append" X.env (eval (.Name x p1) X.env) = eval (.Name x p1) X.env := by rfl)
    (hfew : ((backTo cpos (starEach [a] X.env)).all (fun x => !x.1) && (backToKw cpos (keywordEach [] X.env)).all (fun x => x.1.isSome)
      && decide ([a].length + ([] : List Keyword).length + (if ([] : List Keyword).isEmpty then 0 else 1) < 30)) = true := by rfl)
    (hline : (p2.endLine == cpos.line) = true := by rfl) (hs : starEach [a] X.env = (false, eval a X.env) :: starEach [] X.env := by rfl) (hplain : (backTo cpos (starEach [] X.env)).any (·.1) = false := by rfl)
    (hsw : swapsWith (.Call (.Attribute (.Name x p1) "append" p2) [a] [] cpos) none pos.line X.env = pure false := by rfl) :
    JS X (.Expr (.Call (.Attribute (.Name x p1) "append" p2) [a] [] cpos) pos) (sApp i ra) := by
  refine PS.imp (ps_expr (pe_bm PySem.F.plainAttrs_list PySem.F.slot_list_append PySem.F.type_list_append mt_append (pe_var hN hv hd hcd) (pa_cons ha pa_nil hs) hbase hfew hline hs hplain) hsw) ?_
  rintro D σ H ⟨F0, H0, F, env, o, R, hr, k⟩
  obtain ⟨rs, h1, hr⟩ := bd_some hr
  obtain ⟨d, h2, hr⟩ := bd_some hr
  obtain ⟨l1, hz⟩ := bIf_some hr
  cases hz
  have l1 := ble_le l1
  rw [len_eq] at l1
  have h1 := ownL_some h1
  obtain ⟨p, so, hso, ok⟩ := R.get h1
  cases so with
  | none => exact ok.elim
  | some v =>
    obtain ⟨rfl, f, z, xs, h, r⟩ := ok
    refine ⟨.ref p, hso, .inl ⟨rfl, xs, .inl (.inl h)⟩, F0, H0, F, env, d, R, h2, fun u F1 H1 g1 n1 => ?_⟩
    refine ⟨p, xs, u, rfl, rfl, g1.hh.get _ _ h, by have e := r.length; rw [List.length_reverse] at e; rw [sizeLine_eq]; omega, ?_⟩
    have R1 := (R.grow g1).wr (i := i) (o := HO.lst (xs ++ [u])) (sv := .ol (d :: rs)) (p := p) (v := .ref p) h1 trivial (fun q so e s => by
      rw [hso] at e
      cases e
      exact ⟨rfl, (V.ref.inj s.1).symm⟩) ⟨rfl, ((R.grow g1).grow (Grow.refl g1.fh) |>.get h1 |> fun ⟨q, so, e, s⟩ => by
      rw [hso] at e
      cases e
      have := s.2.1
      rw [← V.ref.inj s.1] at this
      exact this), z, _, upd_same, by rw [List.reverse_cons]; exact (r.mono g1.ff).app (.cons n1 .nil)⟩
    rw [← put_eq env i] at R1
    exact k _ F1 _ R1 g1.ff
/-- x.extend(e), x the frame's own list, e a list -/
theorem js_ext {i : Nat} {x : Str} {p1 p2 cpos : Pos} (hN : X.N[i]? = some x) (hv : Vis X.env.scope x) (ha : JE X a ra) (hd : (x == ("__debug__" : Str)) = false := by decide) (hcd : (x == ("__classdict__" : Str)) = false := by decide)
    (hbase : attributeBase (.Name x p1) "extend" X.env (eval (.Name x p1) X.env) = eval (.Name x p1) X.env := by rfl)
    (hfew : ((backTo cpos (starEach [a] X.env)).all (fun x => !x.1) && (backToKw cpos (keywordEach [] X.env)).all (fun x => x.1.isSome)
      && decide ([a].length + ([] : List Keyword).length + (if ([] : List Keyword).isEmpty then 0 else 1) < 30)) = true := by rfl)
    (hline : (p2.endLine == cpos.line) = true := by rfl) (hs : starEach [a] X.env = (false, eval a X.env) :: starEach [] X.env := by rfl) (hplain : (backTo cpos (starEach [] X.env)).any (·.1) = false := by rfl)
    (hsw : swapsWith (.Call (.Attribute (.Name x p1) "extend" p2) [a] [] cpos) none pos.line X.env = pure false := by rfl) :
    JS X (.Expr (.Call (.Attribute (.Name x p1) "extend" p2) [a] [] cpos) pos) (sExt i ra) := by
  refine PS.imp (ps_expr (pe_bm PySem.F.plainAttrs_list PySem.F.slot_list_extend PySem.F.type_list_extend mt_extend (pe_var hN hv hd hcd) (pa_cons ha pa_nil hs) hbase hfew hline hs hplain) hsw) ?_
  rintro D σ H ⟨F0, H0, F, env, o, R, hr, k⟩
  obtain ⟨rs, h1, hr⟩ := bd_some hr
  obtain ⟨d, h2, hr⟩ := bd_some hr
  obtain ⟨ds, h3, hr⟩ := bd_some hr
  obtain ⟨l1, hr⟩ := bIf_some hr
  obtain ⟨l2, hz⟩ := bIf_some hr
  cases hz
  have l1 := ble_le l1
  have l2 := ble_le l2
  rw [len_eq] at l1 l2
  have h1 := ownL_some h1
  have e3 := toLs_some h3
  subst e3
  obtain ⟨p, so, hso, ok⟩ := R.get h1
  cases so with
  | none => exact ok.elim
  | some v =>
    obtain ⟨rfl, f, z, xs, h, r⟩ := ok
    refine ⟨.ref p, hso, .inl ⟨rfl, xs, .inl (.inl h)⟩, F0, H0, F, env, _, R, h2, fun u F1 H1 g1 n1 => ?_⟩
    cases n1 with
    | lst hb rb =>
      rename_i b zs
      refine ⟨p, b, xs, zs, rfl, rfl, g1.hh.get _ _ h, g1.fh _ _ hb, by have e := r.length; rw [List.length_reverse] at e; rw [e, rb.length]; exact lineS l1 l2, ?_⟩
      have R1 := (R.grow g1).wr (i := i) (o := HO.lst (xs ++ zs)) (sv := .ol (revO ds rs)) (p := p) (v := .ref p) h1 trivial (fun q so e s => by
        rw [hso] at e
        cases e
        exact ⟨rfl, (V.ref.inj s.1).symm⟩) ⟨rfl, ((R.grow g1).grow (Grow.refl g1.fh) |>.get h1 |> fun ⟨q, so, e, s⟩ => by
        rw [hso] at e
        cases e
        have := s.2.1
        rw [← V.ref.inj s.1] at this
        exact this), z, _, upd_same, by rw [revO_eq, List.reverse_append, List.reverse_reverse]; exact (r.mono g1.ff).app rb⟩
      rw [← put_eq env i] at R1
      exact k _ F1 _ R1 g1.ff
end
end K67
set_option Elab.async false
set_option linter.all false
set_option maxRecDepth 100000
set_option maxHeartbeats 2000000
namespace K67
open PySem PySem.Spec PyProof.Rows L2
variable [TabA]

/-! ### what is known of an item -/
abbrev Ro := Hp → Hp → V → PyData → Prop
def roD (P : Program) (w : World) : Ro := fun F _ x d => Dn P w F x d
/-- of a tuple that is taken apart at once -/
def roT (P : Program) (w : World) (K : PySem.W.Frag) : Ro := fun F H x d => ∀ ds, d = .tuple ds → ∃ a xs, x = .ref a ∧ SqT K H a xs ∧ DnAll P w F xs ds
def RoMono (ρ : Ro) : Prop := ∀ (F F' H : Hp) (x : V) (d : PyData), Same F F' → ρ F H x d → ρ F' H x d
theorem roD_mono {P : Program} {w : World} : RoMono (roD P w) := fun _ _ _ _ _ s h => Dn.mono s h
theorem roT_mono {P : Program} {w : World} {K : PySem.W.Frag} : RoMono (roT P w K) := fun _ _ _ _ _ s h ds e => by
  obtain ⟨a, xs, h1, h2, h3⟩ := h ds e
  exact ⟨a, xs, h1, h2, h3.mono s⟩
theorem roT_of {P : Program} {w : World} {K : PySem.W.Frag} {F H : Hp} {x : V} {d : PyData} (s : Same F H) (h : Dn P w F x d) : roT P w K F H x d := fun ds e => by
  subst e
  cases h with
  | tup ha ra => exact ⟨_, _, rfl, tF_sq (s _ _ ha), ra⟩
/-- it walks the data ds -/
def WalkD (ρ : Ro) (F : Hp) (J : It) (ds : List PyData) : Prop := Walk J ds.length (fun H => Same F H) (fun i H x H' => ∃ d F2, ds[i]? = some d ∧ ρ F2 H' x d ∧ Grow F H F2 H')
section
variable (P : Program) (w : World) (ρ : Ro)
def tI (r : RA) : TI := fun σ H R => ∃ F0 H0 F env ds, Rel P w F0 H0 F H σ env ∧ r env = some ds ∧ ∀ J F' H', Grow F H F' H' → WalkD ρ F' J ds → R J H'
def Outs (js : List Nat) (σ σ' : L2.St) : Prop := σ'.length = σ.length ∧ ∀ k, k ∉ js → σ'[k]? = σ[k]?
/-- slots, with what they hold -/
abbrev Us := List (Nat × V × PyData)
def setAll (σ : L2.St) : Us → L2.St
  | [] => σ
  | u :: us => setAll (σ.set u.1 (some u.2.1)) us
def putAll (env : En) : Us → En
  | [] => env
  | u :: us => putAll (env.set u.1 (.fz u.2.2)) us
def UsOk (F : Hp) (js : List Nat) (us : Us) : Prop := ∀ u ∈ us, u.1 ∈ js ∧ Dn P w F u.2.1 u.2.2
def tG (b : PyData → En → Option En) (js : List Nat) : TG := fun v σ H Q => ∃ F0 H0 F env d env', Rel P w F0 H0 F H σ env ∧ ρ F H v d ∧ b d env = some env' ∧ ∀ us, UsOk P w F js us → env' = putAll env us → Q (setAll σ us) H
end
section
variable {P : Program} {w : World} {F F' H F0 H0 : Hp} {js : List Nat}
theorem UsOk.mono {us : Us} (s : Same F F') (h : UsOk P w F js us) : UsOk P w F' js us := fun u hu => ⟨(h u hu).1, (h u hu).2.mono s⟩
theorem Rel.setAll : ∀ {us : Us} {σ : L2.St} {env : En}, Rel P w F0 H0 F H σ env → UsOk P w F js us → Rel P w F0 H0 F H (setAll σ us) (putAll env us)
  | [], _, _, R, _ => R
  | u :: us, _, _, R, h => Rel.setAll (us := us) (R.set (h u List.mem_cons_self).2) fun v hv => h v (List.mem_cons_of_mem _ hv)
theorem outs_set (i : Nat) (v : Option V) (σ : L2.St) : Outs [i] σ (σ.set i v) := ⟨by simp, fun k hk => List.getElem?_set_ne (fun e => hk (by simp [e]))⟩
theorem Outs.all : ∀ {us : Us} {σ : L2.St}, (∀ u ∈ us, u.1 ∈ js) → Outs js σ (setAll σ us)
  | [], _, _ => ⟨rfl, fun _ _ => rfl⟩
  | u :: us, σ, h => by
    obtain ⟨h1, h2⟩ := Outs.all (us := us) (σ := σ.set u.1 (some u.2.1)) fun v hv => h v (List.mem_cons_of_mem _ hv)
    refine ⟨h1.trans (by simp), fun k hk => (h2 k hk).trans (List.getElem?_set_ne fun e => hk (by rw [← e]; exact h u List.mem_cons_self))⟩
end
structure JI (X : Cx) (ρ : Ro) (tg iter : Expr) (r : RA) : Prop where
  pi : PI X tg iter (tI X.prog X.w ρ r)
structure JG (X : Cx) (ρ : Ro) (tg : Expr) (b : PyData → En → Option En) (js : List Nat) : Prop where
  pg : PG X tg (tG X.prog X.w ρ b js)
theorem PI.imp {X : Cx} {tg e : Expr} {t t' : TI} (h : PI X tg e t) (k : ∀ σ H Q, t' σ H Q → t σ H Q) : PI X tg e t' := ⟨fun pins s σ H Q I q => h.run pins s σ H Q I (k σ H Q q)⟩
theorem PG.imp {X : Cx} {tg : Expr} {t t' : TG} (h : PG X tg t) (k : ∀ v σ H Q, t' v σ H Q → t v σ H Q) : PG X tg t' := ⟨fun pins s σ H v u Q I r q => h.run pins s σ H v u Q I r (k v σ H Q q)⟩
section
variable {X : Cx} {tg e l : Expr} {re : RE} {r : RA} {ρ : Ro} {pos p : Pos}
theorem JI.toT (h : JI X (roD X.prog X.w) tg e r) : JI X (roT X.prog X.w X.K) tg e r := by
  refine ⟨PI.imp h.pi ?_⟩
  rintro σ H Q ⟨F0, H0, F, env, ds, R, hr, k⟩
  exact ⟨F0, H0, F, env, ds, R, hr, fun J F' H' g W => k J F' H' g (W.mono (fun _ z => z) fun i H x H' hi s ⟨d, F2, h1, h2, h3⟩ => ⟨d, F2, h1, roT_of h3.fh h2, h3⟩)⟩

/-! ### targets -/
noncomputable def b1 (i : Nat) : PyData → En → Option En := fun d env => some (put env i (.fz d))
noncomputable def b2 (i j : Nat) : PyData → En → Option En := fun d env => bd (toTp d) fun ds => @List.rec PyData (fun _ => Option En) none (fun x r _ => @List.rec PyData (fun _ => Option En) none (fun y r' _ => @List.rec PyData (fun _ => Option En) (some (put (put env i (.fz x)) j (.fz y))) (fun _ _ _ => none) r') r) ds
theorem jg_name {i : Nat} {x : Str} (hN : X.N.Nodup) (hi : X.N[i]? = some x) (hx : Loc X.env.scope x) (hf : X.fn x = true ∨ X.env.scope.names.lookup x = some .local := by first | exact .inl rfl | exact .inr rfl | assumption) : JG X (roD X.prog X.w) (.Name x pos) (b1 i) [i] := by
  refine ⟨PG.imp (pg_name hN hi hx hf) ?_⟩
  rintro v σ H Q ⟨F0, H0, F, env, d, env', R, hd, hb, k⟩
  cases hb
  exact k [(i, v, d)] (fun u hu => by
    rw [List.mem_singleton.mp hu]
    exact ⟨List.mem_singleton.mpr rfl, hd⟩) (put_eq _ _ _)
theorem jg_2 {i j : Nat} {x y : Str} {p1 p2 : Pos} {kk : Nat} (hc : X.calm = true) (hN : X.N.Nodup) (hi : X.N[i]? = some x) (hx : Loc X.env.scope x) (hj : X.N[j]? = some y) (hy : Loc X.env.scope y)
    (hf : X.fn x = true ∨ X.env.scope.names.lookup x = some .local := by first | exact .inl rfl | exact .inr rfl | assumption) (hf2 : X.fn y = true ∨ X.env.scope.names.lookup y = some .local := by first | exact .inl rfl | exact .inr rfl | assumption) :
    JG X (roT X.prog X.w X.K) (.Tuple [.Name x p1, .Name y p2] kk pos) (b2 i j) [i, j] := by
  refine ⟨PG.imp (pg_tup (n := 2) hc (pgs_cons (pg_name hN hi hx hf) (pgs_cons (pg_name hN hj hy hf2) pgs_nil))) ?_⟩
  rintro v σ H Q ⟨F0, H0, F, env, d, env', R, hd, hb, k⟩
  obtain ⟨ds, h1, hb⟩ := bd_some hb
  have e1 := toTp_some h1
  subst e1
  obtain ⟨a, xs, rfl, hs, r⟩ := hd ds rfl
  cases r with
  | nil => cases hb
  | cons r1 r2 =>
    cases r2 with
    | nil => cases hb
    | cons r2 r3 =>
      cases r3 with
      | cons _ _ => cases hb
      | nil =>
        cases hb
        rename_i v1 d1 v2 d2
        exact ⟨a, _, rfl, hs, rfl, _, _, rfl, _, _, rfl, rfl, k [(i, v1, d1), (j, v2, d2)] (fun u hu => by
          rcases List.mem_cons.mp hu with rfl | hu
          · exact ⟨by simp, r1⟩
          · rw [List.mem_singleton.mp hu]
            exact ⟨by simp, r2⟩) (by rw [put_eq, put_eq]; rfl)⟩

/-! ### what is walked -/
theorem pi_seq {te : TE} (hl : PE X l te) : PI X tg l (fun σ H R => iList X.K te σ H R ∨ iTup X.K te σ H R) := ⟨fun pins s σ H R I h => h.elim (fun q => (pi_list hl).run pins s σ H R I q) fun q => (pi_tup hl).run pins s σ H R I q⟩
theorem walk_at {P : Program} {w : World} {J : It} {F : Hp} {xs : List V} {ds : List PyData} {G : Hp → Prop} (W : Walk J xs.length G (YAt xs)) (hG : ∀ H, Same F H → G H) (r : DnAll P w F xs ds) : WalkD (roD P w) F J ds := by
  unfold WalkD
  rw [← r.length]
  refine W.mono hG fun i H x H' hi s y => ?_
  obtain ⟨rfl, hx⟩ := y
  obtain ⟨d, hd, dn⟩ := r.at' hx
  exact ⟨d, F, hd, dn, Grow.refl s⟩
/-- over a list or a tuple -/
noncomputable def iSeq (re : RE) : RA := fun env => bd (re env) toSq
theorem ji_seq (he : JE X l re) : JI X (roD X.prog X.w) tg l (iSeq re) := by
  refine ⟨PI.imp (pi_seq he) ?_⟩
  rintro σ H Q ⟨F0, H0, F, env, ds, R, hr, k⟩
  obtain ⟨d, h1, h2⟩ := bd_some hr
  rcases toSq_some h2 with rfl | rfl
  · refine .inl ⟨F0, H0, F, env, _, R, h1, fun v F1 H1 g1 n1 => ?_⟩
    cases n1 with
    | lst ha ra => exact ⟨_, rfl, ⟨_, .inl (.inl (g1.fh _ _ ha))⟩, k _ F1 H1 g1 (walk_at walk_list (fun H s => .inl (.inl (s _ _ ha))) ra)⟩
  · refine .inr ⟨F0, H0, F, env, _, R, h1, fun v F1 H1 g1 n1 => ?_⟩
    cases n1 with
    | tup ha ra => exact ⟨_, rfl, ⟨_, tF_sq (g1.fh _ _ ha)⟩, k _ F1 H1 g1 (walk_at walk_tup (fun H s => tF_sq (s _ _ ha)) ra)⟩
/-- numbers from lo on, so many -/
noncomputable def rngF (n : Nat) : Int → List PyData := @Nat.rec (fun _ => Int → List PyData) (fun _ => []) (fun _ ih i => fZ i fun z => .int z :: ih (Int.add z 1)) n
theorem rngF_at : ∀ (n i : Nat) (lo : Int), i < n → (rngF n lo)[i]? = some (.int (lo + i))
  | 0, i, lo, h => absurd h (Nat.not_lt_zero i)
  | n + 1, i, lo, h => by
    have e : rngF (n + 1) lo = .int lo :: rngF n (lo + 1) := fZ_eq lo fun z => PyData.int z :: rngF n (Int.add z 1)
    rw [e]
    cases i with
    | zero => simp
    | succ i =>
      rw [List.getElem?_cons_succ, rngF_at n i (lo + 1) (by omega)]
      have : lo + 1 + (i : Int) = lo + ((i + 1 : Nat) : Int) := by omega
      rw [this]
theorem rngF_len : ∀ (n : Nat) (lo : Int), (rngF n lo).length = n
  | 0, _ => rfl
  | n + 1, lo => by
    have e : rngF (n + 1) lo = .int lo :: rngF n (lo + 1) := fZ_eq lo fun z => PyData.int z :: rngF n (Int.add z 1)
    rw [e, List.length_cons, rngF_len n]
theorem walk_rng {P : Program} {w : World} {F : Hp} {lo : Int} {n : Nat} : WalkD (roD P w) F (Itr lo n) (rngF n lo) := by
  unfold WalkD
  rw [rngF_len]
  refine walk_range.mono (fun _ _ => trivial) fun i H x H' hi s y => ?_
  obtain ⟨rfl, rfl⟩ := y
  exact ⟨_, F, rngF_at n i lo hi, .int _, Grow.refl s⟩
noncomputable def iRng1 (r : RE) : RA := fun env => bd (r env) fun d => bd (toI d) fun n => bIf (zLt n 100000) (bIf (zLt (-100000) n) (some (rngF n.toNat 0)) none) none
noncomputable def iRng2 (r r' : RE) : RA := fun env => bd (r env) fun d => bd (r' env) fun d' => bd (toI d) fun m => bd (toI d') fun n => bIf (zLt n 100000) (bIf (zLt (-100000) n) (bIf (zLt m 100000) (bIf (zLt (-100000) m) (some (rngF (Int.sub n m).toNat m)) none) none) none) none
theorem ji_rng1 {a : Expr} {ra : RE} (hg : Gl X "range") (hm : X.mg "range" = none) (ha : JE X a ra) (hs : starEach [a] X.env = [(false, eval a X.env)] := by rfl) : JI X (roD X.prog X.w) tg (.Call (.Name "range" p) [a] [] pos) (iRng1 ra) := by
  refine ⟨PI.imp (pi_range1 hg hm (pa_cons ha pa_nil hs) hs) ?_⟩
  rintro σ H Q ⟨F0, H0, F, env, ds, R, hr, k⟩
  obtain ⟨d, h1, h2⟩ := bd_some hr
  obtain ⟨n, h5, h3⟩ := bd_some h2
  obtain ⟨b1, h3⟩ := bIf_some h3
  obtain ⟨b2, h6⟩ := bIf_some h3
  cases h6
  rw [zLt_eq, decide_eq_true_eq] at b1 b2
  have e1 := toI_some h5
  subst e1
  refine ⟨F0, H0, F, env, _, R, h1, fun v F1 H1 g1 n1 => ?_⟩
  cases n1
  exact ⟨n, rfl, by omega, by omega, k _ F1 H1 g1 walk_rng⟩
theorem ji_rng2 {a b : Expr} {ra rb : RE} (hg : Gl X "range") (hm : X.mg "range" = none) (ha : JE X a ra) (hb : JE X b rb) (hs : starEach [a, b] X.env = [(false, eval a X.env), (false, eval b X.env)] := by rfl) (hs2 : starEach [b] X.env = [(false, eval b X.env)] := by rfl) :
    JI X (roD X.prog X.w) tg (.Call (.Name "range" p) [a, b] [] pos) (iRng2 ra rb) := by
  refine ⟨PI.imp (pi_range2 hg hm (pa_cons ha (pa_cons hb pa_nil hs2) (by rw [hs, hs2])) hs hs2) ?_⟩
  rintro σ H Q ⟨F0, H0, F, env, ds, R, hr, k⟩
  obtain ⟨d, h1, h2⟩ := bd_some hr
  obtain ⟨d', h1', h2⟩ := bd_some h2
  obtain ⟨m, h5, h3⟩ := bd_some h2
  obtain ⟨n, h6, h3⟩ := bd_some h3
  obtain ⟨b1, h3⟩ := bIf_some h3
  obtain ⟨b2, h3⟩ := bIf_some h3
  obtain ⟨b3, h3⟩ := bIf_some h3
  obtain ⟨b4, h7⟩ := bIf_some h3
  cases h7
  rw [zLt_eq, decide_eq_true_eq] at b1 b2 b3 b4
  have e1 := toI_some h5
  have e2 := toI_some h6
  subst e1; subst e2
  refine ⟨F0, H0, F, env, _, R, h1, fun v F1 H1 g1 n1 => ⟨F0, H0, F1, env, _, R.grow g1, h1', fun u F2 H2 g2 n2 => ?_⟩⟩
  cases n1; cases n2
  exact ⟨m, n, rfl, ⟨by omega, by omega, by omega, by omega⟩, k _ F2 H2 (g1.trans g2) walk_rng⟩

/-! ### for -/
noncomputable def loopS (f : PyData → En → Option Oc) (ds : List PyData) : En → Option Oc := @List.rec PyData (fun _ => En → Option Oc) (fun env => some (.nx env)) (fun d _ ih env => bd (f d env) fun o => @Oc.rec (fun _ => Option Oc) (fun e => ih e) (fun d => some (.rt d)) o) ds
noncomputable def sFor (ri : RA) (b : PyData → En → Option En) (s : RS) : RS := fun env => bd (ri env) fun ds => loopS (fun d env => bd (b d env) s) ds env
theorem loopS_cons {f : PyData → En → Option Oc} {d : PyData} {ds : List PyData} {env : En} {o : Oc} (h : loopS f (d :: ds) env = some o) : ∃ o1, f d env = some o1 ∧ match o1 with | .nx e => loopS f ds e = some o | .rt d => o = .rt d := by
  obtain ⟨o1, h1, h2⟩ := bd_some (show bd (f d env) _ = some o from h)
  refine ⟨o1, h1, ?_⟩
  cases o1 with
  | nx e => exact h2
  | rt d => cases h2; rfl
theorem js_for {iter : Expr} {body : List Stmt} {b : PyData → En → Option En} {js : List Nat} {s : RS} (hp : PassesOwn (model X.prog X.w) X.A X.env X.xe) (hc : X.calm = true) (mono : RoMono ρ) (hi : JI X ρ tg iter r) (hg : JG X ρ tg b js) (hb : JSs X body s)
    (hs : ∀ x, foldedSetIterable iter X.env x = pure x := by intro _; rfl) : JS X (.For tg iter body [] pos) (sFor r b s) := by
  refine PS.imp (ps_for hp hc hi.pi hg.pg hb hs) ?_
  rintro D σ H ⟨F0, H0, F, env, o, R, hr, k⟩
  obtain ⟨ds, h1, hl⟩ := bd_some hr
  refine ⟨F0, H0, F, env, ds, R, h1, fun J F1 H1 g1 W => ?_⟩
  refine for_it W (fun i σ H => ∃ F' env', Rel X.prog X.w F0 H0 F' H σ env' ∧ Same F1 F' ∧ loopS (fun d env => bd (b d env) s) (ds.drop i) env' = some o) ⟨F1, env, R.grow g1, .refl _, hl⟩ (fun i σ H hi ⟨F', env', R', s', _⟩ => s'.trans R'.fh) ?_ ?_
  · rintro i x σ2 H2 H3 hi ⟨F', env', R', s', hl'⟩ ⟨d, F2, hd, hx, g2⟩
    obtain ⟨F3, g3, s3⟩ := Grow.join R'.noT s' R'.fh g2
    have R3 := R'.grow g3
    have hdrop : ds.drop i = d :: ds.drop (i + 1) := by
      obtain ⟨h1, h2⟩ := List.getElem?_eq_some_iff.mp hd
      rw [List.drop_eq_getElem_cons h1, h2]
    rw [hdrop] at hl'
    obtain ⟨o1, ho, hrest⟩ := loopS_cons hl'
    obtain ⟨env2, hb2, hs2⟩ := bd_some ho
    refine ⟨F0, H0, F3, env', d, env2, R3, mono _ _ _ _ _ s3 hx, hb2, fun us hu e2 => ⟨F0, H0, F3, env2, o1, by rw [e2]; exact R3.setAll hu, hs2, ?_⟩⟩
    cases o1 with
    | nx e => exact fun σ4 F4 H4 R5 s4 => ⟨F4, e, R5, (s'.trans g3.ff).trans s4, hrest⟩
    | rt d' =>
      subst hrest
      exact k
  · rintro σ2 H2 ⟨F', env', R', s', hl'⟩
    rw [List.drop_length] at hl'
    have e : o = .nx env' := (Option.some.inj hl').symm
    subst e
    exact k σ2 F' H2 R' (g1.ff.trans s')
end
end K67
set_option Elab.async false
set_option linter.all false
set_option maxRecDepth 100000
set_option maxHeartbeats 2000000
namespace K67
open PySem PySem.Spec PyProof.Rows L2
variable [TabA]
section
variable {X : Cx} {pos : Pos} {a b c e : Expr} {ra rb : RE} {s t : RS}

/-! ### while -/
noncomputable def loopW (c : RT) (s : RS) (n : Nat) : En → Option Oc := @Nat.rec (fun _ => En → Option Oc) (fun _ => none) (fun _ ih env => bd (c env) fun x => bIf x (bd (s env) fun o => @Oc.rec (fun _ => Option Oc) (fun e => ih e) (fun d => some (.rt d)) o) (some (.nx env))) n
theorem js_while {body : List Stmt} {rt : RT} (n : Nat) (hp : PassesOwn (model X.prog X.w) X.A X.env X.xe) (hc : JT X c rt) (hb : JSs X body s) : JS X (.While c body [] pos) (loopW rt s n) := by
  refine PS.imp (ps_while hp hc hb) ?_
  rintro D σ H ⟨F0, H0, F, env, o, R, hr, k⟩
  refine ⟨fun m σ H => ∃ F' env', Rel X.prog X.w F0 H0 F' H σ env' ∧ Same F F' ∧ loopW rt s m env' = some o, ⟨n, F, env, R, .refl _, hr⟩, ?_⟩
  rintro m σ2 H2 ⟨F', env', R', s', hl⟩
  cases m with
  | zero => cases hl
  | succ m =>
    obtain ⟨d, h1, h2⟩ := bd_some (show bd (rt env') _ = some o from hl)
    refine ⟨F0, H0, F', env', d, R', h1, fun F1 H1 g1 => ?_⟩
    cases d with
    | true =>
      rw [if_pos rfl]
      obtain ⟨o1, h3, h4⟩ := bd_some (show bd (s env') _ = some o from h2)
      refine ⟨fun σ' H' => ∃ F' env', Rel X.prog X.w F0 H0 F' H' σ' env' ∧ Same F F' ∧ loopW rt s m env' = some o, fun σ' H' q => ⟨m, Nat.lt_succ_self m, q⟩, F0, H0, F1, env', o1, R'.grow g1, h3, ?_⟩
      cases o1 with
      | nx e => exact fun σ4 F4 H4 R5 s4 => ⟨F4, e, R5, (s'.trans g1.ff).trans s4, h4⟩
      | rt d =>
        cases h4
        exact k
    | false =>
      rw [if_neg Bool.false_ne_true]
      cases h2
      exact k σ2 F1 H1 (R'.grow g1) (s'.trans g1.ff)

/-! ### x += n; a, b = x, y -/
noncomputable def dAddI : PyData → PyData → Option PyData := iOp fun i j => oI (Int.add i j)
theorem js_aug {i : Nat} {x : Str} {pos' : Pos} (hN : X.N.Nodup) (hi : X.N[i]? = some x) (hx : Loc X.env.scope x) (he : JE X e ra) (hf : X.fn x = true ∨ X.env.scope.names.lookup x = some .local := by first | exact .inl rfl | exact .inr rfl | assumption) :
    JS X (.AugAssign (.Name x pos') .Add e pos) (sSet i (e2 dAddI (eVar i) ra)) := by
  refine PS.imp (ps_aug hN hi hx he ip_add hf) ?_
  rintro D σ H ⟨F0, H0, F, env, o, R, hr, k⟩
  obtain ⟨z, h1, h2⟩ := bd_some hr
  cases h2
  obtain ⟨d, h3, h4⟩ := bd_some h1
  obtain ⟨e, h5, h6⟩ := bd_some h4
  obtain ⟨m, n, rfl, rfl, h7⟩ := iOp_some h6
  rw [oI_eq] at h7
  cases h7
  obtain ⟨sv, h8, h9⟩ := bd_some (show bd (nth env i) _ = some _ from h3)
  rw [nth_eq] at h8
  cases sv <;> first | cases h9 | skip
  obtain ⟨p, so, hso, ok⟩ := R.get h8
  cases so with
  | none => exact ok.elim
  | some v =>
    refine ⟨v, hso, F0, H0, F, env, _, R, h5, fun u F1 H1 g1 n1 => ?_⟩
    have ok : Dn X.prog X.w F v (.int m) := ok
    cases ok
    cases n1
    have R1 := (R.grow g1).set (i := i) (v := .int (m + n)) (d := .int (Int.add m n)) (.int _)
    rw [← put_eq env i] at R1
    exact ⟨m, n, rfl, rfl, k _ F1 H1 R1 g1.ff⟩
noncomputable def sPar (i j : Nat) (ra rb : RE) : RS := fun env => bd (ra env) fun x => bd (rb env) fun y => some (.nx (put (put env i (.fz x)) j (.fz y)))
theorem js_par {i j : Nat} {x y : Str} {px py pt : Pos} {kt k2 pt2} (hc : X.calm = true) (hN : X.N.Nodup) (hi : X.N[i]? = some x) (hj : X.N[j]? = some y) (hij : i ≠ j)
    (hx : X.env.scope.names.lookup x = some .local) (hy : X.env.scope.names.lookup y = some .local) (ha : JE X a ra) (hb : JE X b rb)
    (hw : swappedStores [.Tuple [.Name x px, .Name y py] kt pt] (.Tuple [a, b] k2 pt2) X.env = pure (some [x, y]))
    (hs : swapsWithSole [.Tuple [.Name x px, .Name y py] kt pt] (.Tuple [a, b] k2 pt2) pos.line X.env = pure false := by rfl)
    (he : starEach [a, b] X.env = (false, eval a X.env) :: starEach [b] X.env := by rfl) (he2 : starEach [b] X.env = (false, eval b X.env) :: starEach [] X.env := by rfl) :
    JS X (.Assign [.Tuple [.Name x px, .Name y py] kt pt] (.Tuple [a, b] k2 pt2) pos) (sPar i j ra rb) := by
  refine PS.imp (ps_par hc hN hi hj hij hx hy (pa_cons ha (pa_cons hb pa_nil he2) he) hw hs) ?_
  rintro D σ H ⟨F0, H0, F, env, o, R, hr, k⟩
  obtain ⟨d, h1, h2⟩ := bd_some hr
  obtain ⟨e, h3, h4⟩ := bd_some h2
  cases h4
  refine ⟨F0, H0, F, env, d, R, h1, fun v F1 H1 g1 n1 => ⟨F0, H0, F1, env, e, R.grow g1, h3, fun u F2 H2 g2 n2 => ⟨v, u, rfl, ?_⟩⟩⟩
  have R1 := (((R.grow g1).grow g2).set (i := i) (n1.mono g2.ff)).set (i := j) n2
  exact k _ F2 H2 (by rw [put_eq, put_eq]; exact R1) (g1.ff.trans g2.ff)
noncomputable def sPar3 (i j l : Nat) (ra rb rc : RE) : RS := fun env => bd (ra env) fun x => bd (rb env) fun y => bd (rc env) fun z => some (.nx (put (put (put env i (.fz x)) j (.fz y)) l (.fz z)))
theorem js_par3 {i j l : Nat} {x y z : Str} {rc : RE} {px py pz pt : Pos} {kt k2 pt2} (hc : X.calm = true) (hN : X.N.Nodup) (hi : X.N[i]? = some x) (hj : X.N[j]? = some y) (hl : X.N[l]? = some z) (hij : i ≠ j) (hil : i ≠ l) (hjl : j ≠ l)
    (hx : X.env.scope.names.lookup x = some .local) (hy : X.env.scope.names.lookup y = some .local) (hz : X.env.scope.names.lookup z = some .local) (ha : JE X a ra) (hb : JE X b rb) (hcc : JE X c rc)
    (hw : swappedStores [.Tuple [.Name x px, .Name y py, .Name z pz] kt pt] (.Tuple [a, b, c] k2 pt2) X.env = pure (some [x, y, z]))
    (hs : swapsWithSole [.Tuple [.Name x px, .Name y py, .Name z pz] kt pt] (.Tuple [a, b, c] k2 pt2) pos.line X.env = pure false := by rfl)
    (he : starEach [a, b, c] X.env = (false, eval a X.env) :: starEach [b, c] X.env := by rfl) (he2 : starEach [b, c] X.env = (false, eval b X.env) :: starEach [c] X.env := by rfl) (he3 : starEach [c] X.env = (false, eval c X.env) :: starEach [] X.env := by rfl) :
    JS X (.Assign [.Tuple [.Name x px, .Name y py, .Name z pz] kt pt] (.Tuple [a, b, c] k2 pt2) pos) (sPar3 i j l ra rb rc) := by
  refine PS.imp (ps_par3 hc hN hi hj hl hij hil hjl hx hy hz (pa_cons ha (pa_cons hb (pa_cons hcc pa_nil he3) he2) he) hw hs) ?_
  rintro D σ H ⟨F0, H0, F, env, o, R, hr, k⟩
  obtain ⟨d, h1, h2⟩ := bd_some hr
  obtain ⟨e, h3, h4⟩ := bd_some h2
  obtain ⟨f, h5, h6⟩ := bd_some h4
  cases h6
  refine ⟨F0, H0, F, env, d, R, h1, fun v F1 H1 g1 n1 => ⟨F0, H0, F1, env, e, R.grow g1, h3, fun u F2 H2 g2 n2 => ⟨F0, H0, F2, env, f, (R.grow g1).grow g2, h5, fun u3 F3 H3 g3 n3 => ⟨v, u, u3, rfl, ?_⟩⟩⟩⟩
  have R1 := (((((R.grow g1).grow g2).grow g3).set (i := i) ((n1.mono g2.ff).mono g3.ff)).set (i := j) (n2.mono g3.ff)).set (i := l) n3
  exact k _ F3 H3 (by rw [put_eq, put_eq, put_eq]; exact R1) ((g1.ff.trans g2.ff).trans g3.ff)
end

/-! ### comprehensions -/
noncomputable def wipeE (env : En) (vs : List Nat) : En := @List.rec Nat (fun _ => En) env (fun v _ ih => put ih v .no) vs
section
variable {P : Program} {w : World} {F F' H H' F0 H0 : Hp} {σ : L2.St} {env : En}
theorem Rel.no (R : Rel P w F0 H0 F H σ env) {i : Nat} : Rel P w F0 H0 F H (σ.set i none) (env.set i .no) := by
  obtain ⟨p, h1, h2⟩ := R.sl
  refine ⟨R.g, by simp [R.len], ⟨p, fun j so sv a b => ?_, fun j k a b ha hb oa ob e => ?_⟩, R.n0, R.t0⟩
  · by_cases q : i = j
    · subst q
      have hi : i < σ.length := by
        have := (List.getElem?_eq_some_iff.mp a).1
        simpa using this
      rw [List.getElem?_set_self hi] at a
      rw [List.getElem?_set_self (by rw [← R.len]; exact hi)] at b
      cases a; cases b
      trivial
    · rw [List.getElem?_set_ne q] at a b
      exact h1 j so sv a b
  · by_cases q : i = j
    · subst q
      have hi : i < env.length := by
        have := (List.getElem?_eq_some_iff.mp ha).1
        simpa using this
      rw [List.getElem?_set_self hi] at ha
      cases ha
      exact oa.elim
    · by_cases q' : i = k
      · subst q'
        have hi : i < env.length := by
          have := (List.getElem?_eq_some_iff.mp hb).1
          simpa using this
        rw [List.getElem?_set_self hi] at hb
        cases hb
        exact ob.elim
      · rw [List.getElem?_set_ne q] at ha
        rw [List.getElem?_set_ne q'] at hb
        exact h2 j k a b ha hb oa ob e
theorem Rel.wipe (R : Rel P w F0 H0 F H σ env) : ∀ vs : List Nat, Rel P w F0 H0 F H (wipe σ vs) (wipeE env vs)
  | [] => R
  | v :: vs => by
    show Rel P w F0 H0 F H ((L2.wipe σ vs).set v none) (K67.put (wipeE env vs) v SV.no)
    rw [put_eq]
    exact (Rel.wipe R vs).no
theorem wipe_in {σ : L2.St} {k : Nat} : ∀ {vs : List Nat}, k ∈ vs → k < σ.length → (wipe σ vs)[k]? = some none
  | v :: vs, h, hk => by
    show ((L2.wipe σ vs).set v none)[k]? = some none
    by_cases e : v = k
    · subst e
      rw [List.getElem?_set_self (by rw [wipe_length]; exact hk)]
    · rw [List.getElem?_set_ne e]
      exact wipe_in ((List.mem_cons.mp h).resolve_left (Ne.symm e)) hk
theorem wipe_outs {σ σ' : L2.St} {js vs : List Nat} (h : ∀ j ∈ js, j ∈ vs) (o : Outs js (wipe σ vs) σ') : wipe σ' vs = wipe σ vs := by
  have hl : σ'.length = σ.length := o.1.trans (wipe_length σ vs)
  refine List.ext_getElem? fun k => ?_
  by_cases hk : k ∈ vs
  · by_cases hlt : k < σ.length
    · rw [wipe_in hk hlt, wipe_in hk (by rw [hl]; exact hlt)]
    · rw [List.getElem?_eq_none (by rw [wipe_length, hl]; omega), List.getElem?_eq_none (by rw [wipe_length]; omega)]
  · rw [wipe_out hk]
    exact o.2 k fun z => hk (h k z)
end
theorem walk_it {J : It} {n : Nat} {G : Hp → Prop} {Y : Nat → Hp → V → Hp → Prop} (w : Walk J n G Y) {T : V → Hp → (Hp → Prop) → Prop} {Hs : Hp} {Qd : Hp → Prop} (Pv : Nat → Hp → Prop) (h0 : Pv 0 Hs) (hG : ∀ i H, i ≤ n → Pv i H → G H)
    (hs : ∀ i x H H', i < n → Pv i H → Y i H x H' → T x H' (Pv (i + 1))) (hd : ∀ H, Pv n H → Qd H) :
    ∃ W : Nat → Nat → Hp → Prop, (∃ m, W 0 m Hs) ∧ ∀ i m H, W i m H → (J.stop i H ∧ Qd H) ∨ (J.go i H ∧ ∃ Nx : Hp → Prop, (∀ H', Nx H' → ∃ m', m' < m ∧ W (i + 1) m' H') ∧ ∀ x H', J.yld i H x H' → T x H' Nx) := by
  refine ⟨fun i m H => m = n - i ∧ i ≤ n ∧ Pv i H, ⟨n, by simp, Nat.zero_le _, h0⟩, ?_⟩
  rintro i m H ⟨rfl, hi, p⟩
  have q := hG i H hi p
  by_cases hlt : i < n
  · exact .inr ⟨w.goes i H hlt q, Pv (i + 1), fun H' p' => ⟨n - (i + 1), by omega, rfl, hlt, p'⟩, fun x H' y => hs i x H H' hlt p (w.yields i H x H' hlt q y)⟩
  · have e : i = n := by omega
    subst e
    exact .inl ⟨w.stops H q, hd H p⟩
/-- the list that grows at D -/
structure Acc (P : Program) (w : World) (F1 H1 : Hp) (D : Addr) (ys : List PyData) (F H : Hp) : Prop where
  g : Grow F1 H1 F H
  no : F D = none
  at_ : ∃ acc, H D = some (.lst acc) ∧ DnAll P w F acc ys
section
variable {P : Program} {w : World} {F F' F1 H1 H H' : Hp} {D : Addr} {ys : List PyData}
theorem Acc.start (s : Same F1 H1) (n : H1 D = none) : Acc P w F1 H1 D [] F1 (upd H1 D (.lst [])) := ⟨Grow.more s n, s.free n, [], upd_same, .nil⟩
theorem Acc.grow (A : Acc P w F1 H1 D ys F H) (g : Grow F H F' H') : Acc P w F1 H1 D ys F' H' := by
  obtain ⟨acc, h, r⟩ := A.at_
  refine ⟨A.g.trans g, ?_, acc, g.hh.get _ _ h, r.mono g.ff⟩
  cases q : F' D with
  | none => rfl
  | some o =>
    rcases g.fr D o q with z | z
    · rw [A.no] at z; cases z
    · rw [h] at z; cases z
theorem Acc.put (A : Acc P w F1 H1 D ys F H) (n : H1 D = none) {v : V} {d : PyData} (h : Dn P w F v d) (hz : ys.length < 100000) : ∃ acc, H D = some (.lst acc) ∧ acc.length < sizeLine ∧ Acc P w F1 H1 D (ys ++ [d]) F (upd H D (.lst (acc ++ [v]))) := by
  obtain ⟨acc, hD, r⟩ := A.at_
  refine ⟨acc, hD, by rw [r.length, sizeLine_eq]; omega, A.g.wr A.no n, A.no, _, upd_same, r.app (.cons h .nil)⟩
theorem Acc.done (A : Acc P w F1 H1 D ys F H) (n : H1 D = none) : ∃ F', Grow F1 H1 F' H ∧ Dn P w F' (.ref D) (.list ys) := by
  obtain ⟨acc, hD, r⟩ := A.at_
  have m : Same F (upd F D (.lst acc)) := fun a o e => by rw [upd_ne (ne_of_none e A.no)]; exact e
  exact ⟨upd F D (.lst acc), A.g.frz A.no n hD, .lst upd_same (r.mono m)⟩
end
noncomputable def rYes : RT := fun _ => some true
/-- the items kept -/
noncomputable def loopC (f : PyData → Option (Option PyData)) (ds : List PyData) : Option (List PyData) := @List.rec PyData (fun _ => Option (List PyData)) (some []) (fun d _ ih => bd (f d) fun o => bd ih fun ys => some (@Option.rec PyData (fun _ => List PyData) ys (fun y => y :: ys) o)) ds
theorem loopC_cons {f : PyData → Option (Option PyData)} {d : PyData} {ds ys : List PyData} (h : loopC f (d :: ds) = some ys) : ∃ o zs, f d = some o ∧ loopC f ds = some zs ∧ ys = o.toList ++ zs := by
  obtain ⟨o, h1, h2⟩ := bd_some (show bd (f d) _ = some ys from h)
  obtain ⟨zs, h3, h4⟩ := bd_some h2
  cases h4
  exact ⟨o, zs, h1, h3, by cases o <;> rfl⟩
noncomputable def cStep (b : PyData → En → Option En) (rt : RT) (re : RE) (env0 : En) (d : PyData) : Option (Option PyData) := bd (b d env0) fun e1 => bd (rt e1) fun c => bIf c (bd (re e1) fun y => some (some y)) (some none)
noncomputable def short (ys : List PyData) : Option PyData := bIf (Nat.ble (len ys) 100000) (some (.list ys)) none
noncomputable def eLc (r : RA) (b : PyData → En → Option En) (rt : RT) (re : RE) (vs : List Nat) : RE := fun env => bd (r env) fun ds => bd (loopC (cStep b rt re (wipeE env vs)) ds) short
section
variable {X : Cx} {tg iter elt : Expr} {r : RA} {ρ : Ro} {pos : Pos} {b : PyData → En → Option En} {rt : RT} {re : RE} {js vs : List Nat}
theorem lc_step {F0 H0 F1 H1 Fb : Hp} {D : Addr} (mono : RoMono ρ) (hjs : ∀ j ∈ js, j ∈ vs) {σ : L2.St} {env0 : En} {ys zs : List PyData} {d : PyData} {o : Option PyData} {F' F2 H2 H3 : Hp} {x : V} {N : Hp → Prop}
    (R : Rel X.prog X.w F0 H0 F' H2 (wipe σ vs) env0) (n : H1 D = none) (A : Acc X.prog X.w F1 H1 D ys F' H2) (sb : Same Fb F') (hx : ρ F2 H3 x d) (g2 : Grow Fb H2 F2 H3) (ho : cStep b rt re env0 d = some o) (hl : (ys ++ (o.toList ++ zs)).length ≤ 100000)
    (hN : ∀ F'' H', Same F' F'' → Acc X.prog X.w F1 H1 D (ys ++ o.toList) F'' H' → N H') :
    tG X.prog X.w ρ b js x (wipe σ vs) H3 fun σ2 H4 => wipe σ2 vs = wipe σ vs ∧ tT X.prog X.w rt σ2 H4 fun c H5 => if c = true then tE X.prog X.w re σ2 H5 fun y H6 => ∃ acc, H6 D = some (.lst acc) ∧ acc.length < sizeLine ∧ N (upd H6 D (.lst (acc ++ [y]))) else N H5 := by
  obtain ⟨F3, g3, s3⟩ := Grow.join R.noT sb A.g.fh g2
  have R3 := R.grow g3
  have A3 := A.grow g3
  obtain ⟨env1, hb, h1⟩ := bd_some ho
  obtain ⟨c, hc, h2⟩ := bd_some h1
  refine ⟨F0, H0, F3, env0, d, env1, R3, mono _ _ _ _ _ s3 hx, hb, fun us hu e2 => ⟨wipe_outs hjs (Outs.all fun u h => (hu u h).1), F0, H0, F3, env1, c, by rw [e2]; exact R3.setAll hu, hc, fun F4 H4 g4 => ?_⟩⟩
  have R4 : Rel X.prog X.w F0 H0 F3 H3 (setAll (wipe σ vs) us) env1 := by rw [e2]; exact R3.setAll hu
  cases c with
  | true =>
    refine iteT ?_
    obtain ⟨y, hy, h3⟩ := bd_some (show bd (re env1) _ = some o from h2)
    cases h3
    refine ⟨F0, H0, F4, env1, y, R4.grow g4, hy, fun v F5 H5 g5 n5 => ?_⟩
    obtain ⟨acc, e1, e2, A6⟩ := ((A3.grow g4).grow g5).put n n5 (by simp only [List.length_append, Option.toList, List.length_cons, List.length_nil] at hl; omega)
    exact ⟨acc, e1, e2, hN _ _ ((g3.ff.trans g4.ff).trans g5.ff) A6⟩
  | false =>
    refine iteF ?_
    cases h2
    have z := A3.grow g4
    exact hN F4 H4 (g3.ff.trans g4.ff) (by simpa using z)
theorem lcE (mono : RoMono ρ) (hjs : ∀ j ∈ js, j ∈ vs) : ∀ σ H Q, tE X.prog X.w (eLc r b rt re vs) σ H Q → tLc (tI X.prog X.w ρ r) (tG X.prog X.w ρ b js) (tT X.prog X.w rt) (tE X.prog X.w re) vs σ H Q := by
  rintro σ H Q ⟨F0, H0, F, env, z, R, hr, k⟩
  obtain ⟨ds, h1, h2⟩ := bd_some hr
  obtain ⟨total, h3, h4⟩ := bd_some h2
  obtain ⟨hz, h5⟩ := bIf_some h4
  cases h5
  have hz := ble_le hz
  rw [len_eq] at hz
  refine ⟨F0, H0, F, env, ds, R, h1, fun J F1 H1 g1 W D n => ?_⟩
  have R1 := (R.grow g1).wipe vs
  refine walk_it W (fun i H => ∃ F' ys zs, Acc X.prog X.w F1 H1 D ys F' H ∧ loopC (cStep b rt re (wipeE env vs)) (ds.drop i) = some zs ∧ total = ys ++ zs) ⟨F1, [], total, Acc.start g1.fh n, h3, rfl⟩ (fun i H hi ⟨F', ys, zs, A, _⟩ => A.g.ff.trans A.g.fh) ?_ ?_
  · rintro i x H2 H3 hi ⟨F', ys, zs, A, hl, e⟩ ⟨d, F2, hd, hx, g2⟩
    have hdrop : ds.drop i = d :: ds.drop (i + 1) := by
      obtain ⟨h1, h2⟩ := List.getElem?_eq_some_iff.mp hd
      rw [List.drop_eq_getElem_cons h1, h2]
    rw [hdrop] at hl
    obtain ⟨o, zs', ho, hl', ez⟩ := loopC_cons hl
    subst ez
    refine lc_step (ρ := ρ) mono hjs (R1.grow A.g) n A A.g.ff hx g2 ho (by rw [← e]; exact hz) fun F'' H'' _ A'' => ⟨F'', _, zs', A'', hl', by rw [e, List.append_assoc]⟩
  · rintro H2 ⟨F', ys, zs, A, hl, e⟩
    rw [List.drop_length] at hl
    cases hl
    rw [List.append_nil] at e
    subst e
    obtain ⟨F'', g, dn⟩ := A.done n
    exact k _ F'' H2 (g1.trans g) dn
structure JTs (X : Cx) (ifs : List Expr) (r : RT) : Prop where
  pt : PTs X ifs (tT X.prog X.w r)
theorem PTs.imp {X : Cx} {e : List Expr} {t t' : TT} (h : PTs X e t) (k : ∀ σ H Q, t' σ H Q → t σ H Q) : PTs X e t' := ⟨fun pins s σ H Q I q => h.run pins s σ H Q I (k σ H Q q)⟩
theorem jts_nil : JTs X [] rYes := by
  refine ⟨PTs.imp pts_nil ?_⟩
  rintro σ H Q ⟨F0, H0, F, env, z, R, hr, k⟩
  cases hr
  exact k F H (Grow.refl R.fh)
theorem jts_one {c : Expr} (h : JT X c rt) : JTs X [c] rt := ⟨pts_one h⟩
theorem je_lc {ifs : List Expr} {scope : Scope} {own : List (Str × Nat)} (hc : X.calm = true) (hN : X.N.Nodup) (mono : RoMono ρ) (hi : JI X ρ tg iter r) (ok : BlkOk X.N X.env.scope scope own)
    (hg : ∀ (s : Shared) (H : Hp) (C : Addr) (cl : List (Str × Addr)) (fp : List Addr), JG (X.blk s H scope (compEnvC scope cl C X.env) fp) ρ tg b js) (ht : ∀ (s : Shared) (H : Hp) (C : Addr) (cl : List (Str × Addr)) (fp : List Addr), JTs (X.blk s H scope (compEnvC scope cl C X.env) fp) ifs rt)
    (he : ∀ (s : Shared) (H : Hp) (C : Addr) (cl : List (Str × Addr)) (fp : List Addr), JE (X.blk s H scope (compEnvC scope cl C X.env) fp) elt re) (hjs : ∀ j ∈ js, j ∈ own.map (·.2)) (hs : ∀ x, foldedSetIterable iter X.env x = pure x := by intro _; rfl) :
    JE X (.ListComp elt [⟨tg, iter, ifs, 0⟩] scope pos) (eLc r b rt re (own.map (·.2))) :=
  PE.imp (pe_lc hc hN hi.pi ok (fun s H C cl fp => (hg s H C cl fp).pg) (fun s H C cl fp => (ht s H C cl fp).pt) he hs) (lcE mono hjs)
theorem js_setLc {i : Nat} {y : Str} {py spos : Pos} {ifs : List Expr} {scope : Scope} {own : List (Str × Nat)} (hc : X.calm = true) (hN : X.N.Nodup) (hy : X.N[i]? = some y) (hyl : X.env.scope.names.lookup y = some .local)
    (hsw : swapsWith (.ListComp elt [⟨tg, iter, ifs, 0⟩] scope pos) (some (.Name y py)) spos.line X.env = pure true) (mono : RoMono ρ) (hi : JI X ρ tg iter r) (ok : BlkOk X.N X.env.scope scope own)
    (hg : ∀ (s : Shared) (H : Hp) (C : Addr) (cl : List (Str × Addr)) (fp : List Addr), JG (X.blk s H scope (compEnvC scope cl C X.env) fp) ρ tg b js) (ht : ∀ (s : Shared) (H : Hp) (C : Addr) (cl : List (Str × Addr)) (fp : List Addr), JTs (X.blk s H scope (compEnvC scope cl C X.env) fp) ifs rt)
    (he : ∀ (s : Shared) (H : Hp) (C : Addr) (cl : List (Str × Addr)) (fp : List Addr), JE (X.blk s H scope (compEnvC scope cl C X.env) fp) elt re) (hjs : ∀ j ∈ js, j ∈ own.map (·.2)) (hs : ∀ x, foldedSetIterable iter X.env x = pure x := by intro _; rfl) :
    JS X (.Assign [.Name y py] (.ListComp elt [⟨tg, iter, ifs, 0⟩] scope pos) spos) (sSet i (eLc r b rt re (own.map (·.2)))) := by
  refine PS.imp (ps_setLc (g := tG X.prog X.w ρ b js) (tt := tT X.prog X.w rt) (te := tE X.prog X.w re) hc hN hy hyl hsw hi.pi ok (fun s H C cl fp => (hg s H C cl fp).pg) (fun s H C cl fp => (ht s H C cl fp).pt) he hs) ?_
  rintro D σ H ⟨F0, H0, F, env, o, R, hr, k⟩
  obtain ⟨d, h1, hz⟩ := bd_some hr
  cases hz
  refine lcE (ρ := ρ) mono hjs σ H (fun x H1 => gName i x σ H1 D.nx) ⟨F0, H0, F, env, d, R, h1, fun v F1 H1 g1 n1 => ?_⟩
  have R1 := (R.grow g1).set (i := i) n1
  rw [← put_eq env i] at R1
  exact k _ F1 H1 R1 g1.ff

/-! ### two clauses -/
noncomputable def loopCat (f : PyData → Option (List PyData)) (ds : List PyData) : Option (List PyData) := @List.rec PyData (fun _ => Option (List PyData)) (some []) (fun d _ ih => bd (f d) fun xs => bd ih fun ys => some (app xs ys)) ds
theorem loopCat_cons {f : PyData → Option (List PyData)} {d : PyData} {ds ys : List PyData} (h : loopCat f (d :: ds) = some ys) : ∃ xs zs, f d = some xs ∧ loopCat f ds = some zs ∧ ys = xs ++ zs := by
  obtain ⟨o, h1, h2⟩ := bd_some (show bd (f d) _ = some ys from h)
  obtain ⟨zs, h3, h4⟩ := bd_some h2
  cases h4
  exact ⟨o, zs, h1, h3, app_eq _ _⟩
noncomputable def cStep2 (b : PyData → En → Option En) (r1 : RA) (bb : PyData → En → Option En) (re : RE) (vs1 : List Nat) (env0 : En) (d : PyData) : Option (List PyData) := bd (b d env0) fun e1 => bd (r1 e1) fun ds => loopC (cStep bb rYes re (wipeE e1 vs1)) ds
noncomputable def eLc2 (r : RA) (b : PyData → En → Option En) (r1 : RA) (bb : PyData → En → Option En) (re : RE) (vs vs1 : List Nat) : RE := fun env => bd (r env) fun ds => bd (loopCat (cStep2 b r1 bb re vs1 (wipeE env vs)) ds) short
variable {r1 : RA} {ρ1 : Ro} {bb : PyData → En → Option En} {js1 vs1 : List Nat} {tg1 iter1 : Expr}
theorem lcE2 (mono : RoMono ρ) (mono1 : RoMono ρ1) (hjs : ∀ j ∈ js, j ∈ vs) (hjs1 : ∀ j ∈ js1, j ∈ vs1) : ∀ σ H Q, tE X.prog X.w (eLc2 r b r1 bb re vs vs1) σ H Q →
    tLc2 (tI X.prog X.w ρ r) (tG X.prog X.w ρ b js) (tT X.prog X.w rYes) (tI X.prog X.w ρ1 r1) (tG X.prog X.w ρ1 bb js1) (tT X.prog X.w rYes) (tE X.prog X.w re) vs vs1 σ H Q := by
  rintro σ H Q ⟨F0, H0, F, env, z, R, hr, k⟩
  obtain ⟨ds, h1, h2⟩ := bd_some hr
  obtain ⟨total, h3, h4⟩ := bd_some h2
  obtain ⟨hz, h5⟩ := bIf_some h4
  cases h5
  have hz := ble_le hz
  rw [len_eq] at hz
  refine ⟨F0, H0, F, env, ds, R, h1, fun J F1 H1 g1 W D n => ?_⟩
  have R1 := (R.grow g1).wipe vs
  refine walk_it W (fun i H => ∃ F' ys zs, Acc X.prog X.w F1 H1 D ys F' H ∧ loopCat (cStep2 b r1 bb re vs1 (wipeE env vs)) (ds.drop i) = some zs ∧ total = ys ++ zs) ⟨F1, [], total, Acc.start g1.fh n, h3, rfl⟩ (fun i H hi ⟨F', ys, zs, A, _⟩ => A.g.ff.trans A.g.fh) ?_ ?_
  · rintro i x H2 H3 hi ⟨F', ys, zs, A, hl, e⟩ ⟨d, F2, hd, hx, g2⟩
    have hdrop : ds.drop i = d :: ds.drop (i + 1) := by
      obtain ⟨h1, h2⟩ := List.getElem?_eq_some_iff.mp hd
      rw [List.drop_eq_getElem_cons h1, h2]
    rw [hdrop] at hl
    obtain ⟨xs, zs', ho, hl', ez⟩ := loopCat_cons hl
    subst ez
    obtain ⟨env1, hb, h6⟩ := bd_some ho
    obtain ⟨ds1, hr1, h7⟩ := bd_some h6
    obtain ⟨F3, g3, s3⟩ := Grow.join (R1.grow A.g).noT A.g.ff A.g.fh g2
    have R3 := (R1.grow A.g).grow g3
    have A3 := A.grow g3
    refine ⟨F0, H0, F3, wipeE env vs, d, env1, R3, mono _ _ _ _ _ s3 hx, hb, fun us hu e2 => ⟨wipe_outs hjs (Outs.all fun u h => (hu u h).1), F0, H0, F3, env1, true, by rw [e2]; exact R3.setAll hu, rfl, fun F4 H4 g4 => ?_⟩⟩
    refine iteT ?_
    have R4 : Rel X.prog X.w F0 H0 F3 H3 (setAll (wipe σ vs) us) env1 := by rw [e2]; exact R3.setAll hu
    refine ⟨F0, H0, F4, env1, ds1, R4.grow g4, hr1, fun J1 F5 H5 g5 W1 => ?_⟩
    have A5 := (A3.grow g4).grow g5
    have us5 := hu.mono (g4.ff.trans g5.ff)
    refine walk_it W1 (fun j H => ∃ F' ys1 zs1, Acc X.prog X.w F1 H1 D (ys ++ ys1) F' H ∧ Same F5 F' ∧ loopC (cStep bb rYes re (wipeE env1 vs1)) (ds1.drop j) = some zs1 ∧ xs = ys1 ++ zs1) ⟨F5, [], xs, by simpa using A5, .refl _, h7, rfl⟩ (fun j H hj ⟨F', ys1, zs1, A, s, _⟩ => s.trans A.g.fh) ?_ ?_
    · rintro j x1 H6 H7 hj ⟨F', ys1, zs1, A6, s6, hl1, e1⟩ ⟨d1, F7, hd1, hx1, g7⟩
      have hdrop1 : ds1.drop j = d1 :: ds1.drop (j + 1) := by
        obtain ⟨h1, h2⟩ := List.getElem?_eq_some_iff.mp hd1
        rw [List.drop_eq_getElem_cons h1, h2]
      rw [hdrop1] at hl1
      obtain ⟨o, zs1', ho1, hl1', ez1⟩ := loopC_cons hl1
      subst ez1
      have R6 : Rel X.prog X.w F0 H0 F' H6 (wipe (setAll (wipe σ vs) us) vs1) (wipeE env1 vs1) := by
        rw [e2]
        exact ((R1.grow A6.g).setAll (us5.mono s6)).wipe vs1
      refine lc_step (ρ := ρ1) mono1 hjs1 R6 n A6 s6 hx1 g7 ho1 (zs := zs1' ++ zs') (by
        have e3 := congrArg List.length e
        rw [e1] at e3
        simp only [List.length_append] at e3 ⊢
        omega) fun F'' H'' s'' A'' => ⟨F'', ys1 ++ o.toList, zs1', by rw [← List.append_assoc]; exact A'', s6.trans s'', hl1', by rw [e1, List.append_assoc]⟩
    · rintro H6 ⟨F', ys1, zs1, A6, s6, hl1, e1⟩
      rw [List.drop_length] at hl1
      cases hl1
      rw [List.append_nil] at e1
      subst e1
      exact ⟨F', _, zs', A6, hl', by rw [e, List.append_assoc]⟩
  · rintro H2 ⟨F', ys, zs, A, hl, e⟩
    rw [List.drop_length] at hl
    cases hl
    rw [List.append_nil] at e
    subst e
    obtain ⟨F'', g, dn⟩ := A.done n
    exact k _ F'' H2 (g1.trans g) dn
theorem je_lc2 {scope : Scope} {own : List (Str × Nat)} (hc : X.calm = true) (hN : X.N.Nodup) (mono : RoMono ρ) (mono1 : RoMono ρ1) (hi : JI X ρ tg iter r) (ok : BlkOk X.N X.env.scope scope own) (hv : ∀ i ∈ vs1, i ∈ own.map (·.2))
    (hg : ∀ (s : Shared) (H : Hp) (C : Addr) (cl : List (Str × Addr)) (fp : List Addr), JG (X.blk s H scope (compEnvC scope cl C X.env) fp) ρ tg b js)
    (hi1 : ∀ (s : Shared) (H : Hp) (C : Addr) (cl : List (Str × Addr)) (fp : List Addr), JI (X.blk s H scope (compEnvC scope cl C X.env) fp) ρ1 tg1 iter1 r1)
    (hg1 : ∀ (s : Shared) (H : Hp) (C : Addr) (cl : List (Str × Addr)) (fp : List Addr), JG (X.blk s H scope (compEnvC scope cl C X.env) fp) ρ1 tg1 bb js1)
    (he : ∀ (s : Shared) (H : Hp) (C : Addr) (cl : List (Str × Addr)) (fp : List Addr), JE (X.blk s H scope (compEnvC scope cl C X.env) fp) elt re) (hjs : ∀ j ∈ js, j ∈ own.map (·.2)) (hjs1 : ∀ j ∈ js1, j ∈ vs1) (hs : ∀ x, foldedSetIterable iter X.env x = pure x := by intro _; rfl) (hs1 : ∀ env x, foldedSetIterable iter1 env x = pure x := by intro _ _; rfl) :
    JE X (.ListComp elt [⟨tg, iter, [], 0⟩, ⟨tg1, iter1, [], 0⟩] scope pos) (eLc2 r b r1 bb re (own.map (·.2)) vs1) :=
  PE.imp (pe_lc2 hc hN hi.pi ok hv (fun s H C cl fp => (hg s H C cl fp).pg) (fun s H C cl fp => (jts_nil (X := X.blk s H scope (compEnvC scope cl C X.env) fp)).pt) (fun s H C cl fp => (hi1 s H C cl fp).pi) (fun s H C cl fp => (hg1 s H C cl fp).pg) (fun s H C cl fp => (jts_nil (X := X.blk s H scope (compEnvC scope cl C X.env) fp)).pt) he hs hs1) (lcE2 mono mono1 hjs hjs1)
theorem js_setLc2 {i : Nat} {y : Str} {py spos : Pos} {scope : Scope} {own : List (Str × Nat)} (hc : X.calm = true) (hN : X.N.Nodup) (hy : X.N[i]? = some y) (hyl : X.env.scope.names.lookup y = some .local)
    (hsw : swapsWith (.ListComp elt [⟨tg, iter, [], 0⟩, ⟨tg1, iter1, [], 0⟩] scope pos) (some (.Name y py)) spos.line X.env = pure true) (mono : RoMono ρ) (mono1 : RoMono ρ1) (hi : JI X ρ tg iter r) (ok : BlkOk X.N X.env.scope scope own) (hv : ∀ i ∈ vs1, i ∈ own.map (·.2))
    (hg : ∀ (s : Shared) (H : Hp) (C : Addr) (cl : List (Str × Addr)) (fp : List Addr), JG (X.blk s H scope (compEnvC scope cl C X.env) fp) ρ tg b js)
    (hi1 : ∀ (s : Shared) (H : Hp) (C : Addr) (cl : List (Str × Addr)) (fp : List Addr), JI (X.blk s H scope (compEnvC scope cl C X.env) fp) ρ1 tg1 iter1 r1)
    (hg1 : ∀ (s : Shared) (H : Hp) (C : Addr) (cl : List (Str × Addr)) (fp : List Addr), JG (X.blk s H scope (compEnvC scope cl C X.env) fp) ρ1 tg1 bb js1)
    (he : ∀ (s : Shared) (H : Hp) (C : Addr) (cl : List (Str × Addr)) (fp : List Addr), JE (X.blk s H scope (compEnvC scope cl C X.env) fp) elt re) (hjs : ∀ j ∈ js, j ∈ own.map (·.2)) (hjs1 : ∀ j ∈ js1, j ∈ vs1) (hs : ∀ x, foldedSetIterable iter X.env x = pure x := by intro _; rfl) (hs1 : ∀ env x, foldedSetIterable iter1 env x = pure x := by intro _ _; rfl) :
    JS X (.Assign [.Name y py] (.ListComp elt [⟨tg, iter, [], 0⟩, ⟨tg1, iter1, [], 0⟩] scope pos) spos) (sSet i (eLc2 r b r1 bb re (own.map (·.2)) vs1)) := by
  refine PS.imp (ps_setLc2 (g := tG X.prog X.w ρ b js) (tt := tT X.prog X.w rYes) (wi1 := tI X.prog X.w ρ1 r1) (g1 := tG X.prog X.w ρ1 bb js1) (tt1 := tT X.prog X.w rYes) (te := tE X.prog X.w re) hc hN hy hyl hsw hi.pi ok hv (fun s H C cl fp => (hg s H C cl fp).pg) (fun s H C cl fp => (jts_nil (X := X.blk s H scope (compEnvC scope cl C X.env) fp)).pt) (fun s H C cl fp => (hi1 s H C cl fp).pi) (fun s H C cl fp => (hg1 s H C cl fp).pg) (fun s H C cl fp => (jts_nil (X := X.blk s H scope (compEnvC scope cl C X.env) fp)).pt) he hs hs1) ?_
  rintro D σ H ⟨F0, H0, F, env, o, R, hr, k⟩
  obtain ⟨d, h1, hz⟩ := bd_some hr
  cases hz
  refine lcE2 (ρ := ρ) (ρ1 := ρ1) mono mono1 hjs hjs1 σ H (fun x H1 => gName i x σ H1 D.nx) ⟨F0, H0, F, env, d, R, h1, fun v F1 H1 g1 n1 => ?_⟩
  have R1 := (R.grow g1).set (i := i) n1
  rw [← put_eq env i] at R1
  exact k _ F1 H1 R1 g1.ff
end
end K67
set_option Elab.async false
set_option linter.all false
set_option maxRecDepth 100000
set_option maxHeartbeats 2000000
namespace K67
open PySem PySem.Spec PyProof.Rows L2
variable [TabA]

/-! ### a def -/
noncomputable def repN {α : Type} (x : α) (k : Nat) : List α := @Nat.rec (fun _ => List α) [] (fun _ ih => x :: ih) k
theorem repN_eq {α : Type} (x : α) : ∀ k, repN x k = List.replicate k x
  | 0 => rfl
  | k + 1 => by
    show x :: repN x k = _
    rw [repN_eq x k]
    rfl
noncomputable def argsE (k : Nat) (ds : List PyData) : En := @List.rec PyData (fun _ => En) (repN SV.no k) (fun d _ ih => SV.fz d :: ih) ds
theorem argsE_eq (k : Nat) : ∀ ds, argsE k ds = ds.map SV.fz ++ List.replicate k SV.no
  | [] => repN_eq _ k
  | d :: ds => by
    show SV.fz d :: argsE k ds = _
    rw [argsE_eq k ds]
    rfl
noncomputable def rfOf (k : Nat) (s : RS) (ds : List PyData) : Option PyData := bd (s (argsE k ds)) fun o => @Oc.rec (fun _ => Option PyData) (fun _ => some .none) (fun d => some d) o
section
variable {P : Program} {w : World} {K : PySem.W.Frag} {mg : Str → Option Value} {base : Heap}
theorem rel_start {F H : Hp} {N : List Str} {vs : List V} {ds : List PyData} {k : Nat} (s : Same F H) (n0 : NoT F) (t0 : Told F H) (r : DnAll P w F vs ds) (hN : N.length = ds.length + k) : Rel P w F H F H (L2.start N vs) (argsE k ds) := by
  have hl := r.length
  have e : N.length - vs.length = k := by omega
  rw [argsE_eq]
  unfold L2.start
  rw [e]
  refine ⟨Grow.refl s, by simp [hl], ⟨fun _ => 0, fun i so sv a b => ?_, fun i j a b ha hb oa ob _ => ?_⟩, n0, t0⟩
  · by_cases hi : i < vs.length
    · rw [List.getElem?_append_left (by simpa using hi), List.getElem?_map] at a
      rw [List.getElem?_append_left (by simp; omega), List.getElem?_map] at b
      cases e1 : vs[i]? with
      | none => rw [e1] at a; cases a
      | some v =>
        obtain ⟨d, e2, dn⟩ := r.at' e1
        rw [e1] at a
        rw [e2] at b
        cases a; cases b
        exact dn
    · rw [List.getElem?_append_right (by simp; omega), List.getElem?_replicate] at b
      split at b
      · cases b
        cases so <;> trivial
      · cases b
  · have nown : ∀ (i : Nat) (a : SV), (ds.map SV.fz ++ List.replicate k SV.no)[i]? = some a → ¬ a.own := fun i a h => by
      rcases List.mem_append.mp (List.mem_of_getElem? h) with z | z
      · obtain ⟨d, _, e⟩ := List.mem_map.mp z
        rw [← e]
        exact id
      · rw [(List.mem_replicate.mp z).2]
        exact id
    exact (nown i a ha oa).elim
/-- a def stands at the module's name x, and keeps its promise -/
def FnAt (P : Program) (w : World) (K : PySem.W.Frag) (mg : Str → Option Value) (base : Heap) (x : Str) (k n : Nat) (rf : List PyData → Option PyData) : Prop :=
  ∃ (f : Addr) (fd : FuncData) (ps : List Str), FnOk P w K mg base CX0 k f fd ps (spOf P w n rf) ∧ mg x = some (.ref f) ∧ PySem.W.keepIn K (.ref f) = true ∧ Binds K fd ps []
theorem spOf_run {n k : Nat} {s : RS} {N : List Str} {vs : List V} {H : Hp} {Q : VK} {E : XK} (hN : N.length = n + k) (h : spOf P w n (rfOf k s) vs H Q E) : tS P w s { nx := fun _ H' => Q .non H', rt := Q } (L2.start N vs) H := by
  obtain ⟨F, ds, d, s', n0, t0, r, l, hr, kk⟩ := h
  obtain ⟨o, h1, h2⟩ := bd_some hr
  refine ⟨F, H, F, argsE k ds, o, rel_start s' n0 t0 r (by rw [hN, l]), h1, ?_⟩
  cases o with
  | nx e =>
    cases h2
    exact fun σ' F' H' R _ => kk .non F' H' R.g .non
  | rt d' =>
    cases h2
    exact fun v F' H' g dn => kk v F' H' g dn
theorem fn_mk {x qual : Str} {params : Arguments} {body : List Stmt} {scope : Scope} {f : Addr} {fd : FuncData} {N ps : List Str} {k n m : Nat} {s : RS} (F : FunD K x qual params body scope [] [] f fd) (hm : mg x = some (.ref f)) (S : FnScope N ps scope) (hn : ps.length = n) (hN : N.length = n + m)
    (hbind : ∀ (kV doc pm : Value) (an : Option Addr) (cdv ct : Value) (us : List Value), us.length = ps.length → bindArgs (PySem.W.fnOf x qual params body scope .none kV doc pm an cdv ct) ⟨us, []⟩ = pure (ps.zip us))
    (hb : ∀ (cdv : Value) (A : Around) (outer : List Env) (s0 : Shared) (H : Hp) (E : XK), Room k (A.deeper (envOfC qual scope s0.heap.objs.size f cdv)) → JSs (cxOf CX0 P w K mg base N qual scope f cdv A outer s0 H E).nox body s) :
    FnAt P w K mg base x (k + 1) n (rfOf m s) := by
  refine ⟨f, fd, ps, F.ok S (fun vs H Q E h => by rw [h.len, hn]) fun cdv A outer s0 H vs Q E hr h => ⟨_, (hb cdv A outer s0 H E hr).nox, spOf_run hN h⟩, hm, F.kp, F.bindsN hbind⟩
theorem FnAt.mono {x : Str} {j k n : Nat} {rf : List PyData → Option PyData} (G : FnAt P w K mg base x j n rf) (h : j ≤ k) : FnAt P w K mg base x k n rf := by
  obtain ⟨f, fd, ps, a, b, c, d⟩ := G
  exact ⟨f, fd, ps, a.mono h, b, c, d⟩
/-- the same def, by another plain function -/
theorem FnAt.imp {x : Str} {k n : Nat} {rf rf' : List PyData → Option PyData} (G : FnAt P w K mg base x k n rf) (h : ∀ ds d, ds.length = n → rf' ds = some d → rf ds = some d) : FnAt P w K mg base x k n rf' := by
  obtain ⟨f, fd, ps, a, b, c, d⟩ := G
  refine ⟨f, fd, ps, a.imp fun vs H Q E q => ?_, b, c, d⟩
  obtain ⟨F, ds, z, s, n0, t0, r, l, hr, kk⟩ := q
  exact ⟨F, ds, z, s, n0, t0, r, l, h ds z l hr, kk⟩
end
section
variable {X : Cx} {k n : Nat} {rf : List PyData → Option PyData} {x : Str} {p pos : Pos} {e : Expr} {es : List Expr} {rs : RA}
theorem je_fn (G : FnAt X.prog X.w X.K X.mg X.base x k n rf) (hr : Room k X.A) (hg : Gl X x) (ha : JA X (e :: es) rs) (hl : (e :: es).length = n := by rfl)
    (hdb : (x == ("__debug__" : Str)) = false := by decide) (he : starEach (e :: es) X.env = (false, eval e X.env) :: starEach es X.env := by rfl) (hpl : (backTo pos (starEach es X.env)).any (·.1) = false := by rfl) :
    JE X (.Call (.Name x p) (e :: es) [] pos) (eCall rf rs) := by
  obtain ⟨f, fd, ps, a, b, c, d⟩ := G
  exact je_call a hr hg b c d ha hl hdb he hpl
noncomputable def sNever : RS := fun _ => none
theorem js_never {st : Stmt} : JS X st sNever := by
  refine PS.imp ps_never ?_
  rintro D σ H ⟨F0, H0, F, env, o, R, hr, k⟩
  cases hr
noncomputable def e3c (f g : PyData → PyData → Option PyData) (ra rb rc : RE) : RE := fun env => bd (ra env) fun x => bd (rb env) fun y => bd (f x y) fun z => bd (toB z) fun t => bIf t (bd (rc env) fun u => g y u) (some (.bool false))
theorem je_chain {a b c : Expr} {op op' : CmpOp} {f g : PyData → PyData → Option PyData} {r r' : R2} {ra rb rc : RE} (ho : OpR X (compareOp op) r) (ho' : OpR X (compareOp op') r') (hf : R2Ok X.prog X.w f r) (hg : R2Ok X.prog X.w g r') (ha : JE X a ra) (hb : JE X b rb) (hc : JE X c rc)
    (hm : lastMarks [op, op'] [b, c] = false := by with_unfolding_all rfl) :
    JE X (.Compare a [op, op'] [b, c] pos) (e3c f g ra rb rc) := by
  refine PE.imp (pe_chain ho ho' ha hb hc hm) ?_
  rintro σ H Q ⟨F0, H0, F, env, z, R, hr, k⟩
  obtain ⟨dx, h1, h2⟩ := bd_some hr
  obtain ⟨dy, h3, h4⟩ := bd_some h2
  obtain ⟨dz, h5, h6⟩ := bd_some h4
  obtain ⟨t, h7, h8⟩ := bd_some h6
  have e1 := toB_some h7
  subst e1
  refine ⟨F0, H0, F, env, dx, R, h1, fun vx F1 H1 g1 n1 => ⟨F0, H0, F1, env, dy, R.grow g1, h3, fun vy F2 H2 g2 n2 => ?_⟩⟩
  refine hf F2 H2 vx vy dx dy _ _ g2.fh (n1.mono g2.ff) n2 h5 fun vz F3 H3 g3 n3 => ?_
  cases n3
  refine ⟨t, rfl, ?_⟩
  cases t with
  | true =>
    rw [if_pos rfl]
    obtain ⟨du, h9, h10⟩ := bd_some (show bd (rc env) _ = some z from h8)
    refine ⟨F0, H0, F3, env, du, ((R.grow g1).grow g2).grow g3, h9, fun vu F4 H4 g4 n4 => ?_⟩
    exact hg F4 H4 vy vu dy du z _ g4.fh ((n2.mono g3.ff).mono g4.ff) n4 h10 fun v F5 H5 g5 n5 => k v F5 H5 (g1.trans (g2.trans (g3.trans (g4.trans g5)))) n5
  | false =>
    rw [if_neg Bool.false_ne_true]
    cases h8
    exact k _ F3 H3 (g1.trans (g2.trans g3)) (.bl _)
end
end K67
set_option Elab.async false
set_option linter.all false
set_option maxRecDepth 100000
set_option maxHeartbeats 4000000
namespace K67
open PySem PySem.Spec PyProof.Rows L2
variable [TabA]
/-! ### keys as data -/
noncomputable def keyOk (n : Nat) : PyData → Bool := @Nat.rec (fun _ => PyData → Bool) (fun d => @PyData.casesOn (fun _ => Bool) d false (fun _ => false) (fun _ => true) (fun _ => false) (fun _ => false) (fun _ => false) (fun _ => false))
  (fun _ ih d => @PyData.casesOn (fun _ => Bool) d false (fun _ => false) (fun _ => true) (fun _ => false) (fun _ => false) (fun xs => allB ih xs) (fun _ => false)) n
theorem keysOf_all {n : Nat} : ∀ xs : List PyData, (∀ x ∈ xs, ∃ k, keyOf x = some k ∧ k.depth ≤ n) → ∃ ks, keysOf xs = some ks ∧ NestedKey.depthAll ks ≤ n
  | [], _ => ⟨[], by rw [keysOf], by simp [NestedKey.depthAll]⟩
  | x :: xs, h => by
    obtain ⟨k, h1, h2⟩ := h x List.mem_cons_self
    obtain ⟨ks, h3, h4⟩ := keysOf_all xs fun y hy => h y (List.mem_cons_of_mem _ hy)
    exact ⟨k :: ks, by rw [keysOf, h1, h3], by simp only [NestedKey.depthAll]; omega⟩
theorem keyOk_ok : ∀ (n : Nat) (d : PyData), keyOk n d = true → ∃ k, keyOf d = some k ∧ k.depth ≤ n
  | 0, d, h => by
    cases d <;> first | cases h | skip
    exact ⟨_, by rw [keyOf], by simp [NestedKey.depth]⟩
  | n + 1, d, h => by
    cases d <;> first | cases h | skip
    · exact ⟨_, by rw [keyOf], by simp [NestedKey.depth]⟩
    · rename_i xs
      have h : allB (keyOk n) xs = true := h
      rw [allB_eq, List.all_eq_true] at h
      obtain ⟨ks, h1, h2⟩ := keysOf_all xs fun x hx => keyOk_ok n x (h x hx)
      exact ⟨.tup ks, by rw [keyOf, h1], by simp only [NestedKey.depth]; omega⟩
theorem keyOf_int {i : Int} {k : NestedKey} (h : keyOf (.int i) = some k) : k = .num i := by
  rw [keyOf] at h
  exact (Option.some.inj h).symm
theorem keyOf_tup {ds : List PyData} {k : NestedKey} (h : keyOf (.tuple ds) = some k) : ∃ ks, keysOf ds = some ks ∧ k = .tup ks := by
  rw [keyOf] at h
  split at h
  · rename_i ks e
    exact ⟨ks, e, (Option.some.inj h).symm⟩
  · cases h
theorem keysOf_cons {d : PyData} {ds : List PyData} {ks : List NestedKey} (h : keysOf (d :: ds) = some ks) : ∃ k r, keyOf d = some k ∧ keysOf ds = some r ∧ ks = k :: r := by
  rw [keysOf] at h
  split at h
  · rename_i k r e1 e2
    exact ⟨k, r, e1, e2, (Option.some.inj h).symm⟩
  · cases h
theorem keyOf_nil {d : PyData} {k : NestedKey} (h : keyOf d = some k) : (∃ i, d = .int i) ∨ ∃ ds, d = .tuple ds := by
  cases d with
  | int i => exact .inl ⟨_, rfl⟩
  | tuple ds => exact .inr ⟨_, rfl⟩
  | _ => simp [keyOf] at h
mutual
theorem eqv_key : ∀ (d e : PyData) (k l : NestedKey), keyOf d = some k → keyOf e = some l → PyData.eqv d e = decide (k = l)
  | .int i, e, k, l, h, h' => by
    rw [keyOf_int h]
    rcases keyOf_nil h' with ⟨j, rfl⟩ | ⟨ds, rfl⟩
    · rw [keyOf_int h', PyData.eqv]
      by_cases q : i = j
      · subst q; simp
      · rw [decide_eq_false (fun z => q (by injection z))]
        simp [q]
    · obtain ⟨ks, _, rfl⟩ := keyOf_tup h'
      rw [decide_eq_false (fun z => by cases z), PyData.eqv]
  | .tuple xs, e, k, l, h, h' => by
    obtain ⟨ks, h1, rfl⟩ := keyOf_tup h
    rcases keyOf_nil h' with ⟨j, rfl⟩ | ⟨ds, rfl⟩
    · rw [keyOf_int h', decide_eq_false (fun z => by cases z), PyData.eqv]
    · obtain ⟨ls, h2, rfl⟩ := keyOf_tup h'
      rw [PyData.eqv, eqv_keys xs ds ks ls h1 h2]
      by_cases q : ks = ls
      · subst q; simp
      · rw [decide_eq_false q, decide_eq_false (fun z => q (by injection z))]
  | .none, _, _, _, h, _ => by rcases keyOf_nil h with ⟨_, z⟩ | ⟨_, z⟩ <;> cases z
  | .bool _, _, _, _, h, _ => by rcases keyOf_nil h with ⟨_, z⟩ | ⟨_, z⟩ <;> cases z
  | .str _, _, _, _, h, _ => by rcases keyOf_nil h with ⟨_, z⟩ | ⟨_, z⟩ <;> cases z
  | .list _, _, _, _, h, _ => by rcases keyOf_nil h with ⟨_, z⟩ | ⟨_, z⟩ <;> cases z
  | .dict _, _, _, _, h, _ => by rcases keyOf_nil h with ⟨_, z⟩ | ⟨_, z⟩ <;> cases z
theorem eqv_keys : ∀ (ds es : List PyData) (ks ls : List NestedKey), keysOf ds = some ks → keysOf es = some ls → PyData.eqvAll ds es = decide (ks = ls)
  | [], [], ks, ls, h, h' => by
    rw [keysOf] at h h'
    cases h; cases h'
    rw [PyData.eqvAll]; simp
  | [], e :: es, ks, ls, h, h' => by
    rw [keysOf] at h
    cases h
    obtain ⟨_, _, _, _, rfl⟩ := keysOf_cons h'
    rw [PyData.eqvAll]; simp
  | d :: ds, [], ks, ls, h, h' => by
    rw [keysOf] at h'
    cases h'
    obtain ⟨_, _, _, _, rfl⟩ := keysOf_cons h
    rw [PyData.eqvAll]; simp
  | d :: ds, e :: es, ks, ls, h, h' => by
    obtain ⟨k, r, h1, h2, rfl⟩ := keysOf_cons h
    obtain ⟨l, t, h3, h4, rfl⟩ := keysOf_cons h'
    rw [PyData.eqvAll, eqv_key d e k l h1 h3, eqv_keys ds es r t h2 h4]
    by_cases q : k = l
    · subst q
      by_cases q2 : r = t
      · subst q2; simp
      · simp [q2]
    · simp [q]
end
/-! ### entries as data -/
abbrev KD := List (PyData × PyData)
noncomputable def findD (kd : PyData) (kds : KD) : Option PyData := @List.rec (PyData × PyData) (fun _ => Option PyData) none (fun p _ ih => bIf (eqD 4 p.1 kd) (some p.2) ih) kds
noncomputable def storeD (kd vd : PyData) (kds : KD) : KD := @List.rec (PyData × PyData) (fun _ => KD) [(kd, vd)] (fun p r ih => bIf (eqD 4 p.1 kd) ((p.1, vd) :: r) (p :: ih)) kds
def storeE (k : NestedKey) (q : Addr) (v : V) : List Ent → List Ent
  | [] => [(k, q, v)]
  | x :: r => if x.1 = k then (x.1, x.2.1, v) :: r else x :: storeE k q v r
def storeX (k : NestedKey) (q : Addr) (v : Value) : List (NestedKey × Addr × Value) → List (NestedKey × Addr × Value)
  | [] => [(k, q, v)]
  | x :: r => if x.1 = k then (x.1, x.2.1, v) :: r else x :: storeX k q v r
theorem putAt_id {k : NestedKey} {v : Value} : ∀ {xs : List (NestedKey × Addr × Value)}, k ∉ xs.map (·.1) → xs.map (putAt k v) = xs
  | [], _ => rfl
  | x :: xs, h => by
    rw [List.map_cons, List.mem_cons, not_or] at h
    rw [List.map_cons, putAt_id h.2]
    unfold putAt
    rw [if_neg (Ne.symm h.1)]
theorem storeX_eq (k : NestedKey) (q : Addr) (v : Value) : ∀ xs : List (NestedKey × Addr × Value), (xs.map (·.1)).Nodup → storedH xs k q v = storeX k q v xs
  | [], _ => by rw [storedH_new rfl]; rfl
  | x :: xs, h => by
    rw [List.map_cons, List.nodup_cons] at h
    have ih := storeX_eq k q v xs h.2
    unfold storeX
    by_cases e : x.1 = k
    · rw [if_pos e]
      have : atKey (x :: xs) k = some x.2 := by simp [atKey, e]
      rw [storedH_old this, List.map_cons, putAt_id (by rw [← e]; exact h.1)]
      unfold putAt
      rw [if_pos e]
    · rw [if_neg e, ← ih]
      have e2 : atKey (x :: xs) k = atKey xs k := by simp [atKey, List.find?_cons, e]
      cases q2 : atKey xs k with
      | none => rw [storedH_new (by rw [e2]; exact q2), storedH_new q2, List.cons_append]
      | some p =>
        rw [storedH_old (by rw [e2]; exact q2), storedH_old q2, List.map_cons]
        unfold putAt
        rw [if_neg e]
theorem pair_store {k : NestedKey} {q : Addr} {v : V} {u : Value} (r : RelV v u) : ∀ {es : List Ent} {xs : List (NestedKey × Addr × Value)}, Paired RelEnt es xs → Paired RelEnt (storeE k q v es) (storeX k q u xs)
  | _, _, .nil => .cons ⟨rfl, rfl, r⟩ .nil
  | x :: es, y :: xs, .cons h t => by
    unfold storeE storeX
    rw [h.1]
    by_cases e : y.1 = k
    · rw [if_pos e, if_pos e]
      exact .cons ⟨rfl, h.2.1, r⟩ t
    · rw [if_neg e, if_neg e]
      exact .cons h (pair_store r t)
theorem pair_keys : ∀ {es : List Ent} {xs : List (NestedKey × Addr × Value)}, Paired RelEnt es xs → es.map (·.1) = xs.map (·.1)
  | _, _, .nil => rfl
  | _, _, .cons h t => by rw [List.map_cons, List.map_cons, h.1, pair_keys t]
theorem storeE_len (k : NestedKey) (q : Addr) (v : V) : ∀ es : List Ent, (storeE k q v es).length ≤ es.length + 1
  | [] => by simp [storeE]
  | x :: r => by
    unfold storeE
    by_cases e : x.1 = k
    · rw [if_pos e]; simp
    · rw [if_neg e]
      have := storeE_len k q v r
      simp only [List.length_cons]
      omega
theorem storeE_depth {k : NestedKey} {q : Addr} {v : V} (hk : k.depth ≤ 8) : ∀ {es : List Ent}, (∀ e ∈ es, e.1.depth ≤ 8) → ∀ e ∈ storeE k q v es, e.1.depth ≤ 8
  | [], _, e, he => by
    rw [storeE, List.mem_singleton] at he
    rw [he]; exact hk
  | x :: r, h, e, he => by
    unfold storeE at he
    by_cases z : x.1 = k
    · rw [if_pos z] at he
      rcases List.mem_cons.mp he with rfl | he
      · exact h x List.mem_cons_self
      · exact h e (List.mem_cons_of_mem _ he)
    · rw [if_neg z] at he
      rcases List.mem_cons.mp he with rfl | he
      · exact h _ List.mem_cons_self
      · exact storeE_depth hk (fun e he => h e (List.mem_cons_of_mem _ he)) e he
section
variable {P : Program} {w : World} {F : Hp}
theorem DnEs.length : ∀ {es : List Ent} {kds : KD}, DnEs P w F es kds → es.length = kds.length
  | _, _, .nil => rfl
  | _, _, .cons _ _ _ r => by simp [DnEs.length r]
theorem dnes_store {k : NestedKey} {q : Addr} {v : V} {kd vd : PyData} (hq : Dn P w F (.ref q) kd) (hk : keyOf kd = some k) (hv : Dn P w F v vd) : ∀ {es : List Ent} {kds : KD}, DnEs P w F es kds → DnEs P w F (storeE k q v es) (storeD kd vd kds)
  | _, _, .nil => .cons hq hk hv .nil
  | (k', q', v') :: es, (kd', vd') :: kds, .cons a b c r => by
    show DnEs P w F (storeE k q v ((k', q', v') :: es)) (bIf (eqD 4 kd' kd) ((kd', vd) :: kds) ((kd', vd') :: storeD kd vd kds))
    rw [eqD_eq, eqv_key _ _ _ _ b hk]
    unfold storeE
    by_cases e : k' = k
    · rw [decide_eq_true e, if_pos e]
      exact .cons a b hv r
    · rw [decide_eq_false e, if_neg e]
      exact .cons a b c (dnes_store hq hk hv r)
theorem dnes_find {k : NestedKey} {kd vd : PyData} (hk : keyOf kd = some k) : ∀ {es : List Ent} {kds : KD} {xs : List (NestedKey × Addr × Value)}, DnEs P w F es kds → Paired RelEnt es xs → findD kd kds = some vd → ∃ p v, atKey xs k = some p ∧ RelV v p.2 ∧ Dn P w F v vd
  | _, _, _, .nil, _, h => by cases h
  | (k', q', v') :: es, (kd', vd') :: kds, x :: xs, .cons a b c r, .cons h t, hf => by
    have hf : bIf (eqD 4 kd' kd) (some vd') (findD kd kds) = some vd := hf
    rw [eqD_eq, eqv_key _ _ _ _ b hk] at hf
    have e1 : x.1 = k' := h.1.symm
    by_cases e : k' = k
    · rw [decide_eq_true e] at hf
      cases hf
      exact ⟨x.2, v', by simp [atKey, e1, e], h.2.2, c⟩
    · rw [decide_eq_false e] at hf
      obtain ⟨p, v, h1, h2, h3⟩ := dnes_find hk r t hf
      refine ⟨p, v, ?_, h2, h3⟩
      have : ¬ x.1 = k := by rw [e1]; exact e
      have e2 : atKey (x :: xs) k = atKey xs k := by simp [atKey, List.find?_cons, this]
      rw [e2]; exact h1
end
/-! ### the heap -/
section
variable {X : Cx} {pins : List (Addr × Obj)} {σ : L2.St} {H F : Hp} {s : Shared}
mutual
theorem nested_of (I : Inv X pins σ H s) (sm : Same F H) : ∀ {v : V} {d : PyData} {k : NestedKey} {u : Value}, Dn X.prog X.w F v d → keyOf d = some k → RelV v u → NestedIs s.heap k u
  | _, _, k, u, .int i, h, r => by
    rw [keyOf_int h]
    obtain ⟨t, rfl⟩ := r
    exact .int i t
  | _, _, k, u, .tup (a := a) (us := us) (xs := xs) hf rs, h, r => by
    cases r
    obtain ⟨ks, h1, rfl⟩ := keyOf_tup h
    obtain ⟨e, _, its, rv, o, ho, hc, n, hd⟩ := (show ObjOk X.prog X.w H s.heap a (.frz _ (.tup xs)) from I.hok a _ (sm _ _ hf))
    exact .tup ho hc hd (by simpa using nested_all I sm rs h1 rv)
  | _, _, k, u, .non, h, r => by rcases keyOf_nil h with ⟨_, z⟩ | ⟨_, z⟩ <;> cases z
  | _, _, k, u, .bl b, h, r => by rcases keyOf_nil h with ⟨_, z⟩ | ⟨_, z⟩ <;> cases z
  | _, _, k, u, .str x, h, r => by rcases keyOf_nil h with ⟨_, z⟩ | ⟨_, z⟩ <;> cases z
  | _, _, k, u, .lst _ _, h, r => by rcases keyOf_nil h with ⟨_, z⟩ | ⟨_, z⟩ <;> cases z
  | _, _, k, u, .dic _ _, h, r => by rcases keyOf_nil h with ⟨_, z⟩ | ⟨_, z⟩ <;> cases z
  | _, _, k, u, .dci _ _, h, r => by rcases keyOf_nil h with ⟨_, z⟩ | ⟨_, z⟩ <;> cases z
theorem nested_all (I : Inv X pins σ H s) (sm : Same F H) : ∀ {vs : List V} {ds : List PyData} {ks : List NestedKey} {us : List Value}, DnAll X.prog X.w F vs ds → keysOf ds = some ks → Vals vs us → NestedAll s.heap ks us
  | _, _, ks, us, .nil, h, r => by
    cases r
    rw [keysOf] at h
    cases h
    exact .nil
  | _, _, ks, us, .cons a b, h, r => by
    obtain ⟨k, t, h1, h2, rfl⟩ := keysOf_cons h
    cases r with
    | cons r1 r2 => exact .cons (nested_of I sm a h1 r1) (nested_all I sm b h2 r2)
end
theorem dnes_is (I : Inv X pins σ H s) (sm : Same F H) : ∀ {es : List Ent} {kds : KD} {xs : List (NestedKey × Addr × Value)}, DnEs X.prog X.w F es kds → Paired RelEnt es xs → (∀ e ∈ es, e.1.depth ≤ 8) → ∀ x ∈ xs, (nestedKind X.prog X.w).is s.heap x.1 x.2.1
  | _, _, _, .nil, .nil, _, x, hx => absurd hx (by simp)
  | (k', q', v') :: es, _, y :: xs, .cons a b c r, .cons h t, hd, x, hx => by
    rcases List.mem_cons.mp hx with rfl | hx
    · have e1 : x.1 = k' := h.1.symm
      have e2 : x.2.1 = q' := h.2.1.symm
      rw [e1, e2]
      exact ⟨nested_of I sm a b rfl, hd _ List.mem_cons_self⟩
    · exact dnes_is I sm r t (fun e he => hd e (List.mem_cons_of_mem _ he)) x hx
/-- what stands at a, as the kit tells dicts -/
theorem dict_at {a : Addr} {es : List Ent} {kds : KD} (I : Inv X pins σ H s) (sm : Same F H) (h : Rd H a (dN X.prog X.w a es)) (r : DnEs X.prog X.w F es kds) :
    es.length ≤ sizeLine ∧ (a == sysModules) = false ∧ (∀ e ∈ es, e.1.depth ≤ 8) ∧ ∃ xs, Paired RelEnt es xs ∧ s.heap.DictOfH (nestedKind X.prog X.w) a xs := by
  obtain ⟨⟨z, hs, nd, hd, xs, pr, o, ents, ep, ho, hx, hdt, he⟩, _⟩ := (show ObjOk X.prog X.w H s.heap a (dN X.prog X.w a es) from h.ok I.hok)
  exact ⟨z, hs, hd, xs, pr, o, ents, ep, ho, hx, hdt, he, dnes_is I sm r pr hd, by rw [← pair_keys pr]; exact nd⟩
theorem dN_new {P : Program} {w : World} {H : Hp} {h : Heap} {a : Addr} {es : List Ent} {xs : List (NestedKey × Addr × Value)} (z : es.length ≤ sizeLine) (hs : (a == sysModules) = false) (hd : ∀ e ∈ es, e.1.depth ≤ 8) (pr : Paired RelEnt es xs) (dd : h.DictOfH (nestedKind P w) a xs) : ObjOk P w H h a (dN P w a es) := by
  obtain ⟨o, ents, ep, ho, hx, hdt, he, _, nd⟩ := dd
  refine ⟨⟨z, hs, by rw [pair_keys pr]; exact nd, hd, xs, pr, o, ents, ep, ho, hx, hdt, he⟩, ⟨o, ho⟩, ?_⟩
  rintro h1 h2 ⟨z, hs, nd, hd, xs, pr, o, ents, ep, ho, hx, hdt, he⟩ k
  exact ⟨z, hs, nd, hd, xs, pr, o, ents, ep, k _ ho, hx, hdt, he⟩
end
end K67
set_option Elab.async false
set_option linter.all false
set_option maxRecDepth 100000
set_option maxHeartbeats 4000000
namespace K67
open PySem PySem.Spec PyProof.Rows L2
variable [TabA]
section
variable {X : Cx} {pins : List (Addr × Obj)} {σ : L2.St} {H F : Hp} {s : Shared}
theorem room8 {A : Around} (h : A.units + 64 < cLine) : (nestedKind X.prog X.w).room A.in1 := by
  show A.in1.units + 8 < cLine
  rw [PySem.Around.in1_units]
  omega
theorem room8' {A : Around} (h : A.units + 64 < cLine) : (nestedKind X.prog X.w).room A := by
  show A.units + 8 < cLine
  omega
theorem pairE_len {es : List Ent} {xs : List (NestedKey × Addr × Value)} (h : Paired RelEnt es xs) : es.length = xs.length := Paired.length h
/-! ### {} -/
theorem dN_empty {P : Program} {w : World} {H : Hp} (h : Heap) (hb : sysModules < h.objs.size) : ObjOk P w H (h.push { cls := .type "dict", data := .dict #[] }) h.objs.size (dN P w h.objs.size []) :=
  dN_new (Nat.zero_le _) (beq_eq_false_iff_ne.mpr (Ne.symm (Nat.ne_of_lt hb))) (fun e he => absurd he (by simp)) .nil (Heap.DictOfH.new h)
theorem pe_dnewN {pos : Pos} : PE X (.Dict [] [] pos) (fun _ H Q => ∀ p, H p = none → Q (.ref p) (upd H p (dN X.prog X.w p []))) := ⟨fun pins s σ H Q I h =>
  wpAny_Dict_empty ⟨.ref s.heap.objs.size, _, I.laid (a := s.heap.objs.size) (o := dN X.prog X.w s.heap.objs.size []) (t' := s.toks) (fun _ _ q => Heap.get?_push_of_some _ q) (Nat.le_refl _) (dN_empty s.heap I.big), rfl, h _ (I.hok.fresh (Nat.le_refl _))⟩⟩
/-! ### d[k] = v -/
structure PutOk (P : Program) (w : World) (H : Hp) (a q : Addr) (es : List Ent) (k : NestedKey) (F : Hp) (kds : KD) (kd : PyData) : Prop where
  at_ : H a = some (dN P w a es)
  sm : Same F H
  ess : DnEs P w F es kds
  dn : Dn P w F (.ref q) kd
  key : keyOf kd = some k
  dep : k.depth ≤ 8
  few : es.length < sizeLine
def sPutN (P : Program) (w : World) (td ty tv : TE) : TS := fun D σ H => tv σ H fun v H1 => td σ H1 fun x H2 => ty σ H2 fun y H3 => ∃ a q es k F kds kd, x = .ref a ∧ y = .ref q ∧ PutOk P w H3 a q es k F kds kd ∧ D.nx σ (upd H3 a (dN P w a (storeE k q v es)))
theorem ps_putN {o i value : Expr} {pos pos' : Pos} {td ty tv : TE} (hu : X.A.units + 64 < cLine) (ho : PE X o td) (hi : PE X i ty) (hv : PE X value tv) (hs : swapsWith value (some (.Subscript o i pos')) pos.line X.env = pure false) :
    PS X (.Assign [.Subscript o i pos'] value pos) (sPutN X.prog X.w td ty tv) := by
  refine ⟨fun pins s σ H D I h => ?_⟩
  refine wpAny_Assign_Subscript (thn (hv.run pins s σ H _ I h) fun r s1 ⟨v, H1, I1, rv, q1⟩ => thn (ho.run pins s1 σ H1 _ I1 q1) fun u s2 ⟨x, H2, I2, rx, q2⟩ => thn (hi.run pins s2 σ H2 _ I2 q2) fun iv s3 ⟨y, H3, I3, ry, a, q, es, k, F, kds, kd, ex, ey, g, q3⟩ => ?_) hs
  subst ex ey
  obtain rfl : u = Value.ref a := rx
  obtain rfl : iv = Value.ref q := ry
  obtain ⟨z, hs, hd, xs, pr, dd⟩ := dict_at I3 g.sm (.inl g.at_) g.ess
  have hz : xs.length ≤ sizeLine := by rw [← pairE_len pr]; exact z
  refine wpAny_setItem_heap (hsz := hz) (room8 hu) ⟨nested_of I3 g.sm g.dn g.key rfl, g.dep⟩ dd fun h' dd' hsm => ⟨σ, _, ?_, q3⟩
  have nd : (xs.map (·.1)).Nodup := by obtain ⟨_, _, _, _, _, _, _, _, nd⟩ := dd; exact nd
  rw [storeX_eq k q r xs nd] at dd'
  have he : ∃ q, h'.get? a = some q := let ⟨q, _, _, hq, _⟩ := dd'; ⟨q, hq⟩
  have hl : (storeE k q v es).length ≤ sizeLine := by have := storeE_len k q v es; have := g.few; omega
  exact d_write I3 (by rw [g.at_]; exact True.intro) hsm he (dN_new hl hs (storeE_depth g.dep hd) (pair_store rv pr) dd')
/-! ### d[k], of tuple keys -/
def tGetN (P : Program) (w : World) (td ty : TE) : TE := fun σ H Q => td σ H fun x H1 => ty σ H1 fun y H2 => ∃ a q es k F kds kd vd, x = .ref a ∧ y = .ref q ∧ Rd H2 a (dN P w a es) ∧ Same F H2 ∧ DnEs P w F es kds ∧ Dn P w F (.ref q) kd ∧ keyOf kd = some k ∧ k.depth ≤ 8 ∧ findD kd kds = some vd ∧ ∀ v, Dn P w F v vd → Q v H2
/-- of both kinds -/
def tGetD (P : Program) (w : World) (td ty : TE) : TE := fun σ H Q => td σ H fun x H1 => ty σ H1 fun y H2 =>
  (∃ a q es k F kds kd vd, x = .ref a ∧ y = .ref q ∧ Rd H2 a (dN P w a es) ∧ Same F H2 ∧ DnEs P w F es kds ∧ Dn P w F (.ref q) kd ∧ keyOf kd = some k ∧ k.depth ≤ 8 ∧ findD kd kds = some vd ∧ ∀ v, Dn P w F v vd → Q v H2) ∨
  ∃ a v, x = .ref a ∧ DGet H2 a y (some v) ∧ Q v H2
theorem pe_getD {o i : Expr} {pos : Pos} {td ty : TE} (hu : X.A.units + 64 < cLine) (ho : PE X o td) (hi : PE X i ty) (hs : NoSl i) : PE X (.Subscript o i pos) (tGetD X.prog X.w td ty) := by
  refine ⟨fun pins s σ H Q I h => ?_⟩
  refine subD_of PySem.F.slot_dict_getitem.lookup hs (thn (ho.run pins s σ H _ I h) fun u s1 ⟨x, H1, I1, rx, q1⟩ => thn (hi.run pins s1 σ H1 _ I1 q1) fun iv s2 ⟨y, H2, I2, ry, q2⟩ => ?_)
  rcases q2 with ⟨a, q, es, k, F, kds, kd, vd, ex, ey, at_, sm, r, dn, key, dep, hf, q2⟩ | ⟨a, v, ex, g, q2⟩
  · subst ex ey
    obtain rfl : u = Value.ref a := rx
    obtain rfl : iv = Value.ref q := ry
    obtain ⟨z, hs, hd, xs, pr, dd⟩ := dict_at I2 sm at_ r
    obtain ⟨p, v, h1, h2, h3⟩ := dnes_find key r pr hf
    exact ⟨dd.typeIs, wpAny_getItem_heap (room8 hu) ⟨nested_of I2 sm dn key rfl, dep⟩ dd h1 ⟨v, H2, I2.tok _, h2, q2 v h3⟩⟩
  · subst ex
    obtain rfl : u = Value.ref a := rx
    exact ⟨dict_typeIs I2 g, d_getItem (by omega) I2 g ry fun w' s3 I3 rw' => ⟨v, H2, I3, rw', q2⟩⟩
/-! ### len(d) -/
def rLenD (P : Program) (w : World) : List V → Hp → VK → Prop := fun xs H Q => ∃ a, xs = [.ref a] ∧ ((∃ es F kds, Rd H a (dN P w a es) ∧ Same F H ∧ DnEs P w F es kds ∧ Q (.int (Int.ofNat es.length)) H) ∨ ∃ kvs, Rd H a (.dK kvs) ∧ Q (.int (Int.ofNat kvs.length)) H)
theorem call_lenN : CallR X (.builtin "len") (rLenD X.prog X.w) := by
  intro pins s σ H xs us Q I r h
  obtain ⟨p, rfl, h⟩ := h
  obtain ⟨u, rfl, rx⟩ := vals1 r
  obtain rfl : u = .ref p := rx
  rcases h with ⟨es, F, kds, hp, sm, rs, q⟩ | ⟨kvs, hp, q⟩
  · obtain ⟨z, hd, _, ys, rel, dd⟩ := dict_at I sm hp rs
    have hl : es.length = ys.length := pairE_len rel
    refine PySem.call_len_dictH hd dd (by rw [← hl]; rw [sizeLine_eq] at z; omega) ?_
    rw [← hl]
    exact ⟨.int ((es.length : Nat) : Int), H, I.tok _, ⟨_, rfl⟩, q⟩
  · exact d_len I hp fun t s' I' => ⟨.int ((kvs.length : Nat) : Int), H, I', ⟨_, rfl⟩, q⟩
/-! ### for k in d -/
def Ikn (P : Program) (w : World) (F : Hp) (kds : KD) (a : Addr) (o : Obj) (es : List Ent) : It :=
  ⟨fun i H => (H a = some (.frz o (dN P w a es)) ∧ Same F H) ∧ i < es.length, fun i H x H' => H' = H ∧ ∃ e, es[i]? = some e ∧ x = .ref e.2.1, fun i H => (H a = some (.frz o (dN P w a es)) ∧ Same F H) ∧ es.length ≤ i⟩
theorem frzN {a : Addr} {o : Obj} {es : List Ent} (I : Inv X pins σ H s) (h : H a = some (.frz o (dN X.prog X.w a es))) :
    (a == sysModules) = false ∧ s.heap.get? a = some o ∧ o.ExactDict ∧ ∃ (ents : Array DictEntry) (ep : Nat), o.data = .dict ents ep ∧ ents.size = es.length ∧ ∀ (i : Nat) e, es[i]? = some e → ∃ en : DictEntry, ents[i]? = some en ∧ en.key = .ref e.2.1 := by
  obtain ⟨hg, ⟨⟨z, hs, nd, hd, xs, pr, o', ents, ep, ho, hx, hdt, he⟩, _⟩⟩ := (show ObjOk X.prog X.w H s.heap a (.frz o (dN X.prog X.w a es)) from I.hok a _ h)
  rw [hg] at ho
  cases ho
  refine ⟨hs, hg, hx, ents, ep, hdt, ?_, fun i e hi => ?_⟩
  · have l1 : ents.size = xs.length := size_of_entries he
    have l2 : es.length = xs.length := pairE_len pr
    omega
  · obtain ⟨b, hb, e1, e2, _⟩ := paired_get pr hi
    have q := entry_at he i
    rw [hb] at q
    exact ⟨_, q, by rw [e2]; rfl⟩
theorem turn_keysN {P : Program} {w : World} {K : PySem.W.Frag} {tg : Expr} {F1 : Hp} {kds : KD} {a : Addr} {o : Obj} {es : List Ent} {ents : Array DictEntry} {ep : Nat} (it : Addr) (hod : o.data = .dict ents ep) : Turn P w K tg (Ikn P w F1 kds a o es) [it] it (fun i h => h.IsKeyIter it a i es.length ep) where
  mem := by simp
  obj := fun i h st b hb => by
    have e : b = it := by simpa using hb
    subst e
    obtain ⟨oi, e, c, dd⟩ := st
    exact ⟨oi, e, fun v z => by rw [dd] at z; cases z⟩
  keep := fun i h h' st k => st.at fun oi e => k it (by simp) oi e
  item := by
    intro X hP hw hK hc i pins s σ H E I hf st hg
    subst hP hw hK
    obtain ⟨⟨hd, sm⟩, hi⟩ := hg
    obtain ⟨f0, f1, f2, f3, f4, f5⟩ := hf it (by simp)
    obtain ⟨hs, hgd, hx, es', ep', hdt, hsz, ent⟩ := frzN I hd
    obtain ⟨rfl, rfl⟩ := dict_ep hod hdt
    obtain ⟨e0, he0⟩ : ∃ p, es[i]? = some p := ⟨es[i], List.getElem?_eq_getElem hi⟩
    obtain ⟨en, hen, hkey⟩ := ent i e0 he0
    refine next_key_item st hgd hdt hsz hen fun h' st' sb => ?_
    have I1 : Inv X pins σ H { s with heap := h' } := I.turned (t' := s.toks) (fun b ob hb e => (sb.2 b hb).trans e) f0 f1 f3 f4 f5
    obtain ⟨oi, e, c, dd⟩ := id st'
    exact ⟨en.key, rfl, go_of (s := { s with heap := h' }) e c dd (by decide) ⟨.ref e0.2.1, H, I1, hkey, ⟨rfl, e0, he0, rfl⟩, st', fun b hb => (hf b hb).1⟩⟩
  done := by
    intro X hP hw hK hc i pins s σ H E I hf st hg
    subst hP hw hK
    obtain ⟨⟨hd, sm⟩, hi⟩ := hg
    obtain ⟨f0, f1, f2, f3, f4, f5⟩ := hf it (by simp)
    obtain ⟨hs, hgd, hx, es', ep', hdt, hsz, ent⟩ := frzN I hd
    obtain ⟨rfl, rfl⟩ := dict_ep hod hdt
    exact next_key_end (I.ok.hd hc) st hgd hdt hsz hi fun h' eb => ⟨rfl, I.turned (t' := s.toks) (fun b ob hb e => eb b ob hb e) f0 f1 f3 f4 f5⟩
  self := fun A i s Q E st h => by
    refine wpAny_pyIter_slot st.typeIs F.slot_dict_keyiterator_iter (wpAny_call_entry F.slot_dict_keyiterator_iter st.typeIs F.entry_dict_keyiterator_iter ?_ (F.args_dict_keyiterator_iter_1 _))
    show wpAny _ _ (ret (.ref it)) _ _ s
    exact wpAny_pure ⟨_, rfl, "dict_keyiterator", _, st.typeIs, F.slot_dict_keyiterator_next.lookup, h⟩
theorem pi_keysN {tg e : Expr} {td : TE} (he : PE X e td) : PI X tg e (fun σ H R => td σ H fun x H1 => ∃ a o es F kds, x = .ref a ∧ H1 a = some (.frz o (dN X.prog X.w a es)) ∧ R (Ikn X.prog X.w F kds a o es) H1) := by
  refine ⟨fun pins s σ H R I h => ?_⟩
  refine thn (he.run pins s σ H _ I h) fun u s1 ⟨x, H1, I1, rx, d, o, es, F, kds, ex, hd, q⟩ => ?_
  subst ex
  obtain rfl : u = Value.ref d := rx
  obtain ⟨hs, hgd, hx, ents, ep, hdt, hsz, ent⟩ := frzN I1 hd
  refine iter_keys hs hgd hx hdt (pi_one (tk := s1.toks) I1 _ (turn_keysN _ hdt) ⟨_, Heap.get?_push_size _ rfl, rfl, ?_⟩ q)
  rw [hsz] <;> rfl
end
end K67
set_option Elab.async false
set_option linter.all false
set_option maxRecDepth 100000
set_option maxHeartbeats 4000000
namespace K67
open PySem PySem.Spec PyProof.Rows L2
variable [TabA]
/-! a list comprehension of three clauses without tests -/
abbrev L3 (elt t0 i0 t1 i1 t2 i2 : Expr) (scope : Scope) (pos : Pos) : Expr := .ListComp elt [⟨t0, i0, [], 0⟩, ⟨t1, i1, [], 0⟩, ⟨t2, i2, [], 0⟩] scope pos
/-- what a clause does with each item behind the store -/
def restMid (comp : Expr) (i1 : Expr) (d : Nat) (acc : Value) (env : Env) : Sem Unit := do
  let x ← eval i1 env
  standAt i1.pos
  let x ← foldedSetIterable i1 env x
  let _ ← runOwn (.compStart comp d (← holding [x] (pyIter x)) acc env) env
def restIn (elt : Expr) (acc : Value) (env : Env) : Sem Unit := do
  let _ ← call (.builtin "list.append") [acc, ← eval elt env]
def TurnIs (comp : Expr) (d : Nat) (tg : Expr) (p : Pos) (it acc : Value) (env : Env) (rest : Sem Unit) : Prop :=
  compTurn comp d it acc env = (do
      standAt p
      match ← pyNext it with
      | none => pure (.done .next)
      | some v =>
        letOwnedTupleGo tg it v
        assign tg env v
        rest
        again (.compLoop comp d it acc env))
theorem turn3_0 (elt t0 i0 t1 i1 t2 i2 : Expr) (scope : Scope) (pos : Pos) (it acc : Value) (env : Env) : TurnIs (L3 elt t0 i0 t1 i1 t2 i2 scope pos) 0 t0 i0.pos it acc env (restMid (L3 elt t0 i0 t1 i1 t2 i2 scope pos) i1 1 acc env) := by
  unfold TurnIs restMid; simp only [bind_assoc]; rfl
theorem turn3_1 (elt t0 i0 t1 i1 t2 i2 : Expr) (scope : Scope) (pos : Pos) (it acc : Value) (env : Env) : TurnIs (L3 elt t0 i0 t1 i1 t2 i2 scope pos) 1 t1 i1.pos it acc env (restMid (L3 elt t0 i0 t1 i1 t2 i2 scope pos) i2 2 acc env) := by
  unfold TurnIs restMid; simp only [bind_assoc]; rfl
theorem turn3_2 (elt t0 i0 t1 i1 t2 i2 : Expr) (scope : Scope) (pos : Pos) (it acc : Value) (env : Env) : TurnIs (L3 elt t0 i0 t1 i1 t2 i2 scope pos) 2 t2 i2.pos it acc env (restIn elt acc env) := by
  unfold TurnIs; rfl
section
variable {prog : Program} {w : World} {A : Around} {R : Result → Shared → Prop} {s : Shared} {elt t0 i0 t1 i1 t2 i2 tg : Expr} {scope : Scope} {pos p : Pos} {it acc : Value} {env : Env} {rest : Sem Unit} {d : Nat}
theorem compLoop_g (ht : TurnIs (L3 elt t0 i0 t1 i1 t2 i2 scope pos) d tg p it acc env rest) (I : Nat → Shared → Prop)
    (turn : ∀ n s, I n s → wpAny (model prog w) A (pyNext it) (fun r s₁ => match r with
      | none => R (.ok .next) s₁
      | some v => wpAny (model prog w) A (letOwnedTupleGo tg it v) (fun _ s₁' => wpAny (model prog w) A (assign tg env v) (fun _ s₂ =>
          wpAny (model prog w) A rest (fun _ s₅ => ∃ m, m < n ∧ I m s₅) (notedBy (model prog w) A env fun e s' => R (.error e) s') s₂) (notedBy (model prog w) A env fun e s' => R (.error e) s') s₁') (notedBy (model prog w) A env fun e s' => R (.error e) s') s₁) (notedBy (model prog w) A env fun e s' => R (.error e) s') s)
    (n : Nat) (h : I n s) :
    codeAny (model prog w) A (.compLoop (L3 elt t0 i0 t1 i1 t2 i2 scope pos) d it acc env) R s := by
  refine codeAny_loop rfl I (fun n s hI => ?_) n h
  show wpAny _ A ((compTurn (L3 elt t0 i0 t1 i1 t2 i2 scope pos) d it acc env).onRaise (fun x => do noteFrame x env; theTreesLotGoes x)) _ _ s
  refine wpAny_noted ?_
  rw [show compTurn (L3 elt t0 i0 t1 i1 t2 i2 scope pos) d it acc env = _ from ht]
  refine wpAny_bind (wpAny_standAt (wpAny_bind (wpAny_mono (turn n s hI) (fun r s₁ h₁ => ?_) fun _ _ h' => h')))
  cases r with
  | none => exact wpAny_pure h₁
  | some v =>
    refine wpAny_bind (wpAny_mono h₁ (fun _ s₁' h₁' => ?_) fun _ _ h' => h')
    refine wpAny_bind (wpAny_mono h₁' (fun _ s₂ h₂ => wpAny_bind (wpAny_mono h₂ (fun _ s₅ h₅ => ?_) fun _ _ h' => h')) fun _ _ h' => h')
    exact wpAny_pure ⟨rfl, h₅⟩
theorem restMid_ok {i1' : Expr} {E : Value → Shared → Prop} {Q : Unit → Shared → Prop} (hs : ∀ x, foldedSetIterable i1' env x = pure x)
    (h : wpAny (model prog w) A (eval i1' env) (fun x s₄ => wpAny (model prog w) A (pyIter x) (fun it1 s₅ =>
              codeAny (model prog w) A (.compStart (L3 elt t0 i0 t1 i1 t2 i2 scope pos) d it1 acc env) (fun r s' => match r with
                | .ok _ => Q () s'
                | .error _ => False) s₅) E s₄) E s) :
    wpAny (model prog w) A (restMid (L3 elt t0 i0 t1 i1 t2 i2 scope pos) i1' d acc env) Q E s := by
  unfold restMid
  refine wpAny_bind (wpAny_mono h (fun x s₄ h₄ => ?_) fun _ _ h' => h')
  refine wpAny_bind (wpAny_standAt (wpAny_bind (wpAny_of_eq (hs x) (wpAny_bind (wpAny_holding (wpAny_mono h₄ (fun it1 s₅ h₅ => ?_) fun _ _ h' => h'))))))
  refine wpAny_bind (wpAny_runOwn ?_)
  rw [Around.mark_none]
  refine codeAny_mono h₅ fun r s' hr => ?_
  cases r with
  | ok f =>
    first
      | exact wpAny_pure hr
      | exact wpAny_bind (wpAny_pure (wpAny_pure hr))
  | error e => exact hr.elim
theorem compStart3_1 (h0 : codeAny (model prog w) A (.compLoop (L3 elt t0 i0 t1 i1 t2 i2 scope pos) 1 it acc env) R s)
    (h : wpAny (model prog w) A (pyIter it) (fun it' s' => codeAny (model prog w) A (.compLoop (L3 elt t0 i0 t1 i1 t2 i2 scope pos) 1 it' acc env) R s')
      (notedBy (model prog w) A env fun x s' => R (.error x) s') s) :
    codeAny (model prog w) A (.compStart (L3 elt t0 i0 t1 i1 t2 i2 scope pos) 1 it acc env) R s := by
  refine codeAny_of_tree ?_
  show wpAny _ _ ((compStart (L3 elt t0 i0 t1 i1 t2 i2 scope pos) 1 it acc env).onRaise (fun x => do noteFrame x env; standAt theWindowsPlace)) _ _ s
  refine wpAny_notedAt ?_
  unfold compStart
  show wpAny _ _ (ask >>= _) _ _ s
  refine wpAny_bind (wpAny_askSetting (wpAny_ite ?_))
  split
  · first
      | exact wpAny_bind (wpAny_pure (wpAny_pure (And.intro rfl h0)))
      | exact wpAny_pure (And.intro rfl h0)
  · first
      | exact wpAny_bind (wpAny_rule (wpAny_bind (wpAny_standAt (wpAny_bind (wpAny_mono h (fun it' s' h' => wpAny_pure (And.intro rfl h')) fun _ _ x => x)))))
      | (refine wpAny_bind (wpAny_rule ?_); show wpAny _ _ (standAt i1.pos >>= _) _ _ s; exact wpAny_bind (wpAny_standAt (wpAny_bind (wpAny_mono h (fun it' s' h' => wpAny_pure (And.intro rfl h')) fun _ _ x => x))))
theorem compStart3_2 (h0 : codeAny (model prog w) A (.compLoop (L3 elt t0 i0 t1 i1 t2 i2 scope pos) 2 it acc env) R s)
    (h : wpAny (model prog w) A (pyIter it) (fun it' s' => codeAny (model prog w) A (.compLoop (L3 elt t0 i0 t1 i1 t2 i2 scope pos) 2 it' acc env) R s')
      (notedBy (model prog w) A env fun x s' => R (.error x) s') s) :
    codeAny (model prog w) A (.compStart (L3 elt t0 i0 t1 i1 t2 i2 scope pos) 2 it acc env) R s := by
  refine codeAny_of_tree ?_
  show wpAny _ _ ((compStart (L3 elt t0 i0 t1 i1 t2 i2 scope pos) 2 it acc env).onRaise (fun x => do noteFrame x env; standAt theWindowsPlace)) _ _ s
  refine wpAny_notedAt ?_
  unfold compStart
  show wpAny _ _ (ask >>= _) _ _ s
  refine wpAny_bind (wpAny_askSetting (wpAny_ite ?_))
  split
  · first
      | exact wpAny_bind (wpAny_pure (wpAny_pure (And.intro rfl h0)))
      | exact wpAny_pure (And.intro rfl h0)
  · first
      | exact wpAny_bind (wpAny_rule (wpAny_bind (wpAny_standAt (wpAny_bind (wpAny_mono h (fun it' s' h' => wpAny_pure (And.intro rfl h')) fun _ _ x => x)))))
      | (refine wpAny_bind (wpAny_rule ?_); show wpAny _ _ (standAt i2.pos >>= _) _ _ s; exact wpAny_bind (wpAny_standAt (wpAny_bind (wpAny_mono h (fun it' s' h' => wpAny_pure (And.intro rfl h')) fun _ _ x => x))))
end
/-- what is left of the slots -/
def Wk (vs : List Nat) (σ σ' : L2.St) : Prop := σ'.length = σ.length ∧ ∀ (j : Nat) v, j ∉ vs → σ[j]? = some (some v) → σ'[j]? = some (some v)
/-- a turn's rest: tb tells it -/
def Body (XB : Cx) (D : Addr) (vs : List Nat) (rest : Sem Unit) (E : Value → Shared → Prop) (tb : L2.St → Hp → (Hp → Prop) → Prop) : Prop :=
  ∀ (pins : List (Addr × Obj)) (s : Shared) (σ : L2.St) (H : Hp) (Nx : Hp → Prop) (P : Shared → Prop), Inv XB pins σ H s → tb σ H Nx → (∀ σ' H' s', Inv XB pins σ' H' s' → Wk vs σ σ' → Nx H' → P s') → wpAny (model XB.prog XB.w) XB.A rest (fun _ s' => P s') E s
def tLvl (wi1 : TI) (g1 : TG) (tb : L2.St → Hp → (Hp → Prop) → Prop) (vs1 : List Nat) : L2.St → Hp → (Hp → Prop) → Prop := fun σ H Nx => wi1 σ H fun J1 H4 => ∃ W1 : Nat → Nat → Hp → Prop, (∃ m, W1 0 m H4) ∧ ∀ j k H, W1 j k H →
      (J1.stop j H ∧ Nx H) ∨ (J1.go j H ∧ ∃ Nx1 : Hp → Prop, (∀ H', Nx1 H' → ∃ k', k' < k ∧ W1 (j + 1) k' H') ∧ ∀ x H', J1.yld j H x H' → g1 x (wipe σ vs1) H' fun σ3 H5 => wipe σ3 vs1 = wipe σ vs1 ∧ tb σ3 H5 Nx1)
section
variable {X : Cx}
theorem body_in {XB : Cx} {D : Addr} {elt : Expr} {env : Env} {E : Value → Shared → Prop} {te : TE} (he : env = XB.env) (hx : XB.xe = fun _ _ => False) (pe : PE XB elt te) : Body XB D [] (restIn elt (.ref D) env) E fun σ H Nx => te σ H fun y H7 => ∃ acc, H7 D = some (.lst acc) ∧ acc.length < sizeLine ∧ Nx (upd H7 D (.lst (acc ++ [y]))) := by
  intro pins s σ H Nx P I h k
  subst he
  unfold restIn
  have z := pe.run pins s σ H _ I h
  rw [hx] at z
  refine wpAny_bind (thnF z fun z s17 q17 => ?_)
  obtain ⟨yv, H17, I17, r17, acc, hD17, hz17, nx⟩ := q17
  exact wpAny_bind (app_ok (X := XB) I17 hD17 hz17 r17 fun s18 I18 => wpAny_pure (k _ _ s18 I18 ⟨rfl, fun _ _ _ e => e⟩ nx))
theorem wk_fin {σ0 σ σ' : L2.St} {vs vs' : List Nat} (hv : ∀ i ∈ vs', i ∈ vs) (hw : wipe σ vs = wipe σ0 vs) (k : Wk vs' σ σ') : (wipe σ0 vs).length = σ'.length ∧ ∀ (j : Nat) v, (wipe σ0 vs)[j]? = some (some v) → σ'[j]? = some (some v) := by
  refine ⟨by rw [← hw, wipe_length, k.1], fun j v e => ?_⟩
  rw [← hw] at e
  obtain ⟨e1, e2⟩ := wipe_some e
  exact k.2 j v (fun z => e2 (hv j z)) e1
theorem wk_wipe {σ : L2.St} {vs vs' : List Nat} (hv : ∀ i ∈ vs', i ∈ vs) : Wk vs σ (wipe σ vs') := ⟨wipe_length _ _, fun j v h e => by rw [wipe_out fun z => h (hv j z)]; exact e⟩
/-- a clause behind the first -/
theorem body_mid {XB : Cx} {D : Addr} {elt t0 i0 t1 i1 t2 i2 tg iter : Expr} {scope : Scope} {pos p : Pos} {E : Value → Shared → Prop} {d : Nat} {wi1 : TI} {g1 : TG} {tb : L2.St → Hp → (Hp → Prop) → Prop} {vs1 vs2 : List Nat} {rest : Sem Unit} (hc : XB.calm = true) (hx : XB.xe = fun _ _ => False) (hv : ∀ i ∈ vs2, i ∈ vs1)
    (ht : ∀ it, TurnIs (L3 elt t0 i0 t1 i1 t2 i2 scope pos) d tg p it (.ref D) XB.env rest)
    (hst : ∀ {it : Value} {R : Result → Shared → Prop} {s : Shared}, codeAny (model XB.prog XB.w) XB.A (.compLoop (L3 elt t0 i0 t1 i1 t2 i2 scope pos) d it (.ref D) XB.env) R s →
      wpAny (model XB.prog XB.w) XB.A (pyIter it) (fun it' s' => codeAny (model XB.prog XB.w) XB.A (.compLoop (L3 elt t0 i0 t1 i1 t2 i2 scope pos) d it' (.ref D) XB.env) R s') (notedBy (model XB.prog XB.w) XB.A XB.env fun x s' => R (.error x) s') s →
      codeAny (model XB.prog XB.w) XB.A (.compStart (L3 elt t0 i0 t1 i1 t2 i2 scope pos) d it (.ref D) XB.env) R s)
    (pi : PI XB tg iter wi1) (pg : PG XB tg g1) (hb : ∀ E, Body XB D vs2 rest E tb) (hs : ∀ x, foldedSetIterable iter XB.env x = pure x) :
    Body XB D vs1 (restMid (L3 elt t0 i0 t1 i1 t2 i2 scope pos) iter d (.ref D) XB.env) E (tLvl wi1 g1 tb vs1) := by
  intro pins s σ H Nx P I h k
  refine restMid_ok (Q := fun _ s' => P s') hs ?_
  have z1 := pi.run pins s σ H _ I h
  rw [hx] at z1
  refine thnF z1 fun xv s10 hx10 => thnF hx10 fun itv s11 h11 => ?_
  obtain ⟨it1, fp1, tn1, J1, H11, e1, I11, T1, st11, f11, W1, ⟨m1, w1⟩, turn1⟩ := h11
  subst e1
  have loop1 : codeAny (model XB.prog XB.w) XB.A (.compLoop (L3 elt t0 i0 t1 i1 t2 i2 scope pos) d (.ref it1) (.ref D) XB.env)
      (fun r s' => match r with
        | .ok _ => P s'
        | .error _ => False) s11 := by
    refine compLoop_g (ht _) (fun k s' => ∃ j H', Inv XB pins (wipe σ vs1) H' s' ∧ tn1 j s'.heap ∧ (∀ b ∈ fp1, H' b = none) ∧ W1 j k H') ?_ m1 ⟨0, H11, I11.weak (wipe_length _ _) (fun j v e => (wipe_some e).1), st11, fun b hb => (f11 b hb).1, w1⟩
    rintro k1 s12 ⟨j, H12, I12, st12, n12, w12⟩
    have stat1 : ∀ {H' : Hp}, (∀ b ∈ fp1, H' b = none) → ∀ b ∈ fp1, FpOk XB pins H' b := fun hn b hb => ⟨hn b hb, (f11 b hb).2⟩
    rcases turn1 j k1 H12 w12 with ⟨stop1, nx1⟩ | ⟨go1, Nx1, hNx1, step1⟩
    · refine thnF (T1.done XB rfl rfl rfl hc j _ s12 (wipe σ vs1) H12 (fun _ _ => False) I12 (stat1 n12) st12 stop1) fun r s13 ⟨hr, I13⟩ => ?_
      subst hr
      exact k _ _ s13 I13 (wk_wipe fun i hi => hi) nx1
    · refine thnF (T1.item XB rfl rfl rfl hc j _ s12 (wipe σ vs1) H12 (fun _ _ => False) I12 (stat1 n12) st12 go1) fun r s13 ⟨u1, hr, h13⟩ => ?_
      subst hr
      refine thnF h13 fun _ s14 ⟨x1, H14, I14, r14, y14, st14, n14⟩ => ?_
      have I14' := I14.pinned (stat1 n14) (T1.obj _ _ st14)
      have z2 := pg.run _ s14 (wipe σ vs1) H14 x1 u1 _ I14' r14 (step1 x1 H14 y14)
      rw [hx] at z2
      refine thnF z2 fun _ s15 ⟨σ15, H15, I15, hw15, q15⟩ => ?_
      refine hb _ _ s15 σ15 H15 Nx1 _ I15 q15 fun σ' H' s' I' wk nx => ?_
      obtain ⟨m', hm, w'⟩ := hNx1 H' nx
      have pin' : ∀ b ∈ fp1, ∀ o, s14.heap.get? b = some o → s'.heap.get? b = some o ∧ H' b = none := fun b hb o e =>
        let z := I'.pin (b, o) (List.mem_append_right _ (List.mem_append_right _ (mem_pinsAt hb e)))
        ⟨z.1, z.2.1⟩
      obtain ⟨wl, wv⟩ := wk_fin hv hw15 wk
      refine ⟨m', hm, j + 1, H', I'.unpinned.weak wl wv, T1.keep _ _ _ st14 fun b hb o e => (pin' b hb o e).1, fun b hb => ?_, w'⟩
      obtain ⟨o, e, _⟩ := T1.obj _ _ st14 b hb
      exact (pin' b hb o e).2
  exact hst loop1 (T1.self XB.A 0 _ _ _ st11 loop1)
end
section
variable {X : Cx}
def tIn (te : TE) (D : Addr) : L2.St → Hp → (Hp → Prop) → Prop := fun σ H Nx => te σ H fun y H7 => ∃ acc, H7 D = some (.lst acc) ∧ acc.length < sizeLine ∧ Nx (upd H7 D (.lst (acc ++ [y])))
def tLc3 (wi : TI) (g : TG) (tb : Addr → L2.St → Hp → (Hp → Prop) → Prop) (vs : List Nat) : TE := fun σ H Q => wi σ H fun J H1 => ∀ D, H1 D = none → ∃ W : Nat → Nat → Hp → Prop, (∃ m, W 0 m (upd H1 D (.lst []))) ∧ ∀ i m H, W i m H →
  (J.stop i H ∧ Q (.ref D) H) ∨ (J.go i H ∧ ∃ Nx : Hp → Prop, (∀ H', Nx H' → ∃ m', m' < m ∧ W (i + 1) m' H') ∧ ∀ x H', J.yld i H x H' → g x (wipe σ vs) H' fun σ2 H2 => wipe σ2 vs = wipe σ vs ∧ tb D σ2 H2 Nx)
theorem lc3_core {pins : List (Addr × Obj)} {s : Shared} {σ : L2.St} {H : Hp} {Q : VK} {elt tg iter tg1 iter1 tg2 iter2 : Expr} {scope : Scope} {own : List (Str × Nat)} {vs1 : List Nat} {pos pos' : Pos} {wi : TI} {g : TG} {tb : Addr → L2.St → Hp → (Hp → Prop) → Prop} {use : Option (Value → Sem Unit)} {Qf : Value → Shared → Prop}
    (hc : X.calm = true) (hN : X.N.Nodup) (I : Inv X pins σ H s) (hi : PI X tg iter wi) (ok : BlkOk X.N X.env.scope scope own) (hv : ∀ i ∈ vs1, i ∈ own.map (·.2))
    (hg : ∀ (s : Shared) (H : Hp) (C : Addr) (cl : List (Str × Addr)) (fp : List Addr), PG (X.blk s H scope (compEnvC scope cl C X.env) fp) tg g)
    (hs : ∀ x, foldedSetIterable iter X.env x = pure x)
    (hb : ∀ (s : Shared) (H : Hp) (C : Addr) (cl : List (Str × Addr)) (fp : List Addr) (D : Addr) (E : Value → Shared → Prop), Body (X.blk s H scope (compEnvC scope cl C X.env) fp) D vs1 (restMid (L3 elt tg iter tg1 iter1 tg2 iter2 scope pos) iter1 1 (.ref D) (compEnvC scope cl C X.env)) E (tb D))
    (h : tLc3 wi g tb (own.map (·.2)) σ H Q)
    (hRR : ∀ D C s' m H', Inv X pins σ H' s' → Q (.ref D) H' → s'.heap.Ns C m → FpOk X pins H' C → compPost (model X.prog X.w) X.A X.xe use Qf (.ref D) C (.ok .next) s') :
    wpAny (model X.prog X.w) X.A (comprehension (L3 elt tg iter tg1 iter1 tg2 iter2 scope pos) scope X.env pos' (newList []) false (eval iter X.env) use) Qf X.xe s := by
  have hfree : ∀ y ∈ scope.names, y.2 = .free → ∃ c, X.env.cells.lookup y.1 = some c := fun y hy e => by
    rcases ok.free y hy e with k | k
    · exact I.ok.has _ (.inl k)
    · exact I.ok.has _ (.inr k)
  refine wpAny_comprehension_free (use := use) rfl hs (closure_ok hfree) ok.kind (fun y hy e => by rw [ok.uniq y hy, e])
    (thn (hi.run pins s σ H _ I h) fun xv s1 hx => thn hx fun itv s2 h2 => ?_)
  obtain ⟨it, fp, tn, J, H2, e, I2, T, st2, f2, q⟩ := h2
  subst e
  refine wpAny_newObj_type (newEnv_comp ?_) (by show 0 ≤ sizeLine; decide)
  generalize hD : s2.heap.objs.size = D
  have hDn : H2 D = none := I2.hok.fresh (Nat.le_of_eq hD)
  obtain ⟨W, ⟨m0, w0⟩, turn⟩ := q D hDn
  -- the new list
  generalize hs3 : ({ s2 with heap := s2.heap.push { cls := .type "list", data := .seq ([] : List Value).toArray } } : Shared) = s3
  have I3 : Inv X pins σ (upd H2 D (.lst [])) s3 := by
    rw [← hs3]
    refine I2.laid (t' := s2.toks) (fun b o e => Heap.get?_push_of_some _ e) (Nat.le_of_eq hD) ⟨Nat.zero_le _, [], 0, .nil, ?_⟩
    rw [← hD]
    exact Heap.get?_push_size _ rfl
  have h3 : s3.heap = s2.heap.push { cls := .type "list", data := .seq ([] : List Value).toArray } := by rw [← hs3]
  have sz : ∀ b ∈ fp, b < s2.heap.objs.size := fun b hb => by
    obtain ⟨o, e, _⟩ := T.obj _ _ st2 b hb
    exact Heap.lt_size e
  have f3 : ∀ b ∈ fp, FpOk X pins (upd H2 D (.lst [])) b ∧ b < s3.heap.objs.size := fun b hb => by
    have hlt := sz b hb
    refine ⟨⟨?_, (f2 b hb).2⟩, by rw [h3, Heap.size_push]; exact Nat.lt_succ_of_lt hlt⟩
    rw [upd_ne (by rw [← hD]; exact Nat.ne_of_lt hlt)]
    exact (f2 b hb).1
  have st3 : tn 0 s3.heap := T.keep _ _ _ st2 fun b _ o e => by rw [h3]; exact Heap.get?_push_of_some _ e
  have I4 := block_start I3 ok hN f3
  have pg := hg s3 (upd H2 D (.lst [])) s3.heap.objs.size (cellsFrom (s3.heap.objs.size + 1) scope.names (cloFrom X.env.cells scope.names [])) fp
  have pb := hb s3 (upd H2 D (.lst [])) s3.heap.objs.size (cellsFrom (s3.heap.objs.size + 1) scope.names (cloFrom X.env.cells scope.names [])) fp D
  show codeAny _ _ (.compStart (L3 elt tg iter tg1 iter1 tg2 iter2 scope pos) 0 (.ref it) (.ref D) (compEnvC scope (cellsFrom (s3.heap.objs.size + 1) scope.names (cloFrom X.env.cells scope.names [])) s3.heap.objs.size X.env)) (compPost (model X.prog X.w) X.A X.xe use Qf (.ref D) s3.heap.objs.size) { s3 with heap := pushCells (s3.heap.push { cls := .type "dict", data := .dict #[] }) scope.names }
  have nfp : ∀ b ∈ fp, (upd H2 D (.lst [])) b = none := fun b hb => (f3 b hb).1.1
  generalize hce : compEnvC scope (cellsFrom (s3.heap.objs.size + 1) scope.names (cloFrom X.env.cells scope.names [])) s3.heap.objs.size X.env = ce at I4 pg pb ⊢
  have cL : ce.locals = s3.heap.objs.size := by subst hce; rfl
  generalize hH3 : upd H2 D (.lst []) = H3 at I3 I4 pg pb w0 nfp f3
  generalize hs4 : ({ s3 with heap := pushCells (s3.heap.push { cls := .type "dict", data := .dict #[] }) scope.names } : Shared) = s4 at I4 ⊢
  have st4 : tn 0 s4.heap := T.keep _ _ _ st3 fun b _ o e => by rw [← hs4]; exact pushCells_keeps _ _ _ _ (Heap.get?_push_of_some _ e)
  have stat : ∀ {σ' : L2.St} {H' : Hp} {s' : Shared}, Inv (X.blk s3 H3 scope ce fp) [] σ' H' s' → (∀ b ∈ fp, H' b = none) → ∀ b ∈ fp, FpOk (X.blk s3 H3 scope ce fp) [] H' b := fun {σ' H' s'} I' hn b hb =>
    ⟨hn b hb, (I'.ok.exf b hb).1, I'.ok.exfs b hb, .inl hb, fun x c e => (I'.ok.exf b hb).2 x c e, fun p hp => absurd (show p ∈ ([] : List (Addr × Obj)) ++ [] from hp) (by simp)⟩
  have loop : codeAny (model X.prog X.w) X.A (.compLoop (L3 elt tg iter tg1 iter1 tg2 iter2 scope pos) 0 (.ref it) (.ref D) ce) (compPost (model X.prog X.w) X.A X.xe use Qf (.ref D) s3.heap.objs.size) s4 := by
    refine compLoop_g (turn3_0 _ _ _ _ _ _ _ _ _ _ _ _) (fun n s' => ∃ i H', Inv (X.blk s3 H3 scope ce fp) [] (wipe σ (own.map (·.2))) H' s' ∧ tn i s'.heap ∧ (∀ b ∈ fp, H' b = none) ∧ W i n H') ?_ m0 ⟨0, H3, I4, st4, nfp, w0⟩
    rintro n s5 ⟨i, H5, I5, st5, n5, w5⟩
    rcases turn i n H5 w5 with ⟨stop, qq⟩ | ⟨go, Nx, hNx, step⟩
    · have td := T.done (X.blk s3 H3 scope ce fp) rfl rfl rfl hc i [] s5 _ H5 (fun _ _ => False) I5 (stat I5 n5) st5 stop
      refine thnF td fun r s6 ⟨hr, I6⟩ => ?_
      subst hr
      -- back in the def's context
      have I7 : Inv X pins σ H5 s6 := I3.call' (ch := fp) I6.os I6.base I6.hok I6.bare fun b hb => ⟨(f3 b hb).1.2.2.2.1, (f3 b hb).1.2.1, (f3 b hb).1.2.2.2.2.1, (f3 b hb).1.2.2.2.2.2⟩
      have nC : H5 s3.heap.objs.size = none := by
        have z : H5 ce.locals = none := I6.free
        rw [cL] at z
        exact z
      obtain ⟨m, hn, _⟩ := I6.loc
      have hn : s6.heap.Ns ce.locals m := hn
      rw [cL] at hn
      exact hRR D s3.heap.objs.size s6 m H5 I7 qq hn (I3.fpOk (Nat.le_refl _) nC)
    · have ti := T.item (X.blk s3 H3 scope ce fp) rfl rfl rfl hc i [] s5 _ H5 (fun _ _ => False) I5 (stat I5 n5) st5 go
      refine thnF ti fun r s6 ⟨u, hr, h6⟩ => ?_
      subst hr
      refine thnF h6 fun _ s7 ⟨x, H7, I7, r7, y7, st7, n7⟩ => ?_
      have I7' := I7.pinned (stat I7 n7) (T.obj _ _ st7)
      refine thnF (pg.run _ s7 _ H7 x u _ I7' r7 (step x H7 y7)) fun _ s8 ⟨σ8, H8, I8, hw8, q8⟩ => ?_
      refine pb _ _ s8 σ8 H8 Nx _ I8 q8 fun σ9 H' s' I' wk nx => ?_
      obtain ⟨m', hm, w'⟩ := hNx H' nx
      have pin' : ∀ b ∈ fp, ∀ o, s7.heap.get? b = some o → s'.heap.get? b = some o ∧ H' b = none := fun b hb o e =>
        let z := I'.pin (b, o) (List.mem_append_right _ (List.mem_append_right _ (mem_pinsAt hb e)))
        ⟨z.1, z.2.1⟩
      obtain ⟨wl, wv⟩ := wk_fin hv hw8 wk
      refine ⟨m', hm, i + 1, H', (I'.unpinned (pins := [])).weak wl wv, T.keep _ _ _ st7 fun b hb o e => (pin' b hb o e).1, fun b hb => ?_, w'⟩
      obtain ⟨o, e, _⟩ := T.obj _ _ st7 b hb
      exact (pin' b hb o e).2
  exact codeAny_compStart_list loop (T.self X.A 0 _ _ _ st4 loop)
theorem pe_lc3 {elt tg iter tg1 iter1 tg2 iter2 : Expr} {scope : Scope} {own : List (Str × Nat)} {vs1 : List Nat} {pos : Pos} {wi : TI} {g : TG} {tb : Addr → L2.St → Hp → (Hp → Prop) → Prop} (hc : X.calm = true) (hN : X.N.Nodup) (hi : PI X tg iter wi) (ok : BlkOk X.N X.env.scope scope own) (hv : ∀ i ∈ vs1, i ∈ own.map (·.2))
    (hg : ∀ (s : Shared) (H : Hp) (C : Addr) (cl : List (Str × Addr)) (fp : List Addr), PG (X.blk s H scope (compEnvC scope cl C X.env) fp) tg g)
    (hb : ∀ (s : Shared) (H : Hp) (C : Addr) (cl : List (Str × Addr)) (fp : List Addr) (D : Addr) (E : Value → Shared → Prop), Body (X.blk s H scope (compEnvC scope cl C X.env) fp) D vs1 (restMid (L3 elt tg iter tg1 iter1 tg2 iter2 scope pos) iter1 1 (.ref D) (compEnvC scope cl C X.env)) E (tb D))
    (hs : ∀ x, foldedSetIterable iter X.env x = pure x := by intro _; rfl) :
    PE X (L3 elt tg iter tg1 iter1 tg2 iter2 scope pos) (tLc3 wi g tb (own.map (·.2))) := by
  refine ⟨fun pins s σ H Q I h => ?_⟩
  rw [eval_ListComp]
  refine lc3_core hc hN I hi ok hv hg hs hb h fun D C s' m H' I' q hn f => ⟨m, hn, fun h'' sb => ?_⟩
  obtain ⟨f0, f1, f2, f3, f4, f5⟩ := f
  exact ⟨.ref D, H', I'.turned (t' := s'.toks) (fun b o hb e => (sb.2 b hb).trans e) f0 f1 f3 f4 f5, rfl, q⟩
end
/-! ### data -/
abbrev RB := En → Option (List PyData)
/-- what a turn's rest adds to the list at D -/
def tRB (P : Program) (w : World) (r : RB) (D : Addr) : L2.St → Hp → (Hp → Prop) → Prop := fun σ H Nx => ∃ F0 H0 F1 H1 F env ys xs, H1 D = none ∧ Same F1 F ∧ (∀ F'' H'' ys', Same F F'' → Acc P w F1 H1 D ys' F'' H'' → Rel P w F0 H0 F'' H'' σ env) ∧ Acc P w F1 H1 D ys F H ∧ r env = some xs ∧ (ys ++ xs).length ≤ 100000 ∧ ∀ F'' H'', Same F F'' → Acc P w F1 H1 D (ys ++ xs) F'' H'' → Nx H''
noncomputable def rbIn (re : RE) : RB := fun env => bd (re env) fun y => some [y]
noncomputable def rbLvl (r1 : RA) (b1 : PyData → En → Option En) (rb : RB) (vs1 : List Nat) : RB := fun env => bd (r1 env) fun ds => loopCat (fun d => bd (b1 d (wipeE env vs1)) rb) ds
section
variable {P : Program} {w : World}
theorem tIn_of {re : RE} {D : Addr} : ∀ σ H Nx, tRB P w (rbIn re) D σ H Nx → tIn (tE P w re) D σ H Nx := by
  rintro σ H Nx ⟨F0, H0, F1, H1, F, env, ys, xs, n, s1, R, A, hr, hz, k⟩
  obtain ⟨y, h1, h2⟩ := bd_some hr
  cases h2
  refine ⟨F0, H0, F, env, y, R F H ys (.refl _) A, h1, fun v F2 H2 g2 n2 => ?_⟩
  obtain ⟨acc, e1, e2, A6⟩ := (A.grow g2).put n n2 (by simp only [List.length_append, List.length_cons, List.length_nil] at hz; omega)
  exact ⟨acc, e1, e2, k _ _ g2.ff A6⟩
theorem tLvl_of {ρ : Ro} {r1 : RA} {b1 : PyData → En → Option En} {rb : RB} {js vs1 : List Nat} {D : Addr} {tb : L2.St → Hp → (Hp → Prop) → Prop} (mono : RoMono ρ) (hjs : ∀ j ∈ js, j ∈ vs1) (hb : ∀ σ H Nx, tRB P w rb D σ H Nx → tb σ H Nx) :
    ∀ σ H Nx, tRB P w (rbLvl r1 b1 rb vs1) D σ H Nx → tLvl (tI P w ρ r1) (tG P w ρ b1 js) tb vs1 σ H Nx := by
  rintro σ H Nx ⟨F0, H0, F1, H1, F, env, ys, xs, n, s1, R, A, hr, hz, k⟩
  obtain ⟨ds, h1, h2⟩ := bd_some hr
  refine ⟨F0, H0, F, env, ds, R F H ys (.refl _) A, h1, fun J F2 H2 g2 W => ?_⟩
  refine walk_it W (fun i H => ∃ F' ys1 zs1, Acc P w F1 H1 D (ys ++ ys1) F' H ∧ Same F2 F' ∧ loopCat (fun d => bd (b1 d (wipeE env vs1)) rb) (ds.drop i) = some zs1 ∧ xs = ys1 ++ zs1) ⟨F2, [], xs, by simpa using A.grow g2, .refl _, h2, rfl⟩ (fun i H hi ⟨F', ys1, zs1, A', s', _⟩ => s'.trans A'.g.fh) ?_ ?_
  · rintro i x H3 H4 hi ⟨F', ys1, zs1, A', s', hl, e⟩ ⟨d, F3, hd, hx, g3⟩
    have hdrop : ds.drop i = d :: ds.drop (i + 1) := by
      obtain ⟨h1, h2⟩ := List.getElem?_eq_some_iff.mp hd
      rw [List.drop_eq_getElem_cons h1, h2]
    rw [hdrop] at hl
    obtain ⟨xs', zs', ho, hl', ez⟩ := loopCat_cons hl
    subst ez
    obtain ⟨env1, hb1, h6⟩ := bd_some ho
    obtain ⟨F4, g4, s4⟩ := Grow.join (R F' H3 _ (g2.ff.trans s') A').noT s' A'.g.fh g3
    have s4' : Same F F4 := g2.ff.trans (s'.trans g4.ff)
    have A4 := A'.grow g4
    have R4 : ∀ F'' H'' ys', Same F4 F'' → Acc P w F1 H1 D ys' F'' H'' → Rel P w F0 H0 F'' H'' (wipe σ vs1) (wipeE env vs1) := fun F'' H'' ys' s'' A'' => (R F'' H'' ys' (s4'.trans s'') A'').wipe vs1
    refine ⟨F0, H0, F4, wipeE env vs1, d, env1, R4 _ _ _ (.refl _) A4, mono _ _ _ _ _ s4 hx, hb1, fun us hu e2 => ⟨wipe_outs hjs (Outs.all fun u h => (hu u h).1), hb _ _ _ ⟨F0, H0, F1, H1, F4, env1, ys ++ ys1, xs', n, s1.trans s4', fun F'' H'' ys' s'' A'' => ?_, A4, h6, ?_, fun F'' H'' s'' A'' => ?_⟩⟩⟩
    · rw [e2]
      exact (R4 _ _ _ s'' A'').setAll (hu.mono s'')
    · rw [e] at hz
      simp only [List.length_append] at hz ⊢
      omega
    · exact ⟨F'', ys1 ++ xs', zs', by rw [← List.append_assoc]; exact A'', (s'.trans g4.ff).trans s'', hl', by rw [e, List.append_assoc]⟩
  · rintro H3 ⟨F', ys1, zs1, A', s', hl, e⟩
    rw [List.drop_length] at hl
    cases hl
    rw [List.append_nil] at e
    subst e
    exact k _ _ (g2.ff.trans s') A'
noncomputable def eLc3 (r : RA) (b : PyData → En → Option En) (rb : RB) (vs : List Nat) : RE := fun env => bd (r env) fun ds => bd (loopCat (fun d => bd (b d (wipeE env vs)) rb) ds) short
theorem lcE3 {ρ : Ro} {r : RA} {b : PyData → En → Option En} {rb : RB} {js vs : List Nat} {tb : Addr → L2.St → Hp → (Hp → Prop) → Prop} (mono : RoMono ρ) (hjs : ∀ j ∈ js, j ∈ vs) (hb : ∀ D σ H Nx, tRB P w rb D σ H Nx → tb D σ H Nx) :
    ∀ σ H Q, tE P w (eLc3 r b rb vs) σ H Q → tLc3 (tI P w ρ r) (tG P w ρ b js) tb vs σ H Q := by
  rintro σ H Q ⟨F0, H0, F, env, z, R, hr, k⟩
  obtain ⟨ds, h1, h2⟩ := bd_some hr
  obtain ⟨total, h3, h4⟩ := bd_some h2
  obtain ⟨hz, h5⟩ := bIf_some h4
  cases h5
  have hz := ble_le hz
  rw [len_eq] at hz
  refine ⟨F0, H0, F, env, ds, R, h1, fun J F1 H1 g1 W D n => ?_⟩
  have R1 := (R.grow g1).wipe vs
  refine walk_it W (fun i H => ∃ F' ys zs, Acc P w F1 H1 D ys F' H ∧ loopCat (fun d => bd (b d (wipeE env vs)) rb) (ds.drop i) = some zs ∧ total = ys ++ zs) ⟨F1, [], total, Acc.start g1.fh n, h3, rfl⟩ (fun i H hi ⟨F', ys, zs, A, _⟩ => A.g.ff.trans A.g.fh) ?_ ?_
  · rintro i x H2 H3 hi ⟨F', ys, zs, A, hl, e⟩ ⟨d, F2, hd, hx, g2⟩
    have hdrop : ds.drop i = d :: ds.drop (i + 1) := by
      obtain ⟨h1, h2⟩ := List.getElem?_eq_some_iff.mp hd
      rw [List.drop_eq_getElem_cons h1, h2]
    rw [hdrop] at hl
    obtain ⟨xs, zs', ho, hl', ez⟩ := loopCat_cons hl
    subst ez
    obtain ⟨env1, hb1, h6⟩ := bd_some ho
    obtain ⟨F3, g3, s3⟩ := Grow.join (R1.grow A.g).noT A.g.ff A.g.fh g2
    have R3 := (R1.grow A.g).grow g3
    have A3 := A.grow g3
    refine ⟨F0, H0, F3, wipeE env vs, d, env1, R3, mono _ _ _ _ _ s3 hx, hb1, fun us hu e2 => ⟨wipe_outs hjs (Outs.all fun u h => (hu u h).1), hb _ _ _ _ ⟨F0, H0, F1, H1, F3, env1, ys, xs, n, A.g.ff.trans g3.ff, fun F'' H'' ys' s'' A'' => ?_, A3, h6, ?_, fun F'' H'' s'' A'' => ?_⟩⟩⟩
    · rw [e2]
      exact (R1.grow A''.g).setAll (hu.mono s'')
    · rw [e] at hz
      simp only [List.length_append] at hz ⊢
      omega
    · exact ⟨F'', ys ++ xs, zs', A'', hl', by rw [e, List.append_assoc]⟩
  · rintro H2 ⟨F', ys, zs, A, hl, e⟩
    rw [List.drop_length] at hl
    cases hl
    rw [List.append_nil] at e
    subst e
    obtain ⟨F'', g, dn⟩ := A.done n
    exact k _ F'' H2 (g1.trans g) dn
end
section
variable {X : Cx} {elt tg iter tg1 iter1 tg2 iter2 : Expr} {scope : Scope} {own : List (Str × Nat)} {pos : Pos} {r r1 r2 : RA} {ρ ρ1 ρ2 : Ro} {b b1 b2 : PyData → En → Option En} {js js1 js2 vs1 vs2 : List Nat} {re : RE}
theorem je_lc3 (hc : X.calm = true) (hN : X.N.Nodup) (mono : RoMono ρ) (mono1 : RoMono ρ1) (mono2 : RoMono ρ2) (hi : JI X ρ tg iter r) (ok : BlkOk X.N X.env.scope scope own) (hv : ∀ i ∈ vs1, i ∈ own.map (·.2)) (hv2 : ∀ i ∈ vs2, i ∈ vs1)
    (hg : ∀ (s : Shared) (H : Hp) (C : Addr) (cl : List (Str × Addr)) (fp : List Addr), JG (X.blk s H scope (compEnvC scope cl C X.env) fp) ρ tg b js)
    (hi1 : ∀ (s : Shared) (H : Hp) (C : Addr) (cl : List (Str × Addr)) (fp : List Addr), JI (X.blk s H scope (compEnvC scope cl C X.env) fp) ρ1 tg1 iter1 r1)
    (hg1 : ∀ (s : Shared) (H : Hp) (C : Addr) (cl : List (Str × Addr)) (fp : List Addr), JG (X.blk s H scope (compEnvC scope cl C X.env) fp) ρ1 tg1 b1 js1)
    (hi2 : ∀ (s : Shared) (H : Hp) (C : Addr) (cl : List (Str × Addr)) (fp : List Addr), JI (X.blk s H scope (compEnvC scope cl C X.env) fp) ρ2 tg2 iter2 r2)
    (hg2 : ∀ (s : Shared) (H : Hp) (C : Addr) (cl : List (Str × Addr)) (fp : List Addr), JG (X.blk s H scope (compEnvC scope cl C X.env) fp) ρ2 tg2 b2 js2)
    (he : ∀ (s : Shared) (H : Hp) (C : Addr) (cl : List (Str × Addr)) (fp : List Addr), JE (X.blk s H scope (compEnvC scope cl C X.env) fp) elt re) (hjs : ∀ j ∈ js, j ∈ own.map (·.2)) (hjs1 : ∀ j ∈ js1, j ∈ vs1) (hjs2 : ∀ j ∈ js2, j ∈ vs2)
    (hs : ∀ x, foldedSetIterable iter X.env x = pure x := by intro _; rfl) (hs1 : ∀ env x, foldedSetIterable iter1 env x = pure x := by intro _ _; rfl) (hs2 : ∀ env x, foldedSetIterable iter2 env x = pure x := by intro _ _; rfl) :
    JE X (.ListComp elt [⟨tg, iter, [], 0⟩, ⟨tg1, iter1, [], 0⟩, ⟨tg2, iter2, [], 0⟩] scope pos) (eLc3 r b (rbLvl r1 b1 (rbLvl r2 b2 (rbIn re) vs2) vs1) (own.map (·.2))) := by
  refine PE.imp (pe_lc3 (tb := fun D => tLvl (tI X.prog X.w ρ1 r1) (tG X.prog X.w ρ1 b1 js1) (tLvl (tI X.prog X.w ρ2 r2) (tG X.prog X.w ρ2 b2 js2) (tIn (tE X.prog X.w re) D) vs2) vs1) hc hN hi.pi ok hv (fun s H C cl fp => (hg s H C cl fp).pg) (fun s H C cl fp D E => ?_) hs)
    (lcE3 mono hjs fun D => tLvl_of mono1 hjs1 (tLvl_of mono2 hjs2 tIn_of))
  have hc' : (X.blk s H scope (compEnvC scope cl C X.env) fp).calm = true := hc
  refine body_mid (XB := X.blk s H scope (compEnvC scope cl C X.env) fp) hc' rfl hv2 (fun it => turn3_1 _ _ _ _ _ _ _ _ _ _ _ _) compStart3_1 (hi1 s H C cl fp).pi (hg1 s H C cl fp).pg (fun E' => ?_) (hs1 _)
  refine body_mid (XB := X.blk s H scope (compEnvC scope cl C X.env) fp) (vs2 := []) hc' rfl (fun i hi => nomatch hi) (fun it => turn3_2 _ _ _ _ _ _ _ _ _ _ _ _) compStart3_2 (hi2 s H C cl fp).pi (hg2 s H C cl fp).pg (fun E'' => ?_) (hs2 _)
  exact body_in rfl rfl (he s H C cl fp)
end
end K67
set_option Elab.async false
set_option linter.all false
set_option maxRecDepth 100000
set_option maxHeartbeats 4000000
namespace K67
open PySem PySem.Spec PyProof.Rows L2
variable [TabA]
/-! ### own dicts in the slots -/
section
variable {P : Program} {w : World} {F H F0 H0 : Hp} {σ : L2.St} {env : En} {i : Nat}
theorem Rel.od (R : Rel P w F0 H0 F H σ env) {kds : KD} (h0 : env[i]? = some (.od kds)) : ∃ p es, σ[i]? = some (some (.ref p)) ∧ H p = some (dN P w p es) ∧ DnEs P w F es kds ∧ F p = none ∧ H0 p = none := by
  obtain ⟨q, so, hso, ok⟩ := R.get h0
  cases so with
  | none => exact ok.elim
  | some v =>
    obtain ⟨rfl, f, z, es, h, r⟩ := ok
    exact ⟨q, es, hso, h, r, f, z⟩
/-- slot i's own dict is frozen -/
theorem Rel.frzD (R : Rel P w F0 H0 F H σ env) {kds : KD} (h0 : env[i]? = some (.od kds)) {p : Addr} {es : List Ent} (hs : σ[i]? = some (some (.ref p))) (hp : H p = some (dN P w p es)) (r : DnEs P w F es kds) (fp : F p = none) (zp : H0 p = none) (o : Obj) :
    ∃ F', Rel P w F0 H0 F' (upd H p (.frz o (dN P w p es))) σ (env.set i (.fz (.dict kds))) ∧ Same F F' := by
  have hi' : i < σ.length := by rw [R.len]; exact (List.getElem?_eq_some_iff.mp h0).1
  have mono : Same F (upd F p (.frz o (dN P w p es))) := fun a u e => by rw [upd_ne (ne_of_none e fp)]; exact e
  have e1 : σ[i] = some (.ref p) := by
    have := List.getElem?_eq_getElem hi'
    rw [hs] at this
    exact (Option.some.inj this).symm
  have e3 : σ.set i (some (.ref p)) = σ := by rw [← e1]; exact List.set_getElem_self hi'
  refine ⟨upd F p (.frz o (dN P w p es)), ?_, mono⟩
  rw [← e3]
  refine R.put (p := p) ((R.g.wr fp zp).frz fp zp upd_same) (.dic upd_same (r.mono mono)) (fun q' so s' s hq => ?_) fun q' h1' h2' j s' ne hj oj e => ?_
  · cases so with
    | none => cases s' <;> exact s
    | some v =>
      cases s' with
      | no => trivial
      | fz d => exact Dn.mono mono s
      | rg lo hi => obtain ⟨a, e, h⟩ := s; exact ⟨a, e, mono _ _ h⟩
      | fn dc de => exact FnIn.mono mono s
      | ol ds =>
        obtain ⟨e, f, z, xs, h, r⟩ := s
        exact ⟨e, by rw [upd_ne (hq trivial)]; exact f, z, xs, by rw [upd_ne (hq trivial)]; exact h, r.mono mono⟩
      | od kds =>
        obtain ⟨e, f, z, xs, h, r⟩ := s
        exact ⟨e, by rw [upd_ne (hq trivial)]; exact f, z, xs, by rw [upd_ne (hq trivial)]; exact h, r.mono mono⟩
  · have sj := h1' i _ (.od kds) hs h0
    have e4 : q' i = p := V.ref.inj sj.1.symm
    exact ne (h2' j i s' (.od kds) hj h0 oj trivial (e.trans e4.symm))
/-- an object made ahead, locked at the end -/
theorem Grow.lockNew {F2 H2 : Hp} {p : Addr} {o0 u : HO} (sm : Same F H) (n : H p = none) (g : Grow F (upd H p o0) F2 H2) (f2 : F2 p = none) (n0 : NT o0 := by exact trivial) (nu : NT u := by exact trivial) : Grow F H (upd F2 p u) (upd H2 p u) :=
  (((Grow.more sm n n0).trans g).wr f2 n nu).frz f2 n upd_same nu
theorem Grow.still {F' H' : Hp} {p : Addr} {o : HO} (g : Grow F H F' H') (f : F p = none) (h : H p = some o) : F' p = none := by
  cases q : F' p with
  | none => rfl
  | some x =>
    rcases g.fr p x q with z | z
    · rw [f] at z; cases z
    · rw [h] at z; cases z
end
/-! ### data -/
noncomputable def toDc (d : PyData) : Option KD := @PyData.casesOn (fun _ => Option KD) d none (fun _ => none) (fun _ => none) (fun _ => none) (fun _ => none) (fun _ => none) (fun kds => some kds)
theorem toDc_some {d : PyData} {b : KD} (h : toDc d = some b) : d = .dict b := by
  cases d <;> cases h
  rfl
noncomputable def ownD (env : En) (i : Nat) : Option KD := bd (nth env i) fun sv => @SV.rec (fun _ => Option KD) none (fun _ => none) (fun _ => none) (fun kds => some kds) (fun _ _ => none) (fun _ _ => none) sv
theorem ownD_some {env : En} {i : Nat} {rs : KD} (h : ownD env i = some rs) : env[i]? = some (.od rs) := by
  obtain ⟨sv, h1, h2⟩ := bd_some h
  rw [nth_eq] at h1
  cases sv <;> first | cases h2 | skip
  exact h1
noncomputable def sOwnD (i : Nat) : RS := fun env => some (.nx (put env i (.od [])))
noncomputable def sParD (i j : Nat) (r : RE) : RS := fun env => bd (r env) fun d => some (.nx (put (put env i (.fz d)) j (.od [])))
noncomputable def sPut (i : Nat) (rv rk : RE) : RS := fun env => bd (rv env) fun vd => bd (ownD env i) fun kds => bd (rk env) fun kd => bd (toTp kd) fun _ => bIf (keyOk 4 kd) (bIf (Nat.ble (len kds) 100000) (some (.nx (put env i (.od (storeD kd vd kds))))) none) none
noncomputable def sFrzD (i : Nat) (s : RS) : RS := fun env => bd (ownD env i) fun kds => s (put env i (.fz (.dict kds)))
noncomputable def dGetK (d kd : PyData) : Option PyData := bd (toDc d) fun kds => bIf (keyOk 4 kd) (findD kd kds) none
noncomputable def dLenD (d : PyData) : Option PyData := bd (toDc d) fun kds => some (.int (Int.ofNat (len kds)))
noncomputable def keysD (kds : KD) : List PyData := @List.rec (PyData × PyData) (fun _ => List PyData) [] (fun p _ ih => p.1 :: ih) kds
noncomputable def tupK (kds : KD) : Bool := @List.rec (PyData × PyData) (fun _ => Bool) false (fun p _ _ => @PyData.casesOn (fun _ => Bool) p.1 false (fun _ => false) (fun _ => false) (fun _ => false) (fun _ => false) (fun _ => true) (fun _ => false)) kds
noncomputable def intK (kds : KD) : Bool := @List.rec (PyData × PyData) (fun _ => Bool) false (fun p _ _ => @PyData.casesOn (fun _ => Bool) p.1 false (fun _ => false) (fun _ => true) (fun _ => false) (fun _ => false) (fun _ => false) (fun _ => false)) kds
noncomputable def iKeys (r : RE) : RA := fun env => bd (r env) fun d => bd (toDc d) fun kds => bIf (tupK kds) (some (keysD kds)) none
noncomputable def itemsD (kds : KD) : List PyData := @List.rec (PyData × PyData) (fun _ => List PyData) [] (fun p _ ih => .tuple [p.1, p.2] :: ih) kds
noncomputable def iItems (r : RE) : RA := fun env => bd (r env) fun d => bd (toDc d) fun kds => bIf (intK kds) (some (itemsD kds)) none
noncomputable def eDict1 (rk rv : RE) : RE := fun env => bd (rk env) fun kd => bd (rv env) fun vd => bd (toTp kd) fun _ => bIf (keyOk 4 kd) (some (.dict [(kd, vd)])) none
noncomputable def eDictI (rk rv : RE) : RE := fun env => bd (rk env) fun kd => bd (rv env) fun vd => bd (toI kd) fun _ => some (.dict [(kd, vd)])
section
variable {P : Program} {w : World} {F : Hp}
theorem DnKs.length : ∀ {es : List (Key × V)} {kds : KD}, DnKs P w F es kds → es.length = kds.length
  | _, _, .nil => rfl
  | _, _, .cons _ r => by simp [DnKs.length r]
theorem keyOf_ref {q : Addr} {d : PyData} {k : NestedKey} (h : Dn P w F (.ref q) d) (hk : keyOf d = some k) : ∃ ds, d = .tuple ds := by
  rcases keyOf_nil hk with ⟨i, rfl⟩ | ⟨ds, rfl⟩
  · cases h
  · exact ⟨ds, rfl⟩
theorem find_tupI {ds : List PyData} {vd : PyData} : ∀ {es : List (Key × V)} {kds : KD}, DnKs P w F es kds → findD (.tuple ds) kds = some vd → False
  | _, _, .nil, h => by cases h
  | _, _, .cons (i := i) (vd := vd') (kds := kds) c r, h => by
    have h : bIf (eqD 4 (.int i) (.tuple ds)) (some vd') (findD (.tuple ds) kds) = some vd := h
    rw [eqD_eq, PyData.eqv] at h
    exact find_tupI r h
theorem find_intN {i : Int} {vd : PyData} : ∀ {es : List Ent} {kds : KD}, DnEs P w F es kds → findD (.int i) kds = some vd → False
  | _, _, .nil, h => by cases h
  | (k', q', v') :: es, (kd', vd') :: kds, .cons a b c r, h => by
    have h : bIf (eqD 4 kd' (.int i)) (some vd') (findD (.int i) kds) = some vd := h
    obtain ⟨ds, rfl⟩ := keyOf_ref a b
    rw [eqD_eq, PyData.eqv] at h
    exact find_intN r h
theorem dnks_find {i : Int} {vd : PyData} : ∀ {es : List (Key × V)} {kds : KD}, DnKs P w F es kds → findD (.int i) kds = some vd → ∃ v, valV es (.inl i) = some v ∧ Dn P w F v vd
  | _, _, .nil, h => by cases h
  | _, _, .cons (i := j) (v := v) (kvs := es) (vd := vd') (kds := kds) c r, h => by
    have h : bIf (eqD 4 (.int j) (.int i)) (some vd') (findD (.int i) kds) = some vd := h
    rw [eqD_eq, PyData.eqv] at h
    by_cases e : j = i
    · subst e
      rw [beq_self_eq_true] at h
      cases h
      exact ⟨v, valV_pos rfl, c⟩
    · rw [beq_eq_false_iff_ne.mpr e] at h
      obtain ⟨v', h1, h2⟩ := dnks_find r h
      exact ⟨v', by rw [valV_neg (fun z => e (by injection z))]; exact h1, h2⟩
theorem keysD_at : ∀ {es : List Ent} {kds : KD} {i : Nat} {e : Ent}, DnEs P w F es kds → es[i]? = some e → ∃ kd, (keysD kds)[i]? = some kd ∧ Dn P w F (.ref e.2.1) kd
  | _, _, _, _, .nil, h => by simp at h
  | (k', q', v') :: es, (kd', vd') :: kds, 0, e, .cons a b c r, h => by
    simp at h
    subst h
    exact ⟨kd', rfl, a⟩
  | (k', q', v') :: es, (kd', vd') :: kds, i + 1, e, .cons a b c r, h => by
    obtain ⟨kd, h1, h2⟩ := keysD_at r (i := i) (by simpa using h)
    exact ⟨kd, by show (kd' :: keysD kds)[i + 1]? = _; simpa using h1, h2⟩
theorem keysD_len : ∀ kds : KD, (keysD kds).length = kds.length
  | [] => rfl
  | p :: r => by
    show (p.1 :: keysD r).length = _
    simp [keysD_len r]
theorem itemsD_len : ∀ kds : KD, (itemsD kds).length = kds.length
  | [] => rfl
  | p :: r => by
    show (PyData.tuple [p.1, p.2] :: itemsD r).length = _
    simp [itemsD_len r]
theorem itemsD_at : ∀ {es : List (Key × V)} {kds : KD} {i : Nat} {k : Key} {v : V}, DnKs P w F es kds → es[i]? = some (k, v) → ∃ j vd, k = .inl j ∧ (itemsD kds)[i]? = some (.tuple [.int j, vd]) ∧ Dn P w F v vd
  | _, _, _, _, _, .nil, h => by simp at h
  | _, _, 0, k, v, .cons (i := j) (v := v') (kvs := es) (vd := vd') (kds := kds) c r, h => by
    simp at h
    obtain ⟨rfl, rfl⟩ := h
    exact ⟨j, vd', rfl, rfl, c⟩
  | _, _, i + 1, k, v, .cons (i := j) (v := v') (kvs := es) (vd := vd') (kds := kds) c r, h => by
    obtain ⟨m, vd, h1, h2, h3⟩ := itemsD_at r (i := i) (by simpa using h)
    exact ⟨m, vd, h1, by show (PyData.tuple [.int j, vd'] :: itemsD kds)[i + 1]? = _; simpa using h2, h3⟩
end
section
variable {X : Cx} {rest : List Stmt} {e a b : Expr} {ra rb re : RE} {pos : Pos} {s : RS}
theorem js_frzD {i : Nat} (h : JSs X rest s) : JSs X rest (sFrzD i s) := by
  refine ⟨fun pins s1 σ H D I hq => ?_⟩
  obtain ⟨F0, H0, F, env, o, R, hr, k⟩ := hq
  obtain ⟨kds, h1, hr⟩ := bd_some hr
  have h1 := ownD_some h1
  rw [put_eq] at hr
  obtain ⟨p, es, hs, hp, r, fp, zp⟩ := R.od h1
  obtain ⟨od, I1⟩ := I.lock hp (by exact True.intro)
  obtain ⟨F', R', sm⟩ := R.frzD h1 hs hp r fp zp od
  exact PSs.run h pins s1 σ _ D I1 ⟨F0, H0, F', _, o, R', hr, k.mono sm⟩
theorem js_ownD {i : Nat} {x : Str} {pos' p2 : Pos} (hN : X.N.Nodup) (hi : X.N[i]? = some x) (hx : Loc X.env.scope x) (hs : swapsWith (.Dict [] [] p2) (some (.Name x pos')) pos.line X.env = pure false := by rfl) (hf : X.fn x = true ∨ X.env.scope.names.lookup x = some .local := by first | exact .inl rfl | exact .inr rfl | assumption) :
    JS X (.Assign [.Name x pos'] (.Dict [] [] p2) pos) (sOwnD i) := by
  refine PS.imp (ps_set hN hi hx pe_dnewN hs hf) ?_
  rintro D σ H ⟨F0, H0, F, env, o, R, hr, k⟩
  cases hr
  intro p n
  have R1 := R.mine (i := i) (o := dN X.prog X.w p []) (sv := .od []) n ⟨rfl, R.fh.free n, R.g.hh.free n, [], upd_same, .nil⟩
  rw [← put_eq env i] at R1
  exact k _ F _ R1 (.refl _)
theorem js_parD {i j : Nat} {x y : Str} {px py pt p2 : Pos} {kt k2 : Nat} {pt2 : Pos} (hc : X.calm = true) (hN : X.N.Nodup) (hi : X.N[i]? = some x) (hx : Loc X.env.scope x) (hj : X.N[j]? = some y) (hy : Loc X.env.scope y) (hij : i ≠ j) (ha : JE X a ra)
    (he : starEach [a, .Dict [] [] p2] X.env = (false, eval a X.env) :: starEach [.Dict [] [] p2] X.env := by rfl) (he2 : starEach [.Dict [] [] p2] X.env = (false, eval (.Dict [] [] p2) X.env) :: starEach [] X.env := by rfl)
    (hf : X.fn x = true ∨ X.env.scope.names.lookup x = some .local := by first | exact .inl rfl | exact .inr rfl | assumption) (hf2 : X.fn y = true ∨ X.env.scope.names.lookup y = some .local := by first | exact .inl rfl | exact .inr rfl | assumption)
    (hs : swapsWithSole [.Tuple [.Name x px, .Name y py] kt pt] (.Tuple [a, .Dict [] [] p2] k2 pt2) pos.line X.env = pure false := by rfl) (hw : swappedStores [.Tuple [.Name x px, .Name y py] kt pt] (.Tuple [a, .Dict [] [] p2] k2 pt2) X.env = pure none := by rfl)
    (h1 : (assignEach [.Tuple [.Name x px, .Name y py] kt pt] X.env).map (·.2) = [assign (.Tuple [.Name x px, .Name y py] kt pt) X.env] := by rfl) :
    JS X (.Assign [.Tuple [.Name x px, .Name y py] kt pt] (.Tuple [a, .Dict [] [] p2] k2 pt2) pos) (sParD i j ra) := by
  refine PS.imp (ps_asg (pe_tup (pa_cons ha (pa_cons pe_dnewN pa_nil he2) he)) (pg_tup (n := 2) hc (pgs_cons (pg_name hN hi hx hf) (pgs_cons (pg_name hN hj hy hf2) pgs_nil))) hs hw h1) ?_
  rintro D σ H ⟨F0, H0, F, env, o, R, hr, k⟩
  obtain ⟨d, h1, h2⟩ := bd_some hr
  cases h2
  refine ⟨F0, H0, F, env, d, R, h1, fun v F1 H1 g1 n1 p np => ⟨by show 2 ≤ sizeLine; rw [sizeLine_eq]; omega, fun T nT => ?_⟩⟩
  have R1 := (R.grow g1).set (i := i) n1
  have R2 := R1.mine (i := j) (o := dN X.prog X.w p []) (sv := .od []) np ⟨rfl, R1.fh.free np, R1.g.hh.free np, [], upd_same, .nil⟩
  have R3 := R2.grow (Grow.more (p := T) (o := .tup [v, .ref p]) R2.fh nT)
  refine ⟨T, _, rfl, .inl (.inl upd_same), rfl, v, _, rfl, .ref p, _, rfl, rfl, ?_⟩
  exact k _ F1 _ (by rw [put_eq, put_eq]; exact R3) g1.ff
theorem js_put {i : Nat} {x : Str} {p1 pos' : Pos} (hN : X.N[i]? = some x) (hv : Vis X.env.scope x) (hu : X.A.units + 64 < cLine) (hb : JE X b rb) (ha : JE X a ra) (hs : swapsWith b (some (.Subscript (.Name x p1) a pos')) pos.line X.env = pure false := by rfl) (hd : (x == ("__debug__" : Str)) = false := by decide) (hcd : (x == ("__classdict__" : Str)) = false := by decide) :
    JS X (.Assign [.Subscript (.Name x p1) a pos'] b pos) (sPut i rb ra) := by
  refine PS.imp (ps_putN hu (pe_var hN hv hd hcd) ha hb hs) ?_
  rintro D σ H ⟨F0, H0, F, env, o, R, hr, k⟩
  obtain ⟨vd, h1, hr⟩ := bd_some hr
  obtain ⟨kds, h2, hr⟩ := bd_some hr
  obtain ⟨kd, h3, hr⟩ := bd_some hr
  obtain ⟨ds, h4, hr⟩ := bd_some hr
  obtain ⟨h5, hr⟩ := bIf_some hr
  obtain ⟨h6, hr⟩ := bIf_some hr
  cases hr
  have h2 := ownD_some h2
  have e4 := toTp_some h4
  subst e4
  have h6 := ble_le h6
  rw [len_eq] at h6
  obtain ⟨kk, hk1, hk2⟩ := keyOk_ok _ _ h5
  refine ⟨F0, H0, F, env, vd, R, h1, fun v F1 H1 g1 n1 => ?_⟩
  have R1 := R.grow g1
  obtain ⟨p, es, hso, _⟩ := R1.od h2
  refine ⟨.ref p, hso, F0, H0, F1, env, _, R1, h3, fun y F2 H2 g2 n2 => ?_⟩
  have R2 := R1.grow g2
  obtain ⟨p', es', hso', hp, r, fp, zp⟩ := R2.od h2
  rw [hso] at hso'
  cases hso'
  cases n2 with
  | tup hq rq =>
    rename_i q us xs
    have n2 : Dn X.prog X.w F2 (.ref q) (.tuple ds) := .tup hq rq
    have n1' := n1.mono g2.ff
    refine ⟨p, q, es', kk, F2, kds, .tuple ds, rfl, rfl, ⟨hp, g2.fh, r, n2, hk1, by omega, by rw [r.length, sizeLine_eq]; omega⟩, ?_⟩
    have R3 := R2.wr (i := i) (o := dN X.prog X.w p (storeE kk q v es')) (sv := .od (storeD (.tuple ds) vd kds)) (p := p) (v := .ref p) h2 trivial (fun q so e s => by
      rw [hso] at e
      cases e
      exact ⟨rfl, (V.ref.inj s.1).symm⟩) ⟨rfl, fp, zp, _, upd_same, dnes_store n2 hk1 n1' r⟩
    rw [← put_eq env i] at R3
    exact k _ F2 _ R3 (g1.ff.trans g2.ff)
theorem je_getD (hu : X.A.units + 64 < cLine) (ha : JE X a ra) (hb : JE X b rb) (hs : NoSl b) : JE X (.Subscript a b pos) (e2 dGetK ra rb) := by
  refine PE.imp (pe_getD hu ha hb hs) ?_
  rintro σ H Q ⟨F0, H0, F, env, z, R, hr, k⟩
  obtain ⟨d, h1, hr⟩ := bd_some hr
  obtain ⟨kd, h2, hr⟩ := bd_some hr
  obtain ⟨kds, h3, hr⟩ := bd_some hr
  obtain ⟨h4, h5⟩ := bIf_some hr
  have e3 := toDc_some h3
  subst e3
  obtain ⟨kk, hk1, hk2⟩ := keyOk_ok _ _ h4
  refine ⟨F0, H0, F, env, _, R, h1, fun x F1 H1 g1 n1 => ⟨F0, H0, F1, env, kd, R.grow g1, h2, fun y F2 H2 g2 n2 => ?_⟩⟩
  replace n1 := n1.mono g2.ff
  have G := g1.trans g2
  cases n1 with
  | dic hq rq =>
    rename_i q o es
    rcases keyOf_nil hk1 with ⟨i, rfl⟩ | ⟨ds, rfl⟩
    · exact (find_intN rq h5).elim
    · cases n2 with
      | tup hq2 rq2 => exact .inl ⟨q, _, es, kk, F2, kds, .tuple ds, z, rfl, rfl, .inr ⟨o, G.fh _ _ hq⟩, G.fh, rq, .tup hq2 rq2, hk1, by omega, h5, fun v dn => k v F2 H2 G dn⟩
  | dci hq rq =>
    rename_i q o kvs
    rcases keyOf_nil hk1 with ⟨i, rfl⟩ | ⟨ds, rfl⟩
    · cases n2
      obtain ⟨v, hv, dn⟩ := dnks_find rq h5
      exact .inr ⟨q, v, rfl, .inl ⟨kvs, .inl i, .inr ⟨o, G.fh _ _ hq⟩, rfl, hv.symm⟩, k v F2 H2 G dn⟩
    · exact (find_tupI rq h5).elim
theorem ok_lenD {P : Program} {w : World} : RLOk P w (l1 dLenD) (rLenD P w) := rl_one fun F H x d z Q s hx h k => by
  obtain ⟨kds, h1, h2⟩ := bd_some h
  cases h2
  have e := toDc_some h1
  subst e
  cases hx with
  | dic hq rq =>
    rename_i q o es
    refine ⟨q, rfl, .inl ⟨es, F, kds, .inr ⟨o, s _ _ hq⟩, s, rq, ?_⟩⟩
    rw [rq.length, ← len_eq]
    exact k _ F H (Grow.refl s) (.int _)
  | dci hq rq =>
    rename_i q o kvs
    refine ⟨q, rfl, .inr ⟨kvs, .inr ⟨o, s _ _ hq⟩, ?_⟩⟩
    rw [rq.length, ← len_eq]
    exact k _ F H (Grow.refl s) (.int _)
theorem ji_keys {tg : Expr} (he : JE X e re) : JI X (roD X.prog X.w) tg e (iKeys re) := by
  refine ⟨PI.imp (pi_keysN he) ?_⟩
  rintro σ H Q ⟨F0, H0, F, env, ds, R, hr, k⟩
  obtain ⟨d, h1, hr⟩ := bd_some hr
  obtain ⟨kds, h2, hr⟩ := bd_some hr
  obtain ⟨h3, h4⟩ := bIf_some hr
  cases h4
  have e := toDc_some h2
  subst e
  refine ⟨F0, H0, F, env, _, R, h1, fun x F1 H1 g1 n1 => ?_⟩
  cases n1 with
  | dci hq rq =>
    cases rq with
    | nil => cases h3
    | cons c r => cases h3
  | dic hq rq =>
    rename_i q o es
    refine ⟨q, o, es, F1, kds, rfl, g1.fh _ _ hq, k _ F1 H1 g1 ?_⟩
    unfold WalkD
    rw [keysD_len, ← rq.length]
    refine ⟨fun i H hi sm => ⟨⟨sm _ _ hq, sm⟩, hi⟩, fun H sm => ⟨⟨sm _ _ hq, sm⟩, Nat.le_refl _⟩, fun i H x H' hi sm y => ?_⟩
    obtain ⟨rfl, e0, he0, rfl⟩ := y
    obtain ⟨kd, h5, h6⟩ := keysD_at rq he0
    exact ⟨kd, F1, h5, h6, Grow.refl sm⟩
theorem ji_items {elts : List Expr} {kk : Nat} {tpos apos cpos : Pos} (he : JE X e re) (hbase : attributeBase e "items" X.env (eval e X.env) = eval e X.env := by rfl) (hline : (apos.endLine == cpos.line) = true := by rfl) :
    JI X (roT X.prog X.w X.K) (.Tuple elts kk tpos) (.Call (.Attribute e "items" apos) [] [] cpos) (iItems re) := by
  refine ⟨PI.imp (pi_items he hbase hline) ?_⟩
  rintro σ H Q ⟨F0, H0, F, env, ds, R, hr, k⟩
  obtain ⟨d, h1, hr⟩ := bd_some hr
  obtain ⟨kds, h2, hr⟩ := bd_some hr
  obtain ⟨h3, h4⟩ := bIf_some hr
  cases h4
  have e := toDc_some h2
  subst e
  refine ⟨F0, H0, F, env, _, R, h1, fun x F1 H1 g1 n1 => ?_⟩
  cases n1 with
  | dic hq rq =>
    cases rq with
    | nil => cases h3
    | cons a b c r =>
      obtain ⟨ds, rfl⟩ := keyOf_ref a b
      cases h3
  | dci hq rq =>
    rename_i q o kvs
    refine ⟨q, o, kvs, rfl, g1.fh _ _ hq, k _ F1 H1 g1 ?_⟩
    unfold WalkD
    rw [itemsD_len, ← rq.length]
    refine ⟨fun i H hi sm => ⟨sm _ _ hq, hi⟩, fun H sm => ⟨sm _ _ hq, Nat.le_refl _⟩, fun i H x H' hi sm y => ?_⟩
    obtain ⟨T, kk, v, hkv, rfl, nT, rfl⟩ := y
    obtain ⟨j, vd, rfl, h5, h6⟩ := itemsD_at rq hkv
    refine ⟨_, F1, h5, fun es ee => ?_, Grow.more sm nT⟩
    cases ee
    exact ⟨T, _, rfl, .inl (.inl upd_same), .cons (.int j) (.cons h6 .nil)⟩
end
end K67
set_option Elab.async false
set_option linter.all false
set_option maxRecDepth 100000
set_option maxHeartbeats 4000000
namespace K67
open PySem PySem.Spec PyProof.Rows L2
variable [TabA]
/-! a dict comprehension of two clauses without tests -/
abbrev D2 (kx vx t0 i0 t1 i1 : Expr) (scope : Scope) (pos : Pos) : Expr := .DictComp kx vx [⟨t0, i0, [], 0⟩, ⟨t1, i1, [], 0⟩] scope pos
def restInD (kx vx : Expr) (D : Addr) (env : Env) : Sem Unit := do
  let kv ← eval kx env
  let vv ← holding [kv] (eval vx env)
  standAt { kx.pos with endLine := vx.pos.endLine, endCol := vx.pos.endCol }
  holding [kv, vv] (dictSet D kv vv)
theorem turnD_0 (kx vx t0 i0 t1 i1 : Expr) (scope : Scope) (pos : Pos) (it : Value) (D : Addr) (env : Env) : TurnIs (D2 kx vx t0 i0 t1 i1 scope pos) 0 t0 i0.pos it (.ref D) env (restMid (D2 kx vx t0 i0 t1 i1 scope pos) i1 1 (.ref D) env) := by
  unfold TurnIs restMid; simp only [bind_assoc]; rfl
theorem turnD_1 (kx vx t0 i0 t1 i1 : Expr) (scope : Scope) (pos : Pos) (it : Value) (D : Addr) (env : Env) : TurnIs (D2 kx vx t0 i0 t1 i1 scope pos) 1 t1 i1.pos it (.ref D) env (restInD kx vx D env) := by
  unfold TurnIs; rfl
section
variable {prog : Program} {w : World} {A : Around} {R : Result → Shared → Prop} {s : Shared} {kx vx t0 i0 t1 i1 tg : Expr} {scope : Scope} {pos p : Pos} {it acc : Value} {env : Env} {rest : Sem Unit} {d : Nat}
theorem compLoop_d (ht : TurnIs (D2 kx vx t0 i0 t1 i1 scope pos) d tg p it acc env rest) (I : Nat → Shared → Prop)
    (turn : ∀ n s, I n s → wpAny (model prog w) A (pyNext it) (fun r s₁ => match r with
      | none => R (.ok .next) s₁
      | some v => wpAny (model prog w) A (letOwnedTupleGo tg it v) (fun _ s₁' => wpAny (model prog w) A (assign tg env v) (fun _ s₂ =>
          wpAny (model prog w) A rest (fun _ s₅ => ∃ m, m < n ∧ I m s₅) (notedBy (model prog w) A env fun e s' => R (.error e) s') s₂) (notedBy (model prog w) A env fun e s' => R (.error e) s') s₁') (notedBy (model prog w) A env fun e s' => R (.error e) s') s₁) (notedBy (model prog w) A env fun e s' => R (.error e) s') s)
    (n : Nat) (h : I n s) :
    codeAny (model prog w) A (.compLoop (D2 kx vx t0 i0 t1 i1 scope pos) d it acc env) R s := by
  refine codeAny_loop rfl I (fun n s hI => ?_) n h
  show wpAny _ A ((compTurn (D2 kx vx t0 i0 t1 i1 scope pos) d it acc env).onRaise (fun x => do noteFrame x env; theTreesLotGoes x)) _ _ s
  refine wpAny_noted ?_
  rw [show compTurn (D2 kx vx t0 i0 t1 i1 scope pos) d it acc env = _ from ht]
  refine wpAny_bind (wpAny_standAt (wpAny_bind (wpAny_mono (turn n s hI) (fun r s₁ h₁ => ?_) fun _ _ h' => h')))
  cases r with
  | none => exact wpAny_pure h₁
  | some v =>
    refine wpAny_bind (wpAny_mono h₁ (fun _ s₁' h₁' => ?_) fun _ _ h' => h')
    refine wpAny_bind (wpAny_mono h₁' (fun _ s₂ h₂ => wpAny_bind (wpAny_mono h₂ (fun _ s₅ h₅ => ?_) fun _ _ h' => h')) fun _ _ h' => h')
    exact wpAny_pure ⟨rfl, h₅⟩
theorem restMid_okD {i1' : Expr} {E : Value → Shared → Prop} {Q : Unit → Shared → Prop} (hs : ∀ x, foldedSetIterable i1' env x = pure x)
    (h : wpAny (model prog w) A (eval i1' env) (fun x s₄ => wpAny (model prog w) A (pyIter x) (fun it1 s₅ =>
              codeAny (model prog w) A (.compStart (D2 kx vx t0 i0 t1 i1 scope pos) d it1 acc env) (fun r s' => match r with
                | .ok _ => Q () s'
                | .error _ => False) s₅) E s₄) E s) :
    wpAny (model prog w) A (restMid (D2 kx vx t0 i0 t1 i1 scope pos) i1' d acc env) Q E s := by
  unfold restMid
  refine wpAny_bind (wpAny_mono h (fun x s₄ h₄ => ?_) fun _ _ h' => h')
  refine wpAny_bind (wpAny_standAt (wpAny_bind (wpAny_of_eq (hs x) (wpAny_bind (wpAny_holding (wpAny_mono h₄ (fun it1 s₅ h₅ => ?_) fun _ _ h' => h'))))))
  refine wpAny_bind (wpAny_runOwn ?_)
  rw [Around.mark_none]
  refine codeAny_mono h₅ fun r s' hr => ?_
  cases r with
  | ok f =>
    first
      | exact wpAny_pure hr
      | exact wpAny_bind (wpAny_pure (wpAny_pure hr))
  | error e => exact hr.elim
theorem compStartD_1 (h0 : codeAny (model prog w) A (.compLoop (D2 kx vx t0 i0 t1 i1 scope pos) 1 it acc env) R s)
    (h : wpAny (model prog w) A (pyIter it) (fun it' s' => codeAny (model prog w) A (.compLoop (D2 kx vx t0 i0 t1 i1 scope pos) 1 it' acc env) R s')
      (notedBy (model prog w) A env fun x s' => R (.error x) s') s) :
    codeAny (model prog w) A (.compStart (D2 kx vx t0 i0 t1 i1 scope pos) 1 it acc env) R s := by
  refine codeAny_of_tree ?_
  show wpAny _ _ ((compStart (D2 kx vx t0 i0 t1 i1 scope pos) 1 it acc env).onRaise (fun x => do noteFrame x env; standAt theWindowsPlace)) _ _ s
  refine wpAny_notedAt ?_
  unfold compStart
  show wpAny _ _ (ask >>= _) _ _ s
  refine wpAny_bind (wpAny_askSetting (wpAny_ite ?_))
  split
  · first
      | exact wpAny_bind (wpAny_pure (wpAny_pure (And.intro rfl h0)))
      | exact wpAny_pure (And.intro rfl h0)
  · first
      | exact wpAny_bind (wpAny_rule (wpAny_bind (wpAny_standAt (wpAny_bind (wpAny_mono h (fun it' s' h' => wpAny_pure (And.intro rfl h')) fun _ _ x => x)))))
      | (refine wpAny_bind (wpAny_rule ?_); show wpAny _ _ (standAt i1.pos >>= _) _ _ s; exact wpAny_bind (wpAny_standAt (wpAny_bind (wpAny_mono h (fun it' s' h' => wpAny_pure (And.intro rfl h')) fun _ _ x => x))))
end
section
variable {X : Cx}
theorem body_inD {XB : Cx} {D : Addr} {kx vx : Expr} {env : Env} {E : Value → Shared → Prop} {tk tv : TE} (he : env = XB.env) (hx : XB.xe = fun _ _ => False) (pk : PE XB kx tk) (pv : PE XB vx tv) : Body XB D [] (restInD kx vx D env) E fun σ H Nx => tk σ H fun y H4 => tv σ H4 fun z H5 => ∃ kvs k, y = kV k ∧ H5 D = some (.dK kvs) ∧ kvs.length < sizeLine ∧ Nx (upd H5 D (.dK (putK kvs k z))) := by
  intro pins s σ H Nx P I h k
  subst he
  unfold restInD
  have z := pk.run pins s σ H _ I h
  rw [hx] at z
  refine wpAny_bind (thnF z fun u s1 q1 => ?_)
  obtain ⟨y, H4, I4, r4, q4⟩ := q1
  have z2 := pv.run pins s1 σ H4 _ I4 q4
  rw [hx] at z2
  refine wpAny_bind (wpAny_holding (thnF z2 fun u2 s2 q2 => ?_))
  obtain ⟨v, H5, I5, r5, kvs, kk, ek, hD, hz, nx⟩ := q2
  subst ek
  exact wpAny_bind (wpAny_standAt (wpAny_holding (d_dictSet (X := XB) I5 hD hz r4 r5 fun s3 I6 => k _ _ s3 I6 ⟨rfl, fun _ _ _ e => e⟩ nx)))
/-- a clause behind the first -/
theorem body_midD {XB : Cx} {D : Addr} {kx vx t0 i0 t1 i1 tg iter : Expr} {scope : Scope} {pos p : Pos} {E : Value → Shared → Prop} {d : Nat} {wi1 : TI} {g1 : TG} {tb : L2.St → Hp → (Hp → Prop) → Prop} {vs1 vs2 : List Nat} {rest : Sem Unit} (hc : XB.calm = true) (hx : XB.xe = fun _ _ => False) (hv : ∀ i ∈ vs2, i ∈ vs1)
    (ht : ∀ it, TurnIs (D2 kx vx t0 i0 t1 i1 scope pos) d tg p it (.ref D) XB.env rest)
    (hst : ∀ {it : Value} {R : Result → Shared → Prop} {s : Shared}, codeAny (model XB.prog XB.w) XB.A (.compLoop (D2 kx vx t0 i0 t1 i1 scope pos) d it (.ref D) XB.env) R s →
      wpAny (model XB.prog XB.w) XB.A (pyIter it) (fun it' s' => codeAny (model XB.prog XB.w) XB.A (.compLoop (D2 kx vx t0 i0 t1 i1 scope pos) d it' (.ref D) XB.env) R s') (notedBy (model XB.prog XB.w) XB.A XB.env fun x s' => R (.error x) s') s →
      codeAny (model XB.prog XB.w) XB.A (.compStart (D2 kx vx t0 i0 t1 i1 scope pos) d it (.ref D) XB.env) R s)
    (pi : PI XB tg iter wi1) (pg : PG XB tg g1) (hb : ∀ E, Body XB D vs2 rest E tb) (hs : ∀ x, foldedSetIterable iter XB.env x = pure x) :
    Body XB D vs1 (restMid (D2 kx vx t0 i0 t1 i1 scope pos) iter d (.ref D) XB.env) E (tLvl wi1 g1 tb vs1) := by
  intro pins s σ H Nx P I h k
  refine restMid_okD (Q := fun _ s' => P s') hs ?_
  have z1 := pi.run pins s σ H _ I h
  rw [hx] at z1
  refine thnF z1 fun xv s10 hx10 => thnF hx10 fun itv s11 h11 => ?_
  obtain ⟨it1, fp1, tn1, J1, H11, e1, I11, T1, st11, f11, W1, ⟨m1, w1⟩, turn1⟩ := h11
  subst e1
  have loop1 : codeAny (model XB.prog XB.w) XB.A (.compLoop (D2 kx vx t0 i0 t1 i1 scope pos) d (.ref it1) (.ref D) XB.env)
      (fun r s' => match r with
        | .ok _ => P s'
        | .error _ => False) s11 := by
    refine compLoop_d (ht _) (fun k s' => ∃ j H', Inv XB pins (wipe σ vs1) H' s' ∧ tn1 j s'.heap ∧ (∀ b ∈ fp1, H' b = none) ∧ W1 j k H') ?_ m1 ⟨0, H11, I11.weak (wipe_length _ _) (fun j v e => (wipe_some e).1), st11, fun b hb => (f11 b hb).1, w1⟩
    rintro k1 s12 ⟨j, H12, I12, st12, n12, w12⟩
    have stat1 : ∀ {H' : Hp}, (∀ b ∈ fp1, H' b = none) → ∀ b ∈ fp1, FpOk XB pins H' b := fun hn b hb => ⟨hn b hb, (f11 b hb).2⟩
    rcases turn1 j k1 H12 w12 with ⟨stop1, nx1⟩ | ⟨go1, Nx1, hNx1, step1⟩
    · refine thnF (T1.done XB rfl rfl rfl hc j _ s12 (wipe σ vs1) H12 (fun _ _ => False) I12 (stat1 n12) st12 stop1) fun r s13 ⟨hr, I13⟩ => ?_
      subst hr
      exact k _ _ s13 I13 (wk_wipe fun i hi => hi) nx1
    · refine thnF (T1.item XB rfl rfl rfl hc j _ s12 (wipe σ vs1) H12 (fun _ _ => False) I12 (stat1 n12) st12 go1) fun r s13 ⟨u1, hr, h13⟩ => ?_
      subst hr
      refine thnF h13 fun _ s14 ⟨x1, H14, I14, r14, y14, st14, n14⟩ => ?_
      have I14' := I14.pinned (stat1 n14) (T1.obj _ _ st14)
      have z2 := pg.run _ s14 (wipe σ vs1) H14 x1 u1 _ I14' r14 (step1 x1 H14 y14)
      rw [hx] at z2
      refine thnF z2 fun _ s15 ⟨σ15, H15, I15, hw15, q15⟩ => ?_
      refine hb _ _ s15 σ15 H15 Nx1 _ I15 q15 fun σ' H' s' I' wk nx => ?_
      obtain ⟨m', hm, w'⟩ := hNx1 H' nx
      have pin' : ∀ b ∈ fp1, ∀ o, s14.heap.get? b = some o → s'.heap.get? b = some o ∧ H' b = none := fun b hb o e =>
        let z := I'.pin (b, o) (List.mem_append_right _ (List.mem_append_right _ (mem_pinsAt hb e)))
        ⟨z.1, z.2.1⟩
      obtain ⟨wl, wv⟩ := wk_fin hv hw15 wk
      refine ⟨m', hm, j + 1, H', I'.unpinned.weak wl wv, T1.keep _ _ _ st14 fun b hb o e => (pin' b hb o e).1, fun b hb => ?_, w'⟩
      obtain ⟨o, e, _⟩ := T1.obj _ _ st14 b hb
      exact (pin' b hb o e).2
  exact hst loop1 (T1.self XB.A 0 _ _ _ st11 loop1)
def tDc2 (wi : TI) (g : TG) (tb : Addr → L2.St → Hp → (Hp → Prop) → Prop) (vs : List Nat) : TE := fun σ H Q => wi σ H fun J H1 => ∀ D, H1 D = none → ∃ W : Nat → Nat → Hp → Prop, (∃ m, W 0 m (upd H1 D (.dK []))) ∧ ∀ i m H, W i m H →
  (J.stop i H ∧ Q (.ref D) H) ∨ (J.go i H ∧ ∃ Nx : Hp → Prop, (∀ H', Nx H' → ∃ m', m' < m ∧ W (i + 1) m' H') ∧ ∀ x H', J.yld i H x H' → g x (wipe σ vs) H' fun σ2 H2 => wipe σ2 vs = wipe σ vs ∧ tb D σ2 H2 Nx)
theorem dc2_core {pins : List (Addr × Obj)} {s : Shared} {σ : L2.St} {H : Hp} {Q : VK} {kx vx tg iter tg1 iter1 : Expr} {scope : Scope} {own : List (Str × Nat)} {vs1 : List Nat} {pos pos' : Pos} {wi : TI} {g : TG} {tb : Addr → L2.St → Hp → (Hp → Prop) → Prop} {use : Option (Value → Sem Unit)} {Qf : Value → Shared → Prop}
    (hc : X.calm = true) (hN : X.N.Nodup) (I : Inv X pins σ H s) (hi : PI X tg iter wi) (ok : BlkOk X.N X.env.scope scope own) (hv : ∀ i ∈ vs1, i ∈ own.map (·.2))
    (hg : ∀ (s : Shared) (H : Hp) (C : Addr) (cl : List (Str × Addr)) (fp : List Addr), PG (X.blk s H scope (compEnvC scope cl C X.env) fp) tg g)
    (hs : ∀ x, foldedSetIterable iter X.env x = pure x)
    (hb : ∀ (s : Shared) (H : Hp) (C : Addr) (cl : List (Str × Addr)) (fp : List Addr) (D : Addr) (E : Value → Shared → Prop), Body (X.blk s H scope (compEnvC scope cl C X.env) fp) D vs1 (restMid (D2 kx vx tg iter tg1 iter1 scope pos) iter1 1 (.ref D) (compEnvC scope cl C X.env)) E (tb D))
    (h : tDc2 wi g tb (own.map (·.2)) σ H Q)
    (hRR : ∀ D C s' m H', Inv X pins σ H' s' → Q (.ref D) H' → s'.heap.Ns C m → FpOk X pins H' C → compPost (model X.prog X.w) X.A X.xe use Qf (.ref D) C (.ok .next) s') :
    wpAny (model X.prog X.w) X.A (comprehension (D2 kx vx tg iter tg1 iter1 scope pos) scope X.env pos' newDict false (eval iter X.env) use) Qf X.xe s := by
  have hfree : ∀ y ∈ scope.names, y.2 = .free → ∃ c, X.env.cells.lookup y.1 = some c := fun y hy e => by
    rcases ok.free y hy e with k | k
    · exact I.ok.has _ (.inl k)
    · exact I.ok.has _ (.inr k)
  refine wpAny_comprehension_free (use := use) rfl hs (closure_ok hfree) ok.kind (fun y hy e => by rw [ok.uniq y hy, e])
    (thn (hi.run pins s σ H _ I h) fun xv s1 hx => thn hx fun itv s2 h2 => ?_)
  obtain ⟨it, fp, tn, J, H2, e, I2, T, st2, f2, q⟩ := h2
  subst e
  refine wpAny_newObj_type (newEnv_comp ?_)
  generalize hD : s2.heap.objs.size = D
  have hDn : H2 D = none := I2.hok.fresh (Nat.le_of_eq hD)
  obtain ⟨W, ⟨m0, w0⟩, turn⟩ := q D hDn
  -- the new list
  generalize hs3 : ({ s2 with heap := s2.heap.push { cls := .type "dict", data := .dict #[] } } : Shared) = s3
  have I3 : Inv X pins σ (upd H2 D (.dK [])) s3 := by
    rw [← hs3]
    refine I2.laid (t' := s2.toks) (fun b o e => Heap.get?_push_of_some _ e) (Nat.le_of_eq hD) ?_
    rw [← hD]
    exact dk_empty s2.heap I2.big
  have h3 : s3.heap = s2.heap.push { cls := .type "dict", data := .dict #[] } := by rw [← hs3]
  have sz : ∀ b ∈ fp, b < s2.heap.objs.size := fun b hb => by
    obtain ⟨o, e, _⟩ := T.obj _ _ st2 b hb
    exact Heap.lt_size e
  have f3 : ∀ b ∈ fp, FpOk X pins (upd H2 D (.dK [])) b ∧ b < s3.heap.objs.size := fun b hb => by
    have hlt := sz b hb
    refine ⟨⟨?_, (f2 b hb).2⟩, by rw [h3, Heap.size_push]; exact Nat.lt_succ_of_lt hlt⟩
    rw [upd_ne (by rw [← hD]; exact Nat.ne_of_lt hlt)]
    exact (f2 b hb).1
  have st3 : tn 0 s3.heap := T.keep _ _ _ st2 fun b _ o e => by rw [h3]; exact Heap.get?_push_of_some _ e
  have I4 := block_start I3 ok hN f3
  have pg := hg s3 (upd H2 D (.dK [])) s3.heap.objs.size (cellsFrom (s3.heap.objs.size + 1) scope.names (cloFrom X.env.cells scope.names [])) fp
  have pb := hb s3 (upd H2 D (.dK [])) s3.heap.objs.size (cellsFrom (s3.heap.objs.size + 1) scope.names (cloFrom X.env.cells scope.names [])) fp D
  show codeAny _ _ (.compStart (D2 kx vx tg iter tg1 iter1 scope pos) 0 (.ref it) (.ref D) (compEnvC scope (cellsFrom (s3.heap.objs.size + 1) scope.names (cloFrom X.env.cells scope.names [])) s3.heap.objs.size X.env)) (compPost (model X.prog X.w) X.A X.xe use Qf (.ref D) s3.heap.objs.size) { s3 with heap := pushCells (s3.heap.push { cls := .type "dict", data := .dict #[] }) scope.names }
  have nfp : ∀ b ∈ fp, (upd H2 D (.dK [])) b = none := fun b hb => (f3 b hb).1.1
  generalize hce : compEnvC scope (cellsFrom (s3.heap.objs.size + 1) scope.names (cloFrom X.env.cells scope.names [])) s3.heap.objs.size X.env = ce at I4 pg pb ⊢
  have cL : ce.locals = s3.heap.objs.size := by subst hce; rfl
  generalize hH3 : upd H2 D (.dK []) = H3 at I3 I4 pg pb w0 nfp f3
  generalize hs4 : ({ s3 with heap := pushCells (s3.heap.push { cls := .type "dict", data := .dict #[] }) scope.names } : Shared) = s4 at I4 ⊢
  have st4 : tn 0 s4.heap := T.keep _ _ _ st3 fun b _ o e => by rw [← hs4]; exact pushCells_keeps _ _ _ _ (Heap.get?_push_of_some _ e)
  have stat : ∀ {σ' : L2.St} {H' : Hp} {s' : Shared}, Inv (X.blk s3 H3 scope ce fp) [] σ' H' s' → (∀ b ∈ fp, H' b = none) → ∀ b ∈ fp, FpOk (X.blk s3 H3 scope ce fp) [] H' b := fun {σ' H' s'} I' hn b hb =>
    ⟨hn b hb, (I'.ok.exf b hb).1, I'.ok.exfs b hb, .inl hb, fun x c e => (I'.ok.exf b hb).2 x c e, fun p hp => absurd (show p ∈ ([] : List (Addr × Obj)) ++ [] from hp) (by simp)⟩
  have loop : codeAny (model X.prog X.w) X.A (.compLoop (D2 kx vx tg iter tg1 iter1 scope pos) 0 (.ref it) (.ref D) ce) (compPost (model X.prog X.w) X.A X.xe use Qf (.ref D) s3.heap.objs.size) s4 := by
    refine compLoop_d (turnD_0 _ _ _ _ _ _ _ _ _ _ _) (fun n s' => ∃ i H', Inv (X.blk s3 H3 scope ce fp) [] (wipe σ (own.map (·.2))) H' s' ∧ tn i s'.heap ∧ (∀ b ∈ fp, H' b = none) ∧ W i n H') ?_ m0 ⟨0, H3, I4, st4, nfp, w0⟩
    rintro n s5 ⟨i, H5, I5, st5, n5, w5⟩
    rcases turn i n H5 w5 with ⟨stop, qq⟩ | ⟨go, Nx, hNx, step⟩
    · have td := T.done (X.blk s3 H3 scope ce fp) rfl rfl rfl hc i [] s5 _ H5 (fun _ _ => False) I5 (stat I5 n5) st5 stop
      refine thnF td fun r s6 ⟨hr, I6⟩ => ?_
      subst hr
      -- back in the def's context
      have I7 : Inv X pins σ H5 s6 := I3.call' (ch := fp) I6.os I6.base I6.hok I6.bare fun b hb => ⟨(f3 b hb).1.2.2.2.1, (f3 b hb).1.2.1, (f3 b hb).1.2.2.2.2.1, (f3 b hb).1.2.2.2.2.2⟩
      have nC : H5 s3.heap.objs.size = none := by
        have z : H5 ce.locals = none := I6.free
        rw [cL] at z
        exact z
      obtain ⟨m, hn, _⟩ := I6.loc
      have hn : s6.heap.Ns ce.locals m := hn
      rw [cL] at hn
      exact hRR D s3.heap.objs.size s6 m H5 I7 qq hn (I3.fpOk (Nat.le_refl _) nC)
    · have ti := T.item (X.blk s3 H3 scope ce fp) rfl rfl rfl hc i [] s5 _ H5 (fun _ _ => False) I5 (stat I5 n5) st5 go
      refine thnF ti fun r s6 ⟨u, hr, h6⟩ => ?_
      subst hr
      refine thnF h6 fun _ s7 ⟨x, H7, I7, r7, y7, st7, n7⟩ => ?_
      have I7' := I7.pinned (stat I7 n7) (T.obj _ _ st7)
      refine thnF (pg.run _ s7 _ H7 x u _ I7' r7 (step x H7 y7)) fun _ s8 ⟨σ8, H8, I8, hw8, q8⟩ => ?_
      refine pb _ _ s8 σ8 H8 Nx _ I8 q8 fun σ9 H' s' I' wk nx => ?_
      obtain ⟨m', hm, w'⟩ := hNx H' nx
      have pin' : ∀ b ∈ fp, ∀ o, s7.heap.get? b = some o → s'.heap.get? b = some o ∧ H' b = none := fun b hb o e =>
        let z := I'.pin (b, o) (List.mem_append_right _ (List.mem_append_right _ (mem_pinsAt hb e)))
        ⟨z.1, z.2.1⟩
      obtain ⟨wl, wv⟩ := wk_fin hv hw8 wk
      refine ⟨m', hm, i + 1, H', (I'.unpinned (pins := [])).weak wl wv, T.keep _ _ _ st7 fun b hb o e => (pin' b hb o e).1, fun b hb => ?_, w'⟩
      obtain ⟨o, e, _⟩ := T.obj _ _ st7 b hb
      exact (pin' b hb o e).2
  exact codeAny_compStart_dict loop (T.self X.A 0 _ _ _ st4 loop)
theorem pe_dc2 {kx vx tg iter tg1 iter1 : Expr} {scope : Scope} {own : List (Str × Nat)} {vs1 : List Nat} {pos : Pos} {wi : TI} {g : TG} {tb : Addr → L2.St → Hp → (Hp → Prop) → Prop} (hc : X.calm = true) (hN : X.N.Nodup) (hi : PI X tg iter wi) (ok : BlkOk X.N X.env.scope scope own) (hv : ∀ i ∈ vs1, i ∈ own.map (·.2))
    (hg : ∀ (s : Shared) (H : Hp) (C : Addr) (cl : List (Str × Addr)) (fp : List Addr), PG (X.blk s H scope (compEnvC scope cl C X.env) fp) tg g)
    (hb : ∀ (s : Shared) (H : Hp) (C : Addr) (cl : List (Str × Addr)) (fp : List Addr) (D : Addr) (E : Value → Shared → Prop), Body (X.blk s H scope (compEnvC scope cl C X.env) fp) D vs1 (restMid (D2 kx vx tg iter tg1 iter1 scope pos) iter1 1 (.ref D) (compEnvC scope cl C X.env)) E (tb D))
    (hs : ∀ x, foldedSetIterable iter X.env x = pure x := by intro _; rfl) :
    PE X (D2 kx vx tg iter tg1 iter1 scope pos) (tDc2 wi g tb (own.map (·.2))) := by
  refine ⟨fun pins s σ H Q I h => ?_⟩
  rw [arm_eval_DictComp]
  refine dc2_core hc hN I hi ok hv hg hs hb h fun D C s' m H' I' q hn f => ⟨m, hn, fun h'' sb => ?_⟩
  obtain ⟨f0, f1, f2, f3, f4, f5⟩ := f
  exact ⟨.ref D, H', I'.turned (t' := s'.toks) (fun b o hb e => (sb.2 b hb).trans e) f0 f1 f3 f4 f5, rfl, q⟩
end
end K67
set_option Elab.async false
set_option linter.all false
set_option maxRecDepth 100000
set_option maxHeartbeats 4000000
namespace K67
open PySem PySem.Spec PyProof.Rows L2
variable [TabA]
/-! ### a value locked as it is handed on -/
theorem pe_lk {X : Cx} {e : Expr} {t : TE} (h : PE X e t) : PE X e (fun σ H Q => t σ H fun v H1 => ∃ d u, v = .ref d ∧ H1 d = some u ∧ Mut (some u) ∧ ∀ o, Q v (upd H1 d (.frz o u))) := by
  refine ⟨fun pins s σ H Q I q => ?_⟩
  refine thn (h.run pins s σ H _ I q) fun u s1 ⟨v, H1, I1, r1, d, x, ev, hd, mu, k⟩ => ?_
  obtain ⟨o, I2⟩ := I1.lock hd mu
  exact ⟨v, _, I2, r1, k o⟩
/-! ### displays of one pair -/
def tDisp1 (P : Program) (w : World) (tk tv : TE) : TE := fun σ H Q => ∀ p, H p = none → tk σ (upd H p (dN P w p [])) fun y H1 => tv σ H1 fun v H2 => ∃ q k F kd, y = .ref q ∧ H2 p = some (dN P w p []) ∧ Same F H2 ∧ Dn P w F (.ref q) kd ∧ keyOf kd = some k ∧ k.depth ≤ 8 ∧ Q (.ref p) (upd H2 p (dN P w p [(k, q, v)]))
theorem pe_disp1 {X : Cx} {ke ve : Expr} {pos : Pos} {tk tv : TE} (hu : X.A.units + 64 < cLine) (hk : PE X ke tk) (hv : PE X ve tv) : PE X (.Dict [some ke] [ve] pos) (tDisp1 X.prog X.w tk tv) := by
  refine ⟨fun pins s σ H Q I q => ?_⟩
  have hn := I.hok.fresh (Nat.le_refl s.heap.objs.size)
  have I1 := I.laid (a := s.heap.objs.size) (o := dN X.prog X.w s.heap.objs.size []) (h' := s.heap.push { cls := .type "dict", data := .dict #[] }) (t' := s.toks) (fun _ _ q => Heap.get?_push_of_some _ q) (Nat.le_refl _) (dN_empty s.heap I.big)
  have hl : (pairTrees [some ke] [ve] X.env pos).length = 1 := rfl
  rw [arm_eval_Dict, zip_pairTrees [some ke] [ve] X.env pos rfl rfl, dictDisplay_pairs _ (fun e => by rw [e] at hl; cases hl) (by rw [hl]; decide)]
  refine wpAny_bind (wpAny_standAt (wpAny_bind (wpAny_subDictH (knd := nestedKind X.prog X.w) (Q := fun d s' => wpAny (model X.prog X.w) X.A (pure (Value.ref d)) (EP X pins σ Q) X.xe s') (room8' hu) (by rw [hl]; decide) ?_)))
  refine pairTrees_cons_walk (thn (hk.run pins _ σ _ _ I1 (q _ hn)) fun u s1 ⟨y, H1, I2, ry, q1⟩ => thn (hv.run pins s1 σ H1 _ I2 q1) fun u2 s2 ⟨v, H2, I3, rv, q', k, F, kd, ey, hp, sm, dn, key, dep, q2⟩ => pairTrees_nil_walk ?_)
  subst ey
  obtain rfl : u = Value.ref q' := ry
  obtain ⟨z, hs, hd, xs, pr, dd⟩ := dict_at I3 sm (.inl hp) .nil
  cases pr
  refine ⟨[(k, q', u2)], ⟨rfl, rfl, ⟨nested_of I3 sm dn key rfl, dep⟩, trivial⟩, dd, fun h' tk' dd' hsm => wpAny_pure ⟨.ref s.heap.objs.size, _, ?_, rfl, q2⟩⟩
  have e1 : storedAllH [] [(k, q', u2)] = [(k, q', u2)] := by
    show storedH [] k q' u2 = _
    rw [storedH_new rfl]; rfl
  rw [e1] at dd'
  have he : ∃ q, h'.get? s.heap.objs.size = some q := let ⟨q, _, _, hq, _⟩ := dd'; ⟨q, hq⟩
  exact d_write I3 (by rw [hp]; exact True.intro) hsm he (dN_new (by rw [sizeLine_eq]; simp) hs (fun e he => by rw [List.mem_singleton.mp he]; exact dep) (.cons ⟨rfl, rfl, rv⟩ .nil) dd')
section
variable {X : Cx} {ke ve : Expr} {rk rv : RE} {pos : Pos}
theorem je_dict1 (hu : X.A.units + 64 < cLine) (hk : JE X ke rk) (hv : JE X ve rv) : JE X (.Dict [some ke] [ve] pos) (eDict1 rk rv) := by
  refine PE.imp (pe_lk (pe_disp1 hu hk hv)) ?_
  rintro σ H Q ⟨F0, H0, F, env, z, R, hr, k⟩
  obtain ⟨kd, h1, hr⟩ := bd_some hr
  obtain ⟨vd, h2, hr⟩ := bd_some hr
  obtain ⟨ds, h3, hr⟩ := bd_some hr
  obtain ⟨h4, hr⟩ := bIf_some hr
  cases hr
  have e3 := toTp_some h3
  subst e3
  obtain ⟨kk, hk1, hk2⟩ := keyOk_ok _ _ h4
  intro p n
  have g0 := Grow.more (o := dN X.prog X.w p []) R.fh n
  refine ⟨F0, H0, F, env, _, R.grow g0, h1, fun y F1 H1 g1 n1 => ⟨F0, H0, F1, env, vd, (R.grow g0).grow g1, h2, fun v F2 H2 g2 n2 => ?_⟩⟩
  replace n1 := n1.mono g2.ff
  have G := g1.trans g2
  have fp := G.still (R.fh.free n) upd_same
  cases n1 with
  | tup hq rq =>
    rename_i q us xs
    have n1 : Dn X.prog X.w F2 (.ref q) (.tuple ds) := .tup hq rq
    refine ⟨q, kk, F2, .tuple ds, rfl, G.hh.get _ _ upd_same, G.fh, n1, hk1, by omega, p, _, rfl, upd_same, True.intro, fun o => ?_⟩
    have g3 := Grow.lockNew (u := .frz o (dN X.prog X.w p [(kk, q, v)])) R.fh n G fp
    have m : Same F2 (upd F2 p (.frz o (dN X.prog X.w p [(kk, q, v)]))) := fun a x e => by rw [upd_ne (ne_of_none e fp)]; exact e
    have e1 : upd (upd H2 p (dN X.prog X.w p [(kk, q, v)])) p (.frz o (dN X.prog X.w p [(kk, q, v)])) = upd H2 p (.frz o (dN X.prog X.w p [(kk, q, v)])) := upd_upd
    rw [e1]
    exact k _ _ _ g3 (.dic upd_same (.cons (n1.mono m) hk1 (n2.mono m) .nil))
theorem je_dictI (hk : JE X ke rk) (hv : JE X ve rv) : JE X (.Dict [some ke] [ve] pos) (eDictI rk rv) := by
  refine PE.imp (pe_lk (pe_disp (pps_cons hk hv pps_nil) rfl rfl (by simp) (by simp))) ?_
  rintro σ H Q ⟨F0, H0, F, env, z, R, hr, k⟩
  obtain ⟨kd, h1, hr⟩ := bd_some hr
  obtain ⟨vd, h2, hr⟩ := bd_some hr
  obtain ⟨i, h3, hr⟩ := bd_some hr
  cases hr
  have e3 := toI_some h3
  subst e3
  intro p n
  have g0 := Grow.more (o := .dK []) R.fh n
  refine ⟨F0, H0, F, env, _, R.grow g0, h1, fun y F1 H1 g1 n1 => ⟨F0, H0, F1, env, vd, (R.grow g0).grow g1, h2, fun v F2 H2 g2 n2 => ?_⟩⟩
  have G := g1.trans g2
  have fp := G.still (R.fh.free n) upd_same
  cases n1
  refine ⟨G.hh.get _ _ upd_same, [(.inl i, v)], rfl, by simp, p, _, rfl, upd_same, True.intro, fun o => ?_⟩
  have g3 := Grow.lockNew (u := .frz o (.dK (mergeK [] [(.inl i, v)]))) R.fh n G fp
  have m : Same F2 (upd F2 p (.frz o (.dK (mergeK [] [(.inl i, v)])))) := fun a x e => by rw [upd_ne (ne_of_none e fp)]; exact e
  rw [upd_upd]
  exact k _ _ _ g3 (.dci upd_same (.cons (n2.mono m) .nil))
end
/-! ### dict comprehensions: ints as keys -/
def storeK (k : Key) (v : V) : List (Key × V) → List (Key × V)
  | [] => [(k, v)]
  | x :: r => if x.1 = k then (x.1, v) :: r else x :: storeK k v r
theorem storeK_keys {k : Key} {v : V} : ∀ {xs : List (Key × V)}, (xs.map (·.1)).Nodup → ((storeK k v xs).map (·.1)).Nodup ∧ ∀ j, j ∈ (storeK k v xs).map (·.1) → j = k ∨ j ∈ xs.map (·.1)
  | [], _ => ⟨by simp [storeK], fun j hj => by simp [storeK] at hj; exact .inl hj⟩
  | x :: xs, h => by
    rw [List.map_cons, List.nodup_cons] at h
    obtain ⟨i1, i2⟩ := storeK_keys (k := k) (v := v) h.2
    unfold storeK
    by_cases e : x.1 = k
    · rw [if_pos e]
      exact ⟨by rw [List.map_cons, List.nodup_cons]; exact h, fun j hj => .inr (by simpa using hj)⟩
    · rw [if_neg e, List.map_cons, List.nodup_cons]
      refine ⟨⟨fun z => ?_, i1⟩, fun j hj => ?_⟩
      · rcases i2 _ z with q | q
        · exact e q
        · exact h.1 q
      · rcases List.mem_cons.mp hj with q | q
        · exact .inr (by rw [q]; simp)
        · rcases i2 j q with q | q
          · exact .inl q
          · exact .inr (by rw [List.map_cons]; exact List.mem_cons_of_mem _ q)
theorem putK_eq (k : Key) (v : V) : ∀ xs : List (Key × V), (xs.map (·.1)).Nodup → putK xs k v = storeK k v xs
  | [], _ => by rw [putK_new v valV_nil]; rfl
  | x :: xs, h => by
    rw [List.map_cons, List.nodup_cons] at h
    have ih := putK_eq k v xs h.2
    have an : ∀ ys : List (Key × V), (ys.any fun kv => decide (kv.1 = k)) = false → putK ys k v = ys ++ [(k, v)] := fun ys q => by unfold putK; rw [q]; rfl
    have ay : ∀ ys : List (Key × V), (ys.any fun kv => decide (kv.1 = k)) = true → putK ys k v = ys.map fun kv => if kv.1 = k then (kv.1, v) else kv := fun ys q => by unfold putK; rw [q]; rfl
    unfold storeK
    by_cases e : x.1 = k
    · rw [if_pos e, ay _ (by simp [e]), List.map_cons, if_pos e]
      congr 1
      have : ∀ ys : List (Key × V), k ∉ ys.map (·.1) → (ys.map fun kv => if kv.1 = k then (kv.1, v) else kv) = ys := by
        intro ys hy
        induction ys with
        | nil => rfl
        | cons y ys ih =>
          rw [List.map_cons, List.mem_cons, not_or] at hy
          rw [List.map_cons, ih hy.2, if_neg (Ne.symm hy.1)]
      exact this xs (by rw [← e]; exact h.1)
    · rw [if_neg e, ← ih]
      cases q : xs.any fun kv => decide (kv.1 = k) with
      | false => rw [an xs q, an (x :: xs) (by rw [List.any_cons, q, decide_eq_false e]; rfl), List.cons_append]
      | true => rw [ay xs q, ay (x :: xs) (by rw [List.any_cons, q]; simp), List.map_cons, if_neg e]
section
variable {P : Program} {w : World} {F F' F1 H1 H H' : Hp} {D : Addr} {kds : KD}
theorem dnks_store {i : Int} {v : V} {vd : PyData} (hv : Dn P w F v vd) : ∀ {es : List (Key × V)} {kds : KD}, DnKs P w F es kds → DnKs P w F (storeK (.inl i) v es) (storeD (.int i) vd kds)
  | _, _, .nil => .cons hv .nil
  | _, _, .cons (i := j) (v := v') (kvs := es) (vd := vd') (kds := kds) c r => by
    show DnKs P w F (storeK (.inl i) v ((.inl j, v') :: es)) (bIf (eqD 4 (.int j) (.int i)) ((.int j, vd) :: kds) ((.int j, vd') :: storeD (.int i) vd kds))
    rw [eqD_eq, PyData.eqv]
    unfold storeK
    by_cases e : j = i
    · subst e
      rw [beq_self_eq_true, if_pos rfl]
      exact .cons hv r
    · rw [beq_eq_false_iff_ne.mpr e, if_neg (fun z => e (by injection z))]
      exact .cons c (dnks_store hv r)
/-- the dict that grows at D -/
structure AccD (P : Program) (w : World) (F1 H1 : Hp) (D : Addr) (kds : KD) (F H : Hp) : Prop where
  g : Grow F1 H1 F H
  no : F D = none
  at_ : ∃ kvs, H D = some (.dK kvs) ∧ DnKs P w F kvs kds ∧ (kvs.map (·.1)).Nodup
theorem AccD.start (s : Same F1 H1) (n : H1 D = none) : AccD P w F1 H1 D [] F1 (upd H1 D (.dK [])) := ⟨Grow.more s n, s.free n, [], upd_same, .nil, by simp⟩
theorem AccD.grow (A : AccD P w F1 H1 D kds F H) (g : Grow F H F' H') : AccD P w F1 H1 D kds F' H' := by
  obtain ⟨acc, h, r, nd⟩ := A.at_
  exact ⟨A.g.trans g, g.still A.no h, acc, g.hh.get _ _ h, r.mono g.ff, nd⟩
theorem AccD.put (A : AccD P w F1 H1 D kds F H) (n : H1 D = none) {v : V} {i : Int} {d : PyData} (h : Dn P w F v d) (hz : kds.length ≤ 100000) : ∃ kvs, H D = some (.dK kvs) ∧ kvs.length < sizeLine ∧ AccD P w F1 H1 D (storeD (.int i) d kds) F (upd H D (.dK (putK kvs (.inl i) v))) := by
  obtain ⟨acc, hD, r, nd⟩ := A.at_
  refine ⟨acc, hD, by rw [r.length, sizeLine_eq]; omega, A.g.wr A.no n, A.no, _, upd_same, by rw [putK_eq _ _ _ nd]; exact dnks_store h r, by rw [putK_eq _ _ _ nd]; exact (storeK_keys nd).1⟩
theorem AccD.done (A : AccD P w F1 H1 D kds F H) (n : H1 D = none) : ∃ u, H D = some u ∧ Mut (some u) ∧ ∀ o, ∃ F', Grow F1 H1 F' (upd H D (.frz o u)) ∧ Dn P w F' (.ref D) (.dict kds) := by
  obtain ⟨acc, hD, r, nd⟩ := A.at_
  refine ⟨_, hD, True.intro, fun o => ?_⟩
  have m : Same F (upd F D (.frz o (.dK acc))) := fun a x e => by rw [upd_ne (ne_of_none e A.no)]; exact e
  exact ⟨upd F D (.frz o (.dK acc)), (A.g.wr A.no n).frz A.no n upd_same, .dci upd_same (r.mono m)⟩
end
noncomputable def foldK (f : PyData → KD → Option KD) (ds : List PyData) : KD → Option KD := @List.rec PyData (fun _ => KD → Option KD) (fun kds => some kds) (fun d _ ih kds => bd (f d kds) ih) ds
theorem foldK_cons {f : PyData → KD → Option KD} {d : PyData} {ds : List PyData} {kds out : KD} (h : foldK f (d :: ds) kds = some out) : ∃ k1, f d kds = some k1 ∧ foldK f ds k1 = some out := bd_some h
abbrev RBD := En → KD → Option KD
def tRBD (P : Program) (w : World) (r : RBD) (D : Addr) : L2.St → Hp → (Hp → Prop) → Prop := fun σ H Nx => ∃ F0 H0 F1 H1 F env kds out, H1 D = none ∧ Same F1 F ∧ (∀ F'' H'' ks, Same F F'' → AccD P w F1 H1 D ks F'' H'' → Rel P w F0 H0 F'' H'' σ env) ∧ AccD P w F1 H1 D kds F H ∧ r env kds = some out ∧ ∀ F'' H'', Same F F'' → AccD P w F1 H1 D out F'' H'' → Nx H''
noncomputable def rbInD (rk rv : RE) : RBD := fun env kds => bd (rk env) fun kd => bd (rv env) fun vd => bd (toI kd) fun _ => bIf (Nat.ble (len kds) 100000) (some (storeD kd vd kds)) none
noncomputable def rbLvlD (r1 : RA) (b1 : PyData → En → Option En) (rb : RBD) (vs1 : List Nat) : RBD := fun env kds => bd (r1 env) fun ds => foldK (fun d ks => bd (b1 d (wipeE env vs1)) fun e1 => rb e1 ks) ds kds
section
variable {P : Program} {w : World}
theorem tInD_of {rk rv : RE} {D : Addr} : ∀ σ H Nx, tRBD P w (rbInD rk rv) D σ H Nx → (fun σ H (Nx : Hp → Prop) => tE P w rk σ H fun y H4 => tE P w rv σ H4 fun z H5 => ∃ kvs k, y = kV k ∧ H5 D = some (.dK kvs) ∧ kvs.length < sizeLine ∧ Nx (upd H5 D (.dK (putK kvs k z)))) σ H Nx := by
  rintro σ H Nx ⟨F0, H0, F1, H1, F, env, kds, out, n, s1, R, A, hr, k⟩
  obtain ⟨kd, h1, hr⟩ := bd_some hr
  obtain ⟨vd, h2, hr⟩ := bd_some hr
  obtain ⟨i, h3, hr⟩ := bd_some hr
  obtain ⟨h4, hr⟩ := bIf_some hr
  cases hr
  have e3 := toI_some h3
  subst e3
  have h4 := ble_le h4
  rw [len_eq] at h4
  have R0 := R F H kds (.refl _) A
  refine ⟨F0, H0, F, env, _, R0, h1, fun y F2 H2 g2 n2 => ⟨F0, H0, F2, env, vd, R0.grow g2, h2, fun z F3 H3 g3 n3 => ?_⟩⟩
  cases n2
  obtain ⟨kvs, e1, e2, A6⟩ := ((A.grow g2).grow g3).put (i := i) n n3 h4
  exact ⟨kvs, .inl i, rfl, e1, e2, k _ _ (g2.ff.trans g3.ff) A6⟩
theorem tLvlD_of {ρ : Ro} {r1 : RA} {b1 : PyData → En → Option En} {rb : RBD} {js vs1 : List Nat} {D : Addr} {tb : L2.St → Hp → (Hp → Prop) → Prop} (mono : RoMono ρ) (hjs : ∀ j ∈ js, j ∈ vs1) (hb : ∀ σ H Nx, tRBD P w rb D σ H Nx → tb σ H Nx) :
    ∀ σ H Nx, tRBD P w (rbLvlD r1 b1 rb vs1) D σ H Nx → tLvl (tI P w ρ r1) (tG P w ρ b1 js) tb vs1 σ H Nx := by
  rintro σ H Nx ⟨F0, H0, F1, H1, F, env, kds, out, n, s1, R, A, hr, k⟩
  obtain ⟨ds, h1, h2⟩ := bd_some hr
  refine ⟨F0, H0, F, env, ds, R F H kds (.refl _) A, h1, fun J F2 H2 g2 W => ?_⟩
  refine walk_it W (fun i H => ∃ F' ks, AccD P w F1 H1 D ks F' H ∧ Same F2 F' ∧ foldK (fun d ks => bd (b1 d (wipeE env vs1)) fun e1 => rb e1 ks) (ds.drop i) ks = some out) ⟨F2, kds, A.grow g2, .refl _, h2⟩ (fun i H hi ⟨F', ks, A', s', _⟩ => s'.trans A'.g.fh) ?_ ?_
  · rintro i x H3 H4 hi ⟨F', ks, A', s', hl⟩ ⟨d, F3, hd, hx, g3⟩
    have hdrop : ds.drop i = d :: ds.drop (i + 1) := by
      obtain ⟨h1, h2⟩ := List.getElem?_eq_some_iff.mp hd
      rw [List.drop_eq_getElem_cons h1, h2]
    rw [hdrop] at hl
    obtain ⟨k1, ho, hl'⟩ := foldK_cons hl
    obtain ⟨env1, hb1, h6⟩ := bd_some ho
    obtain ⟨F4, g4, s4⟩ := Grow.join (R F' H3 _ (g2.ff.trans s') A').noT s' A'.g.fh g3
    have s4' : Same F F4 := g2.ff.trans (s'.trans g4.ff)
    have A4 := A'.grow g4
    have R4 : ∀ F'' H'' ks', Same F4 F'' → AccD P w F1 H1 D ks' F'' H'' → Rel P w F0 H0 F'' H'' (wipe σ vs1) (wipeE env vs1) := fun F'' H'' ks' s'' A'' => (R F'' H'' ks' (s4'.trans s'') A'').wipe vs1
    refine ⟨F0, H0, F4, wipeE env vs1, d, env1, R4 _ _ _ (.refl _) A4, mono _ _ _ _ _ s4 hx, hb1, fun us hu e2 => ⟨wipe_outs hjs (Outs.all fun u h => (hu u h).1), hb _ _ _ ⟨F0, H0, F1, H1, F4, env1, ks, k1, n, s1.trans s4', fun F'' H'' ys' s'' A'' => ?_, A4, h6, fun F'' H'' s'' A'' => ?_⟩⟩⟩
    · rw [e2]
      exact (R4 _ _ _ s'' A'').setAll (hu.mono s'')
    · exact ⟨F'', k1, A'', (s'.trans g4.ff).trans s'', hl'⟩
  · rintro H3 ⟨F', ks, A', s', hl⟩
    rw [List.drop_length] at hl
    cases hl
    exact k _ _ (g2.ff.trans s') A'
noncomputable def eDc2 (r : RA) (b : PyData → En → Option En) (rb : RBD) (vs : List Nat) : RE := fun env => bd (r env) fun ds => bd (foldK (fun d ks => bd (b d (wipeE env vs)) fun e1 => rb e1 ks) ds []) fun kds => some (.dict kds)
theorem dcE {ρ : Ro} {r : RA} {b : PyData → En → Option En} {rb : RBD} {js vs : List Nat} {tb : Addr → L2.St → Hp → (Hp → Prop) → Prop} (mono : RoMono ρ) (hjs : ∀ j ∈ js, j ∈ vs) (hb : ∀ D σ H Nx, tRBD P w rb D σ H Nx → tb D σ H Nx) :
    ∀ σ H Q, tE P w (eDc2 r b rb vs) σ H Q → tDc2 (tI P w ρ r) (tG P w ρ b js) tb vs σ H (fun v H1 => ∃ d u, v = .ref d ∧ H1 d = some u ∧ Mut (some u) ∧ ∀ o, Q v (upd H1 d (.frz o u))) := by
  rintro σ H Q ⟨F0, H0, F, env, z, R, hr, k⟩
  obtain ⟨ds, h1, h2⟩ := bd_some hr
  obtain ⟨out, h3, h4⟩ := bd_some h2
  cases h4
  refine ⟨F0, H0, F, env, ds, R, h1, fun J F1 H1 g1 W D n => ?_⟩
  have R1 := (R.grow g1).wipe vs
  refine walk_it W (fun i H => ∃ F' ks, AccD P w F1 H1 D ks F' H ∧ foldK (fun d ks => bd (b d (wipeE env vs)) fun e1 => rb e1 ks) (ds.drop i) ks = some out) ⟨F1, [], AccD.start g1.fh n, h3⟩ (fun i H hi ⟨F', ks, A, _⟩ => A.g.ff.trans A.g.fh) ?_ ?_
  · rintro i x H2 H3 hi ⟨F', ks, A, hl⟩ ⟨d, F2, hd, hx, g2⟩
    have hdrop : ds.drop i = d :: ds.drop (i + 1) := by
      obtain ⟨h1, h2⟩ := List.getElem?_eq_some_iff.mp hd
      rw [List.drop_eq_getElem_cons h1, h2]
    rw [hdrop] at hl
    obtain ⟨k1, ho, hl'⟩ := foldK_cons hl
    obtain ⟨env1, hb1, h6⟩ := bd_some ho
    obtain ⟨F3, g3, s3⟩ := Grow.join (R1.grow A.g).noT A.g.ff A.g.fh g2
    have R3 := (R1.grow A.g).grow g3
    have A3 := A.grow g3
    refine ⟨F0, H0, F3, wipeE env vs, d, env1, R3, mono _ _ _ _ _ s3 hx, hb1, fun us hu e2 => ⟨wipe_outs hjs (Outs.all fun u h => (hu u h).1), hb _ _ _ _ ⟨F0, H0, F1, H1, F3, env1, ks, k1, n, A.g.ff.trans g3.ff, fun F'' H'' ys' s'' A'' => ?_, A3, h6, fun F'' H'' s'' A'' => ?_⟩⟩⟩
    · rw [e2]
      exact (R1.grow A''.g).setAll (hu.mono s'')
    · exact ⟨F'', k1, A'', hl'⟩
  · rintro H2 ⟨F', ks, A, hl⟩
    rw [List.drop_length] at hl
    cases hl
    obtain ⟨u, hu, mu, fin⟩ := A.done n
    refine ⟨D, u, rfl, hu, mu, fun o => ?_⟩
    obtain ⟨F'', g, dn⟩ := fin o
    exact k _ F'' _ (g1.trans g) dn
end
section
variable {X : Cx} {kx vx tg iter tg1 iter1 : Expr} {scope : Scope} {own : List (Str × Nat)} {pos : Pos} {r r1 : RA} {ρ ρ1 : Ro} {b b1 : PyData → En → Option En} {js js1 vs1 : List Nat} {rk rv : RE}
theorem je_dc2 (hc : X.calm = true) (hN : X.N.Nodup) (mono : RoMono ρ) (mono1 : RoMono ρ1) (hi : JI X ρ tg iter r) (ok : BlkOk X.N X.env.scope scope own) (hv : ∀ i ∈ vs1, i ∈ own.map (·.2))
    (hg : ∀ (s : Shared) (H : Hp) (C : Addr) (cl : List (Str × Addr)) (fp : List Addr), JG (X.blk s H scope (compEnvC scope cl C X.env) fp) ρ tg b js)
    (hi1 : ∀ (s : Shared) (H : Hp) (C : Addr) (cl : List (Str × Addr)) (fp : List Addr), JI (X.blk s H scope (compEnvC scope cl C X.env) fp) ρ1 tg1 iter1 r1)
    (hg1 : ∀ (s : Shared) (H : Hp) (C : Addr) (cl : List (Str × Addr)) (fp : List Addr), JG (X.blk s H scope (compEnvC scope cl C X.env) fp) ρ1 tg1 b1 js1)
    (hk : ∀ (s : Shared) (H : Hp) (C : Addr) (cl : List (Str × Addr)) (fp : List Addr), JE (X.blk s H scope (compEnvC scope cl C X.env) fp) kx rk)
    (he : ∀ (s : Shared) (H : Hp) (C : Addr) (cl : List (Str × Addr)) (fp : List Addr), JE (X.blk s H scope (compEnvC scope cl C X.env) fp) vx rv) (hjs : ∀ j ∈ js, j ∈ own.map (·.2)) (hjs1 : ∀ j ∈ js1, j ∈ vs1)
    (hs : ∀ x, foldedSetIterable iter X.env x = pure x := by intro _; rfl) (hs1 : ∀ env x, foldedSetIterable iter1 env x = pure x := by intro _ _; rfl) :
    JE X (.DictComp kx vx [⟨tg, iter, [], 0⟩, ⟨tg1, iter1, [], 0⟩] scope pos) (eDc2 r b (rbLvlD r1 b1 (rbInD rk rv) vs1) (own.map (·.2))) := by
  refine PE.imp (pe_lk (pe_dc2 (tb := fun D => tLvl (tI X.prog X.w ρ1 r1) (tG X.prog X.w ρ1 b1 js1) (fun σ H Nx => tE X.prog X.w rk σ H fun y H4 => tE X.prog X.w rv σ H4 fun z H5 => ∃ kvs k, y = kV k ∧ H5 D = some (.dK kvs) ∧ kvs.length < sizeLine ∧ Nx (upd H5 D (.dK (putK kvs k z)))) vs1) hc hN hi.pi ok hv (fun s H C cl fp => (hg s H C cl fp).pg) (fun s H C cl fp D E => ?_) hs))
    (dcE mono hjs fun D => tLvlD_of mono1 hjs1 tInD_of)
  have hc' : (X.blk s H scope (compEnvC scope cl C X.env) fp).calm = true := hc
  refine body_midD (XB := X.blk s H scope (compEnvC scope cl C X.env) fp) (vs2 := []) hc' rfl (fun i hi => nomatch hi) (fun it => turnD_1 _ _ _ _ _ _ _ _ _ _ _) compStartD_1 (hi1 s H C cl fp).pi (hg1 s H C cl fp).pg (fun E' => ?_) (hs1 _)
  exact body_inD rfl rfl (hk s H C cl fp) (he s H C cl fp)
end
end K67
set_option Elab.async false
set_option linter.all false
set_option maxRecDepth 100000
set_option maxHeartbeats 4000000
namespace K67
open PySem PySem.Spec PyProof.Rows L2
variable [TabA]
/-- the module, as the head leaves it -/
structure Md (K : PySem.W.Frag) (mg : Str → Option Value) (base : Heap) : Prop where
  kin : K.In base
  g : base.Ns mainGlobals mg
  c : He.SaysD fa fn K
section
variable {P : Program} {w : World} {K : PySem.W.Frag} {mg : Str → Option Value} {base : Heap}
theorem Md.glo (M : Md K mg base) (i : Nat) {x : Str} (h : fa[i]? = some (.glo x)) : mg x = some (.ref (He.ga K x)) := He.glo_ok M.kin M.g (M.c.fact i h)
theorem Md.b_isinstance (M : Md K mg base) : mg "isinstance" = none := He.free_ok M.kin M.g (M.c.fact 66 (f := .free "isinstance") rfl)
theorem Md.b_int (M : Md K mg base) : mg "int" = none := He.free_ok M.kin M.g (M.c.fact 67 (f := .free "int") rfl)
theorem Md.b_bool (M : Md K mg base) : mg "bool" = none := He.free_ok M.kin M.g (M.c.fact 68 (f := .free "bool") rfl)
theorem Md.b_tuple (M : Md K mg base) : mg "tuple" = none := He.free_ok M.kin M.g (M.c.fact 69 (f := .free "tuple") rfl)
theorem Md.b_len (M : Md K mg base) : mg "len" = none := He.free_ok M.kin M.g (M.c.fact 70 (f := .free "len") rfl)
theorem Md.b_all (M : Md K mg base) : mg "all" = none := He.free_ok M.kin M.g (M.c.fact 71 (f := .free "all") rfl)
theorem Md.b_range (M : Md K mg base) : mg "range" = none := He.free_ok M.kin M.g (M.c.fact 72 (f := .free "range") rfl)
theorem Md.b_enumerate (M : Md K mg base) : mg "enumerate" = none := He.free_ok M.kin M.g (M.c.fact 73 (f := .free "enumerate") rfl)
theorem Md.b_zip (M : Md K mg base) : mg "zip" = none := He.free_ok M.kin M.g (M.c.fact 74 (f := .free "zip") rfl)
theorem Md.b_sorted (M : Md K mg base) : mg "sorted" = none := He.free_ok M.kin M.g (M.c.fact 75 (f := .free "sorted") rfl)
theorem Md.b_max (M : Md K mg base) : mg "max" = none := He.free_ok M.kin M.g (M.c.fact 76 (f := .free "max") rfl)
theorem Md.b_sum (M : Md K mg base) : mg "sum" = none := He.free_ok M.kin M.g (M.c.fact 77 (f := .free "sum") rfl)
theorem Md.b_repr (M : Md K mg base) : mg "repr" = none := He.free_ok M.kin M.g (M.c.fact 78 (f := .free "repr") rfl)
theorem Md.int_MOST_STATES (M : Md K mg base) : ∃ t, mg "MOST_STATES" = some (.int 12 t) := He.int_ok M.kin M.g (M.c.fact 79 (f := .int "MOST_STATES" 12) rfl)
theorem Md.int_MOST_CLOCK (M : Md K mg base) : ∃ t, mg "MOST_CLOCK" = some (.int 1000000 t) := He.int_ok M.kin M.g (M.c.fact 80 (f := .int "MOST_CLOCK" 1000000) rfl)
theorem Md.int_MOST_PRODUCT (M : Md K mg base) : ∃ t, mg "MOST_PRODUCT" = some (.int 1000 t) := He.int_ok M.kin M.g (M.c.fact 81 (f := .int "MOST_PRODUCT" 1000) rfl)
theorem Md.int_MOST_COUNTED (M : Md K mg base) : ∃ t, mg "MOST_COUNTED" = some (.int 40 t) := He.int_ok M.kin M.g (M.c.fact 82 (f := .int "MOST_COUNTED" 40) rfl)
theorem bt_isinstance : bootBuiltins "isinstance" = some (.builtin "isinstance") := by decide +kernel
theorem bt_int : bootBuiltins "int" = some (.type "int") := by decide +kernel
theorem bt_bool : bootBuiltins "bool" = some (.type "bool") := by decide +kernel
theorem bt_tuple : bootBuiltins "tuple" = some (.type "tuple") := by decide +kernel
theorem bt_len : bootBuiltins "len" = some (.builtin "len") := by decide +kernel
theorem bt_all : bootBuiltins "all" = some (.builtin "all") := by decide +kernel
theorem bt_range : bootBuiltins "range" = some (.type "range") := by decide +kernel
theorem bt_enumerate : bootBuiltins "enumerate" = some (.type "enumerate") := by decide +kernel
theorem bt_zip : bootBuiltins "zip" = some (.type "zip") := by decide +kernel
theorem bt_sorted : bootBuiltins "sorted" = some (.builtin "sorted") := by decide +kernel
theorem bt_max : bootBuiltins "max" = some (.builtin "max") := by decide +kernel
theorem bt_sum : bootBuiltins "sum" = some (.builtin "sum") := by decide +kernel
theorem bt_repr : bootBuiltins "repr" = some (.builtin "repr") := by decide +kernel
theorem fn_none {x qual : Str} {params : Arguments} {body : List Stmt} {scope : Scope} {f : Addr} {fd : FuncData} {ps : List Str} {k n : Nat} (F : FunD K x qual params body scope [] [] f fd) (hm : mg x = some (.ref f))
    (hbind : ∀ (kV doc pm : Value) (an : Option Addr) (cdv ct : Value) (us : List Value), us.length = ps.length → bindArgs (PySem.W.fnOf x qual params body scope .none kV doc pm an cdv ct) ⟨us, []⟩ = pure (ps.zip us)) :
    FnAt P w K mg base x k n (fun _ => none) :=
  ⟨f, fd, ps, ⟨fun vs H Q E h => (by obtain ⟨_, _, _, _, _, _, _, _, z, _⟩ := h; cases z), fun A outer s H args us vs Q E _ _ _ _ h => (by obtain ⟨_, _, _, _, _, _, _, _, z, _⟩ := h; cases z)⟩, hm, F.kp, F.bindsN hbind⟩
end
end K67
set_option Elab.async false
set_option linter.all false
set_option maxRecDepth 100000
set_option maxHeartbeats 4000000
namespace K67
open PySem PySem.Spec PyProof.Rows L2
variable [TabA]
abbrev N_is_whole : List PySem.Str := ["thing"]
theorem sc_is_whole : FnScope N_is_whole ["thing"] (defScope s_is_whole) := ⟨rfl, rfl, rfl, by decide +kernel, rfl, by decide +kernel, by decide +kernel⟩
noncomputable def r_is_whole : RS := (sRet (eIf (tB (e1 (isI false true true false false false) (eVar 0))) (eTB (rNot (tB (e1 (isI false true false false false false) (eVar 0))))) (eC (.bool false))))
noncomputable def rf_is_whole : List PyData → Option PyData := rfOf 0 r_is_whole
theorem fn_is_whole {P : Program} {w : World} {K : PySem.W.Frag} {mg : Str → Option Value} {base : Heap} (M : Md K mg base) : FnAt P w K mg base "is_whole" 1 1 rf_is_whole := by
  obtain ⟨fd, F⟩ := M.c.def_ 0 (d := d_is_whole) rfl
  refine fn_mk F (M.glo 0 rfl) sc_is_whole rfl rfl (fun _ _ _ _ _ _ us hl => match us, hl with | [_], _ => rfl) fun cdv A outer s0 H E hr => ?_
  exact (jss_one (js_ret (je_and (je_isI (je_var 0) (by rfl) (Md.b_isinstance M) (by rfl) (Md.b_int M) bt_int rfl rfl rfl rfl rfl rfl) (je_b1 (je_not (je_isI (je_var 0) (by rfl) (Md.b_isinstance M) (by rfl) (Md.b_bool M) bt_bool rfl rfl rfl rfl rfl rfl))))))
abbrev N_is_between : List PySem.Str := ["thing", "least", "most"]
theorem sc_is_between : FnScope N_is_between ["thing", "least", "most"] (defScope s_is_between) := ⟨rfl, rfl, rfl, by decide +kernel, rfl, by decide +kernel, by decide +kernel⟩
noncomputable def r_is_between : RS := (sRet (eIf (tB (eCall rf_is_whole (aCons (eVar 0) aNil))) (e3c dLe dLe (eVar 1) (eVar 0) (eVar 2)) (eC (.bool false))))
noncomputable def rf_is_between : List PyData → Option PyData := rfOf 0 r_is_between
theorem fn_is_between {P : Program} {w : World} {K : PySem.W.Frag} {mg : Str → Option Value} {base : Heap} (M : Md K mg base) : FnAt P w K mg base "is_between" 2 3 rf_is_between := by
  obtain ⟨fd, F⟩ := M.c.def_ 1 (d := d_is_between) rfl
  refine fn_mk F (M.glo 1 rfl) sc_is_between rfl rfl (fun _ _ _ _ _ _ us hl => match us, hl with | [_, _, _], _ => rfl) fun cdv A outer s0 H E hr => ?_
  exact (jss_one (js_ret (je_and (je_fn (fn_is_whole M) (hr.mono (by decide)) (by rfl) (ja_cons (je_var 0) ja_nil)) (je_b1 (je_chain op_le op_le ok_le ok_le (je_var 1) (je_var 0) (je_var 2))))))
abbrev N_is_below : List PySem.Str := ["thing", "bound"]
theorem sc_is_below : FnScope N_is_below ["thing", "bound"] (defScope s_is_below) := ⟨rfl, rfl, rfl, by decide +kernel, rfl, by decide +kernel, by decide +kernel⟩
noncomputable def r_is_below : RS := (sRet (eCall rf_is_between (aCons (eVar 0) (aCons (eC (.int (.ofNat 0))) (aCons (e2 dSub (eVar 1) (eC (.int (.ofNat 1)))) aNil)))))
noncomputable def rf_is_below : List PyData → Option PyData := rfOf 0 r_is_below
theorem fn_is_below {P : Program} {w : World} {K : PySem.W.Frag} {mg : Str → Option Value} {base : Heap} (M : Md K mg base) : FnAt P w K mg base "is_below" 3 2 rf_is_below := by
  obtain ⟨fd, F⟩ := M.c.def_ 2 (d := d_is_below) rfl
  refine fn_mk F (M.glo 2 rfl) sc_is_below rfl rfl (fun _ _ _ _ _ _ us hl => match us, hl with | [_, _], _ => rfl) fun cdv A outer s0 H E hr => ?_
  exact (jss_one (js_ret (je_fn (fn_is_between M) (hr.mono (by decide)) (by rfl) (ja_cons (je_var 0) (ja_cons je_int (ja_cons (je_bin op_sub ok_sub (je_var 1) je_int) ja_nil))))))
abbrev N_least_divisor : List PySem.Str := ["n", "least", "by"]
theorem sc_least_divisor : FnScope N_least_divisor ["n", "least"] (defScope s_least_divisor) := ⟨rfl, rfl, rfl, by decide +kernel, rfl, by decide +kernel, by decide +kernel⟩
noncomputable def r_least_divisor : RS := (sSeq (sSet 2 (eVar 1)) (sSeq (loopW (tB (e2 dLe (e2 dMul (eVar 2) (eVar 2)) (eVar 0))) (sSeq (sIf (tB (e2 dEq (e2 dMod (eVar 0) (eVar 2)) (eC (.int (.ofNat 0))))) (sRet (eVar 2)) sNx) (sSet 2 (e2 dAddI (eVar 2) (eC (.int (.ofNat 1)))))) 200) (sRet (eVar 0))))
noncomputable def rf_least_divisor : List PyData → Option PyData := rfOf 1 r_least_divisor
theorem fn_least_divisor {P : Program} {w : World} {K : PySem.W.Frag} {mg : Str → Option Value} {base : Heap} (M : Md K mg base) : FnAt P w K mg base "least_divisor" 1 2 rf_least_divisor := by
  obtain ⟨fd, F⟩ := M.c.def_ 3 (d := d_least_divisor) rfl
  refine fn_mk F (M.glo 3 rfl) sc_least_divisor rfl rfl (fun _ _ _ _ _ _ us hl => match us, hl with | [_, _], _ => rfl) fun cdv A outer s0 H E hr => ?_
  exact (jss_cons (js_set (i := 2) sc_least_divisor.nd rfl (by first | exact Or.inl rfl | exact Or.inr rfl) (je_var 1)) (jss_cons (js_while 200 PassesOwn.never (jt_cmp op_le ok_le (je_bin opr_mul ok_mul (je_var 2) (je_var 2)) (je_var 0) (nomark _)) (jss_cons (js_if (jt_cmp (op_eqD hr.units) ok_eq (je_bin op_mod ok_mod (je_var 0) (je_var 2)) je_int (nomark _)) (jss_one (js_ret (je_var 2))) jss_nil) (jss_one (js_aug (i := 2) sc_least_divisor.nd rfl (by first | exact Or.inl rfl | exact Or.inr rfl) je_int)))) (jss_one (js_ret (je_var 0)))))
abbrev N_powers_of : List PySem.Str := ["n", "found", "by", "many"]
theorem sc_powers_of : FnScope N_powers_of ["n"] (defScope s_powers_of) := ⟨rfl, rfl, rfl, by decide +kernel, rfl, by decide +kernel, by decide +kernel⟩
noncomputable def r_powers_of : RS := (sSeq (sOwn 1 aNil) (sSeq (sSet 2 (eC (.int (.ofNat 2)))) (sSeq (loopW (tB (e2 dGt (eVar 0) (eC (.int (.ofNat 1))))) (sSeq (sSet 2 (eCall rf_least_divisor (aCons (eVar 0) (aCons (eVar 2) aNil)))) (sSeq (sSet 3 (eC (.int (.ofNat 0)))) (sSeq (loopW (tB (e2 dEq (e2 dMod (eVar 0) (eVar 2)) (eC (.int (.ofNat 0))))) (sSeq (sSet 0 (e2 dDiv (eVar 0) (eVar 2))) (sSet 3 (e2 dAddI (eVar 3) (eC (.int (.ofNat 1)))))) 200) (sApp 1 (eTup (aCons (eVar 2) (aCons (eVar 3) aNil))))))) 200) (sFrz 1 (sRet (eCall (l1 dTuple) (aCons (eVar 1) aNil)))))))
noncomputable def rf_powers_of : List PyData → Option PyData := rfOf 3 r_powers_of
theorem fn_powers_of {P : Program} {w : World} {K : PySem.W.Frag} {mg : Str → Option Value} {base : Heap} (M : Md K mg base) : FnAt P w K mg base "powers_of" 2 1 rf_powers_of := by
  obtain ⟨fd, F⟩ := M.c.def_ 4 (d := d_powers_of) rfl
  refine fn_mk F (M.glo 4 rfl) sc_powers_of rfl rfl (fun _ _ _ _ _ _ us hl => match us, hl with | [_], _ => rfl) fun cdv A outer s0 H E hr => ?_
  exact (jss_cons (js_own (i := 1) sc_powers_of.nd rfl (by first | exact Or.inl rfl | exact Or.inr rfl) ja_nil) (jss_cons (js_set (i := 2) sc_powers_of.nd rfl (by first | exact Or.inl rfl | exact Or.inr rfl) je_int) (jss_cons (js_while 200 PassesOwn.never (jt_cmp op_gt ok_gt (je_var 0) je_int (nomark _)) (jss_cons (js_set (i := 2) sc_powers_of.nd rfl (by first | exact Or.inl rfl | exact Or.inr rfl) (je_fn (fn_least_divisor M) (hr.mono (by decide)) (by rfl) (ja_cons (je_var 0) (ja_cons (je_var 2) ja_nil)))) (jss_cons (js_set (i := 3) sc_powers_of.nd rfl (by first | exact Or.inl rfl | exact Or.inr rfl) je_int) (jss_cons (js_while 200 PassesOwn.never (jt_cmp (op_eqD hr.units) ok_eq (je_bin op_mod ok_mod (je_var 0) (je_var 2)) je_int (nomark _)) (jss_cons (js_set (i := 0) sc_powers_of.nd rfl (by first | exact Or.inl rfl | exact Or.inr rfl) (je_bin op_fdiv ok_div (je_var 0) (je_var 2))) (jss_one (js_aug (i := 3) sc_powers_of.nd rfl (by first | exact Or.inl rfl | exact Or.inr rfl) je_int)))) (jss_one (js_app (i := 1) rfl (by first | exact Or.inl rfl | exact Or.inr (Or.inl rfl) | exact Or.inr (Or.inr rfl)) (je_tup (ja_cons (je_var 2) (ja_cons (je_var 3) ja_nil))))))))) (js_frz (i := 1) (jss_one (js_ret (je_callTy call_tupleF ok_tuple (by rfl) (Md.b_tuple M) bt_tuple (ja_cons (je_var 1) ja_nil))))))))
abbrev N_is_many : List PySem.Str := ["thing"]
theorem sc_is_many : FnScope N_is_many ["thing"] (defScope s_is_many) := ⟨rfl, rfl, rfl, by decide +kernel, rfl, by decide +kernel, by decide +kernel⟩
noncomputable def r_is_many : RS := (sRet (eCall rf_is_between (aCons (eVar 0) (aCons (eC (.int (.ofNat 1))) (aCons (eC (.int (.ofNat 12))) aNil)))))
noncomputable def rf_is_many : List PyData → Option PyData := rfOf 0 r_is_many
theorem fn_is_many {P : Program} {w : World} {K : PySem.W.Frag} {mg : Str → Option Value} {base : Heap} (M : Md K mg base) : FnAt P w K mg base "is_many" 3 1 rf_is_many := by
  obtain ⟨fd, F⟩ := M.c.def_ 5 (d := d_is_many) rfl
  refine fn_mk F (M.glo 5 rfl) sc_is_many rfl rfl (fun _ _ _ _ _ _ us hl => match us, hl with | [_], _ => rfl) fun cdv A outer s0 H E hr => ?_
  exact (jss_one (js_ret (je_fn (fn_is_between M) (hr.mono (by decide)) (by rfl) (ja_cons (je_var 0) (ja_cons je_int (ja_cons (je_glob (by rfl) (Md.int_MOST_STATES M)) ja_nil))))))
abbrev N_is_cube : List PySem.Str := ["thing", "sizes", "part", "row"]
theorem sc_is_cube : FnScope N_is_cube ["thing"] (defScope s_is_cube) := ⟨rfl, rfl, rfl, by decide +kernel, rfl, by decide +kernel, by decide +kernel⟩
noncomputable def r_is_cube : RS := (sSeq (sIf (rOr (rNot (tB (e1 (isI false false false false false true) (eVar 0)))) (rNot (tB (eCall rf_is_many (aCons (eCall (l1 dLen) (aCons (eVar 0) aNil)) aNil))))) (sRet (eC (.bool false))) sNx) (sSeq (sSet 1 (eLc (iSeq (eVar 0)) (b1 2) rYes (eIf (tB (e1 (isI false false false false false true) (eVar 2))) (e2 dEq (eCall (l1 dLen) (aCons (eVar 2) aNil)) (eCall (l1 dLen) (aCons (eVar 0) aNil))) (eC (.bool false))) [2])) (sSeq (sIf (rNot (tB (eCall (l1 dAll) (aCons (eVar 1) aNil)))) (sRet (eC (.bool false))) sNx) (sRet (eCall (l1 dAll) (aCons (eLc2 (iSeq (eVar 0)) (b1 2) (iSeq (eVar 2)) (b1 3) (eIf (tB (e1 (isI false false false false false true) (eVar 3))) (e2 dEq (eCall (l1 dLen) (aCons (eVar 3) aNil)) (eCall (l1 dLen) (aCons (eVar 0) aNil))) (eC (.bool false))) [2, 3] [3]) aNil))))))
noncomputable def rf_is_cube : List PyData → Option PyData := rfOf 3 r_is_cube
theorem fn_is_cube {P : Program} {w : World} {K : PySem.W.Frag} {mg : Str → Option Value} {base : Heap} (M : Md K mg base) : FnAt P w K mg base "is_cube" 4 1 rf_is_cube := by
  obtain ⟨fd, F⟩ := M.c.def_ 6 (d := d_is_cube) rfl
  refine fn_mk F (M.glo 6 rfl) sc_is_cube rfl rfl (fun _ _ _ _ _ _ us hl => match us, hl with | [_], _ => rfl) fun cdv A outer s0 H E hr => ?_
  exact (jss_cons (js_if (PW.pt (jw_or (jt_not (jt_val (je_isI (je_var 0) (by rfl) (Md.b_isinstance M) (by rfl) (Md.b_tuple M) bt_tuple rfl rfl rfl rfl rfl rfl))) (jw_1 (jt_not (jt_val (je_fn (fn_is_many M) (hr.mono (by decide)) (by rfl) (ja_cons (je_callB call_len_seq ok_len (by rfl) (Md.b_len M) bt_len (ja_cons (je_var 0) ja_nil)) ja_nil))))))) (jss_one (js_ret je_bl)) jss_nil) (jss_cons (js_setLc (own := [("part", 2)]) (i := 1) rfl sc_is_cube.nd rfl rfl (sw_true rfl rfl rfl (by decide +kernel)) roD_mono (ji_seq (je_var 0)) (blkOk_by (own := [("part", 2)]) (N := N_is_cube) (sc := defScope s_is_cube) (by decide +kernel)) (fun _ _ _ _ _ => (jg_name (i := 2) sc_is_cube.nd rfl (by first | exact Or.inl rfl | exact Or.inr rfl))) (fun _ _ _ _ _ => jts_nil) (fun _ _ _ _ _ => (je_and (je_isI (je_var 2) (by rfl) (Md.b_isinstance M) (by rfl) (Md.b_tuple M) bt_tuple rfl rfl rfl rfl rfl rfl) (je_b1 (je_cmp (op_eqD hr.units) ok_eq (je_callB call_len_seq ok_len (by rfl) (Md.b_len M) bt_len (ja_cons (je_var 2) ja_nil)) (je_callB call_len_seq ok_len (by rfl) (Md.b_len M) bt_len (ja_cons (je_var 0) ja_nil)) (nomark _))))) (by decide)) (jss_cons (js_if (jt_not (jt_val (je_callB (cr_all rfl) ok_all (by rfl) (Md.b_all M) bt_all (ja_cons (je_var 1) ja_nil)))) (jss_one (js_ret je_bl)) jss_nil) (jss_one (js_ret (je_callB (cr_all rfl) ok_all (by rfl) (Md.b_all M) bt_all (ja_cons (je_lc2 (own := [("part", 2), ("row", 3)]) (vs1 := [3]) rfl sc_is_cube.nd roD_mono roD_mono (ji_seq (je_var 0)) (blkOk_by (own := [("part", 2), ("row", 3)]) (N := N_is_cube) (sc := defScope s_is_cube) (by decide +kernel)) (by decide) (fun _ _ _ _ _ => (jg_name (i := 2) sc_is_cube.nd rfl (by first | exact Or.inl rfl | exact Or.inr rfl))) (fun _ _ _ _ _ => (ji_seq (je_var 2))) (fun _ _ _ _ _ => (jg_name (i := 3) sc_is_cube.nd rfl (by first | exact Or.inl rfl | exact Or.inr rfl))) (fun _ _ _ _ _ => (je_and (je_isI (je_var 3) (by rfl) (Md.b_isinstance M) (by rfl) (Md.b_tuple M) bt_tuple rfl rfl rfl rfl rfl rfl) (je_b1 (je_cmp (op_eqD hr.units) ok_eq (je_callB call_len_seq ok_len (by rfl) (Md.b_len M) bt_len (ja_cons (je_var 3) ja_nil)) (je_callB call_len_seq ok_len (by rfl) (Md.b_len M) bt_len (ja_cons (je_var 0) ja_nil)) (nomark _))))) (by decide) (by decide)) ja_nil)))))))
abbrev N_at : List PySem.Str := ["table", "place"]
theorem sc_at : FnScope N_at ["table", "place"] (defScope s_at) := ⟨rfl, rfl, rfl, by decide +kernel, rfl, by decide +kernel, by decide +kernel⟩
noncomputable def r_at : RS := (sRet (e2 dIx (e2 dIx (e2 dIx (eVar 0) (e2 dIx (eVar 1) (eC (.int (.ofNat 0))))) (e2 dIx (eVar 1) (eC (.int (.ofNat 1))))) (e2 dIx (eVar 1) (eC (.int (.ofNat 2))))))
noncomputable def rf_at : List PyData → Option PyData := rfOf 0 r_at
theorem fn_at {P : Program} {w : World} {K : PySem.W.Frag} {mg : Str → Option Value} {base : Heap} (M : Md K mg base) : FnAt P w K mg base "at" 1 2 rf_at := by
  obtain ⟨fd, F⟩ := M.c.def_ 8 (d := d_at) rfl
  refine fn_mk F (M.glo 8 rfl) sc_at rfl rfl (fun _ _ _ _ _ _ us hl => match us, hl with | [_, _], _ => rfl) fun cdv A outer s0 H E hr => ?_
  exact (jss_one (js_ret (je_ix (ix_list.or ix_tup) ok_ix (je_ix (ix_list.or ix_tup) ok_ix (je_ix (ix_list.or ix_tup) ok_ix (je_var 0) (je_ix (ix_list.or ix_tup) ok_ix (je_var 1) je_int (fun _ _ => rfl)) (fun _ _ => rfl)) (je_ix (ix_list.or ix_tup) ok_ix (je_var 1) je_int (fun _ _ => rfl)) (fun _ _ => rfl)) (je_ix (ix_list.or ix_tup) ok_ix (je_var 1) je_int (fun _ _ => rfl)) (fun _ _ => rfl))))
abbrev N_to_power : List PySem.Str := ["number", "times", "found", "_"]
theorem sc_to_power : FnScope N_to_power ["number", "times"] (defScope s_to_power) := ⟨rfl, rfl, rfl, by decide +kernel, rfl, by decide +kernel, by decide +kernel⟩
noncomputable def r_to_power : RS := (sSeq (sSet 2 (eC (.int (.ofNat 1)))) (sSeq (sFor (iRng1 (eVar 1)) (b1 3) (sSet 2 (e2 dMul (eVar 2) (eVar 0)))) (sRet (eVar 2))))
noncomputable def rf_to_power : List PyData → Option PyData := rfOf 2 r_to_power
theorem fn_to_power {P : Program} {w : World} {K : PySem.W.Frag} {mg : Str → Option Value} {base : Heap} (M : Md K mg base) : FnAt P w K mg base "to_power" 1 2 rf_to_power := by
  obtain ⟨fd, F⟩ := M.c.def_ 15 (d := d_to_power) rfl
  refine fn_mk F (M.glo 15 rfl) sc_to_power rfl rfl (fun _ _ _ _ _ _ us hl => match us, hl with | [_, _], _ => rfl) fun cdv A outer s0 H E hr => ?_
  exact (jss_cons (js_set (i := 2) sc_to_power.nd rfl (by first | exact Or.inl rfl | exact Or.inr rfl) je_int) (jss_cons (js_for PassesOwn.never rfl roD_mono (ji_rng1 (by rfl) (Md.b_range M) (je_var 1)) (jg_name (i := 3) sc_to_power.nd rfl (by first | exact Or.inl rfl | exact Or.inr rfl)) (jss_one (js_set (i := 2) sc_to_power.nd rfl (by first | exact Or.inl rfl | exact Or.inr rfl) (je_bin opr_mul ok_mul (je_var 2) (je_var 0))))) (jss_one (js_ret (je_var 2)))))
abbrev N_parts_of : List PySem.Str := ["number", "least", "found", "first", "others"]
theorem sc_parts_of : FnScope N_parts_of ["number", "least"] (defScope s_parts_of) := ⟨rfl, rfl, rfl, by decide +kernel, rfl, by decide +kernel, by decide +kernel⟩
noncomputable def r_parts_of (rec : List PyData → Option PyData) : RS := (sSeq (sIf (tB (e2 dEq (eVar 0) (eC (.int (.ofNat 0))))) (sRet (eLst (aCons (eTup aNil) aNil))) sNx) (sSeq (sOwn 2 aNil) (sSeq (sFor (iRng2 (eVar 1) (e2 dAdd (eVar 0) (eC (.int (.ofNat 1))))) (b1 3) (sExt 2 (eLc (iSeq (eCall rec (aCons (e2 dSub (eVar 0) (eVar 3)) (aCons (eVar 3) aNil)))) (b1 4) rYes (e2 dAdd (eTup (aCons (eVar 3) aNil)) (eVar 4)) [4]))) (sFrz 2 (sRet (eVar 2))))))
noncomputable def rf_parts_of (j : Nat) : List PyData → Option PyData := @Nat.rec (fun _ => List PyData → Option PyData) (fun _ => none) (fun _ ih => rfOf 3 (r_parts_of ih)) j
theorem fn_parts_of {P : Program} {w : World} {K : PySem.W.Frag} {mg : Str → Option Value} {base : Heap} (M : Md K mg base) : ∀ j : Nat, FnAt P w K mg base "parts_of" (0 + j) 2 (rf_parts_of j)
  | 0 => by
    obtain ⟨fd, F⟩ := M.c.def_ 16 (d := d_parts_of) rfl
    exact fn_none F (M.glo 16 rfl) (ps := ["number", "least"]) (fun _ _ _ _ _ _ us hl => match us, hl with | [_, _], _ => rfl)
  | j + 1 => by
    obtain ⟨fd, F⟩ := M.c.def_ 16 (d := d_parts_of) rfl
    have G := fn_parts_of (P := P) (w := w) M j
    refine fn_mk F (M.glo 16 rfl) sc_parts_of rfl rfl (fun _ _ _ _ _ _ us hl => match us, hl with | [_, _], _ => rfl) fun cdv A outer s0 H E hr => ?_
    exact (jss_cons (js_if (jt_cmp (op_eqD hr.units) ok_eq (je_var 0) je_int (nomark _)) (jss_one (js_ret (je_lst (ja_cons (je_tup ja_nil) ja_nil)))) jss_nil) (jss_cons (js_own (i := 2) sc_parts_of.nd rfl (by first | exact Or.inl rfl | exact Or.inr rfl) ja_nil) (jss_cons (js_for PassesOwn.never rfl roD_mono (ji_rng2 (by rfl) (Md.b_range M) (je_var 1) (je_bin opr_add ok_add (je_var 0) je_int)) (jg_name (i := 3) sc_parts_of.nd rfl (by first | exact Or.inl rfl | exact Or.inr rfl)) (jss_one (js_ext (i := 2) rfl (by first | exact Or.inl rfl | exact Or.inr (Or.inl rfl) | exact Or.inr (Or.inr rfl)) (je_lc (own := [("others", 4)]) rfl sc_parts_of.nd roD_mono (ji_seq (je_fn G (hr.mono (Nat.le_refl _)) (by rfl) (ja_cons (je_bin op_sub ok_sub (je_var 0) (je_var 3)) (ja_cons (je_var 3) ja_nil)))) (blkOk_by (own := [("others", 4)]) (N := N_parts_of) (sc := defScope s_parts_of) (by decide +kernel)) (fun _ _ _ _ _ => (jg_name (i := 4) sc_parts_of.nd rfl (by first | exact Or.inl rfl | exact Or.inr rfl))) (fun _ _ _ _ _ => jts_nil) (fun _ _ _ _ _ => (je_bin opr_add ok_add (je_tup (ja_cons (je_var 3) ja_nil)) (je_var 4))) (by decide))))) (js_frz (i := 2) (jss_one (js_ret (je_var 2)))))))
abbrev N_is_power : List PySem.Str := ["thing"]
theorem sc_is_power : FnScope N_is_power ["thing"] (defScope s_is_power) := ⟨rfl, rfl, rfl, by decide +kernel, rfl, by decide +kernel, by decide +kernel⟩
noncomputable def r_is_power : RS := (sRet (eIf (tB (eCall rf_is_between (aCons (eVar 0) (aCons (eC (.int (.ofNat 2))) (aCons (eC (.int (.ofNat 1000000))) aNil))))) (e2 dEq (eCall (l1 dLen) (aCons (eCall rf_powers_of (aCons (eVar 0) aNil)) aNil)) (eC (.int (.ofNat 1)))) (eC (.bool false))))
noncomputable def rf_is_power : List PyData → Option PyData := rfOf 0 r_is_power
theorem fn_is_power {P : Program} {w : World} {K : PySem.W.Frag} {mg : Str → Option Value} {base : Heap} (M : Md K mg base) : FnAt P w K mg base "is_power" 3 1 rf_is_power := by
  obtain ⟨fd, F⟩ := M.c.def_ 13 (d := d_is_power) rfl
  refine fn_mk F (M.glo 13 rfl) sc_is_power rfl rfl (fun _ _ _ _ _ _ us hl => match us, hl with | [_], _ => rfl) fun cdv A outer s0 H E hr => ?_
  exact (jss_one (js_ret (je_and (je_fn (fn_is_between M) (hr.mono (by decide)) (by rfl) (ja_cons (je_var 0) (ja_cons je_int (ja_cons (je_glob (by rfl) (Md.int_MOST_CLOCK M)) ja_nil)))) (je_b1 (je_cmp (op_eqD hr.units) ok_eq (je_callB call_len_seq ok_len (by rfl) (Md.b_len M) bt_len (ja_cons (je_fn (fn_powers_of M) (hr.mono (by decide)) (by rfl) (ja_cons (je_var 0) ja_nil)) ja_nil)) je_int (nomark _))))))
abbrev N_product_of : List PySem.Str := ["clocks", "found", "clock"]
theorem sc_product_of : FnScope N_product_of ["clocks"] (defScope s_product_of) := ⟨rfl, rfl, rfl, by decide +kernel, rfl, by decide +kernel, by decide +kernel⟩
noncomputable def r_product_of : RS := (sSeq (sSet 1 (eC (.int (.ofNat 1)))) (sSeq (sFor (iSeq (eVar 0)) (b1 2) (sSet 1 (e2 dMul (eVar 1) (eVar 2)))) (sRet (eVar 1))))
noncomputable def rf_product_of : List PyData → Option PyData := rfOf 2 r_product_of
theorem fn_product_of {P : Program} {w : World} {K : PySem.W.Frag} {mg : Str → Option Value} {base : Heap} (M : Md K mg base) : FnAt P w K mg base "product_of" 1 1 rf_product_of := by
  obtain ⟨fd, F⟩ := M.c.def_ 19 (d := d_product_of) rfl
  refine fn_mk F (M.glo 19 rfl) sc_product_of rfl rfl (fun _ _ _ _ _ _ us hl => match us, hl with | [_], _ => rfl) fun cdv A outer s0 H E hr => ?_
  exact (jss_cons (js_set (i := 1) sc_product_of.nd rfl (by first | exact Or.inl rfl | exact Or.inr rfl) je_int) (jss_cons (js_for PassesOwn.never rfl roD_mono (ji_seq (je_var 0)) (jg_name (i := 2) sc_product_of.nd rfl (by first | exact Or.inl rfl | exact Or.inr rfl)) (jss_one (js_set (i := 1) sc_product_of.nd rfl (by first | exact Or.inl rfl | exact Or.inr rfl) (je_bin opr_mul ok_mul (je_var 1) (je_var 2))))) (jss_one (js_ret (je_var 1)))))
abbrev N_all_hands : List PySem.Str := ["clocks", "found", "clock", "hands", "number"]
theorem sc_all_hands : FnScope N_all_hands ["clocks"] (defScope s_all_hands) := ⟨rfl, rfl, rfl, by decide +kernel, rfl, by decide +kernel, by decide +kernel⟩
noncomputable def r_all_hands : RS := (sSeq (sSet 1 (eLst (aCons (eTup aNil) aNil))) (sSeq (sFor (iSeq (eVar 0)) (b1 2) (sSet 1 (eLc2 (iSeq (eVar 1)) (b1 3) (iRng1 (eVar 2)) (b1 4) (e2 dAdd (eVar 3) (eTup (aCons (eVar 4) aNil))) [3, 4] [4]))) (sRet (eVar 1))))
noncomputable def rf_all_hands : List PyData → Option PyData := rfOf 4 r_all_hands
theorem fn_all_hands {P : Program} {w : World} {K : PySem.W.Frag} {mg : Str → Option Value} {base : Heap} (M : Md K mg base) : FnAt P w K mg base "all_hands" 1 1 rf_all_hands := by
  obtain ⟨fd, F⟩ := M.c.def_ 20 (d := d_all_hands) rfl
  refine fn_mk F (M.glo 20 rfl) sc_all_hands rfl rfl (fun _ _ _ _ _ _ us hl => match us, hl with | [_], _ => rfl) fun cdv A outer s0 H E hr => ?_
  exact (jss_cons (js_set (i := 1) sc_all_hands.nd rfl (by first | exact Or.inl rfl | exact Or.inr rfl) (je_lst (ja_cons (je_tup ja_nil) ja_nil))) (jss_cons (js_for PassesOwn.never rfl roD_mono (ji_seq (je_var 0)) (jg_name (i := 2) sc_all_hands.nd rfl (by first | exact Or.inl rfl | exact Or.inr rfl)) (jss_one (js_setLc2 (own := [("hands", 3), ("number", 4)]) (vs1 := [4]) (i := 1) rfl sc_all_hands.nd rfl rfl (sw_true rfl rfl rfl (by decide +kernel)) roD_mono roD_mono (ji_seq (je_var 1)) (blkOk_by (own := [("hands", 3), ("number", 4)]) (N := N_all_hands) (sc := defScope s_all_hands) (by decide +kernel)) (by decide) (fun _ _ _ _ _ => (jg_name (i := 3) sc_all_hands.nd rfl (by first | exact Or.inl rfl | exact Or.inr rfl))) (fun _ _ _ _ _ => (ji_rng1 (by rfl) (Md.b_range M) (je_var 2))) (fun _ _ _ _ _ => (jg_name (i := 4) sc_all_hands.nd rfl (by first | exact Or.inl rfl | exact Or.inr rfl))) (fun _ _ _ _ _ => (je_bin opr_add ok_add (je_var 3) (je_tup (ja_cons (je_var 4) ja_nil)))) (by decide) (by decide)))) (jss_one (js_ret (je_var 1)))))
end K67
set_option Elab.async false
set_option linter.all false
set_option maxRecDepth 100000
set_option maxHeartbeats 4000000
namespace K67
open PySem PySem.Spec PyProof.Rows L2
variable [TabA]
abbrev N_law_put_behind : List PySem.Str := ["_law_ahead", "_law_behind", "_law_found", "_law_one_here", "_law_two"]
theorem sc_law_put_behind : FnScope N_law_put_behind ["_law_ahead", "_law_behind"] (defScope s_law_put_behind) := ⟨rfl, rfl, rfl, by decide +kernel, rfl, by decide +kernel, by decide +kernel⟩
noncomputable def r_law_put_behind : RS := (sSeq (sOwn 2 aNil) (sSeq (sFor (iSeq (eVar 0)) (b1 3) (sExt 2 (eLc (iSeq (eVar 1)) (b1 4) rYes (e2 dAdd (eVar 3) (eVar 4)) [4]))) (sFrz 2 (sRet (eVar 2)))))
noncomputable def rf_law_put_behind : List PyData → Option PyData := rfOf 3 r_law_put_behind
theorem fn_law_put_behind {P : Program} {w : World} {K : PySem.W.Frag} {mg : Str → Option Value} {base : Heap} (M : Md K mg base) : FnAt P w K mg base "_law_put_behind" 1 2 rf_law_put_behind := by
  obtain ⟨fd, F⟩ := M.c.def_ 44 (d := d_law_put_behind) rfl
  refine fn_mk F (M.glo 44 rfl) sc_law_put_behind rfl rfl (fun _ _ _ _ _ _ us hl => match us, hl with | [_, _], _ => rfl) fun cdv A outer s0 H E hr => ?_
  exact (jss_cons (js_own (i := 2) sc_law_put_behind.nd rfl (by first | exact Or.inl rfl | exact Or.inr rfl) ja_nil) (jss_cons (js_for PassesOwn.never rfl roD_mono (ji_seq (je_var 0)) (jg_name (i := 3) sc_law_put_behind.nd rfl (by first | exact Or.inl rfl | exact Or.inr rfl)) (jss_one (js_ext (i := 2) rfl (by first | exact Or.inl rfl | exact Or.inr (Or.inl rfl) | exact Or.inr (Or.inr rfl)) (je_lc (own := [("_law_two", 4)]) rfl sc_law_put_behind.nd roD_mono (ji_seq (je_var 1)) (blkOk_by (own := [("_law_two", 4)]) (N := N_law_put_behind) (sc := defScope s_law_put_behind) (by decide +kernel)) (fun _ _ _ _ _ => (jg_name (i := 4) sc_law_put_behind.nd rfl (by first | exact Or.inl rfl | exact Or.inr rfl))) (fun _ _ _ _ _ => jts_nil) (fun _ _ _ _ _ => (je_bin opr_add ok_add (je_var 3) (je_var 4))) (by decide))))) (js_frz (i := 2) (jss_one (js_ret (je_var 2))))))
abbrev N_law_all_hands : List PySem.Str := ["_law_clocks", "_law_found", "_law_clock", "_law_number"]
theorem sc_law_all_hands : FnScope N_law_all_hands ["_law_clocks"] (defScope s_law_all_hands) := ⟨rfl, rfl, rfl, by decide +kernel, rfl, by decide +kernel, by decide +kernel⟩
noncomputable def r_law_all_hands : RS := (sSeq (sSet 1 (eLst (aCons (eTup aNil) aNil))) (sSeq (sFor (iSeq (eVar 0)) (b1 2) (sSet 1 (eCall rf_law_put_behind (aCons (eVar 1) (aCons (eLc (iRng1 (eVar 2)) (b1 3) rYes (eTup (aCons (eVar 3) aNil)) [3]) aNil))))) (sRet (eVar 1))))
noncomputable def rf_law_all_hands : List PyData → Option PyData := rfOf 3 r_law_all_hands
theorem fn_law_all_hands {P : Program} {w : World} {K : PySem.W.Frag} {mg : Str → Option Value} {base : Heap} (M : Md K mg base) : FnAt P w K mg base "_law_all_hands" 2 1 rf_law_all_hands := by
  obtain ⟨fd, F⟩ := M.c.def_ 45 (d := d_law_all_hands) rfl
  refine fn_mk F (M.glo 45 rfl) sc_law_all_hands rfl rfl (fun _ _ _ _ _ _ us hl => match us, hl with | [_], _ => rfl) fun cdv A outer s0 H E hr => ?_
  exact (jss_cons (js_set (i := 1) sc_law_all_hands.nd rfl (by first | exact Or.inl rfl | exact Or.inr rfl) (je_lst (ja_cons (je_tup ja_nil) ja_nil))) (jss_cons (js_for PassesOwn.never rfl roD_mono (ji_seq (je_var 0)) (jg_name (i := 2) sc_law_all_hands.nd rfl (by first | exact Or.inl rfl | exact Or.inr rfl)) (jss_one (js_set (i := 1) sc_law_all_hands.nd rfl (by first | exact Or.inl rfl | exact Or.inr rfl) (je_fn (fn_law_put_behind M) (hr.mono (by decide)) (by rfl) (ja_cons (je_var 1) (ja_cons (je_lc (own := [("_law_number", 3)]) rfl sc_law_all_hands.nd roD_mono (ji_rng1 (by rfl) (Md.b_range M) (je_var 2)) (blkOk_by (own := [("_law_number", 3)]) (N := N_law_all_hands) (sc := defScope s_law_all_hands) (by decide +kernel)) (fun _ _ _ _ _ => (jg_name (i := 3) sc_law_all_hands.nd rfl (by first | exact Or.inl rfl | exact Or.inr rfl))) (fun _ _ _ _ _ => jts_nil) (fun _ _ _ _ _ => (je_tup (ja_cons (je_var 3) ja_nil))) (by decide)) ja_nil)))))) (jss_one (js_ret (je_var 1)))))
abbrev N_law_hands_moved : List PySem.Str := ["_law_clocks", "_law_o", "_law_a", "_law_b", "_law_k"]
theorem sc_law_hands_moved : FnScope N_law_hands_moved ["_law_clocks", "_law_o", "_law_a", "_law_b"] (defScope s_law_hands_moved) := ⟨rfl, rfl, rfl, by decide +kernel, rfl, by decide +kernel, by decide +kernel⟩
noncomputable def r_law_hands_moved : RS := (sRet (eCall (l1 dTuple) (aCons (eLc (iRng1 (eCall (l1 dLen) (aCons (eVar 0) aNil))) (b1 4) rYes (e2 dMod (eCall (l1 dInt) (aCons (e2 dAdd (e2 dSub (e2 dIx (eVar 2) (eVar 4)) (e2 dIx (eVar 1) (eVar 4))) (e2 dIx (eVar 3) (eVar 4))) aNil)) (e2 dIx (eVar 0) (eVar 4))) [4]) aNil)))
noncomputable def rf_law_hands_moved : List PyData → Option PyData := rfOf 1 r_law_hands_moved
theorem fn_law_hands_moved {P : Program} {w : World} {K : PySem.W.Frag} {mg : Str → Option Value} {base : Heap} (M : Md K mg base) : FnAt P w K mg base "_law_hands_moved" 1 4 rf_law_hands_moved := by
  obtain ⟨fd, F⟩ := M.c.def_ 46 (d := d_law_hands_moved) rfl
  refine fn_mk F (M.glo 46 rfl) sc_law_hands_moved rfl rfl (fun _ _ _ _ _ _ us hl => match us, hl with | [_, _, _, _], _ => rfl) fun cdv A outer s0 H E hr => ?_
  exact (jss_one (js_ret (je_callTy call_tupleF ok_tuple (by rfl) (Md.b_tuple M) bt_tuple (ja_cons (je_lc (own := [("_law_k", 4)]) rfl sc_law_hands_moved.nd roD_mono (ji_rng1 (by rfl) (Md.b_range M) (je_callB call_len_seq ok_len (by rfl) (Md.b_len M) bt_len (ja_cons (je_var 0) ja_nil))) (blkOk_by (own := [("_law_k", 4)]) (N := N_law_hands_moved) (sc := defScope s_law_hands_moved) (by decide +kernel)) (fun _ _ _ _ _ => (jg_name (i := 4) sc_law_hands_moved.nd rfl (by first | exact Or.inl rfl | exact Or.inr rfl))) (fun _ _ _ _ _ => jts_nil) (fun _ _ _ _ _ => (je_bin op_mod ok_mod (je_callTy call_int1 ok_int1 (by rfl) (Md.b_int M) bt_int (ja_cons (je_bin opr_add ok_add (je_bin op_sub ok_sub (je_ix (ix_list.or ix_tup) ok_ix (je_var 2) (je_var 4) (fun _ _ => rfl)) (je_ix (ix_list.or ix_tup) ok_ix (je_var 1) (je_var 4) (fun _ _ => rfl))) (je_ix (ix_list.or ix_tup) ok_ix (je_var 3) (je_var 4) (fun _ _ => rfl))) ja_nil)) (je_ix (ix_list.or ix_tup) ok_ix (je_var 0) (je_var 4) (fun _ _ => rfl)))) (by decide)) ja_nil))))
abbrev N_law_named_table : List PySem.Str := ["_law_table", "_law_order", "_law_size", "_law_elder", "_law_found", "_law_o", "_law_rows", "_law_a", "_law_x", "_law_line", "_law_b"]
theorem sc_law_named_table : FnScope N_law_named_table ["_law_table", "_law_order"] (defScope s_law_named_table) := ⟨rfl, rfl, rfl, by decide +kernel, rfl, by decide +kernel, by decide +kernel⟩
noncomputable def r_law_named_table : RS := (sSeq (sSet 2 (eCall (l1 dLen) (aCons (eVar 0) aNil))) (sSeq (sSet 3 (eLc (iRng1 (eVar 2)) (b1 8) rYes (e2 (dIdx toTp) (eVar 1) (eVar 8)) [8])) (sSeq (sOwn 4 aNil) (sSeq (sFor (iRng1 (eVar 2)) (b1 5) (sSeq (sOwn 6 aNil) (sSeq (sFor (iRng1 (eVar 2)) (b1 7) (sSeq (sSet 9 (eLc (iRng1 (eVar 2)) (b1 10) rYes (e2 dIx (e2 dIx (e2 dIx (eVar 0) (e2 dIx (eVar 3) (eVar 5))) (e2 dIx (eVar 3) (eVar 7))) (e2 dIx (eVar 3) (eVar 10))) [10])) (sApp 6 (eCall (l1 dTuple) (aCons (eLc (iSeq (eVar 9)) (b1 8) rYes (eIf (tB (e2 dIsN (eVar 8) (eC .none))) (eC .none) (e2 dIx (eVar 1) (eVar 8))) [8]) aNil))))) (sFrz 6 (sApp 4 (eCall (l1 dTuple) (aCons (eVar 6) aNil))))))) (sFrz 4 (sRet (eCall (l1 dTuple) (aCons (eVar 4) aNil))))))))
noncomputable def rf_law_named_table : List PyData → Option PyData := rfOf 9 r_law_named_table
theorem fn_law_named_table {P : Program} {w : World} {K : PySem.W.Frag} {mg : Str → Option Value} {base : Heap} (M : Md K mg base) : FnAt P w K mg base "_law_named_table" 1 2 rf_law_named_table := by
  obtain ⟨fd, F⟩ := M.c.def_ 48 (d := d_law_named_table) rfl
  refine fn_mk F (M.glo 48 rfl) sc_law_named_table rfl rfl (fun _ _ _ _ _ _ us hl => match us, hl with | [_, _], _ => rfl) fun cdv A outer s0 H E hr => ?_
  exact (jss_cons (js_set (i := 2) sc_law_named_table.nd rfl (by first | exact Or.inl rfl | exact Or.inr rfl) (je_callB call_len_seq ok_len (by rfl) (Md.b_len M) bt_len (ja_cons (je_var 0) ja_nil))) (jss_cons (js_set (i := 3) sc_law_named_table.nd rfl (by first | exact Or.inl rfl | exact Or.inr rfl) (je_lc (own := [("_law_x", 8)]) rfl sc_law_named_table.nd roD_mono (ji_rng1 (by rfl) (Md.b_range M) (je_var 2)) (blkOk_by (own := [("_law_x", 8)]) (N := N_law_named_table) (sc := defScope s_law_named_table) (by decide +kernel)) (fun _ _ _ _ _ => (jg_name (i := 8) sc_law_named_table.nd rfl (by first | exact Or.inl rfl | exact Or.inr rfl))) (fun _ _ _ _ _ => jts_nil) (fun _ _ _ _ _ => (je_tindex (je_var 1) (je_var 8))) (by decide))) (jss_cons (js_own (i := 4) sc_law_named_table.nd rfl (by first | exact Or.inl rfl | exact Or.inr rfl) ja_nil) (jss_cons (js_for PassesOwn.never rfl roD_mono (ji_rng1 (by rfl) (Md.b_range M) (je_var 2)) (jg_name (i := 5) sc_law_named_table.nd rfl (by first | exact Or.inl rfl | exact Or.inr rfl)) (jss_cons (js_own (i := 6) sc_law_named_table.nd rfl (by first | exact Or.inl rfl | exact Or.inr rfl) ja_nil) (jss_cons (js_for PassesOwn.never rfl roD_mono (ji_rng1 (by rfl) (Md.b_range M) (je_var 2)) (jg_name (i := 7) sc_law_named_table.nd rfl (by first | exact Or.inl rfl | exact Or.inr rfl)) (jss_cons (js_setLc (own := [("_law_b", 10)]) (i := 9) rfl sc_law_named_table.nd rfl rfl (sw_true rfl rfl rfl (by decide +kernel)) roD_mono (ji_rng1 (by rfl) (Md.b_range M) (je_var 2)) (blkOk_by (own := [("_law_b", 10)]) (N := N_law_named_table) (sc := defScope s_law_named_table) (by decide +kernel)) (fun _ _ _ _ _ => (jg_name (i := 10) sc_law_named_table.nd rfl (by first | exact Or.inl rfl | exact Or.inr rfl))) (fun _ _ _ _ _ => jts_nil) (fun _ _ _ _ _ => (je_ix (ix_list.or ix_tup) ok_ix (je_ix (ix_list.or ix_tup) ok_ix (je_ix (ix_list.or ix_tup) ok_ix (je_var 0) (je_ix (ix_list.or ix_tup) ok_ix (je_var 3) (je_var 5) (fun _ _ => rfl)) (fun _ _ => rfl)) (je_ix (ix_list.or ix_tup) ok_ix (je_var 3) (je_var 7) (fun _ _ => rfl)) (fun _ _ => rfl)) (je_ix (ix_list.or ix_tup) ok_ix (je_var 3) (je_var 10) (fun _ _ => rfl)) (fun _ _ => rfl))) (by decide)) (jss_one (js_app (i := 6) rfl (by first | exact Or.inl rfl | exact Or.inr (Or.inl rfl) | exact Or.inr (Or.inr rfl)) (je_callTy call_tupleF ok_tuple (by rfl) (Md.b_tuple M) bt_tuple (ja_cons (je_lc (own := [("_law_x", 8)]) rfl sc_law_named_table.nd roD_mono (ji_seq (je_var 9)) (blkOk_by (own := [("_law_x", 8)]) (N := N_law_named_table) (sc := defScope s_law_named_table) (by decide +kernel)) (fun _ _ _ _ _ => (jg_name (i := 8) sc_law_named_table.nd rfl (by first | exact Or.inl rfl | exact Or.inr rfl))) (fun _ _ _ _ _ => jts_nil) (fun _ _ _ _ _ => (je_if (jt_cmp op_isN ok_isN (je_var 8) je_non (nomark _)) je_non (je_ix (ix_list.or ix_tup) ok_ix (je_var 1) (je_var 8) (fun _ _ => rfl)))) (by decide)) ja_nil)))))) (js_frz (i := 6) (jss_one (js_app (i := 4) rfl (by first | exact Or.inl rfl | exact Or.inr (Or.inl rfl) | exact Or.inr (Or.inr rfl)) (je_callTy call_tupleF ok_tuple (by rfl) (Md.b_tuple M) bt_tuple (ja_cons (je_var 6) ja_nil)))))))) (js_frz (i := 4) (jss_one (js_ret (je_callTy call_tupleF ok_tuple (by rfl) (Md.b_tuple M) bt_tuple (ja_cons (je_var 4) ja_nil)))))))))
abbrev N_law_is_still : List PySem.Str := ["_law_table", "_law_size", "_law_o", "_law_a"]
theorem sc_law_is_still : FnScope N_law_is_still ["_law_table"] (defScope s_law_is_still) := ⟨rfl, rfl, rfl, by decide +kernel, rfl, by decide +kernel, by decide +kernel⟩
noncomputable def r_law_is_still : RS := (sSeq (sSet 1 (eCall (l1 dLen) (aCons (eVar 0) aNil))) (sSeq (sFor (iRng1 (eVar 1)) (b1 2) (sIf (tB (e2 dNe (eLc (iRng1 (eVar 1)) (b1 3) (rOr (tB (e2 dNe (e2 dIx (e2 dIx (e2 dIx (eVar 0) (eVar 2)) (eVar 3)) (eVar 2)) (eVar 3))) (tB (e2 dNe (e2 dIx (e2 dIx (e2 dIx (eVar 0) (eVar 2)) (eVar 2)) (eVar 3)) (eVar 3)))) (eVar 3) [3]) (eLst aNil))) (sRet (eC (.bool false))) sNx)) (sRet (eC (.bool true)))))
noncomputable def rf_law_is_still : List PyData → Option PyData := rfOf 3 r_law_is_still
theorem fn_law_is_still {P : Program} {w : World} {K : PySem.W.Frag} {mg : Str → Option Value} {base : Heap} (M : Md K mg base) : FnAt P w K mg base "_law_is_still" 1 1 rf_law_is_still := by
  obtain ⟨fd, F⟩ := M.c.def_ 49 (d := d_law_is_still) rfl
  refine fn_mk F (M.glo 49 rfl) sc_law_is_still rfl rfl (fun _ _ _ _ _ _ us hl => match us, hl with | [_], _ => rfl) fun cdv A outer s0 H E hr => ?_
  exact (jss_cons (js_set (i := 1) sc_law_is_still.nd rfl (by first | exact Or.inl rfl | exact Or.inr rfl) (je_callB call_len_seq ok_len (by rfl) (Md.b_len M) bt_len (ja_cons (je_var 0) ja_nil))) (jss_cons (js_for PassesOwn.never rfl roD_mono (ji_rng1 (by rfl) (Md.b_range M) (je_var 1)) (jg_name (i := 2) sc_law_is_still.nd rfl (by first | exact Or.inl rfl | exact Or.inr rfl)) (jss_one (js_if (jt_cmp (op_neD hr.units) ok_ne (je_lc (own := [("_law_a", 3)]) rfl sc_law_is_still.nd roD_mono (ji_rng1 (by rfl) (Md.b_range M) (je_var 1)) (blkOk_by (own := [("_law_a", 3)]) (N := N_law_is_still) (sc := defScope s_law_is_still) (by decide +kernel)) (fun _ _ _ _ _ => (jg_name (i := 3) sc_law_is_still.nd rfl (by first | exact Or.inl rfl | exact Or.inr rfl))) (fun _ _ _ _ _ => (jts_one (PW.pt (jw_or (jt_cmp (op_neD hr.units) ok_ne (je_ix (ix_list.or ix_tup) ok_ix (je_ix (ix_list.or ix_tup) ok_ix (je_ix (ix_list.or ix_tup) ok_ix (je_var 0) (je_var 2) (fun _ _ => rfl)) (je_var 3) (fun _ _ => rfl)) (je_var 2) (fun _ _ => rfl)) (je_var 3) (nomark _)) (jw_1 (jt_cmp (op_neD hr.units) ok_ne (je_ix (ix_list.or ix_tup) ok_ix (je_ix (ix_list.or ix_tup) ok_ix (je_ix (ix_list.or ix_tup) ok_ix (je_var 0) (je_var 2) (fun _ _ => rfl)) (je_var 2) (fun _ _ => rfl)) (je_var 3) (fun _ _ => rfl)) (je_var 3) (nomark _))))))) (fun _ _ _ _ _ => (je_var 3)) (by decide)) (je_lst ja_nil) (nomark _)) (jss_one (js_ret je_bl)) jss_nil))) (jss_one (js_ret je_bl))))
abbrev N_law_is_turned : List PySem.Str := ["_law_table", "_law_size", "_law_o", "_law_a", "_law_b"]
theorem sc_law_is_turned : FnScope N_law_is_turned ["_law_table"] (defScope s_law_is_turned) := ⟨rfl, rfl, rfl, by decide +kernel, rfl, by decide +kernel, by decide +kernel⟩
noncomputable def r_law_is_turned : RS := (sSeq (sSet 1 (eCall (l1 dLen) (aCons (eVar 0) aNil))) (sSeq (sFor (iRng1 (eVar 1)) (b1 2) (sFor (iRng1 (eVar 1)) (b1 3) (sIf (tB (e2 dNe (eLc (iRng1 (eVar 3)) (b1 4) (tB (e2 dNe (e2 dIx (e2 dIx (e2 dIx (eVar 0) (eVar 2)) (eVar 3)) (eVar 4)) (e2 dIx (e2 dIx (e2 dIx (eVar 0) (eVar 2)) (eVar 4)) (eVar 3)))) (eVar 4) [4]) (eLst aNil))) (sRet (eC (.bool false))) sNx))) (sRet (eC (.bool true)))))
noncomputable def rf_law_is_turned : List PyData → Option PyData := rfOf 4 r_law_is_turned
theorem fn_law_is_turned {P : Program} {w : World} {K : PySem.W.Frag} {mg : Str → Option Value} {base : Heap} (M : Md K mg base) : FnAt P w K mg base "_law_is_turned" 1 1 rf_law_is_turned := by
  obtain ⟨fd, F⟩ := M.c.def_ 50 (d := d_law_is_turned) rfl
  refine fn_mk F (M.glo 50 rfl) sc_law_is_turned rfl rfl (fun _ _ _ _ _ _ us hl => match us, hl with | [_], _ => rfl) fun cdv A outer s0 H E hr => ?_
  exact (jss_cons (js_set (i := 1) sc_law_is_turned.nd rfl (by first | exact Or.inl rfl | exact Or.inr rfl) (je_callB call_len_seq ok_len (by rfl) (Md.b_len M) bt_len (ja_cons (je_var 0) ja_nil))) (jss_cons (js_for PassesOwn.never rfl roD_mono (ji_rng1 (by rfl) (Md.b_range M) (je_var 1)) (jg_name (i := 2) sc_law_is_turned.nd rfl (by first | exact Or.inl rfl | exact Or.inr rfl)) (jss_one (js_for PassesOwn.never rfl roD_mono (ji_rng1 (by rfl) (Md.b_range M) (je_var 1)) (jg_name (i := 3) sc_law_is_turned.nd rfl (by first | exact Or.inl rfl | exact Or.inr rfl)) (jss_one (js_if (jt_cmp (op_neD hr.units) ok_ne (je_lc (own := [("_law_b", 4)]) rfl sc_law_is_turned.nd roD_mono (ji_rng1 (by rfl) (Md.b_range M) (je_var 3)) (blkOk_by (own := [("_law_b", 4)]) (N := N_law_is_turned) (sc := defScope s_law_is_turned) (by decide +kernel)) (fun _ _ _ _ _ => (jg_name (i := 4) sc_law_is_turned.nd rfl (by first | exact Or.inl rfl | exact Or.inr rfl))) (fun _ _ _ _ _ => (jts_one (jt_cmp (op_neD hr.units) ok_ne (je_ix (ix_list.or ix_tup) ok_ix (je_ix (ix_list.or ix_tup) ok_ix (je_ix (ix_list.or ix_tup) ok_ix (je_var 0) (je_var 2) (fun _ _ => rfl)) (je_var 3) (fun _ _ => rfl)) (je_var 4) (fun _ _ => rfl)) (je_ix (ix_list.or ix_tup) ok_ix (je_ix (ix_list.or ix_tup) ok_ix (je_ix (ix_list.or ix_tup) ok_ix (je_var 0) (je_var 2) (fun _ _ => rfl)) (je_var 4) (fun _ _ => rfl)) (je_var 3) (fun _ _ => rfl)) (nomark _)))) (fun _ _ _ _ _ => (je_var 4)) (by decide)) (je_lst ja_nil) (nomark _)) (jss_one (js_ret je_bl)) jss_nil))))) (jss_one (js_ret je_bl))))
abbrev N_law_is_late : List PySem.Str := ["_law_table", "_law_size", "_law_o", "_law_a", "_law_b", "_law_near", "_law_c"]
theorem sc_law_is_late : FnScope N_law_is_late ["_law_table"] (defScope s_law_is_late) := ⟨rfl, rfl, rfl, by decide +kernel, rfl, by decide +kernel, by decide +kernel⟩
noncomputable def r_law_is_late : RS := (sSeq (sSet 1 (eCall (l1 dLen) (aCons (eVar 0) aNil))) (sSeq (sFor (iRng1 (eVar 1)) (b1 2) (sFor (iRng1 (eVar 1)) (b1 3) (sFor (iRng1 (eVar 1)) (b1 4) (sSeq (sSet 5 (e2 dIx (e2 dIx (e2 dIx (eVar 0) (eVar 2)) (eVar 3)) (eVar 4))) (sIf (tB (e2 dNe (eLc (iRng1 (eVar 1)) (b1 6) (tB (e2 dNe (e2 dIx (e2 dIx (e2 dIx (eVar 0) (eVar 3)) (eVar 6)) (eVar 5)) (e2 dIx (e2 dIx (e2 dIx (eVar 0) (eVar 2)) (eVar 6)) (eVar 4)))) (eVar 6) [6]) (eLst aNil))) (sRet (eC (.bool false))) sNx))))) (sRet (eC (.bool true)))))
noncomputable def rf_law_is_late : List PyData → Option PyData := rfOf 6 r_law_is_late
theorem fn_law_is_late {P : Program} {w : World} {K : PySem.W.Frag} {mg : Str → Option Value} {base : Heap} (M : Md K mg base) : FnAt P w K mg base "_law_is_late" 1 1 rf_law_is_late := by
  obtain ⟨fd, F⟩ := M.c.def_ 51 (d := d_law_is_late) rfl
  refine fn_mk F (M.glo 51 rfl) sc_law_is_late rfl rfl (fun _ _ _ _ _ _ us hl => match us, hl with | [_], _ => rfl) fun cdv A outer s0 H E hr => ?_
  exact (jss_cons (js_set (i := 1) sc_law_is_late.nd rfl (by first | exact Or.inl rfl | exact Or.inr rfl) (je_callB call_len_seq ok_len (by rfl) (Md.b_len M) bt_len (ja_cons (je_var 0) ja_nil))) (jss_cons (js_for PassesOwn.never rfl roD_mono (ji_rng1 (by rfl) (Md.b_range M) (je_var 1)) (jg_name (i := 2) sc_law_is_late.nd rfl (by first | exact Or.inl rfl | exact Or.inr rfl)) (jss_one (js_for PassesOwn.never rfl roD_mono (ji_rng1 (by rfl) (Md.b_range M) (je_var 1)) (jg_name (i := 3) sc_law_is_late.nd rfl (by first | exact Or.inl rfl | exact Or.inr rfl)) (jss_one (js_for PassesOwn.never rfl roD_mono (ji_rng1 (by rfl) (Md.b_range M) (je_var 1)) (jg_name (i := 4) sc_law_is_late.nd rfl (by first | exact Or.inl rfl | exact Or.inr rfl)) (jss_cons (js_set (i := 5) sc_law_is_late.nd rfl (by first | exact Or.inl rfl | exact Or.inr rfl) (je_ix (ix_list.or ix_tup) ok_ix (je_ix (ix_list.or ix_tup) ok_ix (je_ix (ix_list.or ix_tup) ok_ix (je_var 0) (je_var 2) (fun _ _ => rfl)) (je_var 3) (fun _ _ => rfl)) (je_var 4) (fun _ _ => rfl))) (jss_one (js_if (jt_cmp (op_neD hr.units) ok_ne (je_lc (own := [("_law_c", 6)]) rfl sc_law_is_late.nd roD_mono (ji_rng1 (by rfl) (Md.b_range M) (je_var 1)) (blkOk_by (own := [("_law_c", 6)]) (N := N_law_is_late) (sc := defScope s_law_is_late) (by decide +kernel)) (fun _ _ _ _ _ => (jg_name (i := 6) sc_law_is_late.nd rfl (by first | exact Or.inl rfl | exact Or.inr rfl))) (fun _ _ _ _ _ => (jts_one (jt_cmp (op_neD hr.units) ok_ne (je_ix (ix_list.or ix_tup) ok_ix (je_ix (ix_list.or ix_tup) ok_ix (je_ix (ix_list.or ix_tup) ok_ix (je_var 0) (je_var 3) (fun _ _ => rfl)) (je_var 6) (fun _ _ => rfl)) (je_var 5) (fun _ _ => rfl)) (je_ix (ix_list.or ix_tup) ok_ix (je_ix (ix_list.or ix_tup) ok_ix (je_ix (ix_list.or ix_tup) ok_ix (je_var 0) (je_var 2) (fun _ _ => rfl)) (je_var 6) (fun _ _ => rfl)) (je_var 4) (fun _ _ => rfl)) (nomark _)))) (fun _ _ _ _ _ => (je_var 6)) (by decide)) (je_lst ja_nil) (nomark _)) (jss_one (js_ret je_bl)) jss_nil)))))))) (jss_one (js_ret je_bl))))
abbrev N_law_is_proof : List PySem.Str := ["_law_table"]
theorem sc_law_is_proof : FnScope N_law_is_proof ["_law_table"] (defScope s_law_is_proof) := ⟨rfl, rfl, rfl, by decide +kernel, rfl, by decide +kernel, by decide +kernel⟩
noncomputable def r_law_is_proof : RS := (sRet (eIf (tB (eCall rf_law_is_still (aCons (eVar 0) aNil))) (eIf (tB (eCall rf_law_is_turned (aCons (eVar 0) aNil))) (eCall rf_law_is_late (aCons (eVar 0) aNil)) (eC (.bool false))) (eC (.bool false))))
noncomputable def rf_law_is_proof : List PyData → Option PyData := rfOf 0 r_law_is_proof
theorem fn_law_is_proof {P : Program} {w : World} {K : PySem.W.Frag} {mg : Str → Option Value} {base : Heap} (M : Md K mg base) : FnAt P w K mg base "_law_is_proof" 2 1 rf_law_is_proof := by
  obtain ⟨fd, F⟩ := M.c.def_ 52 (d := d_law_is_proof) rfl
  refine fn_mk F (M.glo 52 rfl) sc_law_is_proof rfl rfl (fun _ _ _ _ _ _ us hl => match us, hl with | [_], _ => rfl) fun cdv A outer s0 H E hr => ?_
  exact (jss_one (js_ret (je_and (je_fn (fn_law_is_still M) (hr.mono (by decide)) (by rfl) (ja_cons (je_var 0) ja_nil)) (je_and (je_fn (fn_law_is_turned M) (hr.mono (by decide)) (by rfl) (ja_cons (je_var 0) ja_nil)) (je_b1 (je_fn (fn_law_is_late M) (hr.mono (by decide)) (by rfl) (ja_cons (je_var 0) ja_nil)))))))
abbrev N_law_power : List PySem.Str := ["_law_p", "_law_e", "_law_found", "_law_count"]
theorem sc_law_power : FnScope N_law_power ["_law_p", "_law_e"] (defScope s_law_power) := ⟨rfl, rfl, rfl, by decide +kernel, rfl, by decide +kernel, by decide +kernel⟩
noncomputable def r_law_power : RS := (sSeq (sSet 2 (eC (.int (.ofNat 1)))) (sSeq (sFor (iRng1 (eVar 1)) (b1 3) (sSet 2 (e2 dMul (eVar 2) (eVar 0)))) (sRet (eVar 2))))
noncomputable def rf_law_power : List PyData → Option PyData := rfOf 2 r_law_power
theorem fn_law_power {P : Program} {w : World} {K : PySem.W.Frag} {mg : Str → Option Value} {base : Heap} (M : Md K mg base) : FnAt P w K mg base "_law_power" 1 2 rf_law_power := by
  obtain ⟨fd, F⟩ := M.c.def_ 53 (d := d_law_power) rfl
  refine fn_mk F (M.glo 53 rfl) sc_law_power rfl rfl (fun _ _ _ _ _ _ us hl => match us, hl with | [_, _], _ => rfl) fun cdv A outer s0 H E hr => ?_
  exact (jss_cons (js_set (i := 2) sc_law_power.nd rfl (by first | exact Or.inl rfl | exact Or.inr rfl) je_int) (jss_cons (js_for PassesOwn.never rfl roD_mono (ji_rng1 (by rfl) (Md.b_range M) (je_var 1)) (jg_name (i := 3) sc_law_power.nd rfl (by first | exact Or.inl rfl | exact Or.inr rfl)) (jss_one (js_set (i := 2) sc_law_power.nd rfl (by first | exact Or.inl rfl | exact Or.inr rfl) (je_bin opr_mul ok_mul (je_var 2) (je_var 0))))) (jss_one (js_ret (je_var 2)))))
abbrev N_law_parted_powers : List PySem.Str := ["_law_p", "_law_e", "_law_most", "_law_found", "_law_least", "_law_rest"]
theorem sc_law_parted_powers : FnScope N_law_parted_powers ["_law_p", "_law_e", "_law_most"] (defScope s_law_parted_powers) := ⟨rfl, rfl, rfl, by decide +kernel, rfl, by decide +kernel, by decide +kernel⟩
noncomputable def r_law_parted_powers (rec : List PyData → Option PyData) : RS := (sSeq (sIf (tB (e2 dEq (eVar 1) (eC (.int (.ofNat 0))))) (sRet (eLst (aCons (eTup aNil) aNil))) sNx) (sSeq (sOwn 3 aNil) (sSeq (sFor (iRng2 (eVar 2) (e2 dAdd (eVar 1) (eC (.int (.ofNat 1))))) (b1 4) (sExt 3 (eLc (iSeq (eCall rec (aCons (eVar 0) (aCons (e2 dSub (eVar 1) (eVar 4)) (aCons (eVar 4) aNil))))) (b1 5) rYes (e2 dAdd (eTup (aCons (eCall rf_law_power (aCons (eVar 0) (aCons (eVar 4) aNil))) aNil)) (eVar 5)) [5]))) (sFrz 3 (sRet (eVar 3))))))
noncomputable def rf_law_parted_powers (j : Nat) : List PyData → Option PyData := @Nat.rec (fun _ => List PyData → Option PyData) (fun _ => none) (fun _ ih => rfOf 3 (r_law_parted_powers ih)) j
theorem fn_law_parted_powers {P : Program} {w : World} {K : PySem.W.Frag} {mg : Str → Option Value} {base : Heap} (M : Md K mg base) : ∀ j : Nat, FnAt P w K mg base "_law_parted_powers" (1 + j) 3 (rf_law_parted_powers j)
  | 0 => by
    obtain ⟨fd, F⟩ := M.c.def_ 54 (d := d_law_parted_powers) rfl
    exact fn_none F (M.glo 54 rfl) (ps := ["_law_p", "_law_e", "_law_most"]) (fun _ _ _ _ _ _ us hl => match us, hl with | [_, _, _], _ => rfl)
  | j + 1 => by
    obtain ⟨fd, F⟩ := M.c.def_ 54 (d := d_law_parted_powers) rfl
    have G := fn_law_parted_powers (P := P) (w := w) M j
    refine fn_mk F (M.glo 54 rfl) sc_law_parted_powers rfl rfl (fun _ _ _ _ _ _ us hl => match us, hl with | [_, _, _], _ => rfl) fun cdv A outer s0 H E hr => ?_
    exact (jss_cons (js_if (jt_cmp (op_eqD hr.units) ok_eq (je_var 1) je_int (nomark _)) (jss_one (js_ret (je_lst (ja_cons (je_tup ja_nil) ja_nil)))) jss_nil) (jss_cons (js_own (i := 3) sc_law_parted_powers.nd rfl (by first | exact Or.inl rfl | exact Or.inr rfl) ja_nil) (jss_cons (js_for PassesOwn.never rfl roD_mono (ji_rng2 (by rfl) (Md.b_range M) (je_var 2) (je_bin opr_add ok_add (je_var 1) je_int)) (jg_name (i := 4) sc_law_parted_powers.nd rfl (by first | exact Or.inl rfl | exact Or.inr rfl)) (jss_one (js_ext (i := 3) rfl (by first | exact Or.inl rfl | exact Or.inr (Or.inl rfl) | exact Or.inr (Or.inr rfl)) (je_lc (own := [("_law_rest", 5)]) rfl sc_law_parted_powers.nd roD_mono (ji_seq (je_fn G (hr.mono (Nat.le_refl _)) (by rfl) (ja_cons (je_var 0) (ja_cons (je_bin op_sub ok_sub (je_var 1) (je_var 4)) (ja_cons (je_var 4) ja_nil))))) (blkOk_by (own := [("_law_rest", 5)]) (N := N_law_parted_powers) (sc := defScope s_law_parted_powers) (by decide +kernel)) (fun _ _ _ _ _ => (jg_name (i := 5) sc_law_parted_powers.nd rfl (by first | exact Or.inl rfl | exact Or.inr rfl))) (fun _ _ _ _ _ => jts_nil) (fun _ _ _ _ _ => (je_bin opr_add ok_add (je_tup (ja_cons (je_fn (fn_law_power M) (hr.mono (Nat.le_trans (show 1 ≤ 1 by decide) (Nat.le_add_right 1 j))) (by rfl) (ja_cons (je_var 0) (ja_cons (je_var 4) ja_nil))) ja_nil)) (je_var 5))) (by decide))))) (js_frz (i := 3) (jss_one (js_ret (je_var 3)))))))
abbrev N_law_times : List PySem.Str := ["_law_numbers", "_law_found", "_law_number"]
theorem sc_law_times : FnScope N_law_times ["_law_numbers"] (defScope s_law_times) := ⟨rfl, rfl, rfl, by decide +kernel, rfl, by decide +kernel, by decide +kernel⟩
noncomputable def r_law_times : RS := (sSeq (sSet 1 (eC (.int (.ofNat 1)))) (sSeq (sFor (iSeq (eVar 0)) (b1 2) (sSet 1 (e2 dMul (eVar 1) (eVar 2)))) (sRet (eVar 1))))
noncomputable def rf_law_times : List PyData → Option PyData := rfOf 2 r_law_times
theorem fn_law_times {P : Program} {w : World} {K : PySem.W.Frag} {mg : Str → Option Value} {base : Heap} (M : Md K mg base) : FnAt P w K mg base "_law_times" 1 1 rf_law_times := by
  obtain ⟨fd, F⟩ := M.c.def_ 56 (d := d_law_times) rfl
  refine fn_mk F (M.glo 56 rfl) sc_law_times rfl rfl (fun _ _ _ _ _ _ us hl => match us, hl with | [_], _ => rfl) fun cdv A outer s0 H E hr => ?_
  exact (jss_cons (js_set (i := 1) sc_law_times.nd rfl (by first | exact Or.inl rfl | exact Or.inr rfl) je_int) (jss_cons (js_for PassesOwn.never rfl roD_mono (ji_seq (je_var 0)) (jg_name (i := 2) sc_law_times.nd rfl (by first | exact Or.inl rfl | exact Or.inr rfl)) (jss_one (js_set (i := 1) sc_law_times.nd rfl (by first | exact Or.inl rfl | exact Or.inr rfl) (je_bin opr_mul ok_mul (je_var 1) (je_var 2))))) (jss_one (js_ret (je_var 1)))))
abbrev N_law_times_hand : List PySem.Str := ["_law_clocks", "_law_hand", "_law_often", "_law_k"]
theorem sc_law_times_hand : FnScope N_law_times_hand ["_law_clocks", "_law_hand", "_law_often"] (defScope s_law_times_hand) := ⟨rfl, rfl, rfl, by decide +kernel, rfl, by decide +kernel, by decide +kernel⟩
noncomputable def r_law_times_hand : RS := (sRet (eCall (l1 dTuple) (aCons (eLc (iRng1 (eCall (l1 dLen) (aCons (eVar 0) aNil))) (b1 3) rYes (e2 dMod (eCall (l1 dInt) (aCons (e2 dMul (e2 dIx (eVar 1) (eVar 3)) (eVar 2)) aNil)) (e2 dIx (eVar 0) (eVar 3))) [3]) aNil)))
noncomputable def rf_law_times_hand : List PyData → Option PyData := rfOf 1 r_law_times_hand
theorem fn_law_times_hand {P : Program} {w : World} {K : PySem.W.Frag} {mg : Str → Option Value} {base : Heap} (M : Md K mg base) : FnAt P w K mg base "_law_times_hand" 1 3 rf_law_times_hand := by
  obtain ⟨fd, F⟩ := M.c.def_ 58 (d := d_law_times_hand) rfl
  refine fn_mk F (M.glo 58 rfl) sc_law_times_hand rfl rfl (fun _ _ _ _ _ _ us hl => match us, hl with | [_, _, _], _ => rfl) fun cdv A outer s0 H E hr => ?_
  exact (jss_one (js_ret (je_callTy call_tupleF ok_tuple (by rfl) (Md.b_tuple M) bt_tuple (ja_cons (je_lc (own := [("_law_k", 3)]) rfl sc_law_times_hand.nd roD_mono (ji_rng1 (by rfl) (Md.b_range M) (je_callB call_len_seq ok_len (by rfl) (Md.b_len M) bt_len (ja_cons (je_var 0) ja_nil))) (blkOk_by (own := [("_law_k", 3)]) (N := N_law_times_hand) (sc := defScope s_law_times_hand) (by decide +kernel)) (fun _ _ _ _ _ => (jg_name (i := 3) sc_law_times_hand.nd rfl (by first | exact Or.inl rfl | exact Or.inr rfl))) (fun _ _ _ _ _ => jts_nil) (fun _ _ _ _ _ => (je_bin op_mod ok_mod (je_callTy call_int1 ok_int1 (by rfl) (Md.b_int M) bt_int (ja_cons (je_bin opr_mul ok_mul (je_ix (ix_list.or ix_tup) ok_ix (je_var 1) (je_var 3) (fun _ _ => rfl)) (je_var 2)) ja_nil)) (je_ix (ix_list.or ix_tup) ok_ix (je_var 0) (je_var 3) (fun _ _ => rfl)))) (by decide)) ja_nil))))
abbrev N_law_hand_sum : List PySem.Str := ["_law_clocks", "_law_one_here", "_law_two", "_law_k"]
theorem sc_law_hand_sum : FnScope N_law_hand_sum ["_law_clocks", "_law_one_here", "_law_two"] (defScope s_law_hand_sum) := ⟨rfl, rfl, rfl, by decide +kernel, rfl, by decide +kernel, by decide +kernel⟩
noncomputable def r_law_hand_sum : RS := (sRet (eCall (l1 dTuple) (aCons (eLc (iRng1 (eCall (l1 dLen) (aCons (eVar 0) aNil))) (b1 3) rYes (e2 dMod (eCall (l1 dInt) (aCons (e2 dAdd (e2 dIx (eVar 1) (eVar 3)) (e2 dIx (eVar 2) (eVar 3))) aNil)) (e2 dIx (eVar 0) (eVar 3))) [3]) aNil)))
noncomputable def rf_law_hand_sum : List PyData → Option PyData := rfOf 1 r_law_hand_sum
theorem fn_law_hand_sum {P : Program} {w : World} {K : PySem.W.Frag} {mg : Str → Option Value} {base : Heap} (M : Md K mg base) : FnAt P w K mg base "_law_hand_sum" 1 3 rf_law_hand_sum := by
  obtain ⟨fd, F⟩ := M.c.def_ 59 (d := d_law_hand_sum) rfl
  refine fn_mk F (M.glo 59 rfl) sc_law_hand_sum rfl rfl (fun _ _ _ _ _ _ us hl => match us, hl with | [_, _, _], _ => rfl) fun cdv A outer s0 H E hr => ?_
  exact (jss_one (js_ret (je_callTy call_tupleF ok_tuple (by rfl) (Md.b_tuple M) bt_tuple (ja_cons (je_lc (own := [("_law_k", 3)]) rfl sc_law_hand_sum.nd roD_mono (ji_rng1 (by rfl) (Md.b_range M) (je_callB call_len_seq ok_len (by rfl) (Md.b_len M) bt_len (ja_cons (je_var 0) ja_nil))) (blkOk_by (own := [("_law_k", 3)]) (N := N_law_hand_sum) (sc := defScope s_law_hand_sum) (by decide +kernel)) (fun _ _ _ _ _ => (jg_name (i := 3) sc_law_hand_sum.nd rfl (by first | exact Or.inl rfl | exact Or.inr rfl))) (fun _ _ _ _ _ => jts_nil) (fun _ _ _ _ _ => (je_bin op_mod ok_mod (je_callTy call_int1 ok_int1 (by rfl) (Md.b_int M) bt_int (ja_cons (je_bin opr_add ok_add (je_ix (ix_list.or ix_tup) ok_ix (je_var 1) (je_var 3) (fun _ _ => rfl)) (je_ix (ix_list.or ix_tup) ok_ix (je_var 2) (je_var 3) (fun _ _ => rfl))) ja_nil)) (je_ix (ix_list.or ix_tup) ok_ix (je_var 0) (je_var 3) (fun _ _ => rfl)))) (by decide)) ja_nil))))
abbrev N_law_all_names : List PySem.Str := ["_law_many", "_law_found", "_law_turn", "_law_longer", "_law_one_here", "_law_k"]
theorem sc_law_all_names : FnScope N_law_all_names ["_law_many"] (defScope s_law_all_names) := ⟨rfl, rfl, rfl, by decide +kernel, rfl, by decide +kernel, by decide +kernel⟩
noncomputable def r_law_all_names : RS := (sSeq (sSet 1 (eLst (aCons (eTup aNil) aNil))) (sSeq (sFor (iRng1 (eVar 0)) (b1 2) (sSeq (sOwn 3 aNil) (sSeq (sFor (iSeq (eVar 1)) (b1 4) (sExt 3 (eLc (iRng1 (eVar 0)) (b1 5) (tB (e2 dNotIn (eVar 5) (eVar 4))) (e2 dAdd (eVar 4) (eTup (aCons (eVar 5) aNil))) [5]))) (sFrz 3 (sSet 1 (eVar 3)))))) (sRet (eVar 1))))
noncomputable def rf_law_all_names : List PyData → Option PyData := rfOf 5 r_law_all_names
theorem fn_law_all_names {P : Program} {w : World} {K : PySem.W.Frag} {mg : Str → Option Value} {base : Heap} (M : Md K mg base) : FnAt P w K mg base "_law_all_names" 1 1 rf_law_all_names := by
  obtain ⟨fd, F⟩ := M.c.def_ 61 (d := d_law_all_names) rfl
  refine fn_mk F (M.glo 61 rfl) sc_law_all_names rfl rfl (fun _ _ _ _ _ _ us hl => match us, hl with | [_], _ => rfl) fun cdv A outer s0 H E hr => ?_
  exact (jss_cons (js_set (i := 1) sc_law_all_names.nd rfl (by first | exact Or.inl rfl | exact Or.inr rfl) (je_lst (ja_cons (je_tup ja_nil) ja_nil))) (jss_cons (js_for PassesOwn.never rfl roD_mono (ji_rng1 (by rfl) (Md.b_range M) (je_var 0)) (jg_name (i := 2) sc_law_all_names.nd rfl (by first | exact Or.inl rfl | exact Or.inr rfl)) (jss_cons (js_own (i := 3) sc_law_all_names.nd rfl (by first | exact Or.inl rfl | exact Or.inr rfl) ja_nil) (jss_cons (js_for PassesOwn.never rfl roD_mono (ji_seq (je_var 1)) (jg_name (i := 4) sc_law_all_names.nd rfl (by first | exact Or.inl rfl | exact Or.inr rfl)) (jss_one (js_ext (i := 3) rfl (by first | exact Or.inl rfl | exact Or.inr (Or.inl rfl) | exact Or.inr (Or.inr rfl)) (je_lc (own := [("_law_k", 5)]) rfl sc_law_all_names.nd roD_mono (ji_rng1 (by rfl) (Md.b_range M) (je_var 0)) (blkOk_by (own := [("_law_k", 5)]) (N := N_law_all_names) (sc := defScope s_law_all_names) (by decide +kernel)) (fun _ _ _ _ _ => (jg_name (i := 5) sc_law_all_names.nd rfl (by first | exact Or.inl rfl | exact Or.inr rfl))) (fun _ _ _ _ _ => (jts_one (jt_cmp op_notIn_seq ok_notIn (je_var 5) (je_var 4) (by rfl)))) (fun _ _ _ _ _ => (je_bin opr_add ok_add (je_var 4) (je_tup (ja_cons (je_var 5) ja_nil)))) (by decide))))) (js_frz (i := 3) (jss_one (js_set (i := 1) sc_law_all_names.nd rfl (by first | exact Or.inl rfl | exact Or.inr rfl) (je_var 3))))))) (jss_one (js_ret (je_var 1)))))
abbrev N_multiples : List PySem.Str := ["table", "a", "found", "more"]
theorem sc_multiples : FnScope N_multiples ["table", "a"] (defScope s_multiples) := ⟨rfl, rfl, rfl, by decide +kernel, rfl, by decide +kernel, by decide +kernel⟩
noncomputable def r_multiples : RS := (sSeq (sOwn 2 (aCons (eC (.int (.ofNat 0))) aNil)) (sSeq (sSet 3 (eVar 1)) (sSeq (loopW (tB (e2 dNe (eVar 3) (eC (.int (.ofNat 0))))) (sSeq (sApp 2 (eVar 3)) (sSet 3 (e2 dIx (e2 dIx (e2 dIx (eVar 0) (eC (.int (.ofNat 0)))) (eVar 3)) (eVar 1)))) 200) (sFrz 2 (sRet (eVar 2))))))
noncomputable def rf_multiples : List PyData → Option PyData := rfOf 2 r_multiples
theorem fn_multiples {P : Program} {w : World} {K : PySem.W.Frag} {mg : Str → Option Value} {base : Heap} (M : Md K mg base) : FnAt P w K mg base "multiples" 1 2 rf_multiples := by
  obtain ⟨fd, F⟩ := M.c.def_ 36 (d := d_multiples) rfl
  refine fn_mk F (M.glo 36 rfl) sc_multiples rfl rfl (fun _ _ _ _ _ _ us hl => match us, hl with | [_, _], _ => rfl) fun cdv A outer s0 H E hr => ?_
  exact (jss_cons (js_own (i := 2) sc_multiples.nd rfl (by first | exact Or.inl rfl | exact Or.inr rfl) (ja_cons je_int ja_nil)) (jss_cons (js_set (i := 3) sc_multiples.nd rfl (by first | exact Or.inl rfl | exact Or.inr rfl) (je_var 1)) (jss_cons (js_while 200 PassesOwn.never (jt_cmp (op_neD hr.units) ok_ne (je_var 3) je_int (nomark _)) (jss_cons (js_app (i := 2) rfl (by first | exact Or.inl rfl | exact Or.inr (Or.inl rfl) | exact Or.inr (Or.inr rfl)) (je_var 3)) (jss_one (js_set (i := 3) sc_multiples.nd rfl (by first | exact Or.inl rfl | exact Or.inr rfl) (je_ix (ix_list.or ix_tup) ok_ix (je_ix (ix_list.or ix_tup) ok_ix (je_ix (ix_list.or ix_tup) ok_ix (je_var 0) je_int (fun _ _ => rfl)) (je_var 3) (fun _ _ => rfl)) (je_var 1) (fun _ _ => rfl)))))) (js_frz (i := 2) (jss_one (js_ret (je_var 2)))))))
abbrev N_share_of : List PySem.Str := ["n", "p", "found"]
theorem sc_share_of : FnScope N_share_of ["n", "p"] (defScope s_share_of) := ⟨rfl, rfl, rfl, by decide +kernel, rfl, by decide +kernel, by decide +kernel⟩
noncomputable def r_share_of : RS := (sSeq (sSet 2 (eC (.int (.ofNat 1)))) (sSeq (loopW (tB (e2 dEq (e2 dMod (eVar 0) (e2 dMul (eVar 2) (eVar 1))) (eC (.int (.ofNat 0))))) (sSet 2 (e2 dMul (eVar 2) (eVar 1))) 200) (sRet (eVar 2))))
noncomputable def rf_share_of : List PyData → Option PyData := rfOf 1 r_share_of
theorem fn_share_of {P : Program} {w : World} {K : PySem.W.Frag} {mg : Str → Option Value} {base : Heap} (M : Md K mg base) : FnAt P w K mg base "share_of" 1 2 rf_share_of := by
  obtain ⟨fd, F⟩ := M.c.def_ 37 (d := d_share_of) rfl
  refine fn_mk F (M.glo 37 rfl) sc_share_of rfl rfl (fun _ _ _ _ _ _ us hl => match us, hl with | [_, _], _ => rfl) fun cdv A outer s0 H E hr => ?_
  exact (jss_cons (js_set (i := 2) sc_share_of.nd rfl (by first | exact Or.inl rfl | exact Or.inr rfl) je_int) (jss_cons (js_while 200 PassesOwn.never (jt_cmp (op_eqD hr.units) ok_eq (je_bin op_mod ok_mod (je_var 0) (je_bin opr_mul ok_mul (je_var 2) (je_var 1))) je_int (nomark _)) (jss_one (js_set (i := 2) sc_share_of.nd rfl (by first | exact Or.inl rfl | exact Or.inr rfl) (je_bin opr_mul ok_mul (je_var 2) (je_var 1))))) (jss_one (js_ret (je_var 2)))))
end K67
set_option Elab.async false
set_option linter.all false
set_option maxRecDepth 100000
set_option maxHeartbeats 4000000
namespace K67
open PySem PySem.Spec PyProof.Rows L2
variable [TabA]
set_option maxHeartbeats 4000000 in
theorem meets_enum_new1 {v : Value} {o : Obj} {H : Heap → Prop} (B : Begins v o H) :
    Meets (Builtin.«enumerate.__new__» ⟨[.type "enumerate", v], []⟩) (fun _ R s => H s.heap ∧
      R (.ok (.ret (.ref (s.heap.push o).objs.size))) { s with heap := (s.heap.push o).push { cls := .type "enumerate", data := .fields #[.none, .bool false, .ref s.heap.objs.size, rawInt 0, .none, .none] } }) :=
  .of_wp fun prog w A R s h => by
    obtain ⟨hp, g, d, tk, os⟩ := s; obtain ⟨h1, h⟩ := h
    have hsub := sub_enumerate
    have q1 : ∀ {A' : Around} {E : Value → Shared → Prop} {Q : Value → Shared → Prop}, Q (.ref hp.objs.size) ⟨hp.push o, g, d, tk, os⟩ → wpAny (model prog w) A' (pyIter v) Q E ⟨hp, g, d, tk, os⟩ :=
      fun q => B.iter prog w _ _ ⟨hp, g, d, tk, os⟩ _ h1 q
    wp_walk using q1
    refine wpAny_stack_any fun st => wpAny_pure ?_
    split
    · rename_i c _ _ _ _ _
      cases (c == Value.type "enumerate")
      · wp_walk using q1
        exact ⟨_, rfl, h⟩
      · wp_walk using q1
        exact ⟨_, rfl, h⟩
    · wp_walk using q1
      exact ⟨_, rfl, h⟩
theorem enum_begins1 {prog : Program} {w : World} {A : Around} {E : Value → Shared → Prop} {s : Shared} {v : Value} {o : Obj} {H : Heap → Prop} {Q : Value → Shared → Prop} (B : Begins v o H) (h1 : H s.heap)
    (h : ∀ h', IsEnum h' (s.heap.objs.size + 1) s.heap.objs.size 0 .none → h'.get? s.heap.objs.size = some o → h'.objs.size = s.heap.objs.size + 2 →
      (∀ b o, s.heap.get? b = some o → h'.get? b = some o) → Q (.ref (s.heap.objs.size + 1)) { s with heap := h' }) :
    wpAny (model prog w) A (call (.type "enumerate") [v]) Q E s := by
  refine callType_new F.called_enumerate (by decide) (F.typeCall_enumerate_1 _) (F.newCall_enumerate_1 _) (fun obj => F.args_object_init_2 obj _) F.entry_enumerate_new
    (meets_enum_new1 B) ⟨h1, ?_⟩
  have hz : (s.heap.push o).objs.size = s.heap.objs.size + 1 := Heap.size_push ..
  show _ ∧ _
  rw [hz]
  have he : IsEnum ((s.heap.push o).push { cls := .type "enumerate", data := .fields #[.none, .bool false, .ref s.heap.objs.size, rawInt 0, .none, .none] }) (s.heap.objs.size + 1) s.heap.objs.size 0 .none := by
    have := Heap.get?_push_size (s.heap.push o) (o := { cls := .type "enumerate", data := .fields #[.none, .bool false, .ref s.heap.objs.size, rawInt 0, .none, .none] }) rfl
    rw [hz] at this; exact this
  refine ⟨⟨_, he, rfl⟩, h _ he (Heap.get?_push_of_some _ (Heap.get?_push_size _ B.free)) (by rw [Heap.size_push, hz]) fun b o x => Heap.get?_push_of_some _ (Heap.get?_push_of_some _ x)⟩
/-- the tuple at a, each item in a new pair -/
def IteT (K : PySem.W.Frag) (a : Addr) : It :=
  ⟨fun i H => ∃ (xs : List V) (x : V), SqT K H a xs ∧ xs[i]? = some x, fun i H v H' => ∃ T x, v = .ref T ∧ H T = none ∧ H' = upd H T (.tup [.int (i : Nat), x]) ∧ ∀ xs, SqT K H a xs → xs[i]? = some x, fun i H => ∃ xs : List V, SqT K H a xs ∧ xs.length = i⟩
theorem turn_enumT {P : Program} {w : World} {K : PySem.W.Frag} {elts : List Expr} {kk : Nat} {tpos : Pos} (a e it : Addr) :
    Turn P w K (.Tuple elts kk tpos) (IteT K a) [e, it] e (fun i h => (∃ old, IsEnum h e it ((i : Nat) : Int) old) ∧ h.IsTupleIter it a i ∧ e ≠ it ∧ a ≠ it ∧ a ≠ e) where
  mem := by simp
  obj := fun i h st b hb => by
    obtain ⟨⟨old, he⟩, ⟨o, ho, hc, hd⟩, _⟩ := st
    have e' : b = e ∨ b = it := by simpa using hb
    rcases e' with z | z
    · rw [z]; exact ⟨_, he, fun v q => nomatch q⟩
    · rw [z]; exact ⟨o, ho, fun v q => by rw [hd] at q; cases q⟩
  keep := fun i h h' st k => let ⟨⟨old, he⟩, hi, hne⟩ := st; ⟨⟨old, k e (by simp) _ he⟩, hi.at fun o q => k it (by simp) o q, hne⟩
  item := by
    intro X hP hw hK hc i pins s σ H E I hf st hg
    subst hP hw hK
    obtain ⟨⟨old, he⟩, hit, hne, ha1, ha2⟩ := st
    obtain ⟨xs, x, hq, hx⟩ := hg
    obtain ⟨its, rv, p, hz⟩ := I.tuple hq
    obtain ⟨u, hu, ru⟩ := rv.get hx
    have hel : e < s.heap.objs.size := Heap.lt_size he
    have hil : it < s.heap.objs.size := by obtain ⟨_, q, _⟩ := hit; exact Heap.lt_size q
    have hlen : i < its.toArray.size := by
      have := (List.getElem?_eq_some_iff.mp hu).1
      simpa using this
    have D : Draws X.prog X.w X.A.in1 it [it, a] its.toArray.size (fun i v => its.toArray[i]? = some v) (fun i h => h.IsTupleIter it a i ∧ h.IsTuple a its.toArray) := Draws.tuple (A := X.A.in1) (show X.A.in1.handled = none from I.ok.hd hc) it a ha1 its.toArray
    refine wpAny_pyNext_enum_itemD D he ⟨hit, show s.heap.IsTuple a its.toArray from p⟩ hlen hne (by simp only [List.mem_cons, List.not_mem_nil, or_false, not_or]; exact ⟨hne, Ne.symm ha2⟩) fun u2 h' tk hu2 ho hit' hT hsz hk => ?_
    have eu : u2 = u := by
      have z : its.toArray[i]? = some u := by simpa using hu
      rw [z] at hu2
      exact (Option.some.inj hu2).symm
    subst eu
    refine ⟨_, rfl, wpAny_letOwnedTupleGo_enum (s := { s with heap := h', toks := tk + 1 }) ho fun h'' he' sb => ?_⟩
    have hT2 : h''.get? s.heap.objs.size = some { cls := .type "tuple", data := .seq #[.int i tk, u2] } := (sb.2 _ (Nat.ne_of_gt hel)).trans hT
    have new : ObjOk X.prog X.w (upd H s.heap.objs.size (.tup [.int (i : Nat), x])) h'' s.heap.objs.size (.tup [.int (i : Nat), x]) :=
      ⟨by show 2 ≤ sizeLine; decide, [.int i tk, u2], .cons ⟨_, rfl⟩ (.cons ru .nil), ⟨_, hT2, rfl, _, rfl⟩⟩
    have I1 : Inv X pins σ (upd H s.heap.objs.size (.tup [.int (i : Nat), x])) { s with heap := h'', toks := tk + 1 } :=
      I.turnedNew (ch := [e, it]) (fun b ob hb q => (sb.2 b (fun z => hb (by simp [z]))).trans (hk b ob (fun z => hb (by simp [z])) (fun z => hb (by simp [z])) q)) hf (Nat.le_refl _) new
    refine ⟨.ref s.heap.objs.size, _, I1, rfl, ⟨_, x, rfl, I.hok.fresh (Nat.le_refl _), rfl, fun ys hy => by rw [I.tuple_inj hy hq]; exact hx⟩, ⟨⟨u2, ?_⟩, hit'.1.at fun o q => (sb.2 it (Ne.symm hne)).trans q, hne, ha1, ha2⟩, fun b hb => ?_⟩
    · have e1 : ((i + 1 : Nat) : Int) = (i : Int) + 1 := by omega
      rw [e1]; exact he'
    · have hb' : b < s.heap.objs.size := by
        have e' : b = e ∨ b = it := by simpa using hb
        rcases e' with z | z
        · rw [z]; exact hel
        · rw [z]; exact hil
      rw [upd_ne (Nat.ne_of_lt hb')]
      exact (hf b hb).1
  done := by
    intro X hP hw hK hc i pins s σ H E I hf st hg
    subst hP hw hK
    obtain ⟨⟨old, he⟩, hit, hne, ha1, ha2⟩ := st
    obtain ⟨xs, hq, hx⟩ := hg
    obtain ⟨its, rv, p, hz⟩ := I.tuple hq
    obtain ⟨f0, f1, f2, f3, f4, f5⟩ := hf it (by simp)
    have hl := rv.length
    have hi : i = its.toArray.size := by rw [List.size_toArray]; omega
    have D : Draws X.prog X.w X.A.in1 it [it, a] its.toArray.size (fun i v => its.toArray[i]? = some v) (fun i h => h.IsTupleIter it a i ∧ h.IsTuple a its.toArray) := Draws.tuple (A := X.A.in1) (show X.A.in1.handled = none from I.ok.hd hc) it a ha1 its.toArray
    subst hi
    exact wpAny_pyNext_enum_endD D he ⟨hit, show s.heap.IsTuple a its.toArray from p⟩ fun h' eb => ⟨rfl, I.turned (t' := s.toks) (fun b o hb q => eb b o hb q) f0 f1 f3 f4 f5⟩
  self := fun A i s Q E st h => let ⟨⟨_, he⟩, _⟩ := st; wpAny_pyIter_enum he h
def iEnumA (K : PySem.W.Frag) (ta : TA) : TI := fun σ H R => ta σ H fun vs H1 => ∃ a xs, vs = [.ref a] ∧ ((SqL K H1 a xs ∧ R (Ite K a) H1) ∨ (SqT K H1 a xs ∧ R (IteT K a) H1))
theorem pi_enumA {X : Cx} {e : Expr} {ta : TA} {p pos tpos : Pos} {elts : List Expr} {kk : Nat} (hg : Gl X "enumerate") (hm : X.mg "enumerate" = none) (ha : PA X [e] ta) (hs : starEach [e] X.env = [(false, eval e X.env)] := by rfl) :
    PI X (.Tuple elts kk tpos) (.Call (.Name "enumerate" p) [e] [] pos) (iEnumA X.K ta) := by
  refine ⟨fun pins s σ H R I h => ?_⟩
  refine Call_ (ld_blt I hg hm boot_enumerate (PyProof.Rows.callWith_type1 (thn (ha.run pos pins s σ H (fun vs H1 => ∃ a xs, vs = [.ref a] ∧ ((SqL X.K H1 a xs ∧ R (Ite X.K a) H1) ∨ (SqT X.K H1 a xs ∧ R (IteT X.K a) H1))) I h) fun us s1 ⟨vs, H1, I1, r1, q1⟩ => ?_) hs rfl))
  obtain ⟨a, xs, ex, q⟩ := q1
  subst ex
  cases r1 with
  | cons r rr =>
    cases rr
    cases r
    have fresh : ∀ b, b ∈ [s1.heap.objs.size + 1, s1.heap.objs.size] → FpOk X pins H1 b := fun b hb => by
      have e' : b = s1.heap.objs.size + 1 ∨ b = s1.heap.objs.size := by simpa using hb
      have hle : s1.heap.objs.size ≤ b := by
        rcases e' with z | z
        · rw [z]; exact Nat.le_add_right _ _
        · rw [z]; exact Nat.le_refl _
      exact I1.fpOk hle (I1.hok.fresh hle)
    rcases q with ⟨hq, q⟩ | ⟨hq, q⟩
    · obtain ⟨its, rv, p', hz⟩ := I1.list hq
      refine call_enumerate_list p'.isList fun h' he hit hsz hk => wpAny_pyIter_enum he ?_
      have I2 : Inv X pins σ H1 { s1 with heap := h' } := I1.kept (t' := s1.toks) hk
      exact ⟨s1.heap.objs.size + 1, [s1.heap.objs.size + 1, s1.heap.objs.size], _, _, H1, rfl, I2, turn_enum a (s1.heap.objs.size + 1) s1.heap.objs.size, ⟨⟨.none, he⟩, hit, Nat.succ_ne_self _⟩, fresh, q⟩
    · obtain ⟨its, rv, p', hz⟩ := I1.tuple hq
      have hal : a < s1.heap.objs.size := p'.lt
      refine enum_begins1 (begins_tuple a its.toArray) (show s1.heap.IsTuple a its.toArray from p') fun h' he hit hsz hk => wpAny_pyIter_enum he ?_
      have I2 : Inv X pins σ H1 { s1 with heap := h' } := I1.kept (t' := s1.toks) hk
      exact ⟨s1.heap.objs.size + 1, [s1.heap.objs.size + 1, s1.heap.objs.size], _, _, H1, rfl, I2, turn_enumT a (s1.heap.objs.size + 1) s1.heap.objs.size, ⟨⟨.none, he⟩, ⟨_, hit, rfl, rfl⟩, Nat.succ_ne_self _, Nat.ne_of_lt hal, Nat.ne_of_lt (Nat.lt_succ_of_lt hal)⟩, fresh, q⟩
theorem walk_enumT {K : PySem.W.Frag} {a : Addr} {xs : List V} : Walk (IteT K a) xs.length (fun H => SqT K H a xs) (YPair (fun i => some (.int (i : Nat))) (fun i => xs[i]?)) := by
  refine ⟨fun i _ hi q => ⟨xs, xs[i], q, by simp [hi]⟩, fun _ q => ⟨xs, q, rfl⟩, fun i H v H' _ q y => ?_⟩
  obtain ⟨T, x, h1, h2, h3, h4⟩ := y
  exact ⟨T, .int (i : Nat), x, h1, h2, h3, rfl, h4 xs q⟩
/-- the items, each with its number -/
noncomputable def numd (ds : List PyData) : Nat → List PyData := @List.rec PyData (fun _ => Nat → List PyData) (fun _ => []) (fun d _ ih n => .tuple [.int (.ofNat n), d] :: ih (Nat.succ n)) ds
theorem numd_at : ∀ (ds : List PyData) (n i : Nat) (d : PyData), ds[i]? = some d → (numd ds n)[i]? = some (.tuple [.int (.ofNat (n + i)), d])
  | [], n, i, d, h => by simp at h
  | x :: ds, n, 0, d, h => by
    simp at h
    subst h
    rfl
  | x :: ds, n, i + 1, d, h => by
    show (numd ds (n + 1))[i]? = _
    rw [numd_at ds (n + 1) i d (by simpa using h)]
    have : n + 1 + i = n + (i + 1) := by omega
    rw [this]
theorem numd_len : ∀ (ds : List PyData) (n : Nat), (numd ds n).length = ds.length
  | [], _ => rfl
  | x :: ds, n => by
    show (numd ds (n + 1)).length + 1 = _
    rw [numd_len ds]
    rfl
noncomputable def iEnum (re : RE) : RA := fun env => bd (re env) fun d => bd (toSq d) fun ds => some (numd ds 0)
theorem walk_pair {P : Program} {w : World} {K : PySem.W.Frag} {J : It} {F : Hp} {xs : List V} {ds : List PyData} {G : Hp → Prop} (W : Walk J xs.length G (YPair (fun i => some (.int (i : Nat))) (fun i => xs[i]?))) (hG : ∀ H, Same F H → G H) (r : DnAll P w F xs ds) : WalkD (roT P w K) F J (numd ds 0) := by
  unfold WalkD
  rw [numd_len, ← r.length]
  refine W.mono hG fun i H v H' hi s y => ?_
  obtain ⟨T, x, z, rfl, hT, rfl, e1, e2⟩ := y
  cases e1
  obtain ⟨d, hd, dn⟩ := r.at' e2
  refine ⟨_, F, numd_at ds 0 i d hd, fun es ee => ?_, Grow.more s hT⟩
  cases ee
  refine ⟨T, _, rfl, .inl (.inl upd_same), .cons ?_ (.cons dn .nil)⟩
  have : (0 + i : Nat) = i := by omega
  rw [this]
  exact .int _
theorem ji_enum {X : Cx} {e : Expr} {re : RE} {p pos tpos : Pos} {elts : List Expr} {kk : Nat} (hg : Gl X "enumerate") (hm : X.mg "enumerate" = none) (ha : JE X e re) (hs : starEach [e] X.env = [(false, eval e X.env)] := by rfl) :
    JI X (roT X.prog X.w X.K) (.Tuple elts kk tpos) (.Call (.Name "enumerate" p) [e] [] pos) (iEnum re) := by
  refine ⟨PI.imp (pi_enumA hg hm (pa_cons ha pa_nil hs) hs) ?_⟩
  rintro σ H Q ⟨F0, H0, F, env, ds, R, hr, k⟩
  obtain ⟨d, h1, h2⟩ := bd_some hr
  obtain ⟨es, h3, h4⟩ := bd_some h2
  cases h4
  refine ⟨F0, H0, F, env, d, R, h1, fun v F1 H1 g1 n1 => ?_⟩
  rcases toSq_some h3 with rfl | rfl
  · cases n1 with
    | lst hl ra => exact ⟨_, _, rfl, .inl ⟨.inl (.inl (g1.fh _ _ hl)), k _ F1 H1 g1 (walk_pair walk_enum (fun H s => .inl (.inl (s _ _ hl))) ra)⟩⟩
  · cases n1 with
    | tup hl ra => exact ⟨_, _, rfl, .inr ⟨tF_sq (g1.fh _ _ hl), k _ F1 H1 g1 (walk_pair walk_enumT (fun H s => tF_sq (s _ _ hl)) ra)⟩⟩
end K67
set_option Elab.async false
set_option linter.all false
set_option maxRecDepth 100000
set_option maxHeartbeats 8000000
namespace K67
open PySem PySem.Spec PyProof.Rows L2
variable [TabA]

abbrev IsTupOf4 (h : Heap) (T : Addr) (a1 a2 a3 a4 : Value) : Prop := h.get? T = some { cls := .type "tuple", data := .seq #[a1, a2, a3, a4] }
structure ZipSep4 (z TI TO i1 i2 i3 i4 : Addr) (fp1 fp2 fp3 fp4 : List Addr) : Prop where
  TIz : TI ≠ z
  TOz : TO ≠ z
  TITO : TI ≠ TO
  TIi1 : TI ≠ i1
  mem1 : i1 ∈ fp1
  zf1 : z ∉ fp1
  Tf1 : TO ∉ fp1
  TIi2 : TI ≠ i2
  mem2 : i2 ∈ fp2
  zf2 : z ∉ fp2
  Tf2 : TO ∉ fp2
  TIi3 : TI ≠ i3
  mem3 : i3 ∈ fp3
  zf3 : z ∉ fp3
  Tf3 : TO ∉ fp3
  TIi4 : TI ≠ i4
  mem4 : i4 ∈ fp4
  zf4 : z ∉ fp4
  Tf4 : TO ∉ fp4
  sep1_2 : i1 ∉ fp2
  sep1_3 : i1 ∉ fp3
  sep1_4 : i1 ∉ fp4
  sep2_1 : i2 ∉ fp1
  sep2_3 : i2 ∉ fp3
  sep2_4 : i2 ∉ fp4
  sep3_1 : i3 ∉ fp1
  sep3_2 : i3 ∉ fp2
  sep3_4 : i3 ∉ fp4
  sep4_1 : i4 ∉ fp1
  sep4_2 : i4 ∉ fp2
  sep4_3 : i4 ∉ fp3
section
variable {prog : Program} {w : World} {A : Around} {E : Value → Shared → Prop} {s : Shared} {z TI TO i1 i2 i3 i4 : Addr} {fp1 fp2 fp3 fp4 : List Addr} {n1 n2 n3 n4 i : Nat} {P1 P2 P3 P4 : Nat → Value → Prop} {St1 St2 St3 St4 : Nat → Heap → Prop} {a1 a2 a3 a4 : Value}
theorem ZipSep4.zi1 (D : ZipSep4 z TI TO i1 i2 i3 i4 fp1 fp2 fp3 fp4) : z ≠ i1 := fun e => D.zf1 (by rw [e]; exact D.mem1)
theorem ZipSep4.zi2 (D : ZipSep4 z TI TO i1 i2 i3 i4 fp1 fp2 fp3 fp4) : z ≠ i2 := fun e => D.zf2 (by rw [e]; exact D.mem2)
theorem ZipSep4.zi3 (D : ZipSep4 z TI TO i1 i2 i3 i4 fp1 fp2 fp3 fp4) : z ≠ i3 := fun e => D.zf3 (by rw [e]; exact D.mem3)
theorem ZipSep4.zi4 (D : ZipSep4 z TI TO i1 i2 i3 i4 fp1 fp2 fp3 fp4) : z ≠ i4 := fun e => D.zf4 (by rw [e]; exact D.mem4)
theorem ZipSep4.Ti1 (D : ZipSep4 z TI TO i1 i2 i3 i4 fp1 fp2 fp3 fp4) : TO ≠ i1 := fun e => D.Tf1 (by rw [e]; exact D.mem1)
theorem ZipSep4.Ti2 (D : ZipSep4 z TI TO i1 i2 i3 i4 fp1 fp2 fp3 fp4) : TO ≠ i2 := fun e => D.Tf2 (by rw [e]; exact D.mem2)
theorem ZipSep4.Ti3 (D : ZipSep4 z TI TO i1 i2 i3 i4 fp1 fp2 fp3 fp4) : TO ≠ i3 := fun e => D.Tf3 (by rw [e]; exact D.mem3)
theorem ZipSep4.Ti4 (D : ZipSep4 z TI TO i1 i2 i3 i4 fp1 fp2 fp3 fp4) : TO ≠ i4 := fun e => D.Tf4 (by rw [e]; exact D.mem4)
theorem updateSeq_IsTupOf4 {T : Addr} {x : Value} {k : Nat} {Q : Unit → Shared → Prop} (hT : IsTupOf4 s.heap T a1 a2 a3 a4)
    (h : ∀ h', h'.get? T = some { cls := .type "tuple", data := .seq ((#[a1, a2, a3, a4] : Array Value).setIfInBounds k x) } → Heap.SameBut T s.heap h' → Q () { s with heap := h' }) :
    wpAny (model prog w) A (updateSeq T (·.setIfInBounds k x)) Q E s := by
  refine wpAny_updateSeq hT rfl (h _ ?_ (Heap.SameBut.update ..))
  rw [Heap.get?_update_self _ hT rfl]
  simp [Obj.mapSeq]
theorem zipD4_next_item {Q : Value → Shared → Prop} (S : ZipSep4 z TI TO i1 i2 i3 i4 fp1 fp2 fp3 fp4) (D1 : Draws prog w A i1 fp1 n1 P1 St1) (D2 : Draws prog w A i2 fp2 n2 P2 St2) (D3 : Draws prog w A i3 fp3 n3 P3 St3) (D4 : Draws prog w A i4 fp4 n4 P4 St4)
    (hz : IsZip s.heap z TI TO .none) (hTI : IsTupOf4 s.heap TI (.ref i1) (.ref i2) (.ref i3) (.ref i4)) (hTO : IsTupOf4 s.heap TO a1 a2 a3 a4) (st1 : St1 i s.heap) (st2 : St2 i s.heap) (st3 : St3 i s.heap) (st4 : St4 i s.heap) (hlt1 : i < n1) (hlt2 : i < n2) (hlt3 : i < n3) (hlt4 : i < n4)
    (hQ : ∀ x1 x2 x3 x4 h' tk, P1 i x1 → P2 i x2 → P3 i x3 → P4 i x4 → IsZip h' z TI TO (rawInt s.heap.objs.size) → IsTupOf4 h' TO x1 x2 x3 x4 → St1 (i + 1) h' → St2 (i + 1) h' → St3 (i + 1) h' → St4 (i + 1) h' → IsTupOf4 h' s.heap.objs.size x1 x2 x3 x4 → h'.objs.size = s.heap.objs.size + 1 →
      (∀ c o, c ≠ z → c ≠ TO → c ≠ i1 → c ≠ i2 → c ≠ i3 → c ≠ i4 → s.heap.get? c = some o → h'.get? c = some o) → Q (.ref s.heap.objs.size) { s with heap := h', toks := tk }) :
    wpAny (model prog w) A (Builtin.«zip.__next__» ⟨[.ref z], []⟩) (fun fin s' => ∃ v, fin = .done (.ret v) ∧ Q v s') E s := by
  obtain ⟨hp, g, d, tk0, os⟩ := s
  show wpAny _ _ (field (.ref z) 2 >>= _) _ _ _
  refine wpAny_bind (wpAny_field hz rfl (x := .bool false) rfl ?_)
  show wpAny _ _ (field (.ref z) 3 >>= _) _ _ _
  refine wpAny_bind (wpAny_field hz rfl (x := .ref TI) rfl ?_)
  refine wpAny_bind (wpAny_seqItems hTI rfl ?_)
  show wpAny _ _ (Builtin.SmallTypes.ownedTupleIsFree (.ref z) >>= _) _ _ _
  refine wpAny_bind ?_
  unfold Builtin.SmallTypes.ownedTupleIsFree
  refine wpAny_bind (wpAny_field hz rfl (x := .none) rfl (wpAny_pure ?_))
  simp only [if_true]
  refine wpAny_bind (wpAny_rule ?_)
  refine wpAny_bind (wpAny_field hz rfl (x := .ref TO) rfl ?_)
  refine wpAny_bind (wpAny_setField_rec hz (by simp) fun g0 hz0 hs0 => ?_)
  replace hz0 : IsZip g0 z TI TO .ellipsis := hz0
  replace hs0 : Heap.SameBut z hp g0 := hs0
  refine wpAny_bind ?_
  simp only [List.zipIdx_cons, List.zipIdx_nil, List.forIn_cons, List.forIn_nil]
  refine wpAny_bind (wpAny_bind (wpAny_onRaise ?_))
  show wpAny _ _ (Builtin.SmallTypes.nextOf (.ref i1) >>= _) _ _ ⟨g0, g, d, tk0, os⟩
  refine wpAny_bind (D1.item i _ _ _ hlt1 (D1.over st1 hs0 S.zf1) fun x1 p1 tk1 hx1 sn1 hp1 => wpAny_pure ?_)
  replace hp1 : Heap.SameBut i1 g0 p1 := hp1
  have hU1 : IsTupOf4 p1 TO a1 a2 a3 a4 := hp1.extBut _ _ S.Ti1 (hs0.extBut _ _ S.TOz hTO)
  refine wpAny_bind (wpAny_seqItems (s := ⟨p1, g, d, tk1, os⟩) hU1 rfl ?_)
  refine wpAny_bind (updateSeq_IsTupOf4 (s := ⟨p1, g, d, tk1, os⟩) hU1 fun g1 hT1 hs1 => ?_)
  replace hT1 : IsTupOf4 g1 TO x1 a2 a3 a4 := hT1
  replace hs1 : Heap.SameBut TO p1 g1 := hs1
  refine wpAny_bind (wpAny_letGo (wpAny_pure ?_))
  refine wpAny_bind (wpAny_bind (wpAny_onRaise ?_))
  show wpAny _ _ (Builtin.SmallTypes.nextOf (.ref i2) >>= _) _ _ ⟨g1, g, d, tk1, os⟩
  refine wpAny_bind (D2.item i _ _ _ hlt2 (D2.over (D2.over (D2.over st2 hs0 S.zf2) hp1 S.sep1_2) hs1 S.Tf2) fun x2 p2 tk2 hx2 sn2 hp2 => wpAny_pure ?_)
  replace hp2 : Heap.SameBut i2 g1 p2 := hp2
  have hU2 : IsTupOf4 p2 TO x1 a2 a3 a4 := hp2.extBut _ _ S.Ti2 hT1
  refine wpAny_bind (wpAny_seqItems (s := ⟨p2, g, d, tk2, os⟩) hU2 rfl ?_)
  refine wpAny_bind (updateSeq_IsTupOf4 (s := ⟨p2, g, d, tk2, os⟩) hU2 fun g2 hT2 hs2 => ?_)
  replace hT2 : IsTupOf4 g2 TO x1 x2 a3 a4 := hT2
  replace hs2 : Heap.SameBut TO p2 g2 := hs2
  refine wpAny_bind (wpAny_letGo (wpAny_pure ?_))
  refine wpAny_bind (wpAny_bind (wpAny_onRaise ?_))
  show wpAny _ _ (Builtin.SmallTypes.nextOf (.ref i3) >>= _) _ _ ⟨g2, g, d, tk2, os⟩
  refine wpAny_bind (D3.item i _ _ _ hlt3 (D3.over (D3.over (D3.over (D3.over (D3.over st3 hs0 S.zf3) hp1 S.sep1_3) hs1 S.Tf3) hp2 S.sep2_3) hs2 S.Tf3) fun x3 p3 tk3 hx3 sn3 hp3 => wpAny_pure ?_)
  replace hp3 : Heap.SameBut i3 g2 p3 := hp3
  have hU3 : IsTupOf4 p3 TO x1 x2 a3 a4 := hp3.extBut _ _ S.Ti3 hT2
  refine wpAny_bind (wpAny_seqItems (s := ⟨p3, g, d, tk3, os⟩) hU3 rfl ?_)
  refine wpAny_bind (updateSeq_IsTupOf4 (s := ⟨p3, g, d, tk3, os⟩) hU3 fun g3 hT3 hs3 => ?_)
  replace hT3 : IsTupOf4 g3 TO x1 x2 x3 a4 := hT3
  replace hs3 : Heap.SameBut TO p3 g3 := hs3
  refine wpAny_bind (wpAny_letGo (wpAny_pure ?_))
  refine wpAny_bind (wpAny_bind (wpAny_onRaise ?_))
  show wpAny _ _ (Builtin.SmallTypes.nextOf (.ref i4) >>= _) _ _ ⟨g3, g, d, tk3, os⟩
  refine wpAny_bind (D4.item i _ _ _ hlt4 (D4.over (D4.over (D4.over (D4.over (D4.over (D4.over (D4.over st4 hs0 S.zf4) hp1 S.sep1_4) hs1 S.Tf4) hp2 S.sep2_4) hs2 S.Tf4) hp3 S.sep3_4) hs3 S.Tf4) fun x4 p4 tk4 hx4 sn4 hp4 => wpAny_pure ?_)
  replace hp4 : Heap.SameBut i4 g3 p4 := hp4
  have hU4 : IsTupOf4 p4 TO x1 x2 x3 a4 := hp4.extBut _ _ S.Ti4 hT3
  refine wpAny_bind (wpAny_seqItems (s := ⟨p4, g, d, tk4, os⟩) hU4 rfl ?_)
  refine wpAny_bind (updateSeq_IsTupOf4 (s := ⟨p4, g, d, tk4, os⟩) hU4 fun g4 hT4 hs4 => ?_)
  replace hT4 : IsTupOf4 g4 TO x1 x2 x3 x4 := hT4
  replace hs4 : Heap.SameBut TO p4 g4 := hs4
  refine wpAny_bind (wpAny_letGo (wpAny_pure (wpAny_pure ?_)))
  refine wpAny_bind (wpAny_seqItems (s := ⟨g4, g, d, tk4, os⟩) hT4 rfl ?_)
  refine wpAny_bind (wpAny_newTuple ?_)
  have hsz : g4.objs.size = hp.objs.size := by rw [hs4.1, hp4.1, hs3.1, hp3.1, hs2.1, hp2.1, hs1.1, hp1.1, hs0.1]
  have hzz : IsZip g4 z TI TO .ellipsis := hs4.extBut _ _ S.TOz.symm (hp4.extBut _ _ S.zi4 (hs3.extBut _ _ S.TOz.symm (hp3.extBut _ _ S.zi3 (hs2.extBut _ _ S.TOz.symm (hp2.extBut _ _ S.zi2 (hs1.extBut _ _ S.TOz.symm (hp1.extBut _ _ S.zi1 (hz0))))))))
  have hkk : ∀ c o, c ≠ z → c ≠ TO → c ≠ i1 → c ≠ i2 → c ≠ i3 → c ≠ i4 → hp.get? c = some o → g4.get? c = some o := fun c o cz cT c1 c2 c3 c4 e => hs4.extBut _ _ cT (hp4.extBut _ _ c4 (hs3.extBut _ _ cT (hp3.extBut _ _ c3 (hs2.extBut _ _ cT (hp2.extBut _ _ c2 (hs1.extBut _ _ cT (hp1.extBut _ _ c1 (hs0.extBut _ _ cz e))))))))
  have hj1 : St1 (i + 1) g4 := D1.over (D1.over (D1.over (D1.over (D1.over (D1.over (D1.over sn1 hs1 S.Tf1) hp2 S.sep2_1) hs2 S.Tf1) hp3 S.sep3_1) hs3 S.Tf1) hp4 S.sep4_1) hs4 S.Tf1
  have hj2 : St2 (i + 1) g4 := D2.over (D2.over (D2.over (D2.over (D2.over sn2 hs2 S.Tf2) hp3 S.sep3_2) hs3 S.Tf2) hp4 S.sep4_2) hs4 S.Tf2
  have hj3 : St3 (i + 1) g4 := D3.over (D3.over (D3.over sn3 hs3 S.Tf3) hp4 S.sep4_3) hs4 S.Tf3
  have hj4 : St4 (i + 1) g4 := D4.over sn4 hs4 S.Tf4
  have hzlt : z < g4.objs.size := Heap.lt_size hzz
  show wpAny _ _ (Builtin.SmallTypes.ownedTupleHandOut (.ref z) (.ref g4.objs.size) >>= _) _ _ ⟨g4.push { cls := .type "tuple", data := .seq #[x1, x2, x3, x4] }, g, d, tk4, os⟩
  refine wpAny_bind ?_
  unfold Builtin.SmallTypes.ownedTupleHandOut
  have hz₆ : IsZip (g4.push { cls := .type "tuple", data := .seq #[x1, x2, x3, x4] }) z TI TO .ellipsis := Heap.get?_push_of_some _ hzz
  refine wpAny_bind (wpAny_setField_rec hz₆ (by simp) fun h₇ hz₇ hs₇ => ?_)
  replace hz₇ : IsZip h₇ z TI TO (rawInt g4.objs.size) := hz₇
  refine wpAny_setField_rec hz₇ (by simp) fun h₈ hz₈ hs₈ => ?_
  replace hz₈ : IsZip h₈ z TI TO (rawInt g4.objs.size) := hz₈
  replace hs₇ : Heap.SameBut z (g4.push { cls := .type "tuple", data := .seq #[x1, x2, x3, x4] }) h₇ := hs₇
  replace hs₈ : Heap.SameBut z h₇ h₈ := hs₈
  have up : ∀ c o, c ≠ z → g4.get? c = some o → h₈.get? c = some o := fun c o c1 e => hs₈.extBut _ _ c1 (hs₇.extBut _ _ c1 (Heap.get?_push_of_some _ e))
  have hT₈ : IsTupOf4 h₈ g4.objs.size x1 x2 x3 x4 := hs₈.extBut _ _ (Nat.ne_of_gt hzlt) (hs₇.extBut _ _ (Nat.ne_of_gt hzlt) (Heap.get?_push_size _ rfl))
  have hz8 : h₈.objs.size = g4.objs.size + 1 := by rw [hs₈.1, hs₇.1, Heap.size_push]
  rw [hsz] at hz₈ hT₈ hz8
  refine wpAny_pure ⟨_, rfl, ?_⟩
  show Q (.ref g4.objs.size) ⟨h₈, g, d, tk4, os⟩
  rw [hsz]
  exact hQ x1 x2 x3 x4 h₈ tk4 hx1 hx2 hx3 hx4 hz₈ (up _ _ S.TOz hT4) (D1.frame _ _ _ hj1 fun b hb o e => up b o (fun q => S.zf1 (q ▸ hb)) e) (D2.frame _ _ _ hj2 fun b hb o e => up b o (fun q => S.zf2 (q ▸ hb)) e) (D3.frame _ _ _ hj3 fun b hb o e => up b o (fun q => S.zf3 (q ▸ hb)) e) (D4.frame _ _ _ hj4 fun b hb o e => up b o (fun q => S.zf4 (q ▸ hb)) e) hT₈ hz8 fun c o cz cT c1 c2 c3 c4 e => up c o cz (hkk c o cz cT c1 c2 c3 c4 e)
theorem zipD4_next_end {Q : Fin → Shared → Prop} (S : ZipSep4 z TI TO i1 i2 i3 i4 fp1 fp2 fp3 fp4) (D1 : Draws prog w A i1 fp1 n1 P1 St1)
    (hz : IsZip s.heap z TI TO .none) (hTI : IsTupOf4 s.heap TI (.ref i1) (.ref i2) (.ref i3) (.ref i4)) (hTO : IsTupOf4 s.heap TO a1 a2 a3 a4) (st1 : St1 n1 s.heap)
    (hE : ∀ h' tk e, (∀ c o, c ≠ z → c ≠ TO → c ≠ i1 → c ≠ i2 → c ≠ i3 → c ≠ i4 → s.heap.get? c = some o → h'.get? c = some o) → (∃ o, h'.get? e = some o ∧ o.cls = .type "StopIteration") → E (.ref e) { s with heap := h', toks := tk }) :
    wpAny (model prog w) A (Builtin.«zip.__next__» ⟨[.ref z], []⟩) Q E s := by
  obtain ⟨hp, g, d, tk0, os⟩ := s
  show wpAny _ _ (field (.ref z) 2 >>= _) _ _ _
  refine wpAny_bind (wpAny_field hz rfl (x := .bool false) rfl ?_)
  show wpAny _ _ (field (.ref z) 3 >>= _) _ _ _
  refine wpAny_bind (wpAny_field hz rfl (x := .ref TI) rfl ?_)
  refine wpAny_bind (wpAny_seqItems hTI rfl ?_)
  show wpAny _ _ (Builtin.SmallTypes.ownedTupleIsFree (.ref z) >>= _) _ _ _
  refine wpAny_bind ?_
  unfold Builtin.SmallTypes.ownedTupleIsFree
  refine wpAny_bind (wpAny_field hz rfl (x := .none) rfl (wpAny_pure ?_))
  simp only [if_true]
  refine wpAny_bind (wpAny_rule ?_)
  refine wpAny_bind (wpAny_field hz rfl (x := .ref TO) rfl ?_)
  refine wpAny_bind (wpAny_setField_rec hz (by simp) fun g0 hz0 hs0 => ?_)
  replace hz0 : IsZip g0 z TI TO .ellipsis := hz0
  replace hs0 : Heap.SameBut z hp g0 := hs0
  refine wpAny_bind ?_
  simp only [List.zipIdx_cons, List.zipIdx_nil, List.forIn_cons, List.forIn_nil]
  refine wpAny_bind (wpAny_bind (wpAny_onRaise ?_))
  show wpAny _ _ (Builtin.SmallTypes.nextOf (.ref i1) >>= _) _ _ ⟨g0, g, d, tk0, os⟩
  refine wpAny_bind (D1.done ⟨g0, g, d, tk0, os⟩ _ _ (D1.over st1 hs0 S.zf1) fun q e hq he => ?_)
  replace hq : Heap.ExtBut i1 g0 q := hq
  obtain ⟨oe, hoe, hce⟩ := he
  replace hoe : q.get? e = some oe := hoe
  have hzq : IsZip q z TI TO .ellipsis := hq _ _ S.zi1 hz0
  have hez : e ≠ z := fun x => by subst x; rw [hzq] at hoe; cases hoe; simp at hce
  refine wpAny_setField_rec (s := ⟨q, g, d, tk0, os⟩) hzq (by simp) fun q' _ hq' => ?_
  replace hq' : Heap.SameBut z q q' := hq'
  exact hE q' tk0 e (fun c o cz cT c1 c2 c3 c4 x => hq'.extBut _ _ cz (hq _ _ c1 (hs0.extBut _ _ cz x))) ⟨oe, hq'.extBut _ _ hez hoe, hce⟩
theorem wpAny_pyNext_zipD4_item {Q : Option Value → Shared → Prop} (S : ZipSep4 z TI TO i1 i2 i3 i4 fp1 fp2 fp3 fp4) (D1 : Draws prog w A.in1 i1 fp1 n1 P1 St1) (D2 : Draws prog w A.in1 i2 fp2 n2 P2 St2) (D3 : Draws prog w A.in1 i3 fp3 n3 P3 St3) (D4 : Draws prog w A.in1 i4 fp4 n4 P4 St4)
    (hz : IsZip s.heap z TI TO .none) (hTI : IsTupOf4 s.heap TI (.ref i1) (.ref i2) (.ref i3) (.ref i4)) (hTO : IsTupOf4 s.heap TO a1 a2 a3 a4) (st1 : St1 i s.heap) (st2 : St2 i s.heap) (st3 : St3 i s.heap) (st4 : St4 i s.heap) (hlt1 : i < n1) (hlt2 : i < n2) (hlt3 : i < n3) (hlt4 : i < n4)
    (hQ : ∀ x1 x2 x3 x4 h' tk, P1 i x1 → P2 i x2 → P3 i x3 → P4 i x4 → IsZip h' z TI TO (rawInt s.heap.objs.size) → IsTupOf4 h' TO x1 x2 x3 x4 → St1 (i + 1) h' → St2 (i + 1) h' → St3 (i + 1) h' → St4 (i + 1) h' → IsTupOf4 h' s.heap.objs.size x1 x2 x3 x4 → h'.objs.size = s.heap.objs.size + 1 →
      (∀ c o, c ≠ z → c ≠ TO → c ≠ i1 → c ≠ i2 → c ≠ i3 → c ≠ i4 → s.heap.get? c = some o → h'.get? c = some o) → Q (some (.ref s.heap.objs.size)) { s with heap := h', toks := tk }) :
    wpAny (model prog w) A (pyNext (.ref z)) Q E s := by
  have hT : s.TypeIs (.ref z) "zip" := ⟨_, hz, rfl⟩
  unfold pyNext
  exact wpAny_bind (wpAny_attempt (wpAny_callSpecial?_slot (name := Str.ofString "__next__") hT F.slot_zip_next
    (wpAny_call_entry F.slot_zip_next hT F.entry_zip_next
      (zipD4_next_item S D1 D2 D3 D4 hz hTI hTO st1 st2 st3 st4 hlt1 hlt2 hlt3 hlt4 fun x1 x2 x3 x4 h' tk y1 y2 y3 y4 b1 b2 d1 d2 d3 d4 b5 b6 b7 => wpAny_pure (hQ x1 x2 x3 x4 h' tk y1 y2 y3 y4 b1 b2 d1 d2 d3 d4 b5 b6 b7)) (F.args_zip_next_1 _))))
theorem wpAny_pyNext_zipD4_end {Q : Option Value → Shared → Prop} (S : ZipSep4 z TI TO i1 i2 i3 i4 fp1 fp2 fp3 fp4) (D1 : Draws prog w A.in1 i1 fp1 n1 P1 St1)
    (hz : IsZip s.heap z TI TO .none) (hTI : IsTupOf4 s.heap TI (.ref i1) (.ref i2) (.ref i3) (.ref i4)) (hTO : IsTupOf4 s.heap TO a1 a2 a3 a4) (st1 : St1 n1 s.heap)
    (hQ : ∀ h' tk, (∀ c o, c ≠ z → c ≠ TO → c ≠ i1 → c ≠ i2 → c ≠ i3 → c ≠ i4 → s.heap.get? c = some o → h'.get? c = some o) → Q none { s with heap := h', toks := tk }) : wpAny (model prog w) A (pyNext (.ref z)) Q E s := by
  have hT : s.TypeIs (.ref z) "zip" := ⟨_, hz, rfl⟩
  unfold pyNext
  refine wpAny_bind (wpAny_attempt (wpAny_callSpecial?_slot (name := Str.ofString "__next__") hT F.slot_zip_next
    (wpAny_call_entry F.slot_zip_next hT F.entry_zip_next (zipD4_next_end S D1 hz hTI hTO st1 fun h' tk e hk he => ?_) (F.args_zip_next_1 _))))
  obtain ⟨o, ho, hc⟩ := he
  refine wpAny_bind (wpAny_isInstance (T := "StopIteration") (b := true) ⟨o, ho, hc⟩ isSubtype_stop ?_)
  exact wpAny_pure (hQ _ _ hk)
end
abbrev gzT4 (h : Heap) (o1 o2 o3 o4 : Obj) : Heap := ((((h.push o1).push o2).push o3).push o4).push { cls := .type "tuple", data := .seq #[.ref h.objs.size, .ref (h.push o1).objs.size, .ref ((h.push o1).push o2).objs.size, .ref (((h.push o1).push o2).push o3).objs.size] }
abbrev gzO4 (h : Heap) (o1 o2 o3 o4 : Obj) : Heap := (gzT4 h o1 o2 o3 o4).push { cls := .type "tuple", data := .seq #[.none, .none, .none, .none] }
abbrev gzZ4 (h : Heap) (o1 o2 o3 o4 : Obj) : Heap := (gzO4 h o1 o2 o3 o4).push { cls := .type "zip", data := .fields #[.none, .bool false, .bool false, .ref ((((h.push o1).push o2).push o3).push o4).objs.size, .ref (gzT4 h o1 o2 o3 o4).objs.size] }
theorem typeCall_zip_4 (a b c d : Value) : checkTypeCall "zip" ⟨[a, b, c, d], []⟩ = pure () := by kernel_rfl
theorem newCall_zip_4 (a b c d : Value) : checkBuiltinCall "zip.__new__" ⟨[.type "zip", a, b, c, d], []⟩ = pure () := by kernel_rfl
theorem args_object_init_5 (obj a b c d : Value) : argsOk "object.__init__" ⟨[obj, a, b, c, d], []⟩ := by unfold argsOk; kernel_rfl
theorem meets_zip_newB4 {v1 v2 v3 v4 : Value} {o1 o2 o3 o4 : Obj} {H1 H2 H3 H4 : Heap → Prop} (B1 : Begins v1 o1 H1) (B2 : Begins v2 o2 H2) (B3 : Begins v3 o3 H3) (B4 : Begins v4 o4 H4) :
    Meets (Builtin.«zip.__new__» ⟨[.type "zip", v1, v2, v3, v4], []⟩) (fun _ R s => (H1 s.heap ∧ H2 s.heap ∧ H3 s.heap ∧ H4 s.heap) ∧
      R (.ok (.ret (.ref (gzO4 s.heap o1 o2 o3 o4).objs.size))) { s with heap := gzZ4 s.heap o1 o2 o3 o4 }) :=
  .of_wp fun prog w A R s h => by
    obtain ⟨hp, g, d, tk, os⟩ := s; obtain ⟨⟨h1, h2, h3, h4⟩, h⟩ := h
    have hsub := sub_zip
    have q1 : ∀ {A' : Around} {E : Value → Shared → Prop} {Q : Value → Shared → Prop}, Q (.ref hp.objs.size) ⟨(hp.push o1), g, d, tk, os⟩ → wpAny (model prog w) A' (pyIter v1) Q E ⟨hp, g, d, tk, os⟩ :=
      fun q => B1.iter prog w _ _ ⟨hp, g, d, tk, os⟩ _ (B1.keeps _ _ h1 fun b o' e => e) q
    have q2 : ∀ {A' : Around} {E : Value → Shared → Prop} {Q : Value → Shared → Prop}, Q (.ref (hp.push o1).objs.size) ⟨((hp.push o1).push o2), g, d, tk, os⟩ → wpAny (model prog w) A' (pyIter v2) Q E ⟨(hp.push o1), g, d, tk, os⟩ :=
      fun q => B2.iter prog w _ _ ⟨(hp.push o1), g, d, tk, os⟩ _ (B2.keeps _ _ h2 fun b o' e => (Heap.get?_push_of_some _ e)) q
    have q3 : ∀ {A' : Around} {E : Value → Shared → Prop} {Q : Value → Shared → Prop}, Q (.ref ((hp.push o1).push o2).objs.size) ⟨(((hp.push o1).push o2).push o3), g, d, tk, os⟩ → wpAny (model prog w) A' (pyIter v3) Q E ⟨((hp.push o1).push o2), g, d, tk, os⟩ :=
      fun q => B3.iter prog w _ _ ⟨((hp.push o1).push o2), g, d, tk, os⟩ _ (B3.keeps _ _ h3 fun b o' e => (Heap.get?_push_of_some _ (Heap.get?_push_of_some _ e))) q
    have q4 : ∀ {A' : Around} {E : Value → Shared → Prop} {Q : Value → Shared → Prop}, Q (.ref (((hp.push o1).push o2).push o3).objs.size) ⟨((((hp.push o1).push o2).push o3).push o4), g, d, tk, os⟩ → wpAny (model prog w) A' (pyIter v4) Q E ⟨(((hp.push o1).push o2).push o3), g, d, tk, os⟩ :=
      fun q => B4.iter prog w _ _ ⟨(((hp.push o1).push o2).push o3), g, d, tk, os⟩ _ (B4.keeps _ _ h4 fun b o' e => (Heap.get?_push_of_some _ (Heap.get?_push_of_some _ (Heap.get?_push_of_some _ e)))) q
    wp_walk using q1, q2, q3, q4
    exact ⟨_, rfl, h⟩
section
variable {prog : Program} {w : World} {A : Around} {E : Value → Shared → Prop} {s : Shared}
theorem zip_begins4 {v1 v2 v3 v4 : Value} {o1 o2 o3 o4 : Obj} {H1 H2 H3 H4 : Heap → Prop} {Q : Value → Shared → Prop} (B1 : Begins v1 o1 H1) (B2 : Begins v2 o2 H2) (B3 : Begins v3 o3 H3) (B4 : Begins v4 o4 H4) (h1 : H1 s.heap) (h2 : H2 s.heap) (h3 : H3 s.heap) (h4 : H4 s.heap)
    (h : ∀ h', IsZip h' (s.heap.objs.size + 6) (s.heap.objs.size + 4) (s.heap.objs.size + 5) .none → IsTupOf4 h' (s.heap.objs.size + 4) (.ref s.heap.objs.size) (.ref (s.heap.objs.size + 1)) (.ref (s.heap.objs.size + 2)) (.ref (s.heap.objs.size + 3)) →
      IsTupOf4 h' (s.heap.objs.size + 5) .none .none .none .none → h'.get? s.heap.objs.size = some o1 → h'.get? (s.heap.objs.size + 1) = some o2 → h'.get? (s.heap.objs.size + 2) = some o3 → h'.get? (s.heap.objs.size + 3) = some o4 → h'.objs.size = s.heap.objs.size + 7 →
      (∀ c o, s.heap.get? c = some o → h'.get? c = some o) → Q (.ref (s.heap.objs.size + 6)) { s with heap := h' }) :
    wpAny (model prog w) A (call (.type "zip") [v1, v2, v3, v4]) Q E s := by
  refine callType_new F.called_zip (by decide) (typeCall_zip_4 _ _ _ _) (newCall_zip_4 _ _ _ _) (fun obj => args_object_init_5 obj _ _ _ _) F.entry_zip_new
    (meets_zip_newB4 B1 B2 B3 B4) ⟨⟨h1, h2, h3, h4⟩, ?_⟩
  have z1 : (s.heap.push o1).objs.size = s.heap.objs.size + 1 := by rw [Heap.size_push]
  have z2 : ((s.heap.push o1).push o2).objs.size = s.heap.objs.size + 2 := by rw [Heap.size_push, z1]
  have z3 : (((s.heap.push o1).push o2).push o3).objs.size = s.heap.objs.size + 3 := by rw [Heap.size_push, z2]
  have z4 : ((((s.heap.push o1).push o2).push o3).push o4).objs.size = s.heap.objs.size + 4 := by rw [Heap.size_push, z3]
  have zT : (gzT4 s.heap o1 o2 o3 o4).objs.size = s.heap.objs.size + 5 := by rw [Heap.size_push, z4]
  have zO : (gzO4 s.heap o1 o2 o3 o4).objs.size = s.heap.objs.size + 6 := by rw [Heap.size_push, zT]
  have zZ : (gzZ4 s.heap o1 o2 o3 o4).objs.size = s.heap.objs.size + 7 := by rw [Heap.size_push, zO]
  have gZ : (gzZ4 s.heap o1 o2 o3 o4).get? (gzO4 s.heap o1 o2 o3 o4).objs.size = some { cls := .type "zip", data := .fields #[.none, .bool false, .bool false, .ref ((((s.heap.push o1).push o2).push o3).push o4).objs.size, .ref (gzT4 s.heap o1 o2 o3 o4).objs.size] } := Heap.get?_push_size _ rfl
  have gO : (gzZ4 s.heap o1 o2 o3 o4).get? (gzT4 s.heap o1 o2 o3 o4).objs.size = some { cls := .type "tuple", data := .seq #[.none, .none, .none, .none] } := Heap.get?_push_of_some _ (Heap.get?_push_size _ rfl)
  have gT : (gzZ4 s.heap o1 o2 o3 o4).get? ((((s.heap.push o1).push o2).push o3).push o4).objs.size = some { cls := .type "tuple", data := .seq #[.ref s.heap.objs.size, .ref (s.heap.push o1).objs.size, .ref ((s.heap.push o1).push o2).objs.size, .ref (((s.heap.push o1).push o2).push o3).objs.size] } := Heap.get?_push_of_some _ (Heap.get?_push_of_some _ (Heap.get?_push_size _ rfl))
  have g1 : (gzZ4 s.heap o1 o2 o3 o4).get? s.heap.objs.size = some o1 := (Heap.get?_push_of_some _ (Heap.get?_push_of_some _ (Heap.get?_push_of_some _ (Heap.get?_push_of_some _ (Heap.get?_push_of_some _ (Heap.get?_push_of_some _ (Heap.get?_push_size _ B1.free)))))))
  have g2 : (gzZ4 s.heap o1 o2 o3 o4).get? (s.heap.push o1).objs.size = some o2 := (Heap.get?_push_of_some _ (Heap.get?_push_of_some _ (Heap.get?_push_of_some _ (Heap.get?_push_of_some _ (Heap.get?_push_of_some _ (Heap.get?_push_size _ B2.free))))))
  have g3 : (gzZ4 s.heap o1 o2 o3 o4).get? ((s.heap.push o1).push o2).objs.size = some o3 := (Heap.get?_push_of_some _ (Heap.get?_push_of_some _ (Heap.get?_push_of_some _ (Heap.get?_push_of_some _ (Heap.get?_push_size _ B3.free)))))
  have g4 : (gzZ4 s.heap o1 o2 o3 o4).get? (((s.heap.push o1).push o2).push o3).objs.size = some o4 := (Heap.get?_push_of_some _ (Heap.get?_push_of_some _ (Heap.get?_push_of_some _ (Heap.get?_push_size _ B4.free))))
  rw [zO, zT, z4] at gZ
  rw [zT] at gO
  rw [z4, z3, z2, z1] at gT
  rw [z1] at g2
  rw [z2] at g3
  rw [z3] at g4
  show _ ∧ _
  rw [zO]
  exact ⟨⟨_, gZ, rfl⟩, h _ gZ gT gO g1 g2 g3 g4 zZ fun c o e => (Heap.get?_push_of_some _ (Heap.get?_push_of_some _ (Heap.get?_push_of_some _ (Heap.get?_push_of_some _ (Heap.get?_push_of_some _ (Heap.get?_push_of_some _ (Heap.get?_push_of_some _ e)))))))⟩
end
end K67
set_option Elab.async false
set_option linter.all false
set_option maxRecDepth 100000
set_option maxHeartbeats 8000000
namespace K67
open PySem PySem.Spec PyProof.Rows L2
variable [TabA]

/-- the tuples at a1 a2 a3 a4, all of one length, the items in new tuples -/
def ItzT (K : PySem.W.Frag) (a1 a2 a3 a4 : Addr) : It :=
  ⟨fun i H => ∃ (xs1 xs2 xs3 xs4 : List V) (x1 x2 x3 x4 : V), SqT K H a1 xs1 ∧ SqT K H a2 xs2 ∧ SqT K H a3 xs3 ∧ SqT K H a4 xs4 ∧ xs1[i]? = some x1 ∧ xs2[i]? = some x2 ∧ xs3[i]? = some x3 ∧ xs4[i]? = some x4,
    fun i H v H' => ∃ T x1 x2 x3 x4, v = .ref T ∧ H T = none ∧ H' = upd H T (.tup [x1, x2, x3, x4]) ∧ (∀ xs, SqT K H a1 xs → xs[i]? = some x1) ∧ (∀ xs, SqT K H a2 xs → xs[i]? = some x2) ∧ (∀ xs, SqT K H a3 xs → xs[i]? = some x3) ∧ (∀ xs, SqT K H a4 xs → xs[i]? = some x4),
    fun i H => ∃ xs1 : List V, SqT K H a1 xs1 ∧ xs1.length = i⟩
theorem turn_zip4T {P : Program} {w : World} {K : PySem.W.Frag} {elts : List Expr} {kk : Nat} {tpos : Pos} {a1 a2 a3 a4 z TI TO i1 i2 i3 i4 : Addr} (D : ZipSep4 z TI TO i1 i2 i3 i4 [i1, a1] [i2, a2] [i3, a3] [i4, a4]) (ne1 : a1 ≠ i1) (ne2 : a2 ≠ i2) (ne3 : a3 ≠ i3) (ne4 : a4 ≠ i4) :
    Turn P w K (.Tuple elts kk tpos) (ItzT K a1 a2 a3 a4) [z, TI, TO, i1, i2, i3, i4] z (fun i h => IsZip h z TI TO .none ∧ IsTupOf4 h TI (.ref i1) (.ref i2) (.ref i3) (.ref i4) ∧ (∃ y1 y2 y3 y4, IsTupOf4 h TO y1 y2 y3 y4) ∧ h.IsTupleIter i1 a1 i ∧ h.IsTupleIter i2 a2 i ∧ h.IsTupleIter i3 a3 i ∧ h.IsTupleIter i4 a4 i) where
  mem := by simp
  obj := fun i h st c hc => by
    obtain ⟨hz, hTI, ⟨y1, y2, y3, y4, hTO⟩, ⟨o1, e1, _, d1⟩, ⟨o2, e2, _, d2⟩, ⟨o3, e3, _, d3⟩, ⟨o4, e4, _, d4⟩⟩ := st
    have e' : c = z ∨ c = TI ∨ c = TO ∨ c = i1 ∨ c = i2 ∨ c = i3 ∨ c = i4 := by simpa using hc
    rcases e' with q | q | q | q | q | q | q
    · rw [q]; exact ⟨_, hz, fun v q => nomatch q⟩
    · rw [q]; exact ⟨_, hTI, fun v q => nomatch q⟩
    · rw [q]; exact ⟨_, hTO, fun v q => nomatch q⟩
    · rw [q]; exact ⟨o1, e1, fun v q => by rw [d1] at q; cases q⟩
    · rw [q]; exact ⟨o2, e2, fun v q => by rw [d2] at q; cases q⟩
    · rw [q]; exact ⟨o3, e3, fun v q => by rw [d3] at q; cases q⟩
    · rw [q]; exact ⟨o4, e4, fun v q => by rw [d4] at q; cases q⟩
  keep := fun i h h' st k => by
    obtain ⟨hz, hTI, ⟨y1, y2, y3, y4, hTO⟩, h1, h2, h3, h4⟩ := st
    exact ⟨k z (by simp) _ hz, k TI (by simp) _ hTI, ⟨y1, y2, y3, y4, k TO (by simp) _ hTO⟩, h1.at fun o q => k i1 (by simp) o q, h2.at fun o q => k i2 (by simp) o q, h3.at fun o q => k i3 (by simp) o q, h4.at fun o q => k i4 (by simp) o q⟩
  item := by
    intro X hP hw hK hc i pins s σ H E I hf st hg
    subst hP hw hK
    obtain ⟨hz, hTI, ⟨y1, y2, y3, y4, hTO⟩, h1, h2, h3, h4⟩ := st
    obtain ⟨xs1, xs2, xs3, xs4, x1, x2, x3, x4, hq1, hq2, hq3, hq4, hx1, hx2, hx3, hx4⟩ := hg
    obtain ⟨its1, rv1, p1, _⟩ := I.tuple hq1
    obtain ⟨u1, hu1, ru1⟩ := rv1.get hx1
    have hl1 : i < its1.toArray.size := by
      have := (List.getElem?_eq_some_iff.mp hu1).1
      simpa using this
    have D1 : Draws X.prog X.w X.A.in1 i1 [i1, a1] its1.toArray.size (fun i v => its1.toArray[i]? = some v) (fun i h => h.IsTupleIter i1 a1 i ∧ h.IsTuple a1 its1.toArray) := Draws.tuple (A := X.A.in1) (show X.A.in1.handled = none from I.ok.hd hc) i1 a1 ne1 its1.toArray
    obtain ⟨its2, rv2, p2, _⟩ := I.tuple hq2
    obtain ⟨u2, hu2, ru2⟩ := rv2.get hx2
    have hl2 : i < its2.toArray.size := by
      have := (List.getElem?_eq_some_iff.mp hu2).1
      simpa using this
    have D2 : Draws X.prog X.w X.A.in1 i2 [i2, a2] its2.toArray.size (fun i v => its2.toArray[i]? = some v) (fun i h => h.IsTupleIter i2 a2 i ∧ h.IsTuple a2 its2.toArray) := Draws.tuple (A := X.A.in1) (show X.A.in1.handled = none from I.ok.hd hc) i2 a2 ne2 its2.toArray
    obtain ⟨its3, rv3, p3, _⟩ := I.tuple hq3
    obtain ⟨u3, hu3, ru3⟩ := rv3.get hx3
    have hl3 : i < its3.toArray.size := by
      have := (List.getElem?_eq_some_iff.mp hu3).1
      simpa using this
    have D3 : Draws X.prog X.w X.A.in1 i3 [i3, a3] its3.toArray.size (fun i v => its3.toArray[i]? = some v) (fun i h => h.IsTupleIter i3 a3 i ∧ h.IsTuple a3 its3.toArray) := Draws.tuple (A := X.A.in1) (show X.A.in1.handled = none from I.ok.hd hc) i3 a3 ne3 its3.toArray
    obtain ⟨its4, rv4, p4, _⟩ := I.tuple hq4
    obtain ⟨u4, hu4, ru4⟩ := rv4.get hx4
    have hl4 : i < its4.toArray.size := by
      have := (List.getElem?_eq_some_iff.mp hu4).1
      simpa using this
    have D4 : Draws X.prog X.w X.A.in1 i4 [i4, a4] its4.toArray.size (fun i v => its4.toArray[i]? = some v) (fun i h => h.IsTupleIter i4 a4 i ∧ h.IsTuple a4 its4.toArray) := Draws.tuple (A := X.A.in1) (show X.A.in1.handled = none from I.ok.hd hc) i4 a4 ne4 its4.toArray
    have hzl : z < s.heap.objs.size := Heap.lt_size hz
    refine wpAny_pyNext_zipD4_item D D1 D2 D3 D4 hz hTI hTO ⟨h1, show s.heap.IsTuple a1 its1.toArray from p1⟩ ⟨h2, show s.heap.IsTuple a2 its2.toArray from p2⟩ ⟨h3, show s.heap.IsTuple a3 its3.toArray from p3⟩ ⟨h4, show s.heap.IsTuple a4 its4.toArray from p4⟩ hl1 hl2 hl3 hl4 fun w1 w2 w3 w4 h' tk hw1 hw2 hw3 hw4 z' TO' k1 k2 k3 k4 hT hsz hk => ?_
    have eu1 : w1 = u1 := by
      have zz : its1.toArray[i]? = some u1 := by simpa using hu1
      rw [zz] at hw1
      exact (Option.some.inj hw1).symm
    subst eu1
    have eu2 : w2 = u2 := by
      have zz : its2.toArray[i]? = some u2 := by simpa using hu2
      rw [zz] at hw2
      exact (Option.some.inj hw2).symm
    subst eu2
    have eu3 : w3 = u3 := by
      have zz : its3.toArray[i]? = some u3 := by simpa using hu3
      rw [zz] at hw3
      exact (Option.some.inj hw3).symm
    subst eu3
    have eu4 : w4 = u4 := by
      have zz : its4.toArray[i]? = some u4 := by simpa using hu4
      rw [zz] at hw4
      exact (Option.some.inj hw4).symm
    subst eu4
    refine ⟨_, rfl, wpAny_letOwnedTupleGo_zip (s := { s with heap := h', toks := tk }) z' fun h'' z'' sb => ?_⟩
    have hT2 : h''.get? s.heap.objs.size = some { cls := .type "tuple", data := .seq #[w1, w2, w3, w4] } := (sb.2 _ (Nat.ne_of_gt hzl)).trans hT
    have new : ObjOk X.prog X.w (upd H s.heap.objs.size (.tup [x1, x2, x3, x4])) h'' s.heap.objs.size (.tup [x1, x2, x3, x4]) :=
      ⟨by show 4 ≤ sizeLine; decide, [w1, w2, w3, w4], (.cons ru1 (.cons ru2 (.cons ru3 (.cons ru4 (.nil))))), ⟨_, hT2, rfl, _, rfl⟩⟩
    have I1 : Inv X pins σ (upd H s.heap.objs.size (.tup [x1, x2, x3, x4])) { s with heap := h'', toks := tk } :=
      I.turnedNew (ch := [z, TI, TO, i1, i2, i3, i4]) (fun c o hb q => (sb.2 c (fun q' => hb (by simp [q']))).trans (hk c o (fun q' => hb (by simp [q'])) (fun q' => hb (by simp [q'])) (fun q' => hb (by simp [q'])) (fun q' => hb (by simp [q'])) (fun q' => hb (by simp [q'])) (fun q' => hb (by simp [q'])) q)) hf (Nat.le_refl _) new
    refine ⟨.ref s.heap.objs.size, _, I1, rfl, ⟨_, x1, x2, x3, x4, rfl, I.hok.fresh (Nat.le_refl _), rfl, fun l hl => by rw [I.tuple_inj hl hq1]; exact hx1, fun l hl => by rw [I.tuple_inj hl hq2]; exact hx2, fun l hl => by rw [I.tuple_inj hl hq3]; exact hx3, fun l hl => by rw [I.tuple_inj hl hq4]; exact hx4⟩, ⟨z'', ?_, ⟨w1, w2, w3, w4, ?_⟩, ?_, ?_, ?_, ?_⟩, fun c hcm => ?_⟩
    · exact (sb.2 _ D.TIz).trans (hk _ _ D.TIz D.TITO D.TIi1 D.TIi2 D.TIi3 D.TIi4 hTI)
    · exact (sb.2 _ D.TOz).trans TO'
    · exact k1.1.at fun o q => (sb.2 _ (Ne.symm D.zi1)).trans q
    · exact k2.1.at fun o q => (sb.2 _ (Ne.symm D.zi2)).trans q
    · exact k3.1.at fun o q => (sb.2 _ (Ne.symm D.zi3)).trans q
    · exact k4.1.at fun o q => (sb.2 _ (Ne.symm D.zi4)).trans q
    · have hlt : c < s.heap.objs.size := by
        have e' : c = z ∨ c = TI ∨ c = TO ∨ c = i1 ∨ c = i2 ∨ c = i3 ∨ c = i4 := by simpa using hcm
        rcases e' with q | q | q | q | q | q | q
        · rw [q]; exact hzl
        · rw [q]; exact Heap.lt_size hTI
        · rw [q]; exact Heap.lt_size hTO
        · rw [q]; obtain ⟨_, e1, _⟩ := h1; exact Heap.lt_size e1
        · rw [q]; obtain ⟨_, e1, _⟩ := h2; exact Heap.lt_size e1
        · rw [q]; obtain ⟨_, e1, _⟩ := h3; exact Heap.lt_size e1
        · rw [q]; obtain ⟨_, e1, _⟩ := h4; exact Heap.lt_size e1
      rw [upd_ne (Nat.ne_of_lt hlt)]
      exact (hf c hcm).1
  done := by
    intro X hP hw hK hc i pins s σ H E I hf st hg
    subst hP hw hK
    obtain ⟨hz, hTI, ⟨y1, y2, y3, y4, hTO⟩, h1, h2, h3, h4⟩ := st
    obtain ⟨xs1, hq1, hx⟩ := hg
    obtain ⟨its, rv, p, _⟩ := I.tuple hq1
    have hl := rv.length
    have hi : i = its.toArray.size := by rw [List.size_toArray]; omega
    have D1 : Draws X.prog X.w X.A.in1 i1 [i1, a1] its.toArray.size (fun i v => its.toArray[i]? = some v) (fun i h => h.IsTupleIter i1 a1 i ∧ h.IsTuple a1 its.toArray) := Draws.tuple (A := X.A.in1) (show X.A.in1.handled = none from I.ok.hd hc) i1 a1 ne1 its.toArray
    subst hi
    exact wpAny_pyNext_zipD4_end D D1 hz hTI hTO ⟨h1, show s.heap.IsTuple a1 its.toArray from p⟩ fun h' tk hk => ⟨rfl, I.turnedL (t' := tk) (ch := [z, TI, TO, i1, i2, i3, i4]) (fun c o hb q =>
      hk c o (fun q' => hb (by simp [q'])) (fun q' => hb (by simp [q'])) (fun q' => hb (by simp [q'])) (fun q' => hb (by simp [q'])) (fun q' => hb (by simp [q'])) (fun q' => hb (by simp [q'])) q) hf⟩
  self := fun A i s Q E st h => wpAny_pyIter_zip st.1 h
theorem nin {x a b : Nat} (h : x ≠ a) (h2 : x ≠ b) : x ∉ [a, b] := fun e => by
  rcases List.mem_cons.mp e with q | q
  · exact h q
  · exact h2 (List.mem_singleton.mp q)
theorem zip_sep4 {N a1 a2 a3 a4 : Nat} (l1 : a1 < N) (l2 : a2 < N) (l3 : a3 < N) (l4 : a4 < N) : ZipSep4 (N + 6) (N + 4) (N + 5) N (N + 1) (N + 2) (N + 3) [N, a1] [(N + 1), a2] [(N + 2), a3] [(N + 3), a4] :=
  { TIz := (show ((N + 4) : Nat) ≠ (N + 6) by omega), TOz := (show ((N + 5) : Nat) ≠ (N + 6) by omega), TITO := (show ((N + 4) : Nat) ≠ (N + 5) by omega), TIi1 := (show ((N + 4) : Nat) ≠ N by omega), mem1 := List.mem_cons_self .., zf1 := nin (show ((N + 6) : Nat) ≠ N by omega) (show ((N + 6) : Nat) ≠ a1 by omega), Tf1 := nin (show ((N + 5) : Nat) ≠ N by omega) (show ((N + 5) : Nat) ≠ a1 by omega), TIi2 := (show ((N + 4) : Nat) ≠ (N + 1) by omega), mem2 := List.mem_cons_self .., zf2 := nin (show ((N + 6) : Nat) ≠ (N + 1) by omega) (show ((N + 6) : Nat) ≠ a2 by omega), Tf2 := nin (show ((N + 5) : Nat) ≠ (N + 1) by omega) (show ((N + 5) : Nat) ≠ a2 by omega), TIi3 := (show ((N + 4) : Nat) ≠ (N + 2) by omega), mem3 := List.mem_cons_self .., zf3 := nin (show ((N + 6) : Nat) ≠ (N + 2) by omega) (show ((N + 6) : Nat) ≠ a3 by omega), Tf3 := nin (show ((N + 5) : Nat) ≠ (N + 2) by omega) (show ((N + 5) : Nat) ≠ a3 by omega), TIi4 := (show ((N + 4) : Nat) ≠ (N + 3) by omega), mem4 := List.mem_cons_self .., zf4 := nin (show ((N + 6) : Nat) ≠ (N + 3) by omega) (show ((N + 6) : Nat) ≠ a4 by omega), Tf4 := nin (show ((N + 5) : Nat) ≠ (N + 3) by omega) (show ((N + 5) : Nat) ≠ a4 by omega), sep1_2 := nin (show (N : Nat) ≠ (N + 1) by omega) (show (N : Nat) ≠ a2 by omega), sep1_3 := nin (show (N : Nat) ≠ (N + 2) by omega) (show (N : Nat) ≠ a3 by omega), sep1_4 := nin (show (N : Nat) ≠ (N + 3) by omega) (show (N : Nat) ≠ a4 by omega), sep2_1 := nin (show ((N + 1) : Nat) ≠ N by omega) (show ((N + 1) : Nat) ≠ a1 by omega), sep2_3 := nin (show ((N + 1) : Nat) ≠ (N + 2) by omega) (show ((N + 1) : Nat) ≠ a3 by omega), sep2_4 := nin (show ((N + 1) : Nat) ≠ (N + 3) by omega) (show ((N + 1) : Nat) ≠ a4 by omega), sep3_1 := nin (show ((N + 2) : Nat) ≠ N by omega) (show ((N + 2) : Nat) ≠ a1 by omega), sep3_2 := nin (show ((N + 2) : Nat) ≠ (N + 1) by omega) (show ((N + 2) : Nat) ≠ a2 by omega), sep3_4 := nin (show ((N + 2) : Nat) ≠ (N + 3) by omega) (show ((N + 2) : Nat) ≠ a4 by omega), sep4_1 := nin (show ((N + 3) : Nat) ≠ N by omega) (show ((N + 3) : Nat) ≠ a1 by omega), sep4_2 := nin (show ((N + 3) : Nat) ≠ (N + 1) by omega) (show ((N + 3) : Nat) ≠ a2 by omega), sep4_3 := nin (show ((N + 3) : Nat) ≠ (N + 2) by omega) (show ((N + 3) : Nat) ≠ a3 by omega) }
theorem cells_le {N c : Nat} (h : c ∈ [(N + 6), (N + 4), (N + 5), N, (N + 1), (N + 2), (N + 3)]) : N ≤ c := by
  have e : c = (N + 6) ∨ c = (N + 4) ∨ c = (N + 5) ∨ c = N ∨ c = (N + 1) ∨ c = (N + 2) ∨ c = (N + 3) := by simpa using h
  omega
def iZip4T (K : PySem.W.Frag) (ta : TA) : TI := fun σ H R => ta σ H fun vs H1 => ∃ a1 a2 a3 a4 xs1 xs2 xs3 xs4, vs = [.ref a1, .ref a2, .ref a3, .ref a4] ∧ SqT K H1 a1 xs1 ∧ SqT K H1 a2 xs2 ∧ SqT K H1 a3 xs3 ∧ SqT K H1 a4 xs4 ∧ R (ItzT K a1 a2 a3 a4) H1
theorem pi_zip4T {X : Cx} {e1 e2 e3 e4 : Expr} {ta : TA} {p pos tpos : Pos} {elts : List Expr} {kk : Nat} (hg : Gl X "zip") (hm : X.mg "zip" = none) (ha : PA X [e1, e2, e3, e4] ta)
    (hs : starEach [e1, e2, e3, e4] X.env = (false, eval e1 X.env) :: starEach [e2, e3, e4] X.env := by rfl) (hpl : (backTo pos (starEach [e2, e3, e4] X.env)).any (·.1) = false := by rfl) :
    PI X (.Tuple elts kk tpos) (.Call (.Name "zip" p) [e1, e2, e3, e4] [] pos) (iZip4T X.K ta) := by
  refine ⟨fun pins s σ H R I h => ?_⟩
  refine Call_ (ld_blt I hg hm PyProof.Rows.boot_zip (PyProof.Rows.callWith_type1 (thn (ha.run pos pins s σ H _ I h) fun us s1 ⟨vs, H1, I1, r1, q1⟩ => ?_) hs hpl))
  obtain ⟨a1, a2, a3, a4, xs1, xs2, xs3, xs4, ex, hq1, hq2, hq3, hq4, q⟩ := q1
  subst ex
  cases r1 with
  | cons t1 rr1 =>
    cases rr1 with
    | cons t2 rr2 =>
      cases rr2 with
      | cons t3 rr3 =>
        cases rr3 with
        | cons t4 rr4 =>
          cases rr4
          cases t1
          cases t2
          cases t3
          cases t4
          obtain ⟨its1, rv1, p1, _⟩ := I1.tuple hq1
          have la1 : a1 < s1.heap.objs.size := p1.lt
          obtain ⟨its2, rv2, p2, _⟩ := I1.tuple hq2
          have la2 : a2 < s1.heap.objs.size := p2.lt
          obtain ⟨its3, rv3, p3, _⟩ := I1.tuple hq3
          have la3 : a3 < s1.heap.objs.size := p3.lt
          obtain ⟨its4, rv4, p4, _⟩ := I1.tuple hq4
          have la4 : a4 < s1.heap.objs.size := p4.lt
          refine zip_begins4 (begins_tuple a1 its1.toArray) (begins_tuple a2 its2.toArray) (begins_tuple a3 its3.toArray) (begins_tuple a4 its4.toArray) (show s1.heap.IsTuple a1 its1.toArray from p1) (show s1.heap.IsTuple a2 its2.toArray from p2) (show s1.heap.IsTuple a3 its3.toArray from p3) (show s1.heap.IsTuple a4 its4.toArray from p4) fun h' hz hTI hTO g1 g2 g3 g4 hsz hk => wpAny_pyIter_zip hz ?_
          have I2 : Inv X pins σ H1 { s1 with heap := h' } := I1.kept (t' := s1.toks) hk
          have D := zip_sep4 la1 la2 la3 la4
          refine ⟨s1.heap.objs.size + 6, [s1.heap.objs.size + 6, s1.heap.objs.size + 4, s1.heap.objs.size + 5, s1.heap.objs.size, s1.heap.objs.size + 1, s1.heap.objs.size + 2, s1.heap.objs.size + 3], _, _, H1, rfl, I2, turn_zip4T D (Nat.ne_of_lt (Nat.lt_of_lt_of_le la1 (Nat.le_add_right _ 0))) (Nat.ne_of_lt (Nat.lt_of_lt_of_le la2 (Nat.le_add_right _ 1))) (Nat.ne_of_lt (Nat.lt_of_lt_of_le la3 (Nat.le_add_right _ 2))) (Nat.ne_of_lt (Nat.lt_of_lt_of_le la4 (Nat.le_add_right _ 3))), ⟨hz, hTI, ⟨_, _, _, _, hTO⟩, ⟨_, g1, rfl, rfl⟩, ⟨_, g2, rfl, rfl⟩, ⟨_, g3, rfl, rfl⟩, ⟨_, g4, rfl, rfl⟩⟩, fun c hcm => ?_, q⟩
          have hle : s1.heap.objs.size ≤ c := cells_le hcm
          exact I1.fpOk hle (I1.hok.fresh hle)
/-- four lists side by side -/
noncomputable def zip4 (d1 : List PyData) : List PyData → List PyData → List PyData → Option (List PyData) := @List.rec PyData (fun _ => List PyData → List PyData → List PyData → Option (List PyData))
  (fun d2 d3 d4 => @List.rec PyData (fun _ => Option (List PyData)) (@List.rec PyData (fun _ => Option (List PyData)) (@List.rec PyData (fun _ => Option (List PyData)) (some []) (fun _ _ _ => none) d4) (fun _ _ _ => none) d3) (fun _ _ _ => none) d2)
  (fun x1 _ ih d2 d3 d4 => @List.rec PyData (fun _ => Option (List PyData)) none (fun x2 r2 _ => @List.rec PyData (fun _ => Option (List PyData)) none (fun x3 r3 _ => @List.rec PyData (fun _ => Option (List PyData)) none (fun x4 r4 _ => bd (ih r2 r3 r4) fun o => some (.tuple [x1, x2, x3, x4] :: o)) d4) d3) d2) d1
theorem zip4_len : ∀ {d1 d2 d3 d4 o : List PyData}, zip4 d1 d2 d3 d4 = some o → o.length = d1.length ∧ ∀ (i : Nat) (x1 x2 x3 x4 : PyData), d1[i]? = some x1 → d2[i]? = some x2 → d3[i]? = some x3 → d4[i]? = some x4 → o[i]? = some (PyData.tuple [x1, x2, x3, x4])
  | [], [], [], [], o, h => by cases h; exact ⟨rfl, fun i x1 x2 x3 x4 h => by simp at h⟩
  | [], [], [], _ :: _, o, h => nomatch h
  | [], [], _ :: _, d4, o, h => nomatch h
  | [], _ :: _, d3, d4, o, h => nomatch h
  | _ :: _, [], d3, d4, o, h => nomatch h
  | _ :: _, _ :: _, [], d4, o, h => nomatch h
  | _ :: _, _ :: _, _ :: _, [], o, h => nomatch h
  | y1 :: r1, y2 :: r2, y3 :: r3, y4 :: r4, o, h => by
    obtain ⟨o', h1, h2⟩ := bd_some (show bd (zip4 r1 r2 r3 r4) (fun o => some (.tuple [y1, y2, y3, y4] :: o)) = some o from h)
    cases h2
    obtain ⟨l, a⟩ := zip4_len h1
    refine ⟨by simp [l], fun i x1 x2 x3 x4 e1 e2 e3 e4 => ?_⟩
    cases i with
    | zero =>
      simp at e1 e2 e3 e4
      subst e1 e2 e3 e4
      rfl
    | succ i => exact a i x1 x2 x3 x4 (by simpa using e1) (by simpa using e2) (by simpa using e3) (by simpa using e4)
theorem zip4_lens : ∀ {d1 d2 d3 d4 o : List PyData}, zip4 d1 d2 d3 d4 = some o → d2.length = d1.length ∧ d3.length = d1.length ∧ d4.length = d1.length
  | [], [], [], [], o, h => ⟨rfl, rfl, rfl⟩
  | [], [], [], _ :: _, o, h => nomatch h
  | [], [], _ :: _, d4, o, h => nomatch h
  | [], _ :: _, d3, d4, o, h => nomatch h
  | _ :: _, [], d3, d4, o, h => nomatch h
  | _ :: _, _ :: _, [], d4, o, h => nomatch h
  | _ :: _, _ :: _, _ :: _, [], o, h => nomatch h
  | y1 :: r1, y2 :: r2, y3 :: r3, y4 :: r4, o, h => by
    obtain ⟨o', h1, h2⟩ := bd_some (show bd (zip4 r1 r2 r3 r4) (fun o => some (.tuple [y1, y2, y3, y4] :: o)) = some o from h)
    obtain ⟨a, b, c⟩ := zip4_lens h1
    exact ⟨by simp [a], by simp [b], by simp [c]⟩
noncomputable def iZip4 (r1 r2 r3 r4 : RE) : RA := fun env => bd (r1 env) fun d1 => bd (r2 env) fun d2 => bd (r3 env) fun d3 => bd (r4 env) fun d4 => bd (toTp d1) fun l1 => bd (toTp d2) fun l2 => bd (toTp d3) fun l3 => bd (toTp d4) fun l4 => zip4 l1 l2 l3 l4
noncomputable def b4 (i j k l : Nat) : PyData → En → Option En := fun d env => bd (toTp d) fun ds => @List.rec PyData (fun _ => Option En) none (fun x1 r _ => @List.rec PyData (fun _ => Option En) none (fun x2 r _ => @List.rec PyData (fun _ => Option En) none (fun x3 r _ => @List.rec PyData (fun _ => Option En) none (fun x4 r _ => @List.rec PyData (fun _ => Option En) (some (put (put (put (put env i (.fz x1)) j (.fz x2)) k (.fz x3)) l (.fz x4))) (fun _ _ _ => none) r) r) r) r) ds
section
variable {X : Cx} {e1 e2 e3 e4 : Expr} {r1 r2 r3 r4 : RE} {p pos tpos : Pos} {elts : List Expr} {kk : Nat}
theorem ji_zip4 (hg : Gl X "zip") (hm : X.mg "zip" = none) (h1 : JE X e1 r1) (h2 : JE X e2 r2) (h3 : JE X e3 r3) (h4 : JE X e4 r4)
    (s1 : starEach [e1, e2, e3, e4] X.env = (false, eval e1 X.env) :: starEach [e2, e3, e4] X.env := by rfl) (s2 : starEach [e2, e3, e4] X.env = (false, eval e2 X.env) :: starEach [e3, e4] X.env := by rfl)
    (s3 : starEach [e3, e4] X.env = (false, eval e3 X.env) :: starEach [e4] X.env := by rfl) (s4 : starEach [e4] X.env = (false, eval e4 X.env) :: starEach [] X.env := by rfl) (hpl : (backTo pos (starEach [e2, e3, e4] X.env)).any (·.1) = false := by rfl) :
    JI X (roT X.prog X.w X.K) (.Tuple elts kk tpos) (.Call (.Name "zip" p) [e1, e2, e3, e4] [] pos) (iZip4 r1 r2 r3 r4) := by
  refine ⟨PI.imp (pi_zip4T hg hm (pa_cons h1 (pa_cons h2 (pa_cons h3 (pa_cons h4 pa_nil s4) s3) s2) s1) s1 hpl) ?_⟩
  rintro σ H Q ⟨F0, H0, F, env, ds, R, hr, k⟩
  obtain ⟨d1, q1, hr⟩ := bd_some hr
  obtain ⟨d2, q2, hr⟩ := bd_some hr
  obtain ⟨d3, q3, hr⟩ := bd_some hr
  obtain ⟨d4, q4, hr⟩ := bd_some hr
  obtain ⟨l1, t1, hr⟩ := bd_some hr
  obtain ⟨l2, t2, hr⟩ := bd_some hr
  obtain ⟨l3, t3, hr⟩ := bd_some hr
  obtain ⟨l4, t4, hr⟩ := bd_some hr
  replace t1 := toTp_some t1
  replace t2 := toTp_some t2
  replace t3 := toTp_some t3
  replace t4 := toTp_some t4
  subst t1 t2 t3 t4
  obtain ⟨z1, z2⟩ := zip4_len hr
  refine ⟨F0, H0, F, env, _, R, q1, fun v1 F1 H1 g1 n1 => ⟨F0, H0, F1, env, _, R.grow g1, q2, fun v2 F2 H2 g2 n2 => ⟨F0, H0, F2, env, _, (R.grow g1).grow g2, q3, fun v3 F3 H3 g3 n3 => ⟨F0, H0, F3, env, _, ((R.grow g1).grow g2).grow g3, q4, fun v4 F4 H4 g4 n4 => ?_⟩⟩⟩⟩
  replace n1 := ((n1.mono g2.ff).mono g3.ff).mono g4.ff
  replace n2 := (n2.mono g3.ff).mono g4.ff
  replace n3 := n3.mono g4.ff
  have G := ((g1.trans g2).trans g3).trans g4
  cases n1 with
  | tup ha1 ra1 =>
  cases n2 with
  | tup ha2 ra2 =>
  cases n3 with
  | tup ha3 ra3 =>
  cases n4 with
  | tup ha4 ra4 =>
  obtain ⟨m2, m3, m4⟩ := zip4_lens hr
  rw [← ra2.length, ← ra1.length] at m2
  rw [← ra3.length, ← ra1.length] at m3
  rw [← ra4.length, ← ra1.length] at m4
  refine ⟨_, _, _, _, _, _, _, _, rfl, tF_sq (g4.fh _ _ ha1), tF_sq (g4.fh _ _ ha2), tF_sq (g4.fh _ _ ha3), tF_sq (g4.fh _ _ ha4), k _ F4 H4 G ?_⟩
  refine ⟨fun i H hi s => ?_, fun H s => ?_, fun i H v H' hi s y => ?_⟩
  · rw [z1, ← ra1.length] at hi
    exact ⟨_, _, _, _, _, _, _, _, tF_sq (s _ _ ha1), tF_sq (s _ _ ha2), tF_sq (s _ _ ha3), tF_sq (s _ _ ha4), List.getElem?_eq_getElem hi, List.getElem?_eq_getElem (m2 ▸ hi), List.getElem?_eq_getElem (m3 ▸ hi), List.getElem?_eq_getElem (m4 ▸ hi)⟩
  · exact ⟨_, tF_sq (s _ _ ha1), by rw [z1, ra1.length]⟩
  · obtain ⟨T, x1, x2, x3, x4, rfl, hT, rfl, y1, y2, y3, y4⟩ := y
    obtain ⟨d1, e1, dn1⟩ := ra1.at' (y1 _ (tF_sq (s _ _ ha1)))
    obtain ⟨d2, e2, dn2⟩ := ra2.at' (y2 _ (tF_sq (s _ _ ha2)))
    obtain ⟨d3, e3, dn3⟩ := ra3.at' (y3 _ (tF_sq (s _ _ ha3)))
    obtain ⟨d4, e4, dn4⟩ := ra4.at' (y4 _ (tF_sq (s _ _ ha4)))
    refine ⟨_, F4, z2 i _ _ _ _ e1 e2 e3 e4, fun es ee => ?_, Grow.more s hT⟩
    cases ee
    exact ⟨T, _, rfl, .inl (.inl upd_same), .cons dn1 (.cons dn2 (.cons dn3 (.cons dn4 .nil)))⟩
theorem jg_4 {i1 i2 i3 i4 : Nat} {x1 x2 x3 x4 : Str} {p1 p2 p3 p4 : Pos} (hc : X.calm = true) (hN : X.N.Nodup) (hi1 : X.N[i1]? = some x1) (hx1 : Loc X.env.scope x1) (hi2 : X.N[i2]? = some x2) (hx2 : Loc X.env.scope x2) (hi3 : X.N[i3]? = some x3) (hx3 : Loc X.env.scope x3) (hi4 : X.N[i4]? = some x4) (hx4 : Loc X.env.scope x4)
    (hf1 : X.fn x1 = true ∨ X.env.scope.names.lookup x1 = some .local := by first | exact .inl rfl | exact .inr rfl | assumption) (hf2 : X.fn x2 = true ∨ X.env.scope.names.lookup x2 = some .local := by first | exact .inl rfl | exact .inr rfl | assumption)
    (hf3 : X.fn x3 = true ∨ X.env.scope.names.lookup x3 = some .local := by first | exact .inl rfl | exact .inr rfl | assumption) (hf4 : X.fn x4 = true ∨ X.env.scope.names.lookup x4 = some .local := by first | exact .inl rfl | exact .inr rfl | assumption) :
    JG X (roT X.prog X.w X.K) (.Tuple [.Name x1 p1, .Name x2 p2, .Name x3 p3, .Name x4 p4] kk pos) (b4 i1 i2 i3 i4) [i1, i2, i3, i4] := by
  refine ⟨PG.imp (pg_tup (n := 4) hc (pgs_cons (pg_name hN hi1 hx1 hf1) (pgs_cons (pg_name hN hi2 hx2 hf2) (pgs_cons (pg_name hN hi3 hx3 hf3) (pgs_cons (pg_name hN hi4 hx4 hf4) pgs_nil))))) ?_⟩
  rintro v σ H Q ⟨F0, H0, F, env, d, env', R, hd, hb, k⟩
  obtain ⟨ds, h1, hb⟩ := bd_some hb
  have e1 := toTp_some h1
  subst e1
  obtain ⟨a, xs, rfl, hs, r⟩ := hd ds rfl
  cases r with
  | nil => cases hb
  | cons r1 s1 =>
  cases s1 with
  | nil => cases hb
  | cons r2 s2 =>
  cases s2 with
  | nil => cases hb
  | cons r3 s3 =>
  cases s3 with
  | nil => cases hb
  | cons r4 s4 =>
  cases s4 with
  | cons _ _ => cases hb
  | nil =>
    cases hb
    rename_i v1 d1 v2 d2 v3 d3 v4 d4
    exact ⟨a, _, rfl, hs, rfl, _, _, rfl, _, _, rfl, _, _, rfl, _, _, rfl, rfl, k [(i1, v1, d1), (i2, v2, d2), (i3, v3, d3), (i4, v4, d4)] (fun u hu => by
      rcases List.mem_cons.mp hu with rfl | hu
      · exact ⟨by simp, r1⟩
      rcases List.mem_cons.mp hu with rfl | hu
      · exact ⟨by simp, r2⟩
      rcases List.mem_cons.mp hu with rfl | hu
      · exact ⟨by simp, r3⟩
      rw [List.mem_singleton.mp hu]
      exact ⟨by simp, r4⟩) (by rw [put_eq, put_eq, put_eq, put_eq]; rfl)⟩
end
end K67
set_option Elab.async false
set_option linter.all false
set_option maxRecDepth 100000
set_option maxHeartbeats 4000000
namespace K67
open PySem PySem.Spec PyProof.Rows L2
variable [TabA]
abbrev N_places : List PySem.Str := ["n", "o", "a", "b"]
theorem sc_places : FnScope N_places ["n"] (defScope s_places) := ⟨rfl, rfl, rfl, by decide +kernel, rfl, by decide +kernel, by decide +kernel⟩
noncomputable def r_places : RS := (sRet (eLc3 (iRng1 (eVar 0)) (b1 1) (rbLvl (iRng1 (eVar 0)) (b1 2) (rbLvl (iRng1 (eVar 0)) (b1 3) (rbIn (eTup (aCons (eVar 1) (aCons (eVar 2) (aCons (eVar 3) aNil))))) [3]) [2, 3]) [1, 2, 3]))
noncomputable def rf_places : List PyData → Option PyData := rfOf 3 r_places
theorem fn_places {P : Program} {w : World} {K : PySem.W.Frag} {mg : Str → Option Value} {base : Heap} (M : Md K mg base) : FnAt P w K mg base "places" 1 1 rf_places := by
  obtain ⟨fd, F⟩ := M.c.def_ 7 (d := d_places) rfl
  refine fn_mk F (M.glo 7 rfl) sc_places rfl rfl (fun _ _ _ _ _ _ us hl => match us, hl with | [_], _ => rfl) fun cdv A outer s0 H E hr => ?_
  exact (jss_one (js_ret (je_lc3 (own := [("o", 1), ("a", 2), ("b", 3)]) (vs1 := [2, 3]) (vs2 := [3]) rfl sc_places.nd roD_mono roD_mono roD_mono (ji_rng1 (by rfl) (Md.b_range M) (je_var 0)) (blkOk_by (own := [("o", 1), ("a", 2), ("b", 3)]) (N := N_places) (sc := defScope s_places) (by decide +kernel)) (by decide) (by decide) (fun _ _ _ _ _ => (jg_name (i := 1) sc_places.nd rfl (by first | exact Or.inl rfl | exact Or.inr rfl))) (fun _ _ _ _ _ => (ji_rng1 (by rfl) (Md.b_range M) (je_var 0))) (fun _ _ _ _ _ => (jg_name (i := 2) sc_places.nd rfl (by first | exact Or.inl rfl | exact Or.inr rfl))) (fun _ _ _ _ _ => (ji_rng1 (by rfl) (Md.b_range M) (je_var 0))) (fun _ _ _ _ _ => (jg_name (i := 3) sc_places.nd rfl (by first | exact Or.inl rfl | exact Or.inr rfl))) (fun _ _ _ _ _ => (je_tup (ja_cons (je_var 1) (ja_cons (je_var 2) (ja_cons (je_var 3) ja_nil))))) (by decide) (by decide) (by decide))))
abbrev N_wrong_place : List PySem.Str := ["thing", "place", "entry"]
theorem sc_wrong_place : FnScope N_wrong_place ["thing"] (defScope s_wrong_place) := ⟨rfl, rfl, rfl, by decide +kernel, rfl, by decide +kernel, by decide +kernel⟩
noncomputable def r_wrong_place : RS := (sSeq (sFor (iSeq (eCall rf_places (aCons (eCall (l1 dLen) (aCons (eVar 0) aNil)) aNil))) (b1 1) (sSeq (sSet 2 (eCall rf_at (aCons (eVar 0) (aCons (eVar 1) aNil)))) (sIf (rAnd (tB (e2 dNotN (eVar 2) (eC .none))) (rNot (tB (eCall rf_is_below (aCons (eVar 2) (aCons (eCall (l1 dLen) (aCons (eVar 0) aNil)) aNil)))))) (sRet (eVar 1)) sNx))) (sRet (eC .none)))
noncomputable def rf_wrong_place : List PyData → Option PyData := rfOf 2 r_wrong_place
theorem fn_wrong_place {P : Program} {w : World} {K : PySem.W.Frag} {mg : Str → Option Value} {base : Heap} (M : Md K mg base) : FnAt P w K mg base "wrong_place" 4 1 rf_wrong_place := by
  obtain ⟨fd, F⟩ := M.c.def_ 9 (d := d_wrong_place) rfl
  refine fn_mk F (M.glo 9 rfl) sc_wrong_place rfl rfl (fun _ _ _ _ _ _ us hl => match us, hl with | [_], _ => rfl) fun cdv A outer s0 H E hr => ?_
  exact (jss_cons (js_for PassesOwn.never rfl roD_mono (ji_seq (je_fn (fn_places M) (hr.mono (by decide)) (by rfl) (ja_cons (je_callB call_len_seq ok_len (by rfl) (Md.b_len M) bt_len (ja_cons (je_var 0) ja_nil)) ja_nil))) (jg_name (i := 1) sc_wrong_place.nd rfl (by first | exact Or.inl rfl | exact Or.inr rfl)) (jss_cons (js_set (i := 2) sc_wrong_place.nd rfl (by first | exact Or.inl rfl | exact Or.inr rfl) (je_fn (fn_at M) (hr.mono (by decide)) (by rfl) (ja_cons (je_var 0) (ja_cons (je_var 1) ja_nil)))) (jss_one (js_if (PW.pt (jw_and (jt_cmp op_notN ok_notN (je_var 2) je_non (nomark _)) (jw_1 (jt_not (jt_val (je_fn (fn_is_below M) (hr.mono (by decide)) (by rfl) (ja_cons (je_var 2) (ja_cons (je_callB call_len_seq ok_len (by rfl) (Md.b_len M) bt_len (ja_cons (je_var 0) ja_nil)) ja_nil)))))))) (jss_one (js_ret (je_var 1))) jss_nil)))) (jss_one (js_ret je_non)))
abbrev N_made_table : List PySem.Str := ["thing", "place"]
theorem sc_made_table : FnScope N_made_table ["thing"] (defScope s_made_table) := ⟨rfl, rfl, rfl, by decide +kernel, rfl, by decide +kernel, by decide +kernel⟩
noncomputable def r_made_table : RS := (sSeq (sIf (rNot (tB (eCall rf_is_cube (aCons (eVar 0) aNil)))) sNever sNx) (sSeq (sSet 1 (eCall rf_wrong_place (aCons (eVar 0) aNil))) (sSeq (sIf (tB (e2 dNotN (eVar 1) (eC .none))) sNever sNx) (sRet (eVar 0)))))
noncomputable def rf_made_table : List PyData → Option PyData := rfOf 1 r_made_table
theorem fn_made_table {P : Program} {w : World} {K : PySem.W.Frag} {mg : Str → Option Value} {base : Heap} (M : Md K mg base) : FnAt P w K mg base "made_table" 5 1 rf_made_table := by
  obtain ⟨fd, F⟩ := M.c.def_ 10 (d := d_made_table) rfl
  refine fn_mk F (M.glo 10 rfl) sc_made_table rfl rfl (fun _ _ _ _ _ _ us hl => match us, hl with | [_], _ => rfl) fun cdv A outer s0 H E hr => ?_
  exact (jss_cons (js_if (jt_not (jt_val (je_fn (fn_is_cube M) (hr.mono (by decide)) (by rfl) (ja_cons (je_var 0) ja_nil)))) (jss_one js_never) jss_nil) (jss_cons (js_set (i := 1) sc_made_table.nd rfl (by first | exact Or.inl rfl | exact Or.inr rfl) (je_fn (fn_wrong_place M) (hr.mono (by decide)) (by rfl) (ja_cons (je_var 0) ja_nil))) (jss_cons (js_if (jt_cmp op_notN ok_notN (je_var 1) je_non (nomark _)) (jss_one js_never) jss_nil) (jss_one (js_ret (je_var 0))))))
abbrev N_first_gap_of : List PySem.Str := ["table", "place"]
theorem sc_first_gap_of : FnScope N_first_gap_of ["table"] (defScope s_first_gap_of) := ⟨rfl, rfl, rfl, by decide +kernel, rfl, by decide +kernel, by decide +kernel⟩
noncomputable def r_first_gap_of : RS := (sSeq (sFor (iSeq (eCall rf_places (aCons (eCall (l1 dLen) (aCons (eVar 0) aNil)) aNil))) (b1 1) (sIf (tB (e2 dIsN (eCall rf_at (aCons (eVar 0) (aCons (eVar 1) aNil))) (eC .none))) (sRet (eVar 1)) sNx)) (sRet (eC .none)))
noncomputable def rf_first_gap_of : List PyData → Option PyData := rfOf 1 r_first_gap_of
theorem fn_first_gap_of {P : Program} {w : World} {K : PySem.W.Frag} {mg : Str → Option Value} {base : Heap} (M : Md K mg base) : FnAt P w K mg base "first_gap_of" 2 1 rf_first_gap_of := by
  obtain ⟨fd, F⟩ := M.c.def_ 11 (d := d_first_gap_of) rfl
  refine fn_mk F (M.glo 11 rfl) sc_first_gap_of rfl rfl (fun _ _ _ _ _ _ us hl => match us, hl with | [_], _ => rfl) fun cdv A outer s0 H E hr => ?_
  exact (jss_cons (js_for PassesOwn.never rfl roD_mono (ji_seq (je_fn (fn_places M) (hr.mono (by decide)) (by rfl) (ja_cons (je_callB call_len_seq ok_len (by rfl) (Md.b_len M) bt_len (ja_cons (je_var 0) ja_nil)) ja_nil))) (jg_name (i := 1) sc_first_gap_of.nd rfl (by first | exact Or.inl rfl | exact Or.inr rfl)) (jss_one (js_if (jt_cmp op_isN ok_isN (je_fn (fn_at M) (hr.mono (by decide)) (by rfl) (ja_cons (je_var 0) (ja_cons (je_var 1) ja_nil))) je_non (nomark _)) (jss_one (js_ret (je_var 1))) jss_nil))) (jss_one (js_ret je_non)))
abbrev N_carried : List PySem.Str := ["clocks", "o", "a", "b", "clock", "base", "one", "two"]
theorem sc_carried : FnScope N_carried ["clocks", "o", "a", "b"] (defScope s_carried) := ⟨rfl, rfl, rfl, by decide +kernel, rfl, by decide +kernel, by decide +kernel⟩
noncomputable def r_carried : RS := (sRet (eCall (l1 dTuple) (aCons (eLc (iZip4 (eVar 0) (eVar 1) (eVar 2) (eVar 3)) (b4 4 5 6 7) rYes (e2 dMod (e2 dAdd (e2 dSub (eVar 6) (eVar 5)) (eVar 7)) (eVar 4)) [4, 5, 6, 7]) aNil)))
noncomputable def rf_carried : List PyData → Option PyData := rfOf 4 r_carried
theorem fn_carried {P : Program} {w : World} {K : PySem.W.Frag} {mg : Str → Option Value} {base : Heap} (M : Md K mg base) : FnAt P w K mg base "carried" 1 4 rf_carried := by
  obtain ⟨fd, F⟩ := M.c.def_ 21 (d := d_carried) rfl
  refine fn_mk F (M.glo 21 rfl) sc_carried rfl rfl (fun _ _ _ _ _ _ us hl => match us, hl with | [_, _, _, _], _ => rfl) fun cdv A outer s0 H E hr => ?_
  exact (jss_one (js_ret (je_callTy call_tupleF ok_tuple (by rfl) (Md.b_tuple M) bt_tuple (ja_cons (je_lc (own := [("clock", 4), ("base", 5), ("one", 6), ("two", 7)]) rfl sc_carried.nd roT_mono (ji_zip4 (by rfl) (Md.b_zip M) (je_var 0) (je_var 1) (je_var 2) (je_var 3)) (blkOk_by (own := [("clock", 4), ("base", 5), ("one", 6), ("two", 7)]) (N := N_carried) (sc := defScope s_carried) (by decide +kernel)) (fun _ _ _ _ _ => (jg_4 (i1 := 4) (i2 := 5) (i3 := 6) (i4 := 7) rfl sc_carried.nd rfl (by first | exact Or.inl rfl | exact Or.inr rfl) rfl (by first | exact Or.inl rfl | exact Or.inr rfl) rfl (by first | exact Or.inl rfl | exact Or.inr rfl) rfl (by first | exact Or.inl rfl | exact Or.inr rfl))) (fun _ _ _ _ _ => jts_nil) (fun _ _ _ _ _ => (je_bin op_mod ok_mod (je_bin opr_add ok_add (je_bin op_sub ok_sub (je_var 6) (je_var 5)) (je_var 7)) (je_var 4))) (by decide)) ja_nil))))
abbrev N_made_clocks : List PySem.Str := ["thing", "ahead", "index", "clock", "rank"]
theorem sc_made_clocks : FnScope N_made_clocks ["thing"] (defScope s_made_clocks) := ⟨rfl, rfl, rfl, by decide +kernel, rfl, by decide +kernel, by decide +kernel⟩
noncomputable def r_made_clocks : RS := (sSeq (sIf (rNot (tB (e1 (isI false false false false false true) (eVar 0)))) sNever sNx) (sSeq (sSet 1 (eTup aNil)) (sSeq (sFor (iEnum (eVar 0)) (b2 2 3) (sSeq (sSet 4 (eIf (tB (eCall rf_is_power (aCons (eVar 3) aNil))) (eTup (aCons (e2 dIx (e2 dIx (eCall rf_powers_of (aCons (eVar 3) aNil)) (eC (.int (.ofNat 0)))) (eC (.int (.ofNat 0)))) (aCons (eVar 3) aNil))) (eTup aNil))) (sSeq (sIf (rOr (tB (e2 dEq (eVar 4) (eTup aNil))) (tB (e2 dLt (eVar 4) (eVar 1)))) sNever sNx) (sSet 1 (eVar 4))))) (sRet (eVar 0)))))
noncomputable def rf_made_clocks : List PyData → Option PyData := rfOf 4 r_made_clocks
theorem fn_made_clocks {P : Program} {w : World} {K : PySem.W.Frag} {mg : Str → Option Value} {base : Heap} (M : Md K mg base) : FnAt P w K mg base "made_clocks" 4 1 rf_made_clocks := by
  obtain ⟨fd, F⟩ := M.c.def_ 14 (d := d_made_clocks) rfl
  refine fn_mk F (M.glo 14 rfl) sc_made_clocks rfl rfl (fun _ _ _ _ _ _ us hl => match us, hl with | [_], _ => rfl) fun cdv A outer s0 H E hr => ?_
  exact (jss_cons (js_if (jt_not (jt_val (je_isI (je_var 0) (by rfl) (Md.b_isinstance M) (by rfl) (Md.b_tuple M) bt_tuple rfl rfl rfl rfl rfl rfl))) (jss_one js_never) jss_nil) (jss_cons (js_set (i := 1) sc_made_clocks.nd rfl (by first | exact Or.inl rfl | exact Or.inr rfl) (je_tup ja_nil)) (jss_cons (js_for PassesOwn.never rfl roT_mono (ji_enum (by rfl) (Md.b_enumerate M) (je_var 0)) (jg_2 (i := 2) (j := 3) rfl sc_made_clocks.nd rfl (by first | exact Or.inl rfl | exact Or.inr rfl) rfl (by first | exact Or.inl rfl | exact Or.inr rfl)) (jss_cons (js_set (i := 4) sc_made_clocks.nd rfl (by first | exact Or.inl rfl | exact Or.inr rfl) (je_if (jt_val (je_fn (fn_is_power M) (hr.mono (by decide)) (by rfl) (ja_cons (je_var 3) ja_nil))) (je_tup (ja_cons (je_ix (ix_list.or ix_tup) ok_ix (je_ix (ix_list.or ix_tup) ok_ix (je_fn (fn_powers_of M) (hr.mono (by decide)) (by rfl) (ja_cons (je_var 3) ja_nil)) je_int (fun _ _ => rfl)) je_int (fun _ _ => rfl)) (ja_cons (je_var 3) ja_nil))) (je_tup ja_nil))) (jss_cons (js_if (PW.pt (jw_or (jt_cmp (op_eqD hr.units) ok_eq (je_var 4) (je_tup ja_nil) (nomark _)) (jw_1 (jt_cmp (op_lt.or (op_ltT hr.units0)) ok_lt (je_var 4) (je_var 1) (nomark _))))) (jss_one js_never) jss_nil) (jss_one (js_set (i := 1) sc_made_clocks.nd rfl (by first | exact Or.inl rfl | exact Or.inr rfl) (je_var 4)))))) (jss_one (js_ret (je_var 0))))))
abbrev N_turnings_of : List PySem.Str := ["p", "sizes", "many", "found", "k", "e", "behind"]
theorem sc_turnings_of : FnScope N_turnings_of ["p", "sizes"] (defScope s_turnings_of) := ⟨rfl, rfl, rfl, by decide +kernel, rfl, by decide +kernel, by decide +kernel⟩
noncomputable def r_turnings_of : RS := (sSeq (sSet 2 (eCall (l1 dLen) (aCons (eVar 1) aNil))) (sSeq (sSet 3 (eC (.int (.ofNat 1)))) (sSeq (sFor (iEnum (eVar 1)) (b2 4 5) (sSeq (sSet 6 (e2 dSub (eVar 2) (e2 (dIdx toLs) (e1 dRev (eVar 1)) (eVar 5)))) (sSeq (sSet 3 (e2 dMul (eVar 3) (e2 dSub (eCall rf_to_power (aCons (eVar 0) (aCons (eVar 6) aNil))) (eCall rf_to_power (aCons (eVar 0) (aCons (eVar 4) aNil)))))) (sSeq (sSet 3 (e2 dMul (eVar 3) (eCall rf_to_power (aCons (eVar 0) (aCons (e2 dMul (eVar 5) (e2 dSub (eVar 2) (eVar 6))) aNil))))) (sSet 3 (e2 dMul (eVar 3) (eCall rf_to_power (aCons (eVar 0) (aCons (e2 dMul (e2 dSub (eVar 5) (eC (.int (.ofNat 1)))) (e2 dSub (eVar 2) (e2 (dIdx toLs) (eVar 1) (eVar 5)))) aNil))))))))) (sRet (eVar 3)))))
noncomputable def rf_turnings_of : List PyData → Option PyData := rfOf 5 r_turnings_of
theorem fn_turnings_of {P : Program} {w : World} {K : PySem.W.Frag} {mg : Str → Option Value} {base : Heap} (M : Md K mg base) : FnAt P w K mg base "turnings_of" 2 2 rf_turnings_of := by
  obtain ⟨fd, F⟩ := M.c.def_ 24 (d := d_turnings_of) rfl
  refine fn_mk F (M.glo 24 rfl) sc_turnings_of rfl rfl (fun _ _ _ _ _ _ us hl => match us, hl with | [_, _], _ => rfl) fun cdv A outer s0 H E hr => ?_
  exact (jss_cons (js_set (i := 2) sc_turnings_of.nd rfl (by first | exact Or.inl rfl | exact Or.inr rfl) (je_callB call_len_seq ok_len (by rfl) (Md.b_len M) bt_len (ja_cons (je_var 1) ja_nil))) (jss_cons (js_set (i := 3) sc_turnings_of.nd rfl (by first | exact Or.inl rfl | exact Or.inr rfl) je_int) (jss_cons (js_for PassesOwn.never rfl roT_mono (ji_enum (by rfl) (Md.b_enumerate M) (je_var 1)) (jg_2 (i := 4) (j := 5) rfl sc_turnings_of.nd rfl (by first | exact Or.inl rfl | exact Or.inr rfl) rfl (by first | exact Or.inl rfl | exact Or.inr rfl)) (jss_cons (js_set (i := 6) sc_turnings_of.nd rfl (by first | exact Or.inl rfl | exact Or.inr rfl) (je_bin op_sub ok_sub (je_var 2) (je_index (je_rev (je_var 1)) (je_var 5)))) (jss_cons (js_set (i := 3) sc_turnings_of.nd rfl (by first | exact Or.inl rfl | exact Or.inr rfl) (je_bin opr_mul ok_mul (je_var 3) (je_bin op_sub ok_sub (je_fn (fn_to_power M) (hr.mono (by decide)) (by rfl) (ja_cons (je_var 0) (ja_cons (je_var 6) ja_nil))) (je_fn (fn_to_power M) (hr.mono (by decide)) (by rfl) (ja_cons (je_var 0) (ja_cons (je_var 4) ja_nil)))))) (jss_cons (js_set (i := 3) sc_turnings_of.nd rfl (by first | exact Or.inl rfl | exact Or.inr rfl) (je_bin opr_mul ok_mul (je_var 3) (je_fn (fn_to_power M) (hr.mono (by decide)) (by rfl) (ja_cons (je_var 0) (ja_cons (je_bin opr_mul ok_mul (je_var 5) (je_bin op_sub ok_sub (je_var 2) (je_var 6))) ja_nil))))) (jss_one (js_set (i := 3) sc_turnings_of.nd rfl (by first | exact Or.inl rfl | exact Or.inr rfl) (je_bin opr_mul ok_mul (je_var 3) (je_fn (fn_to_power M) (hr.mono (by decide)) (by rfl) (ja_cons (je_var 0) (ja_cons (je_bin opr_mul ok_mul (je_bin op_sub ok_sub (je_var 5) je_int) (je_bin op_sub ok_sub (je_var 2) (je_index (je_var 1) (je_var 5)))) ja_nil)))))))))) (jss_one (js_ret (je_var 3))))))
abbrev N_full_table : List PySem.Str := ["thing", "table", "gap"]
theorem sc_full_table : FnScope N_full_table ["thing"] (defScope s_full_table) := ⟨rfl, rfl, rfl, by decide +kernel, rfl, by decide +kernel, by decide +kernel⟩
noncomputable def r_full_table : RS := (sSeq (sSet 1 (eCall rf_made_table (aCons (eVar 0) aNil))) (sSeq (sSet 2 (eCall rf_first_gap_of (aCons (eVar 1) aNil))) (sSeq (sIf (tB (e2 dNotN (eVar 2) (eC .none))) sNever sNx) (sRet (eVar 1)))))
noncomputable def rf_full_table : List PyData → Option PyData := rfOf 2 r_full_table
theorem fn_full_table {P : Program} {w : World} {K : PySem.W.Frag} {mg : Str → Option Value} {base : Heap} (M : Md K mg base) : FnAt P w K mg base "full_table" 6 1 rf_full_table := by
  obtain ⟨fd, F⟩ := M.c.def_ 28 (d := d_full_table) rfl
  refine fn_mk F (M.glo 28 rfl) sc_full_table rfl rfl (fun _ _ _ _ _ _ us hl => match us, hl with | [_], _ => rfl) fun cdv A outer s0 H E hr => ?_
  exact (jss_cons (js_set (i := 1) sc_full_table.nd rfl (by first | exact Or.inl rfl | exact Or.inr rfl) (je_fn (fn_made_table M) (hr.mono (by decide)) (by rfl) (ja_cons (je_var 0) ja_nil))) (jss_cons (js_set (i := 2) sc_full_table.nd rfl (by first | exact Or.inl rfl | exact Or.inr rfl) (je_fn (fn_first_gap_of M) (hr.mono (by decide)) (by rfl) (ja_cons (je_var 1) ja_nil))) (jss_cons (js_if (jt_cmp op_notN ok_notN (je_var 2) je_non (nomark _)) (jss_one js_never) jss_nil) (jss_one (js_ret (je_var 1))))))
abbrev N_not_still : List PySem.Str := ["table", "o", "sides", "a", "row"]
theorem sc_not_still : FnScope N_not_still ["table"] (defScope s_not_still) := ⟨rfl, rfl, rfl, by decide +kernel, rfl, by decide +kernel, by decide +kernel⟩
noncomputable def r_not_still : RS := (sSeq (sFor (iEnum (eVar 0)) (b2 1 2) (sFor (iEnum (eVar 2)) (b2 3 4) (sIf (rOr (tB (e2 dNe (e2 dIx (eVar 4) (eVar 1)) (eVar 3))) (tB (e2 dNe (e2 dIx (e2 dIx (eVar 2) (eVar 1)) (eVar 3)) (eVar 3)))) (sRet (eTup (aCons (eC (.str "still")) (aCons (eVar 1) (aCons (eVar 3) aNil))))) sNx))) (sRet (eC .none)))
noncomputable def rf_not_still : List PyData → Option PyData := rfOf 4 r_not_still
theorem fn_not_still {P : Program} {w : World} {K : PySem.W.Frag} {mg : Str → Option Value} {base : Heap} (M : Md K mg base) : FnAt P w K mg base "not_still" 1 1 rf_not_still := by
  obtain ⟨fd, F⟩ := M.c.def_ 29 (d := d_not_still) rfl
  refine fn_mk F (M.glo 29 rfl) sc_not_still rfl rfl (fun _ _ _ _ _ _ us hl => match us, hl with | [_], _ => rfl) fun cdv A outer s0 H E hr => ?_
  exact (jss_cons (js_for PassesOwn.never rfl roT_mono (ji_enum (by rfl) (Md.b_enumerate M) (je_var 0)) (jg_2 (i := 1) (j := 2) rfl sc_not_still.nd rfl (by first | exact Or.inl rfl | exact Or.inr rfl) rfl (by first | exact Or.inl rfl | exact Or.inr rfl)) (jss_one (js_for PassesOwn.never rfl roT_mono (ji_enum (by rfl) (Md.b_enumerate M) (je_var 2)) (jg_2 (i := 3) (j := 4) rfl sc_not_still.nd rfl (by first | exact Or.inl rfl | exact Or.inr rfl) rfl (by first | exact Or.inl rfl | exact Or.inr rfl)) (jss_one (js_if (PW.pt (jw_or (jt_cmp (op_neD hr.units) ok_ne (je_ix (ix_list.or ix_tup) ok_ix (je_var 4) (je_var 1) (fun _ _ => rfl)) (je_var 3) (nomark _)) (jw_1 (jt_cmp (op_neD hr.units) ok_ne (je_ix (ix_list.or ix_tup) ok_ix (je_ix (ix_list.or ix_tup) ok_ix (je_var 2) (je_var 1) (fun _ _ => rfl)) (je_var 3) (fun _ _ => rfl)) (je_var 3) (nomark _))))) (jss_one (js_ret (je_tup (ja_cons je_str (ja_cons (je_var 1) (ja_cons (je_var 3) ja_nil)))))) jss_nil))))) (jss_one (js_ret je_non)))
abbrev N_not_turned : List PySem.Str := ["table", "o", "sides", "a", "row", "b"]
theorem sc_not_turned : FnScope N_not_turned ["table"] (defScope s_not_turned) := ⟨rfl, rfl, rfl, by decide +kernel, rfl, by decide +kernel, by decide +kernel⟩
noncomputable def r_not_turned : RS := (sSeq (sFor (iEnum (eVar 0)) (b2 1 2) (sFor (iEnum (eVar 2)) (b2 3 4) (sFor (iRng1 (eVar 3)) (b1 5) (sIf (tB (e2 dNe (e2 dIx (eVar 4) (eVar 5)) (e2 dIx (e2 dIx (eVar 2) (eVar 5)) (eVar 3)))) (sRet (eTup (aCons (eC (.str "turned")) (aCons (eVar 1) (aCons (eVar 3) (aCons (eVar 5) aNil)))))) sNx)))) (sRet (eC .none)))
noncomputable def rf_not_turned : List PyData → Option PyData := rfOf 5 r_not_turned
theorem fn_not_turned {P : Program} {w : World} {K : PySem.W.Frag} {mg : Str → Option Value} {base : Heap} (M : Md K mg base) : FnAt P w K mg base "not_turned" 1 1 rf_not_turned := by
  obtain ⟨fd, F⟩ := M.c.def_ 30 (d := d_not_turned) rfl
  refine fn_mk F (M.glo 30 rfl) sc_not_turned rfl rfl (fun _ _ _ _ _ _ us hl => match us, hl with | [_], _ => rfl) fun cdv A outer s0 H E hr => ?_
  exact (jss_cons (js_for PassesOwn.never rfl roT_mono (ji_enum (by rfl) (Md.b_enumerate M) (je_var 0)) (jg_2 (i := 1) (j := 2) rfl sc_not_turned.nd rfl (by first | exact Or.inl rfl | exact Or.inr rfl) rfl (by first | exact Or.inl rfl | exact Or.inr rfl)) (jss_one (js_for PassesOwn.never rfl roT_mono (ji_enum (by rfl) (Md.b_enumerate M) (je_var 2)) (jg_2 (i := 3) (j := 4) rfl sc_not_turned.nd rfl (by first | exact Or.inl rfl | exact Or.inr rfl) rfl (by first | exact Or.inl rfl | exact Or.inr rfl)) (jss_one (js_for PassesOwn.never rfl roD_mono (ji_rng1 (by rfl) (Md.b_range M) (je_var 3)) (jg_name (i := 5) sc_not_turned.nd rfl (by first | exact Or.inl rfl | exact Or.inr rfl)) (jss_one (js_if (jt_cmp (op_neD hr.units) ok_ne (je_ix (ix_list.or ix_tup) ok_ix (je_var 4) (je_var 5) (fun _ _ => rfl)) (je_ix (ix_list.or ix_tup) ok_ix (je_ix (ix_list.or ix_tup) ok_ix (je_var 2) (je_var 5) (fun _ _ => rfl)) (je_var 3) (fun _ _ => rfl)) (nomark _)) (jss_one (js_ret (je_tup (ja_cons je_str (ja_cons (je_var 1) (ja_cons (je_var 3) (ja_cons (je_var 5) ja_nil))))))) jss_nil))))))) (jss_one (js_ret je_non)))
abbrev N_late_from : List PySem.Str := ["table", "o", "a", "b", "early", "wrong", "c"]
theorem sc_late_from : FnScope N_late_from ["table", "o", "a"] (defScope s_late_from) := ⟨rfl, rfl, rfl, by decide +kernel, rfl, by decide +kernel, by decide +kernel⟩
noncomputable def r_late_from : RS := (sSeq (sFor (iEnum (e2 dIx (e2 dIx (eVar 0) (eVar 1)) (eVar 2))) (b2 3 4) (sSeq (sSet 5 (eLc (iRng1 (eCall (l1 dLen) (aCons (eVar 0) aNil))) (b1 6) (tB (e2 dNe (e2 dIx (e2 dIx (e2 dIx (eVar 0) (eVar 2)) (eVar 6)) (eVar 4)) (e2 dIx (e2 dIx (e2 dIx (eVar 0) (eVar 1)) (eVar 6)) (eVar 3)))) (eVar 6) [6])) (sIf (tB (e2 dNe (eVar 5) (eLst aNil))) (sRet (eTup (aCons (eC (.str "late")) (aCons (eVar 1) (aCons (eVar 2) (aCons (eVar 3) (aCons (e2 dIx (eVar 5) (eC (.int (.ofNat 0)))) aNil))))))) sNx))) (sRet (eC .none)))
noncomputable def rf_late_from : List PyData → Option PyData := rfOf 4 r_late_from
theorem fn_late_from {P : Program} {w : World} {K : PySem.W.Frag} {mg : Str → Option Value} {base : Heap} (M : Md K mg base) : FnAt P w K mg base "late_from" 1 3 rf_late_from := by
  obtain ⟨fd, F⟩ := M.c.def_ 31 (d := d_late_from) rfl
  refine fn_mk F (M.glo 31 rfl) sc_late_from rfl rfl (fun _ _ _ _ _ _ us hl => match us, hl with | [_, _, _], _ => rfl) fun cdv A outer s0 H E hr => ?_
  exact (jss_cons (js_for PassesOwn.never rfl roT_mono (ji_enum (by rfl) (Md.b_enumerate M) (je_ix (ix_list.or ix_tup) ok_ix (je_ix (ix_list.or ix_tup) ok_ix (je_var 0) (je_var 1) (fun _ _ => rfl)) (je_var 2) (fun _ _ => rfl))) (jg_2 (i := 3) (j := 4) rfl sc_late_from.nd rfl (by first | exact Or.inl rfl | exact Or.inr rfl) rfl (by first | exact Or.inl rfl | exact Or.inr rfl)) (jss_cons (js_setLc (own := [("c", 6)]) (i := 5) rfl sc_late_from.nd rfl rfl (sw_true rfl rfl rfl (by decide +kernel)) roD_mono (ji_rng1 (by rfl) (Md.b_range M) (je_callB call_len_seq ok_len (by rfl) (Md.b_len M) bt_len (ja_cons (je_var 0) ja_nil))) (blkOk_by (own := [("c", 6)]) (N := N_late_from) (sc := defScope s_late_from) (by decide +kernel)) (fun _ _ _ _ _ => (jg_name (i := 6) sc_late_from.nd rfl (by first | exact Or.inl rfl | exact Or.inr rfl))) (fun _ _ _ _ _ => (jts_one (jt_cmp (op_neD hr.units) ok_ne (je_ix (ix_list.or ix_tup) ok_ix (je_ix (ix_list.or ix_tup) ok_ix (je_ix (ix_list.or ix_tup) ok_ix (je_var 0) (je_var 2) (fun _ _ => rfl)) (je_var 6) (fun _ _ => rfl)) (je_var 4) (fun _ _ => rfl)) (je_ix (ix_list.or ix_tup) ok_ix (je_ix (ix_list.or ix_tup) ok_ix (je_ix (ix_list.or ix_tup) ok_ix (je_var 0) (je_var 1) (fun _ _ => rfl)) (je_var 6) (fun _ _ => rfl)) (je_var 3) (fun _ _ => rfl)) (nomark _)))) (fun _ _ _ _ _ => (je_var 6)) (by decide)) (jss_one (js_if (jt_cmp (op_neD hr.units) ok_ne (je_var 5) (je_lst ja_nil) (nomark _)) (jss_one (js_ret (je_tup (ja_cons je_str (ja_cons (je_var 1) (ja_cons (je_var 2) (ja_cons (je_var 3) (ja_cons (je_ix (ix_list.or ix_tup) ok_ix (je_var 5) je_int (fun _ _ => rfl)) ja_nil)))))))) jss_nil)))) (jss_one (js_ret je_non)))
abbrev N_not_late : List PySem.Str := ["table", "o", "a", "found"]
theorem sc_not_late : FnScope N_not_late ["table"] (defScope s_not_late) := ⟨rfl, rfl, rfl, by decide +kernel, rfl, by decide +kernel, by decide +kernel⟩
noncomputable def r_not_late : RS := (sSeq (sFor (iRng1 (eCall (l1 dLen) (aCons (eVar 0) aNil))) (b1 1) (sFor (iRng1 (eCall (l1 dLen) (aCons (eVar 0) aNil))) (b1 2) (sSeq (sSet 3 (eCall rf_late_from (aCons (eVar 0) (aCons (eVar 1) (aCons (eVar 2) aNil))))) (sIf (tB (e2 dNotN (eVar 3) (eC .none))) (sRet (eVar 3)) sNx)))) (sRet (eC .none)))
noncomputable def rf_not_late : List PyData → Option PyData := rfOf 3 r_not_late
theorem fn_not_late {P : Program} {w : World} {K : PySem.W.Frag} {mg : Str → Option Value} {base : Heap} (M : Md K mg base) : FnAt P w K mg base "not_late" 2 1 rf_not_late := by
  obtain ⟨fd, F⟩ := M.c.def_ 32 (d := d_not_late) rfl
  refine fn_mk F (M.glo 32 rfl) sc_not_late rfl rfl (fun _ _ _ _ _ _ us hl => match us, hl with | [_], _ => rfl) fun cdv A outer s0 H E hr => ?_
  exact (jss_cons (js_for PassesOwn.never rfl roD_mono (ji_rng1 (by rfl) (Md.b_range M) (je_callB call_len_seq ok_len (by rfl) (Md.b_len M) bt_len (ja_cons (je_var 0) ja_nil))) (jg_name (i := 1) sc_not_late.nd rfl (by first | exact Or.inl rfl | exact Or.inr rfl)) (jss_one (js_for PassesOwn.never rfl roD_mono (ji_rng1 (by rfl) (Md.b_range M) (je_callB call_len_seq ok_len (by rfl) (Md.b_len M) bt_len (ja_cons (je_var 0) ja_nil))) (jg_name (i := 2) sc_not_late.nd rfl (by first | exact Or.inl rfl | exact Or.inr rfl)) (jss_cons (js_set (i := 3) sc_not_late.nd rfl (by first | exact Or.inl rfl | exact Or.inr rfl) (je_fn (fn_late_from M) (hr.mono (by decide)) (by rfl) (ja_cons (je_var 0) (ja_cons (je_var 1) (ja_cons (je_var 2) ja_nil))))) (jss_one (js_if (jt_cmp op_notN ok_notN (je_var 3) je_non (nomark _)) (jss_one (js_ret (je_var 3))) jss_nil)))))) (jss_one (js_ret je_non)))
abbrev N_broken_in : List PySem.Str := ["table", "found"]
theorem sc_broken_in : FnScope N_broken_in ["table"] (defScope s_broken_in) := ⟨rfl, rfl, rfl, by decide +kernel, rfl, by decide +kernel, by decide +kernel⟩
noncomputable def r_broken_in : RS := (sSeq (sFor (iSeq (eTup (aCons (eCall rf_not_still (aCons (eVar 0) aNil)) (aCons (eCall rf_not_turned (aCons (eVar 0) aNil)) aNil)))) (b1 1) (sIf (tB (e2 dNotN (eVar 1) (eC .none))) (sRet (eVar 1)) sNx)) (sRet (eCall rf_not_late (aCons (eVar 0) aNil))))
noncomputable def rf_broken_in : List PyData → Option PyData := rfOf 1 r_broken_in
theorem fn_broken_in {P : Program} {w : World} {K : PySem.W.Frag} {mg : Str → Option Value} {base : Heap} (M : Md K mg base) : FnAt P w K mg base "broken_in" 3 1 rf_broken_in := by
  obtain ⟨fd, F⟩ := M.c.def_ 33 (d := d_broken_in) rfl
  refine fn_mk F (M.glo 33 rfl) sc_broken_in rfl rfl (fun _ _ _ _ _ _ us hl => match us, hl with | [_], _ => rfl) fun cdv A outer s0 H E hr => ?_
  exact (jss_cons (js_for PassesOwn.never rfl roD_mono (ji_seq (je_tup (ja_cons (je_fn (fn_not_still M) (hr.mono (by decide)) (by rfl) (ja_cons (je_var 0) ja_nil)) (ja_cons (je_fn (fn_not_turned M) (hr.mono (by decide)) (by rfl) (ja_cons (je_var 0) ja_nil)) ja_nil)))) (jg_name (i := 1) sc_broken_in.nd rfl (by first | exact Or.inl rfl | exact Or.inr rfl)) (jss_one (js_if (jt_cmp op_notN ok_notN (je_var 1) je_non (nomark _)) (jss_one (js_ret (je_var 1))) jss_nil))) (jss_one (js_ret (je_fn (fn_not_late M) (hr.mono (by decide)) (by rfl) (ja_cons (je_var 0) ja_nil)))))
abbrev N_order_proof : List PySem.Str := ["table"]
theorem sc_order_proof : FnScope N_order_proof ["table"] (defScope s_order_proof) := ⟨rfl, rfl, rfl, by decide +kernel, rfl, by decide +kernel, by decide +kernel⟩
noncomputable def r_order_proof : RS := (sSeq (sSet 0 (eCall rf_full_table (aCons (eVar 0) aNil))) (sRet (e2 dIsN (eCall rf_broken_in (aCons (eVar 0) aNil)) (eC .none))))
noncomputable def rf_order_proof : List PyData → Option PyData := rfOf 0 r_order_proof
theorem fn_order_proof {P : Program} {w : World} {K : PySem.W.Frag} {mg : Str → Option Value} {base : Heap} (M : Md K mg base) : FnAt P w K mg base "order_proof" 7 1 rf_order_proof := by
  obtain ⟨fd, F⟩ := M.c.def_ 34 (d := d_order_proof) rfl
  refine fn_mk F (M.glo 34 rfl) sc_order_proof rfl rfl (fun _ _ _ _ _ _ us hl => match us, hl with | [_], _ => rfl) fun cdv A outer s0 H E hr => ?_
  exact (jss_cons (js_set (i := 0) sc_order_proof.nd rfl (by first | exact Or.inl rfl | exact Or.inr rfl) (je_fn (fn_full_table M) (hr.mono (by decide)) (by rfl) (ja_cons (je_var 0) ja_nil))) (jss_one (js_ret (je_cmp op_isN ok_isN (je_fn (fn_broken_in M) (hr.mono (by decide)) (by rfl) (ja_cons (je_var 0) ja_nil)) je_non (nomark _)))))
abbrev N_want_proof : List PySem.Str := ["table", "what"]
theorem sc_want_proof : FnScope N_want_proof ["table", "what"] (defScope s_want_proof) := ⟨rfl, rfl, rfl, by decide +kernel, rfl, by decide +kernel, by decide +kernel⟩
noncomputable def r_want_proof : RS := (sIf (tB (e2 dNotN (eCall rf_broken_in (aCons (eVar 0) aNil)) (eC .none))) sNever sNx)
noncomputable def rf_want_proof : List PyData → Option PyData := rfOf 0 r_want_proof
theorem fn_want_proof {P : Program} {w : World} {K : PySem.W.Frag} {mg : Str → Option Value} {base : Heap} (M : Md K mg base) : FnAt P w K mg base "want_proof" 4 2 rf_want_proof := by
  obtain ⟨fd, F⟩ := M.c.def_ 35 (d := d_want_proof) rfl
  refine fn_mk F (M.glo 35 rfl) sc_want_proof rfl rfl (fun _ _ _ _ _ _ us hl => match us, hl with | [_, _], _ => rfl) fun cdv A outer s0 H E hr => ?_
  exact (jss_one (js_if (jt_cmp op_notN ok_notN (je_fn (fn_broken_in M) (hr.mono (by decide)) (by rfl) (ja_cons (je_var 0) ja_nil)) je_non (nomark _)) (jss_one js_never) jss_nil))
end K67
set_option Elab.async false
set_option linter.all false
set_option maxRecDepth 100000
set_option maxHeartbeats 4000000
namespace K67
open PySem PySem.Spec PyProof.Rows L2
variable [TabA]
/-! ### sorted: lists of int tuples that ascend already -/
noncomputable def lexL (xs : List Int) : List Int → Bool := @List.rec Int (fun _ => List Int → Bool) (fun ys => @List.rec Int (fun _ => Bool) false (fun _ _ _ => true) ys) (fun x _ ih ys => @List.rec Int (fun _ => Bool) false (fun y r _ => bIf (zEq x y) (ih r) (zLt x y)) ys) xs
theorem lexL_cons (x y : Int) (xs ys : List Int) : lexL (x :: xs) (y :: ys) = if x = y then lexL xs ys else decide (x < y) := by
  show bIf (zEq x y) (lexL xs ys) (zLt x y) = _
  rw [zEq_eq, zLt_eq]
  by_cases h : x = y
  · rw [if_pos h, decide_eq_true h]; rfl
  · rw [if_neg h, decide_eq_false h]; rfl
theorem lexL_asym : ∀ x y : List Int, lexL x y = true → lexL y x = false
  | [], [], h => by cases h
  | [], _ :: _, _ => rfl
  | _ :: _, [], h => by cases h
  | x :: xs, y :: ys, h => by
    rw [lexL_cons] at h ⊢
    by_cases e : x = y
    · rw [if_pos e] at h
      rw [if_pos e.symm]
      exact lexL_asym xs ys h
    · rw [if_neg e] at h
      rw [if_neg (Ne.symm e)]
      have := of_decide_eq_true h
      exact decide_eq_false (by omega)
theorem lexL_tr : ∀ x y z : List Int, lexL y x = false → lexL z y = false → lexL z x = false
  | [], [], z, h1, h2 => by
    cases z with
    | nil => rfl
    | cons _ _ => rfl
  | [], _ :: _, [], h1, h2 => by cases h2
  | [], _ :: _, _ :: _, h1, h2 => rfl
  | _ :: _, [], z, h1, h2 => by cases h1
  | _ :: _, _ :: _, [], h1, h2 => by cases h2
  | x :: xs, y :: ys, z :: zs, h1, h2 => by
    rw [lexL_cons] at h1 h2 ⊢
    by_cases e1 : y = x
    · rw [if_pos e1] at h1
      by_cases e2 : z = y
      · rw [if_pos e2] at h2
        rw [if_pos (e2.trans e1)]
        exact lexL_tr xs ys zs h1 h2
      · rw [if_neg e2] at h2
        rw [if_neg (fun q => e2 (q.trans e1.symm))]
        have := of_decide_eq_false h2
        exact decide_eq_false (by omega)
    · rw [if_neg e1] at h1
      have a1 := of_decide_eq_false h1
      by_cases e2 : z = y
      · rw [if_pos e2] at h2
        rw [if_neg (fun q => e1 (e2.symm.trans q))]
        exact decide_eq_false (by omega)
      · rw [if_neg e2] at h2
        have a2 := of_decide_eq_false h2
        rw [if_neg (by omega)]
        exact decide_eq_false (by omega)
theorem swo_lexL (k : Value → List Int) : SrtO.Swo fun v u => lexL (k v) (k u) := ⟨fun x y => lexL_asym _ _, fun x y z => lexL_tr _ _ _⟩
section
variable {prog : Program} {w : World} {A : Around} {E : Value → Shared → Prop} {s : Shared} {Q : Bool → Shared → Prop}
theorem lex_any {b : Bool} {xs ys : List Value} {ns ms : List Int} (i : Nat) (hx : IntsAre xs ns) (hy : IntsAre ys ms) (h : Q (lexL ns ms) s) : PySem.W.KatLex prog w A b (decide (xs.length < ys.length)) Q (xs.zip ys) i s := by
  induction hx generalizing ys ms i with
  | nil =>
    cases hy with
    | nil => exact PySem.W.kat_nil h
    | @cons q u ys ms hy =>
      refine PySem.W.kat_nil ?_
      have e : decide (([] : List Value).length < (Value.int q u :: ys).length) = true := by simp
      rw [e]
      exact h
  | @cons p t xs ns hx ih =>
    cases hy with
    | nil => exact PySem.W.kat_nil h
    | @cons q u ys ms hy =>
      show PySem.W.KatLex prog w A b _ Q ((Value.int p t, Value.int q u) :: xs.zip ys) i s
      rw [lexL_cons] at h
      have hd : decide ((Value.int p t :: xs).length < (Value.int q u :: ys).length) = decide (xs.length < ys.length) := by simp
      rw [hd]
      refine PySem.W.kat_cons (wpAny_eqBool_int ?_)
      by_cases e : p = q
      · subst e
        rw [beq_self_eq_true]
        rw [if_pos rfl] at h
        exact PySem.W.kat_yes (by first | exact ih (i + 1) hy h | exact ih _ _ (i + 1) hy h)
      · rw [show (p == q) = false from beq_eq_false_iff_ne.mpr e]
        rw [if_neg e] at h
        exact PySem.W.kat_no (TS.oneLt_ints _ h)
theorem tup_cmp {vs : List Value} (hp : ∀ v ∈ vs, ∃ ns, TS.TupInts s.heap v ns) (k : Value → List Int) (hk : ∀ v ∈ vs, TS.intsOf s.heap v = k v) : SrtO.Cmp prog w A s (tuples' true) (fun p => p.1 ∈ vs) (SrtO.lt2 fun v u => lexL (k v) (k u)) := by
  intro p q hm hm'
  obtain ⟨ns, t1⟩ := hp _ hm
  obtain ⟨ms, t2⟩ := hp _ hm'
  have e1 : k p.1 = ns := (hk _ hm).symm.trans t1.ints
  have e2 : k q.1 = ms := (hk _ hm').symm.trans t2.ints
  show wpAny (model prog w) A (keyLt' (tuples' true) p.1 q.1) (fun r s' => s' = s ∧ r = lexL (k p.1) (k q.1)) (fun _ _ => False) s
  rw [e1, e2]
  obtain ⟨a, xs, e1, ⟨o, ho, hc, n, hdt⟩, i⟩ := t1
  obtain ⟨a', ys, e2, ⟨o', ho', hc', n', hdt'⟩, i'⟩ := t2
  rw [e1, e2]
  refine PySem.W.kat_lt ho hdt ho' hdt' ?_
  have z := lex_any (prog := prog) (w := w) (A := A) (s := s) (b := true) (Q := fun r s' => s' = s ∧ r = lexL ns ms) 0 i i' ⟨rfl, rfl⟩
  rwa [Array.length_toList, Array.length_toList] at z
theorem firsts_any {h : Heap} : ∀ vs : List Value, (∀ v ∈ vs, ∃ n ns, TS.TupInts h v (n :: ns)) → ∃ fs, PySem.W.KatTups h vs fs ∧ fs.length = vs.length ∧ ∀ f, f ∈ fs → ∃ n t, f = Value.int n t
  | [], _ => ⟨[], PySem.W.KatTups.nil, rfl, fun f hf => by simp at hf⟩
  | v :: vs, x => by
    obtain ⟨fs, k, hl, hi⟩ := firsts_any vs fun u hu => x u (List.mem_cons_of_mem _ hu)
    obtain ⟨m, ns, a, xs, rfl, ⟨o, ho, hc, n, hdt⟩, i⟩ := x v (List.mem_cons_self ..)
    generalize hq : xs.toList = l at i
    cases i with
    | cons _ t i =>
      refine ⟨.int m t :: fs, PySem.W.KatTups.cons ho hc hdt ?_ k, by simp [hl], ?_⟩
      · have z := congrArg (fun l : List Value => l[0]?) hq
        simpa using z
      · intro f hf
        rcases List.mem_cons.mp hf with rfl | hf
        · exact ⟨m, t, rfl⟩
        · exact hi f hf
theorem tups_sortable {a : Addr} {vs : List Value} (h0 : 0 < vs.length) (hp : ∀ v ∈ vs, ∃ n ns, TS.TupInts s.heap v (n :: ns)) (k : Value → List Int) (hk : ∀ v ∈ vs, TS.intsOf s.heap v = k v) (ha : ∀ o, s.heap.get? a = some o → o.cls ≠ .type "tuple") : SrtO.SortableO prog w A s a vs fun v u => lexL (k v) (k u) := by
  intro h' keep
  have kk : ∀ v ns, TS.TupInts s.heap v ns → TS.TupInts h' v ns := fun v ns t => t.keeps fun b o e c => keep b o (fun z => by subst z; exact ha o e c) e
  have hp' : ∀ v ∈ vs, ∃ n ns, TS.TupInts h' v (n :: ns) := fun v hm => let ⟨n, ns, t⟩ := hp v hm; ⟨n, ns, kk _ _ t⟩
  obtain ⟨fs, h1, h2, h3⟩ := firsts_any vs hp'
  refine ⟨tuples' true, fun Q E hq => ?_, tup_cmp (s := { s with heap := h' }) (fun v hm => let ⟨n, ns, t⟩ := hp' v hm; ⟨_, t⟩) k fun v hm => ?_⟩
  · refine PySem.W.kat_kind (T := .type "int") h1 (by omega) (fun f hm => ?_) (by rfl) ?_
    · obtain ⟨x, t, rfl⟩ := h3 f hm
      exact PySem.W.Looks.now
    · have e : (Value.type "int" != Value.type "tuple") = true := by first | decide +kernel | rfl | decide
      rw [e]
      exact hq
  · obtain ⟨n, ns, t⟩ := hp v hm
    exact ((kk _ _ t).ints.trans t.ints.symm).trans (hk v hm)
end
/-- what ascends strictly stands as it is -/
theorem sorted_same {α : Type} {lt : α → α → Bool} : ∀ {vs out : List α}, vs.Pairwise (fun x y => lt x y = true) → out.Perm vs → SrtO.Srtd lt out → out = vs
  | [], out, _, hp, _ => hp.eq_nil
  | v :: vs, [], _, hp, _ => absurd hp.symm.eq_nil (by simp)
  | v :: vs, y :: out, h, hp, hs => by
    obtain ⟨h1, h2⟩ := List.pairwise_cons.mp h
    have hy : y ∈ v :: vs := hp.mem_iff.mp List.mem_cons_self
    have e : y = v := by
      rcases List.mem_cons.mp hy with e | hy
      · exact e
      · have hv : v ∈ y :: out := hp.mem_iff.mpr List.mem_cons_self
        rcases List.mem_cons.mp hv with e | hv
        · exact e.symm
        · have a := h1 y hy
          have b := (List.pairwise_cons.mp hs).1 v hv
          rw [b] at a
          cases a
    subst e
    rw [sorted_same h2 hp.cons_inv (List.pairwise_cons.mp hs).2]
/-- tuples of ints -/
inductive Tn (K : PySem.W.Frag) (H : Hp) : List V → List (List Int) → Prop
  | nil : Tn K H [] []
  | cons {t : Addr} {ns : List Int} {xs : List V} {kss : List (List Int)} (h : SqT K H t (ns.map V.int)) (r : Tn K H xs kss) : Tn K H (.ref t :: xs) (ns :: kss)
section
variable {X : Cx} {pins : List (Addr × Obj)} {σ : L2.St} {H : Hp} {s : Shared}
theorem Tn.vals (I : Inv X pins σ H s) : ∀ {xs : List V} {kss : List (List Int)} {us : List Value}, Tn X.K H xs kss → Vals xs us → us.map (TS.intsOf s.heap) = kss ∧ (∀ u ∈ us, ∃ ns ∈ kss, TS.TupInts s.heap u ns) ∧ ∃ (as : List Addr), xs = as.map V.ref ∧ us = as.map Value.ref
  | _, _, _, .nil, .nil => ⟨rfl, fun u hu => absurd hu (by simp), [], rfl, rfl⟩
  | _, _, u :: us, .cons (t := t) (ns := ns) hq r, .cons rv rr => by
    obtain ⟨h1, h2, as, h3, h4⟩ := Tn.vals I r rr
    cases rv
    obtain ⟨its, rv, p, _⟩ := I.tuple hq
    obtain ⟨o, ho, hc, n, hd⟩ := p
    have ti : TS.TupInts s.heap (.ref t) ns := ⟨t, its.toArray, rfl, ⟨o, ho, hc, n, hd⟩, by simpa using rv.ints⟩
    refine ⟨by rw [List.map_cons, ti.ints, h1], fun v hv => ?_, t :: as, by rw [h3]; rfl, by rw [h4]; rfl⟩
    rcases List.mem_cons.mp hv with rfl | hv
    · exact ⟨ns, List.mem_cons_self, ti⟩
    · obtain ⟨ms, hm, t⟩ := h2 v hv
      exact ⟨ms, List.mem_cons_of_mem _ hm, t⟩
def rSortedF (K : PySem.W.Frag) : List V → Hp → VK → Prop := fun vs H Q => ∃ a xs kss, vs = [V.ref a] ∧ SqL K H a xs ∧ Tn K H xs kss ∧ kss.Pairwise (fun x y => lexL x y = true) ∧ (2 ≤ kss.length → ∀ ns ∈ kss, ns ≠ []) ∧
  ∀ p, H p = none → Q (.ref p) (upd H p (.lst xs))
theorem cr_sortedF : CallR X (.builtin "sorted") (rSortedF X.K) := by
  intro pins s σ H vs us Q I r h
  obtain ⟨a, xs, kss, rfl, hs, ht, hp, hne, q⟩ := h
  obtain ⟨its, rv, hl, hz⟩ := I.list hs
  rw [Vals.ref1 r]
  obtain ⟨h1, h2, as, h3, h4⟩ := ht.vals I rv
  have hlen : its.length = kss.length := by rw [← h1, List.length_map]
  refine SrtO.sorted_ord (swo_lexL (TS.intsOf s.heap)) hl.isList (by rw [← rv.length]; exact hz) (fun hge h₁ a' ha kk => ?_) fun out s1 s2 => ?_
  · have k1 : ∀ v ∈ its, ∃ n ns, TS.TupInts h₁ v (n :: ns) := fun v hv => by
      obtain ⟨ns, hm, t⟩ := h2 v hv
      have t' := t.keeps fun b o e _ => (kk b o e).2
      cases ns with
      | nil => exact absurd rfl (hne (by omega) _ hm)
      | cons n ns => exact ⟨n, ns, t'⟩
    refine tups_sortable (s := { s with heap := h₁ }) (by omega) k1 _ (fun v hv => ?_) fun o e => ?_
    · obtain ⟨ns, hm, t⟩ := h2 v hv
      have t' := t.keeps fun b o e _ => (kk b o e).2
      exact t'.ints.trans t.ints.symm
    · have e' : some o = some (seqObj "list" its.toArray 0) := e.symm.trans ha
      cases e'
      intro c
      exact absurd (Value.type.inj c) (by decide)
  · have e : out = its := sorted_same (by rw [← h1] at hp; exact List.pairwise_map.mp hp) s2.perm s1
    subst e
    obtain ⟨ep, he'⟩ := PyProof.Rows.sortedAll_at s.heap out out.toArray
    exact ⟨.ref _, upd H (s.heap.objs.size + 1) (.lst xs), I.laid (t' := s.toks) (fun _ _ => PyProof.Rows.sortedAll_old) (Nat.le_succ _) ⟨hz, out, ep, rv, he'⟩, rfl, q _ (I.hok.fresh (Nat.le_succ _))⟩
end
noncomputable def dInts (d : PyData) : Option (List Int) := bd (toTp d) zints
noncomputable def dIntss (ds : List PyData) : Option (List (List Int)) := @List.rec PyData (fun _ => Option (List (List Int))) (some []) (fun d _ ih => bd (dInts d) fun x => bd ih fun xs => some (x :: xs)) ds
noncomputable def ne0 (l : List Int) : Bool := @List.rec Int (fun _ => Bool) false (fun _ _ _ => true) l
noncomputable def ascL (ks : List (List Int)) : Bool := @List.rec (List Int) (fun _ => Bool) true (fun k r ih => bIf (allB (fun m => bIf (lexL k m) (bIf (ne0 k) (ne0 m) false) false) r) ih false) ks
theorem allB_iff {α : Type} {f : α → Bool} : ∀ {l : List α}, allB f l = true → ∀ x ∈ l, f x = true
  | [], _, x, hx => absurd hx (by simp)
  | y :: l, h, x, hx => by
    rw [allB_eq] at h
    simp only [List.all_cons, Bool.and_eq_true, List.all_eq_true] at h
    rcases List.mem_cons.mp hx with rfl | hx
    · exact h.1
    · exact h.2 x hx
theorem bIfB_some {b x : Bool} (h : bIf b x false = true) : b = true ∧ x = true := by
  cases b with
  | true => exact ⟨rfl, h⟩
  | false => cases h
theorem ascL_ok : ∀ {ks : List (List Int)}, ascL ks = true → ks.Pairwise (fun x y => lexL x y = true) ∧ (2 ≤ ks.length → ∀ ns ∈ ks, ns ≠ [])
  | [], _ => ⟨.nil, fun h => absurd h (by simp)⟩
  | k :: r, h => by
    obtain ⟨h1, h2⟩ := bIfB_some (show bIf (allB (fun m => bIf (lexL k m) (bIf (ne0 k) (ne0 m) false) false) r) (ascL r) false = true from h)
    obtain ⟨h3, h4⟩ := ascL_ok h2
    have h5 : ∀ m ∈ r, lexL k m = true ∧ ne0 k = true ∧ ne0 m = true := fun m hm => by
      obtain ⟨a, b⟩ := bIfB_some (allB_iff h1 m hm)
      obtain ⟨b, c⟩ := bIfB_some b
      exact ⟨a, b, c⟩
    have ne : ∀ l, ne0 l = true → l ≠ [] := fun l q e => by subst e; cases q
    refine ⟨List.pairwise_cons.mpr ⟨fun m hm => (h5 m hm).1, h3⟩, fun hl ns hns => ?_⟩
    cases r with
    | nil => simp at hl
    | cons m r =>
      rcases List.mem_cons.mp hns with rfl | hns
      · exact ne _ (h5 m List.mem_cons_self).2.1
      · exact ne _ (h5 ns hns).2.2
noncomputable def dSorted (d : PyData) : Option PyData := bd (toLs d) fun ds => bd (dIntss ds) fun ks => bIf (ascL ks) (some (.list ds)) none
section
variable {P : Program} {w : World} {K : PySem.W.Frag} {X : Cx}
theorem dn_tn {F H : Hp} (s : Same F H) : ∀ {xs : List V} {ds : List PyData} {ks : List (List Int)}, DnAll P w F xs ds → dIntss ds = some ks → Tn K H xs ks
  | _, [], _, .nil, h => by cases h; exact .nil
  | _, d :: ds, _, .cons a b, h => by
    obtain ⟨x, h1, h2⟩ := bd_some (show bd (dInts d) _ = some _ from h)
    obtain ⟨xs, h3, h4⟩ := bd_some h2
    cases h4
    obtain ⟨l, h5, h6⟩ := bd_some h1
    have e1 := toTp_some h5
    subst e1
    have e2 := zints_some h6
    subst e2
    cases a with
    | tup ha ra =>
      have e3 := dn_ints ra
      subst e3
      exact .cons (tF_sq (s _ _ ha)) (dn_tn s b h3)
theorem ok_sorted : RLOk P w (l1 dSorted) (rSortedF K) := rl_one fun F H x d z Q s hx h k => by
  obtain ⟨ds, h1, h2⟩ := bd_some h
  obtain ⟨ks, h3, h4⟩ := bd_some h2
  obtain ⟨h5, h6⟩ := bIf_some h4
  cases h6
  have e := toLs_some h1
  subst e
  obtain ⟨p1, p2⟩ := ascL_ok h5
  cases hx with
  | lst ha ra =>
    rename_i a0 vs0
    refine ⟨_, _, ks, rfl, .inl (.inl (s _ _ ha)), dn_tn s ra h3, p1, p2, fun l n => ?_⟩
    have g := Grow.new (o := HO.lst vs0) s n
    exact k _ _ _ g (.lst upd_same (ra.mono g.ff))
end
end K67
set_option Elab.async false
set_option linter.all false
set_option maxRecDepth 100000
set_option maxHeartbeats 4000000
namespace K67
open PySem PySem.Spec PyProof.Rows L2
variable [TabA]
/-! ### max(xs, key=len): the kit's walk (KE.KMinBuiltin) with the objects kept one by one, for a key that changes nothing -/
section
variable {prog : Program} {w : World} {A : Around} {E : Value → Shared → Prop} {s : Shared} {h₀ : Heap} {l I S : Addr} {kid : String} {vs : List Value} {R : Result → Shared → Prop} {Q : Value → Shared → Prop}
def Kept (h₀ h : Heap) : Prop := ∀ b o, h₀.get? b = some o → h.get? b = some o
theorem kx_max_loop (kf : Nat → Int) (hh : A.handled = none) (hl : h₀.IsList l vs.toArray) (hI0 : h₀.get? I = none) (hS0 : h₀.get? S = none) (hlI : l ≠ I) (hSI : S ≠ I)
    (turn : ∀ (i : Nat) (v : Value), vs[i]? = some v → ∀ (h : Heap) (tk : Nat) (Q : Value → Shared → Prop), Kept h₀ h → (∀ t tk', Q (.int (kf i) t) { s with heap := h, toks := tk' }) →
      wpAny (model prog w) A.in1 (call (.builtin kid) [v]) Q (fun _ _ => False) { s with heap := h, toks := tk })
    (hR : ∀ i v h' tk', vs[i]? = some v → (∀ j, j < vs.length → kf i ≥ kf j ∧ (j < i → kf i > kf j)) → Kept h₀ h' → R (.ok (.ret v)) { s with heap := h', toks := tk' }) :
    ∀ (r j i : Nat) (h : Heap) (tk : Nat) (vb : Value) (tb : Tok) (c : Nat), vs.length - (j + 1) = r → j + 1 ≤ vs.length → Kept h₀ h →
      h.get? S = some (seqObj "list" #[vb, .int (kf i) tb] c) → h.IsListIter I l (j + 1) → vs[i]? = some vb → i ≤ j → (∀ j', j' ≤ j → kf i ≥ kf j' ∧ (j' < i → kf i > kf j')) →
      codeAny (model prog w) A (.builtin "max.loop" ⟨[.ref I, .builtin kid, .ref S], []⟩) R { s with heap := h, toks := tk } := by
  have hname : (toString "max" ++ toString ".loop" : String) = "max.loop" := by decide
  have W := Walks.list (prog := prog) (w := w) (A := A.in1) hh I l hlI vs.toArray
  have hsz : vs.toArray.size = vs.length := List.size_toArray ..
  have kI : ∀ {h h' : Heap}, Kept h₀ h → (∀ b o, b ∉ [I] → h.get? b = some o → h'.get? b = some o) → Kept h₀ h' := fun {h h'} k hk b o e => hk b o (fun q => by rw [List.mem_singleton.mp q, hI0] at e; cases e) (k b o e)
  have kS : ∀ {h h' : Heap}, Kept h₀ h → Heap.SameBut S h h' → Kept h₀ h' := fun {h h'} k hk b o e => (hk.2 b (fun q => by rw [q, hS0] at e; cases e)).trans (k b o e)
  have hL : ∀ {h : Heap}, Kept h₀ h → h.IsList l vs.toArray := fun {h} k => hl.at fun o e => k l o e
  intro r
  induction r with
  | zero =>
    intro j i h tk vb tb c hr hj F nS hit hvb hij hbest
    have hin : j + 1 = vs.length := by omega
    refine codeAny_builtin PySem.F.entry_max_loop ?_
    rw [Around.under_plainId PySem.F.plain_max_loop _]
    show wpAny _ A.in1 (seqItems? (.ref S) >>= _) _ _ _
    refine wpAny_bind (wpAny_seqItems nS rfl ?_)
    show wpAny _ A.in1 (tryCatch (pyNext (.ref I)) _ >>= _) _ _ _
    refine wpAny_bind (wpAny_tryCatch (W.done _ _ _ ⟨by rw [hsz, ← hin]; exact hit, hL F⟩ fun h' tk' hk' => ?_))
    have F1 := kI F hk'
    have hS' := hk' S _ (by simpa using hSI) nS
    have s1 := Heap.SameBut.update h' S (Obj.mapSeq fun _ => (#[] : Array Value))
    show wpAny _ A.in1 (updateSeq S (fun _ => #[]) >>= _) _ _ _
    refine wpAny_bind ?_
    refine wpAny_updateSeq hS' rfl (wpAny_bind (wpAny_letGo (wpAny_pure ?_)))
    exact hR i vb _ _ hvb (fun j' hj' => hbest j' (by omega)) (kS F1 s1)
  | succ r ih =>
    intro j i h tk vb tb c hr hj F nS hit hvb hij hbest
    have hlt : j + 1 < vs.length := by omega
    refine codeAny_builtin PySem.F.entry_max_loop ?_
    rw [Around.under_plainId PySem.F.plain_max_loop _]
    show wpAny _ A.in1 (seqItems? (.ref S) >>= _) _ _ _
    refine wpAny_bind (wpAny_seqItems nS rfl ?_)
    show wpAny _ A.in1 (tryCatch (pyNext (.ref I)) _ >>= _) _ _ _
    refine wpAny_bind (wpAny_tryCatch (W.item (j + 1) _ _ _ (by rw [hsz]; exact hlt) ⟨hit, hL F⟩ fun v h' tk' hP hst' hk' => ?_))
    have hv : vs[j + 1]? = some v := by simpa using hP
    obtain ⟨oI', hoI', hoc, hod⟩ := id hst'.1
    have F1 := kI F hk'
    have nS1 := hk' S _ (by simpa using hSI) nS
    show wpAny _ A.in1 (tryCatch (holding [v] (call (.builtin kid) [v])) _ >>= _) _ _ _
    refine wpAny_bind (wpAny_tryCatch (wpAny_holding (wpAny_mono (turn (j + 1) v hv h' tk' (fun x s' => ∃ t tk2, x = .int (kf (j + 1)) t ∧ s' = { s with heap := h', toks := tk2 }) F1 fun t tk2 => ⟨t, tk2, rfl, rfl⟩) (fun x s'' he => ?_) fun _ _ hF => hF.elim)))
    obtain ⟨t2, tk2, rfl, rfl⟩ := he
    have hit2 : h'.IsListIter I l (j + 1 + 1) := ⟨oI', hoI', hoc, hod⟩
    show wpAny _ A.in1 (tryCatch (holding [v, .int (kf (j + 1)) t2] (richCompare .Gt (.int (kf (j + 1)) t2) (.int (kf i) tb) >>= _)) _ >>= _) _ _ _
    refine wpAny_bind (wpAny_tryCatch (wpAny_holding (wpAny_bind (CmpOf.ints_gt (prog := prog) (w := w) (A := A.in1) (P := fun i v => ∃ t, v = .int (kf i) t) kf (fun i v h => h) (j + 1) i _ _ _ _ _ ⟨t2, rfl⟩ ⟨tb, rfl⟩ ?_))))
    refine wpAny_bind (wpAny_holding (wpAny_truthy_bool ?_))
    refine wpAny_bind (wpAny_letGo (wpAny_pure ?_))
    by_cases hb' : kf (j + 1) > kf i
    · have s1 := Heap.SameBut.update h' S (Obj.mapSeq fun _ => #[v, .int (kf (j + 1)) t2])
      obtain ⟨c2, hc2⟩ : ∃ c2, (h'.update S (Obj.mapSeq fun _ => #[v, .int (kf (j + 1)) t2])).get? S = some (seqObj "list" #[v, .int (kf (j + 1)) t2] c2) := ⟨_, get?_update_seq nS1 fun _ => #[v, .int (kf (j + 1)) t2]⟩
      simp only [hb', decide_true, if_true]
      refine wpAny_bind ?_
      refine wpAny_updateSeq nS1 rfl (wpAny_bind (wpAny_letGo ?_))
      rw [hname]
      refine wpAny_pure ⟨plainId_quiet PySem.F.plain_max_loop _, ih (j + 1) (j + 1) _ _ v t2 c2 (by omega) hlt (kS F1 s1) hc2 ⟨oI', (s1.2 I hSI.symm).trans hoI', hoc, hod⟩ hv (Nat.le_refl _) fun j' hj' => ?_⟩
      by_cases e : j' = j + 1
      · subst e
        exact ⟨by omega, fun _ => by omega⟩
      · have hb1 := hbest j' (by omega)
        have hb2 := hb1.1
        exact ⟨by omega, fun _ => by omega⟩
    · simp only [hb', decide_false, Bool.false_eq_true, if_false]
      refine wpAny_bind (wpAny_letGo ?_)
      rw [hname]
      refine wpAny_pure ⟨plainId_quiet PySem.F.plain_max_loop _, ih (j + 1) i _ _ vb tb c (by omega) hlt F1 nS1 hit2 hvb (by omega) fun j' hj' => ?_⟩
      by_cases e : j' = j + 1
      · subst e
        exact ⟨by omega, fun _ => by omega⟩
      · exact hbest j' (by omega)
theorem kx_max (kf : Nat → Int) (hh : A.handled = none) (hls : s.heap.IsList l vs.toArray) (hne : 0 < vs.length)
    (turn : ∀ (i : Nat) (v : Value), vs[i]? = some v → ∀ (h : Heap) (tk : Nat) (Q : Value → Shared → Prop), Kept s.heap h → (∀ t tk', Q (.int (kf i) t) { s with heap := h, toks := tk' }) →
      wpAny (model prog w) A.in1 (call (.builtin kid) [v]) Q (fun _ _ => False) { s with heap := h, toks := tk })
    (hQ : ∀ i v h' tk', vs[i]? = some v → (∀ j, j < vs.length → kf i ≥ kf j ∧ (j < i → kf i > kf j)) → Kept s.heap h' → Q v { s with heap := h', toks := tk' }) :
    wpAny (model prog w) A (call (.builtin "max") [.ref l] [(Str.ofString "key", .builtin kid)]) Q E s := by
  have hname : (toString "max" ++ toString ".loop" : String) = "max.loop" := by decide
  obtain ⟨ol, hol, _⟩ := id hls
  have hll : l < s.heap.objs.size := Heap.lt_size hol
  refine kmb_tree PySem.F.kind_max PySem.F.plain_max PySem.F.entry_max (kmb_max_key _ _) ?_
  show wpAny _ A.in1 (Builtin.Builtins.bindParams "max" ["key", "default"] 0 ⟨[], [(Str.ofString "key", .builtin kid)]⟩ >>= _) _ _ s
  refine wpAny_bind (wpAny_of_eq (show Builtin.Builtins.bindParams "max" ["key", "default"] 0 ⟨[], [(Str.ofString "key", .builtin kid)]⟩ = pure [some (.builtin kid), none] from rfl) ?_)
  refine wpAny_bind (wpAny_pure ?_)
  refine wpAny_bind (wpAny_pyIter_list hls ?_)
  refine wpAny_bind (wpAny_newList ?_ (Nat.zero_le _))
  rw [hname]
  have hS : (s.heap.push { cls := .type "list_iterator", data := .fields #[.ref l, .int 0 0] }).objs.size = s.heap.objs.size + 1 := Heap.size_push ..
  have hlI : l ≠ s.heap.objs.size := Nat.ne_of_lt hll
  have hSI : (s.heap.push { cls := .type "list_iterator", data := .fields #[.ref l, .int 0 0] }).objs.size ≠ s.heap.objs.size := by rw [hS]; exact Nat.ne_of_gt (Nat.lt_succ_self _)
  refine wpAny_pure ⟨plainId_quiet PySem.F.plain_max_loop _, ?_⟩
  have zI : s.heap.get? s.heap.objs.size = none := Heap.get?_none_of_le (Nat.le_refl _)
  have zS : s.heap.get? (s.heap.push { cls := .type "list_iterator", data := .fields #[.ref l, .int 0 0] }).objs.size = none := Heap.get?_none_of_le (by rw [hS]; exact Nat.le_succ _)
  have FH : Kept s.heap ((s.heap.push { cls := .type "list_iterator", data := .fields #[.ref l, .int 0 0] }).push (seqObj "list" #[] 0)) := fun b x e => Heap.get?_push_of_some _ (Heap.get?_push_of_some _ e)
  have gI : ((s.heap.push { cls := .type "list_iterator", data := .fields #[.ref l, .int 0 0] }).push (seqObj "list" #[] 0)).get? s.heap.objs.size = some { cls := .type "list_iterator", data := .fields #[.ref l, .int 0 0] } :=
    Heap.get?_push_of_some _ (Heap.get?_push_size _ rfl)
  have gS : ((s.heap.push { cls := .type "list_iterator", data := .fields #[.ref l, .int 0 0] }).push (seqObj "list" #[] 0)).get? (s.heap.push { cls := .type "list_iterator", data := .fields #[.ref l, .int 0 0] }).objs.size = some (seqObj "list" #[] 0) := Heap.get?_push_size _ rfl
  have W := Walks.list (prog := prog) (w := w) (A := A.in1) hh s.heap.objs.size l hlI vs.toArray
  have hsz : vs.toArray.size = vs.length := List.size_toArray ..
  refine codeAny_builtin PySem.F.entry_max_loop ?_
  rw [Around.under_plainId PySem.F.plain_max_loop _]
  show wpAny _ A.in1 (seqItems? (.ref _) >>= _) _ _ _
  refine wpAny_bind (wpAny_seqItems gS rfl ?_)
  show wpAny _ A.in1 (tryCatch (pyNext (.ref s.heap.objs.size)) _ >>= _) _ _ _
  refine wpAny_bind (wpAny_tryCatch (W.item 0 _ _ _ (by rw [hsz]; exact hne) ⟨⟨_, gI, rfl, rfl⟩, hls.at fun o e => FH l o e⟩ fun v h' tk' hP hst' hk' => ?_))
  have hv : vs[0]? = some v := by simpa using hP
  obtain ⟨oI', hoI', hoc, hod⟩ := id hst'.1
  have F1 : Kept s.heap h' := fun b o e => hk' b o (fun q => by rw [List.mem_singleton.mp q, zI] at e; cases e) (FH b o e)
  have nS1 := hk' _ _ (by simpa using hSI) gS
  show wpAny _ A.in1 (tryCatch (holding [v] (call (.builtin kid) [v])) _ >>= _) _ _ _
  refine wpAny_bind (wpAny_tryCatch (wpAny_holding (wpAny_mono (turn 0 v hv h' tk' (fun x s' => ∃ t tk2, x = .int (kf 0) t ∧ s' = { s with heap := h', toks := tk2 }) F1 fun t tk2 => ⟨t, tk2, rfl, rfl⟩) (fun x s'' he => ?_) fun _ _ hF => hF.elim)))
  obtain ⟨t2, tk2, rfl, rfl⟩ := he
  have s1 := Heap.SameBut.update h' (s.heap.push { cls := .type "list_iterator", data := .fields #[.ref l, .int 0 0] }).objs.size (Obj.mapSeq fun _ => #[v, .int (kf 0) t2])
  obtain ⟨c2, hc2⟩ : ∃ c2, (h'.update (s.heap.push { cls := .type "list_iterator", data := .fields #[.ref l, .int 0 0] }).objs.size (Obj.mapSeq fun _ => #[v, .int (kf 0) t2])).get? (s.heap.push { cls := .type "list_iterator", data := .fields #[.ref l, .int 0 0] }).objs.size = some (seqObj "list" #[v, .int (kf 0) t2] c2) := ⟨_, get?_update_seq nS1 fun _ => #[v, .int (kf 0) t2]⟩
  show wpAny _ A.in1 (updateSeq (s.heap.push { cls := .type "list_iterator", data := .fields #[.ref l, .int 0 0] }).objs.size (fun _ => #[v, .int (kf 0) t2]) >>= _) _ _ _
  refine wpAny_bind ?_
  refine wpAny_updateSeq nS1 rfl ?_
  rw [hname]
  refine wpAny_pure ⟨plainId_quiet PySem.F.plain_max_loop _, kx_max_loop kf hh hls zI zS hlI hSI turn hQ _ 0 0 _ _ v t2 c2 rfl hne (fun b o e => (s1.2 b (fun q => by rw [q, zS] at e; cases e)).trans (F1 b o e)) hc2 ⟨oI', (s1.2 _ hSI.symm).trans hoI', hoc, hod⟩ hv (Nat.le_refl _) fun j' hj' => ?_⟩
  have e : j' = 0 := by omega
  subst e
  exact ⟨by omega, fun h => absurd h (Nat.lt_irrefl _)⟩
end

section
variable {X : Cx} {e : Expr} {ta : TA} {p p2 kp pos : Pos}
theorem vals_at : ∀ {xs : List V} {us : List Value} {i : Nat} {u : Value}, Vals xs us → us[i]? = some u → ∃ x, xs[i]? = some x ∧ RelV x u
  | _, _, _, _, .nil, h => by simp at h
  | x :: xs, _ :: us, 0, u, .cons r t, h => by
    simp at h
    subst h
    exact ⟨x, rfl, r⟩
  | x :: xs, _ :: us, i + 1, u, .cons r t, h => by
    obtain ⟨y, h1, h2⟩ := vals_at t (i := i) (by simpa using h)
    exact ⟨y, by simpa using h1, h2⟩
def tMaxLen (K : PySem.W.Frag) (ta : TA) : TE := fun σ H Q => ta σ H fun vs H1 => ∃ a xs, ∃ L : Nat → Nat, vs = [.ref a] ∧ SqL K H1 a xs ∧ 0 < xs.length ∧ (∀ j x, xs[j]? = some x → ∃ p ys, x = .ref p ∧ SqL K H1 p ys ∧ ys.length = L j) ∧
  ∀ i x, xs[i]? = some x → (∀ j, j < xs.length → L i ≥ L j ∧ (j < i → L i > L j)) → Q x H1
theorem pe_maxLen (hc : X.calm = true) (hg : Gl X "max") (hm : X.mg "max" = none) (hg2 : Gl X "len") (hm2 : X.mg "len" = none) (ha : PA X [e] ta)
    (he : backTo pos (starEach [e] X.env) = (false, eval e X.env) :: backTo pos (starEach [] X.env) := by rfl) (hpl : (backTo pos (starEach [e] X.env)).any (·.1) = false := by rfl) :
    PE X (.Call (.Name "max" p) [e] [⟨some "key", .Name "len" p2, kp⟩] pos) (tMaxLen X.K ta) := by
  refine ⟨fun pins s σ H Q I h => ?_⟩
  refine wpAny_Call_Name_kw (ld_blt I hg hm PyProof.Rows.boot_max ?_)
  refine PyProof.Rows.callWith_kw (thn (ha.run pos pins s σ H _ I h) fun us s1 ⟨vs, H1, I1, r1, q1⟩ => PyProof.Rows.kws_cons (ld_blt I1 hg2 hm2 PySem.boot_len (PyProof.Rows.kws_nil ?_))) he hpl
  obtain ⟨a, xs, L, rfl, hq, hne, hL, q⟩ := q1
  rw [Vals.ref1 r1]
  obtain ⟨its, rv, hl, hz⟩ := I1.list hq
  have hlen := rv.length
  show wpAny _ _ (call (.builtin "max") [.ref a] [(Str.ofString "key", .builtin "len")]) _ _ s1
  refine kx_max (fun i => ((L i : Nat) : Int)) (I1.ok.hd hc) hl.isList (by omega) (fun i v hv h' tk Q' k hQ' => ?_) fun i v h' tk' hv hb k => ?_
  · obtain ⟨x, hx, rx⟩ := vals_at rv hv
    obtain ⟨p, ys, rfl, hp, hy⟩ := hL i x hx
    cases rx
    obtain ⟨its2, rv2, pl, hz2⟩ := I1.list hp
    have hl2 := rv2.length
    have hn := line63
    refine Calls.call_len_list (items := its2.toArray) (pl.isList.at fun o e => k p o e) (by simp only [List.size_toArray] <;> omega) ?_
    rw [List.size_toArray, ← hl2, hy]
    exact hQ' _ _
  · obtain ⟨x, hx, rx⟩ := vals_at rv hv
    exact ⟨x, H1, I1.kept k, rx, q i x hx fun j hj => by
      have z := hb j (by omega)
      exact ⟨Int.ofNat_le.mp z.1, fun hji => Int.ofNat_lt.mp (z.2 hji)⟩⟩
end
/-! ### data -/
noncomputable def maxGo (r : List PyData) : PyData → Nat → Option PyData := @List.rec PyData (fun _ => PyData → Nat → Option PyData) (fun b _ => some b) (fun x _ ih b n => bd (toLs x) fun xs => bIf (Nat.ble (len xs) n) (ih b n) (ih x (len xs))) r
noncomputable def maxOf (ds : List PyData) : Option PyData := @List.rec PyData (fun _ => Option PyData) none (fun x r _ => bd (toLs x) fun xs => maxGo r x (len xs)) ds
noncomputable def dMaxLen (d : PyData) : Option PyData := bd (toLs d) maxOf
def lenOf2 : Option (List PyData) → Nat
  | some xs => xs.length
  | none => 0
noncomputable def lenOf (d : Option PyData) : Nat := lenOf2 (d.bind toLs)
theorem lenOf_some {d : PyData} {xs : List PyData} (h : toLs d = some xs) : lenOf (some d) = xs.length := by
  show lenOf2 (toLs d) = _
  rw [h]; rfl
theorem maxGo_spec : ∀ (r pre : List PyData) (b : PyData) (i : Nat) (z : PyData), maxGo r b (lenOf ((pre ++ r)[i]?)) = some z → (pre ++ r)[i]? = some b → i < pre.length → (∀ j, j < pre.length → (∃ d xs, (pre ++ r)[j]? = some d ∧ toLs d = some xs) ∧ lenOf ((pre ++ r)[i]?) ≥ lenOf ((pre ++ r)[j]?) ∧ (j < i → lenOf ((pre ++ r)[i]?) > lenOf ((pre ++ r)[j]?))) →
    ∃ i', (pre ++ r)[i']? = some z ∧ i' < (pre ++ r).length ∧ ∀ j, j < (pre ++ r).length → (∃ d xs, (pre ++ r)[j]? = some d ∧ toLs d = some xs) ∧ lenOf ((pre ++ r)[i']?) ≥ lenOf ((pre ++ r)[j]?) ∧ (j < i' → lenOf ((pre ++ r)[i']?) > lenOf ((pre ++ r)[j]?))
  | [], pre, b, i, z, h, hb, hi, hj => by
    cases h
    rw [List.append_nil] at hb hj ⊢
    exact ⟨i, hb, hi, hj⟩
  | x :: r, pre, b, i, z, h, hb, hi, hj => by
    obtain ⟨xs, h1, h2⟩ := bd_some (show bd (toLs x) _ = some z from h)
    have hx : (pre ++ x :: r)[pre.length]? = some x := by simp
    have lx : lenOf ((pre ++ x :: r)[pre.length]?) = xs.length := by rw [hx, lenOf_some h1]
    have ea : pre ++ x :: r = (pre ++ [x]) ++ r := by simp
    have hl : (pre ++ [x]).length = pre.length + 1 := by simp
    have z1 := maxGo_spec r (pre ++ [x])
    rw [← ea] at z1
    cases hbl : Nat.ble (len xs) (lenOf ((pre ++ x :: r)[i]?)) with
    | true =>
      rw [hbl] at h2
      have hle := Nat.le_of_ble_eq_true hbl
      rw [len_eq] at hle
      refine z1 b i z h2 hb (by omega) fun j hj2 => ?_
      by_cases e : j = pre.length
      · subst e
        refine ⟨⟨x, xs, hx, h1⟩, by omega, fun hlt => by omega⟩
      · exact hj j (by omega)
    | false =>
      rw [hbl] at h2
      have hle : ¬ (len xs ≤ lenOf ((pre ++ x :: r)[i]?)) := fun c => by rw [Nat.ble_eq_true_of_le c] at hbl; cases hbl
      rw [len_eq] at hle
      have h2' : maxGo r x (lenOf ((pre ++ x :: r)[pre.length]?)) = some z := by rw [lx, ← len_eq]; exact h2
      refine z1 x pre.length z h2' hx (by omega) fun j hj2 => ?_
      by_cases e : j = pre.length
      · subst e
        refine ⟨⟨x, xs, hx, h1⟩, Nat.le_refl _, fun hlt => by omega⟩
      · have z2 := hj j (by omega)
        refine ⟨z2.1, by omega, fun _ => by omega⟩
theorem maxOf_spec {ds : List PyData} {z : PyData} (h : maxOf ds = some z) : 0 < ds.length ∧ ∃ i, ds[i]? = some z ∧ i < ds.length ∧ ∀ j, j < ds.length → (∃ d xs, ds[j]? = some d ∧ toLs d = some xs) ∧ lenOf ds[i]? ≥ lenOf ds[j]? ∧ (j < i → lenOf ds[i]? > lenOf ds[j]?) := by
  cases ds with
  | nil => cases h
  | cons x r =>
    obtain ⟨xs, h1, h2⟩ := bd_some (show bd (toLs x) _ = some z from h)
    refine ⟨by simp, maxGo_spec r [x] x 0 z ?_ rfl (by simp) fun j hj => ?_⟩
    · show maxGo r x (lenOf (some x)) = some z
      have e : lenOf (some x) = len xs := by rw [len_eq, lenOf_some h1]
      rw [e]
      exact h2
    · have e : j = 0 := by
        have : j < 1 := hj
        omega
      subst e
      exact ⟨⟨x, xs, rfl, h1⟩, Nat.le_refl _, fun c => absurd c (Nat.lt_irrefl _)⟩
section
variable {X : Cx} {e : Expr} {re : RE} {p p2 kp pos : Pos}
theorem je_maxLen (hc : X.calm = true) (ha : JE X e re) (hg : Gl X "max") (hm : X.mg "max" = none) (hg2 : Gl X "len") (hm2 : X.mg "len" = none) (hs : starEach [e] X.env = (false, eval e X.env) :: starEach [] X.env := by rfl)
    (he : backTo pos (starEach [e] X.env) = (false, eval e X.env) :: backTo pos (starEach [] X.env) := by rfl) (hpl : (backTo pos (starEach [e] X.env)).any (·.1) = false := by rfl) :
    JE X (.Call (.Name "max" p) [e] [⟨some "key", .Name "len" p2, kp⟩] pos) (e1 dMaxLen re) := by
  refine PE.imp (pe_maxLen hc hg hm hg2 hm2 (pa_cons ha pa_nil hs) he hpl) ?_
  rintro σ H Q ⟨F0, H0, F, env, z, R, hr, k⟩
  obtain ⟨d, h1, h2⟩ := bd_some hr
  obtain ⟨ds, h3, h4⟩ := bd_some h2
  have e1 := toLs_some h3
  subst e1
  refine ⟨F0, H0, F, env, _, R, h1, fun v F1 H1 g1 n1 => ?_⟩
  obtain ⟨hpos, i, hi, hil, hj⟩ := maxOf_spec h4
  cases n1 with
  | lst hq ra =>
    rename_i a xs
    have hlen := ra.length
    refine ⟨a, xs, fun j => lenOf ds[j]?, rfl, .inl (.inl (g1.fh _ _ hq)), by omega, fun j x hx => ?_, fun i' x hx hb => ?_⟩
    · obtain ⟨d, hd, dn⟩ := ra.at' hx
      have hjl : j < ds.length := (List.getElem?_eq_some_iff.mp hd).1
      obtain ⟨⟨d', ys, hd', hy⟩, _⟩ := hj j hjl
      rw [hd] at hd'
      cases hd'
      have e3 := toLs_some hy
      subst e3
      cases dn with
      | lst hq2 ra2 => exact ⟨_, _, rfl, .inl (.inl (g1.fh _ _ hq2)), by rw [ra2.length]; show _ = lenOf ds[j]?; rw [hd]; rfl⟩
    · obtain ⟨d, hd, dn⟩ := ra.at' hx
      have hil' : i' < ds.length := (List.getElem?_eq_some_iff.mp hd).1
      have b1 : lenOf ds[i']? ≥ lenOf ds[i]? ∧ (i < i' → lenOf ds[i']? > lenOf ds[i]?) := hb i (by omega)
      have b2 := (hj i' hil').2
      have e : i' = i := by
        rcases Nat.lt_trichotomy i' i with c | c | c
        · have := b2.2 c
          have := b1.1
          omega
        · exact c
        · have := b1.2 c
          have := b2.1
          omega
      subst e
      rw [hi] at hd
      cases hd
      exact k x F1 H1 g1 dn
end
end K67
set_option Elab.async false
set_option linter.all false
set_option maxRecDepth 100000
set_option maxHeartbeats 4000000
namespace K67
open PySem PySem.Spec PyProof.Rows L2
variable [TabA]
abbrev N_clocks_with : List PySem.Str := ["n", "found", "p", "e", "rows", "row", "clocks", "one"]
theorem sc_clocks_with : FnScope N_clocks_with ["n"] (defScope s_clocks_with) := ⟨rfl, rfl, rfl, by decide +kernel, rfl, by decide +kernel, by decide +kernel⟩
noncomputable def r_clocks_with : RS := (sSeq (sSet 1 (eLst (aCons (eTup aNil) aNil))) (sSeq (sFor (iSeq (eCall rf_powers_of (aCons (eVar 0) aNil))) (b2 2 3) (sSeq (sSet 4 (eLc (iSeq (eCall (rf_parts_of 6) (aCons (eVar 3) (aCons (eC (.int (.ofNat 1))) aNil)))) (b1 5) rYes (eCall (l1 dTuple) (aCons (eLc (iSeq (eVar 5)) (b1 7) rYes (eCall rf_to_power (aCons (eVar 2) (aCons (eVar 7) aNil))) [7]) aNil)) [5])) (sSet 1 (eLc2 (iSeq (eVar 1)) (b1 6) (iSeq (eVar 4)) (b1 5) (e2 dAdd (eVar 6) (eVar 5)) [6, 5] [5])))) (sRet (eCall (l1 dTuple) (aCons (eCall (l1 dSorted) (aCons (eVar 1) aNil)) aNil)))))
noncomputable def rf_clocks_with : List PyData → Option PyData := rfOf 7 r_clocks_with
theorem fn_clocks_with {P : Program} {w : World} {K : PySem.W.Frag} {mg : Str → Option Value} {base : Heap} (M : Md K mg base) : FnAt P w K mg base "clocks_with" 7 1 rf_clocks_with := by
  obtain ⟨fd, F⟩ := M.c.def_ 17 (d := d_clocks_with) rfl
  refine fn_mk F (M.glo 17 rfl) sc_clocks_with rfl rfl (fun _ _ _ _ _ _ us hl => match us, hl with | [_], _ => rfl) fun cdv A outer s0 H E hr => ?_
  exact (jss_cons (js_set (i := 1) sc_clocks_with.nd rfl (by first | exact Or.inl rfl | exact Or.inr rfl) (je_lst (ja_cons (je_tup ja_nil) ja_nil))) (jss_cons (js_for PassesOwn.never rfl roT_mono (JI.toT (ji_seq (je_fn (fn_powers_of M) (hr.mono (by decide)) (by rfl) (ja_cons (je_var 0) ja_nil)))) (jg_2 (i := 2) (j := 3) rfl sc_clocks_with.nd rfl (by first | exact Or.inl rfl | exact Or.inr rfl) rfl (by first | exact Or.inl rfl | exact Or.inr rfl)) (jss_cons (js_set (i := 4) sc_clocks_with.nd rfl (by first | exact Or.inl rfl | exact Or.inr rfl) (je_lc (own := [("row", 5)]) rfl sc_clocks_with.nd roD_mono (ji_seq (je_fn ((fun M => fn_parts_of M 6) M) (hr.mono (by decide)) (by rfl) (ja_cons (je_var 3) (ja_cons je_int ja_nil)))) (blkOk_by (own := [("row", 5)]) (N := N_clocks_with) (sc := defScope s_clocks_with) (by decide +kernel)) (fun _ _ _ _ _ => (jg_name (i := 5) sc_clocks_with.nd rfl (by first | exact Or.inl rfl | exact Or.inr rfl))) (fun _ _ _ _ _ => jts_nil) (fun _ _ _ _ _ => (je_callTy call_tupleF ok_tuple (by rfl) (Md.b_tuple M) bt_tuple (ja_cons (je_lc (own := [("one", 7)]) rfl sc_clocks_with.nd roD_mono (ji_seq (je_var 5)) (blkOk_by (own := [("one", 7)]) (by kernel_rfl)) (fun _ _ _ _ _ => (jg_name (i := 7) sc_clocks_with.nd rfl (by first | exact Or.inl rfl | exact Or.inr rfl))) (fun _ _ _ _ _ => jts_nil) (fun _ _ _ _ _ => (je_fn (fn_to_power M) (hr.mono (by decide)) (by rfl) (ja_cons (je_var 2) (ja_cons (je_var 7) ja_nil)))) (by decide)) ja_nil))) (by decide))) (jss_one (js_setLc2 (own := [("clocks", 6), ("row", 5)]) (vs1 := [5]) (i := 1) rfl sc_clocks_with.nd rfl rfl (sw_true rfl rfl rfl (by decide +kernel)) roD_mono roD_mono (ji_seq (je_var 1)) (blkOk_by (own := [("clocks", 6), ("row", 5)]) (N := N_clocks_with) (sc := defScope s_clocks_with) (by decide +kernel)) (by decide) (fun _ _ _ _ _ => (jg_name (i := 6) sc_clocks_with.nd rfl (by first | exact Or.inl rfl | exact Or.inr rfl))) (fun _ _ _ _ _ => (ji_seq (je_var 4))) (fun _ _ _ _ _ => (jg_name (i := 5) sc_clocks_with.nd rfl (by first | exact Or.inl rfl | exact Or.inr rfl))) (fun _ _ _ _ _ => (je_bin opr_add ok_add (je_var 6) (je_var 5))) (by decide) (by decide))))) (jss_one (js_ret (je_callTy call_tupleF ok_tuple (by rfl) (Md.b_tuple M) bt_tuple (ja_cons (je_callB cr_sortedF ok_sorted (by rfl) (Md.b_sorted M) bt_sorted (ja_cons (je_var 1) ja_nil)) ja_nil))))))
abbrev N_kinds : List PySem.Str := ["n"]
theorem sc_kinds : FnScope N_kinds ["n"] (defScope s_kinds) := ⟨rfl, rfl, rfl, by decide +kernel, rfl, by decide +kernel, by decide +kernel⟩
noncomputable def r_kinds : RS := (sSeq (sIf (rNot (tB (eCall rf_is_between (aCons (eVar 0) (aCons (eC (.int (.ofNat 1))) (aCons (eC (.int (.ofNat 1000))) aNil)))))) sNever sNx) (sRet (eCall rf_clocks_with (aCons (eVar 0) aNil))))
noncomputable def rf_kinds : List PyData → Option PyData := rfOf 0 r_kinds
theorem fn_kinds {P : Program} {w : World} {K : PySem.W.Frag} {mg : Str → Option Value} {base : Heap} (M : Md K mg base) : FnAt P w K mg base "kinds" 8 1 rf_kinds := by
  obtain ⟨fd, F⟩ := M.c.def_ 18 (d := d_kinds) rfl
  refine fn_mk F (M.glo 18 rfl) sc_kinds rfl rfl (fun _ _ _ _ _ _ us hl => match us, hl with | [_], _ => rfl) fun cdv A outer s0 H E hr => ?_
  exact (jss_cons (js_if (jt_not (jt_val (je_fn (fn_is_between M) (hr.mono (by decide)) (by rfl) (ja_cons (je_var 0) (ja_cons je_int (ja_cons (je_glob (by rfl) (Md.int_MOST_PRODUCT M)) ja_nil)))))) (jss_one js_never) jss_nil) (jss_one (js_ret (je_fn (fn_clocks_with M) (hr.mono (by decide)) (by rfl) (ja_cons (je_var 0) ja_nil)))))
abbrev N_generators : List PySem.Str := ["table", "size", "found", "told", "rows", "able", "best", "a", "row", "b"]
theorem sc_generators : FnScope N_generators ["table", "size"] (defScope s_generators) := ⟨rfl, rfl, rfl, by decide +kernel, rfl, by decide +kernel, by decide +kernel⟩
noncomputable def r_generators : RS := (sSeq (sOwn 2 aNil) (sSeq (sSet 3 (eLst (aCons (eC (.int (.ofNat 0))) aNil))) (sSeq (loopW (tB (e2 dLt (eCall (l1 dLen) (aCons (eVar 3) aNil)) (eVar 1))) (sSeq (sSet 4 (eLc (iRng1 (eCall (l1 dLen) (aCons (eVar 0) aNil))) (b1 7) rYes (eCall rf_multiples (aCons (eVar 0) (aCons (eVar 7) aNil))) [7])) (sSeq (sSet 5 (eLc (iSeq (eVar 4)) (b1 8) (rAnd (tB (e2 dEq (e2 dMod (eVar 1) (eCall (l1 dLen) (aCons (eVar 8) aNil))) (eC (.int (.ofNat 0))))) (rAnd (tB (e2 dEq (eLc (iSeq (eVar 8)) (b1 7) (tB (e2 dIn (eVar 7) (eVar 3))) (eVar 7) [7]) (eLst (aCons (eC (.int (.ofNat 0))) aNil)))) (tB (e2 dGt (eCall (l1 dLen) (aCons (eVar 8) aNil)) (eC (.int (.ofNat 1))))))) (eVar 8) [8])) (sSeq (sSet 6 (e1 dMaxLen (eVar 5))) (sSeq (sApp 2 (eVar 6)) (sSet 3 (eLc2 (iSeq (eVar 3)) (b1 7) (iSeq (eVar 6)) (b1 9) (e2 dIx (e2 dIx (e2 dIx (eVar 0) (eC (.int (.ofNat 0)))) (eVar 7)) (eVar 9)) [7, 9] [9])))))) 200) (sFrz 2 (sRet (e1 dRev (eVar 2)))))))
noncomputable def rf_generators : List PyData → Option PyData := rfOf 8 r_generators
theorem fn_generators {P : Program} {w : World} {K : PySem.W.Frag} {mg : Str → Option Value} {base : Heap} (M : Md K mg base) : FnAt P w K mg base "generators" 2 2 rf_generators := by
  obtain ⟨fd, F⟩ := M.c.def_ 38 (d := d_generators) rfl
  refine fn_mk F (M.glo 38 rfl) sc_generators rfl rfl (fun _ _ _ _ _ _ us hl => match us, hl with | [_, _], _ => rfl) fun cdv A outer s0 H E hr => ?_
  exact (jss_cons (js_own (i := 2) sc_generators.nd rfl (by first | exact Or.inl rfl | exact Or.inr rfl) ja_nil) (jss_cons (js_set (i := 3) sc_generators.nd rfl (by first | exact Or.inl rfl | exact Or.inr rfl) (je_lst (ja_cons je_int ja_nil))) (jss_cons (js_while 200 PassesOwn.never (jt_cmp (op_lt.or (op_ltT hr.units0)) ok_lt (je_callB call_len_seq ok_len (by rfl) (Md.b_len M) bt_len (ja_cons (je_var 3) ja_nil)) (je_var 1) (nomark _)) (jss_cons (js_setLc (own := [("a", 7)]) (i := 4) rfl sc_generators.nd rfl rfl (sw_true rfl rfl rfl (by decide +kernel)) roD_mono (ji_rng1 (by rfl) (Md.b_range M) (je_callB call_len_seq ok_len (by rfl) (Md.b_len M) bt_len (ja_cons (je_var 0) ja_nil))) (blkOk_by (own := [("a", 7)]) (N := N_generators) (sc := defScope s_generators) (by decide +kernel)) (fun _ _ _ _ _ => (jg_name (i := 7) sc_generators.nd rfl (by first | exact Or.inl rfl | exact Or.inr rfl))) (fun _ _ _ _ _ => jts_nil) (fun _ _ _ _ _ => (je_fn (fn_multiples M) (hr.mono (by decide)) (by rfl) (ja_cons (je_var 0) (ja_cons (je_var 7) ja_nil)))) (by decide)) (jss_cons (js_setLc (own := [("row", 8)]) (i := 5) rfl sc_generators.nd rfl rfl (sw_true rfl rfl rfl (by decide +kernel)) roD_mono (ji_seq (je_var 4)) (blkOk_by (own := [("row", 8)]) (N := N_generators) (sc := defScope s_generators) (by decide +kernel)) (fun _ _ _ _ _ => (jg_name (i := 8) sc_generators.nd rfl (by first | exact Or.inl rfl | exact Or.inr rfl))) (fun _ _ _ _ _ => (jts_one (PW.pt (jw_and (jt_cmp (op_eqD hr.units) ok_eq (je_bin op_mod ok_mod (je_var 1) (je_callB call_len_seq ok_len (by rfl) (Md.b_len M) bt_len (ja_cons (je_var 8) ja_nil))) je_int (nomark _)) (jw_and (jt_cmp (op_eqD hr.units) ok_eq (je_lc (own := [("a", 7)]) rfl sc_generators.nd roD_mono (ji_seq (je_var 8)) (blkOk_by (own := [("a", 7)]) (by kernel_rfl)) (fun _ _ _ _ _ => (jg_name (i := 7) sc_generators.nd rfl (by first | exact Or.inl rfl | exact Or.inr rfl))) (fun _ _ _ _ _ => (jts_one (jt_cmp op_in_seq ok_in (je_var 7) (je_var 3) (by rfl)))) (fun _ _ _ _ _ => (je_var 7)) (by decide)) (je_lst (ja_cons je_int ja_nil)) (nomark _)) (jw_1 (jt_cmp op_gt ok_gt (je_callB call_len_seq ok_len (by rfl) (Md.b_len M) bt_len (ja_cons (je_var 8) ja_nil)) je_int (nomark _)))))))) (fun _ _ _ _ _ => (je_var 8)) (by decide)) (jss_cons (js_set (i := 6) sc_generators.nd rfl (by first | exact Or.inl rfl | exact Or.inr rfl) (je_maxLen rfl (je_var 5) (by rfl) (Md.b_max M) (by rfl) (Md.b_len M))) (jss_cons (js_app (i := 2) rfl (by first | exact Or.inl rfl | exact Or.inr (Or.inl rfl) | exact Or.inr (Or.inr rfl)) (je_var 6)) (jss_one (js_set (i := 3) sc_generators.nd rfl (by first | exact Or.inl rfl | exact Or.inr rfl) (je_lc2 (own := [("a", 7), ("b", 9)]) (vs1 := [9]) rfl sc_generators.nd roD_mono roD_mono (ji_seq (je_var 3)) (blkOk_by (own := [("a", 7), ("b", 9)]) (N := N_generators) (sc := defScope s_generators) (by decide +kernel)) (by decide) (fun _ _ _ _ _ => (jg_name (i := 7) sc_generators.nd rfl (by first | exact Or.inl rfl | exact Or.inr rfl))) (fun _ _ _ _ _ => (ji_seq (je_var 6))) (fun _ _ _ _ _ => (jg_name (i := 9) sc_generators.nd rfl (by first | exact Or.inl rfl | exact Or.inr rfl))) (fun _ _ _ _ _ => (je_ix (ix_list.or ix_tup) ok_ix (je_ix (ix_list.or ix_tup) ok_ix (je_ix (ix_list.or ix_tup) ok_ix (je_var 0) je_int (fun _ _ => rfl)) (je_var 7) (fun _ _ => rfl)) (je_var 9) (fun _ _ => rfl))) (by decide) (by decide))))))))) (js_frz (i := 2) (jss_one (js_ret (je_rev (je_var 2))))))))
abbrev N_law_all_clocks : List PySem.Str := ["_law_n", "_law_found", "_law_rest", "_law_p", "_law_e", "_law_lot"]
theorem sc_law_all_clocks : FnScope N_law_all_clocks ["_law_n"] (defScope s_law_all_clocks) := ⟨rfl, rfl, rfl, by decide +kernel, rfl, by decide +kernel, by decide +kernel⟩
noncomputable def r_law_all_clocks : RS := (sSeq (sPar3 1 2 3 (eLst (aCons (eTup aNil) aNil)) (eVar 0) (eC (.int (.ofNat 2)))) (sSeq (loopW (tB (e2 dGt (eVar 2) (eC (.int (.ofNat 1))))) (sSeq (sSet 4 (eC (.int (.ofNat 0)))) (sSeq (loopW (tB (e2 dEq (e2 dMod (eCall (l1 dInt) (aCons (eVar 2) aNil)) (eVar 3)) (eC (.int (.ofNat 0))))) (sPar 2 4 (e2 dDiv (eVar 2) (eVar 3)) (e2 dAdd (eVar 4) (eC (.int (.ofNat 1))))) 200) (sSeq (sIf (tB (e2 dGt (eVar 4) (eC (.int (.ofNat 0))))) (sSeq (sSet 5 (eCall (rf_law_parted_powers 6) (aCons (eVar 3) (aCons (eVar 4) (aCons (eC (.int (.ofNat 1))) aNil))))) (sSet 1 (eCall rf_law_put_behind (aCons (eVar 1) (aCons (eVar 5) aNil))))) sNx) (sSet 3 (e2 dAdd (eVar 3) (eC (.int (.ofNat 1)))))))) 200) (sRet (eCall (l1 dSorted) (aCons (eVar 1) aNil)))))
noncomputable def rf_law_all_clocks : List PyData → Option PyData := rfOf 5 r_law_all_clocks
theorem fn_law_all_clocks {P : Program} {w : World} {K : PySem.W.Frag} {mg : Str → Option Value} {base : Heap} (M : Md K mg base) : FnAt P w K mg base "_law_all_clocks" 8 1 rf_law_all_clocks := by
  obtain ⟨fd, F⟩ := M.c.def_ 55 (d := d_law_all_clocks) rfl
  refine fn_mk F (M.glo 55 rfl) sc_law_all_clocks rfl rfl (fun _ _ _ _ _ _ us hl => match us, hl with | [_], _ => rfl) fun cdv A outer s0 H E hr => ?_
  exact (jss_cons (js_par3 (i := 1) (j := 2) (l := 3) rfl sc_law_all_clocks.nd rfl rfl rfl (by decide) (by decide) (by decide) rfl rfl rfl (je_lst (ja_cons (je_tup ja_nil) ja_nil)) (je_var 0) je_int (by rfl)) (jss_cons (js_while 200 PassesOwn.never (jt_cmp op_gt ok_gt (je_var 2) je_int (nomark _)) (jss_cons (js_set (i := 4) sc_law_all_clocks.nd rfl (by first | exact Or.inl rfl | exact Or.inr rfl) je_int) (jss_cons (js_while 200 PassesOwn.never (jt_cmp (op_eqD hr.units) ok_eq (je_bin op_mod ok_mod (je_callTy call_int1 ok_int1 (by rfl) (Md.b_int M) bt_int (ja_cons (je_var 2) ja_nil)) (je_var 3)) je_int (nomark _)) (jss_one (js_par (i := 2) (j := 4) rfl sc_law_all_clocks.nd rfl rfl (by decide) rfl rfl (je_bin op_fdiv ok_div (je_var 2) (je_var 3)) (je_bin opr_add ok_add (je_var 4) je_int) (by rfl)))) (jss_cons (js_if (jt_cmp op_gt ok_gt (je_var 4) je_int (nomark _)) (jss_cons (js_set (i := 5) sc_law_all_clocks.nd rfl (by first | exact Or.inl rfl | exact Or.inr rfl) (je_fn ((fun M => fn_law_parted_powers M 6) M) (hr.mono (by decide)) (by rfl) (ja_cons (je_var 3) (ja_cons (je_var 4) (ja_cons je_int ja_nil))))) (jss_one (js_set (i := 1) sc_law_all_clocks.nd rfl (by first | exact Or.inl rfl | exact Or.inr rfl) (je_fn (fn_law_put_behind M) (hr.mono (by decide)) (by rfl) (ja_cons (je_var 1) (ja_cons (je_var 5) ja_nil)))))) jss_nil) (jss_one (js_set (i := 3) sc_law_all_clocks.nd rfl (by first | exact Or.inl rfl | exact Or.inr rfl) (je_bin opr_add ok_add (je_var 3) je_int))))))) (jss_one (js_ret (je_callB cr_sortedF ok_sorted (by rfl) (Md.b_sorted M) bt_sorted (ja_cons (je_var 1) ja_nil))))))
end K67
set_option Elab.async false
set_option linter.all false
set_option maxRecDepth 100000
set_option maxHeartbeats 4000000
namespace K67
open PySem PySem.Spec PyProof.Rows L2
variable [TabA]
abbrev N_coordinates_of : List PySem.Str := ["table", "rows", "hands", "row", "p", "_", "state", "told", "at", "a"]
theorem sc_coordinates_of : FnScope N_coordinates_of ["table"] (defScope s_coordinates_of) := ⟨rfl, rfl, rfl, by decide +kernel, rfl, by decide +kernel, by decide +kernel⟩
noncomputable def r_coordinates_of : RS := (sSeq (sOwn 1 aNil) (sSeq (sFor (iSeq (eCall rf_powers_of (aCons (eCall (l1 dLen) (aCons (eVar 0) aNil)) aNil))) (b2 4 5) (sExt 1 (eCall rf_generators (aCons (eVar 0) (aCons (eCall rf_share_of (aCons (eCall (l1 dLen) (aCons (eVar 0) aNil)) (aCons (eVar 4) aNil))) aNil))))) (sSeq (sSet 2 (eDictI (eC (.int (.ofNat 0))) (eTup aNil))) (sFrz 1 (sSeq (sFor (iSeq (eVar 1)) (b1 3) (sSet 2 (eDc2 (iItems (eVar 2)) (b2 6 7) (rbLvlD (iEnum (eVar 3)) (b2 8 9) (rbInD (e2 dIx (e2 dIx (e2 dIx (eVar 0) (eC (.int (.ofNat 0)))) (eVar 6)) (eVar 9)) (e2 dAdd (eVar 7) (eTup (aCons (eVar 8) aNil)))) [8, 9]) [6, 7, 8, 9]))) (sRet (eTup (aCons (eCall (l1 dTuple) (aCons (eLc (iSeq (eVar 1)) (b1 3) rYes (eCall (l1 dLen) (aCons (eVar 3) aNil)) [3]) aNil)) (aCons (eCall (l1 dTuple) (aCons (eLc (iRng1 (eCall (l1 dLen) (aCons (eVar 0) aNil))) (b1 6) rYes (e2 dGetK (eVar 2) (eVar 6)) [6]) aNil)) aNil)))))))))
noncomputable def rf_coordinates_of : List PyData → Option PyData := rfOf 9 r_coordinates_of
theorem fn_coordinates_of {P : Program} {w : World} {K : PySem.W.Frag} {mg : Str → Option Value} {base : Heap} (M : Md K mg base) : FnAt P w K mg base "coordinates_of" 3 1 rf_coordinates_of := by
  obtain ⟨fd, F⟩ := M.c.def_ 39 (d := d_coordinates_of) rfl
  refine fn_mk F (M.glo 39 rfl) sc_coordinates_of rfl rfl (fun _ _ _ _ _ _ us hl => match us, hl with | [_], _ => rfl) fun cdv A outer s0 H E hr => ?_
  exact (jss_cons (js_own (i := 1) sc_coordinates_of.nd rfl (by first | exact Or.inl rfl | exact Or.inr rfl) ja_nil) (jss_cons (js_for PassesOwn.never rfl roT_mono (JI.toT (ji_seq (je_fn (fn_powers_of M) (hr.mono (by decide)) (by rfl) (ja_cons (je_callB call_len_seq ok_len (by rfl) (Md.b_len M) bt_len (ja_cons (je_var 0) ja_nil)) ja_nil)))) (jg_2 (i := 4) (j := 5) rfl sc_coordinates_of.nd rfl (by first | exact Or.inl rfl | exact Or.inr rfl) rfl (by first | exact Or.inl rfl | exact Or.inr rfl)) (jss_one (js_ext (i := 1) rfl (by first | exact Or.inl rfl | exact Or.inr (Or.inl rfl) | exact Or.inr (Or.inr rfl)) (je_fn (fn_generators M) (hr.mono (by decide)) (by rfl) (ja_cons (je_var 0) (ja_cons (je_fn (fn_share_of M) (hr.mono (by decide)) (by rfl) (ja_cons (je_callB call_len_seq ok_len (by rfl) (Md.b_len M) bt_len (ja_cons (je_var 0) ja_nil)) (ja_cons (je_var 4) ja_nil))) ja_nil)))))) (jss_cons (js_set (i := 2) sc_coordinates_of.nd rfl (by first | exact Or.inl rfl | exact Or.inr rfl) (je_dictI je_int (je_tup ja_nil))) (js_frz (i := 1) (jss_cons (js_for PassesOwn.never rfl roD_mono (ji_seq (je_var 1)) (jg_name (i := 3) sc_coordinates_of.nd rfl (by first | exact Or.inl rfl | exact Or.inr rfl)) (jss_one (js_set (i := 2) sc_coordinates_of.nd rfl (by first | exact Or.inl rfl | exact Or.inr rfl) (je_dc2 (own := [("state", 6), ("told", 7), ("at", 8), ("a", 9)]) (vs1 := [8, 9]) rfl sc_coordinates_of.nd roT_mono roT_mono (ji_items (je_var 2)) (blkOk_by (own := [("state", 6), ("told", 7), ("at", 8), ("a", 9)]) (N := N_coordinates_of) (sc := defScope s_coordinates_of) (by decide +kernel)) (by decide) (fun _ _ _ _ _ => (jg_2 (i := 6) (j := 7) rfl sc_coordinates_of.nd rfl (by first | exact Or.inl rfl | exact Or.inr rfl) rfl (by first | exact Or.inl rfl | exact Or.inr rfl))) (fun _ _ _ _ _ => (ji_enum (by rfl) (Md.b_enumerate M) (je_var 3))) (fun _ _ _ _ _ => (jg_2 (i := 8) (j := 9) rfl sc_coordinates_of.nd rfl (by first | exact Or.inl rfl | exact Or.inr rfl) rfl (by first | exact Or.inl rfl | exact Or.inr rfl))) (fun _ _ _ _ _ => (je_ix (ix_list.or ix_tup) ok_ix (je_ix (ix_list.or ix_tup) ok_ix (je_ix (ix_list.or ix_tup) ok_ix (je_var 0) je_int (fun _ _ => rfl)) (je_var 6) (fun _ _ => rfl)) (je_var 9) (fun _ _ => rfl))) (fun _ _ _ _ _ => (je_bin opr_add ok_add (je_var 7) (je_tup (ja_cons (je_var 8) ja_nil)))) (by decide) (by decide))))) (jss_one (js_ret (je_tup (ja_cons (je_callTy call_tupleF ok_tuple (by rfl) (Md.b_tuple M) bt_tuple (ja_cons (je_lc (own := [("row", 3)]) rfl sc_coordinates_of.nd roD_mono (ji_seq (je_var 1)) (blkOk_by (own := [("row", 3)]) (N := N_coordinates_of) (sc := defScope s_coordinates_of) (by decide +kernel)) (fun _ _ _ _ _ => (jg_name (i := 3) sc_coordinates_of.nd rfl (by first | exact Or.inl rfl | exact Or.inr rfl))) (fun _ _ _ _ _ => jts_nil) (fun _ _ _ _ _ => (je_callB call_len_seq ok_len (by rfl) (Md.b_len M) bt_len (ja_cons (je_var 3) ja_nil))) (by decide)) ja_nil)) (ja_cons (je_callTy call_tupleF ok_tuple (by rfl) (Md.b_tuple M) bt_tuple (ja_cons (je_lc (own := [("state", 6)]) rfl sc_coordinates_of.nd roD_mono (ji_rng1 (by rfl) (Md.b_range M) (je_callB call_len_seq ok_len (by rfl) (Md.b_len M) bt_len (ja_cons (je_var 0) ja_nil))) (blkOk_by (own := [("state", 6)]) (N := N_coordinates_of) (sc := defScope s_coordinates_of) (by decide +kernel)) (fun _ _ _ _ _ => (jg_name (i := 6) sc_coordinates_of.nd rfl (by first | exact Or.inl rfl | exact Or.inr rfl))) (fun _ _ _ _ _ => jts_nil) (fun _ _ _ _ _ => (je_getD hr.units (je_var 2) (je_var 6) (fun _ _ => rfl))) (by decide)) ja_nil)) ja_nil))))))))))
abbrev N_coordinates : List PySem.Str := ["table"]
theorem sc_coordinates : FnScope N_coordinates ["table"] (defScope s_coordinates) := ⟨rfl, rfl, rfl, by decide +kernel, rfl, by decide +kernel, by decide +kernel⟩
noncomputable def r_coordinates : RS := (sSeq (sSet 0 (eCall rf_full_table (aCons (eVar 0) aNil))) (sSeq (sExp (eCall rf_want_proof (aCons (eVar 0) (aCons (eC (.int (.ofNat 0))) aNil)))) (sRet (eCall rf_coordinates_of (aCons (eVar 0) aNil)))))
noncomputable def rf_coordinates : List PyData → Option PyData := rfOf 0 r_coordinates
theorem fn_coordinates {P : Program} {w : World} {K : PySem.W.Frag} {mg : Str → Option Value} {base : Heap} (M : Md K mg base) : FnAt P w K mg base "coordinates" 7 1 rf_coordinates := by
  obtain ⟨fd, F⟩ := M.c.def_ 40 (d := d_coordinates) rfl
  refine fn_mk F (M.glo 40 rfl) sc_coordinates rfl rfl (fun _ _ _ _ _ _ us hl => match us, hl with | [_], _ => rfl) fun cdv A outer s0 H E hr => ?_
  exact (jss_cons (js_set (i := 0) sc_coordinates.nd rfl (by first | exact Or.inl rfl | exact Or.inr rfl) (je_fn (fn_full_table M) (hr.mono (by decide)) (by rfl) (ja_cons (je_var 0) ja_nil))) (jss_cons (js_exp (je_fn (fn_want_proof M) (hr.mono (by decide)) (by rfl) (ja_cons (je_var 0) (ja_cons je_int ja_nil)))) (jss_one (js_ret (je_fn (fn_coordinates_of M) (hr.mono (by decide)) (by rfl) (ja_cons (je_var 0) ja_nil))))))
abbrev N_law_table_of_hands : List PySem.Str := ["_law_clocks", "_law_hands", "_law_x", "_law_found", "_law_o", "_law_size", "_law_place", "_law_rows", "_law_a", "_law_b"]
theorem sc_law_table_of_hands : FnScope N_law_table_of_hands ["_law_clocks", "_law_hands"] (defScope s_law_table_of_hands) := ⟨rfl, rfl, rfl, by decide +kernel, rfl, by decide +kernel, by decide +kernel⟩
noncomputable def r_law_table_of_hands : RS := (sSeq (sParD 5 6 (eCall (l1 dLen) (aCons (eVar 1) aNil))) (sSeq (sFor (iRng1 (eVar 5)) (b1 2) (sPut 6 (eVar 2) (e2 dIx (eVar 1) (eVar 2)))) (sSeq (sOwn 3 aNil) (sFrzD 6 (sSeq (sFor (iRng1 (eVar 5)) (b1 4) (sSeq (sOwn 7 aNil) (sSeq (sFor (iRng1 (eVar 5)) (b1 8) (sApp 7 (eCall (l1 dTuple) (aCons (eLc (iRng1 (eVar 5)) (b1 9) rYes (e2 dGetK (eVar 6) (eCall rf_law_hands_moved (aCons (eVar 0) (aCons (e2 dIx (eVar 1) (eVar 4)) (aCons (e2 dIx (eVar 1) (eVar 8)) (aCons (e2 dIx (eVar 1) (eVar 9)) aNil)))))) [9]) aNil)))) (sFrz 7 (sApp 3 (eCall (l1 dTuple) (aCons (eVar 7) aNil))))))) (sFrz 3 (sRet (eCall (l1 dTuple) (aCons (eVar 3) aNil)))))))))
noncomputable def rf_law_table_of_hands : List PyData → Option PyData := rfOf 8 r_law_table_of_hands
theorem fn_law_table_of_hands {P : Program} {w : World} {K : PySem.W.Frag} {mg : Str → Option Value} {base : Heap} (M : Md K mg base) : FnAt P w K mg base "_law_table_of_hands" 2 2 rf_law_table_of_hands := by
  obtain ⟨fd, F⟩ := M.c.def_ 47 (d := d_law_table_of_hands) rfl
  refine fn_mk F (M.glo 47 rfl) sc_law_table_of_hands rfl rfl (fun _ _ _ _ _ _ us hl => match us, hl with | [_, _], _ => rfl) fun cdv A outer s0 H E hr => ?_
  exact (jss_cons (js_parD (i := 5) (j := 6) rfl sc_law_table_of_hands.nd rfl (by first | exact Or.inl rfl | exact Or.inr rfl) rfl (by first | exact Or.inl rfl | exact Or.inr rfl) (by decide) (je_callB call_len_seq ok_len (by rfl) (Md.b_len M) bt_len (ja_cons (je_var 1) ja_nil))) (jss_cons (js_for PassesOwn.never rfl roD_mono (ji_rng1 (by rfl) (Md.b_range M) (je_var 5)) (jg_name (i := 2) sc_law_table_of_hands.nd rfl (by first | exact Or.inl rfl | exact Or.inr rfl)) (jss_one (js_put (i := 6) rfl (by first | exact Or.inl rfl | exact Or.inr (Or.inl rfl) | exact Or.inr (Or.inr rfl)) hr.units (je_var 2) (je_ix (ix_list.or ix_tup) ok_ix (je_var 1) (je_var 2) (fun _ _ => rfl))))) (jss_cons (js_own (i := 3) sc_law_table_of_hands.nd rfl (by first | exact Or.inl rfl | exact Or.inr rfl) ja_nil) (js_frzD (i := 6) (jss_cons (js_for PassesOwn.never rfl roD_mono (ji_rng1 (by rfl) (Md.b_range M) (je_var 5)) (jg_name (i := 4) sc_law_table_of_hands.nd rfl (by first | exact Or.inl rfl | exact Or.inr rfl)) (jss_cons (js_own (i := 7) sc_law_table_of_hands.nd rfl (by first | exact Or.inl rfl | exact Or.inr rfl) ja_nil) (jss_cons (js_for PassesOwn.never rfl roD_mono (ji_rng1 (by rfl) (Md.b_range M) (je_var 5)) (jg_name (i := 8) sc_law_table_of_hands.nd rfl (by first | exact Or.inl rfl | exact Or.inr rfl)) (jss_one (js_app (i := 7) rfl (by first | exact Or.inl rfl | exact Or.inr (Or.inl rfl) | exact Or.inr (Or.inr rfl)) (je_callTy call_tupleF ok_tuple (by rfl) (Md.b_tuple M) bt_tuple (ja_cons (je_lc (own := [("_law_b", 9)]) rfl sc_law_table_of_hands.nd roD_mono (ji_rng1 (by rfl) (Md.b_range M) (je_var 5)) (blkOk_by (own := [("_law_b", 9)]) (N := N_law_table_of_hands) (sc := defScope s_law_table_of_hands) (by decide +kernel)) (fun _ _ _ _ _ => (jg_name (i := 9) sc_law_table_of_hands.nd rfl (by first | exact Or.inl rfl | exact Or.inr rfl))) (fun _ _ _ _ _ => jts_nil) (fun _ _ _ _ _ => (je_getD hr.units (je_var 6) (je_fn (fn_law_hands_moved M) (hr.mono (by decide)) (by rfl) (ja_cons (je_var 0) (ja_cons (je_ix (ix_list.or ix_tup) ok_ix (je_var 1) (je_var 4) (fun _ _ => rfl)) (ja_cons (je_ix (ix_list.or ix_tup) ok_ix (je_var 1) (je_var 8) (fun _ _ => rfl)) (ja_cons (je_ix (ix_list.or ix_tup) ok_ix (je_var 1) (je_var 9) (fun _ _ => rfl)) ja_nil))))) (fun _ _ => rfl))) (by decide)) ja_nil))))) (js_frz (i := 7) (jss_one (js_app (i := 3) rfl (by first | exact Or.inl rfl | exact Or.inr (Or.inl rfl) | exact Or.inr (Or.inr rfl)) (je_callTy call_tupleF ok_tuple (by rfl) (Md.b_tuple M) bt_tuple (ja_cons (je_var 7) ja_nil)))))))) (js_frz (i := 3) (jss_one (js_ret (je_callTy call_tupleF ok_tuple (by rfl) (Md.b_tuple M) bt_tuple (ja_cons (je_var 3) ja_nil))))))))))
abbrev N_law_turnings_tried : List PySem.Str := ["_law_clocks", "_law_rows", "_law_clock", "_law_hands", "_law_noughts", "_law_longer", "_law_had", "_law_hand", "_law_more", "_law_often", "_law_by", "_law_one_here"]
theorem sc_law_turnings_tried : FnScope N_law_turnings_tried ["_law_clocks"] (defScope s_law_turnings_tried) := ⟨rfl, rfl, rfl, by decide +kernel, rfl, by decide +kernel, by decide +kernel⟩
noncomputable def r_law_turnings_tried : RS := (sSeq (sPar 3 4 (eCall rf_law_all_hands (aCons (eVar 0) aNil)) (e2 dMul (eTup (aCons (eC (.int (.ofNat 0))) aNil)) (eCall (l1 dLen) (aCons (eVar 0) aNil)))) (sSeq (sSet 1 (eLst (aCons (eDict1 (eVar 4) (eC (.bool true))) aNil))) (sSeq (sFor (iSeq (eVar 0)) (b1 2) (sSeq (sOwn 5 aNil) (sSeq (sFor (iSeq (eVar 1)) (b1 6) (sFor (iSeq (eVar 3)) (b1 7) (sIf (tB (e2 dEq (eCall rf_law_times_hand (aCons (eVar 0) (aCons (eVar 7) (aCons (eVar 2) aNil)))) (eVar 4))) (sSeq (sOwnD 8) (sSeq (sFor (iRng1 (eVar 2)) (b1 9) (sSeq (sSet 10 (eCall rf_law_times_hand (aCons (eVar 0) (aCons (eVar 7) (aCons (eVar 9) aNil))))) (sFor (iKeys (eVar 6)) (b1 11) (sPut 8 (eC (.bool true)) (eCall rf_law_hand_sum (aCons (eVar 0) (aCons (eVar 11) (aCons (eVar 10) aNil)))))))) (sFrzD 8 (sIf (tB (e2 dEq (eCall (l1 dLenD) (aCons (eVar 8) aNil)) (e2 dMul (eCall (l1 dLenD) (aCons (eVar 6) aNil)) (eVar 2)))) (sApp 5 (eVar 8)) sNx)))) sNx))) (sFrz 5 (sSet 1 (eVar 5)))))) (sRet (eCall (l1 dLen) (aCons (eVar 1) aNil))))))
noncomputable def rf_law_turnings_tried : List PyData → Option PyData := rfOf 11 r_law_turnings_tried
theorem fn_law_turnings_tried {P : Program} {w : World} {K : PySem.W.Frag} {mg : Str → Option Value} {base : Heap} (M : Md K mg base) : FnAt P w K mg base "_law_turnings_tried" 3 1 rf_law_turnings_tried := by
  obtain ⟨fd, F⟩ := M.c.def_ 60 (d := d_law_turnings_tried) rfl
  refine fn_mk F (M.glo 60 rfl) sc_law_turnings_tried rfl rfl (fun _ _ _ _ _ _ us hl => match us, hl with | [_], _ => rfl) fun cdv A outer s0 H E hr => ?_
  exact (jss_cons (js_par (i := 3) (j := 4) rfl sc_law_turnings_tried.nd rfl rfl (by decide) rfl rfl (je_fn (fn_law_all_hands M) (hr.mono (by decide)) (by rfl) (ja_cons (je_var 0) ja_nil)) (je_bin opr_mul ok_mul (je_tup (ja_cons je_int ja_nil)) (je_callB call_len_seq ok_len (by rfl) (Md.b_len M) bt_len (ja_cons (je_var 0) ja_nil))) (by rfl)) (jss_cons (js_set (i := 1) sc_law_turnings_tried.nd rfl (by first | exact Or.inl rfl | exact Or.inr rfl) (je_lst (ja_cons (je_dict1 hr.units (je_var 4) je_bl) ja_nil))) (jss_cons (js_for PassesOwn.never rfl roD_mono (ji_seq (je_var 0)) (jg_name (i := 2) sc_law_turnings_tried.nd rfl (by first | exact Or.inl rfl | exact Or.inr rfl)) (jss_cons (js_own (i := 5) sc_law_turnings_tried.nd rfl (by first | exact Or.inl rfl | exact Or.inr rfl) ja_nil) (jss_cons (js_for PassesOwn.never rfl roD_mono (ji_seq (je_var 1)) (jg_name (i := 6) sc_law_turnings_tried.nd rfl (by first | exact Or.inl rfl | exact Or.inr rfl)) (jss_one (js_for PassesOwn.never rfl roD_mono (ji_seq (je_var 3)) (jg_name (i := 7) sc_law_turnings_tried.nd rfl (by first | exact Or.inl rfl | exact Or.inr rfl)) (jss_one (js_if (jt_cmp (op_eqD hr.units) ok_eq (je_fn (fn_law_times_hand M) (hr.mono (by decide)) (by rfl) (ja_cons (je_var 0) (ja_cons (je_var 7) (ja_cons (je_var 2) ja_nil)))) (je_var 4) (nomark _)) (jss_cons (js_ownD (i := 8) sc_law_turnings_tried.nd rfl (by first | exact Or.inl rfl | exact Or.inr rfl)) (jss_cons (js_for PassesOwn.never rfl roD_mono (ji_rng1 (by rfl) (Md.b_range M) (je_var 2)) (jg_name (i := 9) sc_law_turnings_tried.nd rfl (by first | exact Or.inl rfl | exact Or.inr rfl)) (jss_cons (js_set (i := 10) sc_law_turnings_tried.nd rfl (by first | exact Or.inl rfl | exact Or.inr rfl) (je_fn (fn_law_times_hand M) (hr.mono (by decide)) (by rfl) (ja_cons (je_var 0) (ja_cons (je_var 7) (ja_cons (je_var 9) ja_nil))))) (jss_one (js_for PassesOwn.never rfl roD_mono (ji_keys (je_var 6)) (jg_name (i := 11) sc_law_turnings_tried.nd rfl (by first | exact Or.inl rfl | exact Or.inr rfl)) (jss_one (js_put (i := 8) rfl (by first | exact Or.inl rfl | exact Or.inr (Or.inl rfl) | exact Or.inr (Or.inr rfl)) hr.units je_bl (je_fn (fn_law_hand_sum M) (hr.mono (by decide)) (by rfl) (ja_cons (je_var 0) (ja_cons (je_var 11) (ja_cons (je_var 10) ja_nil)))))))))) (js_frzD (i := 8) (jss_one (js_if (jt_cmp (op_eqD hr.units) ok_eq (je_callB call_lenN ok_lenD (by rfl) (Md.b_len M) bt_len (ja_cons (je_var 8) ja_nil)) (je_bin opr_mul ok_mul (je_callB call_lenN ok_lenD (by rfl) (Md.b_len M) bt_len (ja_cons (je_var 6) ja_nil)) (je_var 2)) (nomark _)) (jss_one (js_app (i := 5) rfl (by first | exact Or.inl rfl | exact Or.inr (Or.inl rfl) | exact Or.inr (Or.inr rfl)) (je_var 8))) jss_nil))))) jss_nil))))) (js_frz (i := 5) (jss_one (js_set (i := 1) sc_law_turnings_tried.nd rfl (by first | exact Or.inl rfl | exact Or.inr rfl) (je_var 5))))))) (jss_one (js_ret (je_callB call_len_seq ok_len (by rfl) (Md.b_len M) bt_len (ja_cons (je_var 1) ja_nil)))))))
end K67
set_option Elab.async false
set_option linter.all false
set_option maxRecDepth 100000
set_option maxHeartbeats 4000000
namespace K67
open PySem PySem.Spec PyProof.Rows L2
variable [TabA]
section
variable {P : Program} {w : World} {K : PySem.W.Frag} {mg : Str → Option Value} {base : Heap}
/-- a state of data, nothing own -/
theorem rel_from {F0 H0 F H : Hp} {σ : L2.St} {env : En} (g : Grow F0 H0 F H) (n0 : NoT F0) (t0 : Told F0 H0) (hl : σ.length = env.length) (hn : ∀ a ∈ env, ¬ a.own) (h : ∀ (i : Nat) a, env[i]? = some a → a = .no ∨ (∃ dc de v, a = .fn dc de ∧ σ[i]? = some (some v) ∧ FnIn P w F v dc de) ∨ ∃ d v, a = .fz d ∧ σ[i]? = some (some v) ∧ Dn P w F v d) : Rel P w F0 H0 F H σ env := by
  refine ⟨g, hl, ⟨fun _ => 0, fun i so sv a b => ?_, fun i j a b ha hb oa ob _ => ?_⟩, n0, t0⟩
  · rcases h i sv b with rfl | ⟨dc, de, v, rfl, e, dn⟩ | ⟨d, v, rfl, e, dn⟩
    · cases so <;> trivial
    · rw [a] at e
      cases e
      exact dn
    · rw [a] at e
      cases e
      exact dn
  · exact (hn a (List.mem_of_getElem? ha) oa).elim
theorem fn_mkT {x qual : Str} {params : Arguments} {body : List Stmt} {scope : Scope} {f : Addr} {fd : FuncData} {N ps : List Str} {k n : Nat} {rf : List PyData → Option PyData} (F : FunD K x qual params body scope [] [] f fd) (hm : mg x = some (.ref f)) (S : FnScope N ps scope) (hn : ps.length = n)
    (hbind : ∀ (kV doc pm : Value) (an : Option Addr) (cdv ct : Value) (us : List Value), us.length = ps.length → bindArgs (PySem.W.fnOf x qual params body scope .none kV doc pm an cdv ct) ⟨us, []⟩ = pure (ps.zip us))
    (hb : ∀ (cdv : Value) (A : Around) (outer : List Env) (s0 : Shared) (H : Hp) (E : XK), Room k (A.deeper (envOfC qual scope s0.heap.objs.size f cdv)) → ∃ t, PSs (cxOf CX0 P w K mg base N qual scope f cdv A outer s0 H E).nox body t ∧ ∀ vs H' Q E', spOf P w n rf vs H' Q E' → t { nx := fun _ H' => Q .non H', rt := Q } (L2.start N vs) H') :
    FnAt P w K mg base x (k + 1) n rf := by
  refine ⟨f, fd, ps, F.ok S (fun vs H Q E h => by rw [h.len, hn]) fun cdv A outer s0 H vs Q E hr h => ?_, hm, F.kp, F.bindsN hbind⟩
  obtain ⟨t, ht, hq⟩ := hb cdv A outer s0 H E hr
  exact ⟨t, ht.nox, hq vs H Q E h⟩
end
/-! ### a dict of own lists -/
abbrev KL := List (Int × List PyData)
noncomputable def storeG (p : Int) (e : PyData) (kls : KL) : KL := @List.rec (Int × List PyData) (fun _ => KL) [(p, [e])] (fun x r ih => bIf (zEq x.1 p) ((x.1, app x.2 [e]) :: r) (x :: ih)) kls
noncomputable def kdsOf (kls : KL) : KD := @List.rec (Int × List PyData) (fun _ => KD) [] (fun x _ ih => (.int x.1, .list x.2) :: ih) kls
inductive GOk (P : Program) (w : World) (F H0 H : Hp) (d : Addr) : List (Key × V) → KL → Prop
  | nil : GOk P w F H0 H d [] []
  | cons {i : Int} {l : Addr} {kvs : List (Key × V)} {xs : List V} {ds : List PyData} {kls : KL} : l ≠ d → F l = none → H0 l = none → H l = some (.lst xs) → DnAll P w F xs ds → (∀ e ∈ kvs, e.2 ≠ .ref l) → GOk P w F H0 H d kvs kls → GOk P w F H0 H d ((.inl i, .ref l) :: kvs) ((i, ds) :: kls)
section
variable {P : Program} {w : World} {F F' H0 H H' : Hp} {d : Addr}
theorem GOk.length : ∀ {kvs : List (Key × V)} {kls : KL}, GOk P w F H0 H d kvs kls → kvs.length = kls.length
  | _, _, .nil => rfl
  | _, _, .cons _ _ _ _ _ _ r => by simp [GOk.length r]
theorem GOk.grow (g : Grow F H F' H') : ∀ {kvs : List (Key × V)} {kls : KL}, GOk P w F H0 H d kvs kls → GOk P w F' H0 H' d kvs kls
  | _, _, .nil => .nil
  | _, _, .cons a b c h r n t => .cons a (g.still b h) c (g.hh.get _ _ h) (r.mono g.ff) n (GOk.grow g t)
theorem GOk.wr {l : Addr} {o : HO} {kvs : List (Key × V)} {kls : KL} (hn : ∀ e ∈ kvs, e.2 ≠ .ref l) (G : GOk P w F H0 H d kvs kls) : GOk P w F H0 (upd H l o) d kvs kls := by
  induction G with
  | nil => exact .nil
  | cons a b c h r n t ih => exact .cons a b c (by rw [upd_ne (fun z => hn _ List.mem_cons_self (by rw [z]))]; exact h) r n (ih fun e he => hn e (List.mem_cons_of_mem _ he))
/-- what stands at an old object is another one -/
theorem GOk.ne {l : Addr} (n : H l = none) : ∀ {kvs : List (Key × V)} {kls : KL}, GOk P w F H0 H d kvs kls → ∀ e ∈ kvs, e.2 ≠ .ref l
  | _, _, .nil, e, he => absurd he (by simp)
  | _, _, .cons (l := l') a b c h r n' t, e, he => by
    rcases List.mem_cons.mp he with rfl | he
    · intro z
      have z : l' = l := V.ref.inj z
      rw [z, n] at h
      cases h
    · exact GOk.ne n t e he
theorem GOk.ned : ∀ {kvs : List (Key × V)} {kls : KL}, GOk P w F H0 H d kvs kls → ∀ e ∈ kvs, e.2 ≠ .ref d
  | _, _, .nil, e, he => absurd he (by simp)
  | _, _, .cons (l := l') a b c h r n' t, e, he => by
    rcases List.mem_cons.mp he with rfl | he
    · exact fun z => a (V.ref.inj z)
    · exact GOk.ned t e he
theorem valV_mem : ∀ {kvs : List (Key × V)} {k : Key} {v : V}, valV kvs k = some v → ∃ e ∈ kvs, e.2 = v
  | [], k, v, h => by cases h
  | x :: kvs, k, v, h => by
    by_cases e : x.1 = k
    · rw [valV_pos e] at h
      cases h
      exact ⟨x, List.mem_cons_self, rfl⟩
    · rw [valV_neg e] at h
      obtain ⟨y, hy, z⟩ := valV_mem h
      exact ⟨y, List.mem_cons_of_mem _ hy, z⟩
theorem GOk.found {p : Int} {v : V} : ∀ {kvs : List (Key × V)} {kls : KL}, GOk P w F H0 H d kvs kls → valV kvs (.inl p) = some v → ∃ l xs, (∃ x ∈ kls, xs.length = x.2.length) ∧ v = .ref l ∧ l ≠ d ∧ F l = none ∧ H0 l = none ∧ H l = some (.lst xs) ∧
    ∀ ev ed, Dn P w F ev ed → GOk P w F H0 (upd H l (.lst (xs ++ [ev]))) d kvs (storeG p ed kls)
  | _, _, .nil, h => by cases h
  | _, _, .cons (i := i) (l := l) (kvs := kvs) (xs := xs) (ds := ds) (kls := kls) a b c h r n t, hv => by
    by_cases e : i = p
    · subst e
      rw [valV_pos rfl] at hv
      cases hv
      refine ⟨l, xs, ⟨_, List.mem_cons_self, r.length⟩, rfl, a, b, c, h, fun ev ed dn => ?_⟩
      show GOk P w F H0 _ d _ (bIf (zEq i i) ((i, app ds [ed]) :: kls) _)
      rw [zEq_eq, decide_eq_true rfl]
      exact .cons a b c upd_same (by rw [app_eq]; exact r.app (.cons dn .nil)) n (GOk.wr n t)
    · rw [valV_neg (fun z => e (by injection z))] at hv
      obtain ⟨l', xs', ⟨z, hz, hl⟩, rfl, k1, k2, k3, k4, k5⟩ := GOk.found t hv
      refine ⟨l', xs', ⟨z, List.mem_cons_of_mem _ hz, hl⟩, rfl, k1, k2, k3, k4, fun ev ed dn => ?_⟩
      show GOk P w F H0 _ d _ (bIf (zEq i p) _ ((i, ds) :: storeG p ed kls))
      rw [zEq_eq, decide_eq_false e]
      obtain ⟨x, hx, ex⟩ := valV_mem hv
      have ne : l ≠ l' := fun z => n x hx (by rw [ex, z])
      exact .cons a b c (by rw [upd_ne ne]; exact h) r n (k5 ev ed dn)
theorem GOk.new {p : Int} {l : Addr} {ev : V} {ed : PyData} (hd : l ≠ d) (fl : F l = none) (zl : H0 l = none) (hl : H l = some (.lst [ev])) (dn : Dn P w F ev ed) : ∀ {kvs : List (Key × V)} {kls : KL}, GOk P w F H0 H d kvs kls → (∀ e ∈ kvs, e.2 ≠ .ref l) → valV kvs (.inl p) = none → GOk P w F H0 H d (kvs ++ [(.inl p, .ref l)]) (storeG p ed kls)
  | _, _, .nil, _, _ => .cons hd fl zl hl (.cons dn .nil) (fun e he => absurd he (by simp)) .nil
  | _, _, .cons (i := i) (l := l') (kvs := kvs) (xs := xs) (ds := ds) (kls := kls) a b c h r n t, hne, hv => by
    by_cases e : i = p
    · subst e
      rw [valV_pos rfl] at hv
      cases hv
    · rw [valV_neg (fun z => e (by injection z))] at hv
      show GOk P w F H0 _ d ((.inl i, .ref l') :: (kvs ++ [(.inl p, .ref l)])) (bIf (zEq i p) _ ((i, ds) :: storeG p ed kls))
      rw [zEq_eq, decide_eq_false e]
      refine .cons a b c h r (fun x hx => ?_) (GOk.new hd fl zl hl dn t (fun x hx => hne x (List.mem_cons_of_mem _ hx)) hv)
      rcases List.mem_append.mp hx with hx | hx
      · exact n x hx
      · rw [List.mem_singleton.mp hx]
        exact fun z => hne _ List.mem_cons_self z.symm
/-- the lists are frozen -/
theorem GOk.freeze : ∀ {kvs : List (Key × V)} {kls : KL} {F : Hp}, GOk P w F H0 H d kvs kls → ∀ {FA : Hp}, Grow FA H0 F H → ∃ F', Grow FA H0 F' H ∧ Same F F' ∧ (F d = none → F' d = none) ∧ DnKs P w F' kvs (kdsOf kls)
  | _, _, F, .nil, _, g => ⟨F, g, .refl _, id, .nil⟩
  | _, _, F, .cons (i := i) (l := l) (kvs := kvs) (xs := xs) (ds := ds) (kls := kls) a b c h r n t, FA, g => by
    have g1 := g.frz b c h
    have m : Same F (upd F l (.lst xs)) := fun x o e => by rw [upd_ne (ne_of_none e b)]; exact e
    have t1 : GOk P w (upd F l (.lst xs)) H0 H d kvs kls := by
      have : ∀ {kvs : List (Key × V)} {kls : KL}, (∀ e ∈ kvs, e.2 ≠ .ref l) → GOk P w F H0 H d kvs kls → GOk P w (upd F l (.lst xs)) H0 H d kvs kls := by
        intro kvs kls hn G
        induction G with
        | nil => exact .nil
        | cons a' b' c' h' r' n' t' ih => exact .cons a' (by rw [upd_ne (fun z => hn _ List.mem_cons_self (by rw [z]))]; exact b') c' h' (r'.mono m) n' (ih fun e he => hn e (List.mem_cons_of_mem _ he))
      exact this n t
    obtain ⟨F', g', s', fd, ks⟩ := GOk.freeze t1 g1
    refine ⟨F', g', m.trans s', fun e => fd (by rw [upd_ne (Ne.symm a)]; exact e), .cons ?_ ks⟩
    exact .lst (s' _ _ upd_same) ((r.mono m).mono s')
end
/-! ### for k in d, ints as keys -/
noncomputable def iKeysI (r : RE) : RA := fun env => bd (r env) fun d => bd (toDc d) fun kds => bIf (intK kds) (some (keysD kds)) none
theorem keysI_at {P : Program} {w : World} {F : Hp} : ∀ {es : List (Key × V)} {kds : KD} {i : Nat} {k : Key} {v : V}, DnKs P w F es kds → es[i]? = some (k, v) → ∃ j, k = .inl j ∧ (keysD kds)[i]? = some (.int j)
  | _, _, _, _, _, .nil, h => by simp at h
  | _, _, 0, k, v, .cons (i := j) (v := v') (kvs := es) (vd := vd') (kds := kds) c r, h => by
    simp at h
    obtain ⟨rfl, rfl⟩ := h
    exact ⟨j, rfl, rfl⟩
  | _, _, i + 1, k, v, .cons (i := j) (v := v') (kvs := es) (vd := vd') (kds := kds) c r, h => by
    obtain ⟨m, h1, h2⟩ := keysI_at r (i := i) (by simpa using h)
    exact ⟨m, h1, by show (PyData.int j :: keysD kds)[i + 1]? = _; simpa using h2⟩
theorem ji_keysI {X : Cx} {tg e : Expr} {re : RE} (he : JE X e re) : JI X (roD X.prog X.w) tg e (iKeysI re) := by
  refine ⟨PI.imp (pi_keys he) ?_⟩
  rintro σ H Q ⟨F0, H0, F, env, ds, R, hr, k⟩
  obtain ⟨d, h1, hr⟩ := bd_some hr
  obtain ⟨kds, h2, hr⟩ := bd_some hr
  obtain ⟨h3, h4⟩ := bIf_some hr
  cases h4
  have e := toDc_some h2
  subst e
  refine ⟨F0, H0, F, env, _, R, h1, fun x F1 H1 g1 n1 => ?_⟩
  cases n1 with
  | dic hq rq =>
    cases rq with
    | nil => cases h3
    | cons a b c r =>
      obtain ⟨ds, rfl⟩ := keyOf_ref a b
      cases h3
  | dci hq rq =>
    rename_i q o kvs
    refine ⟨q, o, rfl, .inl ⟨kvs, g1.fh _ _ hq, k _ F1 H1 g1 ?_⟩⟩
    unfold WalkD
    rw [keysD_len, ← rq.length]
    refine ⟨fun i H hi sm => ⟨sm _ _ hq, hi⟩, fun H sm => ⟨sm _ _ hq, Nat.le_refl _⟩, fun i H x H' hi sm y => ?_⟩
    obtain ⟨rfl, kk, v, hkv, rfl⟩ := y
    obtain ⟨j, rfl, h5⟩ := keysI_at rq hkv
    exact ⟨_, F1, h5, .int j, Grow.refl sm⟩
/-- .. of a name; an empty dict too -/
noncomputable def intK0 (kds : KD) : Bool := @List.rec (PyData × PyData) (fun _ => Bool) true (fun p r _ => intK (p :: r)) kds
noncomputable def iKeysJ (i : Nat) : RA := fun env => bd (eVar i env) fun d => bd (toDc d) fun kds => bIf (intK0 kds) (some (keysD kds)) none
theorem eVar_slot {P : Program} {w : World} {F H F0 H0 : Hp} {σ : L2.St} {env : En} {i : Nat} {d : PyData} (R : Rel P w F0 H0 F H σ env) (h : eVar i env = some d) : ∃ v, NdefX.slotAt σ i = some v ∧ Dn P w F v d := by
  obtain ⟨sv, h1, hr⟩ := bd_some h
  rw [nth_eq] at h1
  cases sv <;> first | cases hr | skip
  obtain ⟨p, so, hso, ok⟩ := R.get h1
  cases so with
  | none => exact ok.elim
  | some v => exact ⟨v, NdefX.slotAt_of hso, ok⟩
theorem ji_keysJ {X : Cx} {tg : Expr} {pos : Pos} (i : Nat) {x : Str} (hN : X.N[i]? = some x := by rfl) (hv : Vis X.env.scope x := by first | exact Or.inl rfl | exact Or.inr (Or.inl rfl) | exact Or.inr (Or.inr rfl)) (hd : (x == ("__debug__" : Str)) = false := by decide)
    (hcd : (x == ("__classdict__" : Str)) = false := by decide) : JI X (roD X.prog X.w) tg (.Name x pos) (iKeysJ i) := by
  refine ⟨⟨fun pins s σ H RR I h => ?_⟩⟩
  obtain ⟨F0, H0, F, env, ds, R, hr, k⟩ := h
  obtain ⟨d, h1, hr1⟩ := bd_some hr
  obtain ⟨kds, h2, hr2⟩ := bd_some hr1
  obtain ⟨h3, h4⟩ := bIf_some hr2
  cases h4
  clear hr hr1 hr2
  have e := toDc_some h2
  subst e
  obtain ⟨v, hs0, dn⟩ := eVar_slot R h1
  have hs := NdefX.slotAt_some hs0
  have pv := pe_var (X := X) (pos := pos) hN hv hd hcd
  have g1 := Grow.refl R.fh
  cases dn with
  | dic hq rq =>
    cases rq with
    | nil =>
      rename_i q o
      refine (pi_keysN pv).run pins s σ H RR I ⟨_, hs, q, o, [], F, [], rfl, R.fh _ _ hq, k _ F H g1 ?_⟩
      unfold WalkD
      refine ⟨fun i H hi sm => ⟨⟨sm _ _ hq, sm⟩, hi⟩, fun H sm => ⟨⟨sm _ _ hq, sm⟩, Nat.le_refl _⟩, fun i H x H' hi sm y => absurd hi (Nat.not_lt_zero _)⟩
    | cons a b c r =>
      obtain ⟨ds, rfl⟩ := keyOf_ref a b
      cases h3
  | dci hq rq =>
    rename_i q o kvs
    refine (pi_keys pv).run pins s σ H RR I ⟨_, hs, q, o, rfl, .inl ⟨kvs, R.fh _ _ hq, k _ F H g1 ?_⟩⟩
    unfold WalkD
    rw [keysD_len, ← rq.length]
    refine ⟨fun i H hi sm => ⟨sm _ _ hq, hi⟩, fun H sm => ⟨sm _ _ hq, Nat.le_refl _⟩, fun i H x H' hi sm y => ?_⟩
    obtain ⟨rfl, kk, v, hkv, rfl⟩ := y
    obtain ⟨j, rfl, h5⟩ := keysI_at rq hkv
    exact ⟨_, F, h5, .int j, Grow.refl sm⟩
/-! ### self_turnings_of -/
abbrev N_self : List PySem.Str := ["clocks", "by_prime", "clock", "p", "e", "found"]
theorem sc_self : FnScope N_self ["clocks"] (defScope s_self_turnings_of) := ⟨rfl, rfl, rfl, by decide +kernel, rfl, by decide +kernel, by decide +kernel⟩
noncomputable def rePe : RE := e2 dIx (eCall rf_powers_of (aCons (eVar 2) aNil)) (eC (.int (.ofNat 0)))
noncomputable def stepG (d : PyData) (kls : KL) : Option KL := bd (rePe [.no, .no, .fz d, .no, .no, .no]) fun pe => bd (toTp pe) fun xs => @List.rec PyData (fun _ => Option KL) none (fun x r _ => @List.rec PyData (fun _ => Option KL) none (fun y r _ => @List.rec PyData (fun _ => Option KL) (bd (toI x) fun p => bIf (Nat.ble (len kls) 1000) (bIf (allB (fun x => Nat.ble (len x.2) 1000) kls) (some (storeG p y kls)) none) none) (fun _ _ _ => none) r) r) xs
noncomputable def groupG (ds : List PyData) : KL → Option KL := @List.rec PyData (fun _ => KL → Option KL) (fun kls => some kls) (fun d _ ih kls => bd (stepG d kls) ih) ds
noncomputable def r_selfR : RS := (sSeq (sSet 5 (eC (.int (.ofNat 1)))) (sSeq (sFor (iKeysJ 1) (b1 3) (sSet 5 (e2 dMul (eVar 5) (eCall rf_turnings_of (aCons (eVar 3) (aCons (e2 dGetK (eVar 1) (eVar 3)) aNil)))))) (sRet (eVar 5))))
noncomputable def ocD (o : Oc) : Option PyData := @Oc.rec (fun _ => Option PyData) (fun _ => some .none) (fun d => some d) o
noncomputable def rf_self_turnings_of (ds : List PyData) : Option PyData := l1 (fun d => bd (toTp d) fun cl => bd (groupG cl []) fun kls => bd (r_selfR [.fz d, .fz (.dict (kdsOf kls)), .no, .no, .no, .no]) ocD) ds

/-- behind this point the object at d is locked -/
theorem pss_lk {X : Cx} {rest : List Stmt} {t : TS} (h : PSs X rest t) : PSs X rest (fun D σ H => ∃ d u, H d = some u ∧ Mut (some u) ∧ ∀ o, t D σ (upd H d (.frz o u))) := by
  refine ⟨fun pins s σ H D I q => ?_⟩
  obtain ⟨d, u, hd, mu, k⟩ := q
  obtain ⟨o, I1⟩ := I.lock hd mu
  exact h.run pins s σ _ D I1 (k o)
theorem fn_self_turnings_of {P : Program} {w : World} {K : PySem.W.Frag} {mg : Str → Option Value} {base : Heap} (M : Md K mg base) : FnAt P w K mg base "self_turnings_of" 8 1 rf_self_turnings_of := by
  obtain ⟨fd, F⟩ := M.c.def_ 25 (d := d_self_turnings_of) rfl
  refine FnAt.mono (j := 8) (fn_mkT (k := 7) F (M.glo 25 rfl) sc_self rfl (fun _ _ _ _ _ _ us hl => match us, hl with | [_], _ => rfl) fun cdv A outer s0 H0z E hr => ?_) (Nat.le_refl _)
  refine ⟨_, pss_cons (ps_set (i := 1) sc_self.nd rfl (by first | exact Or.inl rfl | exact Or.inr rfl) pe_dnewK rfl) (pss_cons (ps_for PassesOwn.never rfl (ji_seq (je_var 0)).pi (pg_name (i := 2) sc_self.nd rfl (by first | exact Or.inl rfl | exact Or.inr rfl))
      (pss_cons (ps_asg (je_ix (ix_list.or ix_tup) ok_ix (je_fn (fn_powers_of M) (hr.mono (by decide)) (by rfl) (ja_cons (je_var 2) ja_nil)) je_int (fun _ _ => rfl)) (pg_tup (n := 2) rfl (pgs_cons (pg_name (i := 3) sc_self.nd rfl (by first | exact Or.inl rfl | exact Or.inr rfl)) (pgs_cons (pg_name (i := 4) sc_self.nd rfl (by first | exact Or.inl rfl | exact Or.inr rfl)) pgs_nil))))
        (pss_cons (ps_expr (pe_bm PySem.F.plainAttrs_list PySem.F.slot_list_append PySem.F.type_list_append mt_append (pe_dsetd (pe_var (i := 1) rfl (by first | exact Or.inl rfl | exact Or.inr (Or.inl rfl))) (pe_var (i := 3) rfl (by first | exact Or.inl rfl | exact Or.inr (Or.inl rfl))) (pe_lst pa_nil) ⟨rfl, rfl, rfl, rfl⟩) (pa_cons (pe_var (i := 4) rfl (by first | exact Or.inl rfl | exact Or.inr (Or.inl rfl))) pa_nil rfl)) rfl) pss_nil)))
      (pss_lk (jss_cons (js_set (i := 5) sc_self.nd rfl (by first | exact Or.inl rfl | exact Or.inr rfl) je_int) (jss_cons (js_for PassesOwn.never rfl roD_mono (ji_keysJ 1) (jg_name (i := 3) sc_self.nd rfl (by first | exact Or.inl rfl | exact Or.inr rfl)) (jss_one (js_set (i := 5) sc_self.nd rfl (by first | exact Or.inl rfl | exact Or.inr rfl) (je_bin opr_mul ok_mul (je_var 5) (je_fn (fn_turnings_of M) (hr.mono (by decide)) (by rfl) (ja_cons (je_var 3) (ja_cons (je_getD hr.units (je_var 1) (je_var 3) (fun _ _ => rfl)) ja_nil))))))) (jss_one (js_ret (je_var 5))))))), ?_⟩
  rintro vs H0 Q E' ⟨F0, ds, d, s0, n0, t0, r, l, hr, kk⟩
  obtain ⟨d1, rfl, hr⟩ := l1_some hr
  obtain ⟨cl, h1, hr⟩ := bd_some hr
  obtain ⟨klsF, h2, hr⟩ := bd_some hr
  obtain ⟨o, h3, h4⟩ := bd_some hr
  have e1 := toTp_some h1
  subst e1
  cases r with
  | cons dn1 rr =>
  cases rr
  rename_i v1
  intro q nq
  have G1 : Grow F0 H0 F0 (upd H0 q (.dK [])) := Grow.more s0 nq
  refine ⟨F0, _, F0, [.fz (.tuple cl), .no, .no, .no, .no, .no], cl, rel_from (Grow.refl G1.fh) n0 (t0.grow G1) rfl (by simp [SV.own]) (fun i a ha => ?_), rfl, fun J F1 H2 g2 W => ?_⟩
  · match i, ha with
    | 0, ha => cases ha; exact .inr (.inr ⟨_, v1, rfl, rfl, dn1⟩)
    | 1, ha => cases ha; exact .inl rfl
    | 2, ha => cases ha; exact .inl rfl
    | 3, ha => cases ha; exact .inl rfl
    | 4, ha => cases ha; exact .inl rfl
    | 5, ha => cases ha; exact .inl rfl
    | n + 6, ha => cases ha
  refine for_it W (fun i σ H => ∃ F kvs kls, Grow F0 H0 F H ∧ Same F1 F ∧ σ.length = 6 ∧ σ[0]? = some (some v1) ∧ σ[1]? = some (some (.ref q)) ∧ H q = some (.dK kvs) ∧ F q = none ∧ GOk P w F H0 H q kvs kls ∧ groupG (cl.drop i) kls = some klsF)
    ⟨F1, [], [], G1.trans g2, .refl _, rfl, rfl, rfl, g2.hh.get _ _ upd_same, g2.still (s0.free nq) upd_same, .nil, h2⟩ (fun i σ H hi ⟨F, kvs, kls, G, s', _⟩ => s'.trans G.fh) ?_ ?_
  · rintro i x σ H H' hi ⟨F, kvs, kls, G, s', hl, hs0, hs1, hq, fq, gk, hgr⟩ ⟨dc, F2, hd, hx, g3⟩
    obtain ⟨F3, g4, s3⟩ := Grow.join (G.nt n0) s' G.fh g3
    have hdrop : cl.drop i = dc :: cl.drop (i + 1) := by
      obtain ⟨h1, h2⟩ := List.getElem?_eq_some_iff.mp hd
      rw [List.drop_eq_getElem_cons h1, h2]
    rw [hdrop] at hgr
    obtain ⟨kls1, hst, hgr⟩ := bd_some (show bd (stepG dc kls) (groupG (cl.drop (i + 1))) = some klsF from hgr)
    obtain ⟨pe, hpe, hst⟩ := bd_some hst
    obtain ⟨xs, hxs, hst⟩ := bd_some hst
    have exs := toTp_some hxs
    subst exs
    match xs, hst with
    | [xd, yd], hst =>
    obtain ⟨p, hp, hst⟩ := bd_some (show bd (toI xd) _ = some kls1 from hst)
    obtain ⟨b1, hst⟩ := bIf_some hst
    obtain ⟨b2, hst⟩ := bIf_some hst
    cases hst
    have ep := toI_some hp
    subst ep
    have b1 := ble_le b1
    rw [len_eq] at b1
    have G4 := G.trans g4
    have hx3 : Dn P w F3 x dc := Dn.mono s3 hx
    refine ⟨F3, H', F3, [.no, .no, .fz dc, .no, .no, .no], _, rel_from (Grow.refl G4.fh) (G4.nt n0) (t0.grow G4) (by simp [hl]) (by simp [SV.own]) (fun i a ha => ?_), hpe, fun v F5 H5 g5 n5 => ?_⟩
    · match i, ha with
      | 0, ha => cases ha; exact .inl rfl
      | 1, ha => cases ha; exact .inl rfl
      | 2, ha => cases ha; exact .inr (.inr ⟨_, x, rfl, by rw [List.getElem?_set_self (by omega)], hx3⟩)
      | 3, ha => cases ha; exact .inl rfl
      | 4, ha => cases ha; exact .inl rfl
      | 5, ha => cases ha; exact .inl rfl
      | n + 6, ha => cases ha
    cases n5 with
    | tup ha ra =>
    cases ra with
    | cons r3 ra =>
    cases ra with
    | cons r4 ra =>
    cases ra
    rename_i a us v3 v4
    cases r3
    have G5 := G4.trans g5
    have gk5 := (gk.grow g4).grow g5
    have hq5 := g5.hh.get _ _ (g4.hh.get _ _ hq)
    have fq5 := g5.still (g4.still fq hq) (g4.hh.get _ _ hq)
    refine ⟨a, _, rfl, tF_sq (g5.fh _ _ ha), rfl, _, _, rfl, _, _, rfl, rfl, ?_⟩
    have t1 : ((((σ.set 2 (some x)).set 3 (some (.int p))).set 4 (some v4)))[1]? = some (some (.ref q)) := by
      rw [List.getElem?_set_ne (by decide), List.getElem?_set_ne (by decide), List.getElem?_set_ne (by decide)]; exact hs1
    have t0' : ((((σ.set 2 (some x)).set 3 (some (.int p))).set 4 (some v4)))[0]? = some (some v1) := by
      rw [List.getElem?_set_ne (by decide), List.getElem?_set_ne (by decide), List.getElem?_set_ne (by decide)]; exact hs0
    have t3 : ((((σ.set 2 (some x)).set 3 (some (.int p))).set 4 (some v4)))[3]? = some (some (.int p)) := by
      rw [List.getElem?_set_ne (by decide), List.getElem?_set_self (by simp; omega)]
    have t4 : ((((σ.set 2 (some x)).set 3 (some (.int p))).set 4 (some v4)))[4]? = some (some v4) := by
      rw [List.getElem?_set_self (by simp; omega)]
    have tl : ((((σ.set 2 (some x)).set 3 (some (.int p))).set 4 (some v4))).length = 6 := by simp [hl]
    generalize hσ : (((σ.set 2 (some x)).set 3 (some (.int p))).set 4 (some v4)) = σ' at t1 t0' t3 t4 tl ⊢
    refine ⟨.ref q, t1, q, rfl, .inl ⟨kvs, .inl hq5⟩, .int p, t3, ?_⟩
    refine ⟨Nat.zero_le _, fun l0 nl => ?_⟩
    have ql : q ≠ l0 := ne_of_none hq5 nl
    have g6 : Grow F5 H5 F5 (upd H5 l0 (.lst [])) := Grow.more G5.fh nl
    have G6 := G5.trans g6
    have gk6 := gk5.grow g6
    have hq6 : upd H5 l0 (.lst []) q = some (.dK kvs) := by rw [upd_ne ql]; exact hq5
    have zl : H0 l0 = none := G5.hh.free nl
    have fl : F5 l0 = none := G5.fh.free nl
    have hlen : kvs.length < sizeLine := by rw [gk.length, sizeLine_eq]; omega
    refine ⟨kvs, .inl p, hq6, rfl, hlen, fun v hv => ?_, fun hv => ?_⟩
    · obtain ⟨l, xs, ⟨z, hz, hzl⟩, rfl, k1, k2, k3, k4, k5⟩ := gk6.found hv
      have hz2 := allB_iff b2 z hz
      have hz2 := ble_le hz2
      rw [len_eq] at hz2
      refine ⟨.inl ⟨rfl, xs, .inl (.inl k4)⟩, v4, t4, l, xs, v4, rfl, rfl, k4, by rw [hzl, sizeLine_eq]; omega, ?_⟩
      exact ⟨F5, kvs, storeG p yd kls, G6.wr k2 k3, (s'.trans g4.ff).trans g5.ff, tl, t0', t1, by rw [upd_ne (Ne.symm k1)]; exact hq6, fq5, k5 v4 yd r4, hgr⟩
    · have pk : putK kvs (.inl p) (.ref l0) = kvs ++ [(.inl p, .ref l0)] := putK_new _ hv
      have at_l : upd (upd H5 l0 (.lst [])) q (.dK (putK kvs (.inl p) (.ref l0))) l0 = some (.lst []) := by rw [upd_ne (Ne.symm ql), upd_same]
      refine ⟨.inl ⟨rfl, [], .inl (.inl at_l)⟩, v4, t4, l0, [], v4, rfl, rfl, at_l, by rw [sizeLine_eq]; simp, ?_⟩
      refine ⟨F5, kvs ++ [(.inl p, .ref l0)], storeG p yd kls, (G6.wr fq5 nq).wr fl zl, (s'.trans g4.ff).trans g5.ff, tl, t0', t1, by rw [upd_ne ql, upd_same, pk], fq5, ?_, hgr⟩
      have ne0 := gk5.ne nl
      exact GOk.new (Ne.symm ql) fl zl upd_same r4 (GOk.wr ne0 (GOk.wr gk6.ned gk6)) ne0 hv
  · rintro σ H ⟨F, kvs, kls, G, s', hl, hs0, hs1, hq, fq, gk, hgr⟩
    rw [List.drop_length] at hgr
    cases hgr
    refine ⟨q, _, hq, True.intro, fun ob => ?_⟩
    obtain ⟨F', g', sF, fd', ks⟩ := gk.freeze G
    have fq' := fd' fq
    have g2' := (g'.wr (o := .frz ob (.dK kvs)) fq' nq).frz fq' nq upd_same
    have m : Same F' (upd F' q (.frz ob (.dK kvs))) := fun a x e => by rw [upd_ne (ne_of_none e fq')]; exact e
    have dn1' : Dn P w (upd F' q (.frz ob (.dK kvs))) v1 (.tuple cl) := ((dn1.mono G.ff).mono sF).mono m
    refine ⟨F0, H0, _, [.fz (.tuple cl), .fz (.dict (kdsOf klsF)), .no, .no, .no, .no], o, rel_from g2' n0 t0 (by simp [hl]) (by simp [SV.own]) (fun i a ha => ?_), h3, ?_⟩
    · match i, ha with
      | 0, ha => cases ha; exact .inr (.inr ⟨_, v1, rfl, hs0, dn1'⟩)
      | 1, ha => cases ha; exact .inr (.inr ⟨_, .ref q, rfl, hs1, .dci upd_same (ks.mono m)⟩)
      | 2, ha => cases ha; exact .inl rfl
      | 3, ha => cases ha; exact .inl rfl
      | 4, ha => cases ha; exact .inl rfl
      | 5, ha => cases ha; exact .inl rfl
      | n + 6, ha => cases ha
    · cases o with
      | nx e =>
        cases h4
        exact fun σ' F' H' R _ => kk .non F' H' R.g .non
      | rt d' =>
        cases h4
        exact fun v F' H' g dn => kk v F' H' g dn
end K67
set_option Elab.async false
set_option linter.all false
set_option maxRecDepth 100000
set_option maxHeartbeats 4000000
namespace K67
open PySem PySem.Spec PyProof.Rows L2
variable [TabA]
/-! ### l.index(x), data of any depth -/
noncomputable def idxD (y : PyData) (ds : List PyData) : Option Nat := @List.rec PyData (fun _ => Option Nat) none (fun z _ ih => bIf (eqD 6 z y) (some 0) (bd ih fun n => some (Nat.succ n))) ds
theorem idxD_some {y : PyData} : ∀ {ds : List PyData} {n : Nat}, idxD y ds = some n → ∃ z, ds[n]? = some z ∧ PyData.eqv z y = true ∧ ∀ m z', m < n → ds[m]? = some z' → PyData.eqv z' y = false
  | [], n, h => by cases h
  | d :: ds, n, h => by
    have h : bIf (eqD 6 d y) (some 0) (bd (idxD y ds) fun n => some (Nat.succ n)) = some n := h
    rw [eqD_eq] at h
    cases q : PyData.eqv d y with
    | true =>
      rw [q] at h
      cases h
      exact ⟨d, rfl, q, fun m z' hm => absurd hm (Nat.not_lt_zero m)⟩
    | false =>
      rw [q] at h
      obtain ⟨m, h1, h2⟩ := bd_some (show bd (idxD y ds) _ = some n from h)
      cases h2
      obtain ⟨z, k1, k2, k3⟩ := idxD_some h1
      refine ⟨z, by simpa using k1, k2, fun j z' hj hz => ?_⟩
      cases j with
      | zero =>
        simp at hz
        rw [← hz]; exact q
      | succ j => exact k3 j z' (Nat.lt_of_succ_lt_succ hj) (by simpa using hz)
noncomputable def dIdxD (x y : PyData) : Option PyData := bd (toLs x) fun ds => bIf (fits 6 x) (bIf (fits 6 y) (bd (idxD y ds) fun n => some (.int (Int.ofNat n))) none) none
theorem je_indexD {X : Cx} {o a : Expr} {ro ra : RE} {apos cpos : Pos} (hu : X.A.units + 65 < cLine) (ho : JE X o ro) (ha : JE X a ra)
    (hbase : attributeBase o "index" X.env (eval o X.env) = eval o X.env := by rfl)
    (hfew : ((backTo cpos (starEach [a] X.env)).all (fun x => !x.1) && (backToKw cpos (keywordEach [] X.env)).all (fun x => x.1.isSome)
      && decide ([a].length + ([] : List Keyword).length + (if ([] : List Keyword).isEmpty then 0 else 1) < 30)) = true := by rfl)
    (hline : (apos.endLine == cpos.line) = true := by rfl) (hs : starEach [a] X.env = (false, eval a X.env) :: starEach [] X.env := by rfl) (hplain : (backTo cpos (starEach [] X.env)).any (·.1) = false := by rfl) :
    JE X (.Call (.Attribute o "index" apos) [a] [] cpos) (e2 dIdxD ro ra) := by
  refine PE.imp (pe_bm PySem.F.plainAttrs_list PySem.F.slot_list_index PySem.F.type_list_index (mt_indexD hu) ho (pa_cons ha pa_nil hs) hbase hfew hline hs hplain) ?_
  rintro σ H Q ⟨F0, H0, F, env, z, R, hr, k⟩
  obtain ⟨d, h1, hr⟩ := bd_some hr
  obtain ⟨e, h2, hz⟩ := bd_some hr
  obtain ⟨xs, h3, hz⟩ := bd_some hz
  obtain ⟨f1, hz⟩ := bIf_some hz
  obtain ⟨f2, hz⟩ := bIf_some hz
  obtain ⟨n, h6, hz⟩ := bd_some hz
  cases hz
  have e1 := toLs_some h3
  subst e1
  refine ⟨F0, H0, F, env, _, R, h1, fun v F1 H1 g1 n1 => ?_⟩
  have n1' := n1
  cases n1 with
  | lst hl ra =>
    rename_i aa vs
    refine ⟨.inl ⟨rfl, _, .inl (.inl (g1.fh _ _ hl))⟩, F0, H0, F1, env, _, R.grow g1, h2, fun u F2 H2 g2 n2 => ?_⟩
    obtain ⟨zz, hi, hz, hno⟩ := idxD_some h6
    exact ⟨aa, u, e, xs, n, zz, rfl, rfl, ((n1'.mono g2.ff).mono g2.fh).dp (fits_ok _ _ f1).1, (n2.mono g2.fh).dp (fits_ok _ _ f2).1, shaped_of (by decide) f1, shaped_of (by decide) f2, hi, hz, hno, k _ F2 H2 (g1.trans g2) (.int _)⟩
/-! ### cells tracked, cells let go -/
def drp (F : Hp) (c1 c2 : Addr) : Hp := fun a => if a = c1 ∨ a = c2 then none else F a
def adc (F : Hp) (c1 c2 : Addr) (o1 o2 : Obj) : Hp := fun a => if a = c1 then some (CellH o1) else if a = c2 then some (CellH o2) else F a
section
variable {F H : Hp} {c1 c2 : Addr} {o1 o2 : Obj}
theorem drp_ne {a : Addr} (h1 : a ≠ c1) (h2 : a ≠ c2) : drp F c1 c2 a = F a := by unfold drp; rw [if_neg (fun z => z.elim h1 h2)]
theorem drp_1 : drp F c1 c2 c1 = none := by unfold drp; rw [if_pos (.inl rfl)]
theorem drp_2 : drp F c1 c2 c2 = none := by unfold drp; rw [if_pos (.inr rfl)]
theorem drp_some {a : Addr} {u : HO} (h : drp F c1 c2 a = some u) : F a = some u ∧ a ≠ c1 ∧ a ≠ c2 := by
  by_cases q1 : a = c1
  · subst q1; rw [drp_1] at h; cases h
  · by_cases q2 : a = c2
    · subst q2; rw [drp_2] at h; cases h
    · rw [drp_ne q1 q2] at h; exact ⟨h, q1, q2⟩
theorem drp_none {a : Addr} (h : F a = none) : drp F c1 c2 a = none := by
  by_cases q1 : a = c1
  · subst q1; exact drp_1
  · by_cases q2 : a = c2
    · subst q2; exact drp_2
    · rw [drp_ne q1 q2]; exact h
theorem adc_1 : adc F c1 c2 o1 o2 c1 = some (CellH o1) := by unfold adc; rw [if_pos rfl]
theorem adc_2 (ne : c1 ≠ c2) : adc F c1 c2 o1 o2 c2 = some (CellH o2) := by unfold adc; rw [if_neg (Ne.symm ne), if_pos rfl]
theorem adc_ne {a : Addr} (h1 : a ≠ c1) (h2 : a ≠ c2) : adc F c1 c2 o1 o2 a = F a := by unfold adc; rw [if_neg h1, if_neg h2]
theorem cell_ne {a : Addr} {u : HO} (h1 : F c1 = some (CellH o1)) (h : F a = some u) (n : ∀ o, u ≠ CellH o) : a ≠ c1 := fun z => by
  subst z
  rw [h1] at h
  exact n o1 (Option.some.inj h).symm
mutual
theorem Dn.drp {P : Program} {w : World} (h1 : F c1 = some (CellH o1)) (h2 : F c2 = some (CellH o2)) : ∀ {v : V} {d : PyData}, Dn P w F v d → Dn P w (drp F c1 c2) v d
  | _, _, .non => .non
  | _, _, .bl b => .bl b
  | _, _, .int i => .int i
  | _, _, .str x => .str x
  | _, _, .lst h r => .lst (by rw [drp_ne (cell_ne h1 h (fun _ z => nomatch z)) (cell_ne h2 h (fun _ z => nomatch z))]; exact h) (DnAll.drp h1 h2 r)
  | _, _, .tup h r => .tup (by
      have n : ∀ o us xs, tF us xs ≠ CellH o := fun o us xs z => by unfold tF CellH at z; injection z with _ z; cases z
      rw [drp_ne (cell_ne h1 h (fun o => n o _ _)) (cell_ne h2 h (fun o => n o _ _))]; exact h) (DnAll.drp h1 h2 r)
  | _, _, .dic (a := aa) (o := ob) (es := es) h r => .dic (by
      have n : ∀ o, HO.frz ob (dN P w aa es) ≠ CellH o := fun o z => by unfold CellH dN at z; injection z with _ z; cases z
      rw [drp_ne (cell_ne h1 h n) (cell_ne h2 h n)]; exact h) (DnEs.drp h1 h2 r)
  | _, _, .dci (o := ob) (kvs := kvs) h r => .dci (by
      have n : ∀ o, HO.frz ob (.dK kvs) ≠ CellH o := fun o z => by unfold CellH at z; injection z with _ z; cases z
      rw [drp_ne (cell_ne h1 h n) (cell_ne h2 h n)]; exact h) (DnKs.drp h1 h2 r)
theorem DnAll.drp {P : Program} {w : World} (h1 : F c1 = some (CellH o1)) (h2 : F c2 = some (CellH o2)) : ∀ {v : List V} {d : List PyData}, DnAll P w F v d → DnAll P w (K67.drp F c1 c2) v d
  | _, _, .nil => .nil
  | _, _, .cons a b => .cons (Dn.drp h1 h2 a) (DnAll.drp h1 h2 b)
theorem DnEs.drp {P : Program} {w : World} (h1 : F c1 = some (CellH o1)) (h2 : F c2 = some (CellH o2)) : ∀ {v : List Ent} {d : KD}, DnEs P w F v d → DnEs P w (K67.drp F c1 c2) v d
  | _, _, .nil => .nil
  | _, _, .cons a b c d => .cons (Dn.drp h1 h2 a) b (Dn.drp h1 h2 c) (DnEs.drp h1 h2 d)
theorem DnKs.drp {P : Program} {w : World} (h1 : F c1 = some (CellH o1)) (h2 : F c2 = some (CellH o2)) : ∀ {v : List (Key × V)} {d : KD}, DnKs P w F v d → DnKs P w (K67.drp F c1 c2) v d
  | _, _, .nil => .nil
  | _, _, .cons c d => .cons (Dn.drp h1 h2 c) (DnKs.drp h1 h2 d)
end
theorem cellH_nt : NT (CellH o1) := trivial
/-- the cells come back -/
theorem regrow {F1 H1 : Hp} (sm : Same F H) (ne : c1 ≠ c2) (h1 : F c1 = some (CellH o1)) (h2 : F c2 = some (CellH o2)) (g : Grow (drp F c1 c2) (drp H c1 c2) F1 H1) (f1 : F1 c1 = none) (f2 : F1 c2 = none) :
    Grow F H (adc F1 c1 c2 o1 o2) (adc H1 c1 c2 o1 o2) ∧ Same F1 (adc F1 c1 c2 o1 o2) := by
  have s1 : Same F1 (adc F1 c1 c2 o1 o2) := fun a u e => by rw [adc_ne (fun z => by subst z; rw [f1] at e; cases e) (fun z => by subst z; rw [f2] at e; cases e)]; exact e
  refine ⟨⟨sm, fun a u e => ?_, ⟨fun a u e n => ?_, fun a ps e => ?_⟩, fun a u e => ?_, fun a u e => ?_, fun p ps e => ?_, fun n a u e => ?_⟩, s1⟩
  · by_cases q1 : a = c1
    · subst q1; rw [h1] at e; cases e; exact adc_1
    · by_cases q2 : a = c2
      · subst q2; rw [h2] at e; cases e; exact adc_2 ne
      · rw [adc_ne q1 q2]; exact g.ff _ _ (by rw [drp_ne q1 q2]; exact e)
  · by_cases q1 : a = c1
    · subst q1; rw [sm _ _ h1] at e; cases e; exact adc_1
    · by_cases q2 : a = c2
      · subst q2; rw [sm _ _ h2] at e; cases e; exact adc_2 ne
      · rw [adc_ne q1 q2]; exact g.hh.s _ _ (by rw [drp_ne q1 q2]; exact e) n
  · have q1 : a ≠ c1 := fun z => by subst z; rw [sm _ _ h1] at e; cases e
    have q2 : a ≠ c2 := fun z => by subst z; rw [sm _ _ h2] at e; cases e
    obtain ⟨m, q⟩ := g.hh.t a ps (by rw [drp_ne q1 q2]; exact e)
    exact ⟨m, by rw [adc_ne q1 q2]; exact q⟩
  · by_cases q1 : a = c1
    · subst q1; rw [adc_1] at e ⊢; exact e
    · by_cases q2 : a = c2
      · subst q2; rw [adc_2 ne] at e ⊢; exact e
      · rw [adc_ne q1 q2] at e ⊢; exact g.fh _ _ e
  · by_cases q1 : a = c1
    · subst q1; rw [adc_1] at e; cases e; exact .inl h1
    · by_cases q2 : a = c2
      · subst q2; rw [adc_2 ne] at e; cases e; exact .inl h2
      · rw [adc_ne q1 q2] at e
        rcases g.fr _ _ e with z | z
        · exact .inl (drp_some z).1
        · rw [drp_ne q1 q2] at z; exact .inr z
  · have q1 : p ≠ c1 := fun z => by subst z; rw [adc_1] at e; cases e
    have q2 : p ≠ c2 := fun z => by subst z; rw [adc_2 ne] at e; cases e
    rw [adc_ne q1 q2] at e
    obtain ⟨ps0, k1, k2, k3⟩ := g.tt p ps e
    refine ⟨ps0, (drp_some k1).1, k2, fun pos cv hc => ?_⟩
    rcases k3 pos cv hc with z | ⟨c, z1, z2⟩
    · exact .inl z
    · exact .inr ⟨c, z1, s1 _ _ z2⟩
  · by_cases q1 : a = c1
    · subst q1; rw [adc_1] at e; cases e; exact trivial
    · by_cases q2 : a = c2
      · subst q2; rw [adc_2 ne] at e; cases e; exact trivial
      · rw [adc_ne q1 q2] at e
        exact g.nt (fun b x z => n b x (drp_some z).1) _ _ e
theorem told_drp (t : Told F H) (sm : Same F H) (h1 : F c1 = some (CellH o1)) (h2 : F c2 = some (CellH o2)) : Told (drp F c1 c2) (drp H c1 c2) := by
  have keep : ∀ {p}, (∃ ps, H p = some (.tbl ps)) → ∃ ps, drp H c1 c2 p = some (.tbl ps) := fun {p} ⟨ps, e⟩ => ⟨ps, by
    rw [drp_ne (cell_ne (sm _ _ h1) e (fun _ z => nomatch z)) (cell_ne (sm _ _ h2) e (fun _ z => nomatch z))]; exact e⟩
  refine ⟨fun p ps e => ?_, keep t.h1, keep t.h2⟩
  obtain ⟨k1, k2⟩ := t.k p ps (drp_some e).1
  refine ⟨k1, fun pos cv hc => ?_⟩
  obtain ⟨c, z1, z2⟩ := k2 pos cv hc
  have n : ∀ o, LamX.CodeO c (NM pos.line pos.col) ≠ CellH o := fun o z => by unfold LamX.CodeO CellH at z; cases z
  exact ⟨c, z1, by rw [drp_ne (cell_ne h1 z2 n) (cell_ne h2 z2 n)]; exact z2⟩
end
section
variable {P : Program} {w : World} {H H1 : Hp} {h h' : Heap} {c1 c2 : Addr} {o1 o2 : Obj} {fs : List Addr}
theorem hok_drp (x : HOk P w H h) (h1 : H c1 = some (CellH o1)) (h2 : H c2 = some (CellH o2)) : HOk P w (drp H c1 c2) h := fun a o e => by
  obtain ⟨e', q1, q2⟩ := drp_some e
  refine (x a o e').stay (fun b u _ q => q) (fun b q => ?_) fun b xs q => ?_
  · rw [drp_ne (cell_ne h1 q (fun _ z => nomatch z)) (cell_ne h2 q (fun _ z => nomatch z))]; exact q
  · rw [drp_ne (cell_ne h1 q (fun _ z => nomatch z)) (cell_ne h2 q (fun _ z => nomatch z))]; exact q
theorem cell_obj (x : HOk P w H h) (h1 : H c1 = some (CellH o1)) : h.get? c1 = some o1 := (show ObjOk P w H h c1 (.frz o1 (.own 0)) from x c1 _ h1).1
/-- behind a run that knew nothing of the cells -/
theorem retrack (ne : c1 ≠ c2) (x : HOk P w H h) (h1 : H c1 = some (CellH o1)) (h2 : H c2 = some (CellH o2)) (hf : ∀ b ∈ fs, H b = none) (un : Un fs [] (drp H c1 c2) H1 h h') (ok : HOk P w H1 h') :
    H1 c1 = none ∧ H1 c2 = none ∧ Un fs [] H (adc H1 c1 c2 o1 o2) h h' ∧ HOk P w (adc H1 c1 c2 o1 o2) h' := by
  have g1 := cell_obj x h1
  have g2 := cell_obj x h2
  have n1 : H1 c1 = none := un.free c1 o1 g1 drp_1 (by simp)
  have n2 : H1 c2 = none := un.free c2 o2 g2 drp_2 (by simp)
  have m1 : c1 ∉ fs := fun z => by have := hf _ z; rw [h1] at this; cases this
  have m2 : c2 ∉ fs := fun z => by have := hf _ z; rw [h2] at this; cases this
  have k1 : h'.get? c1 = some o1 := un.keep c1 o1 g1 drp_1 m1 (by simp)
  have k2 : h'.get? c2 = some o2 := un.keep c2 o2 g2 drp_2 m2 (by simp)
  refine ⟨n1, n2, ⟨fun b o e n hb hx => un.keep b o e (drp_none n) hb hx, fun b o e n hb hx => un.slot b o e (drp_none n) hb hx, fun b o e n hx => ?_, fun b o e hx => un.there b o e hx, fun b xs e => ?_, fun b o u e => ?_, fun b ps e => ?_⟩, fun a o e => ?_⟩
  · rw [adc_ne (fun z => by subst z; rw [h1] at n; cases n) (fun z => by subst z; rw [h2] at n; cases n)]
    exact un.free b o e (drp_none n) hx
  · have q1 : b ≠ c1 := cell_ne h1 e (fun _ z => nomatch z)
    have q2 : b ≠ c2 := cell_ne h2 e (fun _ z => nomatch z)
    rw [adc_ne q1 q2]
    exact un.tups b xs (by rw [drp_ne q1 q2]; exact e)
  · by_cases q1 : b = c1
    · subst q1; rw [h1] at e; rw [adc_1]; exact e
    · by_cases q2 : b = c2
      · subst q2; rw [h2] at e; rw [adc_2 ne]; exact e
      · rw [adc_ne q1 q2]
        exact un.frzs b o u (by rw [drp_ne q1 q2]; exact e)
  · have q1 : b ≠ c1 := cell_ne h1 e (fun _ z => nomatch z)
    have q2 : b ≠ c2 := cell_ne h2 e (fun _ z => nomatch z)
    obtain ⟨m, q⟩ := un.tbls b ps (by rw [drp_ne q1 q2]; exact e)
    exact ⟨m, by rw [adc_ne q1 q2]; exact q⟩
  · by_cases q1 : a = c1
    · subst q1; rw [adc_1] at e; cases e
      exact ⟨k1, ⟨_, k1⟩⟩
    · by_cases q2 : a = c2
      · subst q2; rw [adc_2 ne] at e; cases e
        exact ⟨k2, ⟨_, k2⟩⟩
      · rw [adc_ne q1 q2] at e
        refine (ok a o e).stay (fun b u _ q => q) (fun b q => ?_) fun b xs q => ?_
        · rw [adc_ne (fun z => by subst z; rw [n1] at q; cases q) (fun z => by subst z; rw [n2] at q; cases q)]; exact q
        · rw [adc_ne (fun z => by subst z; rw [n1] at q; cases q) (fun z => by subst z; rw [n2] at q; cases q)]; exact q
end
end K67
set_option Elab.async false
set_option linter.all false
set_option maxRecDepth 100000
set_option maxHeartbeats 4000000
namespace K67
open PySem PySem.Spec PyProof.Rows L2
variable [TabA]
/-! ### the lambda of table_from, called -/
noncomputable def envL (dc de : PyData) (ds : List PyData) : En := @List.rec PyData (fun _ => En) [.fz dc, .fz de] (fun d _ ih => SV.fz d :: ih) ds
noncomputable def r_lam : RE := e2 dIdxD (eVar 4) (eCall rf_carried (aCons (eVar 3) (aCons (e2 dIx (eVar 4) (eVar 0)) (aCons (e2 dIx (eVar 4) (eVar 1)) (aCons (e2 dIx (eVar 4) (eVar 2)) aNil)))))
noncomputable def rf_lam (dc de : PyData) (ds : List PyData) : Option PyData := r_lam (envL dc de ds)
abbrev N_lam : List PySem.Str := ["o", "a", "b", "clocks", "every"]
abbrev nfL (cl : List (Str × Addr)) (c' : Addr) : NdefX.NF := ⟨"<lambda>", "table_from.<locals>.<lambda>", lamP.1, [], lamP.2.2, cl, c'⟩
theorem sc_lam : NdefX.NScope N_lam ["o", "a", "b"] ["clocks", "every"] lamP.2.2 := NdefX.nscope_by (by decide +kernel)
theorem bind_lam (cl : List (Str × Addr)) (pm : Value) (c' : Addr) (ctv : Value) (us : List Value) (h : us.length = 3) : bindArgs (PySem.W.kla_fn "<lambda>" "table_from.<locals>.<lambda>" lamP.1 lamP.2.1 lamP.2.2 cl pm (.ref c') ctv) ⟨us, []⟩ = pure ((["o", "a", "b"] : List Str).zip us) :=
  match us, h with
  | [_, _, _], _ => rfl
theorem same_free {F H : Hp} (h : Same F H) {a : Addr} (e : H a = none) : F a = none := by
  cases q : F a with
  | none => rfl
  | some o => rw [h a o q] at e; cases e
theorem lam_body {X : Cx} {cl : List (Str × Addr)} {c' f : Addr} {A : Around} {outer : List Env} {s : Shared} {H : Hp} {E : XK} (M : Md X.K X.mg X.base) (hr : Room 2 (A.deeper (NdefX.envF (nfL cl c') f s.heap.objs.size))) :
    JE (NdefX.ncx CX0 X.prog X.w X.K X.mg X.base N_lam (nfL cl c') f A outer s H E) lamP.2.1 r_lam := by
  have un := hr.un
  refine je_indexD (X := NdefX.ncx CX0 X.prog X.w X.K X.mg X.base N_lam (nfL cl c') f A outer s H E) (by show (A.deeper (NdefX.envF (nfL cl c') f s.heap.objs.size)).units + 65 < cLine; omega) (je_var 4)
    (je_fn (fn_carried M) (hr.mono (by decide)) (by rfl) (ja_cons (je_var 3) (ja_cons (je_ix (ix_list.or ix_tup) ok_ix (je_var 4) (je_var 0) (fun _ _ => rfl)) (ja_cons (je_ix (ix_list.or ix_tup) ok_ix (je_var 4) (je_var 1) (fun _ _ => rfl)) (ja_cons (je_ix (ix_list.or ix_tup) ok_ix (je_var 4) (je_var 2) (fun _ _ => rfl)) ja_nil)))))
theorem lam_run {X : Cx} {pins : List (Addr × Obj)} {σ : L2.St} {F H : Hp} {s : Shared} {v : V} {uf : Value} {dc de z : PyData} {us : List Value} {vs : List V} {ds : List PyData} {Q : VK} {E : Value → Shared → Prop} (M : Md X.K X.mg X.base) (hr : Room 3 X.A) (I : Inv X pins σ H s) (s1 : Same F H) (n0 : NoT F) (t0 : Told F H) (L : FnIn X.prog X.w F v dc de) (rv : L2.RelV v uf) (r : Vals vs us) (dn : DnAll X.prog X.w F vs ds) (hl : ds.length = 3) (hz : rf_lam dc de ds = some z)
    (k : ∀ v F' H', Grow F H F' H' → Dn X.prog X.w F' v z → Q v H') : wpAny (model X.prog X.w) X.A (call uf us) (EP X pins σ Q) E s := by
  obtain ⟨f, c', c1, c2, o1, o2, u1, u2, v1, v2, pm, ctv, cl, rfl, L⟩ := L
  obtain rfl : uf = Value.ref f := rv
  have e := I.env0
  have g1 := s1 _ _ L.h1
  have g2 := s1 _ _ L.h2
  have kf : s.heap.get? f = some (lamO cl pm c' ctv) := (show ObjOk X.prog X.w H s.heap f (.frz (lamO cl pm c' ctv) (.own 0)) from I.hok f _ (s1 _ _ L.fo)).1
  have hc1 := cell_obj I.hok g1
  have hc2 := cell_obj I.hok g2
  have hx := hok_drp I.hok g1 g2
  have e0 : Env0 X.prog X.w X.K X.mg X.base X.A X.stack s (drp H c1 c2) := ⟨e.frames, e.mod, fun b o h => ⟨(e.bs b o h).1, drp_none (e.bs b o h).2⟩, e.bsz, e.funs, fun b hb => drp_none (e.frf b hb), hx, e.bare⟩
  have hvl : vs.length = 3 := by rw [dn.length, hl]
  have cells : NdefX.CellsAt cl ["clocks", "every"] [some v1, some v2] s.heap (drp H c1 c2) := by
    refine ⟨rfl, fun y c h => ?_, fun x y c hx hy => ?_, fun i y h => ?_⟩
    · rcases L.only y c h with ⟨_, rfl⟩ | ⟨_, rfl⟩
      · exact ⟨drp_1, _, o1, hc1, L.d1⟩
      · exact ⟨drp_2, _, o2, hc2, L.d2⟩
    · rcases L.only x c hx with ⟨rfl, e1⟩ | ⟨rfl, e1⟩
      · rcases L.only y c hy with ⟨rfl, _⟩ | ⟨rfl, e2⟩
        · rfl
        · exact (L.ne (e1.symm.trans e2)).elim
      · rcases L.only y c hy with ⟨rfl, e2⟩ | ⟨rfl, _⟩
        · exact (L.ne (e2.symm.trans e1)).elim
        · rfl
    · match i, h with
      | 0, h => cases h; exact ⟨c1, L.l1, fun v h => by cases h; exact ⟨u1, L.r1, o1, hc1, L.d1⟩⟩
      | 1, h => cases h; exact ⟨c2, L.l2, fun v h => by cases h; exact ⟨u2, L.r2, o2, hc2, L.d2⟩⟩
      | n + 2, h => cases h
  let Q' : VK := fun v H1 => H1 c1 = none → H1 c2 = none → Q v (adc H1 c1 c2 o1 o2)
  have kc := NdefX.codeO_at I.hok (s1 _ _ L.co)
  have rc : codeAny (model X.prog X.w) X.A (.call (.ref f) ⟨us, []⟩) (CR CX0 X.stack X.prog X.w (drp H c1 c2) s Q' E0) s := by
    refine PySem.W.kla_callFunE hr.depth kf rfl sc_lam.co sc_lam.gen rfl kc ?_
    rw [bind_lam cl pm c' ctv us (r.length.symm.trans hvl)]
    refine wpAny_pure (wpAny_newFunctionEnv sc_lam.nocell (fun ⟨n, _⟩ hy => sc_lam.par n (List.of_mem_zip hy).1) (fun h₁ hns hsb => ⟨I.nolimit.fresh _ hsb, ?_⟩) sc_lam.kind)
    show codeAny _ _ (.expr lamP.2.1 (NdefX.envF (nfL cl c') f s.heap.objs.size)) _ _
    have kp : ∀ b o, s.heap.get? b = some o → h₁.get? b = some o := fun b o e => hsb.extBut b o (Nat.ne_of_lt (Heap.lt_size e)) (Heap.get?_push_of_some _ e)
    have J : Inv (NdefX.ncx CX0 X.prog X.w X.K X.mg X.base N_lam (nfL cl c') f X.A X.stack s (drp H c1 c2) E0) [] (NdefX.startF N_lam vs [some v1, some v2]) (drp H c1 c2) { s with heap := h₁, toks := s.toks + ((["o", "a", "b"] : List Str).zip us).length } :=
      NdefX.inv_startN (F := nfL cl c') sc_lam hr.hd e0 hvl r cells hns kp
    have t1 := told_drp t0 s1 L.h1 L.h2
    have sx : Same (drp F c1 c2) (drp H c1 c2) := fun a u h => by
      obtain ⟨q1, q2, q3⟩ := drp_some h
      rw [drp_ne q2 q3]; exact s1 _ _ q1
    have nx : NoT (drp F c1 c2) := fun a u h => n0 _ _ (drp_some h).1
    have dn' := DnAll.drp L.h1 L.h2 dn
    have R : Rel X.prog X.w (drp F c1 c2) (drp H c1 c2) (drp F c1 c2) (drp H c1 c2) (NdefX.startF N_lam vs [some v1, some v2]) (envL dc de ds) := by
      match vs, ds, dn', hvl, hl with
      | [a, b, c], [x, y, w'], dn', _, _ =>
        cases dn' with
        | cons da dn' =>
        cases dn' with
        | cons db dn' =>
        cases dn' with
        | cons dd dn' =>
        refine rel_from (Grow.refl sx) nx t1 rfl (by intro q hq; rcases List.mem_cons.mp hq with rfl | hq; exact id; rcases List.mem_cons.mp hq with rfl | hq; exact id; rcases List.mem_cons.mp hq with rfl | hq; exact id; rcases List.mem_cons.mp hq with rfl | hq; exact id; rcases List.mem_cons.mp hq with rfl | hq; exact id; cases hq) (fun i q hq => ?_)
        match i, hq with
        | 0, hq => cases hq; exact .inr (.inr ⟨_, _, rfl, rfl, da⟩)
        | 1, hq => cases hq; exact .inr (.inr ⟨_, _, rfl, rfl, db⟩)
        | 2, hq => cases hq; exact .inr (.inr ⟨_, _, rfl, rfl, dd⟩)
        | 3, hq => cases hq; exact .inr (.inr ⟨_, _, rfl, rfl, Dn.drp L.h1 L.h2 L.n1⟩)
        | 4, hq => cases hq; exact .inr (.inr ⟨_, _, rfl, rfl, Dn.drp L.h1 L.h2 L.n2⟩)
        | n + 5, hq => cases hq
    refine PySem.W.kla_codeExpr (wpAny_mono ((lam_body (X := X) (cl := cl) (c' := c') (f := f) (A := X.A) (outer := X.stack) (s := s) (H := drp H c1 c2) (E := E0) M (hr.deeper _)).run [] _ _ (drp H c1 c2) Q' J ?_) (fun u s' hq => ?_) fun e s' hq => ?_)
    · refine ⟨_, _, _, _, z, R, hz, fun v F1 H1 g d => fun f1 f2 => ?_⟩
      have gg := regrow s1 L.ne L.h1 L.h2 g (same_free g.fh f1) (same_free g.fh f2)
      exact k v _ _ gg.1 (Dn.mono gg.2 d)
    · obtain ⟨w', H', J', rv, q⟩ := hq
      exact ⟨w', H', J'.os, J'.bare, J'.base, J'.hok, rv, q⟩
    · exact hq
  refine wpAny_call (codeAny_mono rc fun r s' hq => ?_)
  cases r with
  | error e => exact False.elim hq
  | ok fl =>
    cases fl with
    | ret u =>
      obtain ⟨w', H', os, bare, un, hok, rv, q⟩ := hq
      obtain ⟨hh, g, d, t, os'⟩ := s'
      obtain rfl : os' = s.os := os
      obtain ⟨m1, m2, un', hok'⟩ := retrack L.ne I.hok g1 g2 I.stkFree un hok
      exact ⟨w', _, I.call (h' := hh) (g' := g) (d' := d) (t' := t) (ch := []) un' hok' bare (fun b z => absurd z (by simp)), rv, q m1 m2⟩
    | next => exact False.elim hq
    | brk => exact False.elim hq
    | cont => exact False.elim hq
end K67
set_option Elab.async false
set_option linter.all false
set_option maxRecDepth 100000
set_option maxHeartbeats 4000000
namespace K67
open PySem PySem.Spec PyProof.Rows L2
variable [TabA]
/-! ### a slot is stored: what is frozen -/
theorem Rel.setS {P : Program} {w : World} {F H F0 H0 : Hp} {σ : L2.St} {env : En} (R : Rel P w F0 H0 F H σ env) {i : Nat} {v : V} {sv : SV} (no : ¬ sv.own) (h : ∀ p, SlotOk P w H0 F H p (some v) sv) : Rel P w F0 H0 F H (σ.set i (some v)) (env.set i sv) := by
  obtain ⟨p, h1, h2⟩ := R.sl
  refine ⟨R.g, by simp [R.len], ⟨p, fun j so sw a b => ?_, fun j k a b ha hb oa ob e => ?_⟩, R.n0, R.t0⟩
  · by_cases q : i = j
    · subst q
      have hi : i < σ.length := by
        have := (List.getElem?_eq_some_iff.mp a).1
        simpa using this
      rw [List.getElem?_set_self hi] at a
      rw [List.getElem?_set_self (by rw [← R.len]; exact hi)] at b
      cases a; cases b
      exact h _
    · rw [List.getElem?_set_ne q] at a b
      exact h1 j so sw a b
  · by_cases q : i = j
    · subst q
      have hi : i < env.length := by
        have := (List.getElem?_eq_some_iff.mp ha).1
        simpa using this
      rw [List.getElem?_set_self hi] at ha
      cases ha
      exact (no oa).elim
    · by_cases q' : i = k
      · subst q'
        have hi : i < env.length := by
          have := (List.getElem?_eq_some_iff.mp hb).1
          simpa using this
        rw [List.getElem?_set_self hi] at hb
        cases hb
        exact (no ob).elim
      · rw [List.getElem?_set_ne q] at ha
        rw [List.getElem?_set_ne q'] at hb
        exact h2 j k a b ha hb oa ob e
section
variable {X : Cx} {tg : Expr} {p pos p1 p2 : Pos}
/-- range(n), kept -/
theorem pe_rng1 {a : Expr} {ta : TA} (hg : Gl X "range") (hm : X.mg "range" = none) (ha : PA X [a] ta) (hs : starEach [a] X.env = [(false, eval a X.env)] := by rfl) :
    PE X (.Call (.Name "range" p) [a] [] pos) (fun σ H Q => ta σ H fun vs H1 => ∃ j : Int, vs = [.int j] ∧ ∀ q, H1 q = none → Q (.ref q) (upd H1 q (.rng 0 j))) := by
  refine ⟨fun pins s σ H Q I h => ?_⟩
  refine Call_ (ld_blt I hg hm boot_range (PyProof.Rows.callWith_type1 (thn (ha.run pos pins s σ H _ I h) fun us s1 ⟨vs, H1, I1, r1, q1⟩ => ?_) hs rfl))
  obtain ⟨j, e, q⟩ := q1
  subst e
  cases r1 with
  | cons r rr =>
    cases rr
    obtain ⟨t, rfl⟩ := r
    refine call_range_1 ⟨.ref s1.heap.objs.size, upd H1 s1.heap.objs.size (.rng 0 j), I1.laid (t' := s1.toks + 1 + 1) (fun b o e => Heap.get?_push_of_some _ e) (Nat.le_refl _) ?_, rfl, q _ (I1.hok.fresh (Nat.le_refl _))⟩
    exact ⟨s1.toks, t, s1.toks + 1, Heap.get?_push_size _ rfl⟩
noncomputable def sRng (i : Nat) (ra : RE) : RS := fun env => bd (ra env) fun d => bd (toI d) fun n => bIf (zLt n 100000) (bIf (zLt (-100000) n) (some (.nx (put env i (.rg 0 n)))) none) none
theorem js_rng {i : Nat} {x : Str} {a : Expr} {ra : RE} (hN : X.N.Nodup) (hi : X.N[i]? = some x) (hx : Loc X.env.scope x) (hg : Gl X "range") (hm : X.mg "range" = none) (ha : JE X a ra) (hs : starEach [a] X.env = [(false, eval a X.env)] := by rfl)
    (hsw : swapsWith (.Call (.Name "range" p) [a] [] pos) (some (.Name x p1)) p2.line X.env = pure false := by rfl) (hf : X.fn x = true ∨ X.env.scope.names.lookup x = some .local := by first | exact .inl rfl | exact .inr rfl | assumption) :
    JS X (.Assign [.Name x p1] (.Call (.Name "range" p) [a] [] pos) p2) (sRng i ra) := by
  refine PS.imp (ps_set hN hi hx (pe_rng1 hg hm (pa_cons ha pa_nil hs) hs) hsw hf) ?_
  rintro D σ H ⟨F0, H0, F, env, o, R, hr, k⟩
  obtain ⟨d, h1, hr⟩ := bd_some hr
  obtain ⟨n, h2, hr⟩ := bd_some hr
  obtain ⟨b1, hr⟩ := bIf_some hr
  obtain ⟨b2, hr⟩ := bIf_some hr
  cases hr
  have e1 := toI_some h2
  subst e1
  refine ⟨F0, H0, F, env, _, R, h1, fun v F1 H1 g1 n1 => ?_⟩
  cases n1
  refine ⟨n, rfl, fun q nq => ?_⟩
  have g2 : Grow F1 H1 (upd F1 q (.rng 0 n)) (upd H1 q (.rng 0 n)) := Grow.new g1.fh nq
  have R1 := ((R.grow g1).grow g2).setS (i := i) (v := .ref q) (sv := .rg 0 n) id (fun _ => ⟨q, rfl, upd_same⟩)
  rw [← put_eq env i] at R1
  exact k _ _ _ R1 (g1.ff.trans g2.ff)
/-- the kept range, walked -/
noncomputable def iRg (i : Nat) : RA := fun env => bd (nth env i) fun sv => @SV.rec (fun _ => Option (List PyData)) none (fun _ => none) (fun _ => none) (fun _ => none) (fun lo hi => bIf (zLt hi 100000) (bIf (zLt (-100000) hi) (bIf (zEq lo 0) (some (rngF hi.toNat 0)) none) none) none) (fun _ _ => none) sv
theorem ji_rg (i : Nat) {x : Str} (hN : X.N[i]? = some x := by rfl) (hv : Vis X.env.scope x := by first | exact Or.inl rfl | exact Or.inr (Or.inl rfl) | exact Or.inr (Or.inr rfl)) (hd : (x == ("__debug__" : Str)) = false := by decide)
    (hcd : (x == ("__classdict__" : Str)) = false := by decide) : JI X (roD X.prog X.w) tg (.Name x pos) (iRg i) := by
  refine ⟨⟨fun pins s σ H R I h => ?_⟩⟩
  obtain ⟨F0, H0, F, env, ds, RR, hr, k⟩ := h
  obtain ⟨sv, h1, hr⟩ := bd_some hr
  rw [nth_eq] at h1
  cases sv <;> first | cases hr | skip
  rename_i lo hi
  obtain ⟨b1, hr⟩ := bIf_some hr
  obtain ⟨b2, hr⟩ := bIf_some hr
  obtain ⟨b3, hr⟩ := bIf_some hr
  cases hr
  rw [zLt_eq, decide_eq_true_eq] at b1 b2
  rw [zEq_eq, decide_eq_true_eq] at b3
  subst b3
  obtain ⟨q, so, hso, ok⟩ := RR.get h1
  cases so with
  | none => exact ok.elim
  | some v =>
  obtain ⟨a, rfl, ha⟩ := ok
  refine thn ((pe_var (pos := pos) hN hv hd hcd).run pins s σ H (fun v H1 => v = .ref a ∧ H1 = H) I ⟨.ref a, hso, rfl, rfl⟩) fun u s1 ⟨v, H1, I1, r1, q1⟩ => ?_
  obtain ⟨rfl, rfl⟩ := q1
  obtain rfl : u = Value.ref a := r1
  obtain ⟨t, u', v', ho⟩ := I1.hok a _ (RR.fh _ _ ha)
  refine wpAny_pyIter_range ho (small_one (by omega) (by omega) (by omega) (by omega)) ?_
  have WW : WalkD (roD X.prog X.w) F (Itr 0 hi.toNat) (rngF hi.toNat 0) := walk_rng
  refine ⟨s1.heap.objs.size, [s1.heap.objs.size], _, _, H1, rfl, I1.kept (t' := s1.toks) fun b o e => Heap.get?_push_of_some _ e, turn_range _ 0 hi.toNat, ?_, fun b hb => ?_, k _ F H1 (Grow.refl RR.fh) WW⟩
  · have e1 : (0 : Int) + ((0 : Nat) : Int) * 1 = 0 := by simp
    have e2 : ((hi.toNat : Nat) : Int) - ((0 : Nat) : Int) = Builtin.Range.rangeSize 0 hi 1 := by rw [rangeSize_one]; split <;> omega
    show IsRangeIter _ _ ((0 : Int) + ((0 : Nat) : Int) * 1) (((hi.toNat : Nat) : Int) - ((0 : Nat) : Int)) 1
    rw [e1, e2]
    exact Heap.get?_push_size _ rfl
  · have e : b = s1.heap.objs.size := by simpa using hb
    subst e
    exact I1.fpOk (Nat.le_refl _) (I1.hok.fresh (Nat.le_refl _))
/-- what the lambda answers -/
noncomputable def eTold (i : Nat) (rs : RA) : RE := fun env => bd (nth env i) fun sv => @SV.rec (fun _ => Option PyData) none (fun _ => none) (fun _ => none) (fun _ => none) (fun _ _ => none) (fun dc de => bd (rs env) fun ds => rf_lam dc de ds) sv
theorem je_told (i : Nat) {x : Str} {e1 e2 e3 : Expr} {rs : RA} (M : Md X.K X.mg X.base) (hr : Room 3 X.A) (ha : JA X [e1, e2, e3] rs) (hN : X.N[i]? = some x := by rfl) (hv : Vis X.env.scope x := by first | exact Or.inl rfl | exact Or.inr (Or.inl rfl) | exact Or.inr (Or.inr rfl)) (hd : (x == ("__debug__" : Str)) = false := by decide)
    (hcd : (x == ("__classdict__" : Str)) = false := by decide) (he : starEach [e1, e2, e3] X.env = (false, eval e1 X.env) :: starEach [e2, e3] X.env := by rfl) (hpl : (backTo p2 (starEach [e2, e3] X.env)).any (·.1) = false := by rfl) :
    JE X (.Call (.Name x p1) [e1, e2, e3] [] p2) (eTold i rs) := by
  refine ⟨fun pins s σ H Q I h => ?_⟩
  obtain ⟨F0, H0, F, env, z, RR, hz, k⟩ := h
  obtain ⟨sv, h1, hz⟩ := bd_some hz
  rw [nth_eq] at h1
  cases sv <;> first | cases hz | skip
  rename_i dc de
  obtain ⟨ds, h2, hz⟩ := bd_some hz
  obtain ⟨q, so, hso, ok⟩ := RR.get h1
  cases so with
  | none => exact ok.elim
  | some v =>
  have ok : FnIn X.prog X.w F v dc de := ok
  refine wpAny_Call_Name_kw (thn ((pe_var (pos := p1) hN hv hd hcd).run pins s σ H (fun v1 H1 => v1 = v ∧ H1 = H) I ⟨v, hso, rfl, rfl⟩) fun u s1 ⟨v1, H1, I1, r1, q1⟩ => ?_)
  obtain ⟨rfl, rfl⟩ := q1
  obtain ⟨f, c', c1, c2, o1, o2, u1, u2, w1, w2, pm, ctv, cl, rfl, L⟩ := id ok
  obtain rfl : u = Value.ref f := r1
  have kf : ∀ {s2 : Shared} {H2 : Hp}, Inv X pins σ H2 s2 → H2 f = some (.frz (lamO cl pm c' ctv) (.own 0)) → PySem.W.FnAt f s2.heap := fun I2 e => ⟨_, _, _, _, (show ObjOk X.prog X.w _ _ f (.frz (lamO cl pm c' ctv) (.own 0)) from I2.hok f _ e).1⟩
  refine PySem.W.callWith_F (kf I1 (RR.fh _ _ L.fo)) (thn (ha.pa.run p2 pins s1 σ H1 (fun vs H2 => ∃ F2, Grow F H1 F2 H2 ∧ DnAll X.prog X.w F2 vs ds) I1 ⟨F0, H0, F, env, ds, RR, h2, fun vs F2 H2 g2 n2 => ⟨F2, g2, n2⟩⟩) fun us s2 ⟨vs, H2, I2, r2, q2⟩ => ?_) he hpl
  obtain ⟨F2, g2, n2⟩ := q2
  have R2 := RR.grow g2
  exact ⟨kf I2 (g2.fh _ _ (g2.ff _ _ L.fo)), lam_run M hr I2 g2.fh R2.noT R2.told (ok.mono g2.ff) rfl r2 n2 (ha.len _ _ h2) hz fun v F3 H3 g3 d3 => k v F3 H3 (g2.trans g3) d3⟩
end
end K67
set_option Elab.async false
set_option linter.all false
set_option maxRecDepth 100000
set_option maxHeartbeats 4000000
namespace K67
open PySem PySem.Spec PyProof.Rows L2
variable [TabA]
/-! ### table_by -/
abbrev N_table_by : List PySem.Str := ["n", "told", "states", "o", "a", "b"]
theorem sc_table_by : FnScope N_table_by ["n", "told"] (defScope s_table_by) := ⟨rfl, rfl, rfl, by decide +kernel, rfl, by decide +kernel, by decide +kernel⟩
noncomputable def r_table_by : RS := sSeq (sRng 2 (eVar 0)) (sRet (eCall (l1 dTuple) (aCons (eLc (iRg 2) (b1 3) rYes (eCall (l1 dTuple) (aCons (eLc (iRg 2) (b1 4) rYes (eCall (l1 dTuple) (aCons (eLc (iRg 2) (b1 5) rYes (eTold 1 (aCons (eVar 3) (aCons (eVar 4) (aCons (eVar 5) aNil)))) [5]) aNil)) [4]) aNil)) [3]) aNil)))
noncomputable def rf_tb (n dc de : PyData) : Option PyData := bd (r_table_by [.fz n, .fn dc de, .no, .no, .no, .no]) ocD
/-- its promise: a number, and the lambda of table_from -/
def spTb (P : Program) (w : World) : Sp := fun vs H Q _ => ∃ F n v nv dc de d, Same F H ∧ NoT F ∧ Told F H ∧ vs = [nv, v] ∧ Dn P w F nv n ∧ FnIn P w F v dc de ∧ rf_tb n dc de = some d ∧ ∀ u F' H', Grow F H F' H' → Dn P w F' u d → Q u H'
theorem fn_table_by {P : Program} {w : World} {K : PySem.W.Frag} {mg : Str → Option Value} {base : Heap} (M : Md K mg base) :
    ∃ (f : Addr) (fd : FuncData) (ps : List Str), FnOk P w K mg base CX0 5 f fd ps (spTb P w) ∧ ps.length = 2 ∧ mg "table_by" = some (.ref f) ∧ PySem.W.keepIn K (.ref f) = true ∧ Binds K fd ps [] := by
  obtain ⟨fd, F⟩ := M.c.def_ 12 (d := d_table_by) rfl
  refine ⟨_, fd, ["n", "told"], F.ok sc_table_by (fun vs H Q E h => (by obtain ⟨_, _, _, _, _, _, _, _, _, _, rfl, _⟩ := h; rfl)) fun cdv A outer s0 H vs Q E hr h => ?_, rfl, M.glo 12 rfl, F.kp, F.bindsN (fun _ _ _ _ _ _ us hl => match us, hl with | [_, _], _ => rfl)⟩
  have un := hr.un
  have hb : JSs (cxOf CX0 P w K mg base N_table_by _ _ _ cdv A outer s0 H E).nox (defBody s_table_by) r_table_by :=
    (jss_cons (js_rng (i := 2) sc_table_by.nd rfl (by first | exact Or.inl rfl | exact Or.inr rfl) (by rfl) (Md.b_range M) (je_var 0)) (jss_one (js_ret (je_callTy call_tupleF ok_tuple (by rfl) (Md.b_tuple M) bt_tuple (ja_cons
      (je_lc (own := [("o", 3)]) rfl sc_table_by.nd roD_mono (ji_rg 2) (blkOk_by (own := [("o", 3)]) (N := N_table_by) (sc := defScope s_table_by) (by decide +kernel)) (fun _ _ _ _ _ => (jg_name (i := 3) sc_table_by.nd rfl (by first | exact Or.inl rfl | exact Or.inr rfl))) (fun _ _ _ _ _ => jts_nil) (fun _ _ _ _ _ => (je_callTy call_tupleF ok_tuple (by rfl) (Md.b_tuple M) bt_tuple (ja_cons
        (je_lc (own := [("a", 4)]) rfl sc_table_by.nd roD_mono (ji_rg 2) (blkOk_by (own := [("a", 4)]) (by kernel_rfl)) (fun _ _ _ _ _ => (jg_name (i := 4) sc_table_by.nd rfl (by first | exact Or.inl rfl | exact Or.inr rfl))) (fun _ _ _ _ _ => jts_nil) (fun _ _ _ _ _ => (je_callTy call_tupleF ok_tuple (by rfl) (Md.b_tuple M) bt_tuple (ja_cons
          (je_lc (own := [("b", 5)]) rfl sc_table_by.nd roD_mono (ji_rg 2) (blkOk_by (own := [("b", 5)]) (by kernel_rfl)) (fun _ _ _ _ _ => (jg_name (i := 5) sc_table_by.nd rfl (by first | exact Or.inl rfl | exact Or.inr rfl))) (fun _ _ _ _ _ => jts_nil) (fun _ _ _ _ _ => (je_told 1 M (hr.mono (by decide)) (ja_cons (je_var 3) (ja_cons (je_var 4) (ja_cons (je_var 5) ja_nil))))) (by decide)) ja_nil))) (by decide)) ja_nil))) (by decide)) ja_nil)))))
  refine ⟨_, hb.nox, ?_⟩
  obtain ⟨F0, n, v, nv, dc, de, d, s, n0, t0, rfl, dn, L, hr', k⟩ := h
  obtain ⟨o, h1, h2⟩ := bd_some hr'
  refine ⟨F0, H, F0, _, o, rel_from (Grow.refl s) n0 t0 rfl (by simp [SV.own]) (fun i q hq => ?_), h1, ?_⟩
  · match i, hq with
    | 0, hq => cases hq; exact .inr (.inr ⟨_, _, rfl, rfl, dn⟩)
    | 1, hq => cases hq; exact .inr (.inl ⟨_, _, _, rfl, rfl, L⟩)
    | 2, hq => cases hq; exact .inl rfl
    | 3, hq => cases hq; exact .inl rfl
    | 4, hq => cases hq; exact .inl rfl
    | 5, hq => cases hq; exact .inl rfl
    | n + 6, hq => cases hq
  · cases o with
    | nx e =>
      cases h2
      exact fun σ' F' H' R _ => k .non F' H' R.g .non
    | rt d' =>
      cases h2
      exact fun v F' H' g dn => k v F' H' g dn
end K67
set_option Elab.async false
set_option linter.all false
set_option maxRecDepth 100000
set_option maxHeartbeats 4000000
namespace K67
open PySem PySem.Spec PyProof.Rows L2
variable [TabA]
/-! ### cells tracked for one call -/
section
variable {P : Program} {w : World} {F H H1 : Hp} {h h' : Heap} {c1 c2 : Addr} {o1 o2 : Obj} {fs : List Addr}
theorem adc_of {a : Addr} {u : HO} (n1 : F c1 = none) (n2 : F c2 = none) (e : F a = some u) : adc F c1 c2 o1 o2 a = some u := by
  rw [adc_ne (fun z => by subst z; rw [n1] at e; cases e) (fun z => by subst z; rw [n2] at e; cases e)]; exact e
theorem adc_inv {a : Addr} {u : HO} (e : adc F c1 c2 o1 o2 a = some u) : (a = c1 ∧ u = CellH o1) ∨ (a = c2 ∧ u = CellH o2) ∨ F a = some u := by
  by_cases q1 : a = c1
  · subst q1; rw [adc_1] at e; cases e; exact .inl ⟨rfl, rfl⟩
  · by_cases q2 : a = c2
    · subst q2
      have ne : c1 ≠ a := Ne.symm q1
      rw [adc_2 ne] at e; cases e; exact .inr (.inl ⟨rfl, rfl⟩)
    · rw [adc_ne q1 q2] at e; exact .inr (.inr e)
theorem adc_none {a : Addr} (q1 : a ≠ c1) (q2 : a ≠ c2) (e : F a = none) : adc F c1 c2 o1 o2 a = none := by rw [adc_ne q1 q2]; exact e
theorem same_adc (sm : Same F H) (n1 : H c1 = none) (n2 : H c2 = none) : Same (adc F c1 c2 o1 o2) (adc H c1 c2 o1 o2) := fun a u e => by
  by_cases q1 : a = c1
  · subst q1; rw [adc_1] at e ⊢; exact e
  · by_cases q2 : a = c2
    · subst q2
      have ne : c1 ≠ a := Ne.symm q1
      rw [adc_2 ne] at e ⊢; exact e
    · rw [adc_ne q1 q2] at e ⊢; exact sm _ _ e
theorem noT_adc (n : NoT F) : NoT (adc F c1 c2 o1 o2) := fun a u e => by
  rcases adc_inv e with ⟨_, rfl⟩ | ⟨_, rfl⟩ | e
  · exact trivial
  · exact trivial
  · exact n _ _ e
theorem told_adc (t : Told F H) (sm : Same F H) (n1 : H c1 = none) (n2 : H c2 = none) : Told (adc F c1 c2 o1 o2) (adc H c1 c2 o1 o2) := by
  refine ⟨fun p ps e => ?_, ?_, ?_⟩
  · rcases adc_inv e with ⟨_, z⟩ | ⟨_, z⟩ | e
    · cases z
    · cases z
    · obtain ⟨k1, k2⟩ := t.k p ps e
      refine ⟨k1, fun pos cv hc => ?_⟩
      obtain ⟨c, z1, z2⟩ := k2 pos cv hc
      exact ⟨c, z1, adc_of (same_free sm n1) (same_free sm n2) z2⟩
  · obtain ⟨ps, e⟩ := t.h1; exact ⟨ps, adc_of n1 n2 e⟩
  · obtain ⟨ps, e⟩ := t.h2; exact ⟨ps, adc_of n1 n2 e⟩
theorem hok_adc (ok : HOk P w H h) (n1 : H c1 = none) (n2 : H c2 = none) (g1 : h.get? c1 = some o1) (g2 : h.get? c2 = some o2) : HOk P w (adc H c1 c2 o1 o2) h := fun a o e => by
  rcases adc_inv e with ⟨rfl, rfl⟩ | ⟨rfl, rfl⟩ | e
  · exact ⟨g1, ⟨_, g1⟩⟩
  · exact ⟨g2, ⟨_, g2⟩⟩
  · exact (ok a o e).stay (fun b u _ q => q) (fun b q => adc_of n1 n2 q) fun b xs q => adc_of n1 n2 q
theorem untrack (ne : c1 ≠ c2) (n1 : H c1 = none) (n2 : H c2 = none) (g1 : h.get? c1 = some o1) (g2 : h.get? c2 = some o2) (un : Un fs [] (adc H c1 c2 o1 o2) H1 h h') (ok : HOk P w H1 h') :
    Un fs [] H (drp H1 c1 c2) h h' ∧ HOk P w (drp H1 c1 c2) h' := by
  have f1 : H1 c1 = some (CellH o1) := un.frzs c1 o1 (.own 0) adc_1
  have f2 : H1 c2 = some (CellH o2) := un.frzs c2 o2 (.own 0) (adc_2 ne)
  have k1 := cell_obj ok f1
  have k2 := cell_obj ok f2
  have keep : ∀ b o, h.get? b = some o → (b = c1 ∨ b = c2) → h'.get? b = some o := fun b o e q => by
    rcases q with rfl | rfl
    · rw [g1] at e; cases e; exact k1
    · rw [g2] at e; cases e; exact k2
  refine ⟨⟨fun b o e n hb hx => ?_, fun b o e n hb hx => ?_, fun b o e n hx => ?_, fun b o e hx => un.there b o e hx, fun b xs e => ?_, fun b o u e => ?_, fun b ps e => ?_⟩, hok_drp ok f1 f2⟩
  · by_cases q : b = c1 ∨ b = c2
    · exact keep b o e q
    · exact un.keep b o e (adc_none (fun z => q (.inl z)) (fun z => q (.inr z)) n) hb hx
  · by_cases q : b = c1 ∨ b = c2
    · exact ⟨o.slots, keep b o e q⟩
    · exact un.slot b o e (adc_none (fun z => q (.inl z)) (fun z => q (.inr z)) n) hb hx
  · by_cases q1 : b = c1
    · subst q1; exact drp_1
    · by_cases q2 : b = c2
      · subst q2; exact drp_2
      · rw [drp_ne q1 q2]; exact un.free b o e (adc_none q1 q2 n) hx
  · rw [drp_ne (fun z => by subst z; rw [n1] at e; cases e) (fun z => by subst z; rw [n2] at e; cases e)]
    exact un.tups b xs (adc_of n1 n2 e)
  · rw [drp_ne (fun z => by subst z; rw [n1] at e; cases e) (fun z => by subst z; rw [n2] at e; cases e)]
    exact un.frzs b o u (adc_of n1 n2 e)
  · obtain ⟨m, q⟩ := un.tbls b ps (adc_of n1 n2 e)
    exact ⟨m, by rw [drp_ne (fun z => by subst z; rw [n1] at e; cases e) (fun z => by subst z; rw [n2] at e; cases e)]; exact q⟩
theorem ungrow {F1 : Hp} (sm : Same F H) (ne : c1 ≠ c2) (n1 : H c1 = none) (n2 : H c2 = none) (g : Grow (adc F c1 c2 o1 o2) (adc H c1 c2 o1 o2) F1 H1) : Grow F H (drp F1 c1 c2) (drp H1 c1 c2) := by
  have m1 := same_free sm n1
  have m2 := same_free sm n2
  have f1 : F1 c1 = some (CellH o1) := g.ff _ _ adc_1
  have f2 : F1 c2 = some (CellH o2) := g.ff _ _ (adc_2 ne)
  have hn : ∀ {a : Addr} {u : HO}, H a = some u → a ≠ c1 ∧ a ≠ c2 := fun {a u} e => ⟨ne_of_none e n1, ne_of_none e n2⟩
  refine ⟨sm, fun a u e => ?_, ⟨fun a u e n => ?_, fun a ps e => ?_⟩, fun a u e => ?_, fun a u e => ?_, fun p ps e => ?_, fun n a u e => ?_⟩
  · obtain ⟨q1, q2⟩ := hn (sm _ _ e)
    rw [drp_ne q1 q2]; exact g.ff _ _ (adc_of m1 m2 e)
  · obtain ⟨q1, q2⟩ := hn e
    rw [drp_ne q1 q2]; exact g.hh.s _ _ (adc_of n1 n2 e) n
  · obtain ⟨q1, q2⟩ := hn e
    obtain ⟨m, q⟩ := g.hh.t a ps (adc_of n1 n2 e)
    exact ⟨m, by rw [drp_ne q1 q2]; exact q⟩
  · obtain ⟨e, q1, q2⟩ := drp_some e
    rw [drp_ne q1 q2]; exact g.fh _ _ e
  · obtain ⟨e, q1, q2⟩ := drp_some e
    rcases g.fr _ _ e with z | z
    · rw [adc_ne q1 q2] at z; exact .inl z
    · rw [adc_ne q1 q2] at z; exact .inr z
  · obtain ⟨e, q1, q2⟩ := drp_some e
    obtain ⟨ps0, z1, z2, z3⟩ := g.tt p ps e
    rw [adc_ne q1 q2] at z1
    refine ⟨ps0, z1, z2, fun pos cv hc => ?_⟩
    rcases z3 pos cv hc with z | ⟨c, y1, y2⟩
    · exact .inl z
    · have nn : ∀ o, LamX.CodeO c (NM pos.line pos.col) ≠ CellH o := fun o z => by unfold LamX.CodeO CellH at z; cases z
      exact .inr ⟨c, y1, by rw [drp_ne (cell_ne f1 y2 nn) (cell_ne f2 y2 nn)]; exact y2⟩
  · exact g.nt (noT_adc n) _ _ (drp_some e).1
end
/-! ### the lambda is made -/
theorem nm_131 {l c : Nat} (h : l = 131) : NM l c = "table_from.<locals>.<lambda>" := by subst h; rfl
section
variable {X : Cx}
/-- what the making of the lambda leaves -/
def LamMade (F : Hp) (f c' : Addr) (pm ctv : Value) (cl : List (Str × Addr)) : Prop := F f = some (.frz (lamO cl pm c' ctv) (.own 0)) ∧ F c' = some (LamX.CodeO c' "table_from.<locals>.<lambda>")
theorem LamMade.mono {F F' : Hp} {f c' : Addr} {pm ctv : Value} {cl : List (Str × Addr)} (s : Same F F') (h : LamMade F f c' pm ctv cl) : LamMade F' f c' pm ctv cl := ⟨s _ _ h.1, s _ _ h.2⟩
/-- a table is written -/
theorem grow_tbl {F H : Hp} {P c' : Addr} {ps : Array Value} {pos : Pos} {nm : Str} (sm : Same F H) (n0 : NoT F) (hP : H P = some (.tbl ps)) (nC : H c' = none) (ht0 : TriplesOk ps.toList) (hn : NM pos.line pos.col = nm) :
    Grow F H (upd F c' (LamX.CodeO c' nm)) (upd (upd H P (.tbl (ps ++ #[rawInt pos.line, rawInt pos.col, .ref c']))) c' (LamX.CodeO c' nm)) := by
  have nPc : P ≠ c' := ne_of_none hP nC
  refine ⟨sm, fun a u e => ?_, ⟨fun a u e n => ?_, fun a qs e => ?_⟩, fun a u e => ?_, fun a u e => ?_, fun p qs e => ?_, fun k => noT_upd k trivial⟩
  · rw [upd_ne (ne_of_none (sm _ _ e) nC)]; exact e
  · rw [upd_ne (ne_of_none e nC), upd_ne (fun z => by subst z; rw [hP] at e; cases e; exact n)]; exact e
  · rw [upd_ne (ne_of_none e nC)]
    by_cases q : a = P
    · subst q; rw [hP] at e; cases e; rw [upd_same]; exact ⟨_, rfl⟩
    · rw [upd_ne q]; exact ⟨#[], by rw [e]; simp⟩
  · by_cases q : a = c'
    · subst q; rw [upd_same] at e ⊢; exact e
    · rw [upd_ne q] at e ⊢
      rw [upd_ne (fun z => by subst z; have h1 := sm _ _ e; rw [hP] at h1; cases h1; exact n0 _ _ e)]
      exact sm _ _ e
  · by_cases q : a = c'
    · subst q; exact .inr nC
    · rw [upd_ne q] at e; exact .inl e
  · by_cases q : p = c'
    · subst q; rw [upd_same] at e; cases e
    · rw [upd_ne q] at e
      by_cases q2 : p = P
      · subst q2
        rw [upd_same] at e
        cases e
        have eL : (ps ++ #[rawInt pos.line, rawInt pos.col, .ref c']).toList = ps.toList ++ [rawInt pos.line, rawInt pos.col, .ref c'] := by simp
        refine ⟨ps, hP, fun ht => by rw [eL]; exact PySem.TriplesOk_snoc _ _ _ _ ht, fun p' cv hcv => ?_⟩
        rw [eL] at hcv
        rcases NdefX.among_app2 _ ht0 hcv with z | ⟨z, z1, z2⟩
        · exact .inl z
        · refine .inr ⟨c', z, ?_⟩
          rw [← z1, ← z2, hn]
          exact upd_same
      · rw [upd_ne q2] at e
        exact ⟨qs, e, id, fun _ _ => .inl⟩
def tLam (cl : List (Str × Addr)) : TE := fun σ H Q => ∃ F, Same F H ∧ NoT F ∧ Told F H ∧ ∀ f c' pm ctv F' H', Grow F H F' H' → LamMade F' f c' pm ctv cl → Q (.ref f) H'
theorem pe_lam {c : Addr} {pos : Pos} (TB : LamX.TabB X.base X.mg c TabA.p1) (hcode : X.env.code = .ref c) (hq : X.env.qual ++ "<lambda>" = "table_from.<locals>.<lambda>") (hl : pos.line = 131) (hdef : defaultsOf lamP.1 X.env = ([], []))
    (hfree : ∀ y ∈ lamP.2.2.names, y.2 = .free → ∃ c, X.env.cells.lookup y.1 = some c) : PE X (.Lambda lamP.1 lamP.2.1 lamP.2.2 pos) (tLam (cloFrom X.env.cells lamP.2.2.names [])) := by
  refine ⟨fun pins s σ H Q I h => ?_⟩
  obtain ⟨F, sm, n0, t0, k⟩ := h
  obtain ⟨ps, hP⟩ := t0.h1
  obtain ⟨ht, ha⟩ := t0.k _ ps hP
  have hn : NM pos.line pos.col = "table_from.<locals>.<lambda>" := nm_131 hl
  refine PySem.W.kla_eval hdef ?_
  rw [hq]
  have bP : s.heap.BuiltinsAt X.mg TabA.p1 := TB.bm.keeps I.bk
  have hP' : s.heap.get? TabA.p1 = some { cls := .none, data := .fields ps } := I.hok _ _ hP
  cases hc : codeAmong pos ps.toList with
  | none =>
    refine PySem.W.kla_makeFunction (mg := X.mg) (c := c) (P := TabA.p1) (ps := ps) (closure_ok hfree) I.ok.glob (I.mod.glob.keeps I.bk) hcode (TB.code.keeps I.bk) hP' ht hc TB.gP bP fun c' ctv h' tk hx hge hlt hrec htb => ?_
    obtain ⟨c2, oc, vs, t, e2, hoc, hd, hv⟩ := hrec
    cases e2
    have nC : H c' = none := I.hok.fresh hge
    have I1 := LamX.inv_table (t' := tk) (more := #[rawInt pos.line, rawInt pos.col, .ref c']) (h' := h') I hP (fun b o hb e => hx b o hb e) htb hge ⟨oc, vs, t, hoc, hd, hv⟩
    have nF := I1.hok.fresh (Nat.le_refl _)
    have G1 := grow_tbl sm n0 hP nC ht hn
    have G2 : Grow _ _ _ _ := G1.trans (Grow.new (p := h'.objs.size) (o := .frz (lamO (cloFrom X.env.cells lamP.2.2.names []) ((X.mg "__name__").getD .none) c' ctv) (.own 0)) G1.fh nF)
    have e : (h'.push (lamO (cloFrom X.env.cells lamP.2.2.names []) ((X.mg "__name__").getD .none) c' ctv)).get? h'.objs.size = some (lamO (cloFrom X.env.cells lamP.2.2.names []) ((X.mg "__name__").getD .none) c' ctv) := Heap.get?_push_size _ rfl
    have I2 := I1.laid (a := h'.objs.size) (o := .frz (lamO (cloFrom X.env.cells lamP.2.2.names []) ((X.mg "__name__").getD .none) c' ctv) (.own 0)) (h' := h'.push (lamO (cloFrom X.env.cells lamP.2.2.names []) ((X.mg "__name__").getD .none) c' ctv)) (t' := tk) (fun b u e => Heap.get?_push_of_some _ e) (Nat.le_refl _) ⟨e, ⟨_, e⟩⟩
    exact ⟨.ref h'.objs.size, _, I2, rfl, k _ c' _ ctv _ _ G2 ⟨upd_same, by rw [upd_ne (Nat.ne_of_lt hlt), upd_same]⟩⟩
  | some cv =>
    obtain ⟨c', e, hco⟩ := ha pos cv hc
    subst e
    rw [hn] at hco
    refine PySem.W.kla_makeFunctionHit (mg := X.mg) (c := c) (P := TabA.p1) (ps := ps) (closure_ok hfree) I.ok.glob (I.mod.glob.keeps I.bk) hcode (TB.code.keeps I.bk) hP' ht hc bP fun ctv h' tk hx hsz => ?_
    have I1 : Inv X pins σ H { s with heap := h', toks := tk } := I.kept hx
    have nF : H h'.objs.size = none := I1.hok.fresh (Nat.le_refl _)
    have e : (h'.push (lamO (cloFrom X.env.cells lamP.2.2.names []) ((X.mg "__name__").getD .none) c' ctv)).get? h'.objs.size = some (lamO (cloFrom X.env.cells lamP.2.2.names []) ((X.mg "__name__").getD .none) c' ctv) := Heap.get?_push_size _ rfl
    have I2 := I1.laid (a := h'.objs.size) (o := .frz (lamO (cloFrom X.env.cells lamP.2.2.names []) ((X.mg "__name__").getD .none) c' ctv) (.own 0)) (h' := h'.push (lamO (cloFrom X.env.cells lamP.2.2.names []) ((X.mg "__name__").getD .none) c' ctv)) (t' := tk) (fun b u e => Heap.get?_push_of_some _ e) (Nat.le_refl _) ⟨e, ⟨_, e⟩⟩
    have G1 := Grow.new (p := h'.objs.size) (o := .frz (lamO (cloFrom X.env.cells lamP.2.2.names []) ((X.mg "__name__").getD .none) c' ctv) (.own 0)) sm nF
    exact ⟨.ref h'.objs.size, _, I2, rfl, k _ c' _ ctv _ _ G1 ⟨upd_same, G1.ff _ _ hco⟩⟩
end
end K67
set_option Elab.async false
set_option linter.all false
set_option maxRecDepth 100000
set_option maxHeartbeats 4000000
namespace K67
open PySem PySem.Spec PyProof.Rows L2
variable [TabA]
/-- the module, with its tables -/
structure MdT (K : PySem.W.Frag) (mg : Str → Option Value) (base : Heap) : Prop extends Md K mg base where
  tb1 : ∃ c, LamX.TabB base mg c TabA.p1 ∧ ∀ oc od fd osl, K.lookup (He.ga K "table_from") = some ⟨oc, od, .func fd, osl⟩ → fd.code = .ref c
  tb2 : ∃ c, LamX.TabB base mg c TabA.p2 ∧ ∀ oc od fd osl, K.lookup (He.ga K "_law_refused_right") = some ⟨oc, od, .func fd, osl⟩ → fd.code = .ref c
/-! ### table_by(e, lambda ..) -/
noncomputable def eTb (r0 : RE) : RE := fun env => bd (eVar 0 env) fun dc => bd (eVar 1 env) fun de => bd (r0 env) fun n => rf_tb n dc de
theorem pe_tb {X : Cx} {c : Addr} {e0 : Expr} {r0 : RE} {p pos lp : Pos} (M : Md X.K X.mg X.base) (hr : Room 5 X.A) (TB : LamX.TabB X.base X.mg c TabA.p1) (hcode : X.env.code = .ref c) (hq : X.env.qual ++ "<lambda>" = "table_from.<locals>.<lambda>") (hl : lp.line = 131)
    (hdef : defaultsOf lamP.1 X.env = ([], [])) (hfree : ∀ y ∈ lamP.2.2.names, y.2 = .free → X.env.scope.names.lookup y.1 = some .cell ∨ X.env.scope.names.lookup y.1 = some .free) (hfn : ∀ y, X.fn y = true) (hN0 : X.N[0]? = some ("clocks" : Str)) (hN1 : X.N[1]? = some ("every" : Str))
    (hg : Gl X "table_by") (h0 : JE X e0 r0)
    (s1 : starEach [e0, .Lambda lamP.1 lamP.2.1 lamP.2.2 lp] X.env = (false, eval e0 X.env) :: starEach [.Lambda lamP.1 lamP.2.1 lamP.2.2 lp] X.env := by rfl) (s2 : starEach [.Lambda lamP.1 lamP.2.1 lamP.2.2 lp] X.env = (false, eval (.Lambda lamP.1 lamP.2.1 lamP.2.2 lp) X.env) :: starEach [] X.env := by rfl)
    (hpl : (backTo pos (starEach [.Lambda lamP.1 lamP.2.1 lamP.2.2 lp] X.env)).any (·.1) = false := by rfl) :
    JE X (.Call (.Name "table_by" p) [e0, .Lambda lamP.1 lamP.2.1 lamP.2.2 lp] [] pos) (eTb r0) := by
  obtain ⟨g, gd, gps, G, hgl, hm, hk, hb⟩ := fn_table_by (P := X.prog) (w := X.w) M
  refine ⟨fun pins s σ H Q I h => ?_⟩
  obtain ⟨F0, H0, F, env, z, R, hz, k⟩ := h
  obtain ⟨dc, z0, hz⟩ := bd_some hz
  obtain ⟨de, z1, hz⟩ := bd_some hz
  obtain ⟨n, z2, hz⟩ := bd_some hz
  have hfree2 : ∀ y ∈ lamP.2.2.names, y.2 = .free → ∃ c, X.env.cells.lookup y.1 = some c := fun y hy e => (hfree y hy e).elim (fun z => I.ok.has _ (.inl z)) fun z => I.ok.has _ (.inr z)
  have cap : NdefX.Caps X (cloFrom X.env.cells lamP.2.2.names []) ["clocks", "every"] [0, 1] :=
    NdefX.Caps.made I.ok hfree (fun y hy => PySem.mem_of_lookup (sc_lam.frk y hy)) (by simp [hN0, hN1])
  refine wpAny_Call_Name_kw (ld_glob I hg hm ?_ (by decide))
  have ha := pa_cons h0 (pa_cons (pe_lam TB hcode hq hl hdef hfree2) pa_nil s2) s1
  refine PySem.W.callWith_K (h₀ := X.base) I.ok.mod.kin hk (thn (ha.run pos pins s σ H (fun vs H2 => ∃ nv f c' pm ctv F2, vs = [nv, .ref f] ∧ Grow F H F2 H2 ∧ Dn X.prog X.w F2 nv n ∧ LamMade F2 f c' pm ctv (cloFrom X.env.cells lamP.2.2.names [])) I ?_) fun us s1 ⟨vs, H1, I1, r, q⟩ => ⟨I1.kIn, ?_⟩) s1 hpl
  · exact ⟨F0, H0, F, env, n, R, z2, fun v F1 H1 g1 n1 => ⟨F1, g1.fh, (R.grow g1).noT, (R.grow g1).told, fun f c' pm ctv F2 H2 g2 lm => ⟨v, f, c', pm, ctv, F2, rfl, g1.trans g2, n1.mono g2.ff, lm⟩⟩⟩
  obtain ⟨nv, f, c', pm, ctv, F2, rfl, G2, dn, lm⟩ := q
  have R2 := R.grow G2
  obtain ⟨v1, e1, d1⟩ := eVar_slot R2 z0
  obtain ⟨v2, e2, d2⟩ := eVar_slot R2 z1
  have C := NdefX.cells_of I1 cap
  obtain ⟨c1, l1, k1⟩ := C.has 0 "clocks" rfl
  obtain ⟨c2, l2, k2⟩ := C.has 1 "every" rfl
  obtain ⟨u1, r1, o1, g1, x1⟩ := k1 v1 (by simp [e1])
  obtain ⟨u2, r2, o2, g2, x2⟩ := k2 v2 (by simp [e2])
  have ne : c1 ≠ c2 := fun z => by
    subst z
    have := C.inj _ _ _ l1 l2
    exact absurd this (by decide)
  have n1 := (C.all _ _ l1).1
  have n2 := (C.all _ _ l2).1
  have only : ∀ y c, (cloFrom X.env.cells lamP.2.2.names []).lookup y = some c → (y = "clocks" ∧ c = c1) ∨ (y = "every" ∧ c = c2) := fun y c e => by
    rcases cloFrom_mem (PySem.mem_of_lookup e) with hm | ⟨h1, _⟩
    · cases hm
    · have hy := sc_lam.free _ h1 rfl
      rcases List.mem_cons.mp hy with rfl | hy
      · rw [l1] at e; cases e; exact .inl ⟨rfl, rfl⟩
      · rcases List.mem_cons.mp hy with rfl | hy
        · rw [l2] at e; cases e; exact .inr ⟨rfl, rfl⟩
        · cases hy
  have big : ∀ {y c}, (cloFrom X.env.cells lamP.2.2.names []).lookup y = some c → X.s_0.heap.objs.size ≤ c := fun {y c} e => I.ok.cab y c (hfn y) (cap.sub y c e)
  have e0 := I1.env0
  have nb : ∀ {y c}, (cloFrom X.env.cells lamP.2.2.names []).lookup y = some c → ∀ b o, X.base.get? b = some o → b ≠ c := fun {y c} e b o hb z => by
    have h1 := Heap.lt_size hb
    have h2 := I.ok.bsz
    have h3 := big e
    rw [z] at h1
    exact absurd (Nat.lt_of_lt_of_le h1 (Nat.le_trans h2 h3)) (Nat.lt_irrefl _)
  have fb : ∀ {y c}, (cloFrom X.env.cells lamP.2.2.names []).lookup y = some c → ∀ b ∈ frs X.stack, b ≠ c := fun {y c} e b hb z => by
    rcases List.mem_cons.mp (I1.stkSub b hb) with q | q
    · exact I1.cne y c (cap.sub y c e) (z.symm.trans q)
    · obtain ⟨_, o, ho, _⟩ := I1.ok.funs.mem q
      have h1 := Heap.lt_size ho
      have h3 := big e
      rw [z] at h1
      exact absurd (Nat.lt_of_lt_of_le h1 h3) (Nat.lt_irrefl _)
  have sm : Same F2 H1 := G2.fh
  have eA : Env0 X.prog X.w X.K X.mg X.base X.A X.stack s1 (adc H1 c1 c2 o1 o2) := ⟨e0.frames, e0.mod, fun b o h => ⟨(e0.bs b o h).1, adc_none (nb l1 b o h) (nb l2 b o h) (e0.bs b o h).2⟩, e0.bsz, e0.funs, fun b hb => adc_none (fb l1 b hb) (fb l2 b hb) (e0.frf b hb), hok_adc e0.hok n1 n2 g1 g2, e0.bare⟩
  have m1 := same_free sm n1
  have m2 := same_free sm n2
  have sA : Same F2 (adc F2 c1 c2 o1 o2) := fun a u e => adc_of m1 m2 e
  have L : FnIn X.prog X.w (adc F2 c1 c2 o1 o2) (.ref f) dc de := ⟨f, c', c1, c2, o1, o2, u1, u2, v1, v2, pm, ctv, _, rfl, ⟨sA _ _ lm.1, sA _ _ lm.2, l1, l2, only, ne, adc_1, adc_2 ne, x1, x2, r1, r2, d1.mono sA, d2.mono sA⟩⟩
  have rl : us.length = 2 := r.length.symm
  have hbb := hb s1 us I1.kIn (by simp [rl, hgl])
  rw [List.append_nil] at hbb
  have rc := G.run X.A X.stack s1 (adc H1 c1 c2 o1 o2) ⟨us, []⟩ us [nv, .ref f] (fun v H' => H' c1 = some (CellH o1) → H' c2 = some (CellH o2) → Q v (drp H' c1 c2)) E0 hr eA hbb r
    ⟨adc F2 c1 c2 o1 o2, n, .ref f, nv, dc, de, z, same_adc sm n1 n2, noT_adc R2.noT, told_adc R2.told sm n1 n2, rfl, dn.mono sA, L, hz, fun u F3 H3 g3 d3 => fun _ _ => by
      refine k u _ _ (G2.trans (ungrow sm ne n1 n2 g3)) (Dn.drp (g3.ff _ _ adc_1) (g3.ff _ _ (adc_2 ne)) d3)⟩
  refine wpAny_call (codeAny_mono rc fun r s' hq => ?_)
  cases r with
  | error e => exact False.elim hq
  | ok fl =>
    cases fl with
    | ret u =>
      obtain ⟨v, H', os, bare, un, hok, rv, q⟩ := hq
      obtain ⟨un', hok'⟩ := untrack ne n1 n2 g1 g2 un hok
      exact I1.after ⟨v, _, os, bare, un', hok', rv, q (un.frzs c1 o1 (.own 0) adc_1) (un.frzs c2 o2 (.own 0) (adc_2 ne))⟩
    | next => exact False.elim hq
    | brk => exact False.elim hq
    | cont => exact False.elim hq
/-! ### table_from -/
abbrev N_table_from : List PySem.Str := ["clocks", "every"]
theorem sc_table_from : FnScope N_table_from ["clocks"] (defScope s_table_from) := ⟨rfl, rfl, rfl, by decide +kernel, rfl, by decide +kernel, by decide +kernel⟩
noncomputable def r_table_from : RS := sSeq (sSet 1 (eCall rf_all_hands (aCons (eVar 0) aNil))) (sRet (eTb (eCall (l1 dLen) (aCons (eVar 1) aNil))))
noncomputable def rf_table_from : List PyData → Option PyData := rfOf 1 r_table_from
theorem free_lam : ∀ y ∈ lamP.2.2.names, y.2 = .free → (defScope s_table_from).names.lookup y.1 = some .cell ∨ (defScope s_table_from).names.lookup y.1 = some .free := by decide +kernel
theorem fn_table_from {P : Program} {w : World} {K : PySem.W.Frag} {mg : Str → Option Value} {base : Heap} (M : MdT K mg base) : FnAt P w K mg base "table_from" 6 1 rf_table_from := by
  obtain ⟨fd, F⟩ := M.c.def_ 22 (d := d_table_from) rfl
  obtain ⟨oc, od, dV, kV, doc, pm, an, cdv, ct, osl, rfl, lk, hcd, _, _⟩ := id F.ex
  obtain ⟨c, TB, hc⟩ := M.tb1
  have hcode : cdv = .ref c := hc _ _ _ _ lk
  refine ⟨_, _, ["clocks"], fn_of lk hcd sc_table_from (fun vs H Q E h => by rw [h.len]; rfl) fun A outer s0 H vs Q E hr h => ⟨tS P w r_table_from, ?_, spOf_run (by rfl) h⟩, M.toMd.glo 22 rfl, F.kp, F.bindsN (fun _ _ _ _ _ _ us hl => match us, hl with | [_], _ => rfl)⟩
  have hb : JSs (cxOf CX0 P w K mg base N_table_from _ _ _ cdv A outer s0 H E).nox (defBody s_table_from) r_table_from :=
    (jss_cons (js_set (i := 1) sc_table_from.nd rfl (by first | exact Or.inl rfl | exact Or.inr rfl) (je_fn (fn_all_hands M.toMd) (hr.mono (by decide)) (by rfl) (ja_cons (je_var 0) ja_nil)))
      (jss_one (js_ret (pe_tb (c := c) M.toMd (hr.mono (by decide)) TB hcode (by rfl) (by rfl) (by rfl) free_lam (fun _ => rfl) rfl rfl (by rfl) (je_callB call_len_seq ok_len (by rfl) (Md.b_len M.toMd) bt_len (ja_cons (je_var 1) ja_nil))))))
  exact hb.nox
instance mdt_coe {K : PySem.W.Frag} {mg : Str → Option Value} {base : Heap} : CoeOut (MdT K mg base) (Md K mg base) := ⟨MdT.toMd⟩
end K67
set_option Elab.async false
set_option linter.all false
set_option maxRecDepth 100000
set_option maxHeartbeats 4000000
namespace K67
open PySem PySem.Spec PyProof.Rows L2
variable [TabA]
abbrev N_self_turnings : List PySem.Str := ["clocks"]
theorem sc_self_turnings : FnScope N_self_turnings ["clocks"] (defScope s_self_turnings) := ⟨rfl, rfl, rfl, by decide +kernel, rfl, by decide +kernel, by decide +kernel⟩
noncomputable def r_self_turnings : RS := (sRet (eCall rf_self_turnings_of (aCons (eCall rf_made_clocks (aCons (eVar 0) aNil)) aNil)))
noncomputable def rf_self_turnings : List PyData → Option PyData := rfOf 0 r_self_turnings
theorem fn_self_turnings {P : Program} {w : World} {K : PySem.W.Frag} {mg : Str → Option Value} {base : Heap} (M : Md K mg base) : FnAt P w K mg base "self_turnings" 9 1 rf_self_turnings := by
  obtain ⟨fd, F⟩ := M.c.def_ 26 (d := d_self_turnings) rfl
  refine fn_mk F (M.glo 26 rfl) sc_self_turnings rfl rfl (fun _ _ _ _ _ _ us hl => match us, hl with | [_], _ => rfl) fun cdv A outer s0 H E hr => ?_
  exact (jss_one (js_ret (je_fn (fn_self_turnings_of M) (hr.mono (by decide)) (by rfl) (ja_cons (je_fn (fn_made_clocks M) (hr.mono (by decide)) (by rfl) (ja_cons (je_var 0) ja_nil)) ja_nil))))
abbrev N_tables_count : List PySem.Str := ["n", "names", "number", "clocks"]
theorem sc_tables_count : FnScope N_tables_count ["n"] (defScope s_tables_count) := ⟨rfl, rfl, rfl, by decide +kernel, rfl, by decide +kernel, by decide +kernel⟩
noncomputable def r_tables_count : RS := (sSeq (sIf (rNot (tB (eCall rf_is_between (aCons (eVar 0) (aCons (eC (.int (.ofNat 1))) (aCons (eC (.int (.ofNat 40))) aNil)))))) sNever sNx) (sSeq (sSet 1 (eC (.int (.ofNat 1)))) (sSeq (sFor (iRng2 (eC (.int (.ofNat 1))) (eVar 0)) (b1 2) (sSet 1 (e2 dMul (eVar 1) (eVar 2)))) (sRet (eCall (l1 dSum) (aCons (eLc (iSeq (eCall rf_clocks_with (aCons (eVar 0) aNil))) (b1 3) rYes (e2 dDiv (eVar 1) (eCall rf_self_turnings_of (aCons (eVar 3) aNil))) [3]) aNil))))))
noncomputable def rf_tables_count : List PyData → Option PyData := rfOf 3 r_tables_count
theorem fn_tables_count {P : Program} {w : World} {K : PySem.W.Frag} {mg : Str → Option Value} {base : Heap} (M : Md K mg base) : FnAt P w K mg base "tables_count" 9 1 rf_tables_count := by
  obtain ⟨fd, F⟩ := M.c.def_ 27 (d := d_tables_count) rfl
  refine fn_mk F (M.glo 27 rfl) sc_tables_count rfl rfl (fun _ _ _ _ _ _ us hl => match us, hl with | [_], _ => rfl) fun cdv A outer s0 H E hr => ?_
  exact (jss_cons (js_if (jt_not (jt_val (je_fn (fn_is_between M) (hr.mono (by decide)) (by rfl) (ja_cons (je_var 0) (ja_cons je_int (ja_cons (je_glob (by rfl) (Md.int_MOST_COUNTED M)) ja_nil)))))) (jss_one js_never) jss_nil) (jss_cons (js_set (i := 1) sc_tables_count.nd rfl (by first | exact Or.inl rfl | exact Or.inr rfl) je_int) (jss_cons (js_for PassesOwn.never rfl roD_mono (ji_rng2 (by rfl) (Md.b_range M) je_int (je_var 0)) (jg_name (i := 2) sc_tables_count.nd rfl (by first | exact Or.inl rfl | exact Or.inr rfl)) (jss_one (js_set (i := 1) sc_tables_count.nd rfl (by first | exact Or.inl rfl | exact Or.inr rfl) (je_bin opr_mul ok_mul (je_var 1) (je_var 2))))) (jss_one (js_ret (je_callB (cr_sum rfl) ok_sum (by rfl) (Md.b_sum M) bt_sum (ja_cons (je_lc (own := [("clocks", 3)]) rfl sc_tables_count.nd roD_mono (ji_seq (je_fn (fn_clocks_with M) (hr.mono (by decide)) (by rfl) (ja_cons (je_var 0) ja_nil))) (blkOk_by (own := [("clocks", 3)]) (N := N_tables_count) (sc := defScope s_tables_count) (by decide +kernel)) (fun _ _ _ _ _ => (jg_name (i := 3) sc_tables_count.nd rfl (by first | exact Or.inl rfl | exact Or.inr rfl))) (fun _ _ _ _ _ => jts_nil) (fun _ _ _ _ _ => (je_bin op_fdiv ok_div (je_var 1) (je_fn (fn_self_turnings_of M) (hr.mono (by decide)) (by rfl) (ja_cons (je_var 3) ja_nil)))) (by decide)) ja_nil)))))))
abbrev N_table_of_clocks : List PySem.Str := ["clocks", "many"]
theorem sc_table_of_clocks : FnScope N_table_of_clocks ["clocks"] (defScope s_table_of_clocks) := ⟨rfl, rfl, rfl, by decide +kernel, rfl, by decide +kernel, by decide +kernel⟩
noncomputable def r_table_of_clocks : RS := (sSeq (sSet 0 (eCall rf_made_clocks (aCons (eVar 0) aNil))) (sSeq (sSet 1 (eCall rf_product_of (aCons (eVar 0) aNil))) (sSeq (sIf (tB (e2 dGt (eVar 1) (eC (.int (.ofNat 12))))) sNever sNx) (sRet (eCall rf_table_from (aCons (eVar 0) aNil))))))
noncomputable def rf_table_of_clocks : List PyData → Option PyData := rfOf 1 r_table_of_clocks
theorem fn_table_of_clocks {P : Program} {w : World} {K : PySem.W.Frag} {mg : Str → Option Value} {base : Heap} (T : MdT K mg base) : FnAt P w K mg base "table_of_clocks" 7 1 rf_table_of_clocks := by
  have M := T.toMd
  obtain ⟨fd, F⟩ := M.c.def_ 23 (d := d_table_of_clocks) rfl
  refine fn_mk F (M.glo 23 rfl) sc_table_of_clocks rfl rfl (fun _ _ _ _ _ _ us hl => match us, hl with | [_], _ => rfl) fun cdv A outer s0 H E hr => ?_
  exact (jss_cons (js_set (i := 0) sc_table_of_clocks.nd rfl (by first | exact Or.inl rfl | exact Or.inr rfl) (je_fn (fn_made_clocks M) (hr.mono (by decide)) (by rfl) (ja_cons (je_var 0) ja_nil))) (jss_cons (js_set (i := 1) sc_table_of_clocks.nd rfl (by first | exact Or.inl rfl | exact Or.inr rfl) (je_fn (fn_product_of M) (hr.mono (by decide)) (by rfl) (ja_cons (je_var 0) ja_nil))) (jss_cons (js_if (jt_cmp op_gt ok_gt (je_var 1) (je_glob (by rfl) (Md.int_MOST_STATES M)) (nomark _)) (jss_one js_never) jss_nil) (jss_one (js_ret (je_fn (fn_table_from T) (hr.mono (by decide)) (by rfl) (ja_cons (je_var 0) ja_nil)))))))
end K67
set_option Elab.async false
set_option linter.all false
set_option maxRecDepth 100000
set_option maxHeartbeats 4000000
namespace K67
open PySem PySem.Spec PyProof.Rows L2
variable [TabA]
/-! ### repr(a) != repr(b), of the same number -/
noncomputable def tReprNe (ra rb : RE) : RT := fun env => bd (ra env) fun d => bd (rb env) fun e => bd (toI d) fun i => bd (toI e) fun j => bIf (zEq i j) (bIf (Nat.ble i.natAbs 1000000000000000000) (some false) none) none
theorem scal_str (x : Str) : scal (.str x) (.str x) = true := by rfl
theorem log_small {n : Nat} (h : n ≤ 1000000000000000000) : n.log2 < 1920 := by
  by_cases z : n = 0
  · subst z; decide
  · exact (Nat.log2_lt z).mpr (Nat.lt_of_le_of_lt h (Nat.lt_of_lt_of_le (by decide : 1000000000000000000 < 2 ^ 60) (Nat.pow_le_pow_right (by decide) (by decide))))
theorem jt_reprNeI {X : Cx} {a b : Expr} {ra rb : RE} {p1 p2 p3 p4 pos : Pos} (hg : Gl X "repr") (hm : X.mg "repr" = none) (ha : JE X a ra) (hb : JE X b rb) (sa : starEach [a] X.env = (false, eval a X.env) :: starEach [] X.env := by rfl) (sb : starEach [b] X.env = (false, eval b X.env) :: starEach [] X.env := by rfl) :
    JT X (.Compare (.Call (.Name "repr" p1) [a] [] p2) [.NotEq] [.Call (.Name "repr" p3) [b] [] p4] pos) (tReprNe ra rb) := by
  refine PT.imp (pt_cmpR op_ne (pe_callB (SkE.call_repr_int) hg hm bt_repr (pa_cons ha pa_nil sa) (by decide) (by decide) sa (by rfl)) (pe_callB (SkE.call_repr_int) hg hm bt_repr (pa_cons hb pa_nil sb) (by decide) (by decide) sb (by rfl)) (nomark _)) ?_
  rintro σ H Q ⟨F0, H0, F, env, z, R, hr, k⟩
  obtain ⟨d, h1, hr⟩ := bd_some hr
  obtain ⟨e, h2, hr⟩ := bd_some hr
  obtain ⟨i, h3, hr⟩ := bd_some hr
  obtain ⟨j, h4, hr⟩ := bd_some hr
  obtain ⟨h5, hr⟩ := bIf_some hr
  obtain ⟨h6, hr⟩ := bIf_some hr
  cases hr
  have e1 := toI_some h3
  have e2 := toI_some h4
  subst e1
  subst e2
  rw [zEq_eq, decide_eq_true_eq] at h5
  subst h5
  have hz := log_small (ble_le h6)
  refine ⟨F0, H0, F, env, _, R, h1, fun v F1 H1 g1 n1 => ?_⟩
  cases n1
  refine ⟨i, rfl, hz, ⟨F0, H0, F1, env, _, R.grow g1, h2, fun v F2 H2 g2 n2 => ?_⟩⟩
  cases n2
  refine ⟨i, rfl, hz, scal_str _, ?_⟩
  exact ⟨false, by simp, k F2 H2 (g1.trans g2)⟩
end K67
set_option Elab.async false
set_option linter.all false
set_option maxRecDepth 100000
set_option maxHeartbeats 4000000
namespace K67
open PySem PySem.Spec PyProof.Rows L2
variable [TabA]
/-! ### repr of tuples of tuples of numbers -/
def sameL (f : PyData → PyData → Bool) : List PyData → List PyData → Bool
  | [], [] => true
  | x :: xs, y :: ys => f x y && sameL f xs ys
  | _, _ => false
def same : Nat → PyData → PyData → Bool
  | 0, _, _ => false
  | n + 1, d, e => match d, e with
    | .int i, .int j => decide (i = j)
    | .tuple xs, .tuple ys => sameL (same n) xs ys
    | _, _ => false
omit [TabA] in
theorem sameL_eq {f : PyData → PyData → Bool} (hf : ∀ d e, f d e = true → d = e) : ∀ xs ys, sameL f xs ys = true → xs = ys
  | [], [], _ => rfl
  | [], _ :: _, h => by cases h
  | _ :: _, [], h => by cases h
  | x :: xs, y :: ys, h => by
    have h : (f x y && sameL f xs ys) = true := h
    rw [Bool.and_eq_true] at h
    rw [hf _ _ h.1, sameL_eq hf xs ys h.2]
omit [TabA] in
theorem same_eq : ∀ (n : Nat) (d e : PyData), same n d e = true → d = e
  | 0, _, _, h => by cases h
  | n + 1, d, e, h => by
    unfold same at h
    split at h
    · rw [of_decide_eq_true h]
    · rw [sameL_eq (same_eq n) _ _ h]
    · cases h
def goodR (d : PyData) : Bool := PyData.layable0 d && (PyData.intsShort 13 d && PyData.showable d)
section
variable {P : Program} {w : World} {F H : Hp} {h : Heap}
mutual
theorem Dn.reads (sm : Same F H) (ok : HOk P w H h) : ∀ {v : V} {d : PyData} {u : Value}, Dn P w F v d → d.hasDict = false → L2.RelV v u → ∃ as, Reads h u d as
  | _, _, u, .non, _, r => by obtain rfl : u = Value.none := r; exact ⟨_, .none⟩
  | _, _, u, .bl b, _, r => by obtain rfl : u = Value.bool b := r; exact ⟨_, .bool b⟩
  | _, _, u, .int i, _, r => by obtain ⟨t, rfl⟩ := r; exact ⟨_, .int i t⟩
  | _, _, u, .str x, _, r => by obtain ⟨t, rfl⟩ := r; exact ⟨_, .str x t⟩
  | _, _, u, .lst (a := a) (xs := xs) hq ra, hd, r => by
    obtain rfl : u = Value.ref a := r
    obtain ⟨_, us, n, rv, g⟩ := ok a _ (sm _ _ hq)
    obtain ⟨as, q⟩ := DnAll.reads sm ok ra (by simpa [PyData.hasDict] using hd) rv
    exact ⟨_, .list g rfl rfl (by simpa using q)⟩
  | _, _, u, .tup (a := a) (us := us0) (xs := xs) hq ra, hd, r => by
    obtain rfl : u = Value.ref a := r
    have z : ObjOk P w H h a (tF us0 xs) := ok a _ (sm _ _ hq)
    unfold tF at z
    obtain ⟨_, its, rv, o, g, hc, n, hdt⟩ := z.2
    obtain ⟨as, q⟩ := DnAll.reads sm ok ra (by simpa [PyData.hasDict] using hd) rv
    exact ⟨_, .tuple g hc hdt (by simpa using q)⟩
  | _, _, u, .dic hq ra, hd, r => by simp [PyData.hasDict] at hd
  | _, _, u, .dci hq ra, hd, r => by simp [PyData.hasDict] at hd
theorem DnAll.reads (sm : Same F H) (ok : HOk P w H h) : ∀ {vs : List V} {ds : List PyData} {us : List Value}, DnAll P w F vs ds → PyData.hasDictAll ds = false → Vals vs us → ∃ as, ReadsAll h us ds as
  | _, _, _, .nil, _, .nil => ⟨_, .nil⟩
  | _, _, _, .cons (d := d) (ds := ds) a b, hd, .cons r rr => by
    have hd : (PyData.hasDict d || PyData.hasDictAll ds) = false := by simpa [PyData.hasDictAll] using hd
    rw [Bool.or_eq_false_iff] at hd
    obtain ⟨as, q⟩ := Dn.reads sm ok a hd.1 r
    obtain ⟨bs, q'⟩ := DnAll.reads sm ok b hd.2 rr
    exact ⟨_, .cons q q'⟩
end
end
section
variable {X : Cx}
theorem cr_reprT (hg : X.A.guards = some []) (hu : X.A.units + 70 < cLine) : CallR X (.builtin "repr") (fun xs H Q => ∃ a d F, xs = [.ref a] ∧ Same F H ∧ Dn X.prog X.w F (.ref a) d ∧ goodR d = true ∧ Q (.str d.shown) H) := by
  intro pins s σ H xs us Q I r h
  obtain ⟨a, d, F, rfl, sm, dn, gd, q⟩ := h
  obtain ⟨u, rfl, ru⟩ := vals1 r
  obtain rfl : u = Value.ref a := ru
  unfold goodR at gd
  rw [Bool.and_eq_true, Bool.and_eq_true] at gd
  obtain ⟨hl, hi, hs⟩ := gd
  have hd := PyData.hasDict_of_layable hl
  have hdp : PyData.depth d ≤ 64 := by
    have hl' : (PyData.canLay0 d && decide (PyData.depth d ≤ 64) && decide (PyData.weight d ≤ 2 ^ 20)) = true := hl
    simp only [Bool.and_eq_true, decide_eq_true_eq] at hl'
    exact hl'.1.2
  obtain ⟨as, rd⟩ := Dn.reads sm I.hok dn hd rfl
  exact repr_of_reads' rd hs (PyData.noDict_hsm hd) hg (by omega) (fun _ _ e => e) (fun h' u tk hk => ⟨.str _, H, I.kept hk, ⟨u, rfl⟩, q⟩) (Nat.le_trans (shown_le13 hl hi) (by rw [sizeLine_eq]; decide))
noncomputable def isTp (d : PyData) : Bool := @PyData.casesOn (fun _ => Bool) d false (fun _ => false) (fun _ => false) (fun _ => false) (fun _ => false) (fun _ => true) (fun _ => false)
noncomputable def tReprNeT (ra rb : RE) : RT := fun env => bd (ra env) fun d => bd (rb env) fun e => bIf (same 5 d e) (bIf (isTp d) (bIf (goodR d) (some false) none) none) none
theorem jt_reprNeT {a b : Expr} {ra rb : RE} {p1 p2 p3 p4 pos : Pos} (hgd : X.A.guards = some []) (hu : X.A.units + 70 < cLine) (hg : Gl X "repr") (hm : X.mg "repr" = none) (ha : JE X a ra) (hb : JE X b rb) (sa : starEach [a] X.env = (false, eval a X.env) :: starEach [] X.env := by rfl) (sb : starEach [b] X.env = (false, eval b X.env) :: starEach [] X.env := by rfl) :
    JT X (.Compare (.Call (.Name "repr" p1) [a] [] p2) [.NotEq] [.Call (.Name "repr" p3) [b] [] p4] pos) (tReprNeT ra rb) := by
  refine PT.imp (pt_cmpR op_ne (pe_callB (cr_reprT hgd hu) hg hm bt_repr (pa_cons ha pa_nil sa) (by decide) (by decide) sa (by rfl)) (pe_callB (cr_reprT hgd hu) hg hm bt_repr (pa_cons hb pa_nil sb) (by decide) (by decide) sb (by rfl)) (nomark _)) ?_
  rintro σ H Q ⟨F0, H0, F, env, z, R, hr, k⟩
  obtain ⟨d, h1, hr⟩ := bd_some hr
  obtain ⟨e, h2, hr⟩ := bd_some hr
  obtain ⟨h3, hr⟩ := bIf_some hr
  obtain ⟨h4, hr⟩ := bIf_some hr
  obtain ⟨h5, hr⟩ := bIf_some hr
  cases hr
  have e1 := same_eq _ _ _ h3
  subst e1
  refine ⟨F0, H0, F, env, _, R, h1, fun v F1 H1 g1 n1 => ?_⟩
  have n1' := n1
  cases n1 with
  | tup hq rq =>
    refine ⟨_, _, F1, rfl, g1.fh, n1', h5, ⟨F0, H0, F1, env, _, R.grow g1, h2, fun v F2 H2 g2 n2 => ?_⟩⟩
    have n2' := n2
    cases n2 with
    | tup hq rq =>
      refine ⟨_, _, F2, rfl, g2.fh, n2', h5, scal_str _, ?_⟩
      exact ⟨false, by simp, k F2 H2 (g1.trans g2)⟩
  | _ => cases h4
end
end K67
set_option Elab.async false
set_option linter.all false
set_option maxRecDepth 100000
set_option maxHeartbeats 4000000
namespace K67
open PySem PySem.Spec PyProof.Rows L2
variable [TabA]
/-! ### defs that show tuples: no repr is under way around them -/
def FnAtG (P : Program) (w : World) (K : PySem.W.Frag) (mg : Str → Option Value) (base : Heap) (x : Str) (k n : Nat) (rf : List PyData → Option PyData) : Prop :=
  ∃ (f : Addr) (fd : FuncData) (ps : List Str), ps.length = n ∧ (∀ (A : Around) (outer : List Env) (s : Shared) (H : Hp) (args : Args) (us : List Value) (vs : List V) (Q : VK) (E : XK), A.guards = some [] → Room k A → Env0 P w K mg base A outer s H → BindsTo s fd args (ps.zip us) → Vals vs us → spOf P w n rf vs H Q E →
    codeAny (model P w) A (.call (.ref f) args) (CR CX0 outer P w H s Q E) s) ∧ mg x = some (.ref f) ∧ PySem.W.keepIn K (.ref f) = true ∧ Binds K fd ps []
section
variable {P : Program} {w : World} {K : PySem.W.Frag} {mg : Str → Option Value} {base : Heap}
theorem fn_mkG {x qual : Str} {params : Arguments} {body : List Stmt} {scope : Scope} {f : Addr} {fd : FuncData} {N ps : List Str} {k n m : Nat} {s : RS} (F : FunD K x qual params body scope [] [] f fd) (hm : mg x = some (.ref f)) (S : FnScope N ps scope) (hn : ps.length = n) (hN : N.length = n + m)
    (hbind : ∀ (kV doc pm : Value) (an : Option Addr) (cdv ct : Value) (us : List Value), us.length = ps.length → bindArgs (PySem.W.fnOf x qual params body scope .none kV doc pm an cdv ct) ⟨us, []⟩ = pure (ps.zip us))
    (hb : ∀ (cdv : Value) (A : Around) (outer : List Env) (s0 : Shared) (H : Hp) (E : XK), (A.deeper (envOfC qual scope s0.heap.objs.size f cdv)).guards = some [] → Room k (A.deeper (envOfC qual scope s0.heap.objs.size f cdv)) → JSs (cxOf CX0 P w K mg base N qual scope f cdv A outer s0 H E).nox body s) :
    FnAtG P w K mg base x (k + 1) n (rfOf m s) := by
  refine ⟨f, fd, ps, hn, fun A outer s0 H args us vs Q E hg hr e0 hbd r h => ?_, hm, F.kp, F.bindsN hbind⟩
  obtain ⟨oc, od, dV, kV, doc, pm, an, cdv, ct, osl, rfl, lk, hcd, _, _⟩ := id F.ex
  exact LamX.run_ofS lk hcd S hr e0 hbd r (by rw [h.len, hn]) fun hr' => ⟨_, (hb cdv A outer s0 H E hg hr').nox, spOf_run hN h⟩
end
omit [TabA] in
theorem u70 {k : Nat} {A : Around} (hr : Room k A) : A.units + 70 < cLine := by have := hr.un; omega
section
variable {X : Cx} {k n : Nat} {rf : List PyData → Option PyData} {x : Str} {p pos : Pos} {e : Expr} {es : List Expr} {rs : RA}
theorem je_fnG (G : FnAtG X.prog X.w X.K X.mg X.base x k n rf) (hgd : X.A.guards = some []) (hr : Room k X.A) (hg : Gl X x) (ha : JA X (e :: es) rs) (hl : (e :: es).length = n := by rfl)
    (hdb : (x == ("__debug__" : Str)) = false := by decide) (he : starEach (e :: es) X.env = (false, eval e X.env) :: starEach es X.env := by rfl) (hpl : (backTo pos (starEach es X.env)).any (·.1) = false := by rfl) :
    JE X (.Call (.Name x p) (e :: es) [] pos) (eCall rf rs) := by
  obtain ⟨f, fd, ps, hn, run, hm, hk, hb⟩ := G
  refine ⟨fun pins s σ H Q I h => ?_⟩
  obtain ⟨F0, H0, F, env, z, R, hr1, k1⟩ := h
  obtain ⟨ds, h1, hr1⟩ := bd_some hr1
  refine wpAny_Call_Name_kw (ld_glob I hg hm ?_ hdb)
  refine PySem.W.callWith_K (h₀ := X.base) I.ok.mod.kin hk (thn (ha.pa.run pos pins s σ H (fun vs H1 => ∃ F1, Grow F H F1 H1 ∧ DnAll X.prog X.w F1 vs ds) I ⟨F0, H0, F, env, ds, R, h1, fun vs F1 H1 g1 n1 => ⟨F1, g1, n1⟩⟩) fun us s1 ⟨vs, H1, I1, r, q⟩ => ⟨I1.kIn, ?_⟩) he hpl
  obtain ⟨F1, g1, n1⟩ := q
  have hdl : ds.length = n := (ha.len env ds h1).trans hl
  have hul : us.length = n := by rw [← r.length, n1.length, hdl]
  have hbb := hb s1 us I1.kIn (by simp [hul, hn])
  rw [List.append_nil] at hbb
  refine wpAny_call (codeAny_mono (run X.A X.stack s1 H1 ⟨us, []⟩ us vs Q E0 hgd hr I1.env0 hbb r ⟨F1, ds, z, g1.fh, (R.grow g1).noT, (R.grow g1).told, n1, hdl, hr1, fun v F' H' g' n' => k1 v F' H' (g1.trans g') n'⟩) fun r s' hq => ?_)
  cases r with
  | error e => exact False.elim hq
  | ok fl =>
    cases fl with
    | ret u => exact I1.after hq
    | next => exact False.elim hq
    | brk => exact False.elim hq
    | cont => exact False.elim hq
end
end K67
set_option Elab.async false
set_option linter.all false
set_option maxRecDepth 100000
set_option maxHeartbeats 4000000
namespace K67
open PySem PySem.Spec PyProof.Rows L2
variable [TabA]
abbrev N_law_listed_right : List PySem.Str := ["_law_n", "_law_lot", "_law_found", "_law_clocks", "_law_table", "_law_plain", "_law_order"]
theorem sc_law_listed_right : FnScope N_law_listed_right ["_law_n", "_law_lot"] (defScope s_law_listed_right) := ⟨rfl, rfl, rfl, by decide +kernel, rfl, by decide +kernel, by decide +kernel⟩
noncomputable def r_law_listed_right : RS := (sSeq (sOwnD 2) (sSeq (sFor (iSeq (eVar 1)) (b1 3) (sSeq (sSet 5 (eCall rf_law_table_of_hands (aCons (eVar 3) (aCons (eCall rf_law_all_hands (aCons (eVar 3) aNil)) aNil)))) (sFor (iSeq (eCall rf_law_all_names (aCons (eVar 0) aNil))) (b1 6) (sPut 2 (eVar 3) (eCall rf_law_named_table (aCons (eVar 5) (aCons (eVar 6) aNil))))))) (sFrzD 2 (sSeq (sIf (tReprNe (eCall rf_tables_count (aCons (eVar 0) aNil)) (eCall (l1 dLenD) (aCons (eVar 2) aNil))) (sRet (eC (.bool false))) sNx) (sSeq (sFor (iKeys (eVar 2)) (b1 4) (sSeq (sIf (rOr (rNot (tB (eCall rf_law_is_proof (aCons (eVar 4) aNil)))) (tB (e2 dNotIs (eCall rf_order_proof (aCons (eVar 4) aNil)) (eC (.bool true))))) (sRet (eC (.bool false))) sNx) (sIf (tB (e2 dNe (e2 dIx (eCall rf_coordinates (aCons (eVar 4) aNil)) (eC (.int (.ofNat 0)))) (e2 dGetK (eVar 2) (eVar 4)))) (sRet (eC (.bool false))) sNx))) (sRet (eC (.bool true))))))))
noncomputable def rf_law_listed_right : List PyData → Option PyData := rfOf 5 r_law_listed_right
theorem fn_law_listed_right {P : Program} {w : World} {K : PySem.W.Frag} {mg : Str → Option Value} {base : Heap} (M : Md K mg base) : FnAt P w K mg base "_law_listed_right" 10 2 rf_law_listed_right := by
  obtain ⟨fd, F⟩ := M.c.def_ 62 (d := d_law_listed_right) rfl
  refine fn_mk F (M.glo 62 rfl) sc_law_listed_right rfl rfl (fun _ _ _ _ _ _ us hl => match us, hl with | [_, _], _ => rfl) fun cdv A outer s0 H E hr => ?_
  exact (jss_cons (js_ownD (i := 2) sc_law_listed_right.nd rfl (by first | exact Or.inl rfl | exact Or.inr rfl)) (jss_cons (js_for PassesOwn.never rfl roD_mono (ji_seq (je_var 1)) (jg_name (i := 3) sc_law_listed_right.nd rfl (by first | exact Or.inl rfl | exact Or.inr rfl)) (jss_cons (js_set (i := 5) sc_law_listed_right.nd rfl (by first | exact Or.inl rfl | exact Or.inr rfl) (je_fn (fn_law_table_of_hands M) (hr.mono (by decide)) (by rfl) (ja_cons (je_var 3) (ja_cons (je_fn (fn_law_all_hands M) (hr.mono (by decide)) (by rfl) (ja_cons (je_var 3) ja_nil)) ja_nil)))) (jss_one (js_for PassesOwn.never rfl roD_mono (ji_seq (je_fn (fn_law_all_names M) (hr.mono (by decide)) (by rfl) (ja_cons (je_var 0) ja_nil))) (jg_name (i := 6) sc_law_listed_right.nd rfl (by first | exact Or.inl rfl | exact Or.inr rfl)) (jss_one (js_put (i := 2) rfl (by first | exact Or.inl rfl | exact Or.inr (Or.inl rfl) | exact Or.inr (Or.inr rfl)) hr.units (je_var 3) (je_fn (fn_law_named_table M) (hr.mono (by decide)) (by rfl) (ja_cons (je_var 5) (ja_cons (je_var 6) ja_nil))))))))) (js_frzD (i := 2) (jss_cons (js_if (jt_reprNeI (by rfl) (Md.b_repr M) (je_fn (fn_tables_count M) (hr.mono (by decide)) (by rfl) (ja_cons (je_var 0) ja_nil)) (je_callB call_lenN ok_lenD (by rfl) (Md.b_len M) bt_len (ja_cons (je_var 2) ja_nil))) (jss_one (js_ret je_bl)) jss_nil) (jss_cons (js_for PassesOwn.never rfl roD_mono (ji_keys (je_var 2)) (jg_name (i := 4) sc_law_listed_right.nd rfl (by first | exact Or.inl rfl | exact Or.inr rfl)) (jss_cons (js_if (PW.pt (jw_or (jt_not (jt_val (je_fn (fn_law_is_proof M) (hr.mono (by decide)) (by rfl) (ja_cons (je_var 4) ja_nil)))) (jw_1 (jt_cmp op_notBl ok_notIs (je_fn (fn_order_proof M) (hr.mono (by decide)) (by rfl) (ja_cons (je_var 4) ja_nil)) je_bl (nomark _))))) (jss_one (js_ret je_bl)) jss_nil) (jss_one (js_if (jt_cmp (op_neD hr.units) ok_ne (je_ix (ix_list.or ix_tup) ok_ix (je_fn (fn_coordinates M) (hr.mono (by decide)) (by rfl) (ja_cons (je_var 4) ja_nil)) je_int (fun _ _ => rfl)) (je_getD hr.units (je_var 2) (je_var 4) (fun _ _ => rfl)) (nomark _)) (jss_one (js_ret je_bl)) jss_nil)))) (jss_one (js_ret je_bl)))))))
abbrev N_law_number_right : List PySem.Str := ["_law_n", "_law_most", "_law_clocks", "_law_lot", "_law_names_of_all", "_law_size", "_law_turnings", "_law_k"]
theorem sc_law_number_right : FnScope N_law_number_right ["_law_n", "_law_most"] (defScope s_law_number_right) := ⟨rfl, rfl, rfl, by decide +kernel, rfl, by decide +kernel, by decide +kernel⟩
noncomputable def r_law_number_right : RS := (sSeq (sPar3 3 4 5 (eCall rf_law_all_clocks (aCons (eVar 0) aNil)) (eCall rf_law_times (aCons (eLc (iRng2 (eC (.int (.ofNat 1))) (e2 dAdd (eVar 0) (eC (.int (.ofNat 1))))) (b1 7) rYes (eVar 7) [7]) aNil)) (eC (.int (.ofNat 0)))) (sSeq (sIf (tReprNeT (eCall rf_kinds (aCons (eVar 0) aNil)) (eCall (l1 dTuple) (aCons (eVar 3) aNil))) (sRet (eC (.bool false))) sNx) (sSeq (sFor (iSeq (eVar 3)) (b1 2) (sSeq (sSet 6 (eCall rf_law_turnings_tried (aCons (eVar 2) aNil))) (sSeq (sIf (rOr (tReprNe (eCall rf_self_turnings (aCons (eVar 2) aNil)) (eVar 6)) (tB (e2 dNe (eCall rf_made_clocks (aCons (eVar 2) aNil)) (eVar 2)))) (sRet (eC (.bool false))) sNx) (sSeq (sIf (tB (e2 dNe (eCall rf_table_of_clocks (aCons (eVar 2) aNil)) (eCall rf_law_table_of_hands (aCons (eVar 2) (aCons (eCall rf_law_all_hands (aCons (eVar 2) aNil)) aNil))))) (sRet (eC (.bool false))) sNx) (sSet 5 (e2 dAdd (eVar 5) (e2 dDiv (eVar 4) (e2 dMul (eVar 0) (eVar 6))))))))) (sSeq (sIf (tReprNe (eCall rf_tables_count (aCons (eVar 0) aNil)) (eVar 5)) (sRet (eC (.bool false))) sNx) (sRet (eIf (tB (e2 dGt (eVar 0) (eVar 1))) (eC (.bool true)) (eCall rf_law_listed_right (aCons (eVar 0) (aCons (eVar 3) aNil)))))))))
noncomputable def rf_law_number_right : List PyData → Option PyData := rfOf 6 r_law_number_right
theorem fn_law_number_right {P : Program} {w : World} {K : PySem.W.Frag} {mg : Str → Option Value} {base : Heap} (T : MdT K mg base) : FnAtG P w K mg base "_law_number_right" 11 2 rf_law_number_right := by
  have M := T.toMd
  obtain ⟨fd, F⟩ := M.c.def_ 63 (d := d_law_number_right) rfl
  refine fn_mkG F (M.glo 63 rfl) sc_law_number_right rfl rfl (fun _ _ _ _ _ _ us hl => match us, hl with | [_, _], _ => rfl) fun cdv A outer s0 H E hg0 hr => ?_
  exact (jss_cons (js_par3 (i := 3) (j := 4) (l := 5) rfl sc_law_number_right.nd rfl rfl rfl (by decide) (by decide) (by decide) rfl rfl rfl (je_fn (fn_law_all_clocks M) (hr.mono (by decide)) (by rfl) (ja_cons (je_var 0) ja_nil)) (je_fn (fn_law_times M) (hr.mono (by decide)) (by rfl) (ja_cons (je_lc (own := [("_law_k", 7)]) rfl sc_law_number_right.nd roD_mono (ji_rng2 (by rfl) (Md.b_range M) je_int (je_bin opr_add ok_add (je_var 0) je_int)) (blkOk_by (own := [("_law_k", 7)]) (N := N_law_number_right) (sc := defScope s_law_number_right) (by decide +kernel)) (fun _ _ _ _ _ => (jg_name (i := 7) sc_law_number_right.nd rfl (by first | exact Or.inl rfl | exact Or.inr rfl))) (fun _ _ _ _ _ => jts_nil) (fun _ _ _ _ _ => (je_var 7)) (by decide)) ja_nil)) je_int (by rfl)) (jss_cons (js_if (jt_reprNeT hg0 (u70 hr) (by rfl) (Md.b_repr M) (je_fn (fn_kinds M) (hr.mono (by decide)) (by rfl) (ja_cons (je_var 0) ja_nil)) (je_callTy call_tupleF ok_tuple (by rfl) (Md.b_tuple M) bt_tuple (ja_cons (je_var 3) ja_nil))) (jss_one (js_ret je_bl)) jss_nil) (jss_cons (js_for PassesOwn.never rfl roD_mono (ji_seq (je_var 3)) (jg_name (i := 2) sc_law_number_right.nd rfl (by first | exact Or.inl rfl | exact Or.inr rfl)) (jss_cons (js_set (i := 6) sc_law_number_right.nd rfl (by first | exact Or.inl rfl | exact Or.inr rfl) (je_fn (fn_law_turnings_tried M) (hr.mono (by decide)) (by rfl) (ja_cons (je_var 2) ja_nil))) (jss_cons (js_if (PW.pt (jw_or (jt_reprNeI (by rfl) (Md.b_repr M) (je_fn (fn_self_turnings M) (hr.mono (by decide)) (by rfl) (ja_cons (je_var 2) ja_nil)) (je_var 6)) (jw_1 (jt_cmp (op_neD hr.units) ok_ne (je_fn (fn_made_clocks M) (hr.mono (by decide)) (by rfl) (ja_cons (je_var 2) ja_nil)) (je_var 2) (nomark _))))) (jss_one (js_ret je_bl)) jss_nil) (jss_cons (js_if (jt_cmp (op_neD hr.units) ok_ne (je_fn (fn_table_of_clocks T) (hr.mono (by decide)) (by rfl) (ja_cons (je_var 2) ja_nil)) (je_fn (fn_law_table_of_hands M) (hr.mono (by decide)) (by rfl) (ja_cons (je_var 2) (ja_cons (je_fn (fn_law_all_hands M) (hr.mono (by decide)) (by rfl) (ja_cons (je_var 2) ja_nil)) ja_nil))) (nomark _)) (jss_one (js_ret je_bl)) jss_nil) (jss_one (js_set (i := 5) sc_law_number_right.nd rfl (by first | exact Or.inl rfl | exact Or.inr rfl) (je_bin opr_add ok_add (je_var 5) (je_bin op_fdiv ok_div (je_var 4) (je_bin opr_mul ok_mul (je_var 0) (je_var 6)))))))))) (jss_cons (js_if (jt_reprNeI (by rfl) (Md.b_repr M) (je_fn (fn_tables_count M) (hr.mono (by decide)) (by rfl) (ja_cons (je_var 0) ja_nil)) (je_var 5)) (jss_one (js_ret je_bl)) jss_nil) (jss_one (js_ret (je_or (je_cmp op_gt ok_gt (je_var 0) (je_var 1) (nomark _)) (je_b1 (je_fn (fn_law_listed_right M) (hr.mono (by decide)) (by rfl) (ja_cons (je_var 0) (ja_cons (je_var 3) ja_nil)))))))))))
end K67
set_option Elab.async false
set_option linter.all false
set_option maxRecDepth 100000
set_option maxHeartbeats 4000000
namespace K67
open PySem PySem.Spec PyProof.Rows L2
/-! ### Refused.__init__ -/
def s_init : Stmt := match top 1 with
  | .ClassDef _ _ _ (st :: _) _ _ _ _ _ _ _ => st
  | st => st
abbrev N_init : List PySem.Str := ["self", "what", "__class__"]
theorem sc_init : NdefX.NScope N_init ["self", "what"] ["__class__"] (defScope s_init) := NdefX.nscope_by (by decide +kernel)
abbrev nfI (cc c : Addr) : NdefX.NF := ⟨"__init__", "Refused.__init__", defArgs s_init, defBody s_init, defScope s_init, [("__class__", cc)], c⟩
/-- what the written part says of it -/
structure InitTx (P : Program) (K : PySem.W.Frag) (fI D cc c : Addr) : Prop where
  fn : ∃ (oc : Value) (od : Option Addr) (kV doc pm : Value) (an : Option Addr) (ct : Value) (osl : Array (Option Value)), K.lookup fI = some ⟨oc, od, .func (PySem.W.fnX "__init__" "Refused.__init__" (defArgs s_init) (defBody s_init) (defScope s_init) [("__class__", cc)] .none kV doc pm an (.ref c) ct), osl⟩
  code : PySem.W.codeIn K (.ref c) "Refused.__init__" = true
  file : ∃ (ccl : Value) (cdd : Option Addr) (vs : Array Value) (ccs : Array (Option Value)) (file : Str) (tf : Tok), K.lookup c = some ⟨ccl, cdd, .fields vs, ccs⟩ ∧ vs[2]? = some (.str file tf) ∧ ((P.main.file : Str) == file) = true
  cell : ∃ (cl : Value) (cld : Option Addr) (csl : Array (Option Value)), K.lookup cc = some ⟨cl, cld, .cell (some (.ref D)), csl⟩
  cls : ∃ cd, PySem.W.clsIn K D = some cd
  sup : PySem.W.nsIn K mainGlobals "super" = some none
  opq : PySem.W.nsIn K cStatics "thirdparty.any" = some none
  top : (P.main.scope.names.lookup ("super" : Str)).isSome = false
/-- .. and of the class C of the object -/
structure InitC (K : PySem.W.Frag) (C D : Addr) : Prop where
  ox : OexC K C
  no : PySem.W.findIn K (.ref C) "what" = some none
  sup : PySem.W.ks_superIn K C D "__init__" = some (some (.builtin "ValueError.__init__"))
  sub : PySem.W.mroIn K C (.ref D) = some true
  ve : PySem.W.subIn K (.ref C) (.type "ValueError") = some true
/-- its promise -/
def spInit (K : PySem.W.Frag) (D : Addr) : Sp := fun vs H Q _ => ∃ (a C : Addr) (v : V), vs = [.ref a, v] ∧ InitC K C D ∧ H a = some (exo a C none) ∧ ∀ dx, H dx = none → dx ≠ a → Q .non (upd (upd H dx (exd dx [(("what" : Str), v)])) a (exo a C (some dx)))
section
variable {prog : Program} {w : World} {A : Around} {E : Value → Shared → Prop} {h : Heap} {g : Array GenState} {d : Drawn} {t : Nat} {os : OsState}
variable {nm q : Str} {C N : Addr} {bs bm : List Value} {hdct : Bool} {sn : List Str} {sub : List Value} {ab : Bool} {col : Option Bool} {dd : Option Addr} {k0 k1 k2 k3 k5 : Option Value}
theorem call_bwV {u e t0 : Addr} {rest : List Value} {Q : Value → Shared → Prop}
    (hC : h.get? C = some (excClassObj nm q C N bs bm hdct sn sub ab col dd k0 k1 k2 k3 k5 "ValueError.__new__")) (he : h.get? e = some (PySem.HandSPX.excO C t0)) (hu : h.get? u = some (PySem.W.kxs_mw "ValueError.__init__" e)) (hrest : rest.length ≤ sizeLine)
    (hq : ∀ h' t1, (∀ b o, b ≠ e → h.get? b = some o → h'.get? b = some o) → h'.get? e = some (PySem.HandSPX.excO C t1) → Q .none ⟨h', g, d, t, os⟩) :
    wpAny (model prog w) A (call (.ref u) rest) Q E ⟨h, g, d, t, os⟩ := by
  refine wpAny_call (codeAny_of_tree ?_)
  show wpAny _ A.in1 (callAny (.ref u) ⟨rest, []⟩) _ _ _
  simp only [callAny]
  refine wpAny_bind (wpAny_load hu ?_)
  simp only [PySem.W.kxs_mw, show (Value.type "method-wrapper" == Value.type "method" || Value.type "method-wrapper" == Value.type "builtin_function_or_method" || Value.type "method-wrapper" == Value.type "method-wrapper") = true by decide, if_true]
  refine PySem.W.KFB.if_so (by decide) ?_
  refine wpAny_bind (PySem.W.check_bound_init F.excBase_ValueError.toExcCallFacts hC he rfl ?_)
  refine wpAny_bind (wpAny_pure (wpAny_pure ?_))
  refine ⟨Code.quiet_builtin _ (by decide +kernel), codeAny_builtin F.excBase_ValueError.initEntry ?_⟩
  rw [Around.under_plainId F.excBase_ValueError.init.plain _]
  wp_walk
  refine hq _ h.objs.size (fun b o hb ho => ?_) ?_
  · rw [Heap.get?_update_other _ _ (Ne.symm hb)]
    exact Heap.get?_push_of_some _ ho
  · rw [Heap.get?_update_self _ (Heap.get?_push_of_some _ he) rfl]
    rfl
end

theorem ki_super : (defScope s_init).names.lookup ("super" : Str) = some .globalImplicit := by decide +kernel
theorem ki_class : (defScope s_init).names.lookup ("__class__" : Str) = some .free := by decide +kernel
theorem ki_self : (defScope s_init).names.lookup ("self" : Str) = some .local := by decide +kernel
theorem boot_super : bootBuiltins "super" = some (.type "super") := by decide +kernel
theorem init_ok {P : Program} {w : World} {K : PySem.W.Frag} {mg : Str → Option Value} {base : Heap} {fI D cc c : Addr} {k : Nat} (T : InitTx P K fI D cc c) :
    ∃ fd, FnOk P w K mg base CX0 (k + 1) fI fd ["self", "what"] (spInit K D) ∧ Binds K fd ["self", "what"] [] := by
  obtain ⟨oc, od, kV, doc, pm, an, ct, osl, lk⟩ := T.fn
  refine ⟨PySem.W.fnX "__init__" "Refused.__init__" (defArgs s_init) (defBody s_init) (defScope s_init) [("__class__", cc)] .none kV doc pm an (.ref c) ct, ⟨fun vs H Q E h => (by obtain ⟨_, _, _, rfl, _⟩ := h; rfl), fun A outer s H args us vs Q E hr e0 hb r hsp => ?_⟩, Binds.all fun us hl => match us, hl with | [_, _], _ => rfl⟩
  obtain ⟨a, C, v, rfl, IC, ha, hq⟩ := hsp
  cases r with
  | cons ra rr =>
  cases rr with
  | cons rv rr =>
  cases rr
  rename_i ua uv
  obtain rfl : ua = Value.ref a := ra
  have KX : K.In s.heap := e0.mod.kin.keeps fun b o e => (e0.bs b o e).1
  have lim : s.heap.NoLimit := e0.mod.nolimit.keeps fun b o e => (e0.bs b o e).1
  obtain ⟨cl, cld, csl, hcell⟩ := T.cell
  have cells : NdefX.CellsAt [("__class__", cc)] ["__class__"] [some (.ref D)] s.heap H := by
    have inb := e0.mod.kin _ _ hcell
    have hH : H cc = none := (e0.bs cc _ inb).2
    refine ⟨rfl, fun y c0 h => ?_, fun x y c0 hx hy => ?_, fun i y h => ?_⟩
    · have hy : y = "__class__" ∧ c0 = cc := by
        simp only [List.lookup] at h
        split at h
        · rename_i z
          cases h
          exact ⟨beq_iff_eq.mp z, rfl⟩
        · cases h
      rw [hy.2]
      exact ⟨hH, _, _, KX _ _ hcell, rfl⟩
    · have one : ∀ z, ([(("__class__" : Str), cc)] : List (Str × Addr)).lookup z = some c0 → z = "__class__" := fun z h => by
        simp only [List.lookup] at h
        split at h
        · rename_i q
          exact beq_iff_eq.mp q
        · cases h
      rw [one x hx, one y hy]
    · match i, h with
      | 0, h => cases h; exact ⟨cc, by simp [List.lookup], fun v hv => by cases hv; exact ⟨.ref D, rfl, _, KX _ _ hcell, rfl⟩⟩
      | n + 1, h => cases h
  refine ks_codeAny_call_defAt hr.depth (KX _ _ lk) rfl lim (PySem.W.codeRec_of KX T.code) rfl hb sc_init.nocell (fun ⟨n, _⟩ hy => sc_init.par n (List.of_mem_zip hy).1) (fun h₁ hns kp => ?_) sc_init.co sc_init.gen sc_init.kind
  show _root_.PySem.wpAt (model P w) (A.deeper (NdefX.envF (nfI cc c) fI s.heap.objs.size)) (.func (defBody s_init) (NdefX.envF (nfI cc c) fI s.heap.objs.size)) (execs (defBody s_init) (NdefX.envF (nfI cc c) fI s.heap.objs.size)) _ _ _
  have J : Inv (NdefX.ncx CX0 P w K mg base N_init (nfI cc c) fI A outer s H E) [] (NdefX.startF N_init [.ref a, v] [some (.ref D)]) H { s with heap := h₁, toks := s.toks + ((["self", "what"] : List Str).zip [Value.ref a, uv]).length } :=
    NdefX.inv_startN (F := nfI cc c) sc_init hr.hd e0 rfl (.cons rfl (.cons rv .nil)) cells hns kp
  have X1 : K.In h₁ := KX.keeps kp
  obtain ⟨t0, hobj⟩ := exo_at J.hok ha
  obtain ⟨ccl, cdd, fvs, ccs, file, tf, hcode, hvs, hfile⟩ := T.file
  obtain ⟨cdD, hD⟩ := T.cls
  obtain ⟨oD, hD1, hD2⟩ : ∃ oD, h₁.get? D = some oD ∧ oD.data = .cls cdD := by
    unfold PySem.W.clsIn at hD
    split at hD
    · rename_i c d cd' sl ho
      cases hD
      exact ⟨_, X1 _ _ ho, rfl⟩
    · cases hD
  have hmg : mg "super" = none := PySem.W.mg_none_of e0.mod.kin e0.mod.glob T.sup
  obtain ⟨mb, hmb, hbb⟩ := e0.mod.blt
  have kb : ∀ b o, base.get? b = some o → h₁.get? b = some o := fun b o e => kp b o (e0.bs b o e).1
  refine ks_wpAt_execs_cons (ks_wpAt_Expr_any (ks_wpAt_MethodCall (ks_wpAt_super_base (env := NdefX.envF (nfI cc c) fI s.heap.objs.size) ki_super ki_class (by decide) rfl (X1 _ _ lk) rfl rfl rfl (X1 _ _ hcode) rfl hvs hfile T.top ?_)))
  refine PySem.W.ks_loadName_global sc_init.kind ki_super (PySem.Calls.loadGlobal_builtin (env := NdefX.envF (nfI cc c) fI s.heap.objs.size) (e0.mod.glob.keeps kb) hmg (hmb.keeps kb) ((hbb _ (by decide)).trans boot_super) ⟨rfl, ?_⟩)
  refine wpAny_loadName_free sc_init.kind ki_class rfl ⟨_, X1 _ _ hcell, rfl⟩ ?_
  refine wpAny_loadName_local sc_init.kind ki_self hns (NdefX.zip_look (i := 0) (ps := ["self", "what"]) (by decide) rfl rfl) ?_
  refine ks_wpAny_isType_cls hD1 hD2 ⟨rfl, ?_⟩
  refine ks_wpAny_call_super (C := C) hD1 hD2 hobj rfl (fun c e => by cases e) (PySem.W.looks_mroIn X1 IC.sub) (fun h2 hso k2 => ?_)
  have X2 : K.In h2 := X1.keeps k2
  have up2 : ∀ b o, h₁.get? b = some o → (h2.push (PySem.W.kxs_mw "ValueError.__init__" a)).get? b = some o := fun b o e => Heap.get?_push_of_some _ (k2 b o e)
  have hob2 := k2 _ _ hobj
  have IA : PySem.W.InstAt h2 a { cls := .ref C, data := .fields #[.ref t0, .none, .none, .none, .bool false, .none] } C none := ⟨hob2, rfl, rfl, trivial⟩
  have hsup := IC.sup
  unfold PySem.W.ks_superIn at hsup
  obtain ⟨cdC, hcC, hsup⟩ : ∃ cdC, PySem.W.clsIn K C = some cdC ∧ PySem.W.alongIn K "__init__" ((cdC.mro.dropWhile (· != .ref D)).drop 1) = some (some (.builtin "ValueError.__init__")) := by
    cases hc : PySem.W.clsIn K C with
    | none => rw [hc] at hsup; cases hsup
    | some cd => rw [hc] at hsup; exact ⟨cd, rfl, hsup⟩
  have hI : PySem.W.Looks (model P w) h2 (isInstance (.ref a) (.type "ValueError")) true := IA.type.andThen (PySem.W.looks_subIn X2 IC.ve)
  refine PySem.W.kxs_getMethod PySem.W.kxs_ValueError hso (PySem.W.looks_opaque X2 T.opq) (l₀ := cdC.mro) (fun A Q E s k q => wpAny_bind ((PySem.W.looks_clsIn X2 hcC) A _ E s k (wpAny_pure q))) rfl X2 hsup hI (PySem.W.ks_ne X2 IA hcC) (by decide) ?_
  have J2 : Inv (NdefX.ncx CX0 P w K mg base N_init (nfI cc c) fI A outer s H E) [] (NdefX.startF N_init [.ref a, v] [some (.ref D)]) H _ := J.kept (h' := h2.push (PySem.W.kxs_mw "ValueError.__init__" a)) (t' := s.toks + ((["self", "what"] : List Str).zip [Value.ref a, uv]).length + 1) up2
  have hu : (h2.push (PySem.W.kxs_mw "ValueError.__init__" a)).get? h2.objs.size = some (PySem.W.kxs_mw "ValueError.__init__" a) := Heap.get?_push_size _ rfl
  have Jh : Inv (NdefX.ncx CX0 P w K mg base N_init (nfI cc c) fI A outer s H E) [] (NdefX.startF N_init [.ref a, v] [some (.ref D)]) H _ := J.kept (h' := h2) (t' := s.toks + ((["self", "what"] : List Str).zip [Value.ref a, uv]).length) k2
  have J3 : Inv (NdefX.ncx CX0 P w K mg base N_init (nfI cc c) fI A outer s H E) [(h2.objs.size, PySem.W.kxs_mw "ValueError.__init__" a)] (NdefX.startF N_init [.ref a, v] [some (.ref D)]) H _ :=
    ⟨J2.ok, J2.os, J2.bare, J2.base, J2.loc, J2.cell, J2.free, J2.freeC, fun p hp => (by
      have hp : p = (h2.objs.size, PySem.W.kxs_mw "ValueError.__init__" a) := by simpa using (show p ∈ ([] : List (Addr × Obj)) ++ [(h2.objs.size, PySem.W.kxs_mw "ValueError.__init__" a)] from hp)
      subst hp
      exact ⟨hu, Jh.hok.fresh (Nat.le_refl _), Nat.ne_of_gt Jh.lt, Jh.nofs (Nat.le_refl _), fun v z => by cases z⟩), J2.hok, J2.len⟩
  have hwhat : PA (NdefX.ncx CX0 P w K mg base N_init (nfI cc c) fI A outer s H E) [.Name "what" ⟨5, 25, 5, 29⟩] _ := pa_cons (pe_var (i := 1) (x := "what") rfl (Or.inl rfl)) pa_nil rfl
  refine PySem.W.kxs_callWith (i := "ValueError.__init__") (x := a) rfl (PySem.Calls.evalArgs_plain (thn (hwhat.run _ _ _ _ H (fun vs H1 => vs = [v] ∧ H1 = H) J3 ⟨v, rfl, rfl, rfl⟩) fun us s1 hh => ?_))
  obtain ⟨vs, H1, I1, r1, rfl, rfl⟩ := hh
  have hu1 := (I1.pin (h2.objs.size, _) (List.mem_append_right _ List.mem_cons_self)).1
  refine ⟨hu1, ?_⟩
  obtain ⟨t1, ho1⟩ := exo_at I1.hok ha
  obtain ⟨nm, q, N, bs, bm, sn, sub, ab, col, dd, k0, k1, k2', k3, k5, hC, hbm⟩ := IC.ox.cls
  have hCC := I1.kIn _ _ hC
  have lu : us.length ≤ sizeLine := by rw [← r1.length, sizeLine_eq]; exact (by decide : 1 ≤ 16777216)
  obtain ⟨hp, g, d, tk, os⟩ := s1
  refine call_bwV hCC ho1 hu1 lu fun h' t2 k4 hx => ?_
  have J4 := I1.write (t' := tk) (x := a) (e := a) (o := exo a C none) (by rw [ha]; exact True.intro) (.inl rfl) k4 ⟨_, hx⟩ (exo_ok hx)
  have eu : upd H1 a (exo a C none) = H1 := by
    funext b
    by_cases hb : b = a
    · rw [hb, upd_same, ha]
    · rw [upd_ne hb]
  rw [eu] at J4
  have body := pss_one (ps_ost (X := NdefX.ncx CX0 P w K mg base N_init (nfI cc c) fI A outer s H1 E) (f := "what") (p' := ⟨6, 8, 6, 17⟩) (pos := ⟨6, 8, 6, 24⟩) (pe_var (pos := ⟨6, 8, 6, 12⟩) (i := 0) (x := "self") rfl (Or.inl rfl)) (pe_var (pos := ⟨6, 20, 6, 24⟩) (i := 1) (x := "what") rfl (Or.inl rfl)))
  refine PySem.wpAt_of_wpAny (wpAny_mono (body.run _ _ _ H1 { nx := fun _ H' => Q .non H', rt := Q } J4 ⟨v, rfl, .ref a, rfl, a, C, rfl, IC.ox, IC.no, .inl ⟨ha, hq⟩⟩) (fun fl s' hs => ?_) fun e s' hs => hs)
  cases fl with
  | ret u =>
    obtain ⟨v', σ', H', J', rv', q'⟩ := hs
    exact ⟨v', H', J'.os, J'.bare, J'.base, J'.hok, rv', q'⟩
  | next =>
    obtain ⟨σ', H', J', q'⟩ := hs
    exact ⟨.non, H', J'.os, J'.bare, J'.base, J'.hok, rfl, q'⟩
  | brk =>
    obtain ⟨_, _, _, q⟩ := hs
    exact False.elim q
  | cont =>
    obtain ⟨_, _, _, q⟩ := hs
    exact False.elim q
end K67
set_option Elab.async false
set_option linter.all false
set_option maxRecDepth 100000
set_option maxHeartbeats 4000000
namespace K67
open PySem PySem.Spec PyProof.Rows L2
variable [TabA]
/-! ### defs that raise -/
def cname : Nat → Str
  | 0 => "BadMany"
  | 1 => "BadClocks"
  | _ => "TooMany"
def ca (K : PySem.W.Frag) (i : Nat) : Addr := He.ga K (cname i)
/-- an outcome: it goes on, it returns, it raises the class i with what -/
inductive Ox where
  | nx (e : En)
  | rt (d : PyData)
  | ex (i : Nat) (d : PyData)
abbrev RX := En → Option Ox
/-- the exception i with what d, over a growth -/
def ExOk (P : Program) (w : World) (K : PySem.W.Frag) (F0 H0 : Hp) (E : XK) (i : Nat) (d : PyData) : Prop := ∀ v dx F' H', Grow F0 H0 F' H' → H' dx = some (.xd [(("what" : Str), v)]) → Dn P w F' v d → E (.ref (ca K i)) (some dx) H'
def OxOk (P : Program) (w : World) (K : PySem.W.Frag) (F0 H0 F : Hp) (D : Ends) (E : XK) : Ox → Prop
  | .nx env' => ∀ σ' F' H', Rel P w F0 H0 F' H' σ' env' → Same F F' → D.nx σ' H'
  | .rt d => ∀ v F' H', Grow F0 H0 F' H' → Dn P w F' v d → D.rt v H'
  | .ex i d => ExOk P w K F0 H0 E i d
def tX (P : Program) (w : World) (K : PySem.W.Frag) (E : XK) (r : RX) : TS := fun D σ H => ∃ F0 H0 F env o, Rel P w F0 H0 F H σ env ∧ r env = some o ∧ OxOk P w K F0 H0 F D E o
/-- of a context whose exceptions are wished by E -/
abbrev JX (X : Cx) (E : XK) (e : Stmt) (r : RX) : Prop := PS X e (tX X.prog X.w X.K E r)
abbrev JXs (X : Cx) (E : XK) (e : List Stmt) (r : RX) : Prop := PSs X e (tX X.prog X.w X.K E r)
/-- a def's outcome -/
inductive Ou where
  | rt (d : PyData)
  | ex (i : Nat) (d : PyData)
def OuOk (P : Program) (w : World) (K : PySem.W.Frag) (F H : Hp) (Q : VK) (E : XK) : Ou → Prop
  | .rt d => ∀ v F' H', Grow F H F' H' → Dn P w F' v d → Q v H'
  | .ex i d => ExOk P w K F H E i d
def spX (P : Program) (w : World) (K : PySem.W.Frag) (n : Nat) (rf : List PyData → Option Ou) : Sp := fun vs H Q E => ∃ F ds o, Same F H ∧ NoT F ∧ Told F H ∧ DnAll P w F vs ds ∧ ds.length = n ∧ rf ds = some o ∧ OuOk P w K F H Q E o
def FnX (P : Program) (w : World) (K : PySem.W.Frag) (mg : Str → Option Value) (base : Heap) (x : Str) (k n : Nat) (rf : List PyData → Option Ou) : Prop :=
  ∃ (f : Addr) (fd : FuncData) (ps : List Str), FnOk P w K mg base (L2.CX P w) k f fd ps (spX P w K n rf) ∧ mg x = some (.ref f) ∧ PySem.W.keepIn K (.ref f) = true ∧ Binds K fd ps []
/-- what is known of the classes -/
structure MdC (P : Program) (K : PySem.W.Frag) (mg : Str → Option Value) : Prop where
  ex : ∃ fI D cc c, InitTx P K fI D cc c ∧ PySem.W.typeIn K (.ref fI) = some (.type "function") ∧ ∀ i, mg (cname i) = some (.ref (ca K i)) ∧ InitC K (ca K i) D ∧ PySem.W.findIn K (.ref (ca K i)) "__init__" = some (some (.ref fI))
theorem ExOk.grow {P : Program} {w : World} {K : PySem.W.Frag} {F0 H0 F H : Hp} {E : XK} {i : Nat} {d : PyData} (g : Grow F0 H0 F H) (k : ExOk P w K F0 H0 E i d) : ExOk P w K F H E i d := fun v dx F' H' g' e n => k v dx F' H' (g.trans g') e n
noncomputable def xRaise (i : Nat) (re : RE) : RX := fun env => bd (re env) fun d => some (.ex i d)
section
variable {X : Cx} {E : XK}
theorem jx_raise {i : Nat} {k : Nat} {e : Expr} {re : RE} {p pos pos' : Pos} (MC : MdC X.prog X.K X.mg) (hr : Room (k + 2) X.A) (hc : X.calm = true) (tk : Takes X (fun cls d _ H => E cls d H)) (hg : Gl X (cname i)) (he : JE X e re) (hdb : (cname i == ("__debug__" : Str)) = false)
    (hs : starEach [e] X.env = (false, eval e X.env) :: starEach [] X.env := by rfl) : JX X E (.Raise (some (.Call (.Name (cname i) p) [e] [] pos)) none pos') (xRaise i re) := by
  obtain ⟨fI, D, cc, c, T, tI, hcl⟩ := MC.ex
  obtain ⟨gC, IC, iC⟩ := hcl i
  obtain ⟨fd, FI, hb⟩ := init_ok (w := X.w) (mg := X.mg) (base := X.base) (k := k) T
  refine PS.imp (ps_raise hc tk (pmk_oex IC.ox iC tI FI hr hb .nil pass0 hg gC (pa_cons he pa_nil hs) hdb hs (by rfl))) ?_
  rintro D' σ H ⟨F0, H0, F, env, o, R, hr1, ok⟩
  obtain ⟨d, h1, hz⟩ := bd_some hr1
  cases hz
  refine ⟨F0, H0, F, env, d, R, h1, fun v F1 H1 g1 n1 => ⟨(by decide : 1 ≤ 1000), fun a na => ?_⟩⟩
  refine ⟨a, ca X.K i, v, rfl, IC, upd_same, fun dx ndx hne => ⟨rfl, dx, [(("what" : Str), v)], upd_same, by rw [upd_ne hne, upd_same], ?_, ?_⟩⟩
  · rw [upd_ne hne] at ndx; exact ndx
  · have ndx' : H1 dx = none := by rw [upd_ne hne] at ndx; exact ndx
    have e : upd (del (upd (upd (upd H1 a (exo a (ca X.K i) none)) dx (exd dx [(("what" : Str), v)])) a (exo a (ca X.K i) (some dx))) a) dx (.xd [(("what" : Str), v)]) = upd H1 dx (.xd [(("what" : Str), v)]) := by
      funext b
      by_cases q : b = dx
      · subst q; rw [upd_same, upd_same]
      · rw [upd_ne q, upd_ne q]
        by_cases q2 : b = a
        · subst q2; rw [del_same, na]
        · rw [del_ne q2, upd_ne q2, upd_ne q, upd_ne q2]
    rw [e]
    exact ok v dx F1 _ ((R.g.trans g1).trans (Grow.more g1.fh ndx')) upd_same n1
end
end K67
set_option Elab.async false
set_option linter.all false
set_option maxRecDepth 100000
set_option maxHeartbeats 4000000
namespace K67
open PySem PySem.Spec PyProof.Rows L2
variable [TabA]
theorem OxOk.mono {P : Program} {w : World} {K : PySem.W.Frag} {F0 H0 F F' : Hp} {D : Ends} {E : XK} {o : Ox} (s : Same F F') (k : OxOk P w K F0 H0 F D E o) : OxOk P w K F0 H0 F' D E o := by
  cases o with
  | nx e => exact fun σ' F2 H2 R s' => k σ' F2 H2 R (s.trans s')
  | rt d => exact k
  | ex i d => exact k
noncomputable def xOf (s : RS) : RX := fun env => bd (s env) fun o => @Oc.rec (fun _ => Option Ox) (fun e => some (.nx e)) (fun d => some (.rt d)) o
def xNx : RX := fun env => some (.nx env)
noncomputable def xSeq (a b : RX) : RX := fun env => bd (a env) fun o => @Ox.rec (fun _ => Option Ox) (fun e => b e) (fun d => some (.rt d)) (fun i d => some (.ex i d)) o
noncomputable def xIf (c : RT) (a b : RX) : RX := fun env => bd (c env) fun x => bIf x (a env) (b env)
noncomputable def ouX (env : En) (k : PyData → Ox) (o : Ou) : Ox := @Ou.rec (fun _ => Ox) (fun d => k d) (fun i d => .ex i d) o
noncomputable def xRetC (rf : List PyData → Option Ou) (rs : RA) : RX := fun env => bd (rs env) fun ds => bd (rf ds) fun o => some (ouX env (fun d => .rt d) o)
noncomputable def xSetC (i : Nat) (rf : List PyData → Option Ou) (rs : RA) : RX := fun env => bd (rs env) fun ds => bd (rf ds) fun o => some (ouX env (fun d => .nx (put env i (.fz d))) o)
section
variable {X : Cx} {E : XK} {st : Stmt} {rest : List Stmt} {r r2 : RX} {pos p p' : Pos}
theorem jx_of {s : RS} (h : JS X st s) : JX X E st (xOf s) := by
  refine PS.imp h ?_
  rintro D σ H ⟨F0, H0, F, env, o, R, hr, k⟩
  obtain ⟨o1, h1, hz⟩ := bd_some hr
  refine ⟨F0, H0, F, env, o1, R, h1, ?_⟩
  cases o1 <;> (cases hz; exact k)
theorem jxs_nil : JXs X E [] xNx := by
  refine PSs.imp pss_nil ?_
  rintro D σ H ⟨F0, H0, F, env, o, R, hr, k⟩
  cases hr
  exact k σ F H R (.refl _)
theorem jxs_cons (h1 : JX X E st r) (h2 : JXs X E rest r2) : JXs X E (st :: rest) (xSeq r r2) := by
  refine PSs.imp (pss_cons h1 h2) ?_
  rintro D σ H ⟨F0, H0, F, env, o, R, hr, k⟩
  obtain ⟨o1, h1, hr1⟩ := bd_some hr
  refine ⟨F0, H0, F, env, o1, R, h1, ?_⟩
  cases o1 with
  | nx e1 => exact fun σ' F' H' R' s => ⟨F0, H0, F', e1, o, R', hr1, k.mono s⟩
  | rt d => cases hr1; exact k
  | ex i d => cases hr1; exact k
theorem jxs_one (h1 : JX X E st r) : JXs X E [st] r := pss_one h1
theorem jx_if {c : Expr} {A B : List Stmt} {rt : RT} (hc : JT X c rt) (ha : JXs X E A r) (hb : JXs X E B r2) : JX X E (.If c A B pos) (xIf rt r r2) := by
  refine PS.imp (ps_if hc ha hb) ?_
  rintro D σ H ⟨F0, H0, F, env, o, R, hr, k⟩
  obtain ⟨d, h1, hr1⟩ := bd_some hr
  refine ⟨F0, H0, F, env, d, R, h1, fun F1 H1 g1 => ?_⟩
  cases d with
  | true =>
    rw [if_pos rfl]
    exact ⟨F0, H0, F1, env, o, R.grow g1, hr1, k.mono g1.ff⟩
  | false =>
    rw [if_neg Bool.false_ne_true]
    exact ⟨F0, H0, F1, env, o, R.grow g1, hr1, k.mono g1.ff⟩
/-- f(..), f may raise -/
theorem pe_fnX {k n : Nat} {rf : List PyData → Option Ou} {x : Str} {e : Expr} {es : List Expr} {rs : RA} (G : FnX X.prog X.w X.K X.mg X.base x k n rf) (hr : Room k X.A) (tk : Takes X (fun cls d _ H => E cls d H)) (hg : Gl X x) (ha : JA X (e :: es) rs) (hl : (e :: es).length = n := by rfl)
    (hdb : (x == ("__debug__" : Str)) = false := by decide) (he : starEach (e :: es) X.env = (false, eval e X.env) :: starEach es X.env := by rfl) (hpl : (backTo pos (starEach es X.env)).any (·.1) = false := by rfl) :
    PE X (.Call (.Name x p) (e :: es) [] pos) (fun σ H Q => ∃ F0 H0 F env ds o, Rel X.prog X.w F0 H0 F H σ env ∧ rs env = some ds ∧ rf ds = some o ∧ OuOk X.prog X.w X.K F H Q E o) := by
  obtain ⟨f, fd, ps, a, b, c, d⟩ := G
  refine PE.imp (pe_call a hr hg b c d .nil (passes_call (E := E) tk fun _ _ _ _ h => h) ha.pa hdb he hpl) ?_
  rintro σ H Q ⟨F0, H0, F, env, ds, o, R, h1, h2, k⟩
  refine ⟨F0, H0, F, env, ds, R, h1, fun vs F1 H1 g1 n1 => ?_⟩
  show spX X.prog X.w X.K n rf (vs ++ []) H1 Q E
  rw [List.append_nil]
  refine ⟨F1, ds, o, g1.fh, (R.grow g1).noT, (R.grow g1).told, n1, (ha.len env ds h1).trans hl, h2, ?_⟩
  cases o with
  | rt d => exact fun v F' H' g' n' => k v F' H' (g1.trans g') n'
  | ex i d => exact k.grow g1
theorem jx_retC {k n : Nat} {rf : List PyData → Option Ou} {x : Str} {e : Expr} {es : List Expr} {rs : RA} (G : FnX X.prog X.w X.K X.mg X.base x k n rf) (hr : Room k X.A) (tk : Takes X (fun cls d _ H => E cls d H)) (hg : Gl X x) (ha : JA X (e :: es) rs) (hl : (e :: es).length = n := by rfl)
    (hdb : (x == ("__debug__" : Str)) = false := by decide) (he : starEach (e :: es) X.env = (false, eval e X.env) :: starEach es X.env := by rfl) (hpl : (backTo pos (starEach es X.env)).any (·.1) = false := by rfl) :
    JX X E (.Return (some (.Call (.Name x p) (e :: es) [] pos)) p') (xRetC rf rs) := by
  refine PS.imp (ps_ret (pe_fnX G hr tk hg ha hl hdb he hpl)) ?_
  rintro D σ H ⟨F0, H0, F, env, o, R, hr1, k⟩
  obtain ⟨ds, h1, hr2⟩ := bd_some hr1
  obtain ⟨ou, h2, hz⟩ := bd_some hr2
  cases hz
  refine ⟨F0, H0, F, env, ds, ou, R, h1, h2, ?_⟩
  cases ou with
  | rt d => exact fun v F' H' g n => k v F' H' (R.g.trans g) n
  | ex i d => exact ExOk.grow R.g k
theorem jx_setC {k n i : Nat} {rf : List PyData → Option Ou} {x y : Str} {e : Expr} {es : List Expr} {rs : RA} {pos' : Pos} (G : FnX X.prog X.w X.K X.mg X.base x k n rf) (hr : Room k X.A) (tk : Takes X (fun cls d _ H => E cls d H)) (hN : X.N.Nodup) (hi : X.N[i]? = some y) (hy : Loc X.env.scope y) (hg : Gl X x) (ha : JA X (e :: es) rs) (hl : (e :: es).length = n := by rfl)
    (hs : swapsWith (.Call (.Name x p) (e :: es) [] pos) (some (.Name y pos')) p'.line X.env = pure false := by rfl) (hf : X.fn y = true ∨ X.env.scope.names.lookup y = some .local := by first | exact .inl rfl | exact .inr rfl | assumption)
    (hdb : (x == ("__debug__" : Str)) = false := by decide) (he : starEach (e :: es) X.env = (false, eval e X.env) :: starEach es X.env := by rfl) (hpl : (backTo pos (starEach es X.env)).any (·.1) = false := by rfl) :
    JX X E (.Assign [.Name y pos'] (.Call (.Name x p) (e :: es) [] pos) p') (xSetC i rf rs) := by
  refine PS.imp (ps_set hN hi hy (pe_fnX G hr tk hg ha hl hdb he hpl) hs hf) ?_
  rintro D σ H ⟨F0, H0, F, env, o, R, hr1, k⟩
  obtain ⟨ds, h1, hr2⟩ := bd_some hr1
  obtain ⟨ou, h2, hz⟩ := bd_some hr2
  cases hz
  refine ⟨F0, H0, F, env, ds, ou, R, h1, h2, ?_⟩
  cases ou with
  | rt d =>
    intro v F1 H1 g1 n1
    have R1 := (R.grow g1).set (i := i) n1
    rw [← put_eq env i] at R1
    exact k _ F1 H1 R1 g1.ff
  | ex i d => exact ExOk.grow R.g k
end
end K67
set_option Elab.async false
set_option linter.all false
set_option maxRecDepth 100000
set_option maxHeartbeats 4000000
namespace K67
open PySem PySem.Spec PyProof.Rows L2
variable [TabA]
noncomputable def loopX (f : PyData → En → Option Ox) (ds : List PyData) : En → Option Ox := @List.rec PyData (fun _ => En → Option Ox) (fun env => some (.nx env)) (fun d _ ih env => bd (f d env) fun o => @Ox.rec (fun _ => Option Ox) (fun e => ih e) (fun d => some (.rt d)) (fun i d => some (.ex i d)) o) ds
noncomputable def xFor (ri : RA) (b : PyData → En → Option En) (s : RX) : RX := fun env => bd (ri env) fun ds => loopX (fun d env => bd (b d env) s) ds env
theorem loopX_cons {f : PyData → En → Option Ox} {d : PyData} {ds : List PyData} {env : En} {o : Ox} (h : loopX f (d :: ds) env = some o) : ∃ o1, f d env = some o1 ∧ match o1 with | .nx e => loopX f ds e = some o | .rt d => o = .rt d | .ex i d => o = .ex i d := by
  obtain ⟨o1, h1, h2⟩ := bd_some (show bd (f d env) _ = some o from h)
  refine ⟨o1, h1, ?_⟩
  cases o1 with
  | nx e => exact h2
  | rt d => cases h2; rfl
  | ex i d => cases h2; rfl
section
variable {X : Cx} {E : XK} {tg : Expr} {r : RA} {ρ : Ro} {pos : Pos}
theorem jx_for {iter : Expr} {body : List Stmt} {b : PyData → En → Option En} {js : List Nat} {s : RX} (hp : PassesOwn (model X.prog X.w) X.A X.env X.xe) (hc : X.calm = true) (mono : RoMono ρ) (hi : JI X ρ tg iter r) (hg : JG X ρ tg b js) (hb : JXs X E body s)
    (hs : ∀ x, foldedSetIterable iter X.env x = pure x := by intro _; rfl) : JX X E (.For tg iter body [] pos) (xFor r b s) := by
  refine PS.imp (ps_for hp hc hi.pi hg.pg hb hs) ?_
  rintro D σ H ⟨F0, H0, F, env, o, R, hr, k⟩
  obtain ⟨ds, h1, hl⟩ := bd_some hr
  refine ⟨F0, H0, F, env, ds, R, h1, fun J F1 H1 g1 W => ?_⟩
  refine for_it W (fun i σ H => ∃ F' env', Rel X.prog X.w F0 H0 F' H σ env' ∧ Same F1 F' ∧ loopX (fun d env => bd (b d env) s) (ds.drop i) env' = some o) ⟨F1, env, R.grow g1, .refl _, hl⟩ (fun i σ H hi ⟨F', env', R', s', _⟩ => s'.trans R'.fh) ?_ ?_
  · rintro i x σ2 H2 H3 hi ⟨F', env', R', s', hl'⟩ ⟨d, F2, hd, hx, g2⟩
    obtain ⟨F3, g3, s3⟩ := Grow.join R'.noT s' R'.fh g2
    have R3 := R'.grow g3
    have hdrop : ds.drop i = d :: ds.drop (i + 1) := by
      obtain ⟨h1, h2⟩ := List.getElem?_eq_some_iff.mp hd
      rw [List.drop_eq_getElem_cons h1, h2]
    rw [hdrop] at hl'
    obtain ⟨o1, ho, hrest⟩ := loopX_cons hl'
    obtain ⟨env2, hb2, hs2⟩ := bd_some ho
    refine ⟨F0, H0, F3, env', d, env2, R3, mono _ _ _ _ _ s3 hx, hb2, fun us hu e2 => ⟨F0, H0, F3, env2, o1, by rw [e2]; exact R3.setAll hu, hs2, ?_⟩⟩
    cases o1 with
    | nx e => exact fun σ4 F4 H4 R5 s4 => ⟨F4, e, R5, (s'.trans g3.ff).trans s4, hrest⟩
    | rt d' =>
      subst hrest
      exact k
    | ex i' d' =>
      subst hrest
      exact k
  · rintro σ2 H2 ⟨F', env', R', s', hl'⟩
    rw [List.drop_length] at hl'
    have e : o = .nx env' := (Option.some.inj hl').symm
    subst e
    exact k σ2 F' H2 R' (g1.ff.trans s')
end
/-! ### a def that raises -/
noncomputable def oxOu (o : Ox) : Ou := @Ox.rec (fun _ => Ou) (fun _ => .rt .none) (fun d => .rt d) (fun i d => .ex i d) o
noncomputable def rfX (k : Nat) (s : RX) (ds : List PyData) : Option Ou := bd (s (argsE k ds)) fun o => some (oxOu o)
section
variable {P : Program} {w : World} {K : PySem.W.Frag} {mg : Str → Option Value} {base : Heap}
theorem spX_run {n k : Nat} {s : RX} {N : List Str} {vs : List V} {H : Hp} {Q : VK} {E : XK} (hN : N.length = n + k) (h : spX P w K n (rfX k s) vs H Q E) : tX P w K E s { nx := fun _ H' => Q .non H', rt := Q } (L2.start N vs) H := by
  obtain ⟨F, ds, d, s', n0, t0, r, l, hr, kk⟩ := h
  obtain ⟨o, h1, h2⟩ := bd_some hr
  cases h2
  refine ⟨F, H, F, argsE k ds, o, rel_start s' n0 t0 r (by rw [hN, l]), h1, ?_⟩
  cases o with
  | nx e => exact fun σ' F' H' R _ => kk .non F' H' R.g .non
  | rt d' => exact fun v F' H' g dn => kk v F' H' g dn
  | ex i d' => exact kk
theorem fn_mkX {x qual : Str} {params : Arguments} {body : List Stmt} {scope : Scope} {f : Addr} {fd : FuncData} {N ps : List Str} {k n m : Nat} {s : RX} (F : FunD K x qual params body scope [] [] f fd) (hm : mg x = some (.ref f)) (S : FnScope N ps scope) (hn : ps.length = n) (hN : N.length = n + m)
    (hbind : ∀ (kV doc pm : Value) (an : Option Addr) (cdv ct : Value) (us : List Value), us.length = ps.length → bindArgs (PySem.W.fnOf x qual params body scope .none kV doc pm an cdv ct) ⟨us, []⟩ = pure (ps.zip us))
    (hb : ∀ (cdv : Value) (A : Around) (outer : List Env) (s0 : Shared) (H : Hp) (E : XK), Room k (A.deeper (envOfC qual scope s0.heap.objs.size f cdv)) → Takes (cxOf (L2.CX P w) P w K mg base N qual scope f cdv A outer s0 H E) (fun cls d _ H => E cls d H) →
      PassesOwn (model P w) (cxOf (L2.CX P w) P w K mg base N qual scope f cdv A outer s0 H E).A (cxOf (L2.CX P w) P w K mg base N qual scope f cdv A outer s0 H E).env (cxOf (L2.CX P w) P w K mg base N qual scope f cdv A outer s0 H E).xe → JXs (cxOf (L2.CX P w) P w K mg base N qual scope f cdv A outer s0 H E) E body s) :
    FnX P w K mg base x (k + 1) n (rfX m s) := by
  refine ⟨f, fd, ps, F.ok S (fun vs H Q E h => by
    obtain ⟨F, ds, o, _, _, _, r, l, _⟩ := h
    rw [r.length, l, hn]) fun cdv A outer s0 H vs Q E hr h => ⟨_, hb cdv A outer s0 H E hr (takes_of rfl rfl rfl rfl) (passes_of rfl), spX_run hN h⟩, hm, F.kp, F.bindsN hbind⟩
end
end K67
set_option Elab.async false
set_option linter.all false
set_option maxRecDepth 100000
set_option maxHeartbeats 4000000
namespace K67
open PySem PySem.Spec PyProof.Rows L2
variable [TabA]
/-! ### the defs that raise -/
noncomputable def xr_kinds : RX := xSeq (xIf (rNot (tB (eCall rf_is_between (aCons (eVar 0) (aCons (eC (.int (.ofNat 1))) (aCons (eC (.int (.ofNat 1000))) aNil)))))) (xRaise 0 (eVar 0)) xNx) (xOf (sRet (eCall rf_clocks_with (aCons (eVar 0) aNil))))
noncomputable def rx_kinds : List PyData → Option Ou := rfX 0 xr_kinds
theorem fx_kinds {P : Program} {w : World} {K : PySem.W.Frag} {mg : Str → Option Value} {base : Heap} (M : Md K mg base) (MC : MdC P K mg) : FnX P w K mg base "kinds" 8 1 rx_kinds := by
  obtain ⟨fd, F⟩ := M.c.def_ 18 (d := d_kinds) rfl
  refine fn_mkX F (M.glo 18 rfl) sc_kinds rfl rfl (fun _ _ _ _ _ _ us hl => match us, hl with | [_], _ => rfl) fun cdv A outer s0 H E hr tk hp => ?_
  exact (jxs_cons (jx_if (jt_not (jt_val (je_fn (fn_is_between M) (hr.mono (by decide)) (by rfl) (ja_cons (je_var 0) (ja_cons je_int (ja_cons (je_glob (by rfl) (Md.int_MOST_PRODUCT M)) ja_nil)))))) (jxs_one (jx_raise (i := 0) (k := 0) MC (hr.mono (by decide)) rfl tk (by rfl) (je_var 0) (by decide))) jxs_nil)
    (jxs_one (jx_of (js_ret (je_fn (fn_clocks_with M) (hr.mono (by decide)) (by rfl) (ja_cons (je_var 0) ja_nil))))))
noncomputable def xr_tables_count : RX := xSeq (xIf (rNot (tB (eCall rf_is_between (aCons (eVar 0) (aCons (eC (.int (.ofNat 1))) (aCons (eC (.int (.ofNat 40))) aNil)))))) (xRaise 0 (eVar 0)) xNx) (xSeq (xOf (sSet 1 (eC (.int (.ofNat 1))))) (xSeq (xOf (sFor (iRng2 (eC (.int (.ofNat 1))) (eVar 0)) (b1 2) (sSet 1 (e2 dMul (eVar 1) (eVar 2))))) (xOf (sRet (eCall (l1 dSum) (aCons (eLc (iSeq (eCall rf_clocks_with (aCons (eVar 0) aNil))) (b1 3) rYes (e2 dDiv (eVar 1) (eCall rf_self_turnings_of (aCons (eVar 3) aNil))) [3]) aNil))))))
noncomputable def rx_tables_count : List PyData → Option Ou := rfX 3 xr_tables_count
theorem fx_tables_count {P : Program} {w : World} {K : PySem.W.Frag} {mg : Str → Option Value} {base : Heap} (M : Md K mg base) (MC : MdC P K mg) : FnX P w K mg base "tables_count" 9 1 rx_tables_count := by
  obtain ⟨fd, F⟩ := M.c.def_ 27 (d := d_tables_count) rfl
  refine fn_mkX F (M.glo 27 rfl) sc_tables_count rfl rfl (fun _ _ _ _ _ _ us hl => match us, hl with | [_], _ => rfl) fun cdv A outer s0 H E hr tk hp => ?_
  exact (jxs_cons (jx_if (jt_not (jt_val (je_fn (fn_is_between M) (hr.mono (by decide)) (by rfl) (ja_cons (je_var 0) (ja_cons je_int (ja_cons (je_glob (by rfl) (Md.int_MOST_COUNTED M)) ja_nil)))))) (jxs_one (jx_raise (i := 0) (k := 0) MC (hr.mono (by decide)) rfl tk (by rfl) (je_var 0) (by decide))) jxs_nil)
    (jxs_cons (jx_of (js_set (i := 1) sc_tables_count.nd rfl (by first | exact Or.inl rfl | exact Or.inr rfl) je_int)) (jxs_cons (jx_of (js_for hp rfl roD_mono (ji_rng2 (by rfl) (Md.b_range M) je_int (je_var 0)) (jg_name (i := 2) sc_tables_count.nd rfl (by first | exact Or.inl rfl | exact Or.inr rfl)) (jss_one (js_set (i := 1) sc_tables_count.nd rfl (by first | exact Or.inl rfl | exact Or.inr rfl) (je_bin opr_mul ok_mul (je_var 1) (je_var 2)))))) (jxs_one (jx_of (js_ret (je_callB (cr_sum rfl) ok_sum (by rfl) (Md.b_sum M) bt_sum (ja_cons (je_lc (own := [("clocks", 3)]) rfl sc_tables_count.nd roD_mono (ji_seq (je_fn (fn_clocks_with M) (hr.mono (by decide)) (by rfl) (ja_cons (je_var 0) ja_nil))) (blkOk_by (own := [("clocks", 3)]) (N := N_tables_count) (sc := defScope s_tables_count) (by decide +kernel)) (fun _ _ _ _ _ => (jg_name (i := 3) sc_tables_count.nd rfl (by first | exact Or.inl rfl | exact Or.inr rfl))) (fun _ _ _ _ _ => jts_nil) (fun _ _ _ _ _ => (je_bin op_fdiv ok_div (je_var 1) (je_fn (fn_self_turnings_of M) (hr.mono (by decide)) (by rfl) (ja_cons (je_var 3) ja_nil)))) (by decide)) ja_nil))))))))
end K67
set_option Elab.async false
set_option linter.all false
set_option maxRecDepth 100000
set_option maxHeartbeats 4000000
namespace K67
open PySem PySem.Spec PyProof.Rows L2
variable [TabA]
noncomputable def xr_table_of_clocks (rxm : List PyData → Option Ou) : RX := xSeq (xSetC 0 rxm (aCons (eVar 0) aNil)) (xSeq (xOf (sSet 1 (eCall rf_product_of (aCons (eVar 0) aNil)))) (xSeq (xIf (tB (e2 dGt (eVar 1) (eC (.int (.ofNat 12))))) (xRaise 2 (eVar 1)) xNx) (xOf (sRet (eCall rf_table_from (aCons (eVar 0) aNil))))))
theorem fx_table_of_clocks {P : Program} {w : World} {K : PySem.W.Frag} {mg : Str → Option Value} {base : Heap} {rxm : List PyData → Option Ou} (T : MdT K mg base) (MC : MdC P K mg) (G : FnX P w K mg base "made_clocks" 6 1 rxm) : FnX P w K mg base "table_of_clocks" 7 1 (rfX 1 (xr_table_of_clocks rxm)) := by
  have M := T.toMd
  obtain ⟨fd, F⟩ := M.c.def_ 23 (d := d_table_of_clocks) rfl
  refine fn_mkX F (M.glo 23 rfl) sc_table_of_clocks rfl rfl (fun _ _ _ _ _ _ us hl => match us, hl with | [_], _ => rfl) fun cdv A outer s0 H E hr tk hp => ?_
  exact (jxs_cons (jx_setC (i := 0) G (hr.mono (by decide)) tk sc_table_of_clocks.nd rfl (by first | exact Or.inl rfl | exact Or.inr rfl) (by rfl) (ja_cons (je_var 0) ja_nil)) (jxs_cons (jx_of (js_set (i := 1) sc_table_of_clocks.nd rfl (by first | exact Or.inl rfl | exact Or.inr rfl) (je_fn (fn_product_of M) (hr.mono (by decide)) (by rfl) (ja_cons (je_var 0) ja_nil))))
    (jxs_cons (jx_if (jt_cmp op_gt ok_gt (je_var 1) (je_glob (by rfl) (Md.int_MOST_STATES M)) (nomark _)) (jxs_one (jx_raise (i := 2) (k := 0) MC (hr.mono (by decide)) rfl tk (by rfl) (je_var 1) (by decide))) jxs_nil) (jxs_one (jx_of (js_ret (je_fn (fn_table_from T) (hr.mono (by decide)) (by rfl) (ja_cons (je_var 0) ja_nil))))))))
end K67
set_option Elab.async false
set_option linter.all false
set_option maxRecDepth 100000
set_option maxHeartbeats 4000000
namespace K67
open PySem PySem.Spec PyProof.Rows L2
variable [TabA]
noncomputable def dNeg (d : PyData) : Option PyData := bd (toI d) fun i => some (.int (-i))
theorem je_neg {X : Cx} {a : Expr} {ra : RE} {pos : Pos} (ha : JE X a ra) : JE X (.UnaryOp .USub a pos) (e1 dNeg ra) := by
  refine PE.imp (pe_un un_neg ha) ?_
  rintro σ H Q ⟨F0, H0, F, env, z, R, hr, k⟩
  obtain ⟨d, h1, hr1⟩ := bd_some hr
  obtain ⟨i, h2, hz⟩ := bd_some hr1
  cases hz
  have e1 := toI_some h2
  subst e1
  refine ⟨F0, H0, F, env, _, R, h1, fun v F1 H1 g1 n1 => ?_⟩
  cases n1
  exact ⟨i, rfl, k _ F1 H1 g1 (.int _)⟩
noncomputable def xr_made_clocks : RX := (xSeq (xIf (rNot (tB (e1 (isI false false false false false true) (eVar 0)))) (xRaise 1 (e1 dNeg (eC (.int (.ofNat 1))))) xNx) (xSeq (xOf (sSet 1 (eTup aNil))) (xSeq (xFor (iEnum (eVar 0)) (b2 2 3) (xSeq (xOf (sSet 4 (eIf (tB (eCall rf_is_power (aCons (eVar 3) aNil))) (eTup (aCons (e2 dIx (e2 dIx (eCall rf_powers_of (aCons (eVar 3) aNil)) (eC (.int (.ofNat 0)))) (eC (.int (.ofNat 0)))) (aCons (eVar 3) aNil))) (eTup aNil)))) (xSeq (xIf (rOr (tB (e2 dEq (eVar 4) (eTup aNil))) (tB (e2 dLt (eVar 4) (eVar 1)))) (xRaise 1 (eVar 2)) xNx) (xOf (sSet 1 (eVar 4)))))) (xOf (sRet (eVar 0))))))
noncomputable def rx_made_clocks : List PyData → Option Ou := rfX 4 xr_made_clocks
theorem fx_made_clocks {P : Program} {w : World} {K : PySem.W.Frag} {mg : Str → Option Value} {base : Heap} (M : Md K mg base) (MC : MdC P K mg) : FnX P w K mg base "made_clocks" 4 1 rx_made_clocks := by
  obtain ⟨fd, F⟩ := M.c.def_ 14 (d := d_made_clocks) rfl
  refine fn_mkX F (M.glo 14 rfl) sc_made_clocks rfl rfl (fun _ _ _ _ _ _ us hl => match us, hl with | [_], _ => rfl) fun cdv A outer s0 H E hr tk hp => ?_
  exact (jxs_cons (jx_if (jt_not (jt_val (je_isI (je_var 0) (by rfl) (Md.b_isinstance M) (by rfl) (Md.b_tuple M) bt_tuple rfl rfl rfl rfl rfl rfl))) (jxs_one (jx_raise (i := 1) (k := 0) MC (hr.mono (by decide)) rfl tk (by rfl) (je_neg je_int) (by decide))) jxs_nil) (jxs_cons (jx_of (js_set (i := 1) sc_made_clocks.nd rfl (by first | exact Or.inl rfl | exact Or.inr rfl) (je_tup ja_nil))) (jxs_cons (jx_for hp rfl roT_mono (ji_enum (by rfl) (Md.b_enumerate M) (je_var 0)) (jg_2 (i := 2) (j := 3) rfl sc_made_clocks.nd rfl (by first | exact Or.inl rfl | exact Or.inr rfl) rfl (by first | exact Or.inl rfl | exact Or.inr rfl)) (jxs_cons (jx_of (js_set (i := 4) sc_made_clocks.nd rfl (by first | exact Or.inl rfl | exact Or.inr rfl) (je_if (jt_val (je_fn (fn_is_power M) (hr.mono (by decide)) (by rfl) (ja_cons (je_var 3) ja_nil))) (je_tup (ja_cons (je_ix (ix_list.or ix_tup) ok_ix (je_ix (ix_list.or ix_tup) ok_ix (je_fn (fn_powers_of M) (hr.mono (by decide)) (by rfl) (ja_cons (je_var 3) ja_nil)) je_int (fun _ _ => rfl)) je_int (fun _ _ => rfl)) (ja_cons (je_var 3) ja_nil))) (je_tup ja_nil)))) (jxs_cons (jx_if (PW.pt (jw_or (jt_cmp (op_eqD hr.units) ok_eq (je_var 4) (je_tup ja_nil) (nomark _)) (jw_1 (jt_cmp (op_lt.or (op_ltT hr.units0)) ok_lt (je_var 4) (je_var 1) (nomark _))))) (jxs_one (jx_raise (i := 1) (k := 0) MC (hr.mono (by decide)) rfl tk (by rfl) (je_var 2) (by decide))) jxs_nil) (jxs_one (jx_of (js_set (i := 1) sc_made_clocks.nd rfl (by first | exact Or.inl rfl | exact Or.inr rfl) (je_var 4))))))) (jxs_one (jx_of (js_ret (je_var 0)))))))
end K67
set_option Elab.async false
set_option linter.all false
set_option maxRecDepth 100000
set_option maxHeartbeats 4000000
namespace K67
open PySem PySem.Spec PyProof.Rows L2
variable [TabA]
noncomputable def xRetF (rff : List PyData → Option PyData) (rf : List PyData → Option Ou) (rs : RA) : RX := fun env => bd (rs env) fun ds => bd (rf ds) fun o => @Ou.rec (fun _ => Option Ox) (fun d => bd (rff [d]) fun z => some (.rt z)) (fun i d => some (.ex i d)) o
section
variable {X : Cx} {E : XK} {pos p p' q q' : Pos}
/-- return f(g(..)), g may raise -/
theorem jx_retF {k kf n : Nat} {rf : List PyData → Option Ou} {rff : List PyData → Option PyData} {x y : Str} {e : Expr} {es : List Expr} {rs : RA} (Gf : FnAt X.prog X.w X.K X.mg X.base y kf 1 rff) (hrf : Room kf X.A) (hgf : Gl X y) (G : FnX X.prog X.w X.K X.mg X.base x k n rf) (hr : Room k X.A) (tk : Takes X (fun cls d _ H => E cls d H)) (hg : Gl X x) (ha : JA X (e :: es) rs) (hl : (e :: es).length = n := by rfl)
    (hdb : (x == ("__debug__" : Str)) = false := by decide) (hdf : (y == ("__debug__" : Str)) = false := by decide) (he : starEach (e :: es) X.env = (false, eval e X.env) :: starEach es X.env := by rfl) (hpl : (backTo pos (starEach es X.env)).any (·.1) = false := by rfl)
    (hef : starEach [.Call (.Name x p) (e :: es) [] pos] X.env = (false, eval (.Call (.Name x p) (e :: es) [] pos) X.env) :: starEach [] X.env := by rfl) :
    JX X E (.Return (some (.Call (.Name y q) [.Call (.Name x p) (e :: es) [] pos] [] q')) p') (xRetF rff rf rs) := by
  obtain ⟨f, fd, ps, a, b, c, d⟩ := Gf
  refine PS.imp (ps_ret (pe_call a hrf hgf b c d .nil pass0 (pa_cons (pe_fnX G hr tk hg ha hl hdb he hpl) pa_nil hef) hdf hef (by rfl))) ?_
  rintro D σ H ⟨F0, H0, F, env, o, R, hr1, kk⟩
  obtain ⟨ds, h1, hr2⟩ := bd_some hr1
  obtain ⟨ou, h2, hz⟩ := bd_some hr2
  refine ⟨F0, H0, F, env, ds, ou, R, h1, h2, ?_⟩
  cases ou with
  | rt d0 =>
    obtain ⟨z, h3, h4⟩ := bd_some (show bd (rff [d0]) _ = some o from hz)
    cases h4
    intro v F1 H1 g1 n1
    exact ⟨F1, [d0], z, g1.fh, (R.grow g1).noT, (R.grow g1).told, .cons n1 .nil, rfl, h3, fun v' F' H' g' n' => kk v' F' H' (R.g.trans (g1.trans g')) n'⟩
  | ex i d0 =>
    cases hz
    exact ExOk.grow R.g kk
end
noncomputable def xr_self_turnings : RX := xRetF rf_self_turnings_of rx_made_clocks (aCons (eVar 0) aNil)
noncomputable def rx_self_turnings : List PyData → Option Ou := rfX 0 xr_self_turnings
theorem fx_self_turnings {P : Program} {w : World} {K : PySem.W.Frag} {mg : Str → Option Value} {base : Heap} (M : Md K mg base) (MC : MdC P K mg) : FnX P w K mg base "self_turnings" 9 1 rx_self_turnings := by
  obtain ⟨fd, F⟩ := M.c.def_ 26 (d := d_self_turnings) rfl
  refine fn_mkX F (M.glo 26 rfl) sc_self_turnings rfl rfl (fun _ _ _ _ _ _ us hl => match us, hl with | [_], _ => rfl) fun cdv A outer s0 H E hr tk hp => ?_
  exact jxs_one (jx_retF (fn_self_turnings_of M) (hr.mono (by decide)) (by rfl) (fx_made_clocks M MC) (hr.mono (by decide)) tk (by rfl) (ja_cons (je_var 0) ja_nil))
noncomputable def rx_table_of_clocks : List PyData → Option Ou := rfX 1 (xr_table_of_clocks rx_made_clocks)
theorem FnX.mono {P : Program} {w : World} {K : PySem.W.Frag} {mg : Str → Option Value} {base : Heap} {x : Str} {j k n : Nat} {rf : List PyData → Option Ou} (G : FnX P w K mg base x j n rf) (h : j ≤ k) : FnX P w K mg base x k n rf := by
  obtain ⟨f, fd, ps, a, b, c, d⟩ := G
  exact ⟨f, fd, ps, a.mono h, b, c, d⟩
theorem fx_table_of_clocks' {P : Program} {w : World} {K : PySem.W.Frag} {mg : Str → Option Value} {base : Heap} (T : MdT K mg base) (MC : MdC P K mg) : FnX P w K mg base "table_of_clocks" 7 1 rx_table_of_clocks := fx_table_of_clocks T MC ((fx_made_clocks T.toMd MC).mono (by decide))
end K67
set_option Elab.async false
set_option linter.all false
set_option maxRecDepth 100000
set_option maxHeartbeats 4000000
namespace K67
open PySem PySem.Spec PyProof.Rows L2
/-! ### try with several clauses `except X as n`, one of which takes the exception (turned from ps_try_many and ps_try_as) -/
def wAll (K : PySem.W.Frag) (i : Nat) (D : Ends) : List (Value × (Addr → Value → Option Addr → TS)) → WX
  | [] => fun _ _ _ _ => False
  | (c, ts) :: r => fun cls d σ H => ∃ b, PySem.W.exmOne K cls c = some b ∧ (b = true → ∀ a, H a = none → ts a cls d { nx := fun σ' H' => D.nx (σ'.set i none) H', rt := D.rt, bk := fun σ' H' => D.bk (σ'.set i none) H', ct := fun σ' H' => D.ct (σ'.set i none) H' } (σ.set i (some (.ref a))) H) ∧ (b = false → wAll K i D r cls d σ H)
inductive HdsAs (X : Cx) (n : Str) : List ExceptHandler → List (Value × (Addr → Value → Option Addr → TS)) → Prop
  | nil : HdsAs X n [] []
  | cons {x : Str} {c : Value} {ts : Addr → Value → Option Addr → TS} {b₀ : Stmt} {suite : List Stmt} {np pos' : Pos} {hds : List ExceptHandler} {l : List (Value × (Addr → Value → Option Addr → TS))} (hc : Names X x c)
      (hsu : ∀ (a : Addr) (oe : Obj) (cls : Value) (d : Option Addr) (pn : List (Addr × Obj)), Zc cls d oe → (∃ vs, oe.data = .fields vs) → PSs (X.suite a ((a, oe) :: pn)) (b₀ :: suite) (ts a cls d)) (r : HdsAs X n hds l) :
      HdsAs X n (.ExceptHandler (some (.Name x np)) (some n) (b₀ :: suite) pos' :: hds) ((c, ts) :: l)
section
variable {X : Cx} {n : Str} {i : Nat} {body : List Stmt} {h₀ : ExceptHandler} {hds : List ExceptHandler} {l : List (Value × (Addr → Value → Option Addr → TS))} {pos : Pos} {tb : WX → TS}
theorem ps_try_all (hs : X.stack = X.env :: X.outer) (hf : X.env.frame = some X.env.locals) (hN : X.N.Nodup) (hi : X.N[i]? = some n) (hln : X.env.kindOf n = some .local)
    (hb : ∀ (W : WX) (pn : List (Addr × Obj)) (xe : Value → Shared → Prop), Takes (X.tr pn xe) W → PassesOwn (model X.prog X.w) X.A X.env xe → PSs (X.tr pn xe) body (tb W))
    (hh : HdsAs X n (h₀ :: hds) l) : PS X (.Try body (h₀ :: hds) [] [] pos) (fun D σ H => tb (wAll X.K i D l) D σ H) := by
  refine ⟨fun pins s σ H D I h => ?_⟩
  have ok := I.ok
  have hfr : X.A.frames = some (X.env :: X.outer) := by rw [ok.frames, hs]
  have hloc : Loc X.env.scope n := .inl hln
  refine wpAny_Try_except ?_
  refine wpAny_mono ((hb (wAll X.K i D l) (X.pn ++ pins) (fun e s₁ => wpAny (model X.prog X.w) X.A (noteFrame e X.env) (fun _ s₂ => wpAny (model X.prog X.w) X.A (setFlight e none) (fun _ s₃ =>
    wpAny (model X.prog X.w) X.A (handleBy e X.env (h₀ :: hds)) (SP X pins D) X.xe s₃) X.xe s₂) X.xe s₁) (fun u s' xx => ?_) PassesOwn.looking).run [] s σ H D (I.toTry _) h) (fun f s1 hsp => ?_) (fun e s1 he => he)
  · obtain ⟨a, B, sI, pins', σ', H', cls, d, rfl, J', nb, up, sky, na, os, ag, w⟩ := xx
    have J : Inv X pins σ' H' sI := J'.ofTry ok
    have sky' : Sky B (X.env :: X.outer) a (Zc cls d) X.env.locals s'.heap := by rw [← hs]; exact sky
    show wpAny (model X.prog X.w) X.A (noteFrame (.ref a) X.env) _ _ _
    refine Sky.land Zc.steady hfr hf sky' fun h3 fl3 up3 => ?_
    have J3 : Inv X pins σ' H' { s' with heap := h3 } := J.landed nb fl3.1 (up.trans up3) os ag
    obtain ⟨oe3, vs3, he3, hz3, hd3⟩ := fl3.there
    have nfr : a ∉ frs (X.env :: X.outer) := fun hm => by
      obtain ⟨_, o', e', hnf⟩ := Heap.FunFrames.mem fl3.2.2.1 hm
      rw [he3] at e'; cases e'
      exact hnf _ hd3
    have nL : a ≠ X.env.locals := fun z => nfr (List.mem_filterMap.mpr ⟨X.env, List.mem_cons_self, by rw [hf, z]⟩)
    have nF : a ∉ X.fs := fun hm => by
      obtain ⟨e, he, q⟩ := List.mem_filterMap.mp hm
      exact nfr (List.mem_filterMap.mpr ⟨e, List.mem_cons_of_mem _ he, q⟩)
    have S3 := J3.suite he3 hd3 na nL nF
    have go : ∀ {hds' : List ExceptHandler} {l' : List (Value × (Addr → Value → Option Addr → TS))}, HdsAs X n hds' l' → wAll X.K i D l' cls d σ' H' →
        wpAny (model X.prog X.w) X.A (handleBy (.ref a) X.env hds') (SP X pins D) X.xe { s' with heap := h3 } := by
      intro hds' l' hk
      induction hk with
      | nil => exact fun w => False.elim w
      | @cons x c ts b₀ suite np pos' hds2 l2 hc hsu r ih =>
        intro w
        obtain ⟨b, hb1, hyes, hno⟩ := w
        refine wpAny_handleBy_cons (codeAny_handlers_test ?_) (by intro q; cases q)
        have LT : PySem.W.Looks (model X.prog X.w) h3 (typeOf (.ref a)) cls := fun A Q E s k q => wpAny_typeOf_ref (k _ _ he3) (by rw [hz3.1]; exact q)
        have LM := PySem.W.exm_one (M := model X.prog X.w) (J3.kIn) LT hb1
        have test : ∀ {Q : Value → Shared → Prop} {E : Value → Shared → Prop}, Q c { s' with heap := h3 } → wpAny (model X.prog X.w) (X.A.mark (some (.ref a))) (eval (.Name x np) X.env) Q E { s' with heap := h3 } := fun {Q E} q => by
          obtain ⟨hg, hdbg, hm | ⟨hm, hv, hnn⟩⟩ := hc
          · exact ld_glob (X := X.suite a ((a, oe3) :: (X.pn ++ pins))) S3 hg hm q hdbg
          · exact ld_blt (X := X.suite a ((a, oe3) :: (X.pn ++ pins))) S3 hg hm hv q hnn hdbg
        refine test (LM.here ?_)
        cases b with
        | true =>
          refine codeAny_handlers_suite_as ?_
          refine HandSPX.lands_againZ fl3 fun h4 fl4 up4 => ?_
          have J4 : Inv X pins σ' H' { s' with heap := h4 } := J.landed nb fl4.1 ((up.trans up3).trans up4) os ag
          obtain ⟨oe4, vs4, he4, hz4, hd4⟩ := fl4.there
          have S4 := J4.suite he4 hd4 na nL nF
          refine store_ok (X := X.suite a ((a, oe4) :: (X.pn ++ pins))) (v := .ref a) S4 hN hi hloc rfl (fun s5 S5 => ?_) (.inr hln)
          refine wpAny_mono ((hsu a oe4 cls d (X.pn ++ pins) hz4 ⟨_, hd4⟩).run [] s5 _ H' _ S5 (hyes rfl a na)) (fun f s6 hsp => ?_) (fun _ _ z => False.elim z)
          have end_ : ∀ {σ6 : L2.St} {H6 : Hp} {Q : Shared → Prop}, Inv (X.suite a ((a, oe4) :: (X.pn ++ pins))) [] σ6 H6 s6 → (∀ s7, Inv X pins (σ6.set i none) H6 s7 → Q s7) →
              wpAny (model X.prog X.w) X.A (do bindName X.env n .none; unbindBehindTheSuite X.env n pos') (fun _ s7 => Q s7) X.xe s6 := fun {σ6 H6 Q} S6 hq => gone_ok (S6.unsuite ok) hN hi hln hq
          cases f with
          | next =>
            obtain ⟨σ6, H6, S6, q6⟩ := hsp
            exact end_ S6 fun s7 J7 => ⟨_, _, J7, q6⟩
          | brk =>
            obtain ⟨σ6, H6, S6, q6⟩ := hsp
            exact end_ S6 fun s7 J7 => ⟨_, _, J7, q6⟩
          | cont =>
            obtain ⟨σ6, H6, S6, q6⟩ := hsp
            exact end_ S6 fun s7 J7 => ⟨_, _, J7, q6⟩
          | ret u =>
            obtain ⟨v6, σ6, H6, S6, r6, q6⟩ := hsp
            exact end_ S6 fun s7 J7 => ⟨_, _, _, J7, r6, q6⟩
        | false =>
          show wpAny _ X.A (handleBy (.ref a) X.env hds2) _ _ _
          exact ih (hno rfl)
    exact go hh w
  · cases f with
    | next =>
      obtain ⟨σ', H', J', q⟩ := hsp
      exact wpAny_execs_nil ⟨σ', H', J'.ofTry ok, q⟩
    | brk =>
      obtain ⟨σ', H', J', q⟩ := hsp
      exact ⟨σ', H', J'.ofTry ok, q⟩
    | cont =>
      obtain ⟨σ', H', J', q⟩ := hsp
      exact ⟨σ', H', J'.ofTry ok, q⟩
    | ret u =>
      obtain ⟨v, σ', H', J', r, q⟩ := hsp
      exact ⟨v, σ', H', J'.ofTry ok, r, q⟩
end
end K67
set_option Elab.async false
set_option linter.all false
set_option maxRecDepth 100000
set_option maxHeartbeats 4000000
namespace K67
open PySem PySem.Spec PyProof.Rows L2
/-! ### what the written part says of the classes, of Refused.__init__, of the tables: read off -/
def oexB (K : PySem.W.Frag) (C : Addr) : Bool := (match K.lookup C with
  | some ⟨.type "type", _, .cls cd, sl⟩ => (match cd.mro, sl.toList with
    | .ref C' :: bm, [_, _, _, _, some (.builtin n), _] => C' == C && n == "ValueError.__new__" && !cd.hasDel && cd.hasDict && PySem.HandSPX.refsVE bm
    | _, _ => false)
  | _ => false) && (He.eqO (PySem.W.findIn K (.ref C) "__setattr__") (some (some (.builtin "object.__setattr__"))) && (decide (PySem.W.subIn K (.ref C) (.type "BaseException") = some true) && (decide (PySem.W.typeIn K (.ref C) = some (.type "type")) && PySem.W.keepIn K (.ref C))))
theorem oexB_ok {K : PySem.W.Frag} {C : Addr} (h : oexB K C = true) : OexC K C := by
  unfold oexB at h
  obtain ⟨q, h⟩ := He.ba h
  obtain ⟨h1, h⟩ := He.ba h
  obtain ⟨h2, h⟩ := He.ba h
  obtain ⟨h3, h4⟩ := He.ba h
  refine ⟨?_, He.eqO_ok h1, of_decide_eq_true h2, of_decide_eq_true h3, h4⟩
  split at q
  · rename_i dd cd sl ho
    split at q
    · rename_i C' bm k0 k1 k2 k3 n k5 hm hs
      simp only [Bool.and_eq_true, beq_iff_eq, Bool.not_eq_true'] at q
      obtain ⟨⟨⟨⟨rfl, rfl⟩, hdel⟩, hd⟩, hv⟩ := q
      obtain ⟨nm, bs, mro, ns, qn, hdd, sn, sub, ab, col, del⟩ := cd
      dsimp only at hm hdel hd
      subst hm hdel hd
      have hsl : sl = #[k0, k1, k2, k3, some (.builtin "ValueError.__new__"), k5] := by
        obtain ⟨l⟩ := sl
        simp only at hs
        rw [hs]
      subst hsl
      exact ⟨_, _, _, _, _, _, _, _, _, _, _, _, _, _, _, ho, hv⟩
    · cases q
  · cases q
def initCB (K : PySem.W.Frag) (C D : Addr) : Bool := oexB K C && (He.eqO (PySem.W.findIn K (.ref C) "what") (some none) && (decide (PySem.W.ks_superIn K C D "__init__" = some (some (.builtin "ValueError.__init__"))) && (decide (PySem.W.mroIn K C (.ref D) = some true) && decide (PySem.W.subIn K (.ref C) (.type "ValueError") = some true))))
theorem initCB_ok {K : PySem.W.Frag} {C D : Addr} (h : initCB K C D = true) : InitC K C D := by
  unfold initCB at h
  obtain ⟨h0, h⟩ := He.ba h
  obtain ⟨h1, h⟩ := He.ba h
  obtain ⟨h2, h⟩ := He.ba h
  obtain ⟨h3, h4⟩ := He.ba h
  exact ⟨oexB_ok h0, He.eqO_ok h1, of_decide_eq_true h2, of_decide_eq_true h3, of_decide_eq_true h4⟩
/-! ### Refused.__init__ -/
def fIA (K : PySem.W.Frag) : Addr := He.ma K (ca K 0) "__init__"
abbrev FnI : Type := Option (Str × Str × Arguments × FuncBody × Scope × Addr × List Str × Value × Addr)
def fnI (K : PySem.W.Frag) : FnI := match K.lookup (fIA K) with
  | some ⟨_, _, .func fd, _⟩ => some (fd.name, fd.qualname, fd.params, fd.body, fd.scope, fd.globals, fd.closure.map (·.1), fd.defaults, fd.builtins)
  | _ => none
def valI : FnI := some ("__init__", "Refused.__init__", defArgs s_init, .stmts (defBody s_init), defScope s_init, mainGlobals, ["__class__"], .none, builtinsNs)
def initB (file0 : Str) (K : PySem.W.Frag) : Bool := (match K.lookup (fIA K) with
  | some ⟨_, _, .func fd, _⟩ => (match fd.code, fd.closure with
    | .ref c, [(_, cc)] => PySem.W.codeIn K (.ref c) "Refused.__init__" && ((match K.lookup c with
      | some ⟨_, _, .fields vs, _⟩ => (match (vs[2]? : Option Value) with
        | some (.str file _) => file0 == file
        | _ => false)
      | _ => false) && (match K.lookup cc with
      | some ⟨_, _, .cell (some (.ref D)), _⟩ => decide (D = He.ga K "Refused")
      | _ => false))
    | _, _ => false)
  | _ => false) && ((PySem.W.clsIn K (He.ga K "Refused")).isSome && (He.eqO (PySem.W.nsIn K mainGlobals "super") (some none) && He.eqO (PySem.W.nsIn K cStatics "thirdparty.any") (some none)))
theorem initB_ok {P : Program} {K : PySem.W.Frag} (hv : fnI K = valI) (h : initB (P.main.file : Str) K = true) (top : (P.main.scope.names.lookup ("super" : Str)).isSome = false) : ∃ cc c, InitTx P K (fIA K) (He.ga K "Refused") cc c := by
  unfold initB at h
  obtain ⟨q, h⟩ := He.ba h
  obtain ⟨h1, h⟩ := He.ba h
  obtain ⟨h2, h3⟩ := He.ba h
  unfold fnI at hv
  split at q
  · rename_i oc od fd osl ho
    split at q
    · rename_i c nm cc hcode hclo
      rw [ho] at hv
      obtain ⟨q1, q⟩ := He.ba q
      obtain ⟨q2, q3⟩ := He.ba q
      obtain ⟨name, qual, params, body, scope, glob, clos, dfl, kwd, doc, pm, an, code, ct, blt⟩ := fd
      dsimp only at hcode hclo hv
      subst hcode hclo
      unfold valI at hv
      simp only [Option.some.injEq, Prod.mk.injEq, List.map_cons, List.map_nil, List.cons.injEq, and_true] at hv
      obtain ⟨rfl, rfl, rfl, rfl, rfl, rfl, rfl, rfl, rfl⟩ := hv
      split at q2
      · rename_i cc0 cd0 fvs sl0 hck
        split at q2
        · rename_i file tf hvs
          split at q3
          · rename_i cl1 cd1 D sl1 hcc
            have eD := of_decide_eq_true q3
            subst eD
            refine ⟨cc, c, ⟨⟨_, _, _, _, _, _, _, _, ho⟩, q1, ⟨_, _, _, _, file, tf, hck, hvs, q2⟩, ⟨_, _, _, hcc⟩, Option.isSome_iff_exists.mp h1, He.eqO_ok h2, He.eqO_ok h3, top⟩⟩
          · cases q3
        · cases q2
      · cases q2
    · cases q
  · cases q
end K67
set_option Elab.async false
set_option linter.all false
set_option maxRecDepth 100000
set_option maxHeartbeats 4000000
namespace K67
open PySem PySem.Spec PyProof.Rows L2
/-! ### the tables -/
def isTab (o : Obj) : Bool := match o.cls, o.data with
  | .none, .fields _ => true
  | _, _ => false
def noG (g : Addr → Option Obj) : Addr → Option Obj := fun a => match g a with
  | some o => if isTab o then none else some o
  | none => none
theorem noG_some {g : Addr → Option Obj} {a : Addr} {o : Obj} (h : noG g a = some o) : g a = some o ∧ isTab o = false := by
  unfold noG at h
  cases e : g a with
  | none => rw [e] at h; cases h
  | some u =>
    rw [e] at h
    have h : (if isTab u then none else some u) = some o := h
    cases q : isTab u with
    | true => rw [q] at h; simp at h
    | false => rw [q] at h; simp at h; subst h; exact ⟨rfl, q⟩
def tabB (KT : PySem.W.Frag) (x : Str) : Bool := match PySem.W.tabIn KT x with
  | some (c, P) => PySem.W.codeHdIn KT c P && (match KT.lookup P with
    | some ⟨.none, none, .fields vs, sl⟩ => vs.isEmpty && sl.isEmpty
    | _ => false)
  | none => false
theorem tabB_ok {KT : PySem.W.Frag} {h : Heap} {x : Str} (X : KT.In h) (e : tabB KT x = true) : ∃ c P, PySem.W.tabIn KT x = some (c, P) ∧ PySem.W.CodeHd h c P ∧ h.get? P = some { cls := .none, data := .fields #[] } := by
  unfold tabB at e
  split at e
  · rename_i c P hq
    obtain ⟨e1, e2⟩ := He.ba e
    refine ⟨c, P, hq, PySem.W.codeHd_of_K X e1, ?_⟩
    split at e2
    · rename_i vs sl hl
      obtain ⟨a, b⟩ := He.ba e2
      have h1 := X _ _ hl
      rw [h1]
      have va : vs = #[] := Array.isEmpty_iff.mp a
      have sa : sl = #[] := Array.isEmpty_iff.mp b
      rw [va, sa]
    · cases e2
  · cases e
end K67
set_option Elab.async false
set_option linter.all false
set_option maxRecDepth 100000
set_option maxHeartbeats 4000000
namespace K67
open PySem PySem.Spec PyProof.Rows L2
/-! ### the hook -/
def clsB (K : PySem.W.Frag) (i : Nat) : Bool := He.eqO (PySem.W.nsIn K mainGlobals (cname i)) (some (some (.ref (ca K i)))) && (initCB K (ca K i) (He.ga K "Refused") && (He.eqO (PySem.W.findIn K (.ref (ca K i)) "__init__") (some (some (.ref (fIA K)))) && (L2.xfB K (ca K i) && decide (PySem.W.typeIn K (.ref (fIA K)) = some (.type "function")))))
def exmB (K : PySem.W.Frag) (i j : Nat) (b : Bool) : Bool := decide (PySem.W.exmOne K (.ref (ca K i)) (.ref (ca K j)) = some b)
def moreB (file0 : Str) (K KT : PySem.W.Frag) : Bool := tabB KT "table_from" && (tabB KT "_law_refused_right" && (initB file0 K && (clsB K 0 && (clsB K 1 && (clsB K 2 && (exmB K 0 0 true && (exmB K 1 0 false && (exmB K 1 1 true && (exmB K 2 0 false && (exmB K 2 1 false && exmB K 2 2 true))))))))))
abbrev AlT : Type := He.AlD × Bool × FnI
/-- what the module's names reach: 3 steps, and what the functions found there name -/
def refsL (g : Addr → Option Obj) (as : List Addr) : List Addr := as.flatMap fun a => match g a with
  | some o => He.refsD o
  | none => []
def fnL (g : Addr → Option Obj) (as : List Addr) : List Addr := as.filter fun a => match g a with
  | some ⟨_, _, .func _, _⟩ => true
  | _ => false
def asT (g : Addr → Option Obj) : List Addr :=
  let l1 := refsL g [mainGlobals]
  let l2 := refsL g l1
  let l3 := refsL g l2
  [mainGlobals, cStatics] ++ l1 ++ l2 ++ l3 ++ refsL g (fnL g l3)
def frK (g : Addr → Option Obj) : PySem.W.Frag := He.frG (noG g) (asT g)
def frT (g : Addr → Option Obj) : PySem.W.Frag := He.frG g (asT g)
def file0 : Str := PySem.Challenge.pw_editlots_k67_whole_counts_beside_listing.main.file
def obsT (g : Addr → Option Obj) : AlT := (He.obsD fa fn (frK g), moreB file0 (frK g) (frT g), fnI (frK g))
def SaysT (h : Heap) (K KT : PySem.W.Frag) : Prop := K.In h ∧ KT.In h ∧ (∀ a o, K.lookup a = some o → isTab o = false) ∧ He.SaysD fa fn K ∧ moreB file0 K KT = true ∧ fnI K = valI
def hkT : PySem.W.Hook where
  α := AlT
  obs := fun s => obsT s.heap.get?
  val := fun _ => (He.valD fn, true, valI)
  says := fun _ h => ∃ K KT, SaysT h K KT
  of := fun w s e => by
    refine ⟨frK s.heap.get?, frT s.heap.get?, fun a o q => (noG_some (He.frG_at _ q)).1, He.frG_in, fun a o q => (noG_some (He.frG_at _ q)).2, ?_, ?_, ?_⟩
    · exact congrArg (fun z : AlT => z.1) e
    · exact congrArg (fun z : AlT => z.2.1) e
    · exact congrArg (fun z : AlT => z.2.2) e
  keeps := fun _ _ _ ⟨K, KT, a, b, c⟩ k => ⟨K, KT, PySem.W.Frag.In.keeps a k, PySem.W.Frag.In.keeps b k, c⟩
theorem obsT_eq {g : Addr → Option Obj} {s : Shared} (h : ∀ a, g a = s.heap.get? a) : obsT g = hkT.obs s := by
  have e : g = s.heap.get? := funext h
  rw [e] <;> rfl
def obT (s : PySem.W.SharedT) : AlT := obsT (HandSHeadRun.getT s)
theorem obT_eq (s : PySem.W.SharedT) : obT s = hkT.obs s.abs := obsT_eq (HandSHeadRun.getT_eq s)
end K67
set_option Elab.async false
set_option linter.all false
set_option maxRecDepth 100000
set_option maxHeartbeats 0
namespace K67
open PySem PySem.Spec PyProof.Rows L2
theorem runT (w : World) : HandSHeadRun.RunEq R (PySem.W.view R.prog [84]) hkT obT 6000 loose w := by
  intro os
  kernel_rfl
end K67
set_option Elab.async false
set_option linter.all false
set_option maxRecDepth 100000
set_option maxHeartbeats 4000000
namespace K67
open PySem PySem.Spec PyProof.Rows L2
variable [TabA]
/-! ### the source: a list of two numbers, drawn from -/
def Rng (a b : Int) : Prop := 0 ≤ a ∧ 0 ≤ b ∧ b < 2147483647
abbrev SrcL (a b : Int) : HO := .lst [.int a, .int b]
/-- a def of the source keeps a promise -/
def FnS (P : Program) (w : World) (K : PySem.W.Frag) (mg : Str → Option Value) (base : Heap) (x : Str) (k : Nat) (sp : Sp) : Prop :=
  ∃ (f : Addr) (fd : FuncData) (ps : List Str), FnOk P w K mg base CX0 k f fd ps sp ∧ mg x = some (.ref f) ∧ PySem.W.keepIn K (.ref f) = true ∧ Binds K fd ps []
def spTake : Sp := fun vs H Q _ => ∃ l a b top, vs = [.ref l, .int top] ∧ H l = some (SrcL a b) ∧ 0 < top ∧ top < 1073741824 ∧ Rng a b ∧ ∀ r a' b', 0 ≤ r → r < top → Rng a' b' → Q (.int r) (upd H l (SrcL a' b'))
abbrev N_law_take : List PySem.Str := ["_law_source", "_law_top", "_law_drawn"]
theorem sc_law_take : FnScope N_law_take ["_law_source", "_law_top"] (defScope s_law_take) := ⟨rfl, rfl, rfl, by decide +kernel, rfl, by decide +kernel, by decide +kernel⟩
theorem at0 (x y : V) : atI [x, y] 0 = some x := rfl
theorem at1 (x y : V) : atI [x, y] 1 = some y := rfl
theorem fs_take {P : Program} {w : World} {K : PySem.W.Frag} {mg : Str → Option Value} {base : Heap} (M : Md K mg base) : FnS P w K mg base "_law_take" 1 spTake := by
  obtain ⟨fd, F⟩ := M.c.def_ 42 (d := d_law_take) rfl
  refine ⟨_, fd, ["_law_source", "_law_top"], F.ok sc_law_take (fun vs H Q E h => (by obtain ⟨_, _, _, _, rfl, _⟩ := h; rfl)) fun cdv A outer s0 H vs Q E hr h => ⟨_,
    pss_cons (ps_if (pt_cmpR op_gt (pe_ix ix_list (pe_var (i := 0) rfl (Or.inl rfl)) pe_int (fun _ _ => rfl)) pe_int (nomark _))
      (pss_cons (ps_set (i := 2) sc_law_take.nd rfl (Or.inl rfl) (pe_op op_mod (pe_callTy call_int1 (by rfl) (Md.b_int M) bt_int (pa_cons (pe_ix ix_list (pe_var (i := 0) rfl (Or.inl rfl)) pe_int (fun _ _ => rfl)) pa_nil)) (pe_var (i := 1) rfl (Or.inl rfl))))
        (pss_cons (ps_asg (pe_op op_fdiv (pe_ix ix_list (pe_var (i := 0) rfl (Or.inl rfl)) pe_int (fun _ _ => rfl)) (pe_var (i := 1) rfl (Or.inl rfl))) (pg_sub (pe_var (i := 0) rfl (Or.inl rfl)) pe_int set_list))
          (pss_one (ps_ret (pe_var (i := 2) rfl (Or.inl rfl)))))) pss_nil)
      (pss_cons (ps_asg (pe_op op_mod (pe_callTy call_int1 (by rfl) (Md.b_int M) bt_int (pa_cons (pe_op op_add (pe_op op_mul (pe_ix ix_list (pe_var (i := 0) rfl (Or.inl rfl)) pe_int (fun _ _ => rfl)) pe_int) pe_int) pa_nil)) pe_int) (pg_sub (pe_var (i := 0) rfl (Or.inl rfl)) pe_int set_list))
        (pss_one (ps_ret (pe_op op_mod (pe_callTy call_int1 (by rfl) (Md.b_int M) bt_int (pa_cons (pe_op op_fdiv (pe_op op_mod (pe_callTy call_int1 (by rfl) (Md.b_int M) bt_int (pa_cons (pe_op op_mul (pe_ix ix_list (pe_var (i := 0) rfl (Or.inl rfl)) pe_int (fun _ _ => rfl)) (pe_ix ix_list (pe_var (i := 0) rfl (Or.inl rfl)) pe_int (fun _ _ => rfl))) pa_nil)) pe_int) pe_int) pa_nil)) (pe_var (i := 1) rfl (Or.inl rfl)))))), ?_⟩, M.glo 42 rfl, F.kp, F.bindsN (fun _ _ _ _ _ _ us hl => match us, hl with | [_, _], _ => rfl)⟩
  obtain ⟨l, a, b, top, rfl, hl, h0, h1, hR, q⟩ := h
  obtain ⟨r1, r2, r3⟩ := hR
  have sq : ∀ {H : Hp} {a b : Int}, H l = some (SrcL a b) → SqL K H l [.int a, .int b] := fun h => SqL.of h
  refine ⟨_, rfl, l, _, 0, _, rfl, rfl, sq hl, at0 _ _, a, 0, rfl, rfl, _, rfl, ?_⟩
  by_cases hp : 0 < a
  · show if decide (0 < a) = true then _ else _
    rw [if_pos (decide_eq_true hp)]
    refine ⟨_, rfl, l, _, 0, _, rfl, rfl, sq hl, at0 _ _, .inl ⟨a, rfl, ?_⟩⟩
    refine ⟨_, rfl, a, top, rfl, rfl, h0, ?_⟩
    refine ⟨_, rfl, l, _, 0, _, rfl, rfl, sq hl, at0 _ _, _, rfl, a, top, rfl, rfl, ⟨h0, h1⟩, ?_⟩
    refine ⟨_, rfl, l, _, 0, 0, rfl, rfl, hl, rfl, ?_⟩
    exact ⟨_, rfl, q _ _ _ (Int.emod_nonneg _ (by omega)) (Int.emod_lt_of_pos _ h0) ⟨Int.ediv_nonneg r1 (by omega), r2, r3⟩⟩
  · show if decide (0 < a) = true then _ else _
    rw [if_neg (by simpa using hp)]
    have m1 : CMul b 39373 := .inl ⟨by omega, by omega⟩
    have hb : ∀ H : Hp, (upd H l (SrcL a ((b * 39373 + 7) % 2147483647))) l = some (SrcL a ((b * 39373 + 7) % 2147483647)) := fun H => upd_same
    have n0 : 0 ≤ (b * 39373 + 7) % 2147483647 := Int.emod_nonneg _ (by omega)
    have n1 : (b * 39373 + 7) % 2147483647 < 2147483647 := Int.emod_lt_of_pos _ (by omega)
    refine ⟨_, rfl, l, _, 1, _, rfl, rfl, sq hl, at1 _ _, b, 39373, rfl, rfl, m1, ?_⟩
    refine ⟨_, _, rfl, rfl, .inl ⟨_, rfl, ?_⟩⟩
    refine ⟨_, 2147483647, rfl, rfl, (show (0 : Int) < 2147483647 by decide), ?_⟩
    refine ⟨_, rfl, l, _, 1, 1, rfl, rfl, hl, rfl, ?_⟩
    refine ⟨_, rfl, l, _, 1, _, rfl, rfl, sq (hb H), at1 _ _, _, rfl, l, _, 1, _, rfl, rfl, sq (hb H), at1 _ _, _, _, rfl, rfl, .inl ⟨by omega, by omega⟩, ?_⟩
    refine .inl ⟨_, rfl, _, 2147483629, rfl, rfl, (show (0 : Int) < 2147483629 by decide), _, 32, rfl, rfl, ⟨by decide, by decide⟩, .inl ⟨_, rfl, ?_⟩⟩
    exact ⟨_, rfl, _, top, rfl, rfl, h0, q _ _ _ (Int.emod_nonneg _ (by omega)) (Int.emod_lt_of_pos _ h0) ⟨r1, n0, n1⟩⟩
end K67
set_option Elab.async false
set_option linter.all false
set_option maxRecDepth 100000
set_option maxHeartbeats 4000000
namespace K67
open PySem PySem.Spec PyProof.Rows L2
variable [TabA]
def spOne : Sp := fun vs H Q _ => ∃ l t xs a b, vs = [.ref l, .ref t] ∧ H l = some (SrcL a b) ∧ H t = some (.lst xs) ∧ t ≠ l ∧ 0 < xs.length ∧ xs.length < 1000 ∧ Rng a b ∧ ∀ (i : Nat) x a' b', xs[i]? = some x → Rng a' b' → Q x (upd H l (SrcL a' b'))
abbrev N_law_one : List PySem.Str := ["_law_source", "_law_things"]
theorem sc_law_one : FnScope N_law_one ["_law_source", "_law_things"] (defScope s_law_one) := ⟨rfl, rfl, rfl, by decide +kernel, rfl, by decide +kernel, by decide +kernel⟩
theorem fs_one {P : Program} {w : World} {K : PySem.W.Frag} {mg : Str → Option Value} {base : Heap} (M : Md K mg base) : FnS P w K mg base "_law_one" 2 spOne := by
  obtain ⟨fd, F⟩ := M.c.def_ 43 (d := d_law_one) rfl
  obtain ⟨g, gd, gps, G, gm, gk, gb⟩ := fs_take (P := P) (w := w) M
  refine ⟨_, fd, ["_law_source", "_law_things"], F.ok sc_law_one (fun vs H Q E h => (by obtain ⟨_, _, _, _, _, rfl, _⟩ := h; rfl)) fun cdv A outer s0 H vs Q E hr h => ⟨_,
    pss_one (ps_ret (pe_ix ix_list (pe_var (i := 1) rfl (Or.inl rfl)) (pe_call G hr (by rfl) gm gk gb .nil pass0 (pa_cons (pe_var (i := 0) rfl (Or.inl rfl)) (pa_cons (pe_callB call_len_seq (by rfl) (Md.b_len M) bt_len (pa_cons (pe_var (i := 1) rfl (Or.inl rfl)) pa_nil)) pa_nil))) (fun _ _ => rfl))), ?_⟩, M.glo 43 rfl, F.kp, F.bindsN (fun _ _ _ _ _ _ us hl => match us, hl with | [_, _], _ => rfl)⟩
  obtain ⟨l, t, xs, a, b, rfl, hl, ht, ne, h0, h1, hR, q⟩ := h
  refine ⟨_, rfl, _, rfl, _, rfl, t, xs, rfl, .inl (SqL.of ht), ?_⟩
  refine ⟨l, a, b, _, rfl, hl, (by omega), (by omega), hR, fun r a' b' r0 r1 hR' => ?_⟩
  obtain ⟨n, rfl⟩ := Int.eq_ofNat_of_zero_le r0
  have hj : n < xs.length := by omega
  have hx : xs[n]? = some xs[n] := List.getElem?_eq_getElem hj
  exact ⟨t, xs, (n : Int), xs[n], rfl, rfl, SqL.of (by rw [upd_ne ne]; exact ht), atI_nat hx, q _ _ a' b' hx hR'⟩
/-! ### the pool -/
def spPool (K : PySem.W.Frag) : Sp := fun vs H Q _ => ∃ (s : Addr) (ns : List Int), vs = [.ref s, .int 0] ∧ SqL K H s (ns.map V.int) ∧ ∀ H' p a b, (H' = H ∨ ∃ p0, H p0 = none ∧ H' = upd H p0 (.lst [])) → H' p = none → Rng a b → Q (.ref p) (upd H' p (SrcL a b))
abbrev N_law_pool : List PySem.Str := ["_law_script", "_law_k", "_law_cell", "_law_big", "_law_mixed"]
theorem sc_law_pool : FnScope N_law_pool ["_law_script", "_law_k"] (defScope s_law_pool) := ⟨rfl, rfl, rfl, by decide +kernel, rfl, by decide +kernel, by decide +kernel⟩
theorem fs_pool {P : Program} {w : World} {K : PySem.W.Frag} {mg : Str → Option Value} {base : Heap} (M : Md K mg base) : FnS P w K mg base "_law_pool" 1 (spPool K) := by
  obtain ⟨fd, F⟩ := M.c.def_ 41 (d := d_law_pool) rfl
  refine ⟨_, fd, ["_law_script", "_law_k"], F.ok sc_law_pool (fun vs H Q E h => (by obtain ⟨_, _, rfl, _⟩ := h; rfl)) fun cdv A outer s0 H vs Q E hr h => ?_, M.glo 41 rfl, F.kp, F.bindsN (fun _ _ _ _ _ _ us hl => match us, hl with | [_, _], _ => rfl)⟩
  obtain ⟨sc, ns, rfl, hs, q⟩ := h
  have fin : ∃ t, PSs (cxOf CX0 P w K mg base N_law_pool d_law_pool.qual d_law_pool.scope (He.fAd K d_law_pool.at_) cdv A outer s0 H E) ((defBody s_law_pool).drop 2) t ∧ ∀ (c : Int) (H' : Hp) (D : Ends), (∀ p a b, H' p = none → Rng a b → D.rt (.ref p) (upd H' p (SrcL a b))) → SqL K H' sc (ns.map V.int) →
      t D [some (.ref sc), some (.int 0), some (.int c), none, none] H' := by
    refine ⟨_, pss_cons (ps_set (i := 3) sc_law_pool.nd rfl (Or.inl rfl) (pe_callB (call_max2 rfl) (by rfl) (Md.b_max M) bt_max (pa_cons (pe_callTy call_int1 (by rfl) (Md.b_int M) bt_int (pa_cons (pe_var (i := 2) rfl (Or.inl rfl)) pa_nil)) (pa_cons (pe_callTy call_int1 (by rfl) (Md.b_int M) bt_int (pa_cons (pe_op op_sub (pe_un un_neg pe_int) (pe_var (i := 2) rfl (Or.inl rfl))) pa_nil)) pa_nil))))
      (pss_cons (ps_set (i := 4) sc_law_pool.nd rfl (Or.inl rfl) (pe_op op_mod (pe_callTy call_int1 (by rfl) (Md.b_int M) bt_int (pa_cons
        (pe_op op_mul (pe_op op_add (pe_op op_add (pe_op op_add (pe_op op_mod (pe_callTy call_int1 (by rfl) (Md.b_int M) bt_int (pa_cons (pe_var (i := 3) rfl (Or.inl rfl)) pa_nil)) pe_int) (pe_op op_mul (pe_op op_mul pe_int (pe_var (i := 1) rfl (Or.inl rfl))) (pe_var (i := 1) rfl (Or.inl rfl)))) (pe_op op_mul pe_int (pe_var (i := 1) rfl (Or.inl rfl)))) pe_int) pe_int) pa_nil)) pe_int))
      (pss_one (ps_ret (pe_lst (pa_cons (pe_op op_mul (pe_var (i := 3) rfl (Or.inl rfl)) (pe_callTy call_int1 (by rfl) (Md.b_int M) bt_int (pa_cons (pe_and (pe_cmpR op_ge (pe_var (i := 3) rfl (Or.inl rfl)) (pe_op op_pow pe_int pe_int) (nomark _)) (pe_one (pe_cmpR op_lt (pe_var (i := 1) rfl (Or.inl rfl)) (pe_callB call_len_seq (by rfl) (Md.b_len M) bt_len (pa_cons (pe_var (i := 0) rfl (Or.inl rfl)) pa_nil)) (nomark _)))) pa_nil))) (pa_cons (pe_var (i := 4) rfl (Or.inl rfl)) pa_nil)))))), ?_⟩
    intro c H' D hk hs'
    refine ⟨_, rfl, .inl ⟨c, rfl, 1, rfl, _, rfl, -1, c, rfl, rfl, .inl ⟨_, rfl, c, _, rfl, ?_⟩⟩⟩
    obtain ⟨g, hg, g0⟩ : ∃ g : Int, g = (if -1 - c > c then -1 - c else c) ∧ 0 ≤ g := ⟨_, rfl, by split <;> omega⟩
    rw [← hg]
    have n0 : ∀ x : Int, 0 ≤ x % 2147483647 := fun x => Int.emod_nonneg _ (by omega)
    have n1 : ∀ x : Int, x % 2147483647 < 2147483647 := fun x => Int.emod_lt_of_pos _ (by omega)
    have e0 : 0 ≤ g % 2147483629 := Int.emod_nonneg _ (by omega)
    have e1 : g % 2147483629 < 2147483629 := Int.emod_lt_of_pos _ (by omega)
    refine ⟨_, rfl, .inl ⟨g, rfl, g, 2147483629, rfl, rfl, (show (0 : Int) < 2147483629 by decide), ?_⟩⟩
    refine ⟨_, rfl, 7919, 0, rfl, rfl, .inr ⟨by decide, by decide⟩, _, rfl, _, 0, rfl, rfl, .inr ⟨by decide, by decide⟩, _, _, rfl, rfl, ?_⟩
    refine ⟨_, rfl, 31, 0, rfl, rfl, .inr ⟨by decide, by decide⟩, _, _, rfl, rfl, ?_⟩
    refine ⟨_, _, rfl, rfl, ?_⟩
    refine ⟨_, _, rfl, rfl, .inr ⟨by decide, by decide⟩, ?_⟩
    refine .inl ⟨_, rfl, ?_⟩
    refine ⟨_, _, rfl, rfl, (show (0 : Int) < 2147483647 by decide), ?_⟩
    have m0 := n0 ((g % 2147483629 + 7919 * 0 * 0 + 31 * 0 + 17) * 48271)
    have m1 := n1 ((g % 2147483629 + 7919 * 0 * 0 + 31 * 0 + 17) * 48271)
    refine ⟨_, rfl, _, rfl, 10, 18, rfl, rfl, ⟨by decide, by decide, by decide⟩, ?_⟩
    refine ⟨g, _, rfl, rfl, decide ((10 : Int) ^ (18 : Int).toNat ≤ g), rfl, ?_⟩
    have last : ∀ k : Int, 0 ≤ k → -(2 ^ 64) < k → k < 2 ^ 64 → ∃ i j, V.int g = .int i ∧ V.int k = .int j ∧ CMul i j ∧ (tCons (tVar 4) tNil [some (.ref sc), some (.int 0), some (.int c), some (.int g), some (.int ((g % 2147483629 + 7919 * 0 * 0 + 31 * 0 + 17) * 48271 % 2147483647))] H' fun xs H2 => (V.int (i * j) :: xs).length ≤ sizeLine ∧ ∀ p, H2 p = none → D.rt (.ref p) (upd H2 p (.lst (V.int (i * j) :: xs)))) := fun k k0 k1 k2 =>
      ⟨g, k, rfl, rfl, .inr ⟨k1, k2⟩, _, rfl, (by show 2 ≤ sizeLine; decide), fun p hp => hk p _ _ hp ⟨Int.mul_nonneg g0 k0, m0, m1⟩⟩
    by_cases hb : (10 : Int) ^ (18 : Int).toNat ≤ g
    · rw [if_pos (decide_eq_true hb)]
      refine ⟨_, rfl, _, rfl, sc, _, rfl, .inl hs', ?_⟩
      refine ⟨0, _, rfl, rfl, .inr ⟨_, rfl, ?_⟩⟩
      refine last _ ?_ ?_ ?_ <;> split <;> decide
    · rw [if_neg (by simpa using hb)]
      exact .inr ⟨false, rfl, last _ (by decide) (by decide) (by decide)⟩
  obtain ⟨t, ht, run⟩ := fin
  refine ⟨_, pss_cons (ps_set (i := 2) sc_law_pool.nd rfl (Or.inl rfl) pe_int)
    (pss_cons (ps_if (pt_cmpR op_lt (pe_var (i := 1) rfl (Or.inl rfl)) (pe_callB call_len_seq (by rfl) (Md.b_len M) bt_len (pa_cons (pe_var (i := 0) rfl (Or.inl rfl)) pa_nil)) (nomark _))
      (pss_one (ps_set (i := 2) sc_law_pool.nd rfl (Or.inl rfl) (pe_ix ix_list (pe_var (i := 0) rfl (Or.inl rfl)) (pe_var (i := 1) rfl (Or.inl rfl)) (fun _ _ => rfl))))
      (pss_one (ps_if (pt_cmpR (op_neD hr.units) (pe_var (i := 0) rfl (Or.inl rfl)) (pe_lst pa_nil) (nomark _))
        (pss_one (ps_set (i := 2) sc_law_pool.nd rfl (Or.inl rfl) (pe_ix ix_list (pe_var (i := 0) rfl (Or.inl rfl)) pe_int (fun _ _ => rfl)))) pss_nil))) ht), ?_⟩
  refine ⟨_, rfl, _, rfl, sc, _, rfl, .inl hs, ?_⟩
  cases ns with
  | cons n ns =>
    refine ⟨0, _, rfl, rfl, _, rfl, ?_⟩
    show if decide ((0 : Int) < (((n :: ns).map V.int).length : Nat)) = true then _ else _
    rw [if_pos (decide_eq_true (by simp only [List.map_cons, List.length_cons]; omega))]
    refine ⟨_, rfl, _, rfl, sc, _, 0, .int n, rfl, rfl, hs, atI_nat (j := 0) rfl, ?_⟩
    exact run n H _ (fun p a b hp hR => q H p a b (.inl rfl) hp hR) hs
  | nil =>
    refine ⟨0, _, rfl, rfl, _, rfl, ?_⟩
    show if decide ((0 : Int) < ((([] : List Int).map V.int).length : Nat)) = true then _ else _
    rw [if_neg (by decide)]
    refine ⟨_, rfl, Nat.zero_le _, fun p hp => ?_⟩
    have hs2 : SqL K (upd H p (.lst [])) sc [] := by
      rcases hs with (h | ⟨o, h⟩) | h
      · exact .inl (.inl (by rw [upd_ne (ne_of_none h hp)]; exact h))
      · exact .inl (.inr ⟨o, by rw [upd_ne (ne_of_none h hp)]; exact h⟩)
      · exact .inr h
    refine ⟨.list [], .list [], .lst hs2 .nil, .lst (SqL.of upd_same) .nil, by decide, by decide, _, rfl, ?_⟩
    show if (!PyData.eqv (.list []) (.list [])) = true then _ else _
    rw [if_neg (by decide)]
    exact run 0 _ _ (fun p' a b hp' hR => q _ p' a b (.inr ⟨p, hp, rfl⟩) hp' hR) hs2
end K67
set_option Elab.async false
set_option linter.all false
set_option maxRecDepth 100000
set_option maxHeartbeats 4000000
namespace K67
open PySem PySem.Spec PyProof.Rows L2
/-! ### a comprehension none of whose items is kept; its block may use what the running frame knows at the block's start -/
section
variable {X : Cx} {pp : List (Addr × Obj)} {s0 : Shared} {sl : L2.St} {G : Hp} {QQ : VK} {el tg src : Expr} {tests : List Expr} {sc : Scope} {own : List (Str × Nat)} {pos : Pos} {wsrc : TI} {gt : TG} {tt : TT}
def tLcN (wsrc : TI) (gt : TG) (tt : TT) (own : List Nat) : TE := fun sl G QQ => wsrc sl G fun J G1 => ∀ a, G1 a = none → ∃ W : Nat → Nat → Hp → Prop, (∃ n, W 0 n (upd G1 a (.lst []))) ∧ ∀ k n G2, W k n G2 →
  (J.stop k G2 ∧ QQ (.ref a) G2) ∨ (J.go k G2 ∧ ∃ Go : Hp → Prop, (∀ G3, Go G3 → ∃ n', n' < n ∧ W (k + 1) n' G3) ∧ ∀ x G3, J.yld k G2 x G3 → gt x (wipe sl own) G3 fun sl2 G4 => wipe sl2 own = wipe sl own ∧ tt sl2 G4 fun c G5 => c = false ∧ Go G5)
theorem lcn_run (calm : X.calm = true) (nd : X.N.Nodup) (J0 : Inv X pp sl G s0) (hsrc : PI X tg src wsrc) (bo : BlkOk X.N X.env.scope sc own)
    (blk : ∀ (s : Shared) (G1 : Hp) (C : Addr) (cl : List (Str × Addr)) (its : List Addr), Inv X pp sl G1 s → (∀ b ∈ its, FpOk X pp G1 b) → PG (X.blk s G1 sc (compEnvC sc cl C X.env) its) tg gt ∧ PTs (X.blk s G1 sc (compEnvC sc cl C X.env) its) tests tt)
    (h : tLcN wsrc gt tt (own.map (·.2)) sl G QQ) (fold : ∀ x, foldedSetIterable src X.env x = pure x := by intro _; rfl) :
    wpAny (model X.prog X.w) X.A (eval (.ListComp el [⟨tg, src, tests, 0⟩] sc pos) X.env) (EP X pp sl QQ) X.xe s0 := by
  rw [eval_ListComp]
  have caps : ∀ y ∈ sc.names, y.2 = .free → ∃ c, X.env.cells.lookup y.1 = some c := fun y hy e => (bo.free y hy e).elim (fun z => J0.ok.has _ (.inl z)) fun z => J0.ok.has _ (.inr z)
  refine wpAny_comprehension_free rfl fold (closure_ok caps) bo.kind (fun y hy z => by rw [bo.uniq y hy, z])
    (thn (hsrc.run pp s0 sl G _ J0 h) fun v1 s1 q1 => thn q1 fun v2 s2 q2 => ?_)
  obtain ⟨it, its, tn, J, G2, rfl, J2, T, t2, fp2, w⟩ := q2
  refine wpAny_newObj_type (newEnv_comp ?_) (by show 0 ≤ sizeLine; decide)
  obtain ⟨a, ha⟩ : ∃ a, a = s2.heap.objs.size := ⟨_, rfl⟩
  have na : G2 a = none := J2.hok.fresh (Nat.le_of_eq ha.symm)
  obtain ⟨W, ⟨n0, w0⟩, turn⟩ := w a na
  -- the new list laid
  have J3 : Inv X pp sl (upd G2 a (.lst [])) { s2 with heap := s2.heap.push { cls := .type "list", data := .seq ([] : List Value).toArray } } := by
    refine J2.laid (t' := s2.toks) (fun b o e => Heap.get?_push_of_some _ e) (Nat.le_of_eq ha.symm) ⟨Nat.zero_le _, [], 0, .nil, ?_⟩
    rw [ha]
    exact Heap.get?_push_size _ rfl
  have grown : ∀ b o, s2.heap.get? b = some o → (s2.heap.push { cls := .type "list", data := .seq ([] : List Value).toArray }).get? b = some o := fun b o e => Heap.get?_push_of_some _ e
  have fp3 : ∀ b ∈ its, FpOk X pp (upd G2 a (.lst [])) b ∧ b < ({ s2 with heap := s2.heap.push { cls := .type "list", data := .seq ([] : List Value).toArray } } : Shared).heap.objs.size := fun b hb => by
    obtain ⟨o, e, _⟩ := T.obj _ _ t2 b hb
    have lt := Heap.lt_size e
    exact ⟨⟨by rw [upd_ne (by rw [ha]; exact Nat.ne_of_lt lt)]; exact (fp2 b hb).1, (fp2 b hb).2⟩, Heap.lt_size (grown _ _ e)⟩
  have t3 : tn 0 ({ s2 with heap := s2.heap.push { cls := .type "list", data := .seq ([] : List Value).toArray } } : Shared).heap := T.keep _ _ _ t2 fun b _ o e => grown b o e
  have ea : (Value.ref s2.heap.objs.size) = .ref a := by rw [ha]
  rw [ea]
  generalize upd G2 a (.lst []) = G3 at J3 fp3 w0
  generalize ({ s2 with heap := s2.heap.push { cls := .type "list", data := .seq ([] : List Value).toArray } } : Shared) = s3 at J3 fp3 t3 ⊢
  have J4 := block_start J3 bo nd fp3
  have t4 : tn 0 ({ s3 with heap := pushCells (s3.heap.push { cls := .type "dict", data := .dict #[] }) sc.names } : Shared).heap := T.keep _ _ _ t3 fun b _ o e => pushCells_keeps _ _ _ _ (Heap.get?_push_of_some _ e)
  obtain ⟨pg, pt⟩ := blk s3 G3 s3.heap.objs.size (cellsFrom (s3.heap.objs.size + 1) sc.names (cloFrom X.env.cells sc.names [])) its J3 fun b hb => (fp3 b hb).1
  show codeAny _ _ (.compStart (.ListComp el [⟨tg, src, tests, 0⟩] sc pos) 0 (.ref it) (.ref a) (compEnvC sc (cellsFrom (s3.heap.objs.size + 1) sc.names (cloFrom X.env.cells sc.names [])) s3.heap.objs.size X.env)) _ { s3 with heap := pushCells (s3.heap.push { cls := .type "dict", data := .dict #[] }) sc.names }
  have eL : (compEnvC sc (cellsFrom (s3.heap.objs.size + 1) sc.names (cloFrom X.env.cells sc.names [])) s3.heap.objs.size X.env).locals = s3.heap.objs.size := rfl
  generalize compEnvC sc (cellsFrom (s3.heap.objs.size + 1) sc.names (cloFrom X.env.cells sc.names [])) s3.heap.objs.size X.env = ce at J4 pg pt eL ⊢
  generalize ({ s3 with heap := pushCells (s3.heap.push { cls := .type "dict", data := .dict #[] }) sc.names } : Shared) = s4 at J4 t4 ⊢
  have calmB : (X.blk s3 G3 sc ce its).calm = true := calm
  have foot : ∀ {sl' : L2.St} {G' : Hp} {s' : Shared}, Inv (X.blk s3 G3 sc ce its) [] sl' G' s' → (∀ b ∈ its, G' b = none) → ∀ b ∈ its, FpOk (X.blk s3 G3 sc ce its) [] G' b := fun {sl' G' s'} J' hn b hb =>
    ⟨hn b hb, (J'.ok.exf b hb).1, J'.ok.exfs b hb, .inl hb, (J'.ok.exf b hb).2, fun p hp => nomatch (show p ∈ ([] : List (Addr × Obj)) from hp)⟩
  have looped : codeAny (model X.prog X.w) X.A (.compLoop (.ListComp el [⟨tg, src, tests, 0⟩] sc pos) 0 (.ref it) (.ref a) ce) (compPost (model X.prog X.w) X.A X.xe none (EP X pp sl QQ) (.ref a) s3.heap.objs.size) s4 := by
    refine compLoop_any (fun n s' => ∃ k G', Inv (X.blk s3 G3 sc ce its) [] (wipe sl (own.map (·.2))) G' s' ∧ tn k s'.heap ∧ (∀ b ∈ its, G' b = none) ∧ W k n G') ?_ n0 ⟨0, G3, J4, t4, fun b hb => (fp3 b hb).1.1, w0⟩
    rintro n s5 ⟨k, G5, J5, t5, n5, w5⟩
    rcases turn k n G5 w5 with ⟨halt, fin⟩ | ⟨on, Go, hGo, step⟩
    · refine thnF (T.done (X.blk s3 G3 sc ce its) rfl rfl rfl calmB k [] s5 _ G5 (fun _ _ => False) J5 (foot J5 n5) t5 halt) fun r s6 ⟨er, J6⟩ => ?_
      subst er
      have J7 : Inv X pp sl G5 s6 := J3.call' (ch := its) J6.os J6.base J6.hok J6.bare fun b hb => ⟨(fp3 b hb).1.2.2.2.1, (fp3 b hb).1.2.1, (fp3 b hb).1.2.2.2.2.1, (fp3 b hb).1.2.2.2.2.2⟩
      have nC : G5 s3.heap.objs.size = none := by
        have z : G5 ce.locals = none := J6.free
        rwa [eL] at z
      obtain ⟨m, hm, _⟩ := J6.loc
      have hm : s6.heap.Ns ce.locals m := hm
      rw [eL] at hm
      obtain ⟨f0, f1, f2, f3, f4, f5⟩ := J3.fpOk (Nat.le_refl _) nC
      exact ⟨m, hm, fun h7 sb => ⟨.ref a, G5, J7.turned (t' := s6.toks) (fun b o hb e => (sb.2 b hb).trans e) f0 f1 f3 f4 f5, rfl, fin⟩⟩
    · refine thnF (T.item (X.blk s3 G3 sc ce its) rfl rfl rfl calmB k [] s5 _ G5 (fun _ _ => False) J5 (foot J5 n5) t5 on) fun r s6 ⟨u, er, q6⟩ => ?_
      subst er
      refine thnF q6 fun _ s7 ⟨x, G7, J7, r7, y7, t7, n7⟩ => ?_
      have K7 := J7.pinned (foot J7 n7) (T.obj _ _ t7)
      refine thnF (pg.run _ s7 _ G7 x u _ K7 r7 (step x G7 y7)) fun _ s8 ⟨sl8, G8, J8, e8, q8⟩ => ?_
      refine thnF (pt.run _ s8 sl8 G8 _ J8 q8) fun c s9 ⟨G9, J9, ec, go⟩ => ?_
      subst ec
      simp only [Bool.false_eq_true, if_false]
      obtain ⟨n', lt, w'⟩ := hGo G9 go
      have still : ∀ b ∈ its, ∀ o, s7.heap.get? b = some o → s9.heap.get? b = some o ∧ G9 b = none := fun b hb o e => by
        have z := J9.pin (b, o) (List.mem_append_right _ (List.mem_append_right _ (mem_pinsAt hb e)))
        exact ⟨z.1, z.2.1⟩
      refine ⟨n', lt, k + 1, G9, (J9.unpinned (pins := [])).weak (by rw [← e8, wipe_length]) (fun j v e => ?_), T.keep _ _ _ t7 fun b hb o e => (still b hb o e).1, fun b hb => ?_, w'⟩
      · rw [← e8] at e
        exact (wipe_some e).1
      · obtain ⟨o, e, _⟩ := T.obj _ _ t7 b hb
        exact (still b hb o e).2
  exact codeAny_compStart_list looped (T.self X.A 0 _ _ _ t4 looped)
end
end K67
set_option Elab.async false
set_option linter.all false
set_option maxRecDepth 100000
set_option maxHeartbeats 4000000
namespace K67
open PySem PySem.Spec PyProof.Rows L2
variable [TabA]
/-! ### the lambdas of _law_refused_right -/
abbrev LamE := Arguments × Expr × Scope
def q2 : Str := "_law_refused_right.<locals>.<lambda>"
def lamO2 (e : LamE) (cl : List (Str × Addr)) (pm : Value) (c' : Addr) (ctv : Value) : Obj := PySem.W.kla_obj "<lambda>" q2 e.1 e.2.1 e.2.2 cl pm c' ctv
def LamMk (F : Hp) (e : LamE) (cl : List (Str × Addr)) (f : Addr) : Prop := ∃ c' pm ctv, F f = some (.frz (lamO2 e cl pm c' ctv) (.own 0)) ∧ F c' = some (LamX.CodeO c' q2)
theorem LamMk.mono {F F' : Hp} {e : LamE} {cl : List (Str × Addr)} {f : Addr} (s : Same F F') (h : LamMk F e cl f) : LamMk F' e cl f := by
  obtain ⟨c', pm, ctv, h1, h2⟩ := h
  exact ⟨c', pm, ctv, s _ _ h1, s _ _ h2⟩
theorem nm_ne {l c : Nat} (h : l ≠ 131) : NM l c = q2 := by unfold NM; rw [if_neg h]; rfl
def tLam2 (e : LamE) (cl : List (Str × Addr)) : TE := fun σ H Q => ∃ F, Same F H ∧ NoT F ∧ Told F H ∧ ∀ f F' H', Grow F H F' H' → LamMk F' e cl f → Q (.ref f) H'
section
variable {X : Cx}
theorem pe_lam2 (e : LamE) {c : Addr} {pos : Pos} (TB : LamX.TabB X.base X.mg c TabA.p2) (hcode : X.env.code = .ref c) (hq : X.env.qual ++ "<lambda>" = q2) (hl : pos.line ≠ 131) (hdef : defaultsOf e.1 X.env = ([], []))
    (hfree : ∀ y ∈ e.2.2.names, y.2 = .free → X.env.scope.names.lookup y.1 = some .cell ∨ X.env.scope.names.lookup y.1 = some .free) : PE X (.Lambda e.1 e.2.1 e.2.2 pos) (tLam2 e (cloFrom X.env.cells e.2.2.names [])) := by
  refine ⟨fun pins s σ H Q I h => ?_⟩
  obtain ⟨F, sm, n0, t0, k⟩ := h
  obtain ⟨ps, hP⟩ := t0.h2
  obtain ⟨ht, ha⟩ := t0.k _ ps hP
  have hfree2 : ∀ y ∈ e.2.2.names, y.2 = .free → ∃ c, X.env.cells.lookup y.1 = some c := fun y hy e => (hfree y hy e).elim (fun z => I.ok.has _ (.inl z)) fun z => I.ok.has _ (.inr z)
  have hn : NM pos.line pos.col = q2 := nm_ne hl
  refine PySem.W.kla_eval hdef ?_
  rw [hq]
  have bP : s.heap.BuiltinsAt X.mg TabA.p2 := TB.bm.keeps I.bk
  have hP' : s.heap.get? TabA.p2 = some { cls := .none, data := .fields ps } := I.hok _ _ hP
  cases hc : codeAmong pos ps.toList with
  | none =>
    refine PySem.W.kla_makeFunction (mg := X.mg) (c := c) (P := TabA.p2) (ps := ps) (closure_ok hfree2) I.ok.glob (I.mod.glob.keeps I.bk) hcode (TB.code.keeps I.bk) hP' ht hc TB.gP bP fun c' ctv h' tk hx hge hlt hrec htb => ?_
    obtain ⟨c2, oc, vs, t, e2, hoc, hd, hv⟩ := hrec
    cases e2
    have nC : H c' = none := I.hok.fresh hge
    have I1 := LamX.inv_table (t' := tk) (more := #[rawInt pos.line, rawInt pos.col, .ref c']) (h' := h') I hP (fun b o hb e => hx b o hb e) htb hge ⟨oc, vs, t, hoc, hd, hv⟩
    have nF := I1.hok.fresh (Nat.le_refl _)
    have G1 := grow_tbl sm n0 hP nC ht hn
    have G2 : Grow _ _ _ _ := G1.trans (Grow.new (p := h'.objs.size) (o := .frz (lamO2 e (cloFrom X.env.cells e.2.2.names []) ((X.mg "__name__").getD .none) c' ctv) (.own 0)) G1.fh nF)
    have e1 : (h'.push (lamO2 e (cloFrom X.env.cells e.2.2.names []) ((X.mg "__name__").getD .none) c' ctv)).get? h'.objs.size = some (lamO2 e (cloFrom X.env.cells e.2.2.names []) ((X.mg "__name__").getD .none) c' ctv) := Heap.get?_push_size _ rfl
    have I2 := I1.laid (a := h'.objs.size) (o := .frz (lamO2 e (cloFrom X.env.cells e.2.2.names []) ((X.mg "__name__").getD .none) c' ctv) (.own 0)) (h' := h'.push (lamO2 e (cloFrom X.env.cells e.2.2.names []) ((X.mg "__name__").getD .none) c' ctv)) (t' := tk) (fun b u e => Heap.get?_push_of_some _ e) (Nat.le_refl _) ⟨e1, ⟨_, e1⟩⟩
    exact ⟨.ref h'.objs.size, _, I2, rfl, k _ _ _ G2 ⟨c', _, ctv, upd_same, by rw [upd_ne (Nat.ne_of_lt hlt), upd_same]⟩⟩
  | some cv =>
    obtain ⟨c', e2, hco⟩ := ha pos cv hc
    subst e2
    rw [hn] at hco
    refine PySem.W.kla_makeFunctionHit (mg := X.mg) (c := c) (P := TabA.p2) (ps := ps) (closure_ok hfree2) I.ok.glob (I.mod.glob.keeps I.bk) hcode (TB.code.keeps I.bk) hP' ht hc bP fun ctv h' tk hx hsz => ?_
    have I1 : Inv X pins σ H { s with heap := h', toks := tk } := I.kept hx
    have nF : H h'.objs.size = none := I1.hok.fresh (Nat.le_refl _)
    have e1 : (h'.push (lamO2 e (cloFrom X.env.cells e.2.2.names []) ((X.mg "__name__").getD .none) c' ctv)).get? h'.objs.size = some (lamO2 e (cloFrom X.env.cells e.2.2.names []) ((X.mg "__name__").getD .none) c' ctv) := Heap.get?_push_size _ rfl
    have I2 := I1.laid (a := h'.objs.size) (o := .frz (lamO2 e (cloFrom X.env.cells e.2.2.names []) ((X.mg "__name__").getD .none) c' ctv) (.own 0)) (h' := h'.push (lamO2 e (cloFrom X.env.cells e.2.2.names []) ((X.mg "__name__").getD .none) c' ctv)) (t' := tk) (fun b u e => Heap.get?_push_of_some _ e) (Nat.le_refl _) ⟨e1, ⟨_, e1⟩⟩
    have G1 := Grow.new (p := h'.objs.size) (o := .frz (lamO2 e (cloFrom X.env.cells e.2.2.names []) ((X.mg "__name__").getD .none) c' ctv) (.own 0)) sm nF
    exact ⟨.ref h'.objs.size, _, I2, rfl, k _ _ _ G1 ⟨c', _, ctv, upd_same, G1.ff _ _ hco⟩⟩
end
/-! ### a row: a lambda and what is expected -/
def RowOk (P : Program) (w : World) (F : Hp) (e : LamE) (cl : List (Str × Addr)) (v : V) (d : PyData) : Prop := ∃ p us f t, v = .ref p ∧ F p = some (tF us [.ref f, t]) ∧ LamMk F e cl f ∧ Dn P w F t d
theorem RowOk.mono {P : Program} {w : World} {F F' : Hp} {e : LamE} {cl : List (Str × Addr)} {v : V} {d : PyData} (s : Same F F') (h : RowOk P w F e cl v d) : RowOk P w F' e cl v d := by
  obtain ⟨p, us, f, t, rfl, h1, h2, h3⟩ := h
  exact ⟨p, us, f, t, rfl, s _ _ h1, h2.mono s, h3.mono s⟩
def tRow (P : Program) (w : World) (e : LamE) (cl : List (Str × Addr)) (rt : RE) : TE := fun σ H Q => ∃ F0 H0 F env d, Rel P w F0 H0 F H σ env ∧ rt env = some d ∧ ∀ v F' H', Grow F H F' H' → RowOk P w F' e cl v d → Q v H'
theorem pe_row {X : Cx} (e : LamE) {c : Addr} {pos pt : Pos} {kt : Nat} {te : Expr} {rt : RE} (TB : LamX.TabB X.base X.mg c TabA.p2) (hcode : X.env.code = .ref c) (hq : X.env.qual ++ "<lambda>" = q2) (hl : pos.line ≠ 131) (hdef : defaultsOf e.1 X.env = ([], []))
    (hfree : ∀ y ∈ e.2.2.names, y.2 = .free → X.env.scope.names.lookup y.1 = some .cell ∨ X.env.scope.names.lookup y.1 = some .free) (ht : JE X te rt)
    (s1 : starEach [.Lambda e.1 e.2.1 e.2.2 pos, te] X.env = (false, eval (.Lambda e.1 e.2.1 e.2.2 pos) X.env) :: starEach [te] X.env := by rfl) (s2 : starEach [te] X.env = (false, eval te X.env) :: starEach [] X.env := by rfl) :
    PE X (.Tuple [.Lambda e.1 e.2.1 e.2.2 pos, te] kt pt) (tRow X.prog X.w e (cloFrom X.env.cells e.2.2.names []) rt) := by
  refine PE.imp (pe_tupF (pa_cons (pe_lam2 e TB hcode hq hl hdef hfree) (pa_cons ht pa_nil s2) s1)) ?_
  rintro σ H Q ⟨F0, H0, F, env, d, R, hr, k⟩
  refine ⟨F, R.fh, R.noT, R.told, fun f F1 H1 g1 lm => ⟨F0, H0, F1, env, d, R.grow g1, hr, fun t F2 H2 g2 n2 => ⟨by show 2 ≤ sizeLine; decide, fun p us np => ?_⟩⟩⟩
  have g3 : Grow F2 H2 (upd F2 p (tF us [.ref f, t])) (upd H2 p (tF us [.ref f, t])) := Grow.new g2.fh np
  exact k _ _ _ (g1.trans (g2.trans g3)) ⟨p, us, f, t, rfl, upd_same, (lm.mono g2.ff).mono g3.ff, n2.mono g3.ff⟩
end K67
set_option Elab.async false
set_option linter.all false
set_option maxRecDepth 100000
set_option maxHeartbeats 4000000
namespace K67
open PySem PySem.Spec PyProof.Rows L2
variable [TabA]
/-! ### a lambda called: what its cells hold the base tells -/
structure CellsB (base : Heap) (cl : List (Str × Addr)) (fr : List Str) (ws : List (Option V)) : Prop where
  len : ws.length = fr.length
  all : ∀ y c, cl.lookup y = some c → ∃ v, base.IsCell c v
  inj : ∀ x y c, cl.lookup x = some c → cl.lookup y = some c → x = y
  has : ∀ (i : Nat) (y : Str), fr[i]? = some y → ∃ c, cl.lookup y = some c ∧ ∀ v, ws[i]? = some (some v) → ∃ u, L2.RelV v u ∧ base.IsCell c (some u)
theorem CellsB.at_ {P : Program} {w : World} {K : PySem.W.Frag} {mg : Str → Option Value} {base : Heap} {A : Around} {outer : List Env} {s : Shared} {H : Hp} {cl : List (Str × Addr)} {fr : List Str} {ws : List (Option V)} (C : CellsB base cl fr ws) (e : Env0 P w K mg base A outer s H) : NdefX.CellsAt cl fr ws s.heap H := by
  have up : ∀ {c v}, base.IsCell c v → s.heap.IsCell c v := fun ⟨o, ho, hd⟩ => ⟨o, (e.bs _ _ ho).1, hd⟩
  refine ⟨C.len, fun y c h => ?_, C.inj, fun i y h => ?_⟩
  · obtain ⟨v, z⟩ := C.all y c h
    exact ⟨(let ⟨o, ho, _⟩ := z; (e.bs _ _ ho).2), v, up z⟩
  · obtain ⟨c, h1, h2⟩ := C.has i y h
    exact ⟨c, h1, fun v hv => let ⟨u, r, z⟩ := h2 v hv; ⟨u, r, up z⟩⟩
/-- the exception's outcome -/
def XO (P : Program) (w : World) (K : PySem.W.Frag) (F H : Hp) (l : Addr) (i : Nat) (d : PyData) : XK := fun cls dx H1 => ∃ q v F1 a b, cls = .ref (ca K i) ∧ dx = some q ∧ Rng a b ∧ Grow F (upd H l (SrcL a b)) F1 H1 ∧ H1 q = some (.xd [(("what" : Str), v)]) ∧ Dn P w F1 v d
def LRun (P : Program) (w : World) (K : PySem.W.Frag) (mg : Str → Option Value) (base : Heap) (k : Nat) (F H : Hp) (f l : Addr) (i : Nat) (d : PyData) : Prop :=
  ∀ (A : Around) (outer : List Env) (s : Shared) (E : XK), Room k A → Env0 P w K mg base A outer s H → (∀ cls dx H1, XO P w K F H l i d cls dx H1 → E cls dx H1) → codeAny (model P w) A (.call (.ref f) ⟨[], []⟩) (CR (L2.CX P w) outer P w H s (fun _ _ => False) E) s
abbrev nfL2 (e : LamE) (cl : List (Str × Addr)) (c' : Addr) : NdefX.NF := ⟨"<lambda>", q2, e.1, [], e.2.2, cl, c'⟩
section
variable {P : Program} {w : World} {K : PySem.W.Frag} {mg : Str → Option Value} {base : Heap} {k : Nat} {F H : Hp} {f l : Addr} {i : Nat} {d : PyData}
theorem lrun_of {e : LamE} {cl : List (Str × Addr)} {fr : List Str} {ws : List (Option V)} (sc : NdefX.NScope fr [] fr e.2.2) (sm : Same F H) (lm : LamMk F e cl f) (C : CellsB base cl fr ws)
    (hbind : ∀ (q : Str) (cl : List (Str × Addr)) (pm cv ctv : Value), bindArgs (PySem.W.kla_fn "<lambda>" q e.1 e.2.1 e.2.2 cl pm cv ctv) ⟨[], []⟩ = pure [])
    (hbody : ∀ (c' : Addr) (A : Around) (outer : List Env) (s : Shared) (E : XK), Room k (A.deeper (NdefX.envF (nfL2 e cl c') f s.heap.objs.size)) → ∃ t, PE (NdefX.ncx (L2.CX P w) P w K mg base fr (nfL2 e cl c') f A outer s H E) e.2.1 t ∧ ((∀ cls dx H1, XO P w K F H l i d cls dx H1 → E cls dx H1) → t (NdefX.startF fr [] ws) H fun _ _ => False)) :
    LRun P w K mg base (k + 1) F H f l i d := by
  intro A outer s E hr e0 hE
  obtain ⟨c', pm, ctv, h1, h2⟩ := lm
  have kf : s.heap.get? f = some (lamO2 e cl pm c' ctv) := (show ObjOk P w H s.heap f (.frz (lamO2 e cl pm c' ctv) (.own 0)) from e0.hok f _ (sm _ _ h1)).1
  have kc := NdefX.codeO_at e0.hok (sm _ _ h2)
  have lim : s.heap.NoLimit := e0.mod.nolimit.keeps fun b o e => (e0.bs b o e).1
  have cells := C.at_ e0
  refine PySem.W.kla_callFunE hr.depth kf rfl sc.co sc.gen rfl kc ?_
  rw [hbind]
  refine wpAny_pure (wpAny_newFunctionEnv sc.nocell (fun y hy => absurd hy (by simp)) (fun h₁ hns hsb => ⟨lim.fresh _ hsb, ?_⟩) sc.kind)
  show codeAny _ _ (.expr e.2.1 (NdefX.envF (nfL2 e cl c') f s.heap.objs.size)) _ _
  have kp : ∀ b o, s.heap.get? b = some o → h₁.get? b = some o := fun b o e => hsb.extBut b o (Nat.ne_of_lt (Heap.lt_size e)) (Heap.get?_push_of_some _ e)
  have J : Inv (NdefX.ncx (L2.CX P w) P w K mg base fr (nfL2 e cl c') f A outer s H E) [] (NdefX.startF fr [] ws) H { s with heap := h₁, toks := s.toks + ([] : List (Str × Value)).length } :=
    NdefX.inv_startN (F := nfL2 e cl c') (ps := []) (us := []) (vs := []) sc hr.hd e0 rfl .nil cells hns kp
  obtain ⟨t, ht, hq⟩ := hbody c' A outer s E (hr.deeper _)
  refine PySem.W.kla_codeExpr (wpAny_mono (ht.run [] _ _ H _ J (hq hE)) (fun u s' hq => ?_) fun e s' hq => hq)
  obtain ⟨w', H', J', rv, q⟩ := hq
  exact q.elim
end
end K67
set_option Elab.async false
set_option linter.all false
set_option maxRecDepth 100000
set_option maxHeartbeats 4000000
namespace K67
open PySem PySem.Spec PyProof.Rows L2
/-! ### the lambdas' texts -/
def rowStmt (j : Nat) : Stmt := (defBody s_law_refused_right).getD j (.Pass ⟨0, 0, 0, 0⟩)
def lamX : LamE := (defArgs s_law, .Name "x" ⟨0, 0, 0, 0⟩, defScope s_law)
def tupFst : Expr → LamE
  | .Tuple (.Lambda p b s _ :: _) _ _ => (p, b, s)
  | _ => lamX
def lamS : Stmt → LamE
  | .Assign _ (.List (t :: _) _) _ => tupFst t
  | .Expr (.Call _ (t :: _) _ _) _ => tupFst t
  | _ => lamX
def lam (j : Nat) : LamE := lamS (rowStmt j)
/-! ### what they come to -/
theorem ev_k0 : rx_kinds [.int 0] = some (.ex 0 (.int 0)) := by kernel_rfl
theorem ev_k1001 : rx_kinds [.int 1001] = some (.ex 0 (.int 1001)) := by kernel_rfl
theorem ev_kN : rx_kinds [.none] = some (.ex 0 .none) := by kernel_rfl
theorem ev_t41 : rx_tables_count [.int 41] = some (.ex 0 (.int 41)) := by kernel_rfl
theorem ev_t0 : rx_tables_count [.int 0] = some (.ex 0 (.int 0)) := by kernel_rfl
theorem ev_c13 : rx_table_of_clocks [.tuple [.int 13]] = some (.ex 2 (.int 13)) := by kernel_rfl
theorem ev_c224 : rx_table_of_clocks [.tuple [.int 2, .int 2, .int 4]] = some (.ex 2 (.int 16)) := by kernel_rfl
theorem ev_c42 : rx_table_of_clocks [.tuple [.int 4, .int 2]] = some (.ex 1 (.int 1)) := by kernel_rfl
theorem ev_m32 : rx_made_clocks [.tuple [.int 3, .int 2]] = some (.ex 1 (.int 1)) := by kernel_rfl
theorem ev_mN : rx_made_clocks [.none] = some (.ex 1 (.int (-1))) := by kernel_rfl
theorem ev_m4 : rx_made_clocks [.int 4] = some (.ex 1 (.int (-1))) := by kernel_rfl
theorem ev_m24 : rx_made_clocks [.str "24"] = some (.ex 1 (.int (-1))) := by kernel_rfl
def oddD : List PyData := [.int 1, .int 6, .int 0, .int (-2), .int 12, .int 1000003, .none, .str "2"]
def badD (n : Nat) (o : PyData) : PyData := .tuple ([PyData.int 2, .int 4, .int 4].take n ++ [o] ++ [.none])
theorem ev_bad (n : Nat) (o : PyData) (hn : n < 3) (ho : o ∈ oddD) : rx_made_clocks [badD n o] = some (.ex 1 (.int (n : Int))) ∧ rx_self_turnings [badD n o] = some (.ex 1 (.int (n : Int))) := by
  have h3 : n = 0 ∨ n = 1 ∨ n = 2 := by omega
  simp only [oddD, List.mem_cons, List.not_mem_nil, or_false] at ho
  rcases h3 with rfl | rfl | rfl <;> rcases ho with rfl | rfl | rfl | rfl | rfl | rfl | rfl | rfl <;> exact ⟨by kernel_rfl, by kernel_rfl⟩
end K67
set_option Elab.async false
set_option linter.all false
set_option maxRecDepth 100000
set_option maxHeartbeats 4000000
namespace K67
open PySem PySem.Spec PyProof.Rows L2
variable [TabA]
/-! ### the state: what is frozen, the source's list -/
structure LSt (F H : Hp) (l : Addr) : Prop where
  sm : Same F H
  nt : NoT F
  td : Told F H
  fl : F l = none
  hl : ∃ a b, H l = some (SrcL a b) ∧ Rng a b
theorem upd_id {H : Hp} {l : Addr} {o : HO} (h : H l = some o) : upd H l o = H := by
  funext b
  by_cases q : b = l
  · subst q; rw [upd_same, h]
  · rw [upd_ne q]
theorem Told.upd {F H : Hp} (t : Told F H) {l : Addr} {o o' : HO} (h : H l = some o) (n : NT o) (n' : NT o') : Told F (upd H l o') := by
  have ne : ∀ {p ps}, H p = some (.tbl ps) → p ≠ l := fun {p ps} e z => by subst z; rw [h] at e; cases e; exact n
  refine ⟨fun p ps e => ?_, ?_, ?_⟩
  · by_cases q : p = l
    · subst q; rw [upd_same] at e; cases e; exact n'.elim
    · rw [upd_ne q] at e; exact t.k p ps e
  · obtain ⟨ps, e⟩ := t.h1; exact ⟨ps, by rw [upd_ne (ne e)]; exact e⟩
  · obtain ⟨ps, e⟩ := t.h2; exact ⟨ps, by rw [upd_ne (ne e)]; exact e⟩
theorem LSt.draw {F H : Hp} {l : Addr} (S : LSt F H l) {a b : Int} (hR : Rng a b) : LSt F (upd H l (SrcL a b)) l := by
  obtain ⟨a0, b0, h0, _⟩ := S.hl
  refine ⟨fun x u e => ?_, S.nt, S.td.upd h0 trivial trivial, S.fl, a, b, upd_same, hR⟩
  rw [upd_ne (fun z => by subst z; rw [S.fl] at e; cases e)]
  exact S.sm _ _ e
theorem LSt.grow {F H F' H' : Hp} {l : Addr} (S : LSt F H l) (g : Grow F H F' H') : LSt F' H' l := by
  obtain ⟨a, b, h0, hR⟩ := S.hl
  refine ⟨g.fh, g.nt S.nt, S.td.grow g, ?_, a, b, g.hh.get _ _ h0, hR⟩
  cases q : F' l with
  | none => rfl
  | some o =>
    rcases g.fr l o q with z | z
    · rw [S.fl] at z; cases z
    · rw [h0] at z; cases z
section
variable {P : Program} {w : World} {K : PySem.W.Frag} {mg : Str → Option Value} {base : Heap} {F H : Hp} {f l : Addr} {cl : List (Str × Addr)}
theorem ex_of {E : XK} {i : Nat} {d : PyData} (S : LSt F H l) (hE : ∀ cls dx H1, XO P w K F H l i d cls dx H1 → E cls dx H1) : ExOk P w K F H E i d := fun v q F1 H1 g e n => by
  obtain ⟨a, b, h0, hR⟩ := S.hl
  exact hE _ _ _ ⟨q, v, F1, a, b, rfl, rfl, hR, by rw [upd_id h0]; exact g, e, n⟩
theorem rel0 {ws : List V} {ds : List PyData} {σ : L2.St} {env : En} (S : LSt F H l) (dn : DnAll P w F ws ds) (hσ : σ = ws.map some) (he : env = ds.map SV.fz) : Rel P w F H F H σ env := by
  subst hσ he
  refine rel_from (Grow.refl S.sm) S.nt S.td (by simp [dn.length]) (fun a ha => ?_) fun i a e => ?_
  · obtain ⟨d, _, rfl⟩ := List.mem_map.mp ha
    exact id
  · rw [List.getElem?_map] at e
    cases e1 : ds[i]? with
    | none => rw [e1] at e; cases e
    | some d =>
      rw [e1] at e
      cases e
      obtain ⟨v, e2, n⟩ := dn.at e1
      exact .inr (.inr ⟨d, v, rfl, by rw [List.getElem?_map, e2]; rfl, n⟩)
theorem x_out {E : XK} {Q : VK} {rs : RA} {rf : List PyData → Option Ou} {ws : List V} {ds as : List PyData} {i : Nat} {d : PyData} {σ : L2.St} (S : LSt F H l) (dn : DnAll P w F ws ds) (hσ : σ = ws.map some) (h1 : rs (ds.map SV.fz) = some as) (h2 : rf as = some (.ex i d)) (hE : ∀ cls dx H1, XO P w K F H l i d cls dx H1 → E cls dx H1) :
    ∃ F0 H0 F' env bs o, Rel P w F0 H0 F' H σ env ∧ rs env = some bs ∧ rf bs = some o ∧ OuOk P w K F' H Q E o :=
  ⟨F, H, F, _, as, _, rel0 S dn hσ rfl, h1, h2, ex_of S hE⟩
theorem sc_l (j : Nat) (fr : List Str) (h : NdefX.nscB fr [] fr (lam j).2.2 = true) : NdefX.NScope fr [] fr (lam j).2.2 := NdefX.nscope_by h
theorem lr0 (T : MdT K mg base) (MC : MdC P K mg) (S : LSt F H l) (lm : LamMk F (lam 0) cl f) (C : CellsB base cl [] []) : LRun P w K mg base 10 F H f l 0 (.int 0) :=
  lrun_of (k := 9) (sc_l 0 [] (by decide +kernel)) S.sm lm C (fun _ _ _ _ _ => rfl) fun c' A outer s E hr => ⟨_, pe_fnX (fx_kinds T.toMd MC) (hr.mono (by decide)) (takes_of rfl rfl rfl rfl) (by rfl) (ja_cons je_int ja_nil), fun hE => x_out S .nil rfl rfl ev_k0 hE⟩
theorem lr1 (T : MdT K mg base) (MC : MdC P K mg) (S : LSt F H l) (lm : LamMk F (lam 1) cl f) (C : CellsB base cl [] []) : LRun P w K mg base 10 F H f l 0 (.int 1001) :=
  lrun_of (k := 9) (sc_l 1 [] (by decide +kernel)) S.sm lm C (fun _ _ _ _ _ => rfl) fun c' A outer s E hr => ⟨_, pe_fnX (fx_kinds T.toMd MC) (hr.mono (by decide)) (takes_of rfl rfl rfl rfl) (by rfl) (ja_cons je_int ja_nil), fun hE => x_out S .nil rfl rfl ev_k1001 hE⟩
theorem lr2 (T : MdT K mg base) (MC : MdC P K mg) (S : LSt F H l) (lm : LamMk F (lam 2) cl f) (C : CellsB base cl [] []) : LRun P w K mg base 10 F H f l 0 (.int 41) :=
  lrun_of (k := 9) (sc_l 2 [] (by decide +kernel)) S.sm lm C (fun _ _ _ _ _ => rfl) fun c' A outer s E hr => ⟨_, pe_fnX (fx_tables_count T.toMd MC) (hr.mono (by decide)) (takes_of rfl rfl rfl rfl) (by rfl) (ja_cons je_int ja_nil), fun hE => x_out S .nil rfl rfl ev_t41 hE⟩
theorem lr3 (T : MdT K mg base) (MC : MdC P K mg) (S : LSt F H l) (lm : LamMk F (lam 3) cl f) (C : CellsB base cl [] []) : LRun P w K mg base 10 F H f l 0 (.int 0) :=
  lrun_of (k := 9) (sc_l 3 [] (by decide +kernel)) S.sm lm C (fun _ _ _ _ _ => rfl) fun c' A outer s E hr => ⟨_, pe_fnX (fx_tables_count T.toMd MC) (hr.mono (by decide)) (takes_of rfl rfl rfl rfl) (by rfl) (ja_cons je_int ja_nil), fun hE => x_out S .nil rfl rfl ev_t0 hE⟩
theorem lr4 (T : MdT K mg base) (MC : MdC P K mg) (S : LSt F H l) (lm : LamMk F (lam 4) cl f) (C : CellsB base cl [] []) : LRun P w K mg base 10 F H f l 0 .none :=
  lrun_of (k := 9) (sc_l 4 [] (by decide +kernel)) S.sm lm C (fun _ _ _ _ _ => rfl) fun c' A outer s E hr => ⟨_, pe_fnX (fx_kinds T.toMd MC) (hr.mono (by decide)) (takes_of rfl rfl rfl rfl) (by rfl) (ja_cons je_non ja_nil), fun hE => x_out S .nil rfl rfl ev_kN hE⟩
theorem lr5 (T : MdT K mg base) (MC : MdC P K mg) (S : LSt F H l) (lm : LamMk F (lam 5) cl f) (C : CellsB base cl [] []) : LRun P w K mg base 10 F H f l 2 (.int 13) :=
  lrun_of (k := 9) (sc_l 5 [] (by decide +kernel)) S.sm lm C (fun _ _ _ _ _ => rfl) fun c' A outer s E hr => ⟨_, pe_fnX (fx_table_of_clocks' T MC) (hr.mono (by decide)) (takes_of rfl rfl rfl rfl) (by rfl) (ja_cons (je_tup (ja_cons je_int ja_nil)) ja_nil), fun hE => x_out S .nil rfl rfl ev_c13 hE⟩
theorem lr6 (T : MdT K mg base) (MC : MdC P K mg) (S : LSt F H l) (lm : LamMk F (lam 6) cl f) (C : CellsB base cl [] []) : LRun P w K mg base 10 F H f l 2 (.int 16) :=
  lrun_of (k := 9) (sc_l 6 [] (by decide +kernel)) S.sm lm C (fun _ _ _ _ _ => rfl) fun c' A outer s E hr => ⟨_, pe_fnX (fx_table_of_clocks' T MC) (hr.mono (by decide)) (takes_of rfl rfl rfl rfl) (by rfl) (ja_cons (je_tup (ja_cons je_int (ja_cons je_int (ja_cons je_int ja_nil)))) ja_nil), fun hE => x_out S .nil rfl rfl ev_c224 hE⟩
theorem lr11 (T : MdT K mg base) (MC : MdC P K mg) (S : LSt F H l) (lm : LamMk F (lam 11) cl f) (C : CellsB base cl [] []) : LRun P w K mg base 10 F H f l 1 (.int 1) :=
  lrun_of (k := 9) (sc_l 11 [] (by decide +kernel)) S.sm lm C (fun _ _ _ _ _ => rfl) fun c' A outer s E hr => ⟨_, pe_fnX (fx_table_of_clocks' T MC) (hr.mono (by decide)) (takes_of rfl rfl rfl rfl) (by rfl) (ja_cons (je_tup (ja_cons je_int (ja_cons je_int ja_nil))) ja_nil), fun hE => x_out S .nil rfl rfl ev_c42 hE⟩
theorem lr12 (T : MdT K mg base) (MC : MdC P K mg) (S : LSt F H l) (lm : LamMk F (lam 12) cl f) (C : CellsB base cl [] []) : LRun P w K mg base 10 F H f l 1 (.int 1) :=
  lrun_of (k := 9) (sc_l 12 [] (by decide +kernel)) S.sm lm C (fun _ _ _ _ _ => rfl) fun c' A outer s E hr => ⟨_, pe_fnX (fx_made_clocks T.toMd MC) (hr.mono (by decide)) (takes_of rfl rfl rfl rfl) (by rfl) (ja_cons (je_tup (ja_cons je_int (ja_cons je_int ja_nil))) ja_nil), fun hE => x_out S .nil rfl rfl ev_m32 hE⟩
theorem lr9 {n : Nat} {o : PyData} {vb : V} (hn : n < 3) (ho : o ∈ oddD) (hb : Dn P w F vb (badD n o)) (T : MdT K mg base) (MC : MdC P K mg) (S : LSt F H l) (lm : LamMk F (lam 9) cl f) (C : CellsB base cl ["_law_bad"] [some vb]) : LRun P w K mg base 10 F H f l 1 (.int (n : Int)) :=
  lrun_of (k := 9) (sc_l 9 ["_law_bad"] (by decide +kernel)) S.sm lm C (fun _ _ _ _ _ => rfl) fun c' A outer s E hr => ⟨_, pe_fnX (fx_made_clocks T.toMd MC) (hr.mono (by decide)) (takes_of rfl rfl rfl rfl) (by rfl) (ja_cons (je_var 0) ja_nil), fun hE => x_out S (.cons hb .nil) rfl rfl (ev_bad n o hn ho).1 hE⟩
theorem lr10 {n : Nat} {o : PyData} {vb : V} (hn : n < 3) (ho : o ∈ oddD) (hb : Dn P w F vb (badD n o)) (T : MdT K mg base) (MC : MdC P K mg) (S : LSt F H l) (lm : LamMk F (lam 10) cl f) (C : CellsB base cl ["_law_bad"] [some vb]) : LRun P w K mg base 10 F H f l 1 (.int (n : Int)) :=
  lrun_of (k := 9) (sc_l 10 ["_law_bad"] (by decide +kernel)) S.sm lm C (fun _ _ _ _ _ => rfl) fun c' A outer s E hr => ⟨_, pe_fnX (fx_self_turnings T.toMd MC) (hr.mono (by decide)) (takes_of rfl rfl rfl rfl) (by rfl) (ja_cons (je_var 0) ja_nil), fun hE => x_out S (.cons hb .nil) rfl rfl (ev_bad n o hn ho).2 hE⟩
theorem lr13 (T : MdT K mg base) (MC : MdC P K mg) (S : LSt F H l) (lm : LamMk F (lam 13) cl f) (C : CellsB base cl ["_law_source"] [some (.ref l)]) : LRun P w K mg base 10 F H f l 1 (.int (-1)) := by
  obtain ⟨g, gd, gps, G, gm, gk, gb⟩ := fs_one (P := P) (w := w) T.toMd
  obtain ⟨m, md, mps, Mc, mm, mk, mb⟩ := fx_made_clocks (w := w) T.toMd MC
  refine lrun_of (k := 9) (sc_l 13 ["_law_source"] (by decide +kernel)) S.sm lm C (fun _ _ _ _ _ => rfl) fun c' A outer s E hr => ⟨_, pe_call Mc (hr.mono (by decide)) (by rfl) mm mk mb .nil (passes_call (E := E) (takes_of rfl rfl rfl rfl) fun _ _ _ _ h => h)
    (pa_cons (pe_call G (hr.mono (by decide)) (by rfl) gm gk gb .nil pass0 (pa_cons (pe_var (i := 0) rfl (Or.inr (Or.inr rfl))) (pa_cons (pe_lst (pa_cons pe_non (pa_cons pe_int (pa_cons pe_str pa_nil)))) pa_nil))) pa_nil), fun hE => ?_⟩
  obtain ⟨a, b, h0, hR⟩ := S.hl
  refine ⟨_, rfl, (by show 3 ≤ sizeLine; decide), fun p np => ?_⟩
  have pl : p ≠ l := fun z => by subst z; rw [np] at h0; cases h0
  refine ⟨l, p, _, a, b, rfl, by rw [upd_ne (Ne.symm pl)]; exact h0, upd_same, pl, by show 0 < 3; decide, by show 3 < 1000; decide, hR, fun i x a' b' hx hR' => ?_⟩
  have S1 := S.draw hR'
  have e : upd (upd H p (.lst [V.non, .int 4, .str "24"])) l (SrcL a' b') = upd (upd H l (SrcL a' b')) p (.lst [V.non, .int 4, .str "24"]) := by
    funext c
    by_cases q : c = l
    · subst q; rw [upd_same, upd_ne (Ne.symm pl), upd_same]
    · rw [upd_ne q]
      by_cases q2 : c = p
      · subst q2; rw [upd_same, upd_same]
      · rw [upd_ne q2, upd_ne q2, upd_ne q]
  have np2 : upd H l (SrcL a' b') p = none := by rw [upd_ne pl]; exact np
  have g0 : Grow F (upd H l (SrcL a' b')) F (upd (upd H l (SrcL a' b')) p (.lst [V.non, .int 4, .str "24"])) := Grow.more S1.sm np2
  rw [e]
  have S2 := S1.grow g0
  have hx : x = .non ∨ x = .int 4 ∨ x = .str "24" := by
    have hx := List.mem_of_getElem? hx
    simpa using hx
  have fin : ∀ d, Dn P w F x d → rx_made_clocks [d] = some (.ex 1 (.int (-1))) → spX P w K 1 rx_made_clocks ([x] ++ []) (upd (upd H l (SrcL a' b')) p (.lst [V.non, .int 4, .str "24"])) (fun _ _ => False) E := fun d dn ev =>
    ⟨F, [d], _, S2.sm, S2.nt, S2.td, .cons dn .nil, rfl, ev, fun v q F1 H1 g he hn => hE _ _ _ ⟨q, v, F1, a', b', rfl, rfl, hR', g0.trans g, he, hn⟩⟩
  rcases hx with rfl | rfl | rfl
  · exact fin .none .non ev_mN
  · exact fin _ (.int 4) ev_m4
  · exact fin _ (.str _) ev_m24
end
end K67
set_option Elab.async false
set_option linter.all false
set_option maxRecDepth 100000
set_option maxHeartbeats 4000000
namespace K67
open PySem PySem.Spec PyProof.Rows L2
variable [TabA]
/-! ### _law_heard -/
def wordS : Nat → Str
  | 0 => "many"
  | 1 => "clocks"
  | _ => "too many"
/-- what is known of the classes, for the one who hears -/
structure MdH (P : Program) (K : PySem.W.Frag) (mg : Str → Option Value) : Prop extends MdC P K mg where
  xf : ∀ i, i < 3 → XfC K (ca K i)
  no : ∀ i, i < 3 → PySem.W.findIn K (.ref (ca K i)) "what" = some none
  e00 : PySem.W.exmOne K (.ref (ca K 0)) (.ref (ca K 0)) = some true
  e10 : PySem.W.exmOne K (.ref (ca K 1)) (.ref (ca K 0)) = some false
  e11 : PySem.W.exmOne K (.ref (ca K 1)) (.ref (ca K 1)) = some true
  e20 : PySem.W.exmOne K (.ref (ca K 2)) (.ref (ca K 0)) = some false
  e21 : PySem.W.exmOne K (.ref (ca K 2)) (.ref (ca K 1)) = some false
  e22 : PySem.W.exmOne K (.ref (ca K 2)) (.ref (ca K 2)) = some true
  g0 : mg "BadMany" = some (.ref (ca K 0))
  g1 : mg "BadClocks" = some (.ref (ca K 1))
  g2 : mg "TooMany" = some (.ref (ca K 2))
  g3 : ∃ c, mg "Refused" = some (.ref c)
/-- the call of what was handed in -/
def tAct (P : Program) (w : World) (K : PySem.W.Frag) (mg : Str → Option Value) (base : Heap) (k : Nat) (W : WX) (i : Nat) : TE := fun σ H _ => ∃ (f : Addr) (e : LamE) (cl : List (Str × Addr)) (pm : Value) (c' : Addr) (ctv : Value) (E : XK), σ[i]? = some (some (.ref f)) ∧ H f = some (.frz (lamO2 e cl pm c' ctv) (.own 0)) ∧
  (∀ (A : Around) (outer : List Env) (s : Shared), Room k A → Env0 P w K mg base A outer s H → codeAny (model P w) A (.call (.ref f) ⟨[], []⟩) (CR (L2.CX P w) outer P w H s (fun _ _ => False) E) s) ∧ ∀ cls d H', E cls d H' → W cls d σ H'
theorem pe_actH {Y : Cx} {W : WX} {k i : Nat} {a : Str} {p1 p2 : Pos} (tk : Takes Y W) (hr : Room k Y.A) (hN : Y.N[i]? = some a) (hv : Vis Y.env.scope a) (hd : (a == ("__debug__" : Str)) = false := by decide) (hcd : (a == ("__classdict__" : Str)) = false := by decide) :
    PE Y (.Call (.Name a p1) [] [] p2) (tAct Y.prog Y.w Y.K Y.mg Y.base k W i) := by
  refine ⟨fun pins s σ H Q I h => ?_⟩
  obtain ⟨f, e, cl, pm, c', ctv, E, hs, hf, run, hW⟩ := h
  refine wpAny_Call_Name_kw (thn ((pe_var (pos := p1) hN hv hd hcd).run pins s σ H (fun v H1 => v = .ref f ∧ H1 = H) I ⟨.ref f, hs, rfl, rfl⟩) fun u s1 ⟨v, H1, I1, r1, q1⟩ => ?_)
  obtain ⟨rfl, rfl⟩ := q1
  obtain rfl : u = Value.ref f := r1
  refine PySem.W.callWith_F0 ⟨_, _, _, _, (show ObjOk Y.prog Y.w _ _ f (.frz (lamO2 e cl pm c' ctv) (.own 0)) from I1.hok f _ hf).1⟩ ?_
  show wpAny _ _ (call (.ref f) []) _ _ _
  refine wpAny_call (codeAny_mono (run Y.A Y.stack s1 hr I1.env0) fun r s' hq => ?_)
  cases r with
  | error e => exact tk e s' (XE.of_call I1 (fun cls d H' h => hW cls d H' h) hq)
  | ok fl =>
    cases fl with
    | ret u =>
      obtain ⟨_, _, _, _, _, _, _, z⟩ := hq
      exact z.elim
    | next => exact False.elim hq
    | brk => exact False.elim hq
    | cont => exact False.elim hq
abbrev N_law_heard : List PySem.Str := ["_law_call", "error"]
theorem sc_law_heard : FnScope N_law_heard ["_law_call"] (defScope s_law_heard) := ⟨rfl, rfl, rfl, by decide +kernel, rfl, by decide +kernel, by decide +kernel⟩
def spHeard (P : Program) (w : World) (K : PySem.W.Frag) (mg : Str → Option Value) (base : Heap) (k : Nat) : Sp := fun vs H Q _ => ∃ F l f i d, vs = [.ref f] ∧ LSt F H l ∧ (∃ e cl, LamMk F e cl f) ∧ i < 3 ∧ LRun P w K mg base k F H f l i d ∧
  ∀ u F' H' a b, Rng a b → Grow F (upd H l (SrcL a b)) F' H' → Dn P w F' u (.tuple [.str (wordS i), d]) → Q u H'
theorem fs_heard {P : Program} {w : World} {K : PySem.W.Frag} {mg : Str → Option Value} {base : Heap} (M : Md K mg base) (MH : MdH P K mg) : FnS P w K mg base "_law_heard" 11 (spHeard P w K mg base 10) := by
  obtain ⟨fd, F⟩ := M.c.def_ 57 (d := d_law_heard) rfl
  obtain ⟨cR, gR⟩ := MH.g3
  refine ⟨_, fd, ["_law_call"], F.ok sc_law_heard (fun vs H Q E h => (by obtain ⟨_, _, _, _, _, rfl, _⟩ := h; rfl)) fun cdv A outer s0 H vs Q E hr h => ⟨_,
    pss_one (ps_try_all (i := 1) (n := "error") (l := [(.ref (ca K 0), _), (.ref (ca K 1), _), (.ref (ca K 2), _), (.ref cR, fun _ _ _ => tNever)]) rfl rfl sc_law_heard.nd rfl rfl
      (fun W pn xe tk hp => pss_one (ps_ret (pe_tupF (pa_cons pe_str (pa_cons (show PE _ _ (tAct P w K mg base 10 W 0) from pe_actH (k := 10) (i := 0) tk hr rfl (Or.inl rfl)) pa_nil)))))
      (.cons ⟨rfl, by decide, .inl MH.g0⟩ (fun a oe cls d pn hz hf => pss_one (ps_ret (pe_tupF (pa_cons pe_str (pa_cons (pe_xf (C := ca K 0) (MH.xf 0 (by decide)) (MH.no 0 (by decide)) hz hf (pe_var (i := 1) rfl (Or.inl rfl))) pa_nil)))))
      (.cons ⟨rfl, by decide, .inl MH.g1⟩ (fun a oe cls d pn hz hf => pss_one (ps_ret (pe_tupF (pa_cons pe_str (pa_cons (pe_xf (C := ca K 1) (MH.xf 1 (by decide)) (MH.no 1 (by decide)) hz hf (pe_var (i := 1) rfl (Or.inl rfl))) pa_nil)))))
      (.cons ⟨rfl, by decide, .inl MH.g2⟩ (fun a oe cls d pn hz hf => pss_one (ps_ret (pe_tupF (pa_cons pe_str (pa_cons (pe_xf (C := ca K 2) (MH.xf 2 (by decide)) (MH.no 2 (by decide)) hz hf (pe_var (i := 1) rfl (Or.inl rfl))) pa_nil)))))
      (.cons ⟨rfl, by decide, .inl gR⟩ (fun a oe cls d pn hz hf => pss_one ps_never) .nil))))), ?_⟩, M.glo 57 rfl, F.kp, F.bindsN (fun _ _ _ _ _ _ us hl => match us, hl with | [_], _ => rfl)⟩
  obtain ⟨F, l, f, i, d, rfl, S, lm, hi, run, q⟩ := h
  obtain ⟨e, cl, c', pm, ctv, hf, _⟩ := lm
  refine ⟨f, e, cl, pm, c', ctv, XO P w K F H l i d, rfl, S.sm _ _ hf, fun A outer s hr e0 => run A outer s _ hr e0 fun _ _ _ h => h, ?_⟩
  rintro cls dx H1 ⟨x, v, F1, a, b, rfl, rfl, hR, g, hx, hn⟩
  have go : ∀ (wd : Str), wd = wordS i → ∀ ea, H1 ea = none → (tTupF (tCons (tC (.str wd)) (tCons (tXf ea (.ref (ca K i)) (some x) (ca K i) "what" (tVar 1)) tNil))) ([some (.ref f), none].set 1 (some (.ref ea))) H1 Q := by
    intro wd ew ea na
    subst ew
    refine ⟨.ref ea, rfl, rfl, rfl, x, _, v, rfl, hx, rfl, (by show 2 ≤ sizeLine; decide), fun p us np => ?_⟩
    have g1 : Grow F1 H1 (upd F1 p (tF us [.str (wordS i), v])) (upd H1 p (tF us [.str (wordS i), v])) := Grow.new g.fh np
    exact q _ _ _ a b hR (g.trans g1) (.tup upd_same (.cons (.str _) (.cons (hn.mono g1.ff) .nil)))
  have h3 : i = 0 ∨ i = 1 ∨ i = 2 := by omega
  rcases h3 with rfl | rfl | rfl
  · exact ⟨true, MH.e00, fun _ ea na => go _ rfl ea na, fun z => nomatch z⟩
  · exact ⟨false, MH.e10, (fun z => nomatch z), fun _ => ⟨true, MH.e11, fun _ ea na => go _ rfl ea na, fun z => nomatch z⟩⟩
  · exact ⟨false, MH.e20, (fun z => nomatch z), fun _ => ⟨false, MH.e21, (fun z => nomatch z), fun _ => ⟨true, MH.e22, fun _ ea na => go _ rfl ea na, fun z => nomatch z⟩⟩⟩
end K67
set_option Elab.async false
set_option linter.all false
set_option maxRecDepth 100000
set_option maxHeartbeats 4000000
namespace K67
open PySem PySem.Spec PyProof.Rows L2
variable [TabA]
/-! ### the base, with the running frame's cells -/
theorem lookup_snd : ∀ {cl : List (Str × Addr)} {y : Str} {c : Addr}, cl.lookup y = some c → c ∈ cl.map (·.2) := fun {cl y c} h => List.mem_map.mpr ⟨(y, c), PySem.mem_of_lookup h, rfl⟩
theorem Md.keeps {K : PySem.W.Frag} {mg : Str → Option Value} {base base' : Heap} (M : Md K mg base) (k : ∀ b o, base.get? b = some o → base'.get? b = some o) : Md K mg base' := ⟨M.kin.keeps k, M.g.keeps k, M.c⟩
theorem tabB_keeps {mg : Str → Option Value} {base base' : Heap} {c p : Addr} (T : LamX.TabB base mg c p) (k : ∀ b o, base.get? b = some o → base'.get? b = some o) : LamX.TabB base' mg c p := ⟨T.code.keeps k, T.bm.keeps k, T.gP⟩
theorem MdT.keeps {K : PySem.W.Frag} {mg : Str → Option Value} {base base' : Heap} (M : MdT K mg base) (k : ∀ b o, base.get? b = some o → base'.get? b = some o) : MdT K mg base' := by
  obtain ⟨c1, t1, h1⟩ := M.tb1
  obtain ⟨c2, t2, h2⟩ := M.tb2
  exact ⟨M.toMd.keeps k, ⟨c1, tabB_keeps t1 k, h1⟩, ⟨c2, tabB_keeps t2 k, h2⟩⟩
section
variable {Y : Cx} {pins : List (Addr × Obj)} {σ : L2.St} {H : Hp} {s : Shared}
theorem base_with (I : Inv Y pins σ H s) (cs : List Addr) (free : ∀ c ∈ cs, H c = none) (nf : ∀ c ∈ cs, c ∉ frs Y.stack) :
    ∃ base', Env0 Y.prog Y.w Y.K Y.mg base' Y.A Y.stack s H ∧ (∀ b o, Y.base.get? b = some o → base'.get? b = some o) ∧ ∀ c ∈ cs, ∀ o, s.heap.get? c = some o → base'.get? c = some o := by
  obtain ⟨away, hm⟩ : ∃ away : List Addr, ∀ b, b ∈ away ↔ b < s.heap.objs.size ∧ (Y.base.get? b).isSome = false ∧ b ∉ cs :=
    ⟨(List.range s.heap.objs.size).filter fun b => !(Y.base.get? b).isSome && !decide (b ∈ cs), fun b => by simp [List.mem_filter, and_assoc]⟩
  have e := I.env0
  have up : ∀ b o, Y.base.get? b = some o → (PySem.W.hideAll s.heap away).get? b = some o := fun b o h => PySem.W.hideAll_get away (I.bk b o h) fun z => by
    have := ((hm b).mp z).2.1
    rw [h] at this; cases this
  have of_ : ∀ b o, (PySem.W.hideAll s.heap away).get? b = some o → s.heap.get? b = some o ∧ ((Y.base.get? b).isSome = true ∨ b ∈ cs) := fun b o h => by
    have h1 := PySem.W.of_hideAll away h
    refine ⟨h1, ?_⟩
    by_cases q1 : (Y.base.get? b).isSome = true
    · exact .inl q1
    · by_cases q2 : b ∈ cs
      · exact .inr q2
      · have z := PySem.W.hideAll_none away (h := s.heap) ((hm b).mpr ⟨Heap.lt_size h1, by simpa using q1, q2⟩)
        rw [h] at z; cases z
  refine ⟨PySem.W.hideAll s.heap away, ⟨e.frames, ⟨I.mod.kin.keeps up, I.mod.glob.keeps up, ?_, I.mod.nolimit.keeps up⟩, fun b o h => ?_, by rw [PySem.W.hideAll_size]; exact Nat.le_refl _, funFrames_none I.stack fun L hL => ?_, e.frf, e.hok, e.bare⟩, up, fun c hc o h => PySem.W.hideAll_get away h fun z => ((hm c).mp z).2.2 hc⟩
  · obtain ⟨mb, h1, h2⟩ := I.mod.blt
    exact ⟨mb, h1.keeps up, h2⟩
  · obtain ⟨h1, h2⟩ := of_ b o h
    refine ⟨h1, ?_⟩
    rcases h2 with q | q
    · obtain ⟨o', q⟩ := Option.isSome_iff_exists.mp q
      exact (I.bs b o' q).2
    · exact free b q
  · cases q : (PySem.W.hideAll s.heap away).get? L with
    | none => rfl
    | some o =>
      rcases (of_ L o q).2 with z | z
      · obtain ⟨o', z⟩ := Option.isSome_iff_exists.mp z
        rw [(I.stack.mem hL).1] at z; cases z
      · exact absurd hL (nf L z)
end
/-- a base in which all of it can be told -/
structure BaseOk (K : PySem.W.Frag) (mg : Str → Option Value) (cl : List (Str × Addr)) (fr : List Str) (ws : List (Option V)) (base : Heap) : Prop where
  T : MdT K mg base
  C : CellsB base cl fr ws
def tHB (P : Program) (w : World) (K : PySem.W.Frag) (mg : Str → Option Value) (cl : List (Str × Addr)) (fr : List Str) (ws : List (Option V)) (ta : TA) : TE := fun σ H Q => ta σ H fun vs H1 => ∀ base, BaseOk K mg cl fr ws base → spHeard P w K mg base 10 vs H1 Q E0
theorem pe_heardB {Y : Cx} {cl : List (Str × Addr)} {fr : List Str} {ws : List (Option V)} {e : Expr} {p pos : Pos} {ta : TA} (T : MdT Y.K Y.mg Y.base) (MH : MdH Y.prog Y.K Y.mg) (hr : Room 11 Y.A) (hg : Gl Y "_law_heard")
    (hc : ∀ pins σ H s, Inv Y pins σ H s → NdefX.CellsAt cl fr ws s.heap H ∧ ∀ y c, cl.lookup y = some c → c ∉ frs Y.stack) (hcl : ∀ q ∈ cl, cl.lookup q.1 = some q.2) (ha : PA Y [e] ta)
    (he : starEach [e] Y.env = (false, eval e Y.env) :: starEach [] Y.env := by rfl) (hpl : (backTo pos (starEach [] Y.env)).any (·.1) = false := by rfl) :
    PE Y (.Call (.Name "_law_heard" p) [e] [] pos) (tHB Y.prog Y.w Y.K Y.mg cl fr ws ta) := by
  obtain ⟨f, fd0, ps0, G0, hm, hk, hb0⟩ := fs_heard (P := Y.prog) (w := Y.w) T.toMd MH
  refine ⟨fun pins s σ H Q I h => ?_⟩
  refine wpAny_Call_Name_kw (ld_glob I hg hm ?_ (by decide))
  refine PySem.W.callWith_K (h₀ := Y.base) I.ok.mod.kin hk (thn (ha.run pos pins s σ H _ I h) fun us s1 ⟨vs, H1, I1, r, q⟩ => ⟨I1.kIn, ?_⟩) he hpl
  obtain ⟨C, nf⟩ := hc pins σ H1 s1 I1
  obtain ⟨base', e0, up, cs⟩ := base_with I1 (cl.map (·.2)) (fun c hc => by
    obtain ⟨q, hq, rfl⟩ := List.mem_map.mp hc
    exact (C.all _ _ (hcl q hq)).1) (fun c hc => by
    obtain ⟨q, hq, rfl⟩ := List.mem_map.mp hc
    exact nf _ _ (hcl q hq))
  have dn : ∀ {y c v}, cl.lookup y = some c → s1.heap.IsCell c v → base'.IsCell c v := fun {y c v} h ⟨o, ho, hd⟩ => ⟨o, cs c (lookup_snd h) o ho, hd⟩
  have B : BaseOk Y.K Y.mg cl fr ws base' := ⟨T.keeps up, ⟨C.len, fun y c h => let ⟨v, z⟩ := (C.all y c h).2; ⟨v, dn h z⟩, C.inj, fun i y h => let ⟨c, h1, h2⟩ := C.has i y h; ⟨c, h1, fun v hv => let ⟨u, ru, z⟩ := h2 v hv; ⟨u, ru, dn h1 z⟩⟩⟩⟩
  obtain ⟨f', fd, ps, G, hm', _, hb⟩ := fs_heard (P := Y.prog) (w := Y.w) B.T.toMd MH
  rw [hm] at hm'
  cases hm'
  have hsp := q base' B
  have hl : us.length = ps.length := by rw [← r.length]; exact G.len _ _ _ _ hsp
  have hbb := hb s1 us I1.kIn (by rw [List.append_nil]; exact hl)
  rw [List.append_nil] at hbb
  refine wpAny_call (codeAny_mono (G.run Y.A Y.stack s1 H1 ⟨us, []⟩ us vs Q E0 hr e0 hbb r hsp) fun r s' hq => ?_)
  cases r with
  | error e => exact False.elim hq
  | ok fl =>
    cases fl with
    | ret u => exact I1.after hq
    | next => exact False.elim hq
    | brk => exact False.elim hq
    | cont => exact False.elim hq
end K67
set_option Elab.async false
set_option linter.all false
set_option maxRecDepth 100000
set_option maxHeartbeats 4000000
namespace K67
open PySem PySem.Spec PyProof.Rows L2
variable [TabA]
/-! ### the rows are heard -/
abbrev N_rr : List PySem.Str := ["_law_source", "_law_rows", "_law_at", "_law_odd", "_law_bad", "_law_row"]
abbrev sc_rr : Scope := defScope s_law_refused_right
theorem scN_rr : FnScope N_rr ["_law_source"] sc_rr := ⟨rfl, rfl, rfl, by decide +kernel, rfl, by decide +kernel, by decide +kernel⟩
abbrev XR (P : Program) (w : World) (K : PySem.W.Frag) (mg : Str → Option Value) (base : Heap) (f : Addr) (cdv : Value) (A : Around) (outer : List Env) (s0 : Shared) (H : Hp) (E : XK) : Cx := cxOf CX0 P w K mg base N_rr "_law_refused_right" sc_rr f cdv A outer s0 H E
abbrev fr2 : List Str := ["_law_bad", "_law_source"]
abbrev cl2 (c1 c2 : Addr) : List (Str × Addr) := [("_law_bad", c1), ("_law_source", c2)]
/-- a row that is right -/
def RowRun (P : Program) (w : World) (K : PySem.W.Frag) (mg : Str → Option Value) (cl : List (Str × Addr)) (ws : List (Option V)) (l : Addr) (F : Hp) (v : V) : Prop :=
  ∃ p us f t e cl' i d, v = .ref p ∧ F p = some (tF us [.ref f, t]) ∧ LamMk F e cl' f ∧ i < 3 ∧ Dn P w F t (.tuple [.str (wordS i), d]) ∧ fits 6 (.tuple [.str (wordS i), d]) = true ∧ PyData.eqv (.tuple [.str (wordS i), d]) (.tuple [.str (wordS i), d]) = true ∧
    ∀ F' H' base, Same F F' → LSt F' H' l → BaseOk K mg cl fr2 ws base → LRun P w K mg base 10 F' H' f l i d
theorem RowRun.mono {P : Program} {w : World} {K : PySem.W.Frag} {mg : Str → Option Value} {cl : List (Str × Addr)} {ws : List (Option V)} {l : Addr} {F F' : Hp} {v : V} (s : Same F F') (h : RowRun P w K mg cl ws l F v) : RowRun P w K mg cl ws l F' v := by
  obtain ⟨p, us, f, t, e, cl', i, d, h1, h2, h3, h4, h5, h6, h7, h8⟩ := h
  exact ⟨p, us, f, t, e, cl', i, d, h1, s _ _ h2, h3.mono s, h4, h5.mono s, h6, h7, fun F2 H2 b s2 => h8 F2 H2 b (s.trans s2)⟩
/-- the rows stand in their list at R -/
structure RSt (F H : Hp) (l R : Addr) (vs : List V) : Prop where
  S : LSt F H l
  fr : F R = none
  hr : H R = some (.lst vs)
theorem RSt.ne {F H : Hp} {l R : Addr} {vs : List V} (h : RSt F H l R vs) (hne : ∀ a b, vs ≠ [V.int a, V.int b]) : R ≠ l := fun z => by
  obtain ⟨a, b, e, _⟩ := h.S.hl
  rw [← z, h.hr] at e
  have e := HO.lst.inj (Option.some.inj e)
  exact hne a b e
theorem own_free {F H F' H' : Hp} {a : Addr} {o : HO} (g : Grow F H F' H') (f : F a = none) (h : H a = some o) : F' a = none := by
  cases q : F' a with
  | none => rfl
  | some u =>
    rcases g.fr a u q with z | z
    · rw [f] at z; cases z
    · rw [h] at z; cases z
theorem RSt.grow {F H F' H' : Hp} {l R : Addr} {vs : List V} (h : RSt F H l R vs) (g : Grow F H F' H') : RSt F' H' l R vs := ⟨h.S.grow g, own_free g h.fr h.hr, g.hh.get _ _ h.hr⟩
theorem RSt.draw {F H : Hp} {l R : Addr} {vs : List V} (h : RSt F H l R vs) (ne : R ≠ l) {a b : Int} (hR : Rng a b) : RSt F (upd H l (SrcL a b)) l R vs := ⟨h.S.draw hR, h.fr, by rw [upd_ne ne]; exact h.hr⟩
def compE : Expr := match rowStmt 14 with
  | .Return (some (.Compare e _ _ _)) _ => e
  | _ => .Name "x" ⟨0, 0, 0, 0⟩
/-- its reading: nothing is left -/
def tComp (P : Program) (w : World) (K : PySem.W.Frag) (mg : Str → Option Value) (cells : List (Str × Addr)) : TE := fun σ H Q => ∃ F l R vs vb, RSt F H l R vs ∧ R ≠ l ∧ vs.length < 1000 ∧ σ[0]? = some (some (.ref l)) ∧ σ[1]? = some (some (.ref R)) ∧ σ[4]? = some (some vb) ∧ σ.length = 6 ∧
  (∀ c1 c2, cells.lookup ("_law_bad" : Str) = some c1 → cells.lookup ("_law_source" : Str) = some c2 → ∀ v ∈ vs, RowRun P w K mg (cl2 c1 c2) [some vb, some (.ref l)] l F v) ∧ ∀ D H', H' D = some (.lst []) → Q (.ref D) H'
section
variable {P : Program} {w : World} {K : PySem.W.Frag} {mg : Str → Option Value} {base : Heap} {f : Addr} {cdv : Value} {A : Around} {outer : List Env} {s0 : Shared} {H0 : Hp} {E : XK}
theorem cl2_sub {c1 c2 : Addr} {y : Str} {c : Addr} (h : (cl2 c1 c2).lookup y = some c) : (y = "_law_bad" ∧ c = c1) ∨ (y = "_law_source" ∧ c = c2) := by
  unfold cl2 at h
  simp only [List.lookup] at h
  split at h
  · rename_i q
    cases h
    exact .inl ⟨beq_iff_eq.mp q, rfl⟩
  · split at h
    · rename_i q
      cases h
      exact .inr ⟨beq_iff_eq.mp q, rfl⟩
    · cases h
theorem cl2_1 {c1 c2 : Addr} : (cl2 c1 c2).lookup ("_law_bad" : Str) = some c1 := by
  unfold cl2
  rw [List.lookup_cons]
  simp
theorem cl2_2 {c1 c2 : Addr} : (cl2 c1 c2).lookup ("_law_source" : Str) = some c2 := by
  unfold cl2
  rw [List.lookup_cons, show (("_law_source" : Str) == "_law_bad") = false by decide, List.lookup_cons]
  simp
theorem pe_comp (T : MdT K mg base) (MH : MdH P K mg) (hr : Room 11 (A.deeper (envOfC "_law_refused_right" sc_rr s0.heap.objs.size f cdv))) : PE (XR P w K mg base f cdv A outer s0 H0 E) compE (tComp P w K mg (XR P w K mg base f cdv A outer s0 H0 E).env.cells) := by
  refine ⟨fun pins s σ H Q I h => ?_⟩
  obtain ⟨F, l, R, vs, vb, S, ne, hz, e0, e1, e4, el, rows, k⟩ := h
  obtain ⟨c1, k1⟩ := I.ok.has ("_law_bad" : Str) (.inl rfl)
  obtain ⟨c2, k2⟩ := I.ok.has ("_law_source" : Str) (.inl rfl)
  have rows := rows c1 c2 k1 k2
  have kk : ∀ {y c}, (cl2 c1 c2).lookup y = some c → (XR P w K mg base f cdv A outer s0 H0 E).env.cells.lookup y = some c := fun {y c} h => by
    rcases cl2_sub h with ⟨rfl, rfl⟩ | ⟨rfl, rfl⟩
    · exact k1
    · exact k2
  have caps : NdefX.Caps (XR P w K mg base f cdv A outer s0 H0 E) (cl2 c1 c2) fr2 [4, 0] := by
    refine ⟨fun y c h => kk h, fun y hy => ?_, fun y hy c hc => ?_, rfl⟩
    · rcases List.mem_cons.mp hy with rfl | hy
      · exact .inl rfl
      · rcases List.mem_cons.mp hy with rfl | hy
        · exact .inl rfl
        · cases hy
    · rcases List.mem_cons.mp hy with rfl | hy
      · rw [k1] at hc; cases hc; exact cl2_1
      · rcases List.mem_cons.mp hy with rfl | hy
        · rw [k2] at hc; cases hc; exact cl2_2
        · cases hy
  have ew : [4, 0].map (NdefX.slotAt σ) = [some vb, some (.ref l)] := by
    simp [NdefX.slotAt, e4, e0]
  have nfs : ∀ {pins σ H s}, Inv (XR P w K mg base f cdv A outer s0 H0 E) pins σ H s → ∀ y c, (cl2 c1 c2).lookup y = some c → c ∉ frs (XR P w K mg base f cdv A outer s0 H0 E).stack := fun {pins σ H s} I y c h z => by
    rcases List.mem_cons.mp (I.stkSub c z) with q | q
    · exact I.cne y c (kk h) q
    · obtain ⟨_, o, ho, _⟩ := I.ok.funs.mem q
      exact absurd (Nat.lt_of_lt_of_le (Heap.lt_size ho) (I.ok.cab y c rfl (kk h))) (Nat.lt_irrefl _)
  refine lcn_run (gt := gName 5) (tt := tTest (tOp (rNeD K) (tHB P w K mg (cl2 c1 c2) fr2 [some vb, some (.ref l)] (tCons (tOp (rIxT K) (tVar 5) (tC (.int 0))) tNil)) (tOp (rIxT K) (tVar 5) (tC (.int 1))))) (own := [("_law_row", 5)]) (wsrc := iList K (tVar 1)) rfl scN_rr.nd I (pi_list (pe_var (i := 1) rfl (Or.inl rfl))) (blkOk_by (own := [("_law_row", 5)]) (N := N_rr) (sc := sc_rr) (by decide +kernel)) (fun s1 G1 C cl its I1 hfp => ⟨pg_name (i := 5) scN_rr.nd rfl (Or.inl rfl), ?_⟩) ?_
  · have C1 := NdefX.cells_of I1 caps
    rw [ew] at C1
    exact pts_one (pt_cmpR (op_neD hr.units) (pe_heardB (Y := (XR P w K mg base f cdv A outer s0 H0 E).blk s1 G1 _ (compEnvC _ cl C (XR P w K mg base f cdv A outer s0 H0 E).env) its) T MH hr rfl (fun pins σ H s I2 => ⟨C1.later (nfs I1) (fun y c h z => (hfp c z).2.2.2.2.1 y c (kk h) rfl) I2, nfs I1⟩) (fun q hq => by
        rcases List.mem_cons.mp hq with rfl | hq
        · exact cl2_1
        · rcases List.mem_cons.mp hq with rfl | hq
          · exact cl2_2
          · cases hq) (pa_cons (pe_ix ix_tup (pe_var (i := 5) rfl (Or.inl rfl)) pe_int (fun _ _ => rfl)) pa_nil)) (pe_ix ix_tup (pe_var (i := 5) rfl (Or.inl rfl)) pe_int (fun _ _ => rfl)) (nomark _))
  · refine ⟨_, e1, R, rfl, ⟨vs, SqL.of S.hr⟩, fun D nD => ?_⟩
    have DR : D ≠ R := fun z => by subst z; rw [S.hr] at nD; cases nD
    have Dl : D ≠ l := fun z => by
      obtain ⟨a, b, h, _⟩ := S.S.hl
      subst z; rw [h] at nD; cases nD
    refine walk_it (walk_list (K := K) (a := R) (xs := vs)) (fun i G => ∃ F', Same F F' ∧ RSt F' G l R vs ∧ F' D = none ∧ G D = some (.lst [])) ⟨F, .refl _, ⟨S.S.grow (Grow.more S.S.sm nD), S.fr, by rw [upd_ne (Ne.symm DR)]; exact S.hr⟩, S.S.sm.free nD, upd_same⟩ (fun i G hi ⟨F', _, S', _⟩ => SqL.of S'.hr) ?_ ?_
    · rintro i x G G' hi ⟨F', s', S', fD, gD⟩ ⟨rfl, hx⟩
      have hm := (rows x (List.mem_of_getElem? hx)).mono s'
      obtain ⟨p, us, g, t, e, cl', j, d, rfl, hp, lm, hj, dt, ft, ev, run⟩ := hm
      have e5 : (((wipe σ [5]).set 5 (some (.ref p)))[5]? : Option (Option V)) = some (some (.ref p)) := List.getElem?_set_self (by rw [wipe_length, el]; decide)
      refine ⟨?_, ?_⟩
      · show ((wipe σ [5]).set 5 (some (.ref p))).set 5 none = (σ.set 5 none)
        show ((σ.set 5 none).set 5 (some (.ref p))).set 5 none = _
        rw [List.set_set, List.set_set]
      refine ⟨_, e5, p, _, 0, _, rfl, rfl, tF_sq (S'.S.sm _ _ hp), at0 _ _, fun base' B => ?_⟩
      refine ⟨F', l, g, j, d, rfl, S'.S, ⟨e, cl', lm⟩, hj, run F' G' base' (.refl _) S'.S B, fun u F2 H2 a b hR gr dn => ?_⟩
      have S2 := (S'.draw ne hR).grow gr
      refine ⟨_, e5, p, _, 1, _, rfl, rfl, tF_sq (gr.fh _ _ (gr.ff _ _ hp)), at1 _ _, ?_⟩
      refine ⟨_, _, (dn.mono gr.fh).dp (fits_ok _ _ ft).1, ((dt.mono gr.ff).mono gr.fh).dp (fits_ok _ _ ft).1, shaped_of (by decide) ft, shaped_of (by decide) ft, false, by rw [ev]; rfl, rfl, F2, s'.trans gr.ff, S2, own_free gr fD (by rw [upd_ne Dl]; exact gD), gr.hh.get _ _ (by rw [upd_ne Dl]; exact gD)⟩
    · rintro G ⟨F', _, _, _, gD⟩
      exact k D G gD
end
end K67
set_option Elab.async false
set_option linter.all false
set_option maxRecDepth 100000
set_option maxHeartbeats 4000000
namespace K67
open PySem PySem.Spec PyProof.Rows L2
variable [TabA]
/-! ### the rows are right -/
theorem cellsB_sub {cells : List (Str × Addr)} {names : List (Str × NameKind)} {c1 c2 : Addr} {vb vl : V} {base : Heap} (k1 : cells.lookup ("_law_bad" : Str) = some c1) (k2 : cells.lookup ("_law_source" : Str) = some c2) (hn : ∀ y ∈ names, y.2 = .free → y.1 = "_law_bad" ∨ y.1 = "_law_source")
    (C : CellsB base (cl2 c1 c2) fr2 [some vb, some vl]) (fr : List Str) (ws : List (Option V)) (hfr : ∀ y ∈ fr, (y, NameKind.free) ∈ names) (hw : ws.length = fr.length) (hi : ∀ (i : Nat) y, fr[i]? = some y → (y = "_law_bad" ∧ ws[i]? = some (some vb)) ∨ (y = "_law_source" ∧ ws[i]? = some (some vl))) :
    CellsB base (cloFrom cells names []) fr ws := by
  have hfree : ∀ y ∈ names, y.2 = .free → ∃ c, cells.lookup y.1 = some c := fun y hy e => by
    rcases hn y hy e with q | q
    · rw [q]; exact ⟨_, k1⟩
    · rw [q]; exact ⟨_, k2⟩
  have sub : ∀ {y c}, (cloFrom cells names []).lookup y = some c → (cl2 c1 c2).lookup y = some c := fun {y c} h => by
    have h1 := NdefX.clo_cm hfree h
    rcases cloFrom_mem (PySem.mem_of_lookup h) with z | ⟨z, _⟩
    · cases z
    · rcases hn _ z rfl with q | q
      · have q : y = "_law_bad" := q
        subst q; rw [k1] at h1; cases h1; exact cl2_1
      · have q : y = "_law_source" := q
        subst q; rw [k2] at h1; cases h1; exact cl2_2
  refine ⟨hw, fun y c h => C.all y c (sub h), fun x y c h h' => C.inj x y c (sub h) (sub h'), fun i y h => ?_⟩
  have hm := hfr y (List.mem_of_getElem? h)
  rcases hi i y h with ⟨rfl, e⟩ | ⟨rfl, e⟩
  · obtain ⟨c, h1, h2⟩ := C.has 0 "_law_bad" rfl
    rw [cl2_1] at h1; cases h1
    exact ⟨_, NdefX.clo_has hfree hm k1, fun v hv => h2 v (by rw [e] at hv; exact hv)⟩
  · obtain ⟨c, h1, h2⟩ := C.has 1 "_law_source" rfl
    rw [cl2_2] at h1; cases h1
    exact ⟨_, NdefX.clo_has hfree hm k2, fun v hv => h2 v (by rw [e] at hv; exact hv)⟩
section
variable {P : Program} {w : World} {K : PySem.W.Frag} {mg : Str → Option Value} {cells : List (Str × Addr)} {c1 c2 : Addr} {vb : V} {l : Addr} {F : Hp} {v : V}
theorem rr_of {j i : Nat} {d : PyData} (fr : List Str) (ws : List (Option V)) (k1 : cells.lookup ("_law_bad" : Str) = some c1) (k2 : cells.lookup ("_law_source" : Str) = some c2)
    (hlr : ∀ (F' H' : Hp) (f : Addr) (cl' : List (Str × Addr)) (base : Heap), Same F F' → MdT K mg base → LSt F' H' l → LamMk F' (lam j) cl' f → CellsB base cl' fr ws → LRun P w K mg base 10 F' H' f l i d)
    (hn : ∀ y ∈ (lam j).2.2.names, y.2 = .free → y.1 = "_law_bad" ∨ y.1 = "_law_source") (hfr : ∀ y ∈ fr, (y, NameKind.free) ∈ (lam j).2.2.names) (hw : ws.length = fr.length) (hi : ∀ (i : Nat) y, fr[i]? = some y → (y = "_law_bad" ∧ ws[i]? = some (some vb)) ∨ (y = "_law_source" ∧ ws[i]? = some (some (.ref l))))
    (h3 : i < 3) (hf : fits 6 (.tuple [.str (wordS i), d]) = true) (h : RowOk P w F (lam j) (cloFrom cells (lam j).2.2.names []) v (.tuple [.str (wordS i), d])) :
    RowRun P w K mg (cl2 c1 c2) [some vb, some (.ref l)] l F v := by
  obtain ⟨p, us, f, t, rfl, h1, lm, dn⟩ := h
  exact ⟨p, us, f, t, _, _, i, d, rfl, h1, lm, h3, dn, hf, PySem.SeqAt.eqv_refl _ (fits_ok _ _ hf).1, fun F' H' base s S B => hlr F' H' f _ base s B.T S (lm.mono s) (cellsB_sub k1 k2 hn B.C fr ws hfr hw hi)⟩
theorem nofree {j : Nat} (h : ((lam j).2.2.names.all fun y => !decide (y.2 = .free)) = true) : ∀ y ∈ (lam j).2.2.names, y.2 = .free → y.1 = "_law_bad" ∨ y.1 = "_law_source" := fun y hy e => by
  have := List.all_eq_true.mp h y hy
  rw [e] at this
  simp at this
theorem onefree {j : Nat} (h : ((lam j).2.2.names.all fun y => !decide (y.2 = .free) || decide (y.1 = "_law_bad") || decide (y.1 = "_law_source")) = true) : ∀ y ∈ (lam j).2.2.names, y.2 = .free → y.1 = "_law_bad" ∨ y.1 = "_law_source" := fun y hy e => by
  have z := List.all_eq_true.mp h y hy
  rw [e] at z
  simpa using z
theorem idx1 {α : Type} {x : α} : ∀ (i : Nat) y, ([x] : List α)[i]? = some y → i = 0 ∧ y = x := fun i y h => by
  match i, h with
  | 0, h => cases h; exact ⟨rfl, rfl⟩
  | n + 1, h => cases h
end
/-- closed rows -/
def RowsB (P : Program) (w : World) (K : PySem.W.Frag) (mg : Str → Option Value) (cells : List (Str × Addr)) (l : Addr) (F : Hp) (vb : V) (vs : List V) : Prop := ∀ c1 c2, cells.lookup ("_law_bad" : Str) = some c1 → cells.lookup ("_law_source" : Str) = some c2 → ∀ v ∈ vs, RowRun P w K mg (cl2 c1 c2) [some vb, some (.ref l)] l F v
section
variable {P : Program} {w : World} {K : PySem.W.Frag} {mg : Str → Option Value} {cells : List (Str × Addr)} {l : Addr} {F F' : Hp} {v vb : V} {vs : List V}
theorem RowsB.nil : RowsB P w K mg cells l F vb [] := fun _ _ _ _ _ h => nomatch h
theorem RowsB.app (h : RowsB P w K mg cells l F vb vs) (s : Same F F') (hv : ∀ c1 c2, cells.lookup ("_law_bad" : Str) = some c1 → cells.lookup ("_law_source" : Str) = some c2 → RowRun P w K mg (cl2 c1 c2) [some vb, some (.ref l)] l F' v) : RowsB P w K mg cells l F' vb (vs ++ [v]) := fun c1 c2 k1 k2 x hx => by
  rcases List.mem_append.mp hx with hx | hx
  · exact (h c1 c2 k1 k2 x hx).mono s
  · rw [List.mem_singleton.mp hx]; exact hv c1 c2 k1 k2
theorem RowsB.mono (h : RowsB P w K mg cells l F vb vs) (s : Same F F') : RowsB P w K mg cells l F' vb vs := fun c1 c2 k1 k2 x hx => (h c1 c2 k1 k2 x hx).mono s
abbrev RO (P : Program) (w : World) (F : Hp) (cells : List (Str × Addr)) (j : Nat) (v : V) (d : PyData) : Prop := RowOk P w F (lam j) (cloFrom cells (lam j).2.2.names []) v d
theorem row0 (MH : MdH P K mg) (h : RO P w F cells 0 v (.tuple [.str "many", .int 0])) (c1 c2 : Addr) (k1 : cells.lookup ("_law_bad" : Str) = some c1) (k2 : cells.lookup ("_law_source" : Str) = some c2) : RowRun P w K mg (cl2 c1 c2) [some vb, some (.ref l)] l F v :=
  rr_of (i := 0) [] [] k1 k2 (fun F' H' f cl' base s T S lm C => lr0 T MH.toMdC S lm C) (nofree (by decide +kernel)) (fun _ h => nomatch h) rfl (fun _ _ h => nomatch h) (by decide) (by kernel_rfl) h
theorem row1 (MH : MdH P K mg) (h : RO P w F cells 1 v (.tuple [.str "many", .int 1001])) (c1 c2 : Addr) (k1 : cells.lookup ("_law_bad" : Str) = some c1) (k2 : cells.lookup ("_law_source" : Str) = some c2) : RowRun P w K mg (cl2 c1 c2) [some vb, some (.ref l)] l F v :=
  rr_of (i := 0) [] [] k1 k2 (fun F' H' f cl' base s T S lm C => lr1 T MH.toMdC S lm C) (nofree (by decide +kernel)) (fun _ h => nomatch h) rfl (fun _ _ h => nomatch h) (by decide) (by kernel_rfl) h
theorem row2 (MH : MdH P K mg) (h : RO P w F cells 2 v (.tuple [.str "many", .int 41])) (c1 c2 : Addr) (k1 : cells.lookup ("_law_bad" : Str) = some c1) (k2 : cells.lookup ("_law_source" : Str) = some c2) : RowRun P w K mg (cl2 c1 c2) [some vb, some (.ref l)] l F v :=
  rr_of (i := 0) [] [] k1 k2 (fun F' H' f cl' base s T S lm C => lr2 T MH.toMdC S lm C) (nofree (by decide +kernel)) (fun _ h => nomatch h) rfl (fun _ _ h => nomatch h) (by decide) (by kernel_rfl) h
theorem row3 (MH : MdH P K mg) (h : RO P w F cells 3 v (.tuple [.str "many", .int 0])) (c1 c2 : Addr) (k1 : cells.lookup ("_law_bad" : Str) = some c1) (k2 : cells.lookup ("_law_source" : Str) = some c2) : RowRun P w K mg (cl2 c1 c2) [some vb, some (.ref l)] l F v :=
  rr_of (i := 0) [] [] k1 k2 (fun F' H' f cl' base s T S lm C => lr3 T MH.toMdC S lm C) (nofree (by decide +kernel)) (fun _ h => nomatch h) rfl (fun _ _ h => nomatch h) (by decide) (by kernel_rfl) h
theorem row4 (MH : MdH P K mg) (h : RO P w F cells 4 v (.tuple [.str "many", .none])) (c1 c2 : Addr) (k1 : cells.lookup ("_law_bad" : Str) = some c1) (k2 : cells.lookup ("_law_source" : Str) = some c2) : RowRun P w K mg (cl2 c1 c2) [some vb, some (.ref l)] l F v :=
  rr_of (i := 0) [] [] k1 k2 (fun F' H' f cl' base s T S lm C => lr4 T MH.toMdC S lm C) (nofree (by decide +kernel)) (fun _ h => nomatch h) rfl (fun _ _ h => nomatch h) (by decide) (by kernel_rfl) h
theorem row5 (MH : MdH P K mg) (h : RO P w F cells 5 v (.tuple [.str "too many", .int 13])) (c1 c2 : Addr) (k1 : cells.lookup ("_law_bad" : Str) = some c1) (k2 : cells.lookup ("_law_source" : Str) = some c2) : RowRun P w K mg (cl2 c1 c2) [some vb, some (.ref l)] l F v :=
  rr_of (i := 2) [] [] k1 k2 (fun F' H' f cl' base s T S lm C => lr5 T MH.toMdC S lm C) (nofree (by decide +kernel)) (fun _ h => nomatch h) rfl (fun _ _ h => nomatch h) (by decide) (by kernel_rfl) h
theorem row6 (MH : MdH P K mg) (h : RO P w F cells 6 v (.tuple [.str "too many", .int 16])) (c1 c2 : Addr) (k1 : cells.lookup ("_law_bad" : Str) = some c1) (k2 : cells.lookup ("_law_source" : Str) = some c2) : RowRun P w K mg (cl2 c1 c2) [some vb, some (.ref l)] l F v :=
  rr_of (i := 2) [] [] k1 k2 (fun F' H' f cl' base s T S lm C => lr6 T MH.toMdC S lm C) (nofree (by decide +kernel)) (fun _ h => nomatch h) rfl (fun _ _ h => nomatch h) (by decide) (by kernel_rfl) h
theorem ft_int (x : Str) (n : Int) (h : PyData.strOk x = true) : fits 6 (.tuple [.str x, .int n]) = true := by
  show bIf (PyData.strOk x) true false = true
  rw [h]; rfl
theorem row9 {n : Nat} {o : PyData} (hn : n < 3) (ho : o ∈ oddD) (hb : Dn P w F vb (badD n o)) (MH : MdH P K mg) (h : RO P w F cells 9 v (.tuple [.str "clocks", .int (n : Int)])) (c1 c2 : Addr) (k1 : cells.lookup ("_law_bad" : Str) = some c1) (k2 : cells.lookup ("_law_source" : Str) = some c2) : RowRun P w K mg (cl2 c1 c2) [some vb, some (.ref l)] l F v :=
  rr_of (i := 1) ["_law_bad"] [some vb] k1 k2 (fun F' H' f cl' base s T S lm C => lr9 hn ho (hb.mono s) T MH.toMdC S lm C) (onefree (by decide +kernel)) (by decide +kernel) rfl (fun i y h => .inl (by obtain ⟨rfl, rfl⟩ := idx1 i y h; exact ⟨rfl, rfl⟩)) (by decide) (ft_int _ _ (by kernel_rfl)) h
theorem row10 {n : Nat} {o : PyData} (hn : n < 3) (ho : o ∈ oddD) (hb : Dn P w F vb (badD n o)) (MH : MdH P K mg) (h : RO P w F cells 10 v (.tuple [.str "clocks", .int (n : Int)])) (c1 c2 : Addr) (k1 : cells.lookup ("_law_bad" : Str) = some c1) (k2 : cells.lookup ("_law_source" : Str) = some c2) : RowRun P w K mg (cl2 c1 c2) [some vb, some (.ref l)] l F v :=
  rr_of (i := 1) ["_law_bad"] [some vb] k1 k2 (fun F' H' f cl' base s T S lm C => lr10 hn ho (hb.mono s) T MH.toMdC S lm C) (onefree (by decide +kernel)) (by decide +kernel) rfl (fun i y h => .inl (by obtain ⟨rfl, rfl⟩ := idx1 i y h; exact ⟨rfl, rfl⟩)) (by decide) (ft_int _ _ (by kernel_rfl)) h
theorem row11 (MH : MdH P K mg) (h : RO P w F cells 11 v (.tuple [.str "clocks", .int 1])) (c1 c2 : Addr) (k1 : cells.lookup ("_law_bad" : Str) = some c1) (k2 : cells.lookup ("_law_source" : Str) = some c2) : RowRun P w K mg (cl2 c1 c2) [some vb, some (.ref l)] l F v :=
  rr_of (i := 1) [] [] k1 k2 (fun F' H' f cl' base s T S lm C => lr11 T MH.toMdC S lm C) (nofree (by decide +kernel)) (fun _ h => nomatch h) rfl (fun _ _ h => nomatch h) (by decide) (by kernel_rfl) h
theorem row12 (MH : MdH P K mg) (h : RO P w F cells 12 v (.tuple [.str "clocks", .int 1])) (c1 c2 : Addr) (k1 : cells.lookup ("_law_bad" : Str) = some c1) (k2 : cells.lookup ("_law_source" : Str) = some c2) : RowRun P w K mg (cl2 c1 c2) [some vb, some (.ref l)] l F v :=
  rr_of (i := 1) [] [] k1 k2 (fun F' H' f cl' base s T S lm C => lr12 T MH.toMdC S lm C) (nofree (by decide +kernel)) (fun _ h => nomatch h) rfl (fun _ _ h => nomatch h) (by decide) (by kernel_rfl) h
theorem row13 (MH : MdH P K mg) (h : RO P w F cells 13 v (.tuple [.str "clocks", .int (-1)])) (c1 c2 : Addr) (k1 : cells.lookup ("_law_bad" : Str) = some c1) (k2 : cells.lookup ("_law_source" : Str) = some c2) : RowRun P w K mg (cl2 c1 c2) [some vb, some (.ref l)] l F v :=
  rr_of (i := 1) ["_law_source"] [some (.ref l)] k1 k2 (fun F' H' f cl' base s T S lm C => lr13 T MH.toMdC S lm C) (onefree (by decide +kernel)) (by decide +kernel) rfl (fun i y h => .inr (by obtain ⟨rfl, rfl⟩ := idx1 i y h; exact ⟨rfl, rfl⟩)) (by decide) (by kernel_rfl) h
end
end K67
set_option Elab.async false
set_option linter.all false
set_option maxRecDepth 100000
set_option maxHeartbeats 4000000
namespace K67
open PySem PySem.Spec PyProof.Rows L2
variable [TabA]
/-! ### _law_refused_right -/
def spRR : Sp := fun vs H Q _ => ∃ F l, vs = [.ref l] ∧ LSt F H l ∧ ∀ H', Q (.bl true) H'
theorem relN {P : Program} {w : World} {F H : Hp} {l : Addr} {σ : L2.St} (S : LSt F H l) (hl : σ.length = 6) : Rel P w F H F H σ [.no, .no, .no, .no, .no, .no] := by
  refine rel_from (Grow.refl S.sm) S.nt S.td hl (fun a ha => ?_) fun i a e => .inl ?_
  · have : a = .no := by simpa using ha
    rw [this]; exact id
  · match i, e with
    | 0, e => cases e; rfl
    | 1, e => cases e; rfl
    | 2, e => cases e; rfl
    | 3, e => cases e; rfl
    | 4, e => cases e; rfl
    | 5, e => cases e; rfl
    | n + 6, e => cases e
theorem relB {P : Program} {w : World} {F H : Hp} {l : Addr} {a b va vo : V} {da do_ : PyData} {x y : Option V} {so : SV} (S : LSt F H l) (ha : Dn P w F va da) (ho : Dn P w F vo do_) : Rel P w F H F H [some a, some b, some va, some vo, x, y] [.no, .no, .fz da, .fz do_, .no, .no] := by
  refine rel_from (Grow.refl S.sm) S.nt S.td rfl (fun a ha => ?_) fun i a e => ?_
  · simp only [List.mem_cons, List.not_mem_nil, or_false] at ha
    rcases ha with rfl | rfl | rfl | rfl | rfl | rfl <;> exact id
  · match i, e with
    | 0, e => cases e; exact .inl rfl
    | 1, e => cases e; exact .inl rfl
    | 2, e => cases e; exact .inr (.inr ⟨_, _, rfl, rfl, ha⟩)
    | 3, e => cases e; exact .inr (.inr ⟨_, _, rfl, rfl, ho⟩)
    | 4, e => cases e; exact .inl rfl
    | 5, e => cases e; exact .inl rfl
    | n + 6, e => cases e
/-- a row appended -/
def tApp (P : Program) (w : World) (e : LamE) (cl : List (Str × Addr)) (rt : RE) : TS := fun D σ H => ∃ F l R vs env d, RSt F H l R vs ∧ R ≠ l ∧ vs.length < 1000 ∧ Rel P w F H F H σ env ∧ σ[1]? = some (some (.ref R)) ∧ rt env = some d ∧ ∀ v F' H', Same F F' → RSt F' H' l R (vs ++ [v]) → RowOk P w F' e cl v d → D.nx σ H'
theorem RSt.app {F H F' H' : Hp} {l R : Addr} {vs ws : List V} (h : RSt F H l R vs) (ne : R ≠ l) (g : Grow F H F' H') : RSt F' (upd H' R (.lst ws)) l R ws := by
  have h2 := h.grow g
  obtain ⟨a, b, hl, hR⟩ := h2.S.hl
  refine ⟨⟨fun x u e => ?_, h2.S.nt, h2.S.td.upd h2.hr trivial trivial, h2.S.fl, a, b, by rw [upd_ne (Ne.symm ne)]; exact hl, hR⟩, h2.fr, upd_same⟩
  rw [upd_ne (fun z => by subst z; rw [h2.fr] at e; cases e)]
  exact h2.S.sm _ _ e
section
variable {X : Cx}
theorem ps_app {e : LamE} {rt : RE} {a : Expr} {p1 p2 cpos pos : Pos} (hN : X.N[1]? = some ("_law_rows" : Str)) (hv : Vis X.env.scope "_law_rows") (ha : PE X a (tRow X.prog X.w e (cloFrom X.env.cells e.2.2.names []) rt))
    (hbase : attributeBase (.Name "_law_rows" p1) "append" X.env (eval (.Name "_law_rows" p1) X.env) = eval (.Name "_law_rows" p1) X.env := by rfl)
    (hfew : ((backTo cpos (starEach [a] X.env)).all (fun x => !x.1) && (backToKw cpos (keywordEach [] X.env)).all (fun x => x.1.isSome)
      && decide ([a].length + ([] : List Keyword).length + (if ([] : List Keyword).isEmpty then 0 else 1) < 30)) = true := by rfl)
    (hline : (p2.endLine == cpos.line) = true := by rfl) (hs : starEach [a] X.env = (false, eval a X.env) :: starEach [] X.env := by rfl) (hplain : (backTo cpos (starEach [] X.env)).any (·.1) = false := by rfl)
    (hsw : swapsWith (.Call (.Attribute (.Name "_law_rows" p1) "append" p2) [a] [] cpos) none pos.line X.env = pure false := by rfl) :
    PS X (.Expr (.Call (.Attribute (.Name "_law_rows" p1) "append" p2) [a] [] cpos) pos) (tApp X.prog X.w e (cloFrom X.env.cells e.2.2.names []) rt) := by
  refine PS.imp (ps_expr (pe_bm PySem.F.plainAttrs_list PySem.F.slot_list_append PySem.F.type_list_append mt_append (pe_var hN hv) (pa_cons ha pa_nil hs) hbase hfew hline hs hplain) hsw) ?_
  rintro D σ H ⟨F, l, R, vs, env, d, S, ne, hz, rel, e1, hr, k⟩
  refine ⟨.ref R, e1, .inl ⟨rfl, vs, .inl (.inl S.hr)⟩, F, H, F, env, d, rel, hr, fun v F1 H1 g1 ro => ?_⟩
  exact ⟨R, vs, v, rfl, rfl, (S.grow g1).hr, by rw [sizeLine_eq]; omega, k v F1 _ g1.ff (S.app ne g1) ro⟩
end
theorem odd_of {P : Program} {w : World} {F : Hp} {x : V} (h : x ∈ [V.int 1, .int 6, .int 0, .int (-2), .int 12, .int 1000003, .non, .str "2"]) : ∃ o ∈ oddD, Dn P w F x o := by
  simp only [List.mem_cons, List.not_mem_nil, or_false] at h
  rcases h with rfl | rfl | rfl | rfl | rfl | rfl | rfl | rfl
  · exact ⟨.int 1, by simp [oddD], .int _⟩
  · exact ⟨.int 6, by simp [oddD], .int _⟩
  · exact ⟨.int 0, by simp [oddD], .int _⟩
  · exact ⟨.int (-2), by simp [oddD], .int _⟩
  · exact ⟨.int 12, by simp [oddD], .int _⟩
  · exact ⟨.int 1000003, by simp [oddD], .int _⟩
  · exact ⟨.none, by simp [oddD], .non⟩
  · exact ⟨.str "2", by simp [oddD], .str _⟩
end K67
set_option Elab.async false
set_option linter.all false
set_option maxRecDepth 100000
set_option maxHeartbeats 8000000
namespace K67
open PySem PySem.Spec PyProof.Rows L2
variable [TabA]
theorem fr_rr (j : Nat) (h : ((lam j).2.2.names.all fun y => !decide (y.2 = .free) || decide (sc_rr.names.lookup y.1 = some .cell)) = true) : ∀ y ∈ (lam j).2.2.names, y.2 = .free → sc_rr.names.lookup y.1 = some .cell ∨ sc_rr.names.lookup y.1 = some .free := fun y hy e => by
  have z := List.all_eq_true.mp h y hy
  rw [e] at z
  exact .inl (by simpa using z)
/-- the bad row's tuple is made -/
theorem take3 : ∀ r : Nat, r < 3 → cutV [V.int 2, .int 4, .int 4] none (some (r : Int)) = [V.int 2, .int 4, .int 4].take r := by
  intro r h
  have h3 : r = 0 ∨ r = 1 ∨ r = 2 := by omega
  rcases h3 with rfl | rfl | rfl <;> decide
theorem bad_last {K : PySem.W.Frag} {F H4 : Hp} {l R pk : Addr} {vs xs : List V} {σ : L2.St} {Q : VK} (S : RSt F H4 l R vs) (hq : SqT K H4 pk xs) (hpk : H4 pk ≠ none) (hx : xs ≠ []) (hz : xs.length < 100) (k : ∀ p us F' H', Same F F' → RSt F' H' l R vs → F' p = some (tF us (xs ++ [.non])) → Q (.ref p) H') :
    tTupF (tCons (tC .non) tNil) σ H4 fun y H2 => rCatF K (.ref pk) y H2 Q := by
  refine ⟨(by show 1 ≤ sizeLine; decide), fun p us np => ?_⟩
  have ne : pk ≠ p := fun z => hpk (by rw [z]; exact np)
  have hq2 : SqT K (upd H4 p (tF us [V.non])) pk xs := by
    rcases hq with (h | ⟨o, h⟩) | h
    · exact .inl (.inl (by rw [upd_ne ne]; exact h))
    · exact .inl (.inr ⟨o, by rw [upd_ne ne]; exact h⟩)
    · exact .inr h
  have S2 : RSt F (upd H4 p (tF us [V.non])) l R vs := S.grow (Grow.more S.S.sm np)
  refine ⟨pk, p, xs, [.non], rfl, rfl, hq2, tF_sq upd_same, by rw [sizeLine_eq]; simp only [List.length_cons, List.length_nil]; omega, fun z => absurd z hx, (fun z => nomatch z), fun _ _ p6 us6 n6 => ?_⟩
  have g : Grow F (upd H4 p (tF us [V.non])) (upd F p6 (tF us6 (xs ++ [V.non]))) (upd (upd H4 p (tF us [V.non])) p6 (tF us6 (xs ++ [V.non]))) := Grow.new S2.S.sm n6
  exact k p6 us6 _ _ g.ff (S2.grow g) upd_same
theorem bad_all {K : PySem.W.Frag} {F H : Hp} {l R p2 p3 : Addr} {us3 : List Value} {vs ts : List V} {x : V} {σ : L2.St} {Q : VK} (S : RSt F H l R vs) (q2 : H p2 = some (.tup ts)) (q3 : H p3 = some (tF us3 [x])) (lt : ts.length ≤ 3) (k : ∀ p us F' H', Same F F' → RSt F' H' l R vs → F' p = some (tF us (ts ++ [x] ++ [.non])) → Q (.ref p) H') :
    rCatF K (.ref p2) (.ref p3) H fun x1 H1 => tTupF (tCons (tC .non) tNil) σ H1 fun y H2 => rCatF K x1 y H2 Q := by
  refine ⟨p2, p3, _, _, rfl, rfl, SqT.of q2, tF_sq q3, by rw [sizeLine_eq]; simp only [List.length_cons, List.length_nil]; omega, fun z => ?_, (fun z => nomatch z), fun _ _ p4 us4 n4 => ?_⟩
  · refine bad_last S (tF_sq q3) (by rw [q3]; exact fun z => nomatch z) (by simp) (by show 1 < 100; decide) fun p6 us6 F13 H13 s13 S13 h6 => k p6 us6 F13 H13 s13 S13 (by rw [z]; exact h6)
  · exact bad_last (S.grow (Grow.more (o := tF us4 (ts ++ [x])) S.S.sm n4)) (tF_sq upd_same) (by rw [upd_same]; exact fun z => nomatch z) (by simp) (by rw [List.length_append]; simp only [List.length_cons, List.length_nil]; omega) k
theorem dn_take {P : Program} {w : World} {F : Hp} : ∀ n : Nat, n < 3 → DnAll P w F ([V.int 2, .int 4, .int 4].take n) ([PyData.int 2, .int 4, .int 4].take n)
  | 0, _ => .nil
  | 1, _ => .cons (.int 2) .nil
  | 2, _ => .cons (.int 2) (.cons (.int 4) .nil)
theorem fs_refused {P : Program} {w : World} {K : PySem.W.Frag} {mg : Str → Option Value} {base : Heap} (T : MdT K mg base) (MH : MdH P K mg) : FnS P w K mg base "_law_refused_right" 12 spRR := by
  have M := T.toMd
  obtain ⟨fd, F⟩ := M.c.def_ 64 (d := d_law_refused_right) rfl
  obtain ⟨oc, od, dV, kV, doc, pm, an, cdv, ct, osl, rfl, lk, hcd, _, _⟩ := id F.ex
  obtain ⟨c, TB, hc⟩ := T.tb2
  have hcode : cdv = .ref c := hc _ _ _ _ lk
  obtain ⟨g, gd, gps, G, gm, gk, gb⟩ := fs_take (P := P) (w := w) M
  obtain ⟨o, od', ops, O, om, ok, ob⟩ := fs_one (P := P) (w := w) M
  refine ⟨_, _, ["_law_source"], fn_of (k := 11) lk hcd scN_rr (fun vs H Q E h => (by obtain ⟨_, _, rfl, _⟩ := h; rfl)) fun A outer s0 H vs Q E hr h => ⟨_,
    pss_cons (ps_set (i := 1) scN_rr.nd rfl (Or.inl rfl) (pe_lst (pa_cons (pe_row (lam 0) TB hcode (by rfl) (by decide) (by rfl) (fr_rr 0 (by decide +kernel)) (je_tup (ja_cons je_str (ja_cons je_int ja_nil)))) pa_nil)))
    (pss_cons (ps_app rfl (Or.inl rfl) (pe_row (lam 1) TB hcode (by rfl) (by decide) (by rfl) (fr_rr 1 (by decide +kernel)) (je_tup (ja_cons je_str (ja_cons je_int ja_nil)))))
    (pss_cons (ps_app rfl (Or.inl rfl) (pe_row (lam 2) TB hcode (by rfl) (by decide) (by rfl) (fr_rr 2 (by decide +kernel)) (je_tup (ja_cons je_str (ja_cons je_int ja_nil)))))
    (pss_cons (ps_app rfl (Or.inl rfl) (pe_row (lam 3) TB hcode (by rfl) (by decide) (by rfl) (fr_rr 3 (by decide +kernel)) (je_tup (ja_cons je_str (ja_cons je_int ja_nil)))))
    (pss_cons (ps_app rfl (Or.inl rfl) (pe_row (lam 4) TB hcode (by rfl) (by decide) (by rfl) (fr_rr 4 (by decide +kernel)) (je_tup (ja_cons je_str (ja_cons je_non ja_nil)))))
    (pss_cons (ps_app rfl (Or.inl rfl) (pe_row (lam 5) TB hcode (by rfl) (by decide) (by rfl) (fr_rr 5 (by decide +kernel)) (je_tup (ja_cons je_str (ja_cons je_int ja_nil)))))
    (pss_cons (ps_app rfl (Or.inl rfl) (pe_row (lam 6) TB hcode (by rfl) (by decide) (by rfl) (fr_rr 6 (by decide +kernel)) (je_tup (ja_cons je_str (ja_cons je_int ja_nil)))))
    (pss_cons (ps_par (i := 2) (j := 3) rfl scN_rr.nd rfl rfl (by decide) rfl rfl (pa_cons (pe_call G (hr.mono (by decide)) (by rfl) gm gk gb .nil pass0 (pa_cons (pe_var (i := 0) rfl (Or.inr (Or.inl rfl))) (pa_cons pe_int pa_nil)))
      (pa_cons (pe_call O (hr.mono (by decide)) (by rfl) om ok ob .nil pass0 (pa_cons (pe_var (i := 0) rfl (Or.inr (Or.inl rfl))) (pa_cons (pe_lst (pa_cons pe_int (pa_cons pe_int (pa_cons pe_int (pa_cons (pe_un un_neg pe_int) (pa_cons pe_int (pa_cons pe_int (pa_cons pe_non (pa_cons pe_str pa_nil))))))))) pa_nil))) pa_nil)) (by rfl))
    (pss_cons (ps_set (i := 4) scN_rr.nd rfl (Or.inr rfl) (pe_op op_catF (pe_op op_catF (pe_slice sl_tup (pe_tupF (pa_cons pe_int (pa_cons pe_int (pa_cons pe_int pa_nil)))) po_none (po_some (pe_var (i := 2) rfl (Or.inl rfl)))) (pe_tupF (pa_cons (pe_var (i := 3) rfl (Or.inl rfl)) pa_nil))) (pe_tupF (pa_cons pe_non pa_nil))))
    (pss_cons (ps_app rfl (Or.inl rfl) (pe_row (lam 9) TB hcode (by rfl) (by decide) (by rfl) (fr_rr 9 (by decide +kernel)) (je_tup (ja_cons je_str (ja_cons (je_var 2) ja_nil)))))
    (pss_cons (ps_app rfl (Or.inl rfl) (pe_row (lam 10) TB hcode (by rfl) (by decide) (by rfl) (fr_rr 10 (by decide +kernel)) (je_tup (ja_cons je_str (ja_cons (je_var 2) ja_nil)))))
    (pss_cons (ps_app rfl (Or.inl rfl) (pe_row (lam 11) TB hcode (by rfl) (by decide) (by rfl) (fr_rr 11 (by decide +kernel)) (je_tup (ja_cons je_str (ja_cons je_int ja_nil)))))
    (pss_cons (ps_app rfl (Or.inl rfl) (pe_row (lam 12) TB hcode (by rfl) (by decide) (by rfl) (fr_rr 12 (by decide +kernel)) (je_tup (ja_cons je_str (ja_cons je_int ja_nil)))))
    (pss_cons (ps_app rfl (Or.inl rfl) (pe_row (lam 13) TB hcode (by rfl) (by decide) (by rfl) (fr_rr 13 (by decide +kernel)) (je_tup (ja_cons je_str (ja_cons (je_neg je_int) ja_nil)))))
    (pss_one (ps_ret (pe_cmpR (op_eqD hr.units) (pe_comp T MH hr) (pe_lst pa_nil) (nomark _))))))))))))))))), ?_⟩, M.glo 64 rfl, F.kp, F.bindsN (fun _ _ _ _ _ _ us hl => match us, hl with | [_], _ => rfl)⟩
  obtain ⟨F0, l, rfl, S0, q⟩ := h
  have hN0 : (L2.start N_rr [V.ref l]).length = 6 := rfl
  refine ⟨F0, H, F0, _, .tuple [.str "many", .int 0], relN S0 rfl, rfl, fun v0 F1 H1 g1 r0 => ⟨(by show 1 ≤ sizeLine; decide), fun R nR => ?_⟩⟩
  have S1 : RSt F1 (upd H1 R (.lst [v0])) l R [v0] := ⟨(S0.grow g1).grow (Grow.more g1.fh nR), g1.fh.free nR, upd_same⟩
  have ne : R ≠ l := fun z => by
    obtain ⟨a, b, h, _⟩ := (S0.grow g1).hl
    rw [z, h] at nR; cases nR
  have rb1 := fun vb => (RowsB.nil (P := P) (w := w) (K := K) (mg := mg) (cells := (XR P w K mg base _ cdv A outer s0 H E).env.cells) (l := l) (F := F1) (vb := vb)).app (.refl _) (row0 MH r0)
  refine ⟨F1, l, R, [v0], _, .tuple [.str "many", .int 1001], S1, ne, (show 1 < 1000 by decide), relN S1.S rfl, rfl, rfl, fun v1 F2 H2 s2 S2 r1 => ?_⟩
  have rb2 := fun vb => (rb1 vb).app s2 (row1 MH r1)
  refine ⟨F2, l, R, _, _, .tuple [.str "many", .int 41], S2, ne, (show 2 < 1000 by decide), relN S2.S rfl, rfl, rfl, fun v2 F3 H3 s3 S3 r2 => ?_⟩
  have rb3 := fun vb => (rb2 vb).app s3 (row2 MH r2)
  refine ⟨F3, l, R, _, _, .tuple [.str "many", .int 0], S3, ne, (show 3 < 1000 by decide), relN S3.S rfl, rfl, rfl, fun v3 F4 H4 s4 S4 r3 => ?_⟩
  have rb4 := fun vb => (rb3 vb).app s4 (row3 MH r3)
  refine ⟨F4, l, R, _, _, .tuple [.str "many", .none], S4, ne, (show 4 < 1000 by decide), relN S4.S rfl, rfl, rfl, fun v4 F5 H5 s5 S5 r4 => ?_⟩
  have rb5 := fun vb => (rb4 vb).app s5 (row4 MH r4)
  refine ⟨F5, l, R, _, _, .tuple [.str "too many", .int 13], S5, ne, (show 5 < 1000 by decide), relN S5.S rfl, rfl, rfl, fun v5 F6 H6 s6 S6 r5 => ?_⟩
  have rb6 := fun vb => (rb5 vb).app s6 (row5 MH r5)
  refine ⟨F6, l, R, _, _, .tuple [.str "too many", .int 16], S6, ne, (show 6 < 1000 by decide), relN S6.S rfl, rfl, rfl, fun v6 F7 H7 s7 S7 r6 => ?_⟩
  have rb7 := fun vb => (rb6 vb).app s7 (row6 MH r6)
  -- the place and the odd thing
  obtain ⟨a, b, hl, hR⟩ := S7.S.hl
  refine ⟨_, rfl, l, a, b, 3, rfl, hl, by decide, by decide, hR, fun at_ a1 b1 at0 at3 hR1 => ?_⟩
  obtain ⟨n, rfl⟩ := Int.eq_ofNat_of_zero_le at0
  have hn : n < 3 := by omega
  have S8 := S7.draw ne hR1
  refine ⟨_, rfl, 2, rfl, (by show 8 ≤ sizeLine; decide), fun p np => ?_⟩
  have pl : p ≠ l := fun z => by rw [z, upd_same] at np; cases np
  refine ⟨l, p, _, a1, b1, rfl, by rw [upd_ne (Ne.symm pl)]; exact upd_same, upd_same, pl, (show 0 < 8 by decide), (show 8 < 1000 by decide), hR1, fun i x a2 b2 hx hR2 => ⟨_, _, rfl, ?_⟩⟩
  have S9 := (S8.grow (Grow.more (o := .lst [V.int 1, .int 6, .int 0, .int (-2), .int 12, .int 1000003, .non, .str "2"]) S8.S.sm np)).draw ne hR2
  obtain ⟨od, ho, dno⟩ := odd_of (P := P) (w := w) (F := F7) (List.mem_of_getElem? hx)
  revert S9
  generalize upd (upd (upd H7 l (SrcL a1 b1)) p _) l (SrcL a2 b2) = H9
  intro S9
  -- the bad row
  refine ⟨(by show 3 ≤ sizeLine; decide), fun p1 us1 n1 => ?_⟩
  have S10 : RSt F7 _ l R _ := S9.grow (Grow.more (o := tF us1 [V.int 2, .int 4, .int 4]) S9.S.sm n1)
  refine ⟨_, rfl, (n : Int), rfl, p1, _, rfl, tF_sq upd_same, fun z => ?_, fun p2 n2 => ?_⟩
  · have z2 := z.2
    rw [show HT.sIx [V.int 2, .int 4, .int 4].length [V.int 2, .int 4, .int 4].length (some (n : Int)) = min n 3 from HT.sIx_nat _ _ _] at z2
    have : [V.int 2, .int 4, .int 4].length = 3 := rfl
    omega
  have e2 : cutV [V.int 2, .int 4, .int 4] none (some (n : Int)) = [V.int 2, .int 4, .int 4].take n := take3 n hn
  rw [e2]
  have S11 := S10.grow (Grow.more (o := .tup ([V.int 2, .int 4, .int 4].take n)) S10.S.sm n2)
  refine ⟨_, rfl, (by show 1 ≤ sizeLine; decide), fun p3 us3 n3 => ?_⟩
  have S12 := S11.grow (Grow.more (o := tF us3 [x]) S11.S.sm n3)
  have ne23 : p2 ≠ p3 := fun z => by rw [← z, upd_same] at n3; cases n3
  have lt : ([V.int 2, .int 4, .int 4].take n).length ≤ 3 := by rw [List.length_take]; exact Nat.min_le_right _ _
  have q2 : upd (upd (upd H9 p1 (tF us1 [V.int 2, .int 4, .int 4])) p2 (.tup ([V.int 2, .int 4, .int 4].take n))) p3 (tF us3 [x]) p2 = some (.tup ([V.int 2, .int 4, .int 4].take n)) := by rw [upd_ne ne23, upd_same]
  have q3 : upd (upd (upd H9 p1 (tF us1 [V.int 2, .int 4, .int 4])) p2 (.tup ([V.int 2, .int 4, .int 4].take n))) p3 (tF us3 [x]) p3 = some (tF us3 [x]) := upd_same
  revert S12 q2 q3
  generalize upd (upd (upd H9 p1 (tF us1 [V.int 2, .int 4, .int 4])) p2 (.tup ([V.int 2, .int 4, .int 4].take n))) p3 (tF us3 [x]) = H12
  intro S12 q2 q3
  refine bad_all S12 q2 q3 lt fun p6 us6 F13 H13 s13 S13 h6 => ?_
  have dnb : Dn P w F13 (.ref p6) (badD n od) := .tup h6 (((dn_take n hn).app (.cons (dno.mono s13) .nil)).app (.cons .non .nil))
  have rb13 := (rb7 (.ref p6)).mono s13
  refine ⟨F13, l, R, _, _, .tuple [.str "clocks", .int (n : Int)], S13, ne, (show 7 < 1000 by decide), relB (x := some (.ref p6)) (y := none) (so := .no) S13.S (.int (n : Int)) (dno.mono s13), rfl, rfl, fun v9 F14 H14 s14 S14 r9 => ?_⟩
  have rb14 := rb13.app s14 (row9 hn ho (dnb.mono s14) MH r9)
  refine ⟨F14, l, R, _, _, .tuple [.str "clocks", .int (n : Int)], S14, ne, (show 8 < 1000 by decide), relB (x := some (.ref p6)) (y := none) (so := .no) S14.S (.int (n : Int)) ((dno.mono s13).mono s14), rfl, rfl, fun v10 F15 H15 s15 S15 r10 => ?_⟩
  have rb15 := rb14.app s15 (row10 hn ho ((dnb.mono s14).mono s15) MH r10)
  refine ⟨F15, l, R, _, _, .tuple [.str "clocks", .int 1], S15, ne, (show 9 < 1000 by decide), relN S15.S rfl, rfl, rfl, fun v11 F16 H16 s16 S16 r11 => ?_⟩
  have rb16 := rb15.app s16 (row11 MH r11)
  refine ⟨F16, l, R, _, _, .tuple [.str "clocks", .int 1], S16, ne, (show 10 < 1000 by decide), relN S16.S rfl, rfl, rfl, fun v12 F17 H17 s17 S17 r12 => ?_⟩
  have rb17 := rb16.app s17 (row12 MH r12)
  refine ⟨F17, l, R, _, _, .tuple [.str "clocks", .int (-1)], S17, ne, (show 11 < 1000 by decide), relN S17.S rfl, rfl, rfl, fun v13 F18 H18 s18 S18 r13 => ?_⟩
  have rb18 := rb17.app s18 (row13 MH r13)
  refine ⟨F18, l, R, _, .ref p6, S18, ne, (show 12 < 1000 by decide), rfl, rfl, rfl, rfl, rb18, fun D H' hD => ⟨Nat.zero_le _, fun p' np' => ?_⟩⟩
  refine ⟨.list [], .list [], .lst (SqL.of (by rw [upd_ne (ne_of_none hD np')]; exact hD)) .nil, .lst (SqL.of upd_same) .nil, by decide, by decide, ?_⟩
  show Q (.bl true) _
  exact q _
end K67
set_option Elab.async false
set_option linter.all false
set_option maxRecDepth 100000
set_option maxHeartbeats 8000000
namespace K67
open PySem PySem.Spec PyProof.Rows L2
variable [TabA]
/-! ### law -/
/-- a def of the source, called while nothing is shown -/
def FnSG (P : Program) (w : World) (K : PySem.W.Frag) (mg : Str → Option Value) (base : Heap) (f : Addr) (fd : FuncData) (ps : List Str) (k : Nat) (sp : Sp) : Prop :=
  ∀ (A : Around) (outer : List Env) (s : Shared) (H : Hp) (args : Args) (us : List Value) (vs : List V) (Q : VK) (E : XK), A.guards = some [] → Room k A → Env0 P w K mg base A outer s H → BindsTo s fd args (ps.zip us) → Vals vs us → sp vs H Q E →
    codeAny (model P w) A (.call (.ref f) args) (CR CX0 outer P w H s Q E) s
def spLaw (K : PySem.W.Frag) : Sp := fun vs H Q _ => ∃ (s : Addr) (ns : List Int), vs = [.ref s] ∧ SqL K H s (ns.map V.int) ∧ Told (fun _ => none) H ∧ ∀ H', Q (.bl true) H'
abbrev N_law : List PySem.Str := ["_law_script", "_law_source", "_law_is_great", "_law_turn", "_law_n"]
theorem scN_law : FnScope N_law ["_law_script"] (defScope s_law) := ⟨rfl, rfl, rfl, by decide +kernel, rfl, by decide +kernel, by decide +kernel⟩
theorem SqL.grow {K : PySem.W.Frag} {F H F' H' : Hp} {a : Addr} {xs : List V} (h : SqL K H a xs) (g : Grow F H F' H') : SqL K H' a xs := by
  rcases h with (h | ⟨o, h⟩) | h
  · exact .inl (.inl (g.hh.get _ _ h))
  · exact .inl (.inr ⟨o, g.hh.get _ _ h⟩)
  · exact .inr h
theorem lst_new {F H : Hp} {p : Addr} {a b : Int} (sm : Same F H) (nt : NoT F) (td : Told F H) (n : H p = none) (hR : Rng a b) : LSt F (upd H p (SrcL a b)) p := by
  have g : Grow F H F (upd H p (SrcL a b)) := Grow.more sm n
  exact ⟨g.fh, nt, td.grow g, sm.free n, a, b, upd_same, hR⟩
theorem ecall_of {rf : List PyData → Option PyData} {rs : RA} {env : En} {ds : List PyData} {z : PyData} (h1 : rs env = some ds) (h2 : rf ds = some z) : eCall rf rs env = some z := by
  unfold eCall
  rw [h1]
  exact h2
def loopB : List Stmt := match (defBody s_law).getD 3 (.Pass ⟨0, 0, 0, 0⟩) with
  | .For _ _ b _ _ => b
  | _ => []
def rt_first : RT := fun _ => none
theorem relL {P : Program} {w : World} {F H : Hp} {l : Addr} {s t : V} {g : Bool} {i n : Int} (S : LSt F H l) : Rel P w F H F H [some s, some t, some (.bl g), some (.int i), some (.int n)] [.no, .no, .fz (.bool g), .fz (.int i), .fz (.int n)] := by
  refine rel_from (Grow.refl S.sm) S.nt S.td rfl (fun a ha => ?_) fun i a e => ?_
  · simp only [List.mem_cons, List.not_mem_nil, or_false] at ha
    rcases ha with rfl | rfl | rfl | rfl | rfl <;> exact id
  · match i, e with
    | 0, e => cases e; exact .inl rfl
    | 1, e => cases e; exact .inl rfl
    | 2, e => cases e; exact .inr (.inr ⟨_, _, rfl, rfl, .bl _⟩)
    | 3, e => cases e; exact .inr (.inr ⟨_, _, rfl, rfl, .int _⟩)
    | 4, e => cases e; exact .inr (.inr ⟨_, _, rfl, rfl, .int _⟩)
    | n + 5, e => cases e
theorem rel5 {P : Program} {w : World} {F H : Hp} {σ : L2.St} (sm : Same F H) (nt : NoT F) (td : Told F H) (hl : σ.length = 5) : Rel P w F H F H σ [.no, .no, .no, .no, .no] := by
  refine rel_from (Grow.refl sm) nt td hl (fun a ha => ?_) fun i a e => .inl ?_
  · have : a = .no := by simpa using ha
    rw [this]; exact id
  · match i, e with
    | 0, e => cases e; rfl
    | 1, e => cases e; rfl
    | 2, e => cases e; rfl
    | 3, e => cases e; rfl
    | 4, e => cases e; rfl
    | n + 5, e => cases e
theorem fs_law {P : Program} {w : World} {K : PySem.W.Frag} {mg : Str → Option Value} {base : Heap} (T : MdT K mg base) (MH : MdH P K mg)
    (ev : ∀ (n : Nat) (m : Int), 1 ≤ n → n ≤ 12 → (m = 4 ∨ m = 5) → rf_law_number_right [.int (n : Int), .int m] = some (.bool true)) :
    ∃ (f : Addr) (fd : FuncData), FnSG P w K mg base f fd ["_law_script"] 13 (spLaw K) ∧ mg "law" = some (.ref f) ∧ PySem.W.keepIn K (.ref f) = true ∧ Binds K fd ["_law_script"] [] := by
  have M := T.toMd
  obtain ⟨fd, F⟩ := M.c.def_ 65 (d := d_law) rfl
  obtain ⟨oc, od, dV, kV, doc, pm, an, cdv, ct, osl, rfl, lk, hcd, _, _⟩ := id F.ex
  obtain ⟨g, gd, gps, G, gm, gk, gb⟩ := fs_take (P := P) (w := w) M
  obtain ⟨o, od', ops, O, om, ok, ob⟩ := fs_pool (P := P) (w := w) M
  obtain ⟨r, rd, rps, RR, rm, rk, rb⟩ := fs_refused (P := P) (w := w) T MH
  refine ⟨_, _, fun A outer s0 H args us vs Q E hg hr e0 hbd rv h => LamX.run_ofS (k := 12) lk hcd scN_law hr e0 hbd rv (by obtain ⟨_, _, rfl, _⟩ := h; rfl) fun hr' => ?_, M.glo 65 rfl, F.kp, F.bindsN (fun _ _ _ _ _ _ us hl => match us, hl with | [_], _ => rfl)⟩
  have hg' : (A.deeper (envOfC d_law.qual d_law.scope s0.heap.objs.size (He.fAd K d_law.at_) cdv)).guards = some [] := hg
  obtain ⟨sc, ns, rfl, hs, td, q⟩ := h
  have fin : ∃ t, PSs (cxOf CX0 P w K mg base N_law d_law.qual d_law.scope (He.fAd K d_law.at_) cdv A outer s0 H E) (loopB.drop 2) t ∧ ∀ (F' H' : Hp) (l : Addr) (b : Bool) (i n : Nat) (D : Ends), LSt F' H' l → 1 ≤ n → n ≤ 12 → i < 2 →
      (∀ F2 H2, LSt F2 H2 l → D.nx [some (.ref sc), some (.ref l), some (.bl b), some (.int (i : Int)), some (.int (n : Int))] H2) → t D [some (.ref sc), some (.ref l), some (.bl b), some (.int (i : Int)), some (.int (n : Int))] H' := by
    refine ⟨_, pss_one (ps_if (pt_not (pt_val (je_fnG (fn_law_number_right T) hg' (hr'.mono (by decide)) (by rfl) (ja_cons (je_var 4) (ja_cons (je_if (PW.pt (jw_and (jt_val (je_var 2)) (jw_1 (jt_cmp (op_eqD hr'.units) ok_eq (je_var 3) je_int (nomark _))))) je_int je_int) ja_nil))))) (pss_one (ps_ret pe_bl)) pss_nil), ?_⟩
    intro F' H' l b i n D S n1 n12 hi k
    have go : ∀ m : Int, (m = 4 ∨ m = 5) → rf_law_number_right [.int (n : Int), .int m] = some (.bool true) := fun m hm => ev n m n1 n12 hm
    refine ⟨F', H', F', _, .bool true, relL S, ?_, fun v F2 H2 g2 n2 => ?_⟩
    · have h2 : i = 0 ∨ i = 1 := by omega
      cases b with
      | true =>
        rcases h2 with rfl | rfl
        · exact ecall_of (ds := [.int (n : Int), .int 5]) rfl (go 5 (.inr rfl))
        · exact ecall_of (ds := [.int (n : Int), .int 4]) rfl (go 4 (.inl rfl))
      | false => exact ecall_of (ds := [.int (n : Int), .int 4]) rfl (go 4 (.inl rfl))
    · cases n2
      exact ⟨true, rfl, k F2 H2 (S.grow g2)⟩
  obtain ⟨t, ht, run⟩ := fin
  refine ⟨_, pss_cons (ps_if (PW.pt (jw_or (jt_cmp (op_neD hr'.units) ok_ne (je_fn (fn_tables_count M) (hr'.mono (by decide)) (by rfl) (ja_cons je_int ja_nil)) je_int (nomark _)) (jw_or (jt_cmp (op_neD hr'.units) ok_ne (je_fn (fn_kinds M) (hr'.mono (by decide)) (by rfl) (ja_cons je_int ja_nil)) (je_tup (ja_cons (je_tup ja_nil) ja_nil)) (nomark _)) (jw_1 (jt_cmp (op_neD hr'.units) ok_ne (je_fn (fn_self_turnings M) (hr'.mono (by decide)) (by rfl) (ja_cons (je_tup ja_nil) ja_nil)) je_int (nomark _)))))) (pss_one (ps_ret pe_bl)) pss_nil)
    (pss_cons (ps_set (i := 1) scN_law.nd rfl (Or.inl rfl) (pe_call O (hr'.mono (by decide)) (by rfl) om ok ob .nil pass0 (pa_cons (pe_var (i := 0) rfl (Or.inl rfl)) (pa_cons pe_int pa_nil))))
    (pss_cons (ps_set (i := 2) scN_law.nd rfl (Or.inl rfl) (pe_cmpR op_gt (pe_ix ix_list (pe_var (i := 1) rfl (Or.inl rfl)) pe_int (fun _ _ => rfl)) pe_int (nomark _)))
    (pss_cons (ps_for (passes_of rfl) rfl (pi_range1 (by rfl) (Md.b_range M) (pa_cons pe_int pa_nil)) (pg_name (i := 3) scN_law.nd rfl (Or.inl rfl))
      (pss_cons (ps_set (i := 4) scN_law.nd rfl (Or.inl rfl) (pe_op op_add pe_int (pe_call G (hr'.mono (by decide)) (by rfl) gm gk gb .nil pass0 (pa_cons (pe_var (i := 1) rfl (Or.inl rfl)) (pa_cons pe_int pa_nil)))))
      (pss_cons (ps_if (PW.pt (pw_and (pt_val (pe_var (i := 2) rfl (Or.inl rfl))) (pw_and1 (pt_cmpR op_eq (pe_call G (hr'.mono (by decide)) (by rfl) gm gk gb .nil pass0 (pa_cons (pe_var (i := 1) rfl (Or.inl rfl)) (pa_cons pe_int pa_nil))) pe_int (nomark _)))))
        (pss_one (ps_set (i := 4) scN_law.nd rfl (Or.inl rfl) (pe_op op_add pe_int (pe_call G (hr'.mono (by decide)) (by rfl) gm gk gb .nil pass0 (pa_cons (pe_var (i := 1) rfl (Or.inl rfl)) (pa_cons pe_int pa_nil)))))) pss_nil) ht)))
    (pss_one (ps_ret (pe_call RR (hr'.mono (by decide)) (by rfl) rm rk rb .nil pass0 (pa_cons (pe_var (i := 1) rfl (Or.inl rfl)) pa_nil))))))), ?_⟩
  refine ⟨fun _ => none, H, fun _ => none, _, false, rel5 (fun _ _ h => nomatch h) (fun _ _ h => nomatch h) td rfl, (by kernel_rfl), fun F1 H1 g1 => ?_⟩
  refine iteF ?_
  refine ⟨_, rfl, sc, ns, rfl, SqL.grow hs g1, fun H' p a b hH np hR => ?_⟩
  have S : LSt F1 (upd H' p (SrcL a b)) p := by
    have nt1 : NoT F1 := g1.nt fun _ _ h => nomatch h
    rcases hH with rfl | ⟨p0, n0, rfl⟩
    · exact lst_new g1.fh nt1 (td.grow g1) np hR
    · have g2 : Grow F1 H1 F1 (upd H1 p0 (.lst [])) := Grow.more g1.fh n0
      exact lst_new g2.fh nt1 ((td.grow g1).grow g2) np hR
  refine ⟨_, rfl, p, _, 0, _, rfl, rfl, SqL.of upd_same, at0 _ _, a, 0, rfl, rfl, ?_⟩
  obtain ⟨gr, hgr⟩ : ∃ gr, decide ((0 : Int) < a) = gr := ⟨_, rfl⟩
  revert S
  generalize upd H' p (SrcL a b) = H2
  intro S
  refine ⟨2, rfl, by decide, by decide, ?_⟩
  refine for_it (walk_range (lo := 0) (n := 2)) (fun i σ H => ∃ F t n, LSt F H p ∧ σ = [some (.ref sc), some (.ref p), some (.bl gr), t, n]) ⟨F1, none, none, S, by rw [← hgr]; rfl⟩ (fun _ _ _ _ _ => trivial) ?_ ?_
  · rintro i x σ H3 H4 hi ⟨F2, t0, n0, S2, rfl⟩ ⟨rfl, hx⟩
    have hx : x = .int (i : Int) := hx.trans (by show V.int (0 + (i : Int)) = _; rw [Int.zero_add])
    subst hx
    obtain ⟨a1, b1, hl1, hR1⟩ := S2.hl
    refine ⟨_, rfl, p, a1, b1, 8, rfl, hl1, by decide, by decide, hR1, fun r a2 b2 q0 q8 hR2 => ⟨_, _, rfl, rfl, ?_⟩⟩
    obtain ⟨m, rfl⟩ := Int.eq_ofNat_of_zero_le q0
    have S3 := S2.draw hR2
    show gName 4 (V.int (1 + (m : Int))) _ _ _
    rw [show (1 : Int) + (m : Int) = ((1 + m : Nat) : Int) by omega]
    revert S3
    generalize upd H4 p (SrcL a2 b2) = H5
    intro S3
    refine ⟨_, rfl, gr, rfl, ?_⟩
    cases gr with
    | false => exact iteF (iteF (run F2 H5 p false i (1 + m) _ S3 (by omega) (by omega) hi fun F6 H6 S6 => ⟨F6, _, _, S6, rfl⟩))
    | true =>
      refine iteT ?_
      obtain ⟨a3, b3, hl3, hR3⟩ := S3.hl
      refine ⟨_, rfl, p, a3, b3, 4, rfl, hl3, by decide, by decide, hR3, fun r2 a4 b4 q02 q4 hR4 => ⟨rfl, _, rfl, ?_⟩⟩
      have S4 := S3.draw hR4
      revert S4
      generalize upd H5 p (SrcL a4 b4) = H6
      intro S4
      cases decide (V.int r2 = V.int 0) with
      | false => exact iteF (run F2 H6 p true i (1 + m) _ S4 (by omega) (by omega) hi fun F6 H6 S6 => ⟨F6, _, _, S6, rfl⟩)
      | true =>
        refine iteT ?_
        obtain ⟨a5, b5, hl5, hR5⟩ := S4.hl
        refine ⟨_, rfl, p, a5, b5, 4, rfl, hl5, by decide, by decide, hR5, fun r3 a6 b6 q03 q43 hR6 => ⟨_, _, rfl, rfl, ?_⟩⟩
        obtain ⟨m3, rfl⟩ := Int.eq_ofNat_of_zero_le q03
        show gName 4 (V.int (9 + (m3 : Int))) _ _ _
        rw [show (9 : Int) + (m3 : Int) = ((9 + m3 : Nat) : Int) by omega]
        exact run F2 _ p true i (9 + m3) _ (S4.draw hR6) (by omega) (by omega) hi fun F6 H6 S6 => ⟨F6, _, _, S6, rfl⟩
  · rintro σ H3 ⟨F2, t0, n0, S2, rfl⟩
    exact ⟨_, rfl, F2, p, rfl, S2, fun H' => q H'⟩
end K67
set_option Elab.async false
set_option linter.all false
set_option maxRecDepth 100000
set_option maxHeartbeats 0
namespace K67
open PySem PySem.Spec PyProof.Rows L2
/-! ### _law_number_right at each number, turned by the kernel, part by part -/
noncomputable def nrS1 : RS := (sPar3 3 4 5 (eCall rf_law_all_clocks (aCons (eVar 0) aNil)) (eCall rf_law_times (aCons (eLc (iRng2 (eC (.int (.ofNat 1))) (e2 dAdd (eVar 0) (eC (.int (.ofNat 1))))) (b1 7) rYes (eVar 7) [7]) aNil)) (eC (.int (.ofNat 0))))
noncomputable def nrS2 : RS := (sIf (tReprNeT (eCall rf_kinds (aCons (eVar 0) aNil)) (eCall (l1 dTuple) (aCons (eVar 3) aNil))) (sRet (eC (.bool false))) sNx)
noncomputable def nrS3 : RS := (sFor (iSeq (eVar 3)) (b1 2) (sSeq (sSet 6 (eCall rf_law_turnings_tried (aCons (eVar 2) aNil))) (sSeq (sIf (rOr (tReprNe (eCall rf_self_turnings (aCons (eVar 2) aNil)) (eVar 6)) (tB (e2 dNe (eCall rf_made_clocks (aCons (eVar 2) aNil)) (eVar 2)))) (sRet (eC (.bool false))) sNx) (sSeq (sIf (tB (e2 dNe (eCall rf_table_of_clocks (aCons (eVar 2) aNil)) (eCall rf_law_table_of_hands (aCons (eVar 2) (aCons (eCall rf_law_all_hands (aCons (eVar 2) aNil)) aNil))))) (sRet (eC (.bool false))) sNx) (sSet 5 (e2 dAdd (eVar 5) (e2 dDiv (eVar 4) (e2 dMul (eVar 0) (eVar 6)))))))))
noncomputable def nrS4 : RS := (sIf (tReprNe (eCall rf_tables_count (aCons (eVar 0) aNil)) (eVar 5)) (sRet (eC (.bool false))) sNx)
noncomputable def nrR : RS := (sRet (eIf (tB (e2 dGt (eVar 0) (eVar 1))) (eC (.bool true)) (eCall rf_law_listed_right (aCons (eVar 0) (aCons (eVar 3) aNil)))))
noncomputable def nrP : RS := sSeq nrS1 (sSeq nrS2 (sSeq nrS3 nrS4))
theorem nr_eq : r_law_number_right = sSeq nrS1 (sSeq nrS2 (sSeq nrS3 (sSeq nrS4 nrR))) := rfl
theorem seq_parts {a b : RS} {env e : En} (h : sSeq a b env = some (.nx e)) : ∃ e1, a env = some (.nx e1) ∧ b e1 = some (.nx e) := by
  haveI : TabA := ⟨0, 0⟩
  obtain ⟨o, h1, h2⟩ := bd_some (show bd (a env) _ = some (Oc.nx e) from h)
  cases o with
  | nx e1 => exact ⟨e1, h1, h2⟩
  | rt d => cases h2
theorem seq_join {a b : RS} {env e1 : En} {o : Oc} (h1 : a env = some (.nx e1)) (h2 : b e1 = some o) : sSeq a b env = some o := by
  unfold sSeq
  rw [h1]
  exact h2
theorem rfOf_rt {k : Nat} {s : RS} {ds : List PyData} {d : PyData} (h : s (argsE k ds) = some (.rt d)) : rfOf k s ds = some d := by
  unfold rfOf
  rw [h]
  rfl
theorem nr_of {n m d : PyData} {e : En} (hp : nrP (argsE 6 [n, m]) = some (.nx e)) (hr : nrR e = some (.rt d)) : rf_law_number_right [n, m] = some d := by
  obtain ⟨e1, h1, hp⟩ := seq_parts hp
  obtain ⟨e2, h2, hp⟩ := seq_parts hp
  obtain ⟨e3, h3, h4⟩ := seq_parts hp
  unfold rf_law_number_right
  rw [nr_eq]
  exact rfOf_rt (seq_join h1 (seq_join h2 (seq_join h3 (seq_join h4 hr))))
theorem nr_listed {e : En} {ds : List PyData} {z : PyData} (h1 : (tB (e2 dGt (eVar 0) (eVar 1))) e = some false) (h2 : (aCons (eVar 0) (aCons (eVar 3) aNil)) e = some ds) (h3 : rf_law_listed_right ds = some z) : nrR e = some (.rt z) := by
  show bd (bd ((tB (e2 dGt (eVar 0) (eVar 1))) e) fun x => bIf x _ (bd ((aCons (eVar 0) (aCons (eVar 3) aNil)) e) rf_law_listed_right)) _ = _
  rw [h1, h2]
  show bd (rf_law_listed_right ds) _ = _
  rw [h3]
  rfl
theorem nrp_1 (m : PyData) : nrP (argsE 6 [.int (.ofNat 1), m]) = some (.nx [.fz (.int (.ofNat 1)), .fz m, .fz (.tuple []), .fz (.list [.tuple []]), .fz (.int (.ofNat 1)), .fz (.int (.ofNat 1)), .fz (.int (.ofNat 1)), .no]) := by kernel_rfl
theorem nrp_2 (m : PyData) : nrP (argsE 6 [.int (.ofNat 2), m]) = some (.nx [.fz (.int (.ofNat 2)), .fz m, .fz (.tuple [.int (.ofNat 2)]), .fz (.list [.tuple [.int (.ofNat 2)]]), .fz (.int (.ofNat 2)), .fz (.int (.ofNat 1)), .fz (.int (.ofNat 1)), .no]) := by kernel_rfl
theorem nrp_3 (m : PyData) : nrP (argsE 6 [.int (.ofNat 3), m]) = some (.nx [.fz (.int (.ofNat 3)), .fz m, .fz (.tuple [.int (.ofNat 3)]), .fz (.list [.tuple [.int (.ofNat 3)]]), .fz (.int (.ofNat 6)), .fz (.int (.ofNat 1)), .fz (.int (.ofNat 2)), .no]) := by kernel_rfl
theorem nrp_4 (m : PyData) : nrP (argsE 6 [.int (.ofNat 4), m]) = some (.nx [.fz (.int (.ofNat 4)), .fz m, .fz (.tuple [.int (.ofNat 4)]), .fz (.list [.tuple [.int (.ofNat 2), .int (.ofNat 2)], .tuple [.int (.ofNat 4)]]), .fz (.int (.ofNat 24)), .fz (.int (.ofNat 4)), .fz (.int (.ofNat 2)), .no]) := by kernel_rfl
theorem nrp_5 (m : PyData) : nrP (argsE 6 [.int (.ofNat 5), m]) = some (.nx [.fz (.int (.ofNat 5)), .fz m, .fz (.tuple [.int (.ofNat 5)]), .fz (.list [.tuple [.int (.ofNat 5)]]), .fz (.int (.ofNat 120)), .fz (.int (.ofNat 6)), .fz (.int (.ofNat 4)), .no]) := by kernel_rfl
theorem nrp_6 (m : PyData) : nrP (argsE 6 [.int (.ofNat 6), m]) = some (.nx [.fz (.int (.ofNat 6)), .fz m, .fz (.tuple [.int (.ofNat 2), .int (.ofNat 3)]), .fz (.list [.tuple [.int (.ofNat 2), .int (.ofNat 3)]]), .fz (.int (.ofNat 720)), .fz (.int (.ofNat 60)), .fz (.int (.ofNat 2)), .no]) := by kernel_rfl
theorem nrp_7 (m : PyData) : nrP (argsE 6 [.int (.ofNat 7), m]) = some (.nx [.fz (.int (.ofNat 7)), .fz m, .fz (.tuple [.int (.ofNat 7)]), .fz (.list [.tuple [.int (.ofNat 7)]]), .fz (.int (.ofNat 5040)), .fz (.int (.ofNat 120)), .fz (.int (.ofNat 6)), .no]) := by kernel_rfl
theorem nrp_8 (m : PyData) : nrP (argsE 6 [.int (.ofNat 8), m]) = some (.nx [.fz (.int (.ofNat 8)), .fz m, .fz (.tuple [.int (.ofNat 8)]), .fz (.list [.tuple [.int (.ofNat 2), .int (.ofNat 2), .int (.ofNat 2)], .tuple [.int (.ofNat 2), .int (.ofNat 4)], .tuple [.int (.ofNat 8)]]), .fz (.int (.ofNat 40320)), .fz (.int (.ofNat 1920)), .fz (.int (.ofNat 4)), .no]) := by kernel_rfl
theorem nrp_9 (m : PyData) : nrP (argsE 6 [.int (.ofNat 9), m]) = some (.nx [.fz (.int (.ofNat 9)), .fz m, .fz (.tuple [.int (.ofNat 9)]), .fz (.list [.tuple [.int (.ofNat 3), .int (.ofNat 3)], .tuple [.int (.ofNat 9)]]), .fz (.int (.ofNat 362880)), .fz (.int (.ofNat 7560)), .fz (.int (.ofNat 6)), .no]) := by kernel_rfl
theorem nrp_10 (m : PyData) : nrP (argsE 6 [.int (.ofNat 10), m]) = some (.nx [.fz (.int (.ofNat 10)), .fz m, .fz (.tuple [.int (.ofNat 2), .int (.ofNat 5)]), .fz (.list [.tuple [.int (.ofNat 2), .int (.ofNat 5)]]), .fz (.int (.ofNat 3628800)), .fz (.int (.ofNat 90720)), .fz (.int (.ofNat 4)), .no]) := by kernel_rfl
theorem nrp_11 (m : PyData) : nrP (argsE 6 [.int (.ofNat 11), m]) = some (.nx [.fz (.int (.ofNat 11)), .fz m, .fz (.tuple [.int (.ofNat 11)]), .fz (.list [.tuple [.int (.ofNat 11)]]), .fz (.int (.ofNat 39916800)), .fz (.int (.ofNat 362880)), .fz (.int (.ofNat 10)), .no]) := by kernel_rfl
theorem nrp_12 (m : PyData) : nrP (argsE 6 [.int (.ofNat 12), m]) = some (.nx [.fz (.int (.ofNat 12)), .fz m, .fz (.tuple [.int (.ofNat 4), .int (.ofNat 3)]), .fz (.list [.tuple [.int (.ofNat 2), .int (.ofNat 2), .int (.ofNat 3)], .tuple [.int (.ofNat 4), .int (.ofNat 3)]]), .fz (.int (.ofNat 479001600)), .fz (.int (.ofNat 13305600)), .fz (.int (.ofNat 4)), .no]) := by kernel_rfl
theorem nrl_1 : rf_law_listed_right [.int (.ofNat 1), .list [.tuple []]] = some (.bool true) := by kernel_rfl
theorem nrl_2 : rf_law_listed_right [.int (.ofNat 2), .list [.tuple [.int (.ofNat 2)]]] = some (.bool true) := by kernel_rfl
theorem nrl_3 : rf_law_listed_right [.int (.ofNat 3), .list [.tuple [.int (.ofNat 3)]]] = some (.bool true) := by kernel_rfl
theorem nrl_4 : rf_law_listed_right [.int (.ofNat 4), .list [.tuple [.int (.ofNat 2), .int (.ofNat 2)], .tuple [.int (.ofNat 4)]]] = some (.bool true) := by kernel_rfl
noncomputable def lsF : RS := (sFor (iSeq (eVar 1)) (b1 3) (sSeq (sSet 5 (eCall rf_law_table_of_hands (aCons (eVar 3) (aCons (eCall rf_law_all_hands (aCons (eVar 3) aNil)) aNil)))) (sFor (iSeq (eCall rf_law_all_names (aCons (eVar 0) aNil))) (b1 6) (sPut 2 (eVar 3) (eCall rf_law_named_table (aCons (eVar 5) (aCons (eVar 6) aNil)))))))
noncomputable def lsR : RS := (sFrzD 2 (sSeq (sIf (tReprNe (eCall rf_tables_count (aCons (eVar 0) aNil)) (eCall (l1 dLenD) (aCons (eVar 2) aNil))) (sRet (eC (.bool false))) sNx) (sSeq (sFor (iKeys (eVar 2)) (b1 4) (sSeq (sIf (rOr (rNot (tB (eCall rf_law_is_proof (aCons (eVar 4) aNil)))) (tB (e2 dNotIs (eCall rf_order_proof (aCons (eVar 4) aNil)) (eC (.bool true))))) (sRet (eC (.bool false))) sNx) (sIf (tB (e2 dNe (e2 dIx (eCall rf_coordinates (aCons (eVar 4) aNil)) (eC (.int (.ofNat 0)))) (e2 dGetK (eVar 2) (eVar 4)))) (sRet (eC (.bool false))) sNx))) (sRet (eC (.bool true))))))
theorem ls_eq : r_law_listed_right = sSeq (sOwnD 2) (sSeq lsF lsR) := rfl
def lsK : List (PyData × PyData) := [(.tuple [.tuple [.tuple [.int (.ofNat 0), .int (.ofNat 1), .int (.ofNat 2), .int (.ofNat 3), .int (.ofNat 4)], .tuple [.int (.ofNat 1), .int (.ofNat 2), .int (.ofNat 3), .int (.ofNat 4), .int (.ofNat 0)], .tuple [.int (.ofNat 2), .int (.ofNat 3), .int (.ofNat 4), .int (.ofNat 0), .int (.ofNat 1)], .tuple [.int (.ofNat 3), .int (.ofNat 4), .int (.ofNat 0), .int (.ofNat 1), .int (.ofNat 2)], .tuple [.int (.ofNat 4), .int (.ofNat 0), .int (.ofNat 1), .int (.ofNat 2), .int (.ofNat 3)]], .tuple [.tuple [.int (.ofNat 4), .int (.ofNat 0), .int (.ofNat 1), .int (.ofNat 2), .int (.ofNat 3)], .tuple [.int (.ofNat 0), .int (.ofNat 1), .int (.ofNat 2), .int (.ofNat 3), .int (.ofNat 4)], .tuple [.int (.ofNat 1), .int (.ofNat 2), .int (.ofNat 3), .int (.ofNat 4), .int (.ofNat 0)], .tuple [.int (.ofNat 2), .int (.ofNat 3), .int (.ofNat 4), .int (.ofNat 0), .int (.ofNat 1)], .tuple [.int (.ofNat 3), .int (.ofNat 4), .int (.ofNat 0), .int (.ofNat 1), .int (.ofNat 2)]], .tuple [.tuple [.int (.ofNat 3), .int (.ofNat 4), .int (.ofNat 0), .int (.ofNat 1), .int (.ofNat 2)], .tuple [.int (.ofNat 4), .int (.ofNat 0), .int (.ofNat 1), .int (.ofNat 2), .int (.ofNat 3)], .tuple [.int (.ofNat 0), .int (.ofNat 1), .int (.ofNat 2), .int (.ofNat 3), .int (.ofNat 4)], .tuple [.int (.ofNat 1), .int (.ofNat 2), .int (.ofNat 3), .int (.ofNat 4), .int (.ofNat 0)], .tuple [.int (.ofNat 2), .int (.ofNat 3), .int (.ofNat 4), .int (.ofNat 0), .int (.ofNat 1)]], .tuple [.tuple [.int (.ofNat 2), .int (.ofNat 3), .int (.ofNat 4), .int (.ofNat 0), .int (.ofNat 1)], .tuple [.int (.ofNat 3), .int (.ofNat 4), .int (.ofNat 0), .int (.ofNat 1), .int (.ofNat 2)], .tuple [.int (.ofNat 4), .int (.ofNat 0), .int (.ofNat 1), .int (.ofNat 2), .int (.ofNat 3)], .tuple [.int (.ofNat 0), .int (.ofNat 1), .int (.ofNat 2), .int (.ofNat 3), .int (.ofNat 4)], .tuple [.int (.ofNat 1), .int (.ofNat 2), .int (.ofNat 3), .int (.ofNat 4), .int (.ofNat 0)]], .tuple [.tuple [.int (.ofNat 1), .int (.ofNat 2), .int (.ofNat 3), .int (.ofNat 4), .int (.ofNat 0)], .tuple [.int (.ofNat 2), .int (.ofNat 3), .int (.ofNat 4), .int (.ofNat 0), .int (.ofNat 1)], .tuple [.int (.ofNat 3), .int (.ofNat 4), .int (.ofNat 0), .int (.ofNat 1), .int (.ofNat 2)], .tuple [.int (.ofNat 4), .int (.ofNat 0), .int (.ofNat 1), .int (.ofNat 2), .int (.ofNat 3)], .tuple [.int (.ofNat 0), .int (.ofNat 1), .int (.ofNat 2), .int (.ofNat 3), .int (.ofNat 4)]]], .tuple [.int (.ofNat 5)]),
  (.tuple [.tuple [.tuple [.int (.ofNat 0), .int (.ofNat 1), .int (.ofNat 2), .int (.ofNat 3), .int (.ofNat 4)], .tuple [.int (.ofNat 1), .int (.ofNat 2), .int (.ofNat 4), .int (.ofNat 0), .int (.ofNat 3)], .tuple [.int (.ofNat 2), .int (.ofNat 4), .int (.ofNat 3), .int (.ofNat 1), .int (.ofNat 0)], .tuple [.int (.ofNat 3), .int (.ofNat 0), .int (.ofNat 1), .int (.ofNat 4), .int (.ofNat 2)], .tuple [.int (.ofNat 4), .int (.ofNat 3), .int (.ofNat 0), .int (.ofNat 2), .int (.ofNat 1)]], .tuple [.tuple [.int (.ofNat 3), .int (.ofNat 0), .int (.ofNat 1), .int (.ofNat 4), .int (.ofNat 2)], .tuple [.int (.ofNat 0), .int (.ofNat 1), .int (.ofNat 2), .int (.ofNat 3), .int (.ofNat 4)], .tuple [.int (.ofNat 1), .int (.ofNat 2), .int (.ofNat 4), .int (.ofNat 0), .int (.ofNat 3)], .tuple [.int (.ofNat 4), .int (.ofNat 3), .int (.ofNat 0), .int (.ofNat 2), .int (.ofNat 1)], .tuple [.int (.ofNat 2), .int (.ofNat 4), .int (.ofNat 3), .int (.ofNat 1), .int (.ofNat 0)]], .tuple [.tuple [.int (.ofNat 4), .int (.ofNat 3), .int (.ofNat 0), .int (.ofNat 2), .int (.ofNat 1)], .tuple [.int (.ofNat 3), .int (.ofNat 0), .int (.ofNat 1), .int (.ofNat 4), .int (.ofNat 2)], .tuple [.int (.ofNat 0), .int (.ofNat 1), .int (.ofNat 2), .int (.ofNat 3), .int (.ofNat 4)], .tuple [.int (.ofNat 2), .int (.ofNat 4), .int (.ofNat 3), .int (.ofNat 1), .int (.ofNat 0)], .tuple [.int (.ofNat 1), .int (.ofNat 2), .int (.ofNat 4), .int (.ofNat 0), .int (.ofNat 3)]], .tuple [.tuple [.int (.ofNat 1), .int (.ofNat 2), .int (.ofNat 4), .int (.ofNat 0), .int (.ofNat 3)], .tuple [.int (.ofNat 2), .int (.ofNat 4), .int (.ofNat 3), .int (.ofNat 1), .int (.ofNat 0)], .tuple [.int (.ofNat 4), .int (.ofNat 3), .int (.ofNat 0), .int (.ofNat 2), .int (.ofNat 1)], .tuple [.int (.ofNat 0), .int (.ofNat 1), .int (.ofNat 2), .int (.ofNat 3), .int (.ofNat 4)], .tuple [.int (.ofNat 3), .int (.ofNat 0), .int (.ofNat 1), .int (.ofNat 4), .int (.ofNat 2)]], .tuple [.tuple [.int (.ofNat 2), .int (.ofNat 4), .int (.ofNat 3), .int (.ofNat 1), .int (.ofNat 0)], .tuple [.int (.ofNat 4), .int (.ofNat 3), .int (.ofNat 0), .int (.ofNat 2), .int (.ofNat 1)], .tuple [.int (.ofNat 3), .int (.ofNat 0), .int (.ofNat 1), .int (.ofNat 4), .int (.ofNat 2)], .tuple [.int (.ofNat 1), .int (.ofNat 2), .int (.ofNat 4), .int (.ofNat 0), .int (.ofNat 3)], .tuple [.int (.ofNat 0), .int (.ofNat 1), .int (.ofNat 2), .int (.ofNat 3), .int (.ofNat 4)]]], .tuple [.int (.ofNat 5)]),
  (.tuple [.tuple [.tuple [.int (.ofNat 0), .int (.ofNat 1), .int (.ofNat 2), .int (.ofNat 3), .int (.ofNat 4)], .tuple [.int (.ofNat 1), .int (.ofNat 3), .int (.ofNat 4), .int (.ofNat 2), .int (.ofNat 0)], .tuple [.int (.ofNat 2), .int (.ofNat 4), .int (.ofNat 1), .int (.ofNat 0), .int (.ofNat 3)], .tuple [.int (.ofNat 3), .int (.ofNat 2), .int (.ofNat 0), .int (.ofNat 4), .int (.ofNat 1)], .tuple [.int (.ofNat 4), .int (.ofNat 0), .int (.ofNat 3), .int (.ofNat 1), .int (.ofNat 2)]], .tuple [.tuple [.int (.ofNat 4), .int (.ofNat 0), .int (.ofNat 3), .int (.ofNat 1), .int (.ofNat 2)], .tuple [.int (.ofNat 0), .int (.ofNat 1), .int (.ofNat 2), .int (.ofNat 3), .int (.ofNat 4)], .tuple [.int (.ofNat 3), .int (.ofNat 2), .int (.ofNat 0), .int (.ofNat 4), .int (.ofNat 1)], .tuple [.int (.ofNat 1), .int (.ofNat 3), .int (.ofNat 4), .int (.ofNat 2), .int (.ofNat 0)], .tuple [.int (.ofNat 2), .int (.ofNat 4), .int (.ofNat 1), .int (.ofNat 0), .int (.ofNat 3)]], .tuple [.tuple [.int (.ofNat 3), .int (.ofNat 2), .int (.ofNat 0), .int (.ofNat 4), .int (.ofNat 1)], .tuple [.int (.ofNat 2), .int (.ofNat 4), .int (.ofNat 1), .int (.ofNat 0), .int (.ofNat 3)], .tuple [.int (.ofNat 0), .int (.ofNat 1), .int (.ofNat 2), .int (.ofNat 3), .int (.ofNat 4)], .tuple [.int (.ofNat 4), .int (.ofNat 0), .int (.ofNat 3), .int (.ofNat 1), .int (.ofNat 2)], .tuple [.int (.ofNat 1), .int (.ofNat 3), .int (.ofNat 4), .int (.ofNat 2), .int (.ofNat 0)]], .tuple [.tuple [.int (.ofNat 2), .int (.ofNat 4), .int (.ofNat 1), .int (.ofNat 0), .int (.ofNat 3)], .tuple [.int (.ofNat 4), .int (.ofNat 0), .int (.ofNat 3), .int (.ofNat 1), .int (.ofNat 2)], .tuple [.int (.ofNat 1), .int (.ofNat 3), .int (.ofNat 4), .int (.ofNat 2), .int (.ofNat 0)], .tuple [.int (.ofNat 0), .int (.ofNat 1), .int (.ofNat 2), .int (.ofNat 3), .int (.ofNat 4)], .tuple [.int (.ofNat 3), .int (.ofNat 2), .int (.ofNat 0), .int (.ofNat 4), .int (.ofNat 1)]], .tuple [.tuple [.int (.ofNat 1), .int (.ofNat 3), .int (.ofNat 4), .int (.ofNat 2), .int (.ofNat 0)], .tuple [.int (.ofNat 3), .int (.ofNat 2), .int (.ofNat 0), .int (.ofNat 4), .int (.ofNat 1)], .tuple [.int (.ofNat 4), .int (.ofNat 0), .int (.ofNat 3), .int (.ofNat 1), .int (.ofNat 2)], .tuple [.int (.ofNat 2), .int (.ofNat 4), .int (.ofNat 1), .int (.ofNat 0), .int (.ofNat 3)], .tuple [.int (.ofNat 0), .int (.ofNat 1), .int (.ofNat 2), .int (.ofNat 3), .int (.ofNat 4)]]], .tuple [.int (.ofNat 5)]),
  (.tuple [.tuple [.tuple [.int (.ofNat 0), .int (.ofNat 1), .int (.ofNat 2), .int (.ofNat 3), .int (.ofNat 4)], .tuple [.int (.ofNat 1), .int (.ofNat 3), .int (.ofNat 0), .int (.ofNat 4), .int (.ofNat 2)], .tuple [.int (.ofNat 2), .int (.ofNat 0), .int (.ofNat 4), .int (.ofNat 1), .int (.ofNat 3)], .tuple [.int (.ofNat 3), .int (.ofNat 4), .int (.ofNat 1), .int (.ofNat 2), .int (.ofNat 0)], .tuple [.int (.ofNat 4), .int (.ofNat 2), .int (.ofNat 3), .int (.ofNat 0), .int (.ofNat 1)]], .tuple [.tuple [.int (.ofNat 2), .int (.ofNat 0), .int (.ofNat 4), .int (.ofNat 1), .int (.ofNat 3)], .tuple [.int (.ofNat 0), .int (.ofNat 1), .int (.ofNat 2), .int (.ofNat 3), .int (.ofNat 4)], .tuple [.int (.ofNat 4), .int (.ofNat 2), .int (.ofNat 3), .int (.ofNat 0), .int (.ofNat 1)], .tuple [.int (.ofNat 1), .int (.ofNat 3), .int (.ofNat 0), .int (.ofNat 4), .int (.ofNat 2)], .tuple [.int (.ofNat 3), .int (.ofNat 4), .int (.ofNat 1), .int (.ofNat 2), .int (.ofNat 0)]], .tuple [.tuple [.int (.ofNat 1), .int (.ofNat 3), .int (.ofNat 0), .int (.ofNat 4), .int (.ofNat 2)], .tuple [.int (.ofNat 3), .int (.ofNat 4), .int (.ofNat 1), .int (.ofNat 2), .int (.ofNat 0)], .tuple [.int (.ofNat 0), .int (.ofNat 1), .int (.ofNat 2), .int (.ofNat 3), .int (.ofNat 4)], .tuple [.int (.ofNat 4), .int (.ofNat 2), .int (.ofNat 3), .int (.ofNat 0), .int (.ofNat 1)], .tuple [.int (.ofNat 2), .int (.ofNat 0), .int (.ofNat 4), .int (.ofNat 1), .int (.ofNat 3)]], .tuple [.tuple [.int (.ofNat 4), .int (.ofNat 2), .int (.ofNat 3), .int (.ofNat 0), .int (.ofNat 1)], .tuple [.int (.ofNat 2), .int (.ofNat 0), .int (.ofNat 4), .int (.ofNat 1), .int (.ofNat 3)], .tuple [.int (.ofNat 3), .int (.ofNat 4), .int (.ofNat 1), .int (.ofNat 2), .int (.ofNat 0)], .tuple [.int (.ofNat 0), .int (.ofNat 1), .int (.ofNat 2), .int (.ofNat 3), .int (.ofNat 4)], .tuple [.int (.ofNat 1), .int (.ofNat 3), .int (.ofNat 0), .int (.ofNat 4), .int (.ofNat 2)]], .tuple [.tuple [.int (.ofNat 3), .int (.ofNat 4), .int (.ofNat 1), .int (.ofNat 2), .int (.ofNat 0)], .tuple [.int (.ofNat 4), .int (.ofNat 2), .int (.ofNat 3), .int (.ofNat 0), .int (.ofNat 1)], .tuple [.int (.ofNat 1), .int (.ofNat 3), .int (.ofNat 0), .int (.ofNat 4), .int (.ofNat 2)], .tuple [.int (.ofNat 2), .int (.ofNat 0), .int (.ofNat 4), .int (.ofNat 1), .int (.ofNat 3)], .tuple [.int (.ofNat 0), .int (.ofNat 1), .int (.ofNat 2), .int (.ofNat 3), .int (.ofNat 4)]]], .tuple [.int (.ofNat 5)]),
  (.tuple [.tuple [.tuple [.int (.ofNat 0), .int (.ofNat 1), .int (.ofNat 2), .int (.ofNat 3), .int (.ofNat 4)], .tuple [.int (.ofNat 1), .int (.ofNat 4), .int (.ofNat 3), .int (.ofNat 0), .int (.ofNat 2)], .tuple [.int (.ofNat 2), .int (.ofNat 3), .int (.ofNat 1), .int (.ofNat 4), .int (.ofNat 0)], .tuple [.int (.ofNat 3), .int (.ofNat 0), .int (.ofNat 4), .int (.ofNat 2), .int (.ofNat 1)], .tuple [.int (.ofNat 4), .int (.ofNat 2), .int (.ofNat 0), .int (.ofNat 1), .int (.ofNat 3)]], .tuple [.tuple [.int (.ofNat 3), .int (.ofNat 0), .int (.ofNat 4), .int (.ofNat 2), .int (.ofNat 1)], .tuple [.int (.ofNat 0), .int (.ofNat 1), .int (.ofNat 2), .int (.ofNat 3), .int (.ofNat 4)], .tuple [.int (.ofNat 4), .int (.ofNat 2), .int (.ofNat 0), .int (.ofNat 1), .int (.ofNat 3)], .tuple [.int (.ofNat 2), .int (.ofNat 3), .int (.ofNat 1), .int (.ofNat 4), .int (.ofNat 0)], .tuple [.int (.ofNat 1), .int (.ofNat 4), .int (.ofNat 3), .int (.ofNat 0), .int (.ofNat 2)]], .tuple [.tuple [.int (.ofNat 4), .int (.ofNat 2), .int (.ofNat 0), .int (.ofNat 1), .int (.ofNat 3)], .tuple [.int (.ofNat 2), .int (.ofNat 3), .int (.ofNat 1), .int (.ofNat 4), .int (.ofNat 0)], .tuple [.int (.ofNat 0), .int (.ofNat 1), .int (.ofNat 2), .int (.ofNat 3), .int (.ofNat 4)], .tuple [.int (.ofNat 1), .int (.ofNat 4), .int (.ofNat 3), .int (.ofNat 0), .int (.ofNat 2)], .tuple [.int (.ofNat 3), .int (.ofNat 0), .int (.ofNat 4), .int (.ofNat 2), .int (.ofNat 1)]], .tuple [.tuple [.int (.ofNat 1), .int (.ofNat 4), .int (.ofNat 3), .int (.ofNat 0), .int (.ofNat 2)], .tuple [.int (.ofNat 4), .int (.ofNat 2), .int (.ofNat 0), .int (.ofNat 1), .int (.ofNat 3)], .tuple [.int (.ofNat 3), .int (.ofNat 0), .int (.ofNat 4), .int (.ofNat 2), .int (.ofNat 1)], .tuple [.int (.ofNat 0), .int (.ofNat 1), .int (.ofNat 2), .int (.ofNat 3), .int (.ofNat 4)], .tuple [.int (.ofNat 2), .int (.ofNat 3), .int (.ofNat 1), .int (.ofNat 4), .int (.ofNat 0)]], .tuple [.tuple [.int (.ofNat 2), .int (.ofNat 3), .int (.ofNat 1), .int (.ofNat 4), .int (.ofNat 0)], .tuple [.int (.ofNat 3), .int (.ofNat 0), .int (.ofNat 4), .int (.ofNat 2), .int (.ofNat 1)], .tuple [.int (.ofNat 1), .int (.ofNat 4), .int (.ofNat 3), .int (.ofNat 0), .int (.ofNat 2)], .tuple [.int (.ofNat 4), .int (.ofNat 2), .int (.ofNat 0), .int (.ofNat 1), .int (.ofNat 3)], .tuple [.int (.ofNat 0), .int (.ofNat 1), .int (.ofNat 2), .int (.ofNat 3), .int (.ofNat 4)]]], .tuple [.int (.ofNat 5)]),
  (.tuple [.tuple [.tuple [.int (.ofNat 0), .int (.ofNat 1), .int (.ofNat 2), .int (.ofNat 3), .int (.ofNat 4)], .tuple [.int (.ofNat 1), .int (.ofNat 4), .int (.ofNat 0), .int (.ofNat 2), .int (.ofNat 3)], .tuple [.int (.ofNat 2), .int (.ofNat 0), .int (.ofNat 3), .int (.ofNat 4), .int (.ofNat 1)], .tuple [.int (.ofNat 3), .int (.ofNat 2), .int (.ofNat 4), .int (.ofNat 1), .int (.ofNat 0)], .tuple [.int (.ofNat 4), .int (.ofNat 3), .int (.ofNat 1), .int (.ofNat 0), .int (.ofNat 2)]], .tuple [.tuple [.int (.ofNat 2), .int (.ofNat 0), .int (.ofNat 3), .int (.ofNat 4), .int (.ofNat 1)], .tuple [.int (.ofNat 0), .int (.ofNat 1), .int (.ofNat 2), .int (.ofNat 3), .int (.ofNat 4)], .tuple [.int (.ofNat 3), .int (.ofNat 2), .int (.ofNat 4), .int (.ofNat 1), .int (.ofNat 0)], .tuple [.int (.ofNat 4), .int (.ofNat 3), .int (.ofNat 1), .int (.ofNat 0), .int (.ofNat 2)], .tuple [.int (.ofNat 1), .int (.ofNat 4), .int (.ofNat 0), .int (.ofNat 2), .int (.ofNat 3)]], .tuple [.tuple [.int (.ofNat 1), .int (.ofNat 4), .int (.ofNat 0), .int (.ofNat 2), .int (.ofNat 3)], .tuple [.int (.ofNat 4), .int (.ofNat 3), .int (.ofNat 1), .int (.ofNat 0), .int (.ofNat 2)], .tuple [.int (.ofNat 0), .int (.ofNat 1), .int (.ofNat 2), .int (.ofNat 3), .int (.ofNat 4)], .tuple [.int (.ofNat 2), .int (.ofNat 0), .int (.ofNat 3), .int (.ofNat 4), .int (.ofNat 1)], .tuple [.int (.ofNat 3), .int (.ofNat 2), .int (.ofNat 4), .int (.ofNat 1), .int (.ofNat 0)]], .tuple [.tuple [.int (.ofNat 4), .int (.ofNat 3), .int (.ofNat 1), .int (.ofNat 0), .int (.ofNat 2)], .tuple [.int (.ofNat 3), .int (.ofNat 2), .int (.ofNat 4), .int (.ofNat 1), .int (.ofNat 0)], .tuple [.int (.ofNat 1), .int (.ofNat 4), .int (.ofNat 0), .int (.ofNat 2), .int (.ofNat 3)], .tuple [.int (.ofNat 0), .int (.ofNat 1), .int (.ofNat 2), .int (.ofNat 3), .int (.ofNat 4)], .tuple [.int (.ofNat 2), .int (.ofNat 0), .int (.ofNat 3), .int (.ofNat 4), .int (.ofNat 1)]], .tuple [.tuple [.int (.ofNat 3), .int (.ofNat 2), .int (.ofNat 4), .int (.ofNat 1), .int (.ofNat 0)], .tuple [.int (.ofNat 2), .int (.ofNat 0), .int (.ofNat 3), .int (.ofNat 4), .int (.ofNat 1)], .tuple [.int (.ofNat 4), .int (.ofNat 3), .int (.ofNat 1), .int (.ofNat 0), .int (.ofNat 2)], .tuple [.int (.ofNat 1), .int (.ofNat 4), .int (.ofNat 0), .int (.ofNat 2), .int (.ofNat 3)], .tuple [.int (.ofNat 0), .int (.ofNat 1), .int (.ofNat 2), .int (.ofNat 3), .int (.ofNat 4)]]], .tuple [.int (.ofNat 5)])]
def lsE0 : En := [.fz (.int (.ofNat 5)), .fz (.list [.tuple [.int (.ofNat 5)]]), .od [], .no, .no, .no, .no]
def lsE : En := [.fz (.int (.ofNat 5)), .fz (.list [.tuple [.int (.ofNat 5)]]), .od lsK, .fz (.tuple [.int (.ofNat 5)]), .no, .fz (.tuple [.tuple [.tuple [.int (.ofNat 0), .int (.ofNat 1), .int (.ofNat 2), .int (.ofNat 3), .int (.ofNat 4)], .tuple [.int (.ofNat 1), .int (.ofNat 2), .int (.ofNat 3), .int (.ofNat 4), .int (.ofNat 0)], .tuple [.int (.ofNat 2), .int (.ofNat 3), .int (.ofNat 4), .int (.ofNat 0), .int (.ofNat 1)], .tuple [.int (.ofNat 3), .int (.ofNat 4), .int (.ofNat 0), .int (.ofNat 1), .int (.ofNat 2)], .tuple [.int (.ofNat 4), .int (.ofNat 0), .int (.ofNat 1), .int (.ofNat 2), .int (.ofNat 3)]], .tuple [.tuple [.int (.ofNat 4), .int (.ofNat 0), .int (.ofNat 1), .int (.ofNat 2), .int (.ofNat 3)], .tuple [.int (.ofNat 0), .int (.ofNat 1), .int (.ofNat 2), .int (.ofNat 3), .int (.ofNat 4)], .tuple [.int (.ofNat 1), .int (.ofNat 2), .int (.ofNat 3), .int (.ofNat 4), .int (.ofNat 0)], .tuple [.int (.ofNat 2), .int (.ofNat 3), .int (.ofNat 4), .int (.ofNat 0), .int (.ofNat 1)], .tuple [.int (.ofNat 3), .int (.ofNat 4), .int (.ofNat 0), .int (.ofNat 1), .int (.ofNat 2)]], .tuple [.tuple [.int (.ofNat 3), .int (.ofNat 4), .int (.ofNat 0), .int (.ofNat 1), .int (.ofNat 2)], .tuple [.int (.ofNat 4), .int (.ofNat 0), .int (.ofNat 1), .int (.ofNat 2), .int (.ofNat 3)], .tuple [.int (.ofNat 0), .int (.ofNat 1), .int (.ofNat 2), .int (.ofNat 3), .int (.ofNat 4)], .tuple [.int (.ofNat 1), .int (.ofNat 2), .int (.ofNat 3), .int (.ofNat 4), .int (.ofNat 0)], .tuple [.int (.ofNat 2), .int (.ofNat 3), .int (.ofNat 4), .int (.ofNat 0), .int (.ofNat 1)]], .tuple [.tuple [.int (.ofNat 2), .int (.ofNat 3), .int (.ofNat 4), .int (.ofNat 0), .int (.ofNat 1)], .tuple [.int (.ofNat 3), .int (.ofNat 4), .int (.ofNat 0), .int (.ofNat 1), .int (.ofNat 2)], .tuple [.int (.ofNat 4), .int (.ofNat 0), .int (.ofNat 1), .int (.ofNat 2), .int (.ofNat 3)], .tuple [.int (.ofNat 0), .int (.ofNat 1), .int (.ofNat 2), .int (.ofNat 3), .int (.ofNat 4)], .tuple [.int (.ofNat 1), .int (.ofNat 2), .int (.ofNat 3), .int (.ofNat 4), .int (.ofNat 0)]], .tuple [.tuple [.int (.ofNat 1), .int (.ofNat 2), .int (.ofNat 3), .int (.ofNat 4), .int (.ofNat 0)], .tuple [.int (.ofNat 2), .int (.ofNat 3), .int (.ofNat 4), .int (.ofNat 0), .int (.ofNat 1)], .tuple [.int (.ofNat 3), .int (.ofNat 4), .int (.ofNat 0), .int (.ofNat 1), .int (.ofNat 2)], .tuple [.int (.ofNat 4), .int (.ofNat 0), .int (.ofNat 1), .int (.ofNat 2), .int (.ofNat 3)], .tuple [.int (.ofNat 0), .int (.ofNat 1), .int (.ofNat 2), .int (.ofNat 3), .int (.ofNat 4)]]]), .fz (.tuple [.int (.ofNat 4), .int (.ofNat 3), .int (.ofNat 2), .int (.ofNat 1), .int (.ofNat 0)])]
theorem ls_a : sOwnD 2 (argsE 5 [.int (.ofNat 5), .list [.tuple [.int (.ofNat 5)]]]) = some (.nx lsE0) := by kernel_rfl
theorem ls_f : lsF lsE0 = some (.nx lsE) := by kernel_rfl
theorem ls_r : lsR lsE = some (.rt (.bool true)) := by kernel_rfl
theorem nrl_5 : rf_law_listed_right [.int (.ofNat 5), .list [.tuple [.int (.ofNat 5)]]] = some (.bool true) := by
  unfold rf_law_listed_right
  rw [ls_eq]
  exact rfOf_rt (seq_join ls_a (seq_join ls_f ls_r))
theorem ev_1_4 : rf_law_number_right [.int (.ofNat 1), .int (.ofNat 4)] = some (.bool true) := nr_of (nrp_1 _) (nr_listed (by kernel_rfl) (by kernel_rfl) nrl_1)
theorem ev_2_4 : rf_law_number_right [.int (.ofNat 2), .int (.ofNat 4)] = some (.bool true) := nr_of (nrp_2 _) (nr_listed (by kernel_rfl) (by kernel_rfl) nrl_2)
theorem ev_3_4 : rf_law_number_right [.int (.ofNat 3), .int (.ofNat 4)] = some (.bool true) := nr_of (nrp_3 _) (nr_listed (by kernel_rfl) (by kernel_rfl) nrl_3)
theorem ev_4_4 : rf_law_number_right [.int (.ofNat 4), .int (.ofNat 4)] = some (.bool true) := nr_of (nrp_4 _) (nr_listed (by kernel_rfl) (by kernel_rfl) nrl_4)
theorem ev_5_4 : rf_law_number_right [.int (.ofNat 5), .int (.ofNat 4)] = some (.bool true) := nr_of (nrp_5 _) (by kernel_rfl)
theorem ev_6_4 : rf_law_number_right [.int (.ofNat 6), .int (.ofNat 4)] = some (.bool true) := nr_of (nrp_6 _) (by kernel_rfl)
theorem ev_7_4 : rf_law_number_right [.int (.ofNat 7), .int (.ofNat 4)] = some (.bool true) := nr_of (nrp_7 _) (by kernel_rfl)
theorem ev_8_4 : rf_law_number_right [.int (.ofNat 8), .int (.ofNat 4)] = some (.bool true) := nr_of (nrp_8 _) (by kernel_rfl)
theorem ev_9_4 : rf_law_number_right [.int (.ofNat 9), .int (.ofNat 4)] = some (.bool true) := nr_of (nrp_9 _) (by kernel_rfl)
theorem ev_10_4 : rf_law_number_right [.int (.ofNat 10), .int (.ofNat 4)] = some (.bool true) := nr_of (nrp_10 _) (by kernel_rfl)
theorem ev_11_4 : rf_law_number_right [.int (.ofNat 11), .int (.ofNat 4)] = some (.bool true) := nr_of (nrp_11 _) (by kernel_rfl)
theorem ev_12_4 : rf_law_number_right [.int (.ofNat 12), .int (.ofNat 4)] = some (.bool true) := nr_of (nrp_12 _) (by kernel_rfl)
theorem ev_1_5 : rf_law_number_right [.int (.ofNat 1), .int (.ofNat 5)] = some (.bool true) := nr_of (nrp_1 _) (nr_listed (by kernel_rfl) (by kernel_rfl) nrl_1)
theorem ev_2_5 : rf_law_number_right [.int (.ofNat 2), .int (.ofNat 5)] = some (.bool true) := nr_of (nrp_2 _) (nr_listed (by kernel_rfl) (by kernel_rfl) nrl_2)
theorem ev_3_5 : rf_law_number_right [.int (.ofNat 3), .int (.ofNat 5)] = some (.bool true) := nr_of (nrp_3 _) (nr_listed (by kernel_rfl) (by kernel_rfl) nrl_3)
theorem ev_4_5 : rf_law_number_right [.int (.ofNat 4), .int (.ofNat 5)] = some (.bool true) := nr_of (nrp_4 _) (nr_listed (by kernel_rfl) (by kernel_rfl) nrl_4)
theorem ev_5_5 : rf_law_number_right [.int (.ofNat 5), .int (.ofNat 5)] = some (.bool true) := nr_of (nrp_5 _) (nr_listed (by kernel_rfl) (by kernel_rfl) nrl_5)
theorem ev_6_5 : rf_law_number_right [.int (.ofNat 6), .int (.ofNat 5)] = some (.bool true) := nr_of (nrp_6 _) (by kernel_rfl)
theorem ev_7_5 : rf_law_number_right [.int (.ofNat 7), .int (.ofNat 5)] = some (.bool true) := nr_of (nrp_7 _) (by kernel_rfl)
theorem ev_8_5 : rf_law_number_right [.int (.ofNat 8), .int (.ofNat 5)] = some (.bool true) := nr_of (nrp_8 _) (by kernel_rfl)
theorem ev_9_5 : rf_law_number_right [.int (.ofNat 9), .int (.ofNat 5)] = some (.bool true) := nr_of (nrp_9 _) (by kernel_rfl)
theorem ev_10_5 : rf_law_number_right [.int (.ofNat 10), .int (.ofNat 5)] = some (.bool true) := nr_of (nrp_10 _) (by kernel_rfl)
theorem ev_11_5 : rf_law_number_right [.int (.ofNat 11), .int (.ofNat 5)] = some (.bool true) := nr_of (nrp_11 _) (by kernel_rfl)
theorem ev_12_5 : rf_law_number_right [.int (.ofNat 12), .int (.ofNat 5)] = some (.bool true) := nr_of (nrp_12 _) (by kernel_rfl)
theorem ev_all (n : Nat) (m : Int) (h1 : 1 ≤ n) (h2 : n ≤ 12) (hm : m = 4 ∨ m = 5) : rf_law_number_right [.int (n : Int), .int m] = some (.bool true) := by
  have h : n = 1 ∨ n = 2 ∨ n = 3 ∨ n = 4 ∨ n = 5 ∨ n = 6 ∨ n = 7 ∨ n = 8 ∨ n = 9 ∨ n = 10 ∨ n = 11 ∨ n = 12 := by omega
  rcases hm with rfl | rfl
  · rcases h with rfl | rfl | rfl | rfl | rfl | rfl | rfl | rfl | rfl | rfl | rfl | rfl
    · exact ev_1_4
    · exact ev_2_4
    · exact ev_3_4
    · exact ev_4_4
    · exact ev_5_4
    · exact ev_6_4
    · exact ev_7_4
    · exact ev_8_4
    · exact ev_9_4
    · exact ev_10_4
    · exact ev_11_4
    · exact ev_12_4
  · rcases h with rfl | rfl | rfl | rfl | rfl | rfl | rfl | rfl | rfl | rfl | rfl | rfl
    · exact ev_1_5
    · exact ev_2_5
    · exact ev_3_5
    · exact ev_4_5
    · exact ev_5_5
    · exact ev_6_5
    · exact ev_7_5
    · exact ev_8_5
    · exact ev_9_5
    · exact ev_10_5
    · exact ev_11_5
    · exact ev_12_5
end K67
set_option Elab.async false
set_option linter.all false
set_option maxRecDepth 100000
set_option maxHeartbeats 4000000
namespace K67
open PySem PySem.Spec PyProof.Rows L2
/-! ### the head's facts -/
abbrev lawR : PySem.W.OpenLaw := PySem.Challenge.rw_editlots_k67_whole_counts_beside_listing
theorem more_parts {K KT : PySem.W.Frag} (h : moreB file0 K KT = true) : tabB KT "table_from" = true ∧ tabB KT "_law_refused_right" = true ∧ initB file0 K = true ∧ (∀ i, clsB K i = true) ∧ exmB K 0 0 true = true ∧ exmB K 1 0 false = true ∧ exmB K 1 1 true = true ∧ exmB K 2 0 false = true ∧ exmB K 2 1 false = true ∧ exmB K 2 2 true = true := by
  unfold moreB at h
  obtain ⟨h1, h⟩ := He.ba h
  obtain ⟨h2, h⟩ := He.ba h
  obtain ⟨h3, h⟩ := He.ba h
  obtain ⟨c0, h⟩ := He.ba h
  obtain ⟨c1, h⟩ := He.ba h
  obtain ⟨c2, h⟩ := He.ba h
  obtain ⟨e1, h⟩ := He.ba h
  obtain ⟨e2, h⟩ := He.ba h
  obtain ⟨e3, h⟩ := He.ba h
  obtain ⟨e4, h⟩ := He.ba h
  obtain ⟨e5, e6⟩ := He.ba h
  refine ⟨h1, h2, h3, fun i => ?_, e1, e2, e3, e4, e5, e6⟩
  match i with
  | 0 => exact c0
  | 1 => exact c1
  | 2 => exact c2
  | n + 3 => exact c2
theorem exm_ok {K : PySem.W.Frag} {i j : Nat} {b : Bool} (h : exmB K i j b = true) : PySem.W.exmOne K (.ref (ca K i)) (.ref (ca K j)) = some b := of_decide_eq_true h
theorem mdh_of {h : Heap} {mg : Str → Option Value} {K KT : PySem.W.Frag} (S : SaysT h K KT) (G : h.Ns mainGlobals mg) : MdH lawR.prog K mg := by
  obtain ⟨X, XT, _, c, mo, hv⟩ := S
  obtain ⟨_, _, hi, hc, e1, e2, e3, e4, e5, e6⟩ := more_parts mo
  obtain ⟨cc, cd, T⟩ := initB_ok (P := lawR.prog) hv hi (by kernel_rfl)
  have cls : ∀ i, PySem.W.nsIn K mainGlobals (cname i) = some (some (.ref (ca K i))) ∧ InitC K (ca K i) (He.ga K "Refused") ∧ PySem.W.findIn K (.ref (ca K i)) "__init__" = some (some (.ref (fIA K))) ∧ XfC K (ca K i) ∧ PySem.W.typeIn K (.ref (fIA K)) = some (.type "function") := fun i => by
    have z := hc i
    unfold clsB at z
    obtain ⟨z1, z⟩ := He.ba z
    obtain ⟨z2, z⟩ := He.ba z
    obtain ⟨z3, z⟩ := He.ba z
    obtain ⟨z4, z5⟩ := He.ba z
    exact ⟨He.eqO_ok z1, initCB_ok z2, He.eqO_ok z3, xfB_ok z4, of_decide_eq_true z5⟩
  have gl : ∀ i, mg (cname i) = some (.ref (ca K i)) := fun i => PySem.W.mg_of X G (cls i).1
  exact { ex := ⟨fIA K, He.ga K "Refused", cc, cd, T, (cls 0).2.2.2.2, fun i => ⟨gl i, (cls i).2.1, (cls i).2.2.1⟩⟩
          xf := fun i _ => (cls i).2.2.2.1
          no := fun i _ => (cls i).2.1.no
          e00 := exm_ok e1, e10 := exm_ok e2, e11 := exm_ok e3, e20 := exm_ok e4, e21 := exm_ok e5, e22 := exm_ok e6
          g0 := gl 0, g1 := gl 1, g2 := gl 2
          g3 := ⟨_, He.glo_ok X G (c.fact 83 (f := .glo "Refused") rfl)⟩ }
/-- the two tables of code objects -/
structure Tabs2 (h : Heap) (K : PySem.W.Frag) (mg : Str → Option Value) (c1 p1 c2 p2 : Addr) : Prop where
  d1 : PySem.W.CodeHd h c1 p1
  d2 : PySem.W.CodeHd h c2 p2
  o1 : h.get? p1 = some { cls := .none, data := .fields #[] }
  o2 : h.get? p2 = some { cls := .none, data := .fields #[] }
  n1 : K.lookup p1 = none
  n2 : K.lookup p2 = none
  f1 : ∀ oc od fd osl, K.lookup (He.ga K "table_from") = some ⟨oc, od, .func fd, osl⟩ → fd.code = .ref c1
  f2 : ∀ oc od fd osl, K.lookup (He.ga K "_law_refused_right") = some ⟨oc, od, .func fd, osl⟩ → fd.code = .ref c2
theorem tabs_of {h : Heap} {mg : Str → Option Value} {K KT : PySem.W.Frag} (S : SaysT h K KT) (G : h.Ns mainGlobals mg) : ∃ c1 p1 c2 p2, Tabs2 h K mg c1 p1 c2 p2 := by
  obtain ⟨X, XT, nt, c, mo, hv⟩ := S
  obtain ⟨t1, t2, _⟩ := more_parts mo
  obtain ⟨c1, p1, q1, d1, o1⟩ := tabB_ok XT t1
  obtain ⟨c2, p2, q2, d2, o2⟩ := tabB_ok XT t2
  have away : ∀ p, h.get? p = some { cls := .none, data := .fields #[] } → K.lookup p = none := fun p e => by
    cases q : K.lookup p with
    | none => rfl
    | some o =>
      have z := X p o q
      rw [e] at z
      cases z
      have z2 := nt p _ q
      cases z2
  refine ⟨c1, p1, c2, p2, d1, d2, o1, o2, away p1 o1, away p2 o2, fun oc od fd osl hl => ?_, fun oc od fd osl hl => ?_⟩
  · exact PySem.W.law_code XT G q1 (He.glo_ok X G (c.fact 22 (f := .glo "table_from") rfl)) (X _ _ hl) rfl
  · exact PySem.W.law_code XT G q2 (He.glo_ok X G (c.fact 64 (f := .glo "_law_refused_right") rfl)) (X _ _ hl) rfl
end K67
set_option Elab.async false
set_option linter.all false
set_option maxRecDepth 100000
set_option maxHeartbeats 4000000
namespace K67
open PySem PySem.Spec PyProof.Rows L2
/-! ### the law's call, from the head's state -/
def scrO (vs : List Value) : Obj := { cls := .type "list", data := .seq vs.toArray }
/-- what is tracked at the law's entry: the two tables, the script where the written part has it not -/
def entH (K : PySem.W.Frag) (p1 p2 a : Addr) (vs : List Value) (ns : List Int) : Hp := fun b => if b = p1 ∨ b = p2 then some (.tbl #[]) else if b = a ∧ K.lookup a = none then some (.frz (scrO vs) (.lst (ns.map V.int))) else none
section
variable {w : World} {s : Shared} {mg mb : Str → Option Value} {K KT : PySem.W.Frag} {c1 p1 c2 p2 a fa : Addr} {vs : List Value} {ns : List Int}
theorem entH_cases {b : Addr} {u : HO} (h : entH K p1 p2 a vs ns b = some u) : ((b = p1 ∨ b = p2) ∧ u = .tbl #[]) ∨ (b = a ∧ K.lookup a = none ∧ u = .frz (scrO vs) (.lst (ns.map V.int))) := by
  unfold entH at h
  split at h
  · rename_i q; cases h; exact .inl ⟨q, rfl⟩
  · split at h
    · rename_i q; cases h; exact .inr ⟨q.1, q.2, rfl⟩
    · cases h
theorem law_end (S : SaysT s.heap K KT) (G : s.heap.Ns mainGlobals mg) (B : s.heap.Ns builtinsNs mb) (hbb : ∀ x : Str, x ≠ "__name__" → mb x = bootBuiltins x) (lim : s.heap.NoLimit) (hg : s.gens = #[])
    (hbm : ∃ (bm : Addr) (ob : Obj), mg "__builtins__" = some (.ref bm) ∧ bm ≠ builtinsNs ∧ s.heap.get? bm = some ob ∧ ob.cls = .type "module" ∧ ob.dict = some builtinsNs ∧ ob.data = .plain)
    (ha : s.heap.get? a = some (scrO vs)) (hi : IntsAre vs ns) (hl : ns.length ≤ sizeLine) (hfa : mg "law" = some (.ref fa)) :
    codeAny (model lawR.prog w) callerA (.call (.ref fa) ⟨[.ref a], []⟩) (fun r s' => r = .ok (.ret (.bool true)) ∧ OldK s.heap s'.heap ∧ s'.os = s.os ∧ AllBare s'.gens) s := by
  obtain ⟨c1, p1, c2, p2, TT⟩ := tabs_of S G
  have MH := mdh_of S G
  obtain ⟨X, XT, nt, cc, mo, hv⟩ := S
  letI : TabA := ⟨p1, p2⟩
  have rv := vals_ints hi
  obtain ⟨H, eH⟩ : ∃ H : Hp, H = entH K p1 p2 a vs ns := ⟨_, rfl⟩
  have ap : ∀ {b : Addr}, b = p1 ∨ b = p2 → s.heap.get? b = some { cls := .none, data := .fields #[] } := fun {b} q => by
    rcases q with rfl | rfl
    · exact TT.o1
    · exact TT.o2
  have an : ¬ (a = p1 ∨ a = p2) := fun q => by
    have z := ap q
    rw [ha] at z
    cases z
  have H1 : H p1 = some (.tbl #[]) := by rw [eH]; exact if_pos (.inl rfl)
  have H2 : H p2 = some (.tbl #[]) := by rw [eH]; exact if_pos (.inr rfl)
  have hc : ∀ {b u}, H b = some u → ((b = p1 ∨ b = p2) ∧ u = .tbl #[]) ∨ (b = a ∧ K.lookup a = none ∧ u = .frz (scrO vs) (.lst (ns.map V.int))) := fun {b u} h => entH_cases (eH ▸ h)
  -- an object that is no list and no table is not tracked
  have clear : ∀ {b : Addr} {o : Obj}, s.heap.get? b = some o → (∀ us n, o.data ≠ .seq us n) → o.data ≠ .fields #[] → H b = none := fun {b o} e q1 q2 => by
    cases z : H b with
    | none => rfl
    | some u =>
      rcases hc z with ⟨y, _⟩ | ⟨rfl, _, _⟩
      · rw [ap y] at e; cases e; exact (q2 rfl).elim
      · rw [ha] at e; cases e; exact (q1 _ _ rfl).elim
  have dict : ∀ {b : Addr} {o : Obj} {es : Array DictEntry} {ep : Nat}, s.heap.get? b = some o → o.data = .dict es ep → H b = none := fun {b o es ep} e d => clear e (fun us n z => by rw [d] at z; cases z) fun z => by rw [d] at z; cases z
  have into : ∀ {b : Addr} {o : Obj}, s.heap.get? b = some o → H b = none → (hidT s.heap H).get? b = some o := fun e n => hidT_get e n
  have nsI : ∀ {b : Addr} {m : Str → Option Value}, s.heap.Ns b m → (hidT s.heap H).Ns b m := fun {b m} ⟨o, es, ep, e, d, r⟩ => ⟨o, es, ep, into e (dict e d), d, r⟩
  have KB : K.In (hidT s.heap H) := fun b o e => into (X b o e) (by
    cases z : H b with
    | none => rfl
    | some u =>
      rcases hc z with ⟨rfl | rfl, _⟩ | ⟨rfl, n, _⟩
      · rw [TT.n1] at e; cases e
      · rw [TT.n2] at e; cases e
      · rw [n] at e; cases e)
  have mod : L2.Mod K mg (hidT s.heap H) := ⟨KB, nsI G, ⟨mb, nsI B, hbb⟩, let ⟨mc, h1, h2⟩ := lim; ⟨mc, nsI h1, h2⟩⟩
  have hdB : ∀ {c p}, PySem.W.CodeHd s.heap c p → PySem.W.CodeHd (hidT s.heap H) c p := fun {c p} ⟨o, us, x1, x2, x3, x4, x5, x6, x7, e, r0, r1, r2, r⟩ =>
    ⟨o, us, x1, x2, x3, x4, x5, x6, x7, into e (clear e (fun vs n z => by rw [r1] at z; cases z) fun z => by
      rw [r1] at z
      cases z
      simp at r2), r0, r1, r2, r⟩
  have tabB_ : ∀ {c p}, PySem.W.CodeHd s.heap c p → (p = p1 ∨ p = p2) → LamX.TabB (hidT s.heap H) mg c p := fun {c p} d q => by
    refine ⟨hdB d, ?_, fun z => ?_⟩
    · obtain ⟨bm, ob, b1, b2, b3, b4, b5, b6⟩ := hbm
      refine ⟨bm, ob, b1, b2, fun z => ?_, fun z => ?_, into b3 (clear b3 (fun us n z => by rw [b6] at z; cases z) fun z => by rw [b6] at z; cases z), b4, b5, b6⟩
      · obtain ⟨o, es, ep, e, d', _⟩ := G
        rw [z, e] at b3
        cases b3
        rw [d'] at b6
        cases b6
      · rw [z, ap q] at b3
        cases b3
        cases b6
    · obtain ⟨o, es, ep, e, d', _⟩ := G
      rw [z, ap q] at e
      cases e
      cases d'
  have T : MdT K mg (hidT s.heap H) := ⟨⟨KB, nsI G, cc⟩, ⟨c1, tabB_ TT.d1 (.inl rfl), TT.f1⟩, ⟨c2, tabB_ TT.d2 (.inr rfl), TT.f2⟩⟩
  have ok : HOk lawR.prog w H s.heap := fun b u e => by
    rcases hc e with ⟨y, rfl⟩ | ⟨rfl, _, rfl⟩
    · exact ap y
    · exact ⟨ha, by rw [List.length_map]; exact hl, vs, _, rv, ha⟩
  have sq : SqL K H a (ns.map V.int) := by
    cases z : K.lookup a with
    | none => exact .inl (.inr ⟨scrO vs, by rw [eH]; unfold entH; rw [if_neg an, if_pos ⟨rfl, z⟩]⟩)
    | some o =>
      have e := X a o z
      rw [ha] at e
      cases e
      exact .inr ⟨_, vs.toArray, _, z, rfl, rfl, rfl, by rw [List.size_toArray, ← rv.length, List.length_map]; exact hl, by simpa using rv⟩
  have told : Told (fun _ => none) H := by
    refine ⟨fun p ps e => ?_, ⟨_, H1⟩, ⟨_, H2⟩⟩
    rcases hc e with ⟨_, q⟩ | ⟨_, _, q⟩
    · cases q
      exact ⟨trivial, fun pos cv h => by simp [codeAmong] at h⟩
    · cases q
  obtain ⟨f, fd, run, hm, _, hb⟩ := fs_law (w := w) T MH ev_all
  rw [hfa] at hm
  cases hm
  have e0 : Env0 lawR.prog w K mg (hidT s.heap H) callerA [] s H := ⟨rfl, mod, fun b o e => of_hidT e, Nat.le_of_eq (hidT_size _ _), trivial, (fun b hb => nomatch (show b ∈ ([] : List Addr) from hb)), ok, .of_eq hg⟩
  refine codeAny_mono (run callerA [] s H ⟨[.ref a], []⟩ [.ref a] [.ref a] (fun v _ => v = .bl true) E0 rfl ⟨rfl, by decide, by decide⟩ e0 (hb s [.ref a] X rfl) (.cons rfl .nil) ⟨a, ns, rfl, sq, told, fun _ => rfl⟩) fun r s' h => ?_
  cases r with
  | error e => exact False.elim h
  | ok fl =>
    cases fl with
    | next => exact False.elim h
    | brk => exact False.elim h
    | cont => exact False.elim h
    | ret u =>
      obtain ⟨v, H', os, bare, un, ok', rvu, rfl⟩ := h
      obtain rfl : u = Value.bool true := rvu
      have grown : ∀ {p}, (p = p1 ∨ p = p2) → ∃ more : Array Value, s'.heap.get? p = some { cls := .none, data := .fields more } := fun {p} y => by
        obtain ⟨more, z⟩ := un.tbls p #[] (by rcases y with rfl | rfl; exact H1; exact H2)
        exact ⟨_, ok' p _ z⟩
      have kept : ∀ b o, ¬ (b = p1 ∨ b = p2) → s.heap.get? b = some o → s'.heap.get? b = some o := fun b o y e => by
        cases z : H b with
        | none => exact un.keep b o e z (fun q => nomatch (show b ∈ ([] : List Addr) from q)) (fun q => nomatch q)
        | some u =>
          rcases hc z with ⟨y', _⟩ | ⟨rfl, _, rfl⟩
          · exact absurd y' y
          · have z2 := un.frzs _ _ _ z
            rw [ha] at e
            cases e
            exact (show ObjOk lawR.prog w H' s'.heap b (.frz (scrO vs) (.lst (ns.map V.int))) from ok' b _ z2).1
      refine ⟨rfl, ⟨fun b o e => ?_, fun b o e => ?_⟩, os, bare⟩
      · by_cases y : b = p1 ∨ b = p2
        · obtain ⟨more, hm⟩ := grown y
          rw [ap y] at e
          cases e
          have ct : isCodeTable s.heap b := by
            rcases y with rfl | rfl
            · exact (TT.d1.tab TT.o1).isCodeTable
            · exact (TT.d2.tab TT.o2).isCodeTable
          exact .inr (.inl ⟨ct, rfl, #[], more, rfl, by rw [Array.empty_append]; exact hm⟩)
        · exact .inl (kept b o y e)
      · by_cases y : b = p1 ∨ b = p2
        · obtain ⟨more, hm⟩ := grown y
          exact ⟨_, hm⟩
        · exact ⟨o, kept b o y e⟩
end
end K67
set_option Elab.async false
set_option linter.all false
open PySem PySem.W PySem.Calls PyProof.Rows
set_option maxRecDepth 100000 in
set_option maxHeartbeats 0 in
theorem PySem.Challenge.cw_editlots_k67_whole_counts_beside_listing_holds : PySem.Challenge.rw_editlots_k67_whole_counts_beside_listing.Holds := by
  w_on; o_law
  refine HandSHeadRun.head_any (r := OpenLaw.row PySem.Challenge.rw_editlots_k67_whole_counts_beside_listing) (q := view (OpenLaw.row PySem.Challenge.rw_editlots_k67_whole_counts_beside_listing).prog [84]) (H := K67.hkT) (ob := K67.obT) (M := 6000) (loose := K67.loose) (d := HandSHeadRun.topDef (OpenLaw.row PySem.Challenge.rw_editlots_k67_whole_counts_beside_listing).prog 84) (kwd := []) K67.obT_eq
    (by kernel_rfl) (fun s => by kernel_rfl) K67.runT (by kernel_rfl) (by kernel_rfl) (by kernel_rfl) (by rfl) (by first | assumption | decide +kernel) (by decide +kernel) ⟨rfl, rfl, rfl, rfl, rfl, by decide +kernel⟩ ?hw ?hc
  case hw => w_witness2
  case hc =>
    refine Att.attach_callB (l := PySem.Challenge.rw_editlots_k67_whole_counts_beside_listing) (n := 63) rfl (by kernel_rfl) fun w s₀ s₁ mg mb fa o pm cd doc a vs ns G Y ho hd hcd hmg0 hobj hints hlen hbits hg => ?_
    obtain ⟨K, KT, S⟩ := Y
    have hmg : mg ("law" : PySem.Str) = some (.ref fa) := by
      have e : (HandSHeadRun.topDef (OpenLaw.row PySem.Challenge.rw_editlots_k67_whole_counts_beside_listing).prog 84).name = ("law" : PySem.Str) := by kernel_rfl
      rw [← e]
      exact hmg0
    exact K67.law_end S G.T.g G.T.b G.T.builtins G.T.nolimit hg G.T.bmain hobj hints (Nat.le_trans hlen (by decide)) hmg
