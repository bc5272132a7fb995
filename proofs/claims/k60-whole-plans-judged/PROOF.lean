import PyProof.Rows.All
import Wide.All
import OpenK.AllK
import Wide.FinOn
import KE.KStateDown
import HandS.ForMost
import HandS.More
import HandS.Words
import HandS.Defaults
import HandS.Property
import HandS.IsInst
import HandS.Head0
import HandS.Head1
import HandS.Head2
import HandS.HeadEnd
import HandS.HeadHook1
import HandS.HeadHook2
import HandS.Deep
import HandS.Flow
import HandS.Style
import HandS.FStr
import HandS.DictComp
import HandS.TupAny
import HandS.Zip
import HandS.Star
import HandS.Codes
import HandS.TryOnly
import HandS.Steps
import HandS.ListItems
import HandS.Sort
import HandS.TupLe
import HandS.Walk
import KE.DataMinMax
import KE.GoesEnumKw
import HandS.DictTup
import PySem.Challenge.RW_canwalks_k60_whole_plans_judged
set_option Elab.async false
set_option linter.all false
set_option maxRecDepth 100000
set_option maxHeartbeats 0
/-! The head: what the top of the program leaves, by facts. -/
namespace Cw
open PySem PySem.Spec PyProof.Rows L2
def top (i : Nat) : Stmt := PySem.Challenge.pw_canwalks_k60_whole_plans_judged.main.body.getD i (.Pass ⟨0, 0, 0, 0⟩)
abbrev FnP (K : PySem.W.Frag) (x q : Str) (st : Stmt) (f : Addr) (fd : FuncData) : Prop := FunD K x q (defArgs st) (defBody st) (defScope st) [] [] f fd
abbrev s__wall : Stmt := top 0
abbrev s_is_integer : Stmt := top 14
abbrev s_is_between : Stmt := top 15
abbrev s_check_number : Stmt := top 16
abbrev s_gcd_of : Stmt := top 17
abbrev s_can_in : Stmt := top 20
abbrev s_items_in : Stmt := top 21
abbrev s_Garden_init : Stmt := inClass (top 22) 0
abbrev s_Garden_text : Stmt := inClass (top 22) 1
abbrev s_Garden_can : Stmt := inClass (top 22) 2
abbrev s_Garden_beds : Stmt := inClass (top 22) 3
abbrev s_check_garden : Stmt := top 23
abbrev s_is_count : Stmt := top 27
abbrev s_garden_of : Stmt := top 28
abbrev s_are_told : Stmt := top 29
abbrev s_Strip_init : Stmt := inClass (top 30) 0
abbrev s_is_bill : Stmt := top 31
abbrev s_most_of_bill : Stmt := top 32
abbrev s_shows_least : Stmt := top 33
abbrev s_are_poured : Stmt := top 34
abbrev s_steps_of : Stmt := top 35
abbrev s_shows_most : Stmt := top 36
abbrev s_accepts : Stmt := top 40
abbrev s_check_taps : Stmt := top 42
abbrev s_check_row : Stmt := top 43
abbrev s_item_at : Stmt := top 44
abbrev s_is_tapped : Stmt := top 45
abbrev s_wants : Stmt := top 46
abbrev s_up_to : Stmt := top 47
abbrev s_place_of_litre : Stmt := top 48
abbrev s_sum_of_places : Stmt := top 50
abbrev s_Gap_init : Stmt := inClass (top 51) 0
abbrev s_Gap_from_left : Stmt := inClass (top 51) 1
abbrev s_Gap_from_right : Stmt := inClass (top 51) 2
abbrev s_Gap_both : Stmt := inClass (top 51) 3
abbrev s_Gap_is_better : Stmt := inClass (top 51) 4
abbrev s_Gap_best_with : Stmt := inClass (top 51) 5
abbrev s_Gap_best_split : Stmt := inClass (top 51) 6
abbrev s_Gap_cost_alone : Stmt := inClass (top 51) 7
abbrev s_Gap_cost_across : Stmt := inClass (top 51) 8
abbrev s_last_wanting : Stmt := top 53
abbrev s_next_own_tap : Stmt := top 54
abbrev s_tap_before : Stmt := top 55
abbrev s_tap_behind : Stmt := top 56
abbrev s_pours_of : Stmt := top 58
abbrev s_walks_back : Stmt := top 59
abbrev s_Crossing_init : Stmt := inClass (top 60) 0
abbrev s_plan_of : Stmt := top 61
abbrev s_plan : Stmt := top 62
abbrev s__law_bag : Stmt := top 64
abbrev s__law_take : Stmt := top 65
abbrev s__law_any : Stmt := top 66
abbrev s__law_soil : Stmt := top 67
abbrev s__law_text : Stmt := top 68
abbrev s__law_needs : Stmt := top 69
abbrev s__law_stops : Stmt := top 70
abbrev s__law_spread : Stmt := top 71
abbrev s__law_sums : Stmt := top 72
abbrev s__law_alone : Stmt := top 73
abbrev s__law_across : Stmt := top 74
abbrev s__law_least : Stmt := top 75
abbrev s__law_is_int : Stmt := top 76
abbrev s__law_are_pours : Stmt := top 77
abbrev s__law_steps : Stmt := top 78
abbrev s__law_plan_length : Stmt := top 79
abbrev s__law_told : Stmt := top 80
abbrev s__law_naive : Stmt := top 81
abbrev s__law_bent_walk : Stmt := top 82
abbrev s__law_bent_sheet : Stmt := top 83
abbrev s__law_right : Stmt := top 84
abbrev s_law : Stmt := top 85
def d_is_integer : He.DefD := ⟨("is_integer", none), "is_integer", "is_integer", defArgs s_is_integer, defBody s_is_integer, defScope s_is_integer, [], []⟩
def d_is_between : He.DefD := ⟨("is_between", none), "is_between", "is_between", defArgs s_is_between, defBody s_is_between, defScope s_is_between, [], []⟩
def d_check_number : He.DefD := ⟨("check_number", none), "check_number", "check_number", defArgs s_check_number, defBody s_check_number, defScope s_check_number, [], []⟩
def d_gcd_of : He.DefD := ⟨("gcd_of", none), "gcd_of", "gcd_of", defArgs s_gcd_of, defBody s_gcd_of, defScope s_gcd_of, [], []⟩
def d_can_in : He.DefD := ⟨("can_in", none), "can_in", "can_in", defArgs s_can_in, defBody s_can_in, defScope s_can_in, [], []⟩
def d_items_in : He.DefD := ⟨("items_in", none), "items_in", "items_in", defArgs s_items_in, defBody s_items_in, defScope s_items_in, [], []⟩
def d_Garden_init : He.DefD := ⟨("Garden", some "__init__"), "__init__", "Garden.__init__", defArgs s_Garden_init, defBody s_Garden_init, defScope s_Garden_init, [], []⟩
def d_check_garden : He.DefD := ⟨("check_garden", none), "check_garden", "check_garden", defArgs s_check_garden, defBody s_check_garden, defScope s_check_garden, [], []⟩
def d_is_count : He.DefD := ⟨("is_count", none), "is_count", "is_count", defArgs s_is_count, defBody s_is_count, defScope s_is_count, [], []⟩
def d_garden_of : He.DefD := ⟨("garden_of", none), "garden_of", "garden_of", defArgs s_garden_of, defBody s_garden_of, defScope s_garden_of, [], []⟩
def d_are_told : He.DefD := ⟨("are_told", none), "are_told", "are_told", defArgs s_are_told, defBody s_are_told, defScope s_are_told, [], []⟩
def d_Strip_init : He.DefD := ⟨("Strip", some "__init__"), "__init__", "Strip.__init__", defArgs s_Strip_init, defBody s_Strip_init, defScope s_Strip_init, [], []⟩
def d_are_poured : He.DefD := ⟨("are_poured", none), "are_poured", "are_poured", defArgs s_are_poured, defBody s_are_poured, defScope s_are_poured, [], []⟩
def d_steps_of : He.DefD := ⟨("steps_of", none), "steps_of", "steps_of", defArgs s_steps_of, defBody s_steps_of, defScope s_steps_of, [], []⟩
def d_shows_most : He.DefD := ⟨("shows_most", none), "shows_most", "shows_most", defArgs s_shows_most, defBody s_shows_most, defScope s_shows_most, [], []⟩
def d_accepts : He.DefD := ⟨("accepts", none), "accepts", "accepts", defArgs s_accepts, defBody s_accepts, defScope s_accepts, [], []⟩
def d_check_taps : He.DefD := ⟨("check_taps", none), "check_taps", "check_taps", defArgs s_check_taps, defBody s_check_taps, defScope s_check_taps, [], []⟩
def d_check_row : He.DefD := ⟨("check_row", none), "check_row", "check_row", defArgs s_check_row, defBody s_check_row, defScope s_check_row, [], []⟩
def d_item_at : He.DefD := ⟨("item_at", none), "item_at", "item_at", defArgs s_item_at, defBody s_item_at, defScope s_item_at, [], []⟩
def d_is_tapped : He.DefD := ⟨("is_tapped", none), "is_tapped", "is_tapped", defArgs s_is_tapped, defBody s_is_tapped, defScope s_is_tapped, [], []⟩
def d_wants : He.DefD := ⟨("wants", none), "wants", "wants", defArgs s_wants, defBody s_wants, defScope s_wants, [], []⟩
def d_up_to : He.DefD := ⟨("up_to", none), "up_to", "up_to", defArgs s_up_to, defBody s_up_to, defScope s_up_to, [], []⟩
def d_place_of_litre : He.DefD := ⟨("place_of_litre", none), "place_of_litre", "place_of_litre", defArgs s_place_of_litre, defBody s_place_of_litre, defScope s_place_of_litre, [], []⟩
def d_sum_of_places : He.DefD := ⟨("sum_of_places", none), "sum_of_places", "sum_of_places", defArgs s_sum_of_places, defBody s_sum_of_places, defScope s_sum_of_places, [], []⟩
def d_Gap_init : He.DefD := ⟨("Gap", some "__init__"), "__init__", "Gap.__init__", defArgs s_Gap_init, defBody s_Gap_init, defScope s_Gap_init, [], []⟩
def d_Gap_from_left : He.DefD := ⟨("Gap", some "from_left"), "from_left", "Gap.from_left", defArgs s_Gap_from_left, defBody s_Gap_from_left, defScope s_Gap_from_left, [], []⟩
def d_Gap_from_right : He.DefD := ⟨("Gap", some "from_right"), "from_right", "Gap.from_right", defArgs s_Gap_from_right, defBody s_Gap_from_right, defScope s_Gap_from_right, [], []⟩
def d_Gap_both : He.DefD := ⟨("Gap", some "both"), "both", "Gap.both", defArgs s_Gap_both, defBody s_Gap_both, defScope s_Gap_both, [], []⟩
def d_Gap_is_better : He.DefD := ⟨("Gap", some "is_better"), "is_better", "Gap.is_better", defArgs s_Gap_is_better, defBody s_Gap_is_better, defScope s_Gap_is_better, [], []⟩
def d_Gap_best_with : He.DefD := ⟨("Gap", some "best_with"), "best_with", "Gap.best_with", defArgs s_Gap_best_with, defBody s_Gap_best_with, defScope s_Gap_best_with, [], []⟩
def d_Gap_best_split : He.DefD := ⟨("Gap", some "best_split"), "best_split", "Gap.best_split", defArgs s_Gap_best_split, defBody s_Gap_best_split, defScope s_Gap_best_split, [], []⟩
def d_Gap_cost_alone : He.DefD := ⟨("Gap", some "cost_alone"), "cost_alone", "Gap.cost_alone", defArgs s_Gap_cost_alone, defBody s_Gap_cost_alone, defScope s_Gap_cost_alone, [], []⟩
def d_Gap_cost_across : He.DefD := ⟨("Gap", some "cost_across"), "cost_across", "Gap.cost_across", defArgs s_Gap_cost_across, defBody s_Gap_cost_across, defScope s_Gap_cost_across, [], []⟩
def d_last_wanting : He.DefD := ⟨("last_wanting", none), "last_wanting", "last_wanting", defArgs s_last_wanting, defBody s_last_wanting, defScope s_last_wanting, [], []⟩
def d_next_own_tap : He.DefD := ⟨("next_own_tap", none), "next_own_tap", "next_own_tap", defArgs s_next_own_tap, defBody s_next_own_tap, defScope s_next_own_tap, [], []⟩
def d_tap_before : He.DefD := ⟨("tap_before", none), "tap_before", "tap_before", defArgs s_tap_before, defBody s_tap_before, defScope s_tap_before, [], []⟩
def d_tap_behind : He.DefD := ⟨("tap_behind", none), "tap_behind", "tap_behind", defArgs s_tap_behind, defBody s_tap_behind, defScope s_tap_behind, [], []⟩
def d_pours_of : He.DefD := ⟨("pours_of", none), "pours_of", "pours_of", defArgs s_pours_of, defBody s_pours_of, defScope s_pours_of, [], []⟩
def d_walks_back : He.DefD := ⟨("walks_back", none), "walks_back", "walks_back", defArgs s_walks_back, defBody s_walks_back, defScope s_walks_back, [], []⟩
def d_Crossing_init : He.DefD := ⟨("Crossing", some "__init__"), "__init__", "Crossing.__init__", defArgs s_Crossing_init, defBody s_Crossing_init, defScope s_Crossing_init, [], []⟩
def d_plan_of : He.DefD := ⟨("plan_of", none), "plan_of", "plan_of", defArgs s_plan_of, defBody s_plan_of, defScope s_plan_of, [], []⟩
def d_plan : He.DefD := ⟨("plan", none), "plan", "plan", defArgs s_plan, defBody s_plan, defScope s_plan, [.adr (He.dflAt ("plan", none) 0)], []⟩
def d__law_bag : He.DefD := ⟨("_law_bag", none), "_law_bag", "_law_bag", defArgs s__law_bag, defBody s__law_bag, defScope s__law_bag, [], []⟩
def d__law_take : He.DefD := ⟨("_law_take", none), "_law_take", "_law_take", defArgs s__law_take, defBody s__law_take, defScope s__law_take, [], []⟩
def d__law_any : He.DefD := ⟨("_law_any", none), "_law_any", "_law_any", defArgs s__law_any, defBody s__law_any, defScope s__law_any, [], []⟩
def d__law_soil : He.DefD := ⟨("_law_soil", none), "_law_soil", "_law_soil", defArgs s__law_soil, defBody s__law_soil, defScope s__law_soil, [], []⟩
def d__law_text : He.DefD := ⟨("_law_text", none), "_law_text", "_law_text", defArgs s__law_text, defBody s__law_text, defScope s__law_text, [], []⟩
def d__law_needs : He.DefD := ⟨("_law_needs", none), "_law_needs", "_law_needs", defArgs s__law_needs, defBody s__law_needs, defScope s__law_needs, [], []⟩
def d__law_stops : He.DefD := ⟨("_law_stops", none), "_law_stops", "_law_stops", defArgs s__law_stops, defBody s__law_stops, defScope s__law_stops, [], []⟩
def d__law_spread : He.DefD := ⟨("_law_spread", none), "_law_spread", "_law_spread", defArgs s__law_spread, defBody s__law_spread, defScope s__law_spread, [], []⟩
def d__law_sums : He.DefD := ⟨("_law_sums", none), "_law_sums", "_law_sums", defArgs s__law_sums, defBody s__law_sums, defScope s__law_sums, [], []⟩
def d__law_alone : He.DefD := ⟨("_law_alone", none), "_law_alone", "_law_alone", defArgs s__law_alone, defBody s__law_alone, defScope s__law_alone, [], []⟩
def d__law_across : He.DefD := ⟨("_law_across", none), "_law_across", "_law_across", defArgs s__law_across, defBody s__law_across, defScope s__law_across, [], []⟩
def d__law_least : He.DefD := ⟨("_law_least", none), "_law_least", "_law_least", defArgs s__law_least, defBody s__law_least, defScope s__law_least, [], []⟩
def d__law_is_int : He.DefD := ⟨("_law_is_int", none), "_law_is_int", "_law_is_int", defArgs s__law_is_int, defBody s__law_is_int, defScope s__law_is_int, [], []⟩
def d__law_are_pours : He.DefD := ⟨("_law_are_pours", none), "_law_are_pours", "_law_are_pours", defArgs s__law_are_pours, defBody s__law_are_pours, defScope s__law_are_pours, [], []⟩
def d__law_steps : He.DefD := ⟨("_law_steps", none), "_law_steps", "_law_steps", defArgs s__law_steps, defBody s__law_steps, defScope s__law_steps, [], []⟩
def d__law_plan_length : He.DefD := ⟨("_law_plan_length", none), "_law_plan_length", "_law_plan_length", defArgs s__law_plan_length, defBody s__law_plan_length, defScope s__law_plan_length, [], []⟩
def d__law_told : He.DefD := ⟨("_law_told", none), "_law_told", "_law_told", defArgs s__law_told, defBody s__law_told, defScope s__law_told, [], []⟩
def d__law_naive : He.DefD := ⟨("_law_naive", none), "_law_naive", "_law_naive", defArgs s__law_naive, defBody s__law_naive, defScope s__law_naive, [], []⟩
def d__law_bent_walk : He.DefD := ⟨("_law_bent_walk", none), "_law_bent_walk", "_law_bent_walk", defArgs s__law_bent_walk, defBody s__law_bent_walk, defScope s__law_bent_walk, [], []⟩
def d__law_bent_sheet : He.DefD := ⟨("_law_bent_sheet", none), "_law_bent_sheet", "_law_bent_sheet", defArgs s__law_bent_sheet, defBody s__law_bent_sheet, defScope s__law_bent_sheet, [], []⟩
def d__law_right : He.DefD := ⟨("_law_right", none), "_law_right", "_law_right", defArgs s__law_right, defBody s__law_right, defScope s__law_right, [], []⟩
def d_law : He.DefD := ⟨("law", none), "law", "law", defArgs s_law, defBody s_law, defScope s_law, [], []⟩
def fns : List He.DefD := [d_is_integer, d_is_between, d_check_number, d_gcd_of, d_can_in, d_items_in, d_Garden_init, d_check_garden, d_is_count, d_garden_of, d_are_told, d_Strip_init, d_are_poured, d_steps_of, d_shows_most, d_accepts, d_check_taps, d_check_row, d_item_at, d_is_tapped, d_wants, d_up_to, d_place_of_litre, d_sum_of_places, d_Gap_init, d_Gap_from_left, d_Gap_from_right, d_Gap_both, d_Gap_is_better, d_Gap_best_with, d_Gap_best_split, d_Gap_cost_alone, d_Gap_cost_across, d_last_wanting, d_next_own_tap, d_tap_before, d_tap_behind, d_pours_of, d_walks_back, d_Crossing_init, d_plan_of, d_plan, d__law_bag, d__law_take, d__law_any, d__law_soil, d__law_text, d__law_needs, d__law_stops, d__law_spread, d__law_sums, d__law_alone, d__law_across, d__law_least, d__law_is_int, d__law_are_pours, d__law_steps, d__law_plan_length, d__law_told, d__law_naive, d__law_bent_walk, d__law_bent_sheet, d__law_right, d_law]
def fas : List He.Fa := [.glo "NotRight", .glo "InvalidText", .glo "InvalidNumber", .glo "NotAGarden", .glo "InvalidTaps", .glo "is_integer", .glo "is_between", .glo "check_number", .glo "gcd_of", .glo "can_in", .glo "items_in", .glo "Garden", .cls "Garden", .mkr "Garden", .noat "Garden" "wording", .noat "Garden" "load", .noat "Garden" "pattern", .meth "Garden" "__init__", .glo "check_garden", .glo "is_count", .glo "garden_of", .glo "are_told", .glo "Strip", .cls "Strip", .mkr "Strip", .noat "Strip" "load", .noat "Strip" "needs", .noat "Strip" "stops", .meth "Strip" "__init__", .glo "are_poured", .glo "steps_of", .glo "shows_most", .glo "accepts", .glo "check_taps", .glo "check_row", .glo "item_at", .glo "is_tapped", .glo "wants", .glo "up_to", .glo "place_of_litre", .glo "sum_of_places", .glo "Gap", .cls "Gap", .mkr "Gap", .noat "Gap" "soil", .noat "Gap" "left_tap", .noat "Gap" "right_tap", .noat "Gap" "before", .noat "Gap" "many", .meth "Gap" "__init__", .meth "Gap" "from_left", .meth "Gap" "from_right", .meth "Gap" "both", .meth "Gap" "is_better", .meth "Gap" "best_with", .meth "Gap" "best_split", .meth "Gap" "cost_alone", .meth "Gap" "cost_across", .glo "last_wanting", .glo "next_own_tap", .glo "tap_before", .glo "tap_behind", .glo "pours_of", .glo "walks_back", .glo "Crossing", .cls "Crossing", .mkr "Crossing", .noat "Crossing" "ahead", .noat "Crossing" "back", .meth "Crossing" "__init__", .glo "plan_of", .glo "plan", .glo "_law_bag", .glo "_law_take", .glo "_law_any", .glo "_law_soil", .glo "_law_text", .glo "_law_needs", .glo "_law_stops", .glo "_law_spread", .glo "_law_sums", .glo "_law_alone", .glo "_law_across", .glo "_law_least", .glo "_law_is_int", .glo "_law_are_pours", .glo "_law_steps", .glo "_law_plan_length", .glo "_law_told", .glo "_law_naive", .glo "_law_bent_walk", .glo "_law_bent_sheet", .glo "_law_right", .glo "law", .int "MOST_CAN" 20, .int "MOST_LITRES" 9, .int "MOST_ITEMS" 12, .int "MOST_TAPS" 4, .int "MOST_PLACE" 1000000000000000000000000000000, .int "MOST_PLAN" 200, .int "LINES" 2, .int "MOST_CHECKED" 200, .int "MOST_TOLD" 4, .int "CLAIM_SIZE" 5, .glo "WORDS", .free "isinstance", .free "range", .free "len", .free "max", .free "min", .free "all", .free "any", .free "tuple", .free "list", .free "str", .free "int", .free "bool", .free "abs", .free "sum", .free "zip", .free "enumerate", .free "divmod", .free "sorted", .free "repr"]
/-- a property's object, its getter -/
def prA (K : PySem.W.Frag) (C f : Str) : Addr := He.ma K (He.ga K C) f
def prG (K : PySem.W.Frag) (C f : Str) : Addr := match PySem.W.recIn K (prA K C f) "property" with | some (.ref g :: _) => g | _ => 0
def prGet (K : PySem.W.Frag) (C f : Str) : He.FnW := match K.lookup (prG K C f) with | some o => (match o.data with | .func fd => some (fd.name, fd.qualname, fd.params, fd.body, fd.scope, fd.globals, fd.closure, fd.builtins) | _ => none) | none => none
def prDfl (K : PySem.W.Frag) (C f q : Str) : Bool := match K.lookup (prG K C f) with | some o => (match o.data with | .func fd => PySem.W.codeIn K fd.code q && He.dflB K fd.defaults [] | _ => false) | none => false
def prOk (K : PySem.W.Frag) (C f q : Str) : Bool :=
  He.eqO (PySem.W.findIn K (.ref (He.ga K C)) f) (some (some (.ref (prA K C f)))) && (He.eqO (PySem.W.specialIn K (.ref (prA K C f)) "__get__") (some (some (.builtin "property.__get__"))) &&
  (decide (PySem.W.takesIn K (.ref (prA K C f)) = some true) && (decide ((PySem.W.recIn K (prA K C f) "property").bind List.head? = some (.ref (prG K C f))) && (PySem.W.keepIn K (.ref (prG K C f)) && prDfl K C f q))))
structure PrD where
  cls : Str
  at_ : Str
  qual : Str
  st : Stmt
def prs : List PrD := [⟨"Garden", "text", "Garden.text", s_Garden_text⟩, ⟨"Garden", "can", "Garden.can", s_Garden_can⟩, ⟨"Garden", "beds", "Garden.beds", s_Garden_beds⟩]
/-- further facts -/
def more (K : PySem.W.Frag) : Bool := He.tupB K "WORDS" [.str "at most", .str "at least"] && (decide (PySem.W.kitOne K (.ref (He.ga K "Garden")) (.ref (He.ga K "Garden")) = some true) && (He.eqO (PySem.W.findIn K (.ref (He.ga K "Garden")) "__class__") (some (some (.builtin "object.__class__"))) && (He.eqO (PySem.W.specialIn K (.builtin "object.__class__") "__get__") (some (some (.builtin "getset_descriptor.__get__"))) &&
  (decide (PySem.W.takesIn K (.builtin "object.__class__") = some true) && decide (PySem.W.mroIn K (He.ga K "Garden") (.type "object") = some true)))))
abbrev AlX : Type := He.AlD × (Bool × List He.FnW)
def obsX (K : PySem.W.Frag) : AlX := (He.obsD fas fns K, (more K && prs.all fun d => prOk K d.cls d.at_ d.qual), prs.map fun d => prGet K d.cls d.at_)
def valX : AlX := (He.valD fns, true, prs.map fun d => some (d.at_, d.qual, defArgs d.st, .stmts (defBody d.st), defScope d.st, mainGlobals, [], builtinsNs))
def SaysX (K : PySem.W.Frag) : Prop := obsX K = valX
def adr0 : List Addr := [3, 31, 51, 70, 89, 108, 224, 302, 473, 532, 6, 0, 30, 50, 69, 88, 107, 223, 301, 472, 531, 4, 32, 170, 178, 186, 225, 226, 303, 304]
def adr1 : List Addr := [474, 475, 533, 534, 343, 543, 542, 49, 68, 87, 106, 222, 300, 471, 530, 21, 117, 124, 131, 138, 143, 148, 235, 242, 249, 254, 313, 320, 325, 330]
def adr2 : List Addr := [335, 342, 350, 357, 364, 371, 378, 385, 390, 395, 402, 484, 491, 496, 501, 508, 515, 541, 550, 557, 564, 571, 578, 583, 590, 597, 604, 611, 618, 623]
def adr3 : List Addr := [630, 637, 644, 649, 654, 661, 668, 675, 682, 689, 694, 48, 67, 86, 105, 162, 193, 200, 207, 214, 221, 266, 273, 280, 287, 294, 299, 416, 423, 430]
def adr4 : List Addr := [437, 444, 451, 456, 463, 470, 529, 169, 177, 185, 20, 116, 123, 130, 137, 142, 147, 234, 241, 248, 253, 312, 319, 324, 329, 334, 341, 349, 356, 363]
def adr5 : List Addr := [370, 377, 384, 389, 394, 401, 483, 490, 495, 500, 507, 514, 540, 549, 556, 563, 570, 577, 582, 589, 596, 603, 610, 617, 622, 629, 636, 643, 648, 653]
def adr6 : List Addr := [660, 667, 674, 681, 688, 693, 47, 66, 85, 104, 161, 192, 199, 206, 213, 220, 265, 272, 279, 286, 293, 298, 415, 422, 429, 436, 443, 450, 455, 462]
def adr7 : List Addr := [469, 528, 168, 176, 184]
def adrs : List Addr := adr0 ++ adr1 ++ adr2 ++ adr3 ++ adr4 ++ adr5 ++ adr6 ++ adr7
def obsXG (g : Addr → Option Obj) : AlX := obsX (He.frG g adrs)
def hkX : PySem.W.Hook where
  α := AlX
  obs := fun s => obsXG s.heap.get?
  val := fun _ => valX
  says := fun _ h => ∃ K : PySem.W.Frag, K.In h ∧ SaysX K
  of := fun _ _ e => ⟨_, He.frG_in, e⟩
  keeps := fun _ _ _ ⟨K, hK, c⟩ k => ⟨K, PySem.W.Frag.In.keeps hK k, c⟩
abbrev R : PySem.W.OpenRow := PySem.W.OpenLaw.row PySem.Challenge.rw_canwalks_k60_whole_plans_judged
def obX (s : PySem.W.SharedT) : AlX := obsXG (HandSHeadRun.getT s)
theorem obX_eq (s : PySem.W.SharedT) : obX s = hkX.obs s.abs := by
  have e : HandSHeadRun.getT s = s.abs.heap.get? := funext (HandSHeadRun.getT_eq s)
  show obsXG (HandSHeadRun.getT s) = obsXG s.abs.heap.get?
  rw [e]
def loose0 : List PySem.Str := ["_wall", "NotRight", "InvalidText", "InvalidNumber", "NotAGarden", "InvalidTaps", "MOST_CAN", "MOST_LITRES", "MOST_ITEMS", "MOST_TAPS", "MOST_PLACE", "MOST_PLAN"]
def loose1 : List PySem.Str := ["is_integer", "is_between", "check_number", "gcd_of", "LINES", "can_in", "items_in", "Garden", "check_garden", "MOST_CHECKED", "MOST_TOLD", "is_count"]
def loose2 : List PySem.Str := ["garden_of", "are_told", "Strip", "is_bill", "most_of_bill", "shows_least", "are_poured", "steps_of", "shows_most", "WORDS", "CLAIM_SIZE", "accepts"]
def loose3 : List PySem.Str := ["check_taps", "check_row", "item_at", "is_tapped", "wants", "up_to", "place_of_litre", "sum_of_places", "Gap", "last_wanting", "next_own_tap", "tap_before"]
def loose4 : List PySem.Str := ["tap_behind", "pours_of", "walks_back", "Crossing", "plan_of", "plan", "_law_bag", "_law_take", "_law_any", "_law_soil", "_law_text", "_law_needs"]
def loose5 : List PySem.Str := ["_law_stops", "_law_spread", "_law_sums", "_law_alone", "_law_across", "_law_least", "_law_is_int", "_law_are_pours", "_law_steps", "_law_plan_length", "_law_told", "_law_naive"]
def loose6 : List PySem.Str := ["_law_bent_walk", "_law_bent_sheet", "_law_right"]
def loose : List PySem.Str := loose0 ++ loose1 ++ loose2 ++ loose3 ++ loose4 ++ loose5 ++ loose6
theorem run (w : World) : HandSHeadRun.RunEq R (PySem.W.view R.prog [85]) hkX obX 20000 loose w := by
  intro os
  kernel_rfl
/-- what the defs lean on -/
structure En (K : PySem.W.Frag) (mg : Str → Option Value) : Prop where
  says : SaysX K
  ex : ∃ h, PySem.W.Frag.In K h ∧ Heap.Ns h mainGlobals mg
namespace En
variable {K : PySem.W.Frag} {mg : Str → Option Value}
theorem sd (E : En K mg) : He.SaysD fas fns K := congrArg (fun z : AlX => z.1) E.says
theorem sm (E : En K mg) : (more K && prs.all fun d => prOk K d.cls d.at_ d.qual) = true := congrArg (fun z : AlX => z.2.1) E.says
theorem sp (E : En K mg) : (prs.map fun d => prGet K d.cls d.at_) = prs.map fun d => some (d.at_, d.qual, defArgs d.st, FuncBody.stmts (defBody d.st), defScope d.st, mainGlobals, [], builtinsNs) := congrArg (fun z : AlX => z.2.2) E.says
theorem words (E : En K mg) (H : Hp) : SqT K H (He.ga K "WORDS") [.str "at most", .str "at least"] := He.tupB_ok (vs := [.str "at most", .str "at least"]) (He.ba (He.ba E.sm).1).1 H
theorem kitG (E : En K mg) : PySem.W.kitOne K (.ref (He.ga K "Garden")) (.ref (He.ga K "Garden")) = some true := of_decide_eq_true (He.ba (He.ba (He.ba E.sm).1).2).1
theorem tyG (E : En K mg) (cl : Cls K (He.ga K "Garden")) {H : Hp} {a dx : Addr} {fs : List (Str × V)} (e : H a = some (.ins (He.ga K "Garden") dx fs)) : TyX K H (.ref a) (.ref (He.ga K "Garden")) := by
  obtain ⟨c1, c⟩ := He.ba (He.ba (He.ba E.sm).1).2
  obtain ⟨c2, c⟩ := He.ba c
  obtain ⟨c3, c⟩ := He.ba c
  obtain ⟨c4, c5⟩ := He.ba c
  exact .base (.ins e cl (He.eqO_ok c2) (He.eqO_ok c3) (of_decide_eq_true c4) (of_decide_eq_true c5))
theorem glo_ (E : En K mg) (i : Nat) {x : Str} (h : fas[i]? = some (.glo x)) : mg x = some (.ref (He.ga K x)) := by
  obtain ⟨hp, X, G⟩ := E.ex
  exact He.glo_ok X G (E.sd.fact i h)
theorem free_ (E : En K mg) (i : Nat) {x : Str} (h : fas[i]? = some (.free x)) : mg x = none := by
  obtain ⟨hp, X, G⟩ := E.ex
  exact He.free_ok X G (E.sd.fact i h)
theorem int_ (E : En K mg) (i : Nat) {x : Str} {n : Int} (h : fas[i]? = some (.int x n)) : ∃ u, mg x = some u ∧ RelV (.int n) u := by
  obtain ⟨hp, X, G⟩ := E.ex
  obtain ⟨t, e⟩ := He.int_ok X G (E.sd.fact i h)
  exact ⟨_, e, t, rfl⟩
theorem gloV (E : En K mg) (i : Nat) {x : Str} (h : fas[i]? = some (.glo x)) : ∃ u, mg x = some u ∧ RelV (.ref (He.ga K x)) u := ⟨_, E.glo_ i h, rfl⟩
theorem g_NotRight (E : En K mg) : mg "NotRight" = some (.ref (He.ga K "NotRight")) := E.glo_ 0 rfl
theorem v_NotRight (E : En K mg) : ∃ u, mg "NotRight" = some u ∧ RelV (.ref (He.ga K "NotRight")) u := E.gloV 0 rfl
theorem g_InvalidText (E : En K mg) : mg "InvalidText" = some (.ref (He.ga K "InvalidText")) := E.glo_ 1 rfl
theorem v_InvalidText (E : En K mg) : ∃ u, mg "InvalidText" = some u ∧ RelV (.ref (He.ga K "InvalidText")) u := E.gloV 1 rfl
theorem g_InvalidNumber (E : En K mg) : mg "InvalidNumber" = some (.ref (He.ga K "InvalidNumber")) := E.glo_ 2 rfl
theorem v_InvalidNumber (E : En K mg) : ∃ u, mg "InvalidNumber" = some u ∧ RelV (.ref (He.ga K "InvalidNumber")) u := E.gloV 2 rfl
theorem g_NotAGarden (E : En K mg) : mg "NotAGarden" = some (.ref (He.ga K "NotAGarden")) := E.glo_ 3 rfl
theorem v_NotAGarden (E : En K mg) : ∃ u, mg "NotAGarden" = some u ∧ RelV (.ref (He.ga K "NotAGarden")) u := E.gloV 3 rfl
theorem g_InvalidTaps (E : En K mg) : mg "InvalidTaps" = some (.ref (He.ga K "InvalidTaps")) := E.glo_ 4 rfl
theorem v_InvalidTaps (E : En K mg) : ∃ u, mg "InvalidTaps" = some u ∧ RelV (.ref (He.ga K "InvalidTaps")) u := E.gloV 4 rfl
theorem g_is_integer (E : En K mg) : mg "is_integer" = some (.ref (He.ga K "is_integer")) := E.glo_ 5 rfl
theorem v_is_integer (E : En K mg) : ∃ u, mg "is_integer" = some u ∧ RelV (.ref (He.ga K "is_integer")) u := E.gloV 5 rfl
theorem g_is_between (E : En K mg) : mg "is_between" = some (.ref (He.ga K "is_between")) := E.glo_ 6 rfl
theorem v_is_between (E : En K mg) : ∃ u, mg "is_between" = some u ∧ RelV (.ref (He.ga K "is_between")) u := E.gloV 6 rfl
theorem g_check_number (E : En K mg) : mg "check_number" = some (.ref (He.ga K "check_number")) := E.glo_ 7 rfl
theorem v_check_number (E : En K mg) : ∃ u, mg "check_number" = some u ∧ RelV (.ref (He.ga K "check_number")) u := E.gloV 7 rfl
theorem g_gcd_of (E : En K mg) : mg "gcd_of" = some (.ref (He.ga K "gcd_of")) := E.glo_ 8 rfl
theorem v_gcd_of (E : En K mg) : ∃ u, mg "gcd_of" = some u ∧ RelV (.ref (He.ga K "gcd_of")) u := E.gloV 8 rfl
theorem g_can_in (E : En K mg) : mg "can_in" = some (.ref (He.ga K "can_in")) := E.glo_ 9 rfl
theorem v_can_in (E : En K mg) : ∃ u, mg "can_in" = some u ∧ RelV (.ref (He.ga K "can_in")) u := E.gloV 9 rfl
theorem g_items_in (E : En K mg) : mg "items_in" = some (.ref (He.ga K "items_in")) := E.glo_ 10 rfl
theorem v_items_in (E : En K mg) : ∃ u, mg "items_in" = some u ∧ RelV (.ref (He.ga K "items_in")) u := E.gloV 10 rfl
theorem g_Garden (E : En K mg) : mg "Garden" = some (.ref (He.ga K "Garden")) := E.glo_ 11 rfl
theorem v_Garden (E : En K mg) : ∃ u, mg "Garden" = some u ∧ RelV (.ref (He.ga K "Garden")) u := E.gloV 11 rfl
theorem cl_Garden (E : En K mg) : Cls K (He.ga K "Garden") := He.cls_ok (E.sd.fact 12 rfl)
theorem mk_Garden (E : En K mg) : Mk K (He.ga K "Garden") (He.ma K (He.ga K "Garden") "__init__") := He.mkr_ok (E.sd.fact 13 rfl)
theorem n_Garden_wording (E : En K mg) : NoAttr K (He.ga K "Garden") "wording" := He.noat_ok (E.sd.fact 14 rfl)
theorem n_Garden_load (E : En K mg) : NoAttr K (He.ga K "Garden") "load" := He.noat_ok (E.sd.fact 15 rfl)
theorem n_Garden_pattern (E : En K mg) : NoAttr K (He.ga K "Garden") "pattern" := He.noat_ok (E.sd.fact 16 rfl)
theorem me_Garden_init (E : En K mg) : Meth K (He.ga K "Garden") "__init__" (He.ma K (He.ga K "Garden") "__init__") := He.meth_ok (E.sd.fact 17 rfl)
theorem g_check_garden (E : En K mg) : mg "check_garden" = some (.ref (He.ga K "check_garden")) := E.glo_ 18 rfl
theorem v_check_garden (E : En K mg) : ∃ u, mg "check_garden" = some u ∧ RelV (.ref (He.ga K "check_garden")) u := E.gloV 18 rfl
theorem g_is_count (E : En K mg) : mg "is_count" = some (.ref (He.ga K "is_count")) := E.glo_ 19 rfl
theorem v_is_count (E : En K mg) : ∃ u, mg "is_count" = some u ∧ RelV (.ref (He.ga K "is_count")) u := E.gloV 19 rfl
theorem g_garden_of (E : En K mg) : mg "garden_of" = some (.ref (He.ga K "garden_of")) := E.glo_ 20 rfl
theorem v_garden_of (E : En K mg) : ∃ u, mg "garden_of" = some u ∧ RelV (.ref (He.ga K "garden_of")) u := E.gloV 20 rfl
theorem g_are_told (E : En K mg) : mg "are_told" = some (.ref (He.ga K "are_told")) := E.glo_ 21 rfl
theorem v_are_told (E : En K mg) : ∃ u, mg "are_told" = some u ∧ RelV (.ref (He.ga K "are_told")) u := E.gloV 21 rfl
theorem g_Strip (E : En K mg) : mg "Strip" = some (.ref (He.ga K "Strip")) := E.glo_ 22 rfl
theorem v_Strip (E : En K mg) : ∃ u, mg "Strip" = some u ∧ RelV (.ref (He.ga K "Strip")) u := E.gloV 22 rfl
theorem cl_Strip (E : En K mg) : Cls K (He.ga K "Strip") := He.cls_ok (E.sd.fact 23 rfl)
theorem mk_Strip (E : En K mg) : Mk K (He.ga K "Strip") (He.ma K (He.ga K "Strip") "__init__") := He.mkr_ok (E.sd.fact 24 rfl)
theorem n_Strip_load (E : En K mg) : NoAttr K (He.ga K "Strip") "load" := He.noat_ok (E.sd.fact 25 rfl)
theorem n_Strip_needs (E : En K mg) : NoAttr K (He.ga K "Strip") "needs" := He.noat_ok (E.sd.fact 26 rfl)
theorem n_Strip_stops (E : En K mg) : NoAttr K (He.ga K "Strip") "stops" := He.noat_ok (E.sd.fact 27 rfl)
theorem me_Strip_init (E : En K mg) : Meth K (He.ga K "Strip") "__init__" (He.ma K (He.ga K "Strip") "__init__") := He.meth_ok (E.sd.fact 28 rfl)
theorem g_are_poured (E : En K mg) : mg "are_poured" = some (.ref (He.ga K "are_poured")) := E.glo_ 29 rfl
theorem v_are_poured (E : En K mg) : ∃ u, mg "are_poured" = some u ∧ RelV (.ref (He.ga K "are_poured")) u := E.gloV 29 rfl
theorem g_steps_of (E : En K mg) : mg "steps_of" = some (.ref (He.ga K "steps_of")) := E.glo_ 30 rfl
theorem v_steps_of (E : En K mg) : ∃ u, mg "steps_of" = some u ∧ RelV (.ref (He.ga K "steps_of")) u := E.gloV 30 rfl
theorem g_shows_most (E : En K mg) : mg "shows_most" = some (.ref (He.ga K "shows_most")) := E.glo_ 31 rfl
theorem v_shows_most (E : En K mg) : ∃ u, mg "shows_most" = some u ∧ RelV (.ref (He.ga K "shows_most")) u := E.gloV 31 rfl
theorem g_accepts (E : En K mg) : mg "accepts" = some (.ref (He.ga K "accepts")) := E.glo_ 32 rfl
theorem v_accepts (E : En K mg) : ∃ u, mg "accepts" = some u ∧ RelV (.ref (He.ga K "accepts")) u := E.gloV 32 rfl
theorem g_check_taps (E : En K mg) : mg "check_taps" = some (.ref (He.ga K "check_taps")) := E.glo_ 33 rfl
theorem v_check_taps (E : En K mg) : ∃ u, mg "check_taps" = some u ∧ RelV (.ref (He.ga K "check_taps")) u := E.gloV 33 rfl
theorem g_check_row (E : En K mg) : mg "check_row" = some (.ref (He.ga K "check_row")) := E.glo_ 34 rfl
theorem v_check_row (E : En K mg) : ∃ u, mg "check_row" = some u ∧ RelV (.ref (He.ga K "check_row")) u := E.gloV 34 rfl
theorem g_item_at (E : En K mg) : mg "item_at" = some (.ref (He.ga K "item_at")) := E.glo_ 35 rfl
theorem v_item_at (E : En K mg) : ∃ u, mg "item_at" = some u ∧ RelV (.ref (He.ga K "item_at")) u := E.gloV 35 rfl
theorem g_is_tapped (E : En K mg) : mg "is_tapped" = some (.ref (He.ga K "is_tapped")) := E.glo_ 36 rfl
theorem v_is_tapped (E : En K mg) : ∃ u, mg "is_tapped" = some u ∧ RelV (.ref (He.ga K "is_tapped")) u := E.gloV 36 rfl
theorem g_wants (E : En K mg) : mg "wants" = some (.ref (He.ga K "wants")) := E.glo_ 37 rfl
theorem v_wants (E : En K mg) : ∃ u, mg "wants" = some u ∧ RelV (.ref (He.ga K "wants")) u := E.gloV 37 rfl
theorem g_up_to (E : En K mg) : mg "up_to" = some (.ref (He.ga K "up_to")) := E.glo_ 38 rfl
theorem v_up_to (E : En K mg) : ∃ u, mg "up_to" = some u ∧ RelV (.ref (He.ga K "up_to")) u := E.gloV 38 rfl
theorem g_place_of_litre (E : En K mg) : mg "place_of_litre" = some (.ref (He.ga K "place_of_litre")) := E.glo_ 39 rfl
theorem v_place_of_litre (E : En K mg) : ∃ u, mg "place_of_litre" = some u ∧ RelV (.ref (He.ga K "place_of_litre")) u := E.gloV 39 rfl
theorem g_sum_of_places (E : En K mg) : mg "sum_of_places" = some (.ref (He.ga K "sum_of_places")) := E.glo_ 40 rfl
theorem v_sum_of_places (E : En K mg) : ∃ u, mg "sum_of_places" = some u ∧ RelV (.ref (He.ga K "sum_of_places")) u := E.gloV 40 rfl
theorem g_Gap (E : En K mg) : mg "Gap" = some (.ref (He.ga K "Gap")) := E.glo_ 41 rfl
theorem v_Gap (E : En K mg) : ∃ u, mg "Gap" = some u ∧ RelV (.ref (He.ga K "Gap")) u := E.gloV 41 rfl
theorem cl_Gap (E : En K mg) : Cls K (He.ga K "Gap") := He.cls_ok (E.sd.fact 42 rfl)
theorem mk_Gap (E : En K mg) : Mk K (He.ga K "Gap") (He.ma K (He.ga K "Gap") "__init__") := He.mkr_ok (E.sd.fact 43 rfl)
theorem n_Gap_soil (E : En K mg) : NoAttr K (He.ga K "Gap") "soil" := He.noat_ok (E.sd.fact 44 rfl)
theorem n_Gap_left_tap (E : En K mg) : NoAttr K (He.ga K "Gap") "left_tap" := He.noat_ok (E.sd.fact 45 rfl)
theorem n_Gap_right_tap (E : En K mg) : NoAttr K (He.ga K "Gap") "right_tap" := He.noat_ok (E.sd.fact 46 rfl)
theorem n_Gap_before (E : En K mg) : NoAttr K (He.ga K "Gap") "before" := He.noat_ok (E.sd.fact 47 rfl)
theorem n_Gap_many (E : En K mg) : NoAttr K (He.ga K "Gap") "many" := He.noat_ok (E.sd.fact 48 rfl)
theorem me_Gap_init (E : En K mg) : Meth K (He.ga K "Gap") "__init__" (He.ma K (He.ga K "Gap") "__init__") := He.meth_ok (E.sd.fact 49 rfl)
theorem me_Gap_from_left (E : En K mg) : Meth K (He.ga K "Gap") "from_left" (He.ma K (He.ga K "Gap") "from_left") := He.meth_ok (E.sd.fact 50 rfl)
theorem me_Gap_from_right (E : En K mg) : Meth K (He.ga K "Gap") "from_right" (He.ma K (He.ga K "Gap") "from_right") := He.meth_ok (E.sd.fact 51 rfl)
theorem me_Gap_both (E : En K mg) : Meth K (He.ga K "Gap") "both" (He.ma K (He.ga K "Gap") "both") := He.meth_ok (E.sd.fact 52 rfl)
theorem me_Gap_is_better (E : En K mg) : Meth K (He.ga K "Gap") "is_better" (He.ma K (He.ga K "Gap") "is_better") := He.meth_ok (E.sd.fact 53 rfl)
theorem me_Gap_best_with (E : En K mg) : Meth K (He.ga K "Gap") "best_with" (He.ma K (He.ga K "Gap") "best_with") := He.meth_ok (E.sd.fact 54 rfl)
theorem me_Gap_best_split (E : En K mg) : Meth K (He.ga K "Gap") "best_split" (He.ma K (He.ga K "Gap") "best_split") := He.meth_ok (E.sd.fact 55 rfl)
theorem me_Gap_cost_alone (E : En K mg) : Meth K (He.ga K "Gap") "cost_alone" (He.ma K (He.ga K "Gap") "cost_alone") := He.meth_ok (E.sd.fact 56 rfl)
theorem me_Gap_cost_across (E : En K mg) : Meth K (He.ga K "Gap") "cost_across" (He.ma K (He.ga K "Gap") "cost_across") := He.meth_ok (E.sd.fact 57 rfl)
theorem g_last_wanting (E : En K mg) : mg "last_wanting" = some (.ref (He.ga K "last_wanting")) := E.glo_ 58 rfl
theorem v_last_wanting (E : En K mg) : ∃ u, mg "last_wanting" = some u ∧ RelV (.ref (He.ga K "last_wanting")) u := E.gloV 58 rfl
theorem g_next_own_tap (E : En K mg) : mg "next_own_tap" = some (.ref (He.ga K "next_own_tap")) := E.glo_ 59 rfl
theorem v_next_own_tap (E : En K mg) : ∃ u, mg "next_own_tap" = some u ∧ RelV (.ref (He.ga K "next_own_tap")) u := E.gloV 59 rfl
theorem g_tap_before (E : En K mg) : mg "tap_before" = some (.ref (He.ga K "tap_before")) := E.glo_ 60 rfl
theorem v_tap_before (E : En K mg) : ∃ u, mg "tap_before" = some u ∧ RelV (.ref (He.ga K "tap_before")) u := E.gloV 60 rfl
theorem g_tap_behind (E : En K mg) : mg "tap_behind" = some (.ref (He.ga K "tap_behind")) := E.glo_ 61 rfl
theorem v_tap_behind (E : En K mg) : ∃ u, mg "tap_behind" = some u ∧ RelV (.ref (He.ga K "tap_behind")) u := E.gloV 61 rfl
theorem g_pours_of (E : En K mg) : mg "pours_of" = some (.ref (He.ga K "pours_of")) := E.glo_ 62 rfl
theorem v_pours_of (E : En K mg) : ∃ u, mg "pours_of" = some u ∧ RelV (.ref (He.ga K "pours_of")) u := E.gloV 62 rfl
theorem g_walks_back (E : En K mg) : mg "walks_back" = some (.ref (He.ga K "walks_back")) := E.glo_ 63 rfl
theorem v_walks_back (E : En K mg) : ∃ u, mg "walks_back" = some u ∧ RelV (.ref (He.ga K "walks_back")) u := E.gloV 63 rfl
theorem g_Crossing (E : En K mg) : mg "Crossing" = some (.ref (He.ga K "Crossing")) := E.glo_ 64 rfl
theorem v_Crossing (E : En K mg) : ∃ u, mg "Crossing" = some u ∧ RelV (.ref (He.ga K "Crossing")) u := E.gloV 64 rfl
theorem cl_Crossing (E : En K mg) : Cls K (He.ga K "Crossing") := He.cls_ok (E.sd.fact 65 rfl)
theorem mk_Crossing (E : En K mg) : Mk K (He.ga K "Crossing") (He.ma K (He.ga K "Crossing") "__init__") := He.mkr_ok (E.sd.fact 66 rfl)
theorem n_Crossing_ahead (E : En K mg) : NoAttr K (He.ga K "Crossing") "ahead" := He.noat_ok (E.sd.fact 67 rfl)
theorem n_Crossing_back (E : En K mg) : NoAttr K (He.ga K "Crossing") "back" := He.noat_ok (E.sd.fact 68 rfl)
theorem me_Crossing_init (E : En K mg) : Meth K (He.ga K "Crossing") "__init__" (He.ma K (He.ga K "Crossing") "__init__") := He.meth_ok (E.sd.fact 69 rfl)
theorem g_plan_of (E : En K mg) : mg "plan_of" = some (.ref (He.ga K "plan_of")) := E.glo_ 70 rfl
theorem v_plan_of (E : En K mg) : ∃ u, mg "plan_of" = some u ∧ RelV (.ref (He.ga K "plan_of")) u := E.gloV 70 rfl
theorem g_plan (E : En K mg) : mg "plan" = some (.ref (He.ga K "plan")) := E.glo_ 71 rfl
theorem v_plan (E : En K mg) : ∃ u, mg "plan" = some u ∧ RelV (.ref (He.ga K "plan")) u := E.gloV 71 rfl
theorem g__law_bag (E : En K mg) : mg "_law_bag" = some (.ref (He.ga K "_law_bag")) := E.glo_ 72 rfl
theorem v__law_bag (E : En K mg) : ∃ u, mg "_law_bag" = some u ∧ RelV (.ref (He.ga K "_law_bag")) u := E.gloV 72 rfl
theorem g__law_take (E : En K mg) : mg "_law_take" = some (.ref (He.ga K "_law_take")) := E.glo_ 73 rfl
theorem v__law_take (E : En K mg) : ∃ u, mg "_law_take" = some u ∧ RelV (.ref (He.ga K "_law_take")) u := E.gloV 73 rfl
theorem g__law_any (E : En K mg) : mg "_law_any" = some (.ref (He.ga K "_law_any")) := E.glo_ 74 rfl
theorem v__law_any (E : En K mg) : ∃ u, mg "_law_any" = some u ∧ RelV (.ref (He.ga K "_law_any")) u := E.gloV 74 rfl
theorem g__law_soil (E : En K mg) : mg "_law_soil" = some (.ref (He.ga K "_law_soil")) := E.glo_ 75 rfl
theorem v__law_soil (E : En K mg) : ∃ u, mg "_law_soil" = some u ∧ RelV (.ref (He.ga K "_law_soil")) u := E.gloV 75 rfl
theorem g__law_text (E : En K mg) : mg "_law_text" = some (.ref (He.ga K "_law_text")) := E.glo_ 76 rfl
theorem v__law_text (E : En K mg) : ∃ u, mg "_law_text" = some u ∧ RelV (.ref (He.ga K "_law_text")) u := E.gloV 76 rfl
theorem g__law_needs (E : En K mg) : mg "_law_needs" = some (.ref (He.ga K "_law_needs")) := E.glo_ 77 rfl
theorem v__law_needs (E : En K mg) : ∃ u, mg "_law_needs" = some u ∧ RelV (.ref (He.ga K "_law_needs")) u := E.gloV 77 rfl
theorem g__law_stops (E : En K mg) : mg "_law_stops" = some (.ref (He.ga K "_law_stops")) := E.glo_ 78 rfl
theorem v__law_stops (E : En K mg) : ∃ u, mg "_law_stops" = some u ∧ RelV (.ref (He.ga K "_law_stops")) u := E.gloV 78 rfl
theorem g__law_spread (E : En K mg) : mg "_law_spread" = some (.ref (He.ga K "_law_spread")) := E.glo_ 79 rfl
theorem v__law_spread (E : En K mg) : ∃ u, mg "_law_spread" = some u ∧ RelV (.ref (He.ga K "_law_spread")) u := E.gloV 79 rfl
theorem g__law_sums (E : En K mg) : mg "_law_sums" = some (.ref (He.ga K "_law_sums")) := E.glo_ 80 rfl
theorem v__law_sums (E : En K mg) : ∃ u, mg "_law_sums" = some u ∧ RelV (.ref (He.ga K "_law_sums")) u := E.gloV 80 rfl
theorem g__law_alone (E : En K mg) : mg "_law_alone" = some (.ref (He.ga K "_law_alone")) := E.glo_ 81 rfl
theorem v__law_alone (E : En K mg) : ∃ u, mg "_law_alone" = some u ∧ RelV (.ref (He.ga K "_law_alone")) u := E.gloV 81 rfl
theorem g__law_across (E : En K mg) : mg "_law_across" = some (.ref (He.ga K "_law_across")) := E.glo_ 82 rfl
theorem v__law_across (E : En K mg) : ∃ u, mg "_law_across" = some u ∧ RelV (.ref (He.ga K "_law_across")) u := E.gloV 82 rfl
theorem g__law_least (E : En K mg) : mg "_law_least" = some (.ref (He.ga K "_law_least")) := E.glo_ 83 rfl
theorem v__law_least (E : En K mg) : ∃ u, mg "_law_least" = some u ∧ RelV (.ref (He.ga K "_law_least")) u := E.gloV 83 rfl
theorem g__law_is_int (E : En K mg) : mg "_law_is_int" = some (.ref (He.ga K "_law_is_int")) := E.glo_ 84 rfl
theorem v__law_is_int (E : En K mg) : ∃ u, mg "_law_is_int" = some u ∧ RelV (.ref (He.ga K "_law_is_int")) u := E.gloV 84 rfl
theorem g__law_are_pours (E : En K mg) : mg "_law_are_pours" = some (.ref (He.ga K "_law_are_pours")) := E.glo_ 85 rfl
theorem v__law_are_pours (E : En K mg) : ∃ u, mg "_law_are_pours" = some u ∧ RelV (.ref (He.ga K "_law_are_pours")) u := E.gloV 85 rfl
theorem g__law_steps (E : En K mg) : mg "_law_steps" = some (.ref (He.ga K "_law_steps")) := E.glo_ 86 rfl
theorem v__law_steps (E : En K mg) : ∃ u, mg "_law_steps" = some u ∧ RelV (.ref (He.ga K "_law_steps")) u := E.gloV 86 rfl
theorem g__law_plan_length (E : En K mg) : mg "_law_plan_length" = some (.ref (He.ga K "_law_plan_length")) := E.glo_ 87 rfl
theorem v__law_plan_length (E : En K mg) : ∃ u, mg "_law_plan_length" = some u ∧ RelV (.ref (He.ga K "_law_plan_length")) u := E.gloV 87 rfl
theorem g__law_told (E : En K mg) : mg "_law_told" = some (.ref (He.ga K "_law_told")) := E.glo_ 88 rfl
theorem v__law_told (E : En K mg) : ∃ u, mg "_law_told" = some u ∧ RelV (.ref (He.ga K "_law_told")) u := E.gloV 88 rfl
theorem g__law_naive (E : En K mg) : mg "_law_naive" = some (.ref (He.ga K "_law_naive")) := E.glo_ 89 rfl
theorem v__law_naive (E : En K mg) : ∃ u, mg "_law_naive" = some u ∧ RelV (.ref (He.ga K "_law_naive")) u := E.gloV 89 rfl
theorem g__law_bent_walk (E : En K mg) : mg "_law_bent_walk" = some (.ref (He.ga K "_law_bent_walk")) := E.glo_ 90 rfl
theorem v__law_bent_walk (E : En K mg) : ∃ u, mg "_law_bent_walk" = some u ∧ RelV (.ref (He.ga K "_law_bent_walk")) u := E.gloV 90 rfl
theorem g__law_bent_sheet (E : En K mg) : mg "_law_bent_sheet" = some (.ref (He.ga K "_law_bent_sheet")) := E.glo_ 91 rfl
theorem v__law_bent_sheet (E : En K mg) : ∃ u, mg "_law_bent_sheet" = some u ∧ RelV (.ref (He.ga K "_law_bent_sheet")) u := E.gloV 91 rfl
theorem g__law_right (E : En K mg) : mg "_law_right" = some (.ref (He.ga K "_law_right")) := E.glo_ 92 rfl
theorem v__law_right (E : En K mg) : ∃ u, mg "_law_right" = some u ∧ RelV (.ref (He.ga K "_law_right")) u := E.gloV 92 rfl
theorem g_law (E : En K mg) : mg "law" = some (.ref (He.ga K "law")) := E.glo_ 93 rfl
theorem v_law (E : En K mg) : ∃ u, mg "law" = some u ∧ RelV (.ref (He.ga K "law")) u := E.gloV 93 rfl
theorem i_MOST_CAN (E : En K mg) : ∃ u, mg "MOST_CAN" = some u ∧ RelV (.int 20) u := E.int_ 94 rfl
theorem i_MOST_LITRES (E : En K mg) : ∃ u, mg "MOST_LITRES" = some u ∧ RelV (.int 9) u := E.int_ 95 rfl
theorem i_MOST_ITEMS (E : En K mg) : ∃ u, mg "MOST_ITEMS" = some u ∧ RelV (.int 12) u := E.int_ 96 rfl
theorem i_MOST_TAPS (E : En K mg) : ∃ u, mg "MOST_TAPS" = some u ∧ RelV (.int 4) u := E.int_ 97 rfl
theorem i_MOST_PLACE (E : En K mg) : ∃ u, mg "MOST_PLACE" = some u ∧ RelV (.int 1000000000000000000000000000000) u := E.int_ 98 rfl
theorem i_MOST_PLAN (E : En K mg) : ∃ u, mg "MOST_PLAN" = some u ∧ RelV (.int 200) u := E.int_ 99 rfl
theorem i_LINES (E : En K mg) : ∃ u, mg "LINES" = some u ∧ RelV (.int 2) u := E.int_ 100 rfl
theorem i_MOST_CHECKED (E : En K mg) : ∃ u, mg "MOST_CHECKED" = some u ∧ RelV (.int 200) u := E.int_ 101 rfl
theorem i_MOST_TOLD (E : En K mg) : ∃ u, mg "MOST_TOLD" = some u ∧ RelV (.int 4) u := E.int_ 102 rfl
theorem i_CLAIM_SIZE (E : En K mg) : ∃ u, mg "CLAIM_SIZE" = some u ∧ RelV (.int 5) u := E.int_ 103 rfl
theorem g_WORDS (E : En K mg) : mg "WORDS" = some (.ref (He.ga K "WORDS")) := E.glo_ 104 rfl
theorem v_WORDS (E : En K mg) : ∃ u, mg "WORDS" = some u ∧ RelV (.ref (He.ga K "WORDS")) u := E.gloV 104 rfl
theorem z_isinstance (E : En K mg) : mg "isinstance" = none := E.free_ 105 rfl
theorem z_range (E : En K mg) : mg "range" = none := E.free_ 106 rfl
theorem z_len (E : En K mg) : mg "len" = none := E.free_ 107 rfl
theorem z_max (E : En K mg) : mg "max" = none := E.free_ 108 rfl
theorem z_min (E : En K mg) : mg "min" = none := E.free_ 109 rfl
theorem z_all (E : En K mg) : mg "all" = none := E.free_ 110 rfl
theorem z_any (E : En K mg) : mg "any" = none := E.free_ 111 rfl
theorem z_tuple (E : En K mg) : mg "tuple" = none := E.free_ 112 rfl
theorem z_list (E : En K mg) : mg "list" = none := E.free_ 113 rfl
theorem z_str (E : En K mg) : mg "str" = none := E.free_ 114 rfl
theorem z_int (E : En K mg) : mg "int" = none := E.free_ 115 rfl
theorem z_bool (E : En K mg) : mg "bool" = none := E.free_ 116 rfl
theorem z_abs (E : En K mg) : mg "abs" = none := E.free_ 117 rfl
theorem z_sum (E : En K mg) : mg "sum" = none := E.free_ 118 rfl
theorem z_zip (E : En K mg) : mg "zip" = none := E.free_ 119 rfl
theorem z_enumerate (E : En K mg) : mg "enumerate" = none := E.free_ 120 rfl
theorem z_divmod (E : En K mg) : mg "divmod" = none := E.free_ 121 rfl
theorem z_sorted (E : En K mg) : mg "sorted" = none := E.free_ 122 rfl
theorem z_repr (E : En K mg) : mg "repr" = none := E.free_ 123 rfl
theorem f_is_integer (E : En K mg) : ∃ fd, FunD K "is_integer" "is_integer" (defArgs s_is_integer) (defBody s_is_integer) (defScope s_is_integer) [] [] (He.fAd K ("is_integer", none)) fd := E.sd.def_ 0 (d := d_is_integer) rfl
theorem f_is_between (E : En K mg) : ∃ fd, FunD K "is_between" "is_between" (defArgs s_is_between) (defBody s_is_between) (defScope s_is_between) [] [] (He.fAd K ("is_between", none)) fd := E.sd.def_ 1 (d := d_is_between) rfl
theorem f_check_number (E : En K mg) : ∃ fd, FunD K "check_number" "check_number" (defArgs s_check_number) (defBody s_check_number) (defScope s_check_number) [] [] (He.fAd K ("check_number", none)) fd := E.sd.def_ 2 (d := d_check_number) rfl
theorem f_gcd_of (E : En K mg) : ∃ fd, FunD K "gcd_of" "gcd_of" (defArgs s_gcd_of) (defBody s_gcd_of) (defScope s_gcd_of) [] [] (He.fAd K ("gcd_of", none)) fd := E.sd.def_ 3 (d := d_gcd_of) rfl
theorem f_can_in (E : En K mg) : ∃ fd, FunD K "can_in" "can_in" (defArgs s_can_in) (defBody s_can_in) (defScope s_can_in) [] [] (He.fAd K ("can_in", none)) fd := E.sd.def_ 4 (d := d_can_in) rfl
theorem f_items_in (E : En K mg) : ∃ fd, FunD K "items_in" "items_in" (defArgs s_items_in) (defBody s_items_in) (defScope s_items_in) [] [] (He.fAd K ("items_in", none)) fd := E.sd.def_ 5 (d := d_items_in) rfl
theorem f_Garden_init (E : En K mg) : ∃ fd, FunD K "__init__" "Garden.__init__" (defArgs s_Garden_init) (defBody s_Garden_init) (defScope s_Garden_init) [] [] (He.fAd K ("Garden", some "__init__")) fd := E.sd.def_ 6 (d := d_Garden_init) rfl
theorem f_check_garden (E : En K mg) : ∃ fd, FunD K "check_garden" "check_garden" (defArgs s_check_garden) (defBody s_check_garden) (defScope s_check_garden) [] [] (He.fAd K ("check_garden", none)) fd := E.sd.def_ 7 (d := d_check_garden) rfl
theorem f_is_count (E : En K mg) : ∃ fd, FunD K "is_count" "is_count" (defArgs s_is_count) (defBody s_is_count) (defScope s_is_count) [] [] (He.fAd K ("is_count", none)) fd := E.sd.def_ 8 (d := d_is_count) rfl
theorem f_garden_of (E : En K mg) : ∃ fd, FunD K "garden_of" "garden_of" (defArgs s_garden_of) (defBody s_garden_of) (defScope s_garden_of) [] [] (He.fAd K ("garden_of", none)) fd := E.sd.def_ 9 (d := d_garden_of) rfl
theorem f_are_told (E : En K mg) : ∃ fd, FunD K "are_told" "are_told" (defArgs s_are_told) (defBody s_are_told) (defScope s_are_told) [] [] (He.fAd K ("are_told", none)) fd := E.sd.def_ 10 (d := d_are_told) rfl
theorem f_Strip_init (E : En K mg) : ∃ fd, FunD K "__init__" "Strip.__init__" (defArgs s_Strip_init) (defBody s_Strip_init) (defScope s_Strip_init) [] [] (He.fAd K ("Strip", some "__init__")) fd := E.sd.def_ 11 (d := d_Strip_init) rfl
theorem f_are_poured (E : En K mg) : ∃ fd, FunD K "are_poured" "are_poured" (defArgs s_are_poured) (defBody s_are_poured) (defScope s_are_poured) [] [] (He.fAd K ("are_poured", none)) fd := E.sd.def_ 12 (d := d_are_poured) rfl
theorem f_steps_of (E : En K mg) : ∃ fd, FunD K "steps_of" "steps_of" (defArgs s_steps_of) (defBody s_steps_of) (defScope s_steps_of) [] [] (He.fAd K ("steps_of", none)) fd := E.sd.def_ 13 (d := d_steps_of) rfl
theorem f_shows_most (E : En K mg) : ∃ fd, FunD K "shows_most" "shows_most" (defArgs s_shows_most) (defBody s_shows_most) (defScope s_shows_most) [] [] (He.fAd K ("shows_most", none)) fd := E.sd.def_ 14 (d := d_shows_most) rfl
theorem f_accepts (E : En K mg) : ∃ fd, FunD K "accepts" "accepts" (defArgs s_accepts) (defBody s_accepts) (defScope s_accepts) [] [] (He.fAd K ("accepts", none)) fd := E.sd.def_ 15 (d := d_accepts) rfl
theorem f_check_taps (E : En K mg) : ∃ fd, FunD K "check_taps" "check_taps" (defArgs s_check_taps) (defBody s_check_taps) (defScope s_check_taps) [] [] (He.fAd K ("check_taps", none)) fd := E.sd.def_ 16 (d := d_check_taps) rfl
theorem f_check_row (E : En K mg) : ∃ fd, FunD K "check_row" "check_row" (defArgs s_check_row) (defBody s_check_row) (defScope s_check_row) [] [] (He.fAd K ("check_row", none)) fd := E.sd.def_ 17 (d := d_check_row) rfl
theorem f_item_at (E : En K mg) : ∃ fd, FunD K "item_at" "item_at" (defArgs s_item_at) (defBody s_item_at) (defScope s_item_at) [] [] (He.fAd K ("item_at", none)) fd := E.sd.def_ 18 (d := d_item_at) rfl
theorem f_is_tapped (E : En K mg) : ∃ fd, FunD K "is_tapped" "is_tapped" (defArgs s_is_tapped) (defBody s_is_tapped) (defScope s_is_tapped) [] [] (He.fAd K ("is_tapped", none)) fd := E.sd.def_ 19 (d := d_is_tapped) rfl
theorem f_wants (E : En K mg) : ∃ fd, FunD K "wants" "wants" (defArgs s_wants) (defBody s_wants) (defScope s_wants) [] [] (He.fAd K ("wants", none)) fd := E.sd.def_ 20 (d := d_wants) rfl
theorem f_up_to (E : En K mg) : ∃ fd, FunD K "up_to" "up_to" (defArgs s_up_to) (defBody s_up_to) (defScope s_up_to) [] [] (He.fAd K ("up_to", none)) fd := E.sd.def_ 21 (d := d_up_to) rfl
theorem f_place_of_litre (E : En K mg) : ∃ fd, FunD K "place_of_litre" "place_of_litre" (defArgs s_place_of_litre) (defBody s_place_of_litre) (defScope s_place_of_litre) [] [] (He.fAd K ("place_of_litre", none)) fd := E.sd.def_ 22 (d := d_place_of_litre) rfl
theorem f_sum_of_places (E : En K mg) : ∃ fd, FunD K "sum_of_places" "sum_of_places" (defArgs s_sum_of_places) (defBody s_sum_of_places) (defScope s_sum_of_places) [] [] (He.fAd K ("sum_of_places", none)) fd := E.sd.def_ 23 (d := d_sum_of_places) rfl
theorem f_Gap_init (E : En K mg) : ∃ fd, FunD K "__init__" "Gap.__init__" (defArgs s_Gap_init) (defBody s_Gap_init) (defScope s_Gap_init) [] [] (He.fAd K ("Gap", some "__init__")) fd := E.sd.def_ 24 (d := d_Gap_init) rfl
theorem f_Gap_from_left (E : En K mg) : ∃ fd, FunD K "from_left" "Gap.from_left" (defArgs s_Gap_from_left) (defBody s_Gap_from_left) (defScope s_Gap_from_left) [] [] (He.fAd K ("Gap", some "from_left")) fd := E.sd.def_ 25 (d := d_Gap_from_left) rfl
theorem f_Gap_from_right (E : En K mg) : ∃ fd, FunD K "from_right" "Gap.from_right" (defArgs s_Gap_from_right) (defBody s_Gap_from_right) (defScope s_Gap_from_right) [] [] (He.fAd K ("Gap", some "from_right")) fd := E.sd.def_ 26 (d := d_Gap_from_right) rfl
theorem f_Gap_both (E : En K mg) : ∃ fd, FunD K "both" "Gap.both" (defArgs s_Gap_both) (defBody s_Gap_both) (defScope s_Gap_both) [] [] (He.fAd K ("Gap", some "both")) fd := E.sd.def_ 27 (d := d_Gap_both) rfl
theorem f_Gap_is_better (E : En K mg) : ∃ fd, FunD K "is_better" "Gap.is_better" (defArgs s_Gap_is_better) (defBody s_Gap_is_better) (defScope s_Gap_is_better) [] [] (He.fAd K ("Gap", some "is_better")) fd := E.sd.def_ 28 (d := d_Gap_is_better) rfl
theorem f_Gap_best_with (E : En K mg) : ∃ fd, FunD K "best_with" "Gap.best_with" (defArgs s_Gap_best_with) (defBody s_Gap_best_with) (defScope s_Gap_best_with) [] [] (He.fAd K ("Gap", some "best_with")) fd := E.sd.def_ 29 (d := d_Gap_best_with) rfl
theorem f_Gap_best_split (E : En K mg) : ∃ fd, FunD K "best_split" "Gap.best_split" (defArgs s_Gap_best_split) (defBody s_Gap_best_split) (defScope s_Gap_best_split) [] [] (He.fAd K ("Gap", some "best_split")) fd := E.sd.def_ 30 (d := d_Gap_best_split) rfl
theorem f_Gap_cost_alone (E : En K mg) : ∃ fd, FunD K "cost_alone" "Gap.cost_alone" (defArgs s_Gap_cost_alone) (defBody s_Gap_cost_alone) (defScope s_Gap_cost_alone) [] [] (He.fAd K ("Gap", some "cost_alone")) fd := E.sd.def_ 31 (d := d_Gap_cost_alone) rfl
theorem f_Gap_cost_across (E : En K mg) : ∃ fd, FunD K "cost_across" "Gap.cost_across" (defArgs s_Gap_cost_across) (defBody s_Gap_cost_across) (defScope s_Gap_cost_across) [] [] (He.fAd K ("Gap", some "cost_across")) fd := E.sd.def_ 32 (d := d_Gap_cost_across) rfl
theorem f_last_wanting (E : En K mg) : ∃ fd, FunD K "last_wanting" "last_wanting" (defArgs s_last_wanting) (defBody s_last_wanting) (defScope s_last_wanting) [] [] (He.fAd K ("last_wanting", none)) fd := E.sd.def_ 33 (d := d_last_wanting) rfl
theorem f_next_own_tap (E : En K mg) : ∃ fd, FunD K "next_own_tap" "next_own_tap" (defArgs s_next_own_tap) (defBody s_next_own_tap) (defScope s_next_own_tap) [] [] (He.fAd K ("next_own_tap", none)) fd := E.sd.def_ 34 (d := d_next_own_tap) rfl
theorem f_tap_before (E : En K mg) : ∃ fd, FunD K "tap_before" "tap_before" (defArgs s_tap_before) (defBody s_tap_before) (defScope s_tap_before) [] [] (He.fAd K ("tap_before", none)) fd := E.sd.def_ 35 (d := d_tap_before) rfl
theorem f_tap_behind (E : En K mg) : ∃ fd, FunD K "tap_behind" "tap_behind" (defArgs s_tap_behind) (defBody s_tap_behind) (defScope s_tap_behind) [] [] (He.fAd K ("tap_behind", none)) fd := E.sd.def_ 36 (d := d_tap_behind) rfl
theorem f_pours_of (E : En K mg) : ∃ fd, FunD K "pours_of" "pours_of" (defArgs s_pours_of) (defBody s_pours_of) (defScope s_pours_of) [] [] (He.fAd K ("pours_of", none)) fd := E.sd.def_ 37 (d := d_pours_of) rfl
theorem f_walks_back (E : En K mg) : ∃ fd, FunD K "walks_back" "walks_back" (defArgs s_walks_back) (defBody s_walks_back) (defScope s_walks_back) [] [] (He.fAd K ("walks_back", none)) fd := E.sd.def_ 38 (d := d_walks_back) rfl
theorem f_Crossing_init (E : En K mg) : ∃ fd, FunD K "__init__" "Crossing.__init__" (defArgs s_Crossing_init) (defBody s_Crossing_init) (defScope s_Crossing_init) [] [] (He.fAd K ("Crossing", some "__init__")) fd := E.sd.def_ 39 (d := d_Crossing_init) rfl
theorem f_plan_of (E : En K mg) : ∃ fd, FunD K "plan_of" "plan_of" (defArgs s_plan_of) (defBody s_plan_of) (defScope s_plan_of) [] [] (He.fAd K ("plan_of", none)) fd := E.sd.def_ 40 (d := d_plan_of) rfl
theorem f_plan (E : En K mg) : ∃ fd, FunD K "plan" "plan" (defArgs s_plan) (defBody s_plan) (defScope s_plan) [.ref (He.dflAt ("plan", none) 0 K)] [] (He.fAd K ("plan", none)) fd := E.sd.def_ 41 (d := d_plan) rfl
theorem f__law_bag (E : En K mg) : ∃ fd, FunD K "_law_bag" "_law_bag" (defArgs s__law_bag) (defBody s__law_bag) (defScope s__law_bag) [] [] (He.fAd K ("_law_bag", none)) fd := E.sd.def_ 42 (d := d__law_bag) rfl
theorem f__law_take (E : En K mg) : ∃ fd, FunD K "_law_take" "_law_take" (defArgs s__law_take) (defBody s__law_take) (defScope s__law_take) [] [] (He.fAd K ("_law_take", none)) fd := E.sd.def_ 43 (d := d__law_take) rfl
theorem f__law_any (E : En K mg) : ∃ fd, FunD K "_law_any" "_law_any" (defArgs s__law_any) (defBody s__law_any) (defScope s__law_any) [] [] (He.fAd K ("_law_any", none)) fd := E.sd.def_ 44 (d := d__law_any) rfl
theorem f__law_soil (E : En K mg) : ∃ fd, FunD K "_law_soil" "_law_soil" (defArgs s__law_soil) (defBody s__law_soil) (defScope s__law_soil) [] [] (He.fAd K ("_law_soil", none)) fd := E.sd.def_ 45 (d := d__law_soil) rfl
theorem f__law_text (E : En K mg) : ∃ fd, FunD K "_law_text" "_law_text" (defArgs s__law_text) (defBody s__law_text) (defScope s__law_text) [] [] (He.fAd K ("_law_text", none)) fd := E.sd.def_ 46 (d := d__law_text) rfl
theorem f__law_needs (E : En K mg) : ∃ fd, FunD K "_law_needs" "_law_needs" (defArgs s__law_needs) (defBody s__law_needs) (defScope s__law_needs) [] [] (He.fAd K ("_law_needs", none)) fd := E.sd.def_ 47 (d := d__law_needs) rfl
theorem f__law_stops (E : En K mg) : ∃ fd, FunD K "_law_stops" "_law_stops" (defArgs s__law_stops) (defBody s__law_stops) (defScope s__law_stops) [] [] (He.fAd K ("_law_stops", none)) fd := E.sd.def_ 48 (d := d__law_stops) rfl
theorem f__law_spread (E : En K mg) : ∃ fd, FunD K "_law_spread" "_law_spread" (defArgs s__law_spread) (defBody s__law_spread) (defScope s__law_spread) [] [] (He.fAd K ("_law_spread", none)) fd := E.sd.def_ 49 (d := d__law_spread) rfl
theorem f__law_sums (E : En K mg) : ∃ fd, FunD K "_law_sums" "_law_sums" (defArgs s__law_sums) (defBody s__law_sums) (defScope s__law_sums) [] [] (He.fAd K ("_law_sums", none)) fd := E.sd.def_ 50 (d := d__law_sums) rfl
theorem f__law_alone (E : En K mg) : ∃ fd, FunD K "_law_alone" "_law_alone" (defArgs s__law_alone) (defBody s__law_alone) (defScope s__law_alone) [] [] (He.fAd K ("_law_alone", none)) fd := E.sd.def_ 51 (d := d__law_alone) rfl
theorem f__law_across (E : En K mg) : ∃ fd, FunD K "_law_across" "_law_across" (defArgs s__law_across) (defBody s__law_across) (defScope s__law_across) [] [] (He.fAd K ("_law_across", none)) fd := E.sd.def_ 52 (d := d__law_across) rfl
theorem f__law_least (E : En K mg) : ∃ fd, FunD K "_law_least" "_law_least" (defArgs s__law_least) (defBody s__law_least) (defScope s__law_least) [] [] (He.fAd K ("_law_least", none)) fd := E.sd.def_ 53 (d := d__law_least) rfl
theorem f__law_is_int (E : En K mg) : ∃ fd, FunD K "_law_is_int" "_law_is_int" (defArgs s__law_is_int) (defBody s__law_is_int) (defScope s__law_is_int) [] [] (He.fAd K ("_law_is_int", none)) fd := E.sd.def_ 54 (d := d__law_is_int) rfl
theorem f__law_are_pours (E : En K mg) : ∃ fd, FunD K "_law_are_pours" "_law_are_pours" (defArgs s__law_are_pours) (defBody s__law_are_pours) (defScope s__law_are_pours) [] [] (He.fAd K ("_law_are_pours", none)) fd := E.sd.def_ 55 (d := d__law_are_pours) rfl
theorem f__law_steps (E : En K mg) : ∃ fd, FunD K "_law_steps" "_law_steps" (defArgs s__law_steps) (defBody s__law_steps) (defScope s__law_steps) [] [] (He.fAd K ("_law_steps", none)) fd := E.sd.def_ 56 (d := d__law_steps) rfl
theorem f__law_plan_length (E : En K mg) : ∃ fd, FunD K "_law_plan_length" "_law_plan_length" (defArgs s__law_plan_length) (defBody s__law_plan_length) (defScope s__law_plan_length) [] [] (He.fAd K ("_law_plan_length", none)) fd := E.sd.def_ 57 (d := d__law_plan_length) rfl
theorem f__law_told (E : En K mg) : ∃ fd, FunD K "_law_told" "_law_told" (defArgs s__law_told) (defBody s__law_told) (defScope s__law_told) [] [] (He.fAd K ("_law_told", none)) fd := E.sd.def_ 58 (d := d__law_told) rfl
theorem f__law_naive (E : En K mg) : ∃ fd, FunD K "_law_naive" "_law_naive" (defArgs s__law_naive) (defBody s__law_naive) (defScope s__law_naive) [] [] (He.fAd K ("_law_naive", none)) fd := E.sd.def_ 59 (d := d__law_naive) rfl
theorem f__law_bent_walk (E : En K mg) : ∃ fd, FunD K "_law_bent_walk" "_law_bent_walk" (defArgs s__law_bent_walk) (defBody s__law_bent_walk) (defScope s__law_bent_walk) [] [] (He.fAd K ("_law_bent_walk", none)) fd := E.sd.def_ 60 (d := d__law_bent_walk) rfl
theorem f__law_bent_sheet (E : En K mg) : ∃ fd, FunD K "_law_bent_sheet" "_law_bent_sheet" (defArgs s__law_bent_sheet) (defBody s__law_bent_sheet) (defScope s__law_bent_sheet) [] [] (He.fAd K ("_law_bent_sheet", none)) fd := E.sd.def_ 61 (d := d__law_bent_sheet) rfl
theorem f__law_right (E : En K mg) : ∃ fd, FunD K "_law_right" "_law_right" (defArgs s__law_right) (defBody s__law_right) (defScope s__law_right) [] [] (He.fAd K ("_law_right", none)) fd := E.sd.def_ 62 (d := d__law_right) rfl
theorem f_law (E : En K mg) : ∃ fd, FunD K "law" "law" (defArgs s_law) (defBody s_law) (defScope s_law) [] [] (He.fAd K ("law", none)) fd := E.sd.def_ 63 (d := d_law) rfl
/-- a property: where it stands, its getter -/
theorem prop_ (E : En K mg) (i : Nat) {d : PrD} (h : prs[i]? = some d) : PropOf K (He.ga K d.cls) d.at_ (prA K d.cls d.at_) (prG K d.cls d.at_) ∧ PySem.W.keepIn K (.ref (prG K d.cls d.at_)) = true ∧
    ∃ oc od osl kV doc pm an cdv ct, K.lookup (prG K d.cls d.at_) = some ⟨oc, od, .func (PySem.W.fnOf d.at_ d.qual (defArgs d.st) (defBody d.st) (defScope d.st) .none kV doc pm an cdv ct), osl⟩ ∧ PySem.W.codeIn K cdv d.qual = true := by
  have c := List.all_eq_true.mp (He.ba E.sm).2 d (List.mem_of_getElem? h)
  obtain ⟨c1, c⟩ := He.ba c
  obtain ⟨c2, c⟩ := He.ba c
  obtain ⟨c3, c⟩ := He.ba c
  obtain ⟨c4, c⟩ := He.ba c
  obtain ⟨c5, c6⟩ := He.ba c
  refine ⟨⟨He.eqO_ok c1, He.eqO_ok c2, of_decide_eq_true c3, ?_⟩, c5, ?_⟩
  · have q := of_decide_eq_true c4
    cases e : PySem.W.recIn K (prA K d.cls d.at_) "property" with
    | none => rw [e] at q; cases q
    | some l =>
      cases l with
      | nil => rw [e] at q; cases q
      | cons a r =>
        rw [e] at q
        have q2 : a = .ref (prG K d.cls d.at_) := Option.some.inj q
        exact ⟨r, by rw [q2]⟩
  · have e2 : (prs.map fun d => prGet K d.cls d.at_)[i]? = (prs.map fun d => some (d.at_, d.qual, defArgs d.st, FuncBody.stmts (defBody d.st), defScope d.st, mainGlobals, [], builtinsNs))[i]? := by rw [E.sp]
    rw [List.getElem?_map, List.getElem?_map, h] at e2
    have e := Option.some.inj e2
    have z : prGet K d.cls d.at_ = some (d.at_, d.qual, defArgs d.st, FuncBody.stmts (defBody d.st), defScope d.st, mainGlobals, [], builtinsNs) := e
    unfold prGet at z
    unfold prDfl at c6
    cases q : K.lookup (prG K d.cls d.at_) with
    | none => rw [q] at z; cases z
    | some o =>
      obtain ⟨oc, od, dt, osl⟩ := o
      rw [q] at z c6
      cases dt with
      | func fd =>
        obtain ⟨n1, n2, n3, n4, n5, n6, n7, n8, n9, n10, n11, n12, n13, n14, n15⟩ := fd
        have z2 := Option.some.inj z
        simp only [Prod.mk.injEq] at z2
        obtain ⟨h1, h2, h3, h4, h5, h6, h7, h8⟩ := z2
        obtain ⟨c7, c8⟩ := He.ba c6
        have z3 : n8 = .none := by
          cases n8 with
          | none => rfl
          | _ => cases c8
        subst h1 h2 h3 h4 h5 h6 h7 h8 z3
        exact ⟨oc, od, osl, n9, n10, n11, n12, n13, n14, rfl, c7⟩
      | _ => cases z
theorem pr_Garden_text (E : En K mg) : PropOf K (He.ga K "Garden") "text" (prA K "Garden" "text") (prG K "Garden" "text") := (E.prop_ 0 (d := ⟨"Garden", "text", "Garden.text", s_Garden_text⟩) rfl).1
theorem pf_Garden_text (E : En K mg) : ∃ oc od osl kV doc pm an cdv ct, K.lookup (prG K "Garden" "text") = some ⟨oc, od, .func (PySem.W.fnOf "text" "Garden.text" (defArgs s_Garden_text) (defBody s_Garden_text) (defScope s_Garden_text) .none kV doc pm an cdv ct), osl⟩ ∧ PySem.W.codeIn K cdv "Garden.text" = true := (E.prop_ 0 (d := ⟨"Garden", "text", "Garden.text", s_Garden_text⟩) rfl).2.2
theorem pr_Garden_can (E : En K mg) : PropOf K (He.ga K "Garden") "can" (prA K "Garden" "can") (prG K "Garden" "can") := (E.prop_ 1 (d := ⟨"Garden", "can", "Garden.can", s_Garden_can⟩) rfl).1
theorem pf_Garden_can (E : En K mg) : ∃ oc od osl kV doc pm an cdv ct, K.lookup (prG K "Garden" "can") = some ⟨oc, od, .func (PySem.W.fnOf "can" "Garden.can" (defArgs s_Garden_can) (defBody s_Garden_can) (defScope s_Garden_can) .none kV doc pm an cdv ct), osl⟩ ∧ PySem.W.codeIn K cdv "Garden.can" = true := (E.prop_ 1 (d := ⟨"Garden", "can", "Garden.can", s_Garden_can⟩) rfl).2.2
theorem pr_Garden_beds (E : En K mg) : PropOf K (He.ga K "Garden") "beds" (prA K "Garden" "beds") (prG K "Garden" "beds") := (E.prop_ 2 (d := ⟨"Garden", "beds", "Garden.beds", s_Garden_beds⟩) rfl).1
theorem pf_Garden_beds (E : En K mg) : ∃ oc od osl kV doc pm an cdv ct, K.lookup (prG K "Garden" "beds") = some ⟨oc, od, .func (PySem.W.fnOf "beds" "Garden.beds" (defArgs s_Garden_beds) (defBody s_Garden_beds) (defScope s_Garden_beds) .none kV doc pm an cdv ct), osl⟩ ∧ PySem.W.codeIn K cdv "Garden.beds" = true := (E.prop_ 2 (d := ⟨"Garden", "beds", "Garden.beds", s_Garden_beds⟩) rfl).2.2
end En
end Cw
set_option Elab.async false
set_option linter.all false
set_option maxRecDepth 100000
set_option maxHeartbeats 2000000
/-! The engine: readings step by step. -/
namespace Cw
open PySem PySem.Spec PyProof.Rows L2
/-! ### heaps -/
abbrev Le := L2.Same
theorem le_new {H : Hp} {p : Addr} {o : HO} (h : H p = none) : Le H (upd H p o) := fun a u e => by
  rw [upd_ne (ne_of_none e h)]; exact e
theorem le_free {H H' : Hp} (e : Le H H') {p : Addr} (h : H' p = none) : H p = none := Same.free e h
theorem le_ne {H H' : Hp} (e : Le H H') {a p : Addr} {o : HO} (h : H a = some o) (n : H' p = none) : a ≠ p := ne_of_none (e _ _ h) n
/-- a new object, its heap by a name -/
theorem new_ {H : Hp} {o : HO} {K : Addr → Hp → Prop} (h : ∀ p H', H p = none → Le H H' → H' p = some o → K p H') : ∀ p, H p = none → K p (upd H p o) := fun p hp => h p _ hp (le_new hp) upd_same
theorem newz_ {H : Hp} {o : HO} {n : Nat} {K : Addr → Hp → Prop} (hn : n ≤ 1000000) (h : ∀ p H', H p = none → Le H H' → H' p = some o → K p H') : n ≤ sizeLine ∧ ∀ p, H p = none → K p (upd H p o) :=
  ⟨Nat.le_trans hn (by decide), new_ h⟩
theorem szl {n : Nat} (h : n ≤ 1000000) : n ≤ sizeLine := Nat.le_trans h (by decide)
theorem szlt {n : Nat} (h : n < 1000000) : n < sizeLine := Nat.lt_of_lt_of_le h (by decide)
/-- all but the address b is kept -/
def LeB (b : Addr) (H H' : Hp) : Prop := ∀ a o, a ≠ b → H a = some o → H' a = some o
theorem LeB.of {b : Addr} {H H' : Hp} (e : Le H H') : LeB b H H' := fun a o _ h => e a o h
theorem LeB.refl (b : Addr) (H : Hp) : LeB b H H := fun _ _ _ h => h
theorem LeB.trans {b : Addr} {H H1 H2 : Hp} (x : LeB b H H1) (y : LeB b H1 H2) : LeB b H H2 := fun a o n h => y a o n (x a o n h)
theorem LeB.upd {b : Addr} {H : Hp} {o : HO} : LeB b H (upd H b o) := fun a u n h => by rw [upd_ne n]; exact h
/-! ### data -/
mutual
/-- the value v stands for the data d; no object of it is in S -/
inductive Da (S : Addr → Prop) (H : Hp) : PyData → V → Prop
  | non : Da S H .none .non
  | bl (b : Bool) : Da S H (.bool b) (.bl b)
  | int (i : Int) : Da S H (.int i) (.int i)
  | str (x : Str) : Da S H (.str x) (.str x)
  | lst {a : Addr} {xs : List V} {ds : List PyData} : ¬ S a → H a = some (.lst xs) → DaL S H ds xs → Da S H (.list ds) (.ref a)
  | tup {a : Addr} {xs : List V} {ds : List PyData} : ¬ S a → H a = some (.tup xs) → DaL S H ds xs → Da S H (.tuple ds) (.ref a)
  | dct {a : Addr} : ¬ S a → H a = some (.dK []) → Da S H (.dict []) (.ref a)
inductive DaL (S : Addr → Prop) (H : Hp) : List PyData → List V → Prop
  | nil : DaL S H [] []
  | cons {v : V} {vs : List V} {d : PyData} {ds : List PyData} : Da S H d v → DaL S H ds vs → DaL S H (d :: ds) (v :: vs)
end
mutual
theorem Da.mono {S S' : Addr → Prop} {H H' : Hp} (k : ∀ a o, ¬ S a → H a = some o → ¬ S' a ∧ H' a = some o) : ∀ {d : PyData} {v : V}, Da S H d v → Da S' H' d v
  | _, _, .non => .non
  | _, _, .bl b => .bl b
  | _, _, .int i => .int i
  | _, _, .str x => .str x
  | _, _, .lst n h r => .lst (k _ _ n h).1 (k _ _ n h).2 (DaL.mono k r)
  | _, _, .tup n h r => .tup (k _ _ n h).1 (k _ _ n h).2 (DaL.mono k r)
  | _, _, .dct n h => .dct (k _ _ n h).1 (k _ _ n h).2
theorem DaL.mono {S S' : Addr → Prop} {H H' : Hp} (k : ∀ a o, ¬ S a → H a = some o → ¬ S' a ∧ H' a = some o) : ∀ {ds : List PyData} {vs : List V}, DaL S H ds vs → DaL S' H' ds vs
  | _, _, .nil => .nil
  | _, _, .cons h r => .cons (Da.mono k h) (DaL.mono k r)
end
theorem Da.le {S : Addr → Prop} {H H' : Hp} {d : PyData} {v : V} (h : Da S H d v) (e : Le H H') : Da S H' d v := h.mono fun a o n q => ⟨n, e a o q⟩
theorem DaL.le {S : Addr → Prop} {H H' : Hp} {d : List PyData} {v : List V} (h : DaL S H d v) (e : Le H H') : DaL S H' d v := h.mono fun a o n q => ⟨n, e a o q⟩
theorem Da.leB {b : Addr} {H H' : Hp} {d : PyData} {v : V} (h : Da (· = b) H d v) (e : LeB b H H') : Da (· = b) H' d v := h.mono fun a o n q => ⟨n, e a o n q⟩
theorem DaL.leB {b : Addr} {H H' : Hp} {d : List PyData} {v : List V} (h : DaL (· = b) H d v) (e : LeB b H H') : DaL (· = b) H' d v := h.mono fun a o n q => ⟨n, e a o n q⟩
theorem DaL.length {S : Addr → Prop} {H : Hp} : ∀ {ds : List PyData} {vs : List V}, DaL S H ds vs → vs.length = ds.length
  | _, _, .nil => rfl
  | _, _, .cons _ r => congrArg (· + 1) r.length
theorem DaL.get {S : Addr → Prop} {H : Hp} : ∀ {ds : List PyData} {vs : List V} {i : Nat} {d : PyData}, DaL S H ds vs → ds[i]? = some d → ∃ v, vs[i]? = some v ∧ Da S H d v
  | _, _, i, _, .nil, e => by simp at e
  | _, _, 0, _, .cons h _, e => by simp at e; subst e; exact ⟨_, rfl, h⟩
  | _, _, i + 1, _, .cons _ r, e => by
    obtain ⟨v, h1, h2⟩ := r.get (i := i) (by simpa using e)
    exact ⟨v, by simpa using h1, h2⟩
theorem DaL.get' {S : Addr → Prop} {H : Hp} : ∀ {ds : List PyData} {vs : List V} {i : Nat} {v : V}, DaL S H ds vs → vs[i]? = some v → ∃ d, ds[i]? = some d ∧ Da S H d v
  | _, _, i, _, .nil, e => by simp at e
  | _, _, 0, _, .cons h _, e => by simp at e; subst e; exact ⟨_, rfl, h⟩
  | _, _, i + 1, _, .cons _ r, e => by
    obtain ⟨v, h1, h2⟩ := r.get' (i := i) (by simpa using e)
    exact ⟨v, by simpa using h1, h2⟩
theorem DaL.append {S : Addr → Prop} {H : Hp} : ∀ {ds es : List PyData} {vs ws : List V}, DaL S H ds vs → DaL S H es ws → DaL S H (ds ++ es) (vs ++ ws)
  | _, _, _, _, .nil, s => s
  | _, _, _, _, .cons h r, s => .cons h (r.append s)
theorem DaL.take {S : Addr → Prop} {H : Hp} : ∀ {ds : List PyData} {vs : List V} (n : Nat), DaL S H ds vs → DaL S H (ds.take n) (vs.take n)
  | _, _, 0, _ => by simpa using DaL.nil
  | _, _, n + 1, .nil => .nil
  | _, _, n + 1, .cons h r => .cons h (r.take n)
theorem DaL.drop {S : Addr → Prop} {H : Hp} : ∀ {ds : List PyData} {vs : List V} (n : Nat), DaL S H ds vs → DaL S H (ds.drop n) (vs.drop n)
  | _, _, 0, r => r
  | _, _, n + 1, .nil => .nil
  | _, _, n + 1, .cons _ r => DaL.drop n r
theorem DaL.reverse {S : Addr → Prop} {H : Hp} : ∀ {ds : List PyData} {vs : List V}, DaL S H ds vs → DaL S H ds.reverse vs.reverse
  | _, _, .nil => .nil
  | _, _, .cons h r => by rw [List.reverse_cons, List.reverse_cons]; exact r.reverse.append (.cons h .nil)
/-- ints -/
theorem DaL.ints {S : Addr → Prop} {H : Hp} : ∀ ns : List Int, DaL S H (ns.map PyData.int) (ns.map V.int)
  | [] => .nil
  | n :: ns => .cons (.int n) (DaL.ints ns)
theorem DaL.ints_eq {S : Addr → Prop} {H : Hp} : ∀ {ns : List Int} {vs : List V}, DaL S H (ns.map PyData.int) vs → vs = ns.map V.int
  | [], _, .nil => rfl
  | n :: ns, _, .cons h r => by cases h; rw [r.ints_eq]; rfl
theorem Da.int_eq {S : Addr → Prop} {H : Hp} {i : Int} {v : V} (h : Da S H (.int i) v) : v = .int i := by cases h; rfl
mutual
theorem Da.dp0 {S : Addr → Prop} {H : Hp} (K : PySem.W.Frag) : ∀ {d : PyData} {v : V}, Da S H d v → d.canLay0 = true → Dp K H v d
  | _, _, .non, _ => .non
  | _, _, .bl b, _ => .bl b
  | _, _, .int i, _ => .int i
  | _, _, .str x, _ => .str x
  | _, _, .lst _ h r, s => .lst (SqL.of h) (DaL.dp K r (by simpa [PyData.canLay0] using s))
  | _, _, .tup _ h r, s => .tup (SqT.of h) (DaL.dp K r (by simpa [PyData.canLay0] using s))
  | _, _, .dct _ _, s => by simp [PyData.canLay0] at s
theorem DaL.dp {S : Addr → Prop} {H : Hp} (K : PySem.W.Frag) : ∀ {ds : List PyData} {vs : List V}, DaL S H ds vs → PyData.canLayAll0 ds = true → DpAll K H vs ds
  | _, _, .nil, _ => .nil
  | d :: ds, _, .cons h r, s => by
    have q : (d.canLay0 && PyData.canLayAll0 ds) = true := by simpa [PyData.canLayAll0] using s
    rw [Bool.and_eq_true] at q
    exact .cons (Da.dp0 K h q.1) (DaL.dp K r q.2)
end
theorem Da.dp {S : Addr → Prop} {H : Hp} (K : PySem.W.Frag) {d : PyData} {v : V} (h : Da S H d v) (s : SeqAt.shaped d = true) : Dp K H v d := h.dp0 K (SeqAt.canLay_of_shaped s)
/-- what isinstance(v, tuple) says -/
def isTup : PyData → Bool
  | .tuple _ => true
  | _ => false
theorem Da.isTup {S : Addr → Prop} {H : Hp} {K : PySem.W.Frag} {d : PyData} {v : V} (h : Da S H d v) : ∃ t, TyX K H v t ∧ PySem.W.kitOne K t (.type "tuple") = some (Cw.isTup d) := by
  cases h with
  | non => exact ⟨_, .base .non, kit_ty (r := false) (by decide +kernel)⟩
  | bl b => exact ⟨_, .base (.bl b), kit_ty (r := false) (by decide +kernel)⟩
  | int i => exact ⟨_, .base (.int i), kit_ty (r := false) (by decide +kernel)⟩
  | str x => exact ⟨_, .base (.str x), kit_ty (r := false) (by decide +kernel)⟩
  | lst _ h _ => exact ⟨_, .base (.lst h), kit_ty (r := false) (by decide +kernel)⟩
  | tup _ h _ => exact ⟨_, .base (.tup h), kit_ty (r := true) (by decide +kernel)⟩
  | dct _ h => exact ⟨_, .base (.dK h), kit_ty (r := false) (by decide +kernel)⟩
def isInt : PyData → Bool
  | .int _ => true
  | .bool _ => true
  | _ => false
theorem Da.isInt {S : Addr → Prop} {H : Hp} {K : PySem.W.Frag} {d : PyData} {v : V} (h : Da S H d v) : ∃ t, TyX K H v t ∧ PySem.W.kitOne K t (.type "int") = some (Cw.isInt d) := by
  cases h with
  | non => exact ⟨_, .base .non, kit_ty (r := false) (by decide +kernel)⟩
  | bl b => exact ⟨_, .base (.bl b), kit_ty (r := true) (by decide +kernel)⟩
  | int i => exact ⟨_, .base (.int i), kit_ty (r := true) (by decide +kernel)⟩
  | str x => exact ⟨_, .base (.str x), kit_ty (r := false) (by decide +kernel)⟩
  | lst _ h _ => exact ⟨_, .base (.lst h), kit_ty (r := false) (by decide +kernel)⟩
  | tup _ h _ => exact ⟨_, .base (.tup h), kit_ty (r := false) (by decide +kernel)⟩
  | dct _ h => exact ⟨_, .base (.dK h), kit_ty (r := false) (by decide +kernel)⟩
def isBl : PyData → Bool
  | .bool _ => true
  | _ => false
theorem Da.isBl {S : Addr → Prop} {H : Hp} {K : PySem.W.Frag} {d : PyData} {v : V} (h : Da S H d v) : ∃ t, TyX K H v t ∧ PySem.W.kitOne K t (.type "bool") = some (Cw.isBl d) := by
  cases h with
  | non => exact ⟨_, .base .non, kit_ty (r := false) (by decide +kernel)⟩
  | bl b => exact ⟨_, .base (.bl b), kit_ty (r := true) (by decide +kernel)⟩
  | int i => exact ⟨_, .base (.int i), kit_ty (r := false) (by decide +kernel)⟩
  | str x => exact ⟨_, .base (.str x), kit_ty (r := false) (by decide +kernel)⟩
  | lst _ h _ => exact ⟨_, .base (.lst h), kit_ty (r := false) (by decide +kernel)⟩
  | tup _ h _ => exact ⟨_, .base (.tup h), kit_ty (r := false) (by decide +kernel)⟩
  | dct _ h => exact ⟨_, .base (.dK h), kit_ty (r := false) (by decide +kernel)⟩
end Cw
set_option Elab.async false
set_option linter.all false
set_option maxRecDepth 100000
set_option maxHeartbeats 2000000
/-! Readings, head by head. -/
namespace Cw
open PySem PySem.Spec PyProof.Rows L2
section
variable {K : PySem.W.Frag} {σ σ' : L2.St} {H : Hp} {D : Ends} {t u ts : TS} {te ta tb tc : TE} {tt tt' : TT} {g : TG} {gs : TGs} {ar ar' : TA} {i n : Nat} {v x y : V} {vs xs ys : List V} {a b p q : Addr}
/-! ### statements -/
theorem r_seq (h : t { D with nx := u D } σ H) : tSeq t u D σ H := h
theorem r_next (h : D.nx σ H) : tNext D σ H := h
theorem r_asg (h : te σ H fun x H1 => g x σ H1 D.nx) : tAsg te g D σ H := h
theorem r_drop (h : te σ H fun _ H1 => D.nx σ H1) : tDrop te D σ H := h
theorem r_ret (h : te σ H D.rt) : tRet te D σ H := h
theorem r_ifS (h : tt σ H fun b H1 => if b = true then t D σ H1 else u D σ H1) : tIfS tt t u D σ H := h
theorem r_for {wi : TI} (h : wi σ H fun J H1 => ∃ W : Nat → Nat → L2.St → Hp → Prop, (∃ m, W 0 m σ H1) ∧ ∀ i m σ H, W i m σ H →
  (J.stop i H ∧ D.nx σ H) ∨ (J.go i H ∧ ∃ N : L2.St → Hp → Prop, (∀ σ' H', N σ' H' → ∃ m', m' < m ∧ W (i + 1) m' σ' H') ∧ ∀ x H', J.yld i H x H' → g x σ H' fun σ2 H2 => ts { D with nx := N, ct := N, bk := D.nx } σ2 H2)) : tFor wi g ts D σ H := h
theorem r_aug {ti : TIp} (e : σ[i]? = some (some x)) (h : te σ H fun y H1 => ti x y H1 fun z H2 => D.nx (σ.set i (some z)) H2) : tAug i te ti D σ H := ⟨x, e, h⟩
theorem r_ipI {f : Int → Int → Int} {i j : Int} {Q : VK} (h : Q (.int (f i j)) H) : ipI f (.int i) (.int j) H Q := ⟨i, j, rfl, rfl, h⟩
theorem r_setn {Q : L2.St → Hp → Prop} (e : σ.set i (some v) = σ') (h : Q σ' H) : Q (σ.set i (some v)) H := e ▸ h
theorem r_par {i j : Nat} (h : ar σ H fun vs H1 => ∃ v w, vs = [v, w] ∧ D.nx ((σ.set i (some v)).set j (some w)) H1) : tPar i j ar D σ H := h
theorem r_par2 {i j : Nat} {v w : V} {Q : L2.St → Hp → Prop} (e : (σ.set i (some v)).set j (some w) = σ') (h : Q σ' H) : ∃ v' w', ([v, w] : List V) = [v', w'] ∧ Q ((σ.set i (some v')).set j (some w')) H := ⟨v, w, rfl, e ▸ h⟩
theorem r_par3 {i j l : Nat} (h : ar σ H fun vs H1 => ∃ u v w, vs = [u, v, w] ∧ D.nx (((σ.set i (some u)).set j (some v)).set l (some w)) H1) : tPar3 i j l ar D σ H := h
theorem r_par32 {i j l : Nat} {u v w : V} {Q : L2.St → Hp → Prop} (e : ((σ.set i (some u)).set j (some v)).set l (some w) = σ') (h : Q σ' H) : ∃ u' v' w', ([u, v, w] : List V) = [u', v', w'] ∧ Q (((σ.set i (some u')).set j (some v')).set l (some w')) H := ⟨u, v, w, rfl, e ▸ h⟩
/-! ### targets -/
theorem r_gName {Q : L2.St → Hp → Prop} (e : σ.set i (some v) = σ') (h : Q σ' H) : gName i v σ H Q := (e ▸ h : Q (σ.set i (some v)) H)
theorem r_gTup {Q : L2.St → Hp → Prop} (hs : SqT K H a xs) (hl : xs.length = n) (h : gs xs σ H Q) : gTup K n gs (.ref a) σ H Q := ⟨a, xs, rfl, hs, hl, h⟩
theorem r_gCons {Q : L2.St → Hp → Prop} (h : g v σ H fun σ' H' => gs vs σ' H' Q) : gCons g gs (v :: vs) σ H Q := ⟨v, vs, rfl, h⟩
theorem r_gNil {Q : L2.St → Hp → Prop} (h : Q σ H) : gNil [] σ H Q := ⟨rfl, h⟩
theorem r_gSub {Q : L2.St → Hp → Prop} {tst : TSet} (h : ta σ H fun o H1 => tb σ H1 fun i H2 => tst o i v H2 fun H3 => Q σ H3) : gSub ta tb tst v σ H Q := h
theorem r_setL {Q : Hp → Prop} {k : Int} {j : Nat} (hl : H p = some (.lst xs)) (hi : ixN xs.length k = some j) (h : Q (upd H p (.lst (xs.set j v)))) : rSetL (.ref p) (.int k) v H Q := ⟨p, xs, k, j, rfl, rfl, hl, hi, h⟩
/-! ### expressions -/
variable {Q : VK}
theorem r_var (e : σ[i]? = some (some v)) (h : Q v H) : tVar i σ H Q := ⟨v, e, h⟩
theorem r_C (h : Q v H) : tC v σ H Q := h
theorem r_op {r : R2} (h : ta σ H fun x H1 => tb σ H1 fun y H2 => r x y H2 Q) : tOp r ta tb σ H Q := h
theorem r_un {r : V → Hp → VK → Prop} (h : ta σ H fun x H1 => r x H1 Q) : tUn r ta σ H Q := h
theorem r_I0 {g : Int → Int → V} {i j : Int} (h : Q (g i j) H) : rI0 g (.int i) (.int j) H Q := ⟨i, j, rfl, rfl, h⟩
theorem r_I {C : Int → Int → Prop} {g : Int → Int → V} {i j : Int} (c : C i j) (h : Q (g i j) H) : rI C g (.int i) (.int j) H Q := ⟨i, j, rfl, rfl, c, h⟩
theorem r_U {g : Int → V} {i : Int} (h : Q (g i) H) : rU g (.int i) H Q := ⟨i, rfl, h⟩
theorem r_eq (s : scal x y = true) (h : Q (.bl (decide (x = y))) H) : rEq x y H Q := ⟨s, h⟩
theorem r_ne (s : scal x y = true) (h : Q (.bl (!decide (x = y))) H) : rNe x y H Q := ⟨s, h⟩
theorem r_eqI {i j : Int} (h : Q (.bl (decide (i = j))) H) : rEq (.int i) (.int j) H Q := ⟨rfl, by
  have e : decide (V.int i = V.int j) = decide (i = j) := by simp
  rw [e]; exact h⟩
theorem r_neI {i j : Int} (h : Q (.bl (!decide (i = j))) H) : rNe (.int i) (.int j) H Q := ⟨rfl, by
  have e : decide (V.int i = V.int j) = decide (i = j) := by simp
  rw [e]; exact h⟩
theorem r_eqS {i j : Str} (h : Q (.bl (decide (i = j))) H) : rEq (.str i) (.str j) H Q := ⟨rfl, by
  have e : decide (V.str i = V.str j) = decide (i = j) := by simp
  rw [e]; exact h⟩
theorem r_neS {i j : Str} (h : Q (.bl (!decide (i = j))) H) : rNe (.str i) (.str j) H Q := ⟨rfl, by
  have e : decide (V.str i = V.str j) = decide (i = j) := by simp
  rw [e]; exact h⟩
theorem r_isN0 (h : Q (.bl true) H) : rIsN .non .non H Q := ⟨rfl, h⟩
theorem r_isN (n : x ≠ .non) (h : Q (.bl false) H) : rIsN x .non H Q := ⟨rfl, by rw [decide_eq_false n]; exact h⟩
theorem r_isNI {i : Int} (h : Q (.bl false) H) : rIsN (.int i) .non H Q := ⟨rfl, h⟩
theorem r_isNR (h : Q (.bl false) H) : rIsN (.ref a) .non H Q := ⟨rfl, h⟩
theorem r_notN0 (h : Q (.bl false) H) : rNotN .non .non H Q := ⟨rfl, h⟩
theorem r_notNI {i : Int} (h : Q (.bl true) H) : rNotN (.int i) .non H Q := ⟨rfl, h⟩
theorem r_notNR (h : Q (.bl true) H) : rNotN (.ref a) .non H Q := ⟨rfl, h⟩
theorem r_chain {r r' : R2} (h : ta σ H fun x H1 => tb σ H1 fun y H2 => r x y H2 fun z H3 => ∃ k, z = .bl k ∧ (if k = true then tc σ H3 fun w' H4 => r' y w' H4 Q else Q (.bl false) H3)) : tChain r r' ta tb tc σ H Q := h
theorem r_bl {k : Bool} {P : Bool → Prop} (h : P k) : ∃ c, V.bl k = V.bl c ∧ P c := ⟨k, rfl, h⟩
theorem r_if (h : tt σ H fun c H1 => if c = true then ta σ H1 Q else tb σ H1 Q) : tIf tt ta tb σ H Q := h
theorem r_andV (h : ta σ H fun x H1 => ∃ c, x = .bl c ∧ if c = true then tb σ H1 Q else Q (.bl false) H1) : tAndV ta tb σ H Q := h
theorem r_orV (h : ta σ H fun x H1 => ∃ c, x = .bl c ∧ if c = true then Q (.bl true) H1 else tb σ H1 Q) : tOrV ta tb σ H Q := h
theorem r_notV (h : ta σ H fun x H1 => ∃ c, x = .bl c ∧ Q (.bl (!c)) H1) : tNotV ta σ H Q := h
theorem r_orT (h : ta σ H fun x H1 => ∃ k, TruV K x H1 k ∧ if k = true then Q x H1 else tb σ H1 Q) : tOrT K ta tb σ H Q := h
/-! ### tests -/
variable {QT : Bool → Hp → Prop}
theorem r_test (h : te σ H fun x H' => ∃ k, x = .bl k ∧ QT k H') : tTest te σ H QT := h
theorem r_B (h : te σ H fun x H' => ∃ k, x = .bl k ∧ QT k H') : tB te σ H QT := h
theorem r_and (h : tt σ H fun c H1 => if c = true then tt' σ H1 QT else QT false H1) : tAnd tt tt' σ H QT := h
theorem r_or (h : tt σ H fun c H1 => if c = true then QT true H1 else tt' σ H1 QT) : tOr tt tt' σ H QT := h
theorem r_not (h : tt σ H fun c H1 => QT (!c) H1) : tNot tt σ H QT := h
/-! ### arguments, displays, calls -/
variable {QA : List V → Hp → Prop}
theorem r_nil (h : QA [] H) : tNil σ H QA := h
theorem r_cons (h : te σ H fun x H1 => ar σ H1 fun xs H2 => QA (x :: xs) H2) : tCons te ar σ H QA := h
theorem r_star (h : te σ H fun x H1 => ∃ p xs, x = V.ref p ∧ (SqT K H1 p xs ∨ SqL K H1 p xs) ∧ ar σ H1 fun ys H2 => QA (xs ++ ys) H2) : StX.tStar K te ar σ H QA := h
theorem r_starL {R : List V → Prop} (hs : SqL K H p xs) (h : R xs) : ∃ p' xs', V.ref p = V.ref p' ∧ (SqT K H p' xs' ∨ SqL K H p' xs') ∧ R xs' := ⟨p, xs, rfl, .inr hs, h⟩
theorem r_starT {R : List V → Prop} (hs : SqT K H p xs) (h : R xs) : ∃ p' xs', V.ref p = V.ref p' ∧ (SqT K H p' xs' ∨ SqL K H p' xs') ∧ R xs' := ⟨p, xs, rfl, .inl hs, h⟩
theorem r_tup (h : ar σ H fun xs H1 => xs.length ≤ sizeLine ∧ ∀ p, H1 p = none → Q (.ref p) (upd H1 p (.tup xs))) : tTup ar σ H Q := h
theorem r_lst (h : ar σ H fun xs H1 => xs.length ≤ sizeLine ∧ ∀ p, H1 p = none → Q (.ref p) (upd H1 p (.lst xs))) : tLst ar σ H Q := h
theorem r_call {sp : Sp} {dvs : List V} {E : XK} (h : ar σ H fun vs H1 => sp (vs ++ dvs) H1 Q E) : tCall sp dvs E ar σ H Q := h
theorem r_CB {r : List V → Hp → VK → Prop} (h : ar σ H fun vs H1 => r vs H1 Q) : tCB r ar σ H Q := h
/-! ### built-ins by name -/
def rLn (K : PySem.W.Frag) : List V → Hp → VK → Prop := fun xs H Q => ∃ p ys, xs = [.ref p] ∧ (SqL K H p ys ∨ SqT K H p ys) ∧ Q (.int ys.length) H
theorem c_len {X : Cx} : CallR X (.builtin "len") (rLn X.K) := call_len_seq
theorem r_lenL (h : SqL K H p ys) (k : Q (.int ys.length) H) : rLn K [.ref p] H Q := ⟨p, ys, rfl, .inl h, k⟩
theorem r_lenT (h : SqT K H p ys) (k : Q (.int ys.length) H) : rLn K [.ref p] H Q := ⟨p, ys, rfl, .inr h, k⟩
def rMax2 : List V → Hp → VK → Prop := fun xs H Q => ∃ i j, xs = [.int i, .int j] ∧ Q (.int (if j > i then j else i)) H
theorem c_max2 {X : Cx} (hc : X.calm = true) : CallR X (.builtin "max") rMax2 := call_max2 hc
theorem r_max2 {i j : Int} (h : Q (.int (max i j)) H) : rMax2 [.int i, .int j] H Q := ⟨i, j, rfl, by
  have e : (if j > i then j else i) = max i j := by split <;> omega
  rw [e]; exact h⟩
def rMin2 : List V → Hp → VK → Prop := fun xs H Q => ∃ i j, xs = [.int i, .int j] ∧ Q (.int (if j < i then j else i)) H
theorem c_min2 {X : Cx} (hc : X.calm = true) : CallR X (.builtin "min") rMin2 := call_min2 hc
theorem r_min2 {i j : Int} (h : Q (.int (min i j)) H) : rMin2 [.int i, .int j] H Q := ⟨i, j, rfl, by
  have e : (if j < i then j else i) = min i j := by split <;> omega
  rw [e]; exact h⟩
def rAbs : List V → Hp → VK → Prop := fun xs H Q => ∃ i, xs = [.int i] ∧ Q (.int (if i < 0 then -i else i)) H
theorem c_abs {X : Cx} : CallR X (.builtin "abs") rAbs := call_abs
theorem r_abs {i : Int} (h : Q (.int (if i < 0 then -i else i)) H) : rAbs [.int i] H Q := ⟨i, rfl, h⟩
def rInt1 : List V → Hp → VK → Prop := fun xs H Q => (∃ i, xs = [.int i] ∧ Q (.int i) H) ∨ ∃ k, xs = [.bl k] ∧ Q (.int (if k then 1 else 0)) H
theorem c_int1 {X : Cx} : CallR X (.type "int") rInt1 := call_int1
theorem r_int1 {i : Int} (h : Q (.int i) H) : rInt1 [.int i] H Q := .inl ⟨i, rfl, h⟩
def rStrI : List V → Hp → VK → Prop := fun xs H Q => ∃ i : Int, xs = [.int i] ∧ i.natAbs.log2 < 1920 ∧ Q (.str (toString i)) H
theorem c_strI {X : Cx} : CallR X (.type "str") rStrI := call_str_int
theorem r_strI {i : Int} (s : i.natAbs < 1000000) (h : Q (.str (toString i)) H) : rStrI [.int i] H Q := ⟨i, rfl, by
  have h2 : i.natAbs.log2 ≤ i.natAbs := Nat.log2_le_self _
  by_cases z : i.natAbs = 0
  · rw [z]; decide
  · have := (Nat.log2_lt z (k := 20)).mpr (by omega)
    omega, h⟩
def rDvm : List V → Hp → VK → Prop := fun xs H Q => ∃ i j, xs = [.int i, .int j] ∧ CDiv i j ∧ ∀ p, H p = none → Q (.ref p) (upd H p (.tup [.int (i / j), .int (i % j)]))
theorem c_dvm {X : Cx} : CallR X (.builtin "divmod") rDvm := call_divmod
theorem r_dvm {i j : Int} (c : 0 < j ∧ j < 1000000) (h : ∀ p H', H p = none → Le H H' → H' p = some (.tup [.int (i / j), .int (i % j)]) → Q (.ref p) H') : rDvm [.int i, .int j] H Q := ⟨i, j, rfl, ⟨c.1, by omega⟩, new_ (K := fun p H' => Q (.ref p) H') h⟩
theorem r_sum {ns : List Int} (hs : SqL K H p (ns.map V.int)) (h : Q (.int ns.sum) H) : rSum K [.ref p] H Q := ⟨p, ns, rfl, hs, h⟩
theorem r_maxL {ns : List Int} (hs : SqL K H p (ns.map V.int)) (l : 0 < ns.length) (h : ∀ m, m ∈ ns → (∀ y, y ∈ ns → y ≤ m) → Q (.int m) H) : rMax K [.ref p] H Q := ⟨p, ns, rfl, hs, l, h⟩
theorem r_minL {ns : List Int} (hs : SqL K H p (ns.map V.int)) (l : 0 < ns.length) (h : ∀ m, m ∈ ns → (∀ y, y ∈ ns → m ≤ y) → Q (.int m) H) : rMin K [.ref p] H Q := ⟨p, ns, rfl, hs, l, h⟩
theorem r_all {bs : List Bool} (hs : SqL K H p (bs.map V.bl)) (h : Q (.bl (bs.all id)) H) : rAll K [.ref p] H Q := ⟨p, bs, rfl, hs, h⟩
def rLstO (K : PySem.W.Frag) : List V → Hp → VK → Prop := fun xs H Q => ∃ p ys, xs = [.ref p] ∧ (SqL K H p ys ∨ SqT K H p ys) ∧ ∀ l, H l = none → Q (.ref l) (upd H l (.lst ys))
theorem c_lstO {X : Cx} : CallR X (.type "list") (rLstO X.K) := call_list_of
theorem r_lstO (hs : SqL K H p ys ∨ SqT K H p ys) (h : ∀ l H', H l = none → Le H H' → H' l = some (.lst ys) → Q (.ref l) H') : rLstO K [.ref p] H Q := ⟨p, ys, rfl, hs, new_ (K := fun p H' => Q (.ref p) H') h⟩
def rTupO (K : PySem.W.Frag) : List V → Hp → VK → Prop := fun xs H Q => ∃ p ys, xs = [.ref p] ∧ ((SqL K H p ys ∧ ∀ l, H l = none → Q (.ref l) (upd H l (.tup ys))) ∨ (SqT K H p ys ∧ Q (.ref p) H))
theorem c_tupO {X : Cx} : CallR X (.type "tuple") (rTupO X.K) := call_tuple_of
theorem r_tupO (hs : SqL K H p ys) (h : ∀ l H', H l = none → Le H H' → H' l = some (.tup ys) → Q (.ref l) H') : rTupO K [.ref p] H Q := ⟨p, ys, rfl, .inl ⟨hs, new_ (K := fun p H' => Q (.ref p) H') h⟩⟩
theorem r_tupT (hs : SqT K H p ys) (h : Q (.ref p) H) : rTupO K [.ref p] H Q := ⟨p, ys, rfl, .inr ⟨hs, h⟩⟩
theorem r_isi {c : String} {t : Value} {r : Bool} (ty : TyX K H x t) (k : PySem.W.kitOne K t (.type c) = some r) (h : Q (.bl r) H) : rIsi K [x, .ty c] H Q := ⟨x, .ty c, t, .type c, r, rfl, .ty c, ty, k, h⟩
theorem r_isiC {C : Addr} {t : Value} {r : Bool} (ty : TyX K H x t) (k : PySem.W.kitOne K t (.ref C) = some r) (h : Q (.bl r) H) : rIsi K [x, .ref C] H Q := ⟨x, .ref C, t, .ref C, r, rfl, .own C, ty, k, h⟩
/-! ### subscripts, slices, in -/
theorem r_ixL {k : Int} (hs : SqL K H p xs) (e : atI xs k = some v) (h : Q v H) : rIxL K (.ref p) (.int k) H Q := ⟨p, xs, k, v, rfl, rfl, hs, e, h⟩
theorem r_ixT {k : Int} (hs : SqT K H p xs) (e : atI xs k = some v) (h : Q v H) : rIxT K (.ref p) (.int k) H Q := ⟨p, xs, k, v, rfl, rfl, hs, e, h⟩
theorem r_inL {neg : Bool} (hs : SqL K H p xs) (f : flatV x = true) (fa : xs.all flatV = true) (h : Q (.bl (if neg then !inV x xs else inV x xs)) H) : rIn K neg x (.ref p) H Q := ⟨p, xs, rfl, .inl hs, f, fa, h⟩
theorem r_inT {neg : Bool} (hs : SqT K H p xs) (f : flatV x = true) (fa : xs.all flatV = true) (h : Q (.bl (if neg then !inV x xs else inV x xs)) H) : rIn K neg x (.ref p) H Q := ⟨p, xs, rfl, .inr hs, f, fa, h⟩
theorem r_slL {lo hi : Option Int} (hs : SqL K H p xs) (h : ∀ l H', H l = none → Le H H' → H' l = some (.lst (cutV xs lo hi)) → Q (.ref l) H') : rSlL K (.ref p) lo hi H Q := ⟨p, xs, rfl, hs, new_ (K := fun p H' => Q (.ref p) H') h⟩
/-- a tuple's slice: some tuple with these items -/
theorem r_slT {lo hi : Option Int} (hs : SqT K H p xs) (h : ∀ l H', Le H H' → (l = p ∨ H l = none) → SqT K H' l (cutV xs lo hi) → Q (.ref l) H') : rSlA K (.ref p) lo hi H Q := by
  refine ⟨p, xs, rfl, hs, fun ⟨w1, w2⟩ => ?_, fun _ l hl => h l _ (le_new hl) (.inr hl) (SqT.of upd_same)⟩
  refine h p H (Same.refl H) (.inl rfl) ?_
  have e : cutV xs lo hi = xs := by unfold cutV; rw [w1, w2]; simp
  rw [e]; exact hs
theorem r_catL {zs : List V} (h1 : H p = some (.lst xs)) (h2 : H q = some (.lst zs)) (l : xs.length + zs.length ≤ 1000000) (h : ∀ l H', H l = none → Le H H' → H' l = some (.lst (xs ++ zs)) → Q (.ref l) H') : rCat (.ref p) (.ref q) H Q :=
  ⟨p, q, xs, zs, rfl, rfl, h1, h2, szl l, new_ (K := fun p H' => Q (.ref p) H') h⟩
theorem r_catT {zs : List V} (h1 : SqT K H p xs) (h2 : SqT K H q zs) (l : xs.length + zs.length ≤ 1000000) (h : ∀ l H', Le H H' → (l = p ∨ l = q ∨ H l = none) → SqT K H' l (xs ++ zs) → Q (.ref l) H') : rCatA K (.ref p) (.ref q) H Q := by
  refine ⟨p, q, xs, zs, rfl, rfl, h1, h2, szl l, fun e => ?_, fun _ e => ?_, fun _ _ p' hp' => h p' _ (le_new hp') (.inr (.inr hp')) (SqT.of upd_same)⟩
  · refine h q H (Same.refl H) (.inr (.inl rfl)) ?_
    rw [e]; exact h2
  · refine h p H (Same.refl H) (.inl rfl) ?_
    rw [e, List.append_nil]; exact h1
theorem r_rep {k : Int} (h1 : H p = some (.lst xs)) (b : -1000000 ≤ k ∧ k ≤ 1000000) (l : xs.length * k.toNat ≤ 1000000) (h : ∀ l H', H l = none → Le H H' → H' l = some (.lst (List.replicate k.toNat xs).flatten) → Q (.ref l) H') : rRep (.ref p) (.int k) H Q := by
  refine ⟨p, k, xs, rfl, rfl, h1, by omega, by omega, szl l, ?_⟩
  exact new_ (K := fun p H' => Q (.ref p) H') h
end
end Cw
set_option Elab.async false
set_option linter.all false
set_option maxRecDepth 100000
set_option maxHeartbeats 2000000
/-! The rules that name the written part, with it as a letter of its own. -/
namespace Cw
open PySem PySem.Spec PyProof.Rows L2
section
variable {X : Cx} (K : PySem.W.Frag) (h : X.K = K)
include h
theorem ix_listK : IxR X (rIxL K) := h ▸ ix_list
theorem ix_tupK : IxR X (rIxT K) := h ▸ ix_tup
theorem sl_listK : SlR X (rSlL K) := h ▸ sl_list
theorem sl_tupK : SlR X (rSlA K) := h ▸ sl_tupA
theorem c_lenK : CallR X (.builtin "len") (rLn K) := h ▸ c_len
theorem c_isiK : CallR X (.builtin "isinstance") (rIsi K) := h ▸ call_isi
theorem c_lstOK : CallR X (.type "list") (rLstO K) := h ▸ c_lstO
theorem c_tupOK : CallR X (.type "tuple") (rTupO K) := h ▸ c_tupO
theorem c_sumK (hc : X.calm = true) : CallR X (.builtin "sum") (rSum K) := h ▸ cr_sum hc
theorem c_maxK (hc : X.calm = true) : CallR X (.builtin "max") (rMax K) := h ▸ cr_max hc
theorem c_minK (hc : X.calm = true) : CallR X (.builtin "min") (rMin K) := h ▸ cr_min hc
theorem c_allK (hc : X.calm = true) : CallR X (.builtin "all") (rAll K) := h ▸ cr_all hc
theorem op_inK : OpR X (compareOp .In) (rIn K false) := h ▸ op_in_seq
theorem op_ninK : OpR X (compareOp .NotIn) (rIn K true) := h ▸ op_notIn_seq
theorem op_catK : OpR X (binaryOp .Add) (rCatA K) := h ▸ op_catA
theorem op_eqK (hu : X.A.units + 64 < cLine) : OpR X (compareOp .Eq) (rEqD K) := h ▸ op_eqD hu
theorem op_neK (hu : X.A.units + 64 < cLine) : OpR X (compareOp .NotEq) (rNeD K) := h ▸ op_neD hu
theorem op_inDK (hu : X.A.units + 65 < cLine) : OpR X (compareOp .In) (rInD K) := h ▸ op_inD hu
theorem op_ninDK (hu : X.A.units + 65 < cLine) : OpR X (compareOp .NotIn) (rNotInD K) := h ▸ op_notInD hu
theorem mt_indexK : MtR X "list.index" (rIndex K) := h ▸ mt_index
section
variable {e o value : Expr} {f : Str} {pos pos' : Pos} {ta tv te : TE}
theorem pe_fldK (he : PE X e ta) (hb : attributeBase e f X.env (eval e X.env) = eval e X.env := by rfl) : PE X (.Attribute e f pos) (tFld K ta f) := h ▸ pe_fld he hb
theorem ps_fldK (ha : PE X o ta) (hv : PE X value tv) (hs : swapsWith value (some (.Attribute o f pos')) pos.line X.env = pure false := by rfl) : PS X (.Assign [.Attribute o f pos'] value pos) (sFld K ta tv f) := h ▸ ps_fld ha hv hs
theorem pe_orK {a b : Expr} {rest : List Expr} {ta tb : TE} (ha : PE X a ta) (hb : PE X (.BoolOp .Or (b :: rest) pos) tb) : PE X (.BoolOp .Or (a :: b :: rest) pos) (tOrT K ta tb) := h ▸ pe_orT ha hb
theorem pe_revLK {k : Nat} {p1 p2 p3 : Pos} (he : PE X e te) : PE X (.Subscript e (.Slice none none (some (.UnaryOp .USub (.Constant (.int 1) k p1) p2)) p3) pos) (tRevL K te) := h ▸ pe_revL he
theorem pi_listK {tg : Expr} (hl : PE X e te) : PI X tg e (iList K te) := h ▸ pi_list hl
theorem pi_tupK {tg : Expr} (hl : PE X e te) : PI X tg e (iTup K te) := h ▸ pi_tup hl
theorem pg_tupK {es : List Expr} {k : Nat} {t : TGs} {n : Nat} (hc : X.calm = true) (hh : PGs X es t) (hn : (assignEach es X.env).length = n := by rfl) (hst : (assignEach es X.env).findIdx? (·.1) = none := by rfl) : PG X (.Tuple es k pos) (gTup K n t) := h ▸ pg_tup hc hh hn hst
theorem pi_zipK {e e2 : Expr} {ta : TA} {p pos tpos : Pos} {elts : List Expr} {kk : Nat} (hg : Gl X "zip") (hm : X.mg "zip" = none) (ha : PA X [e, e2] ta)
    (hs : starEach [e, e2] X.env = (false, eval e X.env) :: starEach [e2] X.env := by rfl) (hpl : (backTo pos (starEach [e2] X.env)).any (·.1) = false := by rfl) : PI X (.Tuple elts kk tpos) (.Call (.Name "zip" p) [e, e2] [] pos) (RZ.iZipA K ta) := h ▸ RZ.pi_zipA hg hm ha hs hpl
theorem pa_starK {es : List Expr} {t : TA} {p : Pos} (he : PE X e te) (hr : PA X es t) (hs : starEach (.Starred e p :: es) X.env = (true, eval e X.env) :: starEach es X.env := by rfl) : PA X (.Starred e p :: es) (StX.tStar K te t) := h ▸ StX.pa_star he hr hs
theorem pe_bmK {T name id : String} {r : V → List V → Hp → VK → Prop} {es : List Expr} {t : TA} {apos cpos : Pos} (pa : PlainAttrs T) (slot : Slot T name id) (hty : typeOf (.builtin id) = pure (.type "method_descriptor")) (hm : MtR X id r) (ho : PE X o ta) (ha : PA X (e :: es) t)
    (hbase : attributeBase o (name : Str) X.env (eval o X.env) = eval o X.env := by rfl)
    (hfew : ((backTo cpos (starEach (e :: es) X.env)).all (fun x => !x.1) && (backToKw cpos (keywordEach [] X.env)).all (fun x => x.1.isSome) && decide ((e :: es).length + ([] : List Keyword).length + (if ([] : List Keyword).isEmpty then 0 else 1) < 30)) = true := by rfl)
    (hline : (apos.endLine == cpos.line) = true := by rfl) (hs : starEach (e :: es) X.env = (false, eval e X.env) :: starEach es X.env := by rfl) (hplain : (backTo cpos (starEach es X.env)).any (·.1) = false := by rfl) :
    PE X (.Call (.Attribute o (name : Str) apos) (e :: es) [] cpos) (tBM K T r ta t) := h ▸ pe_bm pa slot hty hm ho ha hbase hfew hline hs hplain
end
end
/-- sep.join(xs) -/
def rJoin (K : PySem.W.Frag) : V → List V → Hp → VK → Prop := fun x xs H Q => ∃ a p, ∃ ys : List Str, x = .str a ∧ xs = [.ref p] ∧ (SqL K H p (ys.map V.str) ∨ SqT K H p (ys.map V.str)) ∧ (ys.map (·.length)).sum + ys.length * a.length ≤ 16777216 ∧ Q (.str (Txt.join a ys)) H
theorem pe_joinK {X : Cx} (K : PySem.W.Frag) (h : X.K = K) {o e : Expr} {to te : TE} {apos pos : Pos} (ho : PE X o to) (he : PE X e te) (hs : starEach [e] X.env = [(false, eval e X.env)] := by rfl) (hbase : attributeBase o "join" X.env (eval o X.env) = eval o X.env := by rfl) (hline : (apos.endLine == pos.line) = true := by rfl) :
    PE X (.Call (.Attribute o "join" apos) [e] [] pos) (tM1 (rJoin K) to te) := h ▸ pe_join ho he hs hbase hline
end Cw
set_option Elab.async false
set_option linter.all false
set_option maxRecDepth 100000
set_option maxHeartbeats 2000000
/-! Defs by name: making their promises. -/
namespace Cw
open PySem PySem.Spec PyProof.Rows L2
section
variable {P : Program} {w : World} {K : PySem.W.Frag} {mg : Str → Option Value} {base : Heap}
/-- a def of the module, by its body -/
theorem cal_mk {x : Str} {st : Stmt} {fd : FuncData} {N ps : List Str} {k : Nat} {sp : Sp} (F : FunD K x x (defArgs st) (defBody st) (defScope st) [] [] (He.ga K x) fd) (g : mg x = some (.ref (He.ga K x))) (S : FnScope N ps (defScope st))
    (b : ∀ (kV doc pm : Value) (an : Option Addr) (cdv ct : Value) (us : List Value), us.length = ps.length → bindArgs (PySem.W.fnOf x x (defArgs st) (defBody st) (defScope st) .none kV doc pm an cdv ct) ⟨us, []⟩ = pure (ps.zip us))
    (len : ∀ vs H Q E, sp vs H Q E → vs.length = ps.length)
    (hbody : ∀ (cdv : Value) (A : Around) (outer : List Env) (s : Shared) (H : Hp) (vs : List V) (Q : VK) (E : XK), Room k (A.deeper (envOfC x (defScope st) s.heap.objs.size (He.ga K x) cdv)) → sp vs H Q E →
      ∃ t, PSs (cxOf C8.CX0 P w K mg base N x (defScope st) (He.ga K x) cdv A outer s H E).nox (defBody st) t ∧ t { nx := fun _ H' => Q .non H', rt := Q } (start N vs) H) : C8.Cal P w K mg base (k + 1) x sp [] := by
  refine ⟨He.ga K x, fd, ps, [], F.ok S len fun cdv A outer s H vs Q E hr h => ?_, g, F.kp, F.bindsN b, .nil⟩
  obtain ⟨t, h1, h2⟩ := hbody cdv A outer s H vs Q E hr h
  exact ⟨t, h1.nox, h2⟩
/-- a method -/
theorem met_mk {C m qual : Str} {st : Stmt} {fd : FuncData} {N ps : List Str} {k : Nat} {sp : Sp} (c : Cls K (He.ga K C)) (me : Meth K (He.ga K C) m (He.ma K (He.ga K C) m)) (F : FunD K m qual (defArgs st) (defBody st) (defScope st) [] [] (He.ma K (He.ga K C) m) fd) (S : FnScope N ps (defScope st))
    (b : ∀ (kV doc pm : Value) (an : Option Addr) (cdv ct : Value) (us : List Value), us.length = ps.length → bindArgs (PySem.W.fnOf m qual (defArgs st) (defBody st) (defScope st) .none kV doc pm an cdv ct) ⟨us, []⟩ = pure (ps.zip us))
    (len : ∀ vs H Q E, sp vs H Q E → vs.length = ps.length)
    (hbody : ∀ (cdv : Value) (A : Around) (outer : List Env) (s : Shared) (H : Hp) (vs : List V) (Q : VK) (E : XK), Room k (A.deeper (envOfC qual (defScope st) s.heap.objs.size (He.ma K (He.ga K C) m) cdv)) → sp vs H Q E →
      ∃ t, PSs (cxOf C8.CX0 P w K mg base N qual (defScope st) (He.ma K (He.ga K C) m) cdv A outer s H E).nox (defBody st) t ∧ t { nx := fun _ H' => Q .non H', rt := Q } (start N vs) H) : C8.Met P w K mg base (k + 1) (He.ga K C) m sp [] := by
  refine ⟨He.ma K (He.ga K C) m, fd, ps, [], c, me, F.ok S len fun cdv A outer s H vs Q E hr h => ?_, F.bindsN b, .nil⟩
  obtain ⟨t, h1, h2⟩ := hbody cdv A outer s H vs Q E hr h
  exact ⟨t, h1.nox, h2⟩
/-- a class by its __init__ -/
theorem mak_mk {C qual : Str} {st : Stmt} {fd : FuncData} {N ps : List Str} {k : Nat} {sp : Sp} (M : Mk K (He.ga K C) (He.ma K (He.ga K C) "__init__")) (g : mg C = some (.ref (He.ga K C))) (F : FunD K "__init__" qual (defArgs st) (defBody st) (defScope st) [] [] (He.ma K (He.ga K C) "__init__") fd) (S : FnScope N ps (defScope st))
    (b : ∀ (kV doc pm : Value) (an : Option Addr) (cdv ct : Value) (us : List Value), us.length = ps.length → bindArgs (PySem.W.fnOf "__init__" qual (defArgs st) (defBody st) (defScope st) .none kV doc pm an cdv ct) ⟨us, []⟩ = pure (ps.zip us))
    (len : ∀ vs H Q E, sp vs H Q E → vs.length = ps.length)
    (hbody : ∀ (cdv : Value) (A : Around) (outer : List Env) (s : Shared) (H : Hp) (vs : List V) (Q : VK) (E : XK), Room k (A.deeper (envOfC qual (defScope st) s.heap.objs.size (He.ma K (He.ga K C) "__init__") cdv)) → sp vs H Q E →
      ∃ t, PSs (cxOf C8.CX0 P w K mg base N qual (defScope st) (He.ma K (He.ga K C) "__init__") cdv A outer s H E).nox (defBody st) t ∧ t { nx := fun _ H' => Q .non H', rt := Q } (start N vs) H) : C8.Mak P w K mg base (k + 1) C (He.ga K C) sp [] := by
  refine ⟨He.ma K (He.ga K C) "__init__", fd, ps, [], M, F.ok S len fun cdv A outer s H vs Q E hr h => ?_, g, F.bindsN b, .nil⟩
  obtain ⟨t, h1, h2⟩ := hbody cdv A outer s H vs Q E hr h
  exact ⟨t, h1.nox, h2⟩
/-! ### a garden -/
/-- an item -/
def bv : Option Int → V
  | none => .non
  | some i => .int i
def gdF (w : Str) (c : Int) (p : Addr) : List (Str × V) := putF "pattern" (.ref p) (putF "load" (.int c) (putF "wording" (.str w) []))
theorem gdF_c (w : Str) (c : Int) (p : Addr) : (gdF w c p).lookup ("load" : Str) = some (.int c) := by
  unfold gdF
  rw [lookup_putF, if_neg (by decide +kernel), lookup_putF, if_pos rfl]
theorem gdF_p (w : Str) (c : Int) (p : Addr) : (gdF w c p).lookup ("pattern" : Str) = some (.ref p) := by
  unfold gdF
  rw [lookup_putF, if_pos rfl]
/-- what is asked of a can and its beds -/
structure GOk (c : Int) (bs : List (Option Int)) : Prop where
  c1 : 1 ≤ c
  c2 : c ≤ 20
  l1 : 1 ≤ bs.length
  l2 : bs.length ≤ 5
  it : ∀ x, some x ∈ bs → 0 ≤ x ∧ x ≤ 9
/-- the object at a is a garden with this can and these beds (their tuple at p) -/
structure Gd (K : PySem.W.Frag) (H : Hp) (a p : Addr) (c : Int) (bs : List (Option Int)) : Prop where
  ob : ∃ dx w, H a = some (.ins (He.ga K "Garden") dx (gdF w c p))
  tp : H p = some (.tup (bs.map bv))
  ok : GOk c bs
theorem Gd.le {H H' : Hp} {a p : Addr} {c : Int} {bs : List (Option Int)} (g : Gd K H a p c bs) (e : Le H H') : Gd K H' a p c bs := by
  obtain ⟨⟨dx, w, h⟩, t, o⟩ := g
  exact ⟨⟨dx, w, e _ _ h⟩, e _ _ t, o⟩
/-- a property, by name -/
structure PrR (P : Program) (w : World) (K : PySem.W.Frag) (mg : Str → Option Value) (base : Heap) (C f at_ : Str) : Prop where
  cl : Cls K (He.ga K C)
  pr : PropOf K (He.ga K C) at_ (prA K C at_) (prG K C at_)
  fn : ∃ fd, FnOk P w K mg base C8.CX0 1 (prG K C at_) fd ["self"] (getSp (He.ga K C) f) ∧ Binds K fd ["self"] []
theorem scG_can : FnScope ["self"] ["self"] (defScope s_Garden_can) := ⟨rfl, rfl, rfl, by decide +kernel, rfl, by decide +kernel, by decide +kernel⟩
theorem scG_beds : FnScope ["self"] ["self"] (defScope s_Garden_beds) := ⟨rfl, rfl, rfl, by decide +kernel, rfl, by decide +kernel, by decide +kernel⟩
theorem p_can (E : En K mg) : PrR P w K mg base "Garden" "load" "can" := by
  obtain ⟨oc, od, osl, kV, doc, pm, an, cdv, ct, lk, hc⟩ := E.pf_Garden_can
  exact ⟨E.cl_Garden, E.pr_Garden_can, _, fn_getter (k := 0) lk hc scG_can rfl rfl E.cl_Garden E.n_Garden_load, .all fun us hl => match us, hl with | [_], _ => rfl⟩
theorem p_beds (E : En K mg) : PrR P w K mg base "Garden" "pattern" "beds" := by
  obtain ⟨oc, od, osl, kV, doc, pm, an, cdv, ct, lk, hc⟩ := E.pf_Garden_beds
  exact ⟨E.cl_Garden, E.pr_Garden_beds, _, fn_getter (k := 0) lk hc scG_beds rfl rfl E.cl_Garden E.n_Garden_pattern, .all fun us hl => match us, hl with | [_], _ => rfl⟩
end
section
variable {X : Cx} {C f at_ : Str} {e : Expr} {ta : TE} {pos : Pos} {j : Nat} {Q : VK} {σ : L2.St} {H : Hp} {a p : Addr} {c : Int} {bs : List (Option Int)}
theorem pe_prop' (he : PE X e ta) (r : PrR X.prog X.w X.K X.mg X.base C f at_) (hr : Room j X.A) (hk : 2 ≤ j) (hab : attributeBase e at_ X.env (eval e X.env) = eval e X.env := by rfl) : PE X (.Attribute e at_ pos) (tProp (He.ga X.K C) (getSp (He.ga X.K C) f) [] C8.E0 ta) := by
  obtain ⟨fd, F, b⟩ := r.fn
  exact pe_prop he r.cl r.pr F (hr.mono hk) b .nil C8.pass0 hab
theorem pe_propK (K : PySem.W.Frag) (h : X.K = K) (he : PE X e ta) (r : PrR X.prog X.w K X.mg X.base C f at_) (hr : Room j X.A) (hk : 2 ≤ j) (hab : attributeBase e at_ X.env (eval e X.env) = eval e X.env := by rfl) : PE X (.Attribute e at_ pos) (tProp (He.ga K C) (getSp (He.ga K C) f) [] C8.E0 ta) := by
  subst h
  exact pe_prop' he r hr hk hab
theorem hu64 {A : Around} {k : Nat} (hr : Room k A) : A.units + 64 < cLine := by have := hr.un; omega
theorem hu65 {A : Around} {k : Nat} (hr : Room k A) : A.units + 65 < cLine := by have := hr.un; omega
theorem r_prop {sp : Sp} {dvs : List V} {E : XK} {C : Addr} (h : ta σ H fun x H1 => ∃ a dx fs, x = .ref a ∧ H1 a = some (.ins C dx fs) ∧ sp (.ref a :: dvs) H1 Q E) : tProp C sp dvs E ta σ H Q := h
theorem r_can {K : PySem.W.Frag} {E : XK} (g : Gd K H a p c bs) (h : Q (.int c) H) : ∃ a' dx fs, V.ref a = .ref a' ∧ H a' = some (.ins (He.ga K "Garden") dx fs) ∧ getSp (He.ga K "Garden") "load" (.ref a' :: []) H Q E := by
  obtain ⟨⟨dx, w, o⟩, t, _⟩ := g
  exact ⟨a, dx, _, rfl, o, a, dx, _, _, rfl, o, gdF_c w c p, h⟩
theorem r_beds {K : PySem.W.Frag} {E : XK} (g : Gd K H a p c bs) (h : Q (.ref p) H) : ∃ a' dx fs, V.ref a = .ref a' ∧ H a' = some (.ins (He.ga K "Garden") dx fs) ∧ getSp (He.ga K "Garden") "pattern" (.ref a' :: []) H Q E := by
  obtain ⟨⟨dx, w, o⟩, t, _⟩ := g
  exact ⟨a, dx, _, rfl, o, a, dx, _, _, rfl, o, gdF_p w c p, h⟩
end
end Cw
namespace Cw
open PySem PySem.Spec PyProof.Rows L2
theorem le_at {H H' : Hp} {a : Addr} {o : HO} (e : Le H H') (h : H a = some o) : H' a = some o := e _ _ h
theorem le_sq {K : PySem.W.Frag} {H H' : Hp} {a : Addr} {xs : List V} (e : Le H H') (h : SqL K H a xs) : SqL K H' a xs := e.seq h
theorem le_st {K : PySem.W.Frag} {H H' : Hp} {a : Addr} {xs : List V} (e : Le H H') (h : SqT K H a xs) : SqT K H' a xs := by
  rcases h with (h | ⟨o, h⟩) | h
  · exact .inl (.inl (e _ _ h))
  · exact .inl (.inr ⟨o, e _ _ h⟩)
  · exact .inr h
theorem le_gd {K : PySem.W.Frag} {H H' : Hp} {a p : Addr} {c : Int} {bs : List (Option Int)} (e : Le H H') (g : Gd K H a p c bs) : Gd K H' a p c bs := g.le e
theorem le_da {S : Addr → Prop} {H H' : Hp} {d : PyData} {v : V} (e : Le H H') (h : Da S H d v) : Da S H' d v := h.le e
theorem le_dal {S : Addr → Prop} {H H' : Hp} {d : List PyData} {v : List V} (e : Le H H') (h : DaL S H d v) : DaL S H' d v := h.le e
theorem b_isinstance : bootBuiltins "isinstance" = some (.builtin "isinstance") := by first | exact PySem.boot_isinstance | exact PyProof.Rows.boot_isinstance
theorem b_len : bootBuiltins "len" = some (.builtin "len") := by first | exact PySem.boot_len | exact PyProof.Rows.boot_len
theorem b_max : bootBuiltins "max" = some (.builtin "max") := by first | exact PySem.boot_max | exact PyProof.Rows.boot_max
theorem b_min : bootBuiltins "min" = some (.builtin "min") := by first | exact PySem.boot_min | exact PyProof.Rows.boot_min
theorem b_all : bootBuiltins "all" = some (.builtin "all") := by first | exact PySem.boot_all | exact PyProof.Rows.boot_all
theorem b_any : bootBuiltins "any" = some (.builtin "any") := by first | exact PySem.boot_any | exact PyProof.Rows.boot_any
theorem b_abs : bootBuiltins "abs" = some (.builtin "abs") := by first | exact PySem.boot_abs | exact PyProof.Rows.boot_abs
theorem b_sum : bootBuiltins "sum" = some (.builtin "sum") := by first | exact PySem.boot_sum | exact PyProof.Rows.boot_sum
theorem b_divmod : bootBuiltins "divmod" = some (.builtin "divmod") := by first | exact PySem.boot_divmod | exact PyProof.Rows.boot_divmod
theorem b_sorted : bootBuiltins "sorted" = some (.builtin "sorted") := by first | exact PySem.boot_sorted | exact PyProof.Rows.boot_sorted
theorem b_repr : bootBuiltins "repr" = some (.builtin "repr") := by first | exact PySem.boot_repr | exact PyProof.Rows.boot_repr
theorem b_tuple : bootBuiltins "tuple" = some (.type "tuple") := by first | exact PySem.boot_tuple | exact PyProof.Rows.boot_tuple
theorem b_list : bootBuiltins "list" = some (.type "list") := by first | exact PySem.boot_list | exact PyProof.Rows.boot_list
theorem b_str : bootBuiltins "str" = some (.type "str") := by first | exact PySem.boot_str | exact PyProof.Rows.boot_str
theorem b_int : bootBuiltins "int" = some (.type "int") := by first | exact PySem.boot_int | exact PyProof.Rows.boot_int
theorem b_bool : bootBuiltins "bool" = some (.type "bool") := by first | exact PySem.boot_bool | exact PyProof.Rows.boot_bool
section
variable {A B : Prop} {p : Prop} [Decidable p]
theorem if_dec (h1 : p → A) (h2 : ¬ p → B) : if decide p = true then A else B := by
  by_cases h : p
  · rw [if_pos (decide_eq_true h)]; exact h1 h
  · rw [if_neg (by simp [h])]; exact h2 h
theorem if_ndec (h1 : ¬ p → A) (h2 : p → B) : if (!decide p) = true then A else B := by
  by_cases h : p
  · rw [if_neg (by simp [h])]; exact h2 h
  · rw [if_pos (by simp [h])]; exact h1 h
theorem if_b {b : Bool} (h1 : b = true → A) (h2 : b = false → B) : if b = true then A else B := by
  cases b with
  | true => rw [if_pos rfl]; exact h1 rfl
  | false => rw [if_neg (by decide)]; exact h2 rfl
theorem if_nb {b : Bool} (h1 : b = false → A) (h2 : b = true → B) : if (!b) = true then A else B := by
  cases b with
  | true => exact if_b (b := false) (fun e => nomatch e) (fun _ => h2 rfl)
  | false => exact if_b (b := true) (fun _ => h1 rfl) (fun e => nomatch e)
theorem r_start {t : TS} {D : Ends} {σ σ' : L2.St} {H : Hp} (e : σ = σ') (h : t D σ' H) : t D σ H := e ▸ h
end
end Cw
set_option Elab.async false
set_option linter.all false
set_option maxRecDepth 100000
set_option maxHeartbeats 2000000
/-! Loops and comprehensions. -/
namespace Cw
open PySem PySem.Spec PyProof.Rows L2
section
variable {K : PySem.W.Frag} {σ σw : L2.St} {H : Hp} {D : Ends} {ts : TS} {te : TE} {tt : TT} {g : TG} {vs : List Nat} {a b : Addr} {xs ys : List V} {Q : VK}
/-! ### slices' parts -/
theorem r_sl {r : V → Option Int → Option Int → Hp → VK → Prop} {tl th : TO} (h : te σ H fun x H1 => tl σ H1 fun l H2 => th σ H2 fun u H3 => r x l u H3 Q) : L2.tSl r te tl th σ H Q := h
theorem r_nop {QO : Option Int → Hp → Prop} (h : QO none H) : tNoPart σ H QO := h
theorem r_part {QO : Option Int → Hp → Prop} (h : te σ H fun x H1 => ∃ i, x = .int i ∧ QO (some i) H1) : tPart te σ H QO := h
theorem r_int {i : Int} {R : Int → Prop} (h : R i) : ∃ j, V.int i = V.int j ∧ R j := ⟨i, rfl, h⟩
theorem r_revL (h : te σ H fun x H1 => ∃ a xs, x = .ref a ∧ SqL K H1 a xs ∧ ∀ p, H1 p = none → Q (.ref p) (upd H1 p (.lst xs.reverse))) : tRevL K te σ H Q := h
theorem k_revL (hs : SqL K H a xs) (h : ∀ p H', H p = none → Le H H' → H' p = some (.lst xs.reverse) → Q (.ref p) H') : ∃ a' xs', V.ref a = .ref a' ∧ SqL K H a' xs' ∧ ∀ p, H p = none → Q (.ref p) (upd H p (.lst xs'.reverse)) := ⟨a, xs, rfl, hs, new_ (K := fun p H' => Q (.ref p) H') h⟩
/-! ### for -/
theorem r_iR1 {ar : TA} {R : It → Hp → Prop} (h : ar σ H fun vs H1 => ∃ j : Int, vs = [.int j] ∧ -(2 ^ 62) ≤ j ∧ j < 2 ^ 62 ∧ R (Itr 0 j.toNat) H1) : iRng1 ar σ H R := h
theorem r_iR2 {ar : TA} {R : It → Hp → Prop} (h : ar σ H fun vs H1 => ∃ i j : Int, vs = [.int i, .int j] ∧ (-(2 ^ 62) ≤ i ∧ i < 2 ^ 62 ∧ -(2 ^ 62) ≤ j ∧ j < 2 ^ 62) ∧ R (Itr i (j - i).toNat) H1) : iRng2 ar σ H R := h
theorem r_iL {R : It → Hp → Prop} (h : te σ H fun x H1 => ∃ a, x = .ref a ∧ (∃ xs, SqL K H1 a xs) ∧ R (Itl K a) H1) : iList K te σ H R := h
theorem r_iT {R : It → Hp → Prop} (h : te σ H fun x H1 => ∃ a, x = .ref a ∧ (∃ xs, SqT K H1 a xs) ∧ R (Itt K a) H1) : iTup K te σ H R := h
theorem r_iE {ar : TA} {R : It → Hp → Prop} (h : ar σ H fun vs H1 => ∃ a xs, vs = [.ref a] ∧ SqL K H1 a xs ∧ R (Ite K a) H1) : iEnum K ar σ H R := h
theorem r_iZ {ar : TA} {R : It → Hp → Prop} (h : ar σ H fun vs H1 => ∃ a b xs ys, vs = [.ref a, .ref b] ∧ ((SqL K H1 a xs ∧ SqL K H1 b ys ∧ R (Itz K a b) H1) ∨ (SqT K H1 a xs ∧ SqT K H1 b ys ∧ R (RZ.ItzT K a b) H1))) : RZ.iZipA K ar σ H R := h
/-- range(n) -/
theorem k_R1 {n : Int} {R : Int → Prop} (b : -1000000000 ≤ n ∧ n ≤ 1000000000) (h : R n) : ∃ j : Int, ([V.int n] : List V) = [.int j] ∧ -(2 ^ 62) ≤ j ∧ j < 2 ^ 62 ∧ R j := ⟨n, rfl, by omega, by omega, h⟩
theorem k_R2 {n m : Int} {R : Int → Int → Prop} (b : -1000000000 ≤ n ∧ n ≤ 1000000000) (c : -1000000000 ≤ m ∧ m ≤ 1000000000) (h : R n m) : ∃ i j : Int, ([V.int n, V.int m] : List V) = [.int i, .int j] ∧ (-(2 ^ 62) ≤ i ∧ i < 2 ^ 62 ∧ -(2 ^ 62) ≤ j ∧ j < 2 ^ 62) ∧ R i j := ⟨n, m, rfl, by omega, h⟩
theorem k_L {R : Addr → Prop} (hs : SqL K H a xs) (h : R a) : ∃ a', V.ref a = .ref a' ∧ (∃ xs, SqL K H a' xs) ∧ R a' := ⟨a, rfl, ⟨xs, hs⟩, h⟩
theorem k_T {R : Addr → Prop} (hs : SqT K H a xs) (h : R a) : ∃ a', V.ref a = .ref a' ∧ (∃ xs, SqT K H a' xs) ∧ R a' := ⟨a, rfl, ⟨xs, hs⟩, h⟩
theorem k_E {R : Addr → Prop} (hs : SqL K H a xs) (h : R a) : ∃ a' xs', ([V.ref a] : List V) = [.ref a'] ∧ SqL K H a' xs' ∧ R a' := ⟨a, xs, rfl, hs, h⟩
theorem k_ZL {R R2 : Addr → Addr → Prop} (h1 : SqL K H a xs) (h2 : SqL K H b ys) (h : R a b) : ∃ a' b' xs ys, ([V.ref a, V.ref b] : List V) = [.ref a', .ref b'] ∧ ((SqL K H a' xs ∧ SqL K H b' ys ∧ R a' b') ∨ (SqT K H a' xs ∧ SqT K H b' ys ∧ R2 a' b')) := ⟨a, b, xs, ys, rfl, .inl ⟨h1, h2, h⟩⟩
theorem k_ZT {R R2 : Addr → Addr → Prop} (h1 : SqT K H a xs) (h2 : SqT K H b ys) (h : R2 a b) : ∃ a' b' xs ys, ([V.ref a, V.ref b] : List V) = [.ref a', .ref b'] ∧ ((SqL K H a' xs ∧ SqL K H b' ys ∧ R a' b') ∨ (SqT K H a' xs ∧ SqT K H b' ys ∧ R2 a' b')) := ⟨a, b, xs, ys, rfl, .inr ⟨h1, h2, h⟩⟩
theorem walk_zipT {n : Nat} (hn : n = min xs.length ys.length) : Walk (RZ.ItzT K a b) n (fun H => SqT K H a xs ∧ SqT K H b ys) (YPair (fun i => xs[i]?) (fun i => ys[i]?)) := by
  subst hn
  refine ⟨fun i _ hi q => ?_, fun _ q => ⟨xs, ys, q.1, q.2, by omega⟩, fun i H v H' _ q y => ?_⟩
  · exact ⟨xs, ys, xs[i]'(by omega), ys[i]'(by omega), q.1, q.2, by simp [show i < xs.length by omega], by simp [show i < ys.length by omega]⟩
  · obtain ⟨T, x, z, h1, h2, h3, h4, h5⟩ := y
    exact ⟨T, x, z, h1, h2, h3, h4 xs q.1, h5 ys q.2⟩
/-! ### comprehensions -/
theorem r_lc {wi : TI} (h : wi σ H fun J H1 => ∀ D, H1 D = none → ∃ W : Nat → Nat → Hp → Prop, (∃ m, W 0 m (upd H1 D (.lst []))) ∧ ∀ i m H, W i m H →
  (J.stop i H ∧ Q (.ref D) H) ∨ (J.go i H ∧ ∃ Nx : Hp → Prop, (∀ H', Nx H' → ∃ m', m' < m ∧ W (i + 1) m' H') ∧ ∀ x H', J.yld i H x H' → g x (wipe σ vs) H' fun σ2 H2 => wipe σ2 vs = wipe σ vs ∧ tt σ2 H2 fun b H3 =>
    if b = true then te σ2 H3 fun y H4 => ∃ acc, H4 D = some (.lst acc) ∧ acc.length < sizeLine ∧ Nx (upd H4 D (.lst (acc ++ [y]))) else Nx H3)) : tLc wi g tt te vs σ H Q := h
theorem r_wipe {σ2 : L2.St} {B : Prop} (e : wipe σ2 vs = σw) (h : B) : wipe σ2 vs = σw ∧ B := ⟨e, h⟩
theorem r_yes {QT : Bool → Hp → Prop} (h : QT true H) : tYes σ H QT := h
/-- each turn gives a value that is known ahead, or none -/
theorem lc_pure {Q : Addr → Hp → Prop} {J : It} {n : Nat} {G : Hp → Prop} {Y : Nat → Hp → V → Hp → Prop} (f : Nat → Option V) (w : Walk J n G Y) (hw : wipe σ vs = σw) (hn : n ≤ 1000000) (hG : ∀ H', Le H H' → G H')
    (step : ∀ i x H0 H' (R : V → Hp → Prop) (N : Hp → Prop), i < n → Le H H0 → Y i H0 x H' → (∀ y H4, Le H0 H4 → f i = some y → R y H4) → (∀ H3, Le H0 H3 → f i = none → N H3) →
      g x σw H' fun σ2 H2 => wipe σ2 vs = σw ∧ tt σ2 H2 fun b H3 => if b = true then te σ2 H3 R else N H3)
    (hd : ∀ D H', H D = none → Le H H' → H' D = some (.lst ((List.range n).filterMap f)) → Q D H') :
    ∀ D, H D = none → ∃ W : Nat → Nat → Hp → Prop, (∃ m, W 0 m (upd H D (.lst []))) ∧ ∀ i m H, W i m H →
      (J.stop i H ∧ Q D H) ∨ (J.go i H ∧ ∃ Nx : Hp → Prop, (∀ H', Nx H' → ∃ m', m' < m ∧ W (i + 1) m' H') ∧ ∀ x H', J.yld i H x H' → g x (wipe σ vs) H' fun σ2 H2 => wipe σ2 vs = wipe σ vs ∧ tt σ2 H2 fun b H3 =>
        if b = true then te σ2 H3 fun y H4 => ∃ acc, H4 D = some (.lst acc) ∧ acc.length < sizeLine ∧ Nx (upd H4 D (.lst (acc ++ [y]))) else Nx H3) := by
  intro D hD
  subst hw
  refine lc_it w (fun i H' => Le H H' ∧ H' D = some (.lst ((List.range i).filterMap f))) ⟨le_new hD, upd_same⟩ (fun i H' _ p => hG H' p.1) (fun i x H0 H' hi p y => ?_) fun H' p => hd D H' hD p.1 p.2
  have lenb : ((List.range i).filterMap f).length ≤ i := Nat.le_trans (List.length_filterMap_le _ _) (by simp)
  refine step i x H0 H' _ _ hi p.1 y (fun z H4 e hz => ⟨_, e _ _ p.2, szlt (by omega), fun b o h => ?_, ?_⟩) (fun H3 e hz => ⟨p.1.trans e, ?_⟩)
  · rw [upd_ne (ne_of_none h hD)]; exact e _ _ (p.1 b o h)
  · rw [upd_same, List.range_succ, List.filterMap_append]
    simp [hz]
  · rw [e _ _ p.2, List.range_succ, List.filterMap_append]
    simp [hz]
/-- each turn gives a value of which T tells -/
theorem lc_rel {Q : Addr → Hp → Prop} {J : It} {n : Nat} {G : Hp → Prop} {Y : Nat → Hp → V → Hp → Prop} (T : Addr → Nat → V → Hp → Prop) (w : Walk J n G Y) (hw : wipe σ vs = σw) (hn : n ≤ 1000000) (hG : ∀ H', Le H H' → G H')
    (hT : ∀ D i y H1 H2, H D = none → T D i y H1 → LeB D H1 H2 → T D i y H2)
    (step : ∀ D i x H0 H' (R : V → Hp → Prop), H D = none → i < n → Le H H0 → (∃ acc, H0 D = some (.lst acc)) → Y i H0 x H' → (∀ y H4, Le H0 H4 → T D i y H4 → R y H4) →
      g x σw H' fun σ2 H2 => wipe σ2 vs = σw ∧ tt σ2 H2 fun b H3 => b = true ∧ te σ2 H3 R)
    (htt : ∀ σ H (P P' : Bool → Hp → Prop), (∀ b H', P b H' → P' b H') → tt σ H P → tt σ H P') (hgg : ∀ x σ H (P P' : L2.St → Hp → Prop), (∀ s H', P s H' → P' s H') → g x σ H P → g x σ H P')
    (hd : ∀ D H' (out : List V), H D = none → Le H H' → H' D = some (.lst out) → out.length = n → (∀ i y, out[i]? = some y → T D i y H') → Q D H') :
    ∀ D, H D = none → ∃ W : Nat → Nat → Hp → Prop, (∃ m, W 0 m (upd H D (.lst []))) ∧ ∀ i m H, W i m H →
      (J.stop i H ∧ Q D H) ∨ (J.go i H ∧ ∃ Nx : Hp → Prop, (∀ H', Nx H' → ∃ m', m' < m ∧ W (i + 1) m' H') ∧ ∀ x H', J.yld i H x H' → g x (wipe σ vs) H' fun σ2 H2 => wipe σ2 vs = wipe σ vs ∧ tt σ2 H2 fun b H3 =>
        if b = true then te σ2 H3 fun y H4 => ∃ acc, H4 D = some (.lst acc) ∧ acc.length < sizeLine ∧ Nx (upd H4 D (.lst (acc ++ [y]))) else Nx H3) := by
  intro D hD
  subst hw
  refine lc_it w (fun i H' => Le H H' ∧ ∃ out, H' D = some (.lst out) ∧ out.length = i ∧ ∀ j y, out[j]? = some y → T D j y H') ⟨le_new hD, [], upd_same, rfl, by simp⟩ (fun i H' _ p => hG H' p.1) (fun i x H0 H' hi p y => ?_) fun H' p => ?_
  · obtain ⟨p1, out, p2, p3, p4⟩ := p
    refine hgg _ _ _ _ _ (fun s H2 q => ⟨q.1, htt _ _ _ _ (fun b H3 z => ?_) q.2⟩) (step D i x H0 H' (fun y H4 => ∃ acc, H4 D = some (.lst acc) ∧ acc.length < sizeLine ∧ Le H (upd H4 D (.lst (acc ++ [y]))) ∧ ∃ out, upd H4 D (.lst (acc ++ [y])) D = some (.lst out) ∧ out.length = i + 1 ∧ ∀ j y', out[j]? = some y' → T D j y' (upd H4 D (.lst (acc ++ [y])))) hD hi p1 ⟨_, p2⟩ y (fun z H4 e hz => ⟨out, e _ _ p2, szlt (by omega), fun b o h => ?_, out ++ [z], upd_same, by simp [p3], fun j y' hj => ?_⟩))
    · rw [z.1, if_pos rfl]; exact z.2
    · rw [upd_ne (ne_of_none h hD)]; exact e _ _ (p1 b o h)
    · by_cases hji : j < i
      · rw [List.getElem?_append_left (by omega)] at hj
        exact hT D j y' H0 _ hD (p4 j y' hj) (fun b o n h => by rw [upd_ne n]; exact e _ _ h)
      · rw [List.getElem?_append_right (by omega)] at hj
        by_cases hj2 : j - out.length = 0
        · rw [hj2] at hj
          have e2 : z = y' := by simpa using hj
          have e3 : j = i := by omega
          rw [← e2, e3]
          exact hT D i z H4 _ hD hz LeB.upd
        · have : ([z] : List V)[j - out.length]? = none := by
            apply List.getElem?_eq_none; simp; omega
          rw [this] at hj; cases hj
  · obtain ⟨p1, out, p2, p3, p4⟩ := p
    exact hd D H' out hD p1 p2 p3 p4
end
theorem rg_get {α : Type} (l : List α) : (List.range l.length).filterMap (fun i => l[i]?) = l := by
  have e1 : (List.range l.length).filterMap (fun i => l[i]?) = ((List.range l.length).map (fun i => l[i]?)).filterMap id := by rw [List.filterMap_map]; rfl
  have e2 : (List.range l.length).map (fun i => l[i]?) = l.map some := by
    apply List.ext_getElem?
    intro i
    simp only [List.getElem?_map]
    by_cases hi : i < l.length
    · simp [hi]
    · simp [hi, Nat.not_lt.mp hi]
  rw [e1, e2, List.filterMap_map]
  simp
/-- each turn gives the next of a list that is known ahead -/
theorem lc_map {σ σw : L2.St} {H : Hp} {te : TE} {tt : TT} {g : TG} {vs : List Nat} {Q : Addr → Hp → Prop} {J : It} {n : Nat} {G : Hp → Prop} {Y : Nat → Hp → V → Hp → Prop} (l : List V) (w : Walk J n G Y) (hl : l.length = n) (hw : wipe σ vs = σw) (hn : n ≤ 1000000) (hG : ∀ H', Le H H' → G H')
    (step : ∀ i x H0 H' (R : V → Hp → Prop) (N : Hp → Prop), i < n → Le H H0 → Y i H0 x H' → (∀ y H4, Le H0 H4 → l[i]? = some y → R y H4) →
      g x σw H' fun σ2 H2 => wipe σ2 vs = σw ∧ tt σ2 H2 fun b H3 => if b = true then te σ2 H3 R else N H3)
    (hd : ∀ D H', H D = none → Le H H' → H' D = some (.lst l) → Q D H') :
    ∀ D, H D = none → ∃ W : Nat → Nat → Hp → Prop, (∃ m, W 0 m (upd H D (.lst []))) ∧ ∀ i m H, W i m H →
      (J.stop i H ∧ Q D H) ∨ (J.go i H ∧ ∃ Nx : Hp → Prop, (∀ H', Nx H' → ∃ m', m' < m ∧ W (i + 1) m' H') ∧ ∀ x H', J.yld i H x H' → g x (wipe σ vs) H' fun σ2 H2 => wipe σ2 vs = wipe σ vs ∧ tt σ2 H2 fun b H3 =>
        if b = true then te σ2 H3 fun y H4 => ∃ acc, H4 D = some (.lst acc) ∧ acc.length < sizeLine ∧ Nx (upd H4 D (.lst (acc ++ [y]))) else Nx H3) := by
  refine lc_pure (fun i => l[i]?) w hw hn hG (fun i x H0 H' R N hi e y hR _ => step i x H0 H' R N hi e y hR) fun D H' h1 h2 h3 => hd D H' h1 h2 ?_
  subst hl
  rw [rg_get] at h3
  exact h3
/-! ### lists -/
theorem fm_range {α : Type} (xs : List α) (f : α → Option V) : (List.range xs.length).filterMap (fun i => xs[i]?.bind f) = xs.filterMap f := by
  have h : xs = (List.range xs.length).filterMap (fun i => xs[i]?) := by
    apply List.ext_getElem?
    intro i
    have e : (List.range xs.length).filterMap (fun i => xs[i]?) = xs := by
      have e1 : (List.range xs.length).filterMap (fun i => xs[i]?) = ((List.range xs.length).map (fun i => xs[i]?)).filterMap id := by rw [List.filterMap_map]; rfl
      have e2 : (List.range xs.length).map (fun i => xs[i]?) = xs.map some := by
        apply List.ext_getElem?
        intro i
        simp only [List.getElem?_map]
        by_cases hi : i < xs.length
        · simp [hi]
        · simp [hi, Nat.not_lt.mp hi]
      rw [e1, e2, List.filterMap_map]
      simp
    rw [e]
  conv => rhs; rw [h]
  rw [List.filterMap_filterMap]
theorem inV_ints (i : Int) (ns : List Int) : inV (.int i) (ns.map V.int) = ns.contains i := by
  induction ns with
  | nil => rfl
  | cons n ns ih =>
    show (eqV (.int n) (.int i) || inV (.int i) (ns.map V.int)) = ((n :: ns).contains i)
    rw [ih, List.contains_cons]
    congr 1
    show decide _ = _
    by_cases h : n = i
    · subst h; simp
    · have : ¬ i = n := fun e => h e.symm
      simp [h, this]
theorem flat_ints (ns : List Int) : (ns.map V.int).all flatV = true := by
  rw [List.all_map]; simp [flatV]
end Cw
set_option Elab.async false
set_option linter.all false
set_option maxRecDepth 100000
set_option maxHeartbeats 2000000
/-! Objects: fields read and stored, methods, making. -/
namespace Cw
open PySem PySem.Spec PyProof.Rows L2
section
variable {K : PySem.W.Frag} {mg : Str → Option Value} {σ : L2.St} {H : Hp} {D : Ends} {ta tv : TE} {ar : TA} {f m : Str} {x : Addr} {C dx : Addr} {fs : List (Str × V)} {v y : V} {Q : VK}
theorem r_fld (h : ta σ H fun x H1 => ∃ a C dx fs v, x = .ref a ∧ H1 a = some (.ins C dx fs) ∧ Cls K C ∧ NoAttr K C f ∧ fs.lookup f = some v ∧ Q v H1) : tFld K ta f σ H Q := h
theorem k_fld {R : V → Prop} (ho : H x = some (.ins C dx fs)) (c : Cls K C) (n : NoAttr K C f) (l : fs.lookup f = some v) (h : R v) : ∃ a C' dx' fs' v', V.ref x = .ref a ∧ H a = some (.ins C' dx' fs') ∧ Cls K C' ∧ NoAttr K C' f ∧ fs'.lookup f = some v' ∧ R v' := ⟨x, C, dx, fs, v, rfl, ho, c, n, l, h⟩
theorem r_sfld (h : tv σ H fun y H1 => ta σ H1 fun x H2 => ∃ a C dx fs, x = .ref a ∧ H2 a = some (.ins C dx fs) ∧ Cls K C ∧ NoAttr K C f ∧ fs.length < 1000 ∧ D.nx σ (upd H2 a (.ins C dx (putF f y fs)))) : sFld K ta tv f D σ H := h
theorem k_sfld {R : Addr → Addr → Addr → List (Str × V) → Prop} (ho : H x = some (.ins C dx fs)) (c : Cls K C) (n : NoAttr K C f) (l : fs.length < 1000) (h : R x C dx fs) : ∃ a C' dx' fs', V.ref x = .ref a ∧ H a = some (.ins C' dx' fs') ∧ Cls K C' ∧ NoAttr K C' f ∧ fs'.length < 1000 ∧ R a C' dx' fs' := ⟨x, C, dx, fs, rfl, ho, c, n, l, h⟩
theorem r_meth {sp : Sp} {dvs : List V} {E : XK} (h : ta σ H fun x H1 => ∃ a dx fs, x = .ref a ∧ H1 a = some (.ins C dx fs) ∧ fs.lookup m = none ∧ ar σ H1 fun vs H2 => sp (x :: (vs ++ dvs)) H2 Q E) : tMeth C m sp dvs E ta ar σ H Q := h
theorem k_meth {B : Prop} (ho : H x = some (.ins C dx fs)) (l : fs.lookup m = none) (h : B) : ∃ a dx' fs', V.ref x = .ref a ∧ H a = some (.ins C dx' fs') ∧ fs'.lookup m = none ∧ B := ⟨x, dx, fs, rfl, ho, l, h⟩
theorem r_make {sp : Sp} {dvs : List V} {E : XK} (h : ar σ H fun vs H1 => ∀ x dx, H1 x = none → H1 dx = none → dx ≠ x → sp (.ref x :: (vs ++ dvs)) (upd (upd H1 dx (.own x)) x (.ins C dx [])) (fun v H2 => v = .non ∧ Q (.ref x) H2) E) : tMake C sp dvs E ar σ H Q := h
/-- the heap where a new instance stands -/
theorem make_le {p : Addr} (h1 : H x = none) (h2 : H dx = none) : Le H (upd (upd H dx (.own x)) x (.ins C dx [])) := fun b o e => by
  rw [upd_ne (ne_of_none e h1), upd_ne (ne_of_none e h2)]; exact e
/-! ### a gap -/
def gpF (a : Addr) (l r b m : Int) : List (Str × V) := putF "many" (.int m) (putF "before" (.int b) (putF "right_tap" (.int r) (putF "left_tap" (.int l) (putF "soil" (.ref a) []))))
structure Gp (K : PySem.W.Frag) (H : Hp) (x a p : Addr) (c : Int) (bs : List (Option Int)) (l r b m : Int) : Prop where
  ob : ∃ dx, H x = some (.ins (He.ga K "Gap") dx (gpF a l r b m))
  gd : Gd K H a p c bs
  pos : 0 < (bs.map (·.getD 0)).sum
  lb : 0 ≤ l ∧ l < r ∧ r ≤ 1000
  bb : -100000 ≤ b ∧ b ≤ 100000
  mb : -100000 ≤ m ∧ m ≤ 100000
theorem Gp.le {H H' : Hp} {x a p : Addr} {c : Int} {bs : List (Option Int)} {l r b m : Int} (g : Gp K H x a p c bs l r b m) (e : Le H H') : Gp K H' x a p c bs l r b m := by
  obtain ⟨⟨dx, o⟩, gd, h1, h2, h3, h4⟩ := g
  exact ⟨⟨dx, e _ _ o⟩, gd.le e, h1, h2, h3, h4⟩
theorem le_gp {H H' : Hp} {x a p : Addr} {c : Int} {bs : List (Option Int)} {l r b m : Int} (e : Le H H') (g : Gp K H x a p c bs l r b m) : Gp K H' x a p c bs l r b m := g.le e
theorem gpF_soil (a : Addr) (l r b m : Int) : (gpF a l r b m).lookup ("soil" : Str) = some (.ref a) := by
  unfold gpF; rw [lookup_putF, if_neg (by decide +kernel), lookup_putF, if_neg (by decide +kernel), lookup_putF, if_neg (by decide +kernel), lookup_putF, if_neg (by decide +kernel), lookup_putF, if_pos rfl]
theorem gpF_left (a : Addr) (l r b m : Int) : (gpF a l r b m).lookup ("left_tap" : Str) = some (.int l) := by
  unfold gpF; rw [lookup_putF, if_neg (by decide +kernel), lookup_putF, if_neg (by decide +kernel), lookup_putF, if_neg (by decide +kernel), lookup_putF, if_pos rfl]
theorem gpF_right (a : Addr) (l r b m : Int) : (gpF a l r b m).lookup ("right_tap" : Str) = some (.int r) := by
  unfold gpF; rw [lookup_putF, if_neg (by decide +kernel), lookup_putF, if_neg (by decide +kernel), lookup_putF, if_pos rfl]
theorem gpF_before (a : Addr) (l r b m : Int) : (gpF a l r b m).lookup ("before" : Str) = some (.int b) := by
  unfold gpF; rw [lookup_putF, if_neg (by decide +kernel), lookup_putF, if_pos rfl]
theorem gpF_many (a : Addr) (l r b m : Int) : (gpF a l r b m).lookup ("many" : Str) = some (.int m) := by
  unfold gpF; rw [lookup_putF, if_pos rfl]
theorem gpF_no (a : Addr) (l r b m : Int) {n : Str} (h : (["soil", "left_tap", "right_tap", "before", "many"] : List Str).contains n = false) : (gpF a l r b m).lookup n = none := by
  have q : ∀ z ∈ (["soil", "left_tap", "right_tap", "before", "many"] : List Str), ¬ n = z := fun z hz e => by
    subst e
    have : (["soil", "left_tap", "right_tap", "before", "many"] : List Str).contains n = true := List.contains_iff_mem.mpr hz
    rw [h] at this; cases this
  unfold gpF
  rw [lookup_putF, if_neg (q _ (by simp)), lookup_putF, if_neg (q _ (by simp)), lookup_putF, if_neg (q _ (by simp)), lookup_putF, if_neg (q _ (by simp)), lookup_putF, if_neg (q _ (by simp))]
  rfl
variable {a p : Addr} {c : Int} {bs : List (Option Int)} {l r b n : Int}
theorem kg_soil {R : V → Prop} (E : En K mg) (g : Gp K H x a p c bs l r b n) (h : R (.ref a)) : ∃ a' C' dx' fs' v', V.ref x = .ref a' ∧ H a' = some (.ins C' dx' fs') ∧ Cls K C' ∧ NoAttr K C' "soil" ∧ fs'.lookup ("soil" : Str) = some v' ∧ R v' := by
  obtain ⟨dx, o⟩ := g.ob
  exact k_fld o E.cl_Gap E.n_Gap_soil (gpF_soil ..) h
theorem kg_left {R : V → Prop} (E : En K mg) (g : Gp K H x a p c bs l r b n) (h : R (.int l)) : ∃ a' C' dx' fs' v', V.ref x = .ref a' ∧ H a' = some (.ins C' dx' fs') ∧ Cls K C' ∧ NoAttr K C' "left_tap" ∧ fs'.lookup ("left_tap" : Str) = some v' ∧ R v' := by
  obtain ⟨dx, o⟩ := g.ob
  exact k_fld o E.cl_Gap E.n_Gap_left_tap (gpF_left ..) h
theorem kg_right {R : V → Prop} (E : En K mg) (g : Gp K H x a p c bs l r b n) (h : R (.int r)) : ∃ a' C' dx' fs' v', V.ref x = .ref a' ∧ H a' = some (.ins C' dx' fs') ∧ Cls K C' ∧ NoAttr K C' "right_tap" ∧ fs'.lookup ("right_tap" : Str) = some v' ∧ R v' := by
  obtain ⟨dx, o⟩ := g.ob
  exact k_fld o E.cl_Gap E.n_Gap_right_tap (gpF_right ..) h
theorem kg_before {R : V → Prop} (E : En K mg) (g : Gp K H x a p c bs l r b n) (h : R (.int b)) : ∃ a' C' dx' fs' v', V.ref x = .ref a' ∧ H a' = some (.ins C' dx' fs') ∧ Cls K C' ∧ NoAttr K C' "before" ∧ fs'.lookup ("before" : Str) = some v' ∧ R v' := by
  obtain ⟨dx, o⟩ := g.ob
  exact k_fld o E.cl_Gap E.n_Gap_before (gpF_before ..) h
theorem kg_many {R : V → Prop} (E : En K mg) (g : Gp K H x a p c bs l r b n) (h : R (.int n)) : ∃ a' C' dx' fs' v', V.ref x = .ref a' ∧ H a' = some (.ins C' dx' fs') ∧ Cls K C' ∧ NoAttr K C' "many" ∧ fs'.lookup ("many" : Str) = some v' ∧ R v' := by
  obtain ⟨dx, o⟩ := g.ob
  exact k_fld o E.cl_Gap E.n_Gap_many (gpF_many ..) h
theorem kg_meth {B : Prop} (g : Gp K H x a p c bs l r b n) (hm : (["soil", "left_tap", "right_tap", "before", "many"] : List Str).contains m = false) (h : B) : ∃ a' dx' fs', V.ref x = .ref a' ∧ H a' = some (.ins (He.ga K "Gap") dx' fs') ∧ fs'.lookup m = none ∧ B := by
  obtain ⟨dx, o⟩ := g.ob
  exact k_meth o (gpF_no _ _ _ _ _ hm) h
end
end Cw
set_option Elab.async false
set_option linter.all false
set_option maxRecDepth 100000
set_option maxHeartbeats 2000000
/-! Built-ins over lists and tuples: any, min, repr, a reversed tuple, an item's place. -/
namespace Cw
open PySem PySem.Spec PyProof.Rows L2
section
variable {X : Cx}
/-! ### any(xs) of flat things -/
def truV : V → Bool
  | .bl b => b
  | .int i => i != 0
  | _ => false
def FlatTr (x : V) : Prop := x = .non ∨ (∃ b, x = .bl b) ∨ ∃ i, x = .int i
theorem truth_flat {P : Program} {w : World} {A : Around} {xs : List V} {us : List Value} (r : Vals xs us) (f : ∀ x ∈ xs, FlatTr x) : TruthOf P w A (fun i v => us.toArray[i]? = some v) (fun i => ((xs[i]?).map truV).getD false) := by
  intro i v s Q E hv hq
  have hu : us[i]? = some v := by simpa using hv
  have hl : i < xs.length := by rw [r.length]; exact (List.getElem?_eq_some_iff.mp hu).1
  obtain ⟨u, h1, h2⟩ := r.get (i := i) (x := xs[i]) (List.getElem?_eq_getElem hl)
  have e : u = v := Option.some.inj (h1.symm.trans hu)
  subst e
  have hq2 : Q (truV xs[i]) s := by
    have z : ((xs[i]?).map truV).getD false = truV xs[i] := by rw [List.getElem?_eq_getElem hl]; rfl
    have hq1 : Q (((xs[i]?).map truV).getD false) s := hq
    rw [z] at hq1
    exact hq1
  rcases f xs[i] (List.getElem_mem hl) with z | ⟨b, z⟩ | ⟨k, z⟩ <;> rw [z] at h2 hq2 <;> cases h2
  · exact truthy_none hq2
  · exact wpAny_truthy_bool hq2
  · next h => subst h; exact PySem.P.truthy_int hq2
theorem any_at (xs : List V) : (List.range xs.length).any (fun i => ((xs[i]?).map truV).getD false) = xs.any truV := by
  rw [Bool.eq_iff_iff, List.any_eq_true, List.any_eq_true]
  constructor
  · rintro ⟨i, hi, h⟩
    have hi' := List.mem_range.mp hi
    rw [List.getElem?_eq_getElem hi'] at h
    exact ⟨xs[i], List.getElem_mem hi', h⟩
  · rintro ⟨x, hx, h⟩
    obtain ⟨i, hi, rfl⟩ := List.getElem_of_mem hx
    exact ⟨i, List.mem_range.mpr hi, by rw [List.getElem?_eq_getElem hi]; exact h⟩
def rAnyF (K : PySem.W.Frag) : List V → Hp → VK → Prop := fun vs H Q => ∃ (a : Addr) (xs : List V), vs = [V.ref a] ∧ (SqL K H a xs ∨ SqT K H a xs) ∧ (∀ x ∈ xs, x = .non ∨ (∃ b, x = .bl b) ∨ ∃ i, x = .int i) ∧ Q (.bl (xs.any truV)) H
theorem c_anyK (K : PySem.W.Frag) (h : X.K = K) (hc : X.calm = true) : CallR X (.builtin "any") (rAnyF K) := by
  subst h
  intro pins s σ H vs us Q I r hh
  obtain ⟨a, xs, rfl, hs, f, q⟩ := hh
  rw [Vals.ref1 r]
  rcases hs with hs | hs
  · obtain ⟨its, rv, hl, _⟩ := I.list hs
    refine call_any_walk (iter_any hl.isList fun s₂ e2 st hne => ?_)
    subst e2
    refine ⟨_, _, _, _, _, _, _, rfl, Walks.list (A := X.A.in1) (I.ok.hd hc) _ a hne its.toArray, st, truth_flat rv f, fun h' tk hk => ⟨.bl _, H, I.kept fun b o eo => hk b o (fun hm => ?_) (Heap.get?_push_of_some _ eo), ?_, q⟩⟩
    · have e1 : b = s.heap.objs.size := by simpa using hm
      exact absurd (e1 ▸ Heap.lt_size eo) (Nat.lt_irrefl _)
    · show Value.bool _ = Value.bool _
      rw [← any_at, List.size_toArray, rv.length]
  · obtain ⟨its, rv, ht, _⟩ := I.tuple hs
    have ht' : s.heap.IsTuple a its.toArray := ht
    have hlt : a < s.heap.objs.size := by obtain ⟨_, e, _⟩ := ht; exact Heap.lt_size e
    refine call_any_walk (wpAny_pyIter_tuple ht' ?_)
    refine ⟨_, _, _, _, _, _, _, rfl, Walks.tuple (A := X.A.in1) (I.ok.hd hc) _ a (Nat.ne_of_lt hlt) its.toArray, ⟨⟨_, Heap.get?_push_size _ rfl, rfl, rfl⟩, ht'.push _⟩, truth_flat rv f, fun h' tk hk => ⟨.bl _, H, I.kept fun b o eo => hk b o (fun hm => ?_) (Heap.get?_push_of_some _ eo), ?_, q⟩⟩
    · have e1 : b = s.heap.objs.size := by simpa using hm
      exact absurd (e1 ▸ Heap.lt_size eo) (Nat.lt_irrefl _)
    · show Value.bool _ = Value.bool _
      rw [← any_at, List.size_toArray, rv.length]
/-! ### min(xs) of pairs of ints: one of them -/
def rMinP (K : PySem.W.Frag) : List V → Hp → VK → Prop := fun vs H Q => ∃ (a : Addr) (xs : List V), vs = [V.ref a] ∧ SqL K H a xs ∧ 0 < xs.length ∧ (∀ x ∈ xs, ∃ t i j, x = V.ref t ∧ H t = some (.tup [.int i, .int j])) ∧ ∀ x ∈ xs, Q x H
def PairD (d : PyData) : Prop := ∃ i j : Int, d = .tuple [.int i, .int j]
theorem prs_dp {K : PySem.W.Frag} {H : Hp} : ∀ {xs : List V}, (∀ x ∈ xs, ∃ t i j, x = V.ref t ∧ H t = some (.tup [.int i, .int j])) → ∃ ds, DpAll K H xs ds ∧ ∀ d ∈ ds, PairD d
  | [], _ => ⟨[], .nil, by simp⟩
  | x :: xs, h => by
    obtain ⟨t, i, j, rfl, ht⟩ := h x (by simp)
    obtain ⟨ds, h1, h2⟩ := prs_dp (K := K) (H := H) (xs := xs) fun y hy => h y (by simp [hy])
    refine ⟨.tuple [.int i, .int j] :: ds, .cons (.tup (SqT.of ht) (.cons (.int i) (.cons (.int j) .nil))) h1, fun d hd => ?_⟩
    rcases List.mem_cons.mp hd with rfl | hd
    · exact ⟨i, j, rfl⟩
    · exact h2 d hd
theorem prs_alike {ds : List PyData} (h : ∀ d ∈ ds, PairD d) : PySem.W.AlikeAll ds := by
  refine ⟨fun x hx y hy => ?_, fun x hx => ?_⟩
  · obtain ⟨i, j, rfl⟩ := h x hx
    obtain ⟨k, l, rfl⟩ := h y hy
    simp [PySem.W.alike, PySem.W.alikeAll]
  · obtain ⟨i, j, rfl⟩ := h x hx
    simp
theorem prs_dep {ds : List PyData} (h : ∀ d ∈ ds, PairD d) : PyData.depthAll ds ≤ 1 := by
  induction ds with
  | nil => simp [PyData.depthAll]
  | cons d ds ih =>
    have h2 := ih fun e he => h e (by simp [he])
    obtain ⟨i, j, rfl⟩ := h d (by simp)
    simp [PyData.depthAll, PyData.depth]
    omega
theorem c_minPK (K : PySem.W.Frag) (h : X.K = K) (hc : X.calm = true) (hu : X.A.units + 64 < cLine) : CallR X (.builtin "min") (rMinP K) := by
  subst h
  intro pins s σ H vs us Q I r hh
  obtain ⟨a, xs, rfl, hs, hl0, f, q⟩ := hh
  rw [Vals.ref1 r]
  obtain ⟨its, rv, hl, _⟩ := I.list hs
  obtain ⟨ds, dp, pd⟩ := prs_dp (K := X.K) f
  obtain ⟨as, ra⟩ := Dp.readsAll I ds xs its dp rv
  have hn : 0 < its.toArray.size := by rw [List.size_toArray, ← rv.length]; exact hl0
  refine call_min_walkH (iter_any hl.isList fun s₂ e2 st hne => ?_)
  subst e2
  have hal : a < s.heap.objs.size := by obtain ⟨_, e, _⟩ := hl.isList; exact Heap.lt_size e
  refine ⟨_, _, _, _, _, _, _, s.heap, _, rfl, (Walks.list (A := X.A.in1) (I.ok.hd hc) _ a hne its.toArray).toS, ?_, fun b hb => ?_, hn, fun b o e hb => ?_, fun b o e => Heap.get?_push_of_some _ e, PySem.W.cmpIn_lt (s := s) (vs := its.toArray) (by simpa using ra) (prs_alike pd) ?_, fun v s' hv hm => ?_⟩
  · exact st
  · have e : b = s.heap.objs.size ∨ b = a := by simpa using hb
    show b < (s.heap.push _).objs.size
    rw [Heap.size_push]
    rcases e with e | e
    · rw [e]; exact Nat.lt_succ_self _
    · rw [e]; exact Nat.lt_succ_of_lt hal
  · have z : b = s.heap.objs.size := by simpa using hb
    exact absurd (z ▸ Heap.lt_size e) (Nat.lt_irrefl _)
  · have := prs_dep pd
    have e : X.A.in1.units = X.A.units + 1 := rfl
    rw [e]; omega
  · obtain ⟨j, hv'⟩ : ∃ j, its[j]? = some v := ⟨_, by simpa using hv⟩
    have hx : j < xs.length := by rw [rv.length]; exact (List.getElem?_eq_some_iff.mp hv').1
    obtain ⟨u, h1, h2⟩ := rv.get (List.getElem?_eq_getElem hx)
    have e : u = v := Option.some.inj (h1.symm.trans hv')
    subst e
    have old : ∀ b o, s.heap.get? b = some o → s'.heap.get? b = some o := fun b o eo => hm.heap b o (fun hb => by
      have z : b = s.heap.objs.size := by simpa using hb
      exact absurd (z ▸ Heap.lt_size eo) (Nat.lt_irrefl _)) (Heap.get?_push_of_some _ eo)
    rw [Moved.eq_with hm]
    exact ⟨_, H, I.kept old, h2, q _ (List.getElem_mem hx)⟩
/-! ### xs[i] op= e -/
theorem get_listK (K : PySem.W.Frag) (h : X.K = K) : PGet X (rIxL K) := by
  subst h
  intro pins s σ H x y v u Q I rx ry hh
  obtain ⟨p, xs, i, z, rfl, rfl, hq, he, q⟩ := hh
  cases rx
  obtain ⟨t, rfl⟩ := ry
  obtain ⟨its, r, pl, hz⟩ := I.list hq
  obtain ⟨j, h1, h2, h3, h4, h5⟩ := atI_get he
  obtain ⟨c, ec, rc⟩ := r.get h2
  have len := r.length
  have big := line63
  by_cases h0 : 0 ≤ i
  · have hj : i.toNat = j := by
      have z := (seqIndex_of h0 h5).symm.trans h1
      exact Option.some.inj z
    exact wpAny_getItem_list pl.isList h0 (by omega) (by rw [hj]; simpa using ec) ⟨z, H, I, rc, q⟩
  · have hj : (i + (its.toArray.size : Int)).toNat = j := by
      have z := (seqIndex_neg (by omega) h4).symm.trans h1
      rw [List.size_toArray, ← len]
      exact Option.some.inj z
    exact wpAny_getItem_list_neg pl.isList (by omega) (by rw [List.size_toArray] <;> omega) (by omega) (by rw [hj]; simpa using ec) ⟨z, H, I, rc, q⟩
/-! ### t[::-1] of a tuple -/
def tRevT (K : PySem.W.Frag) (te : TE) : TE := fun σ H Q => te σ H fun x H1 => ∃ a xs, x = V.ref a ∧ SqT K H1 a xs ∧ ∀ p, H1 p = none → Q (.ref p) (upd H1 p (.tup xs.reverse))
theorem rev_places (n : Nat) : Builtin.Slice.sliceAdjust none none (-1) (n : Int) = ((n : Int) - 1, -1) ∧ Builtin.Slice.slicePlaces ((n : Int) - 1) (-1) (-1) = n := by
  constructor
  · rfl
  · unfold Builtin.Slice.slicePlaces
    rw [if_neg (by decide : ¬ ((-1 : Int) > 0))]
    by_cases h : (n : Int) - 1 > -1
    · rw [if_pos h]
      have e : ((n : Int) - 1 - -1 - 1) / (- -1) = (n : Int) - 1 := by
        rw [show (- -1 : Int) = 1 by decide, Int.ediv_one]
        omega
      rw [e]; omega
    · rw [if_neg h]; omega
theorem fm_same {α β : Type} {f g : α → Option β} : ∀ {l : List α}, (∀ x ∈ l, f x = g x) → l.filterMap f = l.filterMap g
  | [], _ => rfl
  | x :: l, h => by
    rw [List.filterMap_cons, List.filterMap_cons, h x (by simp), fm_same fun y hy => h y (by simp [hy])]
theorem rev_pick (xs : Array Value) : ((List.range xs.size).filterMap fun (k : Nat) => xs[(((xs.size : Int) - 1) + (k : Int) * (-1)).toNat]?).toArray = xs.toList.reverse.toArray := by
  have e : ∀ k ∈ List.range xs.size, xs[(((xs.size : Int) - 1) + (k : Int) * (-1)).toNat]? = xs[xs.size - 1 - k]? := fun k hk => by
    have h := List.mem_range.mp hk
    have z : (((xs.size : Int) - 1) + (k : Int) * (-1)).toNat = xs.size - 1 - k := by omega
    rw [z]
  rw [fm_same e]
  have e2 : (List.range xs.size).filterMap (fun k => xs[xs.size - 1 - k]?) = ((List.range xs.size).map fun k => xs.size - 1 - k).filterMap (xs[·]?) := by rw [List.filterMap_map]; rfl
  rw [e2, PySem.W.krv_range, List.filterMap_reverse, PySem.W.krv_all]
section
variable {P : Program} {w : World} {A : Around} {E : Value → Shared → Prop} {s : Shared}
theorem item_rev {t sl : Addr} {items : Array Value} {vs : Value} {Q : Value → Shared → Prop} (ht : IsTup s.heap t items) (hs : s.heap.IsSliceOf sl .none .none vs) (pv : IsPart vs (some (-1)))
    (h : Q (.ref s.heap.objs.size) { s with heap := s.heap.push { cls := .type "tuple", data := .seq items.toList.reverse.toArray } }) (hz : items.size ≤ sizeLine) : wpAny (model P w) A (getItem (.ref t) (.ref sl)) Q E s := by
  obtain ⟨os, hos, hcs, hds⟩ := id hs
  have kind : s.TypeIs (.ref sl) "slice" := ⟨os, hos, hcs⟩
  have fits : sizeOk (.seq items.toList.reverse.toArray) := by
    show items.toList.reverse.toArray.size ≤ sizeLine
    rw [List.size_toArray, List.length_reverse, Array.length_toList]; exact hz
  unfold getItem
  try with_reducible refine wpAny_holding ?_
  first | refine wpAny_bind (wpAny_pure ?_) | skip
  refine wpAny_bind (wpAny_sequenceKey ht.typeIs (by decide) ?_)
  refine wpAny_bind (wpAny_callSpecial?_slot (name := Str.ofString "__getitem__") ht.typeIs slot_tuple_getitem (wpAny_call_entry slot_tuple_getitem ht.typeIs entry_tuple_getitem ?_ (args_tuple_getitem _ _)))
  show wpAny _ _ (Builtin.Tuple.tupleItemsOf (.ref t) >>= _) _ _ s
  refine wpAny_bind (tupleItemsOf_ ht (wpAny_bind (wpAny_typeOf kind ?_)))
  rw [if_pos (by decide)]
  refine wpAny_bind ?_
  unfold Builtin.Slice.sliceApplied Builtin.Slice.sliceFields
  refine wpAny_bind (wpAny_bind (wpAny_field hos hds (x := .none) rfl (wpAny_bind (wpAny_field hos hds (x := .none) rfl (wpAny_bind (wpAny_field hos hds (x := vs) rfl (wpAny_pure ?_)))))))
  refine wpAny_bind (HT.slicePart_ pv ?_)
  show wpAny _ _ (if ((-1 : Int) == 0) = true then _ else _) _ _ s
  rw [if_neg (by decide)]
  refine wpAny_bind (HT.slicePart_ .none (wpAny_bind (HT.slicePart_ .none (wpAny_bind (wpAny_pure ?_)))))
  show wpAny _ _ (match Builtin.Slice.sliceAdjust none none (-1) (items.size : Int) with | (lo, hi) => pure (lo, (-1 : Int), Builtin.Slice.slicePlaces lo hi (-1))) _ _ s
  rw [(rev_places items.size).1]
  show wpAny _ _ (pure ((items.size : Int) - 1, (-1 : Int), Builtin.Slice.slicePlaces ((items.size : Int) - 1) (-1) (-1))) _ _ s
  rw [(rev_places items.size).2]
  refine wpAny_pure ?_
  have no : ¬ ((((items.size : Int) - 1) == 0 && (-1 : Int) == 1 && items.size == items.size) = true) := by
    have : ((-1 : Int) == 1) = false := by decide
    rw [this, Bool.and_false, Bool.false_and]; decide
  show wpAny _ _ (if (((items.size : Int) - 1) == 0 && (-1 : Int) == 1 && items.size == items.size) = true then _ else _) _ _ s
  rw [if_neg no, rev_pick]
  first
    | exact wpAny_bind (m := Builtin.Tuple.tupleExact _) (wpAny_newObj_type (wpAny_pure ⟨_, rfl, wpAny_pure h⟩) fits)
    | exact wpAny_bind (m := Builtin.Tuple.tupleExact _) (wpAny_newObj_type (wpAny_bind (wpAny_pure (wpAny_pure ⟨_, rfl, wpAny_pure h⟩))) fits)
    | exact wpAny_bind (wpAny_bind (m := Builtin.Tuple.tupleExact _) (wpAny_newObj_type (wpAny_pure (wpAny_pure ⟨_, rfl, wpAny_pure h⟩)) fits))
    | exact wpAny_bind (wpAny_bind (m := Builtin.Tuple.tupleExact _) (wpAny_newObj_type (wpAny_pure ⟨_, rfl, wpAny_pure h⟩) fits))
end
theorem pe_revTK (K : PySem.W.Frag) (h : X.K = K) {e : Expr} {te : TE} {k : Nat} {p1 p2 p3 pos : Pos} (he : PE X e te) : PE X (.Subscript e (.Slice none none (some (.UnaryOp .USub (.Constant (.int 1) k p1) p2)) p3) pos) (tRevT K te) := by
  subst h
  refine ⟨fun pins s σ H Q I hh => Subscript_ (thn (he.run pins s σ H _ I hh) fun v s1 ⟨x, H1, I1, r1, q1⟩ => ?_)⟩
  obtain ⟨a, xs, rfl, hx, q⟩ := q1
  cases r1
  have step : PO X (some (.UnaryOp .USub (.Constant (.int 1) k p1) p2)) (tPart (tUn (rU fun i => .int (-i)) (tC (.int 1)))) := po_some (pe_un un_neg pe_int)
  refine wpAny_Slice (thn (po_none.run pins s1 σ H1 (fun o H2 => o = none ∧ H2 = H1) I1 ⟨rfl, rfl⟩) fun vl s2 ⟨l, H2, I2, pl, el, e2⟩ => ?_)
  subst el e2
  refine thn (po_none.run pins s2 σ H2 (fun o H3 => o = none ∧ H3 = H2) I2 ⟨rfl, rfl⟩) fun vu s3 ⟨u, H3, I3, pu, eu, e3⟩ => ?_
  subst eu e3
  refine thn (step.run pins s3 σ H3 (fun o H4 => o = some (-1) ∧ H4 = H3) I3 ⟨1, rfl, -1, rfl, rfl, rfl⟩) fun vs s4 ⟨o, H4, I4, pv, eo, e4⟩ => ?_
  subst eo e4
  have I5 : Inv X pins σ H4 { s4 with heap := s4.heap.push { cls := .type "slice", data := .fields #[vl, vu, vs] } } := I4.kept (t' := s4.toks) fun b ob q => Heap.get?_push_of_some _ q
  obtain ⟨its, r, ht, hz⟩ := I5.tuple hx
  have hlen := r.length
  cases pl
  cases pu
  show wpAny (model X.prog X.w) X.A (subscriptTail e (.Slice none none (some (.UnaryOp .USub (.Constant (.int 1) k p1) p2)) p3) (.ref a) (.ref s4.heap.objs.size)) (EP X pins σ Q) X.xe { s4 with heap := s4.heap.push { cls := .type "slice", data := .fields #[.none, .none, vs] } }
  refine tail_any (ops := [.ref a, .ref s4.heap.objs.size]) ht.typeIs slot_tuple_getitem.lookup ?_ (by with_unfolding_all rfl)
  refine item_rev ht (Heap.IsSliceOf.new _ .none .none vs) pv ?_ (by rw [List.size_toArray]; omega)
  refine ⟨.ref _, _, I5.laid (t' := s4.toks) (o := .tup xs.reverse) (fun b ob q => Heap.get?_push_of_some _ q) (Nat.le_refl _) ?_, rfl, q _ (I5.hok.fresh (Nat.le_refl _))⟩
  exact ⟨by rw [List.length_reverse]; exact hz, _, r.reverse, ⟨_, Heap.get?_push_size _ rfl, rfl, 0, rfl⟩⟩
/-! ### repr(b) -/
def rReprB : List V → Hp → VK → Prop := fun vs H Q => ∃ b, vs = [.bl b] ∧ Q (.str (if b then "True" else "False")) H
theorem c_repr : CallR X (.builtin "repr") rReprB := by
  intro pins s σ H vs us Q I r hh
  obtain ⟨b, rfl, q⟩ := hh
  obtain ⟨u, rfl, hr⟩ := vals1 r
  cases hr
  exact PySem.P.repr_of_bool ⟨.str _, H, I.tok _, ⟨_, rfl⟩, q⟩
end
end Cw
set_option Elab.async false
set_option linter.all false
set_option maxRecDepth 100000
set_option maxHeartbeats 2000000
/-! enumerate of a list from a start, of a tuple. -/
namespace Cw
open PySem PySem.Spec PyProof.Rows L2
/-- S tells what stands there: at each turn the next of it in a new pair, the count from k -/
def ItEg (S : Hp → List V → Prop) (k : Int) : It :=
  ⟨fun i H => ∃ (xs : List V) (x : V), S H xs ∧ xs[i]? = some x, fun i H v H' => ∃ T x, v = .ref T ∧ H T = none ∧ H' = upd H T (.tup [.int (k + (i : Nat)), x]) ∧ ∀ xs, S H xs → xs[i]? = some x, fun i H => ∃ xs : List V, S H xs ∧ xs.length = i⟩
def ItEk (K : PySem.W.Frag) (a : Addr) (k : Int) : It := ItEg (fun H xs => SqL K H a xs) k
def ItEt (K : PySem.W.Frag) (a : Addr) : It := ItEg (fun H xs => SqT K H a xs) 0
/-- what the counted thing must give: L its items at a heap, N its own iterator's place -/
structure Src (P : Program) (w : World) (K : PySem.W.Frag) (a it : Addr) (S : Hp → List V → Prop) (L : Heap → Array Value → Prop) (N : Nat → Heap → Prop) : Prop where
  get : ∀ (X : Cx) (pins : List (Addr × Obj)) (σ : L2.St) (H : Hp) (s : Shared) (xs : List V), X.prog = P → X.w = w → X.K = K → Inv X pins σ H s → S H xs → ∃ its : List Value, Vals xs its ∧ L s.heap its.toArray
  inj : ∀ (X : Cx) (pins : List (Addr × Obj)) (σ : L2.St) (H : Hp) (s : Shared) (xs ys : List V), X.prog = P → X.w = w → X.K = K → Inv X pins σ H s → S H xs → S H ys → ys = xs
  draw : ∀ (A : Around) (items : Array Value), A.handled = none → Draws P w A it [it, a] items.size (fun i v => items[i]? = some v) (fun i h => N i h ∧ L h items)
  keep : ∀ i (h h' : Heap), N i h → (∀ o, h.get? it = some o → h'.get? it = some o) → N i h'
  live : ∀ i (h : Heap), N i h → ∃ o, h.get? it = some o ∧ ∀ v, o.data ≠ .cell v
theorem turn_cnt {P : Program} {w : World} {K : PySem.W.Frag} {elts : List Expr} {kk : Nat} {tpos : Pos} {a e it : Addr} {S : Hp → List V → Prop} {L : Heap → Array Value → Prop} {N : Nat → Heap → Prop} (k : Int) (Z : Src P w K a it S L N) (hei : e ≠ it) (hea : e ≠ a) :
    Turn P w K (.Tuple elts kk tpos) (ItEg S k) [e, it] e (fun i h => (∃ old, IsEnum h e it (k + (i : Nat)) old) ∧ N i h) where
  mem := by simp
  obj := fun i h st b hb => by
    obtain ⟨⟨old, he⟩, hn⟩ := st
    rcases (by simpa using hb : b = e ∨ b = it) with rfl | rfl
    · exact ⟨_, he, fun v q => nomatch q⟩
    · exact Z.live _ _ hn
  keep := fun i h h' st q => let ⟨⟨old, he⟩, hn⟩ := st; ⟨⟨old, q e (by simp) _ he⟩, Z.keep _ _ _ hn fun o z => q it (by simp) o z⟩
  item := by
    intro X hP hw hK hc i pins s σ H E I hf st hg
    obtain ⟨⟨old, he⟩, hn⟩ := st
    obtain ⟨xs, x, hq, hx⟩ := hg
    obtain ⟨its, rv, hL⟩ := Z.get X pins σ H s xs hP hw hK I hq
    obtain ⟨u, hu, ru⟩ := rv.get hx
    have hlt : i < its.toArray.size := by
      rw [List.size_toArray]
      exact (List.getElem?_eq_some_iff.mp hu).1
    have hel : e < s.heap.objs.size := Heap.lt_size he
    have D := Z.draw X.A.in1 its.toArray (I.ok.hd hc)
    refine wpAny_pyNext_enum_itemC D he ⟨hn, hL⟩ hlt hei (by simp [hei, hea]) fun x' h' tk hx' ho st' hT hsz hk => ?_
    have ex : x' = u := by
      have z : its[i]? = some x' := by simpa using hx'
      exact Option.some.inj (z.symm.trans hu)
    subst ex
    refine ⟨_, rfl, wpAny_letOwnedTupleGo_enum (s := { s with heap := h', toks := tk + 1 }) ho fun h'' he' sb => ?_⟩
    have hT2 : h''.get? s.heap.objs.size = some { cls := .type "tuple", data := .seq #[.int (k + (i : Nat)) tk, x'] } := (sb.2 _ (Nat.ne_of_gt hel)).trans hT
    have new : ObjOk P w (upd H s.heap.objs.size (.tup [.int (k + (i : Nat)), x])) h'' s.heap.objs.size (.tup [.int (k + (i : Nat)), x]) :=
      ⟨by show 2 ≤ sizeLine; decide, [.int (k + (i : Nat)) tk, x'], .cons ⟨_, rfl⟩ (.cons ru .nil), ⟨_, hT2, rfl, _, rfl⟩⟩
    subst hP hw
    have I1 : Inv X pins σ (upd H s.heap.objs.size (.tup [.int (k + (i : Nat)), x])) { s with heap := h'', toks := tk + 1 } :=
      I.turnedNew (ch := [e, it]) (fun b ob hb q => (sb.2 b (fun z => hb (by simp [z]))).trans (hk b ob (fun z => hb (by simp [z])) (fun z => hb (by simp [z])) q)) hf (Nat.le_refl _) new
    have e1 : k + (i : Int) + 1 = k + ((i + 1 : Nat) : Int) := by omega
    refine ⟨.ref s.heap.objs.size, _, I1, rfl, ⟨_, x, rfl, I.hok.fresh (Nat.le_refl _), rfl, fun ys hy => by rw [Z.inj X pins σ H s xs ys rfl rfl hK I hq hy]; exact hx⟩, ⟨⟨x', by rw [← e1]; exact he'⟩, Z.keep _ _ _ st'.1 fun o q => (sb.2 it (Ne.symm hei)).trans q⟩, fun b hb => ?_⟩
    have hb' : b < s.heap.objs.size := by
      rcases (by simpa using hb : b = e ∨ b = it) with rfl | rfl
      · exact hel
      · obtain ⟨o, q, _⟩ := Z.live _ _ hn
        exact Heap.lt_size q
    rw [upd_ne (Nat.ne_of_lt hb')]
    exact (hf b hb).1
  done := by
    intro X hP hw hK hc i pins s σ H E I hf st hg
    obtain ⟨⟨old, he⟩, hn⟩ := st
    obtain ⟨xs, hq, hx⟩ := hg
    obtain ⟨its, rv, hL⟩ := Z.get X pins σ H s xs hP hw hK I hq
    obtain ⟨f0, f1, f2, f3, f4, f5⟩ := hf it (by simp)
    have hl : its.toArray.size = i := by rw [List.size_toArray, ← rv.length]; exact hx
    subst hl
    have D := Z.draw X.A.in1 its.toArray (I.ok.hd hc)
    exact wpAny_pyNext_enum_endD D he ⟨hn, hL⟩ fun h' eb => ⟨rfl, I.turned (t' := s.toks) (fun b o hb q => eb b o hb q) f0 f1 f3 f4 f5⟩
  self := fun A i s Q E st h => let ⟨⟨_, he⟩, _⟩ := st; wpAny_pyIter_enum he h
theorem src_lst {P : Program} {w : World} {K : PySem.W.Frag} {a it : Addr} (hne : a ≠ it) : Src P w K a it (fun H xs => SqL K H a xs) (fun h its => h.IsList a its) (fun i h => h.IsListIter it a i) where
  get := fun X pins σ H s xs _ _ hK I hs => by
    subst hK
    obtain ⟨its, rv, p, _⟩ := I.list hs
    exact ⟨its, rv, p.isList⟩
  inj := fun X pins σ H s xs ys _ _ hK I h1 h2 => by
    subst hK
    exact I.list_inj h2 h1
  draw := fun A items hA => Draws.list hA it a hne items
  keep := fun i h h' st q => st.at q
  live := fun i h st => by
    obtain ⟨o, e, c, d⟩ := st
    exact ⟨o, e, fun v z => by rw [d] at z; cases z⟩
theorem src_tup {P : Program} {w : World} {K : PySem.W.Frag} {a it : Addr} (hne : a ≠ it) : Src P w K a it (fun H xs => SqT K H a xs) (fun h its => h.IsTuple a its) (fun i h => h.IsTupleIter it a i) where
  get := fun X pins σ H s xs _ _ hK I hs => by
    subst hK
    obtain ⟨its, rv, p, _⟩ := I.tuple hs
    exact ⟨its, rv, p⟩
  inj := fun X pins σ H s xs ys _ _ hK I h1 h2 => by
    subst hK
    exact I.tuple_inj h2 h1
  draw := fun A items hA => Draws.tuple hA it a hne items
  keep := fun i h h' st q => st.at q
  live := fun i h st => by
    obtain ⟨o, e, c, d⟩ := st
    exact ⟨o, e, fun v z => by rw [d] at z; cases z⟩
def iEnumK (K : PySem.W.Frag) (ta : TA) (k : Int) : TI := fun σ H R => ta σ H fun vs H1 => ∃ a xs, vs = [.ref a] ∧ SqL K H1 a xs ∧ R (ItEk K a k) H1
def iEnumT (K : PySem.W.Frag) (ta : TA) : TI := fun σ H R => ta σ H fun vs H1 => ∃ a xs, vs = [.ref a] ∧ SqT K H1 a xs ∧ R (ItEt K a) H1
/-- a call of a type with keywords -/
theorem callTy_kw {M : Model} {A : Around} {E : Value → Shared → Prop} {s : Shared} {pos : Pos} {T : String} {args : List (Bool × Sem Value)} {kws : List (Option Str × Sem Value)} {Q : Value → Shared → Prop} (hplain : args.any (·.1) = false) (hkw : kws.any (·.1.isNone) = false)
    (h : wpAny M A (evalArgs (.type T) true args kws) (fun a s₁ => wpAny M A (call (.type T) ([] ++ a.pos) a.kw) Q E s₁) E s) : wpAny M A (callWith pos (.type T) [] args kws) Q E s := by
  unfold callWith
  refine wpAny_bind (wpAny_holding (wpAny_mono h (fun a s₁ h₁ => wpAny_bind (wpAny_standAt ?_)) fun _ _ z => z))
  rw [hplain, hkw]
  refine wpAny_bind (wpAny_pure ?_)
  exact wpAny_bind (wpAny_mono h₁ (fun r s₂ q => wpAny_bind (wpAny_holding (wpAny_point (wpAny_pure q)))) fun _ _ z => z)
/-- a counter just made -/
theorem cnt_made {X : Cx} {pins : List (Addr × Obj)} {σ : L2.St} {H : Hp} {s : Shared} {R : It → Hp → Prop} {elts : List Expr} {kk : Nat} {tpos : Pos} {a : Addr} {S : Hp → List V → Prop} {L : Heap → Array Value → Prop} {N : Nat → Heap → Prop} {k : Int} {h' : Heap} {tk : Nat} {E : Value → Shared → Prop} (I : Inv X pins σ H s)
    (ha : a < s.heap.objs.size) (Z : Src X.prog X.w X.K a s.heap.objs.size S L N) (he : IsEnum h' (s.heap.objs.size + 1) s.heap.objs.size k .none) (hn : N 0 h') (hk : ∀ b o, s.heap.get? b = some o → h'.get? b = some o) (q : R (ItEg S k) H) :
    wpAny (model X.prog X.w) X.A (pyIter (.ref (s.heap.objs.size + 1))) (PIE X pins σ (.Tuple elts kk tpos) R) E { s with heap := h', toks := tk } := by
  have I2 : Inv X pins σ H { s with heap := h', toks := tk } := I.kept (t' := tk) hk
  have e0 : k + ((0 : Nat) : Int) = k := by omega
  refine wpAny_pyIter_enum (s := { s with heap := h', toks := tk }) he ?_
  refine ⟨s.heap.objs.size + 1, [s.heap.objs.size + 1, s.heap.objs.size], _, _, H, rfl, I2, turn_cnt k Z (Nat.succ_ne_self _) (Nat.ne_of_gt (Nat.lt_succ_of_lt ha)), ⟨⟨.none, by rw [e0]; exact he⟩, hn⟩, fun b hb => ?_, q⟩
  have hle : s.heap.objs.size ≤ b := by
    rcases (by simpa using hb : b = s.heap.objs.size + 1 ∨ b = s.heap.objs.size) with rfl | rfl
    · exact Nat.le_succ _
    · exact Nat.le_refl _
  exact I.fpOk hle (I.hok.fresh hle)
/-- enumerate(v): its two new cells -/
theorem new_enum {v : Value} {o : Obj} {L : Heap → Prop} (B : Begins v o L) :
    Meets (Builtin.«enumerate.__new__» ⟨[.type "enumerate", v], []⟩) (fun _ R s => L s.heap ∧
      R (.ok (.ret (.ref (s.heap.push o).objs.size))) { s with heap := (s.heap.push o).push { cls := .type "enumerate", data := .fields #[.none, .bool false, .ref s.heap.objs.size, rawInt 0, .none, .none] } }) :=
  .of_wp fun prog w A R s h => by
    obtain ⟨hp, g, d, tk, os⟩ := s
    obtain ⟨h1, h⟩ := h
    have hsub := sub_enumerate
    have it1 : ∀ {A' : Around} {E : Value → Shared → Prop} {Q : Value → Shared → Prop}, Q (.ref hp.objs.size) ⟨hp.push o, g, d, tk, os⟩ → wpAny (model prog w) A' (pyIter v) Q E ⟨hp, g, d, tk, os⟩ := fun q => B.iter prog w _ _ ⟨hp, g, d, tk, os⟩ _ h1 q
    wp_walk using it1
    refine wpAny_stack_any fun st => wpAny_pure ?_
    split
    · next c _ _ _ _ _ =>
      cases (c == Value.type "enumerate") <;> wp_walk using it1 <;> exact ⟨_, rfl, h⟩
    · wp_walk using it1
      exact ⟨_, rfl, h⟩
theorem enum_one {P : Program} {w : World} {A : Around} {E : Value → Shared → Prop} {s : Shared} {v : Value} {o : Obj} {L : Heap → Prop} {Q : Value → Shared → Prop} (B : Begins v o L) (h1 : L s.heap)
    (h : ∀ h', IsEnum h' (s.heap.objs.size + 1) s.heap.objs.size 0 .none → h'.get? s.heap.objs.size = some o → (∀ b o, s.heap.get? b = some o → h'.get? b = some o) → Q (.ref (s.heap.objs.size + 1)) { s with heap := h' }) :
    wpAny (model P w) A (call (.type "enumerate") [v]) Q E s := by
  refine callType_new F.called_enumerate (by decide) (F.typeCall_enumerate_1 _) (F.newCall_enumerate_1 _) (fun obj => F.args_object_init_2 obj _) F.entry_enumerate_new (new_enum B) ⟨h1, ?_⟩
  have hz : (s.heap.push o).objs.size = s.heap.objs.size + 1 := Heap.size_push ..
  show _ ∧ _
  rw [hz]
  have he : IsEnum ((s.heap.push o).push { cls := .type "enumerate", data := .fields #[.none, .bool false, .ref s.heap.objs.size, rawInt 0, .none, .none] }) (s.heap.objs.size + 1) s.heap.objs.size 0 .none := by
    have z := Heap.get?_push_size (s.heap.push o) (o := { cls := .type "enumerate", data := .fields #[.none, .bool false, .ref s.heap.objs.size, rawInt 0, .none, .none] }) rfl
    rw [hz] at z
    exact z
  exact ⟨⟨_, he, rfl⟩, h _ he (Heap.get?_push_of_some _ (Heap.get?_push_size _ B.free)) fun b o z => Heap.get?_push_of_some _ (Heap.get?_push_of_some _ z)⟩
section
variable {X : Cx}
theorem pi_enumK (K : PySem.W.Frag) (h : X.K = K) {e : Expr} {ta : TA} {p pos tpos cpos kpos : Pos} {elts : List Expr} {kk jj : Nat} {k : Int} (hg : Gl X "enumerate") (hm : X.mg "enumerate" = none) (hk : 0 ≤ k ∧ k < 1000) (ha : PA X [e] ta) (hs : starEach [e] X.env = [(false, eval e X.env)] := by rfl) :
    PI X (.Tuple elts kk tpos) (.Call (.Name "enumerate" p) [e] [⟨some "start", .Constant (.int k) jj cpos, kpos⟩] pos) (iEnumK K ta k) := by
  subst h
  refine ⟨fun pins s σ H R I hh => ?_⟩
  have go := ha.run pos pins s σ H _ I hh
  obtain ⟨z, ez⟩ : ∃ z, backTo pos (starEach [e] X.env) = [(false, z)] := ⟨_, by rw [hs]; rfl⟩
  rw [ez] at go
  refine wpAny_Call_Name_kw (ld_blt I hg hm boot_enumerate ?_)
  rw [ez]
  refine callTy_kw (by rfl) (by rfl) ?_
  refine evalArgs_kwB (by rfl) (thn go fun us s1 ⟨vs, H1, I1, r1, q1⟩ => ?_)
  obtain ⟨a, xs, rfl, hq, q⟩ := q1
  rw [Vals.ref1 r1]
  have pk : PK X [⟨some "start", .Constant (.int k) jj cpos, kpos⟩] (tCons (tC (.int k)) tNil) := pk_cons pe_int pk_nil
  refine thn (pk.run pos pins s1 σ H1 (fun zs H2 => zs = [.int k] ∧ H2 = H1) I1 ⟨rfl, rfl⟩) fun ws s2 ⟨zs, H2, I2, r2, ez, e2⟩ => ?_
  subst ez e2
  obtain ⟨u, rfl, t, rfl⟩ := vals1 r2
  obtain ⟨its, rv, pl, _⟩ := I2.list hq
  have hlt : a < s2.heap.objs.size := by obtain ⟨_, z, _⟩ := pl.isList; exact Heap.lt_size z
  show wpAny _ _ (call (.type "enumerate") [.ref a] [(Str.ofString "start", .int k t)]) _ _ _
  refine enum_begins_start (begins_list a its.toArray) pl.isList (by omega) (by omega) fun h' he ho hsz hk' => ?_
  exact cnt_made (tk := s2.toks) I2 hlt (src_lst (Nat.ne_of_lt hlt)) he ⟨_, ho, rfl, rfl⟩ hk' q
theorem pi_enumT (K : PySem.W.Frag) (h : X.K = K) {e : Expr} {ta : TA} {p pos tpos : Pos} {elts : List Expr} {kk : Nat} (hg : Gl X "enumerate") (hm : X.mg "enumerate" = none) (ha : PA X [e] ta) (hs : starEach [e] X.env = [(false, eval e X.env)] := by rfl) :
    PI X (.Tuple elts kk tpos) (.Call (.Name "enumerate" p) [e] [] pos) (iEnumT K ta) := by
  subst h
  refine ⟨fun pins s σ H R I hh => ?_⟩
  refine Call_ (ld_blt I hg hm boot_enumerate (PyProof.Rows.callWith_type1 (thn (ha.run pos pins s σ H _ I hh) fun us s1 ⟨vs, H1, I1, r1, q1⟩ => ?_) hs rfl))
  obtain ⟨a, xs, rfl, hq, q⟩ := q1
  rw [Vals.ref1 r1]
  obtain ⟨its, rv, pt, _⟩ := I1.tuple hq
  have pt' : s1.heap.IsTuple a its.toArray := pt
  have hlt : a < s1.heap.objs.size := by obtain ⟨_, z, _⟩ := pt'; exact Heap.lt_size z
  refine enum_one (begins_tuple a its.toArray) pt' fun h' he ho hk' => ?_
  exact cnt_made (tk := s1.toks) I1 hlt (src_tup (Nat.ne_of_lt hlt)) he ⟨_, ho, rfl, rfl⟩ hk' q
end
end Cw
set_option Elab.async false
set_option linter.all false
set_option maxRecDepth 100000
set_option maxHeartbeats 2000000
/-! sorted(d.items()) of a dict of ints. -/
namespace Cw
open PySem PySem.Spec PyProof.Rows L2
section
variable {X : Cx}
def rItemsK : V → List V → Hp → VK → Prop := fun x xs H Q => ∃ (a : Addr) (kvs : List (Key × V)), x = .ref a ∧ xs = [] ∧ H a = some (.dK kvs) ∧ ∀ p, H p = none → Q (.ref p) (upd H p (DX.itemsO p a))
theorem mt_itemsK : MtR X "dict.items" rItemsK := by
  intro pins s σ H x xs v us Q I rx rxs hh
  obtain ⟨a, kvs, rfl, rfl, ha, q⟩ := hh
  cases rx
  cases rxs
  obtain ⟨z, hd, vs, kv, o, es, ep, ho, hx, hdat, _⟩ := dk_of I.hok ha
  refine DT.callItems (es := es) (ep := ep) hd ⟨o, ho, hx, hdat⟩ ?_
  exact ⟨.ref s.heap.objs.size, upd H s.heap.objs.size (DX.itemsO s.heap.objs.size a), I.laid (t' := s.toks) (fun b u e => Heap.get?_push_of_some _ e) (Nat.le_refl _) (DX.itemsO_ok (Heap.get?_push_size _ rfl)), rfl, q _ (I.hok.fresh (Nat.le_refl _))⟩
/-- a tuple of two ints in a heap -/
def IntPr (h : Heap) (a : Addr) (k i : Int) : Prop := ∃ t u, h.get? a = some { cls := .type "tuple", data := .seq #[.int k t, .int i u] }
theorem IntPr.inj {h : Heap} {a : Addr} {k i k' i' : Int} (x : IntPr h a k i) (y : IntPr h a k' i') : k = k' ∧ i = i' := by
  obtain ⟨t, u, e⟩ := x
  obtain ⟨t', u', e'⟩ := y
  have z := Option.some.inj (e.symm.trans e')
  simp at z
  exact ⟨z.1.1, z.2.1⟩
theorem IntPr.pair {h : Heap} {a : Addr} {k i : Int} (x : IntPr h a k i) : Srt.IsPair h (.ref a) k i := by
  obtain ⟨t, u, e⟩ := x
  exact ⟨a, _, t, u, 0, rfl, e, rfl, rfl⟩
theorem entries_int {P : Program} {w : World} {es : List DictEntry} {vs : List (Key × Value)} (hp : Pairs (mixKind P w) es vs) : ∀ {kvs : List (Key × V)}, KV kvs vs → (∀ q ∈ kvs, ∃ k i, q = (Sum.inl k, V.int i)) → ∀ e ∈ es, ∃ k t i u, e.key = .int k t ∧ e.val = .int i u := by
  induction hp with
  | nil => intro kvs _ _ e he; cases he
  | @cons e0 kv es vs h1 h2 h3 ih =>
    intro kvs r f e he
    cases r with
    | @cons p q l1 l2 hpq t =>
      rcases List.mem_cons.mp he with rfl | he
      · obtain ⟨k, i, rfl⟩ := f p (by simp)
        obtain ⟨e1, e2⟩ := hpq
        have hk : keyIs (Sum.inl k) e.key = true := by
          have z : keyIs kv.1 e.key = true := h1
          rw [← e1] at z
          exact z
        rcases keyIs_shape hk with ⟨k', t', ek, ev⟩ | ⟨x, t', ek, ev⟩
        · cases ek
          obtain ⟨u, e3⟩ := (e2 : RelV (.int i) kv.2)
          exact ⟨_, t', i, u, ev, h2.trans e3⟩
        · cases ek
      · exact ih t (fun q hq => f q (by simp [hq])) e he
theorem prs_list {R : Addr → Int → Int → Prop} : ∀ {l : List Addr}, (∀ a ∈ l, ∃ k i, R a k i) → ∃ ps : List (Addr × Int × Int), ps.map (·.1) = l ∧ ∀ z ∈ ps, R z.1 z.2.1 z.2.2
  | [], _ => ⟨[], rfl, by simp⟩
  | a :: l, h => by
    obtain ⟨k, i, r⟩ := h a (by simp)
    obtain ⟨ps, h1, h2⟩ := prs_list (l := l) fun b hb => h b (by simp [hb])
    refine ⟨(a, k, i) :: ps, by rw [List.map_cons, h1], fun z hz => ?_⟩
    rcases List.mem_cons.mp hz with rfl | hz
    · exact r
    · exact h2 z hz
def rSortK : List V → Hp → VK → Prop := fun vs H Q => ∃ (p a : Addr) (kvs : List (Key × V)), vs = [.ref p] ∧ H p = some (DX.itemsO p a) ∧ H a = some (.dK kvs) ∧ (∀ q ∈ kvs, ∃ k i, q = (Sum.inl k, V.int i)) ∧
  ∀ (H' : Hp) (l : Addr) (ps : List (Addr × Int × Int)), Le H H' → H l = none → H' l = some (.lst (ps.map fun z => V.ref z.1)) → ps.length = kvs.length → (∀ z ∈ ps, H z.1 = none ∧ H' z.1 = some (.tup [.int z.2.1, .int z.2.2])) → Q (.ref l) H'
theorem c_sortK (hc : X.calm = true) : CallR X (.builtin "sorted") rSortK := by
  intro pins s σ H xs us Q I r hh
  obtain ⟨p, a, kvs, rfl, hp, ha, f, q⟩ := hh
  obtain rfl := Vals.ref1 r
  have view : s.heap.IsItemsView p a := (show ObjOk X.prog X.w H s.heap p (DX.itemsO p a) from I.hok p _ hp).1
  obtain ⟨z, hd, vs, kv, o, es, ep, ho, hx, hdat, _, hes, _⟩ := dk_of I.hok ha
  have l1 : kvs.length = vs.length := Paired.length kv
  have l2 : es.size = vs.length := by rw [← Array.length_toList]; exact hes.length
  refine DT.sortedI (es := es) (ep := ep) (I.ok.hd hc) view ⟨o, ho, hx, hdat⟩ (by rw [l2, ← l1]; exact z) fun h' tk as hk hlt hl hG => ?_
  have nd : as.Nodup := List.Pairwise.imp (fun h => Nat.ne_of_lt h) hG.rise
  have pr : ∀ b ∈ as, ∃ k i, IntPr h' b k i := by
    intro b hb
    obtain ⟨j, hj⟩ := List.mem_iff_getElem?.mp hb
    obtain ⟨en, he, hg⟩ := hG.pairs j b hj
    have hen : en ∈ es.toList := by
      rw [← Array.getElem?_toList] at he
      exact List.mem_of_getElem? he
    obtain ⟨k, t, i, u, ek, ev⟩ := entries_int hes kv f en hen
    rw [ek, ev] at hg
    exact ⟨k, i, t, u, hg⟩
  have hob : (h'.push { cls := .type "list", data := .seq (as.map Value.ref).toArray }).get? h'.objs.size = some (seqObj "list" (as.map Value.ref).toArray 0) := Heap.get?_push_size _ rfl
  have ne0 : ∀ b o, h'.get? b = some o → b ≠ h'.objs.size := fun b o e => Nat.ne_of_lt (Heap.lt_size e)
  generalize hh2 : h'.push { cls := .type "list", data := .seq (as.map Value.ref).toArray } = h2 at hob ⊢
  have ka : ∀ b o, h'.get? b = some o → h2.get? b = some o := fun b o e => by rw [← hh2]; exact Heap.get?_push_of_some _ e
  have lenA : (as.map Value.ref).length = vs.length := by rw [List.length_map]; omega
  have lz : (as.map Value.ref).length ≤ sizeLine := by rw [lenA, ← l1]; exact z
  refine wpAny_call_entry slot_list_sort ⟨_, hob, rfl⟩ entry_list_sort (Srt.list_sort_any (s := { s with heap := h2, toks := tk }) hob lz (fun h2' => Srt.pairs_sortable (by omega) (fun v hv => ?_) fun ob e => ?_) fun out hp2 => ⟨_, rfl, ?_⟩) (args_list_sort _)
  · obtain ⟨b, hb, rfl⟩ := List.mem_map.mp hv
    obtain ⟨k, i, t, u, e⟩ := pr b hb
    exact ⟨k, i, IntPr.pair ⟨t, u, ka _ _ e⟩⟩
  · have e' : some ob = some (seqObj "list" (as.map Value.ref).toArray 0) := e.symm.trans hob
    cases e'
    intro c
    exact absurd (Value.type.inj c) (by decide)
  · show EP X pins σ Q (.ref h'.objs.size) { s with heap := sortedHeap h2 h'.objs.size (as.map Value.ref) out.toArray, toks := tk }
    obtain ⟨bs, pb, eb⟩ := perm_lift Value.ref hp2 as rfl
    obtain ⟨ps, e1, hps⟩ := prs_list (R := IntPr h') (l := bs) fun b hb => pr b (pb.mem_iff.mp hb)
    have hout : out = ps.map fun z => Value.ref z.1 := by
      rw [← eb, ← e1, List.map_map]
      rfl
    have kF : ∀ b o, b ≠ h'.objs.size → h2.get? b = some o → (sortedHeap h2 h'.objs.size (as.map Value.ref) out.toArray).get? b = some o := fun b o hb e => (sortedHeap_old hb (Heap.lt_size e)).trans e
    have kS : ∀ b o, s.heap.get? b = some o → (sortedHeap h2 h'.objs.size (as.map Value.ref) out.toArray).get? b = some o := fun b o e => kF b o (ne0 _ _ (hk b o e)) (ka b o (hk b o e))
    obtain ⟨eF, heF⟩ := sortedHeap_at (vs := as.map Value.ref) (out := out.toArray) hob
    have I1 : Inv X pins σ H { s with heap := sortedHeap h2 h'.objs.size (as.map Value.ref) out.toArray, toks := tk } := I.kept (t' := tk) kS
    have hn0 : H h'.objs.size = none := I.hok.fresh (Nat.le_of_lt hlt)
    have lenP : ps.length = kvs.length := by
      have w1 := congrArg List.length e1
      rw [List.length_map] at w1
      have w2 := pb.length_eq
      rw [List.length_map] at lenA
      omega
    have hlen : (ps.map fun z => V.ref z.1).length ≤ sizeLine := by
      rw [List.length_map, lenP]; exact z
    have rv : Vals (ps.map fun z => V.ref z.1) out := by
      rw [hout]
      exact vals_maps (fun z : Addr × Int × Int => V.ref z.1) (fun z => Value.ref z.1) ps fun _ _ => rfl
    have I2 : Inv X pins σ (upd H h'.objs.size (.lst (ps.map fun z => V.ref z.1))) { s with heap := sortedHeap h2 h'.objs.size (as.map Value.ref) out.toArray, toks := tk } :=
      I1.take (h' := sortedHeap h2 h'.objs.size (as.map Value.ref) out.toArray) (t' := tk) (fun b ob _ e => e) (I.fpOk (Nat.le_of_lt hlt) hn0) ⟨hlen, out, eF, rv, heF⟩
    obtain ⟨H2, I3, g, qt⟩ := DX.takeT (P := fun b ws => ∃ k i, IntPr h' b k i ∧ ws = [.int k, .int i]) I as _ I2 nd fun b hb => by
      obtain ⟨k, i, t, u, hg⟩ := pr b hb
      have hbl : s.heap.objs.size ≤ b := Nat.le_of_lt (hG.above b hb)
      refine ⟨hbl, ?_, [.int k, .int i], ⟨k, i, ⟨t, u, hg⟩, rfl⟩, fun H3 => ⟨by rw [sizeLine_eq]; show 2 ≤ 16777216; omega, [.int k t, .int i u], .cons ⟨t, rfl⟩ (.cons ⟨u, rfl⟩ .nil), ⟨_, kF _ _ (ne0 _ _ hg) (ka _ _ hg), rfl, 0, rfl⟩⟩⟩
      rw [upd_ne (ne0 _ _ hg)]
      exact I.hok.fresh hbl
    have gr : Le H H2 := fun b o e => g b o (by rw [upd_ne (ne_of_none e hn0)]; exact e)
    refine ⟨.ref h'.objs.size, H2, I3, rfl, q H2 h'.objs.size ps gr hn0 (g _ _ upd_same) lenP fun y hy => ?_⟩
    have hyb : y.1 ∈ as := pb.mem_iff.mp (by rw [← e1]; exact List.mem_map.mpr ⟨y, hy, rfl⟩)
    obtain ⟨ws, ⟨k, i, hi, rfl⟩, hH⟩ := qt y.1 hyb
    obtain ⟨c1, c2⟩ := hi.inj (hps y hy)
    rw [c1, c2] at hH
    exact ⟨I.hok.fresh (Nat.le_of_lt (hG.above _ hyb)), hH⟩
/-! ### sorted(d.items()) -/
def tSortIt (te : TE) : TE := fun σ H Q => te σ H fun x H1 => ∃ (d : Addr) (kvs : List (Key × V)), x = V.ref d ∧ H1 d = some (.dK kvs) ∧ (∀ q ∈ kvs, ∃ k i, q = (Sum.inl k, V.int i)) ∧
  ∀ (H' : Hp) (l : Addr) (ps : List (Addr × Int × Int)), Le H1 H' → H1 l = none → H' l = some (.lst (ps.map fun z => V.ref z.1)) → ps.length = kvs.length → (∀ z ∈ ps, H1 z.1 = none ∧ H' z.1 = some (.tup [.int z.2.1, .int z.2.2])) → Q (.ref l) H'
theorem pe_sortIt {e : Expr} {te : TE} {p apos cpos pos : Pos} (hc : X.calm = true) (hu : X.A.units + 64 < cLine) (he : PE X e te) (hg : Gl X "sorted") (hm : X.mg "sorted" = none) (hbase : attributeBase e "items" X.env (eval e X.env) = eval e X.env := by rfl) (hline : (apos.endLine == cpos.line) = true := by rfl)
    (hs : starEach [.Call (.Attribute e "items" apos) [] [] cpos] X.env = (false, eval (.Call (.Attribute e "items" apos) [] [] cpos) X.env) :: starEach [] X.env := by rfl) :
    PE X (.Call (.Name "sorted" p) [.Call (.Attribute e "items" apos) [] [] cpos] [] pos) (tSortIt te) := by
  have he' : PE X e (fun σ H R => ∃ R0 : VK, te σ H R0 ∧ ∀ x H1, R0 x H1 → R x H1) := ⟨fun pins s σ H Q I ⟨R0, h, m⟩ => thn (he.run pins s σ H _ I h) fun u s1 ⟨x, H1, I1, r, q⟩ => ⟨x, H1, I1, r, m _ _ q⟩⟩
  have h1 : PE X (.Call (.Attribute e "items" apos) [] [] cpos) _ := pe_bm0 PySem.F.plainAttrs_dict PySem.F.slot_dict_items PySem.F.type_dict_items mt_itemsK he' hbase hline
  have h2 : PE X (.Call (.Name "sorted" p) [.Call (.Attribute e "items" apos) [] [] cpos] [] pos) _ := pe_callB (c_sortK hc) hg hm b_sorted (pa_cons h1 pa_nil hs)
  refine ⟨fun pins s σ H Q I h => h2.run pins s σ H Q I ⟨_, h, fun x H1 hh => ?_⟩⟩
  obtain ⟨d, kvs, rfl, hd, f, q⟩ := hh
  refine ⟨.inr (.inr (.inl ⟨rfl, .inl ⟨kvs, hd⟩⟩)), d, kvs, rfl, rfl, hd, fun p hp => ?_⟩
  have up : Le H1 (upd H1 p (DX.itemsO p d)) := le_new hp
  refine ⟨p, d, kvs, rfl, upd_same, up _ _ hd, f, fun H' l ps g hl h1 h2 h3 => q H' l ps (up.trans g) (le_free up hl) h1 h2 fun z hz => ⟨le_free up (h3 z hz).1, (h3 z hz).2⟩⟩
end
end Cw
set_option Elab.async false
set_option linter.all false
set_option maxRecDepth 100000
set_option maxHeartbeats 2000000
/-! Rules of my own. -/
namespace Cw
open PySem PySem.Spec PyProof.Rows L2
/-- enumerate's turns -/
theorem walk_enumG {S : Hp → List V → Prop} {xs : List V} {k : Int} : Walk (ItEg S k) xs.length (fun H => S H xs) (YPair (fun i => some (.int (k + (i : Nat)))) (fun i => xs[i]?)) := by
  refine ⟨fun i _ hi q => ⟨xs, xs[i], q, by simp [hi]⟩, fun _ q => ⟨xs, q, rfl⟩, fun i H v H' _ q y => ?_⟩
  obtain ⟨T, x, h1, h2, h3, h4⟩ := y
  exact ⟨T, _, x, h1, h2, h3, rfl, h4 xs q⟩
theorem walk_enumK {K : PySem.W.Frag} {a : Addr} {xs : List V} {k : Int} : Walk (ItEk K a k) xs.length (fun H => SqL K H a xs) (YPair (fun i => some (.int (k + (i : Nat)))) (fun i => xs[i]?)) := walk_enumG
theorem walk_enumT {K : PySem.W.Frag} {a : Addr} {xs : List V} : Walk (ItEt K a) xs.length (fun H => SqT K H a xs) (YPair (fun i => some (.int (0 + (i : Nat)))) (fun i => xs[i]?)) := walk_enumG
section
variable {K : PySem.W.Frag} {σ : L2.St} {H : Hp} {te : TE} {a : Addr} {xs : List V} {Q : VK}
theorem r_anyL (hs : SqL K H a xs) (f : ∀ x ∈ xs, x = .non ∨ (∃ b, x = .bl b) ∨ ∃ i, x = .int i) (h : Q (.bl (xs.any truV)) H) : rAnyF K [.ref a] H Q := ⟨a, xs, rfl, .inl hs, f, h⟩
theorem r_anyT (hs : SqT K H a xs) (f : ∀ x ∈ xs, x = .non ∨ (∃ b, x = .bl b) ∨ ∃ i, x = .int i) (h : Q (.bl (xs.any truV)) H) : rAnyF K [.ref a] H Q := ⟨a, xs, rfl, .inr hs, f, h⟩
theorem r_minP (hs : SqL K H a xs) (l : 0 < xs.length) (f : ∀ x ∈ xs, ∃ t i j, x = V.ref t ∧ H t = some (.tup [.int i, .int j])) (h : ∀ x ∈ xs, Q x H) : rMinP K [.ref a] H Q := ⟨a, xs, rfl, hs, l, f, h⟩
theorem r_sortIt (h : te σ H fun x H1 => ∃ (d : Addr) (kvs : List (Key × V)), x = V.ref d ∧ H1 d = some (.dK kvs) ∧ (∀ q ∈ kvs, ∃ k i, q = (Sum.inl k, V.int i)) ∧
  ∀ (H' : Hp) (l : Addr) (ps : List (Addr × Int × Int)), Le H1 H' → H1 l = none → H' l = some (.lst (ps.map fun z => V.ref z.1)) → ps.length = kvs.length → (∀ z ∈ ps, H1 z.1 = none ∧ H' z.1 = some (.tup [.int z.2.1, .int z.2.2])) → Q (.ref l) H') : tSortIt te σ H Q := h
theorem r_revT (h : te σ H fun x H1 => ∃ a xs, x = V.ref a ∧ SqT K H1 a xs ∧ ∀ p, H1 p = none → Q (.ref p) (upd H1 p (.tup xs.reverse))) : tRevT K te σ H Q := h
theorem k_revT (hs : SqT K H a xs) (h : ∀ p H', H p = none → Le H H' → H' p = some (.tup xs.reverse) → Q (.ref p) H') : ∃ a' xs', V.ref a = .ref a' ∧ SqT K H a' xs' ∧ ∀ p, H p = none → Q (.ref p) (upd H p (.tup xs'.reverse)) := ⟨a, xs, rfl, hs, new_ (K := fun p H' => Q (.ref p) H') h⟩
theorem r_reprB {b : Bool} (h : Q (.str (if b then "True" else "False")) H) : rReprB [.bl b] H Q := ⟨b, rfl, h⟩
theorem r_iEk {ta : TA} {k : Int} {R : It → Hp → Prop} (h : ta σ H fun vs H1 => ∃ a xs, vs = [.ref a] ∧ SqL K H1 a xs ∧ R (ItEk K a k) H1) : iEnumK K ta k σ H R := h
theorem r_iEt {ta : TA} {R : It → Hp → Prop} (h : ta σ H fun vs H1 => ∃ a xs, vs = [.ref a] ∧ SqT K H1 a xs ∧ R (ItEt K a) H1) : iEnumT K ta σ H R := h
theorem k_Et {R : Addr → Prop} (hs : SqT K H a xs) (h : R a) : ∃ a' xs', ([V.ref a] : List V) = [.ref a'] ∧ SqT K H a' xs' ∧ R a' := ⟨a, xs, rfl, hs, h⟩
theorem le_mut {H0 H H1 : Hp} {x : Addr} (e : Le H0 H) (n : H0 x = none) (m : LeB x H H1) : Le H0 H1 := fun b o h => m b o (ne_of_none h n) (e b o h)
/-- a store to a field, the heap behind it by a name -/
theorem k_sfldG {R : Hp → Prop} {x C dx : Addr} {fs : List (Str × V)} {f : Str} {y : V} (ho : H x = some (.ins C dx fs)) (c : Cls K C) (n : NoAttr K C f) (l : fs.length < 900) (h : ∀ H1, LeB x H H1 → H1 x = some (.ins C dx (putF f y fs)) → R H1) :
    ∃ a C' dx' fs', V.ref x = .ref a ∧ H a = some (.ins C' dx' fs') ∧ Cls K C' ∧ NoAttr K C' f ∧ fs'.length < 1000 ∧ R (upd H a (.ins C' dx' (putF f y fs'))) :=
  ⟨x, C, dx, fs, rfl, ho, c, n, by omega, h _ LeB.upd upd_same⟩
theorem lp0 : ([] : List (Str × V)).length < 1 := by decide
theorem lpS {f : Str} {v : V} {fs : List (Str × V)} {n : Nat} (h : fs.length < n) : (putF f v fs).length < n + 1 := by
  have q : ∀ fs : List (Str × V), (putF f v fs).length ≤ fs.length + 1 := by
    intro fs
    induction fs with
    | nil => exact Nat.le_refl _
    | cons p r ih =>
      obtain ⟨g, u⟩ := p
      unfold putF
      split
      · simp
      · simp only [List.length_cons]; omega
  have := q fs
  omega
theorem le_le {n : Nat} {fs : List (Str × V)} (h : fs.length < n) (k : n ≤ 900) : fs.length < 900 := by omega
end
end Cw
set_option Elab.async false
set_option linter.all false
set_option maxRecDepth 100000
set_option maxHeartbeats 2000000
/-! More readings, plain lemmas. -/
namespace Cw
open PySem PySem.Spec PyProof.Rows L2
section
variable {K : PySem.W.Frag} {σ : L2.St} {H : Hp} {a b : Addr} {Q : VK}
theorem r_iR3 {ar : TA} {R : It → Hp → Prop} (h : ar σ H fun vs H1 => ∃ (i j c : Int) (n : Nat), vs = [.int i, .int j, .int c] ∧ RgC i j c n ∧ R (Itc i c n) H1) : iRng3 ar σ H R := h
theorem k_R3n {i j : Int} {R : Int → Int → Nat → Prop} (bi : -1000000000 ≤ i ∧ i ≤ 1000000000) (bj : -1000000000 ≤ j ∧ j ≤ 1000000000) (h : R i (-1) (i - j).toNat) : ∃ (i' j' c : Int) (n : Nat), ([V.int i, V.int j, V.int (-1)] : List V) = [.int i', .int j', .int c] ∧ RgC i' j' c n ∧ R i' c n := ⟨i, j, -1, _, rfl, RgC.neg (by omega) (by omega) (by omega) (by omega), h⟩
/-- a list of ints against [] -/
theorem eqv_ints_nil (ns : List Int) : PyData.eqv (.list (ns.map PyData.int)) (.list []) = ns.isEmpty := by
  cases ns <;> simp [PyData.eqv, PyData.eqvAll]
theorem dp_ints (K : PySem.W.Frag) (H : Hp) : ∀ ns : List Int, DpAll K H (ns.map V.int) (ns.map PyData.int)
  | [] => .nil
  | n :: ns => .cons (.int n) (dp_ints K H ns)
theorem lay_ints : ∀ ns : List Int, PyData.canLayAll0 (ns.map PyData.int) = true
  | [] => by simp [PyData.canLayAll0]
  | n :: ns => by simp [PyData.canLayAll0, PyData.canLay0, lay_ints ns]
theorem dep_ints : ∀ ns : List Int, PyData.depthAll (ns.map PyData.int) = 0
  | [] => by simp [PyData.depthAll]
  | n :: ns => by simp [PyData.depthAll, PyData.depth, dep_ints ns]
theorem shaped_ints (ns : List Int) : SeqAt.shaped (.list (ns.map PyData.int)) = true := by
  unfold SeqAt.shaped
  simp only [PyData.canLay0, lay_ints, PyData.depth, dep_ints, Bool.true_and]
  decide
theorem shaped_nilL : SeqAt.shaped (.list []) = true := shaped_ints []
theorem r_neNil {ns : List Int} (h1 : SqL K H a (ns.map V.int)) (h2 : H b = some (.lst [])) (h : Q (.bl (!ns.isEmpty)) H) : rNeD K (.ref a) (.ref b) H Q :=
  ⟨_, _, .lst h1 (dp_ints K H ns), .lst (SqL.of h2) .nil, shaped_ints ns, shaped_nilL, by rw [eqv_ints_nil]; exact h⟩
theorem r_eqNil {ns : List Int} (h1 : SqL K H a (ns.map V.int)) (h2 : H b = some (.lst [])) (h : Q (.bl ns.isEmpty) H) : rEqD K (.ref a) (.ref b) H Q :=
  ⟨_, _, .lst h1 (dp_ints K H ns), .lst (SqL.of h2) .nil, shaped_ints ns, shaped_nilL, by rw [eqv_ints_nil]; exact h⟩
end
theorem fm_filter (ts : List Int) (p : Int → Bool) : (List.range (ts.map V.int).length).filterMap (fun i => ts[i]?.bind fun t => if p t = true then some (V.int t) else none) = (ts.filter p).map V.int := by
  have e : (ts.map V.int).length = ts.length := by simp
  rw [e, fm_range ts (fun t => if p t = true then some (V.int t) else none)]
  induction ts with
  | nil => rfl
  | cons t ts ih =>
    rw [List.filterMap_cons, List.filter_cons]
    cases h : p t with
    | true => simp [ih (by simp)]
    | false => simp [ih (by simp)]
/-- a list of values that are ints, of which P holds -/
theorem ints_of {P : Int → Prop} : ∀ {out : List V}, (∀ (i : Nat) y, out[i]? = some y → ∃ z, y = V.int z ∧ P z) → ∃ ns : List Int, out = ns.map V.int ∧ ∀ z ∈ ns, P z
  | [], _ => ⟨[], rfl, by simp⟩
  | y :: out, h => by
    obtain ⟨z, rfl, hz⟩ := h 0 y rfl
    obtain ⟨ns, rfl, hn⟩ := ints_of (out := out) fun i y' e => h (i + 1) y' (by simpa using e)
    refine ⟨z :: ns, rfl, fun u hu => ?_⟩
    rcases List.mem_cons.mp hu with rfl | hu
    · exact hz
    · exact hn u hu
theorem iteNT {A B : Prop} (h : B) : if (!true) = true then A else B := by rw [if_neg (by decide)]; exact h
theorem iteNF {A B : Prop} (h : A) : if (!false) = true then A else B := by rw [if_pos (by decide)]; exact h
/-- both ways end alike: what is behind them is told once -/
theorem if_jn {b : Bool} {ta tb : TE} {σ : L2.St} {H : Hp} {Q : VK} (P : V → Hp → Prop) (hk : ∀ x H1, P x H1 → Q x H1) (h : (∀ x H1, P x H1 → Q x H1) → if b = true then ta σ H Q else tb σ H Q) : if b = true then ta σ H Q else tb σ H Q := h hk
/-- the same for statements: what is behind them -/
theorem ts_jn {t : TS} {D : Ends} {σ : L2.St} {H : Hp} (P : L2.St → Hp → Prop) (hk : ∀ s H1, P s H1 → D.nx s H1) (h : (∀ s H1, P s H1 → D.nx s H1) → t D σ H) : t D σ H := h hk
theorem wpm_yes (σ : L2.St) (H : Hp) (P P' : Bool → Hp → Prop) (f : ∀ b H', P b H' → P' b H') (h : tYes σ H P) : tYes σ H P' := f _ _ h
theorem wpm_name {i : Nat} (x : V) (σ : L2.St) (H : Hp) (P P' : L2.St → Hp → Prop) (f : ∀ s H', P s H' → P' s H') (h : gName i x σ H P) : gName i x σ H P' := f _ _ h
end Cw
set_option Elab.async false
set_option linter.all false
set_option maxRecDepth 100000
set_option maxHeartbeats 2000000
/-! More plain lemmas. -/
namespace Cw
open PySem PySem.Spec PyProof.Rows L2
theorem yp_of {f g : Nat → Option V} {i : Nat} {H H' : Hp} {v : V} (y : YPair f g i H v H') : ∃ T x z, v = .ref T ∧ Le H H' ∧ H T = none ∧ H' T = some (.tup [x, z]) ∧ f i = some x ∧ g i = some z := by
  obtain ⟨T, x, z, h1, h2, rfl, h3, h4⟩ := y
  exact ⟨T, x, z, h1, le_new h2, h2, upd_same, h3, h4⟩
theorem some_int {ts : List Int} {i : Nat} {y : V} (h : (ts.map V.int)[i]? = some y) : ∃ z, ts[i]? = some z ∧ y = .int z := by
  rw [List.getElem?_map] at h
  obtain ⟨z, h1, h2⟩ := Option.map_eq_some_iff.mp h
  exact ⟨z, h1, h2.symm⟩
section
variable {K : PySem.W.Frag} {σ : L2.St} {H : Hp} {D : Ends} {a b l : Addr} {td ty tx tv to : TE} {t : TA} {Q : VK} {kvs : List (Key × V)} {xs zs : List V} {y : V}
/-! ### a dict of ints -/
def IntsD (kvs : List (Key × V)) : Prop := ∀ q ∈ kvs, ∃ k i, q = (Sum.inl k, V.int i)
theorem IntsD.get {kvs : List (Key × V)} (h : IntsD kvs) (i j : Int) : ∃ k, (valV kvs (Sum.inl i)).getD (.int j) = .int k := by
  unfold valV
  cases e : kvs.find? fun kv => decide (kv.1 = Sum.inl i) with
  | none => exact ⟨j, rfl⟩
  | some q =>
    obtain ⟨k, z, rfl⟩ := h q (List.mem_of_find?_eq_some e)
    exact ⟨z, rfl⟩
theorem IntsD.put {kvs : List (Key × V)} (h : IntsD kvs) (i j : Int) : IntsD (putK kvs (Sum.inl i) (.int j)) ∧ (putK kvs (Sum.inl i) (.int j)).length ≤ kvs.length + 1 := by
  unfold putK
  split
  · refine ⟨fun q hq => ?_, by simp⟩
    obtain ⟨z, hz, rfl⟩ := List.mem_map.mp hq
    split
    · next e => exact ⟨i, j, by rw [e]⟩
    · exact h z hz
  · refine ⟨fun q hq => ?_, by simp⟩
    rcases List.mem_append.mp hq with hq | hq
    · exact h q hq
    · exact ⟨i, j, by simpa using hq⟩
theorem r_dnew (h : ∀ p H', H p = none → Le H H' → H' p = some (.dK []) → Q (.ref p) H') : tDNewK σ H Q := new_ (K := fun p H' => Q (.ref p) H') h
theorem r_dget2 (h : td σ H fun x H1 => ∃ a, x = .ref a ∧ IsD H1 a ∧ ty σ H1 fun y H2 => tx σ H2 fun z H3 => ∃ o, DGet H3 a y o ∧ Q (o.getD z) H3) : tDGet2 td ty tx σ H Q := h
theorem k_isD {R : Addr → Prop} (hd : H a = some (.dK kvs)) (h : R a) : ∃ a', V.ref a = .ref a' ∧ IsD H a' ∧ R a' := ⟨a, rfl, .inl ⟨kvs, .inl hd⟩, h⟩
theorem k_dget {R : V → Prop} {i j : Int} (hd : H a = some (.dK kvs)) (hi : IntsD kvs) (h : ∀ k, R (.int k)) : ∃ o, DGet H a (.int i) o ∧ R (o.getD (.int j)) := by
  obtain ⟨k, e⟩ := hi.get i j
  exact ⟨_, DGet.k (k := Sum.inl i) hd, by rw [e]; exact h k⟩
theorem r_dput (h : tv σ H fun v H1 => td σ H1 fun x H2 => ty σ H2 fun y H3 => ∃ a H4, x = .ref a ∧ DPut H3 a y v H4 ∧ D.nx σ H4) : sDPut td ty tv D σ H := h
theorem k_dput {R : Hp → Prop} {i j : Int} (hd : H a = some (.dK kvs)) (hi : IntsD kvs) (l : kvs.length < 1000000) (h : ∀ kvs' H', LeB a H H' → H' a = some (.dK kvs') → IntsD kvs' → kvs'.length ≤ kvs.length + 1 → R H') : ∃ a' H4, V.ref a = .ref a' ∧ DPut H a' (.int i) (.int j) H4 ∧ R H4 :=
  ⟨a, _, rfl, DPut.k (k := Sum.inl i) hd (szlt l), h _ _ LeB.upd upd_same (hi.put i j).1 (hi.put i j).2⟩
theorem k_sortIt {R : Addr → Hp → Prop} (hd : H a = some (.dK kvs)) (hi : IntsD kvs) (h : ∀ (H' : Hp) (l : Addr) (ps : List (Addr × Int × Int)), Le H H' → H l = none → H' l = some (.lst (ps.map fun z => V.ref z.1)) → ps.length = kvs.length → (∀ z ∈ ps, H z.1 = none ∧ H' z.1 = some (.tup [.int z.2.1, .int z.2.2])) → R l H') :
    ∃ (d : Addr) (kvs : List (Key × V)), V.ref a = V.ref d ∧ H d = some (.dK kvs) ∧ (∀ q ∈ kvs, ∃ k i, q = (Sum.inl k, V.int i)) ∧
  ∀ (H' : Hp) (l : Addr) (ps : List (Addr × Int × Int)), Le H H' → H l = none → H' l = some (.lst (ps.map fun z => V.ref z.1)) → ps.length = kvs.length → (∀ z ∈ ps, H z.1 = none ∧ H' z.1 = some (.tup [.int z.2.1, .int z.2.2])) → R l H' := ⟨a, kvs, rfl, hd, hi, h⟩
/-! ### append, extend -/
theorem r_bm {T : String} {r : V → List V → Hp → VK → Prop} (h : to σ H fun x H1 => tyV K T x H1 ∧ t σ H1 fun xs H2 => r x xs H2 Q) : tBM K T r to t σ H Q := h
theorem k_tyL {B : Prop} (hs : SqL K H a xs) (h : B) : tyV K "list" (.ref a) H ∧ B := ⟨.inl ⟨rfl, xs, hs⟩, h⟩
theorem k_app (hl : H l = some (.lst xs)) (hz : xs.length < 1000000) (h : ∀ H', LeB l H H' → H' l = some (.lst (xs ++ [y])) → Q .non H') : rAppend (.ref l) [y] H Q := ⟨l, xs, y, rfl, rfl, hl, szlt hz, h _ LeB.upd upd_same⟩
theorem k_ext (hl : H l = some (.lst xs)) (hb : H b = some (.lst zs)) (hz : xs.length + zs.length ≤ 1000000) (h : ∀ H', LeB l H H' → H' l = some (.lst (xs ++ zs)) → Q .non H') : rExtend (.ref l) [.ref b] H Q := ⟨l, b, xs, zs, rfl, rfl, hl, hb, szl hz, h _ LeB.upd upd_same⟩
end
/-! ### what a def has made anew -/
/-- all of it is new since H -/
abbrev Fr (H : Hp) : Addr → Prop := fun a => H a ≠ none
theorem Fr.mono {H H1 H2 H3 : Hp} {d : PyData} {v : V} (h : Da (Fr H1) H2 d v) (e1 : Le H H1) (e2 : Le H2 H3) : Da (Fr H) H3 d v :=
  h.mono fun a o n q => ⟨fun z => n fun z1 => z (le_free e1 z1), e2 a o q⟩
theorem Fr.monoL {H H1 H2 H3 : Hp} {d : List PyData} {v : List V} (h : DaL (Fr H1) H2 d v) (e1 : Le H H1) (e2 : Le H2 H3) : DaL (Fr H) H3 d v :=
  h.mono fun a o n q => ⟨fun z => n fun z1 => z (le_free e1 z1), e2 a o q⟩
/-- the same, with one address l of which it keeps off, that may change -/
abbrev Fx (H : Hp) (l : Addr) : Addr → Prop := fun a => H a ≠ none ∨ a = l
theorem Fx.leB {H H1 H2 : Hp} {l : Addr} {d : List PyData} {v : List V} (h : DaL (Fx H l) H1 d v) (e : LeB l H1 H2) : DaL (Fx H l) H2 d v :=
  h.mono fun a o n q => ⟨n, e a o (fun z => n (.inr z)) q⟩
theorem Fx.of {H H1 H2 : Hp} {l : Addr} {d : PyData} {v : V} (h : Da (Fr H1) H2 d v) (e : Le H H1) (hl : H1 l ≠ none) : Da (Fx H l) H2 d v :=
  h.mono fun a o n q => ⟨fun z => z.elim (fun z => n fun z1 => z (le_free e z1)) (fun z => n (z ▸ hl)), q⟩
theorem Fx.ofL {H H1 H2 : Hp} {l : Addr} {d : List PyData} {v : List V} (h : DaL (Fr H1) H2 d v) (e : Le H H1) (hl : H1 l ≠ none) : DaL (Fx H l) H2 d v :=
  h.mono fun a o n q => ⟨fun z => z.elim (fun z => n fun z1 => z (le_free e z1)) (fun z => n (z ▸ hl)), q⟩
theorem Fx.fr {H H1 : Hp} {l : Addr} {d : List PyData} {v : List V} (h : DaL (Fx H l) H1 d v) : DaL (Fr H) H1 d v :=
  h.mono fun a o n q => ⟨fun z => n (.inl z), q⟩
/-- a walk's sheet -/
abbrev Wk := Int × Int × List (Int × Int)
def prD (p : Int × Int) : PyData := .tuple [.int p.1, .int p.2]
def wkD (x : Wk) : PyData := .tuple [.int x.1, .int x.2.1, .tuple (x.2.2.map prD)]
theorem le_mutN {H0 H1 H2 : Hp} {l : Addr} (e : Le H0 H1) (n : H0 l = none) (m : LeB l H1 H2) : Le H0 H2 := le_mut e n m
end Cw
set_option Elab.async false
set_option linter.all false
set_option maxRecDepth 100000
set_option maxHeartbeats 2000000
/-! A garden's text. -/
namespace Cw
open PySem PySem.Spec PyProof.Rows L2 SX
def wL : Option Int → List Nat
  | none => [116, 97, 112]
  | some i => TL.numL i.toNat
def lineC (c : Int) : List Nat := [99, 97, 110, 32] ++ TL.numL c.toNat
def partsI (bs : List (Option Int)) : List (List Nat) := [105, 116, 101, 109, 115] :: bs.map wL
def lineI (bs : List (Option Int)) : List Nat := TL.joinL [32] (partsI bs)
def gTx (c : Int) (bs : List (Option Int)) : Str := S (TL.joinL [10] [lineC c, lineI bs])
theorem str_nat {i : Int} (h : 0 ≤ i) : Str.ofString (toString i) = S (TL.numL i.toNat) := by
  have e : i = ((i.toNat : Nat) : Int) := by omega
  conv => lhs; rw [e]
  exact num_S i.toNat
theorem lineC_10 : ∀ n : Fin 21, 10 ∉ lineC (n.val : Int) := by decide +kernel
theorem wL_fin : ∀ n : Fin 10, 10 ∉ wL (some (n.val : Int)) ∧ 32 ∉ wL (some (n.val : Int)) ∧ (wL (some (n.val : Int))).length = 1 := by decide +kernel
theorem wL_tap : 10 ∉ wL none ∧ 32 ∉ wL none ∧ (wL none).length = 3 := by decide +kernel
def ItOk (o : Option Int) : Prop := ∀ x, o = some x → 0 ≤ x ∧ x ≤ 9
theorem wL_ok {o : Option Int} (h : ItOk o) : 10 ∉ wL o ∧ 32 ∉ wL o ∧ (wL o).length ≤ 3 := by
  cases o with
  | none => exact ⟨wL_tap.1, wL_tap.2.1, by rw [wL_tap.2.2]; omega⟩
  | some x =>
    have hx := h x rfl
    have q := wL_fin ⟨x.toNat, by omega⟩
    have e : (((⟨x.toNat, by omega⟩ : Fin 10).val : Nat) : Int) = x := by show ((x.toNat : Nat) : Int) = x; omega
    rw [e] at q
    exact ⟨q.1, q.2.1, by omega⟩
theorem GOk.items {c : Int} {bs : List (Option Int)} (g : GOk c bs) : ∀ o ∈ bs, ItOk o := fun o ho x e => g.it x (e ▸ ho)
theorem joinL_mem {z : Nat} {s : List Nat} : ∀ {ps : List (List Nat)}, z ∈ TL.joinL s ps → z ∈ s ∨ ∃ p ∈ ps, z ∈ p
  | [], h => nomatch h
  | [p], h => .inr ⟨p, by simp, h⟩
  | p :: q :: r, h => by
    have h' : z ∈ p ++ (s ++ TL.joinL s (q :: r)) := h
    rcases List.mem_append.mp h' with h | h
    · exact .inr ⟨p, by simp, h⟩
    rcases List.mem_append.mp h with h | h
    · exact .inl h
    · rcases joinL_mem h with h | ⟨y, hy, h⟩
      · exact .inl h
      · exact .inr ⟨y, by simp [hy], h⟩
theorem joinL_len {s : List Nat} {m : Nat} : ∀ {ps : List (List Nat)}, (∀ p ∈ ps, p.length ≤ m) → (TL.joinL s ps).length ≤ ps.length * (m + s.length)
  | [], _ => by simp [TL.joinL]
  | [p], h => by
    have := h p (by simp)
    show p.length ≤ 1 * (m + s.length)
    omega
  | p :: q :: r, h => by
    have h1 := h p (by simp)
    have h2 := joinL_len (s := s) (ps := q :: r) fun y hy => h y (by simp [hy])
    show (p ++ (s ++ TL.joinL s (q :: r))).length ≤ _
    rw [List.length_append, List.length_append, List.length_cons (as := q :: r), Nat.succ_mul]
    omega
section
variable {c : Int} {bs : List (Option Int)}
theorem lineC_no (g : GOk c bs) : 10 ∉ lineC c := by
  have h1 := g.c1
  have h2 := g.c2
  have q := lineC_10 ⟨c.toNat, by omega⟩
  have e : (((⟨c.toNat, by omega⟩ : Fin 21).val : Nat) : Int) = c := by show ((c.toNat : Nat) : Int) = c; omega
  rw [e] at q
  exact q
theorem parts_no (g : GOk c bs) : ∀ p ∈ partsI bs, 32 ∉ p ∧ 10 ∉ p ∧ p.length ≤ 5 := by
  intro p hp
  rcases List.mem_cons.mp hp with rfl | hp
  · exact ⟨by decide, by decide, by decide⟩
  · obtain ⟨o, ho, rfl⟩ := List.mem_map.mp hp
    have q := wL_ok (g.items o ho)
    exact ⟨q.2.1, q.1, by omega⟩
theorem lineI_no (g : GOk c bs) : 10 ∉ lineI bs := fun h => by
  rcases joinL_mem h with h | ⟨p, hp, h⟩
  · revert h; decide
  · exact (parts_no g p hp).2.1 h
theorem lineI_len (g : GOk c bs) : (lineI bs).length ≤ 100 := by
  have h := joinL_len (s := [32]) (m := 5) (ps := partsI bs) fun p hp => (parts_no g p hp).2.2
  have l : (partsI bs).length = bs.length + 1 := by simp [partsI]
  have l2 := g.l2
  rw [l] at h
  have : (bs.length + 1) * (5 + [32].length) ≤ 6 * 6 := Nat.mul_le_mul (by omega) (by decide)
  show (TL.joinL [32] (partsI bs)).length ≤ 100
  omega
theorem lineC_lens : ∀ n : Fin 21, (lineC (n.val : Int)).length ≤ 10 := by decide +kernel
theorem lineC_len (g : GOk c bs) : (lineC c).length ≤ 10 := by
  have h1 := g.c1
  have h2 := g.c2
  have q := lineC_lens ⟨c.toNat, by omega⟩
  have e : (((⟨c.toNat, by omega⟩ : Fin 21).val : Nat) : Int) = c := by show ((c.toNat : Nat) : Int) = c; omega
  rw [e] at q
  exact q
theorem gTx_len (g : GOk c bs) : (gTx c bs).length ≤ 200 := by
  unfold gTx
  rw [S_len]
  have h1 := lineC_len g
  have h2 := lineI_len g
  show (lineC c ++ ([10] ++ lineI bs)).length ≤ 200
  rw [List.length_append, List.length_append]
  simp only [List.length_cons, List.length_nil]
  omega
theorem split_gTx (g : GOk c bs) : Txt.split (gTx c bs) (S [10]) = [S (lineC c), S (lineI bs)] := by
  unfold gTx
  rw [split_S (by simp) (by decide), spl_join (by simp) (fun p hp => ?_)]
  · rfl
  · rcases List.mem_cons.mp hp with rfl | hp
    · exact lineC_no g
    · rcases List.mem_cons.mp hp with rfl | hp
      · exact lineI_no g
      · cases hp
theorem split_lineI (g : GOk c bs) : Txt.split (S (lineI bs)) (S [32]) = (partsI bs).map S := by
  unfold lineI
  rw [split_S (by simp) (by decide), spl_join (by simp [partsI]) (fun p hp => (parts_no g p hp).1)]
end
/-- the lines of the cans -/
def canT (n : Nat) : List V := (List.range n).map fun i : Nat => V.str (S (lineC (1 + (i : Int))))
theorem canT_flat : (canT 20).all flatV = true := by decide +kernel
theorem canT_in : ∀ n : Fin 20, inV (.str (S (lineC (1 + (n.val : Int))))) (canT 20) = true := by decide +kernel
theorem canT_at : ∀ n : Fin 20, (canT 20)[n.val]? = some (.str (S (lineC (1 + (n.val : Int))))) := by decide +kernel
theorem canT_lt : ∀ n m : Fin 20, m.val < n.val → eqV (.str (S (lineC (1 + (m.val : Int))))) (.str (S (lineC (1 + (n.val : Int))))) = false := by decide +kernel
/-- what is known of words -/
def knV (n : Nat) : List (Key × V) := (List.range n).foldl (fun kvs i => putK kvs (Sum.inr (S (TL.numL i))) (V.int (i : Int))) []
def knF : List (Key × V) := putK (knV 10) (Sum.inr (S [116, 97, 112])) .non
theorem knV_succ (n : Nat) : knV (n + 1) = putK (knV n) (Sum.inr (S (TL.numL n))) (V.int (n : Int)) := by
  unfold knV
  rw [List.range_succ, List.foldl_append]
  rfl
theorem knF_num : ∀ n : Fin 10, valV knF (Sum.inr (S (wL (some (n.val : Int))))) = some (bv (some (n.val : Int))) := by decide +kernel
theorem knF_tap : valV knF (Sum.inr (S (wL none))) = some (bv none) := by decide +kernel
theorem knF_ok {o : Option Int} (h : ItOk o) : valV knF (Sum.inr (S (wL o))) = some (bv o) := by
  cases o with
  | none => exact knF_tap
  | some x =>
    have hx := h x rfl
    have q := knF_num ⟨x.toNat, by omega⟩
    have e : (((⟨x.toNat, by omega⟩ : Fin 10).val : Nat) : Int) = x := by show ((x.toNat : Nat) : Int) = x; omega
    rw [e] at q
    exact q
theorem knV_len : (knV 10).length ≤ 1000 := by decide +kernel
theorem lit_can : Str.ofString "can " = S [99, 97, 110, 32] := by decide +kernel
theorem lit_sp : Str.ofString " " = S [32] := by decide +kernel
theorem lit_nl : Str.ofString "\n" = S [10] := by decide +kernel
theorem lit_items : Str.ofString "items" = S [105, 116, 101, 109, 115] := by decide +kernel
theorem lit_tap : Str.ofString "tap" = S [116, 97, 112] := by decide +kernel
theorem lit_nlit : Str.ofString "\nitems " = S [10, 105, 116, 101, 109, 115, 32] := by decide +kernel
theorem emp_S : Str.empty = S [] := rfl
theorem canS {i : Int} (h : 0 ≤ i) : (Str.empty ++ Str.ofString "can ") ++ Str.ofString (toString i) = S (lineC i) := by
  rw [emp_S, lit_can, str_nat h, S_cat, S_cat]
  rfl
section
variable {σ : L2.St} {H : Hp} {to te : TE} {ts : List TE} {acc : Str} {QS : Str → Hp → Prop} {Q : VK}
theorem r_js (h : te σ H fun x H1 => ∃ y : Str, x = .str y ∧ (acc ++ y).length ≤ sizeLine ∧ tJs ts (acc ++ y) σ H1 QS) : tJs (te :: ts) acc σ H QS := h
theorem r_js0 (h : QS acc H) : tJs [] acc σ H QS := h
theorem r_fmt (h : te σ H fun x H1 => (∃ y : Str, x = .str y ∧ y.length ≤ sizeLine ∧ Q (.str y) H1) ∨ ∃ i : Int, x = .int i ∧ i.natAbs.log2 < 1920 ∧ Q (.str (toString i)) H1) : tFmt te σ H Q := h
theorem r_m1 {r : V → List V → Hp → VK → Prop} (h : to σ H fun x H1 => (∃ a, x = .str a) ∧ te σ H1 fun y H2 => r x [y] H2 Q) : tM1 r to te σ H Q := h
theorem k_strA {B : Prop} {z : Str} (h : B) : (∃ a, V.str z = V.str a) ∧ B := ⟨⟨z, rfl⟩, h⟩
end
theorem log_small {i : Int} (s : i.natAbs < 1000000) : i.natAbs.log2 < 1920 := by
  have h2 : i.natAbs.log2 ≤ i.natAbs := Nat.log2_le_self _
  by_cases z : i.natAbs = 0
  · rw [z]; decide
  · have := (Nat.log2_lt z (k := 20)).mpr (by omega)
    omega
theorem knV_le : ∀ i : Nat, (knV i).length ≤ i
  | 0 => Nat.le_refl _
  | i + 1 => by
    have ih := knV_le i
    rw [knV_succ]
    unfold putK
    split
    · rw [List.length_map]; omega
    · rw [List.length_append]; simp only [List.length_cons, List.length_nil]; omega
theorem r_dget {td ty : TE} {σ : L2.St} {H : Hp} {Q : VK} (h : td σ H fun x H1 => ty σ H1 fun y H2 => ∃ a v, x = .ref a ∧ DGet H2 a y (some v) ∧ Q v H2) : tDGet td ty σ H Q := h
theorem r_din {td ty : TE} {σ : L2.St} {H : Hp} {Q : VK} (h : ty σ H fun y H1 => td σ H1 fun x H2 => ∃ a o, x = .ref a ∧ DGet H2 a y o ∧ Q (.bl o.isSome) H2) : tDIn ty td σ H Q := h
/-- the words as values -/
def wdV (bs : List (Option Int)) : List V := bs.map fun o => V.str (S (wL o))
theorem parts_V (bs : List (Option Int)) : ((partsI bs).map S).map V.str = V.str (S [105, 116, 101, 109, 115]) :: wdV bs := by
  unfold partsI wdV
  rw [List.map_cons, List.map_cons, List.map_map, List.map_map]
  rfl
theorem wd_at {bs : List (Option Int)} {i : Nat} {x : V} (h : (wdV bs)[i]? = some x) : ∃ o, bs[i]? = some o ∧ x = .str (S (wL o)) := by
  unfold wdV at h
  rw [List.getElem?_map] at h
  obtain ⟨o, h1, h2⟩ := Option.map_eq_some_iff.mp h
  exact ⟨o, h1, h2.symm⟩
end Cw
set_option Elab.async false
set_option linter.all false
set_option maxRecDepth 100000
set_option maxHeartbeats 4000000
namespace Cw
open PySem PySem.Spec PyProof.Rows L2
local macro_rules | `(tactic| leaf_len) => `(tactic| first
  | assumption
  | exact rfl
  | ((refine' SqL.of ?e2); (case e2 => leaf_len))
  | ((refine' SqT.of ?e2); (case e2 => leaf_len))
  | ((refine' le_at ?e1 ?e2); (case e1 => assumption); (case e2 => leaf_len))
  | ((refine' le_sq ?e1 ?e2); (case e1 => assumption); (case e2 => leaf_len))
  | ((refine' le_st ?e1 ?e2); (case e1 => assumption); (case e2 => leaf_len))
  | ((refine' le_gp ?e1 ?e2); (case e1 => assumption); (case e2 => leaf_len))
  | ((refine' le_gd ?e1 ?e2); (case e1 => assumption); (case e2 => leaf_len))
  | ((refine' le_da ?e1 ?e2); (case e1 => assumption); (case e2 => leaf_len))
  | ((refine' le_dal ?e1 ?e2); (case e1 => assumption); (case e2 => leaf_len)))
local macro_rules | `(tactic| top_name) => `(tactic| repeat (first
  | (with_reducible refine' r_seq ?_)
  | ((with_reducible refine' r_var ?e0 ?_); (case e0 => exact rfl))
  | (with_reducible refine' r_C ?_)
  | (with_reducible refine' r_op ?_)
  | (with_reducible refine' r_I0 ?_)
  | (with_reducible refine' r_cons ?_)
  | (with_reducible refine' r_nil ?_)
  | (with_reducible refine' r_CB ?_)
  | (with_reducible refine' r_call ?_)
  | (with_reducible refine' r_test ?_)
  | (with_reducible refine' r_bl ?_)
  | (with_reducible refine' iteT ?_)
  | (with_reducible refine' iteF ?_)
  | (with_reducible refine' r_asg ?_)
  | ((with_reducible refine' r_gName ?e0 ?_); (case e0 => (first | ((simp only [List.set_cons_succ, List.set_cons_zero]); done) | ((simp only [List.set_cons_succ, List.set_cons_zero]); exact rfl))))
  | (with_reducible refine' r_ret ?_)
  | (with_reducible refine' r_ifS ?_)
  | (with_reducible refine' r_drop ?_)
  | (with_reducible refine' r_next ?_)
  | (with_reducible refine' r_eqI ?_)
  | (with_reducible refine' r_neI ?_)
  | (with_reducible refine' r_and ?_)
  | (with_reducible refine' r_or ?_)
  | (with_reducible refine' r_not ?_)
  | (with_reducible refine' r_if ?_)
  | (with_reducible refine' r_B ?_)
  | (with_reducible refine' r_chain ?_)
  | (with_reducible refine' r_andV ?_)
  | (with_reducible refine' r_orV ?_)
  | (with_reducible refine' r_notV ?_)
  | (with_reducible refine' r_un ?_)
  | (with_reducible refine' r_U ?_)
  | (with_reducible refine' r_max2 ?_)
  | (with_reducible refine' r_min2 ?_)
  | (with_reducible refine' r_abs ?_)
  | (with_reducible refine' r_int1 ?_)
  | (with_reducible refine' r_isN0 ?_)
  | (with_reducible refine' r_isNI ?_)
  | (with_reducible refine' r_isNR ?_)
  | (with_reducible refine' r_notN0 ?_)
  | (with_reducible refine' r_notNI ?_)
  | (with_reducible refine' r_notNR ?_)
  | (with_reducible refine' r_prop ?_)
  | ((with_reducible refine' r_can ?e0 ?_); (case e0 => leaf_len))
  | ((with_reducible refine' r_beds ?e0 ?_); (case e0 => leaf_len))
  | (with_reducible refine' r_gCons ?_)
  | (with_reducible refine' r_gNil ?_)
  | ((with_reducible refine' r_gTup ?e0 ?e1 ?_); (case e0 => leaf_len); (case e1 => (exact rfl)))
  | (with_reducible refine' r_gSub ?_)
  | ((with_reducible refine' r_aug ?e0 ?_); (case e0 => exact rfl))
  | (with_reducible refine' r_ipI ?_)
  | (with_reducible refine' r_par ?_)
  | ((with_reducible refine' r_par2 ?e0 ?_); (case e0 => (first | ((simp only [List.set_cons_succ, List.set_cons_zero]); done) | ((simp only [List.set_cons_succ, List.set_cons_zero]); exact rfl))))
  | (with_reducible refine' r_par3 ?_)
  | ((with_reducible refine' r_par32 ?e0 ?_); (case e0 => (first | ((simp only [List.set_cons_succ, List.set_cons_zero]); done) | ((simp only [List.set_cons_succ, List.set_cons_zero]); exact rfl))))
  | ((with_reducible refine' r_setn ?e0 ?_); (case e0 => (first | ((simp only [List.set_cons_succ, List.set_cons_zero]); done) | ((simp only [List.set_cons_succ, List.set_cons_zero]); exact rfl))))
  | (with_reducible refine' r_tup ?_)
  | (with_reducible refine' r_lst ?_)
  | (with_reducible refine' r_star ?_)
  | (with_reducible refine' r_orT ?_)
  | ((with_reducible refine' r_lenL ?e0 ?_); (case e0 => leaf_len))
  | ((with_reducible refine' r_lenT ?e0 ?_); (case e0 => leaf_len))
  | ((with_reducible refine' r_I ?e0 ?_); (case e0 => (first | ((show (0 : Int) < _); omega) | ((show CDiv _ _); exact ⟨by omega, by omega⟩) | ((show CMul _ _); first | exact .inl ⟨by omega, by omega⟩ | exact .inr ⟨by omega, by omega⟩) | ((show CPow _ _); exact ⟨by omega, by omega, by decide⟩))))
  | (with_reducible refine' r_sl ?_)
  | (with_reducible refine' r_nop ?_)
  | (with_reducible refine' r_part ?_)
  | (with_reducible refine' r_int ?_)
  | (with_reducible refine' r_revL ?_)
  | (with_reducible refine' r_for ?_)
  | (with_reducible refine' r_iR1 ?_)
  | (with_reducible refine' r_iR2 ?_)
  | (with_reducible refine' r_iL ?_)
  | (with_reducible refine' r_iT ?_)
  | (with_reducible refine' r_iE ?_)
  | (with_reducible refine' r_iZ ?_)
  | (with_reducible refine' r_lc ?_)
  | (with_reducible refine' r_yes ?_)
  | ((with_reducible refine' r_wipe ?e0 ?_); (case e0 => exact rfl))
  | ((with_reducible refine' k_R1 ?e0 ?_); (case e0 => omega))
  | ((with_reducible refine' k_R2 ?e0 ?e1 ?_); (case e0 => omega); (case e1 => omega))
  | ((with_reducible refine' k_R3n ?e0 ?e1 ?_); (case e0 => omega); (case e1 => omega))
  | ((with_reducible refine' k_L ?e0 ?_); (case e0 => leaf_len))
  | ((with_reducible refine' k_T ?e0 ?_); (case e0 => leaf_len))
  | ((with_reducible refine' k_E ?e0 ?_); (case e0 => leaf_len))
  | ((with_reducible refine' k_Et ?e0 ?_); (case e0 => leaf_len))
  | ((with_reducible refine' k_tyL ?e0 ?_); (case e0 => leaf_len))
  | ((with_reducible refine' k_isD ?e0 ?_); (case e0 => leaf_len))
  | ((with_reducible refine' k_ZL ?e0 ?e1 ?_); (case e0 => leaf_len); (case e1 => leaf_len))
  | ((with_reducible refine' k_ZT ?e0 ?e1 ?_); (case e0 => leaf_len); (case e1 => leaf_len))
  | (with_reducible refine' r_fld ?_)
  | (with_reducible refine' r_sfld ?_)
  | (with_reducible refine' r_meth ?_)
  | (with_reducible refine' r_make ?_)
  | (with_reducible refine' r_sortIt ?_)
  | (with_reducible refine' r_revT ?_)
  | (with_reducible refine' r_reprB ?_)
  | (with_reducible refine' r_iEk ?_)
  | (with_reducible refine' r_iEt ?_)
  | (with_reducible refine' r_iR3 ?_)
  | (with_reducible refine' iteNT ?_)
  | (with_reducible refine' iteNF ?_)
  | (with_reducible refine' r_dget2 ?_)
  | (with_reducible refine' r_dput ?_)
  | (with_reducible refine' r_bm ?_)
  | (with_reducible refine' r_js ?_)
  | (with_reducible refine' r_js0 ?_)
  | (with_reducible refine' r_fmt ?_)
  | (with_reducible refine' r_m1 ?_)
  | (with_reducible refine' k_strA ?_)
  | (with_reducible refine' r_dget ?_)
  | (with_reducible refine' r_din ?_)
  | (with_reducible refine' r_augS ?_)
  | ((with_reducible refine' kg_soil ?e0 ?e1 ?_); (case e0 => assumption); (case e1 => leaf_len))
  | ((with_reducible refine' kg_left ?e0 ?e1 ?_); (case e0 => assumption); (case e1 => leaf_len))
  | ((with_reducible refine' kg_right ?e0 ?e1 ?_); (case e0 => assumption); (case e1 => leaf_len))
  | ((with_reducible refine' kg_before ?e0 ?e1 ?_); (case e0 => assumption); (case e1 => leaf_len))
  | ((with_reducible refine' kg_many ?e0 ?e1 ?_); (case e0 => assumption); (case e1 => leaf_len))
  | ((with_reducible refine' kg_meth ?e0 ?e1 ?_); (case e0 => leaf_len); (case e1 => (decide +kernel)))))
local macro_rules | `(tactic| one_place) => `(tactic| first | ((simp only [List.map_cons, List.map_nil, wipe, List.set_cons_succ, List.set_cons_zero]); done) | ((simp only [List.map_cons, List.map_nil, wipe, List.set_cons_succ, List.set_cons_zero]); exact rfl))
local macro_rules | `(tactic| one_item) => `(tactic| ((try dsimp only [cxOf]); (refine' r_start ?e1 ?_); (case e1 => first | ((simp only [L2.start, List.map_cons, List.map_nil, List.length_cons, List.length_nil, List.cons_append, List.nil_append, Nat.reduceAdd, Nat.reduceSub, List.replicate_succ, List.replicate_zero]); done) | ((simp only [L2.start, List.map_cons, List.map_nil, List.length_cons, List.length_nil, List.cons_append, List.nil_append, Nat.reduceAdd, Nat.reduceSub, List.replicate_succ, List.replicate_zero]); exact rfl)); top_name))

section
variable {P : Program} {w : World} {K : PySem.W.Frag} {mg : Str → Option Value} {base : Heap}
/-! ### is_count, _law_is_int, is_integer, is_between -/
theorem sc_is_count : FnScope ["value", "least_one", "most"] ["value", "least_one", "most"] (defScope s_is_count) := ⟨rfl, rfl, rfl, by decide +kernel, rfl, by decide +kernel, by decide +kernel⟩
def cnt (d : PyData) (lo hi : Int) : Bool := match d with
  | .int i => decide (lo ≤ i) && decide (i ≤ hi)
  | _ => false
def spCnt : Sp := fun vs H Q _ => ∃ (S : Addr → Prop) (v : V) (d : PyData) (lo hi : Int), vs = [v, .int lo, .int hi] ∧ Da S H d v ∧ Q (.bl (cnt d lo hi)) H
theorem c_is_count (E : En K mg) : C8.Cal P w K mg base 1 "is_count" spCnt [] := by
  obtain ⟨fd, F⟩ := E.f_is_count
  refine cal_mk F E.g_is_count sc_is_count (fun _ _ _ _ _ _ us hl => match us, hl with | [_, _, _], _ => rfl) (fun vs H Q E h => by obtain ⟨S, v, d, lo, hi, rfl, _⟩ := h; rfl) fun cdv A outer s H vs Q E' hr h => ⟨_, (pss_one (ps_ret (pe_and (pe_callB (c_isiK K (by rfl)) (by rfl) E.z_isinstance b_isinstance (pa_cons (pv 0) (pa_cons (pe_bltn (v := .ty "int") (by rfl) E.z_int b_int rfl) pa_nil))) (pe_and (pe_not (pe_callB (c_isiK K (by rfl)) (by rfl) E.z_isinstance b_isinstance (pa_cons (pv 0) (pa_cons (pe_bltn (v := .ty "bool") (by rfl) E.z_bool b_bool rfl) pa_nil)))) (pe_one (pe_chain op_le op_le (pv 1) (pv 0) (pv 2))))))), ?_⟩
  obtain ⟨S, v, d, lo, hi, rfl, hd, k⟩ := h
  one_item
  obtain ⟨t, ty, kt⟩ := hd.isInt (K := K)
  obtain ⟨t2, ty2, kt2⟩ := hd.isBl (K := K)
  refine r_isi ty kt ?_
  cases hd with
  | int i =>
    top_name
    refine iteT ?_
    top_name
    refine r_isi ty2 kt2 ?_
    top_name
    refine iteT ?_
    top_name
    refine if_dec (fun h => ?_) (fun h => ?_)
    · top_name
      have e : cnt (.int i) lo hi = decide (i ≤ hi) := by simp [cnt, h]
      rw [← e]; exact k
    · have e : cnt (.int i) lo hi = false := by simp [cnt, h]
      rw [← e]; exact k
  | bl b =>
    top_name
    refine iteT ?_
    top_name
    refine r_isi ty2 kt2 ?_
    top_name
    refine iteF ?_
    exact k
  | _ => top_name; exact iteF k
theorem sc__law_is_int : FnScope ["_law_thing", "_law_low", "_law_high"] ["_law_thing", "_law_low", "_law_high"] (defScope s__law_is_int) := ⟨rfl, rfl, rfl, by decide +kernel, rfl, by decide +kernel, by decide +kernel⟩
theorem c__law_is_int (E : En K mg) : C8.Cal P w K mg base 1 "_law_is_int" spCnt [] := by
  obtain ⟨fd, F⟩ := E.f__law_is_int
  refine cal_mk F E.g__law_is_int sc__law_is_int (fun _ _ _ _ _ _ us hl => match us, hl with | [_, _, _], _ => rfl) (fun vs H Q E h => by obtain ⟨S, v, d, lo, hi, rfl, _⟩ := h; rfl) fun cdv A outer s H vs Q E' hr h => ⟨_, (pss_one (ps_ret (pe_and (pe_callB (c_isiK K (by rfl)) (by rfl) E.z_isinstance b_isinstance (pa_cons (pv 0) (pa_cons (pe_bltn (v := .ty "int") (by rfl) E.z_int b_int rfl) pa_nil))) (pe_and (pe_not (pe_callB (c_isiK K (by rfl)) (by rfl) E.z_isinstance b_isinstance (pa_cons (pv 0) (pa_cons (pe_bltn (v := .ty "bool") (by rfl) E.z_bool b_bool rfl) pa_nil)))) (pe_one (pe_chain op_le op_le (pv 1) (pv 0) (pv 2))))))), ?_⟩
  obtain ⟨S, v, d, lo, hi, rfl, hd, k⟩ := h
  one_item
  obtain ⟨t, ty, kt⟩ := hd.isInt (K := K)
  obtain ⟨t2, ty2, kt2⟩ := hd.isBl (K := K)
  refine r_isi ty kt ?_
  cases hd with
  | int i =>
    top_name
    refine iteT ?_
    top_name
    refine r_isi ty2 kt2 ?_
    top_name
    refine iteT ?_
    top_name
    refine if_dec (fun h => ?_) (fun h => ?_)
    · top_name
      have e : cnt (.int i) lo hi = decide (i ≤ hi) := by simp [cnt, h]
      rw [← e]; exact k
    · have e : cnt (.int i) lo hi = false := by simp [cnt, h]
      rw [← e]; exact k
  | bl b =>
    top_name
    refine iteT ?_
    top_name
    refine r_isi ty2 kt2 ?_
    top_name
    refine iteF ?_
    exact k
  | _ => top_name; exact iteF k
theorem sc_is_integer : FnScope ["value"] ["value"] (defScope s_is_integer) := ⟨rfl, rfl, rfl, by decide +kernel, rfl, by decide +kernel, by decide +kernel⟩
def spInt : Sp := fun vs H Q _ => ∃ i : Int, vs = [.int i] ∧ Q (.bl true) H
theorem c_is_integer (E : En K mg) : C8.Cal P w K mg base 1 "is_integer" spInt [] := by
  obtain ⟨fd, F⟩ := E.f_is_integer
  refine cal_mk F E.g_is_integer sc_is_integer (fun _ _ _ _ _ _ us hl => match us, hl with | [_], _ => rfl) (fun vs H Q E h => by obtain ⟨i, rfl, _⟩ := h; rfl) fun cdv A outer s H vs Q E' hr h => ⟨_, (pss_one (ps_ret (pe_and (pe_callB (c_isiK K (by rfl)) (by rfl) E.z_isinstance b_isinstance (pa_cons (pv 0) (pa_cons (pe_bltn (v := .ty "int") (by rfl) E.z_int b_int rfl) pa_nil))) (pe_one (pe_not (pe_callB (c_isiK K (by rfl)) (by rfl) E.z_isinstance b_isinstance (pa_cons (pv 0) (pa_cons (pe_bltn (v := .ty "bool") (by rfl) E.z_bool b_bool rfl) pa_nil)))))))), ?_⟩
  obtain ⟨i, rfl, k⟩ := h
  one_item
  refine r_isi (.base (.int i)) (kit_ty (r := true) (by decide +kernel)) ?_
  top_name
  refine r_isi (.base (.int i)) (kit_ty (r := false) (by decide +kernel)) ?_
  top_name
  exact k
theorem sc_is_between : FnScope ["value", "least", "most"] ["value", "least", "most"] (defScope s_is_between) := ⟨rfl, rfl, rfl, by decide +kernel, rfl, by decide +kernel, by decide +kernel⟩
def spBtw : Sp := fun vs H Q _ => ∃ i lo hi : Int, vs = [.int i, .int lo, .int hi] ∧ Q (.bl (decide (lo ≤ i) && decide (i ≤ hi))) H
theorem c_is_between (E : En K mg) : C8.Cal P w K mg base 2 "is_between" spBtw [] := by
  obtain ⟨fd, F⟩ := E.f_is_between
  refine cal_mk F E.g_is_between sc_is_between (fun _ _ _ _ _ _ us hl => match us, hl with | [_, _, _], _ => rfl) (fun vs H Q E h => by obtain ⟨i, lo, hi, rfl, _⟩ := h; rfl) fun cdv A outer s H vs Q E' hr h => ⟨_, (pss_one (ps_ret (pe_and (C8.pe_c (c_is_integer E) hr (by decide) (by rfl) (pa_cons (pv 0) pa_nil)) (pe_one (pe_chain op_le op_le (pv 1) (pv 0) (pv 2)))))), ?_⟩
  obtain ⟨i, lo, hi, rfl, k⟩ := h
  one_item
  refine ⟨i, rfl, ?_⟩
  top_name
  refine if_dec (fun h => ?_) (fun h => ?_)
  · top_name
    rw [decide_eq_true h, Bool.true_and] at k; exact k
  · rw [decide_eq_false h, Bool.false_and] at k; exact k
theorem sc_check_number : FnScope ["value", "least", "most"] ["value", "least", "most"] (defScope s_check_number) := ⟨rfl, rfl, rfl, by decide +kernel, rfl, by decide +kernel, by decide +kernel⟩
def spChk : Sp := fun vs H Q _ => ∃ i lo hi : Int, vs = [.int i, .int lo, .int hi] ∧ lo ≤ i ∧ i ≤ hi ∧ Q .non H
theorem c_check_number (E : En K mg) : C8.Cal P w K mg base 3 "check_number" spChk [] := by
  obtain ⟨fd, F⟩ := E.f_check_number
  refine cal_mk F E.g_check_number sc_check_number (fun _ _ _ _ _ _ us hl => match us, hl with | [_, _, _], _ => rfl) (fun vs H Q E h => by obtain ⟨i, lo, hi, rfl, _⟩ := h; rfl) fun cdv A outer s H vs Q E' hr h => ⟨_, (pss_one (ps_if (pt_not (pt_val (C8.pe_c (c_is_between E) hr (by decide) (by rfl) (pa_cons (pv 0) (pa_cons (pv 1) (pa_cons (pv 2) pa_nil)))))) (pss_one ps_never) pss_nil)), ?_⟩
  obtain ⟨i, lo, hi, rfl, h1, h2, k⟩ := h
  one_item
  refine ⟨i, lo, hi, rfl, ?_⟩
  top_name
  rw [decide_eq_true h1, decide_eq_true h2]
  top_name
  exact k
theorem sc_gcd_of : FnScope ["one", "other"] ["one", "other"] (defScope s_gcd_of) := ⟨rfl, rfl, rfl, by decide +kernel, rfl, by decide +kernel, by decide +kernel⟩
def spGcd : Sp := fun vs H Q _ => ∃ a b : Nat, vs = [.int a, .int b] ∧ 0 < a ∧ Q (.int (Nat.gcd a b : Nat)) H
theorem c_gcd_of (E : En K mg) : C8.Cal P w K mg base 1 "gcd_of" spGcd [] := by
  obtain ⟨fd, F⟩ := E.f_gcd_of
  refine cal_mk F E.g_gcd_of sc_gcd_of (fun _ _ _ _ _ _ us hl => match us, hl with | [_, _], _ => rfl) (fun vs H Q E h => by obtain ⟨a, b, rfl, _⟩ := h; rfl) fun cdv A outer s H vs Q E' hr h => ⟨_, (pss_cons (ps_while PassesOwn.never (pt_cmpR op_gt (pv 1) pe_int (nomark _)) (pss_one (ps_par (i := 0) (j := 1) (by rfl) sc_gcd_of.nd rfl rfl (by decide) rfl rfl (pa_cons (pv 1) (pa_cons (pe_op op_mod (pv 0) (pv 1)) pa_nil)) (by rfl))))
      (pss_one (ps_ret (pv 0)))), ?_⟩
  obtain ⟨a, b, rfl, ha, k⟩ := h
  one_item
  refine while_by (fun σ H' => H' = H ∧ ∃ a' b' : Nat, σ = [some (.int a'), some (.int b')] ∧ Nat.gcd a' b' = Nat.gcd a b) (fun σ _ => match σ with | [_, some (.int i)] => i.toNat | _ => 0) ⟨rfl, a, b, rfl, rfl⟩ ?_ ?_
  · rintro σ H' ⟨rfl, a', b', rfl, e⟩
    top_name
    refine if_dec (fun h => ?_) (fun h => ?_)
    · top_name
      refine ⟨⟨rfl, b', a' % b', ?_, ?_⟩, ?_⟩
      · push_cast; rfl
      · rw [← e, Nat.gcd_comm b', ← Nat.gcd_rec, Nat.gcd_comm]
      · show ((a' : Int) % (b' : Int)).toNat < (b' : Int).toNat
        have hb : 0 < b' := by omega
        have := Nat.mod_lt a' hb
        have e3 : ((a' : Int) % (b' : Int)) = ((a' % b' : Nat) : Int) := by push_cast; rfl
        rw [e3]; omega
    · top_name
      have hb : b' = 0 := by omega
      subst hb
      rw [Nat.gcd_zero_right] at e
      rw [e]; exact k
  · rintro σ H' Q Q' f ⟨v, e, i, j, h1, h2, k, e2, q⟩
    exact ⟨v, e, i, j, h1, h2, k, e2, f _ _ q⟩
end
end Cw
set_option Elab.async false
set_option linter.all false
set_option maxRecDepth 100000
set_option maxHeartbeats 4000000
namespace Cw
open PySem PySem.Spec PyProof.Rows L2
local macro_rules | `(tactic| leaf_len) => `(tactic| first
  | assumption
  | exact rfl
  | ((refine' SqL.of ?e2); (case e2 => leaf_len))
  | ((refine' SqT.of ?e2); (case e2 => leaf_len))
  | ((refine' le_at ?e1 ?e2); (case e1 => assumption); (case e2 => leaf_len))
  | ((refine' le_sq ?e1 ?e2); (case e1 => assumption); (case e2 => leaf_len))
  | ((refine' le_st ?e1 ?e2); (case e1 => assumption); (case e2 => leaf_len))
  | ((refine' le_gp ?e1 ?e2); (case e1 => assumption); (case e2 => leaf_len))
  | ((refine' le_gd ?e1 ?e2); (case e1 => assumption); (case e2 => leaf_len))
  | ((refine' le_da ?e1 ?e2); (case e1 => assumption); (case e2 => leaf_len))
  | ((refine' le_dal ?e1 ?e2); (case e1 => assumption); (case e2 => leaf_len)))
local macro_rules | `(tactic| top_name) => `(tactic| repeat (first
  | (with_reducible refine' r_seq ?_)
  | ((with_reducible refine' r_var ?e0 ?_); (case e0 => exact rfl))
  | (with_reducible refine' r_C ?_)
  | (with_reducible refine' r_op ?_)
  | (with_reducible refine' r_I0 ?_)
  | (with_reducible refine' r_cons ?_)
  | (with_reducible refine' r_nil ?_)
  | (with_reducible refine' r_CB ?_)
  | (with_reducible refine' r_call ?_)
  | (with_reducible refine' r_test ?_)
  | (with_reducible refine' r_bl ?_)
  | (with_reducible refine' iteT ?_)
  | (with_reducible refine' iteF ?_)
  | (with_reducible refine' r_asg ?_)
  | ((with_reducible refine' r_gName ?e0 ?_); (case e0 => (first | ((simp only [List.set_cons_succ, List.set_cons_zero]); done) | ((simp only [List.set_cons_succ, List.set_cons_zero]); exact rfl))))
  | (with_reducible refine' r_ret ?_)
  | (with_reducible refine' r_ifS ?_)
  | (with_reducible refine' r_drop ?_)
  | (with_reducible refine' r_next ?_)
  | (with_reducible refine' r_eqI ?_)
  | (with_reducible refine' r_neI ?_)
  | (with_reducible refine' r_and ?_)
  | (with_reducible refine' r_or ?_)
  | (with_reducible refine' r_not ?_)
  | (with_reducible refine' r_if ?_)
  | (with_reducible refine' r_B ?_)
  | (with_reducible refine' r_chain ?_)
  | (with_reducible refine' r_andV ?_)
  | (with_reducible refine' r_orV ?_)
  | (with_reducible refine' r_notV ?_)
  | (with_reducible refine' r_un ?_)
  | (with_reducible refine' r_U ?_)
  | (with_reducible refine' r_max2 ?_)
  | (with_reducible refine' r_min2 ?_)
  | (with_reducible refine' r_abs ?_)
  | (with_reducible refine' r_int1 ?_)
  | (with_reducible refine' r_isN0 ?_)
  | (with_reducible refine' r_isNI ?_)
  | (with_reducible refine' r_isNR ?_)
  | (with_reducible refine' r_notN0 ?_)
  | (with_reducible refine' r_notNI ?_)
  | (with_reducible refine' r_notNR ?_)
  | (with_reducible refine' r_prop ?_)
  | ((with_reducible refine' r_can ?e0 ?_); (case e0 => leaf_len))
  | ((with_reducible refine' r_beds ?e0 ?_); (case e0 => leaf_len))
  | (with_reducible refine' r_gCons ?_)
  | (with_reducible refine' r_gNil ?_)
  | ((with_reducible refine' r_gTup ?e0 ?e1 ?_); (case e0 => leaf_len); (case e1 => (exact rfl)))
  | (with_reducible refine' r_gSub ?_)
  | ((with_reducible refine' r_aug ?e0 ?_); (case e0 => exact rfl))
  | (with_reducible refine' r_ipI ?_)
  | (with_reducible refine' r_par ?_)
  | ((with_reducible refine' r_par2 ?e0 ?_); (case e0 => (first | ((simp only [List.set_cons_succ, List.set_cons_zero]); done) | ((simp only [List.set_cons_succ, List.set_cons_zero]); exact rfl))))
  | (with_reducible refine' r_par3 ?_)
  | ((with_reducible refine' r_par32 ?e0 ?_); (case e0 => (first | ((simp only [List.set_cons_succ, List.set_cons_zero]); done) | ((simp only [List.set_cons_succ, List.set_cons_zero]); exact rfl))))
  | ((with_reducible refine' r_setn ?e0 ?_); (case e0 => (first | ((simp only [List.set_cons_succ, List.set_cons_zero]); done) | ((simp only [List.set_cons_succ, List.set_cons_zero]); exact rfl))))
  | (with_reducible refine' r_tup ?_)
  | (with_reducible refine' r_lst ?_)
  | (with_reducible refine' r_star ?_)
  | (with_reducible refine' r_orT ?_)
  | ((with_reducible refine' r_lenL ?e0 ?_); (case e0 => leaf_len))
  | ((with_reducible refine' r_lenT ?e0 ?_); (case e0 => leaf_len))
  | ((with_reducible refine' r_I ?e0 ?_); (case e0 => (first | ((show (0 : Int) < _); omega) | ((show CDiv _ _); exact ⟨by omega, by omega⟩) | ((show CMul _ _); first | exact .inl ⟨by omega, by omega⟩ | exact .inr ⟨by omega, by omega⟩) | ((show CPow _ _); exact ⟨by omega, by omega, by decide⟩))))
  | (with_reducible refine' r_sl ?_)
  | (with_reducible refine' r_nop ?_)
  | (with_reducible refine' r_part ?_)
  | (with_reducible refine' r_int ?_)
  | (with_reducible refine' r_revL ?_)
  | (with_reducible refine' r_for ?_)
  | (with_reducible refine' r_iR1 ?_)
  | (with_reducible refine' r_iR2 ?_)
  | (with_reducible refine' r_iL ?_)
  | (with_reducible refine' r_iT ?_)
  | (with_reducible refine' r_iE ?_)
  | (with_reducible refine' r_iZ ?_)
  | (with_reducible refine' r_lc ?_)
  | (with_reducible refine' r_yes ?_)
  | ((with_reducible refine' r_wipe ?e0 ?_); (case e0 => exact rfl))
  | ((with_reducible refine' k_R1 ?e0 ?_); (case e0 => omega))
  | ((with_reducible refine' k_R2 ?e0 ?e1 ?_); (case e0 => omega); (case e1 => omega))
  | ((with_reducible refine' k_R3n ?e0 ?e1 ?_); (case e0 => omega); (case e1 => omega))
  | ((with_reducible refine' k_L ?e0 ?_); (case e0 => leaf_len))
  | ((with_reducible refine' k_T ?e0 ?_); (case e0 => leaf_len))
  | ((with_reducible refine' k_E ?e0 ?_); (case e0 => leaf_len))
  | ((with_reducible refine' k_Et ?e0 ?_); (case e0 => leaf_len))
  | ((with_reducible refine' k_tyL ?e0 ?_); (case e0 => leaf_len))
  | ((with_reducible refine' k_isD ?e0 ?_); (case e0 => leaf_len))
  | ((with_reducible refine' k_ZL ?e0 ?e1 ?_); (case e0 => leaf_len); (case e1 => leaf_len))
  | ((with_reducible refine' k_ZT ?e0 ?e1 ?_); (case e0 => leaf_len); (case e1 => leaf_len))
  | (with_reducible refine' r_fld ?_)
  | (with_reducible refine' r_sfld ?_)
  | (with_reducible refine' r_meth ?_)
  | (with_reducible refine' r_make ?_)
  | (with_reducible refine' r_sortIt ?_)
  | (with_reducible refine' r_revT ?_)
  | (with_reducible refine' r_reprB ?_)
  | (with_reducible refine' r_iEk ?_)
  | (with_reducible refine' r_iEt ?_)
  | (with_reducible refine' r_iR3 ?_)
  | (with_reducible refine' iteNT ?_)
  | (with_reducible refine' iteNF ?_)
  | (with_reducible refine' r_dget2 ?_)
  | (with_reducible refine' r_dput ?_)
  | (with_reducible refine' r_bm ?_)
  | (with_reducible refine' r_js ?_)
  | (with_reducible refine' r_js0 ?_)
  | (with_reducible refine' r_fmt ?_)
  | (with_reducible refine' r_m1 ?_)
  | (with_reducible refine' k_strA ?_)
  | (with_reducible refine' r_dget ?_)
  | (with_reducible refine' r_din ?_)
  | (with_reducible refine' r_augS ?_)
  | ((with_reducible refine' kg_soil ?e0 ?e1 ?_); (case e0 => assumption); (case e1 => leaf_len))
  | ((with_reducible refine' kg_left ?e0 ?e1 ?_); (case e0 => assumption); (case e1 => leaf_len))
  | ((with_reducible refine' kg_right ?e0 ?e1 ?_); (case e0 => assumption); (case e1 => leaf_len))
  | ((with_reducible refine' kg_before ?e0 ?e1 ?_); (case e0 => assumption); (case e1 => leaf_len))
  | ((with_reducible refine' kg_many ?e0 ?e1 ?_); (case e0 => assumption); (case e1 => leaf_len))
  | ((with_reducible refine' kg_meth ?e0 ?e1 ?_); (case e0 => leaf_len); (case e1 => (decide +kernel)))))
local macro_rules | `(tactic| one_place) => `(tactic| first | ((simp only [List.map_cons, List.map_nil, wipe, List.set_cons_succ, List.set_cons_zero]); done) | ((simp only [List.map_cons, List.map_nil, wipe, List.set_cons_succ, List.set_cons_zero]); exact rfl))
local macro_rules | `(tactic| one_item) => `(tactic| ((try dsimp only [cxOf]); (refine' r_start ?e1 ?_); (case e1 => first | ((simp only [L2.start, List.map_cons, List.map_nil, List.length_cons, List.length_nil, List.cons_append, List.nil_append, Nat.reduceAdd, Nat.reduceSub, List.replicate_succ, List.replicate_zero]); done) | ((simp only [L2.start, List.map_cons, List.map_nil, List.length_cons, List.length_nil, List.cons_append, List.nil_append, Nat.reduceAdd, Nat.reduceSub, List.replicate_succ, List.replicate_zero]); exact rfl)); top_name))

/-! ### rows, in plain Lean -/
def itemAt (bs : List (Option Int)) (pl : Int) : Option Int := bs.getD ((pl - 1) % (bs.length : Int)).toNat none
def tapped (bs : List (Option Int)) (ts : List Int) (pl : Int) : Bool := decide (pl = 0) || (ts.contains pl || (itemAt bs pl).isNone)
def wantsV (bs : List (Option Int)) (ts : List Int) (pl : Int) : Int := if tapped bs ts pl = true then 0 else (itemAt bs pl).getD 0
def bz (bs : List (Option Int)) : List Int := bs.map (·.getD 0)
def upTo (bs : List (Option Int)) (pl : Int) : Int := pl / (bs.length : Int) * (bz bs).sum + ((bz bs).take (pl % (bs.length : Int)).toNat).sum
theorem bv_flat (bs : List (Option Int)) : (bs.map bv).all flatV = true := by
  rw [List.all_map, List.all_eq_true]
  intro x _
  cases x <;> rfl
theorem item_ix {bs : List (Option Int)} (h : 1 ≤ bs.length) (pl : Int) : atI (bs.map bv) ((pl - 1) % (bs.length : Int)) = some (bv (itemAt bs pl)) := by
  have h0 : 0 ≤ (pl - 1) % (bs.length : Int) := Int.emod_nonneg _ (by omega)
  have h1 : (pl - 1) % (bs.length : Int) < bs.length := Int.emod_lt_of_pos _ (by omega)
  have e : (pl - 1) % (bs.length : Int) = (((pl - 1) % (bs.length : Int)).toNat : Int) := by omega
  have hj : ((pl - 1) % (bs.length : Int)).toNat < bs.length := by omega
  rw [e]
  refine atI_nat ?_
  rw [List.getElem?_map, List.getElem?_eq_getElem hj]
  unfold itemAt
  rw [List.getD_eq_getElem?_getD, List.getElem?_eq_getElem hj]
  rfl
theorem bz_mem {bs : List (Option Int)} (h : ∀ x, some x ∈ bs → 0 ≤ x ∧ x ≤ 9) : ∀ y ∈ bz bs, 0 ≤ y ∧ y ≤ 9 := by
  intro y hy
  unfold bz at hy
  obtain ⟨o, ho, rfl⟩ := List.mem_map.mp hy
  cases o with
  | none => simp
  | some x => exact h x ho
theorem sum_bd {l : List Int} (h : ∀ y ∈ l, 0 ≤ y ∧ y ≤ 9) : 0 ≤ l.sum ∧ l.sum ≤ 9 * l.length := by
  induction l with
  | nil => simp
  | cons a l ih =>
    have h1 := h a (List.mem_cons_self ..)
    have h2 := ih fun y hy => h y (List.mem_cons_of_mem _ hy)
    rw [List.sum_cons, List.length_cons]
    constructor
    · omega
    · push_cast; omega
theorem GOk.sum {c : Int} {bs : List (Option Int)} (g : GOk c bs) : 0 ≤ (bz bs).sum ∧ (bz bs).sum ≤ 45 := by
  have h := sum_bd (bz_mem g.it)
  have hl : (bz bs).length = bs.length := by unfold bz; simp
  have := g.l2
  rw [hl] at h
  omega
theorem GOk.upTo {c : Int} {bs : List (Option Int)} (g : GOk c bs) {pl : Int} (h0 : 0 ≤ pl) (h1 : pl ≤ 1000) : 0 ≤ upTo bs pl ∧ upTo bs pl ≤ 50000 := by
  have hs := g.sum
  have ht : ∀ y ∈ (bz bs).take (pl % (bs.length : Int)).toNat, 0 ≤ y ∧ y ≤ 9 := fun y hy => bz_mem g.it y (List.mem_of_mem_take hy)
  have h2 := sum_bd ht
  have hl : (bz bs).length = bs.length := by unfold bz; simp
  have h3 : ((bz bs).take (pl % (bs.length : Int)).toNat).length ≤ 5 := by rw [List.length_take, hl]; have := g.l2; omega
  have l1 := g.l1
  have d0 : 0 ≤ pl / (bs.length : Int) := Int.ediv_nonneg h0 (by omega)
  have d1 : pl / (bs.length : Int) ≤ pl := Int.ediv_le_self _ h0
  have m0 : 0 ≤ pl / (bs.length : Int) * (bz bs).sum := Int.mul_nonneg d0 hs.1
  have m1 : pl / (bs.length : Int) * (bz bs).sum ≤ 1000 * 45 := Int.mul_le_mul (by omega) hs.2 hs.1 (by omega)
  unfold Cw.upTo
  omega
theorem GOk.upTo2 {c : Int} {bs : List (Option Int)} (g : GOk c bs) {pl : Int} (h0 : 0 ≤ pl) : Cw.upTo bs pl ≤ 45 * (pl + 1) := by
  have hs := g.sum
  have ht : ∀ y ∈ (bz bs).take (pl % (bs.length : Int)).toNat, 0 ≤ y ∧ y ≤ 9 := fun y hy => bz_mem g.it y (List.mem_of_mem_take hy)
  have h2 := sum_bd ht
  have hl : (bz bs).length = bs.length := by unfold bz; simp
  have h3 : ((bz bs).take (pl % (bs.length : Int)).toNat).length ≤ 5 := by rw [List.length_take, hl]; have := g.l2; omega
  have l1 := g.l1
  have d1 : pl / (bs.length : Int) ≤ pl := Int.ediv_le_self _ h0
  have d0 : 0 ≤ pl / (bs.length : Int) := Int.ediv_nonneg h0 (by omega)
  have m1 : pl / (bs.length : Int) * (bz bs).sum ≤ pl * 45 := Int.mul_le_mul d1 hs.2 hs.1 h0
  show pl / (bs.length : Int) * (bz bs).sum + _ ≤ _
  omega
section
variable {P : Program} {w : World} {K : PySem.W.Frag} {mg : Str → Option Value} {base : Heap}
theorem sc_check_garden : FnScope ["value"] ["value"] (defScope s_check_garden) := ⟨rfl, rfl, rfl, by decide +kernel, rfl, by decide +kernel, by decide +kernel⟩
def spCkG (K : PySem.W.Frag) : Sp := fun vs H Q _ => ∃ (a p : Addr) (c : Int) (bs : List (Option Int)), vs = [.ref a] ∧ Gd K H a p c bs ∧ Q .non H
theorem c_check_garden (E : En K mg) : C8.Cal P w K mg base 1 "check_garden" (spCkG K) [] := by
  obtain ⟨fd, F⟩ := E.f_check_garden
  refine cal_mk F E.g_check_garden sc_check_garden (fun _ _ _ _ _ _ us hl => match us, hl with | [_], _ => rfl) (fun vs H Q E h => by obtain ⟨a, p, c, bs, rfl, _⟩ := h; rfl) fun cdv A outer s H vs Q E' hr h => ⟨_, (pss_one (ps_if (pt_not (pt_val (pe_callB (c_isiK K (by rfl)) (by rfl) E.z_isinstance b_isinstance (pa_cons (pv 0) (pa_cons (C8.pe_gc (by rfl) E.v_Garden) pa_nil))))) (pss_one ps_never) pss_nil)), ?_⟩
  obtain ⟨a, p, c, bs, rfl, hg, k⟩ := h
  one_item
  obtain ⟨dx, w, ho⟩ := hg.ob
  refine r_isiC (E.tyG E.cl_Garden ho) E.kitG ?_
  top_name
  exact k
theorem sc_item_at : FnScope ["garden", "place"] ["garden", "place"] (defScope s_item_at) := ⟨rfl, rfl, rfl, by decide +kernel, rfl, by decide +kernel, by decide +kernel⟩
def spItA (K : PySem.W.Frag) : Sp := fun vs H Q _ => ∃ (a p : Addr) (c : Int) (bs : List (Option Int)) (pl : Int), vs = [.ref a, .int pl] ∧ Gd K H a p c bs ∧ Q (bv (itemAt bs pl)) H
theorem c_item_at (E : En K mg) : C8.Cal P w K mg base 3 "item_at" (spItA K) [] := by
  obtain ⟨fd, F⟩ := E.f_item_at
  refine cal_mk F E.g_item_at sc_item_at (fun _ _ _ _ _ _ us hl => match us, hl with | [_, _], _ => rfl) (fun vs H Q E h => by obtain ⟨a, p, c, bs, pl, rfl, _⟩ := h; rfl) fun cdv A outer s H vs Q E' hr h => ⟨_, (pss_one (ps_ret (pe_ix (ix_tupK K (by rfl)) (pe_propK K (by rfl) (pv 0) (p_beds E) hr (by decide)) (pe_op op_mod (pe_op op_sub (pv 1) pe_int) (pe_callB (c_lenK K (by rfl)) (by rfl) E.z_len b_len (pa_cons (pe_propK K (by rfl) (pv 0) (p_beds E) hr (by decide)) pa_nil))) (fun _ _ => rfl)))), ?_⟩
  obtain ⟨a, p, c, bs, pl, rfl, hg, k⟩ := h
  have ht := hg.tp
  have l1 := hg.ok.l1
  have hl : ((bs.map bv).length : Int) = (bs.length : Int) := by simp
  one_item
  refine r_ixT (SqT.of ht) ?_ k
  rw [hl]; exact item_ix l1 pl
theorem sc_is_tapped : FnScope ["garden", "place", "taps"] ["garden", "place", "taps"] (defScope s_is_tapped) := ⟨rfl, rfl, rfl, by decide +kernel, rfl, by decide +kernel, by decide +kernel⟩
def spTpd (K : PySem.W.Frag) : Sp := fun vs H Q _ => ∃ (a p t : Addr) (c : Int) (bs : List (Option Int)) (ts : List Int) (pl : Int), vs = [.ref a, .int pl, .ref t] ∧ Gd K H a p c bs ∧ SqT K H t (ts.map V.int) ∧ Q (.bl (tapped bs ts pl)) H
theorem bv_isN (o : Option Int) : (decide (bv o = .non)) = o.isNone := by cases o <;> rfl
theorem c_is_tapped (E : En K mg) : C8.Cal P w K mg base 4 "is_tapped" (spTpd K) [] := by
  obtain ⟨fd, F⟩ := E.f_is_tapped
  refine cal_mk F E.g_is_tapped sc_is_tapped (fun _ _ _ _ _ _ us hl => match us, hl with | [_, _, _], _ => rfl) (fun vs H Q E h => by obtain ⟨a, p, t, c, bs, ts, pl, rfl, _⟩ := h; rfl) fun cdv A outer s H vs Q E' hr h => ⟨_, (pss_one (ps_ret (pe_or (pe_cmpR op_eq (pv 1) pe_int (nomark _)) (pe_or (pe_cmpR (op_inK K (by rfl)) (pv 1) (pv 2) rfl) (pe_one (pe_cmpR op_isN1 (C8.pe_c (c_item_at E) hr (by decide) (by rfl) (pa_cons (pv 0) (pa_cons (pv 1) pa_nil))) pe_non (nomark _))))))), ?_⟩
  obtain ⟨a, p, t, c, bs, ts, pl, rfl, hg, ht, k⟩ := h
  one_item
  unfold tapped at k
  refine if_dec (fun h => ?_) (fun h => ?_)
  · rw [decide_eq_true h, Bool.true_or] at k; exact k
  rw [decide_eq_false h, Bool.false_or] at k
  top_name
  refine r_inT ht rfl (flat_ints ts) ?_
  rw [if_neg (by decide), inV_ints]
  top_name
  refine if_b (fun h => ?_) (fun h => ?_)
  · rw [h, Bool.true_or] at k; exact k
  rw [h, Bool.false_or] at k
  top_name
  refine ⟨a, p, c, bs, pl, rfl, hg, ?_⟩
  top_name
  refine ⟨rfl, ?_⟩
  rw [bv_isN]
  exact k
theorem sc_wants : FnScope ["garden", "place", "taps"] ["garden", "place", "taps"] (defScope s_wants) := ⟨rfl, rfl, rfl, by decide +kernel, rfl, by decide +kernel, by decide +kernel⟩
def spWan (K : PySem.W.Frag) : Sp := fun vs H Q _ => ∃ (a p t : Addr) (c : Int) (bs : List (Option Int)) (ts : List Int) (pl : Int), vs = [.ref a, .int pl, .ref t] ∧ Gd K H a p c bs ∧ SqT K H t (ts.map V.int) ∧ Q (.int (wantsV bs ts pl)) H
theorem c_wants (E : En K mg) : C8.Cal P w K mg base 5 "wants" (spWan K) [] := by
  obtain ⟨fd, F⟩ := E.f_wants
  refine cal_mk F E.g_wants sc_wants (fun _ _ _ _ _ _ us hl => match us, hl with | [_, _, _], _ => rfl) (fun vs H Q E h => by obtain ⟨a, p, t, c, bs, ts, pl, rfl, _⟩ := h; rfl) fun cdv A outer s H vs Q E' hr h => ⟨_, (pss_one (ps_ret (pe_ifExp (pt_val (C8.pe_c (c_is_tapped E) hr (by decide) (by rfl) (pa_cons (pv 0) (pa_cons (pv 1) (pa_cons (pv 2) pa_nil))))) pe_int (C8.pe_c (c_item_at E) hr (by decide) (by rfl) (pa_cons (pv 0) (pa_cons (pv 1) pa_nil)))))), ?_⟩
  obtain ⟨a, p, t, c, bs, ts, pl, rfl, hg, ht, k⟩ := h
  one_item
  refine ⟨a, p, t, c, bs, ts, pl, rfl, hg, ht, ?_⟩
  top_name
  unfold wantsV at k
  refine if_b (fun h => ?_) (fun h => ?_)
  · rw [if_pos h] at k; top_name; exact k
  · top_name
    refine ⟨a, p, c, bs, pl, rfl, hg, ?_⟩
    rw [if_neg (by rw [h]; decide)] at k
    cases e : itemAt bs pl with
    | none => unfold tapped at h; rw [e] at h; simp at h
    | some i => rw [e] at k; exact k
end
end Cw
set_option linter.all false
set_option maxRecDepth 100000
/-! The plain law: the judge's reading of a sheet and the law's own agree. -/
namespace Cw
open PySem PySem.Spec PyProof.Rows L2
def needV (bs : List (Option Int)) (ts : List Int) (pl : Int) : Int := match itemAt bs pl with
  | none => 0
  | some i => if ts.contains pl then 0 else i
def needsL (bs : List (Option Int)) (ts : List Int) (n : Nat) : List Int := 0 :: (List.range n).map fun i : Nat => needV bs ts ((i : Int) + 1)
def isStop (bs : List (Option Int)) (ts : List Int) (pl : Int) : Bool := (itemAt bs pl).isNone || ts.contains pl
def stopsL (bs : List (Option Int)) (ts : List Int) (n : Nat) : List Int := 0 :: ((List.range n).map fun i : Nat => (i : Int) + 1).filter (isStop bs ts)
theorem needsL_len (bs : List (Option Int)) (ts : List Int) (n : Nat) : (needsL bs ts n).length = n + 1 := by simp [needsL]
theorem stopsL_bd {bs : List (Option Int)} {ts : List Int} {n : Nat} {y : Int} (h : y ∈ stopsL bs ts n) : 0 ≤ y ∧ y ≤ n := by
  rcases List.mem_cons.mp h with rfl | h
  · omega
  · obtain ⟨i, hi, rfl⟩ := List.mem_map.mp (List.mem_filter.mp h).1
    have := List.mem_range.mp hi
    omega
theorem stopsL_len (bs : List (Option Int)) (ts : List Int) (n : Nat) : (stopsL bs ts n).length ≤ n + 1 := by
  unfold stopsL
  rw [List.length_cons]
  have := List.length_filter_le (isStop bs ts) ((List.range n).map fun i : Nat => (i : Int) + 1)
  rw [List.length_map, List.length_range] at this
  omega
/-! ### pours -/
def isPair : PyData → Option (PyData × PyData)
  | .tuple [a, b] => some (a, b)
  | _ => none
def vI : PyData → Int
  | .int i => i
  | _ => 0
theorem cnt_int {d : PyData} {lo hi : Int} (h : cnt d lo hi = true) : d = .int (vI d) ∧ lo ≤ vI d ∧ vI d ≤ hi := by
  cases d with
  | int i =>
    have q : (decide (lo ≤ i) && decide (i ≤ hi)) = true := h
    rw [Bool.and_eq_true, decide_eq_true_eq, decide_eq_true_eq] at q
    exact ⟨rfl, q.1, q.2⟩
  | _ => cases h
theorem isPair_eq {d a b : PyData} (h : isPair d = some (a, b)) : d = .tuple [a, b] := by
  unfold isPair at h
  split at h
  · cases h; rfl
  · cases h
/-- the judge's: the sum is told last -/
def prGo (load high : Int) : Int → Int → List PyData → Bool
  | _, sum, [] => decide (sum ≤ load)
  | low, sum, d :: ds => match isPair d with
    | none => false
    | some (a, b) => if (cnt b 1 load && cnt a (low + 1) (high - 1)) = true then prGo load high (vI a) (sum + vI b) ds else false
/-- the law's: the load shrinks -/
def lwGo (high : Int) : Int → Int → List PyData → Bool
  | _, _, [] => true
  | low, load, d :: ds => match isPair d with
    | none => false
    | some (a, b) => if (cnt a (low + 1) (high - 1) && cnt b 1 load) = true then lwGo high (vI a) (load - vI b) ds else false
theorem prGo_over {load high : Int} : ∀ {ds : List PyData} {low sum : Int}, load < sum → prGo load high low sum ds = false
  | [], _, _, h => decide_eq_false (by omega)
  | d :: ds, low, sum, h => by
    unfold prGo
    cases isPair d with
    | none => rfl
    | some p =>
      show (if _ then _ else _) = _
      split
      · next q =>
        rw [Bool.and_eq_true] at q
        have := (cnt_int q.1).2.1
        exact prGo_over (by omega)
      · rfl
theorem prGo_lw {load high : Int} : ∀ {ds : List PyData} {low sum : Int}, 0 ≤ sum → sum ≤ load → prGo load high low sum ds = lwGo high low (load - sum) ds
  | [], _, _, _, h => decide_eq_true (by omega)
  | d :: ds, low, sum, h0, h => by
    unfold prGo lwGo
    cases isPair d with
    | none => rfl
    | some p =>
      obtain ⟨a, b⟩ := p
      show (if _ then _ else _) = (if _ then _ else _)
      by_cases ha : cnt a (low + 1) (high - 1) = true
      · by_cases hb : cnt b 1 load = true
        · rw [if_pos (by rw [ha, hb]; rfl)]
          have h1 := (cnt_int hb).2
          by_cases hs : vI b ≤ load - sum
          · have hb2 : cnt b 1 (load - sum) = true := by
              rw [(cnt_int hb).1]
              show (decide _ && decide _) = true
              rw [decide_eq_true h1.1, decide_eq_true hs]; rfl
            rw [if_pos (by rw [ha, hb2]; rfl), prGo_lw (by omega) (by omega)]
            congr 1
            omega
          · rw [if_neg (fun q => by
              rw [Bool.and_eq_true] at q
              exact hs (cnt_int q.2).2.2), prGo_over (by omega)]
        · rw [if_neg (fun q => by rw [Bool.and_eq_true] at q; exact hb q.1), if_neg (fun q => by
            rw [Bool.and_eq_true] at q
            have := cnt_int q.2
            apply hb
            rw [this.1]
            show (decide _ && decide _) = true
            rw [decide_eq_true this.2.1, decide_eq_true (by omega)]; rfl)]
      · rw [if_neg (fun q => by rw [Bool.and_eq_true] at q; exact ha q.2), if_neg (fun q => by rw [Bool.and_eq_true] at q; exact ha q.1)]
def prD' (load low high : Int) : PyData → Bool
  | .tuple ds => prGo load high low 0 ds
  | _ => false
def lwD (load low high : Int) : PyData → Bool
  | .tuple ds => lwGo high low load ds
  | _ => false
theorem prD_lw {load low high : Int} (h : 0 ≤ load) (d : PyData) : prD' load low high d = lwD load low high d := by
  cases d with
  | tuple ds =>
    show prGo load high low 0 ds = lwGo high low load ds
    rw [prGo_lw (by omega) h]
    congr 1
    omega
  | _ => rfl
/-- what is poured, read -/
def poursOf : PyData → List (Int × Int)
  | .tuple ds => ds.map fun d => match isPair d with
    | some (a, b) => (vI a, vI b)
    | none => (0, 0)
  | _ => []
theorem lwGo_shape {high : Int} : ∀ {ds : List PyData} {low load : Int}, lwGo high low load ds = true → ∃ ps : List (Int × Int), ds = ps.map (fun p => .tuple [.int p.1, .int p.2]) ∧ (∀ p ∈ ps, low < p.1 ∧ p.1 < high) ∧ ps.Pairwise (fun p q => p.1 < q.1)
  | [], _, _, _ => ⟨[], rfl, (fun _ h => nomatch h), .nil⟩
  | d :: ds, low, load, h => by
    unfold lwGo at h
    cases e : isPair d with
    | none => rw [e] at h; cases h
    | some p =>
      obtain ⟨a, b⟩ := p
      rw [e] at h
      have h' : (if (cnt a (low + 1) (high - 1) && cnt b 1 load) = true then lwGo high (vI a) (load - vI b) ds else false) = true := h
      by_cases q : (cnt a (low + 1) (high - 1) && cnt b 1 load) = true
      · rw [if_pos q] at h'
        rw [Bool.and_eq_true] at q
        obtain ⟨ps, h1, h2, h3⟩ := lwGo_shape h'
        have ha := cnt_int q.1
        have hb := cnt_int q.2
        refine ⟨(vI a, vI b) :: ps, ?_, ?_, ?_⟩
        · rw [isPair_eq e, List.map_cons, ← h1]
          show PyData.tuple [a, b] :: ds = PyData.tuple [.int (vI a), .int (vI b)] :: ds
          rw [← ha.1, ← hb.1]
        · intro p hp
          rcases List.mem_cons.mp hp with rfl | hp
          · show low < vI a ∧ vI a < high
            omega
          · have := h2 p hp
            omega
        · exact List.pairwise_cons.mpr ⟨fun p hp => (h2 p hp).1, h3⟩
      · rw [if_neg q] at h'; cases h'
theorem lwD_shape {load low high : Int} {d : PyData} (h : lwD load low high d = true) : ∃ ps : List (Int × Int), d = .tuple (ps.map fun p => .tuple [.int p.1, .int p.2]) ∧ (∀ p ∈ ps, low < p.1 ∧ p.1 < high) ∧ ps.Pairwise (fun p q => p.1 < q.1) := by
  cases d with
  | tuple ds =>
    obtain ⟨ps, h1, h2, h3⟩ := lwGo_shape (h : lwGo high low load ds = true)
    exact ⟨ps, by rw [h1], h2, h3⟩
  | _ => cases h
/-! ### a walk -/
theorem eqv_nilT (p : PyData) : PyData.eqv p (.tuple []) = true ↔ p = .tuple [] := by
  cases p with
  | tuple ds => cases ds <;> simp [PyData.eqv, PyData.eqvAll]
  | _ => simp [PyData.eqv]
def lastP (p : PyData) : Int := ((poursOf p).getLastD (0, 0)).1
def headP (p : PyData) : Int := ((poursOf p).headD (0, 0)).1
def stD3 (load : Int) (st : List Int) (n : Int) (a b p : PyData) : Option Int :=
  if (cnt a 0 200 && cnt b 0 200) = true then
    if (st.contains (vI a) && st.contains (vI b)) = true then
      if vI a = vI b then
        if PyData.eqv p (.tuple []) = true then some 0
        else if prD' load (vI a) (n + 1) p = true then some (2 * (lastP p - vI a))
        else if prD' load 0 (vI a) p = true then some (2 * (vI a - headP p)) else none
      else if prD' load (min (vI a) (vI b)) (max (vI a) (vI b)) p = true then some (if vI b - vI a < 0 then -(vI b - vI a) else vI b - vI a) else none
    else none
  else none
def stD (load : Int) (st : List Int) (n : Int) : PyData → Option Int
  | .tuple [a, b, p] => stD3 load st n a b p
  | _ => none
theorem stD_eq (load : Int) (st : List Int) (n : Int) (a b p : PyData) : stD load st n (.tuple [a, b, p]) = stD3 load st n a b p := rfl
/-- what stops and a can are here -/
structure StpOk (load : Int) (st : List Int) (n : Int) : Prop where
  l0 : 0 ≤ load
  n1 : 0 ≤ n ∧ n ≤ 200
  bd : ∀ y ∈ st, 0 ≤ y ∧ y ≤ n
section
variable {load n : Int} {st : List Int} {a b p : PyData}
theorem cnt_wide {a : PyData} (S : StpOk load st n) (h : (cnt a 0 200 && st.contains (vI a)) = true) : cnt a 0 n = true := by
  rw [Bool.and_eq_true] at h
  have h1 := cnt_int h.1
  have h2 := S.bd _ (List.contains_iff_mem.mp h.2)
  rw [h1.1]
  show (decide _ && decide _) = true
  rw [decide_eq_true h2.1, decide_eq_true h2.2]; rfl
theorem cnt_200 {a : PyData} (S : StpOk load st n) (h : cnt a 0 n = true) : cnt a 0 200 = true := by
  have h1 := cnt_int h
  have := S.n1
  rw [h1.1]
  show (decide _ && decide _) = true
  rw [decide_eq_true h1.2.1, decide_eq_true (by omega)]; rfl
theorem stD_no1 (S : StpOk load st n) (h : (cnt a 0 n && cnt b 0 n) = false) : stD load st n (.tuple [a, b, p]) = none := by
  rw [stD_eq]
  unfold stD3
  split
  · next q =>
    split
    · next r =>
      exfalso
      rw [Bool.and_eq_true] at q r
      have h1 := cnt_wide S (a := a) (by rw [q.1, r.1]; rfl)
      have h2 := cnt_wide S (a := b) (by rw [q.2, r.2]; rfl)
      rw [h1, h2] at h; cases h
    · rfl
  · rfl
theorem stD_no2 (h : (st.contains (vI a) && st.contains (vI b)) = false) : stD load st n (.tuple [a, b, p]) = none := by
  rw [stD_eq]
  unfold stD3
  split
  · rw [if_neg (by rw [h]; decide)]
  · rfl
/-- both ends are stops -/
theorem stD_in (S : StpOk load st n) (h : (cnt a 0 n && cnt b 0 n) = true) (hs : (st.contains (vI a) && st.contains (vI b)) = true) : stD load st n (.tuple [a, b, p]) =
    if vI a = vI b then
          if PyData.eqv p (.tuple []) = true then some 0
          else if lwD load (vI a) (n + 1) p = true then some (2 * (lastP p - vI a))
          else if lwD load 0 (vI a) p = true then some (2 * (vI a - headP p)) else none
    else if lwD load (min (vI a) (vI b)) (max (vI a) (vI b)) p = true then some (max (vI a) (vI b) - min (vI a) (vI b)) else none := by
  rw [Bool.and_eq_true] at h
  rw [stD_eq]
  unfold stD3
  rw [if_pos (by rw [cnt_200 S h.1, cnt_200 S h.2]; rfl), if_pos hs]
  simp only [prD_lw S.l0]
  have e : (if vI b - vI a < 0 then -(vI b - vI a) else vI b - vI a) = max (vI a) (vI b) - min (vI a) (vI b) := by split <;> omega
  rw [e]
theorem poursOf_eq (ps : List (Int × Int)) : poursOf (.tuple (ps.map fun p => .tuple [.int p.1, .int p.2])) = ps := by
  show (ps.map _).map _ = ps
  rw [List.map_map]
  exact List.map_id'' (fun _ => rfl) ps
/-- behind a stop: the farthest of the pours -/
theorem stD_far (S : StpOk load st n) (h : (cnt a 0 n && cnt b 0 n) = true) (hs : (st.contains (vI a) && st.contains (vI b)) = true) (he : vI a = vI b) (hp : lwD load (vI a) (n + 1) p = true) {m : Int}
    (hm : m ∈ 0 :: (poursOf p).map (·.1 - vI a)) (hM : ∀ y ∈ 0 :: (poursOf p).map (·.1 - vI a), y ≤ m) : stD load st n (.tuple [a, b, p]) = some (2 * m) := by
  rw [stD_in S h hs, if_pos he]
  obtain ⟨ps, rfl, h2, h3⟩ := lwD_shape hp
  rw [poursOf_eq] at hm hM
  by_cases z : PyData.eqv (.tuple (ps.map fun p => .tuple [.int p.1, .int p.2])) (.tuple []) = true
  · rw [if_pos z]
    have e := (eqv_nilT _).mp z
    have e2 : ps = [] := by
      have : (ps.map fun p => PyData.tuple [.int p.1, .int p.2]) = [] := by injection e
      exact List.map_eq_nil_iff.mp this
    subst e2
    have : m = 0 := by simpa using hm
    rw [this]; rfl
  · rw [if_neg z, if_pos hp]
    have hne : ps ≠ [] := fun e => z (by rw [e]; exact (eqv_nilT _).mpr rfl)
    unfold lastP
    rw [poursOf_eq]
    obtain ⟨qs, q, rfl⟩ : ∃ qs q, ps = qs ++ [q] := ⟨ps.dropLast, ps.getLast hne, (List.dropLast_concat_getLast hne).symm⟩
    have e : (qs ++ [q]).getLastD (0, 0) = q := by simp
    rw [e]
    have hq := h2 q (by simp)
    have hlt : ∀ x ∈ qs, x.1 < q.1 := fun x hx => (List.pairwise_append.mp h3).2.2 x hx q (by simp)
    have m1 : q.1 - vI a ≤ m := hM _ (by simp)
    have m2 : m ≤ q.1 - vI a := by
      rcases List.mem_cons.mp hm with rfl | hm
      · omega
      · obtain ⟨x, hx, rfl⟩ := List.mem_map.mp hm
        rcases List.mem_append.mp hx with hx | hx
        · have := hlt x hx
          show x.1 - vI a ≤ _
          omega
        · have e : x = q := by simpa using hx
          rw [e]; exact Int.le_refl _
    congr 2
    omega
theorem stD_near (S : StpOk load st n) (h : (cnt a 0 n && cnt b 0 n) = true) (hs : (st.contains (vI a) && st.contains (vI b)) = true) (he : vI a = vI b) (hp : lwD load (vI a) (n + 1) p = false) :
    stD load st n (.tuple [a, b, p]) = if lwD load 0 (vI a) p = true then some (2 * (vI a - headP p)) else none := by
  rw [stD_in S h hs, if_pos he]
  have hz : ¬ PyData.eqv p (.tuple []) = true := fun z => by
    rw [(eqv_nilT p).mp z] at hp
    cases hp
  rw [if_neg hz, if_neg (by rw [hp]; decide)]
/-- a walk that is told steps has the shape of one -/
theorem stD_some (S : StpOk load st n) {d : PyData} {k : Int} (h : stD load st n d = some k) : ∃ (f l : Int) (ps : List (Int × Int)), d = wkD (f, l, ps) ∧ ∀ x ∈ ps, 0 < x.1 ∧ x.1 ≤ n := by
  unfold stD at h
  split at h
  · rename_i a b p
    unfold stD3 at h
    split at h
    · next q =>
      split at h
      · next r =>
        rw [Bool.and_eq_true] at q r
        have ha := cnt_int q.1
        have hb := cnt_int q.2
        have sa := S.bd _ (List.contains_iff_mem.mp r.1)
        have sb := S.bd _ (List.contains_iff_mem.mp r.2)
        have fin : ∀ {lo hi : Int}, 0 ≤ lo → hi ≤ n + 1 → prD' load lo hi p = true → ∃ (f l : Int) (ps : List (Int × Int)), PyData.tuple [a, b, p] = wkD (f, l, ps) ∧ ∀ x ∈ ps, 0 < x.1 ∧ x.1 ≤ n := fun h0 h1 hp => by
          rw [prD_lw S.l0] at hp
          obtain ⟨ps, rfl, h2, _⟩ := lwD_shape hp
          refine ⟨vI a, vI b, ps, ?_, fun x hx => by have := h2 x hx; omega⟩
          show PyData.tuple [a, b, _] = PyData.tuple [.int (vI a), .int (vI b), _]
          rw [← ha.1, ← hb.1]
          rfl
        split at h
        · split at h
          · next z =>
            refine ⟨vI a, vI b, [], ?_, (fun _ h => nomatch h)⟩
            rw [(eqv_nilT p).mp z]
            show PyData.tuple [a, b, _] = PyData.tuple [.int (vI a), .int (vI b), _]
            rw [← ha.1, ← hb.1]
            rfl
          · split at h
            · next hp => exact fin sa.1 (Int.le_refl _) hp
            · split at h
              · next hp => exact fin (Int.le_refl _) (by omega) hp
              · cases h
        · split at h
          · next hp => exact fin (by omega) (by omega) hp
          · cases h
      · cases h
    · cases h
  · cases h
end
/-! ### a sheet -/
def takeP (ps : List (Int × Int)) (left : List Int) : List Int := ps.foldl (fun l p => l.set p.1.toNat (l.getD p.1.toNat 0 - p.2)) left
theorem takeP_len : ∀ (ps : List (Int × Int)) (left : List Int), (takeP ps left).length = left.length
  | [], _ => rfl
  | p :: ps, left => by
    show (takeP ps (left.set _ _)).length = _
    rw [takeP_len ps, List.length_set]
def shGo (load : Int) (st : List Int) (n : Int) : Int → Int → List Int → List PyData → Option (Int × Int × List Int)
  | h, t, l, [] => some (h, t, l)
  | h, t, l, d :: ds => match stD load st n d with
    | none => none
    | some k => match d with
      | .tuple [a, b, p] => if vI a = h then shGo load st n (vI b) (t + k) (takeP (poursOf p) l) ds else none
      | _ => none
def planLen (load : Int) (st : List Int) (n : Int) (needs : List Int) : PyData → Option Int
  | .tuple ds => match shGo load st n 0 0 needs ds with
    | some (h, t, l) => if (decide (h = 0) && l.all (fun x => decide (x = 0))) = true then some t else none
    | none => none
  | _ => none
def showsD (load : Int) (st : List Int) (n : Int) (needs : List Int) (len : Int) (d : PyData) : Bool := match planLen load st n needs d with
  | some t => decide (t ≤ len)
  | none => false
end Cw
set_option Elab.async false
set_option linter.all false
set_option maxRecDepth 100000
namespace Cw
open PySem PySem.Spec PyProof.Rows L2
theorem r_augS {to ti te : TE} {tget : V → V → Hp → VK → Prop} {tip : TIp} {tset : TSet} {D : Ends} {σ : L2.St} {H : Hp} (h : to σ H fun o H1 => ti σ H1 fun i H2 => tget o i H2 fun x H3 => te σ H3 fun y H4 => tip x y H4 fun z H5 => tset o i z H5 fun H6 => D.nx σ H6) : tAugS to ti te tget tip tset D σ H := h
theorem k_setL {R : Hp → Prop} {H : Hp} {p : Addr} {xs : List V} {k : Int} {v : V} (hl : H p = some (.lst xs)) (h0 : 0 ≤ k) (h1 : k < xs.length) (h : ∀ H', LeB p H H' → H' p = some (.lst (xs.set k.toNat v)) → R H') : rSetL (.ref p) (.int k) v H R := by
  refine r_setL (j := k.toNat) hl ?_ (h _ LeB.upd upd_same)
  unfold ixN
  rw [if_pos h0, if_pos (by omega)]
theorem any_zero (l : List Int) : (!(l.map V.int).any truV) = l.all (fun x => decide (x = 0)) := by
  induction l with
  | nil => rfl
  | cons x l ih =>
    rw [List.map_cons, List.any_cons, List.all_cons, Bool.not_or, ih]
    congr 1
    show (!(x != 0)) = decide (x = 0)
    by_cases h : x = 0 <;> simp [h]
theorem takeP_succ {ps : List (Int × Int)} {j : Nat} {p : Int × Int} (h : ps[j]? = some p) (l : List Int) : takeP (ps.take (j + 1)) l = (takeP (ps.take j) l).set p.1.toNat ((takeP (ps.take j) l).getD p.1.toNat 0 - p.2) := by
  unfold takeP
  obtain ⟨hi, e⟩ := List.getElem?_eq_some_iff.mp h
  rw [List.take_succ, h, List.foldl_append]
  rfl
theorem atI_int {l : List Int} {k : Int} (h0 : 0 ≤ k) (h1 : k < l.length) : atI (l.map V.int) k = some (.int (l.getD k.toNat 0)) := by
  have e : k = (k.toNat : Int) := by omega
  rw [e]
  refine atI_nat ?_
  rw [List.getElem?_map, Int.toNat_natCast, List.getD_eq_getElem?_getD]
  rw [List.getElem?_eq_getElem (by omega)]
  rfl
theorem shows_end {c n len hh t : Int} {st nd l : List Int} {ds : List PyData} (h : shGo c st n 0 0 nd ds = some (hh, t, l)) : showsD c st n nd len (.tuple ds) = (decide (hh = 0) && (decide (t ≤ len) && l.all (fun x => decide (x = 0)))) := by
  unfold showsD planLen
  simp only [h]
  cases decide (hh = 0) with
  | false => rfl
  | true =>
    cases l.all (fun x => decide (x = 0)) with
    | false => simp
    | true => simp
theorem plan_end {c n hh t : Int} {st nd l : List Int} {ds : List PyData} (h : shGo c st n 0 0 nd ds = some (hh, t, l)) : planLen c st n nd (.tuple ds) = if (decide (hh = 0) && l.all (fun x => decide (x = 0))) = true then some t else none := by
  unfold planLen
  simp only [h]
end Cw
namespace Cw
open PySem PySem.Spec PyProof.Rows L2
/-- an expression that no way reaches -/
theorem pe_no {X : Cx} {e : Expr} : PE X e (fun _ _ _ => False) := ⟨fun _ _ _ _ _ _ h => h.elim⟩
theorem stpOk {c : Int} {bs : List (Option Int)} (g : GOk c bs) (ts : List Int) {n : Nat} (hn : n ≤ 200) : StpOk c (stopsL bs ts n) n := ⟨by have := g.c1; omega, by omega, fun _ h => stopsL_bd h⟩
end Cw
set_option Elab.async false
set_option linter.all false
set_option maxRecDepth 100000
/-! Data that may be laid: depth. -/
namespace Cw
open PySem PySem.Spec PyProof.Rows L2
def LayD (k : Nat) (d : PyData) : Prop := d.canLay0 = true ∧ d.depth ≤ k
theorem LayD.mono {k m : Nat} {d : PyData} (h : LayD k d) (hk : k ≤ m) : LayD m d := ⟨h.1, Nat.le_trans h.2 hk⟩
theorem LayD.all {k : Nat} : ∀ {ds : List PyData}, (∀ d ∈ ds, LayD k d) → PyData.canLayAll0 ds = true ∧ PyData.depthAll ds ≤ k
  | [], _ => by simp [PyData.canLayAll0, PyData.depthAll]
  | d :: ds, h => by
    have h1 := h d (by simp)
    have h2 := LayD.all (ds := ds) fun e he => h e (by simp [he])
    constructor
    · rw [PyData.canLayAll0, h1.1, h2.1]; rfl
    · rw [PyData.depthAll]
      exact Nat.max_le.mpr ⟨h1.2, h2.2⟩
theorem LayD.tup {k : Nat} {ds : List PyData} (h : ∀ d ∈ ds, LayD k d) : LayD (k + 1) (.tuple ds) := by
  have q := LayD.all h
  constructor
  · rw [PyData.canLay0]; exact q.1
  · rw [PyData.depth]; omega
theorem LayD.lst {k : Nat} {ds : List PyData} (h : ∀ d ∈ ds, LayD k d) : LayD (k + 1) (.list ds) := by
  have q := LayD.all h
  constructor
  · rw [PyData.canLay0]; exact q.1
  · rw [PyData.depth]; omega
theorem LayD.int (i : Int) : LayD 0 (.int i) := ⟨by simp [PyData.canLay0], by simp [PyData.depth]⟩
theorem LayD.bl (i : Bool) : LayD 0 (.bool i) := ⟨by simp [PyData.canLay0], by simp [PyData.depth]⟩
theorem LayD.non : LayD 0 .none := ⟨by simp [PyData.canLay0], by simp [PyData.depth]⟩
theorem LayD.str {s : Str} (h : PyData.strOk s = true) : LayD 0 (.str s) := ⟨by simp [PyData.canLay0, h], by simp [PyData.depth]⟩
theorem LayD.nil : LayD 0 (.str (Str.ofString "")) := .str (by decide +kernel)
theorem LayD.shaped {k : Nat} {d : PyData} (h : LayD k d) (hk : k ≤ 64) : SeqAt.shaped d = true := by
  unfold SeqAt.shaped
  rw [h.1, Bool.true_and]
  exact decide_eq_true (Nat.le_trans h.2 hk)
theorem lay_pr (p : Int × Int) : LayD 1 (prD p) := LayD.tup fun d hd => by
  simp only [List.mem_cons, List.mem_nil_iff, or_false] at hd
  rcases hd with rfl | rfl <;> exact LayD.int _
theorem lay_prs (ps : List (Int × Int)) : ∀ d ∈ ps.map prD, LayD 1 d := fun d hd => by
  obtain ⟨p, _, rfl⟩ := List.mem_map.mp hd
  exact lay_pr p
theorem lay_wk (x : Wk) : LayD 3 (wkD x) := LayD.tup fun d hd => by
  simp only [List.mem_cons, List.mem_nil_iff, or_false] at hd
  rcases hd with rfl | rfl | rfl
  · exact (LayD.int _).mono (by omega)
  · exact (LayD.int _).mono (by omega)
  · exact LayD.tup (lay_prs _)
theorem lay_wks (ws : List Wk) : ∀ d ∈ ws.map wkD, LayD 3 d := fun d hd => by
  obtain ⟨p, _, rfl⟩ := List.mem_map.mp hd
  exact lay_wk p
theorem eqv_nilL (ds : List PyData) : PyData.eqv (.list ds) (.list []) = ds.isEmpty := by
  cases ds <;> simp [PyData.eqv, PyData.eqvAll]
theorem eqv_nilTT (ds : List PyData) : PyData.eqv (.tuple ds) (.tuple []) = ds.isEmpty := by
  cases ds <;> simp [PyData.eqv, PyData.eqvAll]
end Cw
namespace Cw
open PySem PySem.Spec PyProof.Rows L2
local macro_rules | `(tactic| leaf_len) => `(tactic| first
  | assumption
  | exact rfl
  | ((refine' SqL.of ?e2); (case e2 => leaf_len))
  | ((refine' SqT.of ?e2); (case e2 => leaf_len))
  | ((refine' le_at ?e1 ?e2); (case e1 => assumption); (case e2 => leaf_len))
  | ((refine' le_sq ?e1 ?e2); (case e1 => assumption); (case e2 => leaf_len))
  | ((refine' le_st ?e1 ?e2); (case e1 => assumption); (case e2 => leaf_len))
  | ((refine' le_gp ?e1 ?e2); (case e1 => assumption); (case e2 => leaf_len))
  | ((refine' le_gd ?e1 ?e2); (case e1 => assumption); (case e2 => leaf_len))
  | ((refine' le_da ?e1 ?e2); (case e1 => assumption); (case e2 => leaf_len))
  | ((refine' le_dal ?e1 ?e2); (case e1 => assumption); (case e2 => leaf_len)))
local macro_rules | `(tactic| top_name) => `(tactic| repeat (first
  | (with_reducible refine' r_seq ?_)
  | ((with_reducible refine' r_var ?e0 ?_); (case e0 => exact rfl))
  | (with_reducible refine' r_C ?_)
  | (with_reducible refine' r_op ?_)
  | (with_reducible refine' r_I0 ?_)
  | (with_reducible refine' r_cons ?_)
  | (with_reducible refine' r_nil ?_)
  | (with_reducible refine' r_CB ?_)
  | (with_reducible refine' r_call ?_)
  | (with_reducible refine' r_test ?_)
  | (with_reducible refine' r_bl ?_)
  | (with_reducible refine' iteT ?_)
  | (with_reducible refine' iteF ?_)
  | (with_reducible refine' r_asg ?_)
  | ((with_reducible refine' r_gName ?e0 ?_); (case e0 => (first | ((simp only [List.set_cons_succ, List.set_cons_zero]); done) | ((simp only [List.set_cons_succ, List.set_cons_zero]); exact rfl))))
  | (with_reducible refine' r_ret ?_)
  | (with_reducible refine' r_ifS ?_)
  | (with_reducible refine' r_drop ?_)
  | (with_reducible refine' r_next ?_)
  | (with_reducible refine' r_eqI ?_)
  | (with_reducible refine' r_neI ?_)
  | (with_reducible refine' r_and ?_)
  | (with_reducible refine' r_or ?_)
  | (with_reducible refine' r_not ?_)
  | (with_reducible refine' r_if ?_)
  | (with_reducible refine' r_B ?_)
  | (with_reducible refine' r_chain ?_)
  | (with_reducible refine' r_andV ?_)
  | (with_reducible refine' r_orV ?_)
  | (with_reducible refine' r_notV ?_)
  | (with_reducible refine' r_un ?_)
  | (with_reducible refine' r_U ?_)
  | (with_reducible refine' r_max2 ?_)
  | (with_reducible refine' r_min2 ?_)
  | (with_reducible refine' r_abs ?_)
  | (with_reducible refine' r_int1 ?_)
  | (with_reducible refine' r_isN0 ?_)
  | (with_reducible refine' r_isNI ?_)
  | (with_reducible refine' r_isNR ?_)
  | (with_reducible refine' r_notN0 ?_)
  | (with_reducible refine' r_notNI ?_)
  | (with_reducible refine' r_notNR ?_)
  | (with_reducible refine' r_prop ?_)
  | ((with_reducible refine' r_can ?e0 ?_); (case e0 => leaf_len))
  | ((with_reducible refine' r_beds ?e0 ?_); (case e0 => leaf_len))
  | (with_reducible refine' r_gCons ?_)
  | (with_reducible refine' r_gNil ?_)
  | ((with_reducible refine' r_gTup ?e0 ?e1 ?_); (case e0 => leaf_len); (case e1 => (exact rfl)))
  | (with_reducible refine' r_gSub ?_)
  | ((with_reducible refine' r_aug ?e0 ?_); (case e0 => exact rfl))
  | (with_reducible refine' r_ipI ?_)
  | (with_reducible refine' r_par ?_)
  | ((with_reducible refine' r_par2 ?e0 ?_); (case e0 => (first | ((simp only [List.set_cons_succ, List.set_cons_zero]); done) | ((simp only [List.set_cons_succ, List.set_cons_zero]); exact rfl))))
  | (with_reducible refine' r_par3 ?_)
  | ((with_reducible refine' r_par32 ?e0 ?_); (case e0 => (first | ((simp only [List.set_cons_succ, List.set_cons_zero]); done) | ((simp only [List.set_cons_succ, List.set_cons_zero]); exact rfl))))
  | ((with_reducible refine' r_setn ?e0 ?_); (case e0 => (first | ((simp only [List.set_cons_succ, List.set_cons_zero]); done) | ((simp only [List.set_cons_succ, List.set_cons_zero]); exact rfl))))
  | (with_reducible refine' r_tup ?_)
  | (with_reducible refine' r_lst ?_)
  | (with_reducible refine' r_star ?_)
  | (with_reducible refine' r_orT ?_)
  | ((with_reducible refine' r_lenL ?e0 ?_); (case e0 => leaf_len))
  | ((with_reducible refine' r_lenT ?e0 ?_); (case e0 => leaf_len))
  | ((with_reducible refine' r_I ?e0 ?_); (case e0 => (first | ((show (0 : Int) < _); omega) | ((show CDiv _ _); exact ⟨by omega, by omega⟩) | ((show CMul _ _); first | exact .inl ⟨by omega, by omega⟩ | exact .inr ⟨by omega, by omega⟩) | ((show CPow _ _); exact ⟨by omega, by omega, by decide⟩))))
  | (with_reducible refine' r_sl ?_)
  | (with_reducible refine' r_nop ?_)
  | (with_reducible refine' r_part ?_)
  | (with_reducible refine' r_int ?_)
  | (with_reducible refine' r_revL ?_)
  | (with_reducible refine' r_for ?_)
  | (with_reducible refine' r_iR1 ?_)
  | (with_reducible refine' r_iR2 ?_)
  | (with_reducible refine' r_iL ?_)
  | (with_reducible refine' r_iT ?_)
  | (with_reducible refine' r_iE ?_)
  | (with_reducible refine' r_iZ ?_)
  | (with_reducible refine' r_lc ?_)
  | (with_reducible refine' r_yes ?_)
  | ((with_reducible refine' r_wipe ?e0 ?_); (case e0 => exact rfl))
  | ((with_reducible refine' k_R1 ?e0 ?_); (case e0 => omega))
  | ((with_reducible refine' k_R2 ?e0 ?e1 ?_); (case e0 => omega); (case e1 => omega))
  | ((with_reducible refine' k_R3n ?e0 ?e1 ?_); (case e0 => omega); (case e1 => omega))
  | ((with_reducible refine' k_L ?e0 ?_); (case e0 => leaf_len))
  | ((with_reducible refine' k_T ?e0 ?_); (case e0 => leaf_len))
  | ((with_reducible refine' k_E ?e0 ?_); (case e0 => leaf_len))
  | ((with_reducible refine' k_Et ?e0 ?_); (case e0 => leaf_len))
  | ((with_reducible refine' k_tyL ?e0 ?_); (case e0 => leaf_len))
  | ((with_reducible refine' k_isD ?e0 ?_); (case e0 => leaf_len))
  | ((with_reducible refine' k_ZL ?e0 ?e1 ?_); (case e0 => leaf_len); (case e1 => leaf_len))
  | ((with_reducible refine' k_ZT ?e0 ?e1 ?_); (case e0 => leaf_len); (case e1 => leaf_len))
  | (with_reducible refine' r_fld ?_)
  | (with_reducible refine' r_sfld ?_)
  | (with_reducible refine' r_meth ?_)
  | (with_reducible refine' r_make ?_)
  | (with_reducible refine' r_sortIt ?_)
  | (with_reducible refine' r_revT ?_)
  | (with_reducible refine' r_reprB ?_)
  | (with_reducible refine' r_iEk ?_)
  | (with_reducible refine' r_iEt ?_)
  | (with_reducible refine' r_iR3 ?_)
  | (with_reducible refine' iteNT ?_)
  | (with_reducible refine' iteNF ?_)
  | (with_reducible refine' r_dget2 ?_)
  | (with_reducible refine' r_dput ?_)
  | (with_reducible refine' r_bm ?_)
  | (with_reducible refine' r_js ?_)
  | (with_reducible refine' r_js0 ?_)
  | (with_reducible refine' r_fmt ?_)
  | (with_reducible refine' r_m1 ?_)
  | (with_reducible refine' k_strA ?_)
  | (with_reducible refine' r_dget ?_)
  | (with_reducible refine' r_din ?_)
  | (with_reducible refine' r_augS ?_)
  | ((with_reducible refine' kg_soil ?e0 ?e1 ?_); (case e0 => assumption); (case e1 => leaf_len))
  | ((with_reducible refine' kg_left ?e0 ?e1 ?_); (case e0 => assumption); (case e1 => leaf_len))
  | ((with_reducible refine' kg_right ?e0 ?e1 ?_); (case e0 => assumption); (case e1 => leaf_len))
  | ((with_reducible refine' kg_before ?e0 ?e1 ?_); (case e0 => assumption); (case e1 => leaf_len))
  | ((with_reducible refine' kg_many ?e0 ?e1 ?_); (case e0 => assumption); (case e1 => leaf_len))
  | ((with_reducible refine' kg_meth ?e0 ?e1 ?_); (case e0 => leaf_len); (case e1 => (decide +kernel)))))
local macro_rules | `(tactic| one_place) => `(tactic| first | ((simp only [List.map_cons, List.map_nil, wipe, List.set_cons_succ, List.set_cons_zero]); done) | ((simp only [List.map_cons, List.map_nil, wipe, List.set_cons_succ, List.set_cons_zero]); exact rfl))
local macro_rules | `(tactic| one_item) => `(tactic| ((try dsimp only [cxOf]); (refine' r_start ?e1 ?_); (case e1 => first | ((simp only [L2.start, List.map_cons, List.map_nil, List.length_cons, List.length_nil, List.cons_append, List.nil_append, Nat.reduceAdd, Nat.reduceSub, List.replicate_succ, List.replicate_zero]); done) | ((simp only [L2.start, List.map_cons, List.map_nil, List.length_cons, List.length_nil, List.cons_append, List.nil_append, Nat.reduceAdd, Nat.reduceSub, List.replicate_succ, List.replicate_zero]); exact rfl)); top_name))

set_option Elab.async false
set_option linter.all false
set_option maxRecDepth 100000
set_option maxHeartbeats 4000000
open PySem PySem.Spec PyProof.Rows L2

theorem bz_len (bs : List (Option Int)) : (bz bs).length = bs.length := by unfold bz; simp
theorem r_bz {K : PySem.W.Frag} {x : V} {H : Hp} {bs : List (Option Int)} {i : Nat} (hx : (bs.map bv)[i]? = some x) {Q : VK} {te : TE} {σ : L2.St} (h : ∀ y, ((bz bs).map V.int)[i]? = some y → Q y H) (h0 : ∀ R : VK, R (.int 0) H → te σ H R) : ∃ k, TruV K x H k ∧ if k = true then Q x H else te σ H Q := by
  have hi : i < bs.length := by
    have := (List.getElem?_eq_some_iff.mp hx).1
    simpa using this
  rw [List.getElem?_map, List.getElem?_eq_getElem hi] at hx
  have ex : bv bs[i] = x := by simpa using hx
  have hy : ((bz bs).map V.int)[i]? = some (.int (bs[i].getD 0)) := by
    unfold bz
    rw [List.getElem?_map, List.getElem?_map, List.getElem?_eq_getElem hi]
    rfl
  have q := h _ hy
  subst ex
  cases e : bs[i] with
  | none =>
    rw [e] at q
    exact ⟨false, rfl, iteF (h0 _ q)⟩
  | some z =>
    rw [e] at q
    refine ⟨z != 0, rfl, if_b (fun _ => q) (fun hz => h0 _ ?_)⟩
    have hz0 : z = 0 := by simpa using hz
    rw [hz0] at q
    exact q
section
variable {P : Program} {w : World} {K : PySem.W.Frag} {mg : Str → Option Value} {base : Heap}
theorem sc_up_to : FnScope ["garden", "place", "beds", "item", "rounds", "rest"] ["garden", "place"] (defScope s_up_to) := ⟨rfl, rfl, rfl, by decide +kernel, rfl, by decide +kernel, by decide +kernel⟩
def spUpt (K : PySem.W.Frag) : Sp := fun vs H Q _ => ∃ (a p : Addr) (c : Int) (bs : List (Option Int)) (pl : Int), vs = [.ref a, .int pl] ∧ Gd K H a p c bs ∧ 0 ≤ pl ∧ pl ≤ 1000 ∧ ∀ H', Le H H' → Q (.int (upTo bs pl)) H'
theorem cut_take (xs : List V) (k : Int) (h : 0 ≤ k) : cutV xs none (some k) = xs.take k.toNat := by
  unfold cutV
  have e : k = (k.toNat : Int) := by omega
  rw [e, HT.sIx_nat, HT.sIx_none]
  simp [List.take_eq_take_iff]
  omega
theorem c_up_to (E : En K mg) : C8.Cal P w K mg base 3 "up_to" (spUpt K) [] := by
  obtain ⟨fd, F⟩ := E.f_up_to
  refine cal_mk F E.g_up_to sc_up_to (fun _ _ _ _ _ _ us hl => match us, hl with | [_, _], _ => rfl) (fun vs H Q E h => by obtain ⟨a, p, c, bs, pl, rfl, _⟩ := h; rfl) fun cdv A outer s H vs Q E' hr h => ⟨_, (pss_cons (ps_setLc (own := [("item", 3)]) (i := 2) rfl sc_up_to.nd rfl rfl (sw_true rfl rfl rfl (by decide +kernel)) (pi_tupK K (by rfl) (pe_propK K (by rfl) (pv 0) (p_beds E) hr (by decide))) (blkOk_by (own := [("item", 3)]) (N := ["garden", "place", "beds", "item", "rounds", "rest"]) (sc := defScope s_up_to) (by decide +kernel)) (fun _ _ _ _ _ => (pg_name (i := 3) sc_up_to.nd rfl (Or.inl rfl))) (fun _ _ _ _ _ => pts_nil) (fun _ _ _ _ _ => (pe_orK K (by rfl) (pv 3) (pe_one pe_int))))
      (pss_cons (ps_asg (pe_callB c_dvm (by rfl) E.z_divmod b_divmod (pa_cons (pv 1) (pa_cons (pe_callB (c_lenK K (by rfl)) (by rfl) E.z_len b_len (pa_cons (pv 2) pa_nil)) pa_nil))) (pg_tupK (n := 2) K (by rfl) rfl (pgs_cons (pg_name (i := 4) sc_up_to.nd rfl (Or.inl rfl)) (pgs_cons (pg_name (i := 5) sc_up_to.nd rfl (Or.inl rfl)) pgs_nil))))
      (pss_one (ps_ret (pe_op op_add (pe_op op_mul (pv 4) (pe_callB (c_sumK K (by rfl) rfl) (by rfl) E.z_sum b_sum (pa_cons (pv 2) pa_nil))) (pe_callB (c_sumK K (by rfl) rfl) (by rfl) E.z_sum b_sum (pa_cons (pe_slice (sl_listK K (by rfl)) (pv 2) po_none (po_some (pv 5))) pa_nil))))))), ?_⟩
  obtain ⟨a, p, c, bs, pl, rfl, hg, h0, h1, k⟩ := h
  have ht := hg.tp
  have l1 := hg.ok.l1
  have l2 := hg.ok.l2
  one_item
  refine lc_map ((bz bs).map V.int) walk_tup (by simp [bz_len]) (by one_place) (by simp; omega) (fun H' e => SqT.of (e _ _ ht)) ?_ fun D H1 hD e1 h1 => ?_
  · rintro i x H0 H' R N hi e ⟨rfl, hx⟩ hR
    top_name
    exact r_bz hx (te := tC (.int 0)) (σ := []) (fun y hy => hR y _ (Same.refl _) hy) fun R q => q
  top_name
  have hl : (((bz bs).map V.int).length : Int) = (bs.length : Int) := by simp [bz_len]
  rw [hl]
  refine r_dvm (by omega) fun q H2 hq e2 h2 => ?_
  top_name
  refine r_sum (by leaf_len) ?_
  have hs := hg.ok.sum
  top_name
  refine r_slL (by leaf_len) fun q2 H3 hq2 e3 h3 => ?_
  rw [cut_take _ _ (Int.emod_nonneg _ (by omega))] at h3
  rw [← List.map_take] at h3
  top_name
  refine r_sum (by leaf_len) ?_
  top_name
  exact k _ (((e1.trans e2).trans e3))
theorem sc_place_of_litre : FnScope ["garden", "number", "beds", "item", "rounds", "rest", "at"] ["garden", "number"] (defScope s_place_of_litre) := ⟨rfl, rfl, rfl, by decide +kernel, rfl, by decide +kernel, by decide +kernel⟩
def spPol (K : PySem.W.Frag) : Sp := fun vs H Q _ => ∃ (a p : Addr) (c : Int) (bs : List (Option Int)) (n : Int), vs = [.ref a, .int n] ∧ Gd K H a p c bs ∧ 0 < (bz bs).sum ∧ ∀ r H', Le H H' → Q (.int r) H'
theorem c_place_of_litre (E : En K mg) : C8.Cal P w K mg base 3 "place_of_litre" (spPol K) [] := by
  obtain ⟨fd, F⟩ := E.f_place_of_litre
  refine cal_mk F E.g_place_of_litre sc_place_of_litre (fun _ _ _ _ _ _ us hl => match us, hl with | [_, _], _ => rfl) (fun vs H Q E h => by obtain ⟨a, p, c, bs, pl, rfl, _⟩ := h; rfl) fun cdv A outer s H vs Q E' hr h => ⟨_, (pss_cons (ps_setLc (own := [("item", 3)]) (i := 2) rfl sc_place_of_litre.nd rfl rfl (sw_true rfl rfl rfl (by decide +kernel)) (pi_tupK K (by rfl) (pe_propK K (by rfl) (pv 0) (p_beds E) hr (by decide))) (blkOk_by (own := [("item", 3)]) (N := ["garden", "number", "beds", "item", "rounds", "rest", "at"]) (sc := defScope s_place_of_litre) (by decide +kernel)) (fun _ _ _ _ _ => (pg_name (i := 3) sc_place_of_litre.nd rfl (Or.inl rfl))) (fun _ _ _ _ _ => pts_nil) (fun _ _ _ _ _ => (pe_orK K (by rfl) (pv 3) (pe_one pe_int))))
      (pss_cons (ps_asg (pe_callB c_dvm (by rfl) E.z_divmod b_divmod (pa_cons (pe_op op_sub (pv 1) pe_int) (pa_cons (pe_callB (c_sumK K (by rfl) rfl) (by rfl) E.z_sum b_sum (pa_cons (pv 2) pa_nil)) pa_nil))) (pg_tupK (n := 2) K (by rfl) rfl (pgs_cons (pg_name (i := 4) sc_place_of_litre.nd rfl (Or.inl rfl)) (pgs_cons (pg_name (i := 5) sc_place_of_litre.nd rfl (Or.inl rfl)) pgs_nil))))
      (pss_cons (ps_set (i := 6) sc_place_of_litre.nd rfl (Or.inl rfl) pe_int)
      (pss_cons (ps_while PassesOwn.never (pt_cmpR op_ge (pv 5) pe_int (nomark _)) (pss_cons (ps_aug (i := 5) sc_place_of_litre.nd rfl (Or.inl rfl) (pe_ix (ix_listK K (by rfl)) (pv 2) (pv 6) (fun _ _ => rfl)) ip_sub)
      (pss_one (ps_aug (i := 6) sc_place_of_litre.nd rfl (Or.inl rfl) pe_int ip_add))))
      (pss_one (ps_ret (pe_op op_add (pe_op op_mul (pv 4) (pe_callB (c_lenK K (by rfl)) (by rfl) E.z_len b_len (pa_cons (pv 2) pa_nil))) (pv 6)))))))), ?_⟩
  obtain ⟨a, p, c, bs, n, rfl, hg, h0, k⟩ := h
  have ht := hg.tp
  have l1 := hg.ok.l1
  have l2 := hg.ok.l2
  have hs := hg.ok.sum
  one_item
  refine lc_map ((bz bs).map V.int) walk_tup (by simp [bz_len]) (by one_place) (by simp; omega) (fun H' e => SqT.of (e _ _ ht)) ?_ fun D H1 hD e1 h1 => ?_
  · rintro i x H0 H' R N hi e ⟨rfl, hx⟩ hR
    top_name
    exact r_bz hx (te := tC (.int 0)) (σ := []) (fun y hy => hR y _ (Same.refl _) hy) fun R q => q
  top_name
  refine r_sum (by leaf_len) ?_
  top_name
  refine r_dvm (by omega) fun q H2 hq e2 h2 => ?_
  top_name
  have d2 : H2 D = some (.lst ((bz bs).map V.int)) := e2 _ _ h1
  have m0 : 0 ≤ (n - 1) % (bz bs).sum := Int.emod_nonneg _ (by omega)
  have m1 : (n - 1) % (bz bs).sum < (bz bs).sum := Int.emod_lt_of_pos _ (by omega)
  generalize hr0 : (n - 1) % (bz bs).sum = r0 at *
  generalize hq0 : (n - 1) / (bz bs).sum = q0 at *
  refine while_by (fun σ H' => H' = H2 ∧ ∃ (at_ : Nat) (x3 : Option V), σ = [some (.ref a), some (.int n), some (.ref D), x3, some (.int q0), some (.int (r0 - ((bz bs).take at_).sum)), some (.int at_)] ∧ at_ ≤ (bz bs).length)
    (fun σ _ => match σ with | [_, _, _, _, _, _, some (.int i)] => (bz bs).length - i.toNat | _ => 0) ⟨rfl, 0, none, by simp, Nat.zero_le _⟩ ?_ ?_
  · rintro σ H' ⟨rfl, at_, x3, rfl, hat⟩
    top_name
    refine if_dec (fun h => ?_) (fun h => ?_)
    · have hlt : at_ < (bz bs).length := by
        rcases Nat.lt_or_ge at_ (bz bs).length with z | z
        · exact z
        · rw [List.take_of_length_le z] at h; omega
      have hg2 : ((bz bs).map V.int)[at_]? = some (.int (bz bs)[at_]) := by
        rw [List.getElem?_map, List.getElem?_eq_getElem hlt]; rfl
      top_name
      refine r_ixL (by leaf_len) (atI_nat hg2) ?_
      top_name
      refine ⟨⟨rfl, at_ + 1, x3, ?_, hlt⟩, ?_⟩
      · have e3 : ((bz bs).take (at_ + 1)).sum = ((bz bs).take at_).sum + (bz bs)[at_] := sum_take (List.getElem?_eq_getElem hlt)
        rw [e3]
        have e4 : r0 - (((bz bs).take at_).sum + (bz bs)[at_]) = r0 - ((bz bs).take at_).sum - (bz bs)[at_] := by omega
        rw [e4]; push_cast; rfl
      · show (bz bs).length - ((at_ : Int) + 1).toNat < (bz bs).length - (at_ : Int).toNat
        omega
    · top_name
      have hlen : (((bz bs).map V.int).length : Int) ≤ 5 := by simp [bz_len]; omega
      refine r_I (.inr ⟨by omega, by omega⟩) ?_
      top_name
      exact k _ _ (e1.trans e2)
  · rintro σ H' Q Q' f ⟨v, e, i, j, h1, h2, k, e2, q⟩
    exact ⟨v, e, i, j, h1, h2, k, e2, f _ _ q⟩
end
set_option Elab.async false
set_option linter.all false
set_option maxRecDepth 100000
set_option maxHeartbeats 4000000
open PySem PySem.Spec PyProof.Rows L2

/-- told taps: ascending ints from 1 on, four at most -/
structure TOk (ts : List Int) : Prop where
  len : ts.length ≤ 4
  lo : ∀ t ∈ ts, 1 ≤ t ∧ t ≤ 40
  asc : ts.Pairwise (· < ·)
section
variable {P : Program} {w : World} {K : PySem.W.Frag} {mg : Str → Option Value} {base : Heap}
theorem sc_sum_of_places : FnScope ["garden", "first", "count", "total", "turn", "ahead", "found", "at", "often"] ["garden", "first", "count"] (defScope s_sum_of_places) := ⟨rfl, rfl, rfl, by decide +kernel, rfl, by decide +kernel, by decide +kernel⟩
def spSop (K : PySem.W.Frag) : Sp := fun vs H Q _ => ∃ (a p : Addr) (c : Int) (bs : List (Option Int)) (f n : Int), vs = [.ref a, .int f, .int n] ∧ Gd K H a p c bs ∧ 0 < (bz bs).sum ∧ -1000000 ≤ n ∧ n ≤ 1000000 ∧ ∀ r H', Le H H' → Q (.int r) H'
theorem c_sum_of_places (E : En K mg) : C8.Cal P w K mg base 4 "sum_of_places" (spSop K) [] := by
  obtain ⟨fd, F⟩ := E.f_sum_of_places
  refine cal_mk F E.g_sum_of_places sc_sum_of_places (fun _ _ _ _ _ _ us hl => match us, hl with | [_, _, _], _ => rfl) (fun vs H Q E h => by obtain ⟨a, p, c, bs, f, n, rfl, _⟩ := h; rfl) fun cdv A outer s H vs Q E' hr h => ⟨_, (pss_cons (ps_if (pt_cmpR op_eq (pv 2) pe_int (nomark _)) (pss_one (ps_ret pe_int)) pss_nil)
      (pss_cons (ps_set (i := 3) sc_sum_of_places.nd rfl (Or.inl rfl) (C8.pe_c (c_up_to E) hr (by decide) (by rfl) (pa_cons (pv 0) (pa_cons (pe_callB (c_lenK K (by rfl)) (by rfl) E.z_len b_len (pa_cons (pe_propK K (by rfl) (pv 0) (p_beds E) hr (by decide)) pa_nil)) pa_nil))))
      (pss_cons (ps_set (i := 4) sc_sum_of_places.nd rfl (Or.inl rfl) (pe_op op_fdiv (pv 3) (C8.pe_c (c_gcd_of E) hr (by decide) (by rfl) (pa_cons (pv 3) (pa_cons (pe_propK K (by rfl) (pv 0) (p_can E) hr (by decide)) pa_nil)))))
      (pss_cons (ps_set (i := 5) sc_sum_of_places.nd rfl (Or.inl rfl) (pe_op op_mul (pe_op op_fdiv (pe_op op_mul (pv 4) (pe_propK K (by rfl) (pv 0) (p_can E) hr (by decide))) (pv 3)) (pe_callB (c_lenK K (by rfl)) (by rfl) E.z_len b_len (pa_cons (pe_propK K (by rfl) (pv 0) (p_beds E) hr (by decide)) pa_nil))))
      (pss_cons (ps_set (i := 6) sc_sum_of_places.nd rfl (Or.inl rfl) pe_int)
      (pss_cons (ps_for PassesOwn.never rfl (pi_range1 rfl E.z_range (pa_cons (pe_callB (c_min2 rfl) (by rfl) E.z_min b_min (pa_cons (pv 4) (pa_cons (pv 2) pa_nil))) pa_nil)) (pg_name (i := 7) sc_sum_of_places.nd rfl (Or.inl rfl)) (pss_cons (ps_set (i := 8) sc_sum_of_places.nd rfl (Or.inl rfl) (pe_op op_add (pe_op op_fdiv (pe_op op_sub (pe_op op_sub (pv 2) (pv 7)) pe_int) (pv 4)) pe_int))
      (pss_one (ps_aug (i := 6) sc_sum_of_places.nd rfl (Or.inl rfl) (pe_op op_add (pe_op op_mul (pv 8) (C8.pe_c (c_place_of_litre E) hr (by decide) (by rfl) (pa_cons (pv 0) (pa_cons (pe_op op_add (pv 1) (pe_op op_mul (pv 7) (pe_propK K (by rfl) (pv 0) (p_can E) hr (by decide)))) pa_nil)))) (pe_op op_mul (pv 5) (pe_op op_fdiv (pe_op op_mul (pv 8) (pe_op op_sub (pv 8) pe_int)) pe_int))) ip_add))))
      (pss_one (ps_ret (pv 6))))))))), ?_⟩
  obtain ⟨a, p, c, bs, f, n, rfl, hg, h0, n0, n1, k⟩ := h
  have ht := hg.tp
  have l1 := hg.ok.l1
  have l2 := hg.ok.l2
  have c1 := hg.ok.c1
  have c2 := hg.ok.c2
  have hs := hg.ok.sum
  have hlen : (((bs.map bv).length : Nat) : Int) = bs.length := by simp
  one_item
  refine if_dec (fun h => ?_) (fun h => ?_)
  · top_name; exact k _ _ (Same.refl _)
  top_name
  rw [hlen]
  have eu : upTo bs (bs.length : Int) = (bz bs).sum := by
    unfold upTo
    rw [Int.ediv_self (by omega), Int.emod_self]
    simp
  refine ⟨a, p, c, bs, bs.length, rfl, hg, by omega, by omega, fun H1 e1 => ?_⟩
  rw [eu]
  have hg1 := hg.le e1
  top_name
  obtain ⟨sN, hsN⟩ : ∃ sN : Nat, (bz bs).sum = (sN : Int) := ⟨(bz bs).sum.toNat, by omega⟩
  obtain ⟨cN, hcN⟩ : ∃ cN : Nat, c = (cN : Int) := ⟨c.toNat, by omega⟩
  refine ⟨sN, cN, by rw [hsN, hcN]; rfl, by omega, ?_⟩
  have g0 : 0 < Nat.gcd sN cN := Nat.gcd_pos_of_pos_left _ (by omega)
  have g1 : Nat.gcd sN cN ≤ sN := Nat.gcd_le_left _ (by omega)
  generalize Nat.gcd sN cN = g at *
  have t0 : 1 ≤ (bz bs).sum / (g : Int) := Int.le_ediv_of_mul_le (by omega) (by omega)
  have t1 : (bz bs).sum / (g : Int) ≤ 45 := Int.le_trans (Int.ediv_le_self _ (by omega)) hs.2
  top_name
  generalize htn : (bz bs).sum / (g : Int) = tn at *
  have hdv0 : 0 ≤ tn * c / (bz bs).sum := Int.ediv_nonneg (Int.mul_nonneg (by omega) (by omega)) (by omega)
  refine for_range (fun i σ H' => Le H H' ∧ ∃ (x6 : Int) (x7 x8 : Option V), σ = [some (.ref a), some (.int f), some (.int n), some (.int (bz bs).sum), some (.int tn), some (.int (tn * c / (bz bs).sum * ((bs.map bv).length : Int))), some (.int x6), x7, x8]) ⟨e1, 0, none, none, rfl⟩ ?_ ?_
  · rintro i σ H' hi ⟨e2, x6, x7, x8, rfl⟩
    have hg2 := hg.le e2
    top_name
    refine ⟨a, p, c, bs, _, rfl, hg2, h0, fun r H3 e3 => ?_⟩
    have d0 : 0 ≤ (n - (0 + (i : Int)) - 1) / tn := Int.ediv_nonneg (by omega) (by omega)
    have d1 : (n - (0 + (i : Int)) - 1) / tn ≤ 1000000 := Int.le_trans (Int.ediv_le_self _ (by omega)) (by omega)
    have a0 : tn * c ≤ 45 * 20 := Int.mul_le_mul t1 c2 (by omega) (by omega)
    have a1 : tn * c / (bz bs).sum ≤ 900 := Int.le_trans (Int.ediv_le_self _ (Int.mul_nonneg (by omega) (by omega))) (by omega)
    have a2 : tn * c / (bz bs).sum * ((bs.map bv).length : Int) ≤ 900 * 5 := Int.mul_le_mul a1 (by omega) (by omega) (by omega)
    have a3 : 0 ≤ tn * c / (bz bs).sum * ((bs.map bv).length : Int) := Int.mul_nonneg hdv0 (by omega)
    top_name
    exact ⟨e2.trans e3, _, _, _, rfl⟩
  · rintro σ H' ⟨e2, x6, x7, x8, rfl⟩
    top_name
    exact k _ _ e2
end
set_option Elab.async false
set_option linter.all false
set_option maxRecDepth 100000
set_option maxHeartbeats 4000000
open PySem PySem.Spec PyProof.Rows L2

theorem ediv_bd {x c N : Int} (hc : 1 ≤ c) (h0 : 0 ≤ N) (h1 : -N ≤ x) (h2 : x ≤ N) : -N ≤ x / c ∧ x / c ≤ N := by
  constructor
  · refine Int.le_ediv_of_mul_le (by omega) ?_
    have : -N * c ≤ -N * 1 := Int.mul_le_mul_of_nonpos_left (by omega) (by omega)
    omega
  · refine Int.le_of_lt_add_one (Int.ediv_lt_of_lt_mul (by omega) ?_)
    have : (N + 1) * 1 ≤ (N + 1) * c := Int.mul_le_mul_of_nonneg_left (by omega) (by omega)
    omega
section
variable {P : Program} {w : World} {K : PySem.W.Frag} {mg : Str → Option Value} {base : Heap}
theorem sc_Gap_init : FnScope ["self", "garden", "left", "right"] ["self", "garden", "left", "right"] (defScope s_Gap_init) := ⟨rfl, rfl, rfl, by decide +kernel, rfl, by decide +kernel, by decide +kernel⟩
def spGapI (K : PySem.W.Frag) : Sp := fun vs H Q _ => ∃ (H0 : Hp) (x a p dx : Addr) (c : Int) (bs : List (Option Int)) (l r : Int), vs = [.ref x, .ref a, .int l, .int r] ∧ Le H0 H ∧ H0 x = none ∧ H x = some (.ins (He.ga K "Gap") dx []) ∧ Gd K H0 a p c bs ∧ 0 < (bz bs).sum ∧ 0 ≤ l ∧ l < r ∧ r ≤ 1000 ∧
  ∀ H' b m, Le H0 H' → m ≤ 45 * r → Gp K H' x a p c bs l r b m → Q .non H'
theorem k_Gap (E : En K mg) : C8.Mak P w K mg base 4 "Gap" (He.ga K "Gap") (spGapI K) [] := by
  obtain ⟨fd, F⟩ := E.f_Gap_init
  refine mak_mk E.mk_Gap E.g_Gap F sc_Gap_init (fun _ _ _ _ _ _ us hl => match us, hl with | [_, _, _, _], _ => rfl) (fun vs H Q E h => by obtain ⟨H0, x, a, p, dx, c, bs, l, r, rfl, _⟩ := h; rfl) fun cdv A outer s H vs Q E' hr h => ⟨_, (pss_cons (ps_fldK K (by rfl) (pv 0) (pv 1))
      (pss_cons (ps_fldK K (by rfl) (pv 0) (pv 2))
      (pss_cons (ps_fldK K (by rfl) (pv 0) (pv 3))
      (pss_cons (ps_fldK K (by rfl) (pv 0) (C8.pe_c (c_up_to E) hr (by decide) (by rfl) (pa_cons (pv 1) (pa_cons (pv 2) pa_nil))))
      (pss_one (ps_fldK K (by rfl) (pv 0) (pe_op op_sub (C8.pe_c (c_up_to E) hr (by decide) (by rfl) (pa_cons (pv 1) (pa_cons (pe_op op_sub (pv 3) pe_int) pa_nil))) (pe_fldK K (by rfl) (pv 0))))))))), ?_⟩
  obtain ⟨H0, x, a, p, dx, c, bs, l, r, rfl, s0, x0, ho, hg, hs, l0, l1, l2, k⟩ := h
  one_item
  refine k_sfldG ho E.cl_Gap E.n_Gap_soil (le_le lp0 (by decide)) fun H1 e1 o1 => ?_
  have s1 := le_mut s0 x0 e1
  top_name
  refine k_sfldG o1 E.cl_Gap E.n_Gap_left_tap (le_le (lpS lp0) (by decide)) fun H2 e2 o2 => ?_
  have s2 := le_mut s1 x0 e2
  top_name
  refine k_sfldG o2 E.cl_Gap E.n_Gap_right_tap (le_le (lpS (lpS lp0)) (by decide)) fun H3 e3 o3 => ?_
  have s3 := le_mut s2 x0 e3
  top_name
  refine ⟨a, p, c, bs, l, rfl, hg.le s3, l0, by omega, fun H4 e4 => ?_⟩
  have b1 := hg.ok.upTo l0 (by omega)
  have b2 := hg.ok.upTo (pl := r - 1) (by omega) (by omega)
  top_name
  refine k_sfldG (e4 _ _ o3) E.cl_Gap E.n_Gap_before (le_le (lpS (lpS (lpS lp0))) (by decide)) fun H5 e5 o5 => ?_
  have s5 := le_mut (s3.trans e4) x0 e5
  top_name
  refine ⟨a, p, c, bs, r - 1, rfl, hg.le s5, by omega, by omega, fun H6 e6 => ?_⟩
  have o6 := e6 _ _ o5
  top_name
  refine k_fld o6 E.cl_Gap E.n_Gap_before (v := .int (upTo bs l)) (by rw [lookup_putF, if_pos rfl]) ?_
  top_name
  refine k_sfldG o6 E.cl_Gap E.n_Gap_many (le_le (lpS (lpS (lpS (lpS lp0)))) (by decide)) fun H7 e7 o7 => ?_
  have s7 := le_mut (s5.trans e6) x0 e7
  have b3 := hg.ok.upTo2 (pl := r - 1) (by omega)
  top_name
  exact k H7 _ _ s7 (by omega) ⟨⟨dx, o7⟩, hg.le s7, hs, ⟨l0, l1, l2⟩, by omega, by omega⟩
theorem sc_Gap_from_left : FnScope ["self", "litres", "count", "first"] ["self", "litres"] (defScope s_Gap_from_left) := ⟨rfl, rfl, rfl, by decide +kernel, rfl, by decide +kernel, by decide +kernel⟩
def spFrom (K : PySem.W.Frag) : Sp := fun vs H Q _ => ∃ (x a p : Addr) (c : Int) (bs : List (Option Int)) (l r b m n : Int), vs = [.ref x, .int n] ∧ Gp K H x a p c bs l r b m ∧ -300000 ≤ n ∧ n ≤ 300000 ∧ ∀ H' z, Le H H' → Q (.int z) H'
theorem m_Gap_from_left (E : En K mg) : C8.Met P w K mg base 5 (He.ga K "Gap") "from_left" (spFrom K) [] := by
  obtain ⟨fd, F⟩ := E.f_Gap_from_left
  refine met_mk E.cl_Gap E.me_Gap_from_left F sc_Gap_from_left (fun _ _ _ _ _ _ us hl => match us, hl with | [_, _], _ => rfl) (fun vs H Q E h => by obtain ⟨x, a, p, c, bs, l, r, b, m, n, rfl, _⟩ := h; rfl) fun cdv A outer s H vs Q E' hr h => ⟨_, (pss_cons (ps_set (i := 2) sc_Gap_from_left.nd rfl (Or.inl rfl) (pe_un un_neg (pe_op op_fdiv (pe_un un_neg (pv 1)) (pe_propK K (by rfl) (pe_fldK K (by rfl) (pv 0)) (p_can E) hr (by decide)))))
      (pss_cons (ps_set (i := 3) sc_Gap_from_left.nd rfl (Or.inl rfl) (pe_op op_sub (pe_op op_add (pe_fldK K (by rfl) (pv 0)) (pv 1)) (pe_op op_mul (pe_op op_sub (pv 2) pe_int) (pe_propK K (by rfl) (pe_fldK K (by rfl) (pv 0)) (p_can E) hr (by decide)))))
      (pss_one (ps_ret (pe_op op_mul pe_int (pe_op op_sub (C8.pe_c (c_sum_of_places E) hr (by decide) (by rfl) (pa_cons (pe_fldK K (by rfl) (pv 0)) (pa_cons (pv 3) (pa_cons (pv 2) pa_nil)))) (pe_op op_mul (pv 2) (pe_fldK K (by rfl) (pv 0))))))))), ?_⟩
  obtain ⟨x, a, p, c, bs, l, r, b, m, n, rfl, hg, n0, n1, k⟩ := h
  have hd := hg.gd
  have c1 := hd.ok.c1
  have c2 := hd.ok.c2
  have l0 := hg.lb
  have b0 := hg.bb
  have bd := ediv_bd (x := -n) (N := 300000) c1 (by omega) (by omega) (by omega)
  one_item
  refine ⟨a, p, c, bs, _, _, rfl, hd, hg.pos, by omega, by omega, fun z H1 e1 => ?_⟩
  have hg1 := hg.le e1
  top_name
  exact k _ _ e1
theorem sc_Gap_from_right : FnScope ["self", "litres", "count", "first"] ["self", "litres"] (defScope s_Gap_from_right) := ⟨rfl, rfl, rfl, by decide +kernel, rfl, by decide +kernel, by decide +kernel⟩
theorem m_Gap_from_right (E : En K mg) : C8.Met P w K mg base 5 (He.ga K "Gap") "from_right" (spFrom K) [] := by
  obtain ⟨fd, F⟩ := E.f_Gap_from_right
  refine met_mk E.cl_Gap E.me_Gap_from_right F sc_Gap_from_right (fun _ _ _ _ _ _ us hl => match us, hl with | [_, _], _ => rfl) (fun vs H Q E h => by obtain ⟨x, a, p, c, bs, l, r, b, m, n, rfl, _⟩ := h; rfl) fun cdv A outer s H vs Q E' hr h => ⟨_, (pss_cons (ps_set (i := 2) sc_Gap_from_right.nd rfl (Or.inl rfl) (pe_un un_neg (pe_op op_fdiv (pe_un un_neg (pv 1)) (pe_propK K (by rfl) (pe_fldK K (by rfl) (pv 0)) (p_can E) hr (by decide)))))
      (pss_cons (ps_set (i := 3) sc_Gap_from_right.nd rfl (Or.inl rfl) (pe_op op_add (pe_op op_sub (pe_op op_add (pe_fldK K (by rfl) (pv 0)) (pe_fldK K (by rfl) (pv 0))) (pv 1)) pe_int))
      (pss_one (ps_ret (pe_op op_mul pe_int (pe_op op_sub (pe_op op_mul (pv 2) (pe_fldK K (by rfl) (pv 0))) (C8.pe_c (c_sum_of_places E) hr (by decide) (by rfl) (pa_cons (pe_fldK K (by rfl) (pv 0)) (pa_cons (pv 3) (pa_cons (pv 2) pa_nil)))))))))), ?_⟩
  obtain ⟨x, a, p, c, bs, l, r, b, m, n, rfl, hg, n0, n1, k⟩ := h
  have hd := hg.gd
  have c1 := hd.ok.c1
  have c2 := hd.ok.c2
  have l0 := hg.lb
  have b0 := hg.bb
  have bd := ediv_bd (x := -n) (N := 300000) c1 (by omega) (by omega) (by omega)
  one_item
  refine ⟨a, p, c, bs, _, _, rfl, hd, hg.pos, by omega, by omega, fun z H1 e1 => ?_⟩
  have hg1 := hg.le e1
  top_name
  exact k _ _ e1
theorem sc_Gap_both : FnScope ["self", "wanted", "litres"] ["self", "wanted", "litres"] (defScope s_Gap_both) := ⟨rfl, rfl, rfl, by decide +kernel, rfl, by decide +kernel, by decide +kernel⟩
def spBoth (K : PySem.W.Frag) : Sp := fun vs H Q _ => ∃ (x a p : Addr) (c : Int) (bs : List (Option Int)) (l r b m n n2 : Int), vs = [.ref x, .int n, .int n2] ∧ Gp K H x a p c bs l r b m ∧ 0 ≤ n2 ∧ n2 ≤ n ∧ n ≤ 300000 ∧ ∀ H' z, Le H H' → Q (.int z) H'
theorem m_Gap_both (E : En K mg) : C8.Met P w K mg base 6 (He.ga K "Gap") "both" (spBoth K) [] := by
  obtain ⟨fd, F⟩ := E.f_Gap_both
  refine met_mk E.cl_Gap E.me_Gap_both F sc_Gap_both (fun _ _ _ _ _ _ us hl => match us, hl with | [_, _, _], _ => rfl) (fun vs H Q E h => by obtain ⟨x, a, p, c, bs, l, r, b, m, n, n2, rfl, _⟩ := h; rfl) fun cdv A outer s H vs Q E' hr h => ⟨_, (pss_one (ps_ret (pe_op op_add (C8.pe_mt (m_Gap_from_left E) hr (by decide) (pv 0) (pa_cons (pv 2) pa_nil)) (C8.pe_mt (m_Gap_from_right E) hr (by decide) (pv 0) (pa_cons (pe_op op_sub (pv 1) (pv 2)) pa_nil))))), ?_⟩
  obtain ⟨x, a, p, c, bs, l, r, b, m, n, n2, rfl, hg, n0, n1, n3, k⟩ := h
  one_item
  refine ⟨x, a, p, c, bs, l, r, b, m, n2, rfl, hg, by omega, by omega, fun H1 z e1 => ?_⟩
  have hg1 := hg.le e1
  top_name
  refine ⟨x, a, p, c, bs, l, r, b, m, n - n2, rfl, hg1, by omega, by omega, fun H2 z2 e2 => ?_⟩
  top_name
  exact k _ _ (e1.trans e2)
theorem sc_Gap_is_better : FnScope ["self", "wanted", "litres", "farthest", "nearest"] ["self", "wanted", "litres"] (defScope s_Gap_is_better) := ⟨rfl, rfl, rfl, by decide +kernel, rfl, by decide +kernel, by decide +kernel⟩
def spBett (K : PySem.W.Frag) : Sp := fun vs H Q _ => ∃ (x a p : Addr) (c : Int) (bs : List (Option Int)) (l r b m n n2 : Int), vs = [.ref x, .int n, .int n2] ∧ Gp K H x a p c bs l r b m ∧ ∀ H' z, Le H H' → Q (.bl z) H'
theorem m_Gap_is_better (E : En K mg) : C8.Met P w K mg base 4 (He.ga K "Gap") "is_better" (spBett K) [] := by
  obtain ⟨fd, F⟩ := E.f_Gap_is_better
  refine met_mk E.cl_Gap E.me_Gap_is_better F sc_Gap_is_better (fun _ _ _ _ _ _ us hl => match us, hl with | [_, _, _], _ => rfl) (fun vs H Q E h => by obtain ⟨x, a, p, c, bs, l, r, b, m, n, n2, rfl, _⟩ := h; rfl) fun cdv A outer s H vs Q E' hr h => ⟨_, (pss_cons (ps_set (i := 3) sc_Gap_is_better.nd rfl (Or.inl rfl) (C8.pe_c (c_place_of_litre E) hr (by decide) (by rfl) (pa_cons (pe_fldK K (by rfl) (pv 0)) (pa_cons (pe_op op_add (pe_op op_add (pe_fldK K (by rfl) (pv 0)) (pv 2)) (pe_propK K (by rfl) (pe_fldK K (by rfl) (pv 0)) (p_can E) hr (by decide))) pa_nil))))
      (pss_cons (ps_set (i := 4) sc_Gap_is_better.nd rfl (Or.inl rfl) (C8.pe_c (c_place_of_litre E) hr (by decide) (by rfl) (pa_cons (pe_fldK K (by rfl) (pv 0)) (pa_cons (pe_op op_add (pe_op op_add (pe_op op_sub (pe_op op_add (pe_fldK K (by rfl) (pv 0)) (pe_fldK K (by rfl) (pv 0))) (pv 1)) (pv 2)) pe_int) pa_nil))))
      (pss_one (ps_ret (pe_cmpR op_lt (pe_op op_sub (pv 3) (pe_fldK K (by rfl) (pv 0))) (pe_op op_sub (pe_fldK K (by rfl) (pv 0)) (pv 4)) (nomark _)))))), ?_⟩
  obtain ⟨x, a, p, c, bs, l, r, b, m, n, n2, rfl, hg, k⟩ := h
  have hd := hg.gd
  one_item
  refine ⟨a, p, c, bs, _, rfl, hd, hg.pos, fun z H1 e1 => ?_⟩
  have hg1 := hg.le e1
  top_name
  refine ⟨a, p, c, bs, _, rfl, hg1.gd, hg.pos, fun z2 H2 e2 => ?_⟩
  have hg2 := hg1.le e2
  top_name
  exact k _ _ (e1.trans e2)
theorem sc_Gap_best_with : FnScope ["self", "wanted", "rest", "low", "high", "middle", "here"] ["self", "wanted", "rest"] (defScope s_Gap_best_with) := ⟨rfl, rfl, rfl, by decide +kernel, rfl, by decide +kernel, by decide +kernel⟩
def spBW (K : PySem.W.Frag) : Sp := fun vs H Q _ => ∃ (x a p : Addr) (c : Int) (bs : List (Option Int)) (l r b m n n2 : Int), vs = [.ref x, .int n, .int n2] ∧ Gp K H x a p c bs l r b m ∧ 0 ≤ n2 ∧ n2 ≤ n ∧ n ≤ 300000 ∧ ∀ H' z, Le H H' → 0 ≤ z → z ≤ n → Q (.int z) H'
theorem m_Gap_best_with (E : En K mg) : C8.Met P w K mg base 5 (He.ga K "Gap") "best_with" (spBW K) [] := by
  obtain ⟨fd, F⟩ := E.f_Gap_best_with
  refine met_mk E.cl_Gap E.me_Gap_best_with F sc_Gap_best_with (fun _ _ _ _ _ _ us hl => match us, hl with | [_, _, _], _ => rfl) (fun vs H Q E h => by obtain ⟨x, a, p, c, bs, l, r, b, m, n, n2, rfl, _⟩ := h; rfl) fun cdv A outer s H vs Q E' hr h => ⟨_, (pss_cons (ps_par (i := 3) (j := 4) (by rfl) sc_Gap_best_with.nd rfl rfl (by decide) rfl rfl (pa_cons pe_int (pa_cons (pe_op op_fdiv (pe_op op_sub (pv 1) (pv 2)) (pe_propK K (by rfl) (pe_fldK K (by rfl) (pv 0)) (p_can E) hr (by decide))) pa_nil)) (by rfl))
      (pss_cons (ps_while PassesOwn.never (pt_cmpR op_lt (pv 3) (pv 4) (nomark _)) (pss_cons (ps_set (i := 5) sc_Gap_best_with.nd rfl (Or.inl rfl) (pe_op op_fdiv (pe_op op_add (pv 3) (pv 4)) pe_int))
      (pss_cons (ps_set (i := 6) sc_Gap_best_with.nd rfl (Or.inl rfl) (pe_op op_add (pv 2) (pe_op op_mul (pv 5) (pe_propK K (by rfl) (pe_fldK K (by rfl) (pv 0)) (p_can E) hr (by decide)))))
      (pss_one (ps_if (pt_val (C8.pe_mt (m_Gap_is_better E) hr (by decide) (pv 0) (pa_cons (pv 1) (pa_cons (pv 6) pa_nil)))) (pss_one (ps_set (i := 3) sc_Gap_best_with.nd rfl (Or.inl rfl) (pe_op op_add (pv 5) pe_int))) (pss_one (ps_set (i := 4) sc_Gap_best_with.nd rfl (Or.inl rfl) (pv 5))))))))
      (pss_one (ps_ret (pe_op op_add (pv 2) (pe_op op_mul (pv 3) (pe_propK K (by rfl) (pe_fldK K (by rfl) (pv 0)) (p_can E) hr (by decide)))))))), ?_⟩
  obtain ⟨x, a, p, c, bs, l, r, b, m, n, n2, rfl, hg, n0, n1, n3, k⟩ := h
  have hd := hg.gd
  have c1 := hd.ok.c1
  have c2 := hd.ok.c2
  have d0 : 0 ≤ (n - n2) / c := Int.ediv_nonneg (by omega) (by omega)
  have d1 : (n - n2) / c ≤ n - n2 := Int.ediv_le_self _ (by omega)
  have d2 : (n - n2) / c * c ≤ n - n2 := Int.ediv_mul_le _ (by omega)
  one_item
  generalize hd0 : (n - n2) / c = h0 at *
  refine while_by (fun σ H' => Le H H' ∧ ∃ (lo hi : Int) (x5 x6 : Option V), σ = [some (.ref x), some (.int n), some (.int n2), some (.int lo), some (.int hi), x5, x6] ∧ 0 ≤ lo ∧ lo ≤ hi ∧ hi ≤ h0)
    (fun σ _ => match σ with | [_, _, _, some (.int lo), some (.int hi), _, _] => (hi - lo).toNat | _ => 0) ⟨Same.refl _, 0, h0, none, none, rfl, by omega, by omega, by omega⟩ ?_ ?_
  · rintro σ H' ⟨e, lo, hi, x5, x6, rfl, a0, a1, a2⟩
    have hg1 := hg.le e
    have hd1 := hg1.gd
    top_name
    refine if_dec (fun h => ?_) (fun h => ?_)
    · top_name
      refine ⟨x, a, p, c, bs, l, r, b, m, _, _, rfl, hg1, fun H2 z e2 => ?_⟩
      top_name
      refine if_b (fun hz => ?_) (fun hz => ?_)
      · top_name
        refine ⟨⟨e.trans e2, _, _, _, _, rfl, by omega, by omega, by omega⟩, ?_⟩
        show (hi - ((lo + hi) / 2 + 1)).toNat < (hi - lo).toNat
        omega
      · top_name
        refine ⟨⟨e.trans e2, _, _, _, _, rfl, by omega, by omega, by omega⟩, ?_⟩
        show ((lo + hi) / 2 - lo).toNat < (hi - lo).toNat
        omega
    · top_name
      have m0 : 0 ≤ lo * c := Int.mul_nonneg a0 (by omega)
      have m1 : lo * c ≤ h0 * c := Int.mul_le_mul_of_nonneg_right (by omega) (by omega)
      exact k _ _ e (by omega) (by omega)
  · rintro σ H' Q Q' f ⟨v, e, v2, e3, i, j, h1, h2, k, e2, q⟩
    exact ⟨v, e, v2, e3, i, j, h1, h2, k, e2, f _ _ q⟩
end
set_option Elab.async false
set_option linter.all false
set_option maxRecDepth 100000
set_option maxHeartbeats 4000000
open PySem PySem.Spec PyProof.Rows L2

theorem cover {bs : List (Option Int)} {pl : Int} (h : ∀ j : Nat, j < bs.length → itemAt bs (pl - 1 - (j : Int)) ≠ none) : none ∉ bs := by
  intro hm
  obtain ⟨q, hq, e⟩ := List.getElem_of_mem hm
  have hl : (0 : Int) < bs.length := by omega
  have j0 := Int.emod_nonneg (pl - 2 - (q : Int)) (show (bs.length : Int) ≠ 0 by omega)
  have j1 := Int.emod_lt_of_pos (pl - 2 - (q : Int)) hl
  have hd := Int.mul_ediv_add_emod (pl - 2 - (q : Int)) (bs.length : Int)
  refine h ((pl - 2 - (q : Int)) % (bs.length : Int)).toNat (by omega) ?_
  have e1 : pl - 1 - (((pl - 2 - (q : Int)) % (bs.length : Int)).toNat : Int) - 1 = (q : Int) + bs.length * ((pl - 2 - (q : Int)) / (bs.length : Int)) := by omega
  unfold itemAt
  rw [e1, Int.add_mul_emod_self_left, Int.emod_eq_of_lt (by omega) (by omega), List.getD_eq_getElem?_getD, Int.toNat_natCast, List.getElem?_eq_getElem hq, e]
  rfl
theorem inV_non {bs : List (Option Int)} (h : none ∉ bs) : inV .non (bs.map bv) = false := by
  unfold inV
  rw [List.any_eq_false]
  intro x hx
  obtain ⟨o, ho, rfl⟩ := List.mem_map.mp hx
  cases o with
  | none => exact absurd ho h
  | some i => simp [bv, eqV]
theorem any_pos {c : Int} {bs : List (Option Int)} (g : GOk c bs) (h : (bs.map bv).any truV = true) : 0 < (bz bs).sum := by
  rw [List.any_eq_true] at h
  obtain ⟨x, hx, ht⟩ := h
  obtain ⟨o, ho, rfl⟩ := List.mem_map.mp hx
  cases o with
  | none => cases ht
  | some i =>
    have hi := g.it i ho
    have hne : i ≠ 0 := by intro z; subst z; simp [bv, truV] at ht
    have hm : i ∈ bz bs := by unfold bz; exact List.mem_map.mpr ⟨some i, ho, rfl⟩
    have key : ∀ l : List Int, (∀ y ∈ l, 0 ≤ y) → i ∈ l → i ≤ l.sum := by
      intro l hl hml
      induction l with
      | nil => simp at hml
      | cons a l ih =>
        rw [List.sum_cons]
        have ha := hl a (List.mem_cons_self ..)
        have hs : 0 ≤ l.sum := by
          clear ih hml
          induction l with
          | nil => simp
          | cons b l ih2 =>
            rw [List.sum_cons]
            have hb := hl b (by simp)
            have := ih2 fun y hy => hl y (by
              rcases List.mem_cons.mp hy with rfl | hy
              · simp
              · simp [hy])
            omega
        rcases List.mem_cons.mp hml with rfl | hm2
        · omega
        · have := ih (fun y hy => hl y (List.mem_cons_of_mem _ hy)) hm2
          omega
    have := key (bz bs) (fun y hy => (bz_mem g.it y hy).1) hm
    omega
theorem bv_kinds (bs : List (Option Int)) : ∀ x ∈ bs.map bv, x = .non ∨ (∃ b, x = .bl b) ∨ ∃ i, x = .int i := by
  intro x hx
  obtain ⟨o, _, rfl⟩ := List.mem_map.mp hx
  cases o with
  | none => exact .inl rfl
  | some i => exact .inr (.inr ⟨i, rfl⟩)
section
variable {P : Program} {w : World} {K : PySem.W.Frag} {mg : Str → Option Value} {base : Heap}
theorem sc_Gap_best_split : FnScope ["self", "wanted", "tries", "rest", "best", "litres"] ["self"] (defScope s_Gap_best_split) := ⟨rfl, rfl, rfl, by decide +kernel, rfl, by decide +kernel, by decide +kernel⟩
def spBS (K : PySem.W.Frag) : Sp := fun vs H Q _ => ∃ (x a p : Addr) (c : Int) (bs : List (Option Int)) (l r b m : Int), vs = [.ref x] ∧ Gp K H x a p c bs l r b m ∧
  ∀ H' q (u v : Int), Le H H' → H' q = some (.tup [.int u, .int v]) → 0 ≤ u → u ≤ 300000 → 0 ≤ v → v ≤ 300000 → u + v ≤ max 0 m → Q (.ref q) H'
theorem m_Gap_best_split (E : En K mg) : C8.Met P w K mg base 7 (He.ga K "Gap") "best_split" (spBS K) [] := by
  obtain ⟨fd, F⟩ := E.f_Gap_best_split
  refine met_mk E.cl_Gap E.me_Gap_best_split F sc_Gap_best_split (fun _ _ _ _ _ _ us hl => match us, hl with | [_], _ => rfl) (fun vs H Q E h => by obtain ⟨x, a, p, c, bs, l, r, b, m, rfl, _⟩ := h; rfl) fun cdv A outer s H vs Q E' hr h => ⟨_, (pss_cons (ps_set (i := 1) sc_Gap_best_split.nd rfl (Or.inr rfl) (pe_callB (c_max2 rfl) (by rfl) E.z_max b_max (pa_cons pe_int (pa_cons (pe_op op_sub (pe_fldK K (by rfl) (pv 0)) (pe_op op_mul pe_int (pe_propK K (by rfl) (pe_fldK K (by rfl) (pv 0)) (p_can E) hr (by decide)))) pa_nil))))
      (pss_cons (ps_setLc (own := [("rest", 3)]) (i := 2) rfl sc_Gap_best_split.nd rfl rfl (sw_true rfl rfl rfl (by decide +kernel)) (pi_range1 rfl E.z_range (pa_cons (pe_callB (c_min2 rfl) (by rfl) E.z_min b_min (pa_cons (pe_propK K (by rfl) (pe_fldK K (by rfl) (pv 0)) (p_can E) hr (by decide)) (pa_cons (pe_op op_add (pv 1) pe_int) pa_nil))) pa_nil)) (blkOk_by (own := [("rest", 3)]) (N := ["self", "wanted", "tries", "rest", "best", "litres"]) (sc := defScope s_Gap_best_split) (by decide +kernel)) (fun _ _ _ _ _ => (pg_name (i := 3) sc_Gap_best_split.nd rfl (Or.inl rfl))) (fun _ _ _ _ _ => pts_nil) (fun _ _ _ _ _ => (C8.pe_mt (m_Gap_best_with E) hr (by decide) (pv 0) (pa_cons (pv 1) (pa_cons (pv 3) pa_nil)))))
      (pss_cons (ps_set (i := 4) sc_Gap_best_split.nd rfl (Or.inl rfl) (pe_ix (ix_tupK K (by rfl)) (pe_callB (c_minPK K (by rfl) rfl (hu64 hr)) (by rfl) E.z_min b_min (pa_cons (pe_lc (own := [("litres", 5)]) rfl sc_Gap_best_split.nd (pi_listK K (by rfl) (pv 2)) (blkOk_by (own := [("litres", 5)]) (N := ["self", "wanted", "tries", "rest", "best", "litres"]) (sc := defScope s_Gap_best_split) (by decide +kernel)) (fun _ _ _ _ _ => (pg_name (i := 5) sc_Gap_best_split.nd rfl (Or.inl rfl))) (fun _ _ _ _ _ => pts_nil) (fun _ _ _ _ _ => (pe_tup (pa_cons (C8.pe_mt (m_Gap_both E) hr (by decide) (pv 0) (pa_cons (pv 1) (pa_cons (pv 5) pa_nil))) (pa_cons (pv 5) pa_nil))))) pa_nil)) pe_int (fun _ _ => rfl)))
      (pss_one (ps_ret (pe_tup (pa_cons (pv 4) (pa_cons (pe_op op_sub (pv 1) (pv 4)) pa_nil)))))))), ?_⟩
  obtain ⟨x, a, p, c, bs, l, r, b, m, rfl, hg, k⟩ := h
  have hd := hg.gd
  have c1 := hd.ok.c1
  have c2 := hd.ok.c2
  have m0 := hg.mb
  one_item
  generalize hw : max 0 (m - 2 * c) = wd at *
  have w0 : 0 ≤ wd := by omega
  have w1 : wd ≤ 200000 := by omega
  refine lc_rel (fun D i y H' => ∃ z, y = V.int z ∧ (0 ≤ z ∧ z ≤ wd)) walk_range (by one_place) (by omega) (fun _ _ => trivial) (fun D i y H1 H2 _ h _ => h) ?_ wpm_yes wpm_name fun D H1 out hD e1 h1 hl hT => ?_
  · rintro D i y H0 H' R hD hi e1 _ ⟨rfl, rfl⟩ hR
    have hg1 := hg.le e1
    top_name
    refine ⟨rfl, ?_⟩
    top_name
    refine ⟨x, a, p, c, bs, l, r, b, m, wd, _, rfl, hg1, by omega, by omega, by omega, fun H2 z e2 z0 z1 => ?_⟩
    exact hR _ _ e2 ⟨z, rfl, z0, z1⟩
  obtain ⟨ns, rfl, hns⟩ := ints_of (P := fun z => 0 ≤ z ∧ z ≤ wd) hT
  have hg1 := hg.le e1
  have hnl : (ns.map V.int).length ≤ 1000000 := by omega
  top_name
  refine lc_rel (fun D i y H' => ∃ t u v, y = V.ref t ∧ t ≠ D ∧ H' t = some (.tup [.int u, .int v]) ∧ (0 ≤ v ∧ v ≤ wd)) walk_list (by one_place) hnl (fun H' e => SqL.of (e _ _ h1)) (fun D i y H1 H2 _ h e => ?_) ?_ wpm_yes wpm_name fun D2 H2 out hD2 e2 h2 hl2 hT2 => ?_
  · obtain ⟨t, u, v, rfl, n, q, z⟩ := h
    exact ⟨t, u, v, rfl, n, e _ _ n q, z⟩
  · rintro D i y H0 H' R hD hi e2 ⟨acc, hacc⟩ ⟨rfl, hy⟩ hR
    rw [List.getElem?_map] at hy
    obtain ⟨z, hz, rfl⟩ := Option.map_eq_some_iff.mp hy
    have hzb := hns z (List.mem_of_getElem? hz)
    have hg2 := hg1.le e2
    top_name
    refine ⟨rfl, ?_⟩
    top_name
    refine ⟨x, a, p, c, bs, l, r, b, m, wd, z, rfl, hg2, by omega, by omega, by omega, fun H3 u e3 => ?_⟩
    top_name
    refine newz_ (by simp) fun t H4 ht e4 h4 => ?_
    exact hR _ _ (e3.trans e4) ⟨t, u, z, rfl, (fun e => by rw [e, e3 _ _ hacc] at ht; cases ht), h4, hzb⟩
  top_name
  have hpos : 0 < out.length := by rw [hl2, hl]; simp; omega
  refine r_minP (SqL.of h2) hpos (fun y hy => ?_) fun y hy => ?_
  · obtain ⟨i, hi⟩ := List.mem_iff_getElem?.mp hy
    obtain ⟨t, u, v, e, _, q, _⟩ := hT2 i y hi
    exact ⟨t, u, v, e, q⟩
  · obtain ⟨i, hi⟩ := List.mem_iff_getElem?.mp hy
    obtain ⟨t, u, v, rfl, _, q, hv⟩ := hT2 i y hi
    top_name
    refine r_ixT (SqT.of q) (atI_nat (j := 1) rfl) ?_
    top_name
    refine newz_ (by simp) fun t2 H4 ht e4 h4 => ?_
    exact k _ _ _ _ (e1.trans (e2.trans e4)) h4 (by omega) (by omega) (by omega) (by omega) (by omega)
theorem sc_Gap_cost_alone : FnScope ["self"] ["self"] (defScope s_Gap_cost_alone) := ⟨rfl, rfl, rfl, by decide +kernel, rfl, by decide +kernel, by decide +kernel⟩
def spCost (K : PySem.W.Frag) : Sp := fun vs H Q _ => ∃ (x a p : Addr) (c : Int) (bs : List (Option Int)) (l r b m : Int), vs = [.ref x] ∧ Gp K H x a p c bs l r b m ∧ ∀ H' z, Le H H' → Q (.int z) H'
theorem m_Gap_cost_alone (E : En K mg) : C8.Met P w K mg base 6 (He.ga K "Gap") "cost_alone" (spCost K) [] := by
  obtain ⟨fd, F⟩ := E.f_Gap_cost_alone
  refine met_mk E.cl_Gap E.me_Gap_cost_alone F sc_Gap_cost_alone (fun _ _ _ _ _ _ us hl => match us, hl with | [_], _ => rfl) (fun vs H Q E h => by obtain ⟨x, a, p, c, bs, l, r, b, m, rfl, _⟩ := h; rfl) fun cdv A outer s H vs Q E' hr h => ⟨_, (pss_one (ps_ret (C8.pe_mt (m_Gap_from_left E) hr (by decide) (pv 0) (pa_cons (pe_fldK K (by rfl) (pv 0)) pa_nil)))), ?_⟩
  obtain ⟨x, a, p, c, bs, l, r, b, m, rfl, hg, k⟩ := h
  have m0 := hg.mb
  one_item
  exact ⟨x, a, p, c, bs, l, r, b, m, m, rfl, hg, by omega, by omega, fun H1 z e1 => k _ _ e1⟩
theorem sc_Gap_cost_across : FnScope ["self", "litres", "others"] ["self"] (defScope s_Gap_cost_across) := ⟨rfl, rfl, rfl, by decide +kernel, rfl, by decide +kernel, by decide +kernel⟩
theorem m_Gap_cost_across (E : En K mg) : C8.Met P w K mg base 8 (He.ga K "Gap") "cost_across" (spCost K) [] := by
  obtain ⟨fd, F⟩ := E.f_Gap_cost_across
  refine met_mk E.cl_Gap E.me_Gap_cost_across F sc_Gap_cost_across (fun _ _ _ _ _ _ us hl => match us, hl with | [_], _ => rfl) (fun vs H Q E h => by obtain ⟨x, a, p, c, bs, l, r, b, m, rfl, _⟩ := h; rfl) fun cdv A outer s H vs Q E' hr h => ⟨_, (pss_cons (ps_asg (C8.pe_mt0 (m_Gap_best_split E) hr (by decide) (pv 0)) (pg_tupK (n := 2) K (by rfl) rfl (pgs_cons (pg_name (i := 1) sc_Gap_cost_across.nd rfl (Or.inl rfl)) (pgs_cons (pg_name (i := 2) sc_Gap_cost_across.nd rfl (Or.inl rfl)) pgs_nil))))
      (pss_one (ps_ret (pe_op op_add (pe_op op_add (pe_op op_mul pe_int (pe_op op_sub (pe_fldK K (by rfl) (pv 0)) (pe_fldK K (by rfl) (pv 0)))) (C8.pe_mt (m_Gap_from_left E) hr (by decide) (pv 0) (pa_cons (pv 1) pa_nil))) (C8.pe_mt (m_Gap_from_right E) hr (by decide) (pv 0) (pa_cons (pv 2) pa_nil)))))), ?_⟩
  obtain ⟨x, a, p, c, bs, l, r, b, m, rfl, hg, k⟩ := h
  have l0 := hg.lb
  one_item
  refine ⟨x, a, p, c, bs, l, r, b, m, rfl, hg, fun H1 q u v e1 h1 u0 u1 v0 v1 _ => ?_⟩
  have hg1 := hg.le e1
  top_name
  refine ⟨x, a, p, c, bs, l, r, b, m, u, rfl, hg1, by omega, by omega, fun H2 z e2 => ?_⟩
  have hg2 := hg1.le e2
  top_name
  refine ⟨x, a, p, c, bs, l, r, b, m, v, rfl, hg2, by omega, by omega, fun H3 z3 e3 => ?_⟩
  top_name
  exact k _ _ (e1.trans (e2.trans e3))
end
set_option Elab.async false
set_option linter.all false
set_option maxRecDepth 100000
set_option maxHeartbeats 4000000
open PySem PySem.Spec PyProof.Rows L2

section
variable {P : Program} {w : World} {K : PySem.W.Frag} {mg : Str → Option Value} {base : Heap}
theorem sc_last_wanting : FnScope ["garden", "places", "taps", "place"] ["garden", "places", "taps"] (defScope s_last_wanting) := ⟨rfl, rfl, rfl, by decide +kernel, rfl, by decide +kernel, by decide +kernel⟩
def spLW (K : PySem.W.Frag) : Sp := fun vs H Q _ => ∃ (a p t : Addr) (c : Int) (bs : List (Option Int)) (ts : List Int) (n : Int), vs = [.ref a, .int n, .ref t] ∧ Gd K H a p c bs ∧ SqT K H t (ts.map V.int) ∧ ts.length ≤ 4 ∧ 0 ≤ n ∧ n ≤ 200 ∧
  Q .non H ∧ ∀ pl, 1 ≤ pl → pl ≤ n → 0 < (bz bs).sum → Q (.int pl) H
theorem c_last_wanting (E : En K mg) : C8.Cal P w K mg base 6 "last_wanting" (spLW K) [] := by
  obtain ⟨fd, F⟩ := E.f_last_wanting
  refine cal_mk F E.g_last_wanting sc_last_wanting (fun _ _ _ _ _ _ us hl => match us, hl with | [_, _, _], _ => rfl) (fun vs H Q E h => by obtain ⟨a, p, t, c, bs, ts, n, rfl, _⟩ := h; rfl) fun cdv A outer s H vs Q E' hr h => ⟨_, (pss_cons (ps_if (pt_not (pt_val (pe_callB (c_anyK K (by rfl) rfl) (by rfl) E.z_any b_any (pa_cons (pe_propK K (by rfl) (pv 0) (p_beds E) hr (by decide)) pa_nil)))) (pss_one (ps_ret pe_non)) pss_nil)
      (pss_cons (ps_for PassesOwn.never rfl (pi_range3 rfl E.z_range (pa_cons (pv 1) (pa_cons (pe_callB (c_max2 rfl) (by rfl) E.z_max b_max (pa_cons pe_int (pa_cons (pe_op op_sub (pv 1) (pe_op op_mul (pe_op op_add (pe_callB (c_lenK K (by rfl)) (by rfl) E.z_len b_len (pa_cons (pv 2) pa_nil)) pe_int) (pe_callB (c_lenK K (by rfl)) (by rfl) E.z_len b_len (pa_cons (pe_propK K (by rfl) (pv 0) (p_beds E) hr (by decide)) pa_nil)))) pa_nil))) (pa_cons (pe_un un_neg pe_int) pa_nil)))) (pg_name (i := 3) sc_last_wanting.nd rfl (Or.inl rfl)) (pss_one (ps_if (pt_cmpR op_gt (C8.pe_c (c_wants E) hr (by decide) (by rfl) (pa_cons (pv 0) (pa_cons (pv 3) (pa_cons (pv 2) pa_nil)))) pe_int (nomark _)) (pss_one (ps_ret (pv 3))) pss_nil)))
      (pss_one (ps_ret pe_non)))), ?_⟩
  obtain ⟨a, p, t, c, bs, ts, n, rfl, hg, ht, hts, n0, n1, k0, k1⟩ := h
  have hp := hg.tp
  have l1 := hg.ok.l1
  have l2 := hg.ok.l2
  have hl : (((bs.map bv).length : Nat) : Int) = bs.length := by simp
  have hl2 : (((ts.map V.int).length : Nat) : Int) = ts.length := by simp
  one_item
  refine r_anyT (SqT.of hp) (bv_kinds bs) ?_
  top_name
  refine if_nb (fun h => ?_) (fun h => ?_)
  · top_name; exact k0
  have hpos := any_pos hg.ok h
  have hm0 : 0 ≤ (((ts.map V.int).length : Int) + 1) * ((bs.map bv).length : Int) := Int.mul_nonneg (by omega) (by omega)
  have hm1 : (((ts.map V.int).length : Int) + 1) * ((bs.map bv).length : Int) ≤ 5 * 5 := Int.mul_le_mul (by omega) (by omega) (by omega) (by omega)
  top_name
  refine for_rangeC (fun i σ H' => H' = H ∧ ∃ x3 : Option V, σ = [some (.ref a), some (.int n), some (.ref t), x3]) ⟨rfl, none, rfl⟩ ?_ ?_
  · rintro i σ H' hi ⟨rfl, x3, rfl⟩
    top_name
    refine ⟨a, p, t, c, bs, ts, _, rfl, hg, ht, ?_⟩
    top_name
    refine if_dec (fun h => ?_) (fun h => ?_)
    · top_name
      exact k1 _ (by omega) (by omega) hpos
    · top_name
      exact ⟨rfl, _, rfl⟩
  · rintro σ H' ⟨rfl, x3, rfl⟩
    top_name
    exact k0
theorem sc_next_own_tap : FnScope ["garden", "place", "step", "here", "turn"] ["garden", "place", "step"] (defScope s_next_own_tap) := ⟨rfl, rfl, rfl, by decide +kernel, rfl, by decide +kernel, by decide +kernel⟩
def spNO (K : PySem.W.Frag) : Sp := fun vs H Q _ => ∃ (a p : Addr) (c : Int) (bs : List (Option Int)) (pl st : Int), vs = [.ref a, .int pl, .int st] ∧ Gd K H a p c bs ∧ 1 ≤ pl ∧ pl ≤ 200 ∧
  ((st = -1 ∧ ∀ z, 0 ≤ z → z < pl → Q (.int z) H) ∨ (st = 1 ∧ Q .non H ∧ ∀ z, pl < z → z ≤ 300 → Q (.int z) H))
theorem c_next_own_tap (E : En K mg) : C8.Cal P w K mg base 4 "next_own_tap" (spNO K) [] := by
  obtain ⟨fd, F⟩ := E.f_next_own_tap
  refine cal_mk F E.g_next_own_tap sc_next_own_tap (fun _ _ _ _ _ _ us hl => match us, hl with | [_, _, _], _ => rfl) (fun vs H Q E h => by obtain ⟨a, p, c, bs, n, st, rfl, _⟩ := h; rfl) fun cdv A outer s H vs Q E' hr h => ⟨_, (pss_cons (ps_set (i := 3) sc_next_own_tap.nd rfl (Or.inl rfl) (pv 1))
      (pss_cons (ps_for PassesOwn.never rfl (pi_range1 rfl E.z_range (pa_cons (pe_callB (c_lenK K (by rfl)) (by rfl) E.z_len b_len (pa_cons (pe_propK K (by rfl) (pv 0) (p_beds E) hr (by decide)) pa_nil)) pa_nil)) (pg_name (i := 4) sc_next_own_tap.nd rfl (Or.inl rfl)) (pss_cons (ps_aug (i := 3) sc_next_own_tap.nd rfl (Or.inl rfl) (pv 2) ip_add)
      (pss_cons (ps_if (pt_cmpR op_le (pv 3) pe_int (nomark _)) (pss_one (ps_ret (pe_ifExp (pt_cmpR op_lt (pv 2) pe_int (nomark _)) pe_int pe_non))) pss_nil)
      (pss_one (ps_if (pt_cmpR op_isN1 (C8.pe_c (c_item_at E) hr (by decide) (by rfl) (pa_cons (pv 0) (pa_cons (pv 3) pa_nil))) pe_non (nomark _)) (pss_one (ps_ret (pv 3))) pss_nil)))))
      (pss_one (ps_ret (pe_ifExp (PW.pt (pw_and (pt_cmpR op_lt (pv 2) pe_int (nomark _)) (pw_and1 (pt_cmpR (op_ninK K (by rfl)) pe_non (pe_propK K (by rfl) (pv 0) (p_beds E) hr (by decide)) rfl)))) pe_int pe_non))))), ?_⟩
  obtain ⟨a, p, c, bs, pl, st, rfl, hg, p1, p2, k⟩ := h
  have hp := hg.tp
  have l1 := hg.ok.l1
  have l2 := hg.ok.l2
  have hl : (((bs.map bv).length : Nat) : Int) = bs.length := by simp
  one_item
  refine for_range (fun i σ H' => H' = H ∧ ∃ x4 : Option V, σ = [some (.ref a), some (.int pl), some (.int st), some (.int (pl + st * (i : Int))), x4] ∧ ∀ j : Nat, j < i → itemAt bs (pl + st * ((j : Int) + 1)) ≠ none) ⟨rfl, none, by simp, by simp⟩ ?_ ?_
  · rintro i σ H' hi ⟨rfl, x4, rfl, hn⟩
    have hi2 : (i : Int) < 5 := by rw [hl] at hi; omega
    have es : pl + st * (i : Int) + st = pl + st * ((i : Int) + 1) := by rw [Int.mul_add, Int.mul_one, Int.add_assoc]
    top_name
    rw [es]
    refine if_dec (fun h => ?_) (fun h => ?_)
    · top_name
      rcases k with ⟨rfl, k⟩ | ⟨rfl, k0, k1⟩
      · refine if_dec (fun _ => ?_) (fun h2 => by omega)
        top_name
        exact k 0 (by omega) (by omega)
      · omega
    top_name
    refine ⟨a, p, c, bs, _, rfl, hg, ?_⟩
    top_name
    refine ⟨rfl, ?_⟩
    rw [bv_isN]
    top_name
    refine if_b (fun h2 => ?_) (fun h2 => ?_)
    · top_name
      rcases k with ⟨rfl, k⟩ | ⟨rfl, k0, k1⟩
      · exact k _ (by omega) (by omega)
      · exact k1 _ (by omega) (by omega)
    · top_name
      refine ⟨rfl, _, by push_cast; rfl, fun j hj => ?_⟩
      by_cases hji : j < i
      · exact hn j hji
      · have e : j = i := by omega
        subst e
        intro z
        rw [z] at h2
        cases h2
  · rintro σ H' ⟨rfl, x4, rfl, hn⟩
    top_name
    rcases k with ⟨rfl, k⟩ | ⟨rfl, k0, k1⟩
    · have hno : none ∉ bs := cover (pl := pl) fun j hj => by
        have q := hn j (by rw [hl]; omega)
        have e : pl + -1 * ((j : Int) + 1) = pl - 1 - (j : Int) := by omega
        rw [e] at q; exact q
      refine if_dec (fun _ => ?_) (fun h2 => by omega)
      top_name
      refine r_inT (SqT.of hp) rfl (bv_flat bs) ?_
      rw [inV_non hno]
      refine ⟨true, rfl, iteT ?_⟩
      exact k 0 (by omega) (by omega)
    · refine if_dec (fun h2 => by omega) (fun _ => ?_)
      top_name
      exact k0
theorem sc_tap_before : FnScope ["garden", "place", "taps", "tap"] ["garden", "place", "taps"] (defScope s_tap_before) := ⟨rfl, rfl, rfl, by decide +kernel, rfl, by decide +kernel, by decide +kernel⟩
def spTB (K : PySem.W.Frag) : Sp := fun vs H Q _ => ∃ (a p t : Addr) (c : Int) (bs : List (Option Int)) (ts : List Int) (pl : Int), vs = [.ref a, .int pl, .ref t] ∧ Gd K H a p c bs ∧ SqT K H t (ts.map V.int) ∧ ts.length ≤ 4 ∧ 1 ≤ pl ∧ pl ≤ 200 ∧
  (∀ y ∈ ts, 1 ≤ y) ∧ ∀ H' z, Le H H' → 0 ≤ z → z < pl → Q (.int z) H'
theorem c_tap_before (E : En K mg) : C8.Cal P w K mg base 5 "tap_before" (spTB K) [] := by
  obtain ⟨fd, F⟩ := E.f_tap_before
  refine cal_mk F E.g_tap_before sc_tap_before (fun _ _ _ _ _ _ us hl => match us, hl with | [_, _, _], _ => rfl) (fun vs H Q E h => by obtain ⟨a, p, t, c, bs, ts, n, rfl, _⟩ := h; rfl) fun cdv A outer s H vs Q E' hr h => ⟨_, (pss_one (ps_ret (pe_callB (c_maxK K (by rfl) rfl) (by rfl) E.z_max b_max (pa_cons (pe_lst (pa_cons (C8.pe_c (c_next_own_tap E) hr (by decide) (by rfl) (pa_cons (pv 0) (pa_cons (pv 1) (pa_cons (pe_un un_neg pe_int) pa_nil)))) (pa_starK K (by rfl) (pe_lc (own := [("tap", 3)]) rfl sc_tap_before.nd (pi_tupK K (by rfl) (pv 2)) (blkOk_by (own := [("tap", 3)]) (N := ["garden", "place", "taps", "tap"]) (sc := defScope s_tap_before) (by decide +kernel)) (fun _ _ _ _ _ => (pg_name (i := 3) sc_tap_before.nd rfl (Or.inl rfl))) (fun _ _ _ _ _ => (pts_one (pt_cmpR op_lt (pv 3) (pv 1) (nomark _)))) (fun _ _ _ _ _ => (pv 3))) pa_nil))) pa_nil)))), ?_⟩
  obtain ⟨a, p, t, c, bs, ts, pl, rfl, hg, ht, hts, p1, p2, ht1, k⟩ := h
  one_item
  refine ⟨a, p, c, bs, pl, -1, rfl, hg, p1, p2, .inl ⟨rfl, fun z z0 z1 => ?_⟩⟩
  top_name
  refine lc_pure (fun i => ts[i]?.bind fun t => if (decide (t < pl)) = true then some (V.int t) else none) walk_tup (by one_place) (by simp; omega) (fun H' e => le_st e ht) ?_ fun D H1 hD e1 h1 => ?_
  · rintro i x H0 H' R N hi e ⟨rfl, hx⟩ hR hN
    rw [List.getElem?_map] at hx
    obtain ⟨y, hy, rfl⟩ := Option.map_eq_some_iff.mp hx
    top_name
    refine if_dec (fun h => ?_) (fun h => ?_)
    · top_name
      exact hR _ _ (Same.refl _) (by rw [hy]; simp [h])
    · exact hN _ (Same.refl _) (by rw [hy]; simp [h])
  rw [fm_filter ts (fun t => decide (t < pl))] at h1
  refine r_starL (SqL.of h1) ?_
  top_name
  refine ⟨szl ?_, fun q hq => ?_⟩
  · have := List.length_filter_le (fun t => decide (t < pl)) ts
    simp only [List.length_cons, List.length_append, List.length_map, List.length_nil]; omega
  generalize hH2 : upd H1 q _ = H2
  have h2 := (congrFun hH2 q).symm.trans upd_same
  have e2 : Le H1 H2 := hH2 ▸ le_new hq
  rw [List.append_nil] at h2
  have h2' : H2 q = some (.lst ((z :: ts.filter fun t => decide (t < pl)).map V.int)) := h2
  top_name
  refine r_maxL (SqL.of h2') (by simp) fun m hm _ => ?_
  top_name
  rcases List.mem_cons.mp hm with rfl | hm
  · exact k _ _ (e1.trans e2) z0 z1
  · have q := List.mem_filter.mp hm
    have q1 := ht1 m q.1
    have q2 : m < pl := of_decide_eq_true q.2
    exact k _ _ (e1.trans e2) (by omega) q2
end
set_option Elab.async false
set_option linter.all false
set_option maxRecDepth 100000
set_option maxHeartbeats 4000000
open PySem PySem.Spec PyProof.Rows L2

section
variable {P : Program} {w : World} {K : PySem.W.Frag} {mg : Str → Option Value} {base : Heap}
theorem sc_tap_behind : FnScope ["garden", "place", "places", "taps", "own", "found", "tap"] ["garden", "place", "places", "taps"] (defScope s_tap_behind) := ⟨rfl, rfl, rfl, by decide +kernel, rfl, by decide +kernel, by decide +kernel⟩
def spTH (K : PySem.W.Frag) : Sp := fun vs H Q _ => ∃ (a p t : Addr) (c : Int) (bs : List (Option Int)) (ts : List Int) (pl n : Int), vs = [.ref a, .int pl, .int n, .ref t] ∧ Gd K H a p c bs ∧ SqT K H t (ts.map V.int) ∧ ts.length ≤ 4 ∧ 1 ≤ pl ∧ pl ≤ 200 ∧
  (∀ H', Le H H' → Q .non H') ∧ ∀ H' z, Le H H' → pl < z → z ≤ n → Q (.int z) H'
def tbF (pl n : Int) : V → Option V
  | .int t => if pl < t then if t ≤ n then some (.int t) else none else none
  | _ => none
theorem c_tap_behind (E : En K mg) : C8.Cal P w K mg base 5 "tap_behind" (spTH K) [] := by
  obtain ⟨fd, F⟩ := E.f_tap_behind
  refine cal_mk F E.g_tap_behind sc_tap_behind (fun _ _ _ _ _ _ us hl => match us, hl with | [_, _, _, _], _ => rfl) (fun vs H Q E h => by obtain ⟨a, p, t, c, bs, ts, pl, n, rfl, _⟩ := h; rfl) fun cdv A outer s H vs Q E' hr h => ⟨_, (pss_cons (ps_set (i := 4) sc_tap_behind.nd rfl (Or.inl rfl) (pe_ifExp (pt_cmpR op_lt (pv 1) (pv 2) (nomark _)) (C8.pe_c (c_next_own_tap E) hr (by decide) (by rfl) (pa_cons (pv 0) (pa_cons (pv 1) (pa_cons pe_int pa_nil)))) pe_non))
      (pss_cons (ps_setLc (own := [("tap", 6)]) (i := 5) rfl sc_tap_behind.nd rfl rfl (sw_true rfl rfl rfl (by decide +kernel)) (pi_listK K (by rfl) (pe_lst (pa_cons (pv 4) (pa_starK K (by rfl) (pv 3) pa_nil)))) (blkOk_by (own := [("tap", 6)]) (N := ["garden", "place", "places", "taps", "own", "found", "tap"]) (sc := defScope s_tap_behind) (by decide +kernel)) (fun _ _ _ _ _ => (pg_name (i := 6) sc_tap_behind.nd rfl (Or.inl rfl))) (fun _ _ _ _ _ => (pts_one (PW.pt (pw_and (pt_cmpR op_notN1 (pv 6) pe_non (nomark _)) (pw_and1 (pt_chain op_lt op_le (pv 1) (pv 6) (pv 2))))))) (fun _ _ _ _ _ => (pv 6)))
      (pss_one (ps_ret (pe_ifExp (pt_cmpR (op_neK K (by rfl) (hu64 hr)) (pv 5) (pe_lst pa_nil) (nomark _)) (pe_callB (c_minK K (by rfl) rfl) (by rfl) E.z_min b_min (pa_cons (pv 5) pa_nil)) pe_non))))), ?_⟩
  obtain ⟨a, p, t, c, bs, ts, pl, n, rfl, hg, ht, hts, p1, p2, k0, k1⟩ := h
  one_item
  refine if_jn (fun x H1 => H1 = H ∧ ∃ o : Option Int, x = bv o) (fun x H1 h => ?_) fun hk => ?_
  · obtain ⟨rfl, o, rfl⟩ := h
    top_name
    refine r_starT ht ?_
    top_name
    refine ⟨szl (by simp only [List.length_cons, List.length_append, List.length_map, List.length_nil]; omega), fun q hq => ?_⟩
    generalize hH2 : upd H1 q _ = H2
    have h2 := (congrFun hH2 q).symm.trans upd_same
    have e2 : Le H1 H2 := hH2 ▸ le_new hq
    rw [List.append_nil] at h2
    top_name
    refine lc_pure (fun i => ((bv o :: ts.map V.int)[i]?).bind (tbF pl n)) (walk_list (a := q) (xs := bv o :: ts.map V.int)) (by one_place) (by simp; omega) (fun H' e => SqL.of (e _ _ h2)) ?_ fun D H3 hD e3 h3 => ?_
    · rintro i x H0 H' R N hi e ⟨rfl, hx⟩ hR hN
      have hs : x = .non ∨ ∃ z, x = V.int z := by
        rcases List.mem_cons.mp (List.mem_of_getElem? hx) with rfl | h
        · cases o with
          | none => exact .inl rfl
          | some z => exact .inr ⟨z, rfl⟩
        · obtain ⟨z, _, rfl⟩ := List.mem_map.mp h
          exact .inr ⟨z, rfl⟩
      rcases hs with rfl | ⟨z, rfl⟩
      · top_name
        exact hN _ (Same.refl _) (by rw [hx]; rfl)
      · top_name
        refine if_dec (fun h => ?_) (fun h => ?_)
        · top_name
          refine if_dec (fun h3 => ?_) (fun h3 => ?_)
          · top_name
            exact hR _ _ (Same.refl _) (by rw [hx]; show (if pl < z then if z ≤ n then some (V.int z) else none else none) = _; rw [if_pos h, if_pos h3])
          · top_name
            exact hN _ (Same.refl _) (by rw [hx]; show (if pl < z then if z ≤ n then some (V.int z) else none else none) = _; rw [if_pos h, if_neg h3])
        · top_name
          exact hN _ (Same.refl _) (by rw [hx]; show (if pl < z then if z ≤ n then some (V.int z) else none else none) = _; rw [if_neg h])
    · obtain ⟨ns, e4, hns⟩ := ints_of (P := fun z => pl < z ∧ z ≤ n) (out := List.filterMap (fun i => (bv o :: List.map V.int ts)[i]?.bind (tbF pl n)) (List.range (bv o :: List.map V.int ts).length)) fun i y hy => by
        obtain ⟨j, _, hj⟩ := List.mem_filterMap.mp (List.mem_of_getElem? hy)
        obtain ⟨x, hx, h⟩ := Option.bind_eq_some_iff.mp hj
        cases x <;> simp only [tbF] at h <;> try (cases h)
        rename_i z
        by_cases h1 : pl < z
        · rw [if_pos h1] at h
          by_cases h2 : z ≤ n
          · rw [if_pos h2] at h
            exact ⟨z, (Option.some.inj h).symm, h1, h2⟩
          · rw [if_neg h2] at h; cases h
        · rw [if_neg h1] at h; cases h
      rw [e4] at h3
      have e13 := e2.trans e3
      top_name
      refine ⟨Nat.zero_le _, fun r hr4 => ?_⟩
      generalize hH4 : upd H3 r _ = H4
      have h5 := (congrFun hH4 r).symm.trans upd_same
      have e5 : Le H3 H4 := hH4 ▸ le_new hr4
      refine r_neNil (SqL.of (e5 _ _ h3)) h5 ?_
      top_name
      refine if_nb (fun h => ?_) (fun h => ?_)
      · top_name
        refine r_minL (SqL.of (e5 _ _ h3)) (by cases ns with | nil => cases h | cons => simp) fun m hm _ => ?_
        exact k1 _ _ (e13.trans e5) (hns m hm).1 (hns m hm).2
      · top_name
        exact k0 _ (e13.trans e5)
  · refine if_dec (fun h => ?_) (fun h => ?_)
    · top_name
      exact ⟨a, p, c, bs, pl, 1, rfl, hg, p1, p2, .inr ⟨rfl, hk _ _ ⟨rfl, none, rfl⟩, fun z _ _ => hk _ _ ⟨rfl, some z, rfl⟩⟩⟩
    · refine r_C ?_
      exact hk _ _ ⟨rfl, none, rfl⟩
end
set_option Elab.async false
set_option linter.all false
set_option maxRecDepth 100000
set_option maxHeartbeats 4000000
open PySem PySem.Spec PyProof.Rows L2

section
variable {P : Program} {w : World} {K : PySem.W.Frag} {mg : Str → Option Value} {base : Heap}
/-- taps as they are told: few, growing, from 1 -/
structure TpOk (ts : List Int) : Prop where
  len : ts.length ≤ 4
  up : ∀ (i : Nat) x y, ts[i]? = some x → ts[i + 1]? = some y → x < y
  lo : ∀ y ∈ ts, 1 ≤ y
  hi : ∀ y ∈ ts, y ≤ 1000
theorem sc_check_taps : FnScope ["value", "before", "index", "tap"] ["value"] (defScope s_check_taps) := ⟨rfl, rfl, rfl, by decide +kernel, rfl, by decide +kernel, by decide +kernel⟩
def spCT (K : PySem.W.Frag) : Sp := fun vs H Q _ => ∃ (t : Addr) (ts : List Int), vs = [.ref t] ∧ H t = some (.tup (ts.map V.int)) ∧ TpOk ts ∧ ∀ H', Le H H' → Q .non H'
theorem c_check_taps (E : En K mg) : C8.Cal P w K mg base 3 "check_taps" (spCT K) [] := by
  obtain ⟨fd, F⟩ := E.f_check_taps
  refine cal_mk F E.g_check_taps sc_check_taps (fun _ _ _ _ _ _ us hl => match us, hl with | [_], _ => rfl) (fun vs H Q E h => by obtain ⟨t, ts, rfl, _⟩ := h; rfl) fun cdv A outer s H vs Q E' hr h => ⟨_, (pss_cons (ps_if (pt_not (pt_val (pe_callB (c_isiK K (by rfl)) (by rfl) E.z_isinstance b_isinstance (pa_cons (pv 0) (pa_cons (pe_bltn (v := .ty "tuple") (by rfl) E.z_tuple b_tuple rfl) pa_nil))))) (pss_one ps_never) pss_nil)
      (pss_cons (ps_set (i := 1) sc_check_taps.nd rfl (Or.inl rfl) pe_int)
      (pss_one (ps_for PassesOwn.never rfl (pi_enumT K (by rfl) (by rfl) E.z_enumerate (pa_cons (pv 0) pa_nil)) (pg_tupK (n := 2) K (by rfl) rfl (pgs_cons (pg_name (i := 2) sc_check_taps.nd rfl (Or.inl rfl)) (pgs_cons (pg_name (i := 3) sc_check_taps.nd rfl (Or.inl rfl)) pgs_nil))) (pss_cons (ps_if (PW.pt (pw_or (pt_cmpR op_eq (pv 2) (C8.pe_gc (by rfl) E.i_MOST_TAPS) (nomark _)) (pw_or (pt_not (pt_val (C8.pe_c (c_is_between E) hr (by decide) (by rfl) (pa_cons (pv 3) (pa_cons pe_int (pa_cons (C8.pe_gc (by rfl) E.i_MOST_PLACE) pa_nil)))))) (pw_or1 (pt_cmpR op_le (pv 3) (pv 1) (nomark _)))))) (pss_one ps_never) pss_nil)
      (pss_one (ps_set (i := 1) sc_check_taps.nd rfl (Or.inl rfl) (pv 3)))))))), ?_⟩
  obtain ⟨t, ts, rfl, ht, ok, k⟩ := h
  one_item
  refine r_isi (.base (.tup ht)) (kit_ty (r := true) (by decide +kernel)) ?_
  top_name
  refine for_it (walk_enumT (a := t) (xs := ts.map V.int)) (fun i σ H' => Le H H' ∧ ∃ (b : Int) (x2 x3 : Option V), σ = [some (.ref t), some (.int b), x2, x3] ∧ ((i = 0 ∧ b = 0) ∨ ∃ j, i = j + 1 ∧ ts[j]? = some b)) ⟨Same.refl _, 0, none, none, rfl, .inl ⟨rfl, rfl⟩⟩ (fun i σ H' _ h => SqT.of (h.1 _ _ ht)) ?_ ?_
  · rintro i x σ H1 H2 hi ⟨e1, b, x2, x3, rfl, hb⟩ y
    obtain ⟨T, x, y, rfl, e2, hT, hT2, hx, hy⟩ := yp_of y
    obtain ⟨z, hz, rfl⟩ := some_int hy
    cases hx
    have hl := ok.len
    have hi' : i < ts.length := by simpa using hi
    have z1 := ok.lo z (List.mem_of_getElem? hz)
    have z2 := ok.hi z (List.mem_of_getElem? hz)
    have hbz : b < z := by
      rcases hb with ⟨rfl, rfl⟩ | ⟨j, rfl, hj⟩
      · omega
      · exact ok.up j b z hj hz
    top_name
    refine if_dec (fun h => by omega) (fun _ => ?_)
    top_name
    refine ⟨_, _, _, rfl, ?_⟩
    rw [decide_eq_true (by omega : (1 : Int) ≤ z), decide_eq_true (by omega : z ≤ 1000000000000000000000000000000), Bool.and_self]
    top_name
    refine if_dec (fun h => by omega) (fun _ => ?_)
    top_name
    exact ⟨e1.trans e2, z, _, _, rfl, .inr ⟨i, rfl, hz⟩⟩
  · rintro σ H1 ⟨e1, b, x2, x3, rfl, hb⟩
    top_name
    exact k _ e1
theorem sc_check_row : FnScope ["garden", "places", "taps", "most"] ["garden", "places", "taps", "most"] (defScope s_check_row) := ⟨rfl, rfl, rfl, by decide +kernel, rfl, by decide +kernel, by decide +kernel⟩
def spCR (K : PySem.W.Frag) : Sp := fun vs H Q _ => ∃ (a p t : Addr) (c : Int) (bs : List (Option Int)) (ts : List Int) (n m : Int), vs = [.ref a, .int n, .ref t, .int m] ∧ Gd K H a p c bs ∧ H t = some (.tup (ts.map V.int)) ∧ TpOk ts ∧ 0 ≤ n ∧ n ≤ m ∧ ∀ H', Le H H' → Q .non H'
theorem c_check_row (E : En K mg) : C8.Cal P w K mg base 4 "check_row" (spCR K) [] := by
  obtain ⟨fd, F⟩ := E.f_check_row
  refine cal_mk F E.g_check_row sc_check_row (fun _ _ _ _ _ _ us hl => match us, hl with | [_, _, _, _], _ => rfl) (fun vs H Q E h => by obtain ⟨a, p, t, c, bs, ts, n, m, rfl, _⟩ := h; rfl) fun cdv A outer s H vs Q E' hr h => ⟨_, (pss_cons (ps_expr (C8.pe_c (c_check_garden E) hr (by decide) (by rfl) (pa_cons (pv 0) pa_nil)))
      (pss_cons (ps_expr (C8.pe_c (c_check_number E) hr (by decide) (by rfl) (pa_cons (pv 1) (pa_cons pe_int (pa_cons (pv 3) pa_nil)))))
      (pss_one (ps_expr (C8.pe_c (c_check_taps E) hr (by decide) (by rfl) (pa_cons (pv 2) pa_nil)))))), ?_⟩
  obtain ⟨a, p, t, c, bs, ts, n, m, rfl, hg, ht, ok, n0, n1, k⟩ := h
  one_item
  refine ⟨a, p, c, bs, rfl, hg, ?_⟩
  top_name
  refine ⟨_, _, _, rfl, n0, n1, ?_⟩
  top_name
  exact ⟨t, ts, rfl, ht, ok, fun H' e => k H' e⟩
end
set_option Elab.async false
set_option linter.all false
set_option maxRecDepth 100000
set_option maxHeartbeats 4000000
open PySem PySem.Spec PyProof.Rows L2

theorem pairs_da {S : Addr → Prop} {H : Hp} : ∀ {ps : List (Addr × Int × Int)}, (∀ z ∈ ps, ¬ S z.1 ∧ H z.1 = some (.tup [.int z.2.1, .int z.2.2])) → DaL S H ((ps.map (·.2)).map prD) (ps.map fun z => V.ref z.1)
  | [], _ => .nil
  | z :: ps, h => .cons (.tup (h z (by simp)).1 (h z (by simp)).2 (.cons (.int _) (.cons (.int _) .nil))) (pairs_da fun y hy => h y (by simp [hy]))
section
variable {P : Program} {w : World} {K : PySem.W.Frag} {mg : Str → Option Value} {base : Heap}
theorem sc_pours_of : FnScope ["garden", "first", "last", "found", "number", "place"] ["garden", "first", "last"] (defScope s_pours_of) := ⟨rfl, rfl, rfl, by decide +kernel, rfl, by decide +kernel, by decide +kernel⟩
def spPO (K : PySem.W.Frag) : Sp := fun vs H Q _ => ∃ (a p : Addr) (c : Int) (bs : List (Option Int)) (f l : Int), vs = [.ref a, .int f, .int l] ∧ Gd K H a p c bs ∧ 0 < (bz bs).sum ∧ -450000 ≤ f ∧ f ≤ 450000 ∧ -450000 ≤ l ∧ l ≤ 450000 ∧
  ∀ H' v (ps : List (Int × Int)), Le H H' → Da (Fr H) H' (.tuple (ps.map prD)) v → (ps.length : Int) ≤ max 0 (l + 1 - f) → Q v H'
theorem c_pours_of (E : En K mg) : C8.Cal P w K mg base 4 "pours_of" (spPO K) [] := by
  obtain ⟨fd, F⟩ := E.f_pours_of
  refine cal_mk F E.g_pours_of sc_pours_of (fun _ _ _ _ _ _ us hl => match us, hl with | [_, _, _], _ => rfl) (fun vs H Q E h => by obtain ⟨a, p, c, bs, f, l, rfl, _⟩ := h; rfl) fun cdv A outer s H vs Q E' hr h => ⟨_, (pss_cons (ps_set (i := 3) sc_pours_of.nd rfl (Or.inl rfl) pe_dnewK)
      (pss_cons (ps_for PassesOwn.never rfl (pi_range2 rfl E.z_range (pa_cons (pv 1) (pa_cons (pe_op op_add (pv 2) pe_int) pa_nil))) (pg_name (i := 4) sc_pours_of.nd rfl (Or.inl rfl)) (pss_cons (ps_set (i := 5) sc_pours_of.nd rfl (Or.inl rfl) (C8.pe_c (c_place_of_litre E) hr (by decide) (by rfl) (pa_cons (pv 0) (pa_cons (pv 4) pa_nil))))
      (pss_one (ps_dput (hu_of hr) (pv 3) (pv 5) (pe_op op_add (pe_dget2 (hu_of hr) (pv 3) (pv 5) pe_int ⟨rfl, rfl, rfl, rfl⟩) pe_int) rfl))))
      (pss_one (ps_ret (pe_callTy (c_tupOK K (by rfl)) (by rfl) E.z_tuple b_tuple (pa_cons (pe_sortIt rfl (hu64 hr) (pv 3) (by rfl) E.z_sorted) pa_nil)))))), ?_⟩
  obtain ⟨a, p, c, bs, f, l, rfl, hg, hs, f0, f1, l0, l1, k⟩ := h
  one_item
  refine r_dnew fun d H1 hd e1 h1 => ?_
  top_name
  refine for_range (fun i σ H' => Le H H' ∧ ∃ (x4 x5 : Option V) (kvs : List (Key × V)), σ = [some (.ref a), some (.int f), some (.int l), some (.ref d), x4, x5] ∧ H' d = some (.dK kvs) ∧ IntsD kvs ∧ kvs.length ≤ i) ⟨e1, none, none, [], rfl, h1, (fun _ h => nomatch h), Nat.le_refl _⟩ ?_ ?_
  · rintro i σ H2 hi ⟨e2, x4, x5, kvs, rfl, h2, hk, hn⟩
    have hg2 := hg.le e2
    top_name
    refine ⟨a, p, c, bs, _, rfl, hg2, hs, fun r H3 e3 => ?_⟩
    have h3 := e3 _ _ h2
    top_name
    obtain ⟨z, hz⟩ := hk.get r 0
    refine ⟨_, DGet.k (k := Sum.inl r) h3, ?_⟩
    rw [hz]
    top_name
    refine k_dput h3 hk (by omega) fun kvs' H4 e4 h4 hk' hn' => ?_
    exact ⟨le_mut (e2.trans e3) hd e4, _, _, kvs', rfl, h4, hk', by omega⟩
  · rintro σ H2 ⟨e2, x4, x5, kvs, rfl, h2, hk, hn⟩
    top_name
    refine k_sortIt h2 hk fun H3 q ps e3 hq h3 hl hps => ?_
    top_name
    refine r_tupO (SqL.of h3) fun q2 H4 hq2 e4 h4 => ?_
    refine k _ _ (ps.map (·.2)) (e2.trans (e3.trans e4)) (.tup (fun z => z (le_free (e2.trans e3) hq2)) h4 (pairs_da fun z hz => ?_)) (by simp only [List.length_map]; omega)
    obtain ⟨z1, z2⟩ := hps z hz
    exact ⟨fun n => n (le_free e2 z1), e4 _ _ z2⟩
end
set_option Elab.async false
set_option linter.all false
set_option maxRecDepth 100000
set_option maxHeartbeats 4000000
open PySem PySem.Spec PyProof.Rows L2

def WkOk (ws : List Wk) : Prop := ∀ x ∈ ws, x.2.2.length ≤ 5000
theorem WkOk.snoc {ws : List Wk} {x : Wk} (h : WkOk ws) (hx : x.2.2.length ≤ 5000) : WkOk (ws ++ [x]) := fun y hy => by
  rcases List.mem_append.mp hy with hy | hy
  · exact h y hy
  · have e : y = x := by simpa using hy
    rw [e]; exact hx
theorem WkOk.app {ws us : List Wk} (h : WkOk ws) (hx : WkOk us) : WkOk (ws ++ us) := fun y hy => by
  rcases List.mem_append.mp hy with hy | hy
  · exact h y hy
  · exact hx y hy
/-- a list at q, all new since H, of walks -/
structure WL (H H' : Hp) (q : Addr) (ws : List Wk) : Prop where
  n : H q = none
  at_ : ∃ vs, H' q = some (.lst vs) ∧ vs.length = ws.length ∧ DaL (Fx H q) H' (ws.map wkD) vs
  ok : WkOk ws
section
variable {P : Program} {w : World} {K : PySem.W.Frag} {mg : Str → Option Value} {base : Heap}
theorem sc_walks_back : FnScope ["garden", "tap", "first", "last", "is_left", "found", "low", "high", "start", "end"] ["garden", "tap", "first", "last", "is_left"] (defScope s_walks_back) := ⟨rfl, rfl, rfl, by decide +kernel, rfl, by decide +kernel, by decide +kernel⟩
def spWB (K : PySem.W.Frag) : Sp := fun vs H Q _ => ∃ (a p : Addr) (c : Int) (bs : List (Option Int)) (t f l : Int) (b : Bool), vs = [.ref a, .int t, .int f, .int l, .bl b] ∧ Gd K H a p c bs ∧ 0 < (bz bs).sum ∧ -400000 ≤ f ∧ f ≤ 400000 ∧ -400000 ≤ l ∧ l ≤ 400000 ∧
  ∀ H' q (ws : List Wk), Le H H' → WL H H' q ws → (ws.length : Int) ≤ max 0 (l + 1 - f) → Q (.ref q) H'
theorem c_walks_back (E : En K mg) : C8.Cal P w K mg base 5 "walks_back" (spWB K) [] := by
  obtain ⟨fd, F⟩ := E.f_walks_back
  refine cal_mk F E.g_walks_back sc_walks_back (fun _ _ _ _ _ _ us hl => match us, hl with | [_, _, _, _, _], _ => rfl) (fun vs H Q E h => by obtain ⟨a, p, c, bs, t, f, l, b, rfl, _⟩ := h; rfl) fun cdv A outer s H vs Q E' hr h => ⟨_, (pss_cons (ps_set (i := 5) sc_walks_back.nd rfl (Or.inl rfl) (pe_lst pa_nil))
      (pss_cons (ps_par (i := 6) (j := 7) (by rfl) sc_walks_back.nd rfl rfl (by decide) rfl rfl (pa_cons (pv 2) (pa_cons (pv 3) pa_nil)) (by rfl))
      (pss_cons (ps_while PassesOwn.never (pt_cmpR op_le (pv 6) (pv 7) (nomark _)) (pss_cons (ps_set (i := 8) sc_walks_back.nd rfl (Or.inl rfl) (pe_ifExp (pt_val (pv 4)) (pe_callB (c_max2 rfl) (by rfl) E.z_max b_max (pa_cons (pv 6) (pa_cons (pe_op op_add (pe_op op_sub (pv 7) (pe_propK K (by rfl) (pv 0) (p_can E) hr (by decide))) pe_int) pa_nil))) (pv 6)))
      (pss_cons (ps_set (i := 9) sc_walks_back.nd rfl (Or.inl rfl) (pe_ifExp (pt_val (pv 4)) (pv 7) (pe_callB (c_min2 rfl) (by rfl) E.z_min b_min (pa_cons (pv 7) (pa_cons (pe_op op_sub (pe_op op_add (pv 6) (pe_propK K (by rfl) (pv 0) (p_can E) hr (by decide))) pe_int) pa_nil)))))
      (pss_cons (ps_expr (pe_bmK K (by rfl) PySem.F.plainAttrs_list PySem.F.slot_list_append PySem.F.type_list_append mt_append (pv 5) (pa_cons (pe_tup (pa_cons (pv 1) (pa_cons (pv 1) (pa_cons (C8.pe_c (c_pours_of E) hr (by decide) (by rfl) (pa_cons (pv 0) (pa_cons (pv 8) (pa_cons (pv 9) pa_nil)))) pa_nil)))) pa_nil)))
      (pss_one (ps_asg (pe_ifExp (pt_val (pv 4)) (pe_tup (pa_cons (pv 6) (pa_cons (pe_op op_sub (pv 8) pe_int) pa_nil))) (pe_tup (pa_cons (pe_op op_add (pv 9) pe_int) (pa_cons (pv 7) pa_nil)))) (pg_tupK (n := 2) K (by rfl) rfl (pgs_cons (pg_name (i := 6) sc_walks_back.nd rfl (Or.inl rfl)) (pgs_cons (pg_name (i := 7) sc_walks_back.nd rfl (Or.inl rfl)) pgs_nil)))))))))
      (pss_one (ps_ret (pv 5)))))), ?_⟩
  obtain ⟨a, p, c, bs, t, f, l, b, rfl, hg, hs, f0, f1, l0, l1, k⟩ := h
  have c1 := hg.ok.c1
  have c2 := hg.ok.c2
  one_item
  refine newz_ (Nat.zero_le _) fun q H1 hq e1 h1 => ?_
  top_name
  refine while_by (fun σ H' => Le H H' ∧ ∃ (lo hi : Int) (x8 x9 : Option V) (ws : List Wk) (vs : List V), σ = [some (.ref a), some (.int t), some (.int f), some (.int l), some (.bl b), some (.ref q), some (.int lo), some (.int hi), x8, x9] ∧ H' q = some (.lst vs) ∧ vs.length = ws.length ∧ DaL (Fx H q) H' (ws.map wkD) vs ∧ WkOk ws ∧ -400000 ≤ lo ∧ lo ≤ 400001 ∧ -400001 ≤ hi ∧ hi ≤ 400000 ∧ (ws.length : Int) + max 0 (hi + 1 - lo) ≤ max 0 (l + 1 - f)) (fun σ _ => match σ with | [_, _, _, _, _, _, some (.int lo), some (.int hi), _, _] => (hi + 1 - lo).toNat | _ => 0) ⟨e1, f, l, none, none, [], [], rfl, h1, rfl, .nil, (fun _ h => nomatch h), by omega, by omega, by omega, by omega, by simp⟩ ?_ ?_
  · rintro σ H2 ⟨e2, lo, hi, x8, x9, ws, vs, rfl, h2, hl, hd, hw, b0, b1, b2, b3, hn⟩
    have hg2 := hg.le e2
    top_name
    refine if_dec (fun h => ?_) (fun h => ?_)
    · have key : ∀ (σ0 : L2.St) (st en : Int) (H3 : Hp) (R : V → Hp → Prop) (u : V) (ps : List (Int × Int)), Le H2 H3 → Da (Fr H2) H3 (.tuple (ps.map prD)) u → (ps.length : Int) ≤ max 0 (en + 1 - st) → en + 1 - st ≤ 5000 →
          (∀ (H5 : Hp) (T : Addr), Le H H5 → H5 q = some (.lst (vs ++ [V.ref T])) → (vs ++ [V.ref T]).length = (ws ++ [((t, t, ps) : Wk)]).length → DaL (Fx H q) H5 ((ws ++ [((t, t, ps) : Wk)]).map wkD) (vs ++ [V.ref T]) → WkOk (ws ++ [((t, t, ps) : Wk)]) → R .non H5) →
          ([V.int t, V.int t, u] : List V).length ≤ sizeLine ∧ ∀ T, H3 T = none → tNil σ0 (upd H3 T (.tup [.int t, .int t, u])) fun xs H2 => rAppend (.ref q) (.ref T :: xs) H2 R := by
        intro σ0 st en H3 R u ps e3 hu hps hb hR
        refine newz_ (K := fun T H' => rAppend (.ref q) [.ref T] H' R) (by simp) fun T H4 hT e4 h4 => ?_
        have h24 := (e3.trans e4) _ _ h2
        refine k_app h24 (by omega) fun H5 e5 h5 => ?_
        have hqn : H2 q ≠ none := by rw [h2]; simp
        have hTn : ¬ Fx H q T := fun z => z.elim (fun z => z (le_free (e2.trans e3) hT)) (fun z => by subst z; exact hqn (le_free e3 hT))
        have d1 : DaL (Fx H q) H4 (ws.map wkD) vs := hd.le (e3.trans e4)
        have d2 : Da (Fx H q) H4 (wkD (t, t, ps)) (.ref T) := .tup hTn h4 (.cons (.int _) (.cons (.int _) (.cons ((Fx.of hu e2 hqn).le e4) .nil)))
        have d3 : DaL (Fx H q) H4 ((ws ++ [((t, t, ps) : Wk)]).map wkD) (vs ++ [V.ref T]) := by
          rw [List.map_append]; exact d1.append (.cons d2 .nil)
        exact hR H5 T (le_mut (e2.trans (e3.trans e4)) hq e5) h5 (by simp [hl]) (Fx.leB d3 e5) (hw.snoc (by show ps.length ≤ 5000; omega))
      cases b with
      | true =>
        top_name
        refine ⟨a, p, c, bs, _, _, rfl, hg2, hs, by omega, by omega, by omega, by omega, fun H3 u ps e3 hu hps => ?_⟩
        top_name
        refine key _ _ _ H3 _ u ps e3 hu hps (by omega) fun H5 T e5 h5 l5 d5 w5 => ?_
        top_name
        refine ⟨szl (by simp), fun T2 hT2 => ?_⟩
        generalize hH6 : upd H5 T2 _ = H6
        have h6 := (congrFun hH6 T2).symm.trans upd_same
        have e6 : Le H5 H6 := hH6 ▸ le_new hT2
        top_name
        refine ⟨⟨e5.trans e6, _, _, _, _, ws ++ [((t, t, ps) : Wk)], _, rfl, e6 _ _ h5, l5, d5.le e6, w5, by omega, by omega, by omega, by omega, ?_⟩, ?_⟩
        · simp only [List.length_append, List.length_cons, List.length_nil]; omega
        · show (_ : Int).toNat < (hi + 1 - lo).toNat
          omega
      | false =>
        top_name
        refine ⟨a, p, c, bs, _, _, rfl, hg2, hs, by omega, by omega, by omega, by omega, fun H3 u ps e3 hu hps => ?_⟩
        top_name
        refine key _ _ _ H3 _ u ps e3 hu hps (by omega) fun H5 T e5 h5 l5 d5 w5 => ?_
        top_name
        refine ⟨szl (by simp), fun T2 hT2 => ?_⟩
        generalize hH6 : upd H5 T2 _ = H6
        have h6 := (congrFun hH6 T2).symm.trans upd_same
        have e6 : Le H5 H6 := hH6 ▸ le_new hT2
        top_name
        refine ⟨⟨e5.trans e6, _, _, _, _, ws ++ [((t, t, ps) : Wk)], _, rfl, e6 _ _ h5, l5, d5.le e6, w5, by omega, by omega, by omega, by omega, ?_⟩, ?_⟩
        · simp only [List.length_append, List.length_cons, List.length_nil]; omega
        · show (_ : Int).toNat < (hi + 1 - lo).toNat
          omega
    · top_name
      exact k _ _ ws e2 ⟨hq, ⟨vs, h2, hl, hd⟩, hw⟩ (by omega)
  · rintro σ H' Q Q' f ⟨v, e, v2, e3, i, j, h1, h2, k, e2, q⟩
    exact ⟨v, e, v2, e3, i, j, h1, h2, k, e2, f _ _ q⟩
end
set_option Elab.async false
set_option linter.all false
set_option maxRecDepth 100000
set_option maxHeartbeats 4000000
open PySem PySem.Spec PyProof.Rows L2

/-- a crossing: the walks ahead and the walk back, all of it outside S -/
structure CrO (K : PySem.W.Frag) (S : Addr → Prop) (H : Hp) (x : Addr) (ws : List Wk) (bk : Wk) : Prop where
  ob : ∃ dx fs q v vs, ¬ S x ∧ ¬ S q ∧ H x = some (.ins (He.ga K "Crossing") dx fs) ∧ fs.lookup ("ahead" : Str) = some (.ref q) ∧ fs.lookup ("back" : Str) = some v ∧ H q = some (.lst vs) ∧ vs.length = ws.length ∧ DaL S H (ws.map wkD) vs ∧ Da S H (wkD bk) v
  ok : WkOk ws
  okb : bk.2.2.length ≤ 5000
theorem CrO.mono {K : PySem.W.Frag} {S S' : Addr → Prop} {H H' : Hp} {x : Addr} {ws : List Wk} {bk : Wk} (c : CrO K S H x ws bk) (k : ∀ a o, ¬ S a → H a = some o → ¬ S' a ∧ H' a = some o) : CrO K S' H' x ws bk := by
  obtain ⟨⟨dx, fs, q, v, vs, n1, n2, h1, h2, h3, h4, h5, h6, h7⟩, o, ob⟩ := c
  exact ⟨⟨dx, fs, q, v, vs, (k _ _ n1 h1).1, (k _ _ n2 h4).1, (k _ _ n1 h1).2, h2, h3, (k _ _ n2 h4).2, h5, h6.mono k, h7.mono k⟩, o, ob⟩
theorem CrO.le {K : PySem.W.Frag} {S : Addr → Prop} {H H1 : Hp} {x : Addr} {ws : List Wk} {bk : Wk} (c : CrO K S H x ws bk) (e : Le H H1) : CrO K S H1 x ws bk := c.mono fun a o n h => ⟨n, e _ _ h⟩
section
variable {P : Program} {w : World} {K : PySem.W.Frag} {mg : Str → Option Value} {base : Heap}
theorem sc_Crossing_init : FnScope ["self", "garden", "left", "right", "gap", "litres", "others", "first", "last", "low", "high", "middle"] ["self", "garden", "left", "right"] (defScope s_Crossing_init) := ⟨rfl, rfl, rfl, by decide +kernel, rfl, by decide +kernel, by decide +kernel⟩
def spCrI (K : PySem.W.Frag) : Sp := fun vs H Q _ => ∃ (H0 : Hp) (x a p dx : Addr) (c : Int) (bs : List (Option Int)) (l r : Int), vs = [.ref x, .ref a, .int l, .int r] ∧ Le H0 H ∧ H0 x = none ∧ H x = some (.ins (He.ga K "Crossing") dx []) ∧ Gd K H0 a p c bs ∧ 0 < (bz bs).sum ∧ 0 ≤ l ∧ l < r ∧ r ≤ 100 ∧
  ∀ H' ws bk, Le H0 H' → CrO K (Fr H0) H' x ws bk → (ws.length : Int) ≤ 45 * r + 1 → Q .non H'
theorem k_Crossing (E : En K mg) : C8.Mak P w K mg base 8 "Crossing" (He.ga K "Crossing") (spCrI K) [] := by
  obtain ⟨fd, F⟩ := E.f_Crossing_init
  refine mak_mk E.mk_Crossing E.g_Crossing F sc_Crossing_init (fun _ _ _ _ _ _ us hl => match us, hl with | [_, _, _, _], _ => rfl) (fun vs H Q E h => by obtain ⟨H0, x, a, p, dx, c, bs, l, r, rfl, _⟩ := h; rfl) fun cdv A outer s H vs Q E' hr h => ⟨_, (pss_cons (ps_set (i := 4) sc_Crossing_init.nd rfl (Or.inl rfl) (C8.pe_mk (k_Gap E) hr (by decide) (by rfl) (pa_cons (pv 1) (pa_cons (pv 2) (pa_cons (pv 3) pa_nil)))))
      (pss_cons (ps_asg (C8.pe_mt0 (m_Gap_best_split E) hr (by decide) (pv 4)) (pg_tupK (n := 2) K (by rfl) rfl (pgs_cons (pg_name (i := 5) sc_Crossing_init.nd rfl (Or.inl rfl)) (pgs_cons (pg_name (i := 6) sc_Crossing_init.nd rfl (Or.inl rfl)) pgs_nil))))
      (pss_cons (ps_par (i := 7) (j := 8) (by rfl) sc_Crossing_init.nd rfl rfl (by decide) rfl rfl (pa_cons (pe_op op_add (pe_fldK K (by rfl) (pv 4)) pe_int) (pa_cons (pe_op op_add (pe_fldK K (by rfl) (pv 4)) (pe_fldK K (by rfl) (pv 4))) pa_nil)) (by rfl))
      (pss_cons (ps_par (i := 9) (j := 10) (by rfl) sc_Crossing_init.nd rfl rfl (by decide) rfl rfl (pa_cons (pe_op op_add (pv 7) (pv 5)) (pa_cons (pe_op op_sub (pv 8) (pv 6)) pa_nil)) (by rfl))
      (pss_cons (ps_set (i := 11) sc_Crossing_init.nd rfl (Or.inl rfl) (pe_callB (c_min2 rfl) (by rfl) E.z_min b_min (pa_cons (pv 10) (pa_cons (pe_op op_sub (pe_op op_add (pv 9) (pe_propK K (by rfl) (pv 1) (p_can E) hr (by decide))) pe_int) pa_nil))))
      (pss_cons (ps_fldK K (by rfl) (pv 0) (C8.pe_c (c_walks_back E) hr (by decide) (by rfl) (pa_cons (pv 1) (pa_cons (pv 2) (pa_cons (pv 7) (pa_cons (pe_op op_sub (pv 9) pe_int) (pa_cons pe_bl pa_nil)))))))
      (pss_cons (ps_expr (pe_bmK K (by rfl) PySem.F.plainAttrs_list PySem.F.slot_list_append PySem.F.type_list_append mt_append (pe_fldK K (by rfl) (pv 0)) (pa_cons (pe_tup (pa_cons (pv 2) (pa_cons (pv 3) (pa_cons (C8.pe_c (c_pours_of E) hr (by decide) (by rfl) (pa_cons (pv 1) (pa_cons (pv 9) (pa_cons (pv 11) pa_nil)))) pa_nil)))) pa_nil)))
      (pss_cons (ps_expr (pe_bmK K (by rfl) PySem.F.plainAttrs_list PySem.F.slot_list_extend PySem.F.type_list_extend mt_extend (pe_fldK K (by rfl) (pv 0)) (pa_cons (C8.pe_c (c_walks_back E) hr (by decide) (by rfl) (pa_cons (pv 1) (pa_cons (pv 3) (pa_cons (pe_op op_add (pv 10) pe_int) (pa_cons (pv 8) (pa_cons pe_bl pa_nil)))))) pa_nil)))
      (pss_one (ps_fldK K (by rfl) (pv 0) (pe_tup (pa_cons (pv 3) (pa_cons (pv 2) (pa_cons (C8.pe_c (c_pours_of E) hr (by decide) (by rfl) (pa_cons (pv 1) (pa_cons (pe_op op_add (pv 11) pe_int) (pa_cons (pv 10) pa_nil)))) pa_nil)))))))))))))), ?_⟩
  obtain ⟨H0, x, a, p, dx, c, bs, l, r, rfl, s0, x0, ho, hg, hs, l0, l1, l2, k⟩ := h
  have hgH := hg.le s0
  have c1 := hg.ok.c1
  have c2 := hg.ok.c2
  one_item
  refine fun g gdx hg1 hg2 hne => ⟨H, g, a, p, gdx, c, bs, l, r, rfl, make_le (p := x) hg1 hg2, hg1, upd_same, hgH, hs, l0, l1, by omega, fun H1 b m e1 hm gp => ⟨rfl, ?_⟩⟩
  top_name
  refine ⟨g, a, p, c, bs, l, r, b, m, rfl, gp, fun H2 q u v e2 h2 u0 u1 v0 v1 uv => ?_⟩
  have gp2 := gp.le e2
  have bb := gp.bb
  have mb := gp.mb
  top_name
  refine ⟨a, p, c, bs, l, _, _, true, rfl, gp2.gd, hs, by omega, by omega, by omega, by omega, fun H3 f ws e3 wl hwn => ?_⟩
  obtain ⟨fn, ⟨vs, f3, fl, fd3⟩, wok⟩ := wl
  have t2 : Le H H2 := e1.trans e2
  have t3 : Le H H3 := t2.trans e3
  have x2 : H2 x ≠ none := by rw [t2 _ _ ho]; simp
  have fx : f ≠ x := fun z => x2 (z ▸ fn)
  have f0 : H0 f = none := le_free (s0.trans t2) fn
  top_name
  refine k_sfldG (t3 _ _ ho) E.cl_Crossing E.n_Crossing_ahead (le_le lp0 (by decide)) fun H4 e4 o4 => ?_
  have t4 : Le H0 H4 := le_mut (s0.trans t3) x0 e4
  have hg4 := hg.le t4
  have f4 : H4 f = some (.lst vs) := e4 _ _ fx f3
  generalize hS : (fun a => H0 a ≠ none ∨ a = f ∨ a = x : Addr → Prop) = S
  have cv : ∀ {Hi Hj : Hp} {d : PyData} {v : V}, Le H0 Hi → Hi f ≠ none → Hi x ≠ none → Da (Fr Hi) Hj d v → Da S Hj d v := fun e n1 n2 h => by
    subst hS
    exact h.mono fun a' o n q => ⟨fun z => z.elim (fun z => n fun z1 => z (le_free e z1)) (fun z => z.elim (fun z => n (z ▸ n1)) (fun z => n (z ▸ n2))), q⟩
  have cvL : ∀ {Hi Hj : Hp} {g : Addr} {d : List PyData} {v : List V}, Le H0 Hi → Hi f ≠ none → Hi x ≠ none → DaL (Fx Hi g) Hj d v → DaL S Hj d v := fun e n1 n2 h => by
    subst hS
    exact h.mono fun a' o n q => ⟨fun z => n (.inl (z.elim (fun z z1 => z (le_free e z1)) (fun z => z.elim (fun z => z ▸ n1) (fun z => z ▸ n2)))), q⟩
  have d4 : DaL S H4 (ws.map wkD) vs := by
    subst hS
    exact fd3.mono fun a' o n q => ⟨fun z => z.elim (fun z => n (.inl fun z1 => z (le_free (s0.trans t2) z1))) (fun z => z.elim (fun z => n (.inr z)) (fun z => n (.inl (z ▸ x2)))), e4 _ _ (fun z => n (.inl (z ▸ x2))) q⟩
  top_name
  refine k_fld o4 E.cl_Crossing E.n_Crossing_ahead (v := .ref f) (by rw [lookup_putF, if_pos rfl]) ?_
  top_name
  refine ⟨a, p, c, bs, _, _, rfl, hg4, hs, by omega, by omega, by omega, by omega, fun H5 z ps e5 hz hps => ?_⟩
  top_name
  refine ⟨szl (by simp), fun T hT => ?_⟩
  generalize hH6 : upd H5 T _ = H6
  have h6 := (congrFun hH6 T).symm.trans upd_same
  have e6 : Le H5 H6 := hH6 ▸ le_new hT
  have n4f : H4 f ≠ none := by rw [f4]; simp
  have n4x : H4 x ≠ none := by rw [o4]; simp
  have hTS : ¬ S T := by
    subst hS
    exact fun z => z.elim (fun z => z (le_free (t4.trans e5) hT)) (fun z => z.elim (fun z => n4f (z ▸ le_free e5 hT)) (fun z => n4x (z ▸ le_free e5 hT)))
  have d6 : DaL S H6 ((ws ++ [((l, r, ps) : Wk)]).map wkD) (vs ++ [V.ref T]) := by
    rw [List.map_append]
    exact (d4.le (e5.trans e6)).append (.cons (.tup hTS h6 (.cons (.int _) (.cons (.int _) (.cons ((cv t4 n4f n4x hz).le e6) .nil)))) .nil)
  top_name
  refine k_app (by leaf_len) (by omega) fun H7 e7 h7 => ?_
  have o7 := e7 _ _ (Ne.symm fx) (e6 _ _ (e5 _ _ o4))
  have t7 : Le H0 H7 := le_mut (t4.trans (e5.trans e6)) f0 e7
  have d7 : DaL S H7 ((ws ++ [((l, r, ps) : Wk)]).map wkD) (vs ++ [V.ref T]) := d6.mono fun a' o n q => ⟨n, e7 _ _ (fun z => n (hS ▸ .inr (.inl z))) q⟩
  have hg7 := hg.le t7
  top_name
  refine k_fld o7 E.cl_Crossing E.n_Crossing_ahead (v := .ref f) (by rw [lookup_putF, if_pos rfl]) ?_
  top_name
  refine ⟨a, p, c, bs, r, _, _, false, rfl, hg7, hs, by omega, by omega, by omega, by omega, fun H8 f2 ws2 e8 wl2 hwn2 => ?_⟩
  obtain ⟨fn2, ⟨vs2, h8, fl2, fd8⟩, wok2⟩ := wl2
  top_name
  refine k_ext (by leaf_len) h8 (by simp only [List.length_append, List.length_cons, List.length_nil]; omega) fun H9 e9 h9 => ?_
  have n7f : H7 f ≠ none := by rw [h7]; simp
  have n7x : H7 x ≠ none := by rw [o7]; simp
  have d8 : DaL S H8 ((ws ++ [((l, r, ps) : Wk)] ++ ws2).map wkD) (vs ++ [V.ref T] ++ vs2) := by
    rw [List.map_append]
    exact (d7.le e8).append (cvL t7 n7f n7x fd8)
  have d9 : DaL S H9 ((ws ++ [((l, r, ps) : Wk)] ++ ws2).map wkD) (vs ++ [V.ref T] ++ vs2) := d8.mono fun a' o n q => ⟨n, e9 _ _ (fun z => n (hS ▸ .inr (.inl z))) q⟩
  have o9 := e9 _ _ (Ne.symm fx) (e8 _ _ o7)
  have t9 : Le H0 H9 := le_mut (t7.trans e8) f0 e9
  have hg9 := hg.le t9
  top_name
  refine ⟨a, p, c, bs, _, _, rfl, hg9, hs, by omega, by omega, by omega, by omega, fun H10 z2 ps2 e10 hz2 hps2 => ?_⟩
  top_name
  refine ⟨szl (by simp), fun T2 hT2 => ?_⟩
  generalize hH11 : upd H10 T2 _ = H11
  have h11 := (congrFun hH11 T2).symm.trans upd_same
  have e11 : Le H10 H11 := hH11 ▸ le_new hT2
  have n9f : H9 f ≠ none := by rw [h9]; simp
  have n9x : H9 x ≠ none := by rw [o9]; simp
  have hT2S : ¬ S T2 := by
    subst hS
    exact fun z => z.elim (fun z => z (le_free (t9.trans e10) hT2)) (fun z => z.elim (fun z => n9f (z ▸ le_free e10 hT2)) (fun z => n9x (z ▸ le_free e10 hT2)))
  have b11 : Da S H11 (wkD (r, l, ps2)) (.ref T2) := .tup hT2S h11 (.cons (.int _) (.cons (.int _) (.cons ((cv t9 n9f n9x hz2).le e11) .nil)))
  have o11 := e11 _ _ (e10 _ _ o9)
  top_name
  refine k_sfldG o11 E.cl_Crossing E.n_Crossing_back (le_le (lpS lp0) (by decide)) fun H12 e12 o12 => ?_
  have t12 : Le H0 H12 := le_mut (t9.trans (e10.trans e11)) x0 e12
  have keepS : ∀ a' o, ¬ S a' → H11 a' = some o → ¬ Fr H0 a' ∧ H12 a' = some o := fun a' o n q => ⟨fun z => n (hS ▸ .inl z), e12 _ _ (fun z => n (hS ▸ .inr (.inr z))) q⟩
  top_name
  refine k H12 (ws ++ [((l, r, ps) : Wk)] ++ ws2) (r, l, ps2) t12 ⟨⟨dx, _, f, .ref T2, _, (fun n => n x0), (fun n => n f0), o12, ?_, ?_, e12 _ _ fx (e11 _ _ (e10 _ _ h9)), ?_, (d9.le (e10.trans e11)).mono keepS, b11.mono keepS⟩, (wok.snoc (by show ps.length ≤ 5000; omega)).app wok2, (by show ps2.length ≤ 5000; omega)⟩ ?_
  · rw [lookup_putF, if_neg (by decide +kernel), lookup_putF, if_pos rfl]
  · rw [lookup_putF, if_pos rfl]
  · simp [fl, fl2]
  · simp only [List.length_append, List.length_cons, List.length_nil]; omega
end
set_option Elab.async false
set_option linter.all false
set_option maxRecDepth 100000
set_option maxHeartbeats 4000000
open PySem PySem.Spec PyProof.Rows L2

theorem spTH_of {K : PySem.W.Frag} {vs : List V} {Q : VK} {H : Hp} {E : XK} (h : ∃ (a p t : Addr) (c : Int) (bs : List (Option Int)) (ts : List Int) (pl n : Int), vs = [.ref a, .int pl, .int n, .ref t] ∧ Gd K H a p c bs ∧ SqT K H t (ts.map V.int) ∧ ts.length ≤ 4 ∧ 1 ≤ pl ∧ pl ≤ 200 ∧
  ∀ H' (o : Option Int), Le H H' → (∀ z, o = some z → pl < z ∧ z ≤ n) → Q (bv o) H') : spTH K vs H Q E := by
  obtain ⟨a, p, t, c, bs, ts, pl, n, h1, h2, h3, h4, h5, h6, h⟩ := h
  exact ⟨a, p, t, c, bs, ts, pl, n, h1, h2, h3, h4, h5, h6, fun H' e => h H' none e (by simp), fun H' z e z0 z1 => h H' (some z) e fun y hy => by cases hy; exact ⟨z0, z1⟩⟩
theorem r_isNb {Q : VK} {H : Hp} {o : Option Int} (h : Q (.bl o.isNone) H) : rIsN (bv o) .non H Q := by
  cases o with
  | none => exact r_isN0 h
  | some z => exact r_isNI h
theorem r_notNb {Q : VK} {H : Hp} {o : Option Int} (h : Q (.bl o.isSome) H) : rNotN (bv o) .non H Q := by
  cases o with
  | none => exact r_notN0 h
  | some z => exact r_notNI h
/-- the stops: growing ints -/
structure StOk (ns : List Int) (m : Int) : Prop where
  up : ns.Pairwise (· < ·)
  bd : ∀ y ∈ ns, 0 ≤ y ∧ y ≤ m
  len : ns.length ≤ 60
theorem StOk.get {ns : List Int} {m : Int} (h : StOk ns m) {i : Nat} {x y : Int} (hx : ns[i]? = some x) (hy : ns[i + 1]? = some y) : 0 ≤ x ∧ x < y ∧ y ≤ m := by
  obtain ⟨h1, e1⟩ := List.getElem?_eq_some_iff.mp hx
  obtain ⟨h2, e2⟩ := List.getElem?_eq_some_iff.mp hy
  have := List.pairwise_iff_getElem.mp h.up i (i + 1) h1 h2 (by omega)
  rw [e1, e2] at this
  exact ⟨(h.bd x (List.mem_of_getElem? hx)).1, this, (h.bd y (List.mem_of_getElem? hy)).2⟩
theorem stops_of (p : Int → Bool) (n : Nat) (hn : n ≤ 55) : ∃ ns : List Int, (List.range n).filterMap (fun i : Nat => if p (0 + (i : Int)) = true then some (V.int (0 + (i : Int))) else none) = ns.map V.int ∧ StOk ns ((n : Int) - 1) ∧ ns.length ≤ 55 := by
  refine ⟨((List.range n).filter fun i : Nat => p (0 + (i : Int))).map fun i : Nat => (0 + (i : Int)), ?_, ⟨?_, ?_, ?_⟩, ?_⟩
  · induction (List.range n) with
    | nil => rfl
    | cons i l ih =>
      rw [List.filterMap_cons, List.filter_cons]
      cases h : p (0 + (i : Int)) with
      | true =>
        rw [if_pos rfl, if_pos rfl, List.map_cons, List.map_cons, ← ih]
      | false =>
        rw [if_neg (by decide), if_neg (by decide)]
        exact ih
  · rw [List.pairwise_map]
    exact ((List.pairwise_lt_range).filter _).imp fun h => by omega
  · intro y hy
    obtain ⟨i, hi, rfl⟩ := List.mem_map.mp hy
    have := List.mem_range.mp (List.mem_filter.mp hi).1
    omega
  · rw [List.length_map]
    have h1 := List.length_filter_le (fun i : Nat => p (0 + (i : Int))) (List.range n)
    have h2 : (List.range n).length = n := List.length_range
    omega
  · rw [List.length_map]
    have h1 := List.length_filter_le (fun i : Nat => p (0 + (i : Int))) (List.range n)
    have h2 : (List.range n).length = n := List.length_range
    omega
theorem StOk.snoc {ns : List Int} {l r : Int} (h : StOk ns l) (hl : ns.length ≤ 55) (hr : l < r) (hr0 : 0 ≤ r) : StOk (ns ++ [r]) r := by
  refine ⟨?_, ?_, by simp; omega⟩
  · rw [List.pairwise_append]
    exact ⟨h.up, by simp, fun a ha b hb => by
      have e : b = r := by simpa using hb
      have := (h.bd a ha).2
      omega⟩
  · intro y hy
    rcases List.mem_append.mp hy with hy | hy
    · have := h.bd y hy; omega
    · have e : y = r := by simpa using hy
      omega
theorem cut_dropN (xs : List V) (k : Nat) : cutV xs (some (k : Int)) none = xs.drop k := by
  unfold cutV
  rw [HT.sIx_nat, HT.sIx_none]
  rw [List.take_of_length_le (by rw [List.length_drop]; omega)]
  by_cases h : k ≤ xs.length
  · rw [Nat.min_eq_left h]
  · rw [Nat.min_eq_right (by omega), List.drop_of_length_le (Nat.le_refl _), List.drop_of_length_le (by omega)]
theorem cut_drop1 (xs : List V) : cutV xs (some 1) none = xs.drop 1 := cut_dropN xs 1
theorem wpm_tup2 {K : PySem.W.Frag} {i j : Nat} (x : V) (σ : L2.St) (H : Hp) (P P' : L2.St → Hp → Prop) (f : ∀ s H', P s H' → P' s H') (h : gTup K 2 (gCons (gName i) (gCons (gName j) gNil)) x σ H P) : gTup K 2 (gCons (gName i) (gCons (gName j) gNil)) x σ H P' := by
  obtain ⟨a, xs, h1, h2, h3, v, vs, h4, v2, vs2, h5, h6, h7⟩ := h
  exact ⟨a, xs, h1, h2, h3, v, vs, h4, v2, vs2, h5, h6, f _ _ h7⟩
theorem walks_of {S : Addr → Prop} {H : Hp} : ∀ {out : List V}, (∀ (i : Nat) y, out[i]? = some y → ∃ bk, Da S H (wkD bk) y ∧ bk.2.2.length ≤ 5000) → ∃ bs : List Wk, DaL S H (bs.map wkD) out ∧ WkOk bs ∧ out.length = bs.length
  | [], _ => ⟨[], .nil, (fun _ h => nomatch h), rfl⟩
  | y :: out, h => by
    obtain ⟨bk, h1, h2⟩ := h 0 y rfl
    obtain ⟨bs, g1, g2, g3⟩ := walks_of (out := out) fun i y' e => h (i + 1) y' (by simpa using e)
    refine ⟨bk :: bs, .cons h1 g1, fun x hx => ?_, by simp [g3]⟩
    rcases List.mem_cons.mp hx with rfl | hx
    · exact h2
    · exact g2 x hx
section
variable {P : Program} {w : World} {K : PySem.W.Frag} {mg : Str → Option Value} {base : Heap}
theorem sc_plan_of : FnScope ["garden", "places", "taps", "last", "left", "right", "stops", "place", "gap", "walks", "crossings", "one", "other", "ahead", "crossing"] ["garden", "places", "taps"] (defScope s_plan_of) := ⟨rfl, rfl, rfl, by decide +kernel, rfl, by decide +kernel, by decide +kernel⟩
def spPl (K : PySem.W.Frag) : Sp := fun vs H Q _ => ∃ (a p t : Addr) (c : Int) (bs : List (Option Int)) (ts : List Int) (n : Int), vs = [.ref a, .int n, .ref t] ∧ Gd K H a p c bs ∧ H t = some (.tup (ts.map V.int)) ∧ TpOk ts ∧ 0 ≤ n ∧ n ≤ 50 ∧
  ∀ H' q vs (ws : List Wk), Le H H' → H q = none → H' q = some (.tup vs) → vs.length = ws.length → DaL (Fr H) H' (ws.map wkD) vs → WkOk ws → ws.length ≤ 300000 → Q (.ref q) H'
theorem c_plan_of (E : En K mg) : C8.Cal P w K mg base 10 "plan_of" (spPl K) [] := by
  obtain ⟨fd, F⟩ := E.f_plan_of
  refine cal_mk F E.g_plan_of sc_plan_of (fun _ _ _ _ _ _ us hl => match us, hl with | [_, _, _], _ => rfl) (fun vs H Q E h => by obtain ⟨a, p, t, c, bs, ts, n, rfl, _⟩ := h; rfl) fun cdv A outer s H vs Q E' hr h => ⟨_, (pss_cons (ps_set (i := 3) sc_plan_of.nd rfl (Or.inl rfl) (C8.pe_c (c_last_wanting E) hr (by decide) (by rfl) (pa_cons (pv 0) (pa_cons (pv 1) (pa_cons (pv 2) pa_nil)))))
      (pss_cons (ps_if (pt_cmpR op_isN1 (pv 3) pe_non (nomark _)) (pss_one (ps_ret (pe_tup pa_nil))) pss_nil)
      (pss_cons (ps_par (i := 4) (j := 5) (by rfl) sc_plan_of.nd rfl rfl (by decide) rfl rfl (pa_cons (C8.pe_c (c_tap_before E) hr (by decide) (by rfl) (pa_cons (pv 0) (pa_cons (pv 3) (pa_cons (pv 2) pa_nil)))) (pa_cons (C8.pe_c (c_tap_behind E) hr (by decide) (by rfl) (pa_cons (pv 0) (pa_cons (pv 3) (pa_cons (pv 1) (pa_cons (pv 2) pa_nil))))) pa_nil)) (by rfl))
      (pss_cons (ps_setLc (own := [("place", 7)]) (i := 6) rfl sc_plan_of.nd rfl rfl (sw_true rfl rfl rfl (by decide +kernel)) (pi_range1 rfl E.z_range (pa_cons (pe_op op_add (pv 4) pe_int) pa_nil)) (blkOk_by (own := [("place", 7)]) (N := ["garden", "places", "taps", "last", "left", "right", "stops", "place", "gap", "walks", "crossings", "one", "other", "ahead", "crossing"]) (sc := defScope s_plan_of) (by decide +kernel)) (fun _ _ _ _ _ => (pg_name (i := 7) sc_plan_of.nd rfl (Or.inl rfl))) (fun _ _ _ _ _ => (pts_one (pt_val (C8.pe_c (c_is_tapped E) hr (by decide) (by rfl) (pa_cons (pv 0) (pa_cons (pv 7) (pa_cons (pv 2) pa_nil))))))) (fun _ _ _ _ _ => (pv 7)))
      (pss_cons (ps_set (i := 8) sc_plan_of.nd rfl (Or.inl rfl) (C8.pe_mk (k_Gap E) hr (by decide) (by rfl) (pa_cons (pv 0) (pa_cons (pv 4) (pa_cons (pe_ifExp (pt_cmpR op_isN1 (pv 5) pe_non (nomark _)) (pe_op op_add (pv 3) pe_int) (pv 5)) pa_nil)))))
      (pss_cons (ps_set (i := 9) sc_plan_of.nd rfl (Or.inl rfl) (C8.pe_c (c_walks_back E) hr (by decide) (by rfl) (pa_cons (pv 0) (pa_cons (pv 4) (pa_cons (pe_op op_add (pe_fldK K (by rfl) (pv 8)) pe_int) (pa_cons (pe_op op_add (pe_fldK K (by rfl) (pv 8)) (pe_fldK K (by rfl) (pv 8))) (pa_cons pe_bl pa_nil)))))))
      (pss_cons (ps_if (PW.pt (pw_and (pt_cmpR op_notN1 (pv 5) pe_non (nomark _)) (pw_and1 (pt_cmpR op_lt (C8.pe_mt0 (m_Gap_cost_across E) hr (by decide) (pv 8)) (C8.pe_mt0 (m_Gap_cost_alone E) hr (by decide) (pv 8)) (nomark _))))) (pss_one (ps_par (i := 9) (j := 6) (by rfl) sc_plan_of.nd rfl rfl (by decide) rfl rfl (pa_cons (pe_lst pa_nil) (pa_cons (pe_lst (pa_starK K (by rfl) (pv 6) (pa_cons (pv 5) pa_nil))) pa_nil)) (by rfl))) pss_nil)
      (pss_cons (ps_setLc (own := [("one", 11), ("other", 12)]) (i := 10) rfl sc_plan_of.nd rfl rfl (sw_true rfl rfl rfl (by decide +kernel)) (pi_zipK K (by rfl) (by rfl) E.z_zip (pa_cons (pv 6) (pa_cons (pe_slice (sl_listK K (by rfl)) (pv 6) (po_some pe_int) po_none) pa_nil))) (blkOk_by (own := [("one", 11), ("other", 12)]) (N := ["garden", "places", "taps", "last", "left", "right", "stops", "place", "gap", "walks", "crossings", "one", "other", "ahead", "crossing"]) (sc := defScope s_plan_of) (by decide +kernel)) (fun _ _ _ _ _ => (pg_tupK (n := 2) K (by rfl) rfl (pgs_cons (pg_name (i := 11) sc_plan_of.nd rfl (Or.inl rfl)) (pgs_cons (pg_name (i := 12) sc_plan_of.nd rfl (Or.inl rfl)) pgs_nil)))) (fun _ _ _ _ _ => pts_nil) (fun _ _ _ _ _ => (C8.pe_mk (k_Crossing E) hr (by decide) (by rfl) (pa_cons (pv 0) (pa_cons (pv 11) (pa_cons (pv 12) pa_nil))))))
      (pss_cons (ps_set (i := 13) sc_plan_of.nd rfl (Or.inl rfl) (pe_lst pa_nil))
      (pss_cons (ps_for PassesOwn.never rfl (pi_listK K (by rfl) (pv 10)) (pg_name (i := 14) sc_plan_of.nd rfl (Or.inl rfl)) (pss_one (ps_expr (pe_bmK K (by rfl) PySem.F.plainAttrs_list PySem.F.slot_list_extend PySem.F.type_list_extend mt_extend (pv 13) (pa_cons (pe_fldK K (by rfl) (pv 14)) pa_nil)))))
      (pss_one (ps_ret (pe_callTy (c_tupOK K (by rfl)) (by rfl) E.z_tuple b_tuple (pa_cons (pe_lst (pa_starK K (by rfl) (pv 13) (pa_starK K (by rfl) (pv 9) (pa_starK K (by rfl) (pe_lc (own := [("crossing", 14)]) rfl sc_plan_of.nd (pi_listK K (by rfl) (pe_revLK K (by rfl) (pv 10))) (blkOk_by (own := [("crossing", 14)]) (N := ["garden", "places", "taps", "last", "left", "right", "stops", "place", "gap", "walks", "crossings", "one", "other", "ahead", "crossing"]) (sc := defScope s_plan_of) (by decide +kernel)) (fun _ _ _ _ _ => (pg_name (i := 14) sc_plan_of.nd rfl (Or.inl rfl))) (fun _ _ _ _ _ => pts_nil) (fun _ _ _ _ _ => (pe_fldK K (by rfl) (pv 14)))) pa_nil)))) pa_nil)))))))))))))), ?_⟩
  obtain ⟨a, p, t, c, bs, ts, n, rfl, hg, ht, hok, n0, n1, k⟩ := h
  have tl := hok.len
  one_item
  refine ⟨a, p, t, c, bs, ts, n, rfl, hg, SqT.of ht, tl, n0, by omega, ?_, fun pl p1 p2 hs => ?_⟩
  · top_name
    refine ⟨szl (by simp), fun q hq => ?_⟩
    exact k _ q [] [] (le_new hq) hq upd_same rfl .nil (fun _ h => nomatch h) (by simp)
  top_name
  refine ⟨a, p, t, c, bs, ts, pl, rfl, hg, SqT.of ht, tl, p1, by omega, hok.lo, fun H1 lf e1 f0 f1 => ?_⟩
  have hg1 := hg.le e1
  have ht1 := e1 _ _ ht
  top_name
  refine spTH_of ⟨a, p, t, c, bs, ts, pl, n, rfl, hg1, SqT.of ht1, tl, p1, by omega, fun H2 o e2 ho => ?_⟩
  have hg2 := hg1.le e2
  have ht2 := e2 _ _ ht1
  have t2 := e1.trans e2
  top_name
  refine lc_pure (fun i => if tapped bs ts (0 + (i : Int)) = true then some (V.int (0 + (i : Int))) else none) walk_range (by one_place) (by omega) (fun _ _ => trivial) ?_ fun D H3 hD e3 h3 => ?_
  · rintro i x H0 H' R N hi e ⟨rfl, rfl⟩ hR hN
    have hg' := hg2.le e
    have ht' := e _ _ ht2
    top_name
    refine ⟨a, p, t, c, bs, ts, _, rfl, hg', SqT.of ht', ?_⟩
    top_name
    refine if_b (fun h => ?_) (fun h => ?_)
    · top_name
      exact hR _ _ (Same.refl _) (by rw [if_pos h])
    · exact hN _ (Same.refl _) (by rw [if_neg (by rw [h]; decide)])
  obtain ⟨ns, en, hns, nl⟩ := stops_of (tapped bs ts) (lf + 1).toNat (by omega)
  rw [en] at h3
  have hg3 := hg2.le e3
  have t3 := t2.trans e3
  top_name
  refine r_isNb ?_
  top_name
  refine if_jn (fun x H' => H' = H3 ∧ ∃ r, x = .int r ∧ pl < r ∧ r ≤ n + 1) (fun x H' h => ?_) fun hk => ?_
  rotate_left
  · cases o with
    | none =>
      refine iteT ?_
      refine r_op ?_
      refine r_var rfl ?_
      refine r_C ?_
      refine r_I0 ?_
      exact hk _ _ ⟨rfl, pl + 1, rfl, by omega, by omega⟩
    | some z =>
      have := ho z rfl
      refine iteF ?_
      refine r_var rfl ?_
      exact hk _ _ ⟨rfl, z, rfl, by omega, by omega⟩
  obtain ⟨rfl, r, rfl, r0, r1⟩ := h
  top_name
  refine fun g gdx hg1 hg2' hne => ⟨H', g, a, p, gdx, c, bs, lf, r, rfl, make_le (p := D) hg1 hg2', hg1, upd_same, hg3, hs, f0, by omega, by omega, fun H4 b m e4 hm gp => ⟨rfl, ?_⟩⟩
  have bb := gp.bb
  have mb := gp.mb
  have hg4 := hg3.le e4
  top_name
  refine ⟨a, p, c, bs, lf, _, _, true, rfl, hg4, hs, by omega, by omega, by omega, by omega, fun H5 f ws e5 wl hwn => ?_⟩
  obtain ⟨fn, ⟨vs, f5, fl, fd5⟩, wok⟩ := wl
  have t5 : Le H H5 := t3.trans (e4.trans e5)
  have d5 : DaL (Fr H) H5 (ws.map wkD) vs := fd5.mono fun a' o n q => ⟨fun z => n (.inl fun z1 => z (le_free (t3.trans e4) z1)), q⟩
  have gp5 := gp.le e5
  have D5 := (e4.trans e5) _ _ h3
  (refine' r_gName ?e0 ?_)
  case e0 => (simp only [List.set_cons_succ, List.set_cons_zero]; exact rfl)
  (with_reducible refine r_seq ?_)
  refine ts_jn (fun σ' H' => ∃ (D' f' : Addr) (ns' : List Int) (m' : Int) (wsW : List Wk) (vsW : List V), σ' = [some (.ref a), some (.int n), some (.ref t), some (.int pl), some (.int lf), some (bv o), some (.ref D'), none, some (.ref g), some (.ref f'), none, none, none, none, none] ∧
    Le H5 H' ∧ H' D' = some (.lst (ns'.map V.int)) ∧ StOk ns' m' ∧ m' ≤ 60 ∧ H' f' = some (.lst vsW) ∧ vsW.length = wsW.length ∧ DaL (Fr H) H' (wsW.map wkD) vsW ∧ WkOk wsW ∧ wsW.length ≤ 3000) (fun σ' H' h => ?_) (fun hk => ?_)
  rotate_left
  · refine r_ifS ?_
    top_name
    refine r_notNb ?_
    top_name
    refine if_b (fun h => ?_) (fun h => ?_)
    · obtain ⟨z, rfl⟩ := Option.isSome_iff_exists.mp h
      have hz := ho z rfl
      top_name
      refine ⟨g, a, p, c, bs, lf, r, b, m, rfl, gp5, fun H6 z6 e6 => ?_⟩
      have gp6 := gp5.le e6
      top_name
      refine ⟨g, a, p, c, bs, lf, r, b, m, rfl, gp6, fun H7 z7 e7 => ?_⟩
      top_name
      refine if_dec (fun _ => ?_) (fun _ => ?_)
      · top_name
        refine ⟨Nat.zero_le _, fun q1 hq1 => ?_⟩
        generalize hH8 : upd H7 q1 _ = H8
        have h8 := (congrFun hH8 q1).symm.trans upd_same
        have e8 : Le H7 H8 := hH8 ▸ le_new hq1
        top_name
        refine r_starL (SqL.of (e8 _ _ (e7 _ _ (e6 _ _ D5)))) ?_
        top_name
        refine ⟨szl (by simp; omega), fun q2 hq2 => ?_⟩
        generalize hH9 : upd H8 q2 _ = H9
        have h9 := (congrFun hH9 q2).symm.trans upd_same
        have e9 : Le H8 H9 := hH9 ▸ le_new hq2
        refine r_nil ?_
        (refine' r_par2 ?e0 ?_)
        case e0 => (simp only [List.set_cons_succ, List.set_cons_zero]; exact rfl)
        have h9' : H9 q2 = some (.lst ((ns ++ [z]).map V.int)) := by rw [h9]; simp [bv]
        exact hk _ _ ⟨q2, q1, ns ++ [z], z, [], [], rfl, e6.trans (e7.trans (e8.trans e9)), h9', hns.snoc nl (by omega) (by omega), by omega, e9 _ _ h8, rfl, .nil, (fun _ h => nomatch h), by simp⟩
      · exact hk _ _ ⟨D, f, ns, _, ws, vs, rfl, e6.trans e7, (e6.trans e7) _ _ D5, hns, by omega, (e6.trans e7) _ _ f5, fl, d5.le (e6.trans e7), wok, by omega⟩
    · exact hk _ _ ⟨D, f, ns, _, ws, vs, rfl, Same.refl _, D5, hns, by omega, f5, fl, d5, wok, by omega⟩
  obtain ⟨D', f', ns', m', wsW, vsW, rfl, e6, hD', hns', hm', hf', hvl, dW, wokW, wlW⟩ := h
  have nl' := hns'.len
  top_name
  refine r_slL (SqL.of hD') fun q1 H7 hq1 e7 h7 => ?_
  rw [cut_drop1, ← List.map_drop] at h7
  have t7 : Le H H7 := t5.trans (e6.trans e7)
  have hg7 := hg.le t7
  have D7 := e7 _ _ hD'
  top_name
  refine lc_rel (fun D i y H' => ∃ x ws bk, y = V.ref x ∧ CrO K (Fx H7 D) H' x ws bk ∧ ws.length ≤ 4501) (walk_zip rfl) (by one_place) (by simp; omega) (fun H' e => ⟨SqL.of (e _ _ D7), SqL.of (e _ _ h7)⟩) (fun D i y H1 H2 _ h e => ?_) ?_ wpm_yes wpm_tup2 fun D2 H8 out hD2 e8 h8 hl8 hT8 => ?_
  · obtain ⟨x, ws, bk, h1, h2, h3⟩ := h
    exact ⟨x, ws, bk, h1, h2.mono fun a' o n q => ⟨n, e a' o (fun z => n (.inr z)) q⟩, h3⟩
  · rintro D i x H0 H8 R hD hi e8 ⟨acc, hacc⟩ y hR
    obtain ⟨T, x, y, rfl, e9, hT, hT9, hx, hy⟩ := yp_of y
    obtain ⟨l1, hl1, rfl⟩ := some_int hx
    obtain ⟨l2, hl2, rfl⟩ := some_int hy
    rw [List.getElem?_drop, Nat.add_comm] at hl2
    obtain ⟨b0, b1, b2⟩ := hns'.get hl1 hl2
    have hg8 := hg7.le (e8.trans e9)
    top_name
    refine ⟨rfl, ?_⟩
    top_name
    refine fun x xdx hx1 hx2 hne => ⟨H8, x, a, p, xdx, c, bs, l1, l2, rfl, make_le (p := D) hx1 hx2, hx1, upd_same, hg8, hs, b0, b1, by omega, fun H9 ws bk e10 cr hw => ⟨rfl, ?_⟩⟩
    exact hR _ _ (e9.trans e10) ⟨x, ws, bk, rfl, cr.mono fun a' o n q => ⟨fun z => n fun z1 => z.elim (fun z => z (le_free (e8.trans e9) z1)) (fun z => by rw [z, e9 _ _ hacc] at z1; cases z1), q⟩, by omega⟩
  have hol : out.length ≤ 60 := by
    rw [hl8]
    have := Nat.min_le_left (List.map V.int ns').length (List.map V.int (List.drop 1 ns')).length
    simp only [List.length_map] at this ⊢
    omega
  have t8 := t7.trans e8
  top_name
  refine ⟨Nat.zero_le _, fun q hq => ?_⟩
  generalize hH9 : upd H8 q _ = H9
  have h9 := (congrFun hH9 q).symm.trans upd_same
  have e9 : Le H8 H9 := hH9 ▸ le_new hq
  top_name
  refine for_it (walk_list (a := D2) (xs := out)) (fun i σ H' => Le H8 H' ∧ ∃ (x14 : Option V) (vs : List V) (ws : List Wk), σ = [some (.ref a), some (.int n), some (.ref t), some (.int pl), some (.int lf), some (bv o), some (.ref D'), none, some (.ref g), some (.ref f'), some (.ref D2), none, none, some (.ref q), x14] ∧
    H' q = some (.lst vs) ∧ vs.length = ws.length ∧ DaL (Fr H) H8 (ws.map wkD) vs ∧ WkOk ws ∧ ws.length ≤ i * 4501) ⟨e9, none, [], [], rfl, h9, rfl, .nil, (fun _ h => nomatch h), by simp⟩ (fun i σ H' _ h => SqL.of (h.1 _ _ h8)) ?_ ?_
  · rintro i x σ H10 _ hi ⟨e10, x14, vs, ws, rfl, hq10, hvl, hd, hw, hn⟩ ⟨rfl, hx⟩
    obtain ⟨cx, wc, bk, rfl, cr, hwc⟩ := hT8 i x hx
    obtain ⟨⟨cdx, cfs, qa, cv, cvs, c1, c2, c3, c4, c5, c6, c7, c8, c9⟩, c10, c11⟩ := cr
    top_name
    refine k_fld (e10 _ _ c3) E.cl_Crossing E.n_Crossing_ahead c4 ?_
    top_name
    refine k_ext (by leaf_len) (e10 _ _ c6) (by omega) fun H11 e11 h11 => ?_
    top_name
    refine ⟨le_mut e10 hq e11, _, vs ++ cvs, ws ++ wc, rfl, h11, by simp [hvl, c7], ?_, hw.app c10, by simp only [List.length_append]; omega⟩
    rw [List.map_append]
    exact hd.append (c8.mono fun a' o n q => ⟨fun z => n (.inl fun z1 => z (le_free t7 z1)), q⟩)
  · rintro σ H10 ⟨e10, x14, vs, ws, rfl, hq10, hvl, hd, hw, hn⟩
    top_name
    refine r_starL (SqL.of hq10) ?_
    top_name
    have f10 := (e6.trans (e7.trans (e8.trans e10)))
    refine r_starL (SqL.of ((e7.trans (e8.trans e10)) _ _ hf')) ?_
    top_name
    refine ⟨D2, out, rfl, SqL.of (e10 _ _ h8), fun q3 hq3 => ?_⟩
    generalize hH11 : upd H10 q3 _ = H11
    have h11 := (congrFun hH11 q3).symm.trans upd_same
    have e11 : Le H10 H11 := hH11 ▸ le_new hq3
    have t11 : Le H8 H11 := e10.trans e11
    top_name
    refine lc_rel (fun D i y H' => ∃ bk, Da (Fr H) H8 (wkD bk) y ∧ bk.2.2.length ≤ 5000) walk_list (by one_place) (by rw [List.length_reverse]; omega) (fun H' e => SqL.of (e _ _ h11)) (fun D i y H1 H2 _ h e => h) ?_ wpm_yes wpm_name fun D3 H12 out2 hD3 e12 h12 hl12 hT12 => ?_
    · rintro D i x H0 _ R hD hi e12 _ ⟨rfl, hx⟩ hR
      obtain ⟨j, hj⟩ := List.mem_iff_getElem?.mp (List.mem_reverse.mp (List.mem_of_getElem? hx))
      obtain ⟨cx, wc, bk, rfl, cr, hwc⟩ := hT8 j x hj
      obtain ⟨⟨cdx, cfs, qa, cv, cvs, c1, c2, c3, c4, c5, c6, c7, c8, c9⟩, c10, c11⟩ := cr
      top_name
      refine ⟨rfl, ?_⟩
      top_name
      refine k_fld ((t11.trans e12) _ _ c3) E.cl_Crossing E.n_Crossing_back c5 ?_
      exact hR _ _ (Same.refl _) ⟨bk, c9.mono fun a' o n q => ⟨fun z => n (.inl fun z1 => z (le_free t7 z1)), q⟩, c11⟩
    obtain ⟨bks, g1, g2, g3⟩ := walks_of hT12
    rw [List.length_reverse] at hl12
    have t12 : Le H8 H12 := t11.trans e12
    refine r_starL (SqL.of h12) ?_
    top_name
    refine ⟨szl (by simp only [List.length_append, List.length_nil]; omega), fun q4 hq4 => ?_⟩
    generalize hH13 : upd H12 q4 _ = H13
    have h13 := (congrFun hH13 q4).symm.trans upd_same
    have e13 : Le H12 H13 := hH13 ▸ le_new hq4
    rw [List.append_nil] at h13
    top_name
    refine r_tupO (SqL.of h13) fun q5 H14 hq5 e14 h14 => ?_
    refine k H14 q5 _ (ws ++ (wsW ++ bks)) (t8.trans (t12.trans (e13.trans e14))) (le_free (t8.trans (t12.trans e13)) hq5) h14 ?_ ?_ (hw.app (wokW.app g2)) ?_
    · simp only [List.length_append]; omega
    · rw [List.map_append, List.map_append]
      exact (hd.le (t12.trans (e13.trans e14))).append ((dW.le ((e7.trans e8).trans (t12.trans (e13.trans e14)))).append (g1.le (t12.trans (e13.trans e14))))
    · simp only [List.length_append]; omega
end
set_option Elab.async false
set_option linter.all false
set_option maxRecDepth 100000
set_option maxHeartbeats 4000000
open PySem PySem.Spec PyProof.Rows L2

section
variable {P : Program} {w : World} {K : PySem.W.Frag} {mg : Str → Option Value} {base : Heap}
theorem sc_plan : FnScope ["garden", "places", "taps"] ["garden", "places", "taps"] (defScope s_plan) := ⟨rfl, rfl, rfl, by decide +kernel, rfl, by decide +kernel, by decide +kernel⟩
theorem c_plan (E : En K mg) : C8.Cal P w K mg base 11 "plan" (spPl K) [] := by
  obtain ⟨fd, F⟩ := E.f_plan
  obtain ⟨ds, hv, hb⟩ := F.binds1 (ps := ["garden", "places", "taps"]) 3 1 (by simp) rfl fun T kV doc pm an cdv ct us its l1 l2 => by
    match us, l1, its, l2 with
    | [_, _, _], _, [_], _ => exact ⟨_, rfl, rfl⟩
  refine ⟨He.ga K "plan", fd, ["garden", "places", "taps"], ds, F.ok sc_plan (fun vs H Q E h => by obtain ⟨a, p, t, c, bs, ts, n, rfl, _⟩ := h; rfl) fun cdv A outer s H vs Q E' hr h => ⟨_, (PSs.nox (pss_cons (ps_expr (C8.pe_c (c_check_row E) hr (by decide) (by rfl) (pa_cons (pv 0) (pa_cons (pv 1) (pa_cons (pv 2) (pa_cons (C8.pe_gc (by rfl) E.i_MOST_PLAN) pa_nil))))))
      (pss_one (ps_ret (C8.pe_c (c_plan_of E) hr (by decide) (by rfl) (pa_cons (pv 0) (pa_cons (pv 1) (pa_cons (pv 2) pa_nil)))))))), ?_⟩, E.g_plan, F.kp, hb, hv⟩
  obtain ⟨a, p, t, c, bs, ts, n, rfl, hg, ht, hok, n0, n1, k⟩ := h
  one_item
  refine ⟨a, p, t, c, bs, ts, n, 200, rfl, hg, ht, hok, n0, by omega, fun H1 e1 => ?_⟩
  top_name
  refine ⟨a, p, t, c, bs, ts, n, rfl, hg.le e1, e1 _ _ ht, hok, n0, n1, fun H' q vs ws e2 h1 h2 h3 h4 h5 h6 => ?_⟩
  exact k H' q vs ws (e1.trans e2) (le_free e1 h1) h2 h3 (Fr.monoL h4 e1 (Same.refl _)) h5 h6
end
set_option Elab.async false
set_option linter.all false
set_option maxRecDepth 100000
set_option maxHeartbeats 4000000
open PySem PySem.Spec PyProof.Rows L2

section
variable {P : Program} {w : World} {K : PySem.W.Frag} {mg : Str → Option Value} {base : Heap}
theorem sc_can_in : FnScope ["line", "texts", "can"] ["line"] (defScope s_can_in) := ⟨rfl, rfl, rfl, by decide +kernel, rfl, by decide +kernel, by decide +kernel⟩
def spCI : Sp := fun vs H Q _ => ∃ c : Int, vs = [.str (SX.S (lineC c))] ∧ 1 ≤ c ∧ c ≤ 20 ∧ ∀ H', Le H H' → Q (.int c) H'
theorem c_can_in (E : En K mg) : C8.Cal P w K mg base 1 "can_in" spCI [] := by
  obtain ⟨fd, F⟩ := E.f_can_in
  refine cal_mk F E.g_can_in sc_can_in (fun _ _ _ _ _ _ us hl => match us, hl with | [_], _ => rfl) (fun vs H Q E h => by obtain ⟨c, rfl, _⟩ := h; rfl) fun cdv A outer s H vs Q E' hr h => ⟨_, (pss_cons (ps_setLc (own := [("can", 2)]) (i := 1) rfl sc_can_in.nd rfl rfl (sw_true rfl rfl rfl (by decide +kernel)) (pi_range2 rfl E.z_range (pa_cons pe_int (pa_cons (pe_op op_add (C8.pe_gc (by rfl) E.i_MOST_CAN) pe_int) pa_nil))) (blkOk_by (own := [("can", 2)]) (N := ["line", "texts", "can"]) (sc := defScope s_can_in) (by decide +kernel)) (fun _ _ _ _ _ => (pg_name (i := 2) sc_can_in.nd rfl (Or.inl rfl))) (fun _ _ _ _ _ => pts_nil) (fun _ _ _ _ _ => (pe_joined (PJ.cons pe_str (PJ.cons (pe_fmt (pv 2)) PJ.nil)))))
      (pss_one (ps_ret (pe_ifExp (pt_cmpR (op_inK K (by rfl)) (pv 0) (pv 1) rfl) (pe_op op_add (pe_bmK K (by rfl) PySem.F.plainAttrs_list PySem.F.slot_list_index PySem.F.type_list_index (mt_indexK K (by rfl)) (pv 1) (pa_cons (pv 0) pa_nil)) pe_int) pe_non)))), ?_⟩
  obtain ⟨c, rfl, c1, c2, k⟩ := h
  one_item
  refine lc_map (te := fun σ H Q => tJs [tC (V.str (Str.ofString "can ")), tFmt (tVar 2)] Str.empty σ H fun out H1 => Q (.str out) H1) (canT 20) (walk_range (lo := 1) (n := (20 + 1 - 1 : Int).toNat)) (by simp [canT]) (by one_place) (by decide) (fun _ _ => trivial) ?_ fun D H1 hD e1 h1 => ?_
  · rintro i x H0 H' R N hi e ⟨rfl, rfl⟩ hR
    have hi' : i < 20 := by simpa using hi
    top_name
    refine ⟨_, rfl, by rw [emp_S, lit_can, SX.S_cat, SX.S_len]; decide, ?_⟩
    top_name
    refine .inr ⟨_, rfl, log_small (by omega), ⟨_, rfl, ?_, ?_⟩⟩
    · rw [canS (by omega), SX.S_len]
      have q := lineC_lens ⟨i + 1, by omega⟩
      have e2 : (((⟨i + 1, by omega⟩ : _root_.Fin 21).val : Nat) : Int) = 1 + (i : Int) := by show ((i + 1 : Nat) : Int) = _; omega
      rw [e2] at q
      exact Nat.le_trans q (by decide)
    · top_name
      rw [canS (by omega)]
      exact hR _ _ (Same.refl _) (canT_at ⟨i, hi'⟩)
  have ec : (1 : Int) + (((c - 1).toNat : Nat) : Int) = c := by omega
  have hc : (c - 1).toNat < 20 := by omega
  have q1 := canT_in ⟨(c - 1).toNat, hc⟩
  have q2 := canT_at ⟨(c - 1).toNat, hc⟩
  have q3 := canT_lt ⟨(c - 1).toNat, hc⟩
  rw [ec] at q1 q2 q3
  top_name
  refine r_inL (SqL.of h1) rfl canT_flat ?_
  rw [if_neg (by decide), q1]
  top_name
  refine ⟨D, canT 20, _, (c - 1).toNat, _, rfl, rfl, SqL.of h1, rfl, canT_flat, q2, by simp [eqV], fun m z hm hz => ?_, ?_⟩
  · have q4 := canT_at ⟨m, by omega⟩
    have q5 : (canT 20)[m]? = some z := hz
    rw [show (⟨m, by omega⟩ : _root_.Fin 20).val = m from rfl, q5] at q4
    cases q4
    exact q3 ⟨m, by omega⟩ hm
  · top_name
    have e3 : (((c - 1).toNat : Nat) : Int) + 1 = c := by omega
    rw [e3]
    exact k _ e1
theorem sc_items_in : FnScope ["line", "words", "known", "litres", "word"] ["line"] (defScope s_items_in) := ⟨rfl, rfl, rfl, by decide +kernel, rfl, by decide +kernel, by decide +kernel⟩
def spII : Sp := fun vs H Q _ => ∃ (c : Int) (bs : List (Option Int)), vs = [.str (SX.S (lineI bs))] ∧ GOk c bs ∧ ∀ H' q, Le H H' → H q = none → H' q = some (.tup (bs.map bv)) → Q (.ref q) H'
theorem c_items_in (E : En K mg) : C8.Cal P w K mg base 1 "items_in" spII [] := by
  obtain ⟨fd, F⟩ := E.f_items_in
  refine cal_mk F E.g_items_in sc_items_in (fun _ _ _ _ _ _ us hl => match us, hl with | [_], _ => rfl) (fun vs H Q E h => by obtain ⟨c, bs, rfl, _⟩ := h; rfl) fun cdv A outer s H vs Q E' hr h => ⟨_, (pss_cons (ps_set (i := 1) sc_items_in.nd rfl (Or.inl rfl) (pe_split (pv 0) pe_str))
      (pss_cons (ps_set (i := 2) sc_items_in.nd rfl (Or.inr rfl) (pe_dc (own := [("litres", 3)]) rfl sc_items_in.nd (pi_range1 rfl E.z_range (pa_cons (pe_op op_add (C8.pe_gc (by rfl) E.i_MOST_LITRES) pe_int) pa_nil)) (blkOk_by (own := [("litres", 3)]) (N := ["line", "words", "known", "litres", "word"]) (sc := defScope s_items_in) (by decide +kernel)) (fun _ _ _ _ _ => (pg_name (i := 3) sc_items_in.nd rfl (Or.inl rfl))) (fun _ _ _ _ _ => pts_nil) (fun _ _ _ _ _ => (pe_callTy c_strI (by rfl) E.z_str b_str (pa_cons (pv 3) pa_nil))) (fun _ _ _ _ _ => (pv 3))))
      (pss_cons (ps_dput (hu_of hr) (pv 2) pe_str pe_non rfl)
      (pss_cons (ps_if (PW.pt (pw_or (pt_cmpR op_ne (pe_ix (ix_listK K (by rfl)) (pv 1) pe_int (fun _ _ => rfl)) pe_str (nomark _)) (pw_or1 (pt_not (pt_chain op_le op_le pe_int (pe_op op_sub (pe_callB (c_lenK K (by rfl)) (by rfl) E.z_len b_len (pa_cons (pv 1) pa_nil)) pe_int) (C8.pe_gc (by rfl) E.i_MOST_ITEMS)))))) (pss_one (ps_ret pe_non)) pss_nil)
      (pss_one (ps_ret (pe_ifExp (pt_val (pe_callB (c_allK K (by rfl) rfl) (by rfl) E.z_all b_all (pa_cons (pe_lc (own := [("word", 4)]) rfl sc_items_in.nd (pi_listK K (by rfl) (pe_slice (sl_listK K (by rfl)) (pv 1) (po_some pe_int) po_none)) (blkOk_by (own := [("word", 4)]) (N := ["line", "words", "known", "litres", "word"]) (sc := defScope s_items_in) (by decide +kernel)) (fun _ _ _ _ _ => (pg_name (i := 4) sc_items_in.nd rfl (Or.inl rfl))) (fun _ _ _ _ _ => pts_nil) (fun _ _ _ _ _ => (pe_cmp (pc_din (hu_of hr) (pv 4) (pv 2)) rfl))) pa_nil))) (pe_callTy (c_tupOK K (by rfl)) (by rfl) E.z_tuple b_tuple (pa_cons (pe_lc (own := [("word", 4)]) rfl sc_items_in.nd (pi_listK K (by rfl) (pe_slice (sl_listK K (by rfl)) (pv 1) (po_some pe_int) po_none)) (blkOk_by (own := [("word", 4)]) (N := ["line", "words", "known", "litres", "word"]) (sc := defScope s_items_in) (by decide +kernel)) (fun _ _ _ _ _ => (pg_name (i := 4) sc_items_in.nd rfl (Or.inl rfl))) (fun _ _ _ _ _ => pts_nil) (fun _ _ _ _ _ => (pe_dget (hu_of hr) (pv 2) (pv 4) (fun _ _ => rfl)))) pa_nil)) pe_non))))))), ?_⟩
  obtain ⟨c, bs, rfl, g, k⟩ := h
  one_item
  have hl := lineI_len g
  refine ⟨_, _, rfl, rfl, by decide +kernel, by rw [SX.S_len]; exact Nat.le_trans (Nat.add_le_add_right hl 2) (by decide), fun p hp => ?_⟩
  rw [lit_sp, split_lineI g]
  generalize hH1 : upd H p _ = H1
  have h1 := (congrFun hH1 p).symm.trans upd_same
  have e1 : Le H H1 := hH1 ▸ le_new hp
  top_name
  unfold tDc
  top_name
  intro D hD
  refine ⟨fun i m H' => m = 10 - i ∧ i ≤ 10 ∧ Le H1 H' ∧ H' D = some (.dK (knV i)), ⟨10, rfl, by omega, le_new hD, upd_same⟩, ?_⟩
  rintro i m H' ⟨rfl, hi, e2, hD'⟩
  by_cases hlt : i < 10
  · refine .inr ⟨hlt, fun H' => Le H1 H' ∧ H' D = some (.dK (knV (i + 1))), fun H'' h => ⟨10 - (i + 1), by omega, rfl, by omega, h⟩, ?_⟩
    rintro x _ ⟨rfl, rfl⟩
    have ew : wipe [some (V.str (SX.S (lineI bs))), some (V.ref p), none, none, none] (List.map (fun x => x.snd) [((Str.ofString "litres", 3) : Str × Nat)]) = [some (V.str (SX.S (lineI bs))), some (V.ref p), none, none, none] := by one_place
    rw [ew]
    top_name
    refine r_strI (by omega) ?_
    top_name
    refine ⟨_, Sum.inr (SX.S (TL.numL i)), ?_, hD', ?_, ?_, ?_⟩
    · show V.str _ = V.str _
      rw [str_nat (by omega)]
      have : (0 + (i : Int)).toNat = i := by omega
      rw [this]
    · exact Nat.lt_of_le_of_lt (knV_le i) (Nat.lt_trans hlt (by decide))
    · exact le_mut e2 hD LeB.upd
    · rw [upd_same, knV_succ]
      have : (0 + (i : Int)) = (i : Int) := by omega
      rw [this]
  · have ei : i = 10 := by omega
    subst ei
    refine .inl ⟨Nat.le_refl _, ?_⟩
    top_name
    rw [lit_tap]
    refine ⟨D, _, rfl, DPut.k (k := Sum.inr (SX.S [116, 97, 112])) hD' (Nat.lt_of_le_of_lt (knV_le 10) (by decide)), ?_⟩
    have e4 : LeB D H' (upd H' D (.dK (putK (knV 10) (Sum.inr (SX.S [116, 97, 112])) .non))) := LeB.upd
    have h4 : upd H' D (.dK (putK (knV 10) (Sum.inr (SX.S [116, 97, 112])) .non)) D = some (.dK knF) := upd_same
    generalize upd H' D (.dK (putK (knV 10) (Sum.inr (SX.S [116, 97, 112])) .non)) = H4 at e4 h4 ⊢
    have t4 : Le H1 H4 := le_mut e2 hD e4
    have p4 := t4 _ _ h1
    rw [parts_V] at p4
    have g1 := g.l1
    have g2 := g.l2
    top_name
    refine r_ixL (SqL.of p4) (atI_nat (j := 0) rfl) ?_
    top_name
    refine r_neS ?_
    rw [lit_items, decide_eq_true rfl]
    top_name
    have hwl : (((V.str (SX.S [105, 116, 101, 109, 115]) :: wdV bs).length : Nat) : Int) = (bs.length : Int) + 1 := by simp [wdV]
    rw [hwl]
    top_name
    refine if_dec (fun _ => ?_) (fun h => by omega)
    top_name
    rw [decide_eq_true (by omega : (bs.length : Int) + 1 - 1 ≤ 12)]
    top_name
    refine r_slL (SqL.of p4) fun q5 H5 hq5 e5 h5 => ?_
    rw [cut_drop1] at h5
    have h5' : H5 q5 = some (.lst (wdV bs)) := h5
    have d5 := e5 _ _ h4
    top_name
    refine lc_map (bs.map fun _ => V.bl true) walk_list (by simp [wdV]) (by one_place) (by simp [wdV]; omega) (fun H' e => SqL.of (e _ _ h5')) ?_ fun D6 H6 hD6 e6 h6 => ?_
    · rintro i x H0 H7 R N hi e7 ⟨rfl, hx⟩ hR
      obtain ⟨o, ho, rfl⟩ := wd_at hx
      top_name
      refine ⟨D, _, rfl, DGet.k (k := Sum.inr (SX.S (wL o))) (e7 _ _ d5), ?_⟩
      rw [knF_ok (g.items o (List.mem_of_getElem? ho))]
      exact hR _ _ (Same.refl _) (by rw [List.getElem?_map, ho]; rfl)
    have h6' : H6 D6 = some (.lst ((bs.map fun _ => true).map V.bl)) := by rw [h6, List.map_map]; rfl
    top_name
    refine r_all (SqL.of h6') ?_
    have et : (bs.map fun _ => true).all id = true := by rw [List.all_map]; simp
    rw [et]
    top_name
    refine r_slL (SqL.of ((e5.trans e6) _ _ p4)) fun q8 H8 hq8 e8 h8 => ?_
    rw [cut_drop1] at h8
    have h8' : H8 q8 = some (.lst (wdV bs)) := h8
    have d8 := (e6.trans e8) _ _ d5
    top_name
    refine lc_map (bs.map bv) walk_list (by simp [wdV]) (by one_place) (by simp [wdV]; omega) (fun H' e => SqL.of (e _ _ h8')) ?_ fun D9 H9 hD9 e9 h9 => ?_
    · rintro i x H0 H7 R N hi e7 ⟨rfl, hx⟩ hR
      obtain ⟨o, ho, rfl⟩ := wd_at hx
      top_name
      refine ⟨D, _, rfl, by rw [← knF_ok (g.items o (List.mem_of_getElem? ho))]; exact DGet.k (k := Sum.inr (SX.S (wL o))) (e7 _ _ d8), ?_⟩
      exact hR _ _ (Same.refl _) (by rw [List.getElem?_map, ho]; rfl)
    top_name
    refine r_tupO (SqL.of h9) fun q10 H10 hq10 e10 h10 => ?_
    have tt := e1.trans (t4.trans (e5.trans (e6.trans (e8.trans e9))))
    exact k _ _ (tt.trans e10) (le_free tt hq10) h10
end
set_option Elab.async false
set_option linter.all false
set_option maxRecDepth 100000
set_option maxHeartbeats 4000000
open PySem PySem.Spec PyProof.Rows L2

def bD : Option Int → PyData
  | none => .none
  | some i => .int i
theorem bD_lay : ∀ bs : List (Option Int), PyData.canLayAll0 (bs.map bD) = true ∧ PyData.depthAll (bs.map bD) = 0
  | [] => by simp [PyData.canLayAll0, PyData.depthAll]
  | o :: bs => by
    have ih := bD_lay bs
    cases o <;> simp [PyData.canLayAll0, PyData.canLay0, PyData.depthAll, PyData.depth, bD, ih.1, ih.2]
theorem bD_dp (K : PySem.W.Frag) (H : Hp) : ∀ bs : List (Option Int), DpAll K H (bs.map bv) (bs.map bD)
  | [] => .nil
  | none :: bs => .cons .non (bD_dp K H bs)
  | some i :: bs => .cons (.int i) (bD_dp K H bs)
section
variable {P : Program} {w : World} {K : PySem.W.Frag} {mg : Str → Option Value} {base : Heap}
theorem sc_Garden_init : FnScope ["self", "text", "lines", "found"] ["self", "text"] (defScope s_Garden_init) := ⟨rfl, rfl, rfl, by decide +kernel, rfl, by decide +kernel, by decide +kernel⟩
def spGI (K : PySem.W.Frag) : Sp := fun vs H Q _ => ∃ (H0 : Hp) (x dx : Addr) (c : Int) (bs : List (Option Int)), vs = [.ref x, .str (gTx c bs)] ∧ Le H0 H ∧ H0 x = none ∧ H x = some (.ins (He.ga K "Garden") dx []) ∧ GOk c bs ∧
  ∀ H' p, Le H0 H' → Gd K H' x p c bs → Q .non H'
theorem k_Garden (E : En K mg) : C8.Mak P w K mg base 2 "Garden" (He.ga K "Garden") (spGI K) [] := by
  obtain ⟨fd, F⟩ := E.f_Garden_init
  refine mak_mk E.mk_Garden E.g_Garden F sc_Garden_init (fun _ _ _ _ _ _ us hl => match us, hl with | [_, _], _ => rfl) (fun vs H Q E h => by obtain ⟨H0, x, dx, c, bs, rfl, _⟩ := h; rfl) fun cdv A outer s H vs Q E' hr h => ⟨_, (pss_cons (ps_set (i := 2) sc_Garden_init.nd rfl (Or.inl rfl) (pe_ifExp (pt_val (pe_callB (c_isiK K (by rfl)) (by rfl) E.z_isinstance b_isinstance (pa_cons (pv 1) (pa_cons (pe_bltn (v := .ty "str") (by rfl) E.z_str b_str rfl) pa_nil)))) (pe_split (pv 1) pe_str) (pe_lst pa_nil)))
      (pss_cons (ps_set (i := 3) sc_Garden_init.nd rfl (Or.inl rfl) (pe_ifExp (pt_cmpR op_eq (pe_callB (c_lenK K (by rfl)) (by rfl) E.z_len b_len (pa_cons (pv 2) pa_nil)) (C8.pe_gc (by rfl) E.i_LINES) (nomark _)) (pe_lst (pa_cons (C8.pe_c (c_can_in E) hr (by decide) (by rfl) (pa_cons (pe_ix (ix_listK K (by rfl)) (pv 2) pe_int (fun _ _ => rfl)) pa_nil)) (pa_cons (C8.pe_c (c_items_in E) hr (by decide) (by rfl) (pa_cons (pe_ix (ix_listK K (by rfl)) (pv 2) pe_int (fun _ _ => rfl)) pa_nil)) pa_nil))) (pe_lst (pa_cons pe_non pa_nil))))
      (pss_cons (ps_if (pt_cmpR (op_inDK K (by rfl) (hu65 hr)) pe_non (pv 3) rfl) (pss_one ps_never) pss_nil)
      (pss_cons (ps_fldK K (by rfl) (pv 0) (pv 1))
      (pss_cons (ps_fldK K (by rfl) (pv 0) (pe_ix (ix_listK K (by rfl)) (pv 3) pe_int (fun _ _ => rfl)))
      (pss_one (ps_fldK K (by rfl) (pv 0) (pe_ix (ix_listK K (by rfl)) (pv 3) pe_int (fun _ _ => rfl))))))))), ?_⟩
  obtain ⟨H0, x, dx, c, bs, rfl, s0, x0, ho, g, k⟩ := h
  one_item
  refine r_isi (.base (.str _)) (kit_ty (r := true) (by decide +kernel)) ?_
  top_name
  have hl := gTx_len g
  refine ⟨_, _, rfl, rfl, by decide +kernel, Nat.le_trans (Nat.add_le_add_right hl 2) (by decide), fun p hp => ?_⟩
  rw [lit_nl, split_gTx g]
  generalize hH1 : upd H p _ = H1
  have h1 := (congrFun hH1 p).symm.trans upd_same
  have e1 : Le H H1 := hH1 ▸ le_new hp
  top_name
  refine if_dec (fun _ => ?_) (fun h => absurd rfl h)
  top_name
  refine r_ixL (SqL.of h1) (atI_nat (j := 0) rfl) ?_
  top_name
  refine ⟨c, rfl, g.c1, g.c2, fun H2 e2 => ?_⟩
  top_name
  refine r_ixL (SqL.of (e2 _ _ h1)) (atI_nat (j := 1) rfl) ?_
  top_name
  refine ⟨c, bs, rfl, g, fun H3 q e3 hq h3 => ?_⟩
  top_name
  refine ⟨szl (by simp), fun r hr3 => ?_⟩
  generalize hH4 : upd H3 r _ = H4
  have h4 := (congrFun hH4 r).symm.trans upd_same
  have e4 : Le H3 H4 := hH4 ▸ le_new hr3
  have q4 := e4 _ _ h3
  top_name
  refine ⟨.none, [.int c, .tuple (bs.map bD)], .non, .lst (SqL.of h4) (.cons (.int c) (.cons (.tup (SqT.of q4) (bD_dp K H4 bs)) .nil)), by decide, ?_, ?_⟩
  · have := bD_lay bs
    simp [SeqAt.shaped, PyData.canLay0, PyData.canLayAll0, PyData.depth, PyData.depthAll, this.1, this.2]
  · have e0 : ([.int c, .tuple (bs.map bD)] : List PyData).any (fun z => PyData.eqv z .none) = false := by simp [PyData.eqv]
    rw [e0]
    have t4 := e1.trans (e2.trans (e3.trans e4))
    have hrx : r ≠ x := fun z => by
      have := (e1.trans (e2.trans e3)) _ _ ho
      rw [z] at hr3
      rw [hr3] at this; cases this
    have hqx : q ≠ x := fun z => by
      have := (e1.trans e2) _ _ ho
      rw [z] at hq
      rw [hq] at this; cases this
    top_name
    refine k_sfldG (t4 _ _ ho) E.cl_Garden E.n_Garden_wording (le_le lp0 (by decide)) fun H5 e5 o5 => ?_
    have r5 := e5 _ _ hrx h4
    have s5 := le_mut (s0.trans t4) x0 e5
    top_name
    refine r_ixL (SqL.of r5) (atI_nat (j := 0) rfl) ?_
    top_name
    refine k_sfldG o5 E.cl_Garden E.n_Garden_load (le_le (lpS lp0) (by decide)) fun H6 e6 o6 => ?_
    have r6 := e6 _ _ hrx r5
    have s6 := le_mut s5 x0 e6
    top_name
    refine r_ixL (SqL.of r6) (atI_nat (j := 1) rfl) ?_
    top_name
    refine k_sfldG o6 E.cl_Garden E.n_Garden_pattern (le_le (lpS (lpS lp0)) (by decide)) fun H7 e7 o7 => ?_
    have s7 := le_mut s6 x0 e7
    top_name
    exact k H7 q s7 ⟨⟨dx, _, o7⟩, e7 _ _ hqx (e6 _ _ hqx (e5 _ _ hqx q4)), g⟩
theorem takes0 {X : Cx} : Takes X (fun _ _ _ _ => False) := fun u s' h => by
  obtain ⟨_, _, _, _, _, _, _, _, _, _, _, _, _, _, _, _, z⟩ := h
  cases z
theorem sc_garden_of : FnScope ["text"] ["text"] (defScope s_garden_of) := ⟨rfl, rfl, rfl, by decide +kernel, rfl, by decide +kernel, by decide +kernel⟩
def spGO (K : PySem.W.Frag) : Sp := fun vs H Q _ => ∃ (c : Int) (bs : List (Option Int)), vs = [.str (gTx c bs)] ∧ GOk c bs ∧ ∀ H' x p, Le H H' → H x = none → Gd K H' x p c bs → Q (.ref x) H'
theorem c_garden_of (E : En K mg) : C8.Cal P w K mg base 4 "garden_of" (spGO K) [] := by
  obtain ⟨fd, F⟩ := E.f_garden_of
  refine cal_mk F E.g_garden_of sc_garden_of (fun _ _ _ _ _ _ us hl => match us, hl with | [_], _ => rfl) (fun vs H Q E h => by obtain ⟨c, bs, rfl, _⟩ := h; rfl) fun cdv A outer s H vs Q E' hr h => ⟨_, (pss_one (ps_try_only (c := .ref (He.ga K "InvalidText")) rfl rfl ⟨by rfl, by decide, .inl E.g_InvalidText⟩ takes0 (fun W pn xe tk _ => (pss_one (ps_ret (C8.pe_mk (k_Garden E) hr (by decide) (by rfl) (pa_cons (pv 0) pa_nil))))) (fun a oe cls d pn _ _ => (pss_one (ps_ret pe_non))))), ?_⟩
  obtain ⟨c, bs, rfl, g, k⟩ := h
  one_item
  refine fun x dx hx hdx hne => ⟨H, x, dx, c, bs, rfl, make_le (p := x) hx hdx, hx, upd_same, g, fun H' p e gd => ⟨rfl, ?_⟩⟩
  exact k H' x p e hx gd
end
set_option Elab.async false
set_option linter.all false
set_option maxRecDepth 100000
set_option maxHeartbeats 4000000
open PySem PySem.Spec PyProof.Rows L2

theorem isTup_eq {d : PyData} (h : isTup d = true) : ∃ ds, d = .tuple ds := by
  cases d with
  | tuple ds => exact ⟨ds, rfl⟩
  | _ => cases h
theorem Da.tupE {S : Addr → Prop} {H : Hp} {ds : List PyData} {v : V} (h : Da S H (.tuple ds) v) : ∃ a xs, v = .ref a ∧ ¬ S a ∧ H a = some (.tup xs) ∧ DaL S H ds xs := by
  cases h with
  | tup n h r => exact ⟨_, _, rfl, n, h, r⟩
theorem Da.lstE {S : Addr → Prop} {H : Hp} {ds : List PyData} {v : V} (h : Da S H (.list ds) v) : ∃ a xs, v = .ref a ∧ ¬ S a ∧ H a = some (.lst xs) ∧ DaL S H ds xs := by
  cases h with
  | lst n h r => exact ⟨_, _, rfl, n, h, r⟩
theorem DaL.two {S : Addr → Prop} {H : Hp} {a b : PyData} {xs : List V} (h : DaL S H [a, b] xs) : ∃ x y, xs = [x, y] ∧ Da S H a x ∧ Da S H b y := by
  cases h with
  | cons h1 r => cases r with
    | cons h2 r => cases r; exact ⟨_, _, rfl, h1, h2⟩
theorem DaL.three {S : Addr → Prop} {H : Hp} {a b c : PyData} {xs : List V} (h : DaL S H [a, b, c] xs) : ∃ x y z, xs = [x, y, z] ∧ Da S H a x ∧ Da S H b y ∧ Da S H c z := by
  cases h with
  | cons h1 r => cases r with
    | cons h2 r => cases r with
      | cons h3 r => cases r; exact ⟨_, _, _, rfl, h1, h2, h3⟩
theorem isPair_len {es : List PyData} (h : ¬ es.length = 2) : isPair (.tuple es) = none := by
  match es, h with
  | [], _ => rfl
  | [_], _ => rfl
  | [_, _], h => exact absurd rfl h
  | _ :: _ :: _ :: _, _ => rfl
theorem isPair_not {d : PyData} (h : isTup d = false) : isPair d = none := by
  cases d with
  | tuple ds => cases h
  | _ => rfl
theorem drop_at {α : Type} {l : List α} {i : Nat} {x : α} (h : l[i]? = some x) : l.drop i = x :: l.drop (i + 1) := by
  obtain ⟨hi, e⟩ := List.getElem?_eq_some_iff.mp h
  rw [← e]
  exact List.drop_eq_getElem_cons hi
theorem take_at {α : Type} {l : List α} {i : Nat} {x : α} (h : l[i]? = some x) : l.take (i + 1) = l.take i ++ [x] := by
  obtain ⟨hi, e⟩ := List.getElem?_eq_some_iff.mp h
  rw [List.take_succ, h]; rfl
section
variable {P : Program} {w : World} {K : PySem.W.Frag} {mg : Str → Option Value} {base : Heap}
theorem sc_are_poured : FnScope ["value", "load", "low", "high", "pour", "place", "litres"] ["value", "load", "low", "high"] (defScope s_are_poured) := ⟨rfl, rfl, rfl, by decide +kernel, rfl, by decide +kernel, by decide +kernel⟩
def spAP : Sp := fun vs H Q _ => ∃ (S : Addr → Prop) (v : V) (d : PyData) (load low high : Int), vs = [v, .int load, .int low, .int high] ∧ Da S H d v ∧ 0 ≤ low ∧ high ≤ 1000 ∧ ∀ H', Le H H' → Q (.bl (prD' load low high d)) H'
theorem c_are_poured (E : En K mg) : C8.Cal P w K mg base 2 "are_poured" spAP [] := by
  obtain ⟨fd, F⟩ := E.f_are_poured
  refine cal_mk F E.g_are_poured sc_are_poured (fun _ _ _ _ _ _ us hl => match us, hl with | [_, _, _, _], _ => rfl) (fun vs H Q E h => by obtain ⟨S, v, d, load, low, high, rfl, _⟩ := h; rfl) fun cdv A outer s H vs Q E' hr h => ⟨_, (pss_cons (ps_if (pt_not (pt_val (pe_callB (c_isiK K (by rfl)) (by rfl) E.z_isinstance b_isinstance (pa_cons (pv 0) (pa_cons (pe_bltn (v := .ty "tuple") (by rfl) E.z_tuple b_tuple rfl) pa_nil))))) (pss_one (ps_ret pe_bl)) pss_nil)
      (pss_cons (ps_for PassesOwn.never rfl (pi_tupK K (by rfl) (pv 0)) (pg_name (i := 4) sc_are_poured.nd rfl (Or.inl rfl)) (pss_cons (ps_if (PW.pt (pw_or (pt_not (pt_val (pe_callB (c_isiK K (by rfl)) (by rfl) E.z_isinstance b_isinstance (pa_cons (pv 4) (pa_cons (pe_bltn (v := .ty "tuple") (by rfl) E.z_tuple b_tuple rfl) pa_nil))))) (pw_or (pt_cmpR op_ne (pe_callB (c_lenK K (by rfl)) (by rfl) E.z_len b_len (pa_cons (pv 4) pa_nil)) pe_int (nomark _)) (pw_or1 (pt_not (pt_val (C8.pe_c (c_is_count E) hr (by decide) (by rfl) (pa_cons (pe_ix (ix_tupK K (by rfl)) (pv 4) pe_int (fun _ _ => rfl)) (pa_cons pe_int (pa_cons (pv 1) pa_nil)))))))))) (pss_one (ps_ret pe_bl)) pss_nil)
      (pss_cons (ps_if (pt_not (pt_val (C8.pe_c (c_is_count E) hr (by decide) (by rfl) (pa_cons (pe_ix (ix_tupK K (by rfl)) (pv 4) pe_int (fun _ _ => rfl)) (pa_cons (pe_op op_add (pv 2) pe_int) (pa_cons (pe_op op_sub (pv 3) pe_int) pa_nil)))))) (pss_one (ps_ret pe_bl)) pss_nil)
      (pss_one (ps_set (i := 2) sc_are_poured.nd rfl (Or.inl rfl) (pe_ix (ix_tupK K (by rfl)) (pv 4) pe_int (fun _ _ => rfl)))))))
      (pss_one (ps_ret (pe_cmpR op_le (pe_callB (c_sumK K (by rfl) rfl) (by rfl) E.z_sum b_sum (pa_cons (pe_lc (own := [("place", 5), ("litres", 6)]) rfl sc_are_poured.nd (pi_tupK K (by rfl) (pv 0)) (blkOk_by (own := [("place", 5), ("litres", 6)]) (N := ["value", "load", "low", "high", "pour", "place", "litres"]) (sc := defScope s_are_poured) (by decide +kernel)) (fun _ _ _ _ _ => (pg_tupK (n := 2) K (by rfl) rfl (pgs_cons (pg_name (i := 5) sc_are_poured.nd rfl (Or.inl rfl)) (pgs_cons (pg_name (i := 6) sc_are_poured.nd rfl (Or.inl rfl)) pgs_nil)))) (fun _ _ _ _ _ => pts_nil) (fun _ _ _ _ _ => (pv 6))) pa_nil)) (pv 1) (nomark _)))))), ?_⟩
  obtain ⟨S, v, d, load, low, high, rfl, hd, b0, b1, k⟩ := h
  one_item
  obtain ⟨ty, h1, h2⟩ := hd.isTup (K := K)
  refine r_isi h1 h2 ?_
  top_name
  refine if_nb (fun h => ?_) (fun h => ?_)
  · top_name
    have e : prD' load low high d = false := by
      cases d with
      | tuple ds => cases h
      | _ => rfl
    rw [← e]
    exact k _ (Same.refl _)
  obtain ⟨ds, rfl⟩ := isTup_eq h
  obtain ⟨a, xs, rfl, na, ha, hds⟩ := hd.tupE
  top_name
  refine for_it (walk_tup (a := a) (xs := xs)) (fun i σ H' => H' = H ∧ ∃ (lw : Int) (x4 : Option V) (ps : List (Int × Int)), σ = [some (.ref a), some (.int load), some (.int lw), some (.int high), x4, none, none] ∧ ds.take i = ps.map prD ∧ prGo load high low 0 ds = prGo load high lw (ps.map (·.2)).sum (ds.drop i) ∧ (ps.length : Int) + low ≤ lw ∧ (lw < high ∨ ps = [])) ⟨rfl, low, none, [], rfl, rfl, rfl, by simp, .inr rfl⟩ (fun i σ H' _ h => by rw [h.1]; exact SqT.of ha) ?_ ?_
  · rintro i x σ H1 H2 hi ⟨rfl, lw, x4, ps, rfl, hps, hgo, hq1, hq2⟩ ⟨rfl, hx⟩
    obtain ⟨d, hdi, hx'⟩ := hds.get' hx
    rw [drop_at hdi] at hgo
    have neg : prGo load high lw (ps.map (·.2)).sum (d :: ds.drop (i + 1)) = false → Q (.bl false) H2 := fun z => by
      rw [z] at hgo
      have := k H2 (Same.refl _)
      rw [show prD' load low high (.tuple ds) = prGo load high low 0 ds from rfl, hgo] at this
      exact this
    obtain ⟨ty, h1, h2⟩ := hx'.isTup (K := K)
    top_name
    refine r_isi h1 h2 ?_
    top_name
    refine if_nb (fun h => ?_) (fun h => ?_)
    · top_name
      refine neg ?_
      unfold prGo
      rw [isPair_not h]
    obtain ⟨es, rfl⟩ := isTup_eq h
    obtain ⟨b, ys, rfl, nb, hb, hes⟩ := hx'.tupE
    top_name
    have hl := hes.length
    refine if_ndec (fun h => ?_) (fun h => ?_)
    · top_name
      refine neg ?_
      unfold prGo
      rw [isPair_len (fun z => h (by rw [hl, z]; rfl))]
    obtain ⟨u, v, rfl⟩ : ∃ u v, es = [u, v] := by
      match es, (show es.length = 2 by omega) with
      | [u, v], _ => exact ⟨u, v, rfl⟩
    obtain ⟨xu, xv, rfl, hu, hv⟩ := hes.two
    top_name
    refine r_ixT (SqT.of hb) (atI_nat (j := 1) rfl) ?_
    top_name
    refine ⟨S, xv, v, 1, load, rfl, hv, ?_⟩
    top_name
    refine if_nb (fun h => ?_) (fun h => ?_)
    · top_name
      refine neg ?_
      show (if (cnt v 1 load && cnt u (lw + 1) (high - 1)) = true then _ else _) = _
      rw [if_neg (by rw [h, Bool.false_and]; decide)]
    top_name
    refine r_ixT (SqT.of hb) (atI_nat (j := 0) rfl) ?_
    top_name
    refine ⟨S, xu, u, lw + 1, high - 1, rfl, hu, ?_⟩
    top_name
    refine if_nb (fun h2 => ?_) (fun h2 => ?_)
    · top_name
      refine neg ?_
      show (if (cnt v 1 load && cnt u (lw + 1) (high - 1)) = true then _ else _) = _
      rw [if_neg (by rw [h, h2]; decide)]
    top_name
    refine r_ixT (SqT.of hb) (atI_nat (j := 0) rfl) ?_
    have hu1 := cnt_int h2
    have hv1 := cnt_int h
    have hxu : xu = .int (vI u) := by rw [hu1.1] at hu; exact hu.int_eq
    rw [hxu]
    top_name
    refine ⟨rfl, vI u, _, ps ++ [(vI u, vI v)], rfl, ?_, ?_, ?_, ?_⟩
    · rw [take_at hdi, hps, List.map_append]
      show _ ++ [PyData.tuple [u, v]] = _ ++ [PyData.tuple [.int (vI u), .int (vI v)]]
      rw [← hu1.1, ← hv1.1]
    · rw [hgo]
      show (if (cnt v 1 load && cnt u (lw + 1) (high - 1)) = true then _ else _) = _
      rw [if_pos (by rw [h, h2]; rfl), List.map_append, List.sum_append]
      show _ = prGo load high (vI u) ((ps.map (·.2)).sum + (vI v + 0)) _
      rw [Int.add_zero]
    · rw [List.length_append]
      show ((ps.length + 1 : Nat) : Int) + low ≤ vI u
      omega
    · exact .inl (by omega)
  · rintro σ H1 ⟨rfl, lw, x4, ps, rfl, hps, hgo, hq1, hq2⟩
    have hlx := hds.length
    rw [hlx, List.take_length] at hps
    rw [hlx, List.drop_length] at hgo
    have hpl : ps.length ≤ 1000 := by
      rcases hq2 with h | h
      · omega
      · rw [h]; exact Nat.zero_le _
    have hdl : ds.length = ps.length := by rw [hps, List.length_map]
    top_name
    refine lc_map ((ps.map (·.2)).map V.int) walk_tup (by rw [List.length_map, List.length_map]; omega) (by one_place) (by omega) (fun H' e => SqT.of (e _ _ ha)) ?_ fun D H2 hD e2 h2 => ?_
    · rintro i x H0 H' R N hi e ⟨rfl, hx⟩ hR
      obtain ⟨d, hdi, hx'⟩ := hds.get' hx
      rw [hps, List.getElem?_map] at hdi
      obtain ⟨pr, hpr, rfl⟩ := Option.map_eq_some_iff.mp hdi
      obtain ⟨t, ys, rfl, _, ht, hys⟩ := (hx'.le e).tupE
      obtain ⟨y1, y2, rfl, hy1, hy2⟩ := hys.two
      rw [hy1.int_eq, hy2.int_eq] at ht
      refine r_gTup (SqT.of ht) rfl ?_
      top_name
      exact hR _ _ (Same.refl _) (by rw [List.getElem?_map, List.getElem?_map, hpr]; rfl)
    top_name
    refine r_sum (SqL.of h2) ?_
    top_name
    have := k H2 e2
    rw [show prD' load low high (.tuple ds) = prGo load high low 0 ds from rfl, hgo] at this
    exact this
end
set_option Elab.async false
set_option linter.all false
set_option maxRecDepth 100000
set_option maxHeartbeats 4000000
open PySem PySem.Spec PyProof.Rows L2

/-- a strip -/
structure SpO (K : PySem.W.Frag) (H : Hp) (x : Addr) (c : Int) (nd st : List Int) : Prop where
  ob : ∃ dx fs p q, H x = some (.ins (He.ga K "Strip") dx fs) ∧ fs.lookup ("load" : Str) = some (.int c) ∧ fs.lookup ("needs" : Str) = some (.ref p) ∧ fs.lookup ("stops" : Str) = some (.ref q) ∧ H p = some (.lst (nd.map V.int)) ∧ H q = some (.lst (st.map V.int))
theorem SpO.le {K : PySem.W.Frag} {H H' : Hp} {x : Addr} {c : Int} {nd st : List Int} (h : SpO K H x c nd st) (e : Le H H') : SpO K H' x c nd st := by
  obtain ⟨⟨dx, fs, p, q, h1, h2, h3, h4, h5, h6⟩⟩ := h
  exact ⟨⟨dx, fs, p, q, e _ _ h1, h2, h3, h4, e _ _ h5, e _ _ h6⟩⟩
section
variable {K : PySem.W.Frag} {mg : Str → Option Value} {H : Hp} {x : Addr} {c : Int} {nd st : List Int}
theorem ks_load {R : V → Prop} (E : En K mg) (g : SpO K H x c nd st) (h : R (.int c)) : ∃ a' C' dx' fs' v', V.ref x = .ref a' ∧ H a' = some (.ins C' dx' fs') ∧ Cls K C' ∧ NoAttr K C' "load" ∧ fs'.lookup ("load" : Str) = some v' ∧ R v' := by
  obtain ⟨dx, fs, p, q, h1, h2, h3, h4, h5, h6⟩ := g.ob
  exact k_fld h1 E.cl_Strip E.n_Strip_load h2 h
theorem ks_needs {R : V → Prop} (E : En K mg) (g : SpO K H x c nd st) (h : ∀ p, H p = some (.lst (nd.map V.int)) → R (.ref p)) : ∃ a' C' dx' fs' v', V.ref x = .ref a' ∧ H a' = some (.ins C' dx' fs') ∧ Cls K C' ∧ NoAttr K C' "needs" ∧ fs'.lookup ("needs" : Str) = some v' ∧ R v' := by
  obtain ⟨dx, fs, p, q, h1, h2, h3, h4, h5, h6⟩ := g.ob
  exact k_fld h1 E.cl_Strip E.n_Strip_needs h3 (h p h5)
theorem ks_stops {R : V → Prop} (E : En K mg) (g : SpO K H x c nd st) (h : ∀ p, H p = some (.lst (st.map V.int)) → R (.ref p)) : ∃ a' C' dx' fs' v', V.ref x = .ref a' ∧ H a' = some (.ins C' dx' fs') ∧ Cls K C' ∧ NoAttr K C' "stops" ∧ fs'.lookup ("stops" : Str) = some v' ∧ R v' := by
  obtain ⟨dx, fs, p, q, h1, h2, h3, h4, h5, h6⟩ := g.ob
  exact k_fld h1 E.cl_Strip E.n_Strip_stops h4 (h q h6)
end
theorem stD_len {load n : Int} {st : List Int} {es : List PyData} (h : ¬ es.length = 3) : stD load st n (.tuple es) = none := by
  match es, h with
  | [], _ => rfl
  | [_], _ => rfl
  | [_, _], _ => rfl
  | [_, _, _], h => exact absurd rfl h
  | _ :: _ :: _ :: _ :: _, _ => rfl
theorem stD_not {load n : Int} {st : List Int} {d : PyData} (h : isTup d = false) : stD load st n d = none := by
  cases d with
  | tuple ds => cases h
  | _ => rfl
theorem shaped_parts {ds : List PyData} (h : SeqAt.shaped (.tuple ds) = true) : ∀ d ∈ ds, SeqAt.shaped d = true := by
  intro d hd
  unfold SeqAt.shaped at h ⊢
  rw [Bool.and_eq_true] at h ⊢
  have h1 : PyData.canLayAll0 ds = true := by simpa [PyData.canLay0] using h.1
  have h2 : PyData.depthAll ds ≤ 64 := by
    have q := of_decide_eq_true h.2
    simp only [PyData.depth] at q
    omega
  clear h
  induction ds with
  | nil => cases hd
  | cons e es ih =>
    have h3 : (e.canLay0 && PyData.canLayAll0 es) = true := by simpa [PyData.canLayAll0] using h1
    rw [Bool.and_eq_true] at h3
    have h4 : max e.depth (PyData.depthAll es) ≤ 64 := by simpa [PyData.depthAll] using h2
    rcases List.mem_cons.mp hd with rfl | hd
    · exact ⟨h3.1, decide_eq_true (by omega)⟩
    · exact ih hd h3.2 (by omega)
theorem shaped_nilT : SeqAt.shaped (.tuple []) = true := by decide
theorem atI_end {α : Type} {xs : List α} {j : Nat} {v : α} (h : xs[j]? = some v) (hl : xs.length = j + 1) : atI xs (-1) = some v := by
  obtain ⟨hj, e⟩ := List.getElem?_eq_some_iff.mp h
  have hne : xs ≠ [] := fun z => by rw [z] at hl; cases hl
  have q : xs = xs.dropLast ++ [xs.getLast hne] := (List.dropLast_concat_getLast hne).symm
  have e2 : xs.getLast hne = v := by
    rw [List.getLast_eq_getElem, ← e]
    congr 1
    omega
  rw [q, e2]
  exact atI_last _ _
section
variable {P : Program} {w : World} {K : PySem.W.Frag} {mg : Str → Option Value} {base : Heap}
theorem sc_steps_of : FnScope ["strip", "walk", "tap", "first", "last", "pours"] ["strip", "walk"] (defScope s_steps_of) := ⟨rfl, rfl, rfl, by decide +kernel, rfl, by decide +kernel, by decide +kernel⟩
def spST (K : PySem.W.Frag) : Sp := fun vs H Q _ => ∃ (S : Addr → Prop) (x : Addr) (v : V) (d : PyData) (c n : Int) (nd st : List Int), vs = [.ref x, v] ∧ SpO K H x c nd st ∧ Da S H d v ∧ SeqAt.shaped d = true ∧ StpOk c st n ∧ (nd.length : Int) = n + 1 ∧ ∀ H', Le H H' → Q (bv (stD c st n d)) H'
theorem c_steps_of (E : En K mg) : C8.Cal P w K mg base 3 "steps_of" (spST K) [] := by
  obtain ⟨fd, F⟩ := E.f_steps_of
  refine cal_mk F E.g_steps_of sc_steps_of (fun _ _ _ _ _ _ us hl => match us, hl with | [_, _], _ => rfl) (fun vs H Q E h => by obtain ⟨S, x, v, d, c, n, nd, st, rfl, _⟩ := h; rfl) fun cdv A outer s H vs Q E' hr h => ⟨_, (pss_cons (ps_if (PW.pt (pw_or (pt_not (pt_val (pe_callB (c_isiK K (by rfl)) (by rfl) E.z_isinstance b_isinstance (pa_cons (pv 1) (pa_cons (pe_bltn (v := .ty "tuple") (by rfl) E.z_tuple b_tuple rfl) pa_nil))))) (pw_or (pt_cmpR op_ne (pe_callB (c_lenK K (by rfl)) (by rfl) E.z_len b_len (pa_cons (pv 1) pa_nil)) pe_int (nomark _)) (pw_or1 (pt_not (pt_val (pe_callB (c_allK K (by rfl) rfl) (by rfl) E.z_all b_all (pa_cons (pe_lc (own := [("tap", 2)]) rfl sc_steps_of.nd (pi_tupK K (by rfl) (pe_slice (sl_tupK K (by rfl)) (pv 1) po_none (po_some pe_int))) (blkOk_by (own := [("tap", 2)]) (N := ["strip", "walk", "tap", "first", "last", "pours"]) (sc := defScope s_steps_of) (by decide +kernel)) (fun _ _ _ _ _ => (pg_name (i := 2) sc_steps_of.nd rfl (Or.inl rfl))) (fun _ _ _ _ _ => pts_nil) (fun _ _ _ _ _ => (C8.pe_c (c_is_count E) hr (by decide) (by rfl) (pa_cons (pv 2) (pa_cons pe_int (pa_cons (C8.pe_gc (by rfl) E.i_MOST_CHECKED) pa_nil)))))) pa_nil)))))))) (pss_one (ps_ret pe_non)) pss_nil)
      (pss_cons (ps_asg (pv 1) (pg_tupK (n := 3) K (by rfl) rfl (pgs_cons (pg_name (i := 3) sc_steps_of.nd rfl (Or.inl rfl)) (pgs_cons (pg_name (i := 4) sc_steps_of.nd rfl (Or.inl rfl)) (pgs_cons (pg_name (i := 5) sc_steps_of.nd rfl (Or.inl rfl)) pgs_nil)))))
      (pss_cons (ps_if (PW.pt (pw_or (pt_cmpR (op_ninK K (by rfl)) (pv 3) (pe_fldK K (by rfl) (pv 0)) rfl) (pw_or1 (pt_cmpR (op_ninK K (by rfl)) (pv 4) (pe_fldK K (by rfl) (pv 0)) rfl)))) (pss_one (ps_ret pe_non)) pss_nil)
      (pss_cons (ps_if (pt_cmpR op_ne (pv 3) (pv 4) (nomark _)) (pss_one (ps_ret (pe_ifExp (pt_val (C8.pe_c (c_are_poured E) hr (by decide) (by rfl) (pa_cons (pv 5) (pa_cons (pe_fldK K (by rfl) (pv 0)) (pa_cons (pe_callB (c_min2 rfl) (by rfl) E.z_min b_min (pa_cons (pv 3) (pa_cons (pv 4) pa_nil))) (pa_cons (pe_callB (c_max2 rfl) (by rfl) E.z_max b_max (pa_cons (pv 3) (pa_cons (pv 4) pa_nil))) pa_nil)))))) (pe_callB c_abs (by rfl) E.z_abs b_abs (pa_cons (pe_op op_sub (pv 4) (pv 3)) pa_nil)) pe_non))) pss_nil)
      (pss_cons (ps_if (pt_cmpR (op_eqK K (by rfl) (hu64 hr)) (pv 5) (pe_tup pa_nil) (nomark _)) (pss_one (ps_ret pe_int)) pss_nil)
      (pss_cons (ps_if (pt_val (C8.pe_c (c_are_poured E) hr (by decide) (by rfl) (pa_cons (pv 5) (pa_cons (pe_fldK K (by rfl) (pv 0)) (pa_cons (pv 3) (pa_cons (pe_callB (c_lenK K (by rfl)) (by rfl) E.z_len b_len (pa_cons (pe_fldK K (by rfl) (pv 0)) pa_nil)) pa_nil)))))) (pss_one (ps_ret (pe_op op_mul pe_int (pe_op op_sub (pe_ix (ix_tupK K (by rfl)) (pe_ix (ix_tupK K (by rfl)) (pv 5) (pe_un un_neg pe_int) (fun _ _ => rfl)) pe_int (fun _ _ => rfl)) (pv 3))))) pss_nil)
      (pss_one (ps_ret (pe_ifExp (pt_val (C8.pe_c (c_are_poured E) hr (by decide) (by rfl) (pa_cons (pv 5) (pa_cons (pe_fldK K (by rfl) (pv 0)) (pa_cons pe_int (pa_cons (pv 3) pa_nil)))))) (pe_op op_mul pe_int (pe_op op_sub (pv 3) (pe_ix (ix_tupK K (by rfl)) (pe_ix (ix_tupK K (by rfl)) (pv 5) pe_int (fun _ _ => rfl)) pe_int (fun _ _ => rfl)))) pe_non))))))))), ?_⟩
  obtain ⟨S, x, v, d, c, n, nd, st, rfl, sp, hd, sh, ok, hn, k⟩ := h
  have n1 := ok.n1
  one_item
  obtain ⟨ty, h1, h2⟩ := hd.isTup (K := K)
  refine r_isi h1 h2 ?_
  top_name
  refine if_nb (fun h => ?_) (fun h => ?_)
  · top_name
    rw [stD_not h] at k
    exact k _ (Same.refl _)
  obtain ⟨es, rfl⟩ := isTup_eq h
  obtain ⟨a, xs, rfl, na, ha, hes⟩ := hd.tupE
  have hl := hes.length
  top_name
  refine if_ndec (fun h => ?_) (fun h => ?_)
  · top_name
    rw [stD_len (fun z => h (by rw [hl, z]; rfl))] at k
    exact k _ (Same.refl _)
  obtain ⟨d1, d2, d3, rfl⟩ : ∃ u v w, es = [u, v, w] := by
    match es, (show es.length = 3 by omega) with
    | [u, v, w], _ => exact ⟨u, v, w, rfl⟩
  obtain ⟨x1, x2, x3, rfl, hx1, hx2, hx3⟩ := hes.three
  have sh3 := shaped_parts sh d3 (by simp)
  rw [stD_eq] at k
  unfold stD3 at k
  top_name
  refine r_slT (SqT.of ha) fun q H1 e1 hq h1 => ?_
  have h1' : SqT K H1 q [x1, x2] := by rw [cut_take _ _ (by decide)] at h1; exact h1
  top_name
  refine lc_map [V.bl (cnt d1 0 200), V.bl (cnt d2 0 200)] (walk_tup (a := q) (xs := [x1, x2])) rfl (by one_place) (by show 2 ≤ 1000000; decide) (fun H' e => le_st e h1') ?_ fun D H2 hD e2 h2 => ?_
  · rintro i x H0 H' R N hi e ⟨rfl, hx⟩ hR
    have tt := e1.trans e
    match i, hi, hx, hR with
    | 0, _, hx, hR =>
      cases hx
      top_name
      refine ⟨S, x1, d1, 0, 200, rfl, hx1.le tt, ?_⟩
      exact hR _ _ (Same.refl _) rfl
    | 1, _, hx, hR =>
      cases hx
      top_name
      refine ⟨S, x2, d2, 0, 200, rfl, hx2.le tt, ?_⟩
      exact hR _ _ (Same.refl _) rfl
  have t2 := e1.trans e2
  top_name
  refine r_all (bs := [cnt d1 0 200, cnt d2 0 200]) (SqL.of h2) ?_
  have eall : [cnt d1 0 200, cnt d2 0 200].all id = (cnt d1 0 200 && cnt d2 0 200) := by simp
  rw [eall]
  top_name
  refine if_nb (fun h => ?_) (fun h => ?_)
  · top_name
    rw [if_neg (by rw [h]; decide)] at k
    exact k _ t2
  rw [if_pos h] at k
  rw [Bool.and_eq_true] at h
  have c1 := cnt_int h.1
  have c2 := cnt_int h.2
  rw [c1.1] at hx1
  rw [c2.1] at hx2
  have hx1' := hx1.int_eq
  have hx2' := hx2.int_eq
  subst hx1' hx2'
  generalize hf : vI d1 = f at *
  generalize hl2 : vI d2 = l at *
  have sp2 := sp.le t2
  top_name
  refine ks_stops E sp2 fun ps hps => ?_
  refine r_inL (SqL.of hps) rfl (flat_ints st) ?_
  rw [if_pos rfl, inV_ints]
  top_name
  refine if_nb (fun h => ?_) (fun h => ?_)
  · top_name
    rw [if_neg (by rw [h, Bool.false_and]; decide)] at k
    exact k _ t2
  top_name
  refine ks_stops E sp2 fun ps2 hps2 => ?_
  refine r_inL (SqL.of hps2) rfl (flat_ints st) ?_
  rw [if_pos rfl, inV_ints]
  top_name
  refine if_nb (fun h2 => ?_) (fun h2 => ?_)
  · top_name
    rw [if_neg (by rw [h, h2]; decide)] at k
    exact k _ t2
  rw [if_pos (by rw [h, h2]; rfl)] at k
  have bf := ok.bd f (List.contains_iff_mem.mp h)
  have bl := ok.bd l (List.contains_iff_mem.mp h2)
  top_name
  refine if_ndec (fun h3 => ?_) (fun h3 => ?_)
  · rw [if_neg h3] at k
    top_name
    refine ks_load E sp2 ?_
    top_name
    refine ⟨S, x3, d3, c, min f l, max f l, rfl, hx3.le t2, by omega, by omega, fun H3 e3 => ?_⟩
    top_name
    refine if_b (fun h4 => ?_) (fun h4 => ?_)
    · top_name
      rw [if_pos h4] at k
      exact k _ (t2.trans e3)
    · top_name
      rw [if_neg (by rw [h4]; decide)] at k
      exact k _ (t2.trans e3)
  rw [if_pos h3] at k
  top_name
  refine ⟨Nat.zero_le _, fun q3 hq3 => ?_⟩
  generalize hH3 : upd H2 q3 _ = H3
  have h3' := (congrFun hH3 q3).symm.trans upd_same
  have e3 : Le H2 H3 := hH3 ▸ le_new hq3
  have t3 := t2.trans e3
  have sp3 := sp.le t3
  refine ⟨d3, .tuple [], (hx3.le t3).dp K sh3, .tup (SqT.of h3') .nil, sh3, shaped_nilT, ?_⟩
  top_name
  refine if_b (fun h4 => ?_) (fun h4 => ?_)
  · top_name
    rw [if_pos h4] at k
    exact k _ t3
  rw [if_neg (by rw [h4]; decide)] at k
  top_name
  refine ks_load E sp3 ?_
  top_name
  refine ks_needs E sp3 fun pn hpn => ?_
  top_name
  have hnl : (((nd.map V.int).length : Nat) : Int) = n + 1 := by rw [List.length_map]; exact hn
  rw [hnl]
  refine ⟨S, x3, d3, c, f, n + 1, rfl, hx3.le t3, by omega, by omega, fun H4 e4 => ?_⟩
  have t4 := t3.trans e4
  have sp4 := sp.le t4
  have hne : ¬ d3 = .tuple [] := fun z => by rw [(eqv_nilT d3).mpr z] at h4; cases h4
  have shp : ∀ {lo hi : Int}, prD' c lo hi d3 = true → ∃ (q : List (Int × Int)) (y : Int × Int) (a : Addr) (xs : List V), d3 = .tuple ((q ++ [y]).map prD) ∧ x3 = .ref a ∧ H a = some (.tup xs) ∧ DaL S H ((q ++ [y]).map prD) xs ∧ ∀ z ∈ q ++ [y], lo < z.1 ∧ z.1 < hi := fun hp => by
    rw [prD_lw ok.l0] at hp
    obtain ⟨q, rfl, g2, _⟩ := lwD_shape hp
    have hq : q ≠ [] := fun z => hne (by rw [z]; rfl)
    obtain ⟨a, xs, g3, _, g4, g5⟩ := hx3.tupE
    have eq : q = q.dropLast ++ [q.getLast hq] := (List.dropLast_concat_getLast hq).symm
    exact ⟨q.dropLast, q.getLast hq, a, xs, by rw [← eq]; rfl, g3, g4, by rw [← eq]; exact g5, by rw [← eq]; exact g2⟩
  top_name
  refine if_b (fun h5 => ?_) (fun h5 => ?_)
  · rw [if_pos h5] at k
    obtain ⟨q, y, a3, xs3, rfl, rfl, ha3, hd3, hz⟩ := shp h5
    have hlp : lastP (.tuple ((q ++ [y]).map prD)) = y.1 := by
      unfold lastP
      rw [show (PyData.tuple ((q ++ [y]).map prD)) = .tuple ((q ++ [y]).map fun p => .tuple [.int p.1, .int p.2]) from rfl, poursOf_eq]
      simp
    obtain ⟨u, hu, du⟩ := hd3.get (i := q.length) (d := prD y) (by rw [List.getElem?_map]; simp)
    obtain ⟨ay, ys, rfl, _, hay, dys⟩ := du.tupE
    obtain ⟨y1, y2, rfl, g1, g2⟩ := dys.two
    have hxl := hd3.length
    rw [g1.int_eq] at hay
    have hzy := hz y (by simp)
    top_name
    refine r_ixT (SqT.of (t4 _ _ ha3)) (atI_end hu (by rw [hxl]; simp)) ?_
    top_name
    refine r_ixT (SqT.of (t4 _ _ hay)) (atI_nat (j := 0) rfl) ?_
    top_name
    rw [hlp] at k
    exact k _ t4
  rw [if_neg (by rw [h5]; decide)] at k
  top_name
  refine ks_load E sp4 ?_
  top_name
  refine ⟨S, x3, d3, c, 0, f, rfl, hx3.le t4, by omega, by omega, fun H5 e5 => ?_⟩
  top_name
  refine if_b (fun h6 => ?_) (fun h6 => ?_)
  · rw [if_pos h6] at k
    obtain ⟨q, y, a3, xs3, rfl, rfl, ha3, hd3, hz⟩ := shp h6
    obtain ⟨z, zs, ez⟩ : ∃ z zs, q ++ [y] = z :: zs := by
      cases q with
      | nil => exact ⟨y, [], rfl⟩
      | cons z zs => exact ⟨z, zs ++ [y], rfl⟩
    rw [ez] at hd3 k
    have hlp : headP (.tuple ((z :: zs).map prD)) = z.1 := by
      unfold headP
      rw [show (PyData.tuple ((z :: zs).map prD)) = .tuple ((z :: zs).map fun p => .tuple [.int p.1, .int p.2]) from rfl, poursOf_eq]
      rfl
    obtain ⟨u, hu, du⟩ := hd3.get (i := 0) (d := prD z) rfl
    obtain ⟨ay, ys, rfl, _, hay, dys⟩ := du.tupE
    obtain ⟨y1, y2, rfl, g1, g2⟩ := dys.two
    rw [g1.int_eq] at hay
    have hzy := hz z (by rw [ez]; simp)
    top_name
    refine r_ixT (SqT.of ((t4.trans e5) _ _ ha3)) (atI_nat (j := 0) hu) ?_
    top_name
    refine r_ixT (SqT.of ((t4.trans e5) _ _ hay)) (atI_nat (j := 0) rfl) ?_
    top_name
    rw [hlp] at k
    exact k _ (t4.trans e5)
  · rw [if_neg (by rw [h6]; decide)] at k
    top_name
    exact k _ (t4.trans e5)
end
set_option Elab.async false
set_option linter.all false
set_option maxRecDepth 100000
set_option maxHeartbeats 4000000
open PySem PySem.Spec PyProof.Rows L2

section
variable {P : Program} {w : World} {K : PySem.W.Frag} {mg : Str → Option Value} {base : Heap}
theorem sc_shows_most : FnScope ["strip", "length", "paper", "here", "total", "left", "walk", "steps", "place", "litres"] ["strip", "length", "paper"] (defScope s_shows_most) := ⟨rfl, rfl, rfl, by decide +kernel, rfl, by decide +kernel, by decide +kernel⟩
def spSM (K : PySem.W.Frag) : Sp := fun vs H Q _ => ∃ (S : Addr → Prop) (x : Addr) (v : V) (d : PyData) (c n len : Int) (nd st : List Int), vs = [.ref x, .int len, v] ∧ SpO K H x c nd st ∧ Da S H d v ∧ (isTup d = true → SeqAt.shaped d = true) ∧ StpOk c st n ∧ (nd.length : Int) = n + 1 ∧ ∀ H', Le H H' → Q (.bl (showsD c st n nd len d)) H'
theorem c_shows_most (E : En K mg) : C8.Cal P w K mg base 4 "shows_most" (spSM K) [] := by
  obtain ⟨fd, F⟩ := E.f_shows_most
  refine cal_mk F E.g_shows_most sc_shows_most (fun _ _ _ _ _ _ us hl => match us, hl with | [_, _, _], _ => rfl) (fun vs H Q E h => by obtain ⟨S, x, v, d, c, n, len, nd, st, rfl, _⟩ := h; rfl) fun cdv A outer s H vs Q E' hr h => ⟨_, (pss_cons (ps_if (pt_not (pt_val (pe_callB (c_isiK K (by rfl)) (by rfl) E.z_isinstance b_isinstance (pa_cons (pv 2) (pa_cons (pe_bltn (v := .ty "tuple") (by rfl) E.z_tuple b_tuple rfl) pa_nil))))) (pss_one (ps_ret pe_bl)) pss_nil)
      (pss_cons (ps_par3 (i := 3) (j := 4) (l := 5) (by rfl) sc_shows_most.nd rfl rfl rfl (by decide) (by decide) (by decide) rfl rfl rfl (pa_cons pe_int (pa_cons pe_int (pa_cons (pe_callTy (c_lstOK K (by rfl)) (by rfl) E.z_list b_list (pa_cons (pe_fldK K (by rfl) (pv 0)) pa_nil)) pa_nil))) (by rfl))
      (pss_cons (ps_for PassesOwn.never rfl (pi_tupK K (by rfl) (pv 2)) (pg_name (i := 6) sc_shows_most.nd rfl (Or.inl rfl)) (pss_cons (ps_set (i := 7) sc_shows_most.nd rfl (Or.inl rfl) (C8.pe_c (c_steps_of E) hr (by decide) (by rfl) (pa_cons (pv 0) (pa_cons (pv 6) pa_nil))))
      (pss_cons (ps_if (PW.pt (pw_or (pt_cmpR op_isN1 (pv 7) pe_non (nomark _)) (pw_or1 (pt_cmpR op_ne (pe_ix (ix_tupK K (by rfl)) (pv 6) pe_int (fun _ _ => rfl)) (pv 3) (nomark _))))) (pss_one (ps_ret pe_bl)) pss_nil)
      (pss_cons (ps_for PassesOwn.never rfl (pi_tupK K (by rfl) (pe_ix (ix_tupK K (by rfl)) (pv 6) pe_int (fun _ _ => rfl))) (pg_tupK (n := 2) K (by rfl) rfl (pgs_cons (pg_name (i := 8) sc_shows_most.nd rfl (Or.inl rfl)) (pgs_cons (pg_name (i := 9) sc_shows_most.nd rfl (Or.inl rfl)) pgs_nil))) (pss_one (ps_augS (pv 5) (pv 8) (get_listK K (by rfl)) (pv 9) ip_sub set_list)))
      (pss_one (ps_par (i := 3) (j := 4) (by rfl) sc_shows_most.nd rfl rfl (by decide) rfl rfl (pa_cons (pe_ix (ix_tupK K (by rfl)) (pv 6) pe_int (fun _ _ => rfl)) (pa_cons (pe_op op_add (pv 4) (pv 7)) pa_nil)) (by rfl)))))))
      (pss_one (ps_ret (pe_and (pe_cmpR op_eq (pv 3) pe_int (nomark _)) (pe_and (pe_cmpR op_le (pv 4) (pv 1) (nomark _)) (pe_one (pe_not (pe_callB (c_anyK K (by rfl) rfl) (by rfl) E.z_any b_any (pa_cons (pv 5) pa_nil))))))))))), ?_⟩
  obtain ⟨S, x, v, d, c, n, len, nd, st, rfl, sp, hd, sh, ok, hn, k⟩ := h
  have n1 := ok.n1
  one_item
  obtain ⟨ty, h1, h2⟩ := hd.isTup (K := K)
  refine r_isi h1 h2 ?_
  top_name
  refine if_nb (fun h => ?_) (fun h => ?_)
  · top_name
    have e : showsD c st n nd len d = false := by
      cases d with
      | tuple ds => cases h
      | _ => rfl
    rw [e] at k
    exact k _ (Same.refl _)
  obtain ⟨ds, rfl⟩ := isTup_eq h
  obtain ⟨a, xs, rfl, na, ha, hds⟩ := hd.tupE
  have shs := shaped_parts (sh rfl)
  top_name
  refine ks_needs E sp fun pn hpn => ?_
  top_name
  refine r_lstO (.inl (SqL.of hpn)) fun q H1 hq e1 h1 => ?_
  top_name
  refine for_it (walk_tup (a := a) (xs := xs)) (fun i σ H' => Le H H' ∧ ∃ (hh t : Int) (l : List Int) (x6 x7 x8 x9 : Option V), σ = [some (.ref x), some (.int len), some (.ref a), some (.int hh), some (.int t), some (.ref q), x6, x7, x8, x9] ∧ H' q = some (.lst (l.map V.int)) ∧ (l.length : Int) = n + 1 ∧ shGo c st n 0 0 nd ds = shGo c st n hh t l (ds.drop i)) ⟨e1, 0, 0, nd, none, none, none, none, rfl, h1, hn, rfl⟩ (fun i σ H' _ h => SqT.of (h.1 _ _ ha)) ?_ ?_
  · rintro i y σ H2 _ hi ⟨e2, hh, t, l, x6, x7, x8, x9, rfl, h2, hl, hgo⟩ ⟨rfl, hy⟩
    obtain ⟨d, hdi, hy'⟩ := hds.get' hy
    rw [drop_at hdi] at hgo
    have shd := shs d (List.mem_of_getElem? hdi)
    have neg : shGo c st n hh t l (d :: ds.drop (i + 1)) = none → ∀ H', Le H H' → Q (.bl false) H' := fun z H' e => by
      have := k H' e
      unfold showsD planLen at this
      simp only [hgo, z] at this
      exact this
    top_name
    refine ⟨S, x, y, d, c, n, nd, st, rfl, sp.le e2, hy'.le e2, shd, ok, hn, fun H3 e3 => ?_⟩
    have t3 := e2.trans e3
    cases e : stD c st n d with
    | none =>
      top_name
      refine r_isN0 ?_
      top_name
      refine neg ?_ _ t3
      unfold shGo
      rw [e]
    | some kk =>
      obtain ⟨f, l', ps, rfl, hps⟩ := stD_some ok e
      obtain ⟨b, ys, rfl, nb, hb, hes⟩ := hy'.tupE
      obtain ⟨y1, y2, y3, rfl, g1, g2, g3⟩ := hes.three
      rw [g1.int_eq, g2.int_eq] at hb
      obtain ⟨b3, zs, rfl, _, hb3, hzs⟩ := g3.tupE
      top_name
      refine r_isNI ?_
      top_name
      refine r_ixT (SqT.of (t3 _ _ hb)) (atI_nat (j := 0) rfl) ?_
      top_name
      have hsh : shGo c st n hh t l (wkD (f, l', ps) :: ds.drop (i + 1)) = if f = hh then shGo c st n l' (t + kk) (takeP ps l) (ds.drop (i + 1)) else none := by
        show (match stD c st n (wkD (f, l', ps)) with | none => none | some k => _) = _
        rw [e]
        show (if f = hh then shGo c st n l' (t + kk) (takeP (poursOf (.tuple (ps.map prD))) l) (ds.drop (i + 1)) else none) = _
        rw [show (PyData.tuple (ps.map prD)) = .tuple (ps.map fun p => .tuple [.int p.1, .int p.2]) from rfl, poursOf_eq]
      refine if_ndec (fun h => ?_) (fun h => ?_)
      · top_name
        refine neg ?_ _ t3
        rw [hsh, if_neg h]
      rw [hsh, if_pos h] at hgo
      top_name
      refine r_ixT (SqT.of (t3 _ _ hb)) (atI_nat (j := 2) rfl) ?_
      top_name
      refine for_it (walk_tup (a := b3) (xs := zs)) (fun j σ H' => Le H H' ∧ ∃ (x8 x9 : Option V), σ = [some (.ref x), some (.int len), some (.ref a), some (.int hh), some (.int t), some (.ref q), some (.ref b), some (.int kk), x8, x9] ∧ H' q = some (.lst ((takeP (ps.take j) l).map V.int))) ⟨t3, _, _, rfl, e3 _ _ h2⟩ (fun j σ H' _ h => SqT.of (h.1 _ _ hb3)) ?_ ?_
      · rintro j z σ H4 _ hj ⟨e4, x8, x9, rfl, h4⟩ ⟨rfl, hz⟩
        obtain ⟨dz, hdz, hz'⟩ := hzs.get' hz
        rw [List.getElem?_map] at hdz
        obtain ⟨p, hp, rfl⟩ := Option.map_eq_some_iff.mp hdz
        obtain ⟨bz, us, rfl, _, hbz, hus⟩ := hz'.tupE
        obtain ⟨u1, u2, rfl, g4, g5⟩ := hus.two
        rw [g4.int_eq, g5.int_eq] at hbz
        have hbz4 := e4 _ _ hbz
        have hpb := hps p (List.mem_of_getElem? hp)
        refine r_gTup (SqT.of hbz4) rfl ?_
        have htl : (takeP (ps.take j) l).length = l.length := takeP_len _ _
        top_name
        refine r_ixL (SqL.of h4) (atI_int (by omega) (by rw [htl]; omega)) ?_
        top_name
        refine k_setL h4 (by omega) (by rw [List.length_map, htl]; omega) fun H5 e5 h5 => ?_
        refine ⟨le_mut e4 hq e5, _, _, rfl, ?_⟩
        rw [h5, takeP_succ hp, List.map_set]
      · rintro σ H4 ⟨e4, x8, x9, rfl, h4⟩
        have hzl : zs.length = ps.length := by rw [hzs.length, List.length_map]
        rw [hzl, List.take_length] at h4
        top_name
        refine r_ixT (SqT.of (e4 _ _ hb)) (atI_nat (j := 1) rfl) ?_
        top_name
        refine ⟨e4, l', _, takeP ps l, _, _, _, _, rfl, h4, by rw [takeP_len]; exact hl, hgo⟩
  · rintro σ H2 ⟨e2, hh, t, l, x6, x7, x8, x9, rfl, h2, hl, hgo⟩
    rw [hds.length, List.drop_length] at hgo
    have hk := k H2 e2
    rw [shows_end hgo] at hk
    top_name
    refine if_dec (fun h => ?_) (fun h => ?_)
    · rw [decide_eq_true h, Bool.true_and] at hk
      top_name
      refine if_dec (fun h3 => ?_) (fun h3 => ?_)
      · rw [decide_eq_true h3, Bool.true_and] at hk
        top_name
        refine r_anyL (SqL.of h2) (fun y hy => ?_) ?_
        · obtain ⟨z, _, rfl⟩ := List.mem_map.mp hy
          exact .inr (.inr ⟨z, rfl⟩)
        top_name
        rw [any_zero]
        exact hk
      · rw [decide_eq_false h3, Bool.false_and] at hk
        exact hk
    · rw [decide_eq_false h, Bool.false_and] at hk
      exact hk
end
set_option Elab.async false
set_option linter.all false
set_option maxRecDepth 100000
set_option maxHeartbeats 4000000
open PySem PySem.Spec PyProof.Rows L2

theorem stops_fm (bs : List (Option Int)) (ts : List Int) (n : Nat) : (List.range n).filterMap (fun i : Nat => if isStop bs ts (1 + (i : Int)) = true then some (V.int (1 + (i : Int))) else none) = (((List.range n).map fun i : Nat => (i : Int) + 1).filter (isStop bs ts)).map V.int := by
  induction (List.range n) with
  | nil => rfl
  | cons i l ih =>
    rw [List.filterMap_cons, List.map_cons, List.filter_cons]
    have e : (1 : Int) + (i : Int) = (i : Int) + 1 := Int.add_comm _ _
    rw [e]
    cases h : isStop bs ts ((i : Int) + 1) with
    | true => rw [if_pos rfl, if_pos rfl, List.map_cons, ← ih]
    | false =>
      rw [if_neg (by decide), if_neg (by decide)]
      exact ih
section
variable {P : Program} {w : World} {K : PySem.W.Frag} {mg : Str → Option Value} {base : Heap}
theorem sc_are_told : FnScope ["value", "tap", "one", "other"] ["value"] (defScope s_are_told) := ⟨rfl, rfl, rfl, by decide +kernel, rfl, by decide +kernel, by decide +kernel⟩
def spTl (K : PySem.W.Frag) : Sp := fun vs H Q _ => ∃ (t : Addr) (ts : List Int), vs = [.ref t] ∧ H t = some (.tup (ts.map V.int)) ∧ TpOk ts ∧ (∀ y ∈ ts, y ≤ 200) ∧ ∀ H', Le H H' → Q (.bl true) H'
theorem c_are_told (E : En K mg) : C8.Cal P w K mg base 2 "are_told" (spTl K) [] := by
  obtain ⟨fd, F⟩ := E.f_are_told
  refine cal_mk F E.g_are_told sc_are_told (fun _ _ _ _ _ _ us hl => match us, hl with | [_], _ => rfl) (fun vs H Q E h => by obtain ⟨t, ts, rfl, _⟩ := h; rfl) fun cdv A outer s H vs Q E' hr h => ⟨_, (pss_cons (ps_if (PW.pt (pw_or (pt_not (pt_val (pe_callB (c_isiK K (by rfl)) (by rfl) E.z_isinstance b_isinstance (pa_cons (pv 0) (pa_cons (pe_bltn (v := .ty "tuple") (by rfl) E.z_tuple b_tuple rfl) pa_nil))))) (pw_or1 (pt_cmpR op_gt (pe_callB (c_lenK K (by rfl)) (by rfl) E.z_len b_len (pa_cons (pv 0) pa_nil)) (C8.pe_gc (by rfl) E.i_MOST_TOLD) (nomark _))))) (pss_one (ps_ret pe_bl)) pss_nil)
      (pss_cons (ps_if (pt_not (pt_val (pe_callB (c_allK K (by rfl) rfl) (by rfl) E.z_all b_all (pa_cons (pe_lc (own := [("tap", 1)]) rfl sc_are_told.nd (pi_tupK K (by rfl) (pv 0)) (blkOk_by (own := [("tap", 1)]) (N := ["value", "tap", "one", "other"]) (sc := defScope s_are_told) (by decide +kernel)) (fun _ _ _ _ _ => (pg_name (i := 1) sc_are_told.nd rfl (Or.inl rfl))) (fun _ _ _ _ _ => pts_nil) (fun _ _ _ _ _ => (C8.pe_c (c_is_count E) hr (by decide) (by rfl) (pa_cons (pv 1) (pa_cons pe_int (pa_cons (C8.pe_gc (by rfl) E.i_MOST_CHECKED) pa_nil)))))) pa_nil)))) (pss_one (ps_ret pe_bl)) pss_nil)
      (pss_one (ps_ret (pe_callB (c_allK K (by rfl) rfl) (by rfl) E.z_all b_all (pa_cons (pe_lc (own := [("one", 2), ("other", 3)]) rfl sc_are_told.nd (pi_zipK K (by rfl) (by rfl) E.z_zip (pa_cons (pv 0) (pa_cons (pe_slice (sl_tupK K (by rfl)) (pv 0) (po_some pe_int) po_none) pa_nil))) (blkOk_by (own := [("one", 2), ("other", 3)]) (N := ["value", "tap", "one", "other"]) (sc := defScope s_are_told) (by decide +kernel)) (fun _ _ _ _ _ => (pg_tupK (n := 2) K (by rfl) rfl (pgs_cons (pg_name (i := 2) sc_are_told.nd rfl (Or.inl rfl)) (pgs_cons (pg_name (i := 3) sc_are_told.nd rfl (Or.inl rfl)) pgs_nil)))) (fun _ _ _ _ _ => pts_nil) (fun _ _ _ _ _ => (pe_cmpR op_lt (pv 2) (pv 3) (nomark _)))) pa_nil)))))), ?_⟩
  obtain ⟨t, ts, rfl, ht, ok, h200, k⟩ := h
  have hl := ok.len
  one_item
  refine r_isi (.base (.tup ht)) (kit_ty (r := true) (by decide +kernel)) ?_
  top_name
  refine if_dec (fun h => by rw [List.length_map] at h; omega) (fun _ => ?_)
  top_name
  refine lc_map ((ts.map fun _ => true).map V.bl) walk_tup (by simp) (by one_place) (by simp; omega) (fun H' e => SqT.of (e _ _ ht)) ?_ fun D H1 hD e1 h1 => ?_
  · rintro i x H0 H' R N hi e ⟨rfl, hx⟩ hR
    obtain ⟨z, hz, rfl⟩ := some_int hx
    have z1 := ok.lo z (List.mem_of_getElem? hz)
    have z2 := h200 z (List.mem_of_getElem? hz)
    top_name
    refine ⟨fun _ => False, _, .int z, 1, 200, rfl, .int z, ?_⟩
    have e : cnt (.int z) 1 200 = true := by
      show (decide _ && decide _) = true
      rw [decide_eq_true z1, decide_eq_true z2]; rfl
    rw [e]
    exact hR _ _ (Same.refl _) (by rw [List.getElem?_map, List.getElem?_map, hz]; rfl)
  top_name
  refine r_all (SqL.of h1) ?_
  rw [show ((ts.map fun _ => true).all id) = true by rw [List.all_map]; simp]
  top_name
  refine r_slT (SqT.of (e1 _ _ ht)) fun q H2 e2 hq h2 => ?_
  rw [cut_drop1, ← List.map_drop] at h2
  top_name
  refine lc_map ((List.range (ts.length - 1)).map fun _ => V.bl true) (walk_zipT (a := t) (b := q) (xs := ts.map V.int) (ys := (ts.drop 1).map V.int) rfl) (by simp) (by one_place) (by simp; omega) (fun H' e => ⟨SqT.of ((e1.trans (e2.trans e)) _ _ ht), le_st e h2⟩) ?_ fun D3 H3 hD3 e3 h3 => ?_
  · rintro i x H0 H' R N hi e y hR
    obtain ⟨T, x, y, rfl, e9, hT, hT9, hx, hy⟩ := yp_of y
    obtain ⟨l1, hl1, rfl⟩ := some_int hx
    obtain ⟨l2, hl2, rfl⟩ := some_int hy
    rw [List.getElem?_drop, Nat.add_comm] at hl2
    have hlt := ok.up i l1 l2 hl1 hl2
    have hi2 : i < ts.length - 1 := by
      have := (List.getElem?_eq_some_iff.mp hl2).1
      omega
    top_name
    rw [decide_eq_true hlt]
    exact hR _ _ e9 (by rw [List.getElem?_map]; simp [hi2])
  top_name
  have h3' : H3 D3 = some (.lst (((List.range (ts.length - 1)).map fun _ => true).map V.bl)) := by rw [h3, List.map_map]; rfl
  refine r_all (SqL.of h3') ?_
  rw [show (((List.range (ts.length - 1)).map fun _ => true).all id) = true by rw [List.all_map]; simp]
  exact k _ (e1.trans (e2.trans e3))
theorem sc_Strip_init : FnScope ["self", "garden", "places", "told", "items", "place", "item", "spots"] ["self", "garden", "places", "told"] (defScope s_Strip_init) := ⟨rfl, rfl, rfl, by decide +kernel, rfl, by decide +kernel, by decide +kernel⟩
def spStI (K : PySem.W.Frag) : Sp := fun vs H Q _ => ∃ (H0 : Hp) (x a p t dx : Addr) (c : Int) (bs : List (Option Int)) (ts : List Int) (n : Nat), vs = [.ref x, .ref a, .int n, .ref t] ∧ Le H0 H ∧ H0 x = none ∧ H x = some (.ins (He.ga K "Strip") dx []) ∧ Gd K H0 a p c bs ∧ H0 t = some (.tup (ts.map V.int)) ∧ n ≤ 200 ∧
  ∀ H', Le H0 H' → SpO K H' x c (needsL bs ts n) (stopsL bs ts n) → Q .non H'
theorem k_Strip (E : En K mg) : C8.Mak P w K mg base 3 "Strip" (He.ga K "Strip") (spStI K) [] := by
  obtain ⟨fd, F⟩ := E.f_Strip_init
  refine mak_mk E.mk_Strip E.g_Strip F sc_Strip_init (fun _ _ _ _ _ _ us hl => match us, hl with | [_, _, _, _], _ => rfl) (fun vs H Q E h => by obtain ⟨H0, x, a, p, t, dx, c, bs, ts, n, rfl, _⟩ := h; rfl) fun cdv A outer s H vs Q E' hr h => ⟨_, (pss_cons (ps_fldK K (by rfl) (pv 0) (pe_propK K (by rfl) (pv 1) (p_can E) hr (by decide)))
      (pss_cons (ps_setLc (own := [("place", 5)]) (i := 4) rfl sc_Strip_init.nd rfl rfl (sw_true rfl rfl rfl (by decide +kernel)) (pi_range2 rfl E.z_range (pa_cons pe_int (pa_cons (pe_op op_add (pv 2) pe_int) pa_nil))) (blkOk_by (own := [("place", 5)]) (N := ["self", "garden", "places", "told", "items", "place", "item", "spots"]) (sc := defScope s_Strip_init) (by decide +kernel)) (fun _ _ _ _ _ => (pg_name (i := 5) sc_Strip_init.nd rfl (Or.inl rfl))) (fun _ _ _ _ _ => pts_nil) (fun _ _ _ _ _ => (pe_ix (ix_tupK K (by rfl)) (pe_propK K (by rfl) (pv 1) (p_beds E) hr (by decide)) (pe_op op_mod (pe_op op_sub (pv 5) pe_int) (pe_callB (c_lenK K (by rfl)) (by rfl) E.z_len b_len (pa_cons (pe_propK K (by rfl) (pv 1) (p_beds E) hr (by decide)) pa_nil))) (fun _ _ => rfl))))
      (pss_cons (ps_fldK K (by rfl) (pv 0) (pe_lst (pa_cons pe_int (pa_starK K (by rfl) (pe_lc (own := [("place", 5), ("item", 6)]) rfl sc_Strip_init.nd (pi_enumK K (by rfl) (by rfl) E.z_enumerate (by decide) (pa_cons (pv 4) pa_nil)) (blkOk_by (own := [("place", 5), ("item", 6)]) (N := ["self", "garden", "places", "told", "items", "place", "item", "spots"]) (sc := defScope s_Strip_init) (by decide +kernel)) (fun _ _ _ _ _ => (pg_tupK (n := 2) K (by rfl) rfl (pgs_cons (pg_name (i := 5) sc_Strip_init.nd rfl (Or.inl rfl)) (pgs_cons (pg_name (i := 6) sc_Strip_init.nd rfl (Or.inl rfl)) pgs_nil)))) (fun _ _ _ _ _ => pts_nil) (fun _ _ _ _ _ => (pe_ifExp (PW.pt (pw_or (pt_cmpR op_isN1 (pv 6) pe_non (nomark _)) (pw_or1 (pt_cmpR (op_inK K (by rfl)) (pv 5) (pv 3) rfl)))) pe_int (pv 6)))) pa_nil))))
      (pss_cons (ps_setLc (own := [("place", 5), ("item", 6)]) (i := 7) rfl sc_Strip_init.nd rfl rfl (sw_true rfl rfl rfl (by decide +kernel)) (pi_enumK K (by rfl) (by rfl) E.z_enumerate (by decide) (pa_cons (pv 4) pa_nil)) (blkOk_by (own := [("place", 5), ("item", 6)]) (N := ["self", "garden", "places", "told", "items", "place", "item", "spots"]) (sc := defScope s_Strip_init) (by decide +kernel)) (fun _ _ _ _ _ => (pg_tupK (n := 2) K (by rfl) rfl (pgs_cons (pg_name (i := 5) sc_Strip_init.nd rfl (Or.inl rfl)) (pgs_cons (pg_name (i := 6) sc_Strip_init.nd rfl (Or.inl rfl)) pgs_nil)))) (fun _ _ _ _ _ => (pts_one (PW.pt (pw_or (pt_cmpR op_isN1 (pv 6) pe_non (nomark _)) (pw_or1 (pt_cmpR (op_inK K (by rfl)) (pv 5) (pv 3) rfl)))))) (fun _ _ _ _ _ => (pv 5)))
      (pss_one (ps_fldK K (by rfl) (pv 0) (pe_lst (pa_cons pe_int (pa_starK K (by rfl) (pv 7) pa_nil))))))))), ?_⟩
  obtain ⟨H0, x, a, p, t, dx, c, bs, ts, n, rfl, s0, x0, ho, hg, ht, hn, k⟩ := h
  have hgH := hg.le s0
  one_item
  have l1 := hg.ok.l1
  have l2 := hg.ok.l2
  refine k_sfldG ho E.cl_Strip E.n_Strip_load (le_le lp0 (by decide)) fun H1 e1 o1 => ?_
  have t1 := le_mut s0 x0 e1
  have hg1 := hg.le t1
  have hp1 := hg1.tp
  have hl : (((bs.map bv).length : Nat) : Int) = bs.length := by simp
  top_name
  refine lc_map ((List.range n).map fun i : Nat => bv (itemAt bs (1 + (i : Int)))) (walk_range (lo := 1) (n := ((n : Int) + 1 - 1).toNat)) (by simp) (by one_place) (by omega) (fun _ _ => trivial) ?_ fun D H2 hD e2 h2 => ?_
  · rintro i x H0 H' R N hi e ⟨rfl, rfl⟩ hR
    have hg' := hg1.le e
    have hp' := hg'.tp
    top_name
    rw [hl]
    top_name
    refine r_ixT (SqT.of hp') (item_ix l1 _) ?_
    exact hR _ _ (Same.refl _) (by rw [List.getElem?_map]; simp [show i < n by omega])
  have il : ((List.range n).map fun i : Nat => bv (itemAt bs (1 + (i : Int)))).length = n := by simp
  have item_at : ∀ {i : Nat} {y : V}, ((List.range n).map fun i : Nat => bv (itemAt bs (1 + (i : Int))))[i]? = some y → i < n ∧ y = bv (itemAt bs (1 + (i : Int))) := fun {i y} h => by
    rw [List.getElem?_map] at h
    obtain ⟨j, h1, h2⟩ := Option.map_eq_some_iff.mp h
    have hi : i < n := by
      have := (List.getElem?_eq_some_iff.mp h1).1
      simpa using this
    rw [List.getElem?_range hi] at h1
    cases h1
    exact ⟨hi, h2.symm⟩
  have dx2 : D ≠ x := fun z => by rw [z, o1] at hD; cases hD
  top_name
  refine lc_map ((List.range n).map fun i : Nat => V.int (needV bs ts ((i : Int) + 1))) (walk_enumK (a := D)) (by simp) (by one_place) (by rw [il]; omega) (fun H' e => SqL.of (e _ _ h2)) ?_ fun D3 H3 hD3 e3 h3 => ?_
  · rintro i x H0 H' R N hi e y hR
    obtain ⟨T, x, y, rfl, e9, hT, hT9, hx, hy⟩ := yp_of y
    cases hx
    obtain ⟨hin, rfl⟩ := item_at hy
    have ht' := (t1.trans (e2.trans (e.trans e9))) _ _ ht
    have hR' : ∀ y, y = V.int (needV bs ts (1 + (i : Int))) → R y H' := fun y hy => hR y _ e9 (by rw [List.getElem?_map, List.getElem?_range hin, hy, Int.add_comm]; rfl)
    clear hR
    top_name
    refine r_isNb ?_
    cases eo : itemAt bs (1 + (i : Int)) with
    | none =>
      refine r_bl ?_
      refine iteT ?_
      top_name
      exact hR' _ (by unfold needV; rw [eo])
    | some z =>
      refine r_bl ?_
      refine iteF ?_
      top_name
      refine r_inT (SqT.of ht') rfl (flat_ints ts) ?_
      rw [if_neg (by decide), inV_ints]
      top_name
      refine if_b (fun h => ?_) (fun h => ?_)
      · top_name
        exact hR' _ (by unfold needV; rw [eo]; simp only [h]; rfl)
      · top_name
        exact hR' _ (by unfold needV; rw [eo]; simp only [h]; rfl)
  refine r_starL (SqL.of h3) ?_
  top_name
  refine ⟨szl (by simp; omega), fun q hq => ?_⟩
  generalize hH4 : upd H3 q _ = H4
  have h4 := (congrFun hH4 q).symm.trans upd_same
  have e4 : Le H3 H4 := hH4 ▸ le_new hq
  have h4' : H4 q = some (.lst ((needsL bs ts n).map V.int)) := by
    rw [h4]
    unfold needsL
    rw [List.map_cons, List.map_map, List.append_nil]
    rfl
  have o4 := (e2.trans (e3.trans e4)) _ _ o1
  have qx : q ≠ x := fun z => by
    have := (e2.trans e3) _ _ o1
    rw [z] at hq
    rw [hq] at this; cases this
  top_name
  refine k_sfldG o4 E.cl_Strip E.n_Strip_needs (le_le (lpS lp0) (by decide)) fun H5 e5 o5 => ?_
  have t5 := le_mut (t1.trans (e2.trans (e3.trans e4))) x0 e5
  have h5 := e5 _ _ qx h4'
  have hD5 := e5 _ _ dx2 ((e3.trans e4) _ _ h2)
  top_name
  refine lc_pure (fun i : Nat => if isStop bs ts (1 + (i : Int)) = true then some (V.int (1 + (i : Int))) else none) (walk_enumK (a := D)) (by one_place) (by rw [il]; omega) (fun H' e => SqL.of (e _ _ hD5)) ?_ fun D6 H6 hD6 e6 h6 => ?_
  · rintro i x H0 H' R N hi e y hR hN
    obtain ⟨T, x, y, rfl, e9, hT, hT9, hx, hy⟩ := yp_of y
    cases hx
    obtain ⟨hin, rfl⟩ := item_at hy
    have ht' := (t5.trans (e.trans e9)) _ _ ht
    top_name
    refine r_isNb ?_
    cases eo : itemAt bs (1 + (i : Int)) with
    | none =>
      refine r_bl ?_
      refine iteT ?_
      top_name
      exact hR _ _ e9 (by rw [if_pos (by unfold isStop; rw [eo]; rfl)])
    | some z =>
      refine r_bl ?_
      refine iteF ?_
      top_name
      refine r_inT (SqT.of ht') rfl (flat_ints ts) ?_
      rw [if_neg (by decide), inV_ints]
      top_name
      refine if_b (fun h => ?_) (fun h => ?_)
      · top_name
        exact hR _ _ e9 (by rw [if_pos (by unfold isStop; rw [eo, h]; rfl)])
      · exact hN _ e9 (by rw [if_neg (by unfold isStop; rw [eo, h]; simp)])
  rw [il, stops_fm] at h6
  have sl : (((List.range n).map fun i : Nat => (i : Int) + 1).filter (isStop bs ts)).length ≤ n := by
    have := List.length_filter_le (isStop bs ts) ((List.range n).map fun i : Nat => (i : Int) + 1)
    rw [List.length_map, List.length_range] at this
    exact this
  top_name
  refine r_starL (SqL.of h6) ?_
  top_name
  refine ⟨szl (by simp only [List.length_cons, List.length_append, List.length_map, List.length_nil] at sl ⊢; omega), fun q7 hq7 => ?_⟩
  generalize hH7 : upd H6 q7 _ = H7
  have h7 := (congrFun hH7 q7).symm.trans upd_same
  have e7 : Le H6 H7 := hH7 ▸ le_new hq7
  have h7' : H7 q7 = some (.lst ((stopsL bs ts n).map V.int)) := by
    rw [h7]
    unfold stopsL
    rw [List.map_cons, List.append_nil]
  have o7 := (e6.trans e7) _ _ o5
  have q7x : q7 ≠ x := fun z => by
    have := e6 _ _ o5
    rw [z] at hq7
    rw [hq7] at this; cases this
  top_name
  refine k_sfldG o7 E.cl_Strip E.n_Strip_stops (le_le (lpS (lpS lp0)) (by decide)) fun H8 e8 o8 => ?_
  have t8 := le_mut (t5.trans (e6.trans e7)) x0 e8
  top_name
  refine k H8 t8 ⟨dx, _, q, q7, o8, ?_, ?_, ?_, e8 _ _ qx ((e6.trans e7) _ _ h5), e8 _ _ q7x h7'⟩
  · rw [lookup_putF, if_neg (by decide +kernel), lookup_putF, if_neg (by decide +kernel), lookup_putF, if_pos rfl]
  · rw [lookup_putF, if_neg (by decide +kernel), lookup_putF, if_pos rfl]
  · rw [lookup_putF, if_pos rfl]
end
set_option Elab.async false
set_option linter.all false
set_option maxRecDepth 100000
set_option maxHeartbeats 4000000
open PySem PySem.Spec PyProof.Rows L2

section
variable {P : Program} {w : World} {K : PySem.W.Frag} {mg : Str → Option Value} {base : Heap}
theorem sc_accepts : FnScope ["claim", "paper", "word", "text", "places", "told", "length", "garden", "strip"] ["claim", "paper"] (defScope s_accepts) := ⟨rfl, rfl, rfl, by decide +kernel, rfl, by decide +kernel, by decide +kernel⟩
def spAc (K : PySem.W.Frag) : Sp := fun vs H Q _ => ∃ (S : Addr → Prop) (q t : Addr) (v : V) (d : PyData) (c : Int) (bs : List (Option Int)) (ts : List Int) (n : Nat) (m : Int), vs = [.ref q, v] ∧ H q = some (.tup [.str "at most", .str (gTx c bs), .int n, .ref t, .int m]) ∧ H t = some (.tup (ts.map V.int)) ∧ GOk c bs ∧ TpOk ts ∧ (∀ y ∈ ts, y ≤ 200) ∧ n ≤ 200 ∧ 0 ≤ m ∧
  Da S H d v ∧ (isTup d = true → SeqAt.shaped d = true) ∧ ∀ H', Le H H' → Q (.bl (showsD c (stopsL bs ts n) n (needsL bs ts n) m d)) H'
theorem fn_accepts (E : En K mg) : ∃ fd, FunD K "accepts" "accepts" (defArgs s_accepts) (defBody s_accepts) (defScope s_accepts) [] [] (He.ga K "accepts") fd ∧ FnOk P w K mg base C8.CX0 5 (He.ga K "accepts") fd ["claim", "paper"] (spAc K) := by
  obtain ⟨fd, F⟩ := E.f_accepts
  refine ⟨fd, F, FunD.ok F sc_accepts (fun vs H Q E h => by obtain ⟨S, q, t, v, d, c, bs, ts, n, m, rfl, _⟩ := h; rfl) fun cdv A outer s H vs Q E' hr h => ⟨_, (PSs.nox (pss_cons (ps_if (PW.pt (pw_or (pt_not (pt_val (pe_callB (c_isiK K (by rfl)) (by rfl) E.z_isinstance b_isinstance (pa_cons (pv 0) (pa_cons (pe_bltn (v := .ty "tuple") (by rfl) E.z_tuple b_tuple rfl) pa_nil))))) (pw_or1 (pt_cmpR op_ne (pe_callB (c_lenK K (by rfl)) (by rfl) E.z_len b_len (pa_cons (pv 0) pa_nil)) (C8.pe_gc (by rfl) E.i_CLAIM_SIZE) (nomark _))))) (pss_one (ps_ret pe_bl)) pss_nil)
      (pss_cons (ps_asg (pv 0) (pg_tupK (n := 5) K (by rfl) rfl (pgs_cons (pg_name (i := 2) sc_accepts.nd rfl (Or.inl rfl)) (pgs_cons (pg_name (i := 3) sc_accepts.nd rfl (Or.inl rfl)) (pgs_cons (pg_name (i := 4) sc_accepts.nd rfl (Or.inl rfl)) (pgs_cons (pg_name (i := 5) sc_accepts.nd rfl (Or.inl rfl)) (pgs_cons (pg_name (i := 6) sc_accepts.nd rfl (Or.inl rfl)) pgs_nil)))))))
      (pss_cons (ps_set (i := 7) sc_accepts.nd rfl (Or.inl rfl) (C8.pe_c (c_garden_of E) hr (by decide) (by rfl) (pa_cons (pv 3) pa_nil)))
      (pss_cons (ps_if (PW.pt (pw_or (pt_not (pt_val (pe_callB (c_isiK K (by rfl)) (by rfl) E.z_isinstance b_isinstance (pa_cons (pv 2) (pa_cons (pe_bltn (v := .ty "str") (by rfl) E.z_str b_str rfl) pa_nil))))) (pw_or (pt_cmpR (op_ninK K (by rfl)) (pv 2) (C8.pe_gc (by rfl) E.v_WORDS) rfl) (pw_or1 (pt_cmpR op_isN1 (pv 7) pe_non (nomark _)))))) (pss_one (ps_ret pe_bl)) pss_nil)
      (pss_cons (ps_if (PW.pt (pw_or (pt_not (pt_val (C8.pe_c (c_is_count E) hr (by decide) (by rfl) (pa_cons (pv 4) (pa_cons pe_int (pa_cons (C8.pe_gc (by rfl) E.i_MOST_CHECKED) pa_nil)))))) (pw_or1 (pt_not (pt_val (C8.pe_c (c_are_told E) hr (by decide) (by rfl) (pa_cons (pv 5) pa_nil))))))) (pss_one (ps_ret pe_bl)) pss_nil)
      (pss_cons (ps_if (PW.pt (pw_or (pt_not (pt_val (pe_callB (c_isiK K (by rfl)) (by rfl) E.z_isinstance b_isinstance (pa_cons (pv 6) (pa_cons (pe_bltn (v := .ty "int") (by rfl) E.z_int b_int rfl) pa_nil))))) (pw_or (pt_val (pe_callB (c_isiK K (by rfl)) (by rfl) E.z_isinstance b_isinstance (pa_cons (pv 6) (pa_cons (pe_bltn (v := .ty "bool") (by rfl) E.z_bool b_bool rfl) pa_nil)))) (pw_or1 (pt_cmpR op_lt (pv 6) pe_int (nomark _)))))) (pss_one (ps_ret pe_bl)) pss_nil)
      (pss_cons (ps_set (i := 8) sc_accepts.nd rfl (Or.inl rfl) (C8.pe_mk (k_Strip E) hr (by decide) (by rfl) (pa_cons (pv 7) (pa_cons (pv 4) (pa_cons (pv 5) pa_nil)))))
      (pss_one (ps_ret (pe_ifExp (pt_cmpR op_eq (pv 2) pe_str (nomark _)) (C8.pe_c (c_shows_most E) hr (by decide) (by rfl) (pa_cons (pv 8) (pa_cons (pv 6) (pa_cons (pv 1) pa_nil)))) pe_no))))))))))), ?_⟩⟩
  obtain ⟨S, q, t, v, d, c, bs, ts, n, m, rfl, hq, ht, g, tp, h200, hn, hm, hd, sh, k⟩ := h
  one_item
  refine r_isi (.base (.tup hq)) (kit_ty (r := true) (by decide +kernel)) ?_
  top_name
  refine if_ndec (fun h => absurd rfl h) (fun _ => ?_)
  top_name
  refine ⟨c, bs, rfl, g, fun H1 x p e1 hx gd => ?_⟩
  top_name
  refine r_isi (.base (.str _)) (kit_ty (r := true) (by decide +kernel)) ?_
  top_name
  refine r_inT (E.words H1) rfl (by decide +kernel) ?_
  have ew : (if true = true then !inV (.str "at most") [.str "at most", .str "at least"] else inV (.str "at most") [.str "at most", .str "at least"]) = false := by decide +kernel
  rw [ew]
  top_name
  refine ⟨S, .int n, .int n, 0, 200, rfl, .int _, ?_⟩
  have ec : cnt (.int n) 0 200 = true := by
    show (decide ((0 : Int) ≤ (n : Int)) && decide ((n : Int) ≤ 200)) = true
    rw [decide_eq_true (by omega : (0 : Int) ≤ (n : Int)), decide_eq_true (by omega : (n : Int) ≤ 200)]; rfl
  rw [ec]
  top_name
  refine ⟨t, ts, rfl, e1 _ _ ht, tp, h200, fun H2 e2 => ?_⟩
  top_name
  refine r_isi (.base (.int _)) (kit_ty (r := true) (by decide +kernel)) ?_
  top_name
  refine r_isi (.base (.int _)) (kit_ty (r := false) (by decide +kernel)) ?_
  top_name
  refine if_dec (fun h => by omega) (fun _ => ?_)
  top_name
  have t2 := e1.trans e2
  refine fun y dx hy hdx hne => ⟨H2, y, x, p, t, dx, c, bs, ts, n, rfl, make_le (p := y) hy hdx, hy, upd_same, gd.le e2, t2 _ _ ht, hn, fun H3 e3 sp => ⟨rfl, ?_⟩⟩
  have t3 := t2.trans e3
  top_name
  refine r_eqS ?_
  rw [decide_eq_true rfl]
  top_name
  refine ⟨S, y, v, d, c, n, m, _, _, rfl, sp, hd.le t3, sh, stpOk g ts hn, by rw [needsL_len]; omega, fun H4 e4 => ?_⟩
  exact k _ (t3.trans e4)
theorem c_accepts (E : En K mg) : C8.Cal P w K mg base 5 "accepts" (spAc K) [] := by
  obtain ⟨fd, F, h⟩ := fn_accepts (P := P) (w := w) (base := base) E
  exact ⟨He.ga K "accepts", fd, _, [], h, E.g_accepts, F.kp, F.bindsN (fun _ _ _ _ _ _ us hl => match us, hl with | [_, _], _ => rfl), .nil⟩
end
set_option Elab.async false
set_option linter.all false
set_option maxRecDepth 100000
set_option maxHeartbeats 2000000
/-! A call by keywords alone. -/
open PySem PySem.Spec PyProof.Rows L2
section
variable {X : Cx} {CX : CXT} {k : Nat} {f : Addr} {fd : FuncData} {ps ks : List Str} {sp : Sp} {E : XK} {x : Str} {p pos : Pos} {kws : List Keyword} {tk : TA} {g : List Value → List Value → List Value} {gV : List V → List V → List V}
theorem pe_callK0 (F : FnOk X.prog X.w X.K X.mg X.base CX k f fd ps sp) (hr : Room k X.A) (hg : Gl X x) (hm : X.mg x = some (.ref f)) (hk : PySem.W.keepIn X.K (.ref f) = true) (hb : KBinds X.K fd ps ks g gV) (hx : Passes CX X E)
    (hkw : PK X kws tk) (hall : (backToKw pos (keywordEach kws X.env)).all (·.1.isSome) = true := by rfl) (hks : (backToKw pos (keywordEach kws X.env)).filterMap (·.1) = ks := by rfl) (hdb : (x == ("__debug__" : Str)) = false := by decide)
    (hpl : ((backTo pos (starEach [] X.env)).any (·.1) || (backToKw pos (keywordEach kws X.env)).any (·.1.isNone)) = false := by rfl) :
    PE X (.Call (.Name x p) [] kws pos) (tCallK sp gV E tNil tk) := by
  refine ⟨fun pins s σ H Q I h => ?_⟩
  refine wpAny_Call_Name_kw (ld_glob I hg hm ?_ hdb)
  refine PySem.W.callWith_KW0 (h₀ := X.base) I.ok.mod.kin hk hall (thn (hkw.run pos pins s σ H _ I h) fun ws s2 ⟨zs, H2, I2, rz, q2⟩ => ⟨I2.kIn, ?_⟩) hpl
  rw [hks]
  exact run_fnk F hr hb hx I2 .nil rz q2
end
/-- claim = .., paper = .. told in the other order -/
def swG {α : Type} : List α → List α → List α
  | [], [a, b] => [b, a]
  | _, _ => []
theorem kb_accepts {K : PySem.W.Frag} {fd : FuncData} (F : FunD K "accepts" "accepts" (defArgs s_accepts) (defBody s_accepts) (defScope s_accepts) [] [] (He.ga K "accepts") fd) : KBinds K fd ["claim", "paper"] ["paper", "claim"] swG swG := by
  obtain ⟨oc, od, dV, kV, doc, pm, an, cdv, ct, osl, rfl, lk, hcd, hD, hK⟩ := F.ex
  rcases hD with ⟨_, rfl⟩ | ⟨e, _⟩
  · refine ⟨fun s us ws _ hl => ?_, fun r1 r2 => ?_⟩
    · match us, ws, hl with
      | [], [a, b], _ => exact .of_eq rfl
      | [], [], hl => cases hl
      | [], [_], hl => cases hl
      | [], _ :: _ :: _ :: _, hl => cases hl
      | _ :: _, _, hl => cases hl
    · cases r1 with
      | nil =>
        cases r2 with
        | nil => exact .nil
        | cons h1 r2 => cases r2 with
          | nil => exact .nil
          | cons h2 r2 => cases r2 with
            | nil => exact .cons h2 (.cons h1 .nil)
            | cons h3 r2 => exact .nil
      | cons h r => exact .nil
  · exact absurd rfl e
theorem r_callK {sp : Sp} {gV : List V → List V → List V} {E : XK} {t tk : TA} {σ : L2.St} {H : Hp} {Q : VK} (h : t σ H fun vs H1 => tk σ H1 fun zs H2 => sp (gV vs zs) H2 Q E) : tCallK sp gV E t tk σ H Q := h
section
variable {P : Program} {w : World} {mg : Str → Option Value} {base : Heap}
theorem pe_acc {X : Cx} {K : PySem.W.Frag} (h : X.K = K) (E : En K X.mg) {j : Nat} (hr : Room j X.A) (hk : 5 ≤ j) (hg : Gl X "accepts") {e1 e2 : Expr} {t1 t2 : TE} {p pos k1 k2 : Pos} (h1 : PE X e1 t1) (h2 : PE X e2 t2) :
    PE X (.Call (.Name "accepts" p) [] [⟨some "paper", e1, k1⟩, ⟨some "claim", e2, k2⟩] pos) (tCallK (spAc K) swG C8.E0 tNil (tCons t1 (tCons t2 tNil))) := by
  subst h
  obtain ⟨fd, F, hf⟩ := fn_accepts (P := X.prog) (w := X.w) (base := X.base) E
  exact pe_callK0 hf (hr.mono hk) hg E.g_accepts F.kp (kb_accepts F) C8.pass0 (pk_cons h1 (pk_cons h2 pk_nil))
end
set_option Elab.async false
set_option linter.all false
set_option maxRecDepth 100000
set_option maxHeartbeats 4000000
open PySem PySem.Spec PyProof.Rows L2

/-- a bag: three ints -/
def Bg (H : Hp) (b : Addr) : Prop := ∃ x y z : Int, H b = some (.lst [.int x, .int y, .int z])
theorem Bg.le {H H' : Hp} {b : Addr} (h : Bg H b) (e : Le H H') : Bg H' b := by
  obtain ⟨x, y, z, h⟩ := h
  exact ⟨x, y, z, e _ _ h⟩
theorem atI_toNat {α : Type} {xs : List α} {r : Int} (h0 : 0 ≤ r) (h1 : r.toNat < xs.length) : atI xs r = some xs[r.toNat] := by
  have q := atI_nat (xs := xs) (j := r.toNat) (v := xs[r.toNat]) (by simp [h1])
  have e : ((r.toNat : Nat) : Int) = r := by omega
  rw [e] at q
  exact q
theorem lt3 {x y z : V} {k : Int} (h : k < 3) : k < (([x, y, z] : List V).length : Int) := h
section
variable {P : Program} {w : World} {K : PySem.W.Frag} {mg : Str → Option Value} {base : Heap}
theorem sc__law_take : FnScope ["_law_bag_here", "_law_size", "_law_digit", "_law_seed", "_law_stride"] ["_law_bag_here", "_law_size"] (defScope s__law_take) := ⟨rfl, rfl, rfl, by decide +kernel, rfl, by decide +kernel, by decide +kernel⟩
def spTk : Sp := fun vs H Q _ => ∃ (b : Addr) (n : Int), vs = [.ref b, .int n] ∧ Bg H b ∧ 0 < n ∧ n ≤ 900000 ∧ ∀ H' r, LeB b H H' → Bg H' b → 0 ≤ r → r < n → Q (.int r) H'
theorem c__law_take (E : En K mg) : C8.Cal P w K mg base 1 "_law_take" spTk [] := by
  obtain ⟨fd, F⟩ := E.f__law_take
  refine cal_mk F E.g__law_take sc__law_take (fun _ _ _ _ _ _ us hl => match us, hl with | [_, _], _ => rfl) (fun vs H Q E h => by obtain ⟨b, n, rfl, _⟩ := h; rfl) fun cdv A outer s H vs Q E' hr h => ⟨_, (pss_cons (ps_asg (pe_op op_add (pe_ix (ix_listK K (by rfl)) (pv 0) pe_int (fun _ _ => rfl)) pe_int) (pg_sub (pv 0) pe_int set_list))
      (pss_cons (ps_if (pt_cmpR op_gt (pe_ix (ix_listK K (by rfl)) (pv 0) pe_int (fun _ _ => rfl)) pe_int (nomark _)) (pss_cons (ps_asg (pe_callB c_dvm (by rfl) E.z_divmod b_divmod (pa_cons (pe_ix (ix_listK K (by rfl)) (pv 0) pe_int (fun _ _ => rfl)) (pa_cons (pv 1) pa_nil))) (pg_tupK (n := 2) K (by rfl) rfl (pgs_cons (pg_sub (pv 0) pe_int set_list) (pgs_cons (pg_name (i := 2) sc__law_take.nd rfl (Or.inl rfl)) pgs_nil))))
      (pss_one (ps_ret (pv 2)))) pss_nil)
      (pss_cons (ps_set (i := 3) sc__law_take.nd rfl (Or.inl rfl) (pe_callTy c_int1 (by rfl) E.z_int b_int (pa_cons (pe_ix (ix_listK K (by rfl)) (pv 0) pe_int (fun _ _ => rfl)) pa_nil)))
      (pss_cons (ps_set (i := 4) sc__law_take.nd rfl (Or.inl rfl) (pe_op op_add (pe_op op_mod (pe_callTy c_int1 (by rfl) E.z_int b_int (pa_cons (pv 3) pa_nil)) pe_int) pe_int))
      (pss_cons (ps_asg (pe_op op_mod (pe_callTy c_int1 (by rfl) E.z_int b_int (pa_cons (pe_op op_add (pe_op op_add (pe_op op_mul (pv 3) (pv 4)) (pe_op op_mul pe_int (pe_ix (ix_listK K (by rfl)) (pv 0) pe_int (fun _ _ => rfl)))) pe_int) pa_nil)) pe_int) (pg_sub (pv 0) pe_int set_list))
      (pss_one (ps_ret (pe_op op_mod (pe_op op_fdiv (pe_callTy c_int1 (by rfl) E.z_int b_int (pa_cons (pe_ix (ix_listK K (by rfl)) (pv 0) pe_int (fun _ _ => rfl)) pa_nil)) pe_int) (pv 1))))))))), ?_⟩
  obtain ⟨b, n, rfl, ⟨x, y, z, hb⟩, n0, n1, k⟩ := h
  one_item
  refine r_ixL (SqL.of hb) (atI_nat (j := 2) rfl) ?_
  top_name
  refine k_setL hb (by decide) (lt3 (by decide)) fun H1 e1 h1 => ?_
  have h1' : H1 b = some (.lst [.int x, .int y, .int (z + 1)]) := h1
  top_name
  refine r_ixL (SqL.of h1') (atI_nat (j := 0) rfl) ?_
  top_name
  refine if_dec (fun h => ?_) (fun h => ?_)
  · top_name
    refine r_ixL (SqL.of h1') (atI_nat (j := 0) rfl) ?_
    top_name
    refine r_dvm (by omega) fun q H2 hq e2 h2 => ?_
    have hb2 := e2 _ _ h1'
    top_name
    refine k_setL hb2 (by decide) (lt3 (by decide)) fun H3 e3 h3 => ?_
    have h3' : H3 b = some (.lst [.int (x / n), .int y, .int (z + 1)]) := h3
    top_name
    exact k _ _ (e1.trans ((LeB.of e2).trans e3)) ⟨_, _, _, h3'⟩ (Int.emod_nonneg _ (by omega)) (Int.emod_lt_of_pos _ n0)
  · top_name
    refine r_ixL (SqL.of h1') (atI_nat (j := 1) rfl) ?_
    top_name
    refine r_ixL (SqL.of h1') (atI_nat (j := 2) rfl) ?_
    top_name
    generalize hw : (y * (y % 9887 + 31013) + 11 * (z + 1) + 2027) % 2147483477 = w
    refine k_setL h1' (by decide) (lt3 (by decide)) fun H3 e3 h3 => ?_
    have h3' : H3 b = some (.lst [.int x, .int w, .int (z + 1)]) := h3
    top_name
    refine r_ixL (SqL.of h3') (atI_nat (j := 1) rfl) ?_
    top_name
    exact k _ _ (e1.trans e3) ⟨_, _, _, h3'⟩ (Int.emod_nonneg _ (by omega)) (Int.emod_lt_of_pos _ n0)
theorem sc__law_any : FnScope ["_law_bag_here", "_law_some"] ["_law_bag_here", "_law_some"] (defScope s__law_any) := ⟨rfl, rfl, rfl, by decide +kernel, rfl, by decide +kernel, by decide +kernel⟩
def spAn (K : PySem.W.Frag) : Sp := fun vs H Q _ => ∃ (b p : Addr) (xs : List V), vs = [.ref b, .ref p] ∧ Bg H b ∧ p ≠ b ∧ H p = some (.lst xs) ∧ 0 < xs.length ∧ xs.length ≤ 100000 ∧ ∀ H' x, LeB b H H' → Bg H' b → x ∈ xs → Q x H'
theorem c__law_any (E : En K mg) : C8.Cal P w K mg base 2 "_law_any" (spAn K) [] := by
  obtain ⟨fd, F⟩ := E.f__law_any
  refine cal_mk F E.g__law_any sc__law_any (fun _ _ _ _ _ _ us hl => match us, hl with | [_, _], _ => rfl) (fun vs H Q E h => by obtain ⟨b, p, xs, rfl, _⟩ := h; rfl) fun cdv A outer s H vs Q E' hr h => ⟨_, (pss_one (ps_ret (pe_ix (ix_listK K (by rfl)) (pv 1) (C8.pe_c (c__law_take E) hr (by decide) (by rfl) (pa_cons (pv 0) (pa_cons (pe_callB (c_lenK K (by rfl)) (by rfl) E.z_len b_len (pa_cons (pv 1) pa_nil)) pa_nil))) (fun _ _ => rfl)))), ?_⟩
  obtain ⟨b, p, xs, rfl, hb, hne, hp, l0, l1, k⟩ := h
  one_item
  refine ⟨b, _, rfl, hb, by omega, by omega, fun H1 r e1 b1 r0 r1 => ?_⟩
  have hp1 := e1 _ _ hne hp
  have hr' : r.toNat < xs.length := by omega
  refine r_ixL (SqL.of hp1) (v := xs[r.toNat]) (atI_toNat r0 hr') ?_
  exact k _ _ e1 b1 (List.getElem_mem hr')
end
set_option Elab.async false
set_option linter.all false
set_option maxRecDepth 100000
set_option maxHeartbeats 4000000
open PySem PySem.Spec PyProof.Rows L2

theorem le_mutB {b x : Addr} {H0 H H1 : Hp} (e : LeB b H0 H) (n : H0 x = none) (m : LeB x H H1) : LeB b H0 H1 := fun a o hne h => m a o (ne_of_none h n) (e a o hne h)
theorem DaL.bds {S : Addr → Prop} {H : Hp} : ∀ bs : List (Option Int), DaL S H (bs.map bD) (bs.map bv)
  | [] => .nil
  | none :: bs => .cons .non (DaL.bds bs)
  | some i :: bs => .cons (.int i) (DaL.bds bs)
theorem DaL.bds_eq {S : Addr → Prop} {H : Hp} : ∀ {bs : List (Option Int)} {vs : List V}, DaL S H (bs.map bD) vs → vs = bs.map bv
  | [], _, .nil => rfl
  | none :: bs, _, .cons h r => by cases h; rw [r.bds_eq]; rfl
  | some i :: bs, _, .cons h r => by cases h; rw [r.bds_eq]; rfl
section
variable {P : Program} {w : World} {K : PySem.W.Frag} {mg : Str → Option Value} {base : Heap}
theorem sc__law_bag : FnScope ["_law_cells", "_law_turn", "_law_stir", "_law_cell", "_law_mine_here"] ["_law_cells", "_law_turn"] (defScope s__law_bag) := ⟨rfl, rfl, rfl, by decide +kernel, rfl, by decide +kernel, by decide +kernel⟩
def spBg (K : PySem.W.Frag) : Sp := fun vs H Q _ => ∃ (p : Addr) (ns : List Int) (k : Int), vs = [.ref p, .int k] ∧ SqL K H p (ns.map V.int) ∧ 0 ≤ k ∧ k ≤ 10 ∧ ∀ H' b, Le H H' → H b = none → Bg H' b → Q (.ref b) H'
theorem c__law_bag (E : En K mg) : C8.Cal P w K mg base 1 "_law_bag" (spBg K) [] := by
  obtain ⟨fd, F⟩ := E.f__law_bag
  refine cal_mk F E.g__law_bag sc__law_bag (fun _ _ _ _ _ _ us hl => match us, hl with | [_, _], _ => rfl) (fun vs H Q E h => by obtain ⟨p, ns, k, rfl, _⟩ := h; rfl) fun cdv A outer s H vs Q E' hr h => ⟨_, (pss_cons (ps_set (i := 2) sc__law_bag.nd rfl (Or.inl rfl) (pe_op op_add pe_int (pe_op op_mul pe_int (pv 1))))
      (pss_cons (ps_for PassesOwn.never rfl (pi_listK K (by rfl) (pe_slice (sl_listK K (by rfl)) (pv 0) po_none (po_some pe_int))) (pg_name (i := 3) sc__law_bag.nd rfl (Or.inl rfl)) (pss_one (ps_set (i := 2) sc__law_bag.nd rfl (Or.inl rfl) (pe_op op_mod (pe_callTy c_int1 (by rfl) E.z_int b_int (pa_cons (pe_op op_add (pe_op op_mul (pv 2) pe_int) (pv 3)) pa_nil)) pe_int))))
      (pss_cons (ps_set (i := 4) sc__law_bag.nd rfl (Or.inl rfl) (pe_ifExp (pt_cmpR op_lt (pv 1) (pe_callB (c_lenK K (by rfl)) (by rfl) E.z_len b_len (pa_cons (pv 0) pa_nil)) (nomark _)) (pe_ix (ix_listK K (by rfl)) (pv 0) (pv 1) (fun _ _ => rfl)) (pv 2)))
      (pss_one (ps_ret (pe_lst (pa_cons (pe_ifExp (pt_cmpR op_ge (pe_callB c_abs (by rfl) E.z_abs b_abs (pa_cons (pv 4) pa_nil)) (pe_op op_pow pe_int pe_int) (nomark _)) (pe_callB c_abs (by rfl) E.z_abs b_abs (pa_cons (pv 4) pa_nil)) pe_int) (pa_cons (pe_op op_mod (pe_callTy c_int1 (by rfl) E.z_int b_int (pa_cons (pe_op op_add (pe_op op_add (pe_op op_mul (pv 2) pe_int) (pe_op op_mul (pv 4) pe_int)) pe_int) pa_nil)) pe_int) (pa_cons pe_int pa_nil))))))))), ?_⟩
  obtain ⟨p, ns, kk, rfl, hp, k0, k1, k⟩ := h
  one_item
  refine r_slL hp fun q H1 hq e1 h1 => ?_
  have hc : ∃ ms : List Int, cutV (ns.map V.int) none (some 5) = ms.map V.int := ⟨ns.take 5, by rw [cut_take _ _ (by decide), ← List.map_take]; rfl⟩
  obtain ⟨ms, hms⟩ := hc
  rw [hms] at h1
  top_name
  refine for_it (walk_list (a := q) (xs := ms.map V.int)) (fun i σ H' => H' = H1 ∧ ∃ (st : Int) (x3 : Option V), σ = [some (.ref p), some (.int kk), some (.int st), x3, none]) ⟨rfl, _, none, rfl⟩ (fun i σ H' _ h => by rw [h.1]; exact SqL.of h1) ?_ ?_
  · rintro i x σ H2 _ hi ⟨rfl, st, x3, rfl⟩ ⟨rfl, hx⟩
    obtain ⟨z, hz, rfl⟩ := some_int hx
    top_name
    exact ⟨rfl, _, _, rfl⟩
  · rintro σ H2 ⟨rfl, st, x3, rfl⟩
    have hp2 := le_sq e1 hp
    top_name
    refine if_jn (fun x H' => H' = H2 ∧ ∃ m : Int, x = .int m) (fun x H' h => ?_) fun hk => ?_
    rotate_left
    · refine if_dec (fun h => ?_) (fun h => ?_)
      · refine r_op ?_
        refine r_var rfl ?_
        refine r_var rfl ?_
        rw [List.length_map] at h
        have hlt : kk.toNat < (ns.map V.int).length := by rw [List.length_map]; omega
        refine r_ixL hp2 (atI_toNat k0 hlt) ?_
        exact hk _ _ ⟨rfl, ns[kk.toNat]'(by omega), by simp⟩
      · refine r_var rfl ?_
        exact hk _ _ ⟨rfl, st, rfl⟩
    obtain ⟨rfl, m, rfl⟩ := h
    top_name
    refine if_jn (fun x H'' => H'' = H' ∧ ∃ m : Int, x = .int m) (fun x H'' h => ?_) fun hk => ?_
    rotate_left
    · refine if_dec (fun h => ?_) (fun h => ?_)
      · refine r_CB ?_
        refine r_cons ?_
        refine r_var rfl ?_
        refine r_nil ?_
        refine r_abs ?_
        exact hk _ _ ⟨rfl, _, rfl⟩
      · refine r_C ?_
        exact hk _ _ ⟨rfl, 0, rfl⟩
    obtain ⟨rfl, m2, rfl⟩ := h
    top_name
    refine newz_ (by simp) fun b H3 hb e3 h3 => ?_
    exact k _ _ (e1.trans e3) (le_free e1 hb) ⟨_, _, _, h3⟩
theorem sc__law_soil : FnScope ["_law_bag_here", "_law_most_can", "_law_most_beds", "_law_size", "_law_beds_here", "_law_k"] ["_law_bag_here", "_law_most_can", "_law_most_beds"] (defScope s__law_soil) := ⟨rfl, rfl, rfl, by decide +kernel, rfl, by decide +kernel, by decide +kernel⟩
def spSo : Sp := fun vs H Q _ => ∃ (b : Addr) (mc mb : Int), vs = [.ref b, .int mc, .int mb] ∧ Bg H b ∧ 1 ≤ mc ∧ mc ≤ 20 ∧ 1 ≤ mb ∧ mb ≤ 5 ∧
  ∀ H' v c (bs : List (Option Int)), LeB b H H' → Bg H' b → GOk c bs → Da (· = b) H' (.tuple [.int c, .list (bs.map bD)]) v → Q v H'
theorem c__law_soil (E : En K mg) : C8.Cal P w K mg base 3 "_law_soil" spSo [] := by
  obtain ⟨fd, F⟩ := E.f__law_soil
  refine cal_mk F E.g__law_soil sc__law_soil (fun _ _ _ _ _ _ us hl => match us, hl with | [_, _, _], _ => rfl) (fun vs H Q E h => by obtain ⟨b, mc, mb, rfl, _⟩ := h; rfl) fun cdv A outer s H vs Q E' hr h => ⟨_, (pss_cons (ps_par (i := 3) (j := 4) (by rfl) sc__law_soil.nd rfl rfl (by decide) rfl rfl (pa_cons (pe_op op_add pe_int (C8.pe_c (c__law_take E) hr (by decide) (by rfl) (pa_cons (pv 0) (pa_cons (pv 2) pa_nil)))) (pa_cons (pe_lst pa_nil) pa_nil)) (by rfl))
      (pss_cons (ps_for PassesOwn.never rfl (pi_range1 rfl E.z_range (pa_cons (pv 3) pa_nil)) (pg_name (i := 5) sc__law_soil.nd rfl (Or.inl rfl)) (pss_one (ps_expr (pe_bmK K (by rfl) PySem.F.plainAttrs_list PySem.F.slot_list_append PySem.F.type_list_append mt_append (pv 4) (pa_cons (C8.pe_c (c__law_any E) hr (by decide) (by rfl) (pa_cons (pv 0) (pa_cons (pe_lst (pa_cons pe_non (pa_cons pe_int (pa_cons pe_int (pa_cons pe_int (pa_cons pe_int (pa_cons pe_int (pa_cons (C8.pe_c (c__law_take E) hr (by decide) (by rfl) (pa_cons (pv 0) (pa_cons pe_int pa_nil))) pa_nil)))))))) pa_nil))) pa_nil)))))
      (pss_one (ps_ret (pe_tup (pa_cons (pe_op op_add pe_int (C8.pe_c (c__law_take E) hr (by decide) (by rfl) (pa_cons (pv 0) (pa_cons (pv 1) pa_nil)))) (pa_cons (pv 4) pa_nil))))))), ?_⟩
  obtain ⟨b, mc, mb, rfl, hb, c0, c1, m0, m1, k⟩ := h
  one_item
  refine ⟨b, mb, rfl, hb, by omega, by omega, fun H1 sz e1 b1 s0 s1 => ?_⟩
  top_name
  refine ⟨Nat.zero_le _, fun p hp => ?_⟩
  generalize hH2 : upd H1 p _ = H2
  have h2 := (congrFun hH2 p).symm.trans upd_same
  have e2 : Le H1 H2 := hH2 ▸ le_new hp
  have hp0 : ∀ {H' : Hp}, Bg H' b → H' p = none → p ≠ b := fun g h z => by
    obtain ⟨x, y, u, g⟩ := g
    rw [z] at h; rw [h] at g; cases g
  have pb := hp0 b1 hp
  top_name
  refine for_range (fun i σ H' => LeB b H1 H' ∧ Bg H' b ∧ ∃ (x5 : Option V) (bs : List (Option Int)), σ = [some (.ref b), some (.int mc), some (.int mb), some (.int (1 + sz)), some (.ref p), x5] ∧ H' p = some (.lst (bs.map bv)) ∧ bs.length = i ∧ ∀ o ∈ bs, ItOk o) ⟨LeB.of e2, b1.le e2, none, [], rfl, h2, rfl, (fun _ h => nomatch h)⟩ ?_ ?_
  · rintro i σ H3 hi ⟨e3, b3, x5, bs, rfl, h3, hl, hit⟩
    top_name
    refine ⟨b, 10, rfl, b3, by omega, by omega, fun H4 r e4 b4 r0 r1 => ?_⟩
    top_name
    refine ⟨szl (by simp), fun q hq => ?_⟩
    generalize hH5 : upd H4 q _ = H5
    have h5 := (congrFun hH5 q).symm.trans upd_same
    have e5 : Le H4 H5 := hH5 ▸ le_new hq
    have qb : q ≠ b := fun z => by
      obtain ⟨x, y, u, g⟩ := b4
      rw [z] at hq; rw [hq] at g; cases g
    have qp : p ≠ q := fun z => by
      have := e4 _ _ pb h3
      rw [← z] at hq; rw [hq] at this; cases this
    top_name
    refine ⟨b, q, _, rfl, b4.le e5, qb, h5, by simp, by simp, fun H6 x e6 b6 hx => ?_⟩
    have hx' : ∃ o, x = bv o ∧ ItOk o := by
      simp only [List.mem_cons, List.mem_nil_iff, or_false] at hx
      rcases hx with rfl | rfl | rfl | rfl | rfl | rfl | rfl
      · exact ⟨none, rfl, fun _ h => nomatch h⟩
      · exact ⟨some 0, rfl, fun x h => by cases h; omega⟩
      · exact ⟨some 1, rfl, fun x h => by cases h; omega⟩
      · exact ⟨some 1, rfl, fun x h => by cases h; omega⟩
      · exact ⟨some 2, rfl, fun x h => by cases h; omega⟩
      · exact ⟨some 3, rfl, fun x h => by cases h; omega⟩
      · exact ⟨some r, rfl, fun x h => by cases h; omega⟩
    obtain ⟨o, rfl, ho⟩ := hx'
    have h6 := e6 _ _ pb (e5 _ _ (e4 _ _ pb h3))
    top_name
    refine k_app h6 (by rw [List.length_map]; omega) fun H7 e7 h7 => ?_
    refine ⟨le_mutB (e3.trans (e4.trans ((LeB.of e5).trans e6))) hp e7, ?_, _, bs ++ [o], rfl, by rw [h7, List.map_append]; rfl, by simp [hl], fun z hz => ?_⟩
    · obtain ⟨x, y, u, g⟩ := b6
      exact ⟨x, y, u, e7 _ _ (Ne.symm pb) g⟩
    · rcases List.mem_append.mp hz with hz | hz
      · exact hit z hz
      · have e : z = o := by simpa using hz
        rw [e]; exact ho
  · rintro σ H3 ⟨e3, b3, x5, bs, rfl, h3, hl, hit⟩
    top_name
    refine ⟨b, mc, rfl, b3, by omega, by omega, fun H4 r e4 b4 r0 r1 => ?_⟩
    top_name
    refine newz_ (by simp) fun q H5 hq e5 h5 => ?_
    have qb : q ≠ b := fun z => by
      obtain ⟨x, y, u, g⟩ := b4
      rw [z] at hq; rw [hq] at g; cases g
    have hit2 : ∀ x, some x ∈ bs → 0 ≤ x ∧ x ≤ 9 := fun x hx => hit _ hx x rfl
    exact k H5 (.ref q) (1 + r) bs (e1.trans (e3.trans (e4.trans (LeB.of e5)))) (b4.le e5) ⟨by omega, by omega, by omega, by omega, hit2⟩ (.tup qb h5 (.cons (.int _) (.cons (.lst pb (e5 _ _ (e4 _ _ pb h3)) (DaL.bds bs)) .nil)))
end
set_option Elab.async false
set_option linter.all false
set_option maxRecDepth 100000
set_option maxHeartbeats 4000000
open PySem PySem.Spec PyProof.Rows L2

theorem text_eq {c : Int} {bs : List (Option Int)} (g : GOk c bs) : Str.ofString "can " ++ Str.ofString (toString c) ++ Str.ofString "\nitems " ++ Txt.join (Str.ofString " ") ((bs.map wL).map SX.S) = gTx c bs := by
  have c1 := g.c1
  rw [lit_can, lit_nlit, lit_sp, str_nat (by omega), SX.join_S, SX.S_cat, SX.S_cat, SX.S_cat]
  unfold gTx lineI partsI lineC
  have l1 := g.l1
  cases bs with
  | nil => simp at l1
  | cons o bs =>
    congr 1
    show _ = ([99, 97, 110, 32] ++ TL.numL c.toNat) ++ ([10] ++ ([105, 116, 101, 109, 115] ++ ([32] ++ TL.joinL [32] ((o :: bs).map wL))))
    simp only [List.append_assoc, List.cons_append, List.nil_append]
/-- a soil, read -/
theorem soil_of {S : Addr → Prop} {H : Hp} {c : Int} {bs : List (Option Int)} {v : V} (h : Da S H (.tuple [.int c, .list (bs.map bD)]) v) : ∃ a p, v = .ref a ∧ ¬ S a ∧ ¬ S p ∧ H a = some (.tup [.int c, .ref p]) ∧ H p = some (.lst (bs.map bv)) := by
  obtain ⟨a, xs, rfl, na, ha, hx⟩ := h.tupE
  obtain ⟨x, y, rfl, h1, h2⟩ := hx.two
  obtain ⟨p, ys, rfl, np, hp, hy⟩ := h2.lstE
  rw [h1.int_eq] at ha
  rw [hy.bds_eq] at hp
  exact ⟨a, p, rfl, na, np, ha, hp⟩
section
variable {P : Program} {w : World} {K : PySem.W.Frag} {mg : Str → Option Value} {base : Heap}
theorem sc__law_text : FnScope ["_law_soil_here", "_law_words", "_law_item_here"] ["_law_soil_here"] (defScope s__law_text) := ⟨rfl, rfl, rfl, by decide +kernel, rfl, by decide +kernel, by decide +kernel⟩
def spTx : Sp := fun vs H Q _ => ∃ (S : Addr → Prop) (v : V) (c : Int) (bs : List (Option Int)), vs = [v] ∧ GOk c bs ∧ Da S H (.tuple [.int c, .list (bs.map bD)]) v ∧ ∀ H', Le H H' → Q (.str (gTx c bs)) H'
theorem c__law_text (E : En K mg) : C8.Cal P w K mg base 1 "_law_text" spTx [] := by
  obtain ⟨fd, F⟩ := E.f__law_text
  refine cal_mk F E.g__law_text sc__law_text (fun _ _ _ _ _ _ us hl => match us, hl with | [_], _ => rfl) (fun vs H Q E h => by obtain ⟨S, v, c, bs, rfl, _⟩ := h; rfl) fun cdv A outer s H vs Q E' hr h => ⟨_, (pss_cons (ps_setLc (own := [("_law_item_here", 2)]) (i := 1) rfl sc__law_text.nd rfl rfl (sw_true rfl rfl rfl (by decide +kernel)) (pi_listK K (by rfl) (pe_ix (ix_tupK K (by rfl)) (pv 0) pe_int (fun _ _ => rfl))) (blkOk_by (own := [("_law_item_here", 2)]) (N := ["_law_soil_here", "_law_words", "_law_item_here"]) (sc := defScope s__law_text) (by decide +kernel)) (fun _ _ _ _ _ => (pg_name (i := 2) sc__law_text.nd rfl (Or.inl rfl))) (fun _ _ _ _ _ => pts_nil) (fun _ _ _ _ _ => (pe_ifExp (pt_cmpR op_isN1 (pv 2) pe_non (nomark _)) pe_str (pe_callTy c_strI (by rfl) E.z_str b_str (pa_cons (pv 2) pa_nil)))))
      (pss_one (ps_ret (pe_op op_add_str (pe_op op_add_str (pe_op op_add_str pe_str (pe_callTy c_strI (by rfl) E.z_str b_str (pa_cons (pe_ix (ix_tupK K (by rfl)) (pv 0) pe_int (fun _ _ => rfl)) pa_nil))) pe_str) (pe_joinK K (by rfl) pe_str (pv 1)))))), ?_⟩
  obtain ⟨S, v, c, bs, rfl, g, hd, k⟩ := h
  obtain ⟨a, p, rfl, _, _, ha, hp⟩ := soil_of hd
  have c1 := g.c1
  have c2 := g.c2
  have l2 := g.l2
  one_item
  refine r_ixT (SqT.of ha) (atI_nat (j := 1) rfl) ?_
  top_name
  refine lc_map (((bs.map wL).map SX.S).map V.str) walk_list (by simp) (by one_place) (by simp; omega) (fun H' e => SqL.of (e _ _ hp)) ?_ fun D H1 hD e1 h1 => ?_
  · rintro i x H0 H' R N hi e ⟨rfl, hx⟩ hR
    rw [List.getElem?_map] at hx
    obtain ⟨o, ho, rfl⟩ := Option.map_eq_some_iff.mp hx
    have hR' : ∀ y, y = V.str (SX.S (wL o)) → R y H' := fun y hy => hR y _ (Same.refl _) (by rw [List.getElem?_map, List.getElem?_map, List.getElem?_map, ho, hy]; rfl)
    clear hR
    have io := g.items o (List.mem_of_getElem? ho)
    top_name
    refine r_isNb ?_
    cases o with
    | none =>
      refine r_bl ?_
      refine iteT ?_
      top_name
      exact hR' _ (by rw [lit_tap]; rfl)
    | some z =>
      have hz := io z rfl
      refine r_bl ?_
      refine iteF ?_
      refine r_CB ?_
      refine r_cons ?_
      refine r_var rfl ?_
      refine r_nil ?_
      refine r_strI (by omega) ?_
      exact hR' _ (by rw [str_nat (by omega)]; rfl)
  have ha1 := e1 _ _ ha
  top_name
  refine r_ixT (SqT.of ha1) (atI_nat (j := 0) rfl) ?_
  top_name
  refine r_strI (by omega) ?_
  have lc := lineC_len g
  have lI := lineI_len g
  have hs : Str.ofString "can " ++ Str.ofString (toString c) = SX.S (lineC c) := by rw [lit_can, str_nat (by omega), SX.S_cat]; rfl
  refine ⟨_, _, rfl, rfl, ?_, ?_⟩
  · rw [lit_can, str_nat (by omega), SX.S_len, SX.S_len]
    have : (lineC c).length = ([99, 97, 110, 32] : List Nat).length + (TL.numL c.toNat).length := by unfold lineC; rw [List.length_append]
    rw [← this]
    exact Nat.le_trans lc (by decide)
  top_name
  refine ⟨_, _, rfl, rfl, ?_, ?_⟩
  · rw [hs, lit_nlit, SX.S_len, SX.S_len]
    exact Nat.le_trans (Nat.add_le_add_right lc _) (by decide)
  top_name
  have lb : ∀ q ∈ bs.map wL, q.length ≤ 5 := fun q hq => (parts_no g q (List.mem_cons_of_mem _ hq)).2.2
  refine ⟨_, D, (bs.map wL).map SX.S, rfl, rfl, .inl (SqL.of h1), ?_, ?_⟩
  · rw [SX.lens, lit_sp, SX.S_len]
    have : ∀ ls : List (List Nat), (∀ q ∈ ls, q.length ≤ 5) → (ls.map (·.length)).sum ≤ ls.length * 5 := by
      intro ls
      induction ls with
      | nil => intro _; exact Nat.le_refl _
      | cons q ls ih =>
        intro h
        have h1 := h q (by simp)
        have h2 := ih fun z hz => h z (by simp [hz])
        rw [List.map_cons, List.sum_cons, List.length_cons, Nat.succ_mul]
        omega
    have h2 := this _ lb
    rw [List.length_map, List.length_map] at *
    simp only [List.length_cons, List.length_nil, List.length_map] at *
    omega
  top_name
  have hjl : (Txt.join (Str.ofString " ") ((bs.map wL).map SX.S)).length ≤ 100 := by
    rw [lit_sp, SX.join_S, SX.S_len]
    have h := joinL_len (s := [32]) (m := 5) lb
    rw [List.length_map] at h
    have : bs.length * (5 + [32].length) ≤ 5 * 6 := Nat.mul_le_mul l2 (by decide)
    omega
  refine ⟨_, _, rfl, rfl, ?_, ?_⟩
  · have : (Str.ofString "can " ++ Str.ofString (toString c) ++ Str.ofString "\nitems ").length ≤ 100 := by
      rw [hs, lit_nlit, SX.S_cat, SX.S_len, List.length_append]
      exact Nat.le_trans (Nat.add_le_add_right lc _) (by decide)
    exact Nat.le_trans (Nat.add_le_add this hjl) (by decide)
  rw [text_eq g]
  exact k _ e1
theorem sc__law_needs : FnScope ["_law_soil_here", "_law_size", "_law_told_here", "_law_found", "_law_place", "_law_item_here"] ["_law_soil_here", "_law_size", "_law_told_here"] (defScope s__law_needs) := ⟨rfl, rfl, rfl, by decide +kernel, rfl, by decide +kernel, by decide +kernel⟩
def spNd : Sp := fun vs H Q _ => ∃ (S : Addr → Prop) (v : V) (t : Addr) (c : Int) (bs : List (Option Int)) (ts : List Int) (n : Nat), vs = [v, .int n, .ref t] ∧ GOk c bs ∧ Da S H (.tuple [.int c, .list (bs.map bD)]) v ∧ H t = some (.tup (ts.map V.int)) ∧ n ≤ 200 ∧
  ∀ H' q, Le H H' → H q = none → H' q = some (.lst ((needsL bs ts n).map V.int)) → Q (.ref q) H'
theorem c__law_needs (E : En K mg) : C8.Cal P w K mg base 1 "_law_needs" spNd [] := by
  obtain ⟨fd, F⟩ := E.f__law_needs
  refine cal_mk F E.g__law_needs sc__law_needs (fun _ _ _ _ _ _ us hl => match us, hl with | [_, _, _], _ => rfl) (fun vs H Q E h => by obtain ⟨S, v, t, c, bs, ts, n, rfl, _⟩ := h; rfl) fun cdv A outer s H vs Q E' hr h => ⟨_, (pss_cons (ps_set (i := 3) sc__law_needs.nd rfl (Or.inl rfl) (pe_lst (pa_cons pe_int pa_nil)))
      (pss_cons (ps_for PassesOwn.never rfl (pi_range2 rfl E.z_range (pa_cons pe_int (pa_cons (pe_op op_add (pv 1) pe_int) pa_nil))) (pg_name (i := 4) sc__law_needs.nd rfl (Or.inl rfl)) (pss_cons (ps_set (i := 5) sc__law_needs.nd rfl (Or.inl rfl) (pe_ix (ix_listK K (by rfl)) (pe_ix (ix_tupK K (by rfl)) (pv 0) pe_int (fun _ _ => rfl)) (pe_op op_mod (pe_callTy c_int1 (by rfl) E.z_int b_int (pa_cons (pe_op op_sub (pv 4) pe_int) pa_nil)) (pe_callB (c_lenK K (by rfl)) (by rfl) E.z_len b_len (pa_cons (pe_ix (ix_tupK K (by rfl)) (pv 0) pe_int (fun _ _ => rfl)) pa_nil))) (fun _ _ => rfl)))
      (pss_one (ps_expr (pe_bmK K (by rfl) PySem.F.plainAttrs_list PySem.F.slot_list_append PySem.F.type_list_append mt_append (pv 3) (pa_cons (pe_ifExp (PW.pt (pw_or (pt_cmpR op_isN1 (pv 5) pe_non (nomark _)) (pw_or1 (pt_cmpR (op_inK K (by rfl)) (pv 4) (pv 2) rfl)))) pe_int (pv 5)) pa_nil))))))
      (pss_one (ps_ret (pv 3))))), ?_⟩
  obtain ⟨S, v, t, c, bs, ts, n, rfl, g, hd, ht, hn, k⟩ := h
  obtain ⟨a, p, rfl, _, _, ha, hp⟩ := soil_of hd
  have l1 := g.l1
  have l2 := g.l2
  have hl : (((bs.map bv).length : Nat) : Int) = bs.length := by simp
  one_item
  refine newz_ (by simp) fun q H1 hq e1 h1 => ?_
  top_name
  refine for_range (fun i σ H' => Le H H' ∧ ∃ (x4 x5 : Option V), σ = [some (.ref a), some (.int n), some (.ref t), some (.ref q), x4, x5] ∧ H' q = some (.lst ((needsL bs ts i).map V.int))) ⟨e1, none, none, rfl, h1⟩ ?_ ?_
  · rintro i σ H2 hi ⟨e2, x4, x5, rfl, h2⟩
    have ha2 := e2 _ _ ha
    have hp2 := e2 _ _ hp
    have ht2 := e2 _ _ ht
    top_name
    refine r_ixT (SqT.of ha2) (atI_nat (j := 1) rfl) ?_
    top_name
    refine r_ixT (SqT.of ha2) (atI_nat (j := 1) rfl) ?_
    top_name
    rw [hl]
    top_name
    refine r_ixL (SqL.of hp2) (item_ix l1 _) ?_
    top_name
    have fin : ∀ y, y = V.int (needV bs ts (1 + (i : Int))) → ∀ (R : V → Hp → Prop), (∀ H', LeB q H2 H' → H' q = some (.lst ((needsL bs ts (i + 1)).map V.int)) → R .non H') → rAppend (.ref q) [y] H2 R := fun y hy R hR => by
      refine k_app h2 (by rw [List.length_map, needsL_len]; omega) fun H3 e3 h3 => hR H3 e3 ?_
      rw [h3, hy]
      unfold needsL
      rw [List.range_succ, List.map_append, List.map_cons, List.map_cons, List.map_append, List.cons_append, Int.add_comm]
      rfl
    refine r_isNb ?_
    cases eo : itemAt bs (1 + (i : Int)) with
    | none =>
      refine r_bl ?_
      refine iteT ?_
      top_name
      refine fin _ (by unfold needV; rw [eo]) _ fun H3 e3 h3 => ?_
      exact ⟨le_mut e2 hq e3, _, _, rfl, h3⟩
    | some z =>
      refine r_bl ?_
      refine iteF ?_
      top_name
      refine r_inT (SqT.of ht2) rfl (flat_ints ts) ?_
      rw [if_neg (by decide), inV_ints]
      top_name
      refine if_b (fun h => ?_) (fun h => ?_)
      · top_name
        refine fin _ (by unfold needV; rw [eo]; simp only [h]; rfl) _ fun H3 e3 h3 => ?_
        exact ⟨le_mut e2 hq e3, _, _, rfl, h3⟩
      · top_name
        refine fin _ (by unfold needV; rw [eo]; simp only [h]; rfl) _ fun H3 e3 h3 => ?_
        exact ⟨le_mut e2 hq e3, _, _, rfl, h3⟩
  · rintro σ H2 ⟨e2, x4, x5, rfl, h2⟩
    have en : ((n : Int) + 1 - 1).toNat = n := by omega
    rw [en] at h2
    top_name
    exact k _ _ e2 hq h2
theorem sc__law_stops : FnScope ["_law_soil_here", "_law_size", "_law_told_here", "_law_found", "_law_place"] ["_law_soil_here", "_law_size", "_law_told_here"] (defScope s__law_stops) := ⟨rfl, rfl, rfl, by decide +kernel, rfl, by decide +kernel, by decide +kernel⟩
def spSs : Sp := fun vs H Q _ => ∃ (S : Addr → Prop) (v : V) (t : Addr) (c : Int) (bs : List (Option Int)) (ts : List Int) (n : Nat), vs = [v, .int n, .ref t] ∧ GOk c bs ∧ Da S H (.tuple [.int c, .list (bs.map bD)]) v ∧ H t = some (.tup (ts.map V.int)) ∧ n ≤ 200 ∧
  ∀ H' q, Le H H' → H q = none → H' q = some (.lst ((stopsL bs ts n).map V.int)) → Q (.ref q) H'
theorem c__law_stops (E : En K mg) : C8.Cal P w K mg base 1 "_law_stops" spSs [] := by
  obtain ⟨fd, F⟩ := E.f__law_stops
  refine cal_mk F E.g__law_stops sc__law_stops (fun _ _ _ _ _ _ us hl => match us, hl with | [_, _, _], _ => rfl) (fun vs H Q E h => by obtain ⟨S, v, t, c, bs, ts, n, rfl, _⟩ := h; rfl) fun cdv A outer s H vs Q E' hr h => ⟨_, (pss_cons (ps_set (i := 3) sc__law_stops.nd rfl (Or.inl rfl) (pe_lst (pa_cons pe_int pa_nil)))
      (pss_cons (ps_for PassesOwn.never rfl (pi_range2 rfl E.z_range (pa_cons pe_int (pa_cons (pe_op op_add (pv 1) pe_int) pa_nil))) (pg_name (i := 4) sc__law_stops.nd rfl (Or.inl rfl)) (pss_one (ps_if (PW.pt (pw_or (pt_cmpR op_isN1 (pe_ix (ix_listK K (by rfl)) (pe_ix (ix_tupK K (by rfl)) (pv 0) pe_int (fun _ _ => rfl)) (pe_op op_mod (pe_callTy c_int1 (by rfl) E.z_int b_int (pa_cons (pe_op op_sub (pv 4) pe_int) pa_nil)) (pe_callB (c_lenK K (by rfl)) (by rfl) E.z_len b_len (pa_cons (pe_ix (ix_tupK K (by rfl)) (pv 0) pe_int (fun _ _ => rfl)) pa_nil))) (fun _ _ => rfl)) pe_non (nomark _)) (pw_or1 (pt_cmpR (op_inK K (by rfl)) (pv 4) (pv 2) rfl)))) (pss_one (ps_expr (pe_bmK K (by rfl) PySem.F.plainAttrs_list PySem.F.slot_list_append PySem.F.type_list_append mt_append (pv 3) (pa_cons (pv 4) pa_nil)))) pss_nil)))
      (pss_one (ps_ret (pv 3))))), ?_⟩
  obtain ⟨S, v, t, c, bs, ts, n, rfl, g, hd, ht, hn, k⟩ := h
  obtain ⟨a, p, rfl, _, _, ha, hp⟩ := soil_of hd
  have l1 := g.l1
  have l2 := g.l2
  have hl : (((bs.map bv).length : Nat) : Int) = bs.length := by simp
  one_item
  refine newz_ (by simp) fun q H1 hq e1 h1 => ?_
  top_name
  refine for_range (fun i σ H' => Le H H' ∧ ∃ (x4 : Option V), σ = [some (.ref a), some (.int n), some (.ref t), some (.ref q), x4] ∧ H' q = some (.lst ((stopsL bs ts i).map V.int))) ⟨e1, none, rfl, h1⟩ ?_ ?_
  · rintro i σ H2 hi ⟨e2, x4, rfl, h2⟩
    have ha2 := e2 _ _ ha
    have hp2 := e2 _ _ hp
    have ht2 := e2 _ _ ht
    top_name
    refine r_ixT (SqT.of ha2) (atI_nat (j := 1) rfl) ?_
    top_name
    refine r_ixT (SqT.of ha2) (atI_nat (j := 1) rfl) ?_
    top_name
    rw [hl]
    top_name
    refine r_ixL (SqL.of hp2) (item_ix l1 _) ?_
    top_name
    have st1 : stopsL bs ts (i + 1) = if isStop bs ts (1 + (i : Int)) = true then stopsL bs ts i ++ [1 + (i : Int)] else stopsL bs ts i := by
      unfold stopsL
      rw [List.range_succ, List.map_append, List.filter_append, Int.add_comm 1]
      show 0 :: (_ ++ ([(i : Int) + 1].filter (isStop bs ts))) = _
      rw [List.filter_cons]
      cases isStop bs ts ((i : Int) + 1) <;> simp
    have sl := stopsL_len bs ts i
    have fin : isStop bs ts (1 + (i : Int)) = true → ∀ (R : V → Hp → Prop), (∀ H', LeB q H2 H' → H' q = some (.lst ((stopsL bs ts (i + 1)).map V.int)) → R .non H') → rAppend (.ref q) [.int (1 + (i : Int))] H2 R := fun hs R hR => by
      refine k_app h2 (by rw [List.length_map]; omega) fun H3 e3 h3 => hR H3 e3 ?_
      rw [h3, st1, if_pos hs, List.map_append]
      rfl
    refine r_isNb ?_
    cases eo : itemAt bs (1 + (i : Int)) with
    | none =>
      refine r_bl ?_
      refine iteT ?_
      top_name
      refine fin (by unfold isStop; rw [eo]; rfl) _ fun H3 e3 h3 => ?_
      exact ⟨le_mut e2 hq e3, _, rfl, h3⟩
    | some z =>
      refine r_bl ?_
      refine iteF ?_
      top_name
      refine r_inT (SqT.of ht2) rfl (flat_ints ts) ?_
      rw [if_neg (by decide), inV_ints]
      top_name
      refine if_b (fun h => ?_) (fun h => ?_)
      · top_name
        refine fin (by unfold isStop; rw [eo, h]; rfl) _ fun H3 e3 h3 => ?_
        exact ⟨le_mut e2 hq e3, _, rfl, h3⟩
      · top_name
        exact ⟨e2, _, rfl, by rw [h2, st1, if_neg (by unfold isStop; rw [eo, h]; simp)]⟩
  · rintro σ H2 ⟨e2, x4, rfl, h2⟩
    have en : ((n : Int) + 1 - 1).toNat = n := by omega
    rw [en] at h2
    top_name
    exact k _ _ e2 hq h2
end
set_option Elab.async false
set_option linter.all false
set_option maxRecDepth 100000
set_option maxHeartbeats 4000000
open PySem PySem.Spec PyProof.Rows L2

theorem incr_len {hi : Int} : ∀ {ps : List (Int × Int)} {lo : Int}, lo ≤ hi → (∀ p ∈ ps, lo < p.1 ∧ p.1 < hi) → ps.Pairwise (fun p q => p.1 < q.1) → (ps.length : Int) ≤ hi - lo
  | [], lo, h, _, _ => by simp; omega
  | p :: ps, lo, h, hb, hp => by
    have h1 := hb p (by simp)
    have h2 := List.pairwise_cons.mp hp
    have := incr_len (ps := ps) (lo := p.1) (by omega) (fun q hq => ⟨h2.1 q hq, (hb q (by simp [hq])).2⟩) h2.2
    rw [List.length_cons]
    push_cast
    omega
theorem poursOf_prD (ps : List (Int × Int)) : poursOf (.tuple (ps.map prD)) = ps := poursOf_eq ps
section
variable {P : Program} {w : World} {K : PySem.W.Frag} {mg : Str → Option Value} {base : Heap}
theorem sc__law_are_pours : FnScope ["_law_pours", "_law_load", "_law_low", "_law_high", "_law_pour"] ["_law_pours", "_law_load", "_law_low", "_law_high"] (defScope s__law_are_pours) := ⟨rfl, rfl, rfl, by decide +kernel, rfl, by decide +kernel, by decide +kernel⟩
def spLP : Sp := fun vs H Q _ => ∃ (S : Addr → Prop) (v : V) (d : PyData) (load low high : Int), vs = [v, .int load, .int low, .int high] ∧ Da S H d v ∧ Q (.bl (lwD load low high d)) H
theorem c__law_are_pours (E : En K mg) : C8.Cal P w K mg base 2 "_law_are_pours" spLP [] := by
  obtain ⟨fd, F⟩ := E.f__law_are_pours
  refine cal_mk F E.g__law_are_pours sc__law_are_pours (fun _ _ _ _ _ _ us hl => match us, hl with | [_, _, _, _], _ => rfl) (fun vs H Q E h => by obtain ⟨S, v, d, load, low, high, rfl, _⟩ := h; rfl) fun cdv A outer s H vs Q E' hr h => ⟨_, (pss_cons (ps_if (pt_not (pt_val (pe_callB (c_isiK K (by rfl)) (by rfl) E.z_isinstance b_isinstance (pa_cons (pv 0) (pa_cons (pe_bltn (v := .ty "tuple") (by rfl) E.z_tuple b_tuple rfl) pa_nil))))) (pss_one (ps_ret pe_bl)) pss_nil)
      (pss_cons (ps_for PassesOwn.never rfl (pi_tupK K (by rfl) (pv 0)) (pg_name (i := 4) sc__law_are_pours.nd rfl (Or.inl rfl)) (pss_cons (ps_if (PW.pt (pw_or (pt_not (pt_val (pe_callB (c_isiK K (by rfl)) (by rfl) E.z_isinstance b_isinstance (pa_cons (pv 4) (pa_cons (pe_bltn (v := .ty "tuple") (by rfl) E.z_tuple b_tuple rfl) pa_nil))))) (pw_or1 (pt_cmpR op_ne (pe_callB (c_lenK K (by rfl)) (by rfl) E.z_len b_len (pa_cons (pv 4) pa_nil)) pe_int (nomark _))))) (pss_one (ps_ret pe_bl)) pss_nil)
      (pss_cons (ps_if (PW.pt (pw_or (pt_not (pt_val (C8.pe_c (c__law_is_int E) hr (by decide) (by rfl) (pa_cons (pe_ix (ix_tupK K (by rfl)) (pv 4) pe_int (fun _ _ => rfl)) (pa_cons (pe_op op_add (pv 2) pe_int) (pa_cons (pe_op op_sub (pv 3) pe_int) pa_nil)))))) (pw_or1 (pt_not (pt_val (C8.pe_c (c__law_is_int E) hr (by decide) (by rfl) (pa_cons (pe_ix (ix_tupK K (by rfl)) (pv 4) pe_int (fun _ _ => rfl)) (pa_cons pe_int (pa_cons (pv 1) pa_nil))))))))) (pss_one (ps_ret pe_bl)) pss_nil)
      (pss_one (ps_par (i := 2) (j := 1) (by rfl) sc__law_are_pours.nd rfl rfl (by decide) rfl rfl (pa_cons (pe_ix (ix_tupK K (by rfl)) (pv 4) pe_int (fun _ _ => rfl)) (pa_cons (pe_op op_sub (pv 1) (pe_ix (ix_tupK K (by rfl)) (pv 4) pe_int (fun _ _ => rfl))) pa_nil)) (by rfl))))))
      (pss_one (ps_ret pe_bl)))), ?_⟩
  obtain ⟨S, v, d, load, low, high, rfl, hd, k⟩ := h
  one_item
  obtain ⟨ty, h1, h2⟩ := hd.isTup (K := K)
  refine r_isi h1 h2 ?_
  top_name
  refine if_nb (fun h => ?_) (fun h => ?_)
  · top_name
    have e : lwD load low high d = false := by
      cases d with
      | tuple ds => cases h
      | _ => rfl
    rw [e] at k
    exact k
  obtain ⟨ds, rfl⟩ := isTup_eq h
  obtain ⟨a, xs, rfl, na, ha, hds⟩ := hd.tupE
  top_name
  refine for_it (walk_tup (a := a) (xs := xs)) (fun i σ H' => H' = H ∧ ∃ (lw ld : Int) (x4 : Option V), σ = [some (.ref a), some (.int ld), some (.int lw), some (.int high), x4] ∧ lwGo high low load ds = lwGo high lw ld (ds.drop i)) ⟨rfl, low, load, none, rfl, rfl⟩ (fun i σ H' _ h => by rw [h.1]; exact SqT.of ha) ?_ ?_
  · rintro i x σ H1 H2 hi ⟨rfl, lw, ld, x4, rfl, hgo⟩ ⟨rfl, hx⟩
    obtain ⟨d, hdi, hx'⟩ := hds.get' hx
    rw [drop_at hdi] at hgo
    have neg : lwGo high lw ld (d :: ds.drop (i + 1)) = false → Q (.bl false) H2 := fun z => by
      rw [show lwD load low high (.tuple ds) = lwGo high low load ds from rfl, hgo, z] at k
      exact k
    obtain ⟨ty, h1, h2⟩ := hx'.isTup (K := K)
    top_name
    refine r_isi h1 h2 ?_
    top_name
    refine if_nb (fun h => ?_) (fun h => ?_)
    · top_name
      refine neg ?_
      unfold lwGo
      rw [isPair_not h]
    obtain ⟨es, rfl⟩ := isTup_eq h
    obtain ⟨b, ys, rfl, nb, hb, hes⟩ := hx'.tupE
    top_name
    have hl := hes.length
    refine if_ndec (fun h => ?_) (fun h => ?_)
    · top_name
      refine neg ?_
      unfold lwGo
      rw [isPair_len (fun z => h (by rw [hl, z]; rfl))]
    obtain ⟨u, v, rfl⟩ : ∃ u v, es = [u, v] := by
      match es, (show es.length = 2 by omega) with
      | [u, v], _ => exact ⟨u, v, rfl⟩
    obtain ⟨xu, xv, rfl, hu, hv⟩ := hes.two
    top_name
    refine r_ixT (SqT.of hb) (atI_nat (j := 0) rfl) ?_
    top_name
    refine ⟨S, xu, u, lw + 1, high - 1, rfl, hu, ?_⟩
    top_name
    refine if_nb (fun h => ?_) (fun h => ?_)
    · top_name
      refine neg ?_
      show (if (cnt u (lw + 1) (high - 1) && cnt v 1 ld) = true then _ else _) = _
      rw [if_neg (by rw [h, Bool.false_and]; decide)]
    top_name
    refine r_ixT (SqT.of hb) (atI_nat (j := 1) rfl) ?_
    top_name
    refine ⟨S, xv, v, 1, ld, rfl, hv, ?_⟩
    top_name
    refine if_nb (fun h2 => ?_) (fun h2 => ?_)
    · top_name
      refine neg ?_
      show (if (cnt u (lw + 1) (high - 1) && cnt v 1 ld) = true then _ else _) = _
      rw [if_neg (by rw [h, h2]; decide)]
    have hu1 := cnt_int h
    have hv1 := cnt_int h2
    have hxu : xu = .int (vI u) := by rw [hu1.1] at hu; exact hu.int_eq
    have hxv : xv = .int (vI v) := by rw [hv1.1] at hv; exact hv.int_eq
    rw [hxu, hxv] at hb
    top_name
    refine r_ixT (SqT.of hb) (atI_nat (j := 0) rfl) ?_
    top_name
    refine r_ixT (SqT.of hb) (atI_nat (j := 1) rfl) ?_
    top_name
    refine ⟨rfl, vI u, ld - vI v, _, rfl, ?_⟩
    rw [hgo]
    show (if (cnt u (lw + 1) (high - 1) && cnt v 1 ld) = true then _ else _) = _
    rw [if_pos (by rw [h, h2]; rfl)]
  · rintro σ H1 ⟨rfl, lw, ld, x4, rfl, hgo⟩
    rw [hds.length, List.drop_length] at hgo
    top_name
    rw [show lwD load low high (.tuple ds) = lwGo high low load ds from rfl, hgo] at k
    exact k
theorem sc__law_steps : FnScope ["_law_load", "_law_stops_here", "_law_size", "_law_walk", "_law_begin", "_law_end", "_law_pours", "_law_low", "_law_high", "_law_pour"] ["_law_load", "_law_stops_here", "_law_size", "_law_walk"] (defScope s__law_steps) := ⟨rfl, rfl, rfl, by decide +kernel, rfl, by decide +kernel, by decide +kernel⟩
def spLS (K : PySem.W.Frag) : Sp := fun vs H Q _ => ∃ (S : Addr → Prop) (q : Addr) (v : V) (d : PyData) (c n : Int) (st : List Int), vs = [.int c, .ref q, .int n, v] ∧ H q = some (.lst (st.map V.int)) ∧ Da S H d v ∧ StpOk c st n ∧ ∀ H', Le H H' → Q (bv (stD c st n d)) H'
theorem c__law_steps (E : En K mg) : C8.Cal P w K mg base 3 "_law_steps" (spLS K) [] := by
  obtain ⟨fd, F⟩ := E.f__law_steps
  refine cal_mk F E.g__law_steps sc__law_steps (fun _ _ _ _ _ _ us hl => match us, hl with | [_, _, _, _], _ => rfl) (fun vs H Q E h => by obtain ⟨S, q, v, d, c, n, st, rfl, _⟩ := h; rfl) fun cdv A outer s H vs Q E' hr h => ⟨_, (pss_cons (ps_if (PW.pt (pw_or (pt_not (pt_val (pe_callB (c_isiK K (by rfl)) (by rfl) E.z_isinstance b_isinstance (pa_cons (pv 3) (pa_cons (pe_bltn (v := .ty "tuple") (by rfl) E.z_tuple b_tuple rfl) pa_nil))))) (pw_or1 (pt_cmpR op_ne (pe_callB (c_lenK K (by rfl)) (by rfl) E.z_len b_len (pa_cons (pv 3) pa_nil)) pe_int (nomark _))))) (pss_one (ps_ret pe_non)) pss_nil)
      (pss_cons (ps_if (PW.pt (pw_or (pt_not (pt_val (C8.pe_c (c__law_is_int E) hr (by decide) (by rfl) (pa_cons (pe_ix (ix_tupK K (by rfl)) (pv 3) pe_int (fun _ _ => rfl)) (pa_cons pe_int (pa_cons (pv 2) pa_nil)))))) (pw_or1 (pt_not (pt_val (C8.pe_c (c__law_is_int E) hr (by decide) (by rfl) (pa_cons (pe_ix (ix_tupK K (by rfl)) (pv 3) pe_int (fun _ _ => rfl)) (pa_cons pe_int (pa_cons (pv 2) pa_nil))))))))) (pss_one (ps_ret pe_non)) pss_nil)
      (pss_cons (ps_asg (pv 3) (pg_tupK (n := 3) K (by rfl) rfl (pgs_cons (pg_name (i := 4) sc__law_steps.nd rfl (Or.inr rfl)) (pgs_cons (pg_name (i := 5) sc__law_steps.nd rfl (Or.inl rfl)) (pgs_cons (pg_name (i := 6) sc__law_steps.nd rfl (Or.inl rfl)) pgs_nil)))))
      (pss_cons (ps_if (PW.pt (pw_or (pt_cmpR (op_ninK K (by rfl)) (pv 4) (pv 1) rfl) (pw_or1 (pt_cmpR (op_ninK K (by rfl)) (pv 5) (pv 1) rfl)))) (pss_one (ps_ret pe_non)) pss_nil)
      (pss_cons (ps_par (i := 7) (j := 8) (by rfl) sc__law_steps.nd rfl rfl (by decide) rfl rfl (pa_cons (pe_callB (c_min2 rfl) (by rfl) E.z_min b_min (pa_cons (pv 4) (pa_cons (pv 5) pa_nil))) (pa_cons (pe_callB (c_max2 rfl) (by rfl) E.z_max b_max (pa_cons (pv 4) (pa_cons (pv 5) pa_nil))) pa_nil)) (by rfl))
      (pss_cons (ps_if (pt_cmpR op_lt (pv 7) (pv 8) (nomark _)) (pss_one (ps_ret (pe_ifExp (pt_val (C8.pe_c (c__law_are_pours E) hr (by decide) (by rfl) (pa_cons (pv 6) (pa_cons (pv 0) (pa_cons (pv 7) (pa_cons (pv 8) pa_nil)))))) (pe_op op_sub (pv 8) (pv 7)) pe_non))) pss_nil)
      (pss_cons (ps_if (pt_val (C8.pe_c (c__law_are_pours E) hr (by decide) (by rfl) (pa_cons (pv 6) (pa_cons (pv 0) (pa_cons (pv 4) (pa_cons (pe_op op_add (pv 2) pe_int) pa_nil)))))) (pss_one (ps_ret (pe_op op_mul pe_int (pe_callB (c_maxK K (by rfl) rfl) (by rfl) E.z_max b_max (pa_cons (pe_op op_cat (pe_lst (pa_cons pe_int pa_nil)) (pe_lc (own := [("_law_pour", 9)]) rfl sc__law_steps.nd (pi_tupK K (by rfl) (pv 6)) (blkOk_by (own := [("_law_pour", 9)]) (N := ["_law_load", "_law_stops_here", "_law_size", "_law_walk", "_law_begin", "_law_end", "_law_pours", "_law_low", "_law_high", "_law_pour"]) (sc := defScope s__law_steps) (by decide +kernel)) (fun _ _ _ _ _ => (pg_name (i := 9) sc__law_steps.nd rfl (Or.inl rfl))) (fun _ _ _ _ _ => pts_nil) (fun _ _ _ _ _ => (pe_op op_sub (pe_ix (ix_tupK K (by rfl)) (pv 9) pe_int (fun _ _ => rfl)) (pv 4))))) pa_nil))))) pss_nil)
      (pss_one (ps_ret (pe_ifExp (pt_val (C8.pe_c (c__law_are_pours E) hr (by decide) (by rfl) (pa_cons (pv 6) (pa_cons (pv 0) (pa_cons pe_int (pa_cons (pv 4) pa_nil)))))) (pe_op op_mul pe_int (pe_op op_sub (pv 4) (pe_ix (ix_tupK K (by rfl)) (pe_ix (ix_tupK K (by rfl)) (pv 6) pe_int (fun _ _ => rfl)) pe_int (fun _ _ => rfl)))) pe_non)))))))))), ?_⟩
  obtain ⟨S, q, v, d, c, n, st, rfl, hq, hd, ok, k⟩ := h
  have n1 := ok.n1
  one_item
  obtain ⟨ty, h1, h2⟩ := hd.isTup (K := K)
  refine r_isi h1 h2 ?_
  top_name
  refine if_nb (fun h => ?_) (fun h => ?_)
  · top_name
    rw [stD_not h] at k
    exact k _ (Same.refl _)
  obtain ⟨es, rfl⟩ := isTup_eq h
  obtain ⟨a, xs, rfl, na, ha, hes⟩ := hd.tupE
  have hl := hes.length
  top_name
  refine if_ndec (fun h => ?_) (fun h => ?_)
  · top_name
    rw [stD_len (fun z => h (by rw [hl, z]; rfl))] at k
    exact k _ (Same.refl _)
  obtain ⟨d1, d2, d3, rfl⟩ : ∃ u v w, es = [u, v, w] := by
    match es, (show es.length = 3 by omega) with
    | [u, v, w], _ => exact ⟨u, v, w, rfl⟩
  obtain ⟨x1, x2, x3, rfl, hx1, hx2, hx3⟩ := hes.three
  top_name
  refine r_ixT (SqT.of ha) (atI_nat (j := 0) rfl) ?_
  top_name
  refine ⟨S, x1, d1, 0, n, rfl, hx1, ?_⟩
  top_name
  refine if_nb (fun h => ?_) (fun h => ?_)
  · top_name
    rw [stD_no1 ok (by rw [h, Bool.false_and])] at k
    exact k _ (Same.refl _)
  top_name
  refine r_ixT (SqT.of ha) (atI_nat (j := 1) rfl) ?_
  top_name
  refine ⟨S, x2, d2, 0, n, rfl, hx2, ?_⟩
  top_name
  refine if_nb (fun h2 => ?_) (fun h2 => ?_)
  · top_name
    rw [stD_no1 ok (by rw [h, h2]; rfl)] at k
    exact k _ (Same.refl _)
  have h12 : (cnt d1 0 n && cnt d2 0 n) = true := by rw [h, h2]; rfl
  have c1 := cnt_int h
  have c2 := cnt_int h2
  have hx1' : x1 = .int (vI d1) := by rw [c1.1] at hx1; exact hx1.int_eq
  have hx2' : x2 = .int (vI d2) := by rw [c2.1] at hx2; exact hx2.int_eq
  subst hx1' hx2'
  top_name
  refine r_inL (SqL.of hq) rfl (flat_ints st) ?_
  rw [if_pos rfl, inV_ints]
  top_name
  refine if_nb (fun h3 => ?_) (fun h3 => ?_)
  · top_name
    rw [stD_no2 (by rw [h3, Bool.false_and])] at k
    exact k _ (Same.refl _)
  top_name
  refine r_inL (SqL.of hq) rfl (flat_ints st) ?_
  rw [if_pos rfl, inV_ints]
  top_name
  refine if_nb (fun h4 => ?_) (fun h4 => ?_)
  · top_name
    rw [stD_no2 (by rw [h3, h4]; rfl)] at k
    exact k _ (Same.refl _)
  have h34 : (st.contains (vI d1) && st.contains (vI d2)) = true := by rw [h3, h4]; rfl
  top_name
  refine if_dec (fun h5 => ?_) (fun h5 => ?_)
  · top_name
    refine ⟨S, x3, d3, c, _, _, rfl, hx3, ?_⟩
    rw [stD_in ok h12 h34, if_neg (by omega)] at k
    top_name
    refine if_b (fun h6 => ?_) (fun h6 => ?_)
    · top_name
      rw [if_pos h6] at k
      exact k _ (Same.refl _)
    · top_name
      rw [if_neg (by rw [h6]; decide)] at k
      exact k _ (Same.refl _)
  have e12 : vI d1 = vI d2 := by omega
  top_name
  refine ⟨S, x3, d3, c, _, n + 1, rfl, hx3, ?_⟩
  top_name
  refine if_b (fun h6 => ?_) (fun h6 => ?_)
  · top_name
    obtain ⟨ps, rfl, g2, g3⟩ := lwD_shape h6
    have b1 := ok.bd _ (List.contains_iff_mem.mp h3)
    have hpl := incr_len (by omega) g2 g3
    obtain ⟨a3, xs3, rfl, _, ha3, hd3⟩ := hx3.tupE
    have hxl : xs3.length = ps.length := by rw [hd3.length, List.length_map]
    refine ⟨szl (by simp), fun q1 hq1 => ?_⟩
    generalize hH1 : upd H q1 _ = H1
    have h1 := (congrFun hH1 q1).symm.trans upd_same
    have e1 : Le H H1 := hH1 ▸ le_new hq1
    have ha31 := e1 _ _ ha3
    top_name
    refine lc_map ((ps.map fun p => p.1 - vI d1).map V.int) walk_tup (by simp [hxl]) (by one_place) (by omega) (fun H' e => SqT.of (e _ _ ha31)) ?_ fun D H2 hD e2 h2 => ?_
    · rintro i x H0 H' R N hi e ⟨rfl, hx⟩ hR
      obtain ⟨dz, hdz, hz'⟩ := hd3.get' hx
      rw [List.getElem?_map] at hdz
      obtain ⟨p, hp, rfl⟩ := Option.map_eq_some_iff.mp hdz
      obtain ⟨bz, us, rfl, _, hbz, hus⟩ := (hz'.le (e1.trans e)).tupE
      obtain ⟨u1, u2, rfl, g4, g5⟩ := hus.two
      rw [g4.int_eq, g5.int_eq] at hbz
      top_name
      refine r_ixT (SqT.of hbz) (atI_nat (j := 0) rfl) ?_
      top_name
      exact hR _ _ (Same.refl _) (by rw [List.getElem?_map, List.getElem?_map, hp]; rfl)
    refine r_catL (e2 _ _ h1) h2 (by simp; omega) fun q3 H3 hq3 e3 h3' => ?_
    have h3'' : H3 q3 = some (.lst ((0 :: ps.map fun p => p.1 - vI d1).map V.int)) := h3'
    top_name
    refine r_maxL (SqL.of h3'') (by simp) fun m hm hM => ?_
    top_name
    have ep : poursOf (.tuple (ps.map fun p => .tuple [.int p.1, .int p.2])) = ps := poursOf_eq ps
    rw [stD_far ok h12 h34 e12 h6 (m := m) (by rw [ep]; exact hm) (by rw [ep]; exact hM)] at k
    exact k _ (e1.trans (e2.trans e3))
  · rw [stD_near ok h12 h34 e12 h6] at k
    top_name
    refine ⟨S, x3, d3, c, 0, _, rfl, hx3, ?_⟩
    top_name
    refine if_b (fun h7 => ?_) (fun h7 => ?_)
    · rw [if_pos h7] at k
      top_name
      obtain ⟨ps, rfl, g2, g3⟩ := lwD_shape h7
      obtain ⟨z, zs, rfl⟩ : ∃ z zs, ps = z :: zs := by
        cases ps with
        | nil => cases h6
        | cons z zs => exact ⟨z, zs, rfl⟩
      obtain ⟨a3, xs3, rfl, _, ha3, hd3⟩ := hx3.tupE
      obtain ⟨u, hu, du⟩ := hd3.get (i := 0) (d := prD z) rfl
      obtain ⟨ay, ys, rfl, _, hay, dys⟩ := du.tupE
      obtain ⟨y1, y2, rfl, g4, g5⟩ := dys.two
      rw [g4.int_eq] at hay
      refine r_ixT (SqT.of ha3) (atI_nat (j := 0) hu) ?_
      top_name
      refine r_ixT (SqT.of hay) (atI_nat (j := 0) rfl) ?_
      top_name
      have hlp : headP (.tuple ((z :: zs).map fun p => .tuple [.int p.1, .int p.2])) = z.1 := by
        unfold headP
        rw [poursOf_eq]
        rfl
      rw [hlp] at k
      exact k _ (Same.refl _)
    · rw [if_neg (by rw [h7]; decide)] at k
      top_name
      exact k _ (Same.refl _)
end
set_option Elab.async false
set_option linter.all false
set_option maxRecDepth 100000
set_option maxHeartbeats 4000000
open PySem PySem.Spec PyProof.Rows L2

theorem none_left (l : List Int) : (l.filter fun x => !decide (x = 0)).isEmpty = l.all (fun x => decide (x = 0)) := by
  induction l with
  | nil => rfl
  | cons x l ih =>
    rw [List.filter_cons, List.all_cons, ← ih]
    cases decide (x = 0) <;> rfl
section
variable {P : Program} {w : World} {K : PySem.W.Frag} {mg : Str → Option Value} {base : Heap}
theorem sc__law_plan_length : FnScope ["_law_soil_here", "_law_size", "_law_told_here", "_law_sheet", "_law_needs_here", "_law_stops_here", "_law_here", "_law_total", "_law_walk", "_law_steps_here", "_law_pour", "_law_litres_left"] ["_law_soil_here", "_law_size", "_law_told_here", "_law_sheet"] (defScope s__law_plan_length) := ⟨rfl, rfl, rfl, by decide +kernel, rfl, by decide +kernel, by decide +kernel⟩
def spPL (K : PySem.W.Frag) : Sp := fun vs H Q _ => ∃ (S S2 : Addr → Prop) (vs' v : V) (t : Addr) (d : PyData) (c : Int) (bs : List (Option Int)) (ts : List Int) (n : Nat), vs = [vs', .int n, .ref t, v] ∧ GOk c bs ∧ Da S2 H (.tuple [.int c, .list (bs.map bD)]) vs' ∧ H t = some (.tup (ts.map V.int)) ∧ n ≤ 200 ∧ Da S H d v ∧
  ∀ H', Le H H' → Q (bv (planLen c (stopsL bs ts n) n (needsL bs ts n) d)) H'
theorem c__law_plan_length (E : En K mg) : C8.Cal P w K mg base 4 "_law_plan_length" (spPL K) [] := by
  obtain ⟨fd, F⟩ := E.f__law_plan_length
  refine cal_mk F E.g__law_plan_length sc__law_plan_length (fun _ _ _ _ _ _ us hl => match us, hl with | [_, _, _, _], _ => rfl) (fun vs H Q E h => by obtain ⟨S, S2, vs', v, t, d, c, bs, ts, n, rfl, _⟩ := h; rfl) fun cdv A outer s H vs Q E' hr h => ⟨_, (pss_cons (ps_if (pt_not (pt_val (pe_callB (c_isiK K (by rfl)) (by rfl) E.z_isinstance b_isinstance (pa_cons (pv 3) (pa_cons (pe_bltn (v := .ty "tuple") (by rfl) E.z_tuple b_tuple rfl) pa_nil))))) (pss_one (ps_ret pe_non)) pss_nil)
      (pss_cons (ps_par (i := 4) (j := 5) (by rfl) sc__law_plan_length.nd rfl rfl (by decide) rfl rfl (pa_cons (C8.pe_c (c__law_needs E) hr (by decide) (by rfl) (pa_cons (pv 0) (pa_cons (pv 1) (pa_cons (pv 2) pa_nil)))) (pa_cons (C8.pe_c (c__law_stops E) hr (by decide) (by rfl) (pa_cons (pv 0) (pa_cons (pv 1) (pa_cons (pv 2) pa_nil)))) pa_nil)) (by rfl))
      (pss_cons (ps_asg (pe_tup (pa_cons pe_int (pa_cons pe_int pa_nil))) (pg_tupK (n := 2) K (by rfl) rfl (pgs_cons (pg_name (i := 6) sc__law_plan_length.nd rfl (Or.inl rfl)) (pgs_cons (pg_name (i := 7) sc__law_plan_length.nd rfl (Or.inl rfl)) pgs_nil))))
      (pss_cons (ps_for PassesOwn.never rfl (pi_tupK K (by rfl) (pv 3)) (pg_name (i := 8) sc__law_plan_length.nd rfl (Or.inl rfl)) (pss_cons (ps_set (i := 9) sc__law_plan_length.nd rfl (Or.inl rfl) (C8.pe_c (c__law_steps E) hr (by decide) (by rfl) (pa_cons (pe_ix (ix_tupK K (by rfl)) (pv 0) pe_int (fun _ _ => rfl)) (pa_cons (pv 5) (pa_cons (pv 1) (pa_cons (pv 8) pa_nil))))))
      (pss_cons (ps_if (PW.pt (pw_or (pt_cmpR op_isN1 (pv 9) pe_non (nomark _)) (pw_or1 (pt_cmpR op_ne (pe_ix (ix_tupK K (by rfl)) (pv 8) pe_int (fun _ _ => rfl)) (pv 6) (nomark _))))) (pss_one (ps_ret pe_non)) pss_nil)
      (pss_cons (ps_par (i := 6) (j := 7) (by rfl) sc__law_plan_length.nd rfl rfl (by decide) rfl rfl (pa_cons (pe_ix (ix_tupK K (by rfl)) (pv 8) pe_int (fun _ _ => rfl)) (pa_cons (pe_op op_add (pv 7) (pv 9)) pa_nil)) (by rfl))
      (pss_one (ps_for PassesOwn.never rfl (pi_tupK K (by rfl) (pe_ix (ix_tupK K (by rfl)) (pv 8) pe_int (fun _ _ => rfl))) (pg_name (i := 10) sc__law_plan_length.nd rfl (Or.inl rfl)) (pss_one (ps_asg (pe_op op_sub (pe_ix (ix_listK K (by rfl)) (pv 4) (pe_ix (ix_tupK K (by rfl)) (pv 10) pe_int (fun _ _ => rfl)) (fun _ _ => rfl)) (pe_ix (ix_tupK K (by rfl)) (pv 10) pe_int (fun _ _ => rfl))) (pg_sub (pv 4) (pe_ix (ix_tupK K (by rfl)) (pv 10) pe_int (fun _ _ => rfl)) set_list)))))))))
      (pss_one (ps_ret (pe_ifExp (PW.pt (pw_and (pt_cmpR op_eq (pv 6) pe_int (nomark _)) (pw_and1 (pt_cmpR (op_eqK K (by rfl) (hu64 hr)) (pe_lc (own := [("_law_litres_left", 11)]) rfl sc__law_plan_length.nd (pi_listK K (by rfl) (pv 4)) (blkOk_by (own := [("_law_litres_left", 11)]) (N := ["_law_soil_here", "_law_size", "_law_told_here", "_law_sheet", "_law_needs_here", "_law_stops_here", "_law_here", "_law_total", "_law_walk", "_law_steps_here", "_law_pour", "_law_litres_left"]) (sc := defScope s__law_plan_length) (by decide +kernel)) (fun _ _ _ _ _ => (pg_name (i := 11) sc__law_plan_length.nd rfl (Or.inl rfl))) (fun _ _ _ _ _ => (pts_one (pt_cmpR op_ne (pv 11) pe_int (nomark _)))) (fun _ _ _ _ _ => (pv 11))) (pe_lst pa_nil) (nomark _))))) (pv 7) pe_non))))))), ?_⟩
  obtain ⟨S, S2, vs', v, t, d, c, bs, ts, n, rfl, g, hsoil, ht, hn, hd, k⟩ := h
  have ok := stpOk g ts hn
  one_item
  obtain ⟨ty, h1, h2⟩ := hd.isTup (K := K)
  refine r_isi h1 h2 ?_
  top_name
  refine if_nb (fun h => ?_) (fun h => ?_)
  · top_name
    have e : planLen c (stopsL bs ts n) n (needsL bs ts n) d = none := by
      cases d with
      | tuple ds => cases h
      | _ => rfl
    rw [e] at k
    exact k _ (Same.refl _)
  obtain ⟨ds, rfl⟩ := isTup_eq h
  obtain ⟨a, xs, rfl, na, ha, hds⟩ := hd.tupE
  top_name
  refine ⟨S2, vs', t, c, bs, ts, n, rfl, g, hsoil, ht, hn, fun H1 q e1 hq h1 => ?_⟩
  top_name
  refine ⟨S2, vs', t, c, bs, ts, n, rfl, g, hsoil.le e1, e1 _ _ ht, hn, fun H2 r e2 hr2 h2 => ?_⟩
  have h12 := e2 _ _ h1
  have qr : r ≠ q := fun z => by rw [z, h1] at hr2; cases hr2
  have tt := e1.trans e2
  obtain ⟨sa, sp, rfl, _, _, hsa, hsp⟩ := soil_of hsoil
  generalize hst : stopsL bs ts n = st at *
  top_name
  refine ⟨szl (by simp), fun z0 hz0 => ?_⟩
  generalize hH0 : upd H2 z0 _ = H2'
  have hh0 := (congrFun hH0 z0).symm.trans upd_same
  have e0 : Le H2 H2' := hH0 ▸ le_new hz0
  replace h12 := e0 _ _ h12
  replace h2 := e0 _ _ h2
  replace tt := tt.trans e0
  top_name
  refine for_it (walk_tup (a := a) (xs := xs)) (fun i σ H' => Le H H' ∧ ∃ (hh t' : Int) (l : List Int) (x8 x9 x10 x11 : Option V), σ = [some (.ref sa), some (.int n), some (.ref t), some (.ref a), some (.ref q), some (.ref r), some (.int hh), some (.int t'), x8, x9, x10, x11] ∧ H' q = some (.lst (l.map V.int)) ∧ H' r = some (.lst (st.map V.int)) ∧ l.length = n + 1 ∧ shGo c st n 0 0 (needsL bs ts n) ds = shGo c st n hh t' l (ds.drop i)) ⟨tt, 0, 0, needsL bs ts n, none, none, none, none, rfl, h12, h2, needsL_len _ _ _, rfl⟩ (fun i σ H' _ h => SqT.of (h.1 _ _ ha)) ?_ ?_
  · rintro i y σ H3 _ hi ⟨e3, hh, t', l, x8, x9, x10, x11, rfl, h3, hr3, hl, hgo⟩ ⟨rfl, hy⟩
    obtain ⟨d, hdi, hy'⟩ := hds.get' hy
    rw [drop_at hdi] at hgo
    have neg : shGo c st n hh t' l (d :: ds.drop (i + 1)) = none → ∀ H', Le H H' → Q .non H' := fun z H' e => by
      have := k H' e
      rw [z] at hgo
      rw [show planLen c st n (needsL bs ts n) (.tuple ds) = none by unfold planLen; simp only [hgo]] at this
      exact this
    top_name
    refine r_ixT (SqT.of (e3 _ _ hsa)) (atI_nat (j := 0) rfl) ?_
    top_name
    refine ⟨S, r, y, d, c, n, st, rfl, hr3, hy'.le e3, ok, fun H4 e4 => ?_⟩
    have t4 := e3.trans e4
    cases e : stD c st n d with
    | none =>
      top_name
      refine r_isN0 ?_
      top_name
      refine neg ?_ _ t4
      unfold shGo
      rw [e]
    | some kk =>
      rw [show bv (some kk) = V.int kk from rfl]
      obtain ⟨f, l', ps, rfl, hps⟩ := stD_some ok e
      obtain ⟨b, ys, rfl, nb, hb, hes⟩ := hy'.tupE
      obtain ⟨y1, y2, y3, rfl, g1, g2, g3⟩ := hes.three
      rw [g1.int_eq, g2.int_eq] at hb
      obtain ⟨b3, zs, rfl, _, hb3, hzs⟩ := g3.tupE
      top_name
      refine r_ixT (SqT.of (t4 _ _ hb)) (atI_nat (j := 0) rfl) ?_
      top_name
      have hsh : shGo c st n hh t' l (wkD (f, l', ps) :: ds.drop (i + 1)) = if f = hh then shGo c st n l' (t' + kk) (takeP ps l) (ds.drop (i + 1)) else none := by
        show (match stD c st n (wkD (f, l', ps)) with | none => none | some k => _) = _
        rw [e]
        show (if f = hh then shGo c st n l' (t' + kk) (takeP (poursOf (.tuple (ps.map prD))) l) (ds.drop (i + 1)) else none) = _
        rw [poursOf_prD]
      refine if_ndec (fun h => ?_) (fun h => ?_)
      · top_name
        refine neg ?_ _ t4
        rw [hsh, if_neg h]
      rw [hsh, if_pos h] at hgo
      top_name
      refine r_ixT (SqT.of (t4 _ _ hb)) (atI_nat (j := 1) rfl) ?_
      top_name
      refine r_ixT (SqT.of (t4 _ _ hb)) (atI_nat (j := 2) rfl) ?_
      top_name
      refine for_it (walk_tup (a := b3) (xs := zs)) (fun j σ H' => Le H H' ∧ ∃ (x10 : Option V), σ = [some (.ref sa), some (.int n), some (.ref t), some (.ref a), some (.ref q), some (.ref r), some (.int l'), some (.int (t' + kk)), some (.ref b), some (.int kk), x10, x11] ∧ H' q = some (.lst ((takeP (ps.take j) l).map V.int)) ∧ H' r = some (.lst (st.map V.int))) ⟨t4, _, rfl, e4 _ _ h3, e4 _ _ hr3⟩ (fun j σ H' _ h => SqT.of (h.1 _ _ hb3)) ?_ ?_
      · rintro j z σ H5 _ hj ⟨e5, x10, rfl, h5, hr5⟩ ⟨rfl, hz⟩
        obtain ⟨dz, hdz, hz'⟩ := hzs.get' hz
        rw [List.getElem?_map] at hdz
        obtain ⟨p, hp, rfl⟩ := Option.map_eq_some_iff.mp hdz
        obtain ⟨bz, us, rfl, _, hbz, hus⟩ := hz'.tupE
        obtain ⟨u1, u2, rfl, g4, g5⟩ := hus.two
        rw [g4.int_eq, g5.int_eq] at hbz
        have hbz5 := e5 _ _ hbz
        have hpb := hps p (List.mem_of_getElem? hp)
        have htl : (takeP (ps.take j) l).length = l.length := takeP_len _ _
        top_name
        refine r_ixT (SqT.of hbz5) (atI_nat (j := 0) rfl) ?_
        refine r_ixL (SqL.of h5) (atI_int (by omega) (by rw [htl]; omega)) ?_
        top_name
        refine r_ixT (SqT.of hbz5) (atI_nat (j := 1) rfl) ?_
        top_name
        refine r_ixT (SqT.of hbz5) (atI_nat (j := 0) rfl) ?_
        refine k_setL h5 (by omega) (by rw [List.length_map, htl]; omega) fun H6 e6 h6 => ?_
        refine ⟨le_mut e5 hq e6, _, rfl, ?_, e6 _ _ qr hr5⟩
        rw [h6, takeP_succ hp, List.map_set]
      · rintro σ H5 ⟨e5, x10, rfl, h5, hr5⟩
        have hzl : zs.length = ps.length := by rw [hzs.length, List.length_map]
        rw [hzl, List.take_length] at h5
        exact ⟨e5, l', _, takeP ps l, _, _, _, _, rfl, h5, hr5, by rw [takeP_len]; exact hl, hgo⟩
  · rintro σ H3 ⟨e3, hh, t', l, x8, x9, x10, x11, rfl, h3, hr3, hl, hgo⟩
    rw [hds.length, List.drop_length] at hgo
    have pe := plan_end hgo
    have hk := fun H' e => k H' e
    rw [pe] at hk
    top_name
    refine if_dec (fun h => ?_) (fun h => ?_)
    · rw [decide_eq_true h, Bool.true_and] at hk
      top_name
      refine lc_pure (fun i => l[i]?.bind fun x => if (!decide (x = 0)) = true then some (V.int x) else none) walk_list (by one_place) (by rw [List.length_map]; omega) (fun H' e => SqL.of (e _ _ h3)) ?_ fun D H4 hD e4 h4 => ?_
      · rintro i x H0 H' R N hi e ⟨rfl, hx⟩ hR hN
        obtain ⟨z, hz, rfl⟩ := some_int hx
        top_name
        refine if_b (fun h => ?_) (fun h => ?_)
        · top_name
          exact hR _ _ (Same.refl _) (by rw [hz]; show (if (!decide (z = 0)) = true then some (V.int z) else none) = _; rw [if_pos h])
        · exact hN _ (Same.refl _) (by rw [hz]; show (if (!decide (z = 0)) = true then some (V.int z) else none) = _; rw [if_neg (by rw [h]; decide)])
      rw [fm_filter l (fun x => !decide (x = 0))] at h4
      top_name
      refine ⟨Nat.zero_le _, fun z5 hz5 => ?_⟩
      generalize hH5 : upd H4 z5 _ = H5
      have h5 := (congrFun hH5 z5).symm.trans upd_same
      have e5 : Le H4 H5 := hH5 ▸ le_new hz5
      refine r_eqNil (SqL.of (e5 _ _ h4)) h5 ?_
      rw [none_left]
      top_name
      refine if_b (fun h6 => ?_) (fun h6 => ?_)
      · top_name
        have := hk _ (e3.trans (e4.trans e5))
        rw [if_pos h6] at this
        exact this
      · top_name
        have := hk _ (e3.trans (e4.trans e5))
        rw [if_neg (by rw [h6]; decide)] at this
        exact this
    · top_name
      have := hk _ e3
      rw [if_neg (by rw [decide_eq_false h, Bool.false_and]; decide)] at this
      exact this
end
set_option Elab.async false
set_option linter.all false
set_option maxRecDepth 100000
set_option maxHeartbeats 4000000
open PySem PySem.Spec PyProof.Rows L2

theorem rep_ints (z : Int) : ∀ k : Nat, (List.replicate k [V.int z]).flatten = (List.replicate k z).map V.int
  | 0 => rfl
  | k + 1 => by rw [List.replicate_succ, List.replicate_succ, List.flatten_cons, rep_ints z k]; rfl
theorem cut_ints (ns : List Int) (lo hi : Option Int) : ∃ ms : List Int, cutV (ns.map V.int) lo hi = ms.map V.int := by
  unfold cutV
  exact ⟨(ns.drop _).take _, by rw [List.map_take, List.map_drop]⟩
theorem needsL_bd {c : Int} {bs : List (Option Int)} (g : GOk c bs) (ts : List Int) (n : Nat) : ∀ y ∈ needsL bs ts n, 0 ≤ y ∧ y ≤ 9 := by
  intro y hy
  rcases List.mem_cons.mp hy with rfl | hy
  · omega
  · obtain ⟨i, _, rfl⟩ := List.mem_map.mp hy
    show 0 ≤ needV bs ts ((i : Int) + 1) ∧ needV bs ts ((i : Int) + 1) ≤ 9
    unfold needV
    cases e : itemAt bs ((i : Int) + 1) with
    | none =>
      show 0 ≤ (0 : Int) ∧ (0 : Int) ≤ 9
      omega
    | some z =>
      have hz : 0 ≤ z ∧ z ≤ 9 := by
        unfold itemAt at e
        rw [List.getD_eq_getElem?_getD] at e
        cases e2 : bs[(((i : Int) + 1 - 1) % (bs.length : Int)).toNat]? with
        | none => rw [e2] at e; cases e
        | some o =>
          rw [e2] at e
          have : o = some z := e
          exact g.it z (this ▸ List.mem_of_getElem? e2)
      show 0 ≤ (if _ then (0 : Int) else z) ∧ (if _ then (0 : Int) else z) ≤ 9
      split
      · omega
      · exact hz
section
variable {P : Program} {w : World} {K : PySem.W.Frag} {mg : Str → Option Value} {base : Heap}
theorem sc__law_spread : FnScope ["_law_needs_here", "_law_left", "_law_right_here", "_law_found", "_law_place"] ["_law_needs_here", "_law_left", "_law_right_here"] (defScope s__law_spread) := ⟨rfl, rfl, rfl, by decide +kernel, rfl, by decide +kernel, by decide +kernel⟩
def spSd : Sp := fun vs H Q _ => ∃ (q : Addr) (nd : List Int) (l r : Int), vs = [.ref q, .int l, .int r] ∧ H q = some (.lst (nd.map V.int)) ∧ (∀ y ∈ nd, 0 ≤ y ∧ y ≤ 9) ∧ 0 ≤ l ∧ l ≤ 300 ∧ 0 ≤ r ∧ r ≤ nd.length ∧ nd.length ≤ 300 ∧
  ∀ H' p (ns : List Int), Le H H' → H' p = some (.lst (ns.map V.int)) → ns.length ≤ 3000 → Q (.ref p) H'
theorem c__law_spread (E : En K mg) : C8.Cal P w K mg base 1 "_law_spread" spSd [] := by
  obtain ⟨fd, F⟩ := E.f__law_spread
  refine cal_mk F E.g__law_spread sc__law_spread (fun _ _ _ _ _ _ us hl => match us, hl with | [_, _, _], _ => rfl) (fun vs H Q E h => by obtain ⟨q, nd, l, r, rfl, _⟩ := h; rfl) fun cdv A outer s H vs Q E' hr h => ⟨_, (pss_cons (ps_set (i := 3) sc__law_spread.nd rfl (Or.inl rfl) (pe_lst pa_nil))
      (pss_cons (ps_for PassesOwn.never rfl (pi_range2 rfl E.z_range (pa_cons (pe_op op_add (pv 1) pe_int) (pa_cons (pv 2) pa_nil))) (pg_name (i := 4) sc__law_spread.nd rfl (Or.inl rfl)) (pss_one (ps_set (i := 3) sc__law_spread.nd rfl (Or.inl rfl) (pe_op op_cat (pv 3) (pe_op op_rep (pe_lst (pa_cons (pe_op op_sub (pv 4) (pv 1)) pa_nil)) (pe_ix (ix_listK K (by rfl)) (pv 0) (pv 4) (fun _ _ => rfl)))))))
      (pss_one (ps_ret (pv 3))))), ?_⟩
  obtain ⟨q, nd, l, r, rfl, hq, hnd, l0, l1, r0, r1, hl, k⟩ := h
  one_item
  refine newz_ (Nat.zero_le _) fun p H1 hp e1 h1 => ?_
  top_name
  refine for_range (fun i σ H' => Le H H' ∧ ∃ (p' : Addr) (x4 : Option V) (ns : List Int), σ = [some (.ref q), some (.int l), some (.int r), some (.ref p'), x4] ∧ H' p' = some (.lst (ns.map V.int)) ∧ ns.length ≤ 9 * i) ⟨e1, p, none, [], rfl, h1, Nat.le_refl _⟩ ?_ ?_
  · rintro i σ H2 hi ⟨e2, p', x4, ns, rfl, h2, hn⟩
    have hq2 := e2 _ _ hq
    have hb : ∀ (z : Int), nd.getD (l + 1 + (i : Int)).toNat 0 = z → 0 ≤ z ∧ z ≤ 9 := fun z hz => by
      rw [← hz, List.getD_eq_getElem?_getD, List.getElem?_eq_getElem (by omega)]
      exact hnd _ (List.getElem_mem _)
    generalize hz : nd.getD (l + 1 + (i : Int)).toNat 0 = z at hb
    have hzb := hb z rfl
    top_name
    refine ⟨szl (by simp), fun q3 hq3 => ?_⟩
    generalize hH3 : upd H2 q3 _ = H3
    have h3 := (congrFun hH3 q3).symm.trans upd_same
    have e3 : Le H2 H3 := hH3 ▸ le_new hq3
    top_name
    refine r_ixL (SqL.of (e3 _ _ hq2)) (atI_int (l := nd) (by omega) (by omega)) ?_
    rw [hz]
    refine r_rep h3 (by omega) (by simp; omega) fun q4 H4 hq4 e4 h4 => ?_
    rw [rep_ints] at h4
    refine r_catL ((e3.trans e4) _ _ h2) h4 (by simp only [List.length_map, List.length_replicate]; omega) fun q5 H5 hq5 e5 h5 => ?_
    rw [← List.map_append] at h5
    top_name
    exact ⟨e2.trans (e3.trans (e4.trans e5)), q5, _, _, rfl, h5, by rw [List.length_append, List.length_replicate]; omega⟩
  · rintro σ H2 ⟨e2, p', x4, ns, rfl, h2, hn⟩
    top_name
    exact k _ _ ns e2 h2 (by omega)
theorem sc__law_sums : FnScope ["_law_load", "_law_spread_here", "_law_found", "_law_k"] ["_law_load", "_law_spread_here"] (defScope s__law_sums) := ⟨rfl, rfl, rfl, by decide +kernel, rfl, by decide +kernel, by decide +kernel⟩
def spSu (K : PySem.W.Frag) : Sp := fun vs H Q _ => ∃ (p : Addr) (ns : List Int) (c : Int), vs = [.int c, .ref p] ∧ SqL K H p (ns.map V.int) ∧ 1 ≤ c ∧ c ≤ 100 ∧ ns.length ≤ 5000 ∧
  ∀ H' q (ms : List Int), Le H H' → H' q = some (.lst (ms.map V.int)) → ms.length = ns.length + 1 → Q (.ref q) H'
theorem c__law_sums (E : En K mg) : C8.Cal P w K mg base 1 "_law_sums" (spSu K) [] := by
  obtain ⟨fd, F⟩ := E.f__law_sums
  refine cal_mk F E.g__law_sums sc__law_sums (fun _ _ _ _ _ _ us hl => match us, hl with | [_, _], _ => rfl) (fun vs H Q E h => by obtain ⟨p, ns, c, rfl, _⟩ := h; rfl) fun cdv A outer s H vs Q E' hr h => ⟨_, (pss_cons (ps_set (i := 2) sc__law_sums.nd rfl (Or.inl rfl) (pe_lst (pa_cons pe_int pa_nil)))
      (pss_cons (ps_for PassesOwn.never rfl (pi_range1 rfl E.z_range (pa_cons (pe_callB (c_lenK K (by rfl)) (by rfl) E.z_len b_len (pa_cons (pv 1) pa_nil)) pa_nil)) (pg_name (i := 3) sc__law_sums.nd rfl (Or.inl rfl)) (pss_one (ps_expr (pe_bmK K (by rfl) PySem.F.plainAttrs_list PySem.F.slot_list_append PySem.F.type_list_append mt_append (pv 2) (pa_cons (pe_op op_add (pe_op op_mul pe_int (pe_ix (ix_listK K (by rfl)) (pv 1) (pv 3) (fun _ _ => rfl))) (pe_ix (ix_listK K (by rfl)) (pv 2) (pe_callB (c_max2 rfl) (by rfl) E.z_max b_max (pa_cons pe_int (pa_cons (pe_op op_sub (pe_op op_add (pv 3) pe_int) (pv 0)) pa_nil))) (fun _ _ => rfl))) pa_nil)))))
      (pss_one (ps_ret (pv 2))))), ?_⟩
  obtain ⟨p, ns, c, rfl, hp, c0, c1, hn, k⟩ := h
  have hl : (((ns.map V.int).length : Nat) : Int) = ns.length := by simp
  one_item
  refine newz_ (by simp) fun q H1 hq e1 h1 => ?_
  have hp1 := le_sq e1 hp
  top_name
  rw [hl]
  top_name
  refine for_range (fun i σ H' => Le H H' ∧ ∃ (x3 : Option V) (ms : List Int), σ = [some (.int c), some (.ref p), some (.ref q), x3] ∧ H' q = some (.lst (ms.map V.int)) ∧ ms.length = i + 1) ⟨e1, none, [0], rfl, h1, rfl⟩ ?_ ?_
  · rintro i σ H2 hi ⟨e2, x3, ms, rfl, h2, hm⟩
    have hp2 := le_sq e2 hp
    have i1 : i < ns.length := by omega
    top_name
    refine r_ixL hp2 (atI_int (by omega) (by omega)) ?_
    top_name
    refine r_ixL (SqL.of h2) (atI_int (by omega) (by omega)) ?_
    top_name
    refine k_app h2 (by rw [List.length_map]; omega) fun H3 e3 h3 => ?_
    exact ⟨le_mut e2 hq e3, _, ms ++ [_], rfl, by rw [h3, List.map_append]; rfl, by simp [hm]⟩
  · rintro σ H2 ⟨e2, x3, ms, rfl, h2, hm⟩
    top_name
    exact k _ _ ms e2 h2 (by omega)
theorem sc__law_alone : FnScope ["_law_load", "_law_needs_here", "_law_left", "_law_right_here"] ["_law_load", "_law_needs_here", "_law_left", "_law_right_here"] (defScope s__law_alone) := ⟨rfl, rfl, rfl, by decide +kernel, rfl, by decide +kernel, by decide +kernel⟩
def spAl : Sp := fun vs H Q _ => ∃ (q : Addr) (nd : List Int) (c l r : Int), vs = [.int c, .ref q, .int l, .int r] ∧ H q = some (.lst (nd.map V.int)) ∧ (∀ y ∈ nd, 0 ≤ y ∧ y ≤ 9) ∧ 0 ≤ l ∧ l ≤ 300 ∧ 0 ≤ r ∧ r ≤ nd.length ∧ nd.length ≤ 300 ∧ 1 ≤ c ∧ c ≤ 100 ∧
  ∀ H' z, Le H H' → Q (.int z) H'
theorem c__law_alone (E : En K mg) : C8.Cal P w K mg base 2 "_law_alone" spAl [] := by
  obtain ⟨fd, F⟩ := E.f__law_alone
  refine cal_mk F E.g__law_alone sc__law_alone (fun _ _ _ _ _ _ us hl => match us, hl with | [_, _, _, _], _ => rfl) (fun vs H Q E h => by obtain ⟨q, nd, c, l, r, rfl, _⟩ := h; rfl) fun cdv A outer s H vs Q E' hr h => ⟨_, (pss_one (ps_ret (pe_ix (ix_listK K (by rfl)) (C8.pe_c (c__law_sums E) hr (by decide) (by rfl) (pa_cons (pv 0) (pa_cons (C8.pe_c (c__law_spread E) hr (by decide) (by rfl) (pa_cons (pv 1) (pa_cons (pv 2) (pa_cons (pv 3) pa_nil)))) pa_nil))) (pe_un un_neg pe_int) (fun _ _ => rfl)))), ?_⟩
  obtain ⟨q, nd, c, l, r, rfl, hq, hnd, l0, l1, r0, r1, hl, c0, c1, k⟩ := h
  one_item
  refine ⟨q, nd, l, r, rfl, hq, hnd, l0, l1, r0, r1, hl, fun H1 p ns e1 h1 hn => ?_⟩
  top_name
  refine ⟨p, ns, c, rfl, SqL.of h1, c0, c1, by omega, fun H2 q2 ms e2 h2 hm => ?_⟩
  top_name
  have hlt : ns.length < ms.length := by omega
  refine r_ixL (SqL.of h2) (v := .int ms[ns.length]) (atI_end (j := ns.length) (by rw [List.getElem?_map, List.getElem?_eq_getElem hlt]; rfl) (by rw [List.length_map]; omega)) ?_
  exact k _ _ (e1.trans e2)
theorem sc__law_across : FnScope ["_law_load", "_law_needs_here", "_law_left", "_law_right_here", "_law_spread_here", "_law_there", "_law_back", "_law_far", "_law_rest", "_law_k"] ["_law_load", "_law_needs_here", "_law_left", "_law_right_here"] (defScope s__law_across) := ⟨rfl, rfl, rfl, by decide +kernel, rfl, by decide +kernel, by decide +kernel⟩
theorem c__law_across (E : En K mg) : C8.Cal P w K mg base 2 "_law_across" spAl [] := by
  obtain ⟨fd, F⟩ := E.f__law_across
  refine cal_mk F E.g__law_across sc__law_across (fun _ _ _ _ _ _ us hl => match us, hl with | [_, _, _, _], _ => rfl) (fun vs H Q E h => by obtain ⟨q, nd, c, l, r, rfl, _⟩ := h; rfl) fun cdv A outer s H vs Q E' hr h => ⟨_, (pss_cons (ps_set (i := 4) sc__law_across.nd rfl (Or.inl rfl) (C8.pe_c (c__law_spread E) hr (by decide) (by rfl) (pa_cons (pv 1) (pa_cons (pv 2) (pa_cons (pv 3) pa_nil)))))
      (pss_cons (ps_set (i := 5) sc__law_across.nd rfl (Or.inr rfl) (C8.pe_c (c__law_sums E) hr (by decide) (by rfl) (pa_cons (pv 0) (pa_cons (pv 4) pa_nil))))
      (pss_cons (ps_set (i := 6) sc__law_across.nd rfl (Or.inr rfl) (C8.pe_c (c__law_sums E) hr (by decide) (by rfl) (pa_cons (pv 0) (pa_cons (pe_lc (own := [("_law_far", 7)]) rfl sc__law_across.nd (pi_listK K (by rfl) (pe_revLK K (by rfl) (pv 4))) (blkOk_by (own := [("_law_far", 7)]) (N := ["_law_load", "_law_needs_here", "_law_left", "_law_right_here", "_law_spread_here", "_law_there", "_law_back", "_law_far", "_law_rest", "_law_k"]) (sc := defScope s__law_across) (by decide +kernel)) (fun _ _ _ _ _ => (pg_name (i := 7) sc__law_across.nd rfl (Or.inl rfl))) (fun _ _ _ _ _ => pts_nil) (fun _ _ _ _ _ => (pe_op op_sub (pe_op op_sub (pv 3) (pv 2)) (pv 7)))) pa_nil))))
      (pss_cons (ps_set (i := 8) sc__law_across.nd rfl (Or.inr rfl) (pe_callB (c_max2 rfl) (by rfl) E.z_max b_max (pa_cons pe_int (pa_cons (pe_op op_sub (pe_callB (c_lenK K (by rfl)) (by rfl) E.z_len b_len (pa_cons (pv 4) pa_nil)) (pe_op op_mul pe_int (pv 0))) pa_nil))))
      (pss_one (ps_ret (pe_op op_add (pe_op op_mul pe_int (pe_op op_sub (pv 3) (pv 2))) (pe_callB (c_minK K (by rfl) rfl) (by rfl) E.z_min b_min (pa_cons (pe_lc (own := [("_law_k", 9)]) rfl sc__law_across.nd (pi_range1 rfl E.z_range (pa_cons (pe_op op_add (pv 8) pe_int) pa_nil)) (blkOk_by (own := [("_law_k", 9)]) (N := ["_law_load", "_law_needs_here", "_law_left", "_law_right_here", "_law_spread_here", "_law_there", "_law_back", "_law_far", "_law_rest", "_law_k"]) (sc := defScope s__law_across) (by decide +kernel)) (fun _ _ _ _ _ => (pg_name (i := 9) sc__law_across.nd rfl (Or.inl rfl))) (fun _ _ _ _ _ => pts_nil) (fun _ _ _ _ _ => (pe_op op_add (pe_ix (ix_listK K (by rfl)) (pv 5) (pv 9) (fun _ _ => rfl)) (pe_ix (ix_listK K (by rfl)) (pv 6) (pe_op op_sub (pv 8) (pv 9)) (fun _ _ => rfl))))) pa_nil))))))))), ?_⟩
  obtain ⟨q, nd, c, l, r, rfl, hq, hnd, l0, l1, r0, r1, hl, c0, c1, k⟩ := h
  one_item
  refine ⟨q, nd, l, r, rfl, hq, hnd, l0, l1, r0, r1, hl, fun H1 p ns e1 h1 hn => ?_⟩
  top_name
  refine ⟨p, ns, c, rfl, SqL.of h1, c0, c1, by omega, fun H2 q2 ms e2 h2 hm => ?_⟩
  have h12 := e2 _ _ h1
  top_name
  refine ⟨p, ns.map V.int, rfl, SqL.of h12, fun q3 hq3 => ?_⟩
  generalize hH3 : upd H2 q3 _ = H3
  have h3 := (congrFun hH3 q3).symm.trans upd_same
  have e3 : Le H2 H3 := hH3 ▸ le_new hq3
  rw [← List.map_reverse] at h3
  top_name
  refine lc_map ((ns.reverse.map fun z => r - l - z).map V.int) walk_list (by simp) (by one_place) (by simp; omega) (fun H' e => SqL.of (e _ _ h3)) ?_ fun D4 H4 hD4 e4 h4 => ?_
  · rintro i x H0 H' R N hi e ⟨rfl, hx⟩ hR
    obtain ⟨z, hz, rfl⟩ := some_int hx
    top_name
    exact hR _ _ (Same.refl _) (by rw [List.getElem?_map, List.getElem?_map, hz]; rfl)
  refine ⟨D4, _, c, rfl, SqL.of h4, c0, c1, by simp; omega, fun H5 q5 ms5 e5 h5 hm5 => ?_⟩
  rw [List.length_map, List.length_reverse] at hm5
  have h15 := (e3.trans (e4.trans e5)) _ _ h12
  have h25 := (e3.trans (e4.trans e5)) _ _ h2
  have hll : (((ns.map V.int).length : Nat) : Int) = ns.length := by simp
  top_name
  rw [hll]
  top_name
  generalize hrs : max 0 ((ns.length : Int) - 2 * c) = rs
  have rs0 : 0 ≤ rs := by omega
  have rs1 : rs ≤ ns.length := by omega
  top_name
  refine lc_rel (fun D i y H' => ∃ z, y = V.int z ∧ True) (walk_range (lo := 0) (n := (rs + 1).toNat)) (by one_place) (by omega) (fun _ _ => trivial) (fun D i y H1 H2 _ h _ => h) ?_ wpm_yes wpm_name fun D6 H6 out hD6 e6 h6 hl6 hT6 => ?_
  · rintro D i x H0 _ R hD hi e _ ⟨rfl, rfl⟩ hR
    top_name
    refine ⟨rfl, ?_⟩
    top_name
    refine r_ixL (SqL.of (e _ _ h25)) (atI_int (by omega) (by omega)) ?_
    top_name
    refine r_ixL (SqL.of (e _ _ h5)) (atI_int (by omega) (by omega)) ?_
    top_name
    exact hR _ _ (Same.refl _) ⟨_, rfl, trivial⟩
  obtain ⟨us, rfl, _⟩ := ints_of (P := fun _ => True) hT6
  top_name
  refine r_minL (SqL.of h6) (by rw [List.length_map] at hl6; omega) fun m _ _ => ?_
  top_name
  exact k _ _ (e1.trans (e2.trans (e3.trans (e4.trans (e5.trans e6)))))
end
set_option Elab.async false
set_option linter.all false
set_option maxRecDepth 100000
set_option maxHeartbeats 4000000
open PySem PySem.Spec PyProof.Rows L2

section
variable {P : Program} {w : World} {K : PySem.W.Frag} {mg : Str → Option Value} {base : Heap}
theorem sc__law_least : FnScope ["_law_soil_here", "_law_size", "_law_told_here", "_law_needs_here", "_law_stops_here", "_law_total", "_law_k", "_law_left", "_law_right_here", "_law_cost"] ["_law_soil_here", "_law_size", "_law_told_here"] (defScope s__law_least) := ⟨rfl, rfl, rfl, by decide +kernel, rfl, by decide +kernel, by decide +kernel⟩
def spLt : Sp := fun vs H Q _ => ∃ (S : Addr → Prop) (v : V) (t : Addr) (c : Int) (bs : List (Option Int)) (ts : List Int) (n : Nat), vs = [v, .int n, .ref t] ∧ GOk c bs ∧ Da S H (.tuple [.int c, .list (bs.map bD)]) v ∧ H t = some (.tup (ts.map V.int)) ∧ n ≤ 200 ∧
  ∀ H' z, Le H H' → Q (.int z) H'
theorem c__law_least (E : En K mg) : C8.Cal P w K mg base 3 "_law_least" spLt [] := by
  obtain ⟨fd, F⟩ := E.f__law_least
  refine cal_mk F E.g__law_least sc__law_least (fun _ _ _ _ _ _ us hl => match us, hl with | [_, _, _], _ => rfl) (fun vs H Q E h => by obtain ⟨S, v, t, c, bs, ts, n, rfl, _⟩ := h; rfl) fun cdv A outer s H vs Q E' hr h => ⟨_, (pss_cons (ps_par3 (i := 3) (j := 4) (l := 5) (by rfl) sc__law_least.nd rfl rfl rfl (by decide) (by decide) (by decide) rfl rfl rfl (pa_cons (C8.pe_c (c__law_needs E) hr (by decide) (by rfl) (pa_cons (pv 0) (pa_cons (pv 1) (pa_cons (pv 2) pa_nil)))) (pa_cons (C8.pe_c (c__law_stops E) hr (by decide) (by rfl) (pa_cons (pv 0) (pa_cons (pv 1) (pa_cons (pv 2) pa_nil)))) (pa_cons pe_int pa_nil))) (by rfl))
      (pss_cons (ps_for PassesOwn.never rfl (pi_range1 rfl E.z_range (pa_cons (pe_callB (c_lenK K (by rfl)) (by rfl) E.z_len b_len (pa_cons (pv 4) pa_nil)) pa_nil)) (pg_name (i := 6) sc__law_least.nd rfl (Or.inl rfl)) (pss_cons (ps_set (i := 7) sc__law_least.nd rfl (Or.inl rfl) (pe_ix (ix_listK K (by rfl)) (pv 4) (pv 6) (fun _ _ => rfl)))
      (pss_cons (ps_if (pt_cmpR op_eq (pe_callB (c_sumK K (by rfl) rfl) (by rfl) E.z_sum b_sum (pa_cons (pe_slice (sl_listK K (by rfl)) (pv 3) (po_some (pv 7)) po_none) pa_nil)) pe_int (nomark _)) (pss_one (ps_ret (pv 5))) pss_nil)
      (pss_cons (ps_if (pt_cmpR op_eq (pe_op op_add (pv 6) pe_int) (pe_callB (c_lenK K (by rfl)) (by rfl) E.z_len b_len (pa_cons (pv 4) pa_nil)) (nomark _)) (pss_one (ps_ret (pe_op op_add (pv 5) (C8.pe_c (c__law_alone E) hr (by decide) (by rfl) (pa_cons (pe_ix (ix_tupK K (by rfl)) (pv 0) pe_int (fun _ _ => rfl)) (pa_cons (pv 3) (pa_cons (pv 7) (pa_cons (pe_op op_add (pv 1) pe_int) pa_nil)))))))) pss_nil)
      (pss_cons (ps_set (i := 8) sc__law_least.nd rfl (Or.inl rfl) (pe_ix (ix_listK K (by rfl)) (pv 4) (pe_op op_add (pv 6) pe_int) (fun _ _ => rfl)))
      (pss_cons (ps_set (i := 9) sc__law_least.nd rfl (Or.inl rfl) (C8.pe_c (c__law_across E) hr (by decide) (by rfl) (pa_cons (pe_ix (ix_tupK K (by rfl)) (pv 0) pe_int (fun _ _ => rfl)) (pa_cons (pv 3) (pa_cons (pv 7) (pa_cons (pv 8) pa_nil))))))
      (pss_cons (ps_if (pt_cmpR op_eq (pe_callB (c_sumK K (by rfl) rfl) (by rfl) E.z_sum b_sum (pa_cons (pe_slice (sl_listK K (by rfl)) (pv 3) (po_some (pv 8)) po_none) pa_nil)) pe_int (nomark _)) (pss_one (ps_set (i := 9) sc__law_least.nd rfl (Or.inl rfl) (pe_callB (c_min2 rfl) (by rfl) E.z_min b_min (pa_cons (pv 9) (pa_cons (C8.pe_c (c__law_alone E) hr (by decide) (by rfl) (pa_cons (pe_ix (ix_tupK K (by rfl)) (pv 0) pe_int (fun _ _ => rfl)) (pa_cons (pv 3) (pa_cons (pv 7) (pa_cons (pv 8) pa_nil))))) pa_nil))))) pss_nil)
      (pss_one (ps_set (i := 5) sc__law_least.nd rfl (Or.inl rfl) (pe_op op_add (pv 5) (pv 9)))))))))))
      (pss_one (ps_ret (pv 5))))), ?_⟩
  obtain ⟨S, v, t, c, bs, ts, n, rfl, g, hd, ht, hn, k⟩ := h
  have c1 := g.c1
  have c2 := g.c2
  have hnb := needsL_bd g ts n
  have hnl := needsL_len bs ts n
  have sl := stopsL_len bs ts n
  one_item
  refine ⟨S, v, t, c, bs, ts, n, rfl, g, hd, ht, hn, fun H1 q e1 hq h1 => ?_⟩
  top_name
  refine ⟨S, v, t, c, bs, ts, n, rfl, g, hd.le e1, e1 _ _ ht, hn, fun H2 r e2 hr2 h2 => ?_⟩
  have h12 := e2 _ _ h1
  obtain ⟨sa, sp, rfl, _, _, hsa, hsp⟩ := soil_of hd
  have sbd : ∀ y ∈ stopsL bs ts n, 0 ≤ y ∧ y ≤ n := fun y hy => stopsL_bd hy
  generalize hst : stopsL bs ts n = st at *
  generalize hnd : needsL bs ts n = nd at *
  have hl : (((st.map V.int).length : Nat) : Int) = st.length := by simp
  have tt := e1.trans e2
  top_name
  rw [hl]
  top_name
  refine for_range (fun i σ H' => Le H2 H' ∧ ∃ (tot : Int) (x6 x7 x8 x9 : Option V), σ = [some (.ref sa), some (.int n), some (.ref t), some (.ref q), some (.ref r), some (.int tot), x6, x7, x8, x9]) ⟨Same.refl _, 0, none, none, none, none, rfl⟩ ?_ ?_
  · rintro i σ H3 hi ⟨e3, tot, x6, x7, x8, x9, rfl⟩
    have hi' : i < st.length := by omega
    have q3 := e3 _ _ h12
    have r3 := e3 _ _ h2
    have t3 := tt.trans e3
    have hsa3 := t3 _ _ hsa
    have b1 := sbd st[i] (List.getElem_mem hi')
    generalize hlf : st[i] = lf at b1
    have hlf' : (st.map V.int)[i]? = some (.int lf) := by rw [List.getElem?_map, List.getElem?_eq_getElem hi', hlf]; rfl
    top_name
    refine r_ixL (SqL.of r3) (by rw [Int.zero_add]; exact atI_nat hlf') ?_
    top_name
    refine r_slL (SqL.of q3) fun q4 H4 hq4 e4 h4 => ?_
    obtain ⟨ms, hms⟩ := cut_ints nd (some lf) none
    rw [hms] at h4
    top_name
    refine r_sum (SqL.of h4) ?_
    have t4 := t3.trans e4
    top_name
    refine if_dec (fun h => ?_) (fun h => ?_)
    · top_name
      exact k _ _ t4
    top_name
    refine r_lenL (SqL.of (e4 _ _ r3)) ?_
    rw [hl]
    top_name
    refine if_dec (fun h2 => ?_) (fun h2 => ?_)
    · top_name
      refine r_ixT (SqT.of (e4 _ _ hsa3)) (atI_nat (j := 0) rfl) ?_
      top_name
      refine ⟨q, nd, c, lf, n + 1, rfl, e4 _ _ q3, hnb, by omega, by omega, by omega, by omega, by omega, by omega, by omega, fun H5 z e5 => ?_⟩
      top_name
      exact k _ _ (t4.trans e5)
    have hi2 : i + 1 < st.length := by omega
    have b2 := sbd st[i + 1] (List.getElem_mem hi2)
    generalize hrg : st[i + 1] = rg at b2
    have hrg' : (st.map V.int)[i + 1]? = some (.int rg) := by rw [List.getElem?_map, List.getElem?_eq_getElem hi2, hrg]; rfl
    top_name
    refine r_ixL (SqL.of (e4 _ _ r3)) (by
      have e : (0 : Int) + (i : Int) + 1 = ((i + 1 : Nat) : Int) := by omega
      rw [e]; exact atI_nat hrg') ?_
    top_name
    refine r_ixT (SqT.of (e4 _ _ hsa3)) (atI_nat (j := 0) rfl) ?_
    top_name
    refine ⟨q, nd, c, lf, rg, rfl, e4 _ _ q3, hnb, by omega, by omega, by omega, by omega, by omega, by omega, by omega, fun H5 z e5 => ?_⟩
    have q5 := (e4.trans e5) _ _ q3
    top_name
    refine r_slL (SqL.of q5) fun q6 H6 hq6 e6 h6 => ?_
    obtain ⟨ms2, hms2⟩ := cut_ints nd (some rg) none
    rw [hms2] at h6
    top_name
    refine r_sum (SqL.of h6) ?_
    top_name
    refine if_dec (fun h => ?_) (fun h => ?_)
    · top_name
      refine r_ixT (SqT.of ((e4.trans (e5.trans e6)) _ _ hsa3)) (atI_nat (j := 0) rfl) ?_
      top_name
      refine ⟨q, nd, c, lf, rg, rfl, e6 _ _ q5, hnb, by omega, by omega, by omega, by omega, by omega, by omega, by omega, fun H7 z7 e7 => ?_⟩
      top_name
      exact ⟨e3.trans (e4.trans (e5.trans (e6.trans e7))), _, _, _, _, _, rfl⟩
    · top_name
      exact ⟨e3.trans (e4.trans (e5.trans e6)), _, _, _, _, _, rfl⟩
  · rintro σ H3 ⟨e3, tot, x6, x7, x8, x9, rfl⟩
    top_name
    exact k _ _ (tt.trans e3)
theorem sc__law_told : FnScope ["_law_bag_here", "_law_most", "_law_found", "_law_low", "_law_turn"] ["_law_bag_here", "_law_most"] (defScope s__law_told) := ⟨rfl, rfl, rfl, by decide +kernel, rfl, by decide +kernel, by decide +kernel⟩
def spTo (K : PySem.W.Frag) : Sp := fun vs H Q _ => ∃ (b : Addr) (m : Int), vs = [.ref b, .int m] ∧ Bg H b ∧ 0 ≤ m ∧ m ≤ 200 ∧
  ∀ H' t (ts : List Int), LeB b H H' → Bg H' b → t ≠ b → H' t = some (.tup (ts.map V.int)) → TpOk ts → (∀ y ∈ ts, y ≤ m) → Q (.ref t) H'
theorem c__law_told (E : En K mg) : C8.Cal P w K mg base 3 "_law_told" (spTo K) [] := by
  obtain ⟨fd, F⟩ := E.f__law_told
  refine cal_mk F E.g__law_told sc__law_told (fun _ _ _ _ _ _ us hl => match us, hl with | [_, _], _ => rfl) (fun vs H Q E h => by obtain ⟨b, m, rfl, _⟩ := h; rfl) fun cdv A outer s H vs Q E' hr h => ⟨_, (pss_cons (ps_par (i := 2) (j := 3) (by rfl) sc__law_told.nd rfl rfl (by decide) rfl rfl (pa_cons (pe_lst pa_nil) (pa_cons pe_int pa_nil)) (by rfl))
      (pss_cons (ps_for PassesOwn.never rfl (pi_range1 rfl E.z_range (pa_cons (C8.pe_c (c__law_any E) hr (by decide) (by rfl) (pa_cons (pv 0) (pa_cons (pe_lst (pa_cons pe_int (pa_cons pe_int (pa_cons pe_int (pa_cons pe_int (pa_cons pe_int pa_nil)))))) pa_nil))) pa_nil)) (pg_name (i := 4) sc__law_told.nd rfl (Or.inl rfl)) (pss_cons (ps_set (i := 3) sc__law_told.nd rfl (Or.inl rfl) (pe_op op_add (pe_op op_add (pv 3) pe_int) (C8.pe_c (c__law_take E) hr (by decide) (by rfl) (pa_cons (pv 0) (pa_cons pe_int pa_nil)))))
      (pss_one (ps_if (pt_cmpR op_le (pv 3) (pv 1) (nomark _)) (pss_one (ps_expr (pe_bmK K (by rfl) PySem.F.plainAttrs_list PySem.F.slot_list_append PySem.F.type_list_append mt_append (pv 2) (pa_cons (pv 3) pa_nil)))) pss_nil))))
      (pss_one (ps_ret (pe_callTy (c_tupOK K (by rfl)) (by rfl) E.z_tuple b_tuple (pa_cons (pv 2) pa_nil)))))), ?_⟩
  obtain ⟨b, m, rfl, hb, m0, m1, k⟩ := h
  one_item
  have nb : ∀ {H' : Hp} {p : Addr}, Bg H' b → H' p = none → p ≠ b := fun g h z => by
    obtain ⟨x, y, u, g⟩ := g
    rw [z] at h; rw [h] at g; cases g
  refine ⟨Nat.zero_le _, fun p hp => ?_⟩
  generalize hH1 : upd H p _ = H1
  have h1 := (congrFun hH1 p).symm.trans upd_same
  have e1 : Le H H1 := hH1 ▸ le_new hp
  have b1 := hb.le e1
  have pb := nb hb hp
  top_name
  refine ⟨szl (by simp), fun q hq => ?_⟩
  generalize hH2 : upd H1 q _ = H2
  have h2 := (congrFun hH2 q).symm.trans upd_same
  have e2 : Le H1 H2 := hH2 ▸ le_new hq
  have b2 := b1.le e2
  top_name
  refine ⟨b, q, _, rfl, b2, nb b1 hq, h2, by simp, by simp, fun H3 x e3 b3 hx => ?_⟩
  have hx' : ∃ z : Int, x = .int z ∧ 0 ≤ z ∧ z ≤ 4 := by
    simp only [List.mem_cons, List.mem_nil_iff, or_false] at hx
    rcases hx with rfl | rfl | rfl | rfl | rfl
    · exact ⟨0, rfl, by omega, by omega⟩
    · exact ⟨0, rfl, by omega, by omega⟩
    · exact ⟨1, rfl, by omega, by omega⟩
    · exact ⟨2, rfl, by omega, by omega⟩
    · exact ⟨4, rfl, by omega, by omega⟩
  obtain ⟨z, rfl, z0, z1⟩ := hx'
  have h3 := e3 _ _ pb (e2 _ _ h1)
  have tt : LeB b H H3 := (LeB.of (e1.trans e2)).trans e3
  top_name
  refine for_range (fun i σ H' => LeB b H H' ∧ Bg H' b ∧ ∃ (lw : Int) (x4 : Option V) (ts : List Int), σ = [some (.ref b), some (.int m), some (.ref p), some (.int lw), x4] ∧ H' p = some (.lst (ts.map V.int)) ∧ ts.length ≤ i ∧ 0 ≤ lw ∧ ts.Pairwise (· < ·) ∧ ∀ y ∈ ts, 1 ≤ y ∧ y ≤ lw ∧ y ≤ m) ⟨tt, b3, 0, none, [], rfl, h3, Nat.le_refl _, by omega, .nil, (fun _ h => nomatch h)⟩ ?_ ?_
  · rintro i σ H4 hi ⟨e4, b4, lw, x4, ts, rfl, h4, hl, l0, hp4, hb4⟩
    top_name
    refine ⟨b, 8, rfl, b4, by omega, by omega, fun H5 r e5 b5 r0 r1 => ?_⟩
    have h5 := e5 _ _ pb h4
    top_name
    refine if_dec (fun h => ?_) (fun h => ?_)
    · top_name
      refine k_app h5 (by rw [List.length_map]; omega) fun H6 e6 h6 => ?_
      have b6 : Bg H6 b := by
        obtain ⟨x, y, u, g⟩ := b5
        exact ⟨x, y, u, e6 _ _ (Ne.symm pb) g⟩
      refine ⟨le_mutB (e4.trans e5) hp e6, b6, _, _, ts ++ [lw + 1 + r], rfl, by rw [h6, List.map_append]; rfl, by simp; omega, by omega, ?_, ?_⟩
      · rw [List.pairwise_append]
        exact ⟨hp4, by simp, fun a ha c hc => by
          have e : c = lw + 1 + r := by simpa using hc
          have := (hb4 a ha).2.1
          omega⟩
      · intro y hy
        rcases List.mem_append.mp hy with hy | hy
        · have := hb4 y hy; omega
        · have e : y = lw + 1 + r := by simpa using hy
          omega
    · top_name
      exact ⟨e4.trans e5, b5, _, _, ts, rfl, h5, by omega, by omega, hp4, fun y hy => by have := hb4 y hy; omega⟩
  · rintro σ H4 ⟨e4, b4, lw, x4, ts, rfl, h4, hl, l0, hp4, hb4⟩
    top_name
    refine r_tupO (SqL.of h4) fun t H5 ht e5 h5 => ?_
    refine k H5 t ts (e4.trans (LeB.of e5)) (b4.le e5) (nb b4 ht) h5 ⟨by omega, fun i x y hx hy => ?_, fun y hy => (hb4 y hy).1, fun y hy => by have := hb4 y hy; omega⟩ fun y hy => (hb4 y hy).2.2
    obtain ⟨g1, f1⟩ := List.getElem?_eq_some_iff.mp hx
    obtain ⟨g2, f2⟩ := List.getElem?_eq_some_iff.mp hy
    have := List.pairwise_iff_getElem.mp hp4 i (i + 1) g1 g2 (by omega)
    rw [f1, f2] at this
    exact this
end
set_option Elab.async false
set_option linter.all false
set_option maxRecDepth 100000
set_option maxHeartbeats 4000000
open PySem PySem.Spec PyProof.Rows L2

section
variable {P : Program} {w : World} {K : PySem.W.Frag} {mg : Str → Option Value} {base : Heap}
theorem sc__law_naive : FnScope ["_law_bag_here", "_law_soil_here", "_law_size", "_law_told_here", "_law_needs_here", "_law_sheet", "_law_load", "_law_pours", "_law_place", "_law_left", "_law_much"] ["_law_bag_here", "_law_soil_here", "_law_size", "_law_told_here"] (defScope s__law_naive) := ⟨rfl, rfl, rfl, by decide +kernel, rfl, by decide +kernel, by decide +kernel⟩
/-- a list of walks, off the bag -/
structure ShL (b : Addr) (H : Hp) (q : Addr) (ws : List Wk) : Prop where
  ne : q ≠ b
  ob : ∃ vs, H q = some (.lst vs) ∧ vs.length = ws.length ∧ DaL (· = b) H (ws.map wkD) vs
theorem ShL.leB {b : Addr} {H H' : Hp} {q : Addr} {ws : List Wk} (h : ShL b H q ws) (e : LeB b H H') : ShL b H' q ws := by
  obtain ⟨n, vs, h1, h2, h3⟩ := h
  exact ⟨n, vs, e _ _ n h1, h2, h3.leB e⟩
/-- a list of pours, off the bag -/
structure PoL (b : Addr) (H : Hp) (q : Addr) (ps : List (Int × Int)) : Prop where
  ne : q ≠ b
  ob : ∃ vs, H q = some (.lst vs) ∧ vs.length = ps.length ∧ DaL (· = b) H (ps.map prD) vs
theorem PoL.leB {b : Addr} {H H' : Hp} {q : Addr} {ws : List (Int × Int)} (h : PoL b H q ws) (e : LeB b H H') : PoL b H' q ws := by
  obtain ⟨n, vs, h1, h2, h3⟩ := h
  exact ⟨n, vs, e _ _ n h1, h2, h3.leB e⟩
theorem bg_nb {b : Addr} {H : Hp} {p : Addr} (g : Bg H b) (h : H p = none) : p ≠ b := fun z => by
  obtain ⟨x, y, u, g⟩ := g
  rw [z] at h; rw [h] at g; cases g
/-- sheet + [(0, 0, tuple(pours))] -/
theorem r_nvadd {K : PySem.W.Frag} {σ : L2.St} {H : Hp} {Q : VK} {b s p : Addr} {ws : List Wk} {ps : List (Int × Int)} (e5 : σ[5]? = some (some (.ref s))) (e7 : σ[7]? = some (some (.ref p))) (hb : Bg H b) (hs : ShL b H s ws) (hp : PoL b H p ps) (hw : ws.length ≤ 10000)
    (k : ∀ H' q, Le H H' → ShL b H' q (ws ++ [((0, 0, ps) : Wk)]) → Q (.ref q) H') :
    tOp rCat (tVar 5) (tLst (tCons (tTup (tCons (tC (V.int 0)) (tCons (tC (V.int 0)) (tCons (tCB (rTupO K) (tCons (tVar 7) tNil)) tNil)))) tNil)) σ H Q := by
  obtain ⟨ns, vs, hs1, hs2, hs3⟩ := hs
  obtain ⟨np, us, hp1, hp2, hp3⟩ := hp
  refine r_op ?_
  refine r_var e5 ?_
  refine r_lst ?_
  refine r_cons ?_
  refine r_tup ?_
  refine r_cons ?_
  refine r_C ?_
  refine r_cons ?_
  refine r_C ?_
  refine r_cons ?_
  refine r_CB ?_
  refine r_cons ?_
  refine r_var e7 ?_
  refine r_nil ?_
  refine r_tupO (SqL.of hp1) fun z1 H1 hz1 l1 g1 => ?_
  refine r_nil ?_
  refine ⟨szl (by simp), fun z2 hz2 => ?_⟩
  generalize hH2 : upd H1 z2 _ = H2
  have g2 := (congrFun hH2 z2).symm.trans upd_same
  have l2 : Le H1 H2 := hH2 ▸ le_new hz2
  refine r_nil ?_
  refine ⟨szl (by simp), fun z3 hz3 => ?_⟩
  generalize hH3 : upd H2 z3 _ = H3
  have g3 := (congrFun hH3 z3).symm.trans upd_same
  have l3 : Le H2 H3 := hH3 ▸ le_new hz3
  have t3 := l1.trans (l2.trans l3)
  refine r_catL (t3 _ _ hs1) g3 (by simp; omega) fun z4 H4 hz4 l4 g4 => ?_
  have b1 := hb.le l1
  have b2 := b1.le l2
  have b3 := b2.le l3
  refine k H4 z4 (t3.trans l4) ⟨bg_nb b3 hz4, _, g4, by simp [hs2], ?_⟩
  rw [List.map_append]
  exact ((hs3.le t3).le l4).append (.cons (.tup (bg_nb b1 hz2) ((l3.trans l4) _ _ g2) (.cons (.int _) (.cons (.int _) (.cons (.tup (bg_nb hb hz1) ((l2.trans (l3.trans l4)) _ _ g1) (hp3.le (t3.trans l4))) .nil)))) .nil)
def spNv : Sp := fun vs H Q _ => ∃ (b : Addr) (v : V) (t : Addr) (c : Int) (bs : List (Option Int)) (ts : List Int) (n : Nat), vs = [.ref b, v, .int n, .ref t] ∧ Bg H b ∧ GOk c bs ∧ Da (· = b) H (.tuple [.int c, .list (bs.map bD)]) v ∧ H t = some (.tup (ts.map V.int)) ∧ t ≠ b ∧ n ≤ 50 ∧
  ∀ H' q (ws : List Wk), LeB b H H' → Bg H' b → ShL b H' q ws → WkOk ws → ws.length ≤ 1000 → Q (.ref q) H'
theorem c__law_naive (E : En K mg) : C8.Cal P w K mg base 2 "_law_naive" spNv [] := by
  obtain ⟨fd, F⟩ := E.f__law_naive
  refine cal_mk F E.g__law_naive sc__law_naive (fun _ _ _ _ _ _ us hl => match us, hl with | [_, _, _, _], _ => rfl) (fun vs H Q E h => by obtain ⟨b, v, t, c, bs, ts, n, rfl, _⟩ := h; rfl) fun cdv A outer s H vs Q E' hr h => ⟨_, (pss_cons (ps_asg (pe_tup (pa_cons (C8.pe_c (c__law_needs E) hr (by decide) (by rfl) (pa_cons (pv 1) (pa_cons (pv 2) (pa_cons (pv 3) pa_nil)))) (pa_cons (pe_lst pa_nil) (pa_cons (pe_ix (ix_tupK K (by rfl)) (pv 1) pe_int (fun _ _ => rfl)) (pa_cons (pe_lst pa_nil) pa_nil))))) (pg_tupK (n := 4) K (by rfl) rfl (pgs_cons (pg_name (i := 4) sc__law_naive.nd rfl (Or.inl rfl)) (pgs_cons (pg_name (i := 5) sc__law_naive.nd rfl (Or.inl rfl)) (pgs_cons (pg_name (i := 6) sc__law_naive.nd rfl (Or.inl rfl)) (pgs_cons (pg_name (i := 7) sc__law_naive.nd rfl (Or.inl rfl)) pgs_nil))))))
      (pss_cons (ps_for PassesOwn.never rfl (pi_range2 rfl E.z_range (pa_cons pe_int (pa_cons (pe_op op_add (pv 2) pe_int) pa_nil))) (pg_name (i := 8) sc__law_naive.nd rfl (Or.inl rfl)) (pss_cons (ps_set (i := 9) sc__law_naive.nd rfl (Or.inl rfl) (pe_ix (ix_listK K (by rfl)) (pv 4) (pv 8) (fun _ _ => rfl)))
      (pss_one (ps_while PassesOwn.never (pt_cmpR op_gt (pv 9) pe_int (nomark _)) (pss_cons (ps_set (i := 10) sc__law_naive.nd rfl (Or.inl rfl) (pe_callB (c_min2 rfl) (by rfl) E.z_min b_min (pa_cons (pv 9) (pa_cons (pv 6) pa_nil))))
      (pss_cons (ps_par3 (i := 7) (j := 9) (l := 6) (by rfl) sc__law_naive.nd rfl rfl rfl (by decide) (by decide) (by decide) rfl rfl rfl (pa_cons (pe_op op_cat (pv 7) (pe_lst (pa_cons (pe_tup (pa_cons (pv 8) (pa_cons (pv 10) pa_nil))) pa_nil))) (pa_cons (pe_op op_sub (pv 9) (pv 10)) (pa_cons (pe_op op_sub (pv 6) (pv 10)) pa_nil))) (by rfl))
      (pss_one (ps_if (PW.pt (pw_or (pt_cmpR op_eq (pv 6) pe_int (nomark _)) (pw_or1 (pt_cmpR op_eq (C8.pe_c (c__law_take E) hr (by decide) (by rfl) (pa_cons (pv 0) (pa_cons pe_int pa_nil))) pe_int (nomark _))))) (pss_one (ps_par3 (i := 5) (j := 7) (l := 6) (by rfl) sc__law_naive.nd rfl rfl rfl (by decide) (by decide) (by decide) rfl rfl rfl (pa_cons (pe_op op_cat (pv 5) (pe_lst (pa_cons (pe_tup (pa_cons pe_int (pa_cons pe_int (pa_cons (pe_callTy (c_tupOK K (by rfl)) (by rfl) E.z_tuple b_tuple (pa_cons (pv 7) pa_nil)) pa_nil)))) pa_nil))) (pa_cons (pe_lst pa_nil) (pa_cons (pe_ix (ix_tupK K (by rfl)) (pv 1) pe_int (fun _ _ => rfl)) pa_nil))) (by rfl))) pss_nil))))))))
      (pss_one (ps_ret (pe_ifExp (pt_cmpR (op_neK K (by rfl) (hu64 hr)) (pv 7) (pe_lst pa_nil) (nomark _)) (pe_op op_cat (pv 5) (pe_lst (pa_cons (pe_tup (pa_cons pe_int (pa_cons pe_int (pa_cons (pe_callTy (c_tupOK K (by rfl)) (by rfl) E.z_tuple b_tuple (pa_cons (pv 7) pa_nil)) pa_nil)))) pa_nil))) (pv 5)))))), ?_⟩
  obtain ⟨b, v, t, c, bs, ts, n, rfl, hb, g, hd, ht, tb, hn, k⟩ := h
  have c1 := g.c1
  have hnb := needsL_bd g ts n
  have hnl := needsL_len bs ts n
  one_item
  refine ⟨_, v, t, c, bs, ts, n, rfl, g, hd, ht, by omega, fun H1 q e1 hq h1 => ?_⟩
  obtain ⟨sa, sp, rfl, nsa, nsp, hsa, hsp⟩ := soil_of hd
  have qb := bg_nb hb hq
  have b1 := hb.le e1
  top_name
  refine ⟨Nat.zero_le _, fun z1 hz1 => ?_⟩
  generalize hH2 : upd H1 z1 _ = H2
  have g2 := (congrFun hH2 z1).symm.trans upd_same
  have l2 : Le H1 H2 := hH2 ▸ le_new hz1
  have hsa2 := (e1.trans l2) _ _ hsa
  top_name
  refine r_ixT (SqT.of hsa2) (atI_nat (j := 0) rfl) ?_
  top_name
  refine ⟨Nat.zero_le _, fun z2 hz2 => ?_⟩
  generalize hH3 : upd H2 z2 _ = H3
  have g3 := (congrFun hH3 z2).symm.trans upd_same
  have l3 : Le H2 H3 := hH3 ▸ le_new hz2
  top_name
  refine ⟨szl (by simp), fun z3 hz3 => ?_⟩
  generalize hH4 : upd H3 z3 _ = H4
  have g4 := (congrFun hH4 z3).symm.trans upd_same
  have l4 : Le H3 H4 := hH4 ▸ le_new hz3
  have b2 := b1.le l2
  have b4 := (b2.le l3).le l4
  have t4 : Le H H4 := e1.trans (l2.trans (l3.trans l4))
  have q4 := (l2.trans (l3.trans l4)) _ _ h1
  have sh4 : ShL b H4 z1 [] := ⟨bg_nb b1 hz1, [], (l3.trans l4) _ _ g2, rfl, .nil⟩
  have po4 : PoL b H4 z2 [] := ⟨bg_nb b2 hz2, [], l4 _ _ g3, rfl, .nil⟩
  top_name
  refine for_range (fun i σ H' => LeB b H H' ∧ Bg H' b ∧ ∃ (s p : Addr) (ld : Int) (x8 x9 x10 : Option V) (ws : List Wk) (ps : List (Int × Int)), σ = [some (.ref b), some (.ref sa), some (.int n), some (.ref t), some (.ref q), some (.ref s), some (.int ld), some (.ref p), x8, x9, x10] ∧
    H' q = some (.lst ((needsL bs ts n).map V.int)) ∧ ShL b H' s ws ∧ PoL b H' p ps ∧ 1 ≤ ld ∧ WkOk ws ∧ ws.length ≤ 9 * i ∧ ps.length ≤ 9 * i) ⟨LeB.of t4, b4, z1, z2, c, none, none, none, [], [], rfl, q4, sh4, po4, c1, (fun _ h => nomatch h), Nat.le_refl _, Nat.le_refl _⟩ ?_ ?_
  · rintro i σ H5 hi ⟨e5, b5, s, p, ld, x8, x9, x10, ws, ps, rfl, q5, sh5, po5, hld, hw, hwl, hpl⟩
    have hbd : ∀ z, (needsL bs ts n).getD (1 + (i : Int)).toNat 0 = z → 0 ≤ z ∧ z ≤ 9 := fun z hz => by
      rw [← hz, List.getD_eq_getElem?_getD, List.getElem?_eq_getElem (by omega)]
      exact hnb _ (List.getElem_mem _)
    generalize hz : (needsL bs ts n).getD (1 + (i : Int)).toNat 0 = z at hbd
    have hzb := hbd z rfl
    top_name
    refine r_ixL (SqL.of q5) (atI_int (by omega) (by omega)) ?_
    rw [hz]
    top_name
    refine while_by (fun σ H' => LeB b H H' ∧ Bg H' b ∧ ∃ (s p : Addr) (ld lf : Int) (x10 : Option V) (ws : List Wk) (ps : List (Int × Int)), σ = [some (.ref b), some (.ref sa), some (.int n), some (.ref t), some (.ref q), some (.ref s), some (.int ld), some (.ref p), some (.int (1 + (i : Int))), some (.int lf), x10] ∧
      H' q = some (.lst ((needsL bs ts n).map V.int)) ∧ ShL b H' s ws ∧ PoL b H' p ps ∧ 1 ≤ ld ∧ WkOk ws ∧ 0 ≤ lf ∧ lf ≤ z ∧ (ws.length : Int) ≤ 9 * i + (z - lf) ∧ (ps.length : Int) ≤ 9 * i + (z - lf)) (fun σ _ => match σ with | [_, _, _, _, _, _, _, _, _, some (.int lf), _] => lf.toNat | _ => 0)
      ⟨e5, b5, s, p, ld, z, x10, ws, ps, rfl, q5, sh5, po5, hld, hw, by omega, by omega, by omega, by omega⟩ ?_ ?_
    · rintro σ H6 ⟨e6, b6, s, p, ld, lf, x10, ws, ps, rfl, q6, sh6, po6, hld, hw, lf0, lf1, hwl, hpl⟩
      top_name
      refine if_dec (fun h => ?_) (fun h => ?_)
      · generalize hm : min lf ld = m
        have m1 : 1 ≤ m ∧ m ≤ lf := by omega
        top_name
        obtain ⟨np, us, hp1, hp2, hp3⟩ := id po6
        rw [hm]
        top_name
        refine ⟨szl (by simp), fun y1 hy1 => ?_⟩
        generalize hH7 : upd H6 y1 _ = H7
        have g7 := (congrFun hH7 y1).symm.trans upd_same
        have l7 : Le H6 H7 := hH7 ▸ le_new hy1
        top_name
        refine ⟨szl (by simp), fun y2 hy2 => ?_⟩
        generalize hH8 : upd H7 y2 _ = H8
        have g8 := (congrFun hH8 y2).symm.trans upd_same
        have l8 : Le H7 H8 := hH8 ▸ le_new hy2
        refine r_catL ((l7.trans l8) _ _ hp1) g8 (by simp; omega) fun y3 H9 hy3 l9 g9 => ?_
        have b7 := b6.le l7
        have b8 := b7.le l8
        have b9 := b8.le l9
        have t9 := l7.trans (l8.trans l9)
        have po9 : PoL b H9 y3 (ps ++ [(1 + (i : Int), m)]) := ⟨bg_nb b8 hy3, _, g9, by simp [hp2], by
          rw [List.map_append]
          exact (hp3.le t9).append (.cons (.tup (bg_nb b6 hy1) ((l8.trans l9) _ _ g7) (.cons (.int _) (.cons (.int _) .nil))) .nil)⟩
        have sh9 := sh6.leB (LeB.of t9)
        have q9 := t9 _ _ q6
        have e9 := e6.trans (LeB.of t9)
        top_name
        refine if_dec (fun h2 => ?_) (fun h2 => ?_)
        · refine iteT ?_
          (with_reducible refine r_par3 ?_)
          (with_reducible refine r_cons ?_)
          refine r_nvadd rfl rfl b9 sh9 po9 (by omega) fun H11 y4 l11 sh11 => ?_
          top_name
          refine ⟨Nat.zero_le _, fun y5 hy5 => ?_⟩
          generalize hH12 : upd H11 y5 _ = H12
          have g12 := (congrFun hH12 y5).symm.trans upd_same
          have l12 : Le H11 H12 := hH12 ▸ le_new hy5
          have e12 := e9.trans (LeB.of (l11.trans l12))
          have b12 := (b9.le l11).le l12
          top_name
          refine r_ixT (SqT.of (e12 _ _ nsa hsa)) (atI_nat (j := 0) rfl) ?_
          top_name
          refine ⟨⟨e12, b12, y4, y5, c, lf - m, _, ws ++ [((0, 0, ps ++ [(1 + (i : Int), m)]) : Wk)], [], rfl, (l11.trans l12) _ _ q9, sh11.leB (LeB.of l12), ⟨bg_nb (b9.le l11) hy5, [], g12, rfl, .nil⟩, c1, hw.snoc ?_, by omega, by omega, ?_, by simp; omega⟩, ?_⟩
          · show (ps ++ [(1 + (i : Int), m)]).length ≤ 5000
            rw [List.length_append]
            simp only [List.length_cons, List.length_nil]
            omega
          · rw [List.length_append]
            push_cast
            simp only [List.length_cons, List.length_nil]
            omega
          · show (lf - m).toNat < lf.toNat
            omega
        · top_name
          refine ⟨b, 4, rfl, b9, by omega, by omega, fun H10 r e10 b10 r0 r1 => ?_⟩
          have e10' := e9.trans e10
          have q10 := e10 _ _ qb q9
          have sh10 := sh9.leB e10
          have po10 := po9.leB e10
          top_name
          refine if_dec (fun h3 => ?_) (fun h3 => ?_)
          ·
            (with_reducible refine r_par3 ?_)
            (with_reducible refine r_cons ?_)
            refine r_nvadd rfl rfl b10 sh10 po10 (by omega) fun H11 y4 l11 sh11 => ?_
            top_name
            refine ⟨Nat.zero_le _, fun y5 hy5 => ?_⟩
            generalize hH12 : upd H11 y5 _ = H12
            have g12 := (congrFun hH12 y5).symm.trans upd_same
            have l12 : Le H11 H12 := hH12 ▸ le_new hy5
            have e12 := e10'.trans (LeB.of (l11.trans l12))
            have b12 := (b10.le l11).le l12
            top_name
            refine r_ixT (SqT.of (e12 _ _ nsa hsa)) (atI_nat (j := 0) rfl) ?_
            top_name
            refine ⟨⟨e12, b12, y4, y5, c, lf - m, _, ws ++ [((0, 0, ps ++ [(1 + (i : Int), m)]) : Wk)], [], rfl, (l11.trans l12) _ _ q10, sh11.leB (LeB.of l12), ⟨bg_nb (b10.le l11) hy5, [], g12, rfl, .nil⟩, c1, hw.snoc ?_, by omega, by omega, ?_, by simp; omega⟩, ?_⟩
            · show (ps ++ [(1 + (i : Int), m)]).length ≤ 5000
              rw [List.length_append]
              simp only [List.length_cons, List.length_nil]
              omega
            · rw [List.length_append]
              push_cast
              simp only [List.length_cons, List.length_nil]
              omega
            · show (lf - m).toNat < lf.toNat
              omega
          · top_name
            refine ⟨⟨e10', b10, s, y3, ld - m, lf - m, _, ws, ps ++ [(1 + (i : Int), m)], rfl, q10, sh10, po10, by omega, hw, by omega, by omega, by omega, ?_⟩, ?_⟩
            · rw [List.length_append]
              push_cast
              simp only [List.length_cons, List.length_nil]
              omega
            · show (lf - m).toNat < lf.toNat
              omega
      · exact ⟨e6, b6, s, p, ld, _, _, _, ws, ps, rfl, q6, sh6, po6, hld, hw, by omega, by omega⟩
    · rintro σ H' Q Q' f ⟨v, e, i, j, h1, h2, k, e2, q⟩
      exact ⟨v, e, i, j, h1, h2, k, e2, f _ _ q⟩
  · rintro σ H5 ⟨e5, b5, s, p, ld, x8, x9, x10, ws, ps, rfl, q5, sh5, po5, hld, hw, hwl, hpl⟩
    obtain ⟨np, us, hp1, hp2, hp3⟩ := id po5
    top_name
    refine ⟨Nat.zero_le _, fun y1 hy1 => ?_⟩
    generalize hH6 : upd H5 y1 _ = H6
    have g6 := (congrFun hH6 y1).symm.trans upd_same
    have l6 : Le H5 H6 := hH6 ▸ le_new hy1
    have dl : LayD 2 (.list (ps.map prD)) := LayD.lst (lay_prs ps)
    have b6 := b5.le l6
    have sh6 := sh5.leB (LeB.of l6)
    have po6 := po5.leB (LeB.of l6)
    refine ⟨.list (ps.map prD), .list [], (Da.lst (S := (· = b)) np (l6 _ _ hp1) (hp3.le l6)).dp K (dl.shaped (by omega)), .lst (SqL.of g6) .nil, dl.shaped (by omega), shaped_nilL, ?_⟩
    rw [eqv_nilL]
    top_name
    refine if_nb (fun h => ?_) (fun h => ?_)
    · refine r_nvadd rfl rfl b6 sh6 po6 (by omega) fun H7 y2 l7 sh7 => ?_
      refine k H7 y2 _ (e5.trans (LeB.of (l6.trans l7))) (b6.le l7) sh7 (hw.snoc ?_) ?_
      · show ps.length ≤ 5000
        omega
      · rw [List.length_append]
        simp only [List.length_cons, List.length_nil]
        omega
    · top_name
      exact k H6 s ws (e5.trans (LeB.of l6)) b6 sh6 hw (by omega)
end
set_option Elab.async false
set_option linter.all false
set_option maxRecDepth 100000
set_option maxHeartbeats 4000000
open PySem PySem.Spec PyProof.Rows L2

theorem r_slD {K : PySem.W.Frag} {H : Hp} {p : Addr} {xs : List V} {lo hi : Option Int} {Q : VK} (hs : H p = some (.tup xs)) (h : ∀ l H', Le H H' → (l = p ∨ H l = none) → H' l = some (.tup (cutV xs lo hi)) → Q (.ref l) H') : rSlA K (.ref p) lo hi H Q := by
  refine ⟨p, xs, rfl, SqT.of hs, fun ⟨w1, w2⟩ => ?_, fun _ l hl => h l _ (le_new hl) (.inr hl) upd_same⟩
  refine h p H (Same.refl H) (.inl rfl) ?_
  have e : cutV xs lo hi = xs := by unfold cutV; rw [w1, w2]; simp
  rw [e]; exact hs
theorem r_catD {K : PySem.W.Frag} {H : Hp} {p q : Addr} {xs zs : List V} {Q : VK} (h1 : H p = some (.tup xs)) (h2 : H q = some (.tup zs)) (l : xs.length + zs.length ≤ 1000000) (h : ∀ l H', Le H H' → (l = p ∨ l = q ∨ H l = none) → H' l = some (.tup (xs ++ zs)) → Q (.ref l) H') : rCatA K (.ref p) (.ref q) H Q := by
  refine ⟨p, q, xs, zs, rfl, rfl, SqT.of h1, SqT.of h2, szl l, fun e => ?_, fun _ e => ?_, fun _ _ p' hp' => h p' _ (le_new hp') (.inr (.inr hp')) upd_same⟩
  · refine h q H (Same.refl H) (.inr (.inl rfl)) ?_
    rw [e]; exact h2
  · refine h p H (Same.refl H) (.inl rfl) ?_
    rw [e, List.append_nil]; exact h1
theorem cut_da {S : Addr → Prop} {H : Hp} {ds : List PyData} {xs : List V} (h : DaL S H ds xs) (lo hi : Option Int) : ∃ es, DaL S H es (cutV xs lo hi) ∧ (∀ e ∈ es, e ∈ ds) ∧ es.length ≤ ds.length := by
  unfold cutV
  exact ⟨(ds.drop _).take _, (h.drop _).take _, fun e he => List.mem_of_mem_drop (List.mem_of_mem_take he), by rw [List.length_take, List.length_drop]; omega⟩
theorem lay3 {a b c : PyData} {k : Nat} (h1 : LayD k a) (h2 : LayD k b) (h3 : LayD k c) : LayD (k + 1) (.tuple [a, b, c]) := LayD.tup fun d hd => by
  simp only [List.mem_cons, List.mem_nil_iff, or_false] at hd
  rcases hd with rfl | rfl | rfl
  · exact h1
  · exact h2
  · exact h3
section
variable {P : Program} {w : World} {K : PySem.W.Frag} {mg : Str → Option Value} {base : Heap}
theorem sc__law_bent_walk : FnScope ["_law_bag_here", "_law_walk", "_law_stops_here", "_law_begin", "_law_end", "_law_pours", "_law_way", "_law_stop", "_law_some", "_law_spot", "_law_place", "_law_much", "_law_pour"] ["_law_bag_here", "_law_walk", "_law_stops_here"] (defScope s__law_bent_walk) := ⟨rfl, rfl, rfl, by decide +kernel, rfl, by decide +kernel, by decide +kernel⟩
def spBwk : Sp := fun vs H Q _ => ∃ (b : Addr) (v : V) (s : Addr) (x : Wk) (st : List Int), vs = [.ref b, v, .ref s] ∧ Bg H b ∧ Da (· = b) H (wkD x) v ∧ x.2.2.length ≤ 5000 ∧ H s = some (.lst (st.map V.int)) ∧ s ≠ b ∧ 0 < st.length ∧ st.length ≤ 1000 ∧
  ∀ H' v d, LeB b H H' → Bg H' b → Da (· = b) H' d v → LayD 3 d → Q v H'
theorem c__law_bent_walk (E : En K mg) : C8.Cal P w K mg base 3 "_law_bent_walk" spBwk [] := by
  obtain ⟨fd, F⟩ := E.f__law_bent_walk
  refine cal_mk F E.g__law_bent_walk sc__law_bent_walk (fun _ _ _ _ _ _ us hl => match us, hl with | [_, _, _], _ => rfl) (fun vs H Q E h => by obtain ⟨b, v, s, x, st, rfl, _⟩ := h; rfl) fun cdv A outer s H vs Q E' hr h => ⟨_, (pss_cons (ps_asg (pv 1) (pg_tupK (n := 3) K (by rfl) rfl (pgs_cons (pg_name (i := 3) sc__law_bent_walk.nd rfl (Or.inl rfl)) (pgs_cons (pg_name (i := 4) sc__law_bent_walk.nd rfl (Or.inl rfl)) (pgs_cons (pg_name (i := 5) sc__law_bent_walk.nd rfl (Or.inl rfl)) pgs_nil)))))
      (pss_cons (ps_par (i := 6) (j := 7) (by rfl) sc__law_bent_walk.nd rfl rfl (by decide) rfl rfl (pa_cons (C8.pe_c (c__law_take E) hr (by decide) (by rfl) (pa_cons (pv 0) (pa_cons pe_int pa_nil))) (pa_cons (C8.pe_c (c__law_any E) hr (by decide) (by rfl) (pa_cons (pv 0) (pa_cons (pv 2) pa_nil))) pa_nil)) (by rfl))
      (pss_cons (ps_set (i := 8) sc__law_bent_walk.nd rfl (Or.inl rfl) (pe_lst (pa_cons (pe_tup (pa_cons (pv 7) (pa_cons (pv 4) (pa_cons (pv 5) pa_nil)))) (pa_cons (pe_tup (pa_cons (pv 3) (pa_cons (pv 7) (pa_cons (pv 5) pa_nil)))) (pa_cons (pe_tup (pa_cons (pv 4) (pa_cons (pv 3) (pa_cons (pv 5) pa_nil)))) (pa_cons (pe_tup (pa_cons (pv 3) (pa_cons (pv 4) (pa_cons (pe_slice (sl_tupK K (by rfl)) (pv 5) (po_some pe_int) po_none) pa_nil)))) pa_nil))))))
      (pss_cons (ps_set (i := 8) sc__law_bent_walk.nd rfl (Or.inl rfl) (pe_op op_cat (pv 8) (pe_lst (pa_cons (pe_tup (pa_cons (pv 3) (pa_cons (pv 4) (pa_cons (pe_revTK K (by rfl) (pv 5)) pa_nil)))) (pa_cons (pe_tup (pa_cons (pv 3) (pa_cons (pv 4) (pa_cons (pe_callTy (c_lstOK K (by rfl)) (by rfl) E.z_list b_list (pa_cons (pv 5) pa_nil)) pa_nil)))) (pa_cons (pe_op (op_catK K (by rfl)) (pv 1) (pe_tup (pa_cons pe_int pa_nil))) (pa_cons (pe_slice (sl_tupK K (by rfl)) (pv 1) po_none (po_some pe_int)) (pa_cons pe_non pa_nil))))))))
      (pss_cons (ps_if (PW.pt (pw_and (pt_cmpR (op_neK K (by rfl) (hu64 hr)) (pv 5) (pe_tup pa_nil) (nomark _)) (pw_and1 (pt_cmpR op_gt (C8.pe_c (c__law_take E) hr (by decide) (by rfl) (pa_cons (pv 0) (pa_cons pe_int pa_nil))) pe_int (nomark _))))) (pss_cons (ps_set (i := 9) sc__law_bent_walk.nd rfl (Or.inl rfl) (C8.pe_c (c__law_take E) hr (by decide) (by rfl) (pa_cons (pv 0) (pa_cons (pe_callB (c_lenK K (by rfl)) (by rfl) E.z_len b_len (pa_cons (pv 5) pa_nil)) pa_nil))))
      (pss_cons (ps_asg (pe_ix (ix_tupK K (by rfl)) (pv 5) (pv 9) (fun _ _ => rfl)) (pg_tupK (n := 2) K (by rfl) rfl (pgs_cons (pg_name (i := 10) sc__law_bent_walk.nd rfl (Or.inl rfl)) (pgs_cons (pg_name (i := 11) sc__law_bent_walk.nd rfl (Or.inl rfl)) pgs_nil))))
      (pss_cons (ps_set (i := 12) sc__law_bent_walk.nd rfl (Or.inl rfl) (C8.pe_c (c__law_any E) hr (by decide) (by rfl) (pa_cons (pv 0) (pa_cons (pe_lst (pa_cons (pe_tup (pa_cons (pv 10) (pa_cons (pe_op op_add (pv 11) pe_int) pa_nil))) (pa_cons (pe_tup (pa_cons (pv 10) (pa_cons (pe_op op_sub (pv 11) pe_int) pa_nil))) (pa_cons (pe_tup (pa_cons (pe_op op_add (pv 10) pe_int) (pa_cons (pv 11) pa_nil))) (pa_cons (pe_tup (pa_cons (pv 10) (pa_cons pe_int pa_nil))) (pa_cons (pe_tup (pa_cons (pv 10) (pa_cons pe_bl pa_nil))) (pa_cons (pe_lst (pa_cons (pv 10) (pa_cons (pv 11) pa_nil))) pa_nil))))))) pa_nil))))
      (pss_one (ps_ret (pe_tup (pa_cons (pv 3) (pa_cons (pv 4) (pa_cons (pe_op (op_catK K (by rfl)) (pe_op (op_catK K (by rfl)) (pe_slice (sl_tupK K (by rfl)) (pv 5) po_none (po_some (pv 9))) (pe_tup (pa_cons (pv 12) pa_nil))) (pe_slice (sl_tupK K (by rfl)) (pv 5) (po_some (pe_op op_add (pv 9) pe_int)) po_none)) pa_nil))))))))) pss_nil)
      (pss_one (ps_ret (pe_ix (ix_listK K (by rfl)) (pv 8) (pv 6) (fun _ _ => rfl))))))))), ?_⟩
  obtain ⟨b, v, s, ⟨bg, en, ps⟩, st, rfl, hb, hd, hpl, hs, sb, s0, s1, k⟩ := h
  obtain ⟨a, xs, rfl, na, ha, hx⟩ := hd.tupE
  obtain ⟨y1, y2, y3, rfl, g1, g2, g3⟩ := hx.three
  rw [g1.int_eq, g2.int_eq] at ha
  obtain ⟨p, us, rfl, np, hp, hus⟩ := g3.tupE
  replace hpl : ps.length ≤ 5000 := hpl
  have hul : us.length = ps.length := by rw [hus.length, List.length_map]
  one_item
  refine ⟨b, 9, rfl, hb, by omega, by omega, fun H1 r e1 b1 r0 r1 => ?_⟩
  top_name
  refine ⟨b, s, _, rfl, b1, sb, e1 _ _ sb hs, by simp; omega, by simp; omega, fun H2 x e2 b2 hx => ?_⟩
  obtain ⟨so, _, rfl⟩ := List.mem_map.mp hx
  have t2 := e1.trans e2
  have ha2 := t2 _ _ na ha
  have hp2 := t2 _ _ np hp
  have hd2 := (hus.leB t2)
  top_name
  refine ⟨szl (by simp), fun z3 hz3 => ?_⟩
  generalize hH3 : upd H2 z3 _ = H3
  have o3 := (congrFun hH3 z3).symm.trans upd_same
  have l3 : Le H2 H3 := hH3 ▸ le_new hz3
  have n3 := bg_nb b2 hz3
  have b3 := b2.le l3
  top_name
  refine ⟨szl (by simp), fun z4 hz4 => ?_⟩
  generalize hH4 : upd H3 z4 _ = H4
  have o4 := (congrFun hH4 z4).symm.trans upd_same
  have l4 : Le H3 H4 := hH4 ▸ le_new hz4
  have n4 := bg_nb b3 hz4
  have b4 := b3.le l4
  top_name
  refine ⟨szl (by simp), fun z5 hz5 => ?_⟩
  generalize hH5 : upd H4 z5 _ = H5
  have o5 := (congrFun hH5 z5).symm.trans upd_same
  have l5 : Le H4 H5 := hH5 ▸ le_new hz5
  have n5 := bg_nb b4 hz5
  have b5 := b4.le l5
  have p5 := (l3.trans (l4.trans l5)) _ _ hp2
  top_name
  refine r_slD p5 fun q6 H6 l6 hq6 o6 => ?_
  have b6 := b5.le l6
  have n6 : q6 ≠ b := hq6.elim (fun e => e ▸ np) (bg_nb b5)
  have d6 := cut_da ((hd2.le (l3.trans (l4.trans l5))).le l6) (some 1) none
  obtain ⟨ds6, d6, m6, _⟩ := d6
  top_name
  refine ⟨szl (by simp), fun z7 hz7 => ?_⟩
  generalize hH7 : upd H6 z7 _ = H7
  have o7 := (congrFun hH7 z7).symm.trans upd_same
  have l7 : Le H6 H7 := hH7 ▸ le_new hz7
  have n7 := bg_nb b6 hz7
  have b7 := b6.le l7
  top_name
  refine ⟨szl (by simp), fun z8 hz8 => ?_⟩
  generalize hH8 : upd H7 z8 _ = H8
  have o8 := (congrFun hH8 z8).symm.trans upd_same
  have l8 : Le H7 H8 := hH8 ▸ le_new hz8
  have n8 := bg_nb b7 hz8
  have b8 := b7.le l8
  top_name
  have p8 := (l6.trans (l7.trans l8)) _ _ p5
  refine ⟨p, us, rfl, SqT.of p8, fun z9 hz9 => ?_⟩
  generalize hH9 : upd H8 z9 _ = H9
  have o9 := (congrFun hH9 z9).symm.trans upd_same
  have l9 : Le H8 H9 := hH9 ▸ le_new hz9
  have n9 := bg_nb b8 hz9
  have b9 := b8.le l9
  top_name
  refine ⟨szl (by simp), fun z10 hz10 => ?_⟩
  generalize hH10 : upd H9 z10 _ = H10
  have o10 := (congrFun hH10 z10).symm.trans upd_same
  have l10 : Le H9 H10 := hH10 ▸ le_new hz10
  have n10 := bg_nb b9 hz10
  have b10 := b9.le l10
  have p10 := (l9.trans l10) _ _ p8
  top_name
  refine r_lstO (.inr (SqT.of p10)) fun z11 H11 hz11 l11 o11 => ?_
  have n11 := bg_nb b10 hz11
  have b11 := b10.le l11
  top_name
  refine ⟨szl (by simp), fun z12 hz12 => ?_⟩
  generalize hH12 : upd H11 z12 _ = H12
  have o12 := (congrFun hH12 z12).symm.trans upd_same
  have l12 : Le H11 H12 := hH12 ▸ le_new hz12
  have n12 := bg_nb b11 hz12
  have b12 := b11.le l12
  top_name
  refine ⟨szl (by simp), fun z13 hz13 => ?_⟩
  generalize hH13 : upd H12 z13 _ = H13
  have o13 := (congrFun hH13 z13).symm.trans upd_same
  have l13 : Le H12 H13 := hH13 ▸ le_new hz13
  have n13 := bg_nb b12 hz13
  have b13 := b12.le l13
  have t13 : Le H2 H13 := l3.trans (l4.trans (l5.trans (l6.trans (l7.trans (l8.trans (l9.trans (l10.trans (l11.trans (l12.trans l13)))))))))
  refine r_catD (t13 _ _ ha2) o13 (by simp) fun q14 H14 l14 hq14 o14 => ?_
  have n14 : q14 ≠ b := hq14.elim (fun e => e ▸ na) (fun e => e.elim (fun e => e ▸ n13) (bg_nb b13))
  have b14 := b13.le l14
  top_name
  refine r_slD ((t13.trans l14) _ _ ha2) fun q15 H15 l15 hq15 o15 => ?_
  have n15 : q15 ≠ b := hq15.elim (fun e => e ▸ na) (bg_nb b14)
  have b15 := b14.le l15
  top_name
  refine ⟨szl (by simp), fun z16 hz16 => ?_⟩
  generalize hH16 : upd H15 z16 _ = H16
  have o16 := (congrFun hH16 z16).symm.trans upd_same
  have l16 : Le H15 H16 := hH16 ▸ le_new hz16
  have n16 := bg_nb b15 hz16
  have b16 := b15.le l16
  have t816 : Le H8 H16 := l9.trans (l10.trans (l11.trans (l12.trans (l13.trans (l14.trans (l15.trans l16))))))
  refine r_catL (t816 _ _ o8) o16 (by simp) fun q17 H17 hq17 l17 o17 => ?_
  have n17 := bg_nb b16 hq17
  have b17 := b16.le l17
  have t1517 : Le H15 H17 := l16.trans l17
  have t217 : Le H2 H17 := t13.trans (l14.trans (l15.trans t1517))
  have dp : Da (· = b) H17 (.tuple (ps.map prD)) (.ref p) := .tup np (t217 _ _ hp2) (hd2.le t217)
  have lp : LayD 2 (.tuple (ps.map prD)) := LayD.tup (lay_prs ps)
  have li : ∀ z : Int, LayD 2 (.int z) := fun z => (LayD.int z).mono (by omega)
  have t1017 : Le H10 H17 := l11.trans (l12.trans (l13.trans (l14.trans (l15.trans t1517))))
  have t817 : Le H8 H17 := t816.trans l17
  have t517 : Le H5 H17 := l6.trans (l7.trans (l8.trans t817))
  have t417 : Le H4 H17 := l5.trans t517
  have t317 : Le H3 H17 := l4.trans t417
  have dall : ∃ ds, DaL (· = b) H17 ds ([V.ref z3, V.ref z4, V.ref z5, V.ref z7] ++ [V.ref z10, V.ref z12, V.ref q14, V.ref q15, V.non]) ∧ ∀ d ∈ ds, LayD 3 d := by
    obtain ⟨e15, d15, m15, _⟩ := cut_da (S := (· = b)) (H := H17) (ds := [.int bg, .int en, .tuple (ps.map prD)]) (xs := [.int bg, .int en, .ref p]) (.cons (.int _) (.cons (.int _) (.cons dp .nil))) none (some 2)
    refine ⟨[.tuple [.int so, .int en, .tuple (ps.map prD)], .tuple [.int bg, .int so, .tuple (ps.map prD)], .tuple [.int en, .int bg, .tuple (ps.map prD)], .tuple [.int bg, .int en, .tuple ds6], .tuple [.int bg, .int en, .tuple (ps.map prD).reverse], .tuple [.int bg, .int en, .list (ps.map prD)], .tuple [.int bg, .int en, .tuple (ps.map prD), .int 0], .tuple e15, .none], ?_, ?_⟩
    · refine .cons (.tup n3 (t317 _ _ o3) (.cons (.int _) (.cons (.int _) (.cons dp .nil)))) ?_
      refine .cons (.tup n4 (t417 _ _ o4) (.cons (.int _) (.cons (.int _) (.cons dp .nil)))) ?_
      refine .cons (.tup n5 (t517 _ _ o5) (.cons (.int _) (.cons (.int _) (.cons dp .nil)))) ?_
      refine .cons (.tup n7 ((l8.trans t817) _ _ o7) (.cons (.int _) (.cons (.int _) (.cons (.tup n6 ((l7.trans (l8.trans t817)) _ _ o6) (d6.le (l7.trans (l8.trans t817)))) .nil)))) ?_
      refine .cons (.tup n10 (t1017 _ _ o10) (.cons (.int _) (.cons (.int _) (.cons (.tup n9 ((l10.trans t1017) _ _ o9) ((hd2.le t217).reverse)) .nil)))) ?_
      refine .cons (.tup n12 ((l13.trans (l14.trans (l15.trans t1517))) _ _ o12) (.cons (.int _) (.cons (.int _) (.cons (.lst n11 ((l12.trans (l13.trans (l14.trans (l15.trans t1517)))) _ _ o11) (hd2.le t217)) .nil)))) ?_
      refine .cons (.tup n14 ((l15.trans t1517) _ _ o14) (.cons (.int _) (.cons (.int _) (.cons dp (.cons (.int _) .nil))))) ?_
      refine .cons (.tup n15 (t1517 _ _ o15) d15) ?_
      exact .cons .non .nil
    · intro d hd
      simp only [List.mem_cons, List.mem_nil_iff, or_false] at hd
      rcases hd with rfl | rfl | rfl | rfl | rfl | rfl | rfl | rfl | rfl
      · exact lay3 (li _) (li _) lp
      · exact lay3 (li _) (li _) lp
      · exact lay3 (li _) (li _) lp
      · exact lay3 (li _) (li _) (LayD.tup fun d hd => lay_prs ps d (m6 d hd))
      · exact lay3 (li _) (li _) (LayD.tup fun d hd => lay_prs ps d (List.mem_reverse.mp hd))
      · exact lay3 (li _) (li _) (LayD.lst (lay_prs ps))
      · refine LayD.tup fun d hd => ?_
        simp only [List.mem_cons, List.mem_nil_iff, or_false] at hd
        rcases hd with rfl | rfl | rfl | rfl
        · exact li _
        · exact li _
        · exact lp
        · exact li _
      · refine LayD.tup fun d hd => ?_
        have := m15 d hd
        simp only [List.mem_cons, List.mem_nil_iff, or_false] at this
        rcases this with rfl | rfl | rfl
        · exact li _
        · exact li _
        · exact lp
      · exact LayD.non.mono (by omega)
  obtain ⟨ds, dds, lds⟩ := dall
  have tot : LeB b H H17 := t2.trans (LeB.of t217)
  top_name
  have fb : ∀ H', LeB b H17 H' → Bg H' b → rIxL K (.ref q17) (.int r) H' Q := fun H' e b' => by
    have o' := e _ _ n17 o17
    have hlt : r.toNat < ([V.ref z3, V.ref z4, V.ref z5, V.ref z7] ++ [V.ref z10, V.ref z12, V.ref q14, V.ref q15, V.non]).length := by
      show r.toNat < 9
      omega
    refine r_ixL (SqL.of o') (atI_toNat r0 hlt) ?_
    obtain ⟨d, hd, dd⟩ := dds.get' (i := r.toNat) (List.getElem?_eq_getElem hlt)
    exact k H' _ d (tot.trans e) b' (dd.leB e) (lds d (List.mem_of_getElem? hd))
  refine ⟨Nat.zero_le _, fun z18 hz18 => ?_⟩
  generalize hH18 : upd H17 z18 _ = H18
  have o18 := (congrFun hH18 z18).symm.trans upd_same
  have l18 : Le H17 H18 := hH18 ▸ le_new hz18
  have b18 := b17.le l18
  refine ⟨.tuple (ps.map prD), .tuple [], (dp.le l18).dp K (lp.shaped (by omega)), .tup (SqT.of o18) .nil, lp.shaped (by omega), shaped_nilT, ?_⟩
  rw [eqv_nilTT]
  top_name
  refine if_nb (fun h => ?_) (fun h => ?_)
  rotate_left
  · top_name
    exact fb H18 (LeB.of l18) b18
  have hps : 0 < ps.length := by
    cases ps with
    | nil => cases h
    | cons z zs => simp
  top_name
  refine ⟨b, 3, rfl, b18, by omega, by omega, fun H19 r2 e19 b19 _ _ => ?_⟩
  top_name
  refine if_dec (fun h2 => ?_) (fun h2 => ?_)
  rotate_left
  · top_name
    exact fb H19 ((LeB.of l18).trans e19) b19
  have e1719 : LeB b H17 H19 := (LeB.of l18).trans e19
  have p19 : H19 p = some (.tup us) := e1719 _ _ np (t217 _ _ hp2)
  have hd19 : DaL (· = b) H19 (ps.map prD) us := (hd2.le t217).leB e1719
  top_name
  refine ⟨b, us.length, rfl, b19, by omega, by omega, fun H20 sp e20 b20 sp0 sp1 => ?_⟩
  have p20 := e20 _ _ np p19
  have hd20 := hd19.leB e20
  have hsp : sp.toNat < us.length := by omega
  obtain ⟨dq, hdq, ddq⟩ := hd20.get' (i := sp.toNat) (List.getElem?_eq_getElem hsp)
  rw [List.getElem?_map] at hdq
  obtain ⟨pq, hpq, rfl⟩ := Option.map_eq_some_iff.mp hdq
  generalize hu : us[sp.toNat] = u at ddq
  have hu' : atI us sp = some u := by rw [atI_toNat sp0 hsp, hu]
  obtain ⟨aq, xq, rfl, nq, haq, dxq⟩ := ddq.tupE
  obtain ⟨v1, v2, rfl, f1, f2⟩ := dxq.two
  rw [f1.int_eq, f2.int_eq] at haq
  top_name
  refine r_ixT (SqT.of p20) hu' ?_
  top_name
  refine ⟨szl (by simp), fun z21 hz21 => ?_⟩
  generalize hH21 : upd H20 z21 _ = H21
  have o21 := (congrFun hH21 z21).symm.trans upd_same
  have l21 : Le H20 H21 := hH21 ▸ le_new hz21
  have n21 := bg_nb b20 hz21
  have b21 := b20.le l21
  top_name
  refine ⟨szl (by simp), fun z22 hz22 => ?_⟩
  generalize hH22 : upd H21 z22 _ = H22
  have o22 := (congrFun hH22 z22).symm.trans upd_same
  have l22 : Le H21 H22 := hH22 ▸ le_new hz22
  have n22 := bg_nb b21 hz22
  have b22 := b21.le l22
  top_name
  refine ⟨szl (by simp), fun z23 hz23 => ?_⟩
  generalize hH23 : upd H22 z23 _ = H23
  have o23 := (congrFun hH23 z23).symm.trans upd_same
  have l23 : Le H22 H23 := hH23 ▸ le_new hz23
  have n23 := bg_nb b22 hz23
  have b23 := b22.le l23
  top_name
  refine ⟨szl (by simp), fun z24 hz24 => ?_⟩
  generalize hH24 : upd H23 z24 _ = H24
  have o24 := (congrFun hH24 z24).symm.trans upd_same
  have l24 : Le H23 H24 := hH24 ▸ le_new hz24
  have n24 := bg_nb b23 hz24
  have b24 := b23.le l24
  top_name
  refine ⟨szl (by simp), fun z25 hz25 => ?_⟩
  generalize hH25 : upd H24 z25 _ = H25
  have o25 := (congrFun hH25 z25).symm.trans upd_same
  have l25 : Le H24 H25 := hH25 ▸ le_new hz25
  have n25 := bg_nb b24 hz25
  have b25 := b24.le l25
  top_name
  refine ⟨szl (by simp), fun z26 hz26 => ?_⟩
  generalize hH26 : upd H25 z26 _ = H26
  have o26 := (congrFun hH26 z26).symm.trans upd_same
  have l26 : Le H25 H26 := hH26 ▸ le_new hz26
  have n26 := bg_nb b25 hz26
  have b26 := b25.le l26
  top_name
  refine ⟨szl (by simp), fun z27 hz27 => ?_⟩
  generalize hH27 : upd H26 z27 _ = H27
  have o27 := (congrFun hH27 z27).symm.trans upd_same
  have l27 : Le H26 H27 := hH27 ▸ le_new hz27
  have n27 := bg_nb b26 hz27
  have b27 := b26.le l27
  top_name
  have t27 : Le H20 H27 := l21.trans (l22.trans (l23.trans (l24.trans (l25.trans (l26.trans l27)))))
  refine ⟨b, z27, _, rfl, b27, n27, o27, by simp, by simp, fun H28 x e28 b28 hx => ?_⟩
  have hx' : ∃ d, Da (· = b) H27 d x ∧ LayD 1 d := by
    have lt2 : ∀ {a b : PyData}, LayD 0 a → LayD 0 b → LayD 1 (.tuple [a, b]) := fun h1 h2 => LayD.tup fun d hd => by
      simp only [List.mem_cons, List.mem_nil_iff, or_false] at hd
      rcases hd with rfl | rfl
      · exact h1
      · exact h2
    simp only [List.mem_cons, List.mem_nil_iff, or_false] at hx
    rcases hx with rfl | rfl | rfl | rfl | rfl | rfl
    · exact ⟨_, .tup n21 ((l22.trans (l23.trans (l24.trans (l25.trans (l26.trans l27))))) _ _ o21) (.cons (.int _) (.cons (.int _) .nil)), lt2 (LayD.int _) (LayD.int _)⟩
    · exact ⟨_, .tup n22 ((l23.trans (l24.trans (l25.trans (l26.trans l27)))) _ _ o22) (.cons (.int _) (.cons (.int _) .nil)), lt2 (LayD.int _) (LayD.int _)⟩
    · exact ⟨_, .tup n23 ((l24.trans (l25.trans (l26.trans l27))) _ _ o23) (.cons (.int _) (.cons (.int _) .nil)), lt2 (LayD.int _) (LayD.int _)⟩
    · exact ⟨_, .tup n24 ((l25.trans (l26.trans l27)) _ _ o24) (.cons (.int _) (.cons (.int _) .nil)), lt2 (LayD.int _) (LayD.int _)⟩
    · exact ⟨_, .tup n25 ((l26.trans l27) _ _ o25) (.cons (.int _) (.cons (.bl _) .nil)), lt2 (LayD.int _) (LayD.bl _)⟩
    · exact ⟨_, .lst n26 (l27 _ _ o26) (.cons (.int _) (.cons (.int _) .nil)), LayD.lst fun d hd => by
        simp only [List.mem_cons, List.mem_nil_iff, or_false] at hd
        rcases hd with rfl | rfl <;> exact LayD.int _⟩
  obtain ⟨dx, ddx, lx⟩ := hx'
  have p28 := e28 _ _ np (t27 _ _ p20)
  have hd28 := (hd20.le t27).leB e28
  have ddx28 := ddx.leB e28
  top_name
  refine r_slD p28 fun q29 H29 l29 hq29 o29 => ?_
  have b29 := b28.le l29
  obtain ⟨ds29, d29, m29, c29⟩ := cut_da (hd28.le l29) none (some sp)
  have k29 := d29.length
  rw [List.length_map] at c29
  top_name
  refine ⟨szl (by simp), fun z30 hz30 => ?_⟩
  generalize hH30 : upd H29 z30 _ = H30
  have o30 := (congrFun hH30 z30).symm.trans upd_same
  have l30 : Le H29 H30 := hH30 ▸ le_new hz30
  have n30 := bg_nb b29 hz30
  have b30 := b29.le l30
  refine r_catD (l30 _ _ o29) o30 (by simp; omega) fun q31 H31 l31 hq31 o31 => ?_
  have b31 := b30.le l31
  have t31 := l29.trans (l30.trans l31)
  top_name
  refine r_slD (t31 _ _ p28) fun q32 H32 l32 hq32 o32 => ?_
  have b32 := b31.le l32
  obtain ⟨ds32, d32, m32, c32⟩ := cut_da ((hd28.le t31).le l32) (some (sp + 1)) none
  have k32 := d32.length
  rw [List.length_map] at c32
  refine r_catD (l32 _ _ o31) o32 (by simp; omega) fun q33 H33 l33 hq33 o33 => ?_
  have n29 : q29 ≠ b := hq29.elim (fun e => e ▸ np) (bg_nb b28)
  have n31 : q31 ≠ b := hq31.elim (fun e => e ▸ n29) (fun e => e.elim (fun e => e ▸ n30) (bg_nb b30))
  have n32 : q32 ≠ b := hq32.elim (fun e => e ▸ np) (bg_nb b31)
  have n33 : q33 ≠ b := hq33.elim (fun e => e ▸ n31) (fun e => e.elim (fun e => e ▸ n32) (bg_nb b32))
  have b33 := b32.le l33
  top_name
  refine ⟨szl (by simp), fun z34 hz34 => ?_⟩
  generalize hH34 : upd H33 z34 _ = H34
  have o34 := (congrFun hH34 z34).symm.trans upd_same
  have l34 : Le H33 H34 := hH34 ▸ le_new hz34
  have n34 := bg_nb b33 hz34
  have b34 := b33.le l34
  have t2933 : Le H29 H34 := l30.trans (l31.trans (l32.trans (l33.trans l34)))
  refine k H34 (.ref z34) (.tuple [.int bg, .int en, .tuple (ds29 ++ [dx] ++ ds32)]) (tot.trans (e1719.trans (e20.trans ((LeB.of t27).trans (e28.trans (LeB.of (l29.trans t2933))))))) b34 ?_ ?_
  · refine .tup n34 o34 (.cons (.int _) (.cons (.int _) (.cons (.tup n33 (l34 _ _ o33) ?_) .nil)))
    exact ((d29.le t2933).append (.cons (ddx28.le (l29.trans t2933)) .nil)).append (d32.le (l33.trans l34))
  · refine lay3 (li _) (li _) (LayD.tup fun d hd => ?_)
    rcases List.mem_append.mp hd with hd | hd
    · rcases List.mem_append.mp hd with hd | hd
      · exact lay_prs ps d (m29 d hd)
      · have e : d = dx := by simpa using hd
        rw [e]; exact lx
    · exact lay_prs ps d (m32 d hd)
end
set_option Elab.async false
set_option linter.all false
set_option maxRecDepth 100000
set_option maxHeartbeats 4000000
open PySem PySem.Spec PyProof.Rows L2

/-- a list of things that may be laid, off the bag -/
structure LsD (b : Addr) (H : Hp) (q : Addr) (N : Nat) : Prop where
  ne : q ≠ b
  ob : ∃ vs ds, H q = some (.lst vs) ∧ vs.length ≤ N ∧ DaL (· = b) H ds vs ∧ ∀ d ∈ ds, LayD 3 d
theorem LsD.leB {b : Addr} {H H' : Hp} {q : Addr} {N : Nat} (h : LsD b H q N) (e : LeB b H H') : LsD b H' q N := by
  obtain ⟨n, vs, ds, h1, h2, h3, h4⟩ := h
  exact ⟨n, vs, ds, e _ _ n h1, h2, h3.leB e, h4⟩
theorem LsD.up {b : Addr} {H : Hp} {q : Addr} {N M : Nat} (h : LsD b H q N) (hn : N ≤ M) : LsD b H q M := by
  obtain ⟨n, vs, ds, h1, h2, h3, h4⟩ := h
  exact ⟨n, vs, ds, h1, by omega, h3, h4⟩
theorem LsD.of {b : Addr} {H : Hp} {q : Addr} {ws : List Wk} {N : Nat} (h : ShL b H q ws) (hN : ws.length ≤ N) : LsD b H q N := by
  obtain ⟨n, vs, h1, h2, h3⟩ := h
  exact ⟨n, vs, _, h1, by omega, h3, lay_wks ws⟩
section
variable {K : PySem.W.Frag} {b p q : Addr} {H : Hp} {N M : Nat} {Q : VK}
theorem r_slLD {lo hi : Option Int} (hb : Bg H b) (h : LsD b H p N) (k : ∀ l H', Le H H' → LsD b H' l N → Q (.ref l) H') : rSlL K (.ref p) lo hi H Q := by
  obtain ⟨n, vs, ds, h1, h2, h3, h4⟩ := h
  refine r_slL (SqL.of h1) fun l H' hl e g => k l H' e ?_
  obtain ⟨es, g1, g2, _⟩ := cut_da (h3.le e) lo hi
  exact ⟨bg_nb hb hl, _, es, g, Nat.le_trans (cutV_length ..) h2, g1, fun d hd => h4 d (g2 d hd)⟩
theorem r_catLD (hb : Bg H b) (h : LsD b H p N) (h' : LsD b H q M) (hn : N + M ≤ 1000000) (k : ∀ l H', Le H H' → LsD b H' l (N + M) → Q (.ref l) H') : rCat (.ref p) (.ref q) H Q := by
  obtain ⟨n, vs, ds, h1, h2, h3, h4⟩ := h
  obtain ⟨n', vs', ds', h1', h2', h3', h4'⟩ := h'
  refine r_catL h1 h1' (by omega) fun l H' hl e g => k l H' e ⟨bg_nb hb hl, _, _, g, by rw [List.length_append]; omega, (h3.le e).append (h3'.le e), fun d hd => ?_⟩
  rcases List.mem_append.mp hd with hd | hd
  · exact h4 d hd
  · exact h4' d hd
theorem r_tupLD (hb : Bg H b) (h : LsD b H p N) (k : ∀ H' v d, Le H H' → Da (· = b) H' d v → (isTup d = true → SeqAt.shaped d = true) → Q v H') : rTupO K [.ref p] H Q := by
  obtain ⟨n, vs, ds, h1, h2, h3, h4⟩ := h
  refine r_tupO (SqL.of h1) fun l H' hl e g => k H' _ (.tuple ds) e (.tup (bg_nb hb hl) g (h3.le e)) fun _ => (LayD.tup h4).shaped (by omega)
end
section
variable {P : Program} {w : World} {K : PySem.W.Frag} {mg : Str → Option Value} {base : Heap}
theorem sc__law_bent_sheet : FnScope ["_law_bag_here", "_law_sheet", "_law_stops_here", "_law_way", "_law_spot", "_law_stop", "_law_idle"] ["_law_bag_here", "_law_sheet", "_law_stops_here"] (defScope s__law_bent_sheet) := ⟨rfl, rfl, rfl, by decide +kernel, rfl, by decide +kernel, by decide +kernel⟩
def spBsh : Sp := fun vs H Q _ => ∃ (b q s : Addr) (ws : List Wk) (st : List Int), vs = [.ref b, .ref q, .ref s] ∧ Bg H b ∧ ShL b H q ws ∧ WkOk ws ∧ ws.length ≤ 300000 ∧ H s = some (.lst (st.map V.int)) ∧ s ≠ b ∧ 0 < st.length ∧ st.length ≤ 1000 ∧
  ∀ H' v d, LeB b H H' → Bg H' b → Da (· = b) H' d v → (isTup d = true → SeqAt.shaped d = true) → Q v H'
theorem c__law_bent_sheet (E : En K mg) : C8.Cal P w K mg base 4 "_law_bent_sheet" spBsh [] := by
  obtain ⟨fd, F⟩ := E.f__law_bent_sheet
  refine cal_mk F E.g__law_bent_sheet sc__law_bent_sheet (fun _ _ _ _ _ _ us hl => match us, hl with | [_, _, _], _ => rfl) (fun vs H Q E h => by obtain ⟨b, q, s, ws, st, rfl, _⟩ := h; rfl) fun cdv A outer s H vs Q E' hr h => ⟨_, (pss_cons (ps_par (i := 3) (j := 4) (by rfl) sc__law_bent_sheet.nd rfl rfl (by decide) rfl rfl (pa_cons (C8.pe_c (c__law_take E) hr (by decide) (by rfl) (pa_cons (pv 0) (pa_cons pe_int pa_nil))) (pa_cons (C8.pe_c (c__law_take E) hr (by decide) (by rfl) (pa_cons (pv 0) (pa_cons (pe_op op_add (pe_callB (c_lenK K (by rfl)) (by rfl) E.z_len b_len (pa_cons (pv 1) pa_nil)) pe_int) pa_nil))) pa_nil)) (by rfl))
      (pss_cons (ps_set (i := 5) sc__law_bent_sheet.nd rfl (Or.inl rfl) (C8.pe_c (c__law_any E) hr (by decide) (by rfl) (pa_cons (pv 0) (pa_cons (pv 2) pa_nil))))
      (pss_cons (ps_if (PW.pt (pw_and (pt_cmpR op_lt (pv 3) pe_int (nomark _)) (pw_and1 (pt_cmpR op_lt (pv 4) (pe_callB (c_lenK K (by rfl)) (by rfl) E.z_len b_len (pa_cons (pv 1) pa_nil)) (nomark _))))) (pss_one (ps_ret (pe_callTy (c_tupOK K (by rfl)) (by rfl) E.z_tuple b_tuple (pa_cons (pe_op op_cat (pe_op op_cat (pe_slice (sl_listK K (by rfl)) (pv 1) po_none (po_some (pv 4))) (pe_lst (pa_cons (C8.pe_c (c__law_bent_walk E) hr (by decide) (by rfl) (pa_cons (pv 0) (pa_cons (pe_ix (ix_listK K (by rfl)) (pv 1) (pv 4) (fun _ _ => rfl)) (pa_cons (pv 2) pa_nil)))) pa_nil))) (pe_slice (sl_listK K (by rfl)) (pv 1) (po_some (pe_op op_add (pv 4) pe_int)) po_none)) pa_nil)))) pss_nil)
      (pss_cons (ps_if (pt_cmpR op_eq (pv 3) pe_int (nomark _)) (pss_one (ps_ret (pe_callTy (c_tupOK K (by rfl)) (by rfl) E.z_tuple b_tuple (pa_cons (pe_op op_cat (pe_slice (sl_listK K (by rfl)) (pv 1) po_none (po_some (pv 4))) (pe_slice (sl_listK K (by rfl)) (pv 1) (po_some (pe_op op_add (pv 4) pe_int)) po_none)) pa_nil)))) pss_nil)
      (pss_cons (ps_if (pt_cmpR op_eq (pv 3) pe_int (nomark _)) (pss_one (ps_ret (pe_callTy (c_tupOK K (by rfl)) (by rfl) E.z_tuple b_tuple (pa_cons (pe_op op_cat (pe_slice (sl_listK K (by rfl)) (pv 1) po_none (po_some (pe_op op_add (pv 4) pe_int))) (pe_slice (sl_listK K (by rfl)) (pv 1) (po_some (pv 4)) po_none)) pa_nil)))) pss_nil)
      (pss_cons (ps_if (pt_cmpR op_eq (pv 3) pe_int (nomark _)) (pss_one (ps_ret (pe_callTy (c_tupOK K (by rfl)) (by rfl) E.z_tuple b_tuple (pa_cons (pe_op op_cat (pe_slice (sl_listK K (by rfl)) (pv 1) (po_some (pv 4)) po_none) (pe_slice (sl_listK K (by rfl)) (pv 1) po_none (po_some (pv 4)))) pa_nil)))) pss_nil)
      (pss_cons (ps_if (pt_cmpR op_eq (pv 3) pe_int (nomark _)) (pss_cons (ps_set (i := 6) sc__law_bent_sheet.nd rfl (Or.inl rfl) (C8.pe_c (c__law_any E) hr (by decide) (by rfl) (pa_cons (pv 0) (pa_cons (pe_lst (pa_cons (pe_lst (pa_cons (pe_tup (pa_cons (pv 5) (pa_cons (pv 5) (pa_cons (pe_tup pa_nil) pa_nil)))) pa_nil)) (pa_cons (pe_lst (pa_cons (pe_tup (pa_cons pe_int (pa_cons (pv 5) (pa_cons (pe_tup pa_nil) pa_nil)))) (pa_cons (pe_tup (pa_cons (pv 5) (pa_cons pe_int (pa_cons (pe_tup pa_nil) pa_nil)))) pa_nil))) (pa_cons (pe_lst (pa_cons (pe_tup (pa_cons pe_int (pa_cons (pv 5) (pa_cons (pe_tup pa_nil) pa_nil)))) pa_nil)) pa_nil)))) pa_nil))))
      (pss_one (ps_ret (pe_callTy (c_tupOK K (by rfl)) (by rfl) E.z_tuple b_tuple (pa_cons (pe_op op_cat (pe_op op_cat (pe_slice (sl_listK K (by rfl)) (pv 1) po_none (po_some (pv 4))) (pv 6)) (pe_slice (sl_listK K (by rfl)) (pv 1) (po_some (pv 4)) po_none)) pa_nil))))) pss_nil)
      (pss_one (ps_ret (pe_ifExp (pt_cmpR op_eq (pv 3) pe_int (nomark _)) (C8.pe_c (c__law_any E) hr (by decide) (by rfl) (pa_cons (pv 0) (pa_cons (pe_lst (pa_cons (pe_callTy (c_lstOK K (by rfl)) (by rfl) E.z_list b_list (pa_cons (pv 1) pa_nil)) (pa_cons pe_non (pa_cons pe_str (pa_cons pe_dnewK pa_nil))))) pa_nil))) (pe_callTy (c_tupOK K (by rfl)) (by rfl) E.z_tuple b_tuple (pa_cons (pv 1) pa_nil)))))))))))), ?_⟩
  obtain ⟨b, q, s, ws, st, rfl, hb, sh, wok, hwl, hs, sb, s0, s1, k⟩ := h
  obtain ⟨nq, vs, hq, hvl, hvs⟩ := sh
  one_item
  refine ⟨b, 12, rfl, hb, by omega, by omega, fun H1 r e1 b1 r0 r1 => ?_⟩
  have hq1 := e1 _ _ nq hq
  top_name
  refine ⟨b, _, rfl, b1, by omega, by omega, fun H2 sp e2 b2 sp0 sp1 => ?_⟩
  top_name
  refine ⟨b, s, _, rfl, b2, sb, (e1.trans e2) _ _ sb hs, by simp; omega, by simp; omega, fun H3 x e3 b3 hx => ?_⟩
  obtain ⟨so, _, rfl⟩ := List.mem_map.mp hx
  have t3 := e1.trans (e2.trans e3)
  have sh3 : ShL b H3 q ws := (show ShL b H q ws from ⟨nq, vs, hq, hvl, hvs⟩).leB t3
  have ld3 : LsD b H3 q 300000 := .of sh3 hwl
  have fin : ∀ {Hx : Hp} {p : Addr}, LeB b H Hx → Bg Hx b → LsD b Hx p 900000 → rTupO K [.ref p] Hx Q := fun e bx l => r_tupLD bx l fun H' v d e' dd sd => k H' v d (e.trans (LeB.of e')) (bx.le e') dd sd
  top_name
  refine if_dec (fun hr4 => ?_) (fun hr4 => ?_)
  · top_name
    have hq3 := t3 _ _ nq hq
    refine r_lenL (SqL.of hq3) ?_
    top_name
    refine if_dec (fun h => ?_) (fun h => ?_)
    · have hlt : sp.toNat < vs.length := by omega
      obtain ⟨dq, hdq, ddq⟩ := (hvs.leB t3).get' (i := sp.toNat) (List.getElem?_eq_getElem hlt)
      rw [List.getElem?_map] at hdq
      obtain ⟨wx, hwx, rfl⟩ := Option.map_eq_some_iff.mp hdq
      have hwx5 := wok wx (List.mem_of_getElem? hwx)
      top_name
      refine r_slLD b3 ld3 fun y4 H4 e4 ld4 => ?_
      have b4 := b3.le e4
      top_name
      refine r_ixL (SqL.of (e4 _ _ hq3)) (atI_toNat sp0 hlt) ?_
      top_name
      refine ⟨b, _, s, wx, st, rfl, b4, ddq.le e4, hwx5, (t3.trans (LeB.of e4)) _ _ sb hs, sb, s0, s1, fun H5 v5 d5 e5 b5 dd5 la5 => ?_⟩
      top_name
      refine ⟨szl (by simp), fun z6 hz6 => ?_⟩
      generalize hH6 : upd H5 z6 _ = H6
      have o6 := (congrFun hH6 z6).symm.trans upd_same
      have l6 : Le H5 H6 := hH6 ▸ le_new hz6
      have n6 := bg_nb b5 hz6
      have b6 := b5.le l6
      have t36 : LeB b H3 H6 := (LeB.of e4).trans (e5.trans (LeB.of l6))
      have ld6 : LsD b H6 z6 1 := ⟨n6, _, [d5], o6, Nat.le_refl _, .cons (dd5.le l6) .nil, fun d hd => by
        have e : d = d5 := by simpa using hd
        rw [e]; exact la5⟩
      refine r_catLD b6 (ld4.leB (e5.trans (LeB.of l6))) ld6 (by omega) fun y7 H7 e7 ld7 => ?_
      have b7 := b6.le e7
      top_name
      refine r_slLD b7 (ld3.leB (t36.trans (LeB.of e7))) fun y8 H8 e8 ld8 => ?_
      have b8 := b7.le e8
      refine r_catLD b8 (ld7.leB (LeB.of e8)) ld8 (by omega) fun y9 H9 e9 ld9 => ?_
      top_name
      exact fin (t3.trans (t36.trans (LeB.of (e7.trans (e8.trans e9))))) (b8.le e9) (ld9.up (by omega))
    · top_name
      refine if_dec (fun h => ?_) (fun h => ?_)
      · top_name
        refine r_slLD b3 ld3 fun l4 H4 e4 ld4 => ?_
        have b4 := b3.le e4
        top_name
        refine r_slLD b4 (ld3.leB (LeB.of e4)) fun l5 H5 e5 ld5 => ?_
        have b5 := b4.le e5
        refine r_catLD b5 (ld4.leB (LeB.of e5)) ld5 (by omega) fun l6 H6 e6 ld6 => ?_
        top_name
        exact fin (t3.trans (LeB.of (e4.trans (e5.trans e6)))) (b5.le e6) (ld6.up (by omega))
      top_name
      refine if_dec (fun h => ?_) (fun h => ?_)
      · top_name
        refine r_slLD b3 ld3 fun l4 H4 e4 ld4 => ?_
        have b4 := b3.le e4
        top_name
        refine r_slLD b4 (ld3.leB (LeB.of e4)) fun l5 H5 e5 ld5 => ?_
        have b5 := b4.le e5
        refine r_catLD b5 (ld4.leB (LeB.of e5)) ld5 (by omega) fun l6 H6 e6 ld6 => ?_
        top_name
        exact fin (t3.trans (LeB.of (e4.trans (e5.trans e6)))) (b5.le e6) (ld6.up (by omega))
      top_name
      refine if_dec (fun h => ?_) (fun h => ?_)
      · top_name
        refine r_slLD b3 ld3 fun l4 H4 e4 ld4 => ?_
        have b4 := b3.le e4
        top_name
        refine r_slLD b4 (ld3.leB (LeB.of e4)) fun l5 H5 e5 ld5 => ?_
        have b5 := b4.le e5
        refine r_catLD b5 (ld4.leB (LeB.of e5)) ld5 (by omega) fun l6 H6 e6 ld6 => ?_
        top_name
        exact fin (t3.trans (LeB.of (e4.trans (e5.trans e6)))) (b5.le e6) (ld6.up (by omega))
      top_name
      refine if_dec (fun h => ?_) (fun h => ?_)
      · top_name
        refine ⟨Nat.zero_le _, fun z4 hz4 => ?_⟩
        generalize hH4 : upd H3 z4 _ = H4
        have o4 := (congrFun hH4 z4).symm.trans upd_same
        have l4 : Le H3 H4 := hH4 ▸ le_new hz4
        have n4 := bg_nb b3 hz4
        have b4 := b3.le l4
        top_name
        refine ⟨szl (by simp), fun z5 hz5 => ?_⟩
        generalize hH5 : upd H4 z5 _ = H5
        have o5 := (congrFun hH5 z5).symm.trans upd_same
        have l5 : Le H4 H5 := hH5 ▸ le_new hz5
        have n5 := bg_nb b4 hz5
        have b5 := b4.le l5
        top_name
        refine ⟨szl (by simp), fun z6 hz6 => ?_⟩
        generalize hH6 : upd H5 z6 _ = H6
        have o6 := (congrFun hH6 z6).symm.trans upd_same
        have l6 : Le H5 H6 := hH6 ▸ le_new hz6
        have n6 := bg_nb b5 hz6
        have b6 := b5.le l6
        top_name
        refine ⟨Nat.zero_le _, fun z7 hz7 => ?_⟩
        generalize hH7 : upd H6 z7 _ = H7
        have o7 := (congrFun hH7 z7).symm.trans upd_same
        have l7 : Le H6 H7 := hH7 ▸ le_new hz7
        have n7 := bg_nb b6 hz7
        have b7 := b6.le l7
        top_name
        refine ⟨szl (by simp), fun z8 hz8 => ?_⟩
        generalize hH8 : upd H7 z8 _ = H8
        have o8 := (congrFun hH8 z8).symm.trans upd_same
        have l8 : Le H7 H8 := hH8 ▸ le_new hz8
        have n8 := bg_nb b7 hz8
        have b8 := b7.le l8
        top_name
        refine ⟨Nat.zero_le _, fun z9 hz9 => ?_⟩
        generalize hH9 : upd H8 z9 _ = H9
        have o9 := (congrFun hH9 z9).symm.trans upd_same
        have l9 : Le H8 H9 := hH9 ▸ le_new hz9
        have n9 := bg_nb b8 hz9
        have b9 := b8.le l9
        top_name
        refine ⟨szl (by simp), fun z10 hz10 => ?_⟩
        generalize hH10 : upd H9 z10 _ = H10
        have o10 := (congrFun hH10 z10).symm.trans upd_same
        have l10 : Le H9 H10 := hH10 ▸ le_new hz10
        have n10 := bg_nb b9 hz10
        have b10 := b9.le l10
        top_name
        refine ⟨szl (by simp), fun z11 hz11 => ?_⟩
        generalize hH11 : upd H10 z11 _ = H11
        have o11 := (congrFun hH11 z11).symm.trans upd_same
        have l11 : Le H10 H11 := hH11 ▸ le_new hz11
        have n11 := bg_nb b10 hz11
        have b11 := b10.le l11
        top_name
        refine ⟨Nat.zero_le _, fun z12 hz12 => ?_⟩
        generalize hH12 : upd H11 z12 _ = H12
        have o12 := (congrFun hH12 z12).symm.trans upd_same
        have l12 : Le H11 H12 := hH12 ▸ le_new hz12
        have n12 := bg_nb b11 hz12
        have b12 := b11.le l12
        top_name
        refine ⟨szl (by simp), fun z13 hz13 => ?_⟩
        generalize hH13 : upd H12 z13 _ = H13
        have o13 := (congrFun hH13 z13).symm.trans upd_same
        have l13 : Le H12 H13 := hH13 ▸ le_new hz13
        have n13 := bg_nb b12 hz13
        have b13 := b12.le l13
        top_name
        refine ⟨szl (by simp), fun z14 hz14 => ?_⟩
        generalize hH14 : upd H13 z14 _ = H14
        have o14 := (congrFun hH14 z14).symm.trans upd_same
        have l14 : Le H13 H14 := hH14 ▸ le_new hz14
        have n14 := bg_nb b13 hz14
        have b14 := b13.le l14
        top_name
        refine ⟨szl (by simp), fun z15 hz15 => ?_⟩
        generalize hH15 : upd H14 z15 _ = H15
        have o15 := (congrFun hH15 z15).symm.trans upd_same
        have l15 : Le H14 H15 := hH15 ▸ le_new hz15
        have n15 := bg_nb b14 hz15
        have b15 := b14.le l15
        top_name
        have t1115 : Le H11 H15 := l12.trans (l13.trans (l14.trans l15))
        have t1015 : Le H10 H15 := l11.trans t1115
        have t815 : Le H8 H15 := l9.trans (l10.trans t1015)
        have t615 : Le H6 H15 := l7.trans (l8.trans t815)
        have t515 : Le H5 H15 := l6.trans t615
        have t315 : Le H3 H15 := l4.trans (l5.trans t515)
        refine ⟨b, z15, _, rfl, b15, n15, o15, by simp, by simp, fun H16 x e16 b16 hx => ?_⟩
        have lw : ∀ i j : Int, LayD 3 (.tuple [.int i, .int j, .tuple []]) := fun i j => lay_wk (i, j, [])
        have hx' : ∃ y, x = .ref y ∧ LsD b H15 y 2 := by
          simp only [List.mem_cons, List.mem_nil_iff, or_false] at hx
          rcases hx with rfl | rfl | rfl
          · refine ⟨z6, rfl, n6, _, [.tuple [.int so, .int so, .tuple []]], t615 _ _ o6, by simp, .cons (.tup n5 (t515 _ _ o5) (.cons (.int _) (.cons (.int _) (.cons (.tup n4 ((l5.trans t515) _ _ o4) .nil) .nil)))) .nil, fun d hd => ?_⟩
            have e : d = .tuple [.int so, .int so, .tuple []] := by simpa using hd
            rw [e]; exact lw _ _
          · refine ⟨z11, rfl, n11, _, [.tuple [.int 0, .int so, .tuple []], .tuple [.int so, .int 0, .tuple []]], t1115 _ _ o11, by simp, .cons (.tup n8 (t815 _ _ o8) (.cons (.int _) (.cons (.int _) (.cons (.tup n7 ((l8.trans t815) _ _ o7) .nil) .nil)))) (.cons (.tup n10 (t1015 _ _ o10) (.cons (.int _) (.cons (.int _) (.cons (.tup n9 ((l10.trans t1015) _ _ o9) .nil) .nil)))) .nil), fun d hd => ?_⟩
            simp only [List.mem_cons, List.mem_nil_iff, or_false] at hd
            rcases hd with rfl | rfl <;> exact lw _ _
          · refine ⟨z14, rfl, n14, _, [.tuple [.int 0, .int so, .tuple []]], l15 _ _ o14, by simp, .cons (.tup n13 ((l14.trans l15) _ _ o13) (.cons (.int _) (.cons (.int _) (.cons (.tup n12 ((l13.trans (l14.trans l15)) _ _ o12) .nil) .nil)))) .nil, fun d hd => ?_⟩
            have e : d = .tuple [.int 0, .int so, .tuple []] := by simpa using hd
            rw [e]; exact lw _ _
        obtain ⟨y, rfl, ldy⟩ := hx'
        have t316 : LeB b H3 H16 := (LeB.of t315).trans e16
        have ldy16 := ldy.leB e16
        have ld16 := ld3.leB t316
        top_name
        refine r_slLD b16 ld16 fun y17 H17 e17 ld17 => ?_
        have b17 := b16.le e17
        top_name
        refine r_catLD b17 ld17 (ldy16.leB (LeB.of e17)) (by omega) fun y18 H18 e18 ld18 => ?_
        have b18 := b17.le e18
        top_name
        refine r_slLD b18 (ld16.leB (LeB.of (e17.trans e18))) fun y19 H19 e19 ld19 => ?_
        have b19 := b18.le e19
        refine r_catLD b19 (ld18.leB (LeB.of e19)) ld19 (by omega) fun y20 H20 e20 ld20 => ?_
        top_name
        exact fin (t3.trans (t316.trans (LeB.of (e17.trans (e18.trans (e19.trans e20)))))) (b19.le e20) (ld20.up (by omega))
      top_name
      refine if_dec (fun h => ?_) (fun h => ?_)
      · top_name
        have hq3 := t3 _ _ nq hq
        refine r_lstO (.inl (SqL.of hq3)) fun z4 H4 hz4 l4 o4 => ?_
        have n4 := bg_nb b3 hz4
        have b4 := b3.le l4
        top_name
        refine r_dnew fun z5 H5 hz5 l5 o5 => ?_
        have n5 := bg_nb b4 hz5
        have b5 := b4.le l5
        top_name
        refine ⟨szl (by simp), fun z6 hz6 => ?_⟩
        generalize hH6 : upd H5 z6 _ = H6
        have o6 := (congrFun hH6 z6).symm.trans upd_same
        have l6 : Le H5 H6 := hH6 ▸ le_new hz6
        have n6 := bg_nb b5 hz6
        have b6 := b5.le l6
        top_name
        refine ⟨b, z6, _, rfl, b6, n6, o6, by simp, by simp, fun H7 x e7 b7 hx => ?_⟩
        have hx' : ∃ d, Da (· = b) H6 d x ∧ isTup d = false := by
          simp only [List.mem_cons, List.mem_nil_iff, or_false] at hx
          rcases hx with rfl | rfl | rfl | rfl
          · exact ⟨_, .lst n4 ((l5.trans l6) _ _ o4) ((hvs.leB t3).le (l4.trans (l5.trans l6))), rfl⟩
          · exact ⟨_, .non, rfl⟩
          · exact ⟨_, .str _, rfl⟩
          · exact ⟨_, .dct n5 (l6 _ _ o5), rfl⟩
        obtain ⟨d, dd, hnt⟩ := hx'
        exact k H7 x d (t3.trans ((LeB.of (l4.trans (l5.trans l6))).trans e7)) b7 (dd.leB e7) fun h => by rw [hnt] at h; cases h
      · top_name
        exact fin t3 b3 (ld3.up (by omega))
  · top_name
    refine if_dec (fun h => ?_) (fun h => ?_)
    · top_name
      refine r_slLD b3 ld3 fun l4 H4 e4 ld4 => ?_
      have b4 := b3.le e4
      top_name
      refine r_slLD b4 (ld3.leB (LeB.of e4)) fun l5 H5 e5 ld5 => ?_
      have b5 := b4.le e5
      refine r_catLD b5 (ld4.leB (LeB.of e5)) ld5 (by omega) fun l6 H6 e6 ld6 => ?_
      top_name
      exact fin (t3.trans (LeB.of (e4.trans (e5.trans e6)))) (b5.le e6) (ld6.up (by omega))
    top_name
    refine if_dec (fun h => ?_) (fun h => ?_)
    · top_name
      refine r_slLD b3 ld3 fun l4 H4 e4 ld4 => ?_
      have b4 := b3.le e4
      top_name
      refine r_slLD b4 (ld3.leB (LeB.of e4)) fun l5 H5 e5 ld5 => ?_
      have b5 := b4.le e5
      refine r_catLD b5 (ld4.leB (LeB.of e5)) ld5 (by omega) fun l6 H6 e6 ld6 => ?_
      top_name
      exact fin (t3.trans (LeB.of (e4.trans (e5.trans e6)))) (b5.le e6) (ld6.up (by omega))
    top_name
    refine if_dec (fun h => ?_) (fun h => ?_)
    · top_name
      refine r_slLD b3 ld3 fun l4 H4 e4 ld4 => ?_
      have b4 := b3.le e4
      top_name
      refine r_slLD b4 (ld3.leB (LeB.of e4)) fun l5 H5 e5 ld5 => ?_
      have b5 := b4.le e5
      refine r_catLD b5 (ld4.leB (LeB.of e5)) ld5 (by omega) fun l6 H6 e6 ld6 => ?_
      top_name
      exact fin (t3.trans (LeB.of (e4.trans (e5.trans e6)))) (b5.le e6) (ld6.up (by omega))
    top_name
    refine if_dec (fun h => ?_) (fun h => ?_)
    · top_name
      refine ⟨Nat.zero_le _, fun z4 hz4 => ?_⟩
      generalize hH4 : upd H3 z4 _ = H4
      have o4 := (congrFun hH4 z4).symm.trans upd_same
      have l4 : Le H3 H4 := hH4 ▸ le_new hz4
      have n4 := bg_nb b3 hz4
      have b4 := b3.le l4
      top_name
      refine ⟨szl (by simp), fun z5 hz5 => ?_⟩
      generalize hH5 : upd H4 z5 _ = H5
      have o5 := (congrFun hH5 z5).symm.trans upd_same
      have l5 : Le H4 H5 := hH5 ▸ le_new hz5
      have n5 := bg_nb b4 hz5
      have b5 := b4.le l5
      top_name
      refine ⟨szl (by simp), fun z6 hz6 => ?_⟩
      generalize hH6 : upd H5 z6 _ = H6
      have o6 := (congrFun hH6 z6).symm.trans upd_same
      have l6 : Le H5 H6 := hH6 ▸ le_new hz6
      have n6 := bg_nb b5 hz6
      have b6 := b5.le l6
      top_name
      refine ⟨Nat.zero_le _, fun z7 hz7 => ?_⟩
      generalize hH7 : upd H6 z7 _ = H7
      have o7 := (congrFun hH7 z7).symm.trans upd_same
      have l7 : Le H6 H7 := hH7 ▸ le_new hz7
      have n7 := bg_nb b6 hz7
      have b7 := b6.le l7
      top_name
      refine ⟨szl (by simp), fun z8 hz8 => ?_⟩
      generalize hH8 : upd H7 z8 _ = H8
      have o8 := (congrFun hH8 z8).symm.trans upd_same
      have l8 : Le H7 H8 := hH8 ▸ le_new hz8
      have n8 := bg_nb b7 hz8
      have b8 := b7.le l8
      top_name
      refine ⟨Nat.zero_le _, fun z9 hz9 => ?_⟩
      generalize hH9 : upd H8 z9 _ = H9
      have o9 := (congrFun hH9 z9).symm.trans upd_same
      have l9 : Le H8 H9 := hH9 ▸ le_new hz9
      have n9 := bg_nb b8 hz9
      have b9 := b8.le l9
      top_name
      refine ⟨szl (by simp), fun z10 hz10 => ?_⟩
      generalize hH10 : upd H9 z10 _ = H10
      have o10 := (congrFun hH10 z10).symm.trans upd_same
      have l10 : Le H9 H10 := hH10 ▸ le_new hz10
      have n10 := bg_nb b9 hz10
      have b10 := b9.le l10
      top_name
      refine ⟨szl (by simp), fun z11 hz11 => ?_⟩
      generalize hH11 : upd H10 z11 _ = H11
      have o11 := (congrFun hH11 z11).symm.trans upd_same
      have l11 : Le H10 H11 := hH11 ▸ le_new hz11
      have n11 := bg_nb b10 hz11
      have b11 := b10.le l11
      top_name
      refine ⟨Nat.zero_le _, fun z12 hz12 => ?_⟩
      generalize hH12 : upd H11 z12 _ = H12
      have o12 := (congrFun hH12 z12).symm.trans upd_same
      have l12 : Le H11 H12 := hH12 ▸ le_new hz12
      have n12 := bg_nb b11 hz12
      have b12 := b11.le l12
      top_name
      refine ⟨szl (by simp), fun z13 hz13 => ?_⟩
      generalize hH13 : upd H12 z13 _ = H13
      have o13 := (congrFun hH13 z13).symm.trans upd_same
      have l13 : Le H12 H13 := hH13 ▸ le_new hz13
      have n13 := bg_nb b12 hz13
      have b13 := b12.le l13
      top_name
      refine ⟨szl (by simp), fun z14 hz14 => ?_⟩
      generalize hH14 : upd H13 z14 _ = H14
      have o14 := (congrFun hH14 z14).symm.trans upd_same
      have l14 : Le H13 H14 := hH14 ▸ le_new hz14
      have n14 := bg_nb b13 hz14
      have b14 := b13.le l14
      top_name
      refine ⟨szl (by simp), fun z15 hz15 => ?_⟩
      generalize hH15 : upd H14 z15 _ = H15
      have o15 := (congrFun hH15 z15).symm.trans upd_same
      have l15 : Le H14 H15 := hH15 ▸ le_new hz15
      have n15 := bg_nb b14 hz15
      have b15 := b14.le l15
      top_name
      have t1115 : Le H11 H15 := l12.trans (l13.trans (l14.trans l15))
      have t1015 : Le H10 H15 := l11.trans t1115
      have t815 : Le H8 H15 := l9.trans (l10.trans t1015)
      have t615 : Le H6 H15 := l7.trans (l8.trans t815)
      have t515 : Le H5 H15 := l6.trans t615
      have t315 : Le H3 H15 := l4.trans (l5.trans t515)
      refine ⟨b, z15, _, rfl, b15, n15, o15, by simp, by simp, fun H16 x e16 b16 hx => ?_⟩
      have lw : ∀ i j : Int, LayD 3 (.tuple [.int i, .int j, .tuple []]) := fun i j => lay_wk (i, j, [])
      have hx' : ∃ y, x = .ref y ∧ LsD b H15 y 2 := by
        simp only [List.mem_cons, List.mem_nil_iff, or_false] at hx
        rcases hx with rfl | rfl | rfl
        · refine ⟨z6, rfl, n6, _, [.tuple [.int so, .int so, .tuple []]], t615 _ _ o6, by simp, .cons (.tup n5 (t515 _ _ o5) (.cons (.int _) (.cons (.int _) (.cons (.tup n4 ((l5.trans t515) _ _ o4) .nil) .nil)))) .nil, fun d hd => ?_⟩
          have e : d = .tuple [.int so, .int so, .tuple []] := by simpa using hd
          rw [e]; exact lw _ _
        · refine ⟨z11, rfl, n11, _, [.tuple [.int 0, .int so, .tuple []], .tuple [.int so, .int 0, .tuple []]], t1115 _ _ o11, by simp, .cons (.tup n8 (t815 _ _ o8) (.cons (.int _) (.cons (.int _) (.cons (.tup n7 ((l8.trans t815) _ _ o7) .nil) .nil)))) (.cons (.tup n10 (t1015 _ _ o10) (.cons (.int _) (.cons (.int _) (.cons (.tup n9 ((l10.trans t1015) _ _ o9) .nil) .nil)))) .nil), fun d hd => ?_⟩
          simp only [List.mem_cons, List.mem_nil_iff, or_false] at hd
          rcases hd with rfl | rfl <;> exact lw _ _
        · refine ⟨z14, rfl, n14, _, [.tuple [.int 0, .int so, .tuple []]], l15 _ _ o14, by simp, .cons (.tup n13 ((l14.trans l15) _ _ o13) (.cons (.int _) (.cons (.int _) (.cons (.tup n12 ((l13.trans (l14.trans l15)) _ _ o12) .nil) .nil)))) .nil, fun d hd => ?_⟩
          have e : d = .tuple [.int 0, .int so, .tuple []] := by simpa using hd
          rw [e]; exact lw _ _
      obtain ⟨y, rfl, ldy⟩ := hx'
      have t316 : LeB b H3 H16 := (LeB.of t315).trans e16
      have ldy16 := ldy.leB e16
      have ld16 := ld3.leB t316
      top_name
      refine r_slLD b16 ld16 fun y17 H17 e17 ld17 => ?_
      have b17 := b16.le e17
      top_name
      refine r_catLD b17 ld17 (ldy16.leB (LeB.of e17)) (by omega) fun y18 H18 e18 ld18 => ?_
      have b18 := b17.le e18
      top_name
      refine r_slLD b18 (ld16.leB (LeB.of (e17.trans e18))) fun y19 H19 e19 ld19 => ?_
      have b19 := b18.le e19
      refine r_catLD b19 (ld18.leB (LeB.of e19)) ld19 (by omega) fun y20 H20 e20 ld20 => ?_
      top_name
      exact fin (t3.trans (t316.trans (LeB.of (e17.trans (e18.trans (e19.trans e20)))))) (b19.le e20) (ld20.up (by omega))
    top_name
    refine if_dec (fun h => ?_) (fun h => ?_)
    · top_name
      have hq3 := t3 _ _ nq hq
      refine r_lstO (.inl (SqL.of hq3)) fun z4 H4 hz4 l4 o4 => ?_
      have n4 := bg_nb b3 hz4
      have b4 := b3.le l4
      top_name
      refine r_dnew fun z5 H5 hz5 l5 o5 => ?_
      have n5 := bg_nb b4 hz5
      have b5 := b4.le l5
      top_name
      refine ⟨szl (by simp), fun z6 hz6 => ?_⟩
      generalize hH6 : upd H5 z6 _ = H6
      have o6 := (congrFun hH6 z6).symm.trans upd_same
      have l6 : Le H5 H6 := hH6 ▸ le_new hz6
      have n6 := bg_nb b5 hz6
      have b6 := b5.le l6
      top_name
      refine ⟨b, z6, _, rfl, b6, n6, o6, by simp, by simp, fun H7 x e7 b7 hx => ?_⟩
      have hx' : ∃ d, Da (· = b) H6 d x ∧ isTup d = false := by
        simp only [List.mem_cons, List.mem_nil_iff, or_false] at hx
        rcases hx with rfl | rfl | rfl | rfl
        · exact ⟨_, .lst n4 ((l5.trans l6) _ _ o4) ((hvs.leB t3).le (l4.trans (l5.trans l6))), rfl⟩
        · exact ⟨_, .non, rfl⟩
        · exact ⟨_, .str _, rfl⟩
        · exact ⟨_, .dct n5 (l6 _ _ o5), rfl⟩
      obtain ⟨d, dd, hnt⟩ := hx'
      exact k H7 x d (t3.trans ((LeB.of (l4.trans (l5.trans l6))).trans e7)) b7 (dd.leB e7) fun h => by rw [hnt] at h; cases h
    · top_name
      exact fin t3 b3 (ld3.up (by omega))
end
set_option Elab.async false
set_option linter.all false
set_option maxRecDepth 100000
set_option maxHeartbeats 4000000
open PySem PySem.Spec PyProof.Rows L2

/-- what is due of a length and a most -/
def dueO (o : Option Int) (m : Int) : Bool := match o with
  | some t => decide (t ≤ m)
  | none => false
theorem and_jn {o : Option Int} {m : Int} {te : TE} {σ : L2.St} {H : Hp} {Q : VK} (h1 : ∀ t, o = some t → Q (.bl (decide (t ≤ m))) H → te σ H Q) (h : Q (.bl (dueO o m)) H) : if o.isSome = true then te σ H Q else Q (.bl false) H := by
  cases o with
  | none => exact h
  | some t => exact h1 t rfl h
section
variable {P : Program} {w : World} {K : PySem.W.Frag} {mg : Str → Option Value} {base : Heap}
theorem sc__law_right : FnScope ["_law_bag_here", "_law_soil_here", "_law_size", "_law_told_here", "_law_words", "_law_stops_here", "_law_turn", "_law_sheet", "_law_thing", "_law_cost", "_law_near", "_law_most", "_law_due", "_law_bid", "_law_came"] ["_law_bag_here"] (defScope s__law_right) := ⟨rfl, rfl, rfl, by decide +kernel, rfl, by decide +kernel, by decide +kernel⟩
def spRi : Sp := fun vs H Q _ => ∃ (b : Addr), vs = [.ref b] ∧ Bg H b ∧ ∀ H', LeB b H H' → Q (.bl true) H'
theorem c__law_right (E : En K mg) : C8.Cal P w K mg base 12 "_law_right" spRi [] := by
  obtain ⟨fd, F⟩ := E.f__law_right
  refine cal_mk F E.g__law_right sc__law_right (fun _ _ _ _ _ _ us hl => match us, hl with | [_], _ => rfl) (fun vs H Q E h => by obtain ⟨b, rfl, _⟩ := h; rfl) fun cdv A outer s H vs Q E' hr h => ⟨_, (pss_cons (ps_par (i := 1) (j := 2) (by rfl) sc__law_right.nd rfl rfl (by decide) rfl rfl (pa_cons (C8.pe_c (c__law_soil E) hr (by decide) (by rfl) (pa_cons (pv 0) (pa_cons (C8.pe_c (c__law_any E) hr (by decide) (by rfl) (pa_cons (pv 0) (pa_cons (pe_lst (pa_cons pe_int (pa_cons pe_int pa_nil))) pa_nil))) (pa_cons pe_int pa_nil)))) (pa_cons (C8.pe_c (c__law_take E) hr (by decide) (by rfl) (pa_cons (pv 0) (pa_cons pe_int pa_nil))) pa_nil)) (by rfl))
      (pss_cons (ps_set (i := 3) sc__law_right.nd rfl (Or.inl rfl) (C8.pe_c (c__law_told E) hr (by decide) (by rfl) (pa_cons (pv 0) (pa_cons pe_int pa_nil))))
      (pss_cons (ps_par (i := 4) (j := 5) (by rfl) sc__law_right.nd rfl rfl (by decide) rfl rfl (pa_cons (C8.pe_c (c__law_text E) hr (by decide) (by rfl) (pa_cons (pv 1) pa_nil)) (pa_cons (C8.pe_c (c__law_stops E) hr (by decide) (by rfl) (pa_cons (pv 1) (pa_cons (pv 2) (pa_cons (pv 3) pa_nil)))) pa_nil)) (by rfl))
      (pss_cons (ps_for PassesOwn.never rfl (pi_range1 rfl E.z_range (pa_cons pe_int pa_nil)) (pg_name (i := 6) sc__law_right.nd rfl (Or.inl rfl)) (pss_cons (ps_set (i := 7) sc__law_right.nd rfl (Or.inl rfl) (C8.pe_c (c__law_naive E) hr (by decide) (by rfl) (pa_cons (pv 0) (pa_cons (pv 1) (pa_cons (pv 2) (pa_cons (pv 3) pa_nil))))))
      (pss_cons (ps_if (pt_cmpR op_eq (C8.pe_c (c__law_take E) hr (by decide) (by rfl) (pa_cons (pv 0) (pa_cons pe_int pa_nil))) pe_int (nomark _)) (pss_one (ps_set (i := 7) sc__law_right.nd rfl (Or.inl rfl) (pe_callTy (c_lstOK K (by rfl)) (by rfl) E.z_list b_list (pa_cons (C8.pe_c (c_plan E) hr (by decide) (by rfl) (pa_cons (C8.pe_mk (k_Garden E) hr (by decide) (by rfl) (pa_cons (pv 4) pa_nil)) (pa_cons (pv 2) (pa_cons (pv 3) pa_nil)))) pa_nil)))) pss_nil)
      (pss_cons (ps_set (i := 8) sc__law_right.nd rfl (Or.inl rfl) (C8.pe_c (c__law_bent_sheet E) hr (by decide) (by rfl) (pa_cons (pv 0) (pa_cons (pv 7) (pa_cons (pv 5) pa_nil)))))
      (pss_cons (ps_set (i := 9) sc__law_right.nd rfl (Or.inl rfl) (C8.pe_c (c__law_plan_length E) hr (by decide) (by rfl) (pa_cons (pv 1) (pa_cons (pv 2) (pa_cons (pv 3) (pa_cons (pv 8) pa_nil))))))
      (pss_cons (ps_set (i := 10) sc__law_right.nd rfl (Or.inl rfl) (pe_ifExp (pt_cmpR op_isN1 (pv 9) pe_non (nomark _)) (C8.pe_c (c__law_least E) hr (by decide) (by rfl) (pa_cons (pv 1) (pa_cons (pv 2) (pa_cons (pv 3) pa_nil)))) (pv 9)))
      (pss_cons (ps_set (i := 11) sc__law_right.nd rfl (Or.inl rfl) (pe_callB (c_max2 rfl) (by rfl) E.z_max b_max (pa_cons pe_int (pa_cons (pe_op op_add (pv 10) (C8.pe_c (c__law_any E) hr (by decide) (by rfl) (pa_cons (pv 0) (pa_cons (pe_lst (pa_cons pe_int (pa_cons pe_int (pa_cons pe_int (pa_cons pe_int (pa_cons (pe_un un_neg pe_int) (pa_cons (pe_un un_neg pe_int) (pa_cons pe_int pa_nil)))))))) pa_nil)))) pa_nil))))
      (pss_cons (ps_set (i := 12) sc__law_right.nd rfl (Or.inl rfl) (pe_and (pe_cmpR op_notN1 (pv 9) pe_non (nomark _)) (pe_one (pe_cmpR op_le (pv 9) (pv 11) (nomark _)))))
      (pss_cons (ps_set (i := 13) sc__law_right.nd rfl (Or.inl rfl) (pe_tup (pa_cons pe_str (pa_cons (pv 4) (pa_cons (pv 2) (pa_cons (pv 3) (pa_cons (pv 11) pa_nil)))))))
      (pss_cons (ps_set (i := 14) sc__law_right.nd rfl (Or.inl rfl) (pe_ifExp (pt_cmpR op_eq (pv 6) pe_int (nomark _)) (pe_acc (by rfl) E hr (by decide) (by rfl) (pv 8) (pv 13)) (C8.pe_c (c_accepts E) hr (by decide) (by rfl) (pa_cons (pv 13) (pa_cons (pv 8) pa_nil)))))
      (pss_one (ps_if (pt_cmpR op_ne (pe_callB c_repr (by rfl) E.z_repr b_repr (pa_cons (pv 14) pa_nil)) (pe_callB c_repr (by rfl) E.z_repr b_repr (pa_cons (pv 12) pa_nil)) (nomark _)) (pss_one (ps_ret pe_bl)) pss_nil))))))))))))
      (pss_one (ps_ret pe_bl)))))), ?_⟩
  obtain ⟨b, rfl, hb, k⟩ := h
  one_item
  refine ⟨szl (by simp), fun z1 hz1 => ?_⟩
  generalize hH1 : upd H z1 _ = H1
  have o1 := (congrFun hH1 z1).symm.trans upd_same
  have l1 : Le H H1 := hH1 ▸ le_new hz1
  have n1 := bg_nb hb hz1
  have b1 := hb.le l1
  top_name
  refine ⟨b, z1, _, rfl, b1, n1, o1, by simp, by simp, fun H2 x e2 b2 hx => ?_⟩
  have hx' : ∃ m : Int, x = .int m ∧ 1 ≤ m ∧ m ≤ 20 := by
    simp only [List.mem_cons, List.mem_nil_iff, or_false] at hx
    rcases hx with rfl | rfl
    · exact ⟨6, rfl, by omega, by omega⟩
    · exact ⟨20, rfl, by omega, by omega⟩
  obtain ⟨mc, rfl, mc0, mc1⟩ := hx'
  have t2 : LeB b H H2 := (LeB.of l1).trans e2
  top_name
  refine ⟨b, mc, 5, rfl, b2, mc0, mc1, by omega, by omega, fun H3 sv c bs e3 b3 g hd3 => ?_⟩
  top_name
  refine ⟨b, 15, rfl, b3, by omega, by omega, fun H4 sz e4 b4 s0 s1 => ?_⟩
  have hd4 := hd3.leB e4
  obtain ⟨n, rfl⟩ : ∃ n : Nat, sz = (n : Int) := ⟨sz.toNat, by omega⟩
  have t4 := t2.trans (e3.trans e4)
  top_name
  refine ⟨b, 40, rfl, b4, by omega, by omega, fun H5 t ts e5 b5 tb ht5 tp h40 => ?_⟩
  have hd5 := hd4.leB e5
  have t5 := t4.trans e5
  top_name
  refine ⟨_, sv, c, bs, rfl, g, hd5, fun H6 e6 => ?_⟩
  have hd6 := hd5.le e6
  have ht6 := e6 _ _ ht5
  top_name
  refine ⟨_, sv, t, c, bs, ts, n, rfl, g, hd6, ht6, by omega, fun H7 sp e7 hsp h7 => ?_⟩
  have b6 := b5.le e6
  have b7 := b6.le e7
  have t7 : LeB b H H7 := t5.trans (LeB.of (e6.trans e7))
  have hd7 := hd6.le e7
  have ht7 := e7 _ _ ht6
  have spb := bg_nb b6 hsp
  top_name
  refine for_range (fun i σ H' => LeB b H7 H' ∧ Bg H' b ∧ ∃ (x6 x7 x8 x9 x10 x11 x12 x13 x14 : Option V), σ = [some (.ref b), some sv, some (.int n), some (.ref t), some (.str (gTx c bs)), some (.ref sp), x6, x7, x8, x9, x10, x11, x12, x13, x14]) ⟨LeB.refl b H7, b7, none, none, none, none, none, none, none, none, none, rfl⟩ ?_ ?_
  · rintro i σ H8 hi ⟨e8, b8, x6, x7, x8, x9, x10, x11, x12, x13, x14, rfl⟩
    have hd8 := hd7.leB e8
    have ht8 := e8 _ _ tb ht7
    top_name
    refine ⟨b, sv, t, c, bs, ts, n, rfl, b8, g, hd8, ht8, tb, by omega, fun H9 q ws e9 b9 sh9 wok9 hw9 => ?_⟩
    have e79 := e8.trans e9
    (refine' r_gName ?e0 ?_)
    case e0 => (simp only [List.set_cons_succ, List.set_cons_zero]; exact rfl)
    (with_reducible refine r_seq ?_)
    refine ts_jn (fun σ' H' => ∃ (q' : Addr) (ws' : List Wk), σ' = [some (.ref b), some sv, some (.int n), some (.ref t), some (.str (gTx c bs)), some (.ref sp), some (.int (0 + (i : Int))), some (.ref q'), x8, x9, x10, x11, x12, x13, x14] ∧ LeB b H7 H' ∧ Bg H' b ∧ ShL b H' q' ws' ∧ WkOk ws' ∧ ws'.length ≤ 300000) (fun σ' H' h => ?_) (fun hk => ?_)
    rotate_left
    · refine r_ifS ?_
      top_name
      refine ⟨b, 2, rfl, b9, by omega, by omega, fun H10 r e10 b10 r0 r1 => ?_⟩
      top_name
      refine if_dec (fun h => ?_) (fun h => ?_)
      · top_name
        refine fun x dx hx hdx hne => ⟨H10, x, dx, c, bs, rfl, make_le (p := x) hx hdx, hx, upd_same, g, fun H11 p e11 gd => ⟨rfl, ?_⟩⟩
        have b11 := b10.le e11
        have ht11 := e11 _ _ (e10 _ _ tb (e9 _ _ tb ht8))
        top_name
        refine ⟨x, p, t, c, bs, ts, n, rfl, gd, ht11, tp, by omega, by omega, fun H12 q12 vs12 ws12 e12 n12 h12 l12 d12 wk12 len12 => ?_⟩
        top_name
        refine r_lstO (.inr (SqT.of h12)) fun z13 H13 hz13 l13 o13 => ?_
        have b13 := (b11.le e12).le l13
        (refine' r_gName ?e0 ?_)
        case e0 => (simp only [List.set_cons_succ, List.set_cons_zero]; exact rfl)
        refine hk _ _ ⟨z13, ws12, rfl, e79.trans (e10.trans (LeB.of (e11.trans (e12.trans l13)))), b13, ⟨bg_nb (b11.le e12) hz13, vs12, o13, l12, d12.mono fun a o nn q => ⟨fun z => nn ?_, l13 _ _ q⟩⟩, wk12, len12⟩
        obtain ⟨u1, u2, u3, hbb⟩ := b11
        show H11 a ≠ none
        rw [show a = b from z, hbb]
        exact Option.some_ne_none _
      · (with_reducible refine r_next ?_)
        exact hk _ _ ⟨q, ws, rfl, e79.trans e10, b10, sh9.leB e10, wok9, by omega⟩
    · obtain ⟨q', ws', rfl, e10, b10, sh10, wok10, hw10⟩ := h
      have hd10 := hd7.leB e10
      have ht10 := e10 _ _ tb ht7
      have h10 := e10 _ _ spb h7
      top_name
      refine ⟨b, q', sp, ws', _, rfl, b10, sh10, wok10, hw10, h10, spb, by simp [stopsL], by have := stopsL_len bs ts n; omega, fun H11 v d e11 b11 hdv sha => ?_⟩
      have e711 := e10.trans e11
      have hd11 := hd7.leB e711
      have ht11 := e711 _ _ tb ht7
      have h11 := e711 _ _ spb h7
      top_name
      refine ⟨_, _, sv, v, t, d, c, bs, ts, n, rfl, g, hd11, ht11, by omega, hdv, fun H12 e12 => ?_⟩
      have hd12 := hd11.le e12
      have ht12 := e12 _ _ ht11
      have b12 := b11.le e12
      have hdv12 := hdv.le e12
      have e712 : LeB b H7 H12 := e711.trans (LeB.of e12)
      top_name
      generalize hpl : planLen c (stopsL bs ts n) n (needsL bs ts n) d = o
      refine r_isNb ?_
      refine r_bl ?_
      refine if_jn (fun x H' => ∃ z : Int, x = .int z ∧ Le H12 H') (fun x H' h => ?_) (fun hk => ?_)
      rotate_left
      · cases o with
        | none =>
          refine iteT ?_
          top_name
          exact ⟨_, sv, t, c, bs, ts, n, rfl, g, hd12, ht12, by omega, fun H13 z e13 => hk _ _ ⟨z, rfl, e13⟩⟩
        | some y =>
          refine iteF ?_
          refine r_var rfl ?_
          exact hk _ _ ⟨y, rfl, Same.refl _⟩
      · obtain ⟨z, rfl, e13⟩ := h
        have b13 := b12.le e13
        have ht13 := e13 _ _ ht12
        have hdv13 := hdv12.le e13
        have e713 : LeB b H7 H' := e712.trans (LeB.of e13)
        top_name
        refine ⟨szl (by simp), fun p14 hp14 => ?_⟩
        generalize hH14 : upd H' p14 _ = H14
        have o14 := (congrFun hH14 p14).symm.trans upd_same
        have l14 : Le H' H14 := hH14 ▸ le_new hp14
        have n14 := bg_nb b13 hp14
        have b14 := b13.le l14
        top_name
        refine ⟨b, p14, _, rfl, b14, n14, o14, by simp, by simp, fun H15 x e15 b15 hx => ?_⟩
        have hx' : ∃ u : Int, x = .int u := by
          simp only [List.mem_cons, List.mem_nil_iff, or_false] at hx
          rcases hx with rfl | rfl | rfl | rfl | rfl | rfl | rfl <;> exact ⟨_, rfl⟩
        obtain ⟨u, rfl⟩ := hx'
        have hdv15 := (hdv13.le l14).leB e15
        have ht15 := e15 _ _ tb (l14 _ _ ht13)
        have e715 : LeB b H7 H15 := e713.trans ((LeB.of l14).trans e15)
        top_name
        refine r_notNb ?_
        refine r_bl ?_
        generalize hm : max 0 (z + u) = m
        have hm0 : 0 ≤ m := by omega
        have hsd : showsD c (stopsL bs ts n) n (needsL bs ts n) m d = dueO o m := by
          unfold showsD
          rw [hpl]
          cases o <;> rfl
        refine and_jn (m := m) (fun y hy hq => ?_) ?_
        · subst hy
          refine r_op (r_var rfl (r_var rfl (r_I0 ?_)))
          exact hq
        top_name
        refine ⟨szl (by simp), fun p16 hp16 => ?_⟩
        generalize hH16 : upd H15 p16 _ = H16
        have o16 := (congrFun hH16 p16).symm.trans upd_same
        have l16 : Le H15 H16 := hH16 ▸ le_new hp16
        have b16 := b15.le l16
        have hdv16 := hdv15.le l16
        have ht16 := l16 _ _ ht15
        have h200 : ∀ y ∈ ts, y ≤ 200 := fun y hy => by have := h40 y hy; omega
        top_name
        refine if_jn (fun x H' => x = .bl (dueO o m) ∧ Le H16 H') (fun x H' h => ?_) (fun hk => ?_)
        rotate_left
        · refine if_dec (fun h => ?_) (fun h => ?_)
          · refine r_callK ?_
            top_name
            refine ⟨(· = b), p16, t, v, d, c, bs, ts, n, m, rfl, o16, ht16, g, tp, h200, by omega, hm0, hdv16, sha, fun H17 e17 => ?_⟩
            rw [hsd]
            exact hk _ _ ⟨rfl, e17⟩
          · top_name
            refine ⟨(· = b), p16, t, v, d, c, bs, ts, n, m, rfl, o16, ht16, g, tp, h200, by omega, hm0, hdv16, sha, fun H17 e17 => ?_⟩
            rw [hsd]
            exact hk _ _ ⟨rfl, e17⟩
        · obtain ⟨rfl, e17⟩ := h
          top_name
          refine r_neS ?_
          rw [decide_eq_true rfl]
          top_name
          exact ⟨e715.trans ((LeB.of l16).trans (LeB.of e17)), b16.le e17, _, _, _, _, _, _, _, _, _, rfl⟩
  · rintro σ H8 ⟨e8, b8, x6, x7, x8, x9, x10, x11, x12, x13, x14, rfl⟩
    top_name
    exact k _ (t7.trans e8)
end
set_option Elab.async false
set_option linter.all false
set_option maxRecDepth 100000
set_option maxHeartbeats 4000000
open PySem PySem.Spec PyProof.Rows L2

section
variable {P : Program} {w : World} {K : PySem.W.Frag} {mg : Str → Option Value} {base : Heap}
theorem sc_law : FnScope ["_law_script", "_law_k"] ["_law_script"] (defScope s_law) := ⟨rfl, rfl, rfl, by decide +kernel, rfl, by decide +kernel, by decide +kernel⟩
def spLaw (K : PySem.W.Frag) : Sp := fun vs H Q _ => ∃ (a : Addr) (ns : List Int), vs = [.ref a] ∧ SqL K H a (ns.map V.int) ∧ ns.length ≤ 63 ∧ ∀ H', Q (.bl true) H'
theorem fn_law (E : En K mg) {fd : FuncData} (F : FunD K "law" "law" (defArgs s_law) (defBody s_law) (defScope s_law) [] [] (He.ga K "law") fd) : FnOk P w K mg base C8.CX0 13 (He.ga K "law") fd ["_law_script"] (spLaw K) := by
  refine FunD.ok F sc_law (fun vs H Q E h => by obtain ⟨a, ns, rfl, _⟩ := h; rfl) fun cdv A outer s H vs Q E' hr h => ⟨_, (PSs.nox (pss_one (ps_ret (pe_callB (c_allK K (by rfl) rfl) (by rfl) E.z_all b_all (pa_cons (pe_lc (own := [("_law_k", 1)]) rfl sc_law.nd (pi_range1 rfl E.z_range (pa_cons (pe_callB (c_max2 rfl) (by rfl) E.z_max b_max (pa_cons pe_int (pa_cons (pe_callB (c_min2 rfl) (by rfl) E.z_min b_min (pa_cons (pe_callB (c_lenK K (by rfl)) (by rfl) E.z_len b_len (pa_cons (pv 0) pa_nil)) (pa_cons pe_int pa_nil))) pa_nil))) pa_nil)) (blkOk_by (own := [("_law_k", 1)]) (N := ["_law_script", "_law_k"]) (sc := defScope s_law) (by decide +kernel)) (fun _ _ _ _ _ => (pg_name (i := 1) sc_law.nd rfl (Or.inl rfl))) (fun _ _ _ _ _ => pts_nil) (fun _ _ _ _ _ => (C8.pe_c (c__law_right E) hr (by decide) (by rfl) (pa_cons (C8.pe_c (c__law_bag E) hr (by decide) (by rfl) (pa_cons (pv 0) (pa_cons (pv 1) pa_nil))) pa_nil)))) pa_nil))))), ?_⟩
  obtain ⟨a, ns, rfl, hs, hl, k⟩ := h
  one_item
  generalize hN : (max 2 (min (((ns.map V.int).length : Nat) : Int) 4)).toNat = N
  have hN4 : N ≤ 4 := by omega
  refine lc_map ((List.replicate N true).map V.bl) (walk_range (lo := 0) (n := N)) (by simp) (by one_place) (by omega) (fun _ _ => trivial) ?_ fun D H1 hD e1 h1 => ?_
  · rintro i x H0 H' R M hi e ⟨rfl, rfl⟩ hR
    have hs0 := le_sq e hs
    top_name
    refine ⟨a, ns, _, rfl, hs0, by omega, by omega, fun H2 b e2 hb bg => ?_⟩
    top_name
    refine ⟨b, rfl, bg, fun H3 e3 => ?_⟩
    exact hR _ _ (le_mut e2 hb e3) (by rw [List.getElem?_map, List.getElem?_replicate, if_pos hi]; rfl)
  top_name
  refine r_all (SqL.of h1) ?_
  rw [show ((List.replicate N true).all id) = true by simp]
  exact k _
end
set_option Elab.async false
set_option linter.all false
set_option maxRecDepth 100000
set_option maxHeartbeats 0
open PySem PySem.Spec PyProof.Rows L2
theorem facts {P : Program} {w : World} {K : PySem.W.Frag} {h : Heap} {mg : Str → Option Value} {f : Addr} (X : K.In h) (G : h.Ns mainGlobals mg) (hfa : mg ("law" : Str) = some (.ref f)) (c : SaysX K) :
    ∃ fd : FuncData, (∀ (s : Shared) (v : Value), BindsTo s fd ⟨[v], []⟩ [("_law_script", v)]) ∧ ∀ base : Heap, K.In base → base.Ns mainGlobals mg → FnOk P w K mg base CX0 13 f fd ["_law_script"] (spLaw K) := by
  have E : En K mg := ⟨c, h, X, G⟩
  have e : f = He.ga K "law" := by
    have z := hfa.symm.trans E.g_law
    cases z
    rfl
  subst e
  obtain ⟨fd, F⟩ := E.f_law
  exact ⟨fd, fun s v => F.bindsA (ps := ["_law_script"]) (fun _ _ _ _ _ _ us hl => match us, hl with | [_], _ => rfl) s [v] rfl, fun base _ _ => fn_law E F⟩
end Cw
set_option maxHeartbeats 0
open PySem PySem.W PySem.Calls PyProof.Rows
theorem PySem.Challenge.cw_canwalks_k60_whole_plans_judged_holds : PySem.Challenge.rw_canwalks_k60_whole_plans_judged.Holds := by
  w_on; o_law
  refine HandSHeadRun.head_any (r := Cw.R) (q := view Cw.R.prog [85]) (H := Cw.hkX) (ob := Cw.obX) (M := 20000) (loose := Cw.loose) (d := HandSHeadRun.topDef Cw.R.prog 85) (kwd := []) Cw.obX_eq
    (by kernel_rfl) (fun s => by kernel_rfl) Cw.run (by kernel_rfl) (by kernel_rfl) (by kernel_rfl) (by rfl) (by first | assumption | decide +kernel) (by decide +kernel) ⟨rfl, rfl, rfl, rfl, rfl, by decide +kernel⟩ ?hw ?hc
  case hw => w_witness2
  case hc =>
    refine L2.walk_ofE (l := PySem.Challenge.rw_canwalks_k60_whole_plans_judged) (n := 63) (k := 13) (x := "_law_script") (CX := L2.CX0) rfl (by decide) (by kernel_rfl) ⟨rfl, by decide, by decide⟩ ?F (fun _ _ _ _ z => z)
    intro w mg fa h Y G hmg0
    obtain ⟨K, KX, c⟩ := Y
    have hmg : mg ("law" : PySem.Str) = some (.ref fa) := by
      have e : (HandSHeadRun.topDef Cw.R.prog 85).name = ("law" : PySem.Str) := by kernel_rfl
      rw [← e]
      exact hmg0
    obtain ⟨fd, hb, hF⟩ := Cw.facts (P := (PySem.Challenge.rw_canwalks_k60_whole_plans_judged).prog) (w := w) KX G hmg c
    exact ⟨K, fd, Cw.spLaw K, KX, hb, fun H a ns hl _ hS => ⟨a, ns, rfl, hS, hl, fun _ => rfl⟩, hF⟩
