import PyProof.Rows.All
import Wide.All
import OpenK.AllK
import Wide.FinOn
import HandS.HeadHook3
import HandS.Head0
import HandS.Head1
import HandS.Head2
import HandS.HeadEnd
import HandS.EndBits
import HandS.ForMost
import HandS.Exc
import HandS.Walk
import HandS.Defaults
import HandS.Star
import HandS.IsInst
import HandS.Conv
import HandS.Style
import HandS.WideBits
import HandS.Wide
import HandS.FStr
import HandS.Flow
import HandS.Property
import HandS.SetFor
import HandS.Small
import KE.GoesMore
import KE.GoesEnum
import PyProof.ListIndex
import HandS.Deep
import KE.KUnpackStar
import HandS.TryOnly
import PyProof.ReprRoads
import PyProof.ReprLen
import PyProof.StrOps2
import HandS.Codes
import PySem.Challenge.RW_ballhours_k61_whole_texts_of_all_that_is
set_option Elab.async false
set_option linter.all false
set_option maxRecDepth 100000
namespace Bh
open PySem PySem.Spec PyProof.Rows L2
def top (i : Nat) : Stmt := PySem.Challenge.pw_ballhours_k61_whole_texts_of_all_that_is.main.body.getD i (.Pass ⟨0, 0, 0, 0⟩)
abbrev clM (i j : Nat) : Stmt := inClass (top i) j
end Bh
set_option maxHeartbeats 0
/-! HD: the head's facts, as data; what is looked at. -/
namespace Bh
open PySem PySem.Spec PyProof.Rows L2
/-- where a property's getter stands -/
def pAd (K : PySem.W.Frag) (p : Str × Option Str) : Addr := match p.2 with
  | some m => (match PySem.W.findIn K (.ref (He.ga K p.1)) m with
    | some (some (.ref q)) => (match PySem.W.recIn K q "property" with
      | some (.ref g :: _) => g
      | _ => 0)
    | _ => 0)
  | none => 0
def fnA (K : PySem.W.Frag) (a : Addr) : He.FnW := match K.lookup a with
  | some ⟨_, _, .func fd, _⟩ => some (fd.name, fd.qualname, fd.params, fd.body, fd.scope, fd.globals, fd.closure, fd.builtins)
  | _ => none
def prB (K : PySem.W.Frag) (d : He.DefD) : Bool := match d.at_.2 with
  | some m => (match PySem.W.findIn K (.ref (He.ga K d.at_.1)) m with
    | some (some (.ref q)) => He.eqO (PySem.W.specialIn K (.ref q) "__get__") (some (some (.builtin "property.__get__"))) && (decide (PySem.W.takesIn K (.ref q) = some true) && (match PySem.W.recIn K q "property" with
      | some (.ref g :: _) => PySem.W.keepIn K (.ref g) && (match K.lookup g with
        | some ⟨_, _, .func fd, _⟩ => PySem.W.codeIn K fd.code d.qual && (He.dflB K fd.defaults [] && He.kwdB K fd.kwdefaults [])
        | _ => false)
      | _ => false))
    | _ => false)
  | none => false

def fa0 : List He.Fa := [.free "isinstance", .free "int", .free "bool", .free "tuple", .free "list", .free "str", .free "dict", .free "len", .free "all", .free "sum", .free "enumerate", .free "range", .free "zip", .free "divmod", .free "min", .free "max", .free "abs", .free "repr", .int "MOST_BALLS" 100, .int "MOST_WISHES" 100, .int "MOST_SIGHTS" 60, .int "MOST_DIGITS" 30, .str "DIGIT_SIGNS" "0123456789", .glo "is_integer", .glo "is_at_least"]
def fa1 : List He.Fa := [.glo "is_rail", .glo "clock_fault", .glo "is_ball", .glo "sight_fault", .glo "order_fault", .glo "require_clock", .glo "require_sight", .glo "require_order", .glo "require_ball", .glo "require_tick", .glo "require_at_least", .glo "turn_of", .glo "digits_of", .glo "natural_of", .glo "words_of", .glo "joined_balls", .glo "format_clock", .glo "format_sight", .glo "format_order", .glo "rail_of", .glo "parse_clock", .glo "ball_written", .glo "parse_sight", .glo "parse_order", .glo "spots_at"]
def fa2 : List He.Fa := [.glo "turn_row", .glo "row_cycles", .glo "power_row", .glo "inverse_row", .glo "sight_of", .glo "sight_behind", .glo "ticks_past", .glo "queue_of", .glo "far_sight", .glo "moved_sight", .glo "queue_behind", .glo "sight_at", .glo "later_sight", .glo "common_divisor", .glo "common_multiple", .glo "inverse_of", .glo "joined_two", .glo "joined_rests", .glo "queue_period", .glo "tick_of", .glo "is_clock", .glo "first_sight", .glo "turn_ticks", .glo "sent_back", .glo "sight_after"]
def fa3 : List He.Fa := [.glo "sight_row", .glo "clock_values", .glo "command_values", .glo "value_text", .glo "require_balls", .glo "lists_within", .glo "bound_lists", .glo "longest_clock", .glo "is_wish", .glo "require_wished", .glo "place_rails", .glo "found_order", .glo "found_rank", .glo "is_granting", .glo "order_count", .glo "least_order", .glo "nth_order", .glo "order_rank", .glo "ordered_sight", .glo "_law_jar", .glo "_law_pick", .glo "_law_device", .glo "_law_mixed", .glo "_law_scene", .glo "_law_moment"]
def fa4 : List He.Fa := [.glo "_law_sights_right", .glo "_law_rows_right", .glo "_law_devices_right", .glo "_law_live_right", .glo "law", .glo "WAYS", .glo "LETTERS", .glo "FORMS", .glo "InvalidSyntax", .glo "Runs", .glo "Circles", .glo "BallClock", .glo "Console", .glo "Filling", .cls "Runs", .mkr "Runs", .noat "Runs" "own_rails", .noat "Runs" "own_rows", .cls "Circles", .mkr "Circles", .noat "Circles" "kept_cycles", .noat "Circles" "kept_spots", .cls "BallClock", .mkr "BallClock", .noat "BallClock" "kept_clock"]
def fa5 : List He.Fa := [.noat "BallClock" "kept_calls", .cls "Console", .mkr "Console", .noat "Console" "set_clock", .noat "Console" "set_live", .cls "Filling", .mkr "Filling", .noat "Filling" "kept_rails", .noat "Filling" "kept_rooms", .noat "Filling" "kept_wishes", .noat "Filling" "kept_wants", .noat "Filling" "kept_balls", .meth "Runs" "row", .meth "Runs" "found_row", .meth "Circles" "turns_to", .meth "Circles" "turns_for", .meth "BallClock" "sight_now", .meth "BallClock" "keep", .meth "BallClock" "run", .meth "BallClock" "swap", .meth "Console" "set_anew", .meth "Console" "change", .meth "Console" "answer", .meth "Console" "execute", .meth "Filling" "ways"]
def fa6 : List He.Fa := [.meth "Filling" "next_ways", .meth "Filling" "ball_ways", .meth "Filling" "fill"]
def fa : List He.Fa := fa0 ++ fa1 ++ fa2 ++ fa3 ++ fa4 ++ fa5 ++ fa6
def fn0 : List He.DefD := [⟨("is_integer", none), "is_integer", "is_integer", defArgs (top 18), defBody (top 18), defScope (top 18), [], []⟩, ⟨("is_at_least", none), "is_at_least", "is_at_least", defArgs (top 19), defBody (top 19), defScope (top 19), [], []⟩, ⟨("is_rail", none), "is_rail", "is_rail", defArgs (top 20), defBody (top 20), defScope (top 20), [], []⟩, ⟨("clock_fault", none), "clock_fault", "clock_fault", defArgs (top 21), defBody (top 21), defScope (top 21), [], []⟩, ⟨("is_ball", none), "is_ball", "is_ball", defArgs (top 22), defBody (top 22), defScope (top 22), [], []⟩, ⟨("sight_fault", none), "sight_fault", "sight_fault", defArgs (top 23), defBody (top 23), defScope (top 23), [], []⟩, ⟨("order_fault", none), "order_fault", "order_fault", defArgs (top 24), defBody (top 24), defScope (top 24), [], []⟩, ⟨("require_clock", none), "require_clock", "require_clock", defArgs (top 25), defBody (top 25), defScope (top 25), [], []⟩, ⟨("require_sight", none), "require_sight", "require_sight", defArgs (top 26), defBody (top 26), defScope (top 26), [], []⟩, ⟨("require_order", none), "require_order", "require_order", defArgs (top 27), defBody (top 27), defScope (top 27), [], []⟩, ⟨("require_ball", none), "require_ball", "require_ball", defArgs (top 28), defBody (top 28), defScope (top 28), [], []⟩, ⟨("require_tick", none), "require_tick", "require_tick", defArgs (top 29), defBody (top 29), defScope (top 29), [], []⟩, ⟨("require_at_least", none), "require_at_least", "require_at_least", defArgs (top 30), defBody (top 30), defScope (top 30), [], []⟩, ⟨("turn_of", none), "turn_of", "turn_of", defArgs (top 31), defBody (top 31), defScope (top 31), [], []⟩, ⟨("digits_of", none), "digits_of", "digits_of", defArgs (top 32), defBody (top 32), defScope (top 32), [], []⟩, ⟨("natural_of", none), "natural_of", "natural_of", defArgs (top 37), defBody (top 37), defScope (top 37), [], []⟩, ⟨("words_of", none), "words_of", "words_of", defArgs (top 39), defBody (top 39), defScope (top 39), [], []⟩, ⟨("joined_balls", none), "joined_balls", "joined_balls", defArgs (top 40), defBody (top 40), defScope (top 40), [], []⟩, ⟨("format_clock", none), "format_clock", "format_clock", defArgs (top 41), defBody (top 41), defScope (top 41), [], []⟩, ⟨("format_sight", none), "format_sight", "format_sight", defArgs (top 42), defBody (top 42), defScope (top 42), [], []⟩, ⟨("format_order", none), "format_order", "format_order", defArgs (top 43), defBody (top 43), defScope (top 43), [], []⟩, ⟨("rail_of", none), "rail_of", "rail_of", defArgs (top 44), defBody (top 44), defScope (top 44), [], []⟩, ⟨("parse_clock", none), "parse_clock", "parse_clock", defArgs (top 45), defBody (top 45), defScope (top 45), [], []⟩, ⟨("ball_written", none), "ball_written", "ball_written", defArgs (top 46), defBody (top 46), defScope (top 46), [], []⟩, ⟨("parse_sight", none), "parse_sight", "parse_sight", defArgs (top 47), defBody (top 47), defScope (top 47), [], []⟩]
def fn1 : List He.DefD := [⟨("parse_order", none), "parse_order", "parse_order", defArgs (top 48), defBody (top 48), defScope (top 48), [], []⟩, ⟨("spots_at", none), "spots_at", "spots_at", defArgs (top 51), defBody (top 51), defScope (top 51), [], []⟩, ⟨("turn_row", none), "turn_row", "turn_row", defArgs (top 52), defBody (top 52), defScope (top 52), [], []⟩, ⟨("row_cycles", none), "row_cycles", "row_cycles", defArgs (top 53), defBody (top 53), defScope (top 53), [], []⟩, ⟨("power_row", none), "power_row", "power_row", defArgs (top 54), defBody (top 54), defScope (top 54), [], []⟩, ⟨("inverse_row", none), "inverse_row", "inverse_row", defArgs (top 55), defBody (top 55), defScope (top 55), [], []⟩, ⟨("sight_of", none), "sight_of", "sight_of", defArgs (top 57), defBody (top 57), defScope (top 57), [], []⟩, ⟨("sight_behind", none), "sight_behind", "sight_behind", defArgs (top 58), defBody (top 58), defScope (top 58), [], []⟩, ⟨("ticks_past", none), "ticks_past", "ticks_past", defArgs (top 59), defBody (top 59), defScope (top 59), [], []⟩, ⟨("queue_of", none), "queue_of", "queue_of", defArgs (top 60), defBody (top 60), defScope (top 60), [], []⟩, ⟨("far_sight", none), "far_sight", "far_sight", defArgs (top 61), defBody (top 61), defScope (top 61), [], []⟩, ⟨("moved_sight", none), "moved_sight", "moved_sight", defArgs (top 62), defBody (top 62), defScope (top 62), [], []⟩, ⟨("queue_behind", none), "queue_behind", "queue_behind", defArgs (top 63), defBody (top 63), defScope (top 63), [], []⟩, ⟨("sight_at", none), "sight_at", "sight_at", defArgs (top 64), defBody (top 64), defScope (top 64), [], []⟩, ⟨("later_sight", none), "later_sight", "later_sight", defArgs (top 65), defBody (top 65), defScope (top 65), [], []⟩, ⟨("common_divisor", none), "common_divisor", "common_divisor", defArgs (top 68), defBody (top 68), defScope (top 68), [], []⟩, ⟨("common_multiple", none), "common_multiple", "common_multiple", defArgs (top 69), defBody (top 69), defScope (top 69), [], []⟩, ⟨("inverse_of", none), "inverse_of", "inverse_of", defArgs (top 70), defBody (top 70), defScope (top 70), [], []⟩, ⟨("joined_two", none), "joined_two", "joined_two", defArgs (top 71), defBody (top 71), defScope (top 71), [], []⟩, ⟨("joined_rests", none), "joined_rests", "joined_rests", defArgs (top 72), defBody (top 72), defScope (top 72), [], []⟩, ⟨("queue_period", none), "queue_period", "queue_period", defArgs (top 75), defBody (top 75), defScope (top 75), [], []⟩, ⟨("tick_of", none), "tick_of", "tick_of", defArgs (top 77), defBody (top 77), defScope (top 77), [], []⟩, ⟨("is_clock", none), "is_clock", "is_clock", defArgs (top 79), defBody (top 79), defScope (top 79), [], []⟩, ⟨("first_sight", none), "first_sight", "first_sight", defArgs (top 80), defBody (top 80), defScope (top 80), [], []⟩, ⟨("turn_ticks", none), "turn_ticks", "turn_ticks", defArgs (top 81), defBody (top 81), defScope (top 81), [], []⟩]
def fn2 : List He.DefD := [⟨("sent_back", none), "sent_back", "sent_back", defArgs (top 86), defBody (top 86), defScope (top 86), [], []⟩, ⟨("sight_after", none), "sight_after", "sight_after", defArgs (top 87), defBody (top 87), defScope (top 87), [], []⟩, ⟨("sight_row", none), "sight_row", "sight_row", defArgs (top 88), defBody (top 88), defScope (top 88), [], []⟩, ⟨("clock_values", none), "clock_values", "clock_values", defArgs (top 102), defBody (top 102), defScope (top 102), [], []⟩, ⟨("command_values", none), "command_values", "command_values", defArgs (top 103), defBody (top 103), defScope (top 103), [], []⟩, ⟨("value_text", none), "value_text", "value_text", defArgs (top 104), defBody (top 104), defScope (top 104), [], []⟩, ⟨("require_balls", none), "require_balls", "require_balls", defArgs (top 108), defBody (top 108), defScope (top 108), [], []⟩, ⟨("lists_within", none), "lists_within", "lists_within", defArgs (top 109), defBody (top 109), defScope (top 109), [], []⟩, ⟨("bound_lists", none), "bound_lists", "bound_lists", defArgs (top 110), defBody (top 110), defScope (top 110), [], []⟩, ⟨("longest_clock", none), "longest_clock", "longest_clock", defArgs (top 111), defBody (top 111), defScope (top 111), [], []⟩, ⟨("is_wish", none), "is_wish", "is_wish", defArgs (top 114), defBody (top 114), defScope (top 114), [], []⟩, ⟨("require_wished", none), "require_wished", "require_wished", defArgs (top 115), defBody (top 115), defScope (top 115), [], []⟩, ⟨("place_rails", none), "place_rails", "place_rails", defArgs (top 116), defBody (top 116), defScope (top 116), [], []⟩, ⟨("found_order", none), "found_order", "found_order", defArgs (top 118), defBody (top 118), defScope (top 118), [], []⟩, ⟨("found_rank", none), "found_rank", "found_rank", defArgs (top 119), defBody (top 119), defScope (top 119), [], []⟩, ⟨("is_granting", none), "is_granting", "is_granting", defArgs (top 120), defBody (top 120), defScope (top 120), [], []⟩, ⟨("order_count", none), "order_count", "order_count", defArgs (top 121), defBody (top 121), defScope (top 121), [], []⟩, ⟨("least_order", none), "least_order", "least_order", defArgs (top 122), defBody (top 122), defScope (top 122), [], []⟩, ⟨("nth_order", none), "nth_order", "nth_order", defArgs (top 123), defBody (top 123), defScope (top 123), [], []⟩, ⟨("order_rank", none), "order_rank", "order_rank", defArgs (top 124), defBody (top 124), defScope (top 124), [], []⟩, ⟨("ordered_sight", none), "ordered_sight", "ordered_sight", defArgs (top 125), defBody (top 125), defScope (top 125), [], []⟩, ⟨("_law_jar", none), "_law_jar", "_law_jar", defArgs (top 127), defBody (top 127), defScope (top 127), [], []⟩, ⟨("_law_pick", none), "_law_pick", "_law_pick", defArgs (top 128), defBody (top 128), defScope (top 128), [], []⟩, ⟨("_law_device", none), "_law_device", "_law_device", defArgs (top 129), defBody (top 129), defScope (top 129), [], []⟩, ⟨("_law_mixed", none), "_law_mixed", "_law_mixed", defArgs (top 130), defBody (top 130), defScope (top 130), [], []⟩]
def fn3 : List He.DefD := [⟨("_law_scene", none), "_law_scene", "_law_scene", defArgs (top 131), defBody (top 131), defScope (top 131), [], []⟩, ⟨("_law_moment", none), "_law_moment", "_law_moment", defArgs (top 132), defBody (top 132), defScope (top 132), [], []⟩, ⟨("_law_sights_right", none), "_law_sights_right", "_law_sights_right", defArgs (top 133), defBody (top 133), defScope (top 133), [], []⟩, ⟨("_law_rows_right", none), "_law_rows_right", "_law_rows_right", defArgs (top 134), defBody (top 134), defScope (top 134), [], []⟩, ⟨("_law_devices_right", none), "_law_devices_right", "_law_devices_right", defArgs (top 135), defBody (top 135), defScope (top 135), [], []⟩, ⟨("_law_live_right", none), "_law_live_right", "_law_live_right", defArgs (top 136), defBody (top 136), defScope (top 136), [], []⟩, ⟨("law", none), "law", "law", defArgs (top 137), defBody (top 137), defScope (top 137), [], []⟩, ⟨("Runs", some "__init__"), "__init__", "Runs.__init__", defArgs (clM 50 0), defBody (clM 50 0), defScope (clM 50 0), [], []⟩, ⟨("Runs", some "row"), "row", "Runs.row", defArgs (clM 50 1), defBody (clM 50 1), defScope (clM 50 1), [], []⟩, ⟨("Runs", some "found_row"), "found_row", "Runs.found_row", defArgs (clM 50 2), defBody (clM 50 2), defScope (clM 50 2), [], []⟩, ⟨("Circles", some "__init__"), "__init__", "Circles.__init__", defArgs (clM 74 0), defBody (clM 74 0), defScope (clM 74 0), [], []⟩, ⟨("Circles", some "turns_to"), "turns_to", "Circles.turns_to", defArgs (clM 74 3), defBody (clM 74 3), defScope (clM 74 3), [], []⟩, ⟨("Circles", some "turns_for"), "turns_for", "Circles.turns_for", defArgs (clM 74 4), defBody (clM 74 4), defScope (clM 74 4), [], []⟩, ⟨("BallClock", some "__init__"), "__init__", "BallClock.__init__", defArgs (clM 83 0), defBody (clM 83 0), defScope (clM 83 0), [], []⟩, ⟨("BallClock", some "sight_now"), "sight_now", "BallClock.sight_now", defArgs (clM 83 1), defBody (clM 83 1), defScope (clM 83 1), [], []⟩, ⟨("BallClock", some "keep"), "keep", "BallClock.keep", defArgs (clM 83 2), defBody (clM 83 2), defScope (clM 83 2), [], []⟩, ⟨("BallClock", some "run"), "run", "BallClock.run", defArgs (clM 83 4), defBody (clM 83 4), defScope (clM 83 4), [], []⟩, ⟨("BallClock", some "swap"), "swap", "BallClock.swap", defArgs (clM 83 5), defBody (clM 83 5), defScope (clM 83 5), [], []⟩, ⟨("Console", some "__init__"), "__init__", "Console.__init__", defArgs (clM 106 0), defBody (clM 106 0), defScope (clM 106 0), [], []⟩, ⟨("Console", some "set_anew"), "set_anew", "Console.set_anew", defArgs (clM 106 1), defBody (clM 106 1), defScope (clM 106 1), [], []⟩, ⟨("Console", some "change"), "change", "Console.change", defArgs (clM 106 2), defBody (clM 106 2), defScope (clM 106 2), [], []⟩, ⟨("Console", some "answer"), "answer", "Console.answer", defArgs (clM 106 3), defBody (clM 106 3), defScope (clM 106 3), [], []⟩, ⟨("Console", some "execute"), "execute", "Console.execute", defArgs (clM 106 4), defBody (clM 106 4), defScope (clM 106 4), [], []⟩, ⟨("Filling", some "__init__"), "__init__", "Filling.__init__", defArgs (clM 117 0), defBody (clM 117 0), defScope (clM 117 0), [], []⟩, ⟨("Filling", some "ways"), "ways", "Filling.ways", defArgs (clM 117 1), defBody (clM 117 1), defScope (clM 117 1), [], []⟩]
def fn4 : List He.DefD := [⟨("Filling", some "next_ways"), "next_ways", "Filling.next_ways", defArgs (clM 117 2), defBody (clM 117 2), defScope (clM 117 2), [], []⟩, ⟨("Filling", some "ball_ways"), "ball_ways", "Filling.ball_ways", defArgs (clM 117 3), defBody (clM 117 3), defScope (clM 117 3), [], []⟩, ⟨("Filling", some "fill"), "fill", "Filling.fill", defArgs (clM 117 4), defBody (clM 117 4), defScope (clM 117 4), [], []⟩]
def fn : List He.DefD := fn0 ++ fn1 ++ fn2 ++ fn3 ++ fn4
def pr : List He.DefD := [⟨("BallClock", some "sight"), "sight", "BallClock.sight", defArgs (clM 83 9), defBody (clM 83 9), defScope (clM 83 9), [], []⟩, ⟨("BallClock", some "moment"), "moment", "BallClock.moment", defArgs (clM 83 11), defBody (clM 83 11), defScope (clM 83 11), [], []⟩]
def ts : List He.Tab := [(fun K => He.ga K "LETTERS", ["b", "t"]), (fun K => He.ga K "FORMS", ["tick", "run", "swap", "undo", "sight", "counts", "moment", "turn", "period", "when", "spot", "look"])]
def exB (K : PySem.W.Frag) : Bool := He.tupB K "WAYS" [.str "back", .str "through"] && (He.valsB K (He.ga K "LETTERS") [("b", .str "back"), ("t", .str "through")] && (He.valsB K (He.ga K "FORMS") [("run", .int 1), ("swap", .int 2), ("sight", .int 0), ("when", .int 0)] && pr.all fun d => prB K d))
abbrev AlB : Type := He.AlT × (List He.FnW × Bool)
def obsB (K : PySem.W.Frag) : AlB := (He.obsT fa fn ts K, (pr.map fun d => fnA K (pAd K d.at_), exB K))
def valB (w : World) : AlB := (He.valT fn ts w, (pr.map He.DefD.val, true))
def vaD (g : Addr → Option Obj) (a : Addr) : List Addr := match g a with
  | some ⟨_, _, .dict es _, _⟩ => es.toList.flatMap fun e => He.refV e.val
  | _ => []
def nsC (g : Addr → Option Obj) (a : Addr) : List Addr := match g a with
  | some ⟨_, _, .cls cd, _⟩ => [cd.ns]
  | _ => []
def flF (g : Addr → Option Obj) (a : Addr) : List Addr := match g a with
  | some ⟨_, _, .fields vs, _⟩ => vs.toList.flatMap He.refV
  | _ => []
def cdF (g : Addr → Option Obj) (a : Addr) : List Addr := match g a with
  | some ⟨_, _, .func fd, _⟩ => He.refV fd.code
  | _ => []
def asB (g : Addr → Option Obj) : List Addr :=
  let l1 := vaD g mainGlobals
  let l2 := l1.flatMap (nsC g)
  let l3 := l2.flatMap (vaD g)
  let l4 := l3.flatMap (flF g)
  let l5 := l4.flatMap (cdF g)
  mainGlobals :: (l1 ++ (l2 ++ (l3 ++ (l4 ++ (l5 ++ (l3.flatMap (cdF g) ++ l1.flatMap (cdF g)))))))
def hookB : PySem.W.Hook where
  α := AlB
  obs := fun s => obsB (He.frG s.heap.get? (asB s.heap.get?))
  val := fun w => valB w
  says := fun w h => ∃ K : PySem.W.Frag, K.In h ∧ obsB K = valB w
  of := fun _ _ e => ⟨_, He.frG_in, e⟩
  keeps := fun _ _ _ ⟨K, hK, c⟩ k => ⟨K, PySem.W.Frag.In.keeps hK k, c⟩
def obB (s : PySem.W.SharedT) : AlB := obsB (He.frG (HandSHeadRun.getT s) (asB (HandSHeadRun.getT s)))
theorem obB_eq (s : PySem.W.SharedT) : obB s = hookB.obs s.abs := by
  have e : HandSHeadRun.getT s = s.abs.heap.get? := funext (HandSHeadRun.getT_eq s)
  unfold obB
  rw [e]
  rfl

def loose0 : List Str := ["_wall", "BallError", "InvalidBall", "InvalidTick", "InvalidNumber", "Impossible", "NothingToUndo", "InvalidCommand", "InvalidClock", "InvalidSight", "InvalidOrder", "InvalidLook", "InvalidWishes", "InvalidSyntax", "MOST_BALLS", "WAYS", "is_integer", "is_at_least", "is_rail", "clock_fault", "is_ball", "sight_fault", "order_fault", "require_clock", "require_sight", "require_order", "require_ball", "require_tick", "require_at_least", "turn_of"]
def loose1 : List Str := ["digits_of", "DIGIT_SIGNS", "MOST_DIGITS", "LETTERS", "natural_of", "integer_of", "words_of", "joined_balls", "format_clock", "format_sight", "format_order", "rail_of", "parse_clock", "ball_written", "parse_sight", "parse_order", "Runs", "spots_at", "turn_row", "row_cycles", "power_row", "inverse_row", "sight_of", "sight_behind", "ticks_past", "queue_of", "far_sight", "moved_sight", "queue_behind", "sight_at"]
def loose2 : List Str := ["later_sight", "spot_at", "common_divisor", "common_multiple", "inverse_of", "joined_two", "joined_rests", "Circles", "queue_period", "order_period", "tick_of", "is_clock", "first_sight", "turn_ticks", "BallClock", "MOST_SIGHTS", "sent_back", "sight_after", "sight_row", "MOST_ITEMS", "is_item", "require_look", "Turned", "rows_for", "first_fit", "require_alike", "first_unlike", "parting_tick", "FORMS", "clock_values"]
def loose3 : List Str := ["command_values", "value_text", "numbers_text", "Console", "require_balls", "lists_within", "bound_lists", "longest_clock", "MOST_WISHES", "is_wish", "require_wished", "place_rails", "Filling", "found_order", "found_rank", "is_granting", "order_count", "least_order", "nth_order", "order_rank", "ordered_sight", "_law_jar", "_law_pick", "_law_device", "_law_mixed", "_law_scene", "_law_moment", "_law_sights_right", "_law_rows_right", "_law_devices_right"]
def loose4 : List Str := ["_law_live_right"]
def loose : List Str := loose0 ++ loose1 ++ loose2 ++ loose3 ++ loose4
abbrev Rw : PySem.W.OpenRow := PySem.W.OpenLaw.row PySem.Challenge.rw_ballhours_k61_whole_texts_of_all_that_is
abbrev qv : Program := PySem.W.view Rw.prog [137]
end Bh
namespace Bh
open PySem PySem.W PySem.Calls PyProof.Rows HandSHeadRun
theorem facts_false (w : World) (os : OsState) : (HandSHeadRun.endF (HandSHeadRun.stepQ (denQ tabQ) Rw.prog (w.withFollow "special-get-raises" false)) 20000 Rw.prog (w.withFollow "special-get-raises" false) os).map obB = some (valB (w.withFollow "special-get-raises" false)) := by
  kernel_rfl
end Bh
namespace Bh
open PySem PySem.W PySem.Calls PyProof.Rows HandSHeadRun
theorem facts_true (w : World) (os : OsState) : (HandSHeadRun.endF (HandSHeadRun.stepQ (denQ tabQ) Rw.prog (w.withFollow "special-get-raises" true)) 20000 Rw.prog (w.withFollow "special-get-raises" true) os).map obB = some (valB (w.withFollow "special-get-raises" true)) := by
  kernel_rfl
end Bh
namespace Bh
open PySem PySem.W PySem.Calls PyProof.Rows HandSHeadRun
theorem seen_false (w : World) (os : OsState) : (HandSHeadRun.endF (HandSHeadRun.stepQ (denQ tabQ) Rw.prog (w.withFollow "special-get-raises" false)) 20000 Rw.prog (w.withFollow "special-get-raises" false) os).map (fun s => (looksF Rw.prog (boot_heap (w.withFollow "special-get-raises" false).params) s.abs, seenQ qv loose (importedModules Rw.prog.main.body) (fun s => xlAt qv [] s && recOk Rw.toRowW.records s) s.abs)) = some (true, openGood qv loose) := by
  kernel_rfl
end Bh
namespace Bh
open PySem PySem.W PySem.Calls PyProof.Rows HandSHeadRun
theorem seen_true (w : World) (os : OsState) : (HandSHeadRun.endF (HandSHeadRun.stepQ (denQ tabQ) Rw.prog (w.withFollow "special-get-raises" true)) 20000 Rw.prog (w.withFollow "special-get-raises" true) os).map (fun s => (looksF Rw.prog (boot_heap (w.withFollow "special-get-raises" true).params) s.abs, seenQ qv loose (importedModules Rw.prog.main.body) (fun s => xlAt qv [] s && recOk Rw.toRowW.records s) s.abs)) = some (true, openGood qv loose) := by
  kernel_rfl
end Bh
set_option maxHeartbeats 4000000
/-! HY: the run's equation. -/
namespace Bh
open PySem PySem.W PySem.Calls PyProof.Rows
theorem run_f (w : World) : HandSHeadRun.RunEq Rw qv hookB obB 20000 loose (w.withFollow "special-get-raises" false) := by
  unfold HandSHeadRun.RunEq
  intro os
  have h1 := seen_false w os
  have h2 := facts_false w os
  revert h1 h2
  generalize HandSHeadRun.endF (HandSHeadRun.stepQ (HandSHeadRun.denQ HandSHeadRun.tabQ) Rw.prog (w.withFollow "special-get-raises" false)) 20000 Rw.prog (w.withFollow "special-get-raises" false) os = o
  intro h1 h2
  cases o with
  | none => cases h1
  | some s =>
    have e1 := Option.some.inj h1
    have e2 := Option.some.inj h2
    show some (_, _, _) = _
    have e3 := congrArg Prod.fst e1
    have e4 := congrArg Prod.snd e1
    dsimp only at e3 e4
    rw [e3, e4, e2]
    rfl
theorem run_t (w : World) : HandSHeadRun.RunEq Rw qv hookB obB 20000 loose (w.withFollow "special-get-raises" true) := by
  unfold HandSHeadRun.RunEq
  intro os
  have h1 := seen_true w os
  have h2 := facts_true w os
  revert h1 h2
  generalize HandSHeadRun.endF (HandSHeadRun.stepQ (HandSHeadRun.denQ HandSHeadRun.tabQ) Rw.prog (w.withFollow "special-get-raises" true)) 20000 Rw.prog (w.withFollow "special-get-raises" true) os = o
  intro h1 h2
  cases o with
  | none => cases h1
  | some s =>
    have e1 := Option.some.inj h1
    have e2 := Option.some.inj h2
    show some (_, _, _) = _
    have e3 := congrArg Prod.fst e1
    have e4 := congrArg Prod.snd e1
    dsimp only at e3 e4
    rw [e3, e4, e2]
    rfl
theorem runAll (w : World) : HandSHeadRun.RunEq Rw qv hookB obB 20000 loose w :=
  byRow2 "special-get-raises" (P := fun w => HandSHeadRun.RunEq Rw qv hookB obB 20000 loose w) run_f run_t w
end Bh
/-! B1: symbolic states over the hand layer. D: what is known of a value for good; MC: what a cell that may still change holds. -/
namespace Bh
open PySem PySem.Spec PyProof.Rows L2

/-! ### the heap that stays: without the cells at ps, without the instances' own dicts -/
def mi (H : Hp) (ps : List Addr) : Hp := fun a => if a ∈ ps then none else match H a with
  | some (.own _) => none
  | o => o
theorem mi_some {H : Hp} {ps : List Addr} {a : Addr} {o : HO} (h : mi H ps a = some o) : a ∉ ps ∧ H a = some o ∧ ∀ x, o ≠ .own x := by
  unfold mi at h
  split at h
  · cases h
  · rename_i hn
    cases e : H a with
    | none =>
      rw [e] at h
      cases h
    | some u =>
      rw [e] at h
      cases u with
      | own x => cases h
      | _ =>
        cases h
        exact ⟨hn, rfl, fun x q => by cases q⟩
theorem mi_of {H : Hp} {ps : List Addr} {a : Addr} {o : HO} (h : H a = some o) (hn : a ∉ ps) (ho : ∀ x, o ≠ .own x) : mi H ps a = some o := by
  unfold mi
  rw [if_neg hn, h]
  cases o with
  | own x => exact absurd rfl (ho x)
  | _ => rfl
theorem mi_sub {H : Hp} {ps : List Addr} : Same (mi H ps) H := fun _ _ h => (mi_some h).2.1
theorem mi_in {H : Hp} {ps : List Addr} {a : Addr} (h : a ∈ ps) : mi H ps a = none := by
  unfold mi
  rw [if_pos h]
theorem mi_own {H : Hp} {ps : List Addr} {a x : Addr} (h : H a = some (.own x)) : mi H ps a = none := by
  unfold mi
  split
  · rfl
  · rw [h]
theorem mi_none {H : Hp} {ps : List Addr} {a : Addr} (h : H a = none) : mi H ps a = none := by
  unfold mi
  split
  · rfl
  · rw [h]
/-- fewer cells hidden: more stays -/
theorem mi_less {H : Hp} {ps qs : List Addr} (h : ∀ a ∈ qs, a ∈ ps) : Same (mi H ps) (mi H qs) := fun a o e => by
  obtain ⟨h1, h2, h3⟩ := mi_some e
  exact mi_of h2 (fun z => h1 (h a z)) h3

/-! ### descriptors -/
structure D where
  p : Hp → V → Prop
  mono : ∀ {G G' : Hp} {v : V}, Same G G' → p G v → p G' v
class Rp (α : Type) where
  d : α → D
abbrev R {α : Type} [Rp α] (x : α) : D := Rp.d x
def All2 {α β : Type} (r : α → β → Prop) : List α → List β → Prop
  | [], [] => True
  | x :: xs, y :: ys => r x y ∧ All2 r xs ys
  | _, _ => False
theorem All2.imp {α β : Type} {r r' : α → β → Prop} (h : ∀ x y, r x y → r' x y) : ∀ {xs : List α} {ys : List β}, All2 r xs ys → All2 r' xs ys
  | [], [], _ => trivial
  | _ :: _, _ :: _, q => ⟨h _ _ q.1, All2.imp h q.2⟩
  | [], _ :: _, q => q.elim
  | _ :: _, [], q => q.elim
theorem All2.len {α β : Type} {r : α → β → Prop} : ∀ {xs : List α} {ys : List β}, All2 r xs ys → xs.length = ys.length
  | [], [], _ => rfl
  | _ :: _, _ :: _, q => congrArg Nat.succ (All2.len q.2)
  | [], _ :: _, q => q.elim
  | _ :: _, [], q => q.elim
theorem All2.get {α β : Type} {r : α → β → Prop} : ∀ {xs : List α} {ys : List β} {i : Nat} {x : α}, All2 r xs ys → xs[i]? = some x → ∃ y, ys[i]? = some y ∧ r x y
  | [], [], i, x, _, h => by simp at h
  | a :: xs, b :: ys, 0, x, q, h => by
    simp at h
    subst h
    exact ⟨b, rfl, q.1⟩
  | a :: xs, b :: ys, i + 1, x, q, h => by
    obtain ⟨y, h1, h2⟩ := All2.get (i := i) (x := x) q.2 (by simpa using h)
    exact ⟨y, by simpa using h1, h2⟩
  | [], _ :: _, _, _, q, _ => q.elim
  | _ :: _, [], _, _, q, _ => q.elim
theorem All2.get' {α β : Type} {r : α → β → Prop} : ∀ {xs : List α} {ys : List β} {i : Nat} {y : β}, All2 r xs ys → ys[i]? = some y → ∃ x, xs[i]? = some x ∧ r x y
  | [], [], i, x, _, h => by simp at h
  | a :: xs, b :: ys, 0, y, q, h => by
    simp at h
    subst h
    exact ⟨a, rfl, q.1⟩
  | a :: xs, b :: ys, i + 1, y, q, h => by
    obtain ⟨x, h1, h2⟩ := All2.get' (i := i) (y := y) q.2 (by simpa using h)
    exact ⟨x, by simpa using h1, h2⟩
  | [], _ :: _, _, _, q, _ => q.elim
  | _ :: _, [], _, _, q, _ => q.elim
theorem All2.append {α β : Type} {r : α → β → Prop} : ∀ {xs xs' : List α} {ys ys' : List β}, All2 r xs ys → All2 r xs' ys' → All2 r (xs ++ xs') (ys ++ ys')
  | [], _, [], _, _, h => h
  | _ :: _, _, _ :: _, _, q, h => ⟨q.1, All2.append q.2 h⟩
  | [], _, _ :: _, _, q, _ => q.elim
  | _ :: _, _, [], _, q, _ => q.elim
theorem All2.take {α β : Type} {r : α → β → Prop} : ∀ {xs : List α} {ys : List β} (n : Nat), All2 r xs ys → All2 r (xs.take n) (ys.take n)
  | [], [], n, _ => by simp [All2]
  | _ :: _, _ :: _, 0, _ => trivial
  | _ :: _, _ :: _, n + 1, q => ⟨q.1, All2.take n q.2⟩
  | [], _ :: _, _, q => q.elim
  | _ :: _, [], _, q => q.elim
theorem All2.drop {α β : Type} {r : α → β → Prop} : ∀ {xs : List α} {ys : List β} (n : Nat), All2 r xs ys → All2 r (xs.drop n) (ys.drop n)
  | [], [], n, _ => by simp [All2]
  | _ :: _, _ :: _, 0, q => q
  | _ :: _, _ :: _, n + 1, q => All2.drop n q.2
  | [], _ :: _, _, q => q.elim
  | _ :: _, [], _, q => q.elim
theorem All2.set {α β : Type} {r : α → β → Prop} {x : α} {y : β} (h : r x y) : ∀ {xs : List α} {ys : List β} (n : Nat), All2 r xs ys → All2 r (xs.set n x) (ys.set n y)
  | [], [], n, _ => by simp [All2]
  | _ :: _, _ :: _, 0, q => ⟨h, q.2⟩
  | _ :: _, _ :: _, n + 1, q => ⟨q.1, All2.set h n q.2⟩
  | [], _ :: _, _, q => q.elim
  | _ :: _, [], _, q => q.elim
theorem All2.rev {α β : Type} {r : α → β → Prop} : ∀ {xs : List α} {ys : List β}, All2 r xs ys → All2 r xs.reverse ys.reverse
  | [], [], _ => trivial
  | x :: xs, y :: ys, q => by
    rw [List.reverse_cons, List.reverse_cons]
    exact (All2.rev q.2).append ⟨q.1, trivial⟩
  | [], _ :: _, q => q.elim
  | _ :: _, [], q => q.elim
theorem All2.map_eq {α β : Type} {f : α → β} : ∀ {xs : List α} {ys : List β}, All2 (fun x y => y = f x) xs ys → ys = xs.map f
  | [], [], _ => rfl
  | x :: xs, y :: ys, q => by
    rw [List.map_cons, q.1, All2.map_eq q.2]
  | [], _ :: _, q => q.elim
  | _ :: _, [], q => q.elim
theorem All2.of_map {α β : Type} {f : α → β} : ∀ (xs : List α), All2 (fun x y => y = f x) xs (xs.map f)
  | [] => trivial
  | x :: xs => ⟨rfl, All2.of_map xs⟩

def dV (v : V) : D := ⟨fun _ u => u = v, fun _ h => h⟩
instance : Rp Int := ⟨fun i => dV (.int i)⟩
instance : Rp Bool := ⟨fun i => dV (.bl i)⟩
instance : Rp Str := ⟨fun i => dV (.str i)⟩
instance : Rp Unit := ⟨fun _ => dV .non⟩
instance : Rp V := ⟨dV⟩
def dL (ds : List D) : D := ⟨fun G v => ∃ a vs, v = .ref a ∧ G a = some (.lst vs) ∧ All2 (fun (d : D) u => d.p G u) ds vs, fun s ⟨a, vs, h1, h2, h3⟩ => ⟨a, vs, h1, s _ _ h2, h3.imp fun d _ q => d.mono s q⟩⟩
def dT (ds : List D) : D := ⟨fun G v => ∃ a vs, v = .ref a ∧ G a = some (.tup vs) ∧ All2 (fun (d : D) u => d.p G u) ds vs, fun s ⟨a, vs, h1, h2, h3⟩ => ⟨a, vs, h1, s _ _ h2, h3.imp fun d _ q => d.mono s q⟩⟩
instance {α : Type} [Rp α] : Rp (List α) := ⟨fun xs => dL (xs.map fun x => R x)⟩
instance {α β : Type} [Rp α] [Rp β] : Rp (α × β) := ⟨fun x => dT [R x.1, R x.2]⟩
instance {α : Type} [Rp α] : Rp (Option α) := ⟨fun o => match o with | none => dV .non | some a => R a⟩
/-- a tuple of like items -/
structure Tup (α : Type) where
  l : List α
  deriving DecidableEq
instance {α : Type} [Rp α] : Rp (Tup α) := ⟨fun x => dT (x.l.map fun x => R x)⟩
/-- anything at all -/
def dAny : D := ⟨fun _ _ => True, fun _ h => h⟩
/-- the object at p, a cell that may change -/
def dAt (p : Addr) : D := dV (.ref p)

/-! ### cells -/
structure MC where
  p : Hp → HO → Prop
  mono : ∀ {G G' : Hp} {o : HO}, Same G G' → p G o → p G' o
  mu : ∀ {G : Hp} {o : HO}, p G o → Mut (some o)
abbrev MS := List (Addr × MC)
abbrev Ds := List (Nat × D)
abbrev ads (ms : MS) : List Addr := ms.map (·.1)
def mL (ds : List D) : MC := ⟨fun G o => ∃ vs, o = .lst vs ∧ All2 (fun (d : D) u => d.p G u) ds vs, fun s ⟨vs, h1, h2⟩ => ⟨vs, h1, h2.imp fun d _ q => d.mono s q⟩, fun ⟨vs, h1, _⟩ => by rw [h1]; trivial⟩
abbrev mR {α : Type} [Rp α] (xs : List α) : MC := mL (xs.map fun x => R x)

/-! ### states -/
def Ce (ms : MS) (G H : Hp) : Prop := ∀ q ∈ ms, ∃ o, H q.1 = some o ∧ q.2.p G o
structure Sy (ds : Ds) (ms : MS) (σ : L2.St) (H : Hp) : Prop where
  sl : ∀ i d, ds.lookup i = some d → i < σ.length → ∃ v, σ[i]? = some (some v) ∧ d.p (mi H (ads ms)) v
  nd : (ads ms).Nodup
  ce : Ce ms (mi H (ads ms)) H
/-- from H to H': what stays stays, the cells at ps are as they were -/
structure Ex (ps : List Addr) (H H' : Hp) : Prop where
  g : Same (mi H ps) (mi H' ps)
  c : ∀ p ∈ ps, H' p = H p
theorem Ex.refl (ps : List Addr) (H : Hp) : Ex ps H H := ⟨Same.refl _, fun _ _ => rfl⟩
theorem Ex.trans {ps : List Addr} {H H1 H2 : Hp} (a : Ex ps H H1) (b : Ex ps H1 H2) : Ex ps H H2 := ⟨a.g.trans b.g, fun p h => (b.c p h).trans (a.c p h)⟩
theorem Sy.ex {ds : Ds} {ms : MS} {σ : L2.St} {H H' : Hp} (s : Sy ds ms σ H) (e : Ex (ads ms) H H') : Sy ds ms σ H' :=
  ⟨fun i d h hl => let ⟨v, h1, h2⟩ := s.sl i d h hl; ⟨v, h1, d.mono e.g h2⟩, s.nd, fun q hq => let ⟨o, h1, h2⟩ := s.ce q hq; ⟨o, (e.c q.1 (List.mem_map_of_mem hq)).trans h1, q.2.mono e.g h2⟩⟩
theorem Ce.there {ms : MS} {G H : Hp} (c : Ce ms G H) {p : Addr} (h : p ∈ ads ms) : H p ≠ none := by
  obtain ⟨q, hq, e⟩ := List.mem_map.mp h
  obtain ⟨o, h1, _⟩ := c q hq
  rw [← e, h1]
  exact fun z => by cases z
/-- a new object, for good -/
theorem Ex.new {ps : List Addr} {H : Hp} {q : Addr} {o : HO} (hp : ∀ p ∈ ps, H p ≠ none) (hq : H q = none) : Ex ps H (upd H q o) := by
  refine ⟨fun a u e => ?_, fun p h => upd_ne fun z => hp p h (by rw [z]; exact hq)⟩
  obtain ⟨h1, h2, h3⟩ := mi_some e
  exact mi_of (by rw [upd_ne (ne_of_none h2 hq)]; exact h2) h1 h3
theorem mi_new {ps : List Addr} {H : Hp} {q : Addr} {o : HO} (hp : ∀ p ∈ ps, H p ≠ none) (hq : H q = none) (ho : ∀ x, o ≠ .own x) : mi (upd H q o) ps q = some o :=
  mi_of upd_same (fun z => hp q z hq) ho
theorem Sy.new {ds : Ds} {ms : MS} {σ : L2.St} {H : Hp} (s : Sy ds ms σ H) {q : Addr} {o : HO} (hq : H q = none) : Ex (ads ms) H (upd H q o) := Ex.new (fun _ h => s.ce.there h) hq

/-! ### what is wanted, as a reading -/
section
variable (X : Cx)
def wE (e : Expr) : TE := fun σ H Q => ∀ (pins : List (Addr × Obj)) (s : Shared), Inv X pins σ H s → wpAny (model X.prog X.w) X.A (eval e X.env) (EP X pins σ Q) X.xe s
def wA (es : List Expr) : TA := fun σ H Q => ∀ (pos : Pos) (pins : List (Addr × Obj)) (s : Shared), Inv X pins σ H s → wpAny (model X.prog X.w) X.A (spliced (backTo pos (starEach es X.env))) (AP X pins σ Q) X.xe s
def wT (e : Expr) : TT := fun σ H Q => ∀ (pins : List (Addr × Obj)) (s : Shared), Inv X pins σ H s → wpAny (model X.prog X.w) X.A (isTrue e X.env (eval e X.env)) (TP X pins σ Q) X.xe s
def wS (st : Stmt) : TS := fun D σ H => ∀ (pins : List (Addr × Obj)) (s : Shared), Inv X pins σ H s → wpAny (model X.prog X.w) X.A (exec st X.env) (SP X pins D) X.xe s
def wSs (st : List Stmt) : TS := fun D σ H => ∀ (pins : List (Addr × Obj)) (s : Shared), Inv X pins σ H s → wpAny (model X.prog X.w) X.A (execs st X.env) (SP X pins D) X.xe s
end
section
variable {X : Cx}
theorem wE_ok (e : Expr) : PE X e (wE X e) := ⟨fun pins s _ _ _ I h => h pins s I⟩
theorem wA_ok (e : List Expr) : PA X e (wA X e) := ⟨fun pos pins s _ _ _ I h => h pos pins s I⟩
theorem wT_ok (e : Expr) : PT X e (wT X e) := ⟨fun pins s _ _ _ I h => h pins s I⟩
theorem wS_ok (e : Stmt) : PS X e (wS X e) := ⟨fun pins s _ _ _ I h => h pins s I⟩
theorem wSs_ok (e : List Stmt) : PSs X e (wSs X e) := ⟨fun pins s _ _ _ I h => h pins s I⟩
theorem wE_of {e : Expr} {t : TE} (h : PE X e t) {σ : L2.St} {H : Hp} {Q : VK} (q : t σ H Q) : wE X e σ H Q := fun pins s I => h.run pins s σ H Q I q
theorem wA_of {e : List Expr} {t : TA} (h : PA X e t) {σ : L2.St} {H : Hp} {Q : List V → Hp → Prop} (q : t σ H Q) : wA X e σ H Q := fun pos pins s I => h.run pos pins s σ H Q I q
theorem wT_of {e : Expr} {t : TT} (h : PT X e t) {σ : L2.St} {H : Hp} {Q : Bool → Hp → Prop} (q : t σ H Q) : wT X e σ H Q := fun pins s I => h.run pins s σ H Q I q
theorem wS_of {e : Stmt} {t : TS} (h : PS X e t) {σ : L2.St} {H : Hp} {Q : Ends} (q : t Q σ H) : wS X e Q σ H := fun pins s I => h.run pins s σ H Q I q
theorem wSs_of {e : List Stmt} {t : TS} (h : PSs X e t) {σ : L2.St} {H : Hp} {Q : Ends} (q : t Q σ H) : wSs X e Q σ H := fun pins s I => h.run pins s σ H Q I q
end

/-! ### the judgements of expressions -/
section
variable (X : Cx) (ds : Ds) (ms : MS)
/-- e gives what d says, leaving the cells as they are -/
def DE (e : Expr) (d : D) : Prop := ∀ σ H, Sy ds ms σ H → ∀ Q : VK, (∀ v H', Ex (ads ms) H H' → d.p (mi H' (ads ms)) v → Q v H') → wE X e σ H Q
def DA (es : List Expr) (dl : List D) : Prop := ∀ σ H, Sy ds ms σ H → ∀ Q : List V → Hp → Prop, (∀ vs H', Ex (ads ms) H H' → All2 (fun (d : D) u => d.p (mi H' (ads ms)) u) dl vs → Q vs H') → wA X es σ H Q
def DB (e : Expr) (b : Bool) : Prop := ∀ σ H, Sy ds ms σ H → ∀ Q : Bool → Hp → Prop, (∀ H', Ex (ads ms) H H' → Q b H') → wT X e σ H Q
/-- e gives a list that may be read: one for good, or a cell -/
def DR (e : Expr) (dl : List D) : Prop := ∀ σ H, Sy ds ms σ H → ∀ Q : VK, (∀ a vs H', Ex (ads ms) H H' → H' a = some (.lst vs) → All2 (fun (d : D) u => d.p (mi H' (ads ms)) u) dl vs → (mi H' (ads ms) a = some (.lst vs) ∨ a ∈ ads ms) → Q (.ref a) H') → wE X e σ H Q
end

/-! ### states of a body: what holds behind the entry -/
structure Sg (G0 : Hp) (ds : Ds) (ms : MS) (σ : L2.St) (H : Hp) : Prop where
  s : Sy ds ms σ H
  a : Same G0 (mi H (ads ms))
structure Rg (G0 : Hp) (d : D) (ms : MS) (v : V) (H : Hp) : Prop where
  v : d.p (mi H (ads ms)) v
  nd : (ads ms).Nodup
  ce : Ce ms (mi H (ads ms)) H
  a : Same G0 (mi H (ads ms))
/-- what is wanted behind statements: sets of states -/
structure SE where
  nx : Ds → MS → Prop
  rt : D → MS → Prop
  bk : Ds → MS → Prop := fun _ _ => False
  ct : Ds → MS → Prop := fun _ _ => False
def SE.sem (G0 : Hp) (E : SE) : Ends where
  nx := fun σ H => ∃ ds ms, E.nx ds ms ∧ Sg G0 ds ms σ H
  rt := fun v H => ∃ d ms, E.rt d ms ∧ Rg G0 d ms v H
  bk := fun σ H => ∃ ds ms, E.bk ds ms ∧ Sg G0 ds ms σ H
  ct := fun σ H => ∃ ds ms, E.ct ds ms ∧ Sg G0 ds ms σ H
def DS (X : Cx) (ds : Ds) (ms : MS) (sts : List Stmt) (E : SE) : Prop := ∀ G0 σ H, Sg G0 ds ms σ H → wSs X sts (E.sem G0) σ H
def D1 (X : Cx) (ds : Ds) (ms : MS) (st : Stmt) (E : SE) : Prop := ∀ G0 σ H, Sg G0 ds ms σ H → wS X st (E.sem G0) σ H
theorem Sg.ex {G0 : Hp} {ds : Ds} {ms : MS} {σ : L2.St} {H H' : Hp} (s : Sg G0 ds ms σ H) (e : Ex (ads ms) H H') : Sg G0 ds ms σ H' := ⟨s.s.ex e, s.a.trans e.g⟩
theorem Sg.an {G0 G1 : Hp} {ds : Ds} {ms : MS} {σ : L2.St} {H : Hp} (s : Sg G1 ds ms σ H) (e : Same G0 G1) : Sg G0 ds ms σ H := ⟨s.s, e.trans s.a⟩

/-! ### one statement behind another -/
section
variable {X : Cx} {ds ds' : Ds} {ms ms' : MS} {E : SE}
theorem d_cons {st : Stmt} {rest : List Stmt} (h : D1 X ds ms st { E with nx := fun ds' ms' => DS X ds' ms' rest E }) : DS X ds ms (st :: rest) E := fun G0 σ H s => by
  refine wSs_of (pss_cons (wS_ok st) (wSs_ok rest)) ?_
  show wS X st { E.sem G0 with nx := fun σ' H' => wSs X rest (E.sem G0) σ' H' } σ H
  intro pins sh I
  refine wpAny_mono (h G0 σ H s pins sh I) (fun f s' q => ?_) fun _ _ q => q
  cases f with
  | next =>
    obtain ⟨σ', H', I', ds', ms', k, sg⟩ := q
    exact ⟨σ', H', I', k G0 σ' H' sg⟩
  | ret v => exact q
  | brk => exact q
  | cont => exact q
theorem d_nil (h : E.nx ds ms) : DS X ds ms [] E := fun _ _ _ s => wSs_of pss_nil ⟨ds, ms, h, s⟩
/-- a state that says less -/
structure Wk (ds : Ds) (ms : MS) (ds' : Ds) (ms' : MS) : Prop where
  d : ∀ i d, ds'.lookup i = some d → ds.lookup i = some d
  m : ∃ l, l.Perm ms ∧ ms'.Sublist l
def WkL (ds : Ds) : Ds → Prop
  | [] => True
  | (i, d) :: r => ds.lookup i = some d ∧ WkL ds r
theorem WkL.ok {ds : Ds} : ∀ {ds' : Ds}, WkL ds ds' → ∀ i d, ds'.lookup i = some d → ds.lookup i = some d
  | (j, e) :: r, h, i, d, q => by
    have q2 : (match i == j with | true => some e | false => r.lookup i) = some d := q
    cases hb : i == j with
    | true =>
      rw [hb] at q2
      cases q2
      rw [beq_iff_eq.mp hb]
      exact h.1
    | false =>
      rw [hb] at q2
      exact WkL.ok h.2 i d q2
theorem Wk.less {ds ds' : Ds} {ms ms' : MS} (h : WkL ds ds') (hs : ms'.Sublist ms) : Wk ds ms ds' ms' := ⟨h.ok, ms, .refl _, hs⟩
theorem Wk.same {ds ds' : Ds} {ms : MS} (h : WkL ds ds') : Wk ds ms ds' ms := ⟨h.ok, ms, .refl _, .refl _⟩
theorem Wk.cells {ds : Ds} {ms ms' : MS} (hs : ms'.Sublist ms) : Wk ds ms ds ms' := ⟨fun _ _ h => h, ms, .refl _, hs⟩
theorem Wk.perm {ds : Ds} {ms ms' : MS} (hs : ms'.Perm ms) : Wk ds ms ds ms' := ⟨fun _ _ h => h, ms', hs, .refl _⟩
theorem Wk.sy {ds ds' : Ds} {ms ms' : MS} (w : Wk ds ms ds' ms') {σ : L2.St} {H : Hp} (s : Sy ds ms σ H) : Sy ds' ms' σ H ∧ Same (mi H (ads ms)) (mi H (ads ms')) := by
  obtain ⟨l, hp, hs⟩ := w.m
  have hpa : (ads l).Perm (ads ms) := hp.map _
  have hsa : (ads ms').Sublist (ads l) := hs.map _
  have e : Same (mi H (ads ms)) (mi H (ads ms')) := mi_less fun a h => hpa.mem_iff.mp (hsa.subset h)
  refine ⟨⟨fun i d h hl => ?_, (hpa.nodup_iff.mpr s.nd).sublist hsa, fun q hq => ?_⟩, e⟩
  · obtain ⟨v, h1, h2⟩ := s.sl i d (w.d i d h) hl
    exact ⟨v, h1, d.mono e h2⟩
  · obtain ⟨o, h1, h2⟩ := s.ce q (hp.mem_iff.mp (hs.subset hq))
    exact ⟨o, h1, q.2.mono e h2⟩
theorem Wk.sg {ds ds' : Ds} {ms ms' : MS} (w : Wk ds ms ds' ms') {G0 : Hp} {σ : L2.St} {H : Hp} (s : Sg G0 ds ms σ H) : Sg G0 ds' ms' σ H :=
  ⟨(w.sy s.s).1, s.a.trans (w.sy s.s).2⟩
theorem d_wk {sts : List Stmt} (w : Wk ds ms ds' ms') (h : DS X ds' ms' sts E) : DS X ds ms sts E := fun G0 σ H s => h G0 σ H (w.sg s)
/-- the end's sets, widened by states that say less -/
def Up (S : Ds → MS → Prop) : Ds → MS → Prop := fun ds ms => ∃ ds' ms', S ds' ms' ∧ Wk ds ms ds' ms'
end
end Bh
/-! B2: the frame rule, promises over symbolic states, defs and calls. -/
namespace Bh
open PySem PySem.Spec PyProof.Rows L2

/-! ### forgetting cells, and having them back -/
def hidB (H : Hp) (R : List Addr) (a : Addr) : Bool := decide (a ∈ R) || match H a with
  | some (.own x) => decide (x ∈ R)
  | _ => false
def fgt (H : Hp) (R : List Addr) : Hp := fun a => if hidB H R a = true then none else H a
def bck (H : Hp) (R : List Addr) (H1 : Hp) : Hp := fun a => if hidB H R a = true then H a else H1 a
theorem hid_in {H : Hp} {R : List Addr} {a : Addr} (h : a ∈ R) : hidB H R a = true := by unfold hidB; simp [h]
theorem hid_own {H : Hp} {R : List Addr} {a x : Addr} (h : H a = some (.own x)) (hx : x ∈ R) : hidB H R a = true := by unfold hidB; simp [h, hx]
theorem hid_cases {H : Hp} {R : List Addr} {a : Addr} (h : hidB H R a = true) : a ∈ R ∨ ∃ x, H a = some (.own x) ∧ x ∈ R := by
  unfold hidB at h
  rcases Bool.or_eq_true_iff.mp h with q | q
  · exact .inl (of_decide_eq_true q)
  · cases e : H a with
    | none => rw [e] at q; cases q
    | some u =>
      rw [e] at q
      cases u with
      | own x => exact .inr ⟨x, rfl, of_decide_eq_true q⟩
      | _ => cases q
theorem fgt_y {H : Hp} {R : List Addr} {a : Addr} (h : hidB H R a = true) : fgt H R a = none := if_pos h
theorem fgt_n {H : Hp} {R : List Addr} {a : Addr} (h : ¬ hidB H R a = true) : fgt H R a = H a := if_neg h
theorem bck_y {H H1 : Hp} {R : List Addr} {a : Addr} (h : hidB H R a = true) : bck H R H1 a = H a := if_pos h
theorem bck_n {H H1 : Hp} {R : List Addr} {a : Addr} (h : ¬ hidB H R a = true) : bck H R H1 a = H1 a := if_neg h
theorem fgt_none {H : Hp} {R : List Addr} {a : Addr} (h : H a = none) : fgt H R a = none := by
  unfold fgt
  split
  · rfl
  · exact h
theorem fgt_some {H : Hp} {R : List Addr} {a : Addr} {o : HO} (h : fgt H R a = some o) : ¬ hidB H R a = true ∧ H a = some o := by
  by_cases q : hidB H R a = true
  · rw [fgt_y q] at h; cases h
  · rw [fgt_n q] at h; exact ⟨q, h⟩
/-- the rest after the cells at ps of what was left: as if all were hidden at once -/
theorem mi_fgt {H : Hp} {R ps : List Addr} : mi (fgt H R) ps = mi H (ps ++ R) := by
  funext a
  unfold mi
  by_cases h1 : a ∈ ps
  · rw [if_pos h1, if_pos (List.mem_append_left _ h1)]
  · by_cases h2 : a ∈ R
    · rw [if_neg h1, if_pos (List.mem_append_right _ h2), fgt_y (hid_in h2)]
    · rw [if_neg h1, if_neg (fun z => (List.mem_append.mp z).elim h1 h2)]
      by_cases q : hidB H R a = true
      · rw [fgt_y q]
        rcases hid_cases q with z | ⟨x, e, _⟩
        · exact absurd z h2
        · rw [e]
      · rw [fgt_n q]
theorem mi_bck {H H1 : Hp} {R ps : List Addr} (h : ∀ a, hidB H R a = true → H1 a = none) : mi (bck H R H1) (ps ++ R) = mi H1 ps := by
  funext a
  unfold mi
  by_cases q : hidB H R a = true
  · rw [bck_y q, h a q]
    rcases hid_cases q with z | ⟨x, e, _⟩
    · rw [if_pos (List.mem_append_right _ z)]
      split <;> rfl
    · rw [e]
      have z : ∀ (c d : Prop) [Decidable c] [Decidable d], (if c then none else none : Option HO) = if d then none else none := by
        intros
        simp
      exact z _ _
  · rw [bck_n q]
    have h2 : a ∉ R := fun z => q (hid_in z)
    by_cases h1 : a ∈ ps
    · rw [if_pos h1, if_pos (List.mem_append_left _ h1)]
    · rw [if_neg h1, if_neg (fun z => (List.mem_append.mp z).elim h1 h2)]

section
variable {P : Program} {w : World} {K : PySem.W.Frag} {mg : Str → Option Value} {base : Heap}
theorem hok_fgt {H : Hp} {R : List Addr} {h : Heap} (mu : ∀ r ∈ R, Mut (H r)) (ok : HOk P w H h) : HOk P w (fgt H R) h := fun a o e => by
  obtain ⟨q, e1⟩ := fgt_some e
  refine (ok a o e1).stay (fun _ _ _ z => z) (fun b z => ?_) fun b xs z => ?_
  · rw [fgt_n]
    · exact z
    · intro y
      rcases hid_cases y with y | ⟨x, e2, hx⟩
      · have := mu b y
        rw [z] at this
        exact this
      · rw [z] at e2
        cases e2
        exact q (hid_in hx)
  · rw [fgt_n]
    · exact z
    · intro y
      rcases hid_cases y with y | ⟨x, e2, hx⟩
      · have := mu b y
        rw [z] at this
        exact this
      · rw [z] at e2
        cases e2
theorem env0_fgt {A : Around} {outer : List Env} {s : Shared} {H : Hp} {R : List Addr} (mu : ∀ r ∈ R, Mut (H r)) (e : Env0 P w K mg base A outer s H) : Env0 P w K mg base A outer s (fgt H R) :=
  ⟨e.frames, e.mod, fun b o q => ⟨(e.bs b o q).1, fgt_none (e.bs b o q).2⟩, e.bsz, e.funs, fun b hb => fgt_none (e.frf b hb), hok_fgt mu e.hok, e.bare⟩
/-- THE FRAME: a promise that is kept without some cells is kept with them; they stay as they are -/
theorem ce_frame {outer : List Env} {H : Hp} {R : List Addr} {s s' : Shared} {Q Q' : VK} {u : Value} (mu : ∀ r ∈ R, Mut (H r)) (ok : HOk P w H s.heap) (frf : ∀ b ∈ frs outer, H b = none)
    (hq : ∀ v H1, (∀ a, hidB H R a = true → H1 a = none) → Q' v H1 → Q v (bck H R H1)) (h : CE outer P w (fgt H R) s Q' u s') : CE outer P w H s Q u s' := by
  obtain ⟨v, H1, os, bare, un, hok, r, q⟩ := h
  have there : ∀ a, hidB H R a = true → ∃ o, H a = some o := fun a ha => by
    rcases hid_cases ha with z | ⟨x, e, _⟩
    · have := mu a z
      cases e : H a with
      | none => rw [e] at this; exact this.elim
      | some o => exact ⟨o, rfl⟩
    · exact ⟨_, e⟩
  have gone : ∀ a, hidB H R a = true → H1 a = none := fun a ha => by
    obtain ⟨o, e⟩ := there a ha
    obtain ⟨ob, hob⟩ : ∃ ob, s.heap.get? a = some ob := by
      have hlt := (ok a o e).lt
      have := ok a o e
      revert this
      cases o with
      | lst xs => exact fun ⟨_, _, _, _, e⟩ => ⟨_, e⟩
      | tup xs => exact fun ⟨_, _, _, ob, e, _⟩ => ⟨_, e⟩
      | dK kvs => exact fun ⟨_, _, _, _, o, _, _, e, _⟩ => ⟨_, e⟩
      | dT kvs => exact fun ⟨_, _, _, _, o, _, _, e, _⟩ => ⟨_, e⟩
      | set S n => exact fun ⟨o, _, _, _, e, _⟩ => ⟨_, e⟩
      | ins C dx fs => exact fun ⟨_, _, _, e, _⟩ => ⟨_, e⟩
      | own y => exact fun ⟨_, e⟩ => ⟨_, e⟩
      | xd fs => exact fun ⟨_, ⟨_, _, _, e, _⟩, _⟩ => ⟨_, e⟩
      | rng lo hi => exact fun ⟨_, _, _, e⟩ => ⟨_, e⟩
      | frz ob u => exact fun ⟨e, _⟩ => ⟨_, e⟩
      | tbl ps => exact fun x => ⟨_, (show s.heap.get? a = some _ from x)⟩
      | met f y => exact fun x => ⟨_, (show s.heap.get? a = some _ from x)⟩
      | ext φ => exact fun ⟨_, ⟨_, e⟩, _⟩ => ⟨_, e⟩
    exact un.free a ob hob (fgt_y ha) (by simp)
  have kept : ∀ a ob, hidB H R a = true → s.heap.get? a = some ob → s'.heap.get? a = some ob := fun a ob ha e => by
    obtain ⟨o, e1⟩ := there a ha
    exact un.keep a ob e (fgt_y ha) (fun z => by rw [frf a z] at e1; cases e1) (by simp)
  have bn : ∀ {b : Addr} {u : HO}, H1 b = some u → bck H R H1 b = some u := fun {b u} z => by
    rw [bck_n]
    · exact z
    · intro y
      rw [gone b y] at z
      cases z
  have nm : ∀ {b : Addr} {u : HO}, H b = some u → ¬ Mut (some u) → (∀ x, u ≠ .own x) → ¬ hidB H R b = true := fun {b u} z m o y => by
    rcases hid_cases y with y | ⟨x, e2, _⟩
    · have := mu b y
      rw [z] at this
      exact m this
    · rw [z] at e2
      cases e2
      exact o x rfl
  refine ⟨v, bck H R H1, os, bare, ⟨fun b o e n hb hx => un.keep b o e (fgt_none n) hb hx, fun b o e n hb hx => un.slot b o e (fgt_none n) hb hx, fun b o e n hx => ?_, un.there, fun b xs e => ?_, fun b ob z e => ?_, fun b z e => ?_⟩, fun a o e => ?_, r, hq v H1 gone q⟩
  · by_cases hb : hidB H R b = true
    · rw [bck_y hb]; exact n
    · rw [bck_n hb]; exact un.free b o e (fgt_none n) hx
  · have hb := nm e (fun z => z) (fun x z => by cases z)
    exact bn (un.tups b xs (by rw [fgt_n hb]; exact e))
  · have hb := nm e (fun z => z) (fun x z => by cases z)
    exact bn (un.frzs b ob z (by rw [fgt_n hb]; exact e))
  · have hb := nm e (fun z => z) (fun x z => by cases z)
    obtain ⟨more, e2⟩ := un.tbls b z (by rw [fgt_n hb]; exact e)
    exact ⟨more, bn e2⟩
  · by_cases ha : hidB H R a = true
    · rw [bck_y ha] at e
      have tupk : ∀ (b : Addr) (xs : List V), H b = some (.tup xs) → bck H R H1 b = some (.tup xs) := fun b xs z => by
        have hb := nm z (fun z => z) (fun x z => by cases z)
        exact bn (un.tups b xs (by rw [fgt_n hb]; exact z))
      by_cases hR : a ∈ R
      · refine (ok a o e).stay (fun b ob hb z => ?_) (fun b z => ?_) tupk
        · rcases hb with hb | hb
          · rw [hb] at z ⊢; exact kept a ob ha z
          · exact kept b ob (hid_own hb hR) z
        · rw [bck_y (hid_own z hR)]; exact z
      · rcases hid_cases ha with z | ⟨x, e2, hx⟩
        · exact absurd z hR
        · rw [e] at e2
          cases e2
          obtain ⟨ob, z⟩ : ∃ ob, s.heap.get? a = some ob := ok a _ e
          exact ⟨ob, kept a ob ha z⟩
    · rw [bck_n ha] at e
      exact (hok a o e).stay (fun _ _ _ z => z) (fun b z => bn z) fun b xs z => bn z
end

/-! ### promises -/
/-- what a def is asked (args: what is known of its arguments, ms: its cells, pre) and what it gives (post: sets of results; the cells stand where they stood) -/
structure Spec (A : Type) where
  args : A → List D
  ms : A → MS := fun _ => []
  pre : A → Prop := fun _ => True
  post : A → D → MS → Prop
def spOf {A : Type} (S : Spec A) : Sp := fun vs H Q _ => ∃ (a : A) (R : List Addr), S.pre a ∧ (ads (S.ms a) ++ R).Nodup ∧ (∀ r ∈ R, Mut (H r)) ∧
  All2 (fun (d : D) u => d.p (mi H (ads (S.ms a) ++ R)) u) (S.args a) vs ∧ Ce (S.ms a) (mi H (ads (S.ms a) ++ R)) H ∧
  ∀ d ms' v H', S.post a d ms' → (ads ms' ++ R).Nodup → Same (mi H (ads (S.ms a) ++ R)) (mi H' (ads ms' ++ R)) → (∀ r ∈ R, H' r = H r) →
    d.p (mi H' (ads ms' ++ R)) v → Ce ms' (mi H' (ads ms' ++ R)) H' → Q v H'
/-- the def's own wants at its entry -/
def seOf {A : Type} (S : Spec A) (a : A) : SE where
  nx := fun _ ms => ∃ ms', S.post a (R ()) ms' ∧ Wk [] ms [] ms'
  rt := fun d ms => ∃ ms', S.post a d ms' ∧ Wk [] ms [] ms'
/-- slots from 0 on -/
def num : Nat → List D → Ds
  | _, [] => []
  | i, d :: r => (i, d) :: num (i + 1) r
theorem num_lookup : ∀ (l : List D) (k i : Nat) (d : D), (num k l).lookup i = some d → k ≤ i ∧ l[i - k]? = some d
  | [], _, _, _, h => by cases h
  | e :: r, k, i, d, h => by
    have h2 : (match i == k with | true => some e | false => (num (k + 1) r).lookup i) = some d := h
    cases q : i == k with
    | true =>
      rw [q] at h2
      have z := beq_iff_eq.mp q
      subst z
      exact ⟨Nat.le_refl _, by rw [Nat.sub_self]; exact h2⟩
    | false =>
      rw [q] at h2
      obtain ⟨h3, h4⟩ := num_lookup r (k + 1) i d h2
      refine ⟨by omega, ?_⟩
      rw [show i - k = (i - (k + 1)) + 1 by omega]
      exact h4
theorem rg_of {ms ms' : MS} (w : Wk [] ms [] ms') {G0 : Hp} {d : D} {v : V} {H : Hp} (h : Rg G0 d ms v H) : Rg G0 d ms' v H := by
  have s : Sy [] ms [] H := ⟨fun i d h _ => (by cases h), h.nd, h.ce⟩
  obtain ⟨s2, e⟩ := w.sy s
  exact ⟨d.mono e h.v, s2.nd, s2.ce, h.a.trans e⟩

section
variable {P : Program} {w : World} {K : PySem.W.Frag} {mg : Str → Option Value} {base : Heap} {x qual : Str} {params : Arguments} {body : List Stmt} {scope : Scope} {f : Addr} {fd : FuncData}
/-- THE RULE of a def: its body from its arguments -/
theorem fn_ok {A : Type} {N ps : List Str} {k : Nat} (S : Spec A) (F : FunD K x qual params body scope [] [] f fd) (sc : FnScope N ps scope) (hlen : ∀ a, (S.args a).length = ps.length)
    (hbody : ∀ (a : A), S.pre a → ∀ (cdv : Value) (A : Around) (outer : List Env) (s : Shared) (H : Hp) (E : XK), Room k (A.deeper (envOfC qual scope s.heap.objs.size f cdv)) →
      DS (cxOf CX0 P w K mg base N qual scope f cdv A outer s H E).nox (num 0 (S.args a)) (S.ms a) body (seOf S a)) :
    FnOk P w K mg base CX0 (k + 1) f fd ps (spOf S) := by
  -- without a frame
  let sp0 : Sp := fun vs H Q _ => ∃ (a : A), S.pre a ∧ (ads (S.ms a)).Nodup ∧ All2 (fun (d : D) u => d.p (mi H (ads (S.ms a))) u) (S.args a) vs ∧ Ce (S.ms a) (mi H (ads (S.ms a))) H ∧
    ∀ d ms' v H', S.post a d ms' → (ads ms').Nodup → Same (mi H (ads (S.ms a))) (mi H' (ads ms')) → d.p (mi H' (ads ms')) v → Ce ms' (mi H' (ads ms')) H' → Q v H'
  have F0 : FnOk P w K mg base CX0 (k + 1) f fd ps sp0 := by
    refine F.ok sc (fun vs H Q E ⟨a, _, _, h, _⟩ => by rw [← h.len]; exact hlen a) (fun cdv A outer s H vs Q E hr ⟨a, pre, nd, hv, ce, hQ⟩ => ?_)
    refine ⟨_, PSs.nox (wSs_ok body), ?_⟩
    have hz := hbody a pre cdv A outer s H E hr
    intro pins sh I
    have sy : Sg (mi H (ads (S.ms a))) (num 0 (S.args a)) (S.ms a) (L2.start N vs) H := by
      refine ⟨⟨fun i d h _ => ?_, nd, ce⟩, Same.refl _⟩
      obtain ⟨_, h2⟩ := num_lookup _ _ _ _ h
      rw [Nat.sub_zero] at h2
      obtain ⟨v, h3, h4⟩ := hv.get h2
      refine ⟨v, ?_, h4⟩
      unfold L2.start
      rw [List.getElem?_append_left (by rw [List.length_map]; exact (List.getElem?_eq_some_iff.mp h3).1), List.getElem?_map, h3]
      rfl
    refine wpAny_mono (hz _ _ _ sy pins sh I) (fun fl s' q => ?_) fun _ _ q => q
    cases fl with
    | next =>
      obtain ⟨σ', H', I', ds', ms', ⟨ms2, k1, k3⟩, sg⟩ := q
      refine ⟨σ', H', I', ?_⟩
      have rg : Rg (mi H (ads (S.ms a))) (R ()) ms' .non H' := ⟨rfl, sg.s.nd, sg.s.ce, sg.a⟩
      have rg2 := rg_of k3 rg
      exact hQ _ ms2 _ H' k1 rg2.nd rg2.a rfl rg2.ce
    | ret v =>
      obtain ⟨v2, σ', H', I', rv, d, ms', ⟨ms2, k1, k3⟩, rg⟩ := q
      refine ⟨v2, σ', H', I', rv, ?_⟩
      have rg2 := rg_of k3 rg
      exact hQ _ ms2 _ H' k1 rg2.nd rg2.a rg2.v rg2.ce
    | brk =>
      obtain ⟨_, _, _, _, _, q, _⟩ := q
      exact q.elim
    | cont =>
      obtain ⟨_, _, _, _, _, q, _⟩ := q
      exact q.elim
  refine ⟨fun vs H Q E ⟨a, _, _, _, _, h, _⟩ => by rw [← h.len]; exact hlen a, fun A outer s H args us vs Q E hr e0 hb hv hsp => ?_⟩
  obtain ⟨a, Rr, pre, nd, mu, hvs, ce, hQ⟩ := hsp
  have mR : ∀ r ∈ Rr, r ∉ ads (S.ms a) := fun r hr hm => (List.nodup_append.mp nd).2.2 r hm r hr rfl
  have ce0 : Ce (S.ms a) (mi (fgt H Rr) (ads (S.ms a))) (fgt H Rr) := fun q hq => by
    obtain ⟨o, h1, h2⟩ := ce q hq
    refine ⟨o, ?_, by rw [mi_fgt]; exact h2⟩
    rw [fgt_n]
    · exact h1
    · intro y
      rcases hid_cases y with y | ⟨z, e, _⟩
      · exact mR _ y (List.mem_map_of_mem hq)
      · have m := q.2.mu h2
        rw [h1] at e
        cases e
        exact m
  refine codeAny_mono (F0.run A outer s (fgt H Rr) args us vs (fun v H1 => (∀ a, hidB H Rr a = true → H1 a = none) → Q v (bck H Rr H1)) E hr (env0_fgt mu e0) hb hv ⟨a, pre, (List.nodup_append.mp nd).1, by rw [mi_fgt]; exact hvs, ce0, fun d ms' v H1 k1 k2 k3 k4 k5 gone => ?_⟩) fun r s' q => ?_
  · rw [mi_fgt] at k3
    have e1 : mi (bck H Rr H1) (ads ms' ++ Rr) = mi H1 (ads ms') := mi_bck gone
    have nd2 : (ads ms' ++ Rr).Nodup := List.nodup_append.mpr ⟨k2, (List.nodup_append.mp nd).2.1, fun x hx y hy e => by
      subst e
      exact k5.there hx (gone x (hid_in hy))⟩
    refine hQ d ms' v (bck H Rr H1) k1 nd2 (by rw [e1]; exact k3) (fun r hr => bck_y (hid_in hr)) (by rw [e1]; exact k4) fun q hq => ?_
    obtain ⟨o, h1, h2⟩ := k5 q hq
    refine ⟨o, ?_, by rw [e1]; exact h2⟩
    rw [bck_n]
    · exact h1
    · intro y
      rw [gone _ y] at h1
      cases h1
  · cases r with
    | error e => exact q
    | ok fl =>
      cases fl with
      | ret u => exact ce_frame mu e0.hok e0.frf (fun v H1 g z => z g) q
      | next => exact q.elim
      | brk => exact q.elim
      | cont => exact q.elim
end
/-- a def of the module, by its name: what it promises, at the level k -/
structure Has (P : Program) (w : World) (K : PySem.W.Frag) (mg : Str → Option Value) (base : Heap) {A : Type} (x : Str) (k : Nat) (S : Spec A) : Prop where
  h : ∃ (f : Addr) (fd : FuncData) (ps : List Str), mg x = some (.ref f) ∧ PySem.W.keepIn K (.ref f) = true ∧ Binds K fd ps [] ∧ FnOk P w K mg base CX0 k f fd ps (spOf S)
abbrev HasX (X : Cx) {A : Type} (x : Str) (k : Nat) (S : Spec A) : Prop := Has X.prog X.w X.K X.mg X.base x k S
section
variable {X : Cx} {ds : Ds} {ms : MS}
/-- a call in a state: its cells at the head, the others are its frame -/
theorem sp_of_state {A : Type} {S : Spec A} (a : A) (pre : S.pre a) {rest : MS} (hp : (S.ms a ++ rest).Perm ms) {H : Hp} {vs : List V} {Q : VK} {E : XK} (nd : (ads ms).Nodup) (ce : Ce ms (mi H (ads ms)) H)
    (hv : All2 (fun (d : D) u => d.p (mi H (ads ms)) u) (S.args a) vs) (hQ : ∀ d ms' v H', S.post a d ms' → (ads (ms' ++ rest)).Nodup → Same (mi H (ads ms)) (mi H' (ads (ms' ++ rest))) → Ce (ms' ++ rest) (mi H' (ads (ms' ++ rest))) H' → (∀ r ∈ ads rest, H' r = H r) → d.p (mi H' (ads (ms' ++ rest))) v → Q v H') : spOf S vs H Q E := by
  have ea : ads (S.ms a) ++ ads rest = ads (S.ms a ++ rest) := (List.map_append ..).symm
  have hpa : (ads (S.ms a ++ rest)).Perm (ads ms) := hp.map _
  have em : mi H (ads (S.ms a ++ rest)) = mi H (ads ms) := by
    funext b
    unfold mi
    simp only [hpa.mem_iff]
  refine ⟨a, ads rest, pre, ?_⟩
  rw [ea, em]
  refine ⟨hpa.nodup_iff.mpr nd, fun r hr => ?_, hv, fun q hq => ce q (hp.mem_iff.mp (List.mem_append_left _ hq)), fun d ms' v H' k1 k2 k3 k4 k5 k6 => ?_⟩
  · obtain ⟨q, hq, e⟩ := List.mem_map.mp hr
    obtain ⟨o, h1, h2⟩ := ce q (hp.mem_iff.mp (List.mem_append_right _ hq))
    rw [← e, h1]
    exact q.2.mu h2
  · rw [← List.map_append] at k2 k3 k5 k6
    refine hQ d ms' v H' k1 k2 k3 (fun q hq => ?_) k4 k5
    rcases List.mem_append.mp hq with hq | hq
    · exact k6 q hq
    · obtain ⟨o, h1, h2⟩ := ce q (hp.mem_iff.mp (List.mem_append_right _ hq))
      exact ⟨o, (k4 q.1 (List.mem_map_of_mem hq)).trans h1, q.2.mono k3 h2⟩
/-- f(e, ..), the def without cells of its own, one result -/
theorem e_call {A : Type} {S : Spec A} {x : Str} {k : Nat} {e : Expr} {es : List Expr} {p pos : Pos} {d : D} (h : HasX X x k S) (hr : Room k X.A) (a : A) (hms : S.ms a = []) (hpost : ∀ d' m, S.post a d' m → d' = d) (ha : DA X ds ms (e :: es) (S.args a)) (pre : S.pre a)
    (hg : Gl X x := by rfl) (hdb : (x == ("__debug__" : Str)) = false := by decide) (he : starEach (e :: es) X.env = (false, eval e X.env) :: starEach es X.env := by rfl) (hpl : (backTo pos (starEach es X.env)).any (·.1) = false := by rfl) :
    DE X ds ms (.Call (.Name x p) (e :: es) [] pos) d := fun σ H s Q hQ => by
  obtain ⟨f, fd, ps, hm, hk, hb, F⟩ := h.h
  refine wE_of (pe_call F hr hg hm hk hb .nil pass0 (wA_ok _) hdb he hpl) ?_
  refine ha σ H s _ fun vs H1 e1 hv => ?_
  have s1 := s.ex e1
  rw [List.append_nil]
  refine sp_of_state (ms := ms) (rest := ms) a pre (by rw [hms]; exact .refl _) s1.nd s1.ce hv fun d' m v H2 k1 k2 k3 k4 k5 k6 => ?_
  obtain rfl := hpost d' _ k1
  have e : Same (mi H2 (ads (m ++ ms))) (mi H2 (ads ms)) := mi_less fun b hb => by
    show b ∈ (m ++ ms).map (·.1)
    rw [List.map_append]; exact List.mem_append_right _ hb
  exact hQ v H2 (e1.trans ⟨k3.trans e, k5⟩) (d'.mono e k6)
end
end Bh
/-! B3: expressions. -/
namespace Bh
open PySem PySem.Spec PyProof.Rows L2
section
variable {X : Cx} {ds : Ds} {ms : MS} {σ : L2.St} {H : Hp} {e a b c : Expr} {es : List Expr} {d da db dc : D} {pos p p2 : Pos}

/-- by a reading -/
theorem e_of {t : TE} (h : PE X e t) (q : ∀ σ H, Sy ds ms σ H → ∀ Q : VK, (∀ v H', Ex (ads ms) H H' → d.p (mi H' (ads ms)) v → Q v H') → t σ H Q) : DE X ds ms e d := fun σ H s Q k => wE_of h (q σ H s Q k)
theorem e_conv {d' : D} (h : DE X ds ms e d) (q : ∀ G v, d.p G v → d'.p G v) : DE X ds ms e d' := fun σ H s Q k => h σ H s Q fun v H' e1 p => k v H' e1 (q _ _ p)
theorem e_eq {d' : D} (h : DE X ds ms e d) (q : d = d') : DE X ds ms e d' := q ▸ h
/-- two in a row -/
theorem two (ha : DE X ds ms a da) (hb : DE X ds ms b db) (s : Sy ds ms σ H) {Rr : V → V → Hp → Prop} (h : ∀ x y H', Ex (ads ms) H H' → da.p (mi H' (ads ms)) x → db.p (mi H' (ads ms)) y → Rr x y H') :
    wE X a σ H fun x H1 => wE X b σ H1 fun y H2 => Rr x y H2 :=
  ha σ H s _ fun x H1 e1 p1 => hb σ H1 (s.ex e1) _ fun y H2 e2 p2 => h x y H2 (e1.trans e2) (da.mono e2.g p1) p2

/-! ### names, constants -/
theorem e_var (i : Nat) {x : Str} (h : ds.lookup i = some d := by rfl) (hN : X.N[i]? = some x := by rfl) (hv : Vis X.env.scope x := by first | exact Or.inl rfl | exact Or.inr (Or.inl rfl) | exact Or.inr (Or.inr rfl)) (hd : (x == ("__debug__" : Str)) = false := by decide)
    (hcd : (x == ("__classdict__" : Str)) = false := by decide) : DE X ds ms (.Name x pos) d := fun σ H s Q k pins sh I => by
  have hl : i < σ.length := by
    rw [I.len]
    exact (List.getElem?_eq_some_iff.mp hN).1
  obtain ⟨v, h1, h2⟩ := s.sl i d h hl
  exact (pe_var hN hv hd hcd).run pins sh σ H Q I ⟨v, h1, k v H (Ex.refl _ _) h2⟩
theorem e_int {i : Int} {j} : DE X ds ms (.Constant (.int i) j pos) (R i) := e_of pe_int fun σ H s Q k => k _ H (Ex.refl _ _) rfl
theorem e_bool {i : Bool} {j} : DE X ds ms (.Constant (.bool i) j pos) (R i) := e_of pe_bl fun σ H s Q k => k _ H (Ex.refl _ _) rfl
theorem e_str {i : Str} {j} : DE X ds ms (.Constant (.str i) j pos) (R i) := e_of pe_str fun σ H s Q k => k _ H (Ex.refl _ _) rfl
theorem e_none {j} : DE X ds ms (.Constant .none j pos) (R ()) := e_of pe_non fun σ H s Q k => k _ H (Ex.refl _ _) rfl
/-- a constant of the module -/
theorem e_glob {x : Str} {v : V} {u : Value} (hm : X.mg x = some u) (r : RelV v u) (hg : Gl X x := by rfl) (hd : (x == ("__debug__" : Str)) = false := by decide) : DE X ds ms (.Name x pos) (dV v) :=
  e_of (pe_glob hg hm r hd) fun σ H s Q k => k _ H (Ex.refl _ _) rfl
theorem e_bltn {x : Str} {v : V} {u : Value} (hm : X.mg x = none) (hv : bootBuiltins x = some u) (r : RelV v u) (hg : Gl X x := by rfl) (hn : x ≠ "__name__" := by decide) (hd : (x == ("__debug__" : Str)) = false := by decide) : DE X ds ms (.Name x pos) (dV v) :=
  e_of (pe_bltn hg hm hv r hn hd) fun σ H s Q k => k _ H (Ex.refl _ _) rfl

/-! ### operators -/
theorem e_op {op : Operator} {r : R2} (ho : OpR X (binaryOp op) r) (ha : DE X ds ms a da) (hb : DE X ds ms b db)
    (hr : ∀ σ H x y, Sy ds ms σ H → da.p (mi H (ads ms)) x → db.p (mi H (ads ms)) y → ∀ Q : VK, (∀ v H', Ex (ads ms) H H' → d.p (mi H' (ads ms)) v → Q v H') → r x y H Q) : DE X ds ms (.BinOp a op b pos) d :=
  e_of (pe_op ho (wE_ok a) (wE_ok b)) fun σ H s Q k => two ha hb s fun x y H1 e1 p1 p2 => hr σ H1 x y (s.ex e1) p1 p2 Q fun v H2 e2 q => k v H2 (e1.trans e2) q
theorem e_cmp {op : CmpOp} {r : R2} (ho : OpR X (compareOp op) r) (ha : DE X ds ms a da) (hb : DE X ds ms b db)
    (hr : ∀ σ H x y, Sy ds ms σ H → da.p (mi H (ads ms)) x → db.p (mi H (ads ms)) y → ∀ Q : VK, (∀ v H', Ex (ads ms) H H' → d.p (mi H' (ads ms)) v → Q v H') → r x y H Q) (hm : behindInMarks op b = false := by rfl) : DE X ds ms (.Compare a [op] [b] pos) d :=
  e_of (pe_cmpR ho (wE_ok a) (wE_ok b) hm) fun σ H s Q k => two ha hb s fun x y H1 e1 p1 p2 => hr σ H1 x y (s.ex e1) p1 p2 Q fun v H2 e2 q => k v H2 (e1.trans e2) q
theorem b_cmp {op : CmpOp} {r : R2} {k : Bool} (ho : OpR X (compareOp op) r) (ha : DE X ds ms a da) (hb : DE X ds ms b db)
    (hr : ∀ σ H x y, Sy ds ms σ H → da.p (mi H (ads ms)) x → db.p (mi H (ads ms)) y → ∀ Q : VK, (∀ v H', Ex (ads ms) H H' → (R k).p (mi H' (ads ms)) v → Q v H') → r x y H Q) (hm : behindInMarks op b = false := by rfl) : DB X ds ms (.Compare a [op] [b] pos) k := fun σ H s Q q =>
  wT_of (pt_cmpR ho (wE_ok a) (wE_ok b) hm) (two ha hb s fun x y H1 e1 p1 p2 => hr σ H1 x y (s.ex e1) p1 p2 _ fun v H2 e2 z => ⟨k, z, q H2 (e1.trans e2)⟩)
theorem b_val {k : Bool} (h : DE X ds ms e (R k)) (he : ∀ whole, isTrue e X.env whole = (do let v ← whole; standAt e.pos; holding [v] (truthy v)) := by intro _; rfl) : DB X ds ms e k := fun σ H s Q q =>
  wT_of (pt_val (wE_ok e) he) (h σ H s _ fun v H1 e1 p => ⟨k, p, q H1 e1⟩)

/-- ints -/
theorem r_I {C : Int → Int → Prop} {g : Int → Int → V} {i j : Int} {x y : V} (hc : C i j) (h1 : x = .int i) (h2 : y = .int j) {H : Hp} {Q : VK} (q : Q (g i j) H) : rI C g x y H Q := ⟨i, j, h1, h2, hc, q⟩
section
variable {i j : Int}
theorem e_opI {op : Operator} {C : Int → Int → Prop} {g : Int → Int → Int} (ho : OpR X (binaryOp op) (rI C fun i j => .int (g i j))) (ha : DE X ds ms a (R i)) (hb : DE X ds ms b (R j)) (hc : C i j) : DE X ds ms (.BinOp a op b pos) (R (g i j)) :=
  e_op ho ha hb fun σ H x y s h1 h2 Q k => ⟨i, j, h1, h2, hc, k _ H (Ex.refl _ _) rfl⟩
theorem e_opI0 {op : Operator} {g : Int → Int → Int} (ho : OpR X (binaryOp op) (rI0 fun i j => .int (g i j))) (ha : DE X ds ms a (R i)) (hb : DE X ds ms b (R j)) : DE X ds ms (.BinOp a op b pos) (R (g i j)) :=
  e_op ho ha hb fun σ H x y s h1 h2 Q k => ⟨i, j, h1, h2, k _ H (Ex.refl _ _) rfl⟩
theorem e_add (ha : DE X ds ms a (R i)) (hb : DE X ds ms b (R j)) : DE X ds ms (.BinOp a .Add b pos) (R (i + j)) := e_opI0 (g := fun i j => i + j) op_add ha hb
theorem e_sub (ha : DE X ds ms a (R i)) (hb : DE X ds ms b (R j)) : DE X ds ms (.BinOp a .Sub b pos) (R (i - j)) := e_opI0 (g := fun i j => i - j) op_sub ha hb
theorem e_mul (ha : DE X ds ms a (R i)) (hb : DE X ds ms b (R j)) (hc : CMul i j) : DE X ds ms (.BinOp a .Mult b pos) (R (i * j)) := e_opI (g := fun i j => i * j) op_mul ha hb hc
theorem e_fdiv (ha : DE X ds ms a (R i)) (hb : DE X ds ms b (R j)) (hc : CDiv i j) : DE X ds ms (.BinOp a .FloorDiv b pos) (R (i / j)) := e_opI (g := fun i j => i / j) op_fdiv ha hb hc
theorem e_mod (ha : DE X ds ms a (R i)) (hb : DE X ds ms b (R j)) (hc : 0 < j) : DE X ds ms (.BinOp a .Mod b pos) (R (i % j)) := e_opI (C := fun _ j => 0 < j) (g := fun i j => i % j) op_mod ha hb hc
theorem e_pow (ha : DE X ds ms a (R i)) (hb : DE X ds ms b (R j)) (hc : CPow i j) : DE X ds ms (.BinOp a .Pow b pos) (R (i ^ j.toNat)) := e_opI (g := fun i j => i ^ j.toNat) op_pow ha hb hc
theorem e_neg (ha : DE X ds ms a (R i)) : DE X ds ms (.UnaryOp .USub a pos) (R (-i)) := e_of (pe_un un_neg (wE_ok a)) fun σ H s Q k => ha σ H s _ fun x H1 e1 p => ⟨i, p, k _ H1 e1 rfl⟩
theorem e_cmpI {op : CmpOp} {g : Int → Int → Bool} (ho : OpR X (compareOp op) (rI0 fun i j => .bl (g i j))) (ha : DE X ds ms a (R i)) (hb : DE X ds ms b (R j)) (hm : behindInMarks op b = false := by rfl) : DE X ds ms (.Compare a [op] [b] pos) (R (g i j)) :=
  e_cmp ho ha hb (fun σ H x y s h1 h2 Q k => ⟨i, j, h1, h2, k _ H (Ex.refl _ _) rfl⟩) hm
theorem b_cmpI {op : CmpOp} {g : Int → Int → Bool} (ho : OpR X (compareOp op) (rI0 fun i j => .bl (g i j))) (ha : DE X ds ms a (R i)) (hb : DE X ds ms b (R j)) (hm : behindInMarks op b = false := by rfl) : DB X ds ms (.Compare a [op] [b] pos) (g i j) :=
  b_cmp ho ha hb (fun σ H x y s h1 h2 Q k => ⟨i, j, h1, h2, k _ H (Ex.refl _ _) rfl⟩) hm
theorem e_lt (ha : DE X ds ms a (R i)) (hb : DE X ds ms b (R j)) : DE X ds ms (.Compare a [.Lt] [b] pos) (R (decide (i < j))) := e_cmpI (g := fun i j => decide (i < j)) op_lt ha hb (nomark _)
theorem e_le (ha : DE X ds ms a (R i)) (hb : DE X ds ms b (R j)) : DE X ds ms (.Compare a [.LtE] [b] pos) (R (decide (i ≤ j))) := e_cmpI (g := fun i j => decide (i ≤ j)) op_le ha hb (nomark _)
theorem e_gt (ha : DE X ds ms a (R i)) (hb : DE X ds ms b (R j)) : DE X ds ms (.Compare a [.Gt] [b] pos) (R (decide (j < i))) := e_cmpI (g := fun i j => decide (j < i)) op_gt ha hb (nomark _)
theorem e_ge (ha : DE X ds ms a (R i)) (hb : DE X ds ms b (R j)) : DE X ds ms (.Compare a [.GtE] [b] pos) (R (decide (j ≤ i))) := e_cmpI (g := fun i j => decide (j ≤ i)) op_ge ha hb (nomark _)
theorem b_lt (ha : DE X ds ms a (R i)) (hb : DE X ds ms b (R j)) : DB X ds ms (.Compare a [.Lt] [b] pos) (decide (i < j)) := b_cmpI (g := fun i j => decide (i < j)) op_lt ha hb (nomark _)
theorem b_le (ha : DE X ds ms a (R i)) (hb : DE X ds ms b (R j)) : DB X ds ms (.Compare a [.LtE] [b] pos) (decide (i ≤ j)) := b_cmpI (g := fun i j => decide (i ≤ j)) op_le ha hb (nomark _)
theorem b_gt (ha : DE X ds ms a (R i)) (hb : DE X ds ms b (R j)) : DB X ds ms (.Compare a [.Gt] [b] pos) (decide (j < i)) := b_cmpI (g := fun i j => decide (j < i)) op_gt ha hb (nomark _)
theorem b_ge (ha : DE X ds ms a (R i)) (hb : DE X ds ms b (R j)) : DB X ds ms (.Compare a [.GtE] [b] pos) (decide (j ≤ i)) := b_cmpI (g := fun i j => decide (j ≤ i)) op_ge ha hb (nomark _)
end
/-- equality of ints, bools, texts -/
class Sc (α : Type) [Rp α] [DecidableEq α] where
  sv : α → V
  eq : ∀ (x : α) G v, (R x).p G v ↔ v = sv x
  ok : ∀ x y, scal (sv x) (sv y) = true
  inj : ∀ x y, sv x = sv y ↔ x = y
instance : Sc Int := ⟨.int, fun _ _ _ => Iff.rfl, fun _ _ => rfl, fun _ _ => ⟨fun h => V.int.inj h, fun h => h ▸ rfl⟩⟩
instance : Sc Bool := ⟨.bl, fun _ _ _ => Iff.rfl, fun _ _ => rfl, fun _ _ => ⟨fun h => V.bl.inj h, fun h => h ▸ rfl⟩⟩
instance : Sc Str := ⟨.str, fun _ _ _ => Iff.rfl, fun _ _ => rfl, fun _ _ => ⟨fun h => V.str.inj h, fun h => h ▸ rfl⟩⟩
section
variable {α : Type} [Rp α] [DecidableEq α] [Sc α] {i j : α}
theorem sc_dec : decide (Sc.sv i = Sc.sv j) = decide (i = j) := decide_eq_decide.mpr (Sc.inj i j)
theorem e_eqS (ha : DE X ds ms a (R i)) (hb : DE X ds ms b (R j)) : DE X ds ms (.Compare a [.Eq] [b] pos) (R (decide (i = j))) :=
  e_cmp op_eq ha hb (hm := nomark _) fun σ H x y s h1 h2 Q k => by
    rw [Sc.eq] at h1 h2
    subst h1 h2
    refine ⟨Sc.ok i j, ?_⟩
    rw [sc_dec]
    exact k _ H (Ex.refl _ _) rfl
theorem e_neS (ha : DE X ds ms a (R i)) (hb : DE X ds ms b (R j)) : DE X ds ms (.Compare a [.NotEq] [b] pos) (R (!decide (i = j))) :=
  e_cmp op_ne ha hb (hm := nomark _) fun σ H x y s h1 h2 Q k => by
    rw [Sc.eq] at h1 h2
    subst h1 h2
    refine ⟨Sc.ok i j, ?_⟩
    rw [sc_dec]
    exact k _ H (Ex.refl _ _) rfl
theorem b_eqS (ha : DE X ds ms a (R i)) (hb : DE X ds ms b (R j)) : DB X ds ms (.Compare a [.Eq] [b] pos) (decide (i = j)) :=
  b_cmp op_eq ha hb (hm := nomark _) fun σ H x y s h1 h2 Q k => by
    rw [Sc.eq] at h1 h2
    subst h1 h2
    refine ⟨Sc.ok i j, ?_⟩
    rw [sc_dec]
    exact k _ H (Ex.refl _ _) rfl
theorem b_neS (ha : DE X ds ms a (R i)) (hb : DE X ds ms b (R j)) : DB X ds ms (.Compare a [.NotEq] [b] pos) (!decide (i = j)) :=
  b_cmp op_ne ha hb (hm := nomark _) fun σ H x y s h1 h2 Q k => by
    rw [Sc.eq] at h1 h2
    subst h1 h2
    refine ⟨Sc.ok i j, ?_⟩
    rw [sc_dec]
    exact k _ H (Ex.refl _ _) rfl
end

/-! ### deep data -/
class Pd (α : Type) [Rp α] where
  py : α → PyData
  dp : ∀ (K : PySem.W.Frag) (x : α) (G : Hp) (v : V), (R x).p G v → Dp K G v (py x)
  n : Nat
  dpt : ∀ x, (py x).depth ≤ n
  eq : ∀ x y, PyData.eqv (py x) (py y) = true ↔ x = y
mutual
theorem dp_mono {K : PySem.W.Frag} {G G' : Hp} (s : Same G G') : ∀ {v : V} {d : PyData}, Dp K G v d → Dp K G' v d
  | _, _, .non => .non
  | _, _, .bl b => .bl b
  | _, _, .int b => .int b
  | _, _, .str b => .str b
  | _, _, .lst h q => .lst (s.seq h) (dpa_mono s q)
  | _, _, .tup h q => .tup (by
      rcases h with (h | ⟨o, h⟩) | h
      · exact .inl (.inl (s _ _ h))
      · exact .inl (.inr ⟨o, s _ _ h⟩)
      · exact .inr h) (dpa_mono s q)
theorem dpa_mono {K : PySem.W.Frag} {G G' : Hp} (s : Same G G') : ∀ {v : List V} {d : List PyData}, DpAll K G v d → DpAll K G' v d
  | _, _, .nil => .nil
  | _, _, .cons h q => .cons (dp_mono s h) (dpa_mono s q)
end
end
theorem depthAll_le {n : Nat} : ∀ {l : List PyData}, (∀ x ∈ l, x.depth ≤ n) → PyData.depthAll l ≤ n
  | [], _ => Nat.zero_le _
  | x :: l, h => by
    show max x.depth (PyData.depthAll l) ≤ n
    have h1 := h x List.mem_cons_self
    have h2 := depthAll_le (n := n) (l := l) fun y hy => h y (List.mem_cons_of_mem _ hy)
    omega
theorem eqvAll_map {α : Type} {f : α → PyData} (h : ∀ x y, PyData.eqv (f x) (f y) = true ↔ x = y) : ∀ xs ys : List α, PyData.eqvAll (xs.map f) (ys.map f) = true ↔ xs = ys
  | [], [] => ⟨fun _ => rfl, fun _ => rfl⟩
  | [], _ :: _ => ⟨fun z => (by cases z), fun z => (by cases z)⟩
  | _ :: _, [] => ⟨fun z => (by cases z), fun z => (by cases z)⟩
  | x :: xs, y :: ys => by
    show (PyData.eqv (f x) (f y) && PyData.eqvAll (xs.map f) (ys.map f)) = true ↔ _
    rw [Bool.and_eq_true, h, eqvAll_map h xs ys, List.cons.injEq]
theorem dpAll_map {α : Type} [Rp α] [Pd α] {K : PySem.W.Frag} {G : Hp} : ∀ {xs : List α} {vs : List V}, All2 (fun (d : D) u => d.p G u) (xs.map fun x => R x) vs → DpAll K G vs (xs.map Pd.py)
  | [], [], _ => .nil
  | x :: xs, v :: vs, h => .cons (Pd.dp K x G v h.1) (dpAll_map h.2)
  | [], _ :: _, h => h.elim
  | _ :: _, [], h => h.elim
instance : Pd Int := ⟨.int, fun _ _ _ _ h => by rw [show _ = V.int _ from h]; exact .int _, 0, fun _ => Nat.le_refl _, fun x y => by show (x == y) = true ↔ _; rw [beq_iff_eq]⟩
instance : Pd Str := ⟨.str, fun _ _ _ _ h => by rw [show _ = V.str _ from h]; exact .str _, 0, fun _ => Nat.le_refl _, fun x y => by show (x == y) = true ↔ _; rw [beq_iff_eq]⟩
instance : Pd Unit := ⟨fun _ => .none, fun _ _ _ _ h => by rw [show _ = V.non from h]; exact .non, 0, fun _ => Nat.le_refl _, fun x y => ⟨fun _ => rfl, fun _ => rfl⟩⟩
instance {α : Type} [Rp α] [Pd α] : Pd (List α) := ⟨fun xs => .list (xs.map Pd.py), fun K x G v ⟨a, vs, h1, h2, h3⟩ => by rw [h1]; exact .lst (SqL.of h2) (dpAll_map h3), Pd.n α + 1, fun x => by
  show PyData.depthAll _ + 1 ≤ _
  have := depthAll_le (n := Pd.n α) (l := x.map Pd.py) fun y hy => by
    obtain ⟨z, _, e⟩ := List.mem_map.mp hy
    rw [← e]
    exact Pd.dpt z
  omega, fun x y => by rw [PyData.eqv]; exact eqvAll_map Pd.eq x y⟩
instance {α : Type} [Rp α] [Pd α] : Pd (Tup α) := ⟨fun xs => .tuple (xs.l.map Pd.py), fun K x G v ⟨a, vs, h1, h2, h3⟩ => by rw [h1]; exact .tup (SqT.of h2) (dpAll_map h3), Pd.n α + 1, fun x => by
  show PyData.depthAll _ + 1 ≤ _
  have := depthAll_le (n := Pd.n α) (l := x.l.map Pd.py) fun y hy => by
    obtain ⟨z, _, e⟩ := List.mem_map.mp hy
    rw [← e]
    exact Pd.dpt z
  omega, fun ⟨x⟩ ⟨y⟩ => by rw [PyData.eqv, Tup.mk.injEq]; exact eqvAll_map Pd.eq x y⟩
instance {α β : Type} [Rp α] [Rp β] [Pd α] [Pd β] : Pd (α × β) := ⟨fun x => .tuple [Pd.py x.1, Pd.py x.2], fun K x G v ⟨a, vs, h1, h2, h3⟩ => by
  rw [h1]
  match vs, h3 with
  | [u1, u2], h => exact .tup (SqT.of h2) (.cons (Pd.dp K _ _ _ h.1) (.cons (Pd.dp K _ _ _ h.2.1) .nil)), max (Pd.n α) (Pd.n β) + 1, fun x => by
  show max (Pd.py x.1).depth (max (Pd.py x.2).depth 0) + 1 ≤ _
  have h1 := Pd.dpt x.1
  have h2 := Pd.dpt x.2
  omega, fun ⟨x1, x2⟩ ⟨y1, y2⟩ => by
  show (PyData.eqv (Pd.py x1) (Pd.py y1) && (PyData.eqv (Pd.py x2) (Pd.py y2) && true)) = true ↔ _
  rw [Bool.and_true, Bool.and_eq_true, Pd.eq, Pd.eq, Prod.mk.injEq]⟩
class Py0 (α : Type) [Rp α] [Pd α] : Prop where
  lay : ∀ x : α, (Pd.py x).canLay0 = true
theorem layAll {α : Type} {f : α → PyData} (h : ∀ x, (f x).canLay0 = true) : ∀ xs : List α, PyData.canLayAll0 (xs.map f) = true
  | [] => rfl
  | x :: xs => by
    show ((f x).canLay0 && PyData.canLayAll0 (xs.map f)) = true
    rw [h x, layAll h xs]
    rfl
instance : Py0 Int := ⟨fun _ => rfl⟩
instance : Py0 Unit := ⟨fun _ => rfl⟩
instance {α : Type} [Rp α] [Pd α] [Py0 α] : Py0 (List α) := ⟨fun x => by
  show PyData.canLayAll0 (x.map Pd.py) = true
  exact layAll Py0.lay x⟩
instance {α : Type} [Rp α] [Pd α] [Py0 α] : Py0 (Tup α) := ⟨fun x => by
  show PyData.canLayAll0 (x.l.map Pd.py) = true
  exact layAll Py0.lay x.l⟩
instance {α β : Type} [Rp α] [Rp β] [Pd α] [Pd β] [Py0 α] [Py0 β] : Py0 (α × β) := ⟨fun x => by
  show ((Pd.py x.1).canLay0 && ((Pd.py x.2).canLay0 && true)) = true
  rw [Py0.lay, Py0.lay]
  rfl⟩
section
variable {X : Cx} {ds : Ds} {ms : MS} {a b : Expr} {pos : Pos} {α : Type} [Rp α] [Pd α] [DecidableEq α] {x y : α}
theorem eqv_dec : PyData.eqv (Pd.py x) (Pd.py y) = decide (x = y) := by
  by_cases h : x = y
  · rw [decide_eq_true h]
    exact (Pd.eq x y).mpr h
  · rw [decide_eq_false h]
    cases q : PyData.eqv (Pd.py x) (Pd.py y) with
    | false => rfl
    | true => exact absurd ((Pd.eq x y).mp q) h
theorem shp (hx : (Pd.py x).canLay0 = true) (hn : Pd.n α ≤ 64) : SeqAt.shaped (Pd.py x) = true := by
  unfold SeqAt.shaped
  rw [hx, decide_eq_true (Nat.le_trans (Pd.dpt x) hn)]
  rfl
theorem e_eqD (hu : X.A.units + 64 < cLine) (ha : DE X ds ms a (R x)) (hb : DE X ds ms b (R y)) (hx : (Pd.py x).canLay0 = true := by exact Py0.lay _) (hy : (Pd.py y).canLay0 = true := by exact Py0.lay _) (hn : Pd.n α ≤ 64 := by decide) :
    DE X ds ms (.Compare a [.Eq] [b] pos) (R (decide (x = y))) := e_cmp (op_eqD hu) ha hb (hm := nomark _) fun σ H u v s h1 h2 Q k => by
  refine ⟨_, _, dp_mono mi_sub (Pd.dp X.K x _ u h1), dp_mono mi_sub (Pd.dp X.K y _ v h2), shp hx hn, shp hy hn, ?_⟩
  rw [eqv_dec]
  exact k _ H (Ex.refl _ _) rfl
theorem e_neD (hu : X.A.units + 64 < cLine) (ha : DE X ds ms a (R x)) (hb : DE X ds ms b (R y)) (hx : (Pd.py x).canLay0 = true := by exact Py0.lay _) (hy : (Pd.py y).canLay0 = true := by exact Py0.lay _) (hn : Pd.n α ≤ 64 := by decide) :
    DE X ds ms (.Compare a [.NotEq] [b] pos) (R (!decide (x = y))) := e_cmp (op_neD hu) ha hb (hm := nomark _) fun σ H u v s h1 h2 Q k => by
  refine ⟨_, _, dp_mono mi_sub (Pd.dp X.K x _ u h1), dp_mono mi_sub (Pd.dp X.K y _ v h2), shp hx hn, shp hy hn, ?_⟩
  rw [eqv_dec]
  exact k _ H (Ex.refl _ _) rfl
theorem b_eqD (hu : X.A.units + 64 < cLine) (ha : DE X ds ms a (R x)) (hb : DE X ds ms b (R y)) (hx : (Pd.py x).canLay0 = true := by exact Py0.lay _) (hy : (Pd.py y).canLay0 = true := by exact Py0.lay _) (hn : Pd.n α ≤ 64 := by decide) :
    DB X ds ms (.Compare a [.Eq] [b] pos) (decide (x = y)) := b_cmp (op_eqD hu) ha hb (hm := nomark _) fun σ H u v s h1 h2 Q k => by
  refine ⟨_, _, dp_mono mi_sub (Pd.dp X.K x _ u h1), dp_mono mi_sub (Pd.dp X.K y _ v h2), shp hx hn, shp hy hn, ?_⟩
  rw [eqv_dec]
  exact k _ H (Ex.refl _ _) rfl
theorem b_neD (hu : X.A.units + 64 < cLine) (ha : DE X ds ms a (R x)) (hb : DE X ds ms b (R y)) (hx : (Pd.py x).canLay0 = true := by exact Py0.lay _) (hy : (Pd.py y).canLay0 = true := by exact Py0.lay _) (hn : Pd.n α ≤ 64 := by decide) :
    DB X ds ms (.Compare a [.NotEq] [b] pos) (!decide (x = y)) := b_cmp (op_neD hu) ha hb (hm := nomark _) fun σ H u v s h1 h2 Q k => by
  refine ⟨_, _, dp_mono mi_sub (Pd.dp X.K x _ u h1), dp_mono mi_sub (Pd.dp X.K y _ v h2), shp hx hn, shp hy hn, ?_⟩
  rw [eqv_dec]
  exact k _ H (Ex.refl _ _) rfl
end
end Bh
/-! B4: tests, lists, tuples, subscripts, built-ins. -/
namespace Bh
open PySem PySem.Spec PyProof.Rows L2
section
variable {X : Cx} {ds : Ds} {ms : MS} {σ : L2.St} {H : Hp} {e a b c : Expr} {es rest : List Expr} {d da db dc : D} {pos p p2 : Pos} {k q : Bool}

/-! ### and, or, not -/
def wW (X : Cx) (e : Expr) : TT := fun σ H Q => ∀ (whole : Sem Value) (pins : List (Addr × Obj)) (s : Shared), Inv X pins σ H s → wpAny (model X.prog X.w) X.A (isTrue e X.env whole) (TP X pins σ Q) X.xe s
theorem wW_ok (e : Expr) : PW X e (wW X e) := ⟨fun whole pins s _ _ _ I h => h whole pins s I⟩
def DW (X : Cx) (ds : Ds) (ms : MS) (e : Expr) (k : Bool) : Prop := ∀ σ H, Sy ds ms σ H → ∀ Q : Bool → Hp → Prop, (∀ H', Ex (ads ms) H H' → Q k H') → wW X e σ H Q
theorem wW_of {t : TT} (h : PW X e t) {Q : Bool → Hp → Prop} (q : t σ H Q) : wW X e σ H Q := fun whole pins s I => h.run whole pins s σ H Q I q
theorem b_w (h : DW X ds ms e k) : DB X ds ms e k := fun σ H s Q q => wT_of (wW_ok e).pt (h σ H s Q q)
theorem w_and1 (h : DB X ds ms a k) : DW X ds ms (.BoolOp .And [a] pos) k := fun σ H s Q q => wW_of (pw_and1 (wT_ok a)) (h σ H s Q q)
theorem w_or1 (h : DB X ds ms a k) : DW X ds ms (.BoolOp .Or [a] pos) k := fun σ H s Q q => wW_of (pw_or1 (wT_ok a)) (h σ H s Q q)
theorem w_and (h : DB X ds ms a k) (h2 : k = true → DW X ds ms (.BoolOp .And (b :: rest) pos) q) : DW X ds ms (.BoolOp .And (a :: b :: rest) pos) (k && q) := fun σ H s Q z => wW_of (pw_and (wT_ok a) (wW_ok _)) (h σ H s _ fun H1 e1 => by
  cases k with
  | true => exact iteT (h2 rfl σ H1 (s.ex e1) _ fun H2 e2 => z H2 (e1.trans e2))
  | false => exact iteF (z H1 e1))
theorem w_or (h : DB X ds ms a k) (h2 : k = false → DW X ds ms (.BoolOp .Or (b :: rest) pos) q) : DW X ds ms (.BoolOp .Or (a :: b :: rest) pos) (k || q) := fun σ H s Q z => wW_of (pw_or (wT_ok a) (wW_ok _)) (h σ H s _ fun H1 e1 => by
  cases k with
  | true => exact iteT (z H1 e1)
  | false => exact iteF (h2 rfl σ H1 (s.ex e1) _ fun H2 e2 => z H2 (e1.trans e2)))
theorem b_and2 (h : DB X ds ms a k) (h2 : k = true → DB X ds ms b q) : DB X ds ms (.BoolOp .And [a, b] pos) (k && q) := b_w (w_and h fun z => w_and1 (h2 z))
theorem b_or2 (h : DB X ds ms a k) (h2 : k = false → DB X ds ms b q) : DB X ds ms (.BoolOp .Or [a, b] pos) (k || q) := b_w (w_or h fun z => w_or1 (h2 z))
theorem b_or3 {r : Bool} (h : DB X ds ms a k) (h2 : k = false → DB X ds ms b q) (h3 : k = false → q = false → DB X ds ms c r) : DB X ds ms (.BoolOp .Or [a, b, c] pos) (k || (q || r)) := b_w (w_or h fun z => w_or (h2 z) fun y => w_or1 (h3 z y))
theorem b_not (h : DB X ds ms a k) : DB X ds ms (.UnaryOp .Not a pos) (!k) := fun σ H s Q z => wT_of (pt_not (wT_ok a)) (h σ H s _ fun H1 e1 => z H1 e1)
theorem b_eq (h : DB X ds ms a k) (e : k = q) : DB X ds ms a q := e ▸ h
/-- the same as values -/
theorem e_one {op} (h : DE X ds ms a d) : DE X ds ms (.BoolOp op [a] pos) d := e_of (pe_one (wE_ok a)) fun σ H s Q k => h σ H s Q k
theorem e_and (h : DE X ds ms a (R k)) (h2 : k = true → DE X ds ms (.BoolOp .And (b :: rest) pos) (R q)) : DE X ds ms (.BoolOp .And (a :: b :: rest) pos) (R (k && q)) := e_of (pe_and (wE_ok a) (wE_ok _)) fun σ H s Q z => h σ H s _ fun v H1 e1 p => ⟨k, p, by
  cases k with
  | true => exact iteT (h2 rfl σ H1 (s.ex e1) _ fun v H2 e2 => z v H2 (e1.trans e2))
  | false => exact iteF (z _ H1 e1 rfl)⟩
theorem e_or (h : DE X ds ms a (R k)) (h2 : k = false → DE X ds ms (.BoolOp .Or (b :: rest) pos) (R q)) : DE X ds ms (.BoolOp .Or (a :: b :: rest) pos) (R (k || q)) := e_of (pe_or (wE_ok a) (wE_ok _)) fun σ H s Q z => h σ H s _ fun v H1 e1 p => ⟨k, p, by
  cases k with
  | true => exact iteT (z _ H1 e1 rfl)
  | false => exact iteF (h2 rfl σ H1 (s.ex e1) _ fun v H2 e2 => z v H2 (e1.trans e2))⟩
theorem e_and2 (h : DE X ds ms a (R k)) (h2 : k = true → DE X ds ms b (R q)) : DE X ds ms (.BoolOp .And [a, b] pos) (R (k && q)) := e_and h fun z => e_one (h2 z)
theorem e_or2 (h : DE X ds ms a (R k)) (h2 : k = false → DE X ds ms b (R q)) : DE X ds ms (.BoolOp .Or [a, b] pos) (R (k || q)) := e_or h fun z => e_one (h2 z)
theorem e_not (h : DE X ds ms a (R k)) : DE X ds ms (.UnaryOp .Not a pos) (R (!k)) := e_of (pe_not (wE_ok a)) fun σ H s Q z => h σ H s _ fun v H1 e1 p => ⟨k, p, z _ H1 e1 rfl⟩
theorem e_if (h : DB X ds ms c k) (h1 : k = true → DE X ds ms a d) (h2 : k = false → DE X ds ms b d) : DE X ds ms (.IfExp c a b pos) d := e_of (pe_ifExp (wT_ok c) (wE_ok a) (wE_ok b)) fun σ H s Q z => h σ H s _ fun H1 e1 => by
  cases k with
  | true => exact iteT (h1 rfl σ H1 (s.ex e1) Q fun v H2 e2 => z v H2 (e1.trans e2))
  | false => exact iteF (h2 rfl σ H1 (s.ex e1) Q fun v H2 e2 => z v H2 (e1.trans e2))
/-- x op y op' z of ints -/
theorem b_chain {op op' : CmpOp} {g g' : Int → Int → Bool} {i j l : Int} (ho : OpR X (compareOp op) (rI0 fun i j => .bl (g i j))) (ho' : OpR X (compareOp op') (rI0 fun i j => .bl (g' i j))) (ha : DE X ds ms a (R i)) (hb : DE X ds ms b (R j)) (hc : DE X ds ms c (R l))
    (hm : lastMarks [op, op'] [b, c] = false := by with_unfolding_all rfl) : DB X ds ms (.Compare a [op, op'] [b, c] pos) (g i j && g' j l) := fun σ H s Q z => by
  refine wT_of (pt_chain ho ho' (wE_ok a) (wE_ok b) (wE_ok c) hm) ?_
  refine two ha hb s fun x y H1 e1 p1 p2 => ⟨i, j, p1, p2, g i j, rfl, ?_⟩
  cases hg : g i j with
  | true => exact iteT (hc σ H1 (s.ex e1) _ fun v H2 e2 p3 => ⟨j, l, p2, p3, g' j l, rfl, by have := z H2 (e1.trans e2); rwa [hg, Bool.true_and] at this⟩)
  | false => exact iteF ⟨false, rfl, by have := z H1 e1; rwa [hg, Bool.false_and] at this⟩
theorem e_chain {op op' : CmpOp} {g g' : Int → Int → Bool} {i j l : Int} (ho : OpR X (compareOp op) (rI0 fun i j => .bl (g i j))) (ho' : OpR X (compareOp op') (rI0 fun i j => .bl (g' i j))) (ha : DE X ds ms a (R i)) (hb : DE X ds ms b (R j)) (hc : DE X ds ms c (R l))
    (hm : lastMarks [op, op'] [b, c] = false := by with_unfolding_all rfl) : DE X ds ms (.Compare a [op, op'] [b, c] pos) (R (g i j && g' j l)) := fun σ H s Q z => by
  refine wE_of (pe_chain ho ho' (wE_ok a) (wE_ok b) (wE_ok c) hm) ?_
  refine two ha hb s fun x y H1 e1 p1 p2 => ⟨i, j, p1, p2, g i j, rfl, ?_⟩
  cases hg : g i j with
  | true => exact iteT (hc σ H1 (s.ex e1) _ fun v H2 e2 p3 => ⟨j, l, p2, p3, by have := z (.bl (g' j l)) H2 (e1.trans e2); rw [hg, Bool.true_and] at this; exact this rfl⟩)
  | false => exact iteF (by have := z (.bl false) H1 e1; rw [hg, Bool.false_and] at this; exact this rfl)

/-! ### arguments, displays -/
theorem a_nil : DA X ds ms [] [] := fun σ H s Q k => wA_of pa_nil (k [] H (Ex.refl _ _) trivial)
theorem a_cons {dl : List D} (h : DE X ds ms e d) (h2 : DA X ds ms es dl) (hs : starEach (e :: es) X.env = (false, eval e X.env) :: starEach es X.env := by rfl) : DA X ds ms (e :: es) (d :: dl) := fun σ H s Q k =>
  wA_of (pa_cons (wE_ok e) (wA_ok es) hs) (h σ H s _ fun v H1 e1 p1 => h2 σ H1 (s.ex e1) _ fun vs H2 e2 p2 => k _ H2 (e1.trans e2) ⟨d.mono e2.g p1, p2⟩)
/-- *e -/
theorem a_star {dl dl2 : List D} (h : DR X ds ms e dl) (h2 : DA X ds ms es dl2) : DA X ds ms (.Starred e p :: es) (dl ++ dl2) := fun σ H s Q k =>
  wA_of (StX.pa_star (wE_ok e) (wA_ok es)) (h σ H s _ fun a vs H1 e1 h1 p1 _ => ⟨a, vs, rfl, .inr (SqL.of h1), h2 σ H1 (s.ex e1) _ fun ys H2 e2 p2 => k _ H2 (e1.trans e2) ((p1.imp fun d _ q => d.mono e2.g q).append p2)⟩)
theorem a_one (h : DE X ds ms e d) (hs : starEach [e] X.env = (false, eval e X.env) :: starEach [] X.env := by rfl) : DA X ds ms [e] [d] := a_cons h a_nil hs
theorem line_of {n : Nat} (h : n ≤ 1000000) : n ≤ sizeLine := Nat.le_trans h (by decide)
theorem e_dL {dl : List D} (h : DA X ds ms es dl) (hz : dl.length ≤ 1000000) : DE X ds ms (.List es pos) (dL dl) := e_of (pe_lst (wA_ok es)) fun σ H s Q k =>
  h σ H s _ fun vs H1 e1 p1 => ⟨by rw [← p1.len]; exact line_of hz, fun q hq => by
    have s1 := s.ex e1
    have e2 := s1.new (o := .lst vs) hq
    exact k _ _ (e1.trans e2) ⟨q, vs, rfl, mi_new (fun _ z => s1.ce.there z) hq (fun x z => by cases z), p1.imp fun d _ z => d.mono e2.g z⟩⟩
theorem e_dT {dl : List D} {x1} (h : DA X ds ms es dl) (hz : dl.length ≤ 1000000) : DE X ds ms (.Tuple es x1 pos) (dT dl) := e_of (pe_tup (wA_ok es)) fun σ H s Q k =>
  h σ H s _ fun vs H1 e1 p1 => ⟨by rw [← p1.len]; exact line_of hz, fun q hq => by
    have s1 := s.ex e1
    have e2 := s1.new (o := .tup vs) hq
    exact k _ _ (e1.trans e2) ⟨q, vs, rfl, mi_new (fun _ z => s1.ce.there z) hq (fun x z => by cases z), p1.imp fun d _ z => d.mono e2.g z⟩⟩
section
variable {α β : Type} [Rp α] [Rp β]
theorem e_lst {xs : List α} {dl : List D} (h : DA X ds ms es dl) (e : dl = xs.map fun x => R x) (hz : dl.length ≤ 1000000) : DE X ds ms (.List es pos) (R xs) := by
  subst e
  exact e_dL h hz
theorem e_nil : DE X ds ms (.List [] pos) (R ([] : List α)) := e_dL a_nil (Nat.zero_le _)
theorem e_pair {x : α} {y : β} {x1} (ha : DE X ds ms a (R x)) (hb : DE X ds ms b (R y)) (hs : starEach [a, b] X.env = (false, eval a X.env) :: starEach [b] X.env := by rfl) (hs2 : starEach [b] X.env = (false, eval b X.env) :: starEach [] X.env := by rfl) :
    DE X ds ms (.Tuple [a, b] x1 pos) (R (x, y)) := e_dT (a_cons ha (a_cons hb a_nil hs2) hs) (by show 2 ≤ 1000000; decide)
theorem e_tnil {x1} : DE X ds ms (.Tuple [] x1 pos) (R (⟨[]⟩ : Tup α)) := e_dT a_nil (Nat.zero_le _)

/-! ### what may be read -/
theorem r_lst {dl : List D} (h : DE X ds ms e (dL dl)) : DR X ds ms e dl := fun σ H s Q k => h σ H s Q fun v H1 e1 ⟨a, vs, h1, h2, h3⟩ => by
  rw [h1]
  exact k a vs H1 e1 (mi_sub _ _ h2) h3 (.inl h2)
theorem r_R {xs : List α} (h : DE X ds ms e (R xs)) : DR X ds ms e (xs.map fun x => R x) := r_lst h
theorem r_cell {q : Addr} {dl : List D} (h : DE X ds ms e (dAt q)) (hm : (q, mL dl) ∈ ms) : DR X ds ms e dl := fun σ H s Q k => h σ H s Q fun v H1 e1 h1 => by
  rw [show v = V.ref q from h1]
  obtain ⟨o, h2, vs, h3, h4⟩ := (s.ex e1).ce _ hm
  rw [h3] at h2
  exact k q vs H1 e1 h2 h4 (.inr (List.mem_map_of_mem hm))

/-! ### items -/
theorem all2_at {dl : List D} {vs : List V} {G : Hp} {i : Int} (h : All2 (fun (d : D) u => d.p G u) dl vs) (hd : atI dl i = some d) : ∃ v, atI vs i = some v ∧ d.p G v := by
  unfold atI at hd ⊢
  rw [← h.len]
  cases e : ixN dl.length i with
  | none =>
    rw [e] at hd
    cases hd
  | some j =>
    rw [e] at hd
    exact h.get hd
theorem e_ix {dl : List D} {i : Int} (ha : DR X ds ms a dl) (hb : DE X ds ms b (R i)) (h : atI dl i = some d) (hs : PlainIx b := by exact fun _ _ => rfl) : DE X ds ms (.Subscript a b pos) d := e_of (pe_ix ix_list (wE_ok a) (wE_ok b) hs) fun σ H s Q k =>
  ha σ H s _ fun l vs H1 e1 h1 p1 hk => hb σ H1 (s.ex e1) _ fun v H2 e2 p2 => by
    have h2 : H2 l = some (.lst vs) := by
      rcases hk with hk | hk
      · exact mi_sub _ _ (e2.g _ _ hk)
      · rw [e2.c l hk]; exact h1
    obtain ⟨u, h3, h4⟩ := all2_at (p1.imp fun d _ q => d.mono e2.g q) h
    exact ⟨l, vs, i, u, rfl, p2, SqL.of h2, h3, k u H2 (e1.trans e2) h4⟩
theorem at_map {xs : List α} {i : Int} {y : α} (h : atI xs i = some y) : atI (xs.map fun x => R x) i = some (R y) := by
  unfold atI at h ⊢
  rw [List.length_map]
  cases e : ixN xs.length i with
  | none =>
    rw [e] at h
    cases h
  | some j =>
    rw [e] at h
    show (xs.map _)[j]? = _
    rw [List.getElem?_map, show xs[j]? = some y from h]
    rfl
theorem e_item {xs : List α} {i : Int} {y : α} (ha : DR X ds ms a (xs.map fun x => R x)) (hb : DE X ds ms b (R i)) (h : atI xs i = some y) (hs : PlainIx b := by exact fun _ _ => rfl) : DE X ds ms (.Subscript a b pos) (R y) := e_ix ha hb (at_map h) hs
theorem e_tix {dl : List D} {i : Int} (ha : DE X ds ms a (dT dl)) (hb : DE X ds ms b (R i)) (h : atI dl i = some d) (hs : PlainIx b := by exact fun _ _ => rfl) : DE X ds ms (.Subscript a b pos) d := e_of (pe_ix ix_tup (wE_ok a) (wE_ok b) hs) fun σ H s Q k =>
  two ha hb s fun x y H1 e1 ⟨l, vs, h1, h2, h3⟩ p2 => by
    obtain ⟨u, h4, h5⟩ := all2_at h3 h
    exact ⟨l, vs, i, u, h1, p2, SqT.of (mi_sub _ _ h2), h4, k u H1 e1 h5⟩
theorem e_fst {x : α × β} {i : Int} (ha : DE X ds ms a (R x)) (hb : DE X ds ms b (R i)) (h : i = 0 := by rfl) (hs : PlainIx b := by exact fun _ _ => rfl) : DE X ds ms (.Subscript a b pos) (R x.1) := by
  subst h
  exact e_tix (dl := [R x.1, R x.2]) ha hb rfl hs
theorem e_snd {x : α × β} {i : Int} (ha : DE X ds ms a (R x)) (hb : DE X ds ms b (R i)) (h : i = 1 := by rfl) (hs : PlainIx b := by exact fun _ _ => rfl) : DE X ds ms (.Subscript a b pos) (R x.2) := by
  subst h
  exact e_tix (dl := [R x.1, R x.2]) ha hb rfl hs

/-! ### slices -/
def cutT {γ : Type} (xs : List γ) (lo hi : Option Int) : List γ := (xs.drop (HT.sIx xs.length 0 lo)).take (HT.sIx xs.length xs.length hi - HT.sIx xs.length 0 lo)
theorem cut_map {γ δ : Type} (f : γ → δ) (xs : List γ) (lo hi : Option Int) : (cutT xs lo hi).map f = cutT (xs.map f) lo hi := by
  unfold cutT
  rw [List.map_take, List.map_drop, List.length_map]
theorem all2_cut {dl : List D} {vs : List V} {G : Hp} {lo hi : Option Int} (h : All2 (fun (d : D) u => d.p G u) dl vs) : All2 (fun (d : D) u => d.p G u) (cutT dl lo hi) (cutV vs lo hi) := by
  unfold cutT cutV
  rw [h.len]
  exact (h.drop _).take _
/-- a part of a slice -/
def DO (X : Cx) (ds : Ds) (ms : MS) (o : Option Expr) (i : Option Int) : Prop := match o, i with
  | none, none => True
  | some e, some i => DE X ds ms e (R i)
  | _, _ => False
theorem o_run {o : Option Expr} {i : Option Int} (h : DO X ds ms o i) : ∃ t : TO, PO X o t ∧ ∀ σ H, Sy ds ms σ H → ∀ Q : Option Int → Hp → Prop, (∀ H', Ex (ads ms) H H' → Q i H') → t σ H Q := by
  cases o with
  | none =>
    cases i with
    | none => exact ⟨_, po_none, fun σ H s Q k => k H (Ex.refl _ _)⟩
    | some i => exact h.elim
  | some e =>
    cases i with
    | none => exact h.elim
    | some i =>
      have h : DE X ds ms e (R i) := h
      exact ⟨_, po_some (wE_ok e), fun σ H s Q k => h σ H s _ fun v H1 e1 p1 => ⟨i, p1, k H1 e1⟩⟩
theorem e_cut {dl : List D} {lo hi : Option Expr} {i j : Option Int} (ha : DR X ds ms a dl) (hl : DO X ds ms lo i) (hh : DO X ds ms hi j) : DE X ds ms (.Subscript a (.Slice lo hi none p2) pos) (dL (cutT dl i j)) := by
  obtain ⟨t1, o1, k1⟩ := o_run hl
  obtain ⟨t2, o2, k2⟩ := o_run hh
  exact e_of (pe_slice sl_list (wE_ok a) o1 o2) fun σ H s Q k => ha σ H s _ fun l vs H1 e1 h1 p1 hk => k1 σ H1 (s.ex e1) _ fun H2 e2 => k2 σ H2 ((s.ex e1).ex e2) _ fun H3 e3 => by
    have e23 := e2.trans e3
    have h3 : H3 l = some (.lst vs) := by
      rcases hk with hk | hk
      · exact mi_sub _ _ (e23.g _ _ hk)
      · rw [e23.c l hk]; exact h1
    have s3 := (s.ex e1).ex e23
    refine ⟨l, vs, rfl, SqL.of h3, fun q hq => ?_⟩
    have e4 := s3.new (o := .lst (cutV vs i j)) hq
    exact k _ _ ((e1.trans e23).trans e4) ⟨q, _, rfl, mi_new (fun _ z => s3.ce.there z) hq (fun x z => by cases z), all2_cut (p1.imp fun d _ z => d.mono (e23.g.trans e4.g) z)⟩
theorem e_slice {xs : List α} {lo hi : Option Expr} {i j : Option Int} (ha : DR X ds ms a (xs.map fun x => R x)) (hl : DO X ds ms lo i) (hh : DO X ds ms hi j) : DE X ds ms (.Subscript a (.Slice lo hi none p2) pos) (R (cutT xs i j)) :=
  e_eq (e_cut ha hl hh) (congrArg dL (cut_map _ _ _ _).symm)
theorem cut_from {γ : Type} {xs : List γ} {k : Int} (h : 0 ≤ k) : cutT xs (some k) none = xs.drop k.toNat := by
  unfold cutT HT.sIx
  have h0 : ¬ k < 0 := by omega
  simp only [h0, if_false]
  rw [List.take_of_length_le]
  · by_cases hk : k.toNat ≤ xs.length
    · rw [Nat.min_eq_left hk]
    · rw [Nat.min_eq_right (by omega), List.drop_length, List.drop_of_length_le (by omega)]
  · rw [List.length_drop]
    omega
theorem cut_to {γ : Type} {xs : List γ} {k : Int} (h : 0 ≤ k) : cutT xs none (some k) = xs.take k.toNat := by
  unfold cutT HT.sIx
  have h0 : ¬ k < 0 := by omega
  simp only [h0, if_false]
  rw [List.drop_zero, Nat.sub_zero]
  by_cases hk : k.toNat ≤ xs.length
  · rw [Nat.min_eq_left hk]
  · rw [Nat.min_eq_right (by omega), List.take_length, List.take_of_length_le (by omega)]

/-! ### built-in calls -/
theorem e_callB {x : Str} {id : String} {r : List V → Hp → VK → Prop} {dl : List D} (hc : CallR X (.builtin id) r) (hm : X.mg x = none) (hv : bootBuiltins x = some (.builtin id)) (ha : DA X ds ms (e :: es) dl)
    (hr : ∀ σ H vs, Sy ds ms σ H → All2 (fun (d : D) u => d.p (mi H (ads ms)) u) dl vs → ∀ Q : VK, (∀ v H', Ex (ads ms) H H' → d.p (mi H' (ads ms)) v → Q v H') → r vs H Q)
    (hg : Gl X x := by rfl) (hn : x ≠ "__name__" := by decide) (hdb : (x == ("__debug__" : Str)) = false := by decide) (he : starEach (e :: es) X.env = (false, eval e X.env) :: starEach es X.env := by rfl) (hpl : (backTo pos (starEach es X.env)).any (·.1) = false := by rfl) :
    DE X ds ms (.Call (.Name x p) (e :: es) [] pos) d := e_of (pe_callB hc hg hm hv (wA_ok _) hn hdb he hpl) fun σ H s Q k => ha σ H s _ fun vs H1 e1 p1 => hr σ H1 vs (s.ex e1) p1 Q fun v H2 e2 z => k v H2 (e1.trans e2) z
theorem e_callTy {x : Str} {T : String} {r : List V → Hp → VK → Prop} {dl : List D} (hc : CallR X (.type T) r) (hm : X.mg x = none) (hv : bootBuiltins x = some (.type T)) (ha : DA X ds ms (e :: es) dl)
    (hr : ∀ σ H vs, Sy ds ms σ H → All2 (fun (d : D) u => d.p (mi H (ads ms)) u) dl vs → ∀ Q : VK, (∀ v H', Ex (ads ms) H H' → d.p (mi H' (ads ms)) v → Q v H') → r vs H Q)
    (hg : Gl X x := by rfl) (hn : x ≠ "__name__" := by decide) (hdb : (x == ("__debug__" : Str)) = false := by decide) (he : starEach (e :: es) X.env = (false, eval e X.env) :: starEach es X.env := by rfl) (hpl : (backTo pos (starEach es X.env)).any (·.1) = false := by rfl) :
    DE X ds ms (.Call (.Name x p) (e :: es) [] pos) d := e_of (pe_callTy hc hg hm hv (wA_ok _) hn hdb he hpl) fun σ H s Q k => ha σ H s _ fun vs H1 e1 p1 => hr σ H1 vs (s.ex e1) p1 Q fun v H2 e2 z => k v H2 (e1.trans e2) z
end
end
end Bh
/-! B5: new lists, expressions that change cells, targets, plain statements. -/
namespace Bh
open PySem PySem.Spec PyProof.Rows L2

theorem mi_hide {H : Hp} {ps : List Addr} {q : Addr} {o : HO} (hq : H q = none) : Same (mi H ps) (mi (upd H q o) (q :: ps)) := fun b u e => by
  obtain ⟨h1, h2, h3⟩ := mi_some e
  have hb : b ≠ q := ne_of_none h2 hq
  exact mi_of (by rw [upd_ne hb]; exact h2) (fun z => (List.mem_cons.mp z).elim hb h1) h3
/-- from H to H' a cell was laid at a -/
theorem same_hide {H H' : Hp} {ps : List Addr} {a : Addr} (e : Same (mi H ps) (mi H' ps)) (ha : mi H ps a = none) : Same (mi H ps) (mi H' (a :: ps)) := fun b u h => by
  obtain ⟨h1, h2, h3⟩ := mi_some (e b u h)
  have hb : b ≠ a := fun z => by rw [z, ha] at h; cases h
  exact mi_of h2 (fun z => (List.mem_cons.mp z).elim hb h1) h3
section
variable {X : Cx} {ds : Ds} {ms : MS} {σ : L2.St} {H H' : Hp} {e a b c : Expr} {es rest : List Expr} {d da db dc : D} {dl : List D} {pos p p2 : Pos} {k q : Bool}

/-! ### new lists -/
def DN (X : Cx) (ds : Ds) (ms : MS) (e : Expr) (dl : List D) : Prop := ∀ σ H, Sy ds ms σ H → ∀ Q : VK, (∀ a vs H', Ex (ads ms) H H' → mi H (ads ms) a = none → a ∉ ads ms → H' a = some (.lst vs) → All2 (fun (d : D) u => d.p (mi H' (a :: ads ms)) u) dl vs → Q (.ref a) H') → wE X e σ H Q
theorem e_new (h : DN X ds ms e dl) : DE X ds ms e (dL dl) := fun σ H s Q k => h σ H s Q fun a vs H1 e1 h1 h2 h3 h4 =>
  k _ H1 e1 ⟨a, vs, rfl, mi_of h3 h2 (fun x z => by cases z), h4.imp fun d _ z => d.mono (mi_less fun b hb => List.mem_cons_of_mem _ hb) z⟩
/-- a reading that ends in a new list -/
theorem new_of (s : Sy ds ms σ H) {H1 : Hp} (e1 : Ex (ads ms) H H1) {q : Addr} (hq : H1 q = none) {vs : List V} (hv : All2 (fun (d : D) u => d.p (mi H1 (ads ms)) u) dl vs) {Q : VK}
    (k : ∀ a vs H', Ex (ads ms) H H' → mi H (ads ms) a = none → a ∉ ads ms → H' a = some (.lst vs) → All2 (fun (d : D) u => d.p (mi H' (a :: ads ms)) u) dl vs → Q (.ref a) H') : Q (.ref q) (upd H1 q (.lst vs)) := by
  have s1 := s.ex e1
  refine k q vs _ (e1.trans (s1.new hq)) ?_ (fun z => s1.ce.there z hq) upd_same (hv.imp fun d _ z => d.mono (mi_hide hq) z)
  cases h : mi H (ads ms) q with
  | none => rfl
  | some o =>
    have := mi_sub _ _ (e1.g _ _ h)
    rw [hq] at this
    cases this
theorem n_lst (h : DA X ds ms es dl) (hz : dl.length ≤ 1000000) : DN X ds ms (.List es pos) dl := fun σ H s Q k => wE_of (pe_lst (wA_ok es)) (h σ H s _ fun vs H1 e1 p1 => ⟨by rw [← p1.len]; exact line_of hz, fun q hq => new_of s e1 hq p1 k⟩)
theorem n_nil : DN X ds ms (.List [] pos) [] := n_lst a_nil (Nat.zero_le _)
theorem n_cut {lo hi : Option Expr} {i j : Option Int} (ha : DR X ds ms a dl) (hl : DO X ds ms lo i) (hh : DO X ds ms hi j) : DN X ds ms (.Subscript a (.Slice lo hi none p2) pos) (cutT dl i j) := by
  obtain ⟨t1, o1, k1⟩ := o_run hl
  obtain ⟨t2, o2, k2⟩ := o_run hh
  intro σ H s Q k
  exact wE_of (pe_slice sl_list (wE_ok a) o1 o2) (ha σ H s _ fun l vs H1 e1 h1 p1 hk => k1 σ H1 (s.ex e1) _ fun H2 e2 => k2 σ H2 ((s.ex e1).ex e2) _ fun H3 e3 => by
    have e23 := e2.trans e3
    have h3 : H3 l = some (.lst vs) := by
      rcases hk with hk | hk
      · exact mi_sub _ _ (e23.g _ _ hk)
      · rw [e23.c l hk]; exact h1
    exact ⟨l, vs, rfl, SqL.of h3, fun q hq => new_of s (e1.trans e23) hq (all2_cut (p1.imp fun d _ z => d.mono e23.g z)) k⟩)
/-- list(a list) -/
theorem n_list {x : Str} (hm : X.mg x = none) (hx : x = "list") (ha : DR X ds ms a dl) (hg : Gl X x := by rfl) (hn : x ≠ "__name__" := by decide) (hdb : (x == ("__debug__" : Str)) = false := by decide) (he : starEach [a] X.env = (false, eval a X.env) :: starEach [] X.env := by rfl) (hpl : (backTo pos (starEach [] X.env)).any (·.1) = false := by rfl) :
    DN X ds ms (.Call (.Name x p) [a] [] pos) dl := by
  subst hx
  intro σ H s Q k
  refine wE_of (pe_callTy call_list_of hg hm (by decide +kernel) (pa_cons (wE_ok a) pa_nil he) hn hdb he hpl) ?_
  exact ha σ H s _ fun l vs H1 e1 h1 p1 hk => ⟨l, vs, rfl, .inl (SqL.of h1), fun q hq => new_of s e1 hq p1 k⟩
/-- a + b of lists -/
theorem n_cat {dl2 : List D} (ha : DR X ds ms a dl) (hb : DR X ds ms b dl2) (hz : dl.length + dl2.length ≤ 1000000) : DN X ds ms (.BinOp a .Add b pos) (dl ++ dl2) := fun σ H s Q k =>
  wE_of (pe_op op_cat (wE_ok a) (wE_ok b)) (ha σ H s _ fun l vs H1 e1 h1 p1 hk => hb σ H1 (s.ex e1) _ fun l2 vs2 H2 e2 h2 p2 hk2 => by
    have h3 : H2 l = some (.lst vs) := by
      rcases hk with hk | hk
      · exact mi_sub _ _ (e2.g _ _ hk)
      · rw [e2.c l hk]; exact h1
    exact ⟨l, l2, vs, vs2, rfl, rfl, h3, h2, by rw [← p1.len, ← p2.len]; exact line_of hz, fun q hq => new_of s (e1.trans e2) hq ((p1.imp fun d _ z => d.mono e2.g z).append p2) k⟩)

/-! ### expressions that may change cells -/
def DI (X : Cx) (ds : Ds) (ms : MS) (e : Expr) (K : D → MS → Prop) : Prop := ∀ σ H, Sy ds ms σ H → ∀ Q : VK, (∀ d m v H', K d m → Sy ds m σ H' → Same (mi H (ads ms)) (mi H' (ads m)) → d.p (mi H' (ads m)) v → Q v H') → wE X e σ H Q
def DAi (X : Cx) (ds : Ds) (ms : MS) (es : List Expr) (K : List D → MS → Prop) : Prop := ∀ σ H, Sy ds ms σ H → ∀ Q : List V → Hp → Prop, (∀ dl m vs H', K dl m → Sy ds m σ H' → Same (mi H (ads ms)) (mi H' (ads m)) → All2 (fun (d : D) u => d.p (mi H' (ads m)) u) dl vs → Q vs H') → wA X es σ H Q
def DBi (X : Cx) (ds : Ds) (ms : MS) (e : Expr) (K : Bool → MS → Prop) : Prop := ∀ σ H, Sy ds ms σ H → ∀ Q : Bool → Hp → Prop, (∀ k m H', K k m → Sy ds m σ H' → Same (mi H (ads ms)) (mi H' (ads m)) → Q k H') → wT X e σ H Q
variable {K : D → MS → Prop} {KA : List D → MS → Prop}
theorem i_pure (h : DE X ds ms e d) (hk : K d ms) : DI X ds ms e K := fun σ H s Q k => h σ H s Q fun v H1 e1 p1 => k d ms v H1 hk (s.ex e1) e1.g p1
theorem sy_new (s : Sy ds ms σ H) {a : Addr} {vs : List V} (e1 : Ex (ads ms) H H') (h1 : mi H (ads ms) a = none) (h2 : a ∉ ads ms) (h3 : H' a = some (.lst vs)) (h4 : All2 (fun (d : D) u => d.p (mi H' (a :: ads ms)) u) dl vs) :
    Sy ds ((a, mL dl) :: ms) σ H' ∧ Same (mi H (ads ms)) (mi H' (a :: ads ms)) := by
  have g := same_hide e1.g h1
  refine ⟨⟨fun i d h hl => let ⟨v, q1, q2⟩ := s.sl i d h hl; ⟨v, q1, d.mono g q2⟩, List.nodup_cons.mpr ⟨h2, s.nd⟩, fun q hq => ?_⟩, g⟩
  rcases List.mem_cons.mp hq with z | z
  · subst z
    exact ⟨_, h3, vs, rfl, h4⟩
  · obtain ⟨o, q1, q2⟩ := s.ce q z
    exact ⟨o, (e1.c q.1 (List.mem_map_of_mem z)).trans q1, q.2.mono g q2⟩
theorem i_new (h : DN X ds ms e dl) (hk : ∀ a, K (dAt a) ((a, mL dl) :: ms)) : DI X ds ms e K := fun σ H s Q k => h σ H s Q fun a vs H1 e1 h1 h2 h3 h4 => by
  obtain ⟨s2, g⟩ := sy_new s e1 h1 h2 h3 h4
  exact k _ _ _ H1 (hk a) s2 g rfl
theorem i_imp {K' : D → MS → Prop} (h : DI X ds ms e K') (hk : ∀ d m, K' d m → K d m) : DI X ds ms e K := fun σ H s Q k => h σ H s Q fun d m v H1 q => k d m v H1 (hk d m q)
theorem ai_nil (hk : KA [] ms) : DAi X ds ms [] KA := fun σ H s Q k => wA_of pa_nil (k [] ms [] H hk s (Same.refl _) trivial)
theorem ai_cons (h : DI X ds ms e fun d m => DAi X ds m es fun dl m' => KA (d :: dl) m') (hs : starEach (e :: es) X.env = (false, eval e X.env) :: starEach es X.env := by rfl) : DAi X ds ms (e :: es) KA := fun σ H s Q k =>
  wA_of (pa_cons (wE_ok e) (wA_ok es) hs) (h σ H s _ fun d m v H1 q1 s1 g1 p1 => q1 σ H1 s1 _ fun dl m' vs H2 q2 s2 g2 p2 => k _ m' _ H2 q2 s2 (g1.trans g2) ⟨d.mono g2 p1, p2⟩)
theorem ai_pure {dl : List D} (h : DA X ds ms es dl) (hk : KA dl ms) : DAi X ds ms es KA := fun σ H s Q k => h σ H s Q fun vs H1 e1 p1 => k dl ms vs H1 hk (s.ex e1) e1.g p1
/-- two in a row -/
theorem i_two {K2 : D → MS → D → MS → Prop} (h : DI X ds ms a fun da m => DI X ds m b fun db m' => K2 da m db m') (s : Sy ds ms σ H) {Rr : V → V → Hp → Prop}
    (k : ∀ da m db m' x y H', K2 da m db m' → Sy ds m' σ H' → Same (mi H (ads ms)) (mi H' (ads m')) → da.p (mi H' (ads m')) x → db.p (mi H' (ads m')) y → Rr x y H') : wE X a σ H fun x H1 => wE X b σ H1 fun y H2 => Rr x y H2 :=
  h σ H s _ fun da m x H1 q1 s1 g1 p1 => q1 σ H1 s1 _ fun db m' y H2 q2 s2 g2 p2 => k da m db m' x y H2 q2 s2 (g1.trans g2) (da.mono g2 p1) p2
theorem i_opI0 {op : Operator} {g : Int → Int → Int} (ho : OpR X (binaryOp op) (rI0 fun i j => .int (g i j))) (h : DI X ds ms a fun da m => ∃ i : Int, da = R i ∧ DI X ds m b fun db m' => ∃ j : Int, db = R j ∧ K (R (g i j)) m') : DI X ds ms (.BinOp a op b pos) K := fun σ H s Q k =>
  wE_of (pe_op ho (wE_ok a) (wE_ok b)) (h σ H s _ fun da m x H1 ⟨i, e1, q1⟩ s1 g1 p1 => by
    subst e1
    exact q1 σ H1 s1 _ fun db m' y H2 ⟨j, e2, q2⟩ s2 g2 p2 => by
      subst e2
      exact ⟨i, j, p1, p2, k _ m' _ H2 q2 s2 (g1.trans g2) rfl⟩)
theorem i_add (h : DI X ds ms a fun da m => ∃ i : Int, da = R i ∧ DI X ds m b fun db m' => ∃ j : Int, db = R j ∧ K (R (i + j)) m') : DI X ds ms (.BinOp a .Add b pos) K := i_opI0 (g := fun i j => i + j) op_add h
theorem i_sub (h : DI X ds ms a fun da m => ∃ i : Int, da = R i ∧ DI X ds m b fun db m' => ∃ j : Int, db = R j ∧ K (R (i - j)) m') : DI X ds ms (.BinOp a .Sub b pos) K := i_opI0 (g := fun i j => i - j) op_sub h
theorem i_mul (h : DI X ds ms a fun da m => ∃ i : Int, da = R i ∧ DI X ds m b fun db m' => ∃ j : Int, db = R j ∧ CMul i j ∧ K (R (i * j)) m') : DI X ds ms (.BinOp a .Mult b pos) K := fun σ H s Q k =>
  wE_of (pe_op op_mul (wE_ok a) (wE_ok b)) (h σ H s _ fun da m x H1 ⟨i, e1, q1⟩ s1 g1 p1 => by
    subst e1
    exact q1 σ H1 s1 _ fun db m' y H2 ⟨j, e2, hc, q2⟩ s2 g2 p2 => by
      subst e2
      exact ⟨i, j, p1, p2, hc, k _ m' _ H2 q2 s2 (g1.trans g2) rfl⟩)
theorem i_mod (h : DI X ds ms a fun da m => ∃ i : Int, da = R i ∧ DI X ds m b fun db m' => ∃ j : Int, db = R j ∧ 0 < j ∧ K (R (i % j)) m') : DI X ds ms (.BinOp a .Mod b pos) K := fun σ H s Q k =>
  wE_of (pe_op op_mod (wE_ok a) (wE_ok b)) (h σ H s _ fun da m x H1 ⟨i, e1, q1⟩ s1 g1 p1 => by
    subst e1
    exact q1 σ H1 s1 _ fun db m' y H2 ⟨j, e2, hc, q2⟩ s2 g2 p2 => by
      subst e2
      exact ⟨i, j, p1, p2, hc, k _ m' _ H2 q2 s2 (g1.trans g2) rfl⟩)
/-- displays whose items change cells -/
theorem i_tup {x1} (h : DAi X ds ms es fun dl m => dl.length ≤ 1000000 ∧ K (dT dl) m) : DI X ds ms (.Tuple es x1 pos) K := fun σ H s Q k =>
  wE_of (pe_tup (wA_ok es)) (h σ H s _ fun dl m vs H1 ⟨hz, q1⟩ s1 g1 p1 => ⟨by rw [← p1.len]; exact line_of hz, fun q hq => by
    have e2 := s1.new (o := .tup vs) hq
    exact k _ m _ _ q1 (s1.ex e2) (g1.trans e2.g) ⟨q, vs, rfl, mi_new (fun _ z => s1.ce.there z) hq (fun x z => by cases z), p1.imp fun d _ z => d.mono e2.g z⟩⟩)
theorem i_lst (h : DAi X ds ms es fun dl m => dl.length ≤ 1000000 ∧ K (dL dl) m) : DI X ds ms (.List es pos) K := fun σ H s Q k =>
  wE_of (pe_lst (wA_ok es)) (h σ H s _ fun dl m vs H1 ⟨hz, q1⟩ s1 g1 p1 => ⟨by rw [← p1.len]; exact line_of hz, fun q hq => by
    have e2 := s1.new (o := .lst vs) hq
    exact k _ m _ _ q1 (s1.ex e2) (g1.trans e2.g) ⟨q, vs, rfl, mi_new (fun _ z => s1.ce.there z) hq (fun x z => by cases z), p1.imp fun d _ z => d.mono e2.g z⟩⟩)
/-- a list's item, list and index may change cells -/
theorem i_ix (h : DI X ds ms a fun da m => ∃ dl, da = dL dl ∧ DI X ds m b fun db m' => ∃ (i : Int) (d : D), db = R i ∧ atI dl i = some d ∧ K d m') (hs : PlainIx b := by exact fun _ _ => rfl) : DI X ds ms (.Subscript a b pos) K := fun σ H s Q k =>
  wE_of (pe_ix ix_list (wE_ok a) (wE_ok b) hs) (h σ H s _ fun da m x H1 ⟨dl, e1, q1⟩ s1 g1 p1 => by
    subst e1
    exact q1 σ H1 s1 _ fun db m' y H2 ⟨i, d, e2, hd, q2⟩ s2 g2 p2 => by
      subst e2
      obtain ⟨l, vs, h1, h2, h3⟩ := (dL dl).mono g2 p1
      obtain ⟨u, h4, h5⟩ := all2_at h3 hd
      exact ⟨l, vs, i, u, h1, p2, SqL.of (mi_sub _ _ h2), h4, k _ m' u H2 q2 s2 (g1.trans g2) h5⟩)
theorem bi_pure {KB : Bool → MS → Prop} (h : DB X ds ms e k) (hk : KB k ms) : DBi X ds ms e KB := fun σ H s Q z => h σ H s Q fun H1 e1 => z k ms H1 hk (s.ex e1) e1.g
/-- a == b of ints, texts, bools -/
theorem bi_eqS {α : Type} [Rp α] [DecidableEq α] [Sc α] {KB : Bool → MS → Prop} (h : DI X ds ms a fun da m => ∃ i : α, da = R i ∧ DI X ds m b fun db m' => ∃ j : α, db = R j ∧ KB (decide (i = j)) m') : DBi X ds ms (.Compare a [.Eq] [b] pos) KB := fun σ H s Q k =>
  wT_of (pt_cmpR op_eq (wE_ok a) (wE_ok b) (nomark _)) (h σ H s _ fun da m x H1 ⟨i, e1, q1⟩ s1 g1 p1 => by
    subst e1
    exact q1 σ H1 s1 _ fun db m' y H2 ⟨j, e2, q2⟩ s2 g2 p2 => by
      subst e2
      rw [Sc.eq] at p1 p2
      subst p1 p2
      refine ⟨Sc.ok i j, _, rfl, ?_⟩
      rw [sc_dec]
      exact k _ m' H2 q2 s2 (g1.trans g2))

/-! ### targets -/
def wG (X : Cx) (tg : Expr) : TG := fun v σ H Q => ∀ (pins : List (Addr × Obj)) (s : Shared) (u : Value), Inv X pins σ H s → RelV v u → wpAny (model X.prog X.w) X.A (assign tg X.env u) (fun _ s' => ∃ σ' H', Inv X pins σ' H' s' ∧ Q σ' H') X.xe s
def wGs (X : Cx) (ts : List Expr) : TGs := fun vs σ H Q => ∀ (pins : List (Addr × Obj)) (s : Shared) (us : List Value), Inv X pins σ H s → Vals vs us → wpAny (model X.prog X.w) X.A (assignInOrder ((assignEach ts X.env).map (·.2)) us) (fun _ s' => ∃ σ' H', Inv X pins σ' H' s' ∧ Q σ' H') X.xe s
theorem wG_ok (tg : Expr) : PG X tg (wG X tg) := ⟨fun pins s σ H v u Q I r h => h pins s u I r⟩
theorem wGs_ok (ts : List Expr) : PGs X ts (wGs X ts) := ⟨fun pins s σ H v u Q I r h => h pins s u I r⟩
/-- the slots at js alone were stored -/
def Upto (js : List Nat) (σ σ' : L2.St) : Prop := σ'.length = σ.length ∧ ∀ j, j ∉ js → σ'[j]? = σ[j]?
theorem Upto.trans {js ks : List Nat} {σ σ1 σ2 : L2.St} (a : Upto js σ σ1) (b : Upto ks σ1 σ2) : Upto (ks ++ js) σ σ2 :=
  ⟨b.1.trans a.1, fun j h => (b.2 j fun z => h (List.mem_append_left _ z)).trans (a.2 j fun z => h (List.mem_append_right _ z))⟩
/-- storing what d says makes the slots say f -/
def DG (X : Cx) (tg : Expr) (d : D) (f : Ds) : Prop := ∀ ds ms σ H v, Sy ds ms σ H → d.p (mi H (ads ms)) v → ∀ Q : L2.St → Hp → Prop, (∀ σ' H', Sy (f ++ ds) ms σ' H' → Ex (ads ms) H H' → Upto (f.map (·.1)) σ σ' → Q σ' H') → wG X tg v σ H Q
def DGs (X : Cx) (ts : List Expr) (dl : List D) (f : Ds) : Prop := ∀ ds ms σ H vs, Sy ds ms σ H → All2 (fun (d : D) u => d.p (mi H (ads ms)) u) dl vs → ∀ Q : L2.St → Hp → Prop, (∀ σ' H', Sy (f ++ ds) ms σ' H' → Ex (ads ms) H H' → Upto (f.map (·.1)) σ σ' → Q σ' H') → wGs X ts vs σ H Q
theorem sy_set (s : Sy ds ms σ H) {i : Nat} {v : V} (h : d.p (mi H (ads ms)) v) : Sy ((i, d) :: ds) ms (σ.set i (some v)) H := by
  refine ⟨fun j dj hj hl => ?_, s.nd, s.ce⟩
  rw [List.length_set] at hl
  rw [List.lookup_cons] at hj
  cases hb : j == i with
  | true =>
    rw [hb] at hj
    cases hj
    obtain rfl := beq_iff_eq.mp hb
    exact ⟨v, List.getElem?_set_self hl, h⟩
  | false =>
    rw [hb] at hj
    obtain ⟨u, h1, h2⟩ := s.sl j dj hj hl
    refine ⟨u, ?_, h2⟩
    rw [List.getElem?_set_ne fun z => by rw [z, beq_self_eq_true] at hb; cases hb]
    exact h1
theorem g_name (i : Nat) {x : Str} (hN : X.N.Nodup) (hi : X.N[i]? = some x := by rfl) (hx : Loc X.env.scope x := by first | exact Or.inl rfl | exact Or.inr rfl) (hf : X.fn x = true ∨ X.env.scope.names.lookup x = some .local := by first | exact .inl rfl | exact .inr rfl) : DG X (.Name x pos) d [(i, d)] := fun ds ms σ H v s h Q k pins sh u I r =>
  (pg_name hN hi hx hf).run pins sh σ H v u Q I r (k _ H (sy_set s h) (Ex.refl _ _) ⟨List.length_set, fun j hj => List.getElem?_set_ne fun z => hj (by rw [z]; exact List.mem_cons_self)⟩)
theorem gs_nil : DGs X [] [] [] := fun ds ms σ H vs s h Q k pins sh us I r => by
  have e : vs = [] := by
    cases vs with
    | nil => rfl
    | cons a b => exact h.elim
  exact (pgs_nil).run pins sh σ H vs us Q I r ⟨e, k σ H s (Ex.refl _ _) ⟨rfl, fun _ _ => rfl⟩⟩
theorem gs_cons {t : Expr} {ts : List Expr} {f g : Ds} (h1 : DG X t d f) (h2 : DGs X ts dl g) (hs : (assignEach (t :: ts) X.env).map (·.2) = assign t X.env :: (assignEach ts X.env).map (·.2) := by rfl) : DGs X (t :: ts) (d :: dl) (g ++ f) := fun ds ms σ H vs s h Q k pins sh us I r => by
  cases vs with
  | nil => exact h.elim
  | cons v vs =>
    refine (pgs_cons (wG_ok t) (wGs_ok ts) hs).run pins sh σ H _ us Q I r ⟨v, vs, rfl, ?_⟩
    refine h1 ds ms σ H v s h.1 _ fun σ1 H1 s1 e1 u1 => ?_
    refine h2 _ ms σ1 H1 vs s1 (h.2.imp fun d _ z => d.mono e1.g z) _ fun σ2 H2 s2 e2 u2 => ?_
    refine k σ2 H2 (by rw [List.append_assoc]; exact s2) (e1.trans e2) ?_
    rw [List.map_append]
    exact u1.trans u2
theorem g_tup {ts : List Expr} {f : Ds} {x1} (hc : X.calm = true) (h : DGs X ts dl f) (hn : (assignEach ts X.env).length = dl.length := by rfl) (hst : (assignEach ts X.env).findIdx? (·.1) = none := by rfl) : DG X (.Tuple ts x1 pos) (dT dl) f := fun ds ms σ H v s ⟨a, xs, h1, h2, h3⟩ Q k pins sh u I r =>
  (pg_tup hc (wGs_ok ts) hn hst).run pins sh σ H v u Q I r ⟨a, xs, h1, SqT.of (mi_sub _ _ h2), h3.len.symm, h ds ms σ H xs s h3 Q k⟩
theorem g_pair {α β : Type} [Rp α] [Rp β] {x : α × β} {t u : Expr} {f g : Ds} {x1} (hc : X.calm = true) (h1 : DG X t (R x.1) f) (h2 : DG X u (R x.2) g) (hs : (assignEach [t, u] X.env).map (·.2) = assign t X.env :: (assignEach [u] X.env).map (·.2) := by rfl) (hs2 : (assignEach [u] X.env).map (·.2) = assign u X.env :: (assignEach [] X.env).map (·.2) := by rfl)
    (hn : (assignEach [t, u] X.env).length = 2 := by rfl) (hst : (assignEach [t, u] X.env).findIdx? (·.1) = none := by rfl) : DG X (.Tuple [t, u] x1 pos) (R x) (g ++ f) := by
  have := g_tup (pos := pos) (x1 := x1) (dl := [R x.1, R x.2]) hc (gs_cons h1 (gs_cons h2 gs_nil hs2) hs) hn hst
  rw [List.nil_append] at this
  exact this
end

/-! ### statements -/
section
variable {X : Cx} {ds : Ds} {ms : MS} {e a b c : Expr} {rest : List Stmt} {d da db : D} {dl : List D} {E : SE} {pos : Pos}
theorem run_ps {st : Stmt} {t : TS} (h : PS X st t) {G0 : Hp} {σ : L2.St} {H : Hp} {Dn : Ends} (q : t Dn σ H) : wS X st Dn σ H := wS_of h q
/-- target = e -/
theorem d_asgI {tg : Expr} (he : DI X ds ms e fun d m => ∃ f, DG X tg d f ∧ DS X (f ++ ds) m rest E) (hs : swapsWithSole [tg] e pos.line X.env = pure false := by rfl) (hw : swappedStores [tg] e X.env = pure none := by rfl) (h1 : (assignEach [tg] X.env).map (·.2) = [assign tg X.env] := by rfl) :
    DS X ds ms (.Assign [tg] e pos :: rest) E := d_cons fun G0 σ H s => wS_of (ps_asg (wE_ok e) (wG_ok tg) hs hw h1) (he σ H s.s _ fun d m v H1 ⟨f, q1, q2⟩ s1 g1 p1 =>
  q1 ds m σ H1 v s1 p1 _ fun σ2 H2 s2 e2 _ => ⟨_, _, q2, s2, s.a.trans (g1.trans e2.g)⟩)
theorem d_asg {tg : Expr} {f : Ds} (he : DE X ds ms e d) (hg : DG X tg d f) (h : DS X (f ++ ds) ms rest E) (hs : swapsWithSole [tg] e pos.line X.env = pure false := by rfl) (hw : swappedStores [tg] e X.env = pure none := by rfl) (h1 : (assignEach [tg] X.env).map (·.2) = [assign tg X.env] := by rfl) :
    DS X ds ms (.Assign [tg] e pos :: rest) E := d_asgI (i_pure he ⟨f, hg, h⟩) hs hw h1
/-- x = e -/
theorem d_setI (i : Nat) {x : Str} {pos' : Pos} (hN : X.N.Nodup) (he : DI X ds ms e fun d m => DS X ((i, d) :: ds) m rest E) (hi : X.N[i]? = some x := by rfl) (hx : Loc X.env.scope x := by first | exact Or.inl rfl | exact Or.inr rfl) (hs : swapsWith e (some (.Name x pos')) pos.line X.env = pure false := by rfl)
    (hf : X.fn x = true ∨ X.env.scope.names.lookup x = some .local := by first | exact .inl rfl | exact .inr rfl) : DS X ds ms (.Assign [.Name x pos'] e pos :: rest) E := d_cons fun G0 σ H s => wS_of (ps_set hN hi hx (wE_ok e) hs hf) (he σ H s.s _ fun d m v H1 q s1 g1 p1 => ⟨_, _, q, sy_set s1 p1, s.a.trans g1⟩)
theorem d_set (i : Nat) {x : Str} {pos' : Pos} (hN : X.N.Nodup) (he : DE X ds ms e d) (h : DS X ((i, d) :: ds) ms rest E) (hi : X.N[i]? = some x := by rfl) (hx : Loc X.env.scope x := by first | exact Or.inl rfl | exact Or.inr rfl) (hs : swapsWith e (some (.Name x pos')) pos.line X.env = pure false := by rfl)
    (hf : X.fn x = true ∨ X.env.scope.names.lookup x = some .local := by first | exact .inl rfl | exact .inr rfl) : DS X ds ms (.Assign [.Name x pos'] e pos :: rest) E := d_setI i hN (i_pure he h) hi hx hs hf
/-- x = a new list, a cell -/
theorem d_new (i : Nat) {x : Str} {pos' : Pos} (hN : X.N.Nodup) (he : DN X ds ms e dl) (h : ∀ a, DS X ((i, dAt a) :: ds) ((a, mL dl) :: ms) rest E) (hi : X.N[i]? = some x := by rfl) (hx : Loc X.env.scope x := by first | exact Or.inl rfl | exact Or.inr rfl) (hs : swapsWith e (some (.Name x pos')) pos.line X.env = pure false := by rfl)
    (hf : X.fn x = true ∨ X.env.scope.names.lookup x = some .local := by first | exact .inl rfl | exact .inr rfl) : DS X ds ms (.Assign [.Name x pos'] e pos :: rest) E := d_setI i hN (i_new he h) hi hx hs hf
/-- x, y = a, b of plain locals -/
theorem d_parI (i j : Nat) {x y : Str} {px py pt : Pos} {kt k2 pt2} (hc : X.calm = true) (hN : X.N.Nodup) (ha : DAi X ds ms [a, b] fun dl m => ∃ da db, dl = [da, db] ∧ DS X ((j, db) :: (i, da) :: ds) m rest E) (hi : X.N[i]? = some x := by rfl) (hj : X.N[j]? = some y := by rfl) (hij : i ≠ j := by decide)
    (hx : X.env.scope.names.lookup x = some .local := by rfl) (hy : X.env.scope.names.lookup y = some .local := by rfl) (hw : swappedStores [.Tuple [.Name x px, .Name y py] kt pt] (.Tuple [a, b] k2 pt2) X.env = pure (some [x, y]) := by rfl)
    (hs : swapsWithSole [.Tuple [.Name x px, .Name y py] kt pt] (.Tuple [a, b] k2 pt2) pos.line X.env = pure false := by rfl) : DS X ds ms (.Assign [.Tuple [.Name x px, .Name y py] kt pt] (.Tuple [a, b] k2 pt2) pos :: rest) E :=
  d_cons fun G0 σ H s => wS_of (ps_par hc hN hi hj hij hx hy (wA_ok _) hw hs) (ha σ H s.s _ fun dl m vs H1 ⟨da, db, e1, q⟩ s1 g1 p1 => by
    subst e1
    match vs, p1 with
    | [v, w], p1 => exact ⟨v, w, rfl, _, _, q, sy_set (sy_set s1 p1.1) p1.2.1, s.a.trans g1⟩)
theorem d_par (i j : Nat) {x y : Str} {px py pt : Pos} {kt k2 pt2} (hc : X.calm = true) (hN : X.N.Nodup) (ha : DE X ds ms a da) (hb : DE X ds ms b db) (h : DS X ((j, db) :: (i, da) :: ds) ms rest E) (hi : X.N[i]? = some x := by rfl) (hj : X.N[j]? = some y := by rfl) (hij : i ≠ j := by decide)
    (hx : X.env.scope.names.lookup x = some .local := by rfl) (hy : X.env.scope.names.lookup y = some .local := by rfl) (hw : swappedStores [.Tuple [.Name x px, .Name y py] kt pt] (.Tuple [a, b] k2 pt2) X.env = pure (some [x, y]) := by rfl)
    (hs : swapsWithSole [.Tuple [.Name x px, .Name y py] kt pt] (.Tuple [a, b] k2 pt2) pos.line X.env = pure false := by rfl) (n1 : starEach [a, b] X.env = (false, eval a X.env) :: starEach [b] X.env := by rfl) (n2 : starEach [b] X.env = (false, eval b X.env) :: starEach [] X.env := by rfl) :
    DS X ds ms (.Assign [.Tuple [.Name x px, .Name y py] kt pt] (.Tuple [a, b] k2 pt2) pos :: rest) E := d_parI i j hc hN (ai_pure (a_cons ha (a_cons hb a_nil n2) n1) ⟨_, _, rfl, h⟩) hi hj hij hx hy hw hs
/-- x op= e, x an int -/
theorem d_aug (i : Nat) {x : Str} {op : Operator} {g : Int → Int → Int} {C : Int → Int → Prop} {u v : Int} {pos' : Pos} (hN : X.N.Nodup) (hop : OpR X (inplaceOp op) (rI C fun i j => .int (g i j))) (hl : ds.lookup i = some (R u)) (he : DE X ds ms e (R v)) (hc : C u v) (h : DS X ((i, R (g u v)) :: ds) ms rest E)
    (hi : X.N[i]? = some x := by rfl) (hx : Loc X.env.scope x := by first | exact Or.inl rfl | exact Or.inr rfl) (hf : X.fn x = true ∨ X.env.scope.names.lookup x = some .local := by first | exact .inl rfl | exact .inr rfl) :
    DS X ds ms (.AugAssign (.Name x pos') op e pos :: rest) E := d_cons fun G0 σ H s pins sh I => by
  have hlen : i < σ.length := by
    rw [I.len]
    exact (List.getElem?_eq_some_iff.mp hi).1
  obtain ⟨w0, h1, h2⟩ := s.s.sl i _ hl hlen
  have hp : PIp X op (rI C fun i j => .int (g i j)) := fun pins s σ H x y v u Q I rx ry h => hop pins s σ H x y v u Q I rx ry h
  refine (ps_aug (ti := rI C fun i j => .int (g i j)) hN hi hx (wE_ok e) hp hf).run pins sh σ H _ I ⟨w0, h1, ?_⟩
  exact he σ H s.s _ fun y H1 e1 p1 => ⟨u, v, h2, p1, hc, _, _, h, sy_set (s.s.ex e1) rfl, s.a.trans e1.g⟩
theorem iadd_C {X : Cx} : OpR X (inplaceOp .Add) (rI (fun _ _ => True) fun i j => .int (i + j)) := fun pins s σ H x y v u Q I rx ry ⟨i, j, h1, h2, _, q⟩ => iop_add pins s σ H x y v u Q I rx ry ⟨i, j, h1, h2, q⟩
theorem isub_C {X : Cx} : OpR X (inplaceOp .Sub) (rI (fun _ _ => True) fun i j => .int (i - j)) := fun pins s σ H x y v u Q I rx ry ⟨i, j, h1, h2, _, q⟩ => iop_sub pins s σ H x y v u Q I rx ry ⟨i, j, h1, h2, q⟩
/-- return e -/
theorem d_retI (he : DI X ds ms e fun d m => E.rt d m) : DS X ds ms (.Return (some e) pos :: rest) E := d_cons fun G0 σ H s => wS_of (ps_ret (wE_ok e)) (he σ H s.s _ fun d m v H1 q s1 g1 p1 => ⟨d, m, q, p1, s1.nd, s1.ce, s.a.trans g1⟩)
theorem d_ret (he : DE X ds ms e d) (h : E.rt d ms) : DS X ds ms (.Return (some e) pos :: rest) E := d_retI (i_pure he h)
/-- if c: .. else: .., what follows behind both -/
theorem d_ifI {thn els : List Stmt} (hc : DBi X ds ms c fun k m => (k = true → DS X ds m thn { E with nx := fun ds' ms' => DS X ds' ms' rest E }) ∧ (k = false → DS X ds m els { E with nx := fun ds' ms' => DS X ds' ms' rest E })) : DS X ds ms (.If c thn els pos :: rest) E :=
  d_cons fun G0 σ H s => wS_of (ps_if (wT_ok c) (wSs_ok thn) (wSs_ok els)) (hc σ H s.s _ fun k m H1 ⟨q1, q2⟩ s1 g1 => by
    cases k with
    | true => exact iteT (q1 rfl G0 σ H1 ⟨s1, s.a.trans g1⟩)
    | false => exact iteF (q2 rfl G0 σ H1 ⟨s1, s.a.trans g1⟩))
theorem d_if {thn els : List Stmt} {k : Bool} (hc : DB X ds ms c k) (h1 : k = true → DS X ds ms thn { E with nx := fun ds' ms' => DS X ds' ms' rest E }) (h2 : k = false → DS X ds ms els { E with nx := fun ds' ms' => DS X ds' ms' rest E }) : DS X ds ms (.If c thn els pos :: rest) E := d_ifI (bi_pure hc ⟨h1, h2⟩)
/-- if c: .. that is not taken -/
theorem d_no {thn : List Stmt} {k : Bool} (hc : DB X ds ms c k) (hk : k = false) (h : DS X ds ms rest E) : DS X ds ms (.If c thn [] pos :: rest) E := d_if hc (fun z => by rw [hk] at z; cases z) fun _ => d_nil h
/-- code that is not reached -/
theorem d_break (h : E.bk ds ms) : DS X ds ms (.Break pos :: rest) E := d_cons fun G0 σ H s => wS_of ps_break ⟨ds, ms, h, s⟩
theorem d_pass (h : DS X ds ms rest E) : DS X ds ms (.Pass pos :: rest) E := d_cons fun G0 σ H s => wS_of ps_pass ⟨ds, ms, h, s⟩
/-- an expression as a statement -/
theorem d_expr (he : DI X ds ms e fun d m => DS X ds m rest E) (hs : swapsWith e none pos.line X.env = pure false := by rfl) : DS X ds ms (.Expr e pos :: rest) E := d_cons fun G0 σ H s => wS_of (ps_expr (wE_ok e) hs) (he σ H s.s _ fun d m v H1 q s1 g1 p1 => ⟨ds, m, q, s1, s.a.trans g1⟩)
/-- a cell that changes no more: the slot i holds its list for good -/
theorem d_frz (i : Nat) {q : Addr} {sts : List Stmt} {ms' : MS} (hl : ds.lookup i = some (dAt q)) (hp : ((q, mL dl) :: ms').Perm ms) (h : DS X ((i, dL dl) :: ds) ms' sts E) : DS X ds ms sts E := fun G0 σ H s => by
  have w : Wk ds ms ds ms' := ⟨fun _ _ z => z, _, hp, List.sublist_cons_self _ _⟩
  obtain ⟨s2, e⟩ := w.sy s.s
  refine h G0 σ H ⟨⟨fun j dj hj hlen => ?_, s2.nd, s2.ce⟩, s.a.trans e⟩
  rw [List.lookup_cons] at hj
  cases hb : j == i with
  | true =>
    rw [hb] at hj
    cases hj
    obtain rfl := beq_iff_eq.mp hb
    obtain ⟨v, h1, h2⟩ := s.s.sl j _ hl hlen
    obtain ⟨o, h3, vs, h4, h5⟩ := s.s.ce (q, mL dl) (hp.mem_iff.mp List.mem_cons_self)
    refine ⟨v, h1, q, vs, h2, ?_, h5.imp fun d _ z => d.mono e z⟩
    rw [h4] at h3
    refine mi_of h3 (fun z => ?_) (fun x z => by cases z)
    have nd : (ads ((q, mL dl) :: ms')).Nodup := ((hp.map _).nodup_iff).mpr s.s.nd
    exact (List.nodup_cons.mp nd).1 z
  | false =>
    rw [hb] at hj
    exact s2.sl j dj hj hlen
/-- the cell at the head -/
theorem d_frz0 (i : Nat) {q : Addr} {sts : List Stmt} (hl : ds.lookup i = some (dAt q)) (h : DS X ((i, dL dl) :: ds) ms sts E) : DS X ds ((q, mL dl) :: ms) sts E := d_frz i hl (.refl _) h
/-- what a slot holds, said otherwise -/
theorem d_as (i : Nat) {d d' : D} {sts : List Stmt} (hl : ds.lookup i = some d) (hd : ∀ G v, d.p G v → d'.p G v) (h : DS X ((i, d') :: ds) ms sts E) : DS X ds ms sts E := fun G0 σ H s => by
  refine h G0 σ H ⟨⟨fun j dj hj hlen => ?_, s.s.nd, s.s.ce⟩, s.a⟩
  rw [List.lookup_cons] at hj
  cases hb : j == i with
  | true =>
    rw [hb] at hj
    cases hj
    obtain rfl := beq_iff_eq.mp hb
    obtain ⟨v, h1, h2⟩ := s.s.sl j _ hl hlen
    exact ⟨v, h1, hd _ _ h2⟩
  | false =>
    rw [hb] at hj
    exact s.s.sl j dj hj hlen
end
end Bh
/-! B6: walks, for, while, comprehensions. -/
namespace Bh
open PySem PySem.Spec PyProof.Rows L2

/-- iterating gives the items one by one; they are there for good -/
def DWk (X : Cx) (ds : Ds) (ms : MS) (tg iter : Expr) (items : List D) : Prop := ∃ wi, PI X tg iter wi ∧ ∀ σ H, Sy ds ms σ H → ∀ R : It → Hp → Prop, (∀ J H1, Ex (ads ms) H H1 → (∃ (G : Hp → Prop) (Y : Nat → Hp → V → Hp → Prop), Walk J items.length G Y ∧
    (∀ ps H2, Same (mi H1 (ads ms)) (mi H2 ps) → G H2) ∧
    (∀ i H2 x H3 d ps, (∀ p ∈ ps, H2 p ≠ none) → Same (mi H1 (ads ms)) (mi H2 ps) → Y i H2 x H3 → items[i]? = some d → Ex ps H2 H3 ∧ d.p (mi H3 ps) x)) → R J H1) → wi σ H R
section
variable {X : Cx} {ds : Ds} {ms : MS} {e a b c tg iter : Expr} {dl dl2 : List D} {pos p p2 : Pos}
theorem wk_list (h : DE X ds ms e (dL dl)) : DWk X ds ms tg e dl := ⟨_, pi_list (wE_ok e), fun σ H s R k => h σ H s _ fun v H1 e1 ⟨a, vs, h1, h2, h3⟩ => ⟨a, h1, ⟨vs, SqL.of (mi_sub _ _ h2)⟩, k _ H1 e1 ⟨_, _, h3.len ▸ walk_list (K := X.K) (a := a) (xs := vs), fun ps H2 g => SqL.of (mi_sub _ _ (g _ _ h2)), fun i H2 x H3 d ps hp g y hd => by
  obtain ⟨rfl, y⟩ := y
  obtain ⟨v, q1, q2⟩ := h3.get hd
  rw [q1] at y
  cases y
  exact ⟨Ex.refl _ _, d.mono g q2⟩⟩⟩⟩
theorem wk_tup (h : DE X ds ms e (dT dl)) : DWk X ds ms tg e dl := ⟨_, pi_tup (wE_ok e), fun σ H s R k => h σ H s _ fun v H1 e1 ⟨a, vs, h1, h2, h3⟩ => ⟨a, h1, ⟨vs, SqT.of (mi_sub _ _ h2)⟩, k _ H1 e1 ⟨_, _, h3.len ▸ walk_tup (K := X.K) (a := a) (xs := vs), fun ps H2 g => SqT.of (mi_sub _ _ (g _ _ h2)), fun i H2 x H3 d ps hp g y hd => by
  obtain ⟨rfl, y⟩ := y
  obtain ⟨v, q1, q2⟩ := h3.get hd
  rw [q1] at y
  cases y
  exact ⟨Ex.refl _ _, d.mono g q2⟩⟩⟩⟩
theorem wk_R {α : Type} [Rp α] {xs : List α} (h : DE X ds ms e (R xs)) : DWk X ds ms tg e (xs.map fun x => R x) := wk_list h
/-- the ints lo, lo + c, .. -/
def stepL (lo c : Int) (n : Nat) : List Int := (List.range n).map fun (i : Nat) => lo + (i : Int) * c
def rngL (lo : Int) (n : Nat) : List Int := (List.range n).map fun (i : Nat) => lo + (i : Int)
theorem stepL_get {lo c : Int} {n i : Nat} {x : Int} (h : (stepL lo c n)[i]? = some x) : i < n ∧ x = lo + (i : Int) * c := by
  unfold stepL at h
  rw [List.getElem?_map] at h
  obtain ⟨j, h1, h2⟩ := Option.map_eq_some_iff.mp h
  obtain ⟨hl, e⟩ := List.getElem?_eq_some_iff.mp h1
  rw [List.length_range] at hl
  rw [List.getElem_range] at e
  subst e
  exact ⟨hl, h2.symm⟩
theorem rngL_get {lo : Int} {n i : Nat} {x : Int} (h : (rngL lo n)[i]? = some x) : i < n ∧ x = lo + (i : Int) := by
  unfold rngL at h
  rw [List.getElem?_map] at h
  obtain ⟨j, h1, h2⟩ := Option.map_eq_some_iff.mp h
  obtain ⟨hl, e⟩ := List.getElem?_eq_some_iff.mp h1
  rw [List.length_range] at hl
  rw [List.getElem_range] at e
  subst e
  exact ⟨hl, h2.symm⟩
theorem rngL_len (lo : Int) (n : Nat) : (rngL lo n).length = n := by unfold rngL; rw [List.length_map, List.length_range]
theorem stepL_len (lo c : Int) (n : Nat) : (stepL lo c n).length = n := by unfold stepL; rw [List.length_map, List.length_range]
theorem rng_items {lo : Int} {n i : Nat} {d : D} (h : ((rngL lo n).map fun x => R x)[i]? = some d) : d = R (lo + (i : Int)) := by
  rw [List.getElem?_map] at h
  obtain ⟨x, h1, h2⟩ := Option.map_eq_some_iff.mp h
  obtain ⟨_, e⟩ := rngL_get h1
  rw [← h2, e]
theorem wk_rng1 {j : Int} (hm : X.mg "range" = none) (h : DE X ds ms e (R j)) (hj : -(2 ^ 62) ≤ j ∧ j < 2 ^ 62) (hg : Gl X "range" := by rfl) (he : starEach [e] X.env = (false, eval e X.env) :: starEach [] X.env := by rfl) (hs : starEach [e] X.env = [(false, eval e X.env)] := by rfl) :
    DWk X ds ms tg (.Call (.Name "range" p) [e] [] pos) ((rngL 0 j.toNat).map fun x => R x) := ⟨_, pi_range1 hg hm (pa_cons (wE_ok e) pa_nil he) hs, fun σ H s R k => h σ H s _ fun v H1 e1 h1 => ⟨j, by rw [show v = V.int j from h1], hj.1, hj.2, k _ H1 e1 ⟨_, _, by rw [List.length_map, rngL_len]; exact walk_range, fun _ _ _ => trivial, fun i H2 x H3 d ps hp g y hd => by
  obtain ⟨rfl, y⟩ := y
  rw [rng_items hd]
  exact ⟨Ex.refl _ _, y⟩⟩⟩⟩
theorem wk_rng2 {i j : Int} (hm : X.mg "range" = none) (h : DE X ds ms a (R i)) (h' : DE X ds ms b (R j)) (hj : -(2 ^ 62) ≤ i ∧ i < 2 ^ 62 ∧ -(2 ^ 62) ≤ j ∧ j < 2 ^ 62) (hg : Gl X "range" := by rfl) (he : starEach [a, b] X.env = (false, eval a X.env) :: starEach [b] X.env := by rfl) (he2 : starEach [b] X.env = (false, eval b X.env) :: starEach [] X.env := by rfl)
    (hs : starEach [a, b] X.env = [(false, eval a X.env), (false, eval b X.env)] := by rfl) (hs2 : starEach [b] X.env = [(false, eval b X.env)] := by rfl) :
    DWk X ds ms tg (.Call (.Name "range" p) [a, b] [] pos) ((rngL i (j - i).toNat).map fun x => R x) := ⟨_, pi_range2 hg hm (pa_cons (wE_ok a) (pa_cons (wE_ok b) pa_nil he2) he) hs hs2, fun σ H s R k => h σ H s _ fun v H1 e1 h1 => h' σ H1 (s.ex e1) _ fun v2 H2 e2 h2 =>
  ⟨i, j, by rw [show v = V.int i from h1, show v2 = V.int j from h2], hj, k _ H2 (e1.trans e2) ⟨_, _, by rw [List.length_map, rngL_len]; exact walk_range, fun _ _ _ => trivial, fun i H2 x H3 d ps hp g y hd => by
  obtain ⟨rfl, y⟩ := y
  rw [rng_items hd]
  exact ⟨Ex.refl _ _, y⟩⟩⟩⟩

/-! ### loops -/
def Lp {A : Type} (I : A → Prop) (sd : A → Ds) (sm : A → MS) : Ds → MS → Prop := fun ds ms => ∃ a, I a ∧ Wk ds ms (sd a) (sm a)
variable {rest body : List Stmt} {E : SE}
theorem Rg.an {G0 G1 : Hp} {d : D} {v : V} {H : Hp} (r : Rg G1 d ms v H) (e : Same G0 G1) : Rg G0 d ms v H := ⟨r.v, r.nd, r.ce, e.trans r.a⟩
/-- a body under another anchor, other ends -/
theorem ds_run {σ : L2.St} {H G1 : Hp} {E' : SE} {Dn : Ends} (h : DS X ds ms body E') (s : Sg G1 ds ms σ H) (hn : ∀ ds ms σ H, E'.nx ds ms → Sg G1 ds ms σ H → Dn.nx σ H) (hc : ∀ ds ms σ H, E'.ct ds ms → Sg G1 ds ms σ H → Dn.ct σ H)
    (hb : ∀ ds ms σ H, E'.bk ds ms → Sg G1 ds ms σ H → Dn.bk σ H) (hr : ∀ d ms v H, E'.rt d ms → Rg G1 d ms v H → Dn.rt v H) : wSs X body Dn σ H := fun pins sh I => by
  refine wpAny_mono (h G1 σ H s pins sh I) (fun f s' q => ?_) fun _ _ q => q
  cases f with
  | next =>
    obtain ⟨σ', H', I', ds', ms', q1, q2⟩ := q
    exact ⟨σ', H', I', hn _ _ _ _ q1 q2⟩
  | ret v =>
    obtain ⟨v2, σ', H', I', rv, d', ms', q1, q2⟩ := q
    exact ⟨v2, σ', H', I', rv, hr _ _ _ _ q1 q2⟩
  | brk =>
    obtain ⟨σ', H', I', ds', ms', q1, q2⟩ := q
    exact ⟨σ', H', I', hb _ _ _ _ q1 q2⟩
  | cont =>
    obtain ⟨σ', H', I', ds', ms', q1, q2⟩ := q
    exact ⟨σ', H', I', hc _ _ _ _ q1 q2⟩
/-- for tg in iter: body -/
theorem d_for {α A : Type} [Rp α] (xs : List α) (f : α → Ds) (I : Nat → A → Prop) (sd : Nat → A → Ds) (sm : Nat → A → MS) (hc : X.calm = true) (hw : DWk X ds ms tg iter (xs.map fun x => R x)) (hg : ∀ x, DG X tg (R x) (f x))
    (h0 : Lp (I 0) (sd 0) (sm 0) ds ms)
    (hs : ∀ i a x, xs[i]? = some x → I i a → DS X (f x ++ sd i a) (sm i a) body { nx := Lp (I (i + 1)) (sd (i + 1)) (sm (i + 1)), ct := Lp (I (i + 1)) (sd (i + 1)) (sm (i + 1)), bk := fun ds ms => DS X ds ms rest E, rt := E.rt })
    (hd : ∀ a, I xs.length a → DS X (sd xs.length a) (sm xs.length a) rest E) (hp : PassesOwn (model X.prog X.w) X.A X.env X.xe := by exact PassesOwn.never) (hf : ∀ x, foldedSetIterable iter X.env x = pure x := by intro _; rfl) : DS X ds ms (.For tg iter body [] pos :: rest) E := by
  obtain ⟨wi, hpi, hwi⟩ := hw
  refine d_cons fun G0 σ H s => wS_of (ps_for hp hc hpi (wG_ok tg) (wSs_ok body) hf) ?_
  refine hwi σ H s.s _ fun J H1 e1 ⟨G, Y, w, hG, hY⟩ => ?_
  rw [List.length_map] at w
  have g01 : Same G0 (mi H1 (ads ms)) := s.a.trans e1.g
  refine for_it w (D := SE.sem G0 { E with nx := fun ds' ms' => DS X ds' ms' rest E }) (fun i σ H => ∃ ds' ms', Lp (I i) (sd i) (sm i) ds' ms' ∧ Sg (mi H1 (ads ms)) ds' ms' σ H) ⟨ds, ms, h0, s.s.ex e1, Same.refl _⟩ (fun i σ2 H2 _ ⟨ds', ms', _, q⟩ => hG _ _ q.a) (fun i x σ2 H2 H3 hi ⟨ds', ms', ⟨a, ia, wk⟩, q⟩ y => ?_) (fun σ2 H2 ⟨ds', ms', ⟨a, ia, wk⟩, q⟩ => ?_)
  · have q2 := wk.sg q
    obtain ⟨xi, hxi⟩ : ∃ xi, xs[i]? = some xi := ⟨xs[i], List.getElem?_eq_getElem hi⟩
    obtain ⟨e3, p3⟩ := hY i H2 x H3 (R xi) (ads (sm i a)) (fun p hp => q2.s.ce.there hp) q2.a y (by rw [List.getElem?_map, hxi]; rfl)
    refine hg xi (sd i a) (sm i a) σ2 H3 x (q2.s.ex e3) p3 _ fun σ4 H4 s4 e4 _ => ?_
    refine ds_run (hs i a xi hxi ia) ⟨s4, q2.a.trans (e3.g.trans e4.g)⟩ (fun ds ms σ H h1 h2 => ⟨ds, ms, h1, h2⟩) (fun ds ms σ H h1 h2 => ⟨ds, ms, h1, h2⟩) (fun ds ms σ H h1 h2 => ⟨ds, ms, h1, h2.an g01⟩) (fun d ms v H h1 h2 => ⟨d, ms, h1, h2.an g01⟩)
  · exact ⟨_, _, hd a ia, (wk.sg q).an g01⟩
/-- while c: body -/
theorem d_while {A : Type} (I : A → Prop) (μ : A → Nat) (sd : A → Ds) (sm : A → MS) (t : A → Bool) (h0 : Lp I sd sm ds ms) (hc : ∀ a, I a → DB X (sd a) (sm a) c (t a))
    (hs : ∀ a, I a → t a = true → DS X (sd a) (sm a) body { nx := Lp (fun a' => I a' ∧ μ a' < μ a) sd sm, ct := Lp (fun a' => I a' ∧ μ a' < μ a) sd sm, bk := fun ds ms => DS X ds ms rest E, rt := E.rt })
    (hd : ∀ a, I a → t a = false → DS X (sd a) (sm a) rest E) (hp : PassesOwn (model X.prog X.w) X.A X.env X.xe := by exact PassesOwn.never) : DS X ds ms (.While c body [] pos :: rest) E := by
  refine d_cons fun G0 σ H s => wS_of (ps_while hp (wT_ok c) (wSs_ok body)) ?_
  refine ⟨fun m σ H => ∃ a, m = μ a ∧ I a ∧ Sg G0 (sd a) (sm a) σ H, ?_, ?_⟩
  · obtain ⟨a, ia, wk⟩ := h0
    exact ⟨_, a, rfl, ia, wk.sg s⟩
  · rintro m σ2 H2 ⟨a, rfl, ia, q⟩
    refine hc a ia σ2 H2 q.s _ fun H3 e3 => ?_
    have q3 : Sg G0 (sd a) (sm a) σ2 H3 := q.ex e3
    cases ht : t a with
    | true =>
      refine iteT ⟨fun σ' H' => ∃ a', I a' ∧ μ a' < μ a ∧ Sg G0 (sd a') (sm a') σ' H', fun σ' H' ⟨a', h1, h2, h3⟩ => ⟨_, h2, a', rfl, h1, h3⟩, ?_⟩
      exact ds_run (hs a ia ht) q3 (fun ds ms σ H ⟨a', ⟨h1, h1'⟩, h2⟩ h3 => ⟨a', h1, h1', h2.sg h3⟩) (fun ds ms σ H ⟨a', ⟨h1, h1'⟩, h2⟩ h3 => ⟨a', h1, h1', h2.sg h3⟩) (fun ds ms σ H h1 h2 => ⟨ds, ms, h1, h2⟩) (fun d ms v H h1 h2 => ⟨d, ms, h1, h2⟩)
    | false => exact iteF ⟨_, _, hd a ia ht, q3⟩

/-! ### comprehensions -/
theorem wipe_get {σ : L2.St} : ∀ {vs : List Nat} {j : Nat}, (wipe σ vs)[j]? = if j ∈ vs ∧ j < σ.length then some none else σ[j]?
  | [], j => by simp [wipe]
  | v :: vs, j => by
    unfold wipe
    by_cases hv : v = j
    · subst hv
      by_cases hl : v < σ.length
      · rw [List.getElem?_set_self (by rw [wipe_length]; exact hl), if_pos ⟨List.mem_cons_self, hl⟩]
      · rw [List.getElem?_eq_none (by rw [List.length_set, wipe_length]; omega), if_neg fun z => hl z.2, List.getElem?_eq_none (by omega)]
    · rw [List.getElem?_set_ne hv, wipe_get (vs := vs)]
      have : (j ∈ v :: vs ∧ j < σ.length) ↔ (j ∈ vs ∧ j < σ.length) := by
        rw [List.mem_cons]
        constructor
        · rintro ⟨z | z, h⟩
          · exact absurd z.symm hv
          · exact ⟨z, h⟩
        · rintro ⟨z, h⟩
          exact ⟨.inr z, h⟩
      simp only [this]
theorem wipe_upto {σ σ' : L2.St} {js vs : List Nat} (h : Upto js σ σ') (hj : ∀ j ∈ js, j ∈ vs) : wipe σ' vs = wipe σ vs := by
  refine List.ext_getElem? fun j => ?_
  rw [wipe_get, wipe_get, h.1]
  split
  · rfl
  · rename_i hn
    by_cases hjs : j ∈ js
    · have : ¬ j < σ.length := fun z => hn ⟨hj j hjs, z⟩
      rw [List.getElem?_eq_none (by rw [h.1]; omega), List.getElem?_eq_none (by omega)]
    · exact h.2 j hjs
theorem sy_wipe {σ : L2.St} {H : Hp} (s : Sy ds ms σ H) {vs : List Nat} (h : ∀ i d, ds.lookup i = some d → i ∉ vs) : Sy ds ms (wipe σ vs) H :=
  ⟨fun i d hi hl => by
    rw [wipe_length] at hl
    obtain ⟨v, h1, h2⟩ := s.sl i d hi hl
    refine ⟨v, ?_, h2⟩
    rw [wipe_get, if_neg fun z => h i d hi z.1]
    exact h1, s.nd, s.ce⟩
theorem line_lt {n : Nat} (h : n < 1000000) : n < sizeLine := Nat.lt_of_lt_of_le h (by decide)
/-- no slot of ds is one of vs -/
def offB (ds : Ds) (vs : List Nat) : Bool := ds.all fun p => !vs.contains p.1
theorem off_ok {vs : List Nat} (h : offB ds vs = true) : ∀ i d, ds.lookup i = some d → i ∉ vs := fun i d hi hm => by
  unfold offB at h
  have hmem : (i, d) ∈ ds := by
    clear h
    induction ds with
    | nil => cases hi
    | cons q r ih =>
      rw [List.lookup_cons] at hi
      cases hb : i == q.1 with
      | true =>
        rw [hb] at hi
        cases hi
        obtain rfl := beq_iff_eq.mp hb
        exact List.mem_cons_self
      | false =>
        rw [hb] at hi
        exact List.mem_cons_of_mem _ (ih hi)
  have := List.all_eq_true.mp h _ hmem
  simp [hm] at this
def bG (X : Cx) (scope : Scope) (tg : Expr) : TG := fun v σ H Q => ∀ (s0 : Shared) (H0 : Hp) (C : Addr) (cl : List (Str × Addr)) (fp : List Addr), wG (X.blk s0 H0 scope (compEnvC scope cl C X.env) fp) tg v σ H Q
def bE (X : Cx) (scope : Scope) (elt : Expr) : TE := fun σ H Q => ∀ (s0 : Shared) (H0 : Hp) (C : Addr) (cl : List (Str × Addr)) (fp : List Addr), wE (X.blk s0 H0 scope (compEnvC scope cl C X.env) fp) elt σ H Q
/-- [elt for tg in iter if ..]: ft the tests' answer; the reading -/
theorem lc_read {α : Type} [Rp α] {elt : Expr} {ifs : List Expr} {scope : Scope} (own : List (Str × Nat)) (xs : List α) (f : α → Ds) (t : α → Bool) (g : α → D) (hc : X.calm = true) (hN : X.N.Nodup) (hw : DWk X ds ms tg iter (xs.map fun x => R x)) (ok : BlkOk X.N X.env.scope scope own)
    (hoff : offB ds (own.map (·.2)) = true) (hfo : ∀ x, ∀ j ∈ (f x).map (·.1), j ∈ own.map (·.2)) (hz : xs.length < 1000000)
    (hg : ∀ (s0 : Shared) (H0 : Hp) (C : Addr) (cl : List (Str × Addr)) (fp : List Addr) x, DG (X.blk s0 H0 scope (compEnvC scope cl C X.env) fp) tg (R x) (f x))
    (tt : TT) (htt : ∀ (s0 : Shared) (H0 : Hp) (C : Addr) (cl : List (Str × Addr)) (fp : List Addr), PTs (X.blk s0 H0 scope (compEnvC scope cl C X.env) fp) ifs tt)
    (ht : ∀ q c x, x ∈ xs → ∀ σ H, Sy (f x ++ ds) ((q, c) :: ms) σ H → ∀ Q : Bool → Hp → Prop, (∀ H', Ex (ads ((q, c) :: ms)) H H' → Q (t x) H') → tt σ H Q)
    (he : ∀ (s0 : Shared) (H0 : Hp) (C : Addr) (cl : List (Str × Addr)) (fp : List Addr) q c x, x ∈ xs → t x = true → DE (X.blk s0 H0 scope (compEnvC scope cl C X.env) fp) (f x ++ ds) ((q, c) :: ms) elt (g x)) : ∃ wi, PI X tg iter wi ∧ ∀ σ H, Sy ds ms σ H → ∀ Q : VK, (∀ a vs H', Ex (ads ms) H H' → mi H (ads ms) a = none → a ∉ ads ms → H' a = some (.lst vs) → All2 (fun (d : D) u => d.p (mi H' (a :: ads ms)) u) ((xs.filter t).map g) vs → Q (.ref a) H') → tLc wi (bG X scope tg) tt (bE X scope elt) (own.map (·.2)) σ H Q := by
  obtain ⟨wi, hpi, hwi⟩ := hw
  refine ⟨wi, hpi, fun σ H s Q k => ?_⟩
  refine hwi σ H s _ fun J H1 e1 ⟨G, Y, w, hG, hY⟩ => ?_
  intro Dl hD
  have s1 := s.ex e1
  have nD : Dl ∉ ads ms := fun z => s1.ce.there z hD
  rw [List.length_map] at w
  refine lc_it (g := bG X scope tg) (tt := tt) (te := bE X scope elt) (Qd := fun H => Q (.ref Dl) H) w (vs := own.map (·.2)) (σ := σ) (fun i H2 => ∃ acc, H2 Dl = some (.lst acc) ∧ All2 (fun (d : D) u => d.p (mi H2 (Dl :: ads ms)) u) (((xs.take i).filter t).map g) acc ∧ Same (mi H1 (ads ms)) (mi H2 (Dl :: ads ms)) ∧ ∀ p ∈ ads ms, H2 p = H1 p)
    ⟨[], upd_same, by rw [List.take_zero]; trivial, mi_hide hD, fun p hp => upd_ne fun z => nD (z ▸ hp)⟩ (fun i H2 _ ⟨acc, h1, h2, h3, h4⟩ => hG _ _ h3) (fun i x H2 H3 hi ⟨acc, h1, h2, h3, h4⟩ y => ?_) (fun H2 ⟨acc, h1, h2, h3, h4⟩ => ?_)
  · obtain ⟨xi, hxi⟩ : ∃ xi, xs[i]? = some xi := ⟨xs[i], List.getElem?_eq_getElem hi⟩
    have hm : xi ∈ xs := List.mem_of_getElem? hxi
    have htk : xs.take (i + 1) = xs.take i ++ [xi] := by
      rw [List.take_add_one, hxi]
      rfl
    -- the state in the block
    have sb : Sy ds ((Dl, mL (((xs.take i).filter t).map g)) :: ms) (wipe σ (own.map (·.2))) H2 := by
      refine ⟨fun j d hj hl => ?_, List.nodup_cons.mpr ⟨nD, s.nd⟩, fun q hq => ?_⟩
      · obtain ⟨v, q1, q2⟩ := (sy_wipe s1 (off_ok hoff)).sl j d hj hl
        exact ⟨v, q1, d.mono h3 q2⟩
      · rcases List.mem_cons.mp hq with z | z
        · subst z
          exact ⟨_, h1, acc, rfl, h2⟩
        · obtain ⟨o, q1, q2⟩ := s1.ce q z
          exact ⟨o, (h4 q.1 (List.mem_map_of_mem z)).trans q1, q.2.mono h3 q2⟩
    obtain ⟨e3, p3⟩ := hY i H2 x H3 (R xi) (Dl :: ads ms) (fun p hp => sb.ce.there hp) h3 y (by rw [List.getElem?_map, hxi]; rfl)
    intro s0 H0 C cl fp
    refine hg s0 H0 C cl fp xi ds _ _ H3 x (sb.ex e3) p3 _ fun σ4 H4 s4 e4 u4 => ⟨?_, ?_⟩
    · have := wipe_upto u4 (hfo xi)
      rw [this]
      refine List.ext_getElem? fun j => ?_
      rw [wipe_get, wipe_get, wipe_length]
      split
      · rfl
      · rfl
    · refine ht Dl _ xi hm σ4 H4 s4 _ fun H5 e5 => ?_
      cases htx : t xi with
      | false =>
        refine iteF ⟨acc, ?_, ?_, h3.trans (e3.g.trans (e4.g.trans e5.g)), fun p hp => ?_⟩
        · rw [e5.c Dl List.mem_cons_self, e4.c Dl List.mem_cons_self, e3.c Dl List.mem_cons_self]
          exact h1
        · rw [htk, List.filter_append, List.map_append]
          have : ([xi].filter t) = [] := by simp [htx]
          rw [this, List.map_nil, List.append_nil]
          exact h2.imp fun d _ z => d.mono (e3.g.trans (e4.g.trans e5.g)) z
        · rw [e5.c p (List.mem_cons_of_mem _ hp), e4.c p (List.mem_cons_of_mem _ hp), e3.c p (List.mem_cons_of_mem _ hp)]
          exact h4 p hp
      | true =>
        refine iteT ?_
        intro s0 H0 C cl fp
        refine he s0 H0 C cl fp Dl _ xi hm htx σ4 H5 (s4.ex e5) _ fun v H6 e6 p6 => ?_
        have c6 : H6 Dl = some (.lst acc) := by
          rw [e6.c Dl List.mem_cons_self, e5.c Dl List.mem_cons_self, e4.c Dl List.mem_cons_self, e3.c Dl List.mem_cons_self]
          exact h1
        have g6 := e3.g.trans (e4.g.trans (e5.g.trans e6.g))
        have hlen : acc.length ≤ i := by
          rw [← h2.len, List.length_map]
          exact Nat.le_trans (List.length_filter_le _ _) (by rw [List.length_take]; omega)
        have em : mi (upd H6 Dl (.lst (acc ++ [v]))) (Dl :: ads ms) = mi H6 (Dl :: ads ms) := by
          funext b
          unfold mi
          by_cases hb : b ∈ Dl :: ads ms
          · rw [if_pos hb, if_pos hb]
          · rw [if_neg hb, if_neg hb, upd_ne (show b ≠ Dl from fun z => hb (z ▸ List.mem_cons_self))]
        refine ⟨acc, c6, line_lt (by omega), acc ++ [v], upd_same, ?_, by rw [em]; exact h3.trans g6, fun p hp => ?_⟩
        · rw [em, htk, List.filter_append, List.map_append]
          have : ([xi].filter t) = [xi] := by simp [htx]
          rw [this]
          exact (h2.imp fun d _ z => d.mono g6 z).append ⟨p6, trivial⟩
        · rw [upd_ne (show p ≠ Dl from fun z => nD (z ▸ hp)), e6.c p (List.mem_cons_of_mem _ hp), e5.c p (List.mem_cons_of_mem _ hp), e4.c p (List.mem_cons_of_mem _ hp), e3.c p (List.mem_cons_of_mem _ hp)]
          exact h4 p hp
  · rw [List.take_length] at h2
    have hg0 : mi H (ads ms) Dl = none := by
      cases z : mi H (ads ms) Dl with
      | none => rfl
      | some o =>
        have := mi_sub _ _ (e1.g _ _ z)
        rw [hD] at this
        cases this
    refine k Dl acc H2 ⟨?_, fun p hp => (h4 p hp).trans (e1.c p hp)⟩ hg0 nD h1 h2
    exact e1.g.trans (h3.trans (mi_less fun b hb => List.mem_cons_of_mem _ hb))
theorem n_lcT {α : Type} [Rp α] {elt : Expr} {ifs : List Expr} {scope : Scope} (own : List (Str × Nat)) (xs : List α) (f : α → Ds) (t : α → Bool) (g : α → D) (hc : X.calm = true) (hN : X.N.Nodup) (hw : DWk X ds ms tg iter (xs.map fun x => R x)) (ok : BlkOk X.N X.env.scope scope own)
    (hoff : offB ds (own.map (·.2)) = true) (hfo : ∀ x, ∀ j ∈ (f x).map (·.1), j ∈ own.map (·.2)) (hz : xs.length < 1000000)
    (hg : ∀ (s0 : Shared) (H0 : Hp) (C : Addr) (cl : List (Str × Addr)) (fp : List Addr) x, DG (X.blk s0 H0 scope (compEnvC scope cl C X.env) fp) tg (R x) (f x))
    (tt : TT) (htt : ∀ (s0 : Shared) (H0 : Hp) (C : Addr) (cl : List (Str × Addr)) (fp : List Addr), PTs (X.blk s0 H0 scope (compEnvC scope cl C X.env) fp) ifs tt)
    (ht : ∀ q c x, x ∈ xs → ∀ σ H, Sy (f x ++ ds) ((q, c) :: ms) σ H → ∀ Q : Bool → Hp → Prop, (∀ H', Ex (ads ((q, c) :: ms)) H H' → Q (t x) H') → tt σ H Q)
    (he : ∀ (s0 : Shared) (H0 : Hp) (C : Addr) (cl : List (Str × Addr)) (fp : List Addr) q c x, x ∈ xs → t x = true → DE (X.blk s0 H0 scope (compEnvC scope cl C X.env) fp) (f x ++ ds) ((q, c) :: ms) elt (g x))
    (hf : ∀ x, foldedSetIterable iter X.env x = pure x := by intro _; rfl) : DN X ds ms (.ListComp elt [⟨tg, iter, ifs, 0⟩] scope pos) ((xs.filter t).map g) := by
  obtain ⟨wi, hpi, hrd⟩ := lc_read (elt := elt) (ifs := ifs) own xs f t g hc hN hw ok hoff hfo hz hg tt htt ht he
  intro σ H s Q k
  refine wE_of (pe_lc (own := own) (g := bG X scope tg) (tt := tt)
    (te := bE X scope elt) hc hN hpi ok
    (fun s0 H0 C cl fp => ⟨fun pins sh σ H v u Q I r h => h s0 H0 C cl fp pins sh u I r⟩) htt (fun s0 H0 C cl fp => ⟨fun pins sh σ H Q I h => h s0 H0 C cl fp pins sh I⟩) hf) ?_
  exact hrd σ H s Q k
/-- y = [elt for tg in iter if ..], a new cell -/
theorem d_lcT (i : Nat) {y : Str} {py spos : Pos} {α : Type} [Rp α] {elt : Expr} {ifs : List Expr} {scope : Scope} (own : List (Str × Nat)) (xs : List α) (f : α → Ds) (t : α → Bool) (g : α → D) (hc : X.calm = true) (hN : X.N.Nodup) (hw : DWk X ds ms tg iter (xs.map fun x => R x)) (ok : BlkOk X.N X.env.scope scope own)
    (hoff : offB ds (own.map (·.2)) = true) (hfo : ∀ x, ∀ j ∈ (f x).map (·.1), j ∈ own.map (·.2)) (hz : xs.length < 1000000)
    (hg : ∀ (s0 : Shared) (H0 : Hp) (C : Addr) (cl : List (Str × Addr)) (fp : List Addr) x, DG (X.blk s0 H0 scope (compEnvC scope cl C X.env) fp) tg (R x) (f x))
    (tt : TT) (htt : ∀ (s0 : Shared) (H0 : Hp) (C : Addr) (cl : List (Str × Addr)) (fp : List Addr), PTs (X.blk s0 H0 scope (compEnvC scope cl C X.env) fp) ifs tt)
    (ht : ∀ q c x, x ∈ xs → ∀ σ H, Sy (f x ++ ds) ((q, c) :: ms) σ H → ∀ Q : Bool → Hp → Prop, (∀ H', Ex (ads ((q, c) :: ms)) H H' → Q (t x) H') → tt σ H Q)
    (he : ∀ (s0 : Shared) (H0 : Hp) (C : Addr) (cl : List (Str × Addr)) (fp : List Addr) q c x, x ∈ xs → t x = true → DE (X.blk s0 H0 scope (compEnvC scope cl C X.env) fp) (f x ++ ds) ((q, c) :: ms) elt (g x))
    (h : ∀ a, DS X ((i, dAt a) :: ds) ((a, mL ((xs.filter t).map g)) :: ms) rest E) (hy : X.N[i]? = some y := by rfl) (hyl : X.env.scope.names.lookup y = some .local := by rfl) (hsw : swapsWith (.ListComp elt [⟨tg, iter, ifs, 0⟩] scope pos) (some (.Name y py)) spos.line X.env = pure true := by rfl)
    (hf : ∀ x, foldedSetIterable iter X.env x = pure x := by intro _; rfl) : DS X ds ms (.Assign [.Name y py] (.ListComp elt [⟨tg, iter, ifs, 0⟩] scope pos) spos :: rest) E := by
  obtain ⟨wi, hpi, hrd⟩ := lc_read (elt := elt) (ifs := ifs) own xs f t g hc hN hw ok hoff hfo hz hg tt htt ht he
  refine d_cons fun G0 σ H s => ?_
  refine wS_of (ps_setLc (own := own) (g := bG X scope tg) (tt := tt)
    (te := bE X scope elt) hc hN hy hyl hsw hpi ok
    (fun s0 H0 C cl fp => ⟨fun pins sh σ H v u Q I r h => h s0 H0 C cl fp pins sh u I r⟩) htt (fun s0 H0 C cl fp => ⟨fun pins sh σ H Q I h => h s0 H0 C cl fp pins sh I⟩) hf) ?_
  refine hrd σ H s.s _ fun a vs H1 e1 h1 h2 h3 h4 => ?_
  obtain ⟨s2, g2⟩ := sy_new s.s e1 h1 h2 h3 h4
  exact ⟨_, _, h a, sy_set s2 rfl, s.a.trans g2⟩
theorem n_lc {α : Type} [Rp α] {elt : Expr} {scope : Scope} (own : List (Str × Nat)) (xs : List α) (f : α → Ds) (g : α → D) (hc : X.calm = true) (hN : X.N.Nodup) (hw : DWk X ds ms tg iter (xs.map fun x => R x)) (ok : BlkOk X.N X.env.scope scope own)
    (hz : xs.length < 1000000)
    (hg : ∀ (s0 : Shared) (H0 : Hp) (C : Addr) (cl : List (Str × Addr)) (fp : List Addr) x, DG (X.blk s0 H0 scope (compEnvC scope cl C X.env) fp) tg (R x) (f x))
    (he : ∀ (s0 : Shared) (H0 : Hp) (C : Addr) (cl : List (Str × Addr)) (fp : List Addr) q c x, x ∈ xs → DE (X.blk s0 H0 scope (compEnvC scope cl C X.env) fp) (f x ++ ds) ((q, c) :: ms) elt (g x))
    (hoff : offB ds (own.map (·.2)) = true := by rfl) (hfo : ∀ x, ∀ j ∈ (f x).map (·.1), j ∈ own.map (·.2) := by intro _ _ h; exact h)
    (hf : ∀ x, foldedSetIterable iter X.env x = pure x := by intro _; rfl) : DN X ds ms (.ListComp elt [⟨tg, iter, [], 0⟩] scope pos) (xs.map g) := by
  have := n_lcT (elt := elt) (ifs := []) (pos := pos) own xs f (fun _ => true) g hc hN hw ok hoff hfo hz hg tYes (fun _ _ _ _ _ => pts_nil) (fun q c x _ σ H s Q k => k H (Ex.refl _ _)) (fun s0 H0 C cl fp q c x hx _ => he s0 H0 C cl fp q c x hx) hf
  rw [List.filter_eq_self.mpr (fun _ _ => rfl)] at this
  exact this
/-- y = [elt for tg in iter] -/
theorem d_lc (i : Nat) {y : Str} {py spos : Pos} {α : Type} [Rp α] {elt : Expr} {scope : Scope} (own : List (Str × Nat)) (xs : List α) (f : α → Ds) (g : α → D) (hc : X.calm = true) (hN : X.N.Nodup) (hw : DWk X ds ms tg iter (xs.map fun x => R x)) (ok : BlkOk X.N X.env.scope scope own)
    (hz : xs.length < 1000000)
    (hg : ∀ (s0 : Shared) (H0 : Hp) (C : Addr) (cl : List (Str × Addr)) (fp : List Addr) x, DG (X.blk s0 H0 scope (compEnvC scope cl C X.env) fp) tg (R x) (f x))
    (he : ∀ (s0 : Shared) (H0 : Hp) (C : Addr) (cl : List (Str × Addr)) (fp : List Addr) q c x, x ∈ xs → DE (X.blk s0 H0 scope (compEnvC scope cl C X.env) fp) (f x ++ ds) ((q, c) :: ms) elt (g x))
    (h : ∀ a, DS X ((i, dAt a) :: ds) ((a, mL (xs.map g)) :: ms) rest E) (hy : X.N[i]? = some y := by rfl) (hyl : X.env.scope.names.lookup y = some .local := by rfl) (hsw : swapsWith (.ListComp elt [⟨tg, iter, [], 0⟩] scope pos) (some (.Name y py)) spos.line X.env = pure true := by rfl)
    (hoff : offB ds (own.map (·.2)) = true := by rfl) (hfo : ∀ x, ∀ j ∈ (f x).map (·.1), j ∈ own.map (·.2) := by intro _ _ h; exact h)
    (hf : ∀ x, foldedSetIterable iter X.env x = pure x := by intro _; rfl) : DS X ds ms (.Assign [.Name y py] (.ListComp elt [⟨tg, iter, [], 0⟩] scope pos) spos :: rest) E := by
  refine d_lcT i own xs f (fun _ => true) g hc hN hw ok hoff hfo hz hg tYes (fun _ _ _ _ _ => pts_nil) (fun q c x _ σ H s Q k => k H (Ex.refl _ _)) (fun s0 H0 C cl fp q c x hx _ => he s0 H0 C cl fp q c x hx) ?_ hy hyl hsw hf
  rw [List.filter_eq_self.mpr (fun _ _ => rfl)]
  exact h
/-- .. for good -/
theorem d_lcR (i : Nat) {y : Str} {py spos : Pos} {α β : Type} [Rp α] [Rp β] {elt : Expr} {scope : Scope} (own : List (Str × Nat)) (xs : List α) (f : α → Ds) (g : α → β) (hc : X.calm = true) (hN : X.N.Nodup) (hw : DWk X ds ms tg iter (xs.map fun x => R x)) (ok : BlkOk X.N X.env.scope scope own)
    (hz : xs.length < 1000000)
    (hg : ∀ (s0 : Shared) (H0 : Hp) (C : Addr) (cl : List (Str × Addr)) (fp : List Addr) x, DG (X.blk s0 H0 scope (compEnvC scope cl C X.env) fp) tg (R x) (f x))
    (he : ∀ (s0 : Shared) (H0 : Hp) (C : Addr) (cl : List (Str × Addr)) (fp : List Addr) q c x, x ∈ xs → DE (X.blk s0 H0 scope (compEnvC scope cl C X.env) fp) (f x ++ ds) ((q, c) :: ms) elt (R (g x)))
    (h : DS X ((i, R (xs.map g)) :: ds) ms rest E) (hy : X.N[i]? = some y := by rfl) (hyl : X.env.scope.names.lookup y = some .local := by rfl) (hsw : swapsWith (.ListComp elt [⟨tg, iter, [], 0⟩] scope pos) (some (.Name y py)) spos.line X.env = pure true := by rfl)
    (hoff : offB ds (own.map (·.2)) = true := by rfl) (hfo : ∀ x, ∀ j ∈ (f x).map (·.1), j ∈ own.map (·.2) := by intro _ _ h; exact h)
    (hf : ∀ x, foldedSetIterable iter X.env x = pure x := by intro _; rfl) : DS X ds ms (.Assign [.Name y py] (.ListComp elt [⟨tg, iter, [], 0⟩] scope pos) spos :: rest) E := by
  refine d_lc i own xs f (fun x => R (g x)) hc hN hw ok hz hg he (fun a => ?_) hy hyl hsw hoff hfo hf
  have e : (xs.map fun x => (R (g x) : D)) = (xs.map g).map fun x => R x := by rw [List.map_map]; rfl
  rw [e]
  refine d_frz0 i (by rw [List.lookup_cons, beq_self_eq_true]) (d_wk ⟨fun j d hj => ?_, ms, .refl _, .refl _⟩ h)
  rw [List.lookup_cons] at hj ⊢
  cases hb : j == i with
  | true => rw [hb] at hj; exact hj
  | false => rw [hb] at hj; rw [List.lookup_cons, hb]; exact hj
/-- the same for good -/
theorem e_lc {α β : Type} [Rp α] [Rp β] {elt : Expr} {scope : Scope} (own : List (Str × Nat)) (xs : List α) (f : α → Ds) (g : α → β) (hc : X.calm = true) (hN : X.N.Nodup) (hw : DWk X ds ms tg iter (xs.map fun x => R x)) (ok : BlkOk X.N X.env.scope scope own)
    (hz : xs.length < 1000000)
    (hg : ∀ (s0 : Shared) (H0 : Hp) (C : Addr) (cl : List (Str × Addr)) (fp : List Addr) x, DG (X.blk s0 H0 scope (compEnvC scope cl C X.env) fp) tg (R x) (f x))
    (he : ∀ (s0 : Shared) (H0 : Hp) (C : Addr) (cl : List (Str × Addr)) (fp : List Addr) q c x, x ∈ xs → DE (X.blk s0 H0 scope (compEnvC scope cl C X.env) fp) (f x ++ ds) ((q, c) :: ms) elt (R (g x)))
    (hoff : offB ds (own.map (·.2)) = true := by rfl) (hfo : ∀ x, ∀ j ∈ (f x).map (·.1), j ∈ own.map (·.2) := by intro _ _ h; exact h)
    (hf : ∀ x, foldedSetIterable iter X.env x = pure x := by intro _; rfl) : DE X ds ms (.ListComp elt [⟨tg, iter, [], 0⟩] scope pos) (R (xs.map g)) :=
  e_eq (e_new (n_lc own xs f (fun x => R (g x)) hc hN hw ok hz hg he hoff hfo hf)) (by show dL _ = dL ((xs.map g).map fun x => R x); rw [List.map_map]; rfl)
end
end Bh
/-! B7: cells that change (lists, dicts), attributes, built-in calls. -/
namespace Bh
open PySem PySem.Spec PyProof.Rows L2
theorem mi_upd_in {H : Hp} {ps : List Addr} {q : Addr} {o : HO} (h : q ∈ ps) : mi (upd H q o) ps = mi H ps := by
  funext b
  unfold mi
  by_cases hb : b ∈ ps
  · rw [if_pos hb, if_pos hb]
  · rw [if_neg hb, if_neg hb, upd_ne (show b ≠ q from fun z => hb (z ▸ h))]
section
variable {X : Cx} {ds : Ds} {ms : MS} {σ : L2.St} {H H' : Hp} {e o a b c : Expr} {es : List Expr} {rest : List Stmt} {d da db : D} {dl dl2 : List D} {K : D → MS → Prop} {KA : List D → MS → Prop} {E : SE} {pos p p2 apos cpos : Pos} {q : Addr} {C : MC}
theorem nodup_ix' {l : List Addr} (hN : l.Nodup) {i j : Nat} {x : Addr} (a : l[i]? = some x) (b : l[j]? = some x) : i = j := by
  obtain ⟨h1, e1⟩ := List.getElem?_eq_some_iff.mp a
  obtain ⟨h2, e2⟩ := List.getElem?_eq_some_iff.mp b
  exact (List.getElem_inj hN).mp (e1.trans e2.symm)
theorem ads_set {k : Nat} {c' : MC} (h : ms[k]? = some (q, C)) : ads (ms.set k (q, c')) = ads ms := by
  unfold ads
  rw [List.map_set]
  refine List.ext_getElem? fun j => ?_
  by_cases hj : k = j
  · subst hj
    rw [List.getElem?_set_self (by rw [List.length_map]; exact (List.getElem?_eq_some_iff.mp h).1), List.getElem?_map, h]
    rfl
  · rw [List.getElem?_set_ne hj]
/-- the cell at q is changed -/
theorem sy_put (s : Sy ds ms σ H) {k : Nat} {c' : MC} {ob : HO} (h : ms[k]? = some (q, C)) (hc : c'.p (mi H (ads ms)) ob) : Sy ds (ms.set k (q, c')) σ (upd H q ob) ∧ Same (mi H (ads ms)) (mi (upd H q ob) (ads (ms.set k (q, c')))) := by
  have hq : q ∈ ads ms := List.mem_map_of_mem (f := (·.1)) (List.mem_of_getElem? h)
  have ea := ads_set (c' := c') h
  have em : mi (upd H q ob) (ads (ms.set k (q, c'))) = mi H (ads ms) := by rw [ea]; exact mi_upd_in hq
  refine ⟨⟨fun i d hi hl => by rw [em]; exact s.sl i d hi hl, by rw [ea]; exact s.nd, fun r hr => ?_⟩, by rw [em]; exact Same.refl _⟩
  rw [em]
  obtain ⟨j, hj, ej⟩ := List.mem_iff_getElem.mp hr
  have ej2 : (ms.set k (q, c'))[j]? = some r := by rw [List.getElem?_eq_getElem hj, ej]
  by_cases hk : k = j
  · subst hk
    rw [List.getElem?_set_self (List.getElem?_eq_some_iff.mp h).1] at ej2
    cases ej2
    exact ⟨ob, upd_same, hc⟩
  · rw [List.getElem?_set_ne hk] at ej2
    obtain ⟨u, h1, h2⟩ := s.ce r (List.mem_of_getElem? ej2)
    refine ⟨u, ?_, h2⟩
    rw [upd_ne]
    · exact h1
    · intro z
      -- two places of one address
      have n1 : (ads ms)[k]? = some q := by rw [List.getElem?_map, h]; rfl
      have n2 : (ads ms)[j]? = some q := by rw [List.getElem?_map, ej2]; exact congrArg some z
      exact hk (nodup_ix' s.nd n1 n2)

/-! ### the methods of lists -/
theorem i_bm {id name : Str} {i : String} {r : V → List V → Hp → VK → Prop} (slot : Slot "list" name i) (hty : typeOf (.builtin i) = pure (.type "method_descriptor")) (hm : MtR X i r) (k : Nat) (ho : DE X ds ms o (dAt q)) (hq : ms[k]? = some (q, mL dl2))
    (ha : DAi X ds ms (e :: es) fun dl m => (∃ dl', m[k]? = some (q, mL dl')) ∧ ∀ σ H vs, Sy ds m σ H → All2 (fun (d : D) u => d.p (mi H (ads m)) u) dl vs → ∀ Q : VK, (∀ d m' v H', K d m' → Sy ds m' σ H' → Same (mi H (ads m)) (mi H' (ads m')) → d.p (mi H' (ads m')) v → Q v H') → r (.ref q) vs H Q)
    (hbase : attributeBase o name X.env (eval o X.env) = eval o X.env := by rfl)
    (hfew : ((backTo cpos (starEach (e :: es) X.env)).all (fun x => !x.1) && (backToKw cpos (keywordEach [] X.env)).all (fun x => x.1.isSome)
      && decide ((e :: es).length + ([] : List Keyword).length + (if ([] : List Keyword).isEmpty then 0 else 1) < 30)) = true := by rfl)
    (hline : (apos.endLine == cpos.line) = true := by rfl) (hs : starEach (e :: es) X.env = (false, eval e X.env) :: starEach es X.env := by rfl) (hplain : (backTo cpos (starEach es X.env)).any (·.1) = false := by rfl) :
    DI X ds ms (.Call (.Attribute o name apos) (e :: es) [] cpos) K := fun σ H s Q kq =>
  wE_of (pe_bm PySem.F.plainAttrs_list slot hty hm (wE_ok o) (wA_ok _) hbase hfew hline hs hplain) (ho σ H s _ fun v H1 e1 h1 => by
    rw [show v = V.ref q from h1]
    have s1 := s.ex e1
    obtain ⟨ob, h2, vs, h3, _⟩ := s1.ce _ (List.mem_of_getElem? hq)
    refine ⟨.inl ⟨rfl, vs, SqL.of (by rw [← h3]; exact h2)⟩, ?_⟩
    exact ha σ H1 s1 _ fun dl m vs H2 ⟨_, hk⟩ s2 g2 p2 => hk σ H2 vs s2 p2 Q fun d m' v H3 h1 h2 h3 h4 => kq d m' v H3 h1 h2 (e1.g.trans (g2.trans h3)) h4)
theorem cell_at (s : Sy ds ms σ H) {k : Nat} (h : ms[k]? = some (q, mL dl)) : ∃ vs, H q = some (.lst vs) ∧ All2 (fun (d : D) u => d.p (mi H (ads ms)) u) dl vs := by
  obtain ⟨ob, h2, vs, h3, h4⟩ := s.ce _ (List.mem_of_getElem? h)
  exact ⟨vs, by rw [← h3]; exact h2, h4⟩
/-- q.append(e) -/
theorem i_append (k : Nat) (ho : DE X ds ms o (dAt q)) (hq : ms[k]? = some (q, mL dl)) (he : DI X ds ms e fun d m => ∃ dl', m[k]? = some (q, mL dl') ∧ dl'.length < 1000000 ∧ K (R ()) (m.set k (q, mL (dl' ++ [d]))))
    (hbase : attributeBase o "append" X.env (eval o X.env) = eval o X.env := by rfl)
    (hfew : ((backTo cpos (starEach [e] X.env)).all (fun x => !x.1) && (backToKw cpos (keywordEach [] X.env)).all (fun x => x.1.isSome)
      && decide ([e].length + ([] : List Keyword).length + (if ([] : List Keyword).isEmpty then 0 else 1) < 30)) = true := by rfl)
    (hline : (apos.endLine == cpos.line) = true := by rfl) (hs : starEach [e] X.env = (false, eval e X.env) :: starEach [] X.env := by rfl) (hplain : (backTo cpos (starEach [] X.env)).any (·.1) = false := by rfl) :
    DI X ds ms (.Call (.Attribute o "append" apos) [e] [] cpos) K :=
  i_bm (id := "append") PySem.F.slot_list_append PySem.F.type_list_append mt_append k ho hq (ai_cons (fun σ H s Q kq => he σ H s Q fun d m v H' ⟨dl', h1, h2, h3⟩ h4 h5 h6 => kq d m v H' (ai_nil ⟨⟨dl', h1⟩, fun σ H vs s p Q kq => by
    obtain ⟨us, c1, c2⟩ := cell_at s h1
    match vs, p with
    | [v], p =>
      obtain ⟨s2, g2⟩ := sy_put s h1 (c' := mL (dl' ++ [d])) (ob := .lst (us ++ [v])) ⟨_, rfl, c2.append ⟨p.1, trivial⟩⟩
      exact ⟨q, us, v, rfl, rfl, c1, by rw [← c2.len]; exact line_lt h2, kq _ _ _ _ h3 s2 g2 rfl⟩⟩) h4 h5 h6) hs) hbase hfew hline hs hplain
/-- q.extend(a list) -/
theorem i_extend (k : Nat) (ho : DE X ds ms o (dAt q)) (hq : ms[k]? = some (q, mL dl)) (he : DE X ds ms e (dL dl2)) (hz : dl.length + dl2.length ≤ 1000000) (hK : K (R ()) (ms.set k (q, mL (dl ++ dl2))))
    (hbase : attributeBase o "extend" X.env (eval o X.env) = eval o X.env := by rfl)
    (hfew : ((backTo cpos (starEach [e] X.env)).all (fun x => !x.1) && (backToKw cpos (keywordEach [] X.env)).all (fun x => x.1.isSome)
      && decide ([e].length + ([] : List Keyword).length + (if ([] : List Keyword).isEmpty then 0 else 1) < 30)) = true := by rfl)
    (hline : (apos.endLine == cpos.line) = true := by rfl) (hs : starEach [e] X.env = (false, eval e X.env) :: starEach [] X.env := by rfl) (hplain : (backTo cpos (starEach [] X.env)).any (·.1) = false := by rfl) :
    DI X ds ms (.Call (.Attribute o "extend" apos) [e] [] cpos) K :=
  i_bm (id := "extend") PySem.F.slot_list_extend PySem.F.type_list_extend mt_extend k ho hq (ai_pure (a_one he hs) ⟨⟨dl, hq⟩, fun σ H vs s p Q kq => by
    obtain ⟨us, c1, c2⟩ := cell_at s hq
    match vs, p with
    | [v], ⟨⟨l, ws, h1, h2, h3⟩, _⟩ =>
      obtain ⟨s2, g2⟩ := sy_put s hq (c' := mL (dl ++ dl2)) (ob := .lst (us ++ ws)) ⟨_, rfl, c2.append h3⟩
      exact ⟨q, l, us, ws, rfl, by rw [h1], c1, mi_sub _ _ h2, by rw [← c2.len, ← h3.len]; exact line_of hz, kq _ _ _ _ hK s2 g2 rfl⟩⟩) hbase hfew hline hs hplain
/-- q.pop() -/
theorem i_pop (k : Nat) (ho : DE X ds ms o (dAt q)) (hq : ms[k]? = some (q, mL dl)) (hd : dl[dl.length - 1]? = some d) (hK : K d (ms.set k (q, mL dl.dropLast)))
    (hbase : attributeBase o "pop" X.env (eval o X.env) = eval o X.env := by rfl) (hline : (apos.endLine == cpos.line) = true := by rfl) : DI X ds ms (.Call (.Attribute o "pop" apos) [] [] cpos) K := fun σ H s Q kq =>
  wE_of (pe_bm0 PySem.F.plainAttrs_list PySem.F.slot_list_pop PySem.F.type_list_pop mt_pop (wE_ok o) hbase hline) (ho σ H s _ fun v H1 e1 h1 => by
    rw [show v = V.ref q from h1]
    have s1 := s.ex e1
    obtain ⟨us, c1, c2⟩ := cell_at s1 hq
    obtain ⟨u, h2, h3⟩ := c2.get hd
    obtain ⟨s2, g2⟩ := sy_put s1 hq (c' := mL dl.dropLast) (ob := .lst us.dropLast) ⟨_, rfl, by
      rw [List.dropLast_eq_take, List.dropLast_eq_take, ← c2.len]
      exact c2.take _⟩
    exact ⟨.inl ⟨rfl, us, SqL.of c1⟩, q, us, u, rfl, rfl, c1, by rw [← c2.len]; exact h2, kq _ _ _ _ hK s2 (e1.g.trans g2) (d.mono g2 h3)⟩)
theorem All2.erase {α β : Type} {r : α → β → Prop} : ∀ {xs : List α} {ys : List β} (n : Nat), All2 r xs ys → All2 r (xs.eraseIdx n) (ys.eraseIdx n)
  | [], [], n, _ => by simp [All2]
  | _ :: _, _ :: _, 0, h => h.2
  | _ :: _, _ :: _, n + 1, h => ⟨h.1, All2.erase n h.2⟩
  | [], _ :: _, _, h => h.elim
  | _ :: _, [], _, h => h.elim
/-- q.pop(i) -/
theorem i_popAt (k : Nat) (ho : DE X ds ms o (dAt q)) (hq : ms[k]? = some (q, mL dl2)) (he : DI X ds ms e fun de m => ∃ (j : Nat) (dl : List D) (d : D), de = R (j : Int) ∧ m[k]? = some (q, mL dl) ∧ dl.length ≤ 1000000 ∧ dl[j]? = some d ∧ K d (m.set k (q, mL (dl.eraseIdx j))))
    (hbase : attributeBase o "pop" X.env (eval o X.env) = eval o X.env := by rfl)
    (hfew : ((backTo cpos (starEach [e] X.env)).all (fun x => !x.1) && (backToKw cpos (keywordEach [] X.env)).all (fun x => x.1.isSome)
      && decide ([e].length + ([] : List Keyword).length + (if ([] : List Keyword).isEmpty then 0 else 1) < 30)) = true := by rfl)
    (hline : (apos.endLine == cpos.line) = true := by rfl) (hs : starEach [e] X.env = (false, eval e X.env) :: starEach [] X.env := by rfl) (hplain : (backTo cpos (starEach [] X.env)).any (·.1) = false := by rfl) :
    DI X ds ms (.Call (.Attribute o "pop" apos) [e] [] cpos) K :=
  i_bm (id := "pop") PySem.F.slot_list_pop PySem.F.type_list_pop mt_popAt k ho hq (ai_cons (fun σ H s Q kq => he σ H s Q fun de m v H' ⟨j, dl, d, h1, h2, hz, h3, h4⟩ s2 g2 p2 => kq de m v H' (ai_nil ⟨⟨dl, h2⟩, fun σ H vs s p Q kq => by
    obtain ⟨us, c1, c2⟩ := cell_at s h2
    obtain ⟨u, h5, h6⟩ := c2.get h3
    match vs, p with
    | [v], ⟨p, _⟩ =>
      subst h1
      obtain ⟨s2, g2⟩ := sy_put s h2 (c' := mL (dl.eraseIdx j)) (ob := .lst (us.eraseIdx j)) ⟨_, rfl, c2.erase j⟩
      have hl : j < us.length := (List.getElem?_eq_some_iff.mp h5).1
      have hl2 : us.length ≤ 1000000 := by rw [← c2.len]; exact hz
      exact ⟨q, us, (j : Int), j, u, rfl, by rw [show v = V.int (j : Int) from p], c1, by omega, by omega, (ixN_seq (show ixN us.length (j : Int) = some j by unfold ixN; rw [if_pos (by omega), if_pos (by omega)]; rfl)).1, h5, kq _ _ _ _ h4 s2 g2 (d.mono g2 h6)⟩⟩) s2 g2 p2) hs) hbase hfew hline hs hplain

/-! ### o[i] = e -/
theorem g_item {i : Int} {j : Nat} {k : Nat} : True := trivial
/-- q[i] = e, a list -/
theorem d_setItem (k : Nat) {i : Expr} {j : Nat} {iv : Int} {tpos : Pos} (he : DI X ds ms e fun d m => DE X ds m o (dAt q) ∧ DE X ds m i (R iv) ∧ ∃ dl, m[k]? = some (q, mL dl) ∧ ixN dl.length iv = some j ∧ DS X ds (m.set k (q, mL (dl.set j d))) rest E)
    (ha : ∀ v, assign (.Subscript o i tpos) X.env v = (do
      let ov ← holding [v] (eval o X.env)
      let iv ← holding [v, ov] (eval i X.env)
      standAt tpos
      holding [v, ov, iv] (setItem ov iv v)
      release [v, ov, iv] []) := by intro _; rfl)
    (hs : swapsWithSole [.Subscript o i tpos] e pos.line X.env = pure false := by rfl) (hw : swappedStores [.Subscript o i tpos] e X.env = pure none := by rfl) (h1 : (assignEach [.Subscript o i tpos] X.env).map (·.2) = [assign (.Subscript o i tpos) X.env] := by rfl) :
    DS X ds ms (.Assign [.Subscript o i tpos] e pos :: rest) E := d_cons fun G0 σ H s => wS_of (ps_asg (wE_ok e) (pg_sub (wE_ok o) (wE_ok i) set_list ha) hs hw h1) (he σ H s.s _ fun d m v H1 ⟨q1, q2, dl, q3, q4, q5⟩ s1 g1 p1 =>
  two q1 q2 s1 fun x y H2 e2 h2 h3 => by
    have s2 := s1.ex e2
    obtain ⟨us, c1, c2⟩ := cell_at s2 q3
    obtain ⟨s3, g3⟩ := sy_put s2 q3 (c' := mL (dl.set j d)) (ob := .lst (us.set j v)) ⟨_, rfl, All2.set (r := fun (d : D) u => d.p (mi H2 (ads m)) u) (d.mono e2.g p1) j c2⟩
    exact ⟨q, us, iv, j, h2, h3, c1, by rw [← c2.len]; exact q4, _, _, q5, s3, s.a.trans (g1.trans (e2.g.trans g3))⟩)

/-! ### len, isinstance, all, sum, min, max, .. -/
variable {x : Str}
theorem e_len (hm : X.mg "len" = none) (ha : DR X ds ms a dl) (hg : Gl X "len" := by rfl) (he : starEach [a] X.env = (false, eval a X.env) :: starEach [] X.env := by rfl) (hpl : (backTo pos (starEach [] X.env)).any (·.1) = false := by rfl) : DE X ds ms (.Call (.Name "len" p) [a] [] pos) (R (dl.length : Int)) :=
  e_of (pe_callB call_len_seq hg hm PySem.boot_len (pa_cons (wE_ok a) pa_nil he) (by decide) (by decide) he hpl) fun σ H s Q k => ha σ H s _ fun l vs H1 e1 h1 p1 hk => ⟨l, vs, rfl, .inl (SqL.of h1), by
    have := k (.int (vs.length : Int)) H1 e1
    rw [p1.len] at this
    exact this rfl⟩
theorem e_lenR {α : Type} [Rp α] {xs : List α} (hm : X.mg "len" = none) (ha : DR X ds ms a (xs.map fun x => R x)) (hg : Gl X "len" := by rfl) (he : starEach [a] X.env = (false, eval a X.env) :: starEach [] X.env := by rfl) (hpl : (backTo pos (starEach [] X.env)).any (·.1) = false := by rfl) : DE X ds ms (.Call (.Name "len" p) [a] [] pos) (R (xs.length : Int)) :=
  e_eq (e_len hm ha hg he hpl) (by rw [List.length_map])
theorem e_lenT (hm : X.mg "len" = none) (ha : DE X ds ms a (dT dl)) (hg : Gl X "len" := by rfl) (he : starEach [a] X.env = (false, eval a X.env) :: starEach [] X.env := by rfl) (hpl : (backTo pos (starEach [] X.env)).any (·.1) = false := by rfl) : DE X ds ms (.Call (.Name "len" p) [a] [] pos) (R (dl.length : Int)) :=
  e_of (pe_callB call_len_seq hg hm PySem.boot_len (pa_cons (wE_ok a) pa_nil he) (by decide) (by decide) he hpl) fun σ H s Q k => ha σ H s _ fun v H1 e1 ⟨l, vs, h0, h1, p1⟩ => ⟨l, vs, by rw [h0], .inr (SqT.of (mi_sub _ _ h1)), by
    have := k (.int (vs.length : Int)) H1 e1
    rw [p1.len] at this
    exact this rfl⟩
theorem e_lenS {z : Str} (hm : X.mg "len" = none) (ha : DE X ds ms a (R z)) (hz : z.length ≤ 1000000) (hg : Gl X "len" := by rfl) (he : starEach [a] X.env = (false, eval a X.env) :: starEach [] X.env := by rfl) (hpl : (backTo pos (starEach [] X.env)).any (·.1) = false := by rfl) : DE X ds ms (.Call (.Name "len" p) [a] [] pos) (R (z.length : Int)) :=
  e_of (pe_callB call_len_str hg hm PySem.boot_len (pa_cons (wE_ok a) pa_nil he) (by decide) (by decide) he hpl) fun σ H s Q k => ha σ H s _ fun v H1 e1 h0 => ⟨z, by rw [show v = V.str z from h0], line_of hz, k _ H1 e1 rfl⟩
/-- what is known of a value's type -/
def TyD (d : D) (t : String) : Prop := ∀ (K : PySem.W.Frag) G v, d.p G v → TyOf K G v (.type t)
theorem ty_int {i : Int} : TyD (R i) "int" := fun K G v h => by rw [show v = V.int i from h]; exact .int i
theorem ty_bool {i : Bool} : TyD (R i) "bool" := fun K G v h => by rw [show v = V.bl i from h]; exact .bl i
theorem ty_str {i : Str} : TyD (R i) "str" := fun K G v h => by rw [show v = V.str i from h]; exact .str i
theorem ty_none : TyD (R ()) "NoneType" := fun K G v h => by rw [show v = V.non from h]; exact .non
theorem ty_dL : TyD (dL dl) "list" := fun K G v ⟨a, vs, h0, h1, _⟩ => by rw [h0]; exact .lst h1
theorem ty_dT : TyD (dT dl) "tuple" := fun K G v ⟨a, vs, h0, h1, _⟩ => by rw [h0]; exact .tup h1
theorem tyOf_sub {K : PySem.W.Frag} {G G' : Hp} {v : V} {t : String} (h : TyOf K G v (.type t)) (s : Same G G') : TyOf K G' v (.type t) := by
  cases h with
  | non => exact .non
  | bl x => exact .bl x
  | int i => exact .int i
  | str x => exact .str x
  | flt x => exact .flt x
  | lst e => exact .lst (s _ _ e)
  | frz e => exact .frz (s _ _ e)
  | tup e => exact .tup (s _ _ e)
  | dK e => exact .dK (s _ _ e)
  | dT e => exact .dT (s _ _ e)
/-- isinstance(e, T) -/
theorem e_isi (T : String) {t : String} {k : Bool} {tn : Str} {pt : Pos} (hm : X.mg "isinstance" = none) (ha : DE X ds ms a d) (ty : TyD d t) (ht : X.mg tn = none) (hT : bootBuiltins tn = some (.type T)) (hk : kitB t T = some k) (hgt : Gl X tn := by rfl) (hn : tn ≠ "__name__" := by decide) (hd : (tn == ("__debug__" : Str)) = false := by decide)
    (hg : Gl X "isinstance" := by rfl) (he : starEach [a, .Name tn pt] X.env = (false, eval a X.env) :: starEach [.Name tn pt] X.env := by rfl) (he2 : starEach [.Name tn pt] X.env = (false, eval (.Name tn pt) X.env) :: starEach [] X.env := by rfl) (hpl : (backTo pos (starEach [.Name tn pt] X.env)).any (·.1) = false := by rfl) :
    DE X ds ms (.Call (.Name "isinstance" p) [a, .Name tn pt] [] pos) (R k) :=
  e_of (pe_callB call_isi hg hm (by decide +kernel) (pa_cons (wE_ok a) (pa_cons (pe_bltn (v := .ty T) hgt ht hT rfl hn hd) pa_nil he2) he) (by decide) (by decide) he hpl) fun σ H s Q kq => ha σ H s _ fun v H1 e1 h0 =>
    ⟨v, .ty T, _, _, k, rfl, .ty T, .base (tyOf_sub (ty X.K _ v h0) mi_sub), kit_ty hk, kq _ H1 e1 rfl⟩
/-- all([..]) -/
theorem map_of {α : Type} [Rp α] {f : α → V} (hf : ∀ (x : α) G v, (R x).p G v → v = f x) {G : Hp} : ∀ {xs : List α} {vs : List V}, All2 (fun (d : D) u => d.p G u) (xs.map fun x => R x) vs → vs = xs.map f
  | [], [], _ => rfl
  | x :: xs, v :: vs, h => by rw [List.map_cons, hf x G v h.1, map_of hf h.2]
  | [], _ :: _, h => h.elim
  | _ :: _, [], h => h.elim
theorem e_all {bs : List Bool} (hc : X.calm = true) (hm : X.mg "all" = none) (ha : DE X ds ms a (R bs)) (hg : Gl X "all" := by rfl) (he : starEach [a] X.env = (false, eval a X.env) :: starEach [] X.env := by rfl) (hpl : (backTo pos (starEach [] X.env)).any (·.1) = false := by rfl) : DE X ds ms (.Call (.Name "all" p) [a] [] pos) (R (bs.all id)) :=
  e_of (pe_callB (cr_all hc) hg hm (by decide +kernel) (pa_cons (wE_ok a) pa_nil he) (by decide) (by decide) he hpl) fun σ H s Q k => ha σ H s _ fun v H1 e1 ⟨l, vs, h0, h1, h2⟩ => ⟨l, bs, by rw [h0], by
    have := map_of (f := V.bl) (fun _ _ _ h => h) h2
    rw [← this]
    exact SqL.of (mi_sub _ _ h1), k _ H1 e1 rfl⟩
theorem e_sum {ns : List Int} (hc : X.calm = true) (hm : X.mg "sum" = none) (ha : DE X ds ms a (R ns)) (hg : Gl X "sum" := by rfl) (he : starEach [a] X.env = (false, eval a X.env) :: starEach [] X.env := by rfl) (hpl : (backTo pos (starEach [] X.env)).any (·.1) = false := by rfl) : DE X ds ms (.Call (.Name "sum" p) [a] [] pos) (R ns.sum) :=
  e_of (pe_callB (cr_sum hc) hg hm (by decide +kernel) (pa_cons (wE_ok a) pa_nil he) (by decide) (by decide) he hpl) fun σ H s Q k => ha σ H s _ fun v H1 e1 ⟨l, vs, h0, h1, h2⟩ => ⟨l, ns, by rw [h0], by
    have := map_of (f := V.int) (fun _ _ _ h => h) h2
    rw [← this]
    exact SqL.of (mi_sub _ _ h1), k _ H1 e1 rfl⟩
end
end Bh
/-! B8: dicts with int keys; more built-ins. -/
namespace Bh
open PySem PySem.Spec PyProof.Rows L2
theorem hu1 {k : Nat} {A : Around} (hr : Room k A) : A.units + 1 < cLine := by have := hr.un; omega
theorem hu64 {k : Nat} {A : Around} (hr : Room k A) : A.units + 64 < cLine := by have := hr.un; omega
/-- the entries of a dict with int keys -/
abbrev KvOk (G : Hp) (kvs : List (Int × D)) (m : List (Key × V)) : Prop := All2 (fun (x : Int × D) (y : Key × V) => y.1 = .inl x.1 ∧ x.2.p G y.2) kvs m
def mD (kvs : List (Int × D)) : MC := ⟨fun G o => ∃ m, o = .dK m ∧ KvOk G kvs m, fun s ⟨m, h1, h2⟩ => ⟨m, h1, h2.imp fun x y q => ⟨q.1, x.2.mono s q.2⟩⟩, fun ⟨m, h1, _⟩ => by rw [h1]; trivial⟩
def dD (kvs : List (Int × D)) : D := ⟨fun G v => ∃ a m, v = .ref a ∧ G a = some (.dK m) ∧ KvOk G kvs m, fun s ⟨a, m, h0, h1, h2⟩ => ⟨a, m, h0, s _ _ h1, h2.imp fun x y q => ⟨q.1, x.2.mono s q.2⟩⟩⟩
def getI (kvs : List (Int × D)) (k : Int) : Option D := (kvs.find? fun x => decide (x.1 = k)).map (·.2)
def putI (kvs : List (Int × D)) (k : Int) (d : D) : List (Int × D) := if kvs.any (fun x => decide (x.1 = k)) then kvs.map fun x => if x.1 = k then (x.1, d) else x else kvs ++ [(k, d)]
theorem kv_get {G : Hp} : ∀ {kvs : List (Int × D)} {m : List (Key × V)} (k : Int), KvOk G kvs m → match getI kvs k, valV m (.inl k) with
    | some d, some v => d.p G v
    | none, none => True
    | _, _ => False
  | [], [], k, _ => trivial
  | x :: kvs, y :: m, k, h => by
    obtain ⟨h1, h2⟩ := h
    by_cases e : x.1 = k
    · have e1 : getI (x :: kvs) k = some x.2 := by unfold getI; simp [e]
      have e2 : valV (y :: m) (.inl k) = some y.2 := valV_pos (by rw [h1.1, e])
      rw [e1, e2]
      exact h1.2
    · have e1 : getI (x :: kvs) k = getI kvs k := by unfold getI; simp [e]
      have e2 : valV (y :: m) (.inl k) = valV m (.inl k) := valV_neg (by rw [h1.1]; exact fun z => e (Sum.inl.inj z))
      rw [e1, e2]
      exact kv_get k h2
  | [], _ :: _, _, h => h.elim
  | _ :: _, [], _, h => h.elim
theorem kv_some {G : Hp} {kvs : List (Int × D)} {m : List (Key × V)} {k : Int} (h : KvOk G kvs m) : (valV m (.inl k)).isSome = (getI kvs k).isSome := by
  have := kv_get k h
  cases e1 : getI kvs k with
  | none =>
    cases e2 : valV m (.inl k) with
    | none => rfl
    | some v =>
      rw [e1, e2] at this
      exact this.elim
  | some d =>
    cases e2 : valV m (.inl k) with
    | none =>
      rw [e1, e2] at this
      exact this.elim
    | some v => rfl
theorem kv_any {G : Hp} {k : Int} : ∀ {kvs : List (Int × D)} {m : List (Key × V)}, KvOk G kvs m → (m.any fun kv => decide (kv.1 = Sum.inl k)) = kvs.any fun x => decide (x.1 = k)
  | [], [], _ => rfl
  | x :: kvs, y :: m, h => by
    rw [List.any_cons, List.any_cons, kv_any h.2, h.1.1]
    congr 1
    exact decide_eq_decide.mpr ⟨fun z => Sum.inl.inj z, fun z => congrArg _ z⟩
  | [], _ :: _, h => h.elim
  | _ :: _, [], h => h.elim
theorem kv_map {G : Hp} {k : Int} {d : D} {v : V} (hv : d.p G v) : ∀ {kvs : List (Int × D)} {m : List (Key × V)}, KvOk G kvs m → KvOk G (kvs.map fun x => if x.1 = k then (x.1, d) else x) (m.map fun kv => if kv.1 = (Sum.inl k : Key) then (kv.1, v) else kv)
  | [], [], _ => trivial
  | x :: kvs, y :: m, h => by
    refine ⟨?_, kv_map hv h.2⟩
    dsimp only
    by_cases e : x.1 = k
    · rw [if_pos e, if_pos (show y.1 = Sum.inl k by rw [h.1.1, e])]
      exact ⟨h.1.1, hv⟩
    · rw [if_neg e, if_neg (show ¬ y.1 = Sum.inl k by rw [h.1.1]; exact fun z => e (Sum.inl.inj z))]
      exact h.1
  | [], _ :: _, h => h.elim
  | _ :: _, [], h => h.elim
theorem kv_put {G : Hp} {kvs : List (Int × D)} {m : List (Key × V)} {k : Int} {d : D} {v : V} (h : KvOk G kvs m) (hv : d.p G v) : KvOk G (putI kvs k d) (putK m (.inl k) v) := by
  unfold putI putK
  rw [kv_any h]
  split
  · exact kv_map hv h
  · exact h.append ⟨⟨rfl, hv⟩, trivial⟩
theorem putI_new {kvs : List (Int × D)} {k : Int} {d : D} (h : (getI kvs k).isSome = false) : putI kvs k d = kvs ++ [(k, d)] := by
  unfold putI
  rw [if_neg]
  intro z
  unfold getI at h
  rw [Option.isSome_map] at h
  have := List.find?_isSome (p := fun x : Int × D => decide (x.1 = k)) (xs := kvs)
  obtain ⟨x, hx, hk⟩ := List.any_eq_true.mp z
  rw [this.mpr ⟨x, hx, hk⟩] at h
  cases h
theorem dgk {H : Hp} {a : Addr} {m : List (Key × V)} {k : Int} {y : V} (e : H a = some (.dK m)) (hy : y = .int k) : DGet H a y (valV m (.inl k)) := by
  rw [hy]
  exact DGet.k (k := Sum.inl k) e
section
variable {X : Cx} {ds : Ds} {ms : MS} {σ : L2.St} {H H' : Hp} {e o a b c : Expr} {es : List Expr} {rest : List Stmt} {d da db : D} {kvs : List (Int × D)} {K : D → MS → Prop} {E : SE} {pos p apos cpos : Pos} {q : Addr} {k : Int}
/-- a dict that may be read: for good, or a cell -/
def DRd (X : Cx) (ds : Ds) (ms : MS) (e : Expr) (kvs : List (Int × D)) : Prop := ∀ σ H, Sy ds ms σ H → ∀ Q : VK, (∀ a m H', Ex (ads ms) H H' → H' a = some (.dK m) → KvOk (mi H' (ads ms)) kvs m → (mi H' (ads ms) a = some (.dK m) ∨ a ∈ ads ms) → Q (.ref a) H') → wE X e σ H Q
theorem rd_R (h : DE X ds ms e (dD kvs)) : DRd X ds ms e kvs := fun σ H s Q k => h σ H s Q fun v H1 e1 ⟨a, vs, h1, h2, h3⟩ => by
  rw [h1]
  exact k a vs H1 e1 (mi_sub _ _ h2) h3 (.inl h2)
theorem rd_cell (h : DE X ds ms e (dAt q)) (hm : (q, mD kvs) ∈ ms) : DRd X ds ms e kvs := fun σ H s Q k => h σ H s Q fun v H1 e1 h1 => by
  rw [show v = V.ref q from h1]
  obtain ⟨o, h2, m, h3, h4⟩ := (s.ex e1).ce _ hm
  rw [h3] at h2
  exact k q m H1 e1 h2 h4 (.inr (List.mem_map_of_mem hm))
/-- {} -/
theorem i_dnew (hK : ∀ a, K (dAt a) ((a, mD []) :: ms)) : DI X ds ms (.Dict [] [] pos) K := fun σ H s Q k => wE_of pe_dnewK fun a ha => by
  have e1 : Ex (ads ms) H (upd H a (.dK [])) := s.new ha
  have h0 : mi H (ads ms) a = none := mi_none ha
  have na : a ∉ ads ms := fun z => s.ce.there z ha
  have g := same_hide e1.g h0
  refine k _ _ _ _ (hK a) ⟨fun i d h hl => let ⟨v, q1, q2⟩ := s.sl i d h hl; ⟨v, q1, d.mono g q2⟩, List.nodup_cons.mpr ⟨na, s.nd⟩, fun r hr => ?_⟩ g rfl
  rcases List.mem_cons.mp hr with z | z
  · subst z
    exact ⟨_, upd_same, [], rfl, trivial⟩
  · obtain ⟨o, q1, q2⟩ := s.ce r z
    exact ⟨o, (e1.c r.1 (List.mem_map_of_mem z)).trans q1, r.2.mono g q2⟩
/-- k in d -/
theorem e_inD (hu : X.A.units + 1 < cLine) (hk : DE X ds ms a (R k)) (hd : DRd X ds ms b kvs) (hm : behindInMarks .In b = false := by rfl) : DE X ds ms (.Compare a [.In] [b] pos) (R (getI kvs k).isSome) :=
  e_of (pe_cmp (pc_din hu (wE_ok a) (wE_ok b)) hm) fun σ H s Q kq => hk σ H s _ fun v H1 e1 h1 => hd σ H1 (s.ex e1) _ fun l m H2 e2 h2 h3 _ => ⟨l, _, rfl, dgk h2 h1, by
    rw [kv_some h3]
    exact kq _ H2 (e1.trans e2) rfl⟩
theorem b_inD (hu : X.A.units + 1 < cLine) (hk : DE X ds ms a (R k)) (hd : DRd X ds ms b kvs) (hm : behindInMarks .In b = false := by rfl) : DB X ds ms (.Compare a [.In] [b] pos) (getI kvs k).isSome := fun σ H s Q kq =>
  wT_of (pt_cmp (pc_din hu (wE_ok a) (wE_ok b)) hm) (hk σ H s _ fun v H1 e1 h1 => hd σ H1 (s.ex e1) _ fun l m H2 e2 h2 h3 _ => ⟨l, _, rfl, dgk h2 h1, by
    rw [kv_some h3]
    exact ⟨_, rfl, kq H2 (e1.trans e2)⟩⟩)
theorem b_notinD (hu : X.A.units + 1 < cLine) (hk : DE X ds ms a (R k)) (hd : DRd X ds ms b kvs) (hm : behindInMarks .NotIn b = false := by rfl) : DB X ds ms (.Compare a [.NotIn] [b] pos) (!(getI kvs k).isSome) := fun σ H s Q kq =>
  wT_of (pt_cmp (pc_dnotin hu (wE_ok a) (wE_ok b)) hm) (hk σ H s _ fun v H1 e1 h1 => hd σ H1 (s.ex e1) _ fun l m H2 e2 h2 h3 _ => ⟨l, _, rfl, dgk h2 h1, by
    rw [kv_some h3]
    exact ⟨_, rfl, kq H2 (e1.trans e2)⟩⟩)
/-- d[k] -/
theorem e_getD (hu : X.A.units + 1 < cLine) (hd : DRd X ds ms a kvs) (hk : DE X ds ms b (R k)) (h : getI kvs k = some d) (hs : NoSl b := by exact fun _ _ => rfl) : DE X ds ms (.Subscript a b pos) d :=
  e_of (pe_dget hu (wE_ok a) (wE_ok b) hs) fun σ H s Q kq => hd σ H s _ fun l m H1 e1 h1 h2 hl => hk σ H1 (s.ex e1) _ fun v H2 e2 h3 => by
    have h4 : H2 l = some (.dK m) := by
      rcases hl with hl | hl
      · exact mi_sub _ _ (e2.g _ _ hl)
      · rw [e2.c l hl]; exact h1
    have h5 : KvOk (mi H2 (ads ms)) kvs m := h2.imp fun x y q => ⟨q.1, x.2.mono e2.g q.2⟩
    have h6 := kv_get k h5
    rw [h] at h6
    cases e : valV m (.inl k) with
    | none => rw [e] at h6; exact h6.elim
    | some u =>
      rw [e] at h6
      exact ⟨l, u, rfl, by rw [← e]; exact dgk h4 h3, kq u H2 (e1.trans e2) h6⟩
/-- d[k] = e -/
theorem d_put (j : Nat) {i : Expr} {pos' : Pos} (hu : X.A.units + 1 < cLine) (he : DI X ds ms e fun d m => ∃ kvs k, DE X ds m o (dAt q) ∧ DE X ds m i (R k) ∧ m[j]? = some (q, mD kvs) ∧ kvs.length < 1000000 ∧ DS X ds (m.set j (q, mD (putI kvs k d))) rest E) (hs : swapsWith e (some (.Subscript o i pos')) pos.line X.env = pure false := by rfl) :
    DS X ds ms (.Assign [.Subscript o i pos'] e pos :: rest) E := d_cons fun G0 σ H s => wS_of (ps_dput hu (wE_ok o) (wE_ok i) (wE_ok e) hs) (he σ H s.s _ fun d m v H1 ⟨kvs, k, q1, q2, q3, q4, q5⟩ s1 g1 p1 =>
  two q1 q2 s1 fun x y H2 e2 h2 h3 => by
    have s2 := s1.ex e2
    obtain ⟨ob, c1, mm, c2, c3⟩ := s2.ce _ (List.mem_of_getElem? q3)
    rw [c2] at c1
    obtain ⟨s3, g3⟩ := sy_put s2 q3 (c' := mD (putI kvs k d)) (ob := .dK (putK mm (.inl k) v)) ⟨_, rfl, kv_put c3 (d.mono e2.g p1)⟩
    exact ⟨q, _, h2, by rw [show y = V.int k from h3]; exact DPut.k (k := Sum.inl k) c1 (by rw [← c3.len]; exact line_lt q4), _, _, q5, s3, s.a.trans (g1.trans (e2.g.trans g3))⟩)
/-- len(d) -/
theorem e_lenD (hm : X.mg "len" = none) (ha : DRd X ds ms a kvs) (hg : Gl X "len" := by rfl) (he : starEach [a] X.env = (false, eval a X.env) :: starEach [] X.env := by rfl) (hpl : (backTo pos (starEach [] X.env)).any (·.1) = false := by rfl) : DE X ds ms (.Call (.Name "len" p) [a] [] pos) (R (kvs.length : Int)) :=
  e_of (pe_callB call_lenD hg hm PySem.boot_len (pa_cons (wE_ok a) pa_nil he) (by decide) (by decide) he hpl) fun σ H s Q k => ha σ H s _ fun l m H1 e1 h1 p1 hk => ⟨l, m, rfl, h1, by
    have := k (.int (m.length : Int)) H1 e1
    rw [p1.len] at this
    exact this rfl⟩
/-- divmod -/
theorem e_divmod {i j : Int} (hm : X.mg "divmod" = none) (ha : DE X ds ms a (R i)) (hb : DE X ds ms b (R j)) (hc : CDiv i j) (hg : Gl X "divmod" := by rfl) (he : starEach [a, b] X.env = (false, eval a X.env) :: starEach [b] X.env := by rfl) (he2 : starEach [b] X.env = (false, eval b X.env) :: starEach [] X.env := by rfl) (hpl : (backTo pos (starEach [b] X.env)).any (·.1) = false := by rfl) :
    DE X ds ms (.Call (.Name "divmod" p) [a, b] [] pos) (R (i / j, i % j)) :=
  e_of (pe_callB call_divmod hg hm (by decide +kernel) (pa_cons (wE_ok a) (pa_cons (wE_ok b) pa_nil he2) he) (by decide) (by decide) he hpl) fun σ H s Q k => two ha hb s fun x y H1 e1 h1 h2 => ⟨i, j, by rw [show x = V.int i from h1, show y = V.int j from h2], hc, fun q hq => by
    have s1 := s.ex e1
    have e2 := s1.new (o := .tup [.int (i / j), .int (i % j)]) hq
    exact k _ _ (e1.trans e2) ⟨q, _, rfl, mi_new (fun _ z => s1.ce.there z) hq (fun x z => by cases z), rfl, rfl, trivial⟩⟩
/-- list(range(n)) -/
theorem n_listRg {n : Int} (hc : X.calm = true) (hl : X.mg "list" = none) (hm : X.mg "range" = none) (ha : DE X ds ms a (R n)) (hn : 0 ≤ n ∧ n ≤ 1000000) {p2 pos2 : Pos} (hgl : Gl X "list" := by rfl) (hg : Gl X "range" := by rfl) (he : starEach [a] X.env = (false, eval a X.env) :: starEach [] X.env := by rfl)
    (he2 : starEach [.Call (.Name "range" p2) [a] [] pos2] X.env = (false, eval (.Call (.Name "range" p2) [a] [] pos2) X.env) :: starEach [] X.env := by rfl) : DN X ds ms (.Call (.Name "list" p) [.Call (.Name "range" p2) [a] [] pos2] [] pos) ((rngL 0 n.toNat).map fun x => R x) := fun σ H s Q k => by
  refine wE_of (pe_listRg hc hgl hl (prg_1 hg hm (wE_ok a) he) he2) ?_
  refine ha σ H s _ fun v H1 e1 h1 => ⟨n, h1, RgOk.of_le (by decide) (by omega) (by decide) hn.1, fun q hq => ?_⟩
  refine new_of s e1 hq ?_ k
  unfold rgV rngL
  rw [Int.sub_zero, List.map_map]
  generalize List.range n.toNat = l
  induction l with
  | nil => trivial
  | cons x l ih => exact ⟨rfl, ih⟩
theorem e_listRg {n : Int} (hc : X.calm = true) (hl : X.mg "list" = none) (hm : X.mg "range" = none) (ha : DE X ds ms a (R n)) (hn : 0 ≤ n ∧ n ≤ 1000000) {p2 pos2 : Pos} (hgl : Gl X "list" := by rfl) (hg : Gl X "range" := by rfl) (he : starEach [a] X.env = (false, eval a X.env) :: starEach [] X.env := by rfl)
    (he2 : starEach [.Call (.Name "range" p2) [a] [] pos2] X.env = (false, eval (.Call (.Name "range" p2) [a] [] pos2) X.env) :: starEach [] X.env := by rfl) : DE X ds ms (.Call (.Name "list" p) [.Call (.Name "range" p2) [a] [] pos2] [] pos) (R (rngL 0 n.toNat)) := e_new (n_listRg hc hl hm ha hn hgl hg he he2)
/-- enumerate(a list) -/
def enF {α : Type} (k : Int) : List α → List (Int × α)
  | [] => []
  | x :: xs => (k, x) :: enF (k + 1) xs
theorem enF_len {α : Type} : ∀ (k : Int) (xs : List α), (enF k xs).length = xs.length
  | _, [] => rfl
  | k, x :: xs => congrArg Nat.succ (enF_len (k + 1) xs)
theorem enF_get {α : Type} : ∀ {k : Int} {xs : List α} {i : Nat} {y : Int × α}, (enF k xs)[i]? = some y → y.1 = k + (i : Int) ∧ xs[i]? = some y.2
  | k, [], i, y, h => by simp [enF] at h
  | k, x :: xs, 0, y, h => by
    simp [enF] at h
    subst h
    exact ⟨by simp, rfl⟩
  | k, x :: xs, i + 1, y, h => by
    have h2 : (enF (k + 1) xs)[i]? = some y := by simpa [enF] using h
    obtain ⟨h3, h4⟩ := enF_get h2
    exact ⟨by rw [h3]; omega, by simpa using h4⟩
theorem enF_take {α : Type} : ∀ (k : Int) (xs : List α) (n : Nat), (enF k xs).take n = enF k (xs.take n)
  | _, [], n => by simp [enF]
  | k, x :: xs, 0 => rfl
  | k, x :: xs, n + 1 => congrArg _ (enF_take (k + 1) xs n)
theorem wk_enum {α : Type} [Rp α] {xs : List α} {elts : List Expr} {kk : Nat} {tpos : Pos} (hm : X.mg "enumerate" = none) (h : DE X ds ms e (R xs)) (hg : Gl X "enumerate" := by rfl) (he : starEach [e] X.env = (false, eval e X.env) :: starEach [] X.env := by rfl) (hs : starEach [e] X.env = [(false, eval e X.env)] := by rfl) :
    DWk X ds ms (.Tuple elts kk tpos) (.Call (.Name "enumerate" p) [e] [] pos) ((enF 0 xs).map fun x => R x) := ⟨_, pi_enum hg hm (pa_cons (wE_ok e) pa_nil he) hs, fun σ H s R k => h σ H s _ fun v H1 e1 ⟨a, vs, h0, h1, h2⟩ => ⟨a, vs, by rw [h0], SqL.of (mi_sub _ _ h1), k _ H1 e1 ⟨_, _, by
    have : ((enF 0 xs).map fun x => Bh.R x).length = vs.length := by rw [List.length_map, enF_len, ← h2.len, List.length_map]
    rw [this]
    exact walk_enum (K := X.K) (a := a) (xs := vs), fun ps H2 g => SqL.of (mi_sub _ _ (g _ _ h1)), fun i H2 x H3 d ps hp g y hd => by
  obtain ⟨T, u1, u2, rfl, hT, rfl, hu, hv⟩ := y
  rw [List.getElem?_map] at hd
  obtain ⟨z, hz, rfl⟩ := Option.map_eq_some_iff.mp hd
  obtain ⟨z1, z2⟩ := enF_get hz
  dsimp only at hu hv
  obtain ⟨v', q1, q2⟩ := h2.get (i := i) (x := Bh.R z.2) (by rw [List.getElem?_map, z2]; rfl)
  rw [q1] at hv
  cases hv
  cases hu
  have e2 := Ex.new (ps := ps) (o := .tup [.int (i : Nat), u2]) hp hT
  refine ⟨e2, T, _, rfl, mi_new hp hT (fun x z => by cases z), ?_, ?_, trivial⟩
  · rw [z1]
    show V.int _ = V.int _
    rw [Int.zero_add]
  · exact (Bh.R z.2).mono (g.trans e2.g) q2⟩⟩⟩
/-- zip(a list, a list) -/
theorem wk_zip {α β : Type} [Rp α] [Rp β] {xs : List α} {ys : List β} {elts : List Expr} {kk : Nat} {tpos : Pos} (hm : X.mg "zip" = none) (h : DE X ds ms a (R xs)) (h' : DE X ds ms b (R ys)) (hg : Gl X "zip" := by rfl) (he : starEach [a, b] X.env = (false, eval a X.env) :: starEach [b] X.env := by rfl) (he2 : starEach [b] X.env = (false, eval b X.env) :: starEach [] X.env := by rfl)
    (hpl : (backTo pos (starEach [b] X.env)).any (·.1) = false := by rfl) : DWk X ds ms (.Tuple elts kk tpos) (.Call (.Name "zip" p) [a, b] [] pos) ((xs.zip ys).map fun x => R x) := ⟨_, pi_zip hg hm (pa_cons (wE_ok a) (pa_cons (wE_ok b) pa_nil he2) he) he hpl, fun σ H s R k =>
  two h h' s fun v v' H1 e1 ⟨l, vs, h0, h1, h2⟩ ⟨l', vs', h0', h1', h2'⟩ => ⟨l, l', vs, vs', by rw [h0, h0'], SqL.of (mi_sub _ _ h1), SqL.of (mi_sub _ _ h1'), k _ H1 e1 ⟨fun H => SqL X.K H l vs ∧ SqL X.K H l' vs', _, by
    refine walk_zip (K := X.K) (a := l) (b := l') (xs := vs) (ys := vs') ?_
    rw [List.length_map, List.length_zip, ← h2.len, ← h2'.len, List.length_map, List.length_map], fun ps H2 g => ⟨SqL.of (mi_sub _ _ (g _ _ h1)), SqL.of (mi_sub _ _ (g _ _ h1'))⟩, fun i H2 x H3 d ps hp g y hd => by
  obtain ⟨T, u1, u2, rfl, hT, rfl, hu, hv⟩ := y
  rw [List.getElem?_map] at hd
  obtain ⟨z, hz, rfl⟩ := Option.map_eq_some_iff.mp hd
  obtain ⟨z1, z2⟩ := List.getElem?_zip_eq_some.mp hz
  dsimp only at hu hv
  obtain ⟨w1, q1, q2⟩ := h2.get (i := i) (x := Bh.R z.1) (by rw [List.getElem?_map, z1]; rfl)
  obtain ⟨w2, q3, q4⟩ := h2'.get (i := i) (x := Bh.R z.2) (by rw [List.getElem?_map, z2]; rfl)
  rw [q1] at hu
  rw [q3] at hv
  cases hu
  cases hv
  have e2 := Ex.new (ps := ps) (o := .tup [u1, u2]) hp hT
  exact ⟨e2, T, _, rfl, mi_new hp hT (fun x z => by cases z), (Bh.R z.1).mono (g.trans e2.g) q2, (Bh.R z.2).mono (g.trans e2.g) q4, trivial⟩⟩⟩⟩
end
end Bh
/-! C0: the text by places; clocks as data. -/
namespace Bh
open PySem PySem.Spec PyProof.Rows L2
abbrev FD (K : PySem.W.Frag) (x qual : Str) (st : Stmt) (f : Addr) (fd : FuncData) : Prop := FunD K x qual (defArgs st) (defBody st) (defScope st) [] [] f fd
abbrev Rail : Type := Int × Str
abbrev Clk : Type := Int × List Rail
abbrev Sight : Type := List (List Int)
structure ClkOk (c : Clk) : Prop where
  lo : 2 ≤ c.1
  hi : c.1 ≤ 100
  ne : c.2 ≠ []
  bd : ∀ r ∈ c.2, 2 ≤ r.1 ∧ (r.2 = "back" ∨ r.2 = "through")
  sm : ((c.2.map fun r => r.1 - 1).sum : Int) < c.1
def turnOf (rs : List Rail) : Int := rs.foldl (fun a r => a * r.1) 1
end Bh
namespace Bh
open PySem PySem.Spec PyProof.Rows L2
/-- the module's names that are built-ins, and its constants -/
structure Tx (K : PySem.W.Frag) (mg : Str → Option Value) : Prop where
  isinstance : mg "isinstance" = none
  int : mg "int" = none
  bool : mg "bool" = none
  tuple : mg "tuple" = none
  list : mg "list" = none
  str : mg "str" = none
  dict : mg "dict" = none
  len : mg "len" = none
  all : mg "all" = none
  sum : mg "sum" = none
  enumerate : mg "enumerate" = none
  range : mg "range" = none
  zip : mg "zip" = none
  divmod : mg "divmod" = none
  min : mg "min" = none
  max : mg "max" = none
  abs : mg "abs" = none
  repr : mg "repr" = none
  ways : ∃ a, mg "WAYS" = some (.ref a) ∧ ∀ H, SqT K H a [.str "back", .str "through"]
  balls : ∃ t, mg "MOST_BALLS" = some (.int 100 t)
  wishes : ∃ t, mg "MOST_WISHES" = some (.int 100 t)
  sights : ∃ t, mg "MOST_SIGHTS" = some (.int 60 t)
  digits : ∃ t, mg "MOST_DIGITS" = some (.int 30 t)
  signs : ∃ t, mg "DIGIT_SIGNS" = some (.str "0123456789" t)
section
variable {X : Cx} {ds : Ds} {ms : MS} {e a b c : Expr} {pos p : Pos}
/-- a module's int -/
theorem e_gint {x : Str} {i : Int} (h : ∃ t, X.mg x = some (.int i t)) (hg : Gl X x := by rfl) (hd : (x == ("__debug__" : Str)) = false := by decide) : DE X ds ms (.Name x pos) (R i) := by
  obtain ⟨t, h⟩ := h
  exact e_glob h ⟨t, rfl⟩ hg hd
theorem e_gstr {x z : Str} (h : ∃ t, X.mg x = some (.str z t)) (hg : Gl X x := by rfl) (hd : (x == ("__debug__" : Str)) = false := by decide) : DE X ds ms (.Name x pos) (R z) := by
  obtain ⟨t, h⟩ := h
  exact e_glob h ⟨t, rfl⟩ hg hd
/-- e in WAYS -/
theorem e_inW {z : Str} (h : ∃ a, X.mg "WAYS" = some (.ref a) ∧ ∀ H, SqT X.K H a [.str "back", .str "through"]) (ha : DE X ds ms a (R z)) (hz : z = "back" ∨ z = "through") (hg : Gl X "WAYS" := by rfl) : DE X ds ms (.Compare a [.In] [.Name "WAYS" p] pos) (R true) := by
  obtain ⟨l, h1, h2⟩ := h
  refine e_cmp (r := rIn X.K false) op_in_seq ha (e_glob (v := .ref l) h1 rfl hg) (fun σ H x y s hx hy Q k => ?_) (by rfl)
  refine ⟨l, _, hy, .inr (h2 H), by rw [show x = V.str z from hx]; rfl, rfl, ?_⟩
  rw [show x = V.str z from hx]
  have e1 : inV (V.str z) [V.str "back", V.str "through"] = true := by
    show ((("back" : Str) == z) || ((("through" : Str) == z) || false)) = true
    rcases hz with hz | hz
    · subst hz
      rw [beq_self_eq_true]
      rfl
    · subst hz
      rw [beq_self_eq_true, Bool.true_or, Bool.or_true]
  show Q (V.bl (inV (V.str z) [V.str "back", V.str "through"])) H
  rw [e1]
  exact k _ H (Ex.refl _ _) rfl
end
theorem Has.mk' {P : Program} {w : World} {K : PySem.W.Frag} {mg : Str → Option Value} {base : Heap} {A : Type} {x : Str} {k : Nat} {S : Spec A} {f : Addr} {fd : FuncData} {ps : List Str} (h1 : mg x = some (.ref f)) (h2 : PySem.W.keepIn K (.ref f) = true) (h3 : Binds K fd ps []) (h4 : FnOk P w K mg base CX0 k f fd ps (spOf S)) : Has P w K mg base x k S :=
  ⟨f, fd, ps, h1, h2, h3, h4⟩
/-- a def of the text, where it stands: st, its parameters ps; all that a caller needs but its promise -/
structure At (K : PySem.W.Frag) (mg : Str → Option Value) (x : Str) (st : Stmt) (ps : List Str) : Prop where
  h : ∃ f fd, FD K x x st f fd ∧ mg x = some (.ref f) ∧ Binds K fd ps []
theorem has_of {P : Program} {w : World} {K : PySem.W.Frag} {mg : Str → Option Value} {base : Heap} {A : Type} {x : Str} {k : Nat} {S : Spec A} {st : Stmt} {ps : List Str} (a : At K mg x st ps) (h : ∀ f fd, FD K x x st f fd → FnOk P w K mg base CX0 k f fd ps (spOf S)) : Has P w K mg base x k S := by
  obtain ⟨f, fd, F, hm, hb⟩ := a.h
  exact ⟨f, fd, ps, hm, F.kp, hb, h f fd F⟩
end Bh
namespace Bh
open PySem PySem.Spec PyProof.Rows L2
structure SightOk (c : Clk) (s : Sight) : Prop where
  len : s.length = c.2.length + 1
  ball : ∀ b ∈ s.flatten, 0 ≤ b ∧ b < c.1
  nd : s.flatten.Nodup
  cnt : (s.flatten.length : Int) = c.1
  rail : ∀ (i : Nat) row r, s[i + 1]? = some row → c.2[i]? = some r → (row.length : Int) < r.1
structure OrderOk (c : Clk) (o : List Int) : Prop where
  ball : ∀ b ∈ o, 0 ≤ b ∧ b < c.1
  nd : o.Nodup
  cnt : (o.length : Int) = c.1
theorem ClkOk.len_lt {c : Clk} (h : ClkOk c) : (c.2.length : Int) < c.1 := by
  have key : ∀ l : List Rail, (∀ r ∈ l, 2 ≤ r.1) → (l.length : Int) ≤ (l.map fun r => r.1 - 1).sum := fun l => by
    induction l with
    | nil => intro _; exact Int.le_refl _
    | cons r l ih =>
      intro hl
      have h1 := ih fun x hx => hl x (List.mem_cons_of_mem _ hx)
      have h2 := hl r List.mem_cons_self
      rw [List.length_cons, List.map_cons, List.sum_cons]
      omega
  have := key c.2 fun r hr => (h.bd r hr).1
  have := h.sm
  omega
theorem ClkOk.len_le {c : Clk} (h : ClkOk c) : c.2.length ≤ 100 := by
  have := h.len_lt
  have := h.hi
  omega
theorem ClkOk.bound_le {c : Clk} (h : ClkOk c) : ∀ r ∈ c.2, r.1 ≤ 100 := by
  have key : ∀ l : List Rail, (∀ r ∈ l, 2 ≤ r.1) → 0 ≤ (l.map fun r => r.1 - 1).sum ∧ ∀ r ∈ l, r.1 - 1 ≤ (l.map fun r => r.1 - 1).sum := fun l => by
    induction l with
    | nil => intro _; exact ⟨Int.le_refl _, fun r hr => nomatch hr⟩
    | cons r l ih =>
      intro hl
      obtain ⟨h0, h1⟩ := ih fun x hx => hl x (List.mem_cons_of_mem _ hx)
      have h2 := hl r List.mem_cons_self
      rw [List.map_cons, List.sum_cons]
      refine ⟨by omega, fun x hx => ?_⟩
      rcases List.mem_cons.mp hx with e | e
      · subst e; omega
      · have := h1 x e; omega
  intro r hr
  have := (key c.2 fun r hr => (h.bd r hr).1).2 r hr
  have := h.sm
  have := h.hi
  omega
theorem strOk_ways {z : Str} (h : z = "back" ∨ z = "through") : (PyData.str z).canLay0 = true := by
  rcases h with h | h
  · subst h; decide +kernel
  · subst h; decide +kernel
theorem ClkOk.lay {c : Clk} (h : ClkOk c) : (Pd.py c.2).canLay0 = true := by
  show PyData.canLayAll0 (c.2.map Pd.py) = true
  have key : ∀ l : List Rail, (∀ r ∈ l, r.2 = "back" ∨ r.2 = "through") → PyData.canLayAll0 (l.map Pd.py) = true := fun l => by
    induction l with
    | nil => intro _; rfl
    | cons r l ih =>
      intro hl
      show ((true && ((PyData.str r.2).canLay0 && true)) && PyData.canLayAll0 (l.map Pd.py)) = true
      rw [strOk_ways (hl r List.mem_cons_self), ih fun x hx => hl x (List.mem_cons_of_mem _ hx)]
      rfl
  exact key c.2 fun r hr => (h.bd r hr).2
/-- the keys seen so far, each with True -/
def kt (ks : List Int) : List (Int × D) := ks.map fun k => (k, R true)
theorem kt_get (ks : List Int) (k : Int) : (getI (kt ks) k).isSome = decide (k ∈ ks) := by
  unfold getI kt
  rw [Option.isSome_map, List.find?_map, Option.isSome_map]
  induction ks with
  | nil => rfl
  | cons x ks ih =>
    rw [List.find?_cons]
    by_cases e : x = k
    · subst e; simp
    · have : (((fun x : Int × D => decide (x.1 = k)) ∘ fun k => (k, R true)) x) = false := by simp [e]
      rw [this]
      simp only
      rw [ih]
      refine decide_eq_decide.mpr ⟨fun h => List.mem_cons_of_mem _ h, fun h => (List.mem_cons.mp h).elim (fun z => absurd z.symm e) id⟩
theorem kt_put {ks : List Int} {k : Int} (h : k ∉ ks) : putI (kt ks) k (R true) = kt (ks ++ [k]) := by
  rw [putI_new (by rw [kt_get]; exact decide_eq_false h)]
  unfold kt
  rw [List.map_append]
  rfl
theorem kt_len (ks : List Int) : (kt ks).length = ks.length := List.length_map _
theorem atI_nat' {α : Type} {xs : List α} {i : Int} {y : α} (h0 : 0 ≤ i) (h : xs[i.toNat]? = some y) : atI xs i = some y := by
  unfold atI ixN
  have := (List.getElem?_eq_some_iff.mp h).1
  rw [if_pos h0, if_pos (by omega)]
  exact h
end Bh
/-! B9: texts. -/
namespace Bh
open PySem PySem.Spec PyProof.Rows L2 TL
/-- the text of an int -/
def sI (i : Int) : Str := Str.ofString (toString i)
section
variable {X : Cx} {ds : Ds} {ms : MS} {σ : L2.St} {H H' : Hp} {e o a b c : Expr} {es : List Expr} {rest : List Stmt} {d da db : D} {dl : List D} {K : D → MS → Prop} {E : SE} {pos p apos cpos p2 : Pos} {z y : Str}
theorem e_strI {i : Int} (hm : X.mg "str" = none) (ha : DE X ds ms a (R i)) (hi : i.natAbs.log2 < 1920) (hg : Gl X "str" := by rfl) (he : starEach [a] X.env = (false, eval a X.env) :: starEach [] X.env := by rfl) (hpl : (backTo pos (starEach [] X.env)).any (·.1) = false := by rfl) : DE X ds ms (.Call (.Name "str" p) [a] [] pos) (R (sI i)) :=
  e_of (pe_callTy call_str_int hg hm (by decide +kernel) (pa_cons (wE_ok a) pa_nil he) (by decide) (by decide) he hpl) fun σ H s Q k => ha σ H s _ fun v H1 e1 h => ⟨i, by rw [show v = V.int i from h], hi, k _ H1 e1 rfl⟩
theorem e_intS {n : Int} (hm : X.mg "int" = none) (ha : DE X ds ms a (R z)) (hz : PySem.intText? z = some n) (hl : z.length ≤ 640) (hg : Gl X "int" := by rfl) (he : starEach [a] X.env = (false, eval a X.env) :: starEach [] X.env := by rfl) (hpl : (backTo pos (starEach [] X.env)).any (·.1) = false := by rfl) : DE X ds ms (.Call (.Name "int" p) [a] [] pos) (R n) :=
  e_of (pe_callTy call_int_str hg hm (by decide +kernel) (pa_cons (wE_ok a) pa_nil he) (by decide) (by decide) he hpl) fun σ H s Q k => ha σ H s _ fun v H1 e1 h => ⟨z, n, by rw [show v = V.str z from h], hz, hl, k _ H1 e1 rfl⟩
theorem e_int1 {n : Int} (hm : X.mg "int" = none) (ha : DE X ds ms a (R n)) (hg : Gl X "int" := by rfl) (he : starEach [a] X.env = (false, eval a X.env) :: starEach [] X.env := by rfl) (hpl : (backTo pos (starEach [] X.env)).any (·.1) = false := by rfl) : DE X ds ms (.Call (.Name "int" p) [a] [] pos) (R n) :=
  e_of (pe_callTy call_int1 hg hm (by decide +kernel) (pa_cons (wE_ok a) pa_nil he) (by decide) (by decide) he hpl) fun σ H s Q k => ha σ H s _ fun v H1 e1 h => .inl ⟨n, by rw [show v = V.int n from h], k _ H1 e1 rfl⟩
/-- sep.join(texts) -/
theorem e_join {ys : List Str} (ho : DE X ds ms o (R z)) (ha : DE X ds ms a (R ys)) (hz : (ys.map (·.length)).sum + ys.length * z.length ≤ 16777216) (hs : starEach [a] X.env = [(false, eval a X.env)] := by rfl) (hbase : attributeBase o "join" X.env (eval o X.env) = eval o X.env := by rfl) (hline : (apos.endLine == pos.line) = true := by rfl) : DE X ds ms (.Call (.Attribute o "join" apos) [a] [] pos) (R (Txt.join z ys)) :=
  e_of (pe_join (wE_ok o) (wE_ok a) hs hbase hline) fun σ H s Q k => ho σ H s _ fun x H1 e1 h1 => ⟨⟨z, h1⟩, ha σ H1 (s.ex e1) _ fun y H2 e2 ⟨l, vs, h2, h3, h4⟩ => ⟨z, l, ys, h1, by rw [h2], by
    have := map_of (f := V.str) (fun _ _ _ h => h) h4
    rw [← this]
    exact .inl (SqL.of (mi_sub _ _ h3)), hz, k _ H2 (e1.trans e2) rfl⟩⟩
/-- z.split(y) -/
theorem n_split (ho : DE X ds ms o (R z)) (ha : DE X ds ms a (R y)) (hy : (y.length == 0) = false) (hz : z.length + 2 ≤ sizeLine) (hs : starEach [a] X.env = [(false, eval a X.env)] := by rfl) (hbase : attributeBase o "split" X.env (eval o X.env) = eval o X.env := by rfl) (hline : (apos.endLine == pos.line) = true := by rfl) : DN X ds ms (.Call (.Attribute o "split" apos) [a] [] pos) ((Txt.split z y).map fun x => R x) := fun σ H s Q k =>
  wE_of (pe_split (wE_ok o) (wE_ok a) hs hbase hline) (ho σ H s _ fun u H1 e1 h1 => ⟨⟨z, h1⟩, ha σ H1 (s.ex e1) _ fun v H2 e2 h2 => ⟨z, y, h1, by rw [show v = V.str y from h2], hy, hz, fun q hq => new_of s (e1.trans e2) hq (by
    generalize Txt.split z y = l
    induction l with
    | nil => trivial
    | cons x l ih => exact ⟨rfl, ih⟩) k⟩⟩)
theorem e_split (ho : DE X ds ms o (R z)) (ha : DE X ds ms a (R y)) (hy : (y.length == 0) = false) (hz : z.length + 2 ≤ sizeLine) (hs : starEach [a] X.env = [(false, eval a X.env)] := by rfl) (hbase : attributeBase o "split" X.env (eval o X.env) = eval o X.env := by rfl) (hline : (apos.endLine == pos.line) = true := by rfl) : DE X ds ms (.Call (.Attribute o "split" apos) [a] [] pos) (R (Txt.split z y)) := e_new (n_split ho ha hy hz hs hbase hline)
/-- z[lo:hi] -/
theorem e_cutS {lo hi : Option Expr} {i j : Option Int} (ha : DE X ds ms a (R z)) (hl : DO X ds ms lo i) (hh : DO X ds ms hi j) (hz : z.length ≤ 1000000) : DE X ds ms (.Subscript a (.Slice lo hi none p2) pos) (R (cutS z i j)) := by
  obtain ⟨t1, o1, k1⟩ := o_run hl
  obtain ⟨t2, o2, k2⟩ := o_run hh
  exact e_of (pe_slice sl_str (wE_ok a) o1 o2) fun σ H s Q k => ha σ H s _ fun v H1 e1 h1 => k1 σ H1 (s.ex e1) _ fun H2 e2 => k2 σ H2 ((s.ex e1).ex e2) _ fun H3 e3 => ⟨z, h1, line_of hz, k _ H3 (e1.trans (e2.trans e3)) rfl⟩
/-- z[i] -/
theorem e_ixS {i : Int} {ch : Nat} (ha : DE X ds ms a (R z)) (hb : DE X ds ms b (R i)) (h : atI z.cps.toList i = some ch) (hz : z.length ≤ 1000000) (hs : PlainIx b := by exact fun _ _ => rfl) : DE X ds ms (.Subscript a b pos) (R (⟨#[ch]⟩ : Str)) :=
  e_of (pe_ix ix_str (wE_ok a) (wE_ok b) hs) fun σ H s Q k => two ha hb s fun x y H1 e1 h1 h2 => ⟨z, i, ch, h1, h2, line_of hz, h, k _ H1 e1 rfl⟩
/-- a sign in a text -/
theorem e_inS {ch : Nat} (ha : DE X ds ms a (R (⟨#[ch]⟩ : Str))) (hb : DE X ds ms b (R z)) (hm : behindInMarks .In b = false := by rfl) : DE X ds ms (.Compare a [.In] [b] pos) (R (decide (ch ∈ z.cps.toList))) :=
  e_cmp op_in_sign ha hb (fun σ H x y s h1 h2 Q k => ⟨ch, z, h1, h2, k _ H (Ex.refl _ _) rfl⟩) hm
/-- a text, sign by sign -/
theorem wk_str {tg : Expr} (h : DE X ds ms e (R z)) : DWk X ds ms tg e ((z.cps.toList.map fun ch => (⟨#[ch]⟩ : Str)).map fun x => R x) := ⟨_, pi_str (wE_ok e), fun σ H s Rr k => h σ H s _ fun v H1 e1 h1 => ⟨z, h1, k _ H1 e1 ⟨_, _, by
  rw [List.length_map, List.length_map, Array.length_toList]
  exact walk_str (z := z), fun _ _ _ => trivial, fun i H2 x H3 d ps hp g y hd => by
  obtain ⟨rfl, ch, h3, rfl⟩ := y
  rw [List.getElem?_map, List.getElem?_map, Array.getElem?_toList, h3] at hd
  cases hd
  exact ⟨Ex.refl _ _, rfl⟩⟩⟩⟩
/-- a + b -/
theorem e_addS (ha : DE X ds ms a (R z)) (hb : DE X ds ms b (R y)) (hz : z.length + y.length ≤ 1000000) : DE X ds ms (.BinOp a .Add b pos) (R (z ++ y)) :=
  e_op op_add_str ha hb fun σ H u v s h1 h2 Q k => ⟨z, y, h1, h2, line_of hz, k _ H (Ex.refl _ _) rfl⟩
/-- f'{e}': ints and texts -/
theorem e_fmtI {i : Int} (ha : DE X ds ms a (R i)) (hi : i.natAbs.log2 < 1920) : DE X ds ms (.FormattedValue a (-1) none pos) (R (sI i)) := e_of (pe_fmt (wE_ok a)) fun σ H s Q k => ha σ H s _ fun v H1 e1 h => .inr ⟨i, h, hi, k _ H1 e1 rfl⟩
theorem e_fmtS (ha : DE X ds ms a (R z)) (hz : z.length ≤ 1000000) : DE X ds ms (.FormattedValue a (-1) none pos) (R z) := e_of (pe_fmt (wE_ok a)) fun σ H s Q k => ha σ H s _ fun v H1 e1 h => .inl ⟨z, h, line_of hz, k _ H1 e1 rfl⟩
theorem e_js2 (ha : DE X ds ms a (R z)) (hb : DE X ds ms b (R y)) (hz : z.length + y.length ≤ 1000000) : DE X ds ms (.JoinedStr [a, b] pos) (R (Str.empty ++ z ++ y)) :=
  e_of (pe_joined (.cons (wE_ok a) (.cons (wE_ok b) .nil))) fun σ H s Q k => ha σ H s _ fun v H1 e1 h1 => ⟨z, h1, by rw [len_tl, tl_append, List.length_append, ← len_tl, ← len_tl]; exact line_of (by have : Str.empty.length = 0 := rfl; omega), hb σ H1 (s.ex e1) _ fun u H2 e2 h2 => ⟨y, h2, by
    rw [len_tl, tl_append, tl_append, List.length_append, List.length_append, ← len_tl, ← len_tl, ← len_tl]
    exact line_of (by have : Str.empty.length = 0 := rfl; omega), k _ H2 (e1.trans e2) rfl⟩⟩
end
theorem empty_app (z y : Str) : Str.empty ++ z ++ y = z ++ y := ext_tl (by rw [tl_append, tl_append, tl_append]; rfl)
end Bh
/-! B10: instances; calls that change cells; calls that only read them. -/
namespace Bh
open PySem PySem.Spec PyProof.Rows L2
/-! ### cells that are known more sharply -/
def mB (c : MC) (o : HO) : MC := ⟨fun G u => u = o ∧ c.p G u, fun s ⟨h1, h2⟩ => ⟨h1, c.mono s h2⟩, fun ⟨_, h2⟩ => c.mu h2⟩
def Inn (ms : MS) (q : Addr) (c : MC) : Prop := ∃ c', (q, c') ∈ ms ∧ ∀ G o, c'.p G o → c.p G o
theorem Inn.of {ms : MS} {q : Addr} {c : MC} (h : (q, c) ∈ ms) : Inn ms q c := ⟨c, h, fun _ _ z => z⟩
theorem Inn.b {ms : MS} {q : Addr} {c : MC} {o : HO} (h : (q, mB c o) ∈ ms) : Inn ms q c := ⟨_, h, fun _ _ z => z.2⟩
theorem Inn.h0 {ms : MS} {q : Addr} {c : MC} : Inn ((q, c) :: ms) q c := .of List.mem_cons_self
theorem Inn.b0 {ms : MS} {q : Addr} {c : MC} {o : HO} : Inn ((q, mB c o) :: ms) q c := .b List.mem_cons_self
theorem Inn.s {ms : MS} {q : Addr} {c : MC} {r : Addr × MC} (h : Inn ms q c) : Inn (r :: ms) q c := let ⟨c', h1, h2⟩ := h; ⟨c', List.mem_cons_of_mem _ h1, h2⟩
theorem Inn.get {ds : Ds} {ms : MS} {q : Addr} {c : MC} (h : Inn ms q c) {σ : L2.St} {H : Hp} (s : Sy ds ms σ H) : q ∈ ads ms ∧ ∃ o, H q = some o ∧ c.p (mi H (ads ms)) o := by
  obtain ⟨c', h1, h2⟩ := h
  obtain ⟨o, h3, h4⟩ := s.ce _ h1
  exact ⟨List.mem_map_of_mem h1, o, h3, h2 _ _ h4⟩
/-- the cells, each known to be the object that h gives -/
def roMs (cs : MS) (h : Addr → HO) : MS := cs.map fun q => (q.1, mB q.2 (h q.1))
theorem ro_ads (cs : MS) (h : Addr → HO) : ads (roMs cs h) = ads cs := by
  show List.map (fun q : Addr × MC => q.1) (List.map (fun q : Addr × MC => (q.1, mB q.2 (h q.1))) cs) = List.map (·.1) cs
  rw [List.map_map]
  rfl
/-! ### instances -/
def FvOk (G : Hp) (fs : List (Str × D)) (vs : List (Str × V)) : Prop := All2 (fun x y => y.1 = x.1 ∧ x.2.p G y.2) fs vs
theorem FvOk.mono {G G' : Hp} {fs : List (Str × D)} {vs : List (Str × V)} (s : Same G G') (h : FvOk G fs vs) : FvOk G' fs vs := h.imp fun x _ q => ⟨q.1, x.2.mono s q.2⟩
theorem fv_get {G : Hp} {f : Str} : ∀ {fs : List (Str × D)} {vs : List (Str × V)}, FvOk G fs vs → match fs.lookup f, vs.lookup f with
    | some d, some v => d.p G v
    | none, none => True
    | _, _ => False
  | [], [], _ => trivial
  | x :: fs, y :: vs, h => by
    have h0 : y.1 = x.1 := h.1.1
    rw [List.lookup_cons, List.lookup_cons, h0]
    cases f == x.1 with
    | true => exact h.1.2
    | false => exact fv_get h.2
  | [], _ :: _, h => h.elim
  | _ :: _, [], h => h.elim
theorem fv_some {G : Hp} {f : Str} {d : D} {fs : List (Str × D)} {vs : List (Str × V)} (h : FvOk G fs vs) (l : fs.lookup f = some d) : ∃ v, vs.lookup f = some v ∧ d.p G v := by
  have := fv_get (f := f) h
  rw [l] at this
  cases e : vs.lookup f with
  | none => rw [e] at this; exact this.elim
  | some v => rw [e] at this; exact ⟨v, rfl, this⟩
theorem fv_none {G : Hp} {f : Str} {fs : List (Str × D)} {vs : List (Str × V)} (h : FvOk G fs vs) (l : fs.lookup f = none) : vs.lookup f = none := by
  have := fv_get (f := f) h
  rw [l] at this
  cases e : vs.lookup f with
  | none => rfl
  | some v => rw [e] at this; exact this.elim
def putD (f : Str) (d : D) : List (Str × D) → List (Str × D)
  | [] => [(f, d)]
  | (g, x) :: r => if g = f then (g, d) :: r else (g, x) :: putD f d r
theorem fv_put {G : Hp} {f : Str} {d : D} {v : V} (hv : d.p G v) : ∀ {fs : List (Str × D)} {vs : List (Str × V)}, FvOk G fs vs → FvOk G (putD f d fs) (putF f v vs)
  | [], [], _ => ⟨⟨rfl, hv⟩, trivial⟩
  | (g, x) :: fs, (g', y) :: vs, h => by
    have h0 : g' = g := h.1.1
    subst h0
    show FvOk G (if g' = f then (g', d) :: fs else (g', x) :: putD f d fs) (if g' = f then (g', v) :: vs else (g', y) :: putF f v vs)
    by_cases e : g' = f
    · rw [if_pos e, if_pos e]
      exact ⟨⟨rfl, hv⟩, h.2⟩
    · rw [if_neg e, if_neg e]
      exact ⟨h.1, fv_put hv h.2⟩
  | [], _ :: _, h => h.elim
  | _ :: _, [], h => h.elim
def mI (C : Addr) (fs : List (Str × D)) : MC := ⟨fun G o => ∃ dx vs, o = .ins C dx vs ∧ FvOk G fs vs, fun s ⟨dx, vs, h1, h2⟩ => ⟨dx, vs, h1, h2.mono s⟩, fun ⟨dx, vs, h1, _⟩ => by rw [h1]; trivial⟩
def dI (C : Addr) (fs : List (Str × D)) : D := ⟨fun G v => ∃ a dx vs, v = .ref a ∧ G a = some (.ins C dx vs) ∧ FvOk G fs vs, fun s ⟨a, dx, vs, h0, h1, h2⟩ => ⟨a, dx, vs, h0, s _ _ h1, h2.mono s⟩⟩
/-- an own class: where it stands; its attributes by name -/
structure Kls (K : PySem.W.Frag) (C : Addr) (fs : List Str) : Prop where
  c : Cls K C
  na : ∀ f ∈ fs, NoAttr K C f
structure HasM (P : Program) (w : World) (K : PySem.W.Frag) (mg : Str → Option Value) (base : Heap) {A : Type} (C : Addr) (x : Str) (k : Nat) (S : Spec A) : Prop where
  c : Cls K C
  h : ∃ (f : Addr) (fd : FuncData) (ps : List Str), Meth K C x f ∧ Binds K fd ps [] ∧ FnOk P w K mg base CX0 k f fd ps (spOf S)
abbrev HasMX (X : Cx) {A : Type} (C : Addr) (x : Str) (k : Nat) (S : Spec A) : Prop := HasM X.prog X.w X.K X.mg X.base C x k S
structure HasP (P : Program) (w : World) (K : PySem.W.Frag) (mg : Str → Option Value) (base : Heap) {A : Type} (C : Addr) (x : Str) (k : Nat) (S : Spec A) : Prop where
  c : Cls K C
  h : ∃ (p f : Addr) (fd : FuncData) (ps : List Str), PropOf K C x p f ∧ Binds K fd ps [] ∧ FnOk P w K mg base CX0 k f fd ps (spOf S)
abbrev HasPX (X : Cx) {A : Type} (C : Addr) (x : Str) (k : Nat) (S : Spec A) : Prop := HasP X.prog X.w X.K X.mg X.base C x k S
structure HasC (P : Program) (w : World) (K : PySem.W.Frag) (mg : Str → Option Value) (base : Heap) {A : Type} (x : Str) (C : Addr) (k : Nat) (S : Spec A) : Prop where
  h : ∃ (f : Addr) (fd : FuncData) (ps : List Str), mg x = some (.ref C) ∧ Mk K C f ∧ Binds K fd ps [] ∧ FnOk P w K mg base CX0 k f fd ps (spOf S)
abbrev HasCX (X : Cx) {A : Type} (x : Str) (C : Addr) (k : Nat) (S : Spec A) : Prop := HasC X.prog X.w X.K X.mg X.base x C k S

section
variable {X : Cx} {ds : Ds} {ms : MS} {σ : L2.St} {H H' : Hp} {e o a b c : Expr} {es : List Expr} {rest : List Stmt} {d da db : D} {dl : List D} {K : D → MS → Prop} {E : SE} {pos p apos cpos : Pos} {q C : Addr} {fs : List (Str × D)} {f x m : Str}
/-- o.f, an instance that is a cell -/
theorem e_fld (c : Cls X.K C) (ho : DE X ds ms o (dAt q)) (hm : Inn ms q (mI C fs)) (l : fs.lookup f = some d) (n : NoAttr X.K C f) (hb : attributeBase o f X.env (eval o X.env) = eval o X.env := by rfl) : DE X ds ms (.Attribute o f pos) d :=
  e_of (pe_fld (wE_ok o) hb) fun σ H s Q k => ho σ H s _ fun v H1 e1 h1 => by
    obtain ⟨_, ob, h2, dx, vs, h3, h4⟩ := hm.get (s.ex e1)
    obtain ⟨u, h5, h6⟩ := fv_some h4 l
    subst h3
    exact ⟨q, C, dx, vs, u, h1, h2, c, n, h5, k u H1 e1 h6⟩
/-- o.f, an instance for good -/
theorem e_fldI (c : Cls X.K C) (ho : DE X ds ms o (dI C fs)) (l : fs.lookup f = some d) (n : NoAttr X.K C f) (hb : attributeBase o f X.env (eval o X.env) = eval o X.env := by rfl) : DE X ds ms (.Attribute o f pos) d :=
  e_of (pe_fld (wE_ok o) hb) fun σ H s Q k => ho σ H s _ fun v H1 e1 ⟨a, dx, vs, h0, h3, h4⟩ => by
    obtain ⟨u, h5, h6⟩ := fv_some h4 l
    exact ⟨a, C, dx, vs, u, h0, mi_sub _ _ h3, c, n, h5, k u H1 e1 h6⟩
/-- o.f = e -/
theorem d_setF (k : Nat) {pos' : Pos} (c : Cls X.K C) (n : NoAttr X.K C f) (he : DI X ds ms e fun d m => ∃ fs, DE X ds m o (dAt q) ∧ m[k]? = some (q, mI C fs) ∧ fs.length < 1000 ∧ DS X ds (m.set k (q, mI C (putD f d fs))) rest E)
    (hs : swapsWith e (some (.Attribute o f pos')) pos.line X.env = pure false := by rfl) : DS X ds ms (.Assign [.Attribute o f pos'] e pos :: rest) E := d_cons fun G0 σ H s => wS_of (ps_fld (wE_ok o) (wE_ok e) hs) (he σ H s.s _ fun d m v H1 ⟨fs, q1, q2, q3, q4⟩ s1 g1 p1 =>
  q1 σ H1 s1 _ fun u H2 e2 h2 => by
    have s2 := s1.ex e2
    obtain ⟨ob, h3, dx, vs, h4, h5⟩ := s2.ce _ (List.mem_of_getElem? q2)
    subst h4
    obtain ⟨s3, g3⟩ := sy_put s2 q2 (c' := mI C (putD f d fs)) (ob := .ins C dx (putF f v vs)) ⟨dx, _, rfl, fv_put (d.mono e2.g p1) h5⟩
    exact ⟨q, C, dx, vs, h2, h3, c, n, by rw [← h5.len]; exact q3, _, _, q4, s3, s.a.trans (g1.trans (e2.g.trans g3))⟩)
theorem sy_call {rest : MS} {m ms' : MS} {H1 H2 : Hp} {d : D} {v : V} (s : Sy ds m σ H1) (nd : (ads (ms' ++ rest)).Nodup) (g : Same (mi H1 (ads m)) (mi H2 (ads (ms' ++ rest)))) (ce : Ce (ms' ++ rest) (mi H2 (ads (ms' ++ rest))) H2) : Sy ds (ms' ++ rest) σ H2 :=
  ⟨fun i d h hl => let ⟨v, h1, h2⟩ := s.sl i d h hl; ⟨v, h1, d.mono g h2⟩, nd, ce⟩
/-- f(e, ..) in general -/
theorem i_call {A : Type} {S : Spec A} {k : Nat} (h : HasX X x k S) (hr : Room k X.A) (ha : DAi X ds ms (e :: es) fun dl m => ∃ (a : A) (rest : MS), S.args a = dl ∧ (S.ms a ++ rest).Perm m ∧ S.pre a ∧ ∀ d m2, S.post a d m2 → K d (m2 ++ rest))
    (hg : Gl X x := by rfl) (hdb : (x == ("__debug__" : Str)) = false := by decide) (he : starEach (e :: es) X.env = (false, eval e X.env) :: starEach es X.env := by rfl) (hpl : (backTo pos (starEach es X.env)).any (·.1) = false := by rfl) :
    DI X ds ms (.Call (.Name x p) (e :: es) [] pos) K := fun σ H s Q hQ => by
  obtain ⟨f, fd, ps, hm, hk, hb, F⟩ := h.h
  refine wE_of (pe_call F hr hg hm hk hb .nil pass0 (wA_ok _) hdb he hpl) ?_
  refine ha σ H s _ fun dl m vs H1 ⟨a, rest, h1, h2, h3, h4⟩ s1 g1 hv => ?_
  rw [List.append_nil]
  subst h1
  exact sp_of_state (ms := m) a h3 h2 s1.nd s1.ce hv fun d m2 v H2 k1 k2 k3 k4 k5 k6 => hQ d _ v H2 (h4 d m2 k1) (sy_call (d := d) (v := v) s1 k2 k3 k4) (g1.trans k3) k6
theorem i_call0 {A : Type} {S : Spec A} {k : Nat} (h : HasX X x k S) (hr : Room k X.A) (a : A) (rest : MS) (h1 : S.args a = []) (h2 : (S.ms a ++ rest).Perm ms) (h3 : S.pre a) (h4 : ∀ d m2, S.post a d m2 → K d (m2 ++ rest))
    (hg : Gl X x := by rfl) (hdb : (x == ("__debug__" : Str)) = false := by decide) : DI X ds ms (.Call (.Name x p) [] [] pos) K := fun σ H s Q hQ => by
  obtain ⟨f, fd, ps, hm, hk, hb, F⟩ := h.h
  refine wE_of (pe_call0 F hr hg hm hk hb .nil pass0 hdb) ?_
  exact sp_of_state (E := E0) (ms := ms) (vs := []) a h3 h2 s.nd s.ce (by rw [h1]; trivial) fun d m2 v H2 k1 k2 k3 k4 k5 k6 => hQ d _ v H2 (h4 d m2 k1) (sy_call (d := d) (v := v) s k2 k3 k4) k3 k6
/-- o.m(e, ..), the instance a cell -/
theorem i_meth {A : Type} {S : Spec A} {k : Nat} (h : HasMX X C m k S) (hr : Room k X.A) (ho : DE X ds ms o (dAt q)) (hm : Inn ms q (mI C fs)) (l : fs.lookup m = none)
    (ha : DAi X ds ms (e :: es) fun dl m => ∃ (a : A) (rest : MS), S.args a = dAt q :: dl ∧ (S.ms a ++ rest).Perm m ∧ S.pre a ∧ ∀ d m2, S.post a d m2 → K d (m2 ++ rest))
    (hst : starEach (e :: es) X.env = (false, eval e X.env) :: starEach es X.env := by rfl) (hpl : (backTo pos (starEach es X.env)).any (·.1) = false := by rfl) {pl : Sem Bool}
    (ht : eval (.Call (.Attribute o m apos) (e :: es) [] pos) X.env = (do
      let ov ← eval o X.env
      standAt apos.atName
      let (f, first) ← holding [ov] (getMethod ov m pl)
      callWith pos f first (backTo pos (starEach (e :: es) X.env)) (backToKw pos (keywordEach [] X.env))) := by rfl) :
    DI X ds ms (.Call (.Attribute o m apos) (e :: es) [] pos) K := fun σ H s Q hQ => by
  obtain ⟨f, fd, ps, hM, hb, F⟩ := h.h
  refine wE_of (pe_meth (wE_ok o) h.c hM F hr hb .nil pass0 (wA_ok _) hst hpl ht) ?_
  refine ho σ H s _ fun v H0 e0 h0 => ?_
  have s0 := s.ex e0
  obtain ⟨_, ob, i1, dx, vs, i2, i3⟩ := hm.get s0
  subst i2
  refine ⟨q, dx, vs, h0, i1, fv_none i3 l, ?_⟩
  refine ha σ H0 s0 _ fun dl m vs H1 ⟨a, rest, h1, h2, h3, h4⟩ s1 g1 hv => ?_
  rw [List.append_nil]
  exact sp_of_state (ms := m) a h3 h2 s1.nd s1.ce (by rw [h1]; exact ⟨h0, hv⟩) fun d m2 v H2 k1 k2 k3 k4 k5 k6 => hQ d _ v H2 (h4 d m2 k1) (sy_call (d := d) (v := v) s1 k2 k3 k4) (e0.g.trans (g1.trans k3)) k6
theorem i_meth0 {A : Type} {S : Spec A} {k : Nat} (h : HasMX X C m k S) (hr : Room k X.A) (ho : DE X ds ms o (dAt q)) (hm : Inn ms q (mI C fs)) (l : fs.lookup m = none)
    (a : A) (rest : MS) (h1 : S.args a = [dAt q]) (h2 : (S.ms a ++ rest).Perm ms) (h3 : S.pre a) (h4 : ∀ d m2, S.post a d m2 → K d (m2 ++ rest)) {pl : Sem Bool}
    (ht : eval (.Call (.Attribute o m apos) [] [] pos) X.env = (do
      let ov ← eval o X.env
      standAt apos.atName
      let (f, first) ← holding [ov] (getMethod ov m pl)
      callWith pos f first (backTo pos (starEach [] X.env)) (backToKw pos (keywordEach [] X.env))) := by rfl) :
    DI X ds ms (.Call (.Attribute o m apos) [] [] pos) K := fun σ H s Q hQ => by
  obtain ⟨f, fd, ps, hM, hb, F⟩ := h.h
  refine wE_of (pe_meth0 (wE_ok o) h.c hM F hr hb .nil pass0 ht) ?_
  refine ho σ H s _ fun v H0 e0 h0 => ?_
  have s0 := s.ex e0
  obtain ⟨_, ob, i1, dx, vs, i2, i3⟩ := hm.get s0
  subst i2
  refine ⟨q, dx, vs, h0, i1, fv_none i3 l, ?_⟩
  exact sp_of_state (E := E0) (ms := ms) (vs := [v]) a h3 h2 s0.nd s0.ce (by rw [h1]; exact ⟨h0, trivial⟩) fun d m2 v H2 k1 k2 k3 k4 k5 k6 => hQ d _ v H2 (h4 d m2 k1) (sy_call (d := d) (v := v) s0 k2 k3 k4) (e0.g.trans k3) k6
/-- o.m(e, ..), the instance for good, one result -/
theorem e_methI {A : Type} {S : Spec A} {k : Nat} (h : HasMX X C m k S) (hr : Room k X.A) (ho : DE X ds ms o (dI C fs)) (l : fs.lookup m = none) (a : A) (hms : S.ms a = []) (hpost : ∀ d' m, S.post a d' m → d' = d) (hargs : S.args a = dI C fs :: dl) (ha : DA X ds ms (e :: es) dl) (pre : S.pre a)
    (hst : starEach (e :: es) X.env = (false, eval e X.env) :: starEach es X.env := by rfl) (hpl : (backTo pos (starEach es X.env)).any (·.1) = false := by rfl) {pl : Sem Bool}
    (ht : eval (.Call (.Attribute o m apos) (e :: es) [] pos) X.env = (do
      let ov ← eval o X.env
      standAt apos.atName
      let (f, first) ← holding [ov] (getMethod ov m pl)
      callWith pos f first (backTo pos (starEach (e :: es) X.env)) (backToKw pos (keywordEach [] X.env))) := by rfl) :
    DE X ds ms (.Call (.Attribute o m apos) (e :: es) [] pos) d := fun σ H s Q hQ => by
  obtain ⟨f, fd, ps, hM, hb, F⟩ := h.h
  refine wE_of (pe_meth (wE_ok o) h.c hM F hr hb .nil pass0 (wA_ok _) hst hpl ht) ?_
  refine ho σ H s _ fun v H0 e0 ⟨a1, dx, vs, i0, i1, i3⟩ => ?_
  have s0 := s.ex e0
  subst i0
  refine ⟨a1, dx, vs, rfl, mi_sub _ _ i1, fv_none i3 l, ?_⟩
  refine ha σ H0 s0 _ fun vs1 H1 e1 hv => ?_
  have s1 := s0.ex e1
  rw [List.append_nil]
  refine sp_of_state (ms := ms) (rest := ms) a pre (by rw [hms]; exact .refl _) s1.nd s1.ce (by rw [hargs]; exact ⟨⟨a1, dx, vs, rfl, e1.g _ _ i1, i3.mono e1.g⟩, hv⟩) fun d' m v H2 k1 k2 k3 k4 k5 k6 => ?_
  obtain rfl := hpost d' _ k1
  have e : Same (mi H2 (ads (m ++ ms))) (mi H2 (ads ms)) := mi_less fun b hb => by
    show b ∈ (m ++ ms).map (·.1)
    rw [List.map_append]; exact List.mem_append_right _ hb
  exact hQ v H2 ((e0.trans e1).trans ⟨k3.trans e, k5⟩) (d'.mono e k6)
/-- the call's cells are told exactly, it leaves them -/
theorem sp_ro {A : Type} {S : Spec A} (cs rest : MS) (hp : (cs ++ rest).Perm ms) (s : Sy ds ms σ H) {vs : List V} {Q : VK} {E : XK}
    (h : ∀ g : Addr → HO, ∃ a, S.ms a = roMs cs g ∧ S.args a = dl ∧ S.pre a ∧ ∀ d' m, S.post a d' m → d' = d ∧ ∃ m1, m = roMs cs g ++ m1)
    (hv : All2 (fun (d : D) u => d.p (mi H (ads ms)) u) dl vs) (hQ : ∀ v H', Ex (ads ms) H H' → d.p (mi H' (ads ms)) v → Q v H') : spOf S vs H Q E := by
  obtain ⟨a, h1, h2, h3, h4⟩ := h fun p => (H p).getD (.lst [])
  have hin : ∀ q ∈ cs, ∃ o, H q.1 = some o ∧ q.2.p (mi H (ads ms)) o := fun q hq => s.ce q (hp.mem_iff.mp (List.mem_append_left _ hq))
  let ms2 : MS := roMs cs (fun p => (H p).getD (.lst [])) ++ rest
  have ea : ads ms2 = ads (cs ++ rest) := by
    show (roMs cs _ ++ rest).map (·.1) = (cs ++ rest).map (·.1)
    rw [List.map_append, List.map_append]
    exact congrArg (· ++ ads rest) (ro_ads cs _)
  have hpa : (ads (cs ++ rest)).Perm (ads ms) := hp.map _
  have em : mi H (ads ms2) = mi H (ads ms) := by
    rw [ea]
    funext b
    unfold mi
    simp only [hpa.mem_iff]
  refine sp_of_state (ms := ms2) (rest := rest) a h3 (by rw [h1]) (by rw [ea]; exact hpa.nodup_iff.mpr s.nd) (fun q hq => ?_) (by rw [em, h2]; exact hv) fun d' m v H2 k1 k2 k3 k4 k5 k6 => ?_
  · rw [em]
    rcases List.mem_append.mp hq with hq | hq
    · obtain ⟨r, hr, rfl⟩ := List.mem_map.mp hq
      obtain ⟨o, i1, i2⟩ := hin r hr
      refine ⟨o, i1, ?_, i2⟩
      show o = (H r.1).getD _
      rw [i1]
      rfl
    · exact s.ce q (hp.mem_iff.mp (List.mem_append_right _ hq))
  · obtain ⟨rfl, m1, rfl⟩ := h4 d' m k1
    have hsub : ∀ b ∈ ads ms, b ∈ ads (roMs cs (fun p => (H p).getD (.lst [])) ++ m1 ++ rest) := fun b hb => by
      have hb2 := hpa.mem_iff.mpr hb
      show b ∈ (roMs cs _ ++ m1 ++ rest).map (·.1)
      rw [List.map_append, List.map_append]
      have hb3 : b ∈ cs.map (·.1) ++ rest.map (·.1) := by rw [← List.map_append]; exact hb2
      rcases List.mem_append.mp hb3 with z | z
      · exact List.mem_append_left _ (List.mem_append_left _ (by rw [show (roMs cs _).map (·.1) = ads cs from ro_ads cs _]; exact z))
      · exact List.mem_append_right _ z
    have e : Same (mi H2 (ads (roMs cs (fun p => (H p).getD (.lst [])) ++ m1 ++ rest))) (mi H2 (ads ms)) := mi_less hsub
    refine hQ v H2 ⟨?_, fun b hb => ?_⟩ (d'.mono e k6)
    · rw [em] at k3
      exact k3.trans e
    · have hb3 : b ∈ cs.map (·.1) ++ rest.map (·.1) := by rw [← List.map_append]; exact hpa.mem_iff.mpr hb
      rcases List.mem_append.mp hb3 with z | z
      · obtain ⟨r, hr, rfl⟩ := List.mem_map.mp z
        obtain ⟨o, i1, i2⟩ := k4 (r.1, mB r.2 ((H r.1).getD (.lst []))) (List.mem_append_left _ (List.mem_append_left _ (List.mem_map_of_mem (f := fun q : Addr × MC => (q.1, mB q.2 ((H q.1).getD (.lst [])))) hr)))
        obtain ⟨o2, j1, _⟩ := hin r hr
        have i3 : o = (H r.1).getD (.lst []) := i2.1
        rw [j1] at i3 ⊢
        rw [i1, i3]
        rfl
      · exact k5 b z
/-- o.m(e, ..), that only reads -/
theorem e_methR {A : Type} {S : Spec A} {k : Nat} (h : HasMX X C m k S) (hr : Room k X.A) (ho : DE X ds ms o (dAt q)) (hm : Inn ms q (mI C fs)) (l : fs.lookup m = none) (cs rest : MS) (hp : (cs ++ rest).Perm ms)
    (hS : ∀ g : Addr → HO, ∃ a, S.ms a = roMs cs g ∧ S.args a = dAt q :: dl ∧ S.pre a ∧ ∀ d' m, S.post a d' m → d' = d ∧ ∃ m1, m = roMs cs g ++ m1) (ha : DA X ds ms (e :: es) dl)
    (hst : starEach (e :: es) X.env = (false, eval e X.env) :: starEach es X.env := by rfl) (hpl : (backTo pos (starEach es X.env)).any (·.1) = false := by rfl) {pl : Sem Bool}
    (ht : eval (.Call (.Attribute o m apos) (e :: es) [] pos) X.env = (do
      let ov ← eval o X.env
      standAt apos.atName
      let (f, first) ← holding [ov] (getMethod ov m pl)
      callWith pos f first (backTo pos (starEach (e :: es) X.env)) (backToKw pos (keywordEach [] X.env))) := by rfl) :
    DE X ds ms (.Call (.Attribute o m apos) (e :: es) [] pos) d := fun σ H s Q hQ => by
  obtain ⟨f, fd, ps, hM, hb, F⟩ := h.h
  refine wE_of (pe_meth (wE_ok o) h.c hM F hr hb .nil pass0 (wA_ok _) hst hpl ht) ?_
  refine ho σ H s _ fun v H0 e0 h0 => ?_
  have s0 := s.ex e0
  obtain ⟨_, ob, i1, dx, vs, i2, i3⟩ := hm.get s0
  subst i2
  refine ⟨q, dx, vs, h0, i1, fv_none i3 l, ?_⟩
  refine ha σ H0 s0 _ fun vs1 H1 e1 hv => ?_
  rw [List.append_nil]
  exact sp_ro cs rest hp (s0.ex e1) hS ⟨h0, hv⟩ fun v H2 e2 h2 => hQ v H2 ((e0.trans e1).trans e2) h2
theorem e_methR0 {A : Type} {S : Spec A} {k : Nat} (h : HasMX X C m k S) (hr : Room k X.A) (ho : DE X ds ms o (dAt q)) (hm : Inn ms q (mI C fs)) (l : fs.lookup m = none) (cs rest : MS) (hp : (cs ++ rest).Perm ms)
    (hS : ∀ g : Addr → HO, ∃ a, S.ms a = roMs cs g ∧ S.args a = [dAt q] ∧ S.pre a ∧ ∀ d' m, S.post a d' m → d' = d ∧ ∃ m1, m = roMs cs g ++ m1) {pl : Sem Bool}
    (ht : eval (.Call (.Attribute o m apos) [] [] pos) X.env = (do
      let ov ← eval o X.env
      standAt apos.atName
      let (f, first) ← holding [ov] (getMethod ov m pl)
      callWith pos f first (backTo pos (starEach [] X.env)) (backToKw pos (keywordEach [] X.env))) := by rfl) :
    DE X ds ms (.Call (.Attribute o m apos) [] [] pos) d := fun σ H s Q hQ => by
  obtain ⟨f, fd, ps, hM, hb, F⟩ := h.h
  refine wE_of (pe_meth0 (wE_ok o) h.c hM F hr hb .nil pass0 ht) ?_
  refine ho σ H s _ fun v H0 e0 h0 => ?_
  have s0 := s.ex e0
  obtain ⟨_, ob, i1, dx, vs, i2, i3⟩ := hm.get s0
  subst i2
  refine ⟨q, dx, vs, h0, i1, fv_none i3 l, ?_⟩
  exact sp_ro (E := E0) (vs := [v]) cs rest hp s0 hS ⟨h0, trivial⟩ fun v H2 e2 h2 => hQ v H2 (e0.trans e2) h2
/-- o.f, a property that only reads -/
theorem e_prop {A : Type} {S : Spec A} {k : Nat} (h : HasPX X C m k S) (hr : Room (k + 1) X.A) (ho : DE X ds ms o (dAt q)) (hm : Inn ms q (mI C fs)) (cs rest : MS) (hp : (cs ++ rest).Perm ms)
    (hS : ∀ g : Addr → HO, ∃ a, S.ms a = roMs cs g ∧ S.args a = [dAt q] ∧ S.pre a ∧ ∀ d' m, S.post a d' m → d' = d ∧ ∃ m1, m = roMs cs g ++ m1)
    (hab : attributeBase o m X.env (eval o X.env) = eval o X.env := by rfl) : DE X ds ms (.Attribute o m pos) d := fun σ H s Q hQ => by
  obtain ⟨pp, f, fd, ps, hM, hb, F⟩ := h.h
  refine wE_of (pe_prop (wE_ok o) h.c hM F hr hb .nil pass0 hab) ?_
  refine ho σ H s _ fun v H0 e0 h0 => ?_
  have s0 := s.ex e0
  obtain ⟨_, ob, i1, dx, vs, i2, i3⟩ := hm.get s0
  subst i2
  refine ⟨q, dx, vs, h0, i1, ?_⟩
  exact sp_ro (E := E0) (vs := [.ref q]) cs rest hp s0 hS ⟨rfl, trivial⟩ fun v H2 e2 h2 => hQ v H2 (e0.trans e2) h2
theorem sy_made {m : MS} (s : Sy ds m σ H) {x dx : Addr} (nx : H x = none) (nd : H dx = none) (ne : dx ≠ x) :
    Sy ds ((x, mI C []) :: m) σ (upd (upd H dx (.own x)) x (.ins C dx [])) ∧ Same (mi H (ads m)) (mi (upd (upd H dx (.own x)) x (.ins C dx [])) (x :: ads m)) := by
  have hx : x ∉ ads m := fun z => s.ce.there z nx
  have hd : dx ∉ ads m := fun z => s.ce.there z nd
  have g : Same (mi H (ads m)) (mi (upd (upd H dx (.own x)) x (.ins C dx [])) (x :: ads m)) := fun b u h => by
    obtain ⟨h1, h2, h3⟩ := mi_some h
    have bx : b ≠ x := ne_of_none h2 nx
    have bd : b ≠ dx := ne_of_none h2 nd
    refine mi_of (by rw [upd_ne bx, upd_ne bd]; exact h2) (fun z => ?_) h3
    rcases List.mem_cons.mp z with z | z
    · exact bx z
    · exact h1 z
  refine ⟨⟨fun i d h hl => let ⟨v, h1, h2⟩ := s.sl i d h hl; ⟨v, h1, d.mono g h2⟩, List.nodup_cons.mpr ⟨hx, s.nd⟩, fun r hr => ?_⟩, g⟩
  rcases List.mem_cons.mp hr with z | z
  · subst z
    exact ⟨_, upd_same, dx, [], rfl, trivial⟩
  · obtain ⟨ob, h1, h2⟩ := s.ce r z
    have hm : r.1 ∈ ads m := List.mem_map_of_mem z
    exact ⟨ob, by rw [upd_ne (fun e => hx (by rw [← e]; exact hm)), upd_ne (fun e => hd (by rw [← e]; exact hm))]; exact h1, r.2.mono g h2⟩
/-- C(e, ..) -/
theorem i_make {A : Type} {S : Spec A} {k : Nat} (h : HasCX X x C k S) (hr : Room (k + 1) X.A) (ha : DAi X ds ms (e :: es) fun dl m => ∀ q, ∃ (a : A) (rest : MS), S.args a = dAt q :: dl ∧ (S.ms a ++ rest).Perm ((q, mI C []) :: m) ∧ S.pre a ∧ ∀ d m2, S.post a d m2 → d = R () ∧ K (dAt q) (m2 ++ rest))
    (hg : Gl X x := by rfl) (hdb : (x == ("__debug__" : Str)) = false := by decide) (he : starEach (e :: es) X.env = (false, eval e X.env) :: starEach es X.env := by rfl) (hpl : (backTo pos (starEach es X.env)).any (·.1) = false := by rfl) :
    DI X ds ms (.Call (.Name x p) (e :: es) [] pos) K := fun σ H s Q hQ => by
  obtain ⟨f, fd, ps, hm, hM, hb, F⟩ := h.h
  refine wE_of (pe_make hM F hr hg hm hb .nil pass0 (wA_ok _) hdb he hpl) ?_
  refine ha σ H s _ fun dl m vs H1 hA s1 g1 hv => ?_
  intro y dx ny nd ne
  obtain ⟨a, rest, h1, h2, h3, h4⟩ := hA y
  obtain ⟨s2, g2⟩ := sy_made (C := C) s1 ny nd ne
  rw [List.append_nil]
  refine sp_of_state (ms := (y, mI C []) :: m) a h3 h2 s2.nd s2.ce (by rw [h1]; exact ⟨rfl, hv.imp fun d _ z => d.mono g2 z⟩) fun d m2 v H2 k1 k2 k3 k4 k5 k6 => ?_
  obtain ⟨rfl, hK⟩ := h4 d m2 k1
  exact ⟨k6, hQ _ _ _ H2 hK (sy_call (d := R ()) (v := v) s2 k2 k3 k4) (g1.trans (g2.trans k3)) rfl⟩
theorem i_make0 {A : Type} {S : Spec A} {k : Nat} (h : HasCX X x C k S) (hr : Room (k + 1) X.A) (ha : ∀ q, ∃ (a : A) (rest : MS), S.args a = [dAt q] ∧ (S.ms a ++ rest).Perm ((q, mI C []) :: ms) ∧ S.pre a ∧ ∀ d m2, S.post a d m2 → d = R () ∧ K (dAt q) (m2 ++ rest))
    (hg : Gl X x := by rfl) (hdb : (x == ("__debug__" : Str)) = false := by decide) : DI X ds ms (.Call (.Name x p) [] [] pos) K := fun σ H s Q hQ => by
  obtain ⟨f, fd, ps, hm, hM, hb, F⟩ := h.h
  refine wE_of (pe_make0 hM F hr hg hm hb .nil pass0 hdb) ?_
  intro y dx ny nd ne
  obtain ⟨a, rest, h1, h2, h3, h4⟩ := ha y
  obtain ⟨s2, g2⟩ := sy_made (C := C) s ny nd ne
  refine sp_of_state (E := E0) (ms := (y, mI C []) :: ms) (vs := [.ref y]) a h3 h2 s2.nd s2.ce (by rw [h1]; exact ⟨rfl, trivial⟩) fun d m2 v H2 k1 k2 k3 k4 k5 k6 => ?_
  obtain ⟨rfl, hK⟩ := h4 d m2 k1
  exact ⟨k6, hQ _ _ _ H2 hK (sy_call (d := R ()) (v := v) s2 k2 k3 k4) (g2.trans k3) rfl⟩

/-! ### cells that change no more -/
/-- a state said otherwise -/
structure To (ms ms' : MS) : Prop where
  h : ∀ H, (ads ms).Nodup → Ce ms (mi H (ads ms)) H → (ads ms').Nodup ∧ Same (mi H (ads ms)) (mi H (ads ms')) ∧ Ce ms' (mi H (ads ms')) H
theorem To.refl (ms : MS) : To ms ms := ⟨fun H n c => ⟨n, Same.refl _, c⟩⟩
theorem To.trans {a b c : MS} (x : To a b) (y : To b c) : To a c := ⟨fun H n ce => by
  obtain ⟨h1, h2, h3⟩ := x.h H n ce
  obtain ⟨h4, h5, h6⟩ := y.h H h1 h3
  exact ⟨h4, h2.trans h5, h6⟩⟩
theorem To.perm {ms ms' : MS} (h : ms'.Perm ms) : To ms ms' := ⟨fun H n c => by
  have w : Wk [] ms [] ms' := .perm h
  obtain ⟨s, e⟩ := w.sy (σ := []) (H := H) ⟨fun i d h _ => (by cases h), n, c⟩
  exact ⟨s.nd, e, s.ce⟩⟩
theorem To.less {ms ms' : MS} (h : ms'.Sublist ms) : To ms ms' := ⟨fun H n c => by
  have w : Wk [] ms [] ms' := .cells h
  obtain ⟨s, e⟩ := w.sy (σ := []) (H := H) ⟨fun i d h _ => (by cases h), n, c⟩
  exact ⟨s.nd, e, s.ce⟩⟩
/-- the cell p is frozen; r is told anew by what p is -/
theorem To.frz {p r : Addr} {c k k' : MC} {ms : MS} (h : ∀ G o u, G p = some o → c.p G o → k.p G u → k'.p G u) : To ((p, c) :: (r, k) :: ms) ((r, k') :: ms) := ⟨fun H n ce => by
  have n2 := (List.nodup_cons.mp n)
  have e : Same (mi H (p :: r :: ads ms)) (mi H (r :: ads ms)) := mi_less fun a h => List.mem_cons_of_mem _ h
  refine ⟨n2.2, e, fun q hq => ?_⟩
  obtain ⟨o1, h1, h2⟩ := ce (p, c) List.mem_cons_self
  have hp : mi H (r :: ads ms) p = some o1 := mi_of h1 n2.1 fun x z => by
    have := c.mu h2
    rw [z] at this
    exact this
  rcases List.mem_cons.mp hq with z | z
  · subst z
    obtain ⟨o2, h3, h4⟩ := ce (r, k) (List.mem_cons_of_mem _ List.mem_cons_self)
    exact ⟨o2, h3, h _ o1 o2 hp (c.mono e h2) (k.mono e h4)⟩
  · obtain ⟨o2, h3, h4⟩ := ce q (List.mem_cons_of_mem _ (List.mem_cons_of_mem _ z))
    exact ⟨o2, h3, q.2.mono e h4⟩⟩
theorem To.sy {ms ms' : MS} (t : To ms ms') (s : Sy ds ms σ H) : Sy ds ms' σ H ∧ Same (mi H (ads ms)) (mi H (ads ms')) := by
  obtain ⟨h1, h2, h3⟩ := t.h H s.nd s.ce
  exact ⟨⟨fun i d h hl => let ⟨v, q1, q2⟩ := s.sl i d h hl; ⟨v, q1, d.mono h2 q2⟩, h1, h3⟩, h2⟩
theorem d_to {ms' : MS} {sts : List Stmt} (t : To ms ms') (h : DS X ds ms' sts E) : DS X ds ms sts E := fun G0 σ H s => by
  obtain ⟨s2, g⟩ := t.sy s.s
  exact h G0 σ H ⟨s2, s.a.trans g⟩
theorem i_to {K' : D → MS → Prop} (h : DI X ds ms e K') (hk : ∀ d m, K' d m → ∃ m', To m m' ∧ K d m') : DI X ds ms e K := fun σ H s Q k => h σ H s Q fun d m v H1 q s1 g1 p1 => by
  obtain ⟨m', t, q2⟩ := hk d m q
  obtain ⟨s2, g2⟩ := t.sy s1
  exact k d m' v H1 q2 s2 (g1.trans g2) (d.mono g2 p1)
/-- a value that is the cell at the head, frozen -/
theorem i_frz {K' : D → MS → Prop} (h : DI X ds ms e K') (hk : ∀ d m, K' d m → ∃ q c d' m', d = dAt q ∧ m = (q, c) :: m' ∧ (∀ G o, G q = some o → c.p G o → d'.p G (.ref q)) ∧ K d' m') : DI X ds ms e K := fun σ H s Q k => h σ H s Q fun d m v H1 q0 s1 g1 p1 => by
  obtain ⟨q, c, d', m', rfl, rfl, h1, h2⟩ := hk d m q0
  obtain ⟨s2, g2⟩ := (To.less (ms := (q, c) :: m') (List.sublist_cons_self _ _)).sy s1
  obtain ⟨o, h3, h4⟩ := s1.ce (q, c) List.mem_cons_self
  have hq : mi H1 (ads m') q = some o := mi_of h3 (List.nodup_cons.mp s1.nd).1 fun x z => by
    have := c.mu h4
    rw [z] at this
    exact this
  rw [show v = V.ref q from p1]
  exact k d' m' (.ref q) H1 h2 s2 (g1.trans g2) (h1 _ o hq (c.mono g2 h4))
theorem frz_I {G : Hp} {ob : HO} (h : G q = some ob) (hc : (mI C fs).p G ob) : (dI C fs).p G (.ref q) := by
  obtain ⟨dx, vs, rfl, h2⟩ := hc
  exact ⟨q, dx, vs, rfl, h, h2⟩
theorem frz_L {G : Hp} {ob : HO} (h : G q = some ob) (hc : (mL dl).p G ob) : (dL dl).p G (.ref q) := by
  obtain ⟨vs, rfl, h2⟩ := hc
  exact ⟨q, vs, rfl, h, h2⟩
/-- a slot that holds the cell at the head, frozen -/
theorem d_frzC (i : Nat) {c : MC} {d' : D} {sts : List Stmt} (hl : ds.lookup i = some (dAt q)) (hd : ∀ G o, G q = some o → c.p G o → d'.p G (.ref q)) (h : DS X ((i, d') :: ds) ms sts E) : DS X ds ((q, c) :: ms) sts E := fun G0 σ H s => by
  obtain ⟨s2, g2⟩ := (To.less (ms := (q, c) :: ms) (List.sublist_cons_self _ _)).sy s.s
  refine h G0 σ H ⟨⟨fun j dj hj hlen => ?_, s2.nd, s2.ce⟩, s.a.trans g2⟩
  rw [List.lookup_cons] at hj
  cases hb : j == i with
  | true =>
    rw [hb] at hj
    cases hj
    obtain rfl := beq_iff_eq.mp hb
    obtain ⟨v, h1, h2⟩ := s.s.sl j _ hl hlen
    obtain ⟨o, h3, h4⟩ := s.s.ce (q, c) List.mem_cons_self
    rw [show v = V.ref q from h2] at h1
    refine ⟨_, h1, hd _ o (mi_of h3 (List.nodup_cons.mp s.s.nd).1 fun x z => ?_) (c.mono g2 h4)⟩
    have := c.mu h4
    rw [z] at this
    exact this
  | false =>
    rw [hb] at hj
    exact s2.sl j dj hj hlen
end
end Bh
/-! B11: is None, written dicts, enumerate from k, lists in cells compared, three in parallel, cells in cells. -/
namespace Bh
open PySem PySem.Spec PyProof.Rows L2 TL
theorem r_in {X : Cx} {ds : Ds} {ms : MS} {e : Expr} {q : Addr} {dl : List D} (h : DE X ds ms e (dAt q)) (hm : Inn ms q (mL dl)) : DR X ds ms e dl := fun σ H s Q k => h σ H s Q fun v H1 e1 h1 => by
  rw [show v = V.ref q from h1]
  obtain ⟨h0, o, h2, vs, h3, h4⟩ := hm.get (s.ex e1)
  rw [h3] at h2
  exact k q vs H1 e1 h2 h4 (.inr h0)
theorem rd_in {X : Cx} {ds : Ds} {ms : MS} {e : Expr} {q : Addr} {kvs : List (Int × D)} (h : DE X ds ms e (dAt q)) (hm : Inn ms q (mD kvs)) : DRd X ds ms e kvs := fun σ H s Q k => h σ H s Q fun v H1 e1 h1 => by
  rw [show v = V.ref q from h1]
  obtain ⟨h0, o, h2, m, h3, h4⟩ := hm.get (s.ex e1)
  rw [h3] at h2
  exact k q m H1 e1 h2 h4 (.inr h0)
def NonD (d : D) : Prop := ∀ G v, d.p G v → v ≠ .non
theorem nn_int {i : Int} : NonD (R i) := fun G v h z => by rw [show v = V.int i from h] at z; cases z
theorem nn_str {i : Str} : NonD (R i) := fun G v h z => by rw [show v = V.str i from h] at z; cases z
theorem nn_dT {dl : List D} : NonD (dT dl) := fun G v ⟨a, _, h, _⟩ z => by rw [h] at z; cases z
theorem nn_dL {dl : List D} : NonD (dL dl) := fun G v ⟨a, _, h, _⟩ z => by rw [h] at z; cases z
theorem nn_pair {α β : Type} [Rp α] [Rp β] {x : α × β} : NonD (R x) := nn_dT
theorem nn_list {α : Type} [Rp α] {x : List α} : NonD (R x) := nn_dL
/-- a written dict: its value at a text -/
def KGet (K : PySem.W.Frag) (w : World) (a : Addr) (z : Str) (o : Option V) : Prop := match o with
  | some v => KDct K w a z v
  | none => (∃ es n, K.lookup a = some ⟨.type "dict", none, .dict es n, #[]⟩ ∧ PySem.W.KeysLit w.params es.toList ∧ (a == sysModules) = false ∧ PySem.W.nsIn K a z = some none)
def tKGet (K : PySem.W.Frag) (w : World) (ta tb : TE) : TE := fun σ H Q => ta σ H fun x H1 => ∃ p z v, x = .ref p ∧ (p == sysModules) = false ∧ KDct K w p z v ∧ tb σ H1 fun y H2 => y = .str z ∧ Q v H2
section
variable {X : Cx} {ds : Ds} {ms : MS} {σ : L2.St} {H H' : Hp} {e o a b c : Expr} {es : List Expr} {rest : List Stmt} {d da db : D} {dl dl2 : List D} {K : D → MS → Prop} {E : SE} {pos p apos cpos p2 : Pos} {q : Addr}
theorem b_isN {j p3} (ha : DE X ds ms a d) (hn : NonD d) : DB X ds ms (.Compare a [.Is] [.Constant .none j p3] pos) false :=
  b_cmp op_isN ha e_none (hm := nomark _) fun σ H x y s h1 h2 Q k => ⟨h2, by rw [decide_eq_false (hn _ _ h1)]; exact k _ H (Ex.refl _ _) rfl⟩
theorem b_isN1 {j p3} (ha : DE X ds ms a (R ())) : DB X ds ms (.Compare a [.Is] [.Constant .none j p3] pos) true :=
  b_cmp op_isN ha e_none (hm := nomark _) fun σ H x y s h1 h2 Q k => ⟨h2, by rw [decide_eq_true (show x = V.non from h1)]; exact k _ H (Ex.refl _ _) rfl⟩
theorem b_isnN {j p3} (ha : DE X ds ms a d) (hn : NonD d) : DB X ds ms (.Compare a [.IsNot] [.Constant .none j p3] pos) true :=
  b_cmp op_notN ha e_none (hm := nomark _) fun σ H x y s h1 h2 Q k => ⟨h2, by rw [decide_eq_false (hn _ _ h1)]; exact k _ H (Ex.refl _ _) rfl⟩
theorem b_isnN1 {j p3} (ha : DE X ds ms a (R ())) : DB X ds ms (.Compare a [.IsNot] [.Constant .none j p3] pos) false :=
  b_cmp op_notN ha e_none (hm := nomark _) fun σ H x y s h1 h2 Q k => ⟨h2, by rw [decide_eq_true (show x = V.non from h1)]; exact k _ H (Ex.refl _ _) rfl⟩
/-- d.get(k), a written dict that has the key -/
theorem pe_kget {ta tb : TE} (ho : PE X a ta) (he : PE X e tb) (m : M1 X a "get" apos e cpos) : PE X (.Call (.Attribute a "get" apos) [e] [] cpos) (tKGet X.K X.w ta tb) := by
  refine ⟨fun pins s σ H Q I h => ?_⟩
  refine wpAny_Call_method m.base m.few m.line PySem.F.plainAttrs_dict PySem.F.slot_dict_get PySem.F.type_dict_get (thn (ho.run pins s σ H _ I h) fun u s1 ⟨x, H1, I1, rx, p, z, v, ex, low, ⟨es, n, u0, hl, hk, eg, ru⟩, q1⟩ => ?_)
  subst ex
  obtain rfl : u = Value.ref p := rx
  have hm1 := PySem.W.mapOf_K (prog := X.prog) (w := X.w) I1.kIn hl hk
  refine ⟨hm1.typeIs, hm1.noDict, ?_⟩
  rw [m.trees]
  refine Calls.callWith_builtin rfl (Calls.evalArgs_plain (Calls.spliced_cons (thn (he.run pins s1 σ H1 _ I1 q1) fun iv s2 ⟨y, H2, I2, ry, ey, q2⟩ => Calls.spliced_nil ?_)))
  subst ey
  obtain ⟨t, rfl⟩ := (show ∃ t, iv = Value.str z t from ry)
  have hm2 := PySem.W.mapOf_K (prog := X.prog) (w := X.w) I2.kIn hl hk
  refine call_meetsIn PySem.F.slot_dict_get hm2.typeIs PySem.F.entry_dict_get (PySem.F.args_dict_get_2 _ _) (meets_dict_get (strKind X.prog X.w) p (strKind_is X.prog X.w z t) low) ⟨_, hm2, v, H2, I2.tok _, ?_, q2⟩
  rw [PySem.W.find_K hl eg]
  exact ru
theorem e_kget {v : V} {z : Str} (h : ∃ p, X.mg x = some (.ref p) ∧ (p == sysModules) = false ∧ KDct X.K X.w p z v) (hb : DE X ds ms b (R z)) (hg : Gl X x := by rfl) (hdb : (x == ("__debug__" : Str)) = false := by decide)
    (m : M1 X (.Name x p2) "get" apos b cpos := by exact ⟨rfl, rfl, rfl, rfl⟩) : DE X ds ms (.Call (.Attribute (.Name x p2) "get" apos) [b] [] cpos) (dV v) := by
  obtain ⟨p, h1, h2, h3⟩ := h
  exact e_of (pe_kget (wE_ok _) (wE_ok b) m) fun σ H s Q k => e_glob (v := .ref p) h1 rfl hg hdb σ H s _ fun u H1 e1 h4 => ⟨p, z, v, h4, h2, h3, hb σ H1 (s.ex e1) _ fun y H2 e2 h5 => ⟨h5, k v H2 (e1.trans e2) rfl⟩⟩

/-! ### enumerate(xs, k) -/
def Itek (K : PySem.W.Frag) (a : Addr) (k : Int) : It :=
  ⟨fun i H => ∃ (xs : List V) (x : V), SqL K H a xs ∧ xs[i]? = some x, fun i H v H' => ∃ T x, v = .ref T ∧ H T = none ∧ H' = upd H T (.tup [.int (k + (i : Int)), x]) ∧ ∀ xs, SqL K H a xs → xs[i]? = some x, fun i H => ∃ xs : List V, SqL K H a xs ∧ xs.length ≤ i⟩
theorem turn_enumk {P : Program} {w : World} {K : PySem.W.Frag} {elts : List Expr} {kk : Nat} {tpos : Pos} (k : Int) (a e it : Addr) :
    Turn P w K (.Tuple elts kk tpos) (Itek K a k) [e, it] e (fun i h => (∃ old, IsEnum h e it (k + (i : Int)) old) ∧ h.IsListIter it a i ∧ e ≠ it) where
  mem := by simp
  obj := fun i h st b hb => by
    obtain ⟨⟨old, he⟩, ⟨o, ho, hc, hd⟩, _⟩ := st
    have e' : b = e ∨ b = it := by simpa using hb
    rcases e' with z | z
    · rw [z]; exact ⟨_, he, fun v q => nomatch q⟩
    · rw [z]; exact ⟨o, ho, fun v q => by rw [hd] at q; cases q⟩
  keep := fun i h h' st k => let ⟨⟨old, he⟩, hi, hne⟩ := st; ⟨⟨old, k e (by simp) _ he⟩, hi.at fun o q => k it (by simp) o q, hne⟩
  item := by
    intro X hP hw hK hc i pins s σ H E I hf st hg
    subst hP hw hK
    obtain ⟨⟨old, he⟩, hit, hne⟩ := st
    obtain ⟨xs, x, hq, hx⟩ := hg
    obtain ⟨its, rv, p, hz⟩ := I.list hq
    obtain ⟨u, hu, ru⟩ := rv.get hx
    have hel : e < s.heap.objs.size := Heap.lt_size he
    have hil : it < s.heap.objs.size := by obtain ⟨_, q, _⟩ := hit; exact Heap.lt_size q
    have hl := p.isList
    have n1 : a ≠ it := fun z => by
      obtain ⟨o1, q1, q2, _⟩ := hl
      obtain ⟨o2, q3, q4, _⟩ := hit
      rw [← z, q1] at q3
      cases q3
      rw [q2] at q4
      exact absurd q4 (by decide)
    have n2 : a ≠ e := fun z => by
      obtain ⟨o1, q1, q2, _⟩ := hl
      have q3 := he
      unfold IsEnum at q3
      rw [← z, q1] at q3
      cases q3
      exact absurd (show Value.type "enumerate" = Value.type "list" from q2) (by decide)
    have hi2 : i < its.toArray.size := by
      have := (List.getElem?_eq_some_iff.mp hu).1
      simpa using this
    refine wpAny_pyNext_enum_itemC (Draws.list (A := X.A.in1) (I.ok.hd hc) it a n1 its.toArray) he ⟨hit, hl⟩ hi2 hne (fun z => by
      rcases List.mem_cons.mp z with z | z
      · exact hne z
      · exact n2 (List.mem_singleton.mp z).symm) fun x' h' tk hx' ho st' hT hsz hk => ?_
    have ex' : x' = u := by
      have e1 : its.toArray[i]? = some u := by simpa using hu
      rw [show its.toArray[i]? = some x' from hx'] at e1
      exact Option.some.inj e1
    subst ex'
    have hit' := st'.1
    refine ⟨_, rfl, wpAny_letOwnedTupleGo_enum (s := { s with heap := h', toks := tk + 1 }) ho fun h'' he' sb => ?_⟩
    have hT2 : h''.get? s.heap.objs.size = some { cls := .type "tuple", data := .seq #[.int (k + (i : Int)) tk, x'] } := (sb.2 _ (Nat.ne_of_gt hel)).trans hT
    have new : ObjOk X.prog X.w (upd H s.heap.objs.size (.tup [.int (k + (i : Int)), x])) h'' s.heap.objs.size (.tup [.int (k + (i : Int)), x]) :=
      ⟨by show 2 ≤ sizeLine; decide, [.int (k + (i : Int)) tk, x'], .cons ⟨_, rfl⟩ (.cons ru .nil), ⟨_, hT2, rfl, _, rfl⟩⟩
    have I1 : Inv X pins σ (upd H s.heap.objs.size (.tup [.int (k + (i : Int)), x])) { s with heap := h'', toks := tk + 1 } :=
      I.turnedNew (ch := [e, it]) (fun b ob hb q => (sb.2 b (fun z => hb (by simp [z]))).trans (hk b ob (fun z => hb (by simp [z])) (fun z => hb (by simp [z])) q)) hf (Nat.le_refl _) new
    refine ⟨.ref s.heap.objs.size, _, I1, rfl, ⟨_, x, rfl, I.hok.fresh (Nat.le_refl _), rfl, fun ys hy => by rw [I.list_inj hy hq]; exact hx⟩, ⟨⟨x', ?_⟩, hit'.at fun o q => (sb.2 it (Ne.symm hne)).trans q, hne⟩, fun b hb => ?_⟩
    · have e1 : k + ((i + 1 : Nat) : Int) = k + (i : Int) + 1 := by omega
      rw [e1]; exact he'
    · have hb' : b < s.heap.objs.size := by
        have e' : b = e ∨ b = it := by simpa using hb
        rcases e' with z | z
        · rw [z]; exact hel
        · rw [z]; exact hil
      rw [upd_ne (Nat.ne_of_lt hb')]
      exact (hf b hb).1
  done := by
    intro X hP hw hK hc i pins s σ H E I hf st hg
    subst hP hw hK
    obtain ⟨⟨old, he⟩, hit, hne⟩ := st
    obtain ⟨xs, hq, hx⟩ := hg
    obtain ⟨its, rv, p, hz⟩ := I.list hq
    obtain ⟨f0, f1, f2, f3, f4, f5⟩ := hf it (by simp)
    have hl := rv.length
    have hT : s.TypeIs (.ref e) "enumerate" := ⟨_, he, rfl⟩
    unfold pyNext
    refine wpAny_bind (wpAny_attempt (wpAny_callSpecial?_slot (name := Str.ofString "__next__") hT F.slot_enumerate_next
      (wpAny_call_entry F.slot_enumerate_next hT F.entry_enumerate_next ?_ (F.args_enumerate_next_1 _))))
    show wpAny _ _ (field (.ref e) 2 >>= _) _ _ _
    refine wpAny_bind (wpAny_field he rfl (x := .ref it) rfl ?_)
    refine wpAny_bind (wpAny_nextOf_list_end (I.ok.hd hc) hit p.isList (by simp; omega) fun h' x he' hx' => ?_)
    obtain ⟨o, ho, hcl⟩ := hx'
    refine wpAny_bind (wpAny_isInstance (T := "StopIteration") (b := true) ⟨o, ho, hcl⟩ isSubtype_stop ?_)
    exact wpAny_pure ⟨rfl, I.turned (t' := s.toks) (fun b o hb q => he' b o hb q) f0 f1 f3 f4 f5⟩
  self := fun A i s Q E st h => let ⟨⟨_, he⟩, _⟩ := st; wpAny_pyIter_enum he h
def iEnumk (K : PySem.W.Frag) (k : Int) (ta : TA) : TI := fun σ H R => ta σ H fun vs H1 => ∃ a xs, vs = [.ref a, .int k] ∧ SqL K H1 a xs ∧ R (Itek K a k) H1
theorem pi_enumk {ta : TA} {k : Int} {tpos : Pos} {elts : List Expr} {kk : Nat} (hg : Gl X "enumerate") (hm : X.mg "enumerate" = none) (hk0 : -(2 ^ 63) ≤ k) (hk1 : k < 2 ^ 63) (ha : PA X [a, b] ta) (he : starEach [a, b] X.env = (false, eval a X.env) :: starEach [b] X.env := by rfl) (hpl : (backTo pos (starEach [b] X.env)).any (·.1) = false := by rfl) :
    PI X (.Tuple elts kk tpos) (.Call (.Name "enumerate" p) [a, b] [] pos) (iEnumk X.K k ta) := by
  refine ⟨fun pins s σ H R I h => ?_⟩
  refine Call_ (ld_blt I hg hm boot_enumerate (PyProof.Rows.callWith_type1 (thn (ha.run pos pins s σ H _ I h) fun us s1 ⟨vs, H1, I1, r1, q1⟩ => ?_) he hpl))
  obtain ⟨l, xs, ex, hq, q⟩ := q1
  subst ex
  cases r1 with
  | cons r rr =>
    cases rr with
    | cons r' rr' =>
      cases rr'
      cases r
      obtain ⟨t, rfl⟩ := r'
      obtain ⟨its, rv, p', hz⟩ := I1.list hq
      refine enum_begins (begins_list l its.toArray) p'.isList hk0 hk1 fun h' he hit hsz hk => wpAny_pyIter_enum he ?_
      have I2 : Inv X pins σ H1 { s1 with heap := h' } := I1.kept (t' := s1.toks) hk
      refine ⟨s1.heap.objs.size + 1, [s1.heap.objs.size + 1, s1.heap.objs.size], _, _, H1, rfl, I2, turn_enumk k l (s1.heap.objs.size + 1) s1.heap.objs.size, ⟨⟨.none, by rw [show k + ((0 : Nat) : Int) = k from Int.add_zero k]; exact he⟩, ⟨_, hit, rfl, rfl⟩, Nat.succ_ne_self _⟩, fun b hb => ?_, q⟩
      have e' : b = s1.heap.objs.size + 1 ∨ b = s1.heap.objs.size := by simpa using hb
      have hle : s1.heap.objs.size ≤ b := by
        rcases e' with z | z
        · rw [z]; exact Nat.le_add_right _ _
        · rw [z]; exact Nat.le_refl _
      exact I1.fpOk hle (I1.hok.fresh hle)
theorem walk_enumk {K : PySem.W.Frag} {l : Addr} {xs : List V} (k : Int) : Walk (Itek K l k) xs.length (fun H => SqL K H l xs) (fun i H v H' => ∃ T x, v = .ref T ∧ H T = none ∧ H' = upd H T (.tup [.int (k + (i : Int)), x]) ∧ xs[i]? = some x) :=
  ⟨fun i H hi h => ⟨xs, xs[i], h, List.getElem?_eq_getElem hi⟩, fun H h => ⟨xs, h, Nat.le_refl _⟩, fun i H v H' hi h ⟨T, x, h1, h2, h3, h4⟩ => ⟨T, x, h1, h2, h3, h4 xs h⟩⟩
theorem wk_enumk {α : Type} [Rp α] {k : Int} {xs : List α} {elts : List Expr} {kk : Nat} {tpos : Pos} (hm : X.mg "enumerate" = none) (h : DR X ds ms a (xs.map fun x => R x)) (hb : DE X ds ms b (R k)) (hfz : True) (hk0 : -(2 ^ 63) ≤ k) (hk1 : k < 2 ^ 63) (hp : DE X ds ms a (R xs)) (hg : Gl X "enumerate" := by rfl) (he : starEach [a, b] X.env = (false, eval a X.env) :: starEach [b] X.env := by rfl) (he2 : starEach [b] X.env = (false, eval b X.env) :: starEach [] X.env := by rfl)
    (hpl : (backTo pos (starEach [b] X.env)).any (·.1) = false := by rfl) : DWk X ds ms (.Tuple elts kk tpos) (.Call (.Name "enumerate" p) [a, b] [] pos) ((enF k xs).map fun x => R x) := ⟨_, pi_enumk hg hm hk0 hk1 (pa_cons (wE_ok a) (pa_cons (wE_ok b) pa_nil he2) he) he hpl, fun σ H s R kq =>
  two hp hb s fun v v' H1 e1 ⟨l, vs, h0, h1, h2⟩ h3 => ⟨l, vs, by rw [h0, show v' = V.int k from h3], SqL.of (mi_sub _ _ h1), kq _ H1 e1 ⟨_, _, by
    have : ((enF k xs).map fun x => Bh.R x).length = vs.length := by rw [List.length_map, enF_len, ← h2.len, List.length_map]
    rw [this]
    exact walk_enumk (K := X.K) (l := l) (xs := vs) k, fun ps H2 g => SqL.of (mi_sub _ _ (g _ _ h1)), fun i H2 x H3 d ps hp g y hd => by
  obtain ⟨T, u2, rfl, hT, rfl, hv⟩ := y
  rw [List.getElem?_map] at hd
  obtain ⟨z, hz, rfl⟩ := Option.map_eq_some_iff.mp hd
  obtain ⟨z1, z2⟩ := enF_get hz
  obtain ⟨v', q1, q2⟩ := h2.get (i := i) (x := Bh.R z.2) (by rw [List.getElem?_map, z2]; rfl)
  rw [q1] at hv
  cases hv
  have e2 := Ex.new (ps := ps) (o := .tup [.int (k + (i : Int)), u2]) hp hT
  refine ⟨e2, T, _, rfl, mi_new hp hT (fun x z => by cases z), ?_, ?_, trivial⟩
  · rw [z1]
    rfl
  · exact (Bh.R z.2).mono (g.trans e2.g) q2⟩⟩⟩

/-! ### lists in cells, compared -/
theorem b_eqR {α : Type} [Rp α] [Pd α] [DecidableEq α] [Py0 α] {xs ys : List α} (hu : X.A.units + 64 < cLine) (ha : DR X ds ms a (xs.map fun x => R x)) (hb : DE X ds ms b (R ys)) (hn : Pd.n (List α) ≤ 64 := by decide) : DB X ds ms (.Compare a [.Eq] [b] pos) (decide (xs = ys)) := fun σ H s Q q =>
  wT_of (pt_cmpR (op_eqD hu) (wE_ok a) (wE_ok b) (nomark _)) (ha σ H s _ fun l vs H1 e1 h1 h2 h3 => hb σ H1 (s.ex e1) _ fun v H2 e2 h4 => by
    have h5 : H2 l = some (.lst vs) := by
      rcases h3 with h3 | h3
      · exact mi_sub _ _ (e2.g _ _ h3)
      · rw [e2.c l h3]; exact h1
    refine ⟨Pd.py xs, Pd.py ys, Dp.lst (SqL.of h5) (dpa_mono mi_sub (dpAll_map (h2.imp fun d _ z => d.mono e2.g z))), dp_mono mi_sub (Pd.dp X.K ys _ v h4), shp (Py0.lay _) hn, shp (Py0.lay _) hn, ?_⟩
    rw [eqv_dec]
    exact ⟨_, rfl, q H2 (e1.trans e2)⟩)
theorem b_neR {α : Type} [Rp α] [Pd α] [DecidableEq α] [Py0 α] {xs ys : List α} (hu : X.A.units + 64 < cLine) (ha : DR X ds ms a (xs.map fun x => R x)) (hb : DE X ds ms b (R ys)) (hn : Pd.n (List α) ≤ 64 := by decide) : DB X ds ms (.Compare a [.NotEq] [b] pos) (!decide (xs = ys)) := fun σ H s Q q =>
  wT_of (pt_cmpR (op_neD hu) (wE_ok a) (wE_ok b) (nomark _)) (ha σ H s _ fun l vs H1 e1 h1 h2 h3 => hb σ H1 (s.ex e1) _ fun v H2 e2 h4 => by
    have h5 : H2 l = some (.lst vs) := by
      rcases h3 with h3 | h3
      · exact mi_sub _ _ (e2.g _ _ h3)
      · rw [e2.c l h3]; exact h1
    refine ⟨Pd.py xs, Pd.py ys, Dp.lst (SqL.of h5) (dpa_mono mi_sub (dpAll_map (h2.imp fun d _ z => d.mono e2.g z))), dp_mono mi_sub (Pd.dp X.K ys _ v h4), shp (Py0.lay _) hn, shp (Py0.lay _) hn, ?_⟩
    rw [eqv_dec]
    exact ⟨_, rfl, q H2 (e1.trans e2)⟩)

/-! ### three in parallel; lists of new cells -/
theorem d_par3I (i j l : Nat) {x y z : Str} {px py pz pt : Pos} {kt k2 pt2} (hc : X.calm = true) (hN : X.N.Nodup) (ha : DAi X ds ms [a, b, c] fun dl m => ∃ da db dc, dl = [da, db, dc] ∧ DS X ((l, dc) :: (j, db) :: (i, da) :: ds) m rest E) (hi : X.N[i]? = some x := by rfl) (hj : X.N[j]? = some y := by rfl) (hl : X.N[l]? = some z := by rfl) (hij : i ≠ j := by decide) (hil : i ≠ l := by decide) (hjl : j ≠ l := by decide)
    (hx : X.env.scope.names.lookup x = some .local := by rfl) (hy : X.env.scope.names.lookup y = some .local := by rfl) (hz : X.env.scope.names.lookup z = some .local := by rfl) (hw : swappedStores [.Tuple [.Name x px, .Name y py, .Name z pz] kt pt] (.Tuple [a, b, c] k2 pt2) X.env = pure (some [x, y, z]) := by rfl)
    (hs : swapsWithSole [.Tuple [.Name x px, .Name y py, .Name z pz] kt pt] (.Tuple [a, b, c] k2 pt2) pos.line X.env = pure false := by rfl) : DS X ds ms (.Assign [.Tuple [.Name x px, .Name y py, .Name z pz] kt pt] (.Tuple [a, b, c] k2 pt2) pos :: rest) E :=
  d_cons fun G0 σ H s => wS_of (ps_par3 hc hN hi hj hl hij hil hjl hx hy hz (wA_ok _) hw hs) (ha σ H s.s _ fun dl m vs H1 ⟨da, db, dc, e1, q⟩ s1 g1 p1 => by
    subst e1
    match vs, p1 with
    | [v, w, u], p1 => exact ⟨v, w, u, rfl, _, _, q, sy_set (sy_set (sy_set s1 p1.1) p1.2.1) p1.2.2.1, s.a.trans g1⟩)
/-- a new list, of what may be new cells -/
theorem i_lstN (h : DAi X ds ms es fun dl m => dl.length ≤ 1000000 ∧ ∀ a, K (dAt a) ((a, mL dl) :: m)) : DI X ds ms (.List es pos) K := fun σ H s Q k =>
  wE_of (pe_lst (wA_ok es)) (h σ H s _ fun dl m vs H1 ⟨hz, hK⟩ s1 g1 p1 => ⟨by rw [← p1.len]; exact line_of hz, fun q hq => by
    refine new_of (H := H1) s1 (Ex.refl _ _) hq p1 fun a vs' H2 e1 h1 h2 h3 h4 => ?_
    obtain ⟨s2, g2⟩ := sy_new s1 e1 h1 h2 h3 h4
    exact k _ _ _ H2 (hK a) s2 (g1.trans g2) rfl⟩)
/-- what a list's items say, one frozen -/
theorem frz_all {r : Addr} {d' : D} {G : Hp} (hd : d'.p G (.ref r)) : ∀ {dl dl' : List D} {vs : List V}, All2 (fun x y => y = x ∨ (x = dAt r ∧ y = d')) dl dl' → All2 (fun (d : D) u => d.p G u) dl vs → All2 (fun (d : D) u => d.p G u) dl' vs
  | [], [], _, _, h4 => h4
  | x :: dl, y :: dl', v :: vs, h, h4 => by
    refine ⟨?_, frz_all hd h.2 h4.2⟩
    rcases h.1 with e | ⟨e1, e2⟩
    · rw [e]; exact h4.1
    · rw [e2]
      have := h4.1
      rw [e1] at this
      rw [show v = V.ref r from this]
      exact hd
  | [], _ :: _, _, h, _ => h.elim
  | _ :: _, [], _, h, _ => h.elim
  | _ :: _, _ :: _, [], _, h4 => h4.elim
theorem frz_item {r : Addr} {c : MC} {d' : D} {dl dl' : List D} (hd : ∀ G o, G r = some o → c.p G o → d'.p G (.ref r)) (h : All2 (fun x y => y = x ∨ (x = dAt r ∧ y = d')) dl dl') : ∀ G o u, G r = some o → c.p G o → (mL dl).p G u → (mL dl').p G u := fun G o u h1 h2 ⟨vs, h3, h4⟩ => ⟨vs, h3, frz_all (hd G o h1 h2) h h4⟩
theorem all2_same {l : List D} {r : Addr} {d' : D} : All2 (fun x y => y = x ∨ (x = dAt r ∧ y = d')) l l := by
  induction l with
  | nil => trivial
  | cons x l ih => exact ⟨.inl rfl, ih⟩
end
end Bh
/-! B12: append where the item is new; places from the end. -/
namespace Bh
open PySem PySem.Spec PyProof.Rows L2
theorem atI_last {α : Type} (l : List α) (x : α) : atI (l ++ [x]) (-1) = some x := by
  unfold atI ixN
  rw [if_neg (by decide), if_pos (by rw [List.length_append, List.length_singleton]; omega), List.length_append, List.length_singleton]
  show (l ++ [x])[_]? = some x
  rw [show ((-1 : Int) + ((l.length + 1 : Nat) : Int)).toNat = l.length by omega, List.getElem?_append_right (Nat.le_refl _), Nat.sub_self]
  rfl
theorem atI_of {α : Type} {xs : List α} {i : Int} {n : Nat} {y : α} (hi : i = (n : Int)) (h : xs[n]? = some y) : atI xs i = some y := by
  subst hi
  unfold atI ixN
  have := (List.getElem?_eq_some_iff.mp h).1
  rw [if_pos (by omega), if_pos (by omega), Int.toNat_natCast]
  exact h
section
variable {X : Cx} {ds : Ds} {ms : MS} {σ : L2.St} {H H' : Hp} {e o a b c : Expr} {es : List Expr} {rest : List Stmt} {d da db : D} {dl dl2 : List D} {K : D → MS → Prop} {E : SE} {pos p apos cpos p2 : Pos} {q : Addr} {C : MC}
theorem i_bmK {id name : Str} {i : String} {r : V → List V → Hp → VK → Prop} (slot : Slot "list" name i) (hty : typeOf (.builtin i) = pure (.type "method_descriptor")) (hm : MtR X i r) (ho : DE X ds ms o (dAt q)) (hq : Inn ms q (mL dl2))
    (ha : DAi X ds ms (e :: es) fun dl m => ∀ σ H vs, Sy ds m σ H → All2 (fun (d : D) u => d.p (mi H (ads m)) u) dl vs → ∀ Q : VK, (∀ d m' v H', K d m' → Sy ds m' σ H' → Same (mi H (ads m)) (mi H' (ads m')) → d.p (mi H' (ads m')) v → Q v H') → r (.ref q) vs H Q)
    (hbase : attributeBase o name X.env (eval o X.env) = eval o X.env := by rfl)
    (hfew : ((backTo cpos (starEach (e :: es) X.env)).all (fun x => !x.1) && (backToKw cpos (keywordEach [] X.env)).all (fun x => x.1.isSome)
      && decide ((e :: es).length + ([] : List Keyword).length + (if ([] : List Keyword).isEmpty then 0 else 1) < 30)) = true := by rfl)
    (hline : (apos.endLine == cpos.line) = true := by rfl) (hs : starEach (e :: es) X.env = (false, eval e X.env) :: starEach es X.env := by rfl) (hplain : (backTo cpos (starEach es X.env)).any (·.1) = false := by rfl) :
    DI X ds ms (.Call (.Attribute o name apos) (e :: es) [] cpos) K := fun σ H s Q kq =>
  wE_of (pe_bm PySem.F.plainAttrs_list slot hty hm (wE_ok o) (wA_ok _) hbase hfew hline hs hplain) (ho σ H s _ fun v H1 e1 h1 => by
    rw [show v = V.ref q from h1]
    have s1 := s.ex e1
    obtain ⟨_, ob, h2, vs, h3, _⟩ := hq.get s1
    refine ⟨.inl ⟨rfl, vs, SqL.of (by rw [← h3]; exact h2)⟩, ?_⟩
    exact ha σ H1 s1 _ fun dl m vs H2 hk s2 g2 p2 => hk σ H2 vs s2 p2 Q fun d m' v H3 h1 h2 h3 h4 => kq d m' v H3 h1 h2 (e1.g.trans (g2.trans h3)) h4)
/-- q.append(e), e anything -/
theorem i_appK (ho : DE X ds ms o (dAt q)) (hq : Inn ms q (mL dl)) (he : DI X ds ms e fun d m => ∃ k dl', m[k]? = some (q, mL dl') ∧ dl'.length < 1000000 ∧ K (R ()) (m.set k (q, mL (dl' ++ [d]))))
    (hbase : attributeBase o "append" X.env (eval o X.env) = eval o X.env := by rfl)
    (hfew : ((backTo cpos (starEach [e] X.env)).all (fun x => !x.1) && (backToKw cpos (keywordEach [] X.env)).all (fun x => x.1.isSome)
      && decide ([e].length + ([] : List Keyword).length + (if ([] : List Keyword).isEmpty then 0 else 1) < 30)) = true := by rfl)
    (hline : (apos.endLine == cpos.line) = true := by rfl) (hs : starEach [e] X.env = (false, eval e X.env) :: starEach [] X.env := by rfl) (hplain : (backTo cpos (starEach [] X.env)).any (·.1) = false := by rfl) :
    DI X ds ms (.Call (.Attribute o "append" apos) [e] [] cpos) K :=
  i_bmK (id := "append") PySem.F.slot_list_append PySem.F.type_list_append mt_append ho hq (ai_cons (fun σ H s Q kq => he σ H s Q fun d m v H' ⟨k, dl', h1, h2, h3⟩ h4 h5 h6 => kq d m v H' (ai_nil fun σ H vs s p Q kq => by
    obtain ⟨us, c1, c2⟩ := cell_at s h1
    match vs, p with
    | [v], p =>
      obtain ⟨s2, g2⟩ := sy_put s h1 (c' := mL (dl' ++ [d])) (ob := .lst (us ++ [v])) ⟨_, rfl, c2.append ⟨p.1, trivial⟩⟩
      exact ⟨q, us, v, rfl, rfl, c1, by rw [← c2.len]; exact line_lt h2, kq _ _ _ _ h3 s2 g2 rfl⟩) h4 h5 h6) hs) hbase hfew hline hs hplain
end
end Bh
/-! B13: dicts with pairs as keys; range down; reversed slices. -/
namespace Bh
open PySem PySem.Spec PyProof.Rows L2
def k2 (x : Int × Int) : List Key := [.inl x.1, .inl x.2]
theorem k2_inj {x y : Int × Int} (h : k2 x = k2 y) : x = y := by
  unfold k2 at h
  injection h with h1 h2
  injection h2 with h2 h3
  exact Prod.ext (Sum.inl.inj h1) (Sum.inl.inj h2)
/-- the entries of a dict with pairs of ints as keys -/
abbrev PvOk (G : Hp) (kvs : List ((Int × Int) × D)) (m : List (List Key × V)) : Prop := All2 (fun (x : (Int × Int) × D) (y : List Key × V) => y.1 = k2 x.1 ∧ x.2.p G y.2) kvs m
def mP (kvs : List ((Int × Int) × D)) : MC := ⟨fun G o => ∃ m, o = .dT m ∧ PvOk G kvs m, fun s ⟨m, h1, h2⟩ => ⟨m, h1, h2.imp fun x y q => ⟨q.1, x.2.mono s q.2⟩⟩, fun ⟨m, h1, _⟩ => by rw [h1]; trivial⟩
def dP (kvs : List ((Int × Int) × D)) : D := ⟨fun G v => ∃ a m, v = .ref a ∧ G a = some (.dT m) ∧ PvOk G kvs m, fun s ⟨a, m, h0, h1, h2⟩ => ⟨a, m, h0, s _ _ h1, h2.imp fun x y q => ⟨q.1, x.2.mono s q.2⟩⟩⟩
def getP (kvs : List ((Int × Int) × D)) (k : Int × Int) : Option D := (kvs.find? fun x => decide (x.1 = k)).map (·.2)
def putP (kvs : List ((Int × Int) × D)) (k : Int × Int) (d : D) : List ((Int × Int) × D) := if kvs.any (fun x => decide (x.1 = k)) then kvs.map fun x => if x.1 = k then (x.1, d) else x else kvs ++ [(k, d)]
theorem pv_get {G : Hp} : ∀ {kvs : List ((Int × Int) × D)} {m : List (List Key × V)} (k : Int × Int), PvOk G kvs m → match getP kvs k, valV m (k2 k) with
    | some d, some v => d.p G v
    | none, none => True
    | _, _ => False
  | [], [], k, _ => trivial
  | x :: kvs, y :: m, k, h => by
    obtain ⟨h1, h2⟩ := h
    by_cases e : x.1 = k
    · have e1 : getP (x :: kvs) k = some x.2 := by unfold getP; simp [e]
      have e2 : valV (y :: m) (k2 k) = some y.2 := valV_pos (by rw [h1.1, e])
      rw [e1, e2]
      exact h1.2
    · have e1 : getP (x :: kvs) k = getP kvs k := by unfold getP; simp [e]
      have e2 : valV (y :: m) (k2 k) = valV m (k2 k) := valV_neg (by rw [h1.1]; exact fun z => e (k2_inj z))
      rw [e1, e2]
      exact pv_get k h2
  | [], _ :: _, _, h => h.elim
  | _ :: _, [], _, h => h.elim
theorem pv_some {G : Hp} {kvs : List ((Int × Int) × D)} {m : List (List Key × V)} {k : Int × Int} (h : PvOk G kvs m) : (valV m (k2 k)).isSome = (getP kvs k).isSome := by
  have := pv_get k h
  cases e1 : getP kvs k with
  | none =>
    cases e2 : valV m (k2 k) with
    | none => rfl
    | some v =>
      rw [e1, e2] at this
      exact this.elim
  | some d =>
    cases e2 : valV m (k2 k) with
    | none =>
      rw [e1, e2] at this
      exact this.elim
    | some v => rfl
theorem pv_any {G : Hp} {k : Int × Int} : ∀ {kvs : List ((Int × Int) × D)} {m : List (List Key × V)}, PvOk G kvs m → (m.any fun kv => decide (kv.1 = k2 k)) = kvs.any fun x => decide (x.1 = k)
  | [], [], _ => rfl
  | x :: kvs, y :: m, h => by
    rw [List.any_cons, List.any_cons, pv_any h.2, h.1.1]
    congr 1
    exact decide_eq_decide.mpr ⟨fun z => k2_inj z, fun z => congrArg k2 z⟩
  | [], _ :: _, h => h.elim
  | _ :: _, [], h => h.elim
theorem pv_map {G : Hp} {k : Int × Int} {d : D} {v : V} (hv : d.p G v) : ∀ {kvs : List ((Int × Int) × D)} {m : List (List Key × V)}, PvOk G kvs m → PvOk G (kvs.map fun x => if x.1 = k then (x.1, d) else x) (m.map fun kv => if kv.1 = (k2 k) then (kv.1, v) else kv)
  | [], [], _ => trivial
  | x :: kvs, y :: m, h => by
    refine ⟨?_, pv_map hv h.2⟩
    dsimp only
    by_cases e : x.1 = k
    · rw [if_pos e, if_pos (show y.1 = k2 k by rw [h.1.1, e])]
      exact ⟨h.1.1, hv⟩
    · rw [if_neg e, if_neg (show ¬ y.1 = k2 k by rw [h.1.1]; exact fun z => e (k2_inj z))]
      exact h.1
  | [], _ :: _, h => h.elim
  | _ :: _, [], h => h.elim
theorem pv_put {G : Hp} {kvs : List ((Int × Int) × D)} {m : List (List Key × V)} {k : Int × Int} {d : D} {v : V} (h : PvOk G kvs m) (hv : d.p G v) : PvOk G (putP kvs k d) (putK m (k2 k) v) := by
  unfold putP putK
  rw [pv_any h]
  split
  · exact pv_map hv h
  · exact h.append ⟨⟨rfl, hv⟩, trivial⟩
theorem putP_new {kvs : List ((Int × Int) × D)} {k : Int × Int} {d : D} (h : (getP kvs k).isSome = false) : putP kvs k d = kvs ++ [(k, d)] := by
  unfold putP
  rw [if_neg]
  intro z
  unfold getP at h
  rw [Option.isSome_map] at h
  have := List.find?_isSome (p := fun x : (Int × Int) × D => decide (x.1 = k)) (xs := kvs)
  obtain ⟨x, hx, hk⟩ := List.any_eq_true.mp z
  rw [this.mpr ⟨x, hx, hk⟩] at h
  cases h
theorem k2_at {G : Hp} {k : Int × Int} {y : V} (h : (R k).p G y) : ∃ b, y = .ref b ∧ G b = some (.tup ((k2 k).map kV)) := by
  obtain ⟨b, vs, h1, h2, h3⟩ := h
  match vs, h3 with
  | [v, w], h3 =>
    refine ⟨b, h1, ?_⟩
    rw [h2, show v = V.int k.1 from h3.1, show w = V.int k.2 from h3.2.1]
    rfl
section
variable {X : Cx} {ds : Ds} {ms : MS} {σ : L2.St} {H H' : Hp} {e o a b c : Expr} {es : List Expr} {rest : List Stmt} {d da db : D} {dl : List D} {kvs : List ((Int × Int) × D)} {K : D → MS → Prop} {E : SE} {pos p apos cpos : Pos} {q : Addr} {k : Int × Int}
theorem i_pnew (hK : ∀ a, K (dAt a) ((a, mP []) :: ms)) : DI X ds ms (.Dict [] [] pos) K := fun σ H s Q k => wE_of pe_dnewT fun a ha => by
  have e1 : Ex (ads ms) H (upd H a (.dT [])) := s.new ha
  have h0 : mi H (ads ms) a = none := mi_none ha
  have na : a ∉ ads ms := fun z => s.ce.there z ha
  have g := same_hide e1.g h0
  refine k _ _ _ _ (hK a) ⟨fun i d h hl => let ⟨v, q1, q2⟩ := s.sl i d h hl; ⟨v, q1, d.mono g q2⟩, List.nodup_cons.mpr ⟨na, s.nd⟩, fun r hr => ?_⟩ g rfl
  rcases List.mem_cons.mp hr with z | z
  · subst z
    exact ⟨_, upd_same, [], rfl, trivial⟩
  · obtain ⟨o, q1, q2⟩ := s.ce r z
    exact ⟨o, (e1.c r.1 (List.mem_map_of_mem z)).trans q1, r.2.mono g q2⟩
theorem b_notinP (hu : X.A.units + 1 < cLine) (hk : DE X ds ms a (R k)) (hd : DE X ds ms b (dAt q)) (hi : Inn ms q (mP kvs)) (hm : behindInMarks .NotIn b = false := by rfl) : DB X ds ms (.Compare a [.NotIn] [b] pos) (!(getP kvs k).isSome) := fun σ H s Q kq =>
  wT_of (pt_cmp (pc_dnotin hu (wE_ok a) (wE_ok b)) hm) (hk σ H s _ fun v H1 e1 h1 => hd σ H1 (s.ex e1) _ fun l H2 e2 h2 => by
    obtain ⟨h3, ob, h4, m, h5, h6⟩ := hi.get ((s.ex e1).ex e2)
    subst h5
    obtain ⟨t, rfl, h7⟩ := k2_at h1
    refine ⟨q, _, h2, DGet.t h4 (mi_sub _ _ (e2.g _ _ h7)), ?_⟩
    rw [pv_some h6]
    exact ⟨_, rfl, kq H2 (e1.trans e2)⟩)
theorem e_getP (hu : X.A.units + 1 < cLine) (hd : DE X ds ms a (dAt q)) (hi : Inn ms q (mP kvs)) (hk : DE X ds ms b (R k)) (h : getP kvs k = some d) (hs : NoSl b := by exact fun _ _ => rfl) : DE X ds ms (.Subscript a b pos) d :=
  e_of (pe_dget hu (wE_ok a) (wE_ok b) hs) fun σ H s Q kq => hd σ H s _ fun l H1 e1 h1 => hk σ H1 (s.ex e1) _ fun v H2 e2 h3 => by
    obtain ⟨_, ob, h4, m, h5, h6⟩ := hi.get ((s.ex e1).ex e2)
    subst h5
    obtain ⟨t, rfl, h7⟩ := k2_at h3
    have h8 := pv_get k h6
    rw [h] at h8
    cases e : valV m (k2 k) with
    | none => rw [e] at h8; exact h8.elim
    | some u =>
      rw [e] at h8
      exact ⟨q, u, h1, by rw [← e]; exact DGet.t h4 (mi_sub _ _ h7), kq u H2 (e1.trans e2) h8⟩
theorem d_putP {i : Expr} {pos' : Pos} (hu : X.A.units + 1 < cLine) (he : DI X ds ms e fun d m => ∃ j kvs k, DE X ds m o (dAt q) ∧ DE X ds m i (R k) ∧ m[j]? = some (q, mP kvs) ∧ kvs.length < 1000000 ∧ DS X ds (m.set j (q, mP (putP kvs k d))) rest E) (hs : swapsWith e (some (.Subscript o i pos')) pos.line X.env = pure false := by rfl) :
    DS X ds ms (.Assign [.Subscript o i pos'] e pos :: rest) E := d_cons fun G0 σ H s => wS_of (ps_dput hu (wE_ok o) (wE_ok i) (wE_ok e) hs) (he σ H s.s _ fun d m v H1 ⟨j, kvs, k, q1, q2, q3, q4, q5⟩ s1 g1 p1 =>
  two q1 q2 s1 fun x y H2 e2 h2 h3 => by
    have s2 := s1.ex e2
    obtain ⟨ob, c1, mm, c2, c3⟩ := s2.ce _ (List.mem_of_getElem? q3)
    rw [c2] at c1
    obtain ⟨t, rfl, h7⟩ := k2_at h3
    obtain ⟨s3, g3⟩ := sy_put s2 q3 (c' := mP (putP kvs k d)) (ob := .dT (putK mm (k2 k) v)) ⟨_, rfl, pv_put c3 (d.mono e2.g p1)⟩
    exact ⟨q, _, h2, DPut.t c1 (mi_sub _ _ h7) (by rw [← c3.len]; exact line_lt q4), _, _, q5, s3, s.a.trans (g1.trans (e2.g.trans g3))⟩)
theorem getP_put (kvs : List ((Int × Int) × D)) (k : Int × Int) (d : D) : getP (putP kvs k d) k = some d := by
  unfold putP
  split
  · rename_i h
    unfold getP
    induction kvs with
    | nil => cases h
    | cons x kvs ih =>
      rw [List.map_cons, List.find?_cons]
      by_cases e : x.1 = k
      · rw [if_pos e, e]
        simp
      · rw [if_neg e]
        rw [List.any_cons, decide_eq_false e, Bool.false_or] at h
        rw [decide_eq_false e]
        exact ih h
  · rename_i h
    unfold getP
    rw [List.find?_append]
    have : kvs.find? (fun x => decide (x.1 = k)) = none := by
      rw [List.find?_eq_none]
      intro x hx hk
      exact h (List.any_eq_true.mpr ⟨x, hx, hk⟩)
    rw [this]
    simp
/-- range(i, j, -1) -/
theorem wk_rngD {i j c' : Int} {tg : Expr} (hm : X.mg "range" = none) (ha : DE X ds ms a (R i)) (hb : DE X ds ms b (R j)) (hc : DE X ds ms c (R c')) (hcc : c' = -1) (hj : -(2 ^ 62) ≤ i ∧ i < 2 ^ 62 ∧ -(2 ^ 62) ≤ j ∧ j < 2 ^ 62) (hg : Gl X "range" := by rfl)
    (he : starEach [a, b, c] X.env = (false, eval a X.env) :: starEach [b, c] X.env := by rfl) (he1 : starEach [b, c] X.env = (false, eval b X.env) :: starEach [c] X.env := by rfl) (he2 : starEach [c] X.env = (false, eval c X.env) :: starEach [] X.env := by rfl) (hpl : (backTo pos (starEach [b, c] X.env)).any (·.1) = false := by rfl) :
    DWk X ds ms tg (.Call (.Name "range" p) [a, b, c] [] pos) ((stepL i (-1) (i - j).toNat).map fun x => R x) := ⟨_, pi_range3 hg hm (pa_cons (wE_ok a) (pa_cons (wE_ok b) (pa_cons (wE_ok c) pa_nil he2) he1) he) he hpl, fun σ H s Rr k => ha σ H s _ fun v H1 e1 h1 => hb σ H1 (s.ex e1) _ fun v2 H2 e2 h2 => hc σ H2 ((s.ex e1).ex e2) _ fun v3 H3 e3 h3 =>
  ⟨i, j, -1, (i - j).toNat, by rw [show v = V.int i from h1, show v2 = V.int j from h2, show v3 = V.int c' from h3, hcc], RgC.neg hj.1 hj.2.1 hj.2.2.1 hj.2.2.2, k _ H3 ((e1.trans e2).trans e3) ⟨_, _, by rw [List.length_map, stepL_len]; exact walk_rangeC, fun _ _ _ => trivial, fun i1 H2 x H3 d ps hp g y hd => by
  obtain ⟨rfl, y⟩ := y
  rw [List.getElem?_map] at hd
  obtain ⟨z, hz, rfl⟩ := Option.map_eq_some_iff.mp hd
  obtain ⟨_, hz2⟩ := stepL_get hz
  refine ⟨Ex.refl _ _, ?_⟩
  rw [hz2]
  exact y⟩⟩⟩
/-- xs[::-1], a new list -/
theorem n_rev {k : Nat} {p1 p2 p3 : Pos} (ha : DR X ds ms a dl) : DN X ds ms (.Subscript a (.Slice none none (some (.UnaryOp .USub (.Constant (.int 1) k p1) p2)) p3) pos) dl.reverse := fun σ H s Q kq => wE_of (pe_revL (wE_ok a)) (ha σ H s _ fun l vs H1 e1 h1 h2 h3 => ⟨l, vs, rfl, SqL.of h1, fun q hq => new_of s e1 hq h2.rev kq⟩)
theorem e_rev {α : Type} [Rp α] {xs : List α} {k : Nat} {p1 p2 p3 : Pos} (ha : DR X ds ms a (xs.map fun x => R x)) : DE X ds ms (.Subscript a (.Slice none none (some (.UnaryOp .USub (.Constant (.int 1) k p1) p2)) p3) pos) (R xs.reverse) :=
  e_eq (e_new (n_rev ha)) (by show dL _ = dL (xs.reverse.map fun x => R x); rw [List.map_reverse])
/-- a pure def, arguments that may change cells -/
theorem i_callP {A : Type} {S : Spec A} {x : Str} {k : Nat} (h : HasX X x k S) (hr : Room k X.A) (ha : DAi X ds ms (e :: es) fun dl m => ∃ a : A, S.args a = dl ∧ S.ms a = [] ∧ S.pre a ∧ ∀ d m2, S.post a d m2 → K d m)
    (hg : Gl X x := by rfl) (hdb : (x == ("__debug__" : Str)) = false := by decide) (he : starEach (e :: es) X.env = (false, eval e X.env) :: starEach es X.env := by rfl) (hpl : (backTo pos (starEach es X.env)).any (·.1) = false := by rfl) :
    DI X ds ms (.Call (.Name x p) (e :: es) [] pos) K := i_to (i_call h hr (K := fun d m => ∃ m', To m m' ∧ K d m') (fun σ H s Q kq => ha σ H s Q fun dl m vs H' ⟨a, h1, h2, h3, h4⟩ h5 h6 h7 => kq dl m vs H' ⟨a, m, h1, by rw [h2]; exact .refl _, h3, fun d m2 hd => ⟨m, To.less (List.sublist_append_right _ _), h4 d m2 hd⟩⟩ h5 h6 h7) hg hdb he hpl) fun d m h => h
end
end Bh
/-! B14: methods of what is new. -/
namespace Bh
open PySem PySem.Spec PyProof.Rows L2
section
variable {X : Cx} {ds : Ds} {ms : MS} {σ : L2.St} {H H' : Hp} {e o a b c : Expr} {es : List Expr} {rest : List Stmt} {d da db : D} {dl : List D} {K : D → MS → Prop} {E : SE} {pos p apos cpos : Pos} {q C : Addr} {fs : List (Str × D)} {f x m : Str}
/-- o.m(e, ..), o anything -/
theorem i_methI {A : Type} {S : Spec A} {k : Nat} (h : HasMX X C m k S) (hr : Room k X.A)
    (ho : DI X ds ms o fun d0 m0 => ∃ q fs, d0 = dAt q ∧ Inn m0 q (mI C fs) ∧ fs.lookup m = none ∧ DAi X ds m0 (e :: es) fun dl m => ∃ (a : A) (rest : MS), S.args a = dAt q :: dl ∧ (S.ms a ++ rest).Perm m ∧ S.pre a ∧ ∀ d m2, S.post a d m2 → K d (m2 ++ rest))
    (hst : starEach (e :: es) X.env = (false, eval e X.env) :: starEach es X.env := by rfl) (hpl : (backTo pos (starEach es X.env)).any (·.1) = false := by rfl) {pl : Sem Bool}
    (ht : eval (.Call (.Attribute o m apos) (e :: es) [] pos) X.env = (do
      let ov ← eval o X.env
      standAt apos.atName
      let (f, first) ← holding [ov] (getMethod ov m pl)
      callWith pos f first (backTo pos (starEach (e :: es) X.env)) (backToKw pos (keywordEach [] X.env))) := by rfl) :
    DI X ds ms (.Call (.Attribute o m apos) (e :: es) [] pos) K := fun σ H s Q hQ => by
  obtain ⟨f, fd, ps, hM, hb, F⟩ := h.h
  refine wE_of (pe_meth (wE_ok o) h.c hM F hr hb .nil pass0 (wA_ok _) hst hpl ht) ?_
  refine ho σ H s _ fun d0 m0 v H0 ⟨q, fs, e0, hm, l, ha⟩ s0 g0 h0 => ?_
  subst e0
  obtain ⟨_, ob, i1, dx, vs, i2, i3⟩ := hm.get s0
  subst i2
  refine ⟨q, dx, vs, h0, i1, fv_none i3 l, ?_⟩
  refine ha σ H0 s0 _ fun dl m vs H1 ⟨a, rest, h1, h2, h3, h4⟩ s1 g1 hv => ?_
  rw [List.append_nil]
  exact sp_of_state (ms := m) a h3 h2 s1.nd s1.ce (by rw [h1]; exact ⟨h0, hv⟩) fun d m2 v H2 k1 k2 k3 k4 k5 k6 => hQ d _ v H2 (h4 d m2 k1) (sy_call (d := d) (v := v) s1 k2 k3 k4) (g0.trans (g1.trans k3)) k6
end
theorem puts_app' (l : List Int) (A B : List (Int × Int)) : (A ++ B).foldl (fun l (x : Int × Int) => l.set x.1.toNat x.2) l = B.foldl (fun l (x : Int × Int) => l.set x.1.toNat x.2) (A.foldl (fun l (x : Int × Int) => l.set x.1.toNat x.2) l) := List.foldl_append ..
theorem ixN_of {n : Nat} {i : Int} (h0 : 0 ≤ i) (h : i < n) : ixN n i = some i.toNat := by
  unfold ixN
  rw [if_pos h0, if_pos h]
end Bh
/-! B15: targets that change cells; augmented items; min, max, abs; [x] * n; remove, count; match; wide ints. -/
namespace Bh
open PySem PySem.Spec PyProof.Rows L2
def DGi (X : Cx) (tg : Expr) (d : D) (ds : Ds) (ms : MS) (K : Ds → MS → Prop) : Prop := ∀ σ H v, Sy ds ms σ H → d.p (mi H (ads ms)) v → ∀ Q : L2.St → Hp → Prop, (∀ ds' ms' σ' H', K ds' ms' → Sy ds' ms' σ' H' → Same (mi H (ads ms)) (mi H' (ads ms')) → Q σ' H') → wG X tg v σ H Q
def DGsi (X : Cx) (ts : List Expr) (dl : List D) (ds : Ds) (ms : MS) (K : Ds → MS → Prop) : Prop := ∀ σ H vs, Sy ds ms σ H → All2 (fun (d : D) u => d.p (mi H (ads ms)) u) dl vs → ∀ Q : L2.St → Hp → Prop, (∀ ds' ms' σ' H', K ds' ms' → Sy ds' ms' σ' H' → Same (mi H (ads ms)) (mi H' (ads ms')) → Q σ' H') → wGs X ts vs σ H Q
/-- o[i] of a list, by values; i from 0 -/
def rGetL (K : PySem.W.Frag) : V → V → Hp → VK → Prop := fun o i H Q => ∃ p xs k v, o = .ref p ∧ i = .int k ∧ SqL K H p xs ∧ 0 ≤ k ∧ k < 2 ^ 63 ∧ xs[k.toNat]? = some v ∧ Q v H
theorem get_list {X : Cx} : PGet X (rGetL X.K) := by
  intro pins s σ H o i ov iv Q I ro ri h
  obtain ⟨p, xs, k, v, rfl, rfl, hq, h0, h1, hx, q⟩ := h
  cases ro
  obtain ⟨t, rfl⟩ := ri
  obtain ⟨its, r, pl, hz⟩ := I.list hq
  obtain ⟨u, hu, ru⟩ := r.get hx
  exact wpAny_getItem_list pl.isList h0 h1 (x := u) (by simpa using hu) ⟨v, H, I, ru, q⟩
/-- a op= b of ints by InOp's reading -/
def ipC (f : Int → Int → Int) (C : Int → Int → Prop) : TIp := rI C fun i j => .int (f i j)
section
variable {X : Cx} {ds : Ds} {ms : MS} {σ : L2.St} {H H' : Hp} {e o a b c : Expr} {es : List Expr} {rest : List Stmt} {d da db : D} {dl dl2 : List D} {K : D → MS → Prop} {KS : Ds → MS → Prop} {E : SE} {pos p apos cpos p2 : Pos} {q C : Addr} {fs : List (Str × D)} {f : Str}
theorem gi_of {tg : Expr} {f : Ds} (h : DG X tg d f) (hK : KS (f ++ ds) ms) : DGi X tg d ds ms KS := fun σ H v s hv Q k => h ds ms σ H v s hv Q fun σ' H' s' e _ => k _ _ σ' H' hK s' e.g
theorem gsi_nil (hK : KS ds ms) : DGsi X [] [] ds ms KS := fun σ H vs s h Q k pins sh us I r => by
  have e : vs = [] := by
    cases vs with
    | nil => rfl
    | cons a b => exact h.elim
  exact (pgs_nil).run pins sh σ H vs us Q I r ⟨e, k _ _ σ H hK s (Same.refl _)⟩
theorem gsi_cons {t : Expr} {ts : List Expr} (h1 : DGi X t d ds ms fun ds' ms' => DGsi X ts dl ds' ms' KS) (hs : (assignEach (t :: ts) X.env).map (·.2) = assign t X.env :: (assignEach ts X.env).map (·.2) := by rfl) : DGsi X (t :: ts) (d :: dl) ds ms KS := fun σ H vs s h Q k pins sh us I r => by
  cases vs with
  | nil => exact h.elim
  | cons v vs =>
    refine (pgs_cons (wG_ok t) (wGs_ok ts) hs).run pins sh σ H _ us Q I r ⟨v, vs, rfl, ?_⟩
    exact h1 σ H v s h.1 _ fun ds' ms' σ1 H1 h2 s1 e1 => h2 σ1 H1 vs s1 (h.2.imp fun d _ z => d.mono e1 z) _ fun ds2 ms2 σ2 H2 h3 s2 e2 => k ds2 ms2 σ2 H2 h3 s2 (e1.trans e2)
theorem gi_tup {ts : List Expr} {x1} (hc : X.calm = true) (h : DGsi X ts dl ds ms KS) (hn : (assignEach ts X.env).length = dl.length := by rfl) (hst : (assignEach ts X.env).findIdx? (·.1) = none := by rfl) : DGi X (.Tuple ts x1 pos) (dT dl) ds ms KS := fun σ H v s ⟨a, xs, h1, h2, h3⟩ Q k pins sh u I r =>
  (pg_tup hc (wGs_ok ts) hn hst).run pins sh σ H v u Q I r ⟨a, xs, h1, SqT.of (mi_sub _ _ h2), h3.len.symm, h σ H xs s h3 Q k⟩
/-- o[i] as a target, a list -/
theorem gi_item (k : Nat) {i : Expr} {j : Nat} {iv : Int} (ho : DE X ds ms o (dAt q)) (hi : DE X ds ms i (R iv)) (hm : ms[k]? = some (q, mL dl)) (hj : ixN dl.length iv = some j) (hK : KS ds (ms.set k (q, mL (dl.set j d))))
    (ha : ∀ v, assign (.Subscript o i pos) X.env v = (do
      let ov ← holding [v] (eval o X.env)
      let iv ← holding [v, ov] (eval i X.env)
      standAt pos
      holding [v, ov, iv] (setItem ov iv v)
      release [v, ov, iv] []) := by intro _; rfl) : DGi X (.Subscript o i pos) d ds ms KS := fun σ H v s hv Q kq pins sh u I r =>
  (pg_sub (wE_ok o) (wE_ok i) set_list ha).run pins sh σ H v u Q I r (two ho hi s fun x y H2 e2 h2 h3 => by
    have s2 := s.ex e2
    obtain ⟨us, c1, c2⟩ := cell_at s2 hm
    obtain ⟨s3, g3⟩ := sy_put s2 hm (c' := mL (dl.set j d)) (ob := .lst (us.set j v)) ⟨_, rfl, All2.set (r := fun (d : D) u => d.p (mi H2 (ads ms)) u) (d.mono e2.g hv) j c2⟩
    exact ⟨q, us, iv, j, h2, h3, c1, by rw [← c2.len]; exact hj, kq _ _ _ _ hK s3 (e2.g.trans g3)⟩)
/-- o.f as a target -/
def gFld (K : PySem.W.Frag) (to : TE) (f : Str) : TG := fun v σ H Q => to σ H fun x H1 => ∃ a C dx fs, x = .ref a ∧ H1 a = some (.ins C dx fs) ∧ Cls K C ∧ NoAttr K C f ∧ fs.length < 1000 ∧ Q σ (upd H1 a (.ins C dx (putF f v fs)))
theorem pg_fld {to : TE} (ho : PE X o to) (ha : ∀ v, assign (.Attribute o f pos) X.env v = (do
      let ov ← holding [v] (eval o X.env)
      standAt pos.atName
      holding [v, ov] (setAttr ov f v)
      release [v, ov] []) := by intro _; rfl) : PG X (.Attribute o f pos) (gFld X.K to f) := by
  refine ⟨fun pins s σ H v u Q I r h => ?_⟩
  rw [ha]
  refine wpAny_bind (wpAny_holding (thn (ho.run pins s σ H _ I h) fun ov s1 ⟨x, H1, I1, r1, a, C, dx, fs, ex, ea, c, n, hl, q1⟩ => ?_))
  subst ex
  obtain rfl : ov = Value.ref a := r1
  refine wpAny_bind (wpAny_standAt (wpAny_bind (wpAny_holding (setattr_ok I1 ea c n hl r fun s2 I2 => ?_))))
  exact wpAny_release ⟨σ, _, I2, q1⟩
theorem gi_fld (k : Nat) (c : Cls X.K C) (n : NoAttr X.K C f) (ho : DE X ds ms o (dAt q)) (hm : ms[k]? = some (q, mI C fs)) (hl : fs.length < 1000) (hK : KS ds (ms.set k (q, mI C (putD f d fs))))
    (ha : ∀ v, assign (.Attribute o f pos) X.env v = (do
      let ov ← holding [v] (eval o X.env)
      standAt pos.atName
      holding [v, ov] (setAttr ov f v)
      release [v, ov] []) := by intro _; rfl) : DGi X (.Attribute o f pos) d ds ms KS := fun σ H v s hv Q kq pins sh u I r =>
  (pg_fld (wE_ok o) ha).run pins sh σ H v u Q I r (ho σ H s _ fun x H2 e2 h2 => by
    have s2 := s.ex e2
    obtain ⟨ob, h3, dx, vs, h4, h5⟩ := s2.ce _ (List.mem_of_getElem? hm)
    subst h4
    obtain ⟨s3, g3⟩ := sy_put s2 hm (c' := mI C (putD f d fs)) (ob := .ins C dx (putF f v vs)) ⟨dx, _, rfl, fv_put (d.mono e2.g hv) h5⟩
    exact ⟨q, C, dx, vs, h2, h3, c, n, by rw [← h5.len]; exact hl, kq _ _ _ _ hK s3 (e2.g.trans g3)⟩)
/-- target = e, the target may change cells -/
theorem d_asgG {tg : Expr} (he : DI X ds ms e fun d m => DGi X tg d ds m fun ds' m' => DS X ds' m' rest E) (hs : swapsWithSole [tg] e pos.line X.env = pure false := by rfl) (hw : swappedStores [tg] e X.env = pure none := by rfl) (h1 : (assignEach [tg] X.env).map (·.2) = [assign tg X.env] := by rfl) :
    DS X ds ms (.Assign [tg] e pos :: rest) E := d_cons fun G0 σ H s => wS_of (ps_asg (wE_ok e) (wG_ok tg) hs hw h1) (he σ H s.s _ fun d m v H1 q1 s1 g1 p1 =>
  q1 σ H1 v s1 p1 _ fun ds2 m2 σ2 H2 q2 s2 g2 => ⟨_, _, q2, s2, s.a.trans (g1.trans g2)⟩)
/-- o[i] op= e of a list of ints -/
theorem d_augItem (k : Nat) {i : Expr} {j : Nat} {iv u v : Int} {op : Operator} {g : Int → Int → Int} {Cc : Int → Int → Prop} {tpos : Pos} (hop : OpR X (inplaceOp op) (rI Cc fun i j => .int (g i j))) (ho : DE X ds ms o (dAt q)) (hi : DE X ds ms i (R iv)) (hm : ms[k]? = some (q, mL dl)) (hj : iv = (j : Int)) (hjl : j < 1000000) (hu : dl[j]? = some (R u)) (he : DE X ds ms e (R v)) (hc : Cc u v)
    (h : DS X ds (ms.set k (q, mL (dl.set j (R (g u v))))) rest E) (ha : ∀ ov iv new, augStore i ov iv new = (do holding [new, ov, iv] (setItem ov iv new); release [new, ov, iv] []; pure .next) := by intros; rfl) : DS X ds ms (.AugAssign (.Subscript o i tpos) op e pos :: rest) E := d_cons fun G0 σ H s => by
  have hp : PIp X op (rI Cc fun i j => .int (g i j)) := fun pins s σ H x y v u Q I rx ry h => hop pins s σ H x y v u Q I rx ry h
  refine wS_of (ps_augS (wE_ok o) (wE_ok i) get_list (wE_ok e) hp set_list ha) ?_
  refine two ho hi s.s fun x y H2 e2 h2 h3 => ?_
  have s2 := s.s.ex e2
  obtain ⟨us, c1, c2⟩ := cell_at s2 hm
  obtain ⟨uv, c3, c4⟩ := c2.get hu
  have hlt : j < dl.length := (List.getElem?_eq_some_iff.mp hu).1
  refine ⟨q, us, iv, uv, h2, h3, SqL.of c1, by omega, by omega, by rw [hj, Int.toNat_natCast]; exact c3, ?_⟩
  refine he σ H2 s2 _ fun y3 H3 e3 h4 => ⟨u, v, c4, h4, hc, ?_⟩
  have s3 := s2.ex e3
  obtain ⟨us3, d1, d2⟩ := cell_at s3 hm
  obtain ⟨s4, g4⟩ := sy_put s3 hm (c' := mL (dl.set j (R (g u v)))) (ob := .lst (us3.set j (.int (g u v)))) ⟨_, rfl, All2.set (r := fun (d : D) u => d.p (mi H3 (ads ms)) u) (x := R (g u v)) rfl j d2⟩
  refine ⟨q, us3, iv, j, h2, h3, d1, by rw [← d2.len, hj]; exact ixN_of (by omega) (by omega), _, _, h, s4, s.a.trans (e2.g.trans (e3.g.trans g4))⟩
/-! ### built-ins -/
theorem e_min2 {i j : Int} (hc : X.calm = true) (hm : X.mg "min" = none) (ha : DE X ds ms a (R i)) (hb : DE X ds ms b (R j)) (hg : Gl X "min" := by rfl) (he : starEach [a, b] X.env = (false, eval a X.env) :: starEach [b] X.env := by rfl) (he2 : starEach [b] X.env = (false, eval b X.env) :: starEach [] X.env := by rfl) (hpl : (backTo pos (starEach [b] X.env)).any (·.1) = false := by rfl) :
    DE X ds ms (.Call (.Name "min" p) [a, b] [] pos) (R (if j < i then j else i)) :=
  e_callB (call_min2 hc) hm (by decide +kernel) (a_cons ha (a_cons hb a_nil he2) he) (fun σ H vs s p Q k => by
    match vs, p with
    | [v, w], p => exact ⟨i, j, by rw [show v = V.int i from p.1, show w = V.int j from p.2.1], k _ H (Ex.refl _ _) rfl⟩) hg (by decide) (by decide) he hpl
theorem e_max2 {i j : Int} (hc : X.calm = true) (hm : X.mg "max" = none) (ha : DE X ds ms a (R i)) (hb : DE X ds ms b (R j)) (hg : Gl X "max" := by rfl) (he : starEach [a, b] X.env = (false, eval a X.env) :: starEach [b] X.env := by rfl) (he2 : starEach [b] X.env = (false, eval b X.env) :: starEach [] X.env := by rfl) (hpl : (backTo pos (starEach [b] X.env)).any (·.1) = false := by rfl) :
    DE X ds ms (.Call (.Name "max" p) [a, b] [] pos) (R (if j > i then j else i)) :=
  e_callB (call_max2 hc) hm (by decide +kernel) (a_cons ha (a_cons hb a_nil he2) he) (fun σ H vs s p Q k => by
    match vs, p with
    | [v, w], p => exact ⟨i, j, by rw [show v = V.int i from p.1, show w = V.int j from p.2.1], k _ H (Ex.refl _ _) rfl⟩) hg (by decide) (by decide) he hpl
theorem e_abs {i : Int} (hm : X.mg "abs" = none) (ha : DE X ds ms a (R i)) (hg : Gl X "abs" := by rfl) (he : starEach [a] X.env = (false, eval a X.env) :: starEach [] X.env := by rfl) (hpl : (backTo pos (starEach [] X.env)).any (·.1) = false := by rfl) :
    DE X ds ms (.Call (.Name "abs" p) [a] [] pos) (R (if i < 0 then -i else i)) :=
  e_callB call_abs hm (by decide +kernel) (a_cons ha a_nil he) (fun σ H vs s p Q k => by
    match vs, p with
    | [v], p => exact ⟨i, by rw [show v = V.int i from p.1], k _ H (Ex.refl _ _) rfl⟩) hg (by decide) (by decide) he hpl
theorem e_mulW {i j : Int} (ha : DE X ds ms a (R i)) (hb : DE X ds ms b (R j)) (hc : CMulW i j) : DE X ds ms (.BinOp a .Mult b pos) (R (i * j)) := e_opI (g := fun i j => i * j) op_mulW ha hb hc
theorem e_fdivW {i j : Int} (ha : DE X ds ms a (R i)) (hb : DE X ds ms b (R j)) (hc : CDivW i j) : DE X ds ms (.BinOp a .FloorDiv b pos) (R (i / j)) := e_opI (g := fun i j => i / j) op_fdivW ha hb hc
/-- [x] * n -/
theorem n_rep {n : Int} (ha : DN X ds ms a [d]) (hb : DE X ds ms b (R n)) (h0 : 0 ≤ n) (hn : n ≤ 1000000) : DN X ds ms (.BinOp a .Mult b pos) (List.replicate n.toNat d) := fun σ H s Q k =>
  wE_of (pe_op op_rep (wE_ok a) (wE_ok b)) (ha σ H s _ fun l vs H1 e1 h1 h2 h3 h4 => by
    have s1 := s.ex e1
    refine hb σ H1 s1 _ fun v H2 e2 h5 => ?_
    have hl : mi H1 (ads ms) l = some (.lst vs) := mi_of h3 h2 fun x z => by cases z
    have hl2 := mi_sub _ _ (e2.g _ _ hl)
    match vs, h4 with
    | [w], h4 =>
      have h6 : d.p (mi H2 (ads ms)) w := d.mono ((mi_less fun b hb => List.mem_cons_of_mem _ hb : Same (mi H1 (l :: ads ms)) (mi H1 (ads ms))).trans e2.g) h4.1
      refine ⟨l, n, [w], rfl, h5, hl2, by omega, by omega, by rw [List.length_singleton, Nat.one_mul]; exact line_of (by omega), fun q hq => ?_⟩
      have e3 : (List.replicate n.toNat [w]).flatten = List.replicate n.toNat w := by
        induction n.toNat with
        | zero => rfl
        | succ n ih => rw [List.replicate_succ, List.flatten_cons, ih]; rfl
      rw [e3]
      refine new_of s (e1.trans e2) hq ?_ k
      induction n.toNat with
      | zero => trivial
      | succ n ih => exact ⟨h6, ih⟩)
/-- xs.count(k) -/
theorem e_count {ns : List Int} {k : Int} (ho : DR X ds ms o (ns.map fun x => R x)) (he : DE X ds ms e (R k)) (hbase : attributeBase o "count" X.env (eval o X.env) = eval o X.env := by rfl)
    (hfew : ((backTo cpos (starEach [e] X.env)).all (fun x => !x.1) && (backToKw cpos (keywordEach [] X.env)).all (fun x => x.1.isSome)
      && decide ([e].length + ([] : List Keyword).length + (if ([] : List Keyword).isEmpty then 0 else 1) < 30)) = true := by rfl)
    (hline : (apos.endLine == cpos.line) = true := by rfl) (hs : starEach [e] X.env = (false, eval e X.env) :: starEach [] X.env := by rfl) (hplain : (backTo cpos (starEach [] X.env)).any (·.1) = false := by rfl) :
    DE X ds ms (.Call (.Attribute o "count" apos) [e] [] cpos) (R ((ns.count k : Nat) : Int)) := fun σ H s Q kq =>
  wE_of (pe_bm PySem.F.plainAttrs_list PySem.F.slot_list_count PySem.F.type_list_count mt_lcount (wE_ok o) (wA_ok _) hbase hfew hline hs hplain) (ho σ H s _ fun l vs H1 e1 h1 h2 h3 => by
    refine ⟨.inl ⟨rfl, vs, SqL.of h1⟩, ?_⟩
    refine a_cons he a_nil hs σ H1 (s.ex e1) _ fun us H2 e2 p2 => ?_
    match us, p2 with
    | [u], p2 =>
      have h5 : H2 l = some (.lst vs) := by
        rcases h3 with h3 | h3
        · exact mi_sub _ _ (e2.g _ _ h3)
        · rw [e2.c l h3]; exact h1
      have ev := map_of (f := V.int) (fun _ _ _ h => h) h2
      exact ⟨l, ns, k, rfl, by rw [show u = V.int k from p2.1], by rw [← ev]; exact SqL.of h5, kq _ H2 (e1.trans e2) rfl⟩)
/-- xs.remove(k) -/
theorem i_remove {ns : List Int} {k : Int} (jx : Nat) (ho : DE X ds ms o (dAt q)) (hq : ms[jx]? = some (q, mR ns)) (he : DE X ds ms e (R k)) (hk : k ∈ ns) (hK : K (R ()) (ms.set jx (q, mR (ns.erase k))))
    (hbase : attributeBase o "remove" X.env (eval o X.env) = eval o X.env := by rfl)
    (hfew : ((backTo cpos (starEach [e] X.env)).all (fun x => !x.1) && (backToKw cpos (keywordEach [] X.env)).all (fun x => x.1.isSome)
      && decide ([e].length + ([] : List Keyword).length + (if ([] : List Keyword).isEmpty then 0 else 1) < 30)) = true := by rfl)
    (hline : (apos.endLine == cpos.line) = true := by rfl) (hs : starEach [e] X.env = (false, eval e X.env) :: starEach [] X.env := by rfl) (hplain : (backTo cpos (starEach [] X.env)).any (·.1) = false := by rfl) :
    DI X ds ms (.Call (.Attribute o "remove" apos) [e] [] cpos) K :=
  i_bm (id := "remove") PySem.F.slot_list_remove PySem.F.type_list_remove mt_remove jx ho hq (ai_pure (a_one he hs) ⟨⟨_, hq⟩, fun σ H vs s p Q kq => by
    obtain ⟨us, c1, c2⟩ := cell_at s hq
    have ev := map_of (f := V.int) (fun _ _ _ h => h) c2
    subst ev
    match vs, p with
    | [v], p =>
      obtain ⟨j, hj, hj2, hno, he2⟩ : ∃ j, j < ns.length ∧ ns[j]? = some k ∧ (∀ i, i < j → ns[i]? ≠ some k) ∧ ns.eraseIdx j = ns.erase k := by
        refine ⟨ns.idxOf k, List.idxOf_lt_length_iff.mpr hk, ?_, fun i hi hn => ?_, (List.erase_eq_eraseIdx_of_idxOf rfl).symm⟩
        · rw [List.getElem?_eq_getElem (List.idxOf_lt_length_iff.mpr hk), List.getElem_idxOf]
        · obtain ⟨h1, h2⟩ := List.getElem?_eq_some_iff.mp hn
          have := List.not_of_lt_findIdx (p := (· == k)) (xs := ns) (i := i) hi
          simp [h2] at this
      obtain ⟨s2, g2⟩ := sy_put s hq (c' := mR (ns.erase k)) (ob := .lst ((ns.eraseIdx j).map V.int)) ⟨_, rfl, by
        rw [he2]
        generalize ns.erase k = l
        induction l with
        | nil => trivial
        | cons x l ih => exact ⟨rfl, ih⟩⟩
      exact ⟨q, ns, k, j, rfl, by rw [show v = V.int k from p.1], c1, hj2, hno, kq _ _ _ _ hK s2 g2 rfl⟩⟩) hbase hfew hline hs hplain
end
end Bh
/-! B16: methods of what is new and known for good; None in a list; dicts put and got. -/
namespace Bh
open PySem PySem.Spec PyProof.Rows L2
theorem hu65 {k : Nat} {A : Around} (hr : Room k A) : A.units + 65 < cLine := by have := hr.un; omega
theorem getI_put (kvs : List (Int × D)) (k : Int) (d : D) (p : Int) : getI (putI kvs k d) p = if p = k then some d else getI kvs p := by
  unfold putI
  split
  · rename_i h
    by_cases hp : p = k
    · subst hp
      rw [if_pos rfl]
      unfold getI
      induction kvs with
      | nil => cases h
      | cons x kvs ih =>
        rw [List.map_cons, List.find?_cons]
        by_cases e : x.1 = p
        · rw [if_pos e, e]
          simp
        · rw [if_neg e]
          rw [List.any_cons, decide_eq_false e, Bool.false_or] at h
          rw [decide_eq_false e]
          exact ih h
    · rw [if_neg hp]
      clear h
      unfold getI
      induction kvs with
      | nil => rfl
      | cons x kvs ih =>
        rw [List.map_cons, List.find?_cons, List.find?_cons]
        by_cases e : x.1 = k
        · rw [if_pos e]
          have : ¬ x.1 = p := fun z => hp (z.symm.trans e)
          rw [decide_eq_false this]
          exact ih
        · rw [if_neg e]
          by_cases e2 : x.1 = p
          · rw [decide_eq_true e2]
          · rw [decide_eq_false e2]
            exact ih
  · rename_i h
    unfold getI
    rw [List.find?_append]
    by_cases hp : p = k
    · subst hp
      rw [if_pos rfl]
      have : kvs.find? (fun x => decide (x.1 = p)) = none := by
        rw [List.find?_eq_none]
        intro x hx hk
        exact h (List.any_eq_true.mpr ⟨x, hx, hk⟩)
      rw [this]
      simp
    · rw [if_neg hp]
      have e : ([(k, d)] : List (Int × D)).find? (fun x => decide (x.1 = p)) = none := by
        rw [List.find?_cons, decide_eq_false (fun z : k = p => hp z.symm)]
        rfl
      rw [e, Option.or_none]
theorem putI_len (kvs : List (Int × D)) (k : Int) (d : D) : (putI kvs k d).length ≤ kvs.length + 1 := by
  unfold putI
  split
  · rw [List.length_map]; omega
  · rw [List.length_append, List.length_singleton]; omega
def pyO : Option (Int × Int) → PyData
  | none => .none
  | some x => Pd.py x
instance : Pd (Option (Int × Int)) := ⟨pyO, fun K x G v h => by
  cases x with
  | none => rw [show v = V.non from h]; exact .non
  | some x => exact Pd.dp K x G v h, Pd.n (Int × Int), fun x => by
  cases x with
  | none => exact Nat.zero_le _
  | some x => exact Pd.dpt x, fun x y => by
  cases x with
  | none =>
    cases y with
    | none => exact ⟨fun _ => rfl, fun _ => rfl⟩
    | some y => exact ⟨fun h => (by cases h), fun h => (by cases h)⟩
  | some x =>
    cases y with
    | none => exact ⟨fun h => (by cases h), fun h => (by cases h)⟩
    | some y => rw [Option.some.injEq]; exact Pd.eq x y⟩
instance : Py0 (Option (Int × Int)) := ⟨fun x => by
  cases x with
  | none => rfl
  | some x => exact Py0.lay x⟩
section
variable {X : Cx} {ds : Ds} {ms : MS} {σ : L2.St} {H H' : Hp} {e o a b c : Expr} {es : List Expr} {rest : List Stmt} {d da db : D} {dl : List D} {K : D → MS → Prop} {E : SE} {pos p apos cpos : Pos} {q C : Addr} {fs : List (Str × D)} {f x m : Str}
/-- None in xs -/
theorem b_noneIn {α : Type} [Rp α] [DecidableEq α] [Pd (Option α)] [Py0 (Option α)] {xs : List (Option α)} (hu : X.A.units + 65 < cLine) (ha : DE X ds ms a (R ())) (hb : DE X ds ms b (R xs)) (h0 : (Pd.py (none : Option α)) = .none) (hn : Pd.n (List (Option α)) ≤ 64 := by decide) (hm : behindInMarks .In b = false := by rfl) :
    DB X ds ms (.Compare a [.In] [b] pos) (xs.any (·.isNone)) := b_cmp (op_inD hu) ha hb (hm := hm) fun σ H u v s h1 h2 Q k => by
  refine ⟨.none, xs.map Pd.py, by rw [show u = V.non from h1]; exact .non, dp_mono mi_sub (Pd.dp X.K xs _ v h2), rfl, shp (x := xs) (Py0.lay _) hn, ?_⟩
  have e : ((xs.map Pd.py).any fun z => PyData.eqv z .none) = xs.any (·.isNone) := by
    rw [List.any_map]
    refine congrArg (fun f => xs.any f) (funext fun x => ?_)
    show PyData.eqv (Pd.py x) .none = x.isNone
    rw [← h0]
    cases x with
    | none => exact (Pd.eq _ _).mpr rfl
    | some y =>
      show PyData.eqv (Pd.py (some y)) (Pd.py none) = false
      rw [Bool.eq_false_iff]
      intro z
      have := (Pd.eq (some y) none).mp z
      cases this
  rw [e]
  exact k _ H (Ex.refl _ _) rfl
/-- o.m(e, ..), o new, then for good -/
theorem i_methJ {A : Type} {S : Spec A} {k : Nat} (h : HasMX X C m k S) (hr : Room k X.A)
    (ho : DI X ds ms o fun d0 m0 => ∃ fs, d0 = dI C fs ∧ fs.lookup m = none ∧ DAi X ds m0 (e :: es) fun dl m => ∃ (a : A) (rest : MS), S.args a = dI C fs :: dl ∧ (S.ms a ++ rest).Perm m ∧ S.pre a ∧ ∀ d m2, S.post a d m2 → ∃ m', To (m2 ++ rest) m' ∧ K d m')
    (hst : starEach (e :: es) X.env = (false, eval e X.env) :: starEach es X.env := by rfl) (hpl : (backTo pos (starEach es X.env)).any (·.1) = false := by rfl) {pl : Sem Bool}
    (ht : eval (.Call (.Attribute o m apos) (e :: es) [] pos) X.env = (do
      let ov ← eval o X.env
      standAt apos.atName
      let (f, first) ← holding [ov] (getMethod ov m pl)
      callWith pos f first (backTo pos (starEach (e :: es) X.env)) (backToKw pos (keywordEach [] X.env))) := by rfl) :
    DI X ds ms (.Call (.Attribute o m apos) (e :: es) [] pos) K := fun σ H s Q hQ => by
  obtain ⟨f, fd, ps, hM, hb, F⟩ := h.h
  refine wE_of (pe_meth (wE_ok o) h.c hM F hr hb .nil pass0 (wA_ok _) hst hpl ht) ?_
  refine ho σ H s _ fun d0 m0 v H0 ⟨fs, e0, l, ha⟩ s0 g0 h0 => ?_
  subst e0
  obtain ⟨a1, dx, vs, i0, i1, i3⟩ := h0
  subst i0
  refine ⟨a1, dx, vs, rfl, mi_sub _ _ i1, fv_none i3 l, ?_⟩
  refine ha σ H0 s0 _ fun dl m vs2 H1 ⟨a, rest, h1, h2, h3, h4⟩ s1 g1 hv => ?_
  rw [List.append_nil]
  refine sp_of_state (ms := m) a h3 h2 s1.nd s1.ce (by rw [h1]; exact ⟨⟨a1, dx, vs, rfl, g1 _ _ i1, i3.mono g1⟩, hv⟩) fun d m2 v H2 k1 k2 k3 k4 k5 k6 => ?_
  obtain ⟨m', t, hK⟩ := h4 d m2 k1
  obtain ⟨s3, g3⟩ := t.sy (sy_call (d := d) (v := v) s1 k2 k3 k4)
  exact hQ d m' v H2 hK s3 (g0.trans (g1.trans (k3.trans g3))) (d.mono g3 k6)
end
end Bh
/-! B17: dict displays of two ints, get with a default; star targets; match on a text; try that does not raise; in a tuple. -/
namespace Bh
open PySem PySem.Spec PyProof.Rows L2
/-- a, *b = a list -/
def gSt (K : PySem.W.Frag) (t : TGs) : TG := fun v σ H Q => ∃ a x xs, v = .ref a ∧ SqL K H a (x :: xs) ∧ xs.length ≤ 16000 ∧ ∀ D, H D = none → t [x, .ref D] σ (upd H D (.lst xs)) Q
section
variable {X : Cx} {ds : Ds} {ms : MS} {σ : L2.St} {H H' : Hp} {e o a b c : Expr} {es : List Expr} {rest body : List Stmt} {d da db d1 d2 : D} {dl dl2 : List D} {K : D → MS → Prop} {KS : Ds → MS → Prop} {E : SE} {pos p apos cpos p2 : Pos} {q C : Addr} {fs : List (Str × D)} {f : Str} {kvs : List (Int × D)}
theorem pg_star {es : List Expr} {k : Nat} {t : TGs} (hc : X.calm = true) (h : PGs X es t) (hn : (assignEach es X.env).length = 2 := by rfl) (hst : (assignEach es X.env).findIdx? (·.1) = some 1 := by rfl) : PG X (.Tuple es k pos) (gSt X.K t) := by
  refine ⟨fun pins s σ H v u Q I r hw => ?_⟩
  obtain ⟨a, x, xs, e1, hq, hz, hw⟩ := hw
  subst e1
  cases r
  obtain ⟨its, rv, pl, hz2⟩ := I.list hq
  obtain ⟨u0, us, rfl, r0, rs⟩ : ∃ u0 us, its = u0 :: us ∧ RelV x u0 ∧ Vals xs us := by
    cases rv with
    | cons h t => exact ⟨_, _, rfl, h, t⟩
  have hl := pl.isList
  have hlen : us.length = xs.length := rs.length.symm
  rw [PyProof.Rows.assign_Tuple]
  refine wpAny_bind (wpAny_standAt ?_)
  unfold unpack
  rw [hn, hst]
  refine wpAny_bind (wpAny_holding ?_)
  have hlt : a ≠ s.heap.objs.size := by obtain ⟨o, ho, _⟩ := hl; exact Nat.ne_of_lt (Heap.lt_size ho)
  unfold unpackItems
  refine wpAny_bind ?_
  unfold notIterableAtAll
  refine wpAny_bind (wpAny_specialOf hl.typeIs slot_list_iter.lookup ?_)
  refine wpAny_pure ?_
  simp only [Bool.false_eq_true, if_false]
  refine wpAny_bind (wpAny_holding (wpAny_pyIter_list hl ?_))
  refine wpAny_bind (wpAny_holding (PySem.W.kun_draw hlt 1 0 _ _ ⟨_, Heap.get?_push_size _ rfl, rfl, rfl⟩ (hl.push _) (by simp) fun h₁ hit₁ hs₁ => ?_))
  have hl₁ : h₁.IsList a (u0 :: us).toArray := (hl.push _).extBut hs₁.extBut hlt
  rw [Nat.zero_add] at hit₁
  have hit₁' := hit₁
  obtain ⟨oi, hoi, _⟩ := hit₁'
  have hl₁' := hl₁
  obtain ⟨ol, hol, _⟩ := hl₁'
  rw [List.drop_zero]
  rw [if_neg (show ¬ (((u0 :: us).toArray.toList.take 1).length < 1) by simp)]
  refine wpAny_bind (wpAny_holding (PySem.W.kun_collect (s := { s with heap := h₁ }) (T := "list_iterator") (.inr (.inr (.inl rfl))) (Walks.list (A := X.A.in1) (I.ok.hd hc) s.heap.objs.size a hlt (u0 :: us).toArray) (fun j u st => st.1.typeIs) (k := 1) (by simp) ⟨hit₁, hl₁⟩ (Heap.lt_size hoi) (Heap.lt_size hol) (fun h₂ tk hk => ?_) (by rw [sizeLine_eq]; simp; omega)))
  have he : ∀ b o, b ≠ s.heap.objs.size → s.heap.get? b = some o → h₂.get? b = some o := fun b o hb e => hk b o hb (hs₁.extBut b o hb (Heap.get?_push_of_some _ e))
  have I1 : Inv X pins σ H { s with heap := h₂, toks := tk } := I.kept (t' := tk) fun b o e => he b o (Nat.ne_of_lt (Heap.lt_size e)) e
  have e0 : (u0 :: us).toArray.toList.drop 1 = us := by simp
  have e1 : (u0 :: us).toArray.toList.take 1 = [u0] := by simp
  rw [e0, e1]
  show wpAny _ _ (if us.length < 2 - 1 - 1 then _ else _) _ _ _
  rw [if_neg (by omega)]
  show wpAny _ _ (newList (us.take (us.length - (2 - 1 - 1))) >>= fun d => pure ([u0] ++ [d] ++ us.drop (us.length - (2 - 1 - 1)))) _ _ _
  rw [show us.length - (2 - 1 - 1) = us.length by omega, List.take_length, List.drop_length]
  refine wpAny_bind (wpAny_newList ?_ (by rw [sizeLine_eq]; omega))
  have hf : H h₂.objs.size = none := I1.hok.fresh (Nat.le_refl _)
  have I2 : Inv X pins σ (upd H h₂.objs.size (.lst xs)) { s with heap := h₂.push { cls := .type "list", data := .seq us.toArray }, toks := tk } := I1.laid (t' := tk) (fun b u e => Heap.get?_push_of_some _ e) (Nat.le_refl _) ⟨by rw [sizeLine_eq]; omega, us, 0, rs, Heap.get?_push_size _ rfl⟩
  exact wpAny_pure (h.run pins _ σ _ [x, .ref h₂.objs.size] _ Q I2 (.cons r0 (.cons rfl .nil)) (hw _ hf))
/-- x, *y = a list for good -/
theorem g_star {es : List Expr} {x1} {f : Ds} (hc : X.calm = true) (h : DGs X es [d, dL dl] f) (hz : dl.length ≤ 16000) (hn : (assignEach es X.env).length = 2 := by rfl) (hst : (assignEach es X.env).findIdx? (·.1) = some 1 := by rfl) : DG X (.Tuple es x1 pos) (dL (d :: dl)) f := fun ds ms σ H v s ⟨a, xs, h1, h2, h3⟩ Q k pins sh u I r => by
  match xs, h3 with
  | y :: ys, h3 =>
    refine (pg_star hc (wGs_ok es) hn hst).run pins sh σ H v u Q I r ⟨a, y, ys, h1, SqL.of (mi_sub _ _ h2), by rw [← h3.2.len]; exact hz, fun D hD => ?_⟩
    have e1 := s.new (o := .lst ys) hD
    refine h ds ms σ (upd H D (.lst ys)) [y, .ref D] (s.ex e1) ⟨d.mono e1.g h3.1, ⟨D, ys, rfl, mi_new (fun _ z => s.ce.there z) hD (fun x z => by cases z), h3.2.imp fun d _ z => d.mono e1.g z⟩, trivial⟩ Q fun σ' H' s' e' u' => k σ' H' s' (e1.trans e') u'
theorem gs_starred {t : Expr} {p : Pos} {f : Ds} (h : DG X t d f) : DG X (.Starred t p) d f → DG X (.Starred t p) d f := id
/-- the last target, starred -/
theorem gs_last {t : Expr} {p : Pos} {f : Ds} (h1 : DG X t d f) (hs : (assignEach [.Starred t p] X.env).map (·.2) = [assign t X.env] := by rfl) : DGs X [.Starred t p] [d] f := fun ds ms σ H vs s h Q k pins sh us I r => by
  match vs, h with
  | [v], h =>
    cases r with
    | cons r0 rr =>
      cases rr
      rw [hs]
      exact assignInOrder_cons (thn (h1 ds ms σ H v s h.1 Q (fun σ' H' s' e' u' => k σ' H' s' e' u') pins sh _ I r0) fun _ s1 ⟨σ1, H1, I1, q1⟩ => assignInOrder_nil ⟨σ1, H1, I1, q1⟩)

/-! ### {a: x, b: y}; d.get(k, x) -/
theorem kv_mergeK2 {G : Hp} {k1 k2 : Int} {v1 v2 : V} (h1 : d1.p G v1) (h2 : d2.p G v2) : KvOk G (putI (putI [] k1 d1) k2 d2) (mergeK [] [(.inl k1, v1), (.inl k2, v2)]) :=
  kv_put (kv_put (kvs := []) (m := []) trivial h1) h2
theorem e_disp2 {k1 k2 i1 i2 : Int} {e1 e2 e3 e4 : Expr} (g1 : DE X ds ms e1 (R k1)) (g2 : DE X ds ms e2 (R i1)) (g3 : DE X ds ms e3 (R k2)) (g4 : DE X ds ms e4 (R i2)) : DE X ds ms (.Dict [some e1, some e3] [e2, e4] pos) (dD (putI (putI [] k1 (R i1)) k2 (R i2))) := fun σ H s Q kq =>
  wE_of (pe_disp (pps_cons (wE_ok e1) (wE_ok e2) (pps_cons (wE_ok e3) (wE_ok e4) pps_nil)) rfl rfl (by simp) (by show 2 ≤ 15; decide)) fun p hp => by
    have x0 := s.new (o := .dK []) hp
    have s0 := s.ex x0
    have np : p ∉ ads ms := fun z => s.ce.there z hp
    refine g1 σ _ s0 _ fun u1 H1 x1 h1 => g2 σ H1 (s0.ex x1) _ fun u2 H2 x2 h2 => g3 σ H2 ((s0.ex x1).ex x2) _ fun u3 H3 x3 h3 => g4 σ H3 (((s0.ex x1).ex x2).ex x3) _ fun u4 H4 x4 h4 => ?_
    have xa := ((x1.trans x2).trans x3).trans x4
    have hp0 : mi (upd H p (.dK [])) (ads ms) p = some (.dK []) := mi_of upd_same np fun x z => by cases z
    refine ⟨mi_sub _ _ (xa.g _ _ hp0), [(.inl k1, u2), (.inl k2, u4)], by rw [show u1 = V.int k1 from h1, show u3 = V.int k2 from h3]; rfl, (by show 2 ≤ 15; decide), ?_⟩
    have hx : Ex (ads ms) H (upd H4 p (.dK (mergeK [] [(.inl k1, u2), (.inl k2, u4)]))) := by
      refine ⟨fun b u hb => ?_, fun b hb => by rw [upd_ne (fun z => np (by rw [← z]; exact hb)), xa.c b hb, x0.c b hb]⟩
      obtain ⟨y1, y2, y3⟩ := mi_some hb
      have hbp : b ≠ p := ne_of_none y2 hp
      have := mi_some ((x0.g.trans xa.g) _ _ hb)
      exact mi_of (by rw [upd_ne hbp]; exact this.2.1) y1 y3
    exact kq _ _ hx ⟨p, _, rfl, mi_of upd_same np (fun x z => by cases z), kv_mergeK2 (G := mi (upd H4 p (.dK (mergeK [] [(.inl k1, u2), (.inl k2, u4)]))) (ads ms)) (d1 := R i1) (d2 := R i2) h2 h4⟩
/-- d.get(k, x) -/
theorem e_getD2 {k : Int} (hu : X.A.units + 1 < cLine) (hd : DE X ds ms o (dD kvs)) (hk : DE X ds ms a (R k)) (hx : DE X ds ms b d) (hres : ∀ G v w, d.p G w → (match getI kvs k, v with | some e, some u => e.p G u | none, none => True | _, _ => False) → d1.p G (v.getD w))
    (m : M2 X o "get" apos a b cpos := by exact ⟨rfl, rfl, rfl, rfl⟩) : DE X ds ms (.Call (.Attribute o "get" apos) [a, b] [] cpos) d1 :=
  e_of (pe_dget2 hu (wE_ok o) (wE_ok a) (wE_ok b) m) fun σ H s Q kq => hd σ H s _ fun v H1 e1 ⟨l, mm, h0, h1, h2⟩ => ⟨l, h0, .inl ⟨mm, .inl (mi_sub _ _ h1)⟩, hk σ H1 (s.ex e1) _ fun y H2 e2 h3 => hx σ H2 ((s.ex e1).ex e2) _ fun z H3 e3 h4 => by
    have h5 : mi H3 (ads ms) l = some (.dK mm) := (e2.trans e3).g _ _ h1
    have h6 : KvOk (mi H3 (ads ms)) kvs mm := h2.imp fun x y q => ⟨q.1, x.2.mono (e2.trans e3).g q.2⟩
    refine ⟨valV mm (.inl k), dgk (mi_sub _ _ h5) h3, kq _ H3 ((e1.trans e2).trans e3) (hres _ _ _ h4 ?_)⟩
    have := kv_get k h6
    cases g1 : getI kvs k with
    | none =>
      cases g2 : valV mm (.inl k) with
      | none => trivial
      | some u => rw [g1, g2] at this; exact this
    | some e =>
      cases g2 : valV mm (.inl k) with
      | none => rw [g1, g2] at this; exact this
      | some u => rw [g1, g2] at this; exact this⟩
/-- d.get(k, x) of ints, an int -/
theorem e_getDI {k i : Int} {f : Int → Option Int} (hu : X.A.units + 1 < cLine) (hd : DE X ds ms o (dD kvs)) (hk : DE X ds ms a (R k)) (hx : DE X ds ms b (R i)) (hg : getI kvs k = (f k).map fun j => (R j : D))
    (m : M2 X o "get" apos a b cpos := by exact ⟨rfl, rfl, rfl, rfl⟩) : DE X ds ms (.Call (.Attribute o "get" apos) [a, b] [] cpos) (R ((f k).getD i)) := e_getD2 hu hd hk hx (fun G v w hw h => by
  rw [hg] at h
  cases e : f k with
  | none =>
    rw [e] at h
    cases v with
    | none => exact hw
    | some u => exact h.elim
  | some j =>
    rw [e] at h
    cases v with
    | none => exact h.elim
    | some u => exact h) m

/-! ### match on a text -/
def DM (X : Cx) (ds : Ds) (ms : MS) (z : Str) (cs : List MatchCase) (E : SE) : Prop := ∀ G0 σ H, Sg G0 ds ms σ H → ∀ (pins : List (Addr × Obj)) (s : Shared) (t : Tok) (first : Bool), Inv X pins σ H s → wpAny (model X.prog X.w) X.A (matchCases cs X.env (.str z t) first) (SP X pins (E.sem G0)) X.xe s
theorem d_match {z : Str} {cs : List MatchCase} (he : DE X ds ms e (R z)) (h : DM X ds ms z cs { E with nx := fun ds' ms' => DS X ds' ms' rest E }) : DS X ds ms (.Match e cs pos :: rest) E := d_cons fun G0 σ H s pins sh I => by
  show wpAny _ _ (exec (.Match e cs pos) X.env) _ _ _
  have hx : exec (.Match e cs pos) X.env = (do standAt pos; let v ← eval e X.env; matchCases cs X.env v true) := by
    first
      | rfl
      | (unfold exec; rfl)
  rw [hx]
  refine wpAny_bind (wpAny_standAt (wpAny_bind (thn (he σ H s.s (fun x H1 => x = .str z ∧ Sg G0 ds ms σ H1) (fun v H1 e1 p1 => ⟨p1, s.ex e1⟩) pins sh I) fun u s1 ⟨x, H1, I1, r1, q1, q2⟩ => ?_)))
  subst q1
  obtain ⟨t, rfl⟩ := (show ∃ t, u = Value.str z t from r1)
  exact h G0 σ H1 q2 pins s1 t true I1
theorem m_nil {z : Str} (h : E.nx ds ms) : DM X ds ms z [] E := fun G0 σ H s pins sh t first I => wpAny_matchCases_nil ⟨σ, H, I, ds, ms, h, s⟩
theorem m_case {z y : Str} {cs : List MatchCase} {j : Nat} {p1 p2 : Pos} (k : Bool) (hk : decide (z = y) = k) (h : k = false → DM X ds ms z cs E) (hb : k = true → DS X ds ms body E) : DM X ds ms z (⟨.MatchValue (.Constant (.str y) j p1) p2, none, body⟩ :: cs) E := fun G0 σ H s pins sh t first I => by
  refine wpAny_matchCases_cons (wpAny_matchPattern_Value ?_)
  refine thn ((pe_str (X := X) (x := y) (pos := p1)).run pins sh σ H (fun v H1 => v = .str y ∧ H1 = H) I ⟨rfl, rfl⟩) fun u s1 ⟨v, H1, I1, r1, e1, e2⟩ => ?_
  subst e1
  subst e2
  refine thn (op_eq pins s1 σ H1 (.str z) (.str y) (.str z t) u (fun v H2 => v = .bl k ∧ H2 = H1) I1 ⟨t, rfl⟩ r1 ⟨rfl, by rw [show decide (V.str z = V.str y) = decide (z = y) from decide_eq_decide.mpr ⟨fun h => V.str.inj h, fun h => by rw [h]⟩, hk], rfl⟩) fun c s2 ⟨v, H2, I2, r2, e3, e4⟩ => ?_
  subst e3
  subst e4
  obtain rfl : c = Value.bool k := r2
  refine wpAny_truthy_bool ?_
  cases k with
  | true =>
    show wpAny _ _ (assignInOrder [] []) _ _ _
    exact assignInOrder_nil (hb rfl G0 σ H2 s pins s2 I2)
  | false => exact h rfl G0 σ H2 s pins s2 t false I2
theorem m_wild {z : Str} {cs : List MatchCase} {p1 : Pos} (hb : DS X ds ms body E) : DM X ds ms z (⟨.MatchAs none none p1, none, body⟩ :: cs) E := fun G0 σ H s pins sh t first I => by
  refine wpAny_matchCases_cons (wpAny_matchPattern_Capture ?_)
  show wpAny _ _ (assignInOrder [] []) _ _ _
  exact assignInOrder_nil (hb G0 σ H s pins sh I)

/-! ### try .. except x: .., nothing raised -/
theorem d_try {b₀ : Stmt} {suite : List Stmt} {x : Str} {c : Value} {np pos' : Pos} (hc : Names X x c) (hs : X.stack = X.env :: X.outer) (hf : X.env.frame = some X.env.locals) (h : ∀ pn xe, PassesOwn (model X.prog X.w) X.A X.env xe → DS (X.tr pn xe) ds ms body { E with nx := fun ds' ms' => DS X ds' ms' rest E }) :
    DS X ds ms (.Try body [.ExceptHandler (some (.Name x np)) none (b₀ :: suite) pos'] [] [] pos :: rest) E := d_cons fun G0 σ H s => by
  refine wS_of (ps_try_only (c := c) (Wout := fun _ _ _ _ => False) (tb := fun _ D σ H => ∀ pn xe, PassesOwn (model X.prog X.w) X.A X.env xe → wSs (X.tr pn xe) body D σ H) (ts := fun a cls d D σ H => ∀ oe pn, wSs (X.suite a ((a, oe) :: pn)) (b₀ :: suite) D σ H) hs hf hc (fun u s' ⟨_, _, _, _, _, _, _, _, _, _, _, _, _, _, _, _, q⟩ => q.elim) (fun W pn xe _ hp => ⟨fun pins sh σ H D I hh => hh pn xe hp pins sh I⟩) (fun a oe cls d pn _ _ => ⟨fun pins sh σ H D I hh => hh oe pn pins sh I⟩)) ?_
  exact fun pn xe hp pins sh I => h pn xe hp G0 σ H s pins sh I
/-- x in (y1, y2), texts -/
theorem b_inT2 {z y1 y2 : Str} (ha : DE X ds ms a (R z)) (hb : DE X ds ms b (dT [R y1, R y2])) (hm : behindInMarks .In b = false := by rfl) : DB X ds ms (.Compare a [.In] [b] pos) (y1 == z || (y2 == z || false)) :=
  b_cmp (r := rIn X.K false) op_in_seq ha hb (fun σ H x y s hx ⟨l, vs, h1, h2, h3⟩ Q k => by
    match vs, h3 with
    | [v, w], h3 =>
      have e1 : v = V.str y1 := h3.1
      have e2 : w = V.str y2 := h3.2.1
      subst e1
      subst e2
      refine ⟨l, _, h1, .inr (SqT.of (mi_sub _ _ h2)), by rw [show x = V.str z from hx]; rfl, rfl, ?_⟩
      rw [show x = V.str z from hx]
      exact k _ H (Ex.refl _ _) rfl) hm
end
end Bh
/-! B18: reading calls where the cells are known more sharply. -/
namespace Bh
open PySem PySem.Spec PyProof.Rows L2
section
variable {X : Cx} {ds : Ds} {ms : MS} {σ : L2.St} {H H' : Hp} {e o a b c : Expr} {es : List Expr} {rest : List Stmt} {d da db : D} {dl : List D} {K : D → MS → Prop} {E : SE} {pos p apos cpos : Pos} {q C : Addr} {fs : List (Str × D)} {f x m : Str}
theorem weak_ads : ∀ {cs' cs : MS}, All2 (fun x y : Addr × MC => x.1 = y.1 ∧ ∀ G o, x.2.p G o → y.2.p G o) cs' cs → cs'.map (·.1) = cs.map (·.1)
  | [], [], _ => rfl
  | x :: cs', y :: cs, h => by rw [List.map_cons, List.map_cons, h.1.1, weak_ads h.2]
  | [], _ :: _, h => h.elim
  | _ :: _, [], h => h.elim
theorem sp_roW {A : Type} {S : Spec A} (cs' cs rest : MS) (hw : All2 (fun x y : Addr × MC => x.1 = y.1 ∧ ∀ G o, x.2.p G o → y.2.p G o) cs' cs) (hp' : (cs' ++ rest).Perm ms) (s : Sy ds ms σ H) {vs : List V} {Q : VK} {E : XK}
    (h : ∀ g : Addr → HO, ∃ a, S.ms a = roMs cs g ∧ S.args a = dl ∧ S.pre a ∧ ∀ d' m, S.post a d' m → d' = d ∧ ∃ m1, m = roMs cs g ++ m1)
    (hv : All2 (fun (d : D) u => d.p (mi H (ads ms)) u) dl vs) (hQ : ∀ v H', Ex (ads ms) H H' → d.p (mi H' (ads ms)) v → Q v H') : spOf S vs H Q E := by
  obtain ⟨a, h1, h2, h3, h4⟩ := h fun p => (H p).getD (.lst [])
  have hin : ∀ q ∈ cs, ∃ o, H q.1 = some o ∧ q.2.p (mi H (ads ms)) o := fun q hq => by
    obtain ⟨i, hi⟩ := List.getElem?_of_mem hq
    obtain ⟨q', h5, h6, h7⟩ := hw.get' hi
    obtain ⟨o, h8, h9⟩ := s.ce q' (hp'.mem_iff.mp (List.mem_append_left _ (List.mem_of_getElem? h5)))
    exact ⟨o, h6 ▸ h8, h7 _ _ h9⟩
  have eac : cs'.map (·.1) = cs.map (·.1) := weak_ads hw
  let ms2 : MS := roMs cs (fun p => (H p).getD (.lst [])) ++ rest
  have ea : ads ms2 = ads (cs ++ rest) := by
    show (roMs cs _ ++ rest).map (·.1) = (cs ++ rest).map (·.1)
    rw [List.map_append, List.map_append]
    exact congrArg (· ++ ads rest) (ro_ads cs _)
  have hpa : (ads (cs ++ rest)).Perm (ads ms) := by
    have := hp'.map (fun q : Addr × MC => q.1)
    rw [List.map_append] at this
    show ((cs ++ rest).map (·.1)).Perm _
    rw [List.map_append, ← eac]
    exact this
  have em : mi H (ads ms2) = mi H (ads ms) := by
    rw [ea]
    funext b
    unfold mi
    simp only [hpa.mem_iff]
  refine sp_of_state (ms := ms2) (rest := rest) a h3 (by rw [h1]) (by rw [ea]; exact hpa.nodup_iff.mpr s.nd) (fun q hq => ?_) (by rw [em, h2]; exact hv) fun d' m v H2 k1 k2 k3 k4 k5 k6 => ?_
  · rw [em]
    rcases List.mem_append.mp hq with hq | hq
    · obtain ⟨r, hr, rfl⟩ := List.mem_map.mp hq
      obtain ⟨o, i1, i2⟩ := hin r hr
      refine ⟨o, i1, ?_, i2⟩
      show o = (H r.1).getD _
      rw [i1]
      rfl
    · exact s.ce q (hp'.mem_iff.mp (List.mem_append_right _ hq))
  · obtain ⟨rfl, m1, rfl⟩ := h4 d' m k1
    have hsub : ∀ b ∈ ads ms, b ∈ ads (roMs cs (fun p => (H p).getD (.lst [])) ++ m1 ++ rest) := fun b hb => by
      have hb2 := hpa.mem_iff.mpr hb
      show b ∈ (roMs cs _ ++ m1 ++ rest).map (·.1)
      rw [List.map_append, List.map_append]
      have hb3 : b ∈ cs.map (·.1) ++ rest.map (·.1) := by rw [← List.map_append]; exact hb2
      rcases List.mem_append.mp hb3 with z | z
      · exact List.mem_append_left _ (List.mem_append_left _ (by rw [show (roMs cs _).map (·.1) = ads cs from ro_ads cs _]; exact z))
      · exact List.mem_append_right _ z
    have e : Same (mi H2 (ads (roMs cs (fun p => (H p).getD (.lst [])) ++ m1 ++ rest))) (mi H2 (ads ms)) := mi_less hsub
    refine hQ v H2 ⟨?_, fun b hb => ?_⟩ (d'.mono e k6)
    · rw [em] at k3
      exact k3.trans e
    · have hb3 : b ∈ cs.map (·.1) ++ rest.map (·.1) := by rw [← List.map_append]; exact hpa.mem_iff.mpr hb
      rcases List.mem_append.mp hb3 with z | z
      · obtain ⟨r, hr, rfl⟩ := List.mem_map.mp z
        obtain ⟨o, i1, i2⟩ := k4 (r.1, mB r.2 ((H r.1).getD (.lst []))) (List.mem_append_left _ (List.mem_append_left _ (List.mem_map_of_mem (f := fun q : Addr × MC => (q.1, mB q.2 ((H q.1).getD (.lst [])))) hr)))
        obtain ⟨o2, j1, _⟩ := hin r hr
        have i3 : o = (H r.1).getD (.lst []) := i2.1
        rw [j1] at i3 ⊢
        rw [i1, i3]
        rfl
      · exact k5 b z
/-- o.m(e, ..), that only reads -/
theorem e_methRW {A : Type} {S : Spec A} {k : Nat} (h : HasMX X C m k S) (hr : Room k X.A) (ho : DE X ds ms o (dAt q)) (hm : Inn ms q (mI C fs)) (l : fs.lookup m = none) (cs' cs rest : MS) (hw : All2 (fun x y : Addr × MC => x.1 = y.1 ∧ ∀ G o, x.2.p G o → y.2.p G o) cs' cs) (hp : (cs' ++ rest).Perm ms)
    (hS : ∀ g : Addr → HO, ∃ a, S.ms a = roMs cs g ∧ S.args a = dAt q :: dl ∧ S.pre a ∧ ∀ d' m, S.post a d' m → d' = d ∧ ∃ m1, m = roMs cs g ++ m1) (ha : DA X ds ms (e :: es) dl)
    (hst : starEach (e :: es) X.env = (false, eval e X.env) :: starEach es X.env := by rfl) (hpl : (backTo pos (starEach es X.env)).any (·.1) = false := by rfl) {pl : Sem Bool}
    (ht : eval (.Call (.Attribute o m apos) (e :: es) [] pos) X.env = (do
      let ov ← eval o X.env
      standAt apos.atName
      let (f, first) ← holding [ov] (getMethod ov m pl)
      callWith pos f first (backTo pos (starEach (e :: es) X.env)) (backToKw pos (keywordEach [] X.env))) := by rfl) :
    DE X ds ms (.Call (.Attribute o m apos) (e :: es) [] pos) d := fun σ H s Q hQ => by
  obtain ⟨f, fd, ps, hM, hb, F⟩ := h.h
  refine wE_of (pe_meth (wE_ok o) h.c hM F hr hb .nil pass0 (wA_ok _) hst hpl ht) ?_
  refine ho σ H s _ fun v H0 e0 h0 => ?_
  have s0 := s.ex e0
  obtain ⟨_, ob, i1, dx, vs, i2, i3⟩ := hm.get s0
  subst i2
  refine ⟨q, dx, vs, h0, i1, fv_none i3 l, ?_⟩
  refine ha σ H0 s0 _ fun vs1 H1 e1 hv => ?_
  rw [List.append_nil]
  exact sp_roW cs' cs rest hw hp (s0.ex e1) hS ⟨h0, hv⟩ fun v H2 e2 h2 => hQ v H2 ((e0.trans e1).trans e2) h2
theorem e_methRW0 {A : Type} {S : Spec A} {k : Nat} (h : HasMX X C m k S) (hr : Room k X.A) (ho : DE X ds ms o (dAt q)) (hm : Inn ms q (mI C fs)) (l : fs.lookup m = none) (cs' cs rest : MS) (hw : All2 (fun x y : Addr × MC => x.1 = y.1 ∧ ∀ G o, x.2.p G o → y.2.p G o) cs' cs) (hp : (cs' ++ rest).Perm ms)
    (hS : ∀ g : Addr → HO, ∃ a, S.ms a = roMs cs g ∧ S.args a = [dAt q] ∧ S.pre a ∧ ∀ d' m, S.post a d' m → d' = d ∧ ∃ m1, m = roMs cs g ++ m1) {pl : Sem Bool}
    (ht : eval (.Call (.Attribute o m apos) [] [] pos) X.env = (do
      let ov ← eval o X.env
      standAt apos.atName
      let (f, first) ← holding [ov] (getMethod ov m pl)
      callWith pos f first (backTo pos (starEach [] X.env)) (backToKw pos (keywordEach [] X.env))) := by rfl) :
    DE X ds ms (.Call (.Attribute o m apos) [] [] pos) d := fun σ H s Q hQ => by
  obtain ⟨f, fd, ps, hM, hb, F⟩ := h.h
  refine wE_of (pe_meth0 (wE_ok o) h.c hM F hr hb .nil pass0 ht) ?_
  refine ho σ H s _ fun v H0 e0 h0 => ?_
  have s0 := s.ex e0
  obtain ⟨_, ob, i1, dx, vs, i2, i3⟩ := hm.get s0
  subst i2
  refine ⟨q, dx, vs, h0, i1, fv_none i3 l, ?_⟩
  exact sp_roW (E := E0) (vs := [v]) cs' cs rest hw hp s0 hS ⟨h0, trivial⟩ fun v H2 e2 h2 => hQ v H2 (e0.trans e2) h2
/-- o.f, a property that only reads -/
theorem e_propW {A : Type} {S : Spec A} {k : Nat} (h : HasPX X C m k S) (hr : Room (k + 1) X.A) (ho : DE X ds ms o (dAt q)) (hm : Inn ms q (mI C fs)) (cs' cs rest : MS) (hw : All2 (fun x y : Addr × MC => x.1 = y.1 ∧ ∀ G o, x.2.p G o → y.2.p G o) cs' cs) (hp : (cs' ++ rest).Perm ms)
    (hS : ∀ g : Addr → HO, ∃ a, S.ms a = roMs cs g ∧ S.args a = [dAt q] ∧ S.pre a ∧ ∀ d' m, S.post a d' m → d' = d ∧ ∃ m1, m = roMs cs g ++ m1)
    (hab : attributeBase o m X.env (eval o X.env) = eval o X.env := by rfl) : DE X ds ms (.Attribute o m pos) d := fun σ H s Q hQ => by
  obtain ⟨pp, f, fd, ps, hM, hb, F⟩ := h.h
  refine wE_of (pe_prop (wE_ok o) h.c hM F hr hb .nil pass0 hab) ?_
  refine ho σ H s _ fun v H0 e0 h0 => ?_
  have s0 := s.ex e0
  obtain ⟨_, ob, i1, dx, vs, i2, i3⟩ := hm.get s0
  subst i2
  refine ⟨q, dx, vs, h0, i1, ?_⟩
  exact sp_roW (E := E0) (vs := [.ref q]) cs' cs rest hw hp s0 hS ⟨rfl, trivial⟩ fun v H2 e2 h2 => hQ v H2 (e0.trans e2) h2
end
end Bh
/-! B19: choices that change cells. -/
namespace Bh
open PySem PySem.Spec PyProof.Rows L2
section
variable {X : Cx} {ds : Ds} {ms : MS} {σ : L2.St} {H H' : Hp} {e o a b c : Expr} {es : List Expr} {rest : List Stmt} {d da db : D} {dl : List D} {K : D → MS → Prop} {KB : Bool → MS → Prop} {E : SE} {pos p apos cpos : Pos} {q C : Addr}
theorem bi_val (h : DI X ds ms e fun d m => ∃ k : Bool, d = R k ∧ KB k m) (he : ∀ whole, isTrue e X.env whole = (do let v ← whole; standAt e.pos; holding [v] (truthy v)) := by intro _; rfl) : DBi X ds ms e KB := fun σ H s Q q =>
  wT_of (pt_val (wE_ok e) he) (h σ H s _ fun d m v H1 ⟨k, e1, hk⟩ s1 g1 p1 => by
    subst e1
    exact ⟨k, p1, q k m H1 hk s1 g1⟩)
theorem i_if (h : DBi X ds ms c fun k m => (k = true → DI X ds m a K) ∧ (k = false → DI X ds m b K)) : DI X ds ms (.IfExp c a b pos) K := fun σ H s Q q =>
  wE_of (pe_ifExp (wT_ok c) (wE_ok a) (wE_ok b)) (h σ H s _ fun k m H1 ⟨h1, h2⟩ s1 g1 => by
    cases k with
    | true => exact iteT (h1 rfl σ H1 s1 _ fun d m2 v H2 hk s2 g2 p2 => q d m2 v H2 hk s2 (g1.trans g2) p2)
    | false => exact iteF (h2 rfl σ H1 s1 _ fun d m2 v H2 hk s2 g2 p2 => q d m2 v H2 hk s2 (g1.trans g2) p2))
theorem bi_not (h : DBi X ds ms a fun k m => KB (!k) m) : DBi X ds ms (.UnaryOp .Not a pos) KB := fun σ H s Q q =>
  wT_of (pt_not (wT_ok a)) (h σ H s _ fun k m H1 hk s1 g1 => q (!k) m H1 hk s1 g1)
theorem bi_imp {KB' : Bool → MS → Prop} (h : DBi X ds ms e KB') (hk : ∀ k m, KB' k m → KB k m) : DBi X ds ms e KB := fun σ H s Q q => h σ H s Q fun k m H1 h1 => q k m H1 (hk k m h1)
/-- a != b of ints, texts, bools -/
theorem bi_neS {α : Type} [Rp α] [DecidableEq α] [Sc α] (h : DI X ds ms a fun da m => ∃ i : α, da = R i ∧ DI X ds m b fun db m' => ∃ j : α, db = R j ∧ KB (!decide (i = j)) m') : DBi X ds ms (.Compare a [.NotEq] [b] pos) KB := fun σ H s Q k =>
  wT_of (pt_cmpR op_ne (wE_ok a) (wE_ok b) (nomark _)) (h σ H s _ fun da m x H1 ⟨i, e1, q1⟩ s1 g1 p1 => by
    subst e1
    exact q1 σ H1 s1 _ fun db m' y H2 ⟨j, e2, q2⟩ s2 g2 p2 => by
      subst e2
      have p1' := (Rp.d i).mono g2 p1
      rw [Sc.eq] at p1' p2
      subst p1' p2
      refine ⟨Sc.ok i j, _, rfl, ?_⟩
      rw [sc_dec]
      exact k _ m' H2 q2 s2 (g1.trans g2))
/-- or, and -/
def DWi (X : Cx) (ds : Ds) (ms : MS) (e : Expr) (KB : Bool → MS → Prop) : Prop := ∀ σ H, Sy ds ms σ H → ∀ Q : Bool → Hp → Prop, (∀ k m H', KB k m → Sy ds m σ H' → Same (mi H (ads ms)) (mi H' (ads m)) → Q k H') → wW X e σ H Q
theorem bi_w (h : DWi X ds ms e KB) : DBi X ds ms e KB := fun σ H s Q q => wT_of (wW_ok e).pt (h σ H s Q q)
theorem wi_or1 (h : DBi X ds ms a KB) : DWi X ds ms (.BoolOp .Or [a] pos) KB := fun σ H s Q q => wW_of (pw_or1 (wT_ok a)) (h σ H s Q q)
theorem wi_or {r : List Expr} (h : DBi X ds ms a fun k m => (k = true → KB true m) ∧ (k = false → DWi X ds m (.BoolOp .Or (b :: r) pos) KB)) : DWi X ds ms (.BoolOp .Or (a :: b :: r) pos) KB := fun σ H s Q q => wW_of (pw_or (wT_ok a) (wW_ok _)) (h σ H s _ fun k m H1 ⟨h1, h2⟩ s1 g1 => by
  cases k with
  | true => exact iteT (q true m H1 (h1 rfl) s1 g1)
  | false => exact iteF (h2 rfl σ H1 s1 Q fun k m' H2 hk s2 g2 => q k m' H2 hk s2 (g1.trans g2)))
theorem bi_or2 (h : DBi X ds ms a fun k m => (k = true → KB true m) ∧ (k = false → DBi X ds m b KB)) : DBi X ds ms (.BoolOp .Or [a, b] pos) KB :=
  bi_w (wi_or (bi_imp h fun k m ⟨h1, h2⟩ => ⟨h1, fun z => wi_or1 (h2 z)⟩))
theorem bi_or3 (h : DBi X ds ms a fun k m => (k = true → KB true m) ∧ (k = false → DBi X ds m b fun k2 m2 => (k2 = true → KB true m2) ∧ (k2 = false → DBi X ds m2 c KB))) : DBi X ds ms (.BoolOp .Or [a, b, c] pos) KB :=
  bi_w (wi_or (bi_imp h fun k m ⟨h1, h2⟩ => ⟨h1, fun z => wi_or (bi_imp (h2 z) fun k m ⟨h3, h4⟩ => ⟨h3, fun z => wi_or1 (h4 z)⟩)⟩))
end
def pyI : Option Int → PyData
  | none => .none
  | some x => .int x
instance : Pd (Option Int) := ⟨pyI, fun K x G v h => by
  cases x with
  | none => rw [show v = V.non from h]; exact .non
  | some x => exact Pd.dp K x G v h, 0, fun x => by cases x <;> exact Nat.le_refl _, fun x y => by
  cases x with
  | none =>
    cases y with
    | none => exact ⟨fun _ => rfl, fun _ => rfl⟩
    | some y => exact ⟨fun h => (by cases h), fun h => (by cases h)⟩
  | some x =>
    cases y with
    | none => exact ⟨fun h => (by cases h), fun h => (by cases h)⟩
    | some y => rw [Option.some.injEq]; exact Pd.eq x y⟩
instance : Py0 (Option Int) := ⟨fun x => by
  cases x with
  | none => rfl
  | some x => rfl⟩
end Bh
/-! B20: in a list of ints. -/
namespace Bh
open PySem PySem.Spec PyProof.Rows L2
section
variable {X : Cx} {ds : Ds} {ms : MS} {e a b c : Expr} {pos p : Pos}
theorem inV_ints (k : Int) : ∀ xs : List Int, inV (V.int k) (xs.map V.int) = decide (k ∈ xs)
  | [] => rfl
  | x :: xs => by
    have h1 : inV (V.int k) ((x :: xs).map V.int) = (eqV (V.int x) (V.int k) || inV (V.int k) (xs.map V.int)) := rfl
    have h2 : eqV (V.int x) (V.int k) = decide (x = k) := rfl
    rw [h1, h2, inV_ints k xs]
    by_cases e : x = k
    · subst e
      simp
    · have e' : ¬ k = x := fun z => e z.symm
      simp [e, e']
theorem flat_ints : ∀ xs : List Int, (xs.map V.int).all flatV = true
  | [] => rfl
  | x :: xs => by
    rw [List.map_cons, List.all_cons, flat_ints xs]
    rfl
theorem ints_of {G : Hp} : ∀ {xs : List Int} {vs : List V}, All2 (fun (d : D) u => d.p G u) (xs.map fun x => R x) vs → vs = xs.map V.int
  | [], [], _ => rfl
  | x :: xs, v :: vs, h => by
    rw [List.map_cons, ints_of h.2, show v = V.int x from h.1]
  | [], _ :: _, h => h.elim
  | _ :: _, [], h => h.elim
/-- k in a list of ints -/
theorem b_inL {k : Int} {xs : List Int} (ha : DE X ds ms a (R k)) (hb : DR X ds ms b (xs.map fun x => R x)) (hm : behindInMarks .In b = false := by rfl) : DB X ds ms (.Compare a [.In] [b] pos) (decide (k ∈ xs)) := fun σ H s Q q =>
  wT_of (pt_cmpR op_in_seq (wE_ok a) (wE_ok b) hm) (ha σ H s _ fun u H1 e1 h1 => hb σ H1 (s.ex e1) _ fun l vs H2 e2 h2 h3 h4 => by
    have e3 : vs = xs.map V.int := ints_of h3
    refine ⟨l, vs, rfl, .inl (SqL.of h2), by rw [show u = V.int k from h1]; rfl, by rw [e3]; exact flat_ints xs, ?_⟩
    rw [show u = V.int k from h1, e3]
    show _
    rw [inV_ints]
    exact ⟨_, rfl, q H2 (e1.trans e2)⟩)
end
end Bh
/-! B21: dicts that change no more (locked for good): dict(pairs), in, [], get, values; calls that see cells for good; a walk over a cell. -/
namespace Bh
open PySem PySem.Spec PyProof.Rows L2
/-- a dict, locked for good -/
def dF (kvs : List (Int × D)) : D := ⟨fun G v => ∃ a od m, v = .ref a ∧ G a = some (.frz od (.dK m)) ∧ KvOk G kvs m, fun s ⟨a, od, m, h0, h1, h2⟩ => ⟨a, od, m, h0, s _ _ h1, h2.imp fun x y q => ⟨q.1, x.2.mono s q.2⟩⟩⟩
theorem dgf {H : Hp} {a : Addr} {od : Obj} {m : List (Key × V)} {k : Int} {y : V} (e : H a = some (.frz od (.dK m))) (hy : y = .int k) : DGet H a y (valV m (.inl k)) := by
  rw [hy]
  exact .inl ⟨m, .inl k, .inr ⟨od, e⟩, rfl, rfl⟩
section
variable {X : Cx} {ds : Ds} {ms : MS} {σ : L2.St} {H H' : Hp} {e o a b c : Expr} {es : List Expr} {rest : List Stmt} {d da db d1 : D} {dl : List D} {kvs : List (Int × D)} {K : D → MS → Prop} {E : SE} {pos p apos cpos : Pos} {q : Addr} {k : Int}
/-- the thing that e gives is locked for good -/
theorem pe_lk {t : TE} (h : PE X e t) : PE X e (fun σ H Q => t σ H fun x H1 => ∃ d u, x = .ref d ∧ H1 d = some u ∧ Mut (some u) ∧ ∀ od, Q x (upd H1 d (.frz od u))) := by
  refine ⟨fun pins s σ H Q I hw => ?_⟩
  refine thn (h.run pins s σ H _ I hw) fun v s1 ⟨x, H1, I1, r, d, u, ex, hd, mu, q⟩ => ?_
  obtain ⟨od, I2⟩ := I1.lock hd mu
  exact ⟨x, _, I2, r, q od⟩
theorem upd_upd {H : Hp} {q : Addr} {u v : HO} : upd (upd H q u) q v = upd H q v := by
  funext b
  unfold upd
  split <;> rfl
/-- the pairs of a list, as the model asks for them -/
theorem pairs_of' {K : PySem.W.Frag} {G : Hp} : ∀ {ws : List (Int × Int)} {vs : List V}, All2 (fun (d : D) u => d.p G u) (ws.map fun x => R x) vs → ∃ ps : List Addr, vs = ps.map V.ref ∧ Paired (fun p (kv : Key × V) => SqT K G p [kV kv.1, kv.2]) ps (ws.map fun x => ((.inl x.1 : Key), V.int x.2))
  | [], [], _ => ⟨[], rfl, .nil⟩
  | x :: ws, v :: vs, h => by
    obtain ⟨ps, h1, h2⟩ := pairs_of' (K := K) h.2
    obtain ⟨p, us, h3, h4, h5⟩ := h.1
    match us, h5 with
    | [u1, u2], h5 =>
      have e1 : u1 = V.int x.1 := h5.1
      have e2 : u2 = V.int x.2 := h5.2.1
      subst e1
      subst e2
      exact ⟨p :: ps, by rw [h3, h1]; rfl, .cons (SqT.of h4) h2⟩
  | [], _ :: _, h => h.elim
  | _ :: _, [], h => h.elim
def wD (ws : List (Int × Int)) : List (Int × D) := ws.map fun x => (x.1, R x.2)
theorem kv_merge {G : Hp} : ∀ (ws : List (Int × Int)) (kvs : List (Int × D)) (m : List (Key × V)), (∀ x ∈ ws, ∀ y ∈ kvs, y.1 ≠ x.1) → (ws.map (·.1)).Nodup → KvOk G kvs m → KvOk G (kvs ++ wD ws) (mergeK m (ws.map fun x => ((.inl x.1 : Key), V.int x.2)))
  | [], kvs, m, _, _, h => by
    show KvOk G (kvs ++ []) m
    rw [List.append_nil]
    exact h
  | x :: ws, kvs, m, hn, nd, h => by
    have nd2 := List.nodup_cons.mp (show (x.1 :: ws.map (·.1)).Nodup from nd)
    have hx : (getI kvs x.1).isSome = false := by
      unfold getI
      rw [Option.isSome_map]
      cases e : kvs.find? fun y => decide (y.1 = x.1) with
      | none => rfl
      | some y =>
        have h1 := List.mem_of_find?_eq_some e
        have h2 := List.find?_some e
        exact absurd (of_decide_eq_true h2) (hn x List.mem_cons_self y h1)
    have h3 : KvOk G (kvs ++ [(x.1, R x.2)]) (putK m (.inl x.1) (.int x.2)) := by
      rw [← putI_new (d := R x.2) hx]
      exact kv_put h rfl
    have h4 := kv_merge ws (kvs ++ [(x.1, R x.2)]) (putK m (.inl x.1) (.int x.2)) (fun y hy z hz => by
      rcases List.mem_append.mp hz with hz | hz
      · exact hn y (List.mem_cons_of_mem _ hy) z hz
      · rw [List.mem_singleton.mp hz]
        intro e
        exact nd2.1 (by show x.1 ∈ _; rw [show x.1 = y.1 from e]; exact List.mem_map_of_mem hy)) nd2.2 h3
    have e : kvs ++ wD (x :: ws) = kvs ++ [(x.1, R x.2)] ++ wD ws := by rw [List.append_assoc]; rfl
    rw [e]
    exact h4
/-- dict(a list of pairs), locked for good -/
theorem e_dictF {ws : List (Int × Int)} (hc : X.calm = true) (hm : X.mg "dict" = none) (ha : DE X ds ms a (R ws)) (nd : (ws.map (·.1)).Nodup) (hg : Gl X "dict" := by rfl) (he : starEach [a] X.env = (false, eval a X.env) :: starEach [] X.env := by rfl) (hpl : (backTo pos (starEach [] X.env)).any (·.1) = false := by rfl) : DE X ds ms (.Call (.Name "dict" p) [a] [] pos) (dF (wD ws)) :=
  e_of (pe_lk (pe_callTy (call_dictP hc) hg hm (by decide +kernel) (pa_cons (wE_ok a) pa_nil he) (by decide) (by decide) he hpl)) fun σ H s Q kq => ha σ H s _ fun v H1 e1 ⟨l, vs, h0, h1, h2⟩ => by
    obtain ⟨ps, h3, h4⟩ := pairs_of' (K := X.K) h2
    have s1 := s.ex e1
    refine ⟨l, ps, ws.map fun x => ((.inl x.1 : Key), V.int x.2), by rw [h0], by rw [← h3]; exact SqL.of (mi_sub _ _ h1), L2.Paired.mapP h4 fun p kv hq => ?_, fun q hq => ⟨q, _, rfl, upd_same, trivial, fun od => ?_⟩⟩
    · rcases hq with hq | hq
      · exact .inl (by
          rcases hq with hq | ⟨od, hq⟩
          · exact .inl (mi_sub _ _ hq)
          · exact .inr ⟨od, mi_sub _ _ hq⟩)
      · exact .inr hq
    · rw [upd_upd]
      have e2 := s1.new (o := .frz od (.dK (mergeK [] (ws.map fun x => ((.inl x.1 : Key), V.int x.2))))) hq
      refine kq _ _ (e1.trans e2) ⟨q, od, _, rfl, mi_new (fun _ z => s1.ce.there z) hq (fun x z => by cases z), ?_⟩
      have := kv_merge (G := mi (upd H1 q (.frz od (.dK (mergeK [] (ws.map fun x => ((.inl x.1 : Key), V.int x.2)))))) (ads ms)) ws [] [] (fun x _ y hy => nomatch hy) nd trivial
      exact this
theorem wD_get (ws : List (Int × Int)) (k : Int) : getI (wD ws) k = (ws.lookup k).map fun j => (R j : D) := by
  unfold getI wD
  induction ws with
  | nil => rfl
  | cons x ws ih =>
    rw [List.map_cons, List.find?_cons]
    show _ = Option.map _ (match k == x.1 with | true => some x.2 | false => ws.lookup k)
    by_cases e : x.1 = k
    · rw [decide_eq_true e, beq_iff_eq.mpr e.symm]
      rfl
    · rw [decide_eq_false e, show (k == x.1) = false from beq_eq_false_iff_ne.mpr fun z => e z.symm]
      exact ih
theorem b_inF (hu : X.A.units + 1 < cLine) (hk : DE X ds ms a (R k)) (hd : DE X ds ms b (dF kvs)) (hm : behindInMarks .In b = false := by rfl) : DB X ds ms (.Compare a [.In] [b] pos) (getI kvs k).isSome := fun σ H s Q kq =>
  wT_of (pt_cmp (pc_din hu (wE_ok a) (wE_ok b)) hm) (hk σ H s _ fun v H1 e1 h1 => hd σ H1 (s.ex e1) _ fun u H2 e2 ⟨l, od, m, h0, h2, h3⟩ => ⟨l, _, h0, dgf (mi_sub _ _ h2) h1, by
    rw [kv_some h3]
    exact ⟨_, rfl, kq H2 (e1.trans e2)⟩⟩)
theorem b_ninF (hu : X.A.units + 1 < cLine) (hk : DE X ds ms a (R k)) (hd : DE X ds ms b (dF kvs)) (hm : behindInMarks .NotIn b = false := by rfl) : DB X ds ms (.Compare a [.NotIn] [b] pos) (!(getI kvs k).isSome) := fun σ H s Q kq =>
  wT_of (pt_cmp (pc_dnotin hu (wE_ok a) (wE_ok b)) hm) (hk σ H s _ fun v H1 e1 h1 => hd σ H1 (s.ex e1) _ fun u H2 e2 ⟨l, od, m, h0, h2, h3⟩ => ⟨l, _, h0, dgf (mi_sub _ _ h2) h1, by
    rw [kv_some h3]
    exact ⟨_, rfl, kq H2 (e1.trans e2)⟩⟩)
theorem e_getF (hu : X.A.units + 1 < cLine) (hd : DE X ds ms a (dF kvs)) (hk : DE X ds ms b (R k)) (h : getI kvs k = some d) (hs : NoSl b := by exact fun _ _ => rfl) : DE X ds ms (.Subscript a b pos) d :=
  e_of (pe_dget hu (wE_ok a) (wE_ok b) hs) fun σ H s Q kq => hd σ H s _ fun x H1 e1 ⟨l, od, m, h0, h1, h2⟩ => hk σ H1 (s.ex e1) _ fun v H2 e2 h3 => by
    have h4 := e2.g _ _ h1
    have h5 : KvOk (mi H2 (ads ms)) kvs m := h2.imp fun x y q => ⟨q.1, x.2.mono e2.g q.2⟩
    have h6 := kv_get k h5
    rw [h] at h6
    cases e : valV m (.inl k) with
    | none => rw [e] at h6; exact h6.elim
    | some u =>
      rw [e] at h6
      exact ⟨l, u, h0, by rw [← e]; exact dgf (mi_sub _ _ h4) h3, kq u H2 (e1.trans e2) h6⟩
/-- d.get(k, x) of ints, an int -/
theorem e_getF2 {i : Int} {f : Int → Option Int} (hu : X.A.units + 1 < cLine) (hd : DE X ds ms o (dF kvs)) (hk : DE X ds ms a (R k)) (hx : DE X ds ms b (R i)) (hg : getI kvs k = (f k).map fun j => (R j : D))
    (m : M2 X o "get" apos a b cpos := by exact ⟨rfl, rfl, rfl, rfl⟩) : DE X ds ms (.Call (.Attribute o "get" apos) [a, b] [] cpos) (R ((f k).getD i)) :=
  e_of (pe_dget2 hu (wE_ok o) (wE_ok a) (wE_ok b) m) fun σ H s Q kq => hd σ H s _ fun v H1 e1 ⟨l, od, mm, h0, h1, h2⟩ => ⟨l, h0, .inl ⟨mm, .inr ⟨od, mi_sub _ _ h1⟩⟩, hk σ H1 (s.ex e1) _ fun y H2 e2 h3 => hx σ H2 ((s.ex e1).ex e2) _ fun z H3 e3 h4 => by
    have h5 := (e2.trans e3).g _ _ h1
    have h6 : KvOk (mi H3 (ads ms)) kvs mm := h2.imp fun x y q => ⟨q.1, x.2.mono (e2.trans e3).g q.2⟩
    refine ⟨valV mm (.inl k), dgf (mi_sub _ _ h5) h3, kq _ H3 ((e1.trans e2).trans e3) ?_⟩
    have := kv_get k h6
    rw [hg] at this
    cases e : f k with
    | none =>
      rw [e] at this
      cases e2 : valV mm (.inl k) with
      | none => exact h4
      | some u => rw [e2] at this; exact this.elim
    | some j =>
      rw [e] at this
      cases e2 : valV mm (.inl k) with
      | none => rw [e2] at this; exact this.elim
      | some u => rw [e2] at this; exact this⟩
/-- d.values() -/
theorem wk_vals {ws : List (Int × Int)} {tg : Expr} (h : DE X ds ms e (dF (wD ws))) (hbase : attributeBase e "values" X.env (eval e X.env) = eval e X.env := by rfl) (hline : (apos.endLine == cpos.line) = true := by rfl) : DWk X ds ms tg (.Call (.Attribute e "values" apos) [] [] cpos) ((ws.map (·.2)).map fun x => R x) := ⟨_, pi_values (wE_ok e) hbase hline, fun σ H s Rr k => h σ H s _ fun v H1 e1 ⟨a, od, m, h0, h1, h2⟩ => ⟨a, od, m, h0, mi_sub _ _ h1, k _ H1 e1 ⟨_, _, by
  have : ((ws.map (·.2)).map fun x => R x).length = m.length := by
    rw [← h2.len]
    unfold wD
    simp
  rw [this]
  exact walk_values (d := a) (o := od) (kvs := m), fun ps H2 g => mi_sub _ _ (g _ _ h1), fun i H2 x H3 d ps hp g y hd => by
  obtain ⟨rfl, ky, hk⟩ := y
  rw [List.getElem?_map, List.getElem?_map] at hd
  cases hw : ws[i]? with
  | none => rw [hw] at hd; cases hd
  | some z =>
    rw [hw] at hd
    cases hd
    obtain ⟨y, q1, q2⟩ := h2.get (i := i) (x := (z.1, R z.2)) (by unfold wD; rw [List.getElem?_map, hw]; rfl)
    rw [q1] at hk
    cases hk
    exact ⟨Ex.refl _ _, q2.2⟩⟩⟩⟩

/-! ### what is known of a cell, said otherwise -/
theorem To.weak {c c' : MC} (h : ∀ G o, c.p G o → c'.p G o) : To ((q, c) :: ms) ((q, c') :: ms) := ⟨fun H n ce => ⟨n, Same.refl _, fun r hr => by
  rcases List.mem_cons.mp hr with z | z
  · subst z
    obtain ⟨o, h1, h2⟩ := ce (q, c) List.mem_cons_self
    exact ⟨o, h1, h _ _ h2⟩
  · exact ce r (List.mem_cons_of_mem _ z)⟩⟩
/-- for x in a cell of ints that the loop leaves as it is -/
theorem d_forI {A : Type} {tg iter : Expr} {body : List Stmt} (ns : List Int) (f : Int → Ds) (I : Nat → A → Prop) (sd : Nat → A → Ds) (sm : Nat → A → MS) (hc : X.calm = true) (hw : DE X ds ((q, mR ns) :: ms) iter (dAt q)) (hg : ∀ x : Int, DG X tg (R x) (f x))
    (h0 : Lp (I 0) (sd 0) (sm 0) ds ms)
    (hs : ∀ o i a x, ns[i]? = some x → I i a → DS X (f x ++ sd i a) ((q, mB (mR ns) o) :: sm i a) body { nx := Lp (I (i + 1)) (sd (i + 1)) fun a => (q, mB (mR ns) o) :: sm (i + 1) a, ct := Lp (I (i + 1)) (sd (i + 1)) fun a => (q, mB (mR ns) o) :: sm (i + 1) a, bk := fun ds ms => DS X ds ms rest E, rt := E.rt })
    (hd : ∀ a, I ns.length a → DS X (sd ns.length a) ((q, mR ns) :: sm ns.length a) rest E) (hp : PassesOwn (model X.prog X.w) X.A X.env X.xe := by exact PassesOwn.never) (hf : ∀ x, foldedSetIterable iter X.env x = pure x := by intro _; rfl) : DS X ds ((q, mR ns) :: ms) (.For tg iter body [] pos :: rest) E := by
  refine d_cons fun G0 σ H s => wS_of (ps_for hp hc (pi_list (wE_ok iter)) (wG_ok tg) (wSs_ok body) hf) ?_
  refine hw σ H s.s _ fun v H1 e1 h1 => ?_
  have s1 := s.s.ex e1
  obtain ⟨o, h2, vs, h3, h4⟩ := s1.ce (q, mR ns) List.mem_cons_self
  have ev : vs = ns.map V.int := ints_of h4
  subst h3
  subst ev
  have g01 : Same G0 (mi H1 (ads ((q, mR ns) :: ms))) := s.a.trans e1.g
  have sB : Sy ds ((q, mB (mR ns) (.lst (ns.map V.int))) :: ms) σ H1 := ⟨s1.sl, s1.nd, fun r hr => by
    rcases List.mem_cons.mp hr with z | z
    · subst z
      exact ⟨_, h2, rfl, _, rfl, h4⟩
    · exact s1.ce r (List.mem_cons_of_mem _ z)⟩
  refine ⟨q, h1, ⟨_, SqL.of h2⟩, ?_⟩
  have w := walk_list (K := X.K) (a := q) (xs := ns.map V.int)
  rw [List.length_map] at w
  refine for_it w (D := SE.sem G0 { E with nx := fun ds' ms' => DS X ds' ms' rest E }) (fun i σ H => ∃ ds' ms', Lp (I i) (sd i) (fun a => (q, mB (mR ns) (.lst (ns.map V.int))) :: sm i a) ds' ms' ∧ Sg (mi H1 (ads ((q, mR ns) :: ms))) ds' ms' σ H) ⟨ds, _, ?_, sB, Same.refl _⟩ (fun i σ2 H2 _ ⟨ds', ms', ⟨a, _, wk⟩, q2⟩ => ?_) (fun i x σ2 H2 H3 hi ⟨ds', ms', ⟨a, ia, wk⟩, q2⟩ y => ?_) (fun σ2 H2 ⟨ds', ms', ⟨a, ia, wk⟩, q2⟩ => ?_)
  · obtain ⟨a, ia, wk⟩ := h0
    obtain ⟨l, h5, h6⟩ := wk.m
    exact ⟨a, ia, wk.d, _, h5.cons _, h6.cons_cons _⟩
  · obtain ⟨o, h5, h6, _⟩ := (wk.sg q2).s.ce _ List.mem_cons_self
    subst h6
    exact SqL.of h5
  · obtain ⟨xi, hxi⟩ : ∃ xi, ns[i]? = some xi := ⟨ns[i], List.getElem?_eq_getElem hi⟩
    obtain ⟨rfl, y⟩ := y
    rw [List.getElem?_map, hxi] at y
    cases y
    have q3 := wk.sg q2
    refine hg xi (sd i a) _ σ2 H3 _ q3.s rfl _ fun σ4 H4 s4 e4 _ => ?_
    refine ds_run (hs _ i a xi hxi ia) ⟨s4, q3.a.trans e4.g⟩ (fun ds ms σ H h1 h2 => ⟨ds, ms, h1, h2⟩) (fun ds ms σ H h1 h2 => ⟨ds, ms, h1, h2⟩) (fun ds ms σ H h1 h2 => ⟨ds, ms, h1, h2.an g01⟩) (fun d ms v H h1 h2 => ⟨d, ms, h1, h2.an g01⟩)
  · refine ⟨_, _, d_to (To.weak (c := mB (mR ns) (.lst (ns.map V.int))) (c' := mR ns) fun G o h => h.2) (hd a ia), (wk.sg q2).an g01⟩

/-! ### calls that see cells for good -/
theorem sp_see {A : Type} {S : Spec A} {cs rest : MS} (hp : (cs ++ rest).Perm ms) (a : A) (pre : S.pre a) (hms : S.ms a = []) (s : Sy ds ms σ H) {vs : List V} {Q : VK} {E : XK} (hv : All2 (fun (d : D) u => d.p (mi H (ads rest)) u) (S.args a) vs)
    (hQ : ∀ d m v H' G, S.post a d m → Ex (ads ms) H H' → d.p G v → Q v H') : spOf S vs H Q E := by
  have hpa : (ads cs ++ ads rest).Perm (ads ms) := by
    have := hp.map (fun q : Addr × MC => q.1)
    rw [List.map_append] at this
    exact this
  have nd := hpa.nodup_iff.mpr s.nd
  have hr : ∀ b ∈ ads rest, b ∈ ads ms := fun b hb => hpa.mem_iff.mp (List.mem_append_right _ hb)
  refine ⟨a, ads rest, pre, ?_, fun r hr => ?_, ?_, ?_, fun d ms' v H' k1 k2 k3 k4 k5 k6 => ?_⟩
  · rw [hms]
    exact (List.nodup_append.mp nd).2.1
  · obtain ⟨q, hq, e⟩ := List.mem_map.mp hr
    obtain ⟨o, h1, h2⟩ := s.ce q (hp.mem_iff.mp (List.mem_append_right _ hq))
    rw [← e, h1]
    exact q.2.mu h2
  · rw [hms]
    exact hv
  · rw [hms]
    exact fun q hq => nomatch hq
  · rw [hms] at k3
    refine hQ d ms' v H' _ k1 ⟨fun b o h => ?_, fun p hpm => ?_⟩ k5
    · obtain ⟨h1, h2, h3⟩ := mi_some h
      have h4 := k3 b o (mi_of h2 (fun z => h1 (hr b z)) h3)
      exact mi_of (mi_sub _ _ h4) h1 h3
    · rcases List.mem_append.mp (hpa.mem_iff.mpr hpm) with z | z
      · obtain ⟨q, hq, e⟩ := List.mem_map.mp z
        obtain ⟨o, h1, h2⟩ := s.ce q (hp.mem_iff.mp (List.mem_append_left _ hq))
        rw [e] at h1
        have h4 := k3 p o (mi_of h1 (fun y => (List.nodup_append.mp nd).2.2 p z p y rfl) fun x y => by
          have := q.2.mu h2
          rw [y] at this
          exact this)
        rw [h1]
        exact mi_sub _ _ h4
      · exact k4 p z
theorem see_at {cs rest : MS} (hp : (cs ++ rest).Perm ms) (s : Sy ds ms σ H) : Same (mi H (ads ms)) (mi H (ads rest)) ∧ ∀ q ∈ cs, ∃ ob, mi H (ads rest) q.1 = some ob ∧ q.2.p (mi H (ads rest)) ob := by
  have hpa : (ads cs ++ ads rest).Perm (ads ms) := by
    have := hp.map (fun q : Addr × MC => q.1)
    rw [List.map_append] at this
    exact this
  have nd := hpa.nodup_iff.mpr s.nd
  have g : Same (mi H (ads ms)) (mi H (ads rest)) := mi_less fun b hb => hpa.mem_iff.mp (List.mem_append_right _ hb)
  refine ⟨g, fun q hq => ?_⟩
  obtain ⟨o, h1, h2⟩ := s.ce q (hp.mem_iff.mp (List.mem_append_left _ hq))
  exact ⟨o, mi_of h1 (fun y => (List.nodup_append.mp nd).2.2 q.1 (List.mem_map_of_mem hq) q.1 y rfl) (fun x y => by
    have := q.2.mu h2
    rw [y] at this
    exact this), q.2.mono g h2⟩
/-- o.m(e, ..) of an instance for good, one result that leans on no heap; the cells cs are seen for good -/
theorem e_methX {A : Type} {S : Spec A} {k : Nat} {C : Addr} {fs : List (Str × D)} {m : Str} (h : HasMX X C m k S) (hr : Room k X.A) (ho : DE X ds ms o (dI C fs)) (l : fs.lookup m = none) (cs rest : MS) (hp : (cs ++ rest).Perm ms) {dq : D}
    (hself : ∀ G v, (∀ q ∈ cs, ∃ ob, G q.1 = some ob ∧ q.2.p G ob) → (dI C fs).p G v → dq.p G v) (a : A) (hms : S.ms a = []) (hargs : S.args a = dq :: dl) (ha : DA X ds ms (e :: es) dl) (pre : S.pre a) (hpost : ∀ d' m, S.post a d' m → d' = d) (hd : ∀ G G' v, d.p G v → d.p G' v)
    (hst : starEach (e :: es) X.env = (false, eval e X.env) :: starEach es X.env := by rfl) (hpl : (backTo pos (starEach es X.env)).any (·.1) = false := by rfl) {pl : Sem Bool}
    (ht : eval (.Call (.Attribute o m apos) (e :: es) [] pos) X.env = (do
      let ov ← eval o X.env
      standAt apos.atName
      let (f, first) ← holding [ov] (getMethod ov m pl)
      callWith pos f first (backTo pos (starEach (e :: es) X.env)) (backToKw pos (keywordEach [] X.env))) := by rfl) : DE X ds ms (.Call (.Attribute o m apos) (e :: es) [] pos) d := fun σ H s Q hQ => by
  obtain ⟨f, fd, ps, hM, hb, F⟩ := h.h
  refine wE_of (pe_meth (wE_ok o) h.c hM F hr hb .nil pass0 (wA_ok _) hst hpl ht) ?_
  refine ho σ H s _ fun v H0 e0 ⟨a1, dx, vs, i0, i1, i3⟩ => ?_
  have s0 := s.ex e0
  subst i0
  refine ⟨a1, dx, vs, rfl, mi_sub _ _ i1, fv_none i3 l, ?_⟩
  refine ha σ H0 s0 _ fun vs1 H1 e1 hv => ?_
  have s1 := s0.ex e1
  obtain ⟨g, hc⟩ := see_at hp s1
  rw [List.append_nil]
  refine sp_see hp a pre hms s1 ?_ fun d' m v H2 G k1 k2 k3 => ?_
  · rw [hargs]
    exact ⟨hself _ _ hc ⟨a1, dx, vs, rfl, g _ _ (e1.g _ _ i1), (i3.mono e1.g).mono g⟩, hv.imp fun d _ z => d.mono g z⟩
  · obtain rfl := hpost d' _ k1
    exact hQ v H2 ((e0.trans e1).trans k2) (hd _ _ _ k3)
theorem e_methX0 {A : Type} {S : Spec A} {k : Nat} {C : Addr} {fs : List (Str × D)} {m : Str} (h : HasMX X C m k S) (hr : Room k X.A) (ho : DE X ds ms o (dI C fs)) (l : fs.lookup m = none) (cs rest : MS) (hp : (cs ++ rest).Perm ms) {dq : D}
    (hself : ∀ G v, (∀ q ∈ cs, ∃ ob, G q.1 = some ob ∧ q.2.p G ob) → (dI C fs).p G v → dq.p G v) (a : A) (hms : S.ms a = []) (hargs : S.args a = [dq]) (pre : S.pre a) (hpost : ∀ d' m, S.post a d' m → d' = d) (hd : ∀ G G' v, d.p G v → d.p G' v) {pl : Sem Bool}
    (ht : eval (.Call (.Attribute o m apos) [] [] pos) X.env = (do
      let ov ← eval o X.env
      standAt apos.atName
      let (f, first) ← holding [ov] (getMethod ov m pl)
      callWith pos f first (backTo pos (starEach [] X.env)) (backToKw pos (keywordEach [] X.env))) := by rfl) : DE X ds ms (.Call (.Attribute o m apos) [] [] pos) d := fun σ H s Q hQ => by
  obtain ⟨f, fd, ps, hM, hb, F⟩ := h.h
  refine wE_of (pe_meth0 (wE_ok o) h.c hM F hr hb .nil pass0 ht) ?_
  refine ho σ H s _ fun v H0 e0 ⟨a1, dx, vs, i0, i1, i3⟩ => ?_
  have s0 := s.ex e0
  subst i0
  refine ⟨a1, dx, vs, rfl, mi_sub _ _ i1, fv_none i3 l, ?_⟩
  obtain ⟨g, hc⟩ := see_at hp s0
  refine sp_see (E := E0) (vs := [.ref a1]) hp a pre hms s0 ?_ fun d' m v H2 G k1 k2 k3 => ?_
  · rw [hargs]
    exact ⟨hself _ _ hc ⟨a1, dx, vs, rfl, g _ _ i1, i3.mono g⟩, trivial⟩
  · obtain rfl := hpost d' _ k1
    exact hQ v H2 (e0.trans k2) (hd _ _ _ k3)
theorem dR_any {i : Int} : ∀ G G' v, (R i : D).p G v → (R i : D).p G' v := fun _ _ _ h => h
end
end Bh
/-! B22: defs that are called while no repr is under way; repr of data. -/
namespace Bh
open PySem PySem.Spec PyProof.Rows L2
/-- a def that keeps its promise where no repr is under way -/
structure FnG (P : Program) (w : World) (K : PySem.W.Frag) (mg : Str → Option Value) (base : Heap) (k : Nat) (f : Addr) (fd : FuncData) (ps : List Str) (sp : Sp) : Prop where
  len : ∀ vs H Q E, sp vs H Q E → vs.length = ps.length
  go : ∀ (A : Around) (outer : List Env) (s : Shared) (H : Hp) (ar : Args) (us : List Value) (vs : List V) (Q : VK) (E : XK), Room k A → A.guards = some [] → Env0 P w K mg base A outer s H → BindsTo s fd ar (ps.zip us) → Vals vs us → sp vs H Q E → codeAny (model P w) A (.call (.ref f) ar) (CR CX0 outer P w H s Q E) s
section
variable {P : Program} {w : World} {K : PySem.W.Frag} {mg : Str → Option Value} {base : Heap} {x qual : Str} {params : Arguments} {body : List Stmt} {scope : Scope} {f : Addr} {fd : FuncData}
theorem FunD.okG {N ps : List Str} {k : Nat} {sp : Sp} (F : FunD K x qual params body scope [] [] f fd) (S : FnScope N ps scope) (len : ∀ vs H Q E, sp vs H Q E → vs.length = ps.length)
    (hb : ∀ (cdv : Value) (A : Around) (outer : List Env) (s : Shared) (H : Hp) (vs : List V) (Q : VK) (E : XK), Room k (A.deeper (envOfC qual scope s.heap.objs.size f cdv)) → A.guards = some [] → sp vs H Q E → ∃ t, PSs (cxOf CX0 P w K mg base N qual scope f cdv A outer s H E) body t ∧ t { nx := fun _ H' => Q .non H', rt := Q } (L2.start N vs) H) : FnG P w K mg base (k + 1) f fd ps sp := by
  obtain ⟨oc, od, dV, kV, doc, pm, an, cdv, ct, osl, e0, lk, hcd, _, _⟩ := F.ex
  subst e0
  refine ⟨len, fun A outer s H ar us vs Q E hr hgd en bt rv hs => ?_⟩
  have kin : K.In s.heap := en.mod.kin.keeps fun a ob z => (en.bs a ob z).1
  have nol : s.heap.NoLimit := en.mod.nolimit.keeps fun a ob z => (en.bs a ob z).1
  have kinds : ∀ y ∈ ps.zip us, scope.names.lookup y.1 = some .local ∨ (scope.names.lookup y.1 = some .cell ∧ ((cellsFrom (s.heap.objs.size + 1) scope.names []).lookup y.1).isSome = true) := by
    rintro ⟨n, v⟩ hy
    exact (S.par n (List.of_mem_zip hy).1).elim .inl fun z => .inr ⟨z, PySem.W.cellsFrom_some _ _ _ (.inl z)⟩
  refine codeAny_call_function hr.depth (kin _ _ lk) rfl S.co S.gen rfl (PySem.W.codeRec_of kin hcd) (bt _ _ _ _ (wpAny_newFunctionEnv_cells S.kind kinds fun ev hev s1 y => ?_))
  subst hev
  obtain ⟨t, ht, hq⟩ := hb cdv A outer s H vs Q E (hr.deeper _) hgd hs
  refine ⟨nol.keeps y.toInCall.keep, codeAny_func (wpAny_mono (ht.run [] s1 (L2.start N vs) H _ (inv_start S hr.hd en (len _ _ _ _ hs) rv y) hq) (fun fl s2 hf => ?_) fun _ _ z => z)⟩
  cases fl with
  | brk =>
    obtain ⟨_, _, _, z⟩ := hf
    exact z.elim
  | cont =>
    obtain ⟨_, _, _, z⟩ := hf
    exact z.elim
  | next =>
    obtain ⟨σ2, H2, J, z⟩ := hf
    exact ⟨.non, H2, J.os, J.bare, J.base, J.hok, rfl, z⟩
  | ret u =>
    obtain ⟨v, σ2, H2, J, r2, z⟩ := hf
    exact ⟨v, H2, J.os, J.bare, J.base, J.hok, r2, z⟩
/-- THE RULE of such a def: its body from its arguments -/
theorem fn_okG {A : Type} {N ps : List Str} {k : Nat} (S : Spec A) (F : FunD K x qual params body scope [] [] f fd) (sc : FnScope N ps scope) (hlen : ∀ a, (S.args a).length = ps.length)
    (hbody : ∀ (a : A), S.pre a → ∀ (cdv : Value) (A : Around) (outer : List Env) (s : Shared) (H : Hp) (E : XK), Room k (A.deeper (envOfC qual scope s.heap.objs.size f cdv)) → A.guards = some [] →
      DS (cxOf CX0 P w K mg base N qual scope f cdv A outer s H E).nox (num 0 (S.args a)) (S.ms a) body (seOf S a)) :
    FnG P w K mg base (k + 1) f fd ps (spOf S) := by
  let sp0 : Sp := fun vs H Q _ => ∃ (a : A), S.pre a ∧ (ads (S.ms a)).Nodup ∧ All2 (fun (d : D) u => d.p (mi H (ads (S.ms a))) u) (S.args a) vs ∧ Ce (S.ms a) (mi H (ads (S.ms a))) H ∧
    ∀ d ms' v H', S.post a d ms' → (ads ms').Nodup → Same (mi H (ads (S.ms a))) (mi H' (ads ms')) → d.p (mi H' (ads ms')) v → Ce ms' (mi H' (ads ms')) H' → Q v H'
  have F0 : FnG P w K mg base (k + 1) f fd ps sp0 := by
    refine FunD.okG F sc (fun vs H Q E ⟨a, _, _, h, _⟩ => by rw [← h.len]; exact hlen a) (fun cdv A outer s H vs Q E hr hgd ⟨a, pre, nd, hv, ce, hQ⟩ => ?_)
    refine ⟨_, PSs.nox (wSs_ok body), ?_⟩
    have hz := hbody a pre cdv A outer s H E hr hgd
    intro pins sh I
    have sy : Sg (mi H (ads (S.ms a))) (num 0 (S.args a)) (S.ms a) (L2.start N vs) H := by
      refine ⟨⟨fun i d h _ => ?_, nd, ce⟩, Same.refl _⟩
      obtain ⟨_, h2⟩ := num_lookup _ _ _ _ h
      rw [Nat.sub_zero] at h2
      obtain ⟨v, h3, h4⟩ := hv.get h2
      refine ⟨v, ?_, h4⟩
      unfold L2.start
      rw [List.getElem?_append_left (by rw [List.length_map]; exact (List.getElem?_eq_some_iff.mp h3).1), List.getElem?_map, h3]
      rfl
    refine wpAny_mono (hz _ _ _ sy pins sh I) (fun fl s' q => ?_) fun _ _ q => q
    cases fl with
    | next =>
      obtain ⟨σ', H', I', ds', ms', ⟨ms2, k1, k3⟩, sg⟩ := q
      refine ⟨σ', H', I', ?_⟩
      have rg : Rg (mi H (ads (S.ms a))) (R ()) ms' .non H' := ⟨rfl, sg.s.nd, sg.s.ce, sg.a⟩
      have rg2 := rg_of k3 rg
      exact hQ _ ms2 _ H' k1 rg2.nd rg2.a rfl rg2.ce
    | ret v =>
      obtain ⟨v2, σ', H', I', rv, d, ms', ⟨ms2, k1, k3⟩, rg⟩ := q
      refine ⟨v2, σ', H', I', rv, ?_⟩
      have rg2 := rg_of k3 rg
      exact hQ _ ms2 _ H' k1 rg2.nd rg2.a rg2.v rg2.ce
    | brk =>
      obtain ⟨_, _, _, _, _, q, _⟩ := q
      exact q.elim
    | cont =>
      obtain ⟨_, _, _, _, _, q, _⟩ := q
      exact q.elim
  refine ⟨fun vs H Q E ⟨a, _, _, _, _, h, _⟩ => by rw [← h.len]; exact hlen a, fun A outer s H args us vs Q E hr hgd e0 hb hv hsp => ?_⟩
  obtain ⟨a, Rr, pre, nd, mu, hvs, ce, hQ⟩ := hsp
  have mR : ∀ r ∈ Rr, r ∉ ads (S.ms a) := fun r hr hm => (List.nodup_append.mp nd).2.2 r hm r hr rfl
  have ce0 : Ce (S.ms a) (mi (fgt H Rr) (ads (S.ms a))) (fgt H Rr) := fun q hq => by
    obtain ⟨o, h1, h2⟩ := ce q hq
    refine ⟨o, ?_, by rw [mi_fgt]; exact h2⟩
    rw [fgt_n]
    · exact h1
    · intro y
      rcases hid_cases y with y | ⟨z, e, _⟩
      · exact mR _ y (List.mem_map_of_mem hq)
      · have m := q.2.mu h2
        rw [h1] at e
        cases e
        exact m
  refine codeAny_mono (F0.go A outer s (fgt H Rr) args us vs (fun v H1 => (∀ a, hidB H Rr a = true → H1 a = none) → Q v (bck H Rr H1)) E hr hgd (env0_fgt mu e0) hb hv ⟨a, pre, (List.nodup_append.mp nd).1, by rw [mi_fgt]; exact hvs, ce0, fun d ms' v H1 k1 k2 k3 k4 k5 gone => ?_⟩) fun r s' q => ?_
  · rw [mi_fgt] at k3
    have e1 : mi (bck H Rr H1) (ads ms' ++ Rr) = mi H1 (ads ms') := mi_bck gone
    have nd2 : (ads ms' ++ Rr).Nodup := List.nodup_append.mpr ⟨k2, (List.nodup_append.mp nd).2.1, fun x hx y hy e => by
      subst e
      exact k5.there hx (gone x (hid_in hy))⟩
    refine hQ d ms' v (bck H Rr H1) k1 nd2 (by rw [e1]; exact k3) (fun r hr => bck_y (hid_in hr)) (by rw [e1]; exact k4) fun q hq => ?_
    obtain ⟨o, h1, h2⟩ := k5 q hq
    refine ⟨o, ?_, by rw [e1]; exact h2⟩
    rw [bck_n]
    · exact h1
    · intro y
      rw [gone _ y] at h1
      cases h1
  · cases r with
    | error e => exact q
    | ok fl =>
      cases fl with
      | ret u => exact ce_frame mu e0.hok e0.frf (fun v H1 g z => z g) q
      | next => exact q.elim
      | brk => exact q.elim
      | cont => exact q.elim
end
structure HasG (P : Program) (w : World) (K : PySem.W.Frag) (mg : Str → Option Value) (base : Heap) {A : Type} (x : Str) (k : Nat) (S : Spec A) : Prop where
  h : ∃ (f : Addr) (fd : FuncData) (ps : List Str), mg x = some (.ref f) ∧ PySem.W.keepIn K (.ref f) = true ∧ Binds K fd ps [] ∧ FnG P w K mg base k f fd ps (spOf S)
abbrev HasGX (X : Cx) {A : Type} (x : Str) (k : Nat) (S : Spec A) : Prop := HasG X.prog X.w X.K X.mg X.base x k S
section
variable {X : Cx} {ds : Ds} {ms : MS} {σ : L2.St} {H : Hp} {e a b : Expr} {es : List Expr} {x : Str} {d da db : D} {dl : List D} {K : D → MS → Prop} {pos p : Pos}
/-- f(e, ..), the def's promise held where no repr is under way -/
theorem pe_callG {k : Nat} {f : Addr} {fd : FuncData} {ps : List Str} {sp : Sp} {t : TA} (F : FnG X.prog X.w X.K X.mg X.base k f fd ps sp) (hr : Room k X.A) (hgd : X.A.guards = some []) (hg : Gl X x) (hm : X.mg x = some (.ref f)) (hk : PySem.W.keepIn X.K (.ref f) = true) (hb : Binds X.K fd ps []) (ha : PA X (e :: es) t)
    (hdb : (x == ("__debug__" : Str)) = false) (he : starEach (e :: es) X.env = (false, eval e X.env) :: starEach es X.env) (hpl : (backTo pos (starEach es X.env)).any (·.1) = false) : PE X (.Call (.Name x p) (e :: es) [] pos) (fun σ H Q => t σ H fun vs H1 => sp vs H1 Q E0) := by
  refine ⟨fun pins s σ H Q I h => wpAny_Call_Name_kw (ld_glob I hg hm (PySem.W.callWith_K (h₀ := X.base) I.ok.mod.kin hk (thn (ha.run pos pins s σ H _ I h) fun us s1 ⟨vs, H1, I1, r, q⟩ => ⟨I1.kIn, ?_⟩) he hpl) hdb)⟩
  have hl : us.length = ps.length := by rw [← r.length]; exact F.len _ _ _ _ q
  have hbt := hb s1 us I1.kIn (by rw [List.append_nil]; exact hl)
  rw [List.append_nil] at hbt
  refine wpAny_call (codeAny_mono (F.go X.A X.stack s1 H1 ⟨us, []⟩ us vs Q E0 hr hgd I1.env0 hbt r q) fun rr s' hq => ?_)
  cases rr with
  | error e => exact pass0 pins σ H1 s1 e s' I1 hq
  | ok fl =>
    cases fl with
    | ret u => exact I1.after hq
    | next => exact hq.elim
    | brk => exact hq.elim
    | cont => exact hq.elim
theorem i_callG {A : Type} {S : Spec A} {k : Nat} (h : HasGX X x k S) (hr : Room k X.A) (hgd : X.A.guards = some []) (ha : DAi X ds ms (e :: es) fun dl m => ∃ (a : A) (rest : MS), S.args a = dl ∧ (S.ms a ++ rest).Perm m ∧ S.pre a ∧ ∀ d m2, S.post a d m2 → K d (m2 ++ rest))
    (hg : Gl X x := by rfl) (hdb : (x == ("__debug__" : Str)) = false := by decide) (he : starEach (e :: es) X.env = (false, eval e X.env) :: starEach es X.env := by rfl) (hpl : (backTo pos (starEach es X.env)).any (·.1) = false := by rfl) :
    DI X ds ms (.Call (.Name x p) (e :: es) [] pos) K := fun σ H s Q hQ => by
  obtain ⟨f, fd, ps, hm, hk, hb, F⟩ := h.h
  refine wE_of (pe_callG F hr hgd hg hm hk hb (wA_ok _) hdb he hpl) ?_
  refine ha σ H s _ fun dl m vs H1 ⟨a, rest, h1, h2, h3, h4⟩ s1 g1 hv => ?_
  subst h1
  exact sp_of_state (ms := m) a h3 h2 s1.nd s1.ce hv fun d m2 v H2 k1 k2 k3 k4 k5 k6 => hQ d _ v H2 (h4 d m2 k1) (sy_call (d := d) (v := v) s1 k2 k3 k4) (g1.trans k3) k6
theorem e_callG {A : Type} {S : Spec A} {k : Nat} (h : HasGX X x k S) (hr : Room k X.A) (hgd : X.A.guards = some []) (a : A) (hms : S.ms a = []) (hpost : ∀ d' m, S.post a d' m → d' = d) (ha : DA X ds ms (e :: es) (S.args a)) (pre : S.pre a)
    (hg : Gl X x := by rfl) (hdb : (x == ("__debug__" : Str)) = false := by decide) (he : starEach (e :: es) X.env = (false, eval e X.env) :: starEach es X.env := by rfl) (hpl : (backTo pos (starEach es X.env)).any (·.1) = false := by rfl) :
    DE X ds ms (.Call (.Name x p) (e :: es) [] pos) d := fun σ H s Q hQ => by
  obtain ⟨f, fd, ps, hm, hk, hb, F⟩ := h.h
  refine wE_of (pe_callG F hr hgd hg hm hk hb (wA_ok _) hdb he hpl) ?_
  refine ha σ H s _ fun vs H1 e1 hv => ?_
  have s1 := s.ex e1
  refine sp_of_state (ms := ms) (rest := ms) a pre (by rw [hms]; exact .refl _) s1.nd s1.ce hv fun d' m v H2 k1 k2 k3 k4 k5 k6 => ?_
  obtain rfl := hpost d' _ k1
  have e : Same (mi H2 (ads (m ++ ms))) (mi H2 (ads ms)) := mi_less fun b hb => by
    show b ∈ (m ++ ms).map (·.1)
    rw [List.map_append]; exact List.mem_append_right _ hb
  exact hQ v H2 (e1.trans ⟨k3.trans e, k5⟩) (d'.mono e k6)

/-! ### repr -/
structure ShOk (d : PyData) : Prop where
  sh : d.showable = true
  nd : d.hasDict = false
  lf : d.leavesShort 13 = true
  wt : d.weight ≤ 2 ^ 20
theorem ShOk.fits {d : PyData} (h : ShOk d) : d.shown.length ≤ sizeLine := PyData.shown_fits (B := 13) (by decide) (by decide) h.lf h.wt
/-- repr(e), e a list or a tuple of data -/
theorem e_repr {α : Type} [Rp α] [Pd α] {y : α} (hgd : X.A.guards = some []) (hu : X.A.units + 64 < cLine) (hm : X.mg "repr" = none) (ha : DE X ds ms a (R y)) (hs : ShOk (Pd.py y)) (hn : Pd.n α ≤ 62 := by decide) (hc : ∀ G v, (R y : D).p G v → ∃ q, v = .ref q) (hg : Gl X "repr" := by rfl) (he : starEach [a] X.env = (false, eval a X.env) :: starEach [] X.env := by rfl) (hpl : (backTo pos (starEach [] X.env)).any (·.1) = false := by rfl) : DE X ds ms (.Call (.Name "repr" p) [a] [] pos) (R (Pd.py y).shown) := by
  have cr : CallR X (.builtin "repr") (fun xs H Q => ∃ v, xs = [v] ∧ Dp X.K H v (Pd.py y) ∧ (∃ q, v = .ref q) ∧ Q (.str (Pd.py y).shown) H) := by
    intro pins s σ H xs us Q I r ⟨v, ex, hd, ⟨q, hq⟩, hQ⟩
    subst ex
    subst hq
    obtain ⟨u, eu, rx⟩ := vals1 r
    subst eu
    obtain ⟨as, hrd⟩ := Dp.reads I (Pd.py y) (.ref q) u hd rx
    cases rx
    have hdp := Pd.dpt y
    exact repr_of_reads' hrd hs.sh (PyData.noDict_hsm hs.nd) hgd (by omega) (fun _ _ z => z) (fun h' u tk hk => ⟨.str (Pd.py y).shown, H, I.kept (t' := tk) hk, ⟨u, rfl⟩, hQ⟩) hs.fits
  exact e_of (pe_callB cr hg hm (by decide +kernel) (pa_cons (wE_ok a) pa_nil he) (by decide) (by decide) he hpl) fun σ H s Q k => ha σ H s _ fun v H1 e1 h => ⟨v, rfl, dp_mono mi_sub (Pd.dp X.K y _ v h), hc _ _ h, k _ H1 e1 rfl⟩
end
end Bh
/-! B23: a text, repeated. -/
namespace Bh
open PySem PySem.Spec PyProof.Rows L2 TL
def repS (z : Str) (n : Nat) : Str := ⟨(List.replicate n z.cps).foldl (· ++ ·) #[]⟩
theorem fold_rep (a : Array Nat) : ∀ (n : Nat) (acc : Array Nat), ((List.replicate n a).foldl (· ++ ·) acc).toList = acc.toList ++ (List.replicate n a.toList).flatten
  | 0, acc => by simp
  | n + 1, acc => by
    rw [List.replicate_succ, List.foldl_cons, fold_rep a n, List.replicate_succ, List.flatten_cons]
    simp
theorem tl_rep (z : Str) (n : Nat) : tl (repS z n) = (List.replicate n (tl z)).flatten := by
  have := fold_rep z.cps n #[]
  simpa [tl, repS] using this
theorem repS_one (z : Str) : repS z 1 = z := ext_tl (by rw [tl_rep]; simp)
theorem repS_len (z : Str) (n : Nat) : (repS z n).length = n * z.length := by
  rw [len_tl, tl_rep, len_tl z]
  induction n with
  | zero => simp
  | succ n ih => rw [List.replicate_succ, List.flatten_cons, List.length_append, ih, Nat.succ_mul, Nat.add_comm]
section
variable {X : Cx} {ds : Ds} {ms : MS} {a b : Expr} {pos : Pos} {z : Str} {n : Int}
theorem op_mulS : OpR X (binaryOp .Mult) (fun x y H Q => ∃ (z : Str) (n : Int), x = .str z ∧ y = .int n ∧ 1 ≤ n ∧ n ≤ 1000 ∧ 1 ≤ z.length ∧ z.length ≤ 1000 ∧ Q (.str (repS z n.toNat)) H) := by
  intro pins s σ H x y v u Q I rx ry ⟨z, n, e1, e2, h1, h2, h3, h4, q⟩
  subst e1
  subst e2
  obtain ⟨t, rfl⟩ := rx
  obtain ⟨t', rfl⟩ := ry
  have hprod : z.length * n.toNat ≤ 1000 * 1000 := Nat.mul_le_mul h4 (by omega)
  refine P.mul_str (by rw [decide_eq_false (show ¬ n < -(2 ^ 63 : Int) by omega), decide_eq_false (show ¬ n ≥ 2 ^ 63 by omega)]; rfl) (fun _ _ => ?_) (fun _ _ => ?_) ?_
  · have h5 : (9000000000000000 : Int) ≤ (2 ^ 63 - 1) / n := by
      refine Int.le_ediv_of_mul_le (by omega) ?_
      have : (9000000000000000 : Int) * n ≤ 9000000000000000 * 1000 := Int.mul_le_mul_of_nonneg_left (by omega) (by omega)
      omega
    omega
  · have hsl : z.length * n.toNat ≤ sizeLine := line_of hprod
    unfold Builtin.Str.tooLong
    exact decide_eq_false (by omega)
  · rw [if_neg (by omega)]
    split
    · rename_i hk
      have hn : n = 1 := by
        rcases Bool.or_eq_true_iff.mp hk with hk | hk
        · exact beq_iff_eq.mp hk
        · have := beq_iff_eq.mp hk
          omega
      subst hn
      exact ⟨.str z, H, I, ⟨t, rfl⟩, by have := repS_one z; rw [show ((1 : Int)).toNat = 1 from rfl, this] at q; exact q⟩
    · refine ⟨?_, .str (repS z n.toNat), H, I.tok _, ⟨_, rfl⟩, q⟩
      show (repS z n.toNat).length ≤ sizeLine
      rw [repS_len, Nat.mul_comm]
      exact line_of hprod
theorem e_mulS (ha : DE X ds ms a (R z)) (hb : DE X ds ms b (R n)) (h1 : 1 ≤ n) (h2 : n ≤ 1000) (h3 : 1 ≤ z.length) (h4 : z.length ≤ 1000) : DE X ds ms (.BinOp a .Mult b pos) (R (repS z n.toNat)) :=
  e_op op_mulS ha hb fun σ H u v s p1 p2 Q k => ⟨z, n, p1, p2, h1, h2, h3, h4, k _ H (Ex.refl _ _) rfl⟩
end
theorem joinL_snoc (sep w : List Nat) : ∀ (x : List Nat) (ws : List (List Nat)), joinL sep (x :: (ws ++ [w])) = joinL sep (x :: ws) ++ (sep ++ w)
  | x, [] => rfl
  | x, y :: ws => by
    show x ++ (sep ++ joinL sep (y :: (ws ++ [w]))) = (x ++ (sep ++ joinL sep (y :: ws))) ++ (sep ++ w)
    rw [joinL_snoc sep w y ws]
    simp
theorem join_bars (x : Str) (ws : List Str) : ∀ n : Nat, Txt.join " " ((x :: ws) ++ List.replicate n ("|" : Str)) = Txt.join " " (x :: ws) ++ repS " |" n
  | 0 => by
    rw [List.replicate_zero, List.append_nil]
    exact ext_tl (by rw [tl_append, tl_rep]; simp)
  | n + 1 => by
    have ih := join_bars x ws n
    have h2 : List.replicate (n + 1) ("|" : Str) = List.replicate n ("|" : Str) ++ [("|" : Str)] := List.replicate_succ' ..
    refine ext_tl ?_
    have ih2 := congrArg tl ih
    rw [join_eq, tl_join] at ih2
    rw [join_eq, tl_join, h2, ← List.append_assoc, List.map_append]
    have e1 : ((x :: ws) ++ List.replicate n ("|" : Str)).map tl = tl x :: ((ws ++ List.replicate n ("|" : Str)).map tl) := rfl
    rw [e1] at ih2 ⊢
    show joinL (tl " ") (tl x :: ((ws ++ List.replicate n ("|" : Str)).map tl ++ [tl "|"])) = _
    rw [joinL_snoc, ih2, tl_append, tl_append, tl_rep, tl_rep]
    rw [List.replicate_succ', List.flatten_append]
    have e2 : tl " |" = tl " " ++ tl "|" := by decide +kernel
    simp [e2]
end Bh
/-! B24: int, repr of what changes cells; choices that join. -/
namespace Bh
open PySem PySem.Spec PyProof.Rows L2 TL
section
variable {X : Cx} {ds : Ds} {ms : MS} {a b c : Expr} {rest : List Stmt} {K : D → MS → Prop} {E : SE} {pos p : Pos}
theorem i_int1 (hm : X.mg "int" = none) (h : DI X ds ms a fun d m => ∃ n : Int, d = R n ∧ K (R n) m) (hg : Gl X "int" := by rfl) (he : starEach [a] X.env = (false, eval a X.env) :: starEach [] X.env := by rfl) (hpl : (backTo pos (starEach [] X.env)).any (·.1) = false := by rfl) : DI X ds ms (.Call (.Name "int" p) [a] [] pos) K := fun σ H s Q k =>
  wE_of (pe_callTy call_int1 hg hm (by decide +kernel) (pa_cons (wE_ok a) pa_nil he) (by decide) (by decide) he hpl) (h σ H s _ fun d m v H1 ⟨n, e, hk⟩ s1 g1 p1 => .inl ⟨n, by rw [e] at p1; rw [show v = V.int n from p1], k _ m _ H1 hk s1 g1 rfl⟩)
theorem i_repr {α : Type} [Rp α] [Pd α] {y : α} (hgd : X.A.guards = some []) (hu : X.A.units + 64 < cLine) (hm : X.mg "repr" = none) (h : DI X ds ms a fun d m => d = R y ∧ K (R (Pd.py y).shown) m) (hs : ShOk (Pd.py y)) (hn : Pd.n α ≤ 62) (hc : ∀ G v, (R y : D).p G v → ∃ q, v = .ref q) (hg : Gl X "repr" := by rfl) (he : starEach [a] X.env = (false, eval a X.env) :: starEach [] X.env := by rfl) (hpl : (backTo pos (starEach [] X.env)).any (·.1) = false := by rfl) : DI X ds ms (.Call (.Name "repr" p) [a] [] pos) K := by
  have cr : CallR X (.builtin "repr") (fun xs H Q => ∃ v, xs = [v] ∧ Dp X.K H v (Pd.py y) ∧ (∃ q, v = .ref q) ∧ Q (.str (Pd.py y).shown) H) := by
    intro pins s σ H xs us Q I r ⟨v, ex, hd, ⟨q, hq⟩, hQ⟩
    subst ex
    subst hq
    obtain ⟨u, eu, rx⟩ := vals1 r
    subst eu
    obtain ⟨as, hrd⟩ := Dp.reads I (Pd.py y) (.ref q) u hd rx
    cases rx
    have hdp := Pd.dpt y
    exact repr_of_reads' hrd hs.sh (PyData.noDict_hsm hs.nd) hgd (by omega) (fun _ _ z => z) (fun h' u tk hk => ⟨.str (Pd.py y).shown, H, I.kept (t' := tk) hk, ⟨u, rfl⟩, hQ⟩) hs.fits
  exact fun σ H s Q k => wE_of (pe_callB cr hg hm (by decide +kernel) (pa_cons (wE_ok a) pa_nil he) (by decide) (by decide) he hpl) (h σ H s _ fun d m v H1 ⟨e, hk⟩ s1 g1 p1 => by
    subst e
    exact ⟨v, rfl, dp_mono mi_sub (Pd.dp X.K y _ v p1), hc _ _ p1, k _ m _ H1 hk s1 g1 rfl⟩)
theorem ds_nx {body : List Stmt} {N N' : Ds → MS → Prop} (h : DS X ds ms body { E with nx := N }) (hn : ∀ d m, N d m → N' d m) : DS X ds ms body { E with nx := N' } := fun G0 σ H s =>
  ds_run h s (fun d m _ _ h1 h2 => ⟨d, m, hn _ _ h1, h2⟩) (fun d m _ _ h1 h2 => ⟨d, m, h1, h2⟩) (fun d m _ _ h1 h2 => ⟨d, m, h1, h2⟩) (fun d m _ _ h1 h2 => ⟨d, m, h1, h2⟩)
/-- if c: .. else: .., both ways end in states of one kind -/
theorem d_ifJ {A : Type} {thn els : List Stmt} {k : Bool} (I : A → Prop) (sd : A → Ds) (sm : A → MS) (hc : DB X ds ms c k) (h1 : k = true → DS X ds ms thn { E with nx := Lp I sd sm }) (h2 : k = false → DS X ds ms els { E with nx := Lp I sd sm }) (h3 : ∀ a, I a → DS X (sd a) (sm a) rest E) : DS X ds ms (.If c thn els pos :: rest) E :=
  d_if hc (fun z => ds_nx (h1 z) fun d m ⟨a, ia, wk⟩ => d_wk wk (h3 a ia)) fun z => ds_nx (h2 z) fun d m ⟨a, ia, wk⟩ => d_wk wk (h3 a ia)
theorem d_ifJI {A : Type} {thn els : List Stmt} (I : A → Prop) (sd : A → Ds) (sm : A → MS) (hc : DBi X ds ms c fun k m => (k = true → DS X ds m thn { E with nx := Lp I sd sm }) ∧ (k = false → DS X ds m els { E with nx := Lp I sd sm })) (h3 : ∀ a, I a → DS X (sd a) (sm a) rest E) : DS X ds ms (.If c thn els pos :: rest) E :=
  d_ifI (bi_imp hc fun k m ⟨h1, h2⟩ => ⟨fun z => ds_nx (h1 z) fun d m ⟨a, ia, wk⟩ => d_wk wk (h3 a ia), fun z => ds_nx (h2 z) fun d m ⟨a, ia, wk⟩ => d_wk wk (h3 a ia)⟩)
end
theorem join_cons (x y : Str) (ws : List Str) : Txt.join " " (x :: y :: ws) = x ++ (" " : Str) ++ Txt.join " " (y :: ws) := by
  refine ext_tl ?_
  rw [join_eq, tl_join, tl_append, tl_append, join_eq, tl_join]
  show tl x ++ (tl " " ++ joinL (tl " ") (tl y :: ws.map tl)) = _
  rw [List.append_assoc]
  rfl
theorem join_one (x : Str) : Txt.join " " [x] = x := by
  refine ext_tl ?_
  rw [join_eq, tl_join]
  rfl
theorem app_assoc (x y z : Str) : x ++ y ++ z = x ++ (y ++ z) := ext_tl (by rw [tl_append, tl_append, tl_append, tl_append, List.append_assoc])
end Bh
/-! B25: lists whose parts change cells: slices, sums, comprehensions. -/
namespace Bh
open PySem PySem.Spec PyProof.Rows L2
section
variable {X : Cx} {ds : Ds} {ms : MS} {e a b c : Expr} {rest : List Stmt} {K : D → MS → Prop} {E : SE} {pos p p2 : Pos} {tg iter : Expr}
/-- xs[:e] -/
theorem i_cutTo {α : Type} [Rp α] {xs : List α} (ha : DE X ds ms a (R xs)) (he : DI X ds ms e fun d m => ∃ k : Int, d = R k ∧ 0 ≤ k ∧ K (R (xs.take k.toNat)) m) : DI X ds ms (.Subscript a (.Slice none (some e) none p2) pos) K := fun σ H s Q k =>
  wE_of (pe_slice sl_list (wE_ok a) po_none (po_some (wE_ok e))) (ha σ H s _ fun v H1 e1 ⟨l, vs, h0, h1, h2⟩ => he σ H1 (s.ex e1) _ fun d m w H2 ⟨j, ed, hj, hk⟩ s2 g2 p2 => by
    subst ed
    have h3 : mi H2 (ads m) l = some (.lst vs) := g2 _ _ h1
    refine ⟨j, p2, l, vs, h0, SqL.of (mi_sub _ _ h3), fun q hq => ?_⟩
    have e3 := s2.new (o := .lst (cutV vs none (some j))) hq
    refine k _ m _ _ hk (s2.ex e3) ((e1.g.trans g2).trans e3.g) ⟨q, _, rfl, mi_new (fun _ z => s2.ce.there z) hq (fun x z => by cases z), ?_⟩
    have h4 := all2_cut (lo := none) (hi := some j) (h2.imp fun d _ z => d.mono (g2.trans e3.g) z)
    rw [cut_to hj, ← List.map_take] at h4
    exact h4)
/-- a + b of lists -/
theorem i_cat (h : DI X ds ms a fun da m => ∃ dl1, da = dL dl1 ∧ DI X ds m b fun db m' => ∃ dl2, db = dL dl2 ∧ dl1.length + dl2.length ≤ 1000000 ∧ K (dL (dl1 ++ dl2)) m') : DI X ds ms (.BinOp a .Add b pos) K := fun σ H s Q k =>
  wE_of (pe_op op_cat (wE_ok a) (wE_ok b)) (h σ H s _ fun da m x H1 ⟨dl1, e1, q1⟩ s1 g1 p1 => by
    subst e1
    exact q1 σ H1 s1 _ fun db m' y H2 ⟨dl2, e2, hz, q2⟩ s2 g2 p2 => by
      subst e2
      obtain ⟨l, vs, h1, h2, h3⟩ := (dL dl1).mono g2 p1
      obtain ⟨l2, vs2, h4, h5, h6⟩ := p2
      refine ⟨l, l2, vs, vs2, h1, h4, mi_sub _ _ h2, mi_sub _ _ h5, by rw [← h3.len, ← h6.len]; exact line_of hz, fun q hq => ?_⟩
      have e3 := s2.new (o := .lst (vs ++ vs2)) hq
      exact k _ m' _ _ q2 (s2.ex e3) (g1.trans (g2.trans e3.g)) ⟨q, _, rfl, mi_new (fun _ z => s2.ce.there z) hq (fun x z => by cases z), (h3.append h6).imp fun d _ z => d.mono e3.g z⟩)
theorem sy_unwipe {σ : L2.St} {H : Hp} {vs : List Nat} (s : Sy ds ms (wipe σ vs) H) (h : ∀ i d, ds.lookup i = some d → i ∉ vs) : Sy ds ms σ H :=
  ⟨fun i d hi hl => by
    obtain ⟨v, h1, h2⟩ := s.sl i d hi (by rw [wipe_length]; exact hl)
    rw [wipe_get, if_neg fun z => h i d hi z.1] at h1
    exact ⟨v, h1, h2⟩, s.nd, s.ce⟩
/-- what a comprehension's parts must keep: items so far, cells -/
structure LcI (X : Cx) (ds : Ds) (m1 : MS) (elt : Expr) (scope : Scope) {α : Type} (f : α → Ds) (xs : List α) (rest : List Stmt) (E : SE) (i : Nat) : Prop where
  ex : ∃ (A : Type) (I : Nat → A → Prop) (it : A → List D) (sm : A → MS), (∃ a0, I 0 a0 ∧ it a0 = [] ∧ sm a0 = m1) ∧ (∀ j a, I j a → (it a).length ≤ j) ∧
    (∀ j a x, xs[j]? = some x → I j a → ∀ (s0 : Shared) (H0 : Hp) (C : Addr) (cl : List (Str × Addr)) (fp : List Addr) (q : Addr), DI (X.blk s0 H0 scope (compEnvC scope cl C X.env) fp) (f x ++ ds) ((q, mL (it a)) :: sm a) elt fun d m2 => ∃ a', I (j + 1) a' ∧ it a' = it a ++ [d] ∧ m2 = (q, mL (it a)) :: sm a') ∧
    (∀ a, I xs.length a → ∀ q, DS X ((i, dAt q) :: ds) ((q, mL (it a)) :: sm a) rest E)
/-- y = [elt for tg in iter], iter and elt may change cells -/
theorem d_lcI (i : Nat) {y : Str} {py spos : Pos} {α : Type} [Rp α] {elt : Expr} {scope : Scope} (own : List (Str × Nat)) (f : α → Ds) (hc : X.calm = true) (hN : X.N.Nodup) (hw : DI X ds ms iter fun d m1 => ∃ xs : List α, d = R xs ∧ xs.length < 1000000 ∧ LcI X ds m1 elt scope f xs rest E i) (ok : BlkOk X.N X.env.scope scope own)
    (hg : ∀ (s0 : Shared) (H0 : Hp) (C : Addr) (cl : List (Str × Addr)) (fp : List Addr) x, DG (X.blk s0 H0 scope (compEnvC scope cl C X.env) fp) tg (R x) (f x))
    (hy : X.N[i]? = some y := by rfl) (hyl : X.env.scope.names.lookup y = some .local := by rfl) (hsw : swapsWith (.ListComp elt [⟨tg, iter, [], 0⟩] scope pos) (some (.Name y py)) spos.line X.env = pure true := by rfl)
    (hoff : offB ds (own.map (·.2)) = true := by rfl) (hfo : ∀ x, ∀ j ∈ (f x).map (·.1), j ∈ own.map (·.2) := by intro _ _ h; exact h)
    (hf : ∀ x, foldedSetIterable iter X.env x = pure x := by intro _; rfl) : DS X ds ms (.Assign [.Name y py] (.ListComp elt [⟨tg, iter, [], 0⟩] scope pos) spos :: rest) E := by
  refine d_cons fun G0 σ H s => ?_
  refine wS_of (ps_setLc (own := own) (g := bG X scope tg) (tt := tYes) (te := bE X scope elt) hc hN hy hyl hsw (pi_list (wE_ok iter)) ok (fun s0 H0 C cl fp => ⟨fun pins sh σ H v u Q I r h => h s0 H0 C cl fp pins sh u I r⟩) (fun _ _ _ _ _ => pts_nil) (fun s0 H0 C cl fp => ⟨fun pins sh σ H Q I h => h s0 H0 C cl fp pins sh I⟩) hf) ?_
  refine hw σ H s.s _ fun d m1 v H1 ⟨xs, ed, hz, hL⟩ s1 g1 p1 => ?_
  subst ed
  obtain ⟨A, I, it, sm, ⟨a0, i0, t0, e0⟩, hil, hstep, hend⟩ := hL.ex
  obtain ⟨l, vs, h1, h2, h3⟩ := p1
  subst h1
  refine ⟨l, rfl, ⟨vs, SqL.of (mi_sub _ _ h2)⟩, ?_⟩
  intro Dl hD
  have nD : Dl ∉ ads m1 := fun z => s1.ce.there z hD
  have hlen : vs.length = xs.length := by rw [← h3.len, List.length_map]
  have w := walk_list (K := X.K) (a := l) (xs := vs)
  rw [hlen] at w
  have ghide : Same (mi H1 (ads m1)) (mi (upd H1 Dl (.lst [])) (Dl :: ads m1)) := mi_hide hD
  refine lc_it (g := bG X scope tg) (tt := tYes) (te := bE X scope elt) w (vs := own.map (·.2)) (σ := σ) (fun j H2 => ∃ a, I j a ∧ Sy ds ((Dl, mL (it a)) :: sm a) (wipe σ (own.map (·.2))) H2 ∧ Same (mi H1 (ads m1)) (mi H2 (Dl :: ads (sm a)))) ⟨a0, i0, ?_, by rw [e0]; exact ghide⟩ (fun j H2 _ ⟨a, _, _, g⟩ => SqL.of (mi_sub _ _ (g _ _ h2))) (fun j x H2 H3 hj ⟨a, ia, sy, g⟩ y => ?_) (fun H2 ⟨a, ia, sy, g⟩ => ?_)
  · rw [t0, e0]
    refine ⟨fun j d hj hl => ?_, List.nodup_cons.mpr ⟨nD, s1.nd⟩, fun q hq => ?_⟩
    · obtain ⟨v, q1, q2⟩ := (sy_wipe s1 (off_ok hoff)).sl j d hj hl
      exact ⟨v, q1, d.mono ghide q2⟩
    · rcases List.mem_cons.mp hq with z | z
      · subst z
        exact ⟨_, upd_same, [], rfl, trivial⟩
      · obtain ⟨o, q1, q2⟩ := s1.ce q z
        exact ⟨o, (upd_ne fun z2 => nD (by rw [← z2]; exact List.mem_map_of_mem z)).trans q1, q.2.mono ghide q2⟩
  · obtain ⟨rfl, y⟩ := y
    obtain ⟨xi, hxi⟩ : ∃ xi, xs[j]? = some xi := ⟨xs[j], List.getElem?_eq_getElem hj⟩
    obtain ⟨v, q1, q2⟩ := h3.get (i := j) (x := R xi) (by rw [List.getElem?_map, hxi]; rfl)
    rw [q1] at y
    cases y
    intro s0 H0 C cl fp
    refine hg s0 H0 C cl fp xi ds _ _ H3 _ sy ((R xi).mono g q2) _ fun σ4 H4 s4 e4 u4 => ⟨?_, ?_⟩
    · have := wipe_upto u4 (hfo xi)
      rw [this]
      refine List.ext_getElem? fun j => ?_
      rw [wipe_get, wipe_get, wipe_length]
      split
      · rfl
      · rfl
    · show bE X scope elt σ4 H4 _
      intro s0 H0 C cl fp
      refine hstep j a xi hxi ia s0 H0 C cl fp Dl σ4 H4 s4 _ fun d m2 v H6 ⟨a', ia', et, em⟩ s6 g6 p6 => ?_
      subst em
      obtain ⟨o, c1, us, c2, c3⟩ := s6.ce (Dl, mL (it a)) List.mem_cons_self
      subst c2
      have hle := hil j a ia
      have nD6 : Dl ∉ ads (sm a') := (List.nodup_cons.mp s6.nd).1
      have em : mi (upd H6 Dl (.lst (us ++ [v]))) (Dl :: ads (sm a')) = mi H6 (Dl :: ads (sm a')) := mi_upd_in List.mem_cons_self
      refine ⟨us, c1, by rw [← c3.len]; exact line_lt (by omega), a', ia', ⟨fun k d hk hl => ?_, List.nodup_cons.mpr ⟨nD6, (List.nodup_cons.mp s6.nd).2⟩, fun q hq => ?_⟩, ?_⟩
      · obtain ⟨w0, r1, r2⟩ := sy.sl k d hk hl
        refine ⟨w0, r1, ?_⟩
        show d.p (mi (upd H6 Dl (.lst (us ++ [v]))) (Dl :: ads (sm a'))) w0
        rw [em]
        exact d.mono (e4.g.trans g6) r2
      · show ∃ o, upd H6 Dl (.lst (us ++ [v])) q.1 = some o ∧ q.2.p (mi (upd H6 Dl (.lst (us ++ [v]))) (Dl :: ads (sm a'))) o
        rw [em]
        rcases List.mem_cons.mp hq with z | z
        · subst z
          refine ⟨_, upd_same, _, rfl, ?_⟩
          rw [et]
          exact c3.append ⟨p6, trivial⟩
        · obtain ⟨o, r1, r2⟩ := s6.ce q (List.mem_cons_of_mem _ z)
          exact ⟨o, (upd_ne fun z2 => nD6 (by rw [← z2]; exact List.mem_map_of_mem z)).trans r1, r2⟩
      · rw [em]
        exact g.trans (e4.g.trans g6)
  · exact ⟨_, _, hend a ia Dl, sy_set (sy_unwipe sy (off_ok hoff)) rfl, s.a.trans (g1.trans g)⟩
end
end Bh
namespace Bh
open PySem PySem.Spec PyProof.Rows L2
section
variable {P : Program} {w : World} {K : PySem.W.Frag} {mg : Str → Option Value} {base : Heap}
theorem upd_true {a : Bool} (h : a = true) : (R a : D) = R true := by rw [h]
/-! is_integer -/
def spIsInt : Spec Int := { args := fun i => [R i], post := fun _ d _ => d = R true }
abbrev s18 : Stmt := top 18
theorem sc18 : FnScope ["value"] ["value"] (defScope s18) := ⟨rfl, rfl, rfl, by decide +kernel, rfl, by decide +kernel, by decide +kernel⟩
theorem ok_is_integer (T : Tx K mg) (a : At K mg "is_integer" s18 ["value"]) : Has P w K mg base "is_integer" 1 spIsInt := has_of a fun f fd F => by
  refine fn_ok spIsInt F sc18 (fun _ => rfl) fun i _ cdv A outer s H E hr => ?_
  refine d_ret (d := R (true && !false)) (e_and2 (by exact e_isi "int" T.isinstance (e_var 0) ty_int T.int (by decide +kernel) (by decide +kernel)) fun _ => e_not (by exact e_isi "bool" T.isinstance (e_var 0) ty_int T.bool (by decide +kernel) (by decide +kernel))) ⟨[], rfl, .same trivial⟩
/-! is_at_least -/
def spAtLeast : Spec (Int × Int) := { args := fun i => [R i.1, R i.2], post := fun i d _ => d = R (decide (i.2 ≤ i.1)) }
abbrev s19 : Stmt := top 19
theorem sc19 : FnScope ["value", "least"] ["value", "least"] (defScope s19) := ⟨rfl, rfl, rfl, by decide +kernel, rfl, by decide +kernel, by decide +kernel⟩
theorem ok_is_at_least (a : At K mg "is_at_least" s19 ["value", "least"]) (h1 : Has P w K mg base "is_integer" 1 spIsInt) : Has P w K mg base "is_at_least" 2 spAtLeast := has_of a fun f fd F => by
  refine fn_ok spAtLeast F sc19 (fun _ => rfl) fun i _ cdv A outer s H E hr => ?_
  refine d_ret (d := R (true && decide (i.2 ≤ i.1))) (e_and2 (by exact e_call h1 hr i.1 rfl (fun _ _ h => h) (a_one (by exact e_var 0)) trivial) fun _ => e_ge (by exact e_var 0) (by exact e_var 1)) ⟨[], rfl, .same trivial⟩
/-! is_rail -/
def spIsRail : Spec Rail := { args := fun r => [R r], pre := fun r => 2 ≤ r.1 ∧ (r.2 = "back" ∨ r.2 = "through"), post := fun _ d _ => d = R true }
abbrev s20 : Stmt := top 20
theorem sc20 : FnScope ["value"] ["value"] (defScope s20) := ⟨rfl, rfl, rfl, by decide +kernel, rfl, by decide +kernel, by decide +kernel⟩
theorem ok_is_rail (T : Tx K mg) (a : At K mg "is_rail" s20 ["value"]) (h1 : Has P w K mg base "is_at_least" 2 spAtLeast) : Has P w K mg base "is_rail" 3 spIsRail := has_of a fun f fd F => by
  refine fn_ok spIsRail F sc20 (fun _ => rfl) fun r hc cdv A outer s H E hr => ?_
  refine d_ret (d := R (true && (decide (((2 : Nat) : Int) = 2) && (decide (2 ≤ r.1) && true)))) (e_and (by exact e_isi "tuple" T.isinstance (e_var 0) (ty_dT (dl := [R r.1, R r.2])) T.tuple (by decide +kernel) (by decide +kernel)) fun _ => e_and (by exact e_eqS (e_lenT (dl := [R r.1, R r.2]) T.len (e_var 0)) e_int) fun _ =>
    e_and (by exact e_call h1 hr (r.1, 2) rfl (fun _ _ h => h) (a_cons (by exact e_fst (x := r) (e_var 0) e_int) (a_one e_int)) trivial) fun _ => e_one (by exact e_inW T.ways (e_snd (e_var 0) e_int) hc.2)) ⟨[], ?_, .same trivial⟩
  show R _ = R true
  rw [decide_eq_true hc.1]
  rfl
/-! clock_fault -/
def spClockFault : Spec Clk := { args := fun c => [R c], pre := ClkOk, post := fun _ d _ => d = R (⟨[]⟩ : Tup Unit) }
abbrev s21 : Stmt := top 21
abbrev N21 : List Str := ["value", "balls", "rails", "rail", "bound", "way"]
theorem sc21 : FnScope N21 ["value"] (defScope s21) := ⟨rfl, rfl, rfl, by decide +kernel, rfl, by decide +kernel, by decide +kernel⟩
theorem ok_clock_fault (T : Tx K mg) (a : At K mg "clock_fault" s21 ["value"]) (h1 : Has P w K mg base "is_at_least" 2 spAtLeast) (h2 : Has P w K mg base "is_rail" 3 spIsRail) : Has P w K mg base "clock_fault" 4 spClockFault := has_of a fun f fd F => by
  refine fn_ok spClockFault F sc21 (fun _ => rfl) fun c hc cdv A outer s H E hr => ?_
  have hz : c.2.length < 1000000 := by have := hc.len_le; omega
  refine d_no (k := !true || !decide (((2 : Nat) : Int) = 2)) (by exact b_or2 (b_not (b_val (e_isi "tuple" T.isinstance (e_var 0) (ty_dT (dl := [R c.1, R c.2])) T.tuple (by decide +kernel) (by decide +kernel)))) fun _ => b_neS (e_lenT (dl := [R c.1, R c.2]) T.len (e_var 0)) e_int) rfl ?_
  refine d_asg (by exact e_var 0) (g_pair (x := c) rfl (g_name 1 sc21.nd) (g_name 2 sc21.nd)) ?_
  refine d_no (k := !decide (2 ≤ c.1) || decide (100 < c.1)) (by exact b_or2 (b_not (b_val (e_call h1 (hr.mono (by decide)) (c.1, 2) rfl (fun _ _ h => h) (a_cons (by exact e_var 1) (a_one e_int)) trivial))) fun _ => b_gt (e_var 1) (e_gint T.balls)) ?_ ?_
  · rw [decide_eq_true hc.lo, decide_eq_false (by have := hc.hi; omega)]
    rfl
  refine d_no (k := !true || (decide (c.2 = []) || !((c.2.map fun _ => true).all id))) (by exact b_or3 (b_not (b_val (e_isi "list" T.isinstance (e_var 2) (ty_dL (dl := c.2.map fun x => R x)) T.list (by decide +kernel) (by decide +kernel)))) (fun _ => b_eqD (hu64 hr) (e_var 2) e_nil hc.lay rfl) fun _ _ => b_not (b_val (e_all rfl T.all (by exact e_lc [("rail", 3)] c.2 (fun x => [(3, R x)]) (fun _ => true) rfl sc21.nd (wk_R (by exact e_var 2)) (blkOk_by (N := N21) (sc := defScope s21) (by decide +kernel)) hz (fun _ _ _ _ _ x => g_name 3 sc21.nd) fun s0 H0 C cl fp q cc x hx => e_call h2 hr x rfl (fun _ _ h => h) (a_one (by exact e_var 3)) (hc.bd x hx))))) ?_ ?_
  · rw [decide_eq_false hc.ne]
    simp
  refine d_ret (d := R (⟨[]⟩ : Tup Unit)) (e_if (k := decide ((c.2.map fun r => r.1 - 1).sum < c.1)) (by exact b_lt (e_sum rfl T.sum (by exact e_lc [("way", 5), ("bound", 4)] c.2 (fun x => [(5, R x.2), (4, R x.1)]) (fun r => r.1 - 1) rfl sc21.nd (wk_R (by exact e_var 2)) (blkOk_by (N := N21) (sc := defScope s21) (by decide +kernel)) hz (fun _ _ _ _ _ x => g_pair rfl (g_name 4 sc21.nd) (g_name 5 sc21.nd)) fun s0 H0 C cl fp q cc x hx => e_sub (e_var 4) e_int)) (e_var 1)) (fun _ => by exact e_tnil) fun h => ?_) ⟨[], rfl, .same trivial⟩
  rw [decide_eq_true hc.sm] at h
  cases h
end
end Bh
namespace Bh
open PySem PySem.Spec PyProof.Rows L2
section
variable {P : Program} {w : World} {K : PySem.W.Frag} {mg : Str → Option Value} {base : Heap}
/-! is_ball -/
def spIsBall : Spec (Clk × Int) := { args := fun x => [R x.1, R x.2], post := fun x d _ => d = R (decide (0 ≤ x.2) && decide (x.2 < x.1.1)) }
abbrev s22 : Stmt := top 22
theorem sc22 : FnScope ["clock", "value"] ["clock", "value"] (defScope s22) := ⟨rfl, rfl, rfl, by decide +kernel, rfl, by decide +kernel, by decide +kernel⟩
theorem ok_is_ball (a : At K mg "is_ball" s22 ["clock", "value"]) (h1 : Has P w K mg base "is_at_least" 2 spAtLeast) : Has P w K mg base "is_ball" 3 spIsBall := has_of a fun f fd F => by
  refine fn_ok spIsBall F sc22 (fun _ => rfl) fun x _ cdv A outer s H E hr => ?_
  exact d_ret (d := R (decide (0 ≤ x.2) && decide (x.2 < x.1.1))) (e_and2 (by exact e_call h1 hr (x.2, 0) rfl (fun _ _ h => h) (a_cons (by exact e_var 1) (a_one e_int)) trivial) fun _ => by exact e_lt (e_var 1) (e_fst (x := x.1) (e_var 0) e_int)) ⟨[], rfl, .same trivial⟩
/-! order_fault -/
def spOrderFault : Spec (Clk × List Int) := { args := fun x => [R x.1, R x.2], pre := fun x => ClkOk x.1 ∧ OrderOk x.1 x.2, post := fun _ d _ => d = R (⟨[]⟩ : Tup Unit) }
abbrev s24 : Stmt := top 24
theorem sc24 : FnScope ["clock", "value", "seen", "index", "ball"] ["clock", "value"] (defScope s24) := ⟨rfl, rfl, rfl, by decide +kernel, rfl, by decide +kernel, by decide +kernel⟩
theorem ok_order_fault (T : Tx K mg) (a : At K mg "order_fault" s24 ["clock", "value"]) (h1 : Has P w K mg base "is_ball" 3 spIsBall) : Has P w K mg base "order_fault" 4 spOrderFault := has_of a fun f fd F => by
  refine fn_ok spOrderFault F sc24 (fun _ => rfl) fun ⟨c, o⟩ ⟨hc, ho⟩ cdv A outer s H E hr => ?_
  have hc : ClkOk c := hc
  have ho : OrderOk c o := ho
  have hz : o.length < 1000000 := by have := hc.hi; have := ho.cnt; omega
  refine d_no (k := !true || !decide ((o.length : Int) = c.1)) (by exact b_or2 (b_not (b_val (e_isi "list" T.isinstance (e_var 1) (ty_dL (dl := o.map fun x => R x)) T.list (by decide +kernel) (by decide +kernel)))) fun _ => b_neS (e_lenR T.len (r_R (by exact e_var 1))) (e_fst (x := c) (e_var 0) e_int)) ?_ ?_
  · rw [decide_eq_true ho.cnt]
    rfl
  refine d_setI 2 sc24.nd (i_dnew fun q => ?_)
  refine d_for (enF 0 o) (fun x => [(4, R x.2), (3, R x.1)]) (fun _ (_ : Unit) => True) (fun _ _ => [(2, dAt q), (0, R c), (1, R o)]) (fun i _ => [(q, mD (kt (o.take i)))]) rfl (wk_enum T.enumerate (by exact e_var 1)) (fun x => g_pair rfl (g_name 3 sc24.nd) (g_name 4 sc24.nd)) ⟨(), trivial, .same ⟨rfl, rfl, rfl, trivial⟩⟩ (fun i _ x hx _ => ?_) fun _ _ => ?_
  · obtain ⟨hi, hx2⟩ := enF_get hx
    have hm : x.2 ∈ o := List.mem_of_getElem? hx2
    have hnot : x.2 ∉ o.take i := fun z => by
      obtain ⟨j, hj, e⟩ := List.mem_iff_getElem.mp z
      rw [List.getElem_take] at e
      rw [List.length_take] at hj
      obtain ⟨hi2, e2⟩ := List.getElem?_eq_some_iff.mp hx2
      have := (List.getElem_inj ho.nd).mp (e.trans e2.symm)
      omega
    refine d_no (k := !(decide (0 ≤ x.2) && decide (x.2 < c.1)) || (getI (kt (o.take i)) x.2).isSome) (by exact b_or2 (b_not (b_val (e_call h1 hr (c, x.2) rfl (fun _ _ h => h) (a_cons (by exact e_var 0) (a_one (by exact e_var 4))) trivial))) fun _ => b_inD (hu1 hr) (e_var 4) (rd_cell (by exact e_var 2) List.mem_cons_self)) ?_ ?_
    · rw [decide_eq_true (ho.ball _ hm).1, decide_eq_true (ho.ball _ hm).2, kt_get, decide_eq_false hnot]
      rfl
    refine d_put 0 (hu1 hr) (i_pure e_bool ⟨_, x.2, by exact e_var 2, by exact e_var 4, rfl, by rw [kt_len, List.length_take]; omega, ?_⟩)
    refine d_nil ⟨(), trivial, ?_⟩
    rw [kt_put hnot]
    have e1 : o.take (i + 1) = o.take i ++ [x.2] := by rw [List.take_add_one, hx2]; rfl
    rw [e1]
    exact .same ⟨rfl, rfl, rfl, trivial⟩
  · exact d_ret (by exact e_tnil) ⟨[], rfl, .less trivial (List.nil_sublist _)⟩
/-! sight_fault -/
def spSightFault : Spec (Clk × Sight) := { args := fun x => [R x.1, R x.2], pre := fun x => ClkOk x.1 ∧ SightOk x.1 x.2, post := fun _ d _ => d = R (⟨[]⟩ : Tup Unit) }
abbrev s23 : Stmt := top 23
abbrev N23 : List Str := ["clock", "value", "balls", "rails", "seen", "index", "row", "ball"]
theorem sc23 : FnScope N23 ["clock", "value"] (defScope s23) := ⟨rfl, rfl, rfl, by decide +kernel, rfl, by decide +kernel, by decide +kernel⟩
theorem flatten_take {α : Type} {s : List (List α)} {i : Nat} {row : List α} (h : s[i]? = some row) : (s.take (i + 1)).flatten = (s.take i).flatten ++ row := by
  rw [List.take_add_one, h, List.flatten_append]
  simp
theorem sight_new {c : Clk} {s : Sight} (h : s.flatten.Nodup) {i j : Nat} {row : List Int} {b : Int} (h1 : s[i]? = some row) (h2 : row[j]? = some b) : b ∉ (s.take i).flatten ++ row.take j := by
  have e : s.flatten = (s.take i).flatten ++ (row ++ (s.drop (i + 1)).flatten) := by
    have := List.take_append_drop (i + 1) s
    rw [← List.append_assoc, ← flatten_take h1, ← List.flatten_append, this]
  rw [e] at h
  have e2 : row = row.take j ++ (b :: row.drop (j + 1)) := by
    have := List.take_append_drop (j + 1) row
    rw [List.take_add_one, h2] at this
    simpa using this.symm
  rw [e2] at h
  intro hm
  have h3 : ((s.take i).flatten ++ row.take j ++ (b :: (row.drop (j + 1) ++ (s.drop (i + 1)).flatten))).Nodup := by
    rw [List.append_assoc]
    simpa using h
  exact (List.nodup_append.mp h3).2.2 b hm b List.mem_cons_self rfl
theorem sight_mem {s : Sight} {i j : Nat} {row : List Int} {b : Int} (h1 : s[i]? = some row) (h2 : row[j]? = some b) : b ∈ s.flatten := List.mem_flatten.mpr ⟨row, List.mem_of_getElem? h1, List.mem_of_getElem? h2⟩
theorem ok_sight_fault (T : Tx K mg) (a : At K mg "sight_fault" s23 ["clock", "value"]) (h1 : Has P w K mg base "is_ball" 3 spIsBall) : Has P w K mg base "sight_fault" 4 spSightFault := has_of a fun f fd F => by
  refine fn_ok spSightFault F sc23 (fun _ => rfl) fun ⟨c, v⟩ ⟨hc, hs⟩ cdv A outer s H E hr => ?_
  have hc : ClkOk c := hc
  have hs : SightOk c v := hs
  have hz : v.length < 1000000 := by have := hc.len_le; have := hs.len; omega
  have hzf : v.flatten.length < 1000000 := by have := hc.hi; have := hs.cnt; omega
  refine d_asg (by exact e_var 0) (g_pair (x := c) rfl (g_name 2 sc23.nd) (g_name 3 sc23.nd)) ?_
  refine d_no (k := !true || (!decide ((v.length : Int) = (c.2.length : Int) + 1) || !((v.map fun _ => true).all id))) (by exact b_or3 (b_not (b_val (e_isi "list" T.isinstance (e_var 1) (ty_dL (dl := v.map fun x => R x)) T.list (by decide +kernel) (by decide +kernel)))) (fun _ => b_neS (e_lenR T.len (r_R (by exact e_var 1))) (e_add (e_lenR T.len (r_R (xs := c.2) (by exact e_var 3))) e_int)) fun _ _ => b_not (b_val (e_all rfl T.all (by exact e_lc [("row", 6)] v (fun x => [(6, R x)]) (fun _ => true) rfl sc23.nd (wk_R (by exact e_var 1)) (blkOk_by (N := N23) (sc := defScope s23) (by decide +kernel)) hz (fun _ _ _ _ _ x => g_name 6 sc23.nd) fun s0 H0 C cl fp q cc x hx => e_isi "list" T.isinstance (e_var 6) (ty_dL (dl := x.map fun y => R y)) T.list (by decide +kernel) (by decide +kernel))))) ?_ ?_
  · rw [decide_eq_true (by rw [hs.len]; simp)]
    simp
  refine d_setI 4 sc23.nd (i_dnew fun q => ?_)
  refine d_for (enF 0 v) (fun x => [(6, R x.2), (5, R x.1)]) (fun _ (_ : Unit) => True) (fun _ _ => [(4, dAt q), (0, R c), (2, R c.1), (3, R c.2)]) (fun i _ => [(q, mD (kt ((v.take i).flatten)))]) rfl (wk_enum T.enumerate (by exact e_var 1)) (fun x => g_pair rfl (g_name 5 sc23.nd) (g_name 6 sc23.nd)) ⟨(), trivial, .same ⟨rfl, rfl, rfl, rfl, trivial⟩⟩ (fun i _ x hx _ => ?_) fun _ _ => ?_
  · obtain ⟨hi, hx2⟩ := enF_get hx
    rw [Int.zero_add] at hi
    refine d_for x.2 (fun b => [(7, R b)]) (fun _ (_ : Unit) => True) (fun _ _ => [(4, dAt q), (0, R c), (2, R c.1), (3, R c.2), (5, R x.1), (6, R x.2)]) (fun j _ => [(q, mD (kt ((v.take i).flatten ++ x.2.take j)))]) rfl (wk_R (by exact e_var 6)) (fun b => g_name 7 sc23.nd) ⟨(), trivial, ?_⟩ (fun j _ b hb _ => ?_) fun _ _ => ?_
    · rw [List.take_zero, List.append_nil]
      exact .same ⟨rfl, rfl, rfl, rfl, rfl, rfl, trivial⟩
    · have hnot := sight_new (c := c) hs.nd hx2 hb
      have hbl := hs.ball b (sight_mem hx2 hb)
      refine d_no (k := !(decide (0 ≤ b) && decide (b < c.1)) || (getI (kt ((v.take i).flatten ++ x.2.take j)) b).isSome) (by exact b_or2 (b_not (b_val (e_call h1 hr (c, b) rfl (fun _ _ h => h) (a_cons (by exact e_var 0) (a_one (by exact e_var 7))) trivial))) fun _ => b_inD (hu1 hr) (e_var 7) (rd_cell (by exact e_var 4) List.mem_cons_self)) ?_ ?_
      · rw [decide_eq_true hbl.1, decide_eq_true hbl.2, kt_get, decide_eq_false hnot]
        rfl
      refine d_put 0 (hu1 hr) (i_pure e_bool ⟨_, b, by exact e_var 4, by exact e_var 7, rfl, ?_, ?_⟩)
      · rw [kt_len]
        have h3 : ((v.take i).flatten ++ x.2.take j).length ≤ v.flatten.length := by
          have e : v.flatten = (v.take i).flatten ++ (x.2 ++ (v.drop (i + 1)).flatten) := by
            have := List.take_append_drop (i + 1) v
            rw [← List.append_assoc, ← flatten_take hx2, ← List.flatten_append, this]
          rw [e, List.length_append, List.length_append, List.length_append, List.length_take]
          omega
        omega
      refine d_nil ⟨(), trivial, ?_⟩
      rw [kt_put hnot]
      have e1 : x.2.take (j + 1) = x.2.take j ++ [b] := by rw [List.take_add_one, hb]; rfl
      rw [e1, ← List.append_assoc]
      exact .same ⟨rfl, rfl, rfl, rfl, rfl, rfl, trivial⟩
    · rw [List.take_length, ← flatten_take hx2]
      refine d_if (k := decide (0 < x.1) && decide (0 < x.1 ∧ ∃ r, c.2[x.1.toNat - 1]? = some r ∧ r.1 ≤ (x.2.length : Int))) (b_and2 (by exact b_gt (e_var 5) e_int) fun h => ?_) (fun h => ?_) fun _ => ?_
      · have h0 := of_decide_eq_true h
        have hl : x.1.toNat - 1 < c.2.length := by
          have h4 := (List.getElem?_eq_some_iff.mp hx2).1
          have h5 := hs.len
          omega
        have h6 : c.2[x.1.toNat - 1]? = some c.2[x.1.toNat - 1] := List.getElem?_eq_getElem hl
        refine b_eq (k := decide ((c.2[x.1.toNat - 1]).1 ≤ (x.2.length : Int))) (by exact b_ge (e_lenR T.len (r_R (by exact e_var 6))) (e_fst (x := c.2[x.1.toNat - 1]) (e_item (r_R (xs := c.2) (by exact e_var 3)) (e_sub (e_var 5) e_int) (atI_nat' (by omega) (by rw [show (x.1 - 1).toNat = x.1.toNat - 1 by omega]; exact h6))) e_int)) ?_
        refine decide_eq_decide.mpr ⟨fun z => ⟨h0, _, h6, z⟩, fun ⟨_, r, e, z⟩ => ?_⟩
        rw [h6] at e
        cases e
        exact z
      · exfalso
        obtain ⟨_, h2⟩ := Bool.and_eq_true_iff.mp h
        obtain ⟨h0, r, e, z⟩ := of_decide_eq_true h2
        have := hs.rail (x.1.toNat - 1) x.2 r (by rw [show x.1.toNat - 1 + 1 = i by omega]; exact hx2) e
        omega
      · exact d_nil (d_nil ⟨(), trivial, .same ⟨rfl, rfl, rfl, rfl, trivial⟩⟩)
  · rw [show (v.take (enF 0 v).length).flatten = v.flatten by rw [enF_len, List.take_length]]
    refine d_ret (d := R (⟨[]⟩ : Tup Unit)) (e_if (k := decide (((kt v.flatten).length : Int) = c.1)) (by exact b_eqS (e_lenD T.len (rd_cell (by exact e_var 4) List.mem_cons_self)) (e_var 2)) (fun _ => by exact e_tnil) fun h => ?_) ⟨[], rfl, .less trivial (List.nil_sublist _)⟩
    rw [kt_len, decide_eq_true hs.cnt] at h
    cases h
end
end Bh
namespace Bh
open PySem PySem.Spec PyProof.Rows L2
section
variable {P : Program} {w : World} {K : PySem.W.Frag} {mg : Str → Option Value} {base : Heap}
/-! require_clock, require_sight, require_order -/
def spReqClock : Spec Clk := { args := fun c => [R c], pre := ClkOk, post := fun _ d _ => d = R () }
abbrev s25 : Stmt := top 25
theorem sc25 : FnScope ["clock", "fault"] ["clock"] (defScope s25) := ⟨rfl, rfl, rfl, by decide +kernel, rfl, by decide +kernel, by decide +kernel⟩
theorem ok_require_clock (a : At K mg "require_clock" s25 ["clock"]) (h1 : Has P w K mg base "clock_fault" 4 spClockFault) : Has P w K mg base "require_clock" 5 spReqClock := has_of a fun f fd F => by
  refine fn_ok spReqClock F sc25 (fun _ => rfl) fun c hc cdv A outer s H E hr => ?_
  refine d_set 1 sc25.nd (by exact e_call h1 hr c rfl (fun _ _ h => h) (a_one (by exact e_var 0)) hc) ?_
  exact d_no (k := !decide ((⟨[]⟩ : Tup Unit) = ⟨[]⟩)) (by exact b_neD (x := (⟨[]⟩ : Tup Unit)) (y := (⟨[]⟩ : Tup Unit)) (hu64 hr) (e_var 1) e_tnil) rfl (d_nil ⟨[], rfl, .same trivial⟩)
def spReqSight : Spec (Clk × Sight) := { args := fun x => [R x.1, R x.2], pre := fun x => ClkOk x.1 ∧ SightOk x.1 x.2, post := fun _ d _ => d = R () }
abbrev s26 : Stmt := top 26
theorem sc26 : FnScope ["clock", "sight", "fault"] ["clock", "sight"] (defScope s26) := ⟨rfl, rfl, rfl, by decide +kernel, rfl, by decide +kernel, by decide +kernel⟩
theorem ok_require_sight (a : At K mg "require_sight" s26 ["clock", "sight"]) (h1 : Has P w K mg base "sight_fault" 4 spSightFault) : Has P w K mg base "require_sight" 5 spReqSight := has_of a fun f fd F => by
  refine fn_ok spReqSight F sc26 (fun _ => rfl) fun x hc cdv A outer s H E hr => ?_
  refine d_set 2 sc26.nd (by exact e_call h1 hr x rfl (fun _ _ h => h) (a_cons (by exact e_var 0) (a_one (by exact e_var 1))) hc) ?_
  exact d_no (k := !decide ((⟨[]⟩ : Tup Unit) = ⟨[]⟩)) (by exact b_neD (x := (⟨[]⟩ : Tup Unit)) (y := (⟨[]⟩ : Tup Unit)) (hu64 hr) (e_var 2) e_tnil) rfl (d_nil ⟨[], rfl, .same trivial⟩)
def spReqOrder : Spec (Clk × List Int) := { args := fun x => [R x.1, R x.2], pre := fun x => ClkOk x.1 ∧ OrderOk x.1 x.2, post := fun _ d _ => d = R () }
abbrev s27 : Stmt := top 27
theorem sc27 : FnScope ["clock", "order", "fault"] ["clock", "order"] (defScope s27) := ⟨rfl, rfl, rfl, by decide +kernel, rfl, by decide +kernel, by decide +kernel⟩
theorem ok_require_order (a : At K mg "require_order" s27 ["clock", "order"]) (h1 : Has P w K mg base "order_fault" 4 spOrderFault) : Has P w K mg base "require_order" 5 spReqOrder := has_of a fun f fd F => by
  refine fn_ok spReqOrder F sc27 (fun _ => rfl) fun x hc cdv A outer s H E hr => ?_
  refine d_set 2 sc27.nd (by exact e_call h1 hr x rfl (fun _ _ h => h) (a_cons (by exact e_var 0) (a_one (by exact e_var 1))) hc) ?_
  exact d_no (k := !decide ((⟨[]⟩ : Tup Unit) = ⟨[]⟩)) (by exact b_neD (x := (⟨[]⟩ : Tup Unit)) (y := (⟨[]⟩ : Tup Unit)) (hu64 hr) (e_var 2) e_tnil) rfl (d_nil ⟨[], rfl, .same trivial⟩)
/-! require_ball, require_tick, require_at_least -/
def spReqBall : Spec (Clk × Int) := { args := fun x => [R x.1, R x.2], pre := fun x => 0 ≤ x.2 ∧ x.2 < x.1.1, post := fun _ d _ => d = R () }
abbrev s28 : Stmt := top 28
theorem sc28 : FnScope ["clock", "ball"] ["clock", "ball"] (defScope s28) := ⟨rfl, rfl, rfl, by decide +kernel, rfl, by decide +kernel, by decide +kernel⟩
theorem ok_require_ball (a : At K mg "require_ball" s28 ["clock", "ball"]) (h1 : Has P w K mg base "is_ball" 3 spIsBall) : Has P w K mg base "require_ball" 4 spReqBall := has_of a fun f fd F => by
  refine fn_ok spReqBall F sc28 (fun _ => rfl) fun x hc cdv A outer s H E hr => ?_
  refine d_no (by exact b_not (b_val (e_call h1 hr x rfl (fun _ _ h => h) (a_cons (by exact e_var 0) (a_one (by exact e_var 1))) trivial))) ?_ (d_nil ⟨[], rfl, .same trivial⟩)
  rw [decide_eq_true hc.1, decide_eq_true hc.2]
  rfl
def spReqTick : Spec Int := { args := fun x => [R x], post := fun _ d _ => d = R () }
abbrev s29 : Stmt := top 29
theorem sc29 : FnScope ["tick"] ["tick"] (defScope s29) := ⟨rfl, rfl, rfl, by decide +kernel, rfl, by decide +kernel, by decide +kernel⟩
theorem ok_require_tick (a : At K mg "require_tick" s29 ["tick"]) (h1 : Has P w K mg base "is_integer" 1 spIsInt) : Has P w K mg base "require_tick" 2 spReqTick := has_of a fun f fd F => by
  refine fn_ok spReqTick F sc29 (fun _ => rfl) fun x hc cdv A outer s H E hr => ?_
  exact d_no (k := !true) (by exact b_not (b_val (e_call h1 hr x rfl (fun _ _ h => h) (a_one (by exact e_var 0)) trivial))) rfl (d_nil ⟨[], rfl, .same trivial⟩)
def spReqAtLeast : Spec (Int × Int) := { args := fun x => [R x.1, R x.2], pre := fun x => x.2 ≤ x.1, post := fun _ d _ => d = R () }
abbrev s30 : Stmt := top 30
theorem sc30 : FnScope ["value", "least"] ["value", "least"] (defScope s30) := ⟨rfl, rfl, rfl, by decide +kernel, rfl, by decide +kernel, by decide +kernel⟩
theorem ok_require_at_least (a : At K mg "require_at_least" s30 ["value", "least"]) (h1 : Has P w K mg base "is_at_least" 2 spAtLeast) : Has P w K mg base "require_at_least" 3 spReqAtLeast := has_of a fun f fd F => by
  refine fn_ok spReqAtLeast F sc30 (fun _ => rfl) fun x hc cdv A outer s H E hr => ?_
  refine d_no (by exact b_not (b_val (e_call h1 hr x rfl (fun _ _ h => h) (a_cons (by exact e_var 0) (a_one (by exact e_var 1))) trivial))) ?_ (d_nil ⟨[], rfl, .same trivial⟩)
  rw [decide_eq_true (show x.2 ≤ x.1 from hc)]
  rfl
/-! turn_of, digits_of -/
def spTurn : Spec Clk := { args := fun c => [R c], pre := ClkOk, post := fun c d _ => d = R (turnOf c.2) }
abbrev s31 : Stmt := top 31
theorem sc31 : FnScope ["clock", "found", "bound", "way"] ["clock"] (defScope s31) := ⟨rfl, rfl, rfl, by decide +kernel, rfl, by decide +kernel, by decide +kernel⟩
theorem ok_turn_of (a : At K mg "turn_of" s31 ["clock"]) : Has P w K mg base "turn_of" 1 spTurn := has_of a fun f fd F => by
  refine fn_ok spTurn F sc31 (fun _ => rfl) fun c hc cdv A outer s H E hr => ?_
  refine d_set 1 sc31.nd e_int ?_
  refine d_for c.2 (fun x => [(3, R x.2), (2, R x.1)]) (fun i (a : Int) => a = turnOf (c.2.take i)) (fun _ a => [(1, R a)]) (fun _ _ => []) rfl (wk_R (by exact e_snd (x := c) (e_var 0) e_int)) (fun x => g_pair rfl (g_name 2 sc31.nd) (g_name 3 sc31.nd)) ⟨1, rfl, .same ⟨rfl, trivial⟩⟩ ?_ ?_
  · intro i a x hx ha
    refine d_aug 1 sc31.nd (op := .Mult) iop_mul rfl (by exact e_var 2) (.inr ?_) (d_nil ⟨a * x.1, ?_, .same ⟨rfl, trivial⟩⟩)
    · have h1 := ClkOk.bound_le hc x (List.mem_of_getElem? hx)
      have h2 := (ClkOk.bd hc x (List.mem_of_getElem? hx)).1
      omega
    · rw [List.take_add_one, hx, ha]
      unfold turnOf
      rw [List.foldl_append]
      rfl
  · intro a ha
    refine d_ret (by exact e_var 1) ⟨[], ?_, .same trivial⟩
    rw [ha, List.take_length]
    rfl
/-- the digits of a tick -/
def digitsOf : List Rail → Int → List Int
  | [], _ => []
  | r :: rs, t => t % r.1 :: digitsOf rs (t / r.1)
def restOf : List Rail → Int → Int
  | [], t => t
  | r :: rs, t => restOf rs (t / r.1)
theorem digitsOf_snoc (r : Rail) : ∀ (rs : List Rail) (t : Int), digitsOf (rs ++ [r]) t = digitsOf rs t ++ [restOf rs t % r.1] ∧ restOf (rs ++ [r]) t = restOf rs t / r.1
  | [], t => ⟨rfl, rfl⟩
  | x :: rs, t => by
    obtain ⟨h1, h2⟩ := digitsOf_snoc r rs (t / x.1)
    exact ⟨congrArg _ h1, h2⟩
theorem digitsOf_len : ∀ (rs : List Rail) (t : Int), (digitsOf rs t).length = rs.length
  | [], _ => rfl
  | _ :: rs, t => congrArg Nat.succ (digitsOf_len rs _)
def spDigits : Spec (Clk × Int) := { args := fun x => [R x.1, R x.2], pre := fun x => ClkOk x.1, post := fun x d _ => d = R (digitsOf x.1.2 x.2) }
abbrev s32 : Stmt := top 32
abbrev N32 : List Str := ["clock", "rest", "found", "bound", "way", "digit"]
theorem sc32 : FnScope N32 ["clock", "rest"] (defScope s32) := ⟨rfl, rfl, rfl, by decide +kernel, rfl, by decide +kernel, by decide +kernel⟩
theorem ok_digits_of (T : Tx K mg) (a : At K mg "digits_of" s32 ["clock", "rest"]) : Has P w K mg base "digits_of" 1 spDigits := has_of a fun f fd F => by
  refine fn_ok spDigits F sc32 (fun _ => rfl) fun ⟨c, t⟩ hc cdv A outer s H E hr => ?_
  have hc : ClkOk c := hc
  refine d_new 2 sc32.nd n_nil fun q => ?_
  refine d_for c.2 (fun x => [(4, R x.2), (3, R x.1)]) (fun _ (_ : Unit) => True) (fun i _ => [(1, R (restOf (c.2.take i) t)), (2, dAt q)]) (fun i _ => [(q, mR (digitsOf (c.2.take i) t))]) rfl (wk_R (by exact e_snd (x := c) (e_var 0) e_int)) (fun x => g_pair rfl (g_name 3 sc32.nd) (g_name 4 sc32.nd)) ⟨(), trivial, .same ⟨rfl, rfl, trivial⟩⟩ (fun i _ x hx _ => ?_) fun _ _ => ?_
  · have h1 := ClkOk.bound_le hc x (List.mem_of_getElem? hx)
    have h2 := (ClkOk.bd hc x (List.mem_of_getElem? hx)).1
    refine d_asg (by exact e_divmod (i := restOf (c.2.take i) t) (j := x.1) T.divmod (e_var 1) (e_var 3) ⟨by omega, by omega⟩) (g_pair (x := (restOf (c.2.take i) t / x.1, restOf (c.2.take i) t % x.1)) rfl (g_name 1 sc32.nd) (g_name 5 sc32.nd)) ?_
    refine d_expr (i_append (q := q) 0 (by exact e_var 2) rfl (i_pure (by exact e_var 5) ⟨_, rfl, ?_, d_nil ⟨(), trivial, ?_⟩⟩))
    · rw [List.length_map, digitsOf_len, List.length_take]
      have := hc.len_le
      omega
    · obtain ⟨e1, e2⟩ := digitsOf_snoc x (c.2.take i) t
      have e3 : c.2.take (i + 1) = c.2.take i ++ [x] := by rw [List.take_add_one, hx]; rfl
      rw [e3, e1, e2]
      refine ⟨WkL.ok ⟨rfl, rfl, trivial⟩, _, .refl _, ?_⟩
      show List.Sublist [(q, mL _)] [(q, mL _)]
      rw [List.map_append]
      exact .refl _
  · rw [List.take_length]
    exact d_frz0 2 rfl (d_ret (by exact e_var 2) ⟨[], rfl, .same trivial⟩)
end
end Bh
/-! V4: texts: plain facts; natural_of, words_of, joined_balls, format_*. -/
namespace Bh
open PySem PySem.Spec PyProof.Rows L2 TL SX
/-! ### numbers written -/
def Nm (n : Int) : Prop := 0 ≤ n ∧ n < 10 ^ 30
theorem sI_S {n : Int} (h : 0 ≤ n) : sI n = S (numL n.toNat) := by
  have := num_S n.toNat
  rw [Int.toNat_of_nonneg h] at this
  exact this
theorem numL_len30 {n : Int} (h : Nm n) : (numL n.toNat).length ≤ 30 := numL_len (by decide) (by have := h.1; have := h.2; omega)
theorem sI_len {n : Int} (h : Nm n) : (sI n).length ≤ 30 := by rw [sI_S h.1, S_len]; exact numL_len30 h
theorem sI_ne {n : Int} (h : Nm n) : sI n ≠ "" := fun e => by
  rw [sI_S h.1] at e
  have := congrArg (fun z : Str => z.cps.toList) e
  exact numL_ne _ this
theorem sI_log {n : Int} (h : Nm n) : n.natAbs.log2 < 1920 := by
  have h1 : n.natAbs < 2 ^ 100 := by have := h.1; have := h.2; omega
  have := PySem.Flt.log2_lt_of (by decide : 0 < 100) h1
  omega
theorem sI_int {n : Int} (h : Nm n) : PySem.intText? (sI n) = some n := by
  have e := int_num (n := n.toNat) (by have := numL_len30 h; omega)
  rw [Int.toNat_of_nonneg h.1] at e
  exact e
theorem numL_head {n : Nat} (h : n ≠ 0) : ∃ c l, numL n = c :: l ∧ c ≠ 48 := by
  induction n using Nat.strongRecOn with
  | _ n ih =>
    by_cases h9 : n < 10
    · exact ⟨48 + n, [], numL_lt h9, by omega⟩
    · obtain ⟨c, l, e1, e2⟩ := ih (n / 10) (by omega) (by omega)
      exact ⟨c, l ++ [48 + n % 10], by rw [numL_step (by omega), e1]; rfl, e2⟩
theorem sI_inj {m n : Int} (hm : 0 ≤ m) (hn : 0 ≤ n) (h : sI m = sI n) : m = n := by
  rw [sI_S hm, sI_S hn] at h
  have := numL_inj (S_inj h)
  omega
theorem nm_small {n : Int} (h : 0 ≤ n) (h2 : n ≤ 1000000) : Nm n := ⟨h, by omega⟩
section
variable {P : Program} {w : World} {K : PySem.W.Frag} {mg : Str → Option Value} {base : Heap}
/-! natural_of -/
def spNat : Spec Int := { args := fun n => [R (sI n)], pre := Nm, post := fun n d _ => d = R n }
abbrev s37 : Stmt := top 37
abbrev N37 : List Str := ["word", "sign"]
theorem sc37 : FnScope N37 ["word"] (defScope s37) := ⟨rfl, rfl, rfl, by decide +kernel, rfl, by decide +kernel, by decide +kernel⟩
theorem digit_in {c : Nat} (h : 48 ≤ c ∧ c ≤ 57) : decide (c ∈ ("0123456789" : Str).cps.toList) = true := by
  have : c = 48 ∨ c = 49 ∨ c = 50 ∨ c = 51 ∨ c = 52 ∨ c = 53 ∨ c = 54 ∨ c = 55 ∨ c = 56 ∨ c = 57 := by omega
  rcases this with h | h | h | h | h | h | h | h | h | h <;> subst h <;> decide +kernel
theorem ok_natural_of (T : Tx K mg) (a : At K mg "natural_of" s37 ["word"]) : Has P w K mg base "natural_of" 1 spNat := has_of a fun f fd F => by
  refine fn_ok spNat F sc37 (fun _ => rfl) fun n hn cdv A outer s H E hr => ?_
  have hn : Nm n := hn
  have hz : (sI n).length ≤ 1000000 := by have := sI_len hn; omega
  refine d_no (k := decide (sI n = "") || (decide ((30 : Int) < ((sI n).length : Int)) || !((((sI n).cps.toList.map fun ch => (⟨#[ch]⟩ : Str)).map fun _ => true).all id))) (by exact b_or3 (b_eqS (e_var 0) e_str) (fun _ => b_gt (e_lenS T.len (e_var 0) hz) (e_gint T.digits)) fun _ _ => b_not (b_val (e_all rfl T.all (by exact e_lc [("sign", 1)] ((sI n).cps.toList.map fun ch => (⟨#[ch]⟩ : Str)) (fun x => [(1, R x)]) (fun _ => true) rfl sc37.nd (wk_str (by exact e_var 0)) (blkOk_by (N := N37) (sc := defScope s37) (by decide +kernel)) (by rw [List.length_map, Array.length_toList]; exact Nat.lt_of_le_of_lt (sI_len hn) (by decide)) (fun _ _ _ _ _ x => g_name 1 sc37.nd) fun s0 H0 C cl fp q cc x hx => by (obtain ⟨ch, h1, rfl⟩ := List.mem_map.mp hx; rw [sI_S hn.1] at h1; exact e_eq (e_inS (by exact e_var 1) (e_gstr T.signs)) (by rw [digit_in (numL_digits _ ch h1)])))))) ?_ ?_
  · rw [decide_eq_false (sI_ne hn), decide_eq_false (by have := sI_len hn; omega)]
    simp
  · have hne := numL_ne n.toNat
    obtain ⟨c0, l0, e0⟩ : ∃ c l, numL n.toNat = c :: l := by
      cases e : numL n.toNat with
      | nil => exact absurd e hne
      | cons c l => exact ⟨c, l, rfl⟩
    refine d_ret (d := R n) (e_if (k := decide ((⟨#[c0]⟩ : Str) = "0") && !decide (sI n = "0")) (by exact b_and2 (b_eqS (e_ixS (i := 0) (ch := c0) (by exact e_var 0) e_int (by rw [sI_S hn.1]; show atI (numL n.toNat) 0 = some c0; rw [e0]; exact atI_nat' (Int.le_refl _) rfl) hz) e_str) fun _ => b_neS (e_var 0) e_str) (fun h => ?_) fun _ => by exact e_intS T.int (e_var 0) (sI_int hn) (by have := sI_len hn; omega)) ⟨[], rfl, .same trivial⟩
    rw [Bool.and_eq_true, decide_eq_true_iff, Bool.not_eq_true', decide_eq_false_iff_not] at h
    obtain ⟨h1, h2⟩ := h
    exfalso
    by_cases hz : n = 0
    · subst hz
      exact h2 (by decide +kernel)
    · obtain ⟨c, l, e1, e2⟩ := numL_head (n := n.toNat) (by have := hn.1; omega)
      rw [e1] at e0
      cases e0
      exact e2 (List.cons.inj (congrArg (fun z : Str => z.cps.toList) h1)).1
/-! words_of -/
structure WsOk (ws : List Str) : Prop where
  ne : ws ≠ []
  sp : ∀ x ∈ ws, 32 ∉ tl x
  len : ws.length ≤ 2000
  sz : ∀ x ∈ ws, x.length ≤ 100
theorem join_len (ws : List Str) : (Txt.join " " ws).length ≤ (ws.map (·.length)).sum + ws.length := by
  rw [len_tl, join_eq, tl_join]
  have key : ∀ l : List Str, (joinL (tl " ") (l.map tl)).length ≤ (l.map (·.length)).sum + l.length := fun l => by
    induction l with
    | nil => exact Nat.le_refl _
    | cons x l ih =>
      cases l with
      | nil =>
        show (tl x).length ≤ _
        rw [← len_tl]
        simp
      | cons y l =>
        show (tl x ++ (tl " " ++ joinL (tl " ") ((y :: l).map tl))).length ≤ _
        rw [List.length_append, List.length_append, ← len_tl]
        have e : (tl " ").length = 1 := by decide +kernel
        have e2 : ((x :: y :: l).map (·.length)).sum = x.length + ((y :: l).map (·.length)).sum := by rw [List.map_cons, List.sum_cons]
        have e3 : (x :: y :: l).length = (y :: l).length + 1 := rfl
        rw [e2, e3]
        have ih' : (joinL (tl " ") (tl y :: l.map tl)).length ≤ ((y :: l).map (·.length)).sum + (y :: l).length := ih
        show _ + (_ + (joinL (tl " ") (tl y :: l.map tl)).length) ≤ _
        omega
  exact key ws
theorem sum_le {l : List Str} {k : Nat} (h : ∀ x ∈ l, x.length ≤ k) : (l.map (·.length)).sum ≤ l.length * k := by
  induction l with
  | nil => exact Nat.zero_le _
  | cons x l ih =>
    have h1 := h x List.mem_cons_self
    have h2 := ih fun y hy => h y (List.mem_cons_of_mem _ hy)
    rw [List.map_cons, List.sum_cons, List.length_cons, Nat.succ_mul]
    omega
theorem WsOk.join_le {ws : List Str} (h : WsOk ws) : (Txt.join " " ws).length ≤ 202000 := by
  have := join_len ws
  have h1 := sum_le h.sz
  have h2 := h.len
  have h3 : ws.length * 100 ≤ 2000 * 100 := Nat.mul_le_mul_right _ h2
  omega
theorem WsOk.sum_ok {ws : List Str} (h : WsOk ws) : (ws.map (·.length)).sum + ws.length * (" " : Str).length ≤ 16777216 := by
  have h1 := sum_le h.sz
  have h2 := h.len
  have h3 : ws.length * 100 ≤ 2000 * 100 := Nat.mul_le_mul_right _ h2
  have e : (" " : Str).length = 1 := by decide +kernel
  rw [e]
  omega
theorem WsOk.split {ws : List Str} (h : WsOk ws) : Txt.split (Txt.join " " ws) " " = ws := split_join (y := " ") (s := 32) (S := []) (by decide +kernel) (by decide +kernel) h.ne h.sp
def spWords : Spec (List Str) := { args := fun ws => [R (Txt.join " " ws)], pre := WsOk, post := fun ws d _ => d = R ws }
abbrev s39 : Stmt := top 39
theorem sc39 : FnScope ["text"] ["text"] (defScope s39) := ⟨rfl, rfl, rfl, by decide +kernel, rfl, by decide +kernel, by decide +kernel⟩
theorem ok_words_of (T : Tx K mg) (a : At K mg "words_of" s39 ["text"]) : Has P w K mg base "words_of" 1 spWords := has_of a fun f fd F => by
  refine fn_ok spWords F sc39 (fun _ => rfl) fun ws hw cdv A outer s H E hr => ?_
  have hw : WsOk ws := hw
  refine d_no (k := !true) (by exact b_not (b_val (e_isi "str" T.isinstance (e_var 0) ty_str T.str (by decide +kernel) (by decide +kernel)))) rfl ?_
  refine d_ret (by exact e_split (e_var 0) e_str (by decide +kernel) (by have := hw.join_le; exact line_of (by omega))) ⟨[], congrArg (fun l : List Str => (R l : D)) hw.split, .same trivial⟩
/-! joined_balls, format_order -/
def rowW (row : List Int) : List Str := row.map sI
theorem rowW_ok {row : List Int} (h0 : row ≠ []) (hl : row.length ≤ 1000) (h : ∀ b ∈ row, Nm b) : WsOk (rowW row) := ⟨fun e => h0 (List.map_eq_nil_iff.mp e), fun x hx => by
  obtain ⟨b, hb, rfl⟩ := List.mem_map.mp hx
  rw [sI_S (h b hb).1]
  exact numL_free (Or.inl (by decide)), by unfold rowW; rw [List.length_map]; omega, fun x hx => by
  obtain ⟨b, hb, rfl⟩ := List.mem_map.mp hx
  have := sI_len (h b hb)
  omega⟩
/-- a row of numbers that may be written -/
structure RowOk (row : List Int) : Prop where
  len : row.length ≤ 1000
  nm : ∀ b ∈ row, Nm b
theorem rowSz {row : List Int} (h : RowOk row) : ((rowW row).map (·.length)).sum + (rowW row).length * (" " : Str).length ≤ 16777216 := by
  have h1 : ∀ x ∈ rowW row, x.length ≤ 30 := fun x hx => by
    obtain ⟨b, hb, rfl⟩ := List.mem_map.mp hx
    exact sI_len (h.nm b hb)
  have h2 := sum_le h1
  have h3 : (rowW row).length ≤ 1000 := by unfold rowW; rw [List.length_map]; exact h.len
  have h4 : (rowW row).length * 30 ≤ 1000 * 30 := Nat.mul_le_mul_right _ h3
  have e : (" " : Str).length = 1 := by decide +kernel
  rw [e]
  omega
def spJoined : Spec (List Int) := { args := fun r => [R r], pre := RowOk, post := fun r d _ => d = R (Txt.join " " (rowW r)) }
abbrev s40 : Stmt := top 40
abbrev N40 : List Str := ["row", "ball"]
theorem sc40 : FnScope N40 ["row"] (defScope s40) := ⟨rfl, rfl, rfl, by decide +kernel, rfl, by decide +kernel, by decide +kernel⟩
theorem ok_joined_balls (T : Tx K mg) (a : At K mg "joined_balls" s40 ["row"]) : Has P w K mg base "joined_balls" 1 spJoined := has_of a fun f fd F => by
  refine fn_ok spJoined F sc40 (fun _ => rfl) fun r hc cdv A outer s H E hr => ?_
  have hc : RowOk r := hc
  exact d_ret (by exact e_join (ys := rowW r) e_str (e_lc [("ball", 1)] r (fun x => [(1, R x)]) sI rfl sc40.nd (wk_R (by exact e_var 0)) (blkOk_by (N := N40) (sc := defScope s40) (by decide +kernel)) (Nat.lt_of_le_of_lt hc.len (by decide)) (fun _ _ _ _ _ x => g_name 1 sc40.nd) fun s0 H0 C cl fp q cc x hx => e_strI T.str (e_var 1) (sI_log (hc.nm x hx))) (rowSz hc)) ⟨[], rfl, .same trivial⟩
abbrev s43 : Stmt := top 43
theorem sc43 : FnScope ["order"] ["order"] (defScope s43) := ⟨rfl, rfl, rfl, by decide +kernel, rfl, by decide +kernel, by decide +kernel⟩
theorem ok_format_order (a : At K mg "format_order" s43 ["order"]) (h1 : Has P w K mg base "joined_balls" 1 spJoined) : Has P w K mg base "format_order" 2 spJoined := has_of a fun f fd F => by
  refine fn_ok spJoined F sc43 (fun _ => rfl) fun r hc cdv A outer s H E hr => ?_
  exact d_ret (by exact e_call h1 hr r rfl (fun _ _ h => h) (a_one (by exact e_var 0)) hc) ⟨[], rfl, .same trivial⟩
end
end Bh
/-! V5: format_clock, format_sight, rail_of, parse_clock. -/
namespace Bh
open PySem PySem.Spec PyProof.Rows L2 TL SX
theorem cutS_S (a : List Nat) (lo hi : Option Int) : cutS (S a) lo hi = S ((a.drop (HT.sIx a.length 0 lo)).take (HT.sIx a.length a.length hi - HT.sIx a.length 0 lo)) := by
  unfold cutS
  rw [S_len]
theorem cutS_init (a : List Nat) (c : Nat) : cutS (S (a ++ [c])) none (some (-1)) = S a := by
  rw [cutS_S]
  have h1 : HT.sIx (a ++ [c]).length 0 none = 0 := rfl
  have h2 : HT.sIx (a ++ [c]).length (a ++ [c]).length (some (-1)) = a.length := by
    rw [List.length_append, List.length_singleton]
    simp [HT.sIx]
    omega
  rw [h1, h2, List.drop_zero, Nat.sub_zero, List.take_left]
theorem cutS_last (a : List Nat) (c : Nat) : cutS (S (a ++ [c])) (some (-1)) none = S [c] := by
  rw [cutS_S]
  have h1 : HT.sIx (a ++ [c]).length 0 (some (-1)) = a.length := by
    rw [List.length_append, List.length_singleton]
    simp [HT.sIx]
    omega
  have h2 : HT.sIx (a ++ [c]).length (a ++ [c]).length none = (a ++ [c]).length := rfl
  rw [h1, h2, List.drop_left, List.length_append, List.length_singleton, Nat.add_sub_cancel_left]
  rfl
def letter (w : Str) : Nat := if w = "back" then 98 else 116
def WayOk (w : Str) : Prop := w = "back" ∨ w = "through"
theorem letter_at {w : Str} (h : WayOk w) : atI w.cps.toList 0 = some (letter w) := by
  rcases h with h | h
  · subst h; decide +kernel
  · subst h; decide +kernel
theorem letter_ne {w : Str} : letter w ≠ 32 ∧ letter w ≠ 58 := by unfold letter; split <;> decide
def railW (r : Rail) : Str := sI r.1 ++ S [letter r.2]
def clkW (c : Clk) : List Str := (sI c.1 ++ (":" : Str)) :: c.2.map railW
def fmtClk (c : Clk) : Str := Txt.join " " (clkW c)
theorem railW_S {r : Rail} (h : 0 ≤ r.1) : railW r = S (numL r.1.toNat ++ [letter r.2]) := by
  unfold railW
  rw [sI_S h, S_cat]
theorem headW_S {c : Clk} (h : 0 ≤ c.1) : (sI c.1 ++ (":" : Str)) = S (numL c.1.toNat ++ [58]) := by
  rw [sI_S h, show (":" : Str) = S [58] by decide +kernel, S_cat]
theorem clkW_ok {c : Clk} (h : ClkOk c) : WsOk (clkW c) := by
  have h0 : 0 ≤ c.1 := by have := h.lo; omega
  have hr : ∀ r ∈ c.2, 0 ≤ r.1 ∧ r.1 ≤ 100 := fun r hr => ⟨by have := (h.bd r hr).1; omega, h.bound_le r hr⟩
  refine ⟨by unfold clkW; simp, fun x hx => ?_, ?_, fun x hx => ?_⟩
  · rcases List.mem_cons.mp hx with e | hx
    · rw [e, headW_S h0]
      intro hm
      rcases List.mem_append.mp hm with hm | hm
      · exact numL_free (Or.inl (by decide)) hm
      · simp at hm
    · obtain ⟨r, hr1, rfl⟩ := List.mem_map.mp hx
      rw [railW_S (hr r hr1).1]
      intro hm
      rcases List.mem_append.mp hm with hm | hm
      · exact numL_free (Or.inl (by decide)) hm
      · exact letter_ne.1 (List.mem_singleton.mp hm).symm
  · have := h.len_le
    unfold clkW
    rw [List.length_cons, List.length_map]
    omega
  · rcases List.mem_cons.mp hx with e | hx
    · rw [e, headW_S h0, S_len, List.length_append, List.length_singleton]
      have := numL_len30 (nm_small h0 (by have := h.hi; omega))
      omega
    · obtain ⟨r, hr1, rfl⟩ := List.mem_map.mp hx
      rw [railW_S (hr r hr1).1, S_len, List.length_append, List.length_singleton]
      have := numL_len30 (nm_small (hr r hr1).1 (by have := (hr r hr1).2; omega))
      omega
structure Tl (K : PySem.W.Frag) (w : World) (mg : Str → Option Value) : Prop where
  letters : ∃ p, mg "LETTERS" = some (.ref p) ∧ (p == sysModules) = false ∧ KDct K w p "b" (.str "back") ∧ KDct K w p "t" (.str "through")
section
variable {P : Program} {w : World} {K : PySem.W.Frag} {mg : Str → Option Value} {base : Heap}
theorem js2 {X : Cx} {ds : Ds} {ms : MS} {a b : Expr} {pos : Pos} {z y : Str} (ha : DE X ds ms a (R z)) (hb : DE X ds ms b (R y)) (hz : z.length + y.length ≤ 1000000) : DE X ds ms (.JoinedStr [a, b] pos) (R (z ++ y)) := e_eq (e_js2 ha hb hz) (by rw [empty_app])
def spFmtClk : Spec Clk := { args := fun c => [R c], pre := ClkOk, post := fun c d _ => d = R (fmtClk c) }
abbrev s41 : Stmt := top 41
abbrev N41 : List Str := ["clock", "bound", "way"]
theorem sc41 : FnScope N41 ["clock"] (defScope s41) := ⟨rfl, rfl, rfl, by decide +kernel, rfl, by decide +kernel, by decide +kernel⟩
theorem ok_format_clock (T : Tx K mg) (a : At K mg "format_clock" s41 ["clock"]) : Has P w K mg base "format_clock" 1 spFmtClk := has_of a fun f fd F => by
  refine fn_ok spFmtClk F sc41 (fun _ => rfl) fun c hc cdv A outer s H E hr => ?_
  have hc : ClkOk c := hc
  have n0 : Nm c.1 := nm_small (by have := hc.lo; omega) (by have := hc.hi; omega)
  have hrr : ∀ r ∈ c.2, Nm r.1 := fun r hr => nm_small (by have := (hc.bd r hr).1; omega) (by have := hc.bound_le r hr; omega)
  have hl := hc.len_le
  have h0 := sI_len n0
  refine d_ret (d := R (fmtClk c)) (by exact e_join (z := " ") (ys := clkW c) e_str (e_lst (dl := R (sI c.1 ++ (":" : Str)) :: ((c.2.map railW).map (fun x => R x) ++ [])) (a_cons (js2 (e_fmtI (e_fst (x := c) (e_var 0) e_int) (sI_log n0)) e_str (by have : (":" : Str).length = 1 := (by decide +kernel); omega)) (a_star (r_R (e_lc [("way", 2), ("bound", 1)] c.2 (fun x => [(2, R x.2), (1, R x.1)]) railW rfl sc41.nd (wk_R (e_snd (x := c) (e_var 0) e_int)) (blkOk_by (N := N41) (sc := defScope s41) (by decide +kernel)) (by omega) (fun _ _ _ _ _ x => g_pair rfl (g_name 1 sc41.nd) (g_name 2 sc41.nd)) fun s0 H0 C cl fp q cc x hx => js2 (e_fmtI (e_var 1) (sI_log (hrr x hx))) (e_fmtS (e_ixS (e_var 2) e_int (letter_at (hc.bd x hx).2) (by (rcases (hc.bd x hx).2 with h | h <;> rw [h] <;> decide +kernel))) (by show (S [letter x.2]).length ≤ 1000000; rw [S_len]; simp)) (by (have := sI_len (hrr x hx); show (sI x.1).length + (S [letter x.2]).length ≤ 1000000; rw [S_len [letter x.2], List.length_singleton]; omega)))) a_nil)) (by rw [List.append_nil]; rfl) (by (show (R (sI c.1 ++ (":" : Str)) :: ((c.2.map railW).map (fun x => R x) ++ []) : List D).length ≤ 1000000; rw [List.append_nil, List.length_cons, List.length_map, List.length_map]; omega))) (clkW_ok hc).sum_ok) ⟨[], rfl, .same trivial⟩
/-! format_sight -/
def restW (l : Sight) : List Str := l.flatMap fun row => ("|" : Str) :: rowW row
def sgW : Sight → List Str
  | [] => []
  | row :: l => rowW row ++ restW l
def fmtS (s : Sight) : Str := Txt.join " " (sgW s)
structure SgOk (s : Sight) : Prop where
  two : 2 ≤ s.length
  len : s.length ≤ 200
  flat : s.flatten.length ≤ 1000
  nm : ∀ b ∈ s.flatten, Nm b
theorem restW_mem {l : Sight} {x : Str} (h : x ∈ restW l) : x = "|" ∨ ∃ b ∈ l.flatten, x = sI b := by
  obtain ⟨row, h1, h2⟩ := List.mem_flatMap.mp h
  rcases List.mem_cons.mp h2 with e | h2
  · exact .inl e
  · obtain ⟨b, hb, rfl⟩ := List.mem_map.mp h2
    exact .inr ⟨b, List.mem_flatten.mpr ⟨row, h1, hb⟩, rfl⟩
theorem sgW_mem {s : Sight} {x : Str} (h : x ∈ sgW s) : x = "|" ∨ ∃ b ∈ s.flatten, x = sI b := by
  cases s with
  | nil => cases h
  | cons row l =>
    rcases List.mem_append.mp h with h | h
    · obtain ⟨b, hb, rfl⟩ := List.mem_map.mp h
      exact .inr ⟨b, by rw [List.flatten_cons]; exact List.mem_append_left _ hb, rfl⟩
    · rcases restW_mem h with e | ⟨b, hb, e⟩
      · exact .inl e
      · exact .inr ⟨b, by rw [List.flatten_cons]; exact List.mem_append_right _ hb, e⟩
theorem restW_len : ∀ l : Sight, (restW l).length = l.length + l.flatten.length
  | [] => rfl
  | row :: l => by
    show ((("|" : Str) :: rowW row) ++ restW l).length = _
    rw [List.length_append, restW_len l, List.length_cons, List.flatten_cons, List.length_append, List.length_cons]
    unfold rowW
    rw [List.length_map]
    omega
theorem sgW_ok {s : Sight} (h : SgOk s) : WsOk (sgW s) := by
  refine ⟨?_, fun x hx => ?_, ?_, fun x hx => ?_⟩
  · have := h.two
    match s, this with
    | r0 :: r1 :: l, _ =>
      show rowW r0 ++ ((("|" : Str) :: rowW r1) ++ restW l) ≠ []
      simp
  · rcases sgW_mem hx with e | ⟨b, hb, e⟩
    · subst e; decide +kernel
    · rw [e, sI_S (h.nm b hb).1]
      exact numL_free (Or.inl (by decide))
  · have h1 := h.len
    have h2 := h.flat
    cases s with
    | nil => exact Nat.zero_le _
    | cons row l =>
      show (rowW row ++ restW l).length ≤ _
      rw [List.length_append, restW_len]
      rw [List.flatten_cons, List.length_append] at h2
      unfold rowW
      rw [List.length_map]
      rw [List.length_cons] at h1
      omega
  · rcases sgW_mem hx with e | ⟨b, hb, e⟩
    · subst e; decide +kernel
    · have := sI_len (h.nm b hb)
      rw [e]
      omega
theorem SightOk.sg {c : Clk} {s : Sight} (hc : ClkOk c) (h : SightOk c s) : SgOk s := ⟨by
  have h1 := h.len
  have h2 : c.2.length ≠ 0 := fun e => hc.ne (List.length_eq_zero_iff.mp e)
  omega, by have := h.len; have := hc.len_le; omega, by have := h.cnt; have := hc.hi; omega, fun b hb => nm_small (h.ball b hb).1 (by have := (h.ball b hb).2; have := hc.hi; omega)⟩
def spFmtS : Spec Sight := { args := fun s => [R s], pre := SgOk, post := fun s d _ => d = R (fmtS s) }
abbrev s42 : Stmt := top 42
abbrev N42 : List Str := ["sight", "words", "row", "ball"]
theorem sc42 : FnScope N42 ["sight"] (defScope s42) := ⟨rfl, rfl, rfl, by decide +kernel, rfl, by decide +kernel, by decide +kernel⟩
theorem map_map_R {α β : Type} [Rp β] (f : α → β) (l : List α) : l.map (fun x => R (f x)) = (l.map f).map (fun x => R x) := by rw [List.map_map]; rfl
theorem ok_format_sight (T : Tx K mg) (a : At K mg "format_sight" s42 ["sight"]) : Has P w K mg base "format_sight" 1 spFmtS := has_of a fun f fd F => by
  refine fn_ok spFmtS F sc42 (fun _ => rfl) fun sg hs cdv A outer s H E hr => ?_
  have hs : SgOk sg := hs
  obtain ⟨r0, l, rfl⟩ : ∃ r0 l, sg = r0 :: l := by
    cases sg with
    | nil => have := hs.two; simp at this
    | cons a b => exact ⟨a, b, rfl⟩
  have hf := hs.flat
  have hn := hs.nm
  have hl := hs.len
  rw [List.flatten_cons, List.length_append] at hf
  rw [List.length_cons] at hl
  have hrow : ∀ b ∈ r0, Nm b := fun b hb => hn b (by rw [List.flatten_cons]; exact List.mem_append_left _ hb)
  have hlist : ∀ (row : List Int), row ∈ l → ∀ b ∈ row, Nm b := fun row h1 b hb => hn b (by rw [List.flatten_cons]; exact List.mem_append_right _ (List.mem_flatten.mpr ⟨row, h1, hb⟩))
  refine d_lc 1 [("ball", 3)] r0 (fun x => [(3, R x)]) (fun x => R (sI x)) rfl sc42.nd (wk_R (by exact e_item (xs := r0 :: l) (r_R (by exact e_var 0)) e_int (atI_nat' (Int.le_refl _) rfl))) (blkOk_by (N := N42) (sc := defScope s42) (by decide +kernel)) (by omega) (fun _ _ _ _ _ x => g_name 3 sc42.nd) (fun s0 H0 C cl fp q cc x hx => by exact e_strI T.str (e_var 3) (sI_log (hrow x hx))) fun q => ?_
  refine d_for l (fun x => [(2, R x)]) (fun _ (_ : Unit) => True) (fun _ _ => [(1, dAt q)]) (fun i _ => [(q, mR (rowW r0 ++ restW (l.take i)))]) rfl (wk_R (by exact e_eq (e_slice (xs := r0 :: l) (i := some 1) (j := none) (r_R (by exact e_var 0)) e_int trivial) (by rw [cut_from (by decide)]; rfl))) (fun x => g_name 2 sc42.nd) ⟨(), trivial, ?_⟩ (fun i _ x hx _ => ?_) fun _ _ => ?_
  · show Wk _ [(q, mL (r0.map fun x => R (sI x)))] _ [(q, mL ((rowW r0 ++ restW (l.take 0)).map fun x => R x))]
    rw [List.take_zero, show restW [] = [] from rfl, List.append_nil, map_map_R]
    exact .same ⟨rfl, trivial⟩
  · have hx2 := List.mem_of_getElem? hx
    have hxl : x.length ≤ l.flatten.length := by
      obtain ⟨l1, l2, e⟩ := List.append_of_mem hx2
      rw [e, List.flatten_append, List.flatten_cons, List.length_append, List.length_append]
      omega
    have htk : (l.take i).flatten.length ≤ l.flatten.length := by
      have e := List.take_append_drop i l
      have : l.flatten = (l.take i).flatten ++ (l.drop i).flatten := by rw [← List.flatten_append, e]
      rw [this, List.length_append]
      omega
    refine d_expr (i_extend (dl2 := R ("|" : Str) :: ((x.map sI).map (fun y => R y) ++ [])) 0 (by exact e_var 1) rfl (e_dL (a_cons (by exact e_str) (a_star (r_R (by exact e_lc [("ball", 3)] x (fun x => [(3, R x)]) sI rfl sc42.nd (wk_R (e_var 2)) (blkOk_by (N := N42) (sc := defScope s42) (by decide +kernel)) (by omega) (fun _ _ _ _ _ x => g_name 3 sc42.nd) fun s0 H0 C cl fp q cc y hy => e_strI T.str (e_var 3) (sI_log (hlist x hx2 y hy)))) a_nil)) ?_) ?_ (d_nil ⟨(), trivial, ?_⟩))
    · rw [List.append_nil, List.length_cons, List.length_map, List.length_map]
      omega
    · rw [List.append_nil, List.length_cons, List.length_map, List.length_map, List.length_map, List.length_append, restW_len, List.length_take]
      unfold rowW
      rw [List.length_map]
      omega
    · have e1 : l.take (i + 1) = l.take i ++ [x] := by rw [List.take_add_one, hx]; rfl
      have e2 : restW (l.take (i + 1)) = restW (l.take i) ++ (("|" : Str) :: rowW x) := by
        rw [e1]
        unfold restW
        rw [List.flatMap_append]
        simp
      rw [e2, ← List.append_assoc]
      refine ⟨WkL.ok ⟨rfl, trivial⟩, _, .refl _, ?_⟩
      show List.Sublist [(q, mL _)] [(q, mL _)]
      rw [List.map_append, List.append_nil]
      exact .refl _
  · rw [List.take_length]
    exact d_frz0 1 rfl (d_ret (by exact e_join (z := " ") (ys := sgW (r0 :: l)) e_str (e_var 1) (sgW_ok hs).sum_ok) ⟨[], rfl, .same trivial⟩)
/-! rail_of -/
def RailOk (r : Rail) : Prop := 2 ≤ r.1 ∧ r.1 ≤ 100 ∧ WayOk r.2
def spRailOf : Spec Rail := { args := fun r => [R (railW r)], pre := RailOk, post := fun r d _ => d = R r }
abbrev s44 : Stmt := top 44
theorem sc44 : FnScope ["word", "bound", "way"] ["word"] (defScope s44) := ⟨rfl, rfl, rfl, by decide +kernel, rfl, by decide +kernel, by decide +kernel⟩
theorem ok_rail_of (T : Tl K w mg) (a : At K mg "rail_of" s44 ["word"]) (h1 : Has P w K mg base "natural_of" 1 spNat) : Has P w K mg base "rail_of" 2 spRailOf := has_of a fun f fd F => by
  refine fn_ok spRailOf F sc44 (fun _ => rfl) fun r hc cdv A outer s H E hr => ?_
  have hc : RailOk r := hc
  obtain ⟨h2, h3, h4⟩ := hc
  have n0 : Nm r.1 := nm_small (by omega) (by omega)
  have hz : (railW r).length ≤ 1000000 := by
    rw [railW_S n0.1, S_len, List.length_append, List.length_singleton]
    have := numL_len30 n0
    omega
  have e1 : cutS (railW r) none (some (-1)) = sI r.1 := by rw [railW_S n0.1, cutS_init, sI_S n0.1]
  have e2 : cutS (railW r) (some (-1)) none = S [letter r.2] := by rw [railW_S n0.1, cutS_last]
  have hw : ∃ p, mg "LETTERS" = some (.ref p) ∧ (p == sysModules) = false ∧ KDct K w p (S [letter r.2]) (.str r.2) := by
    obtain ⟨p, l1, l2, l3, l4⟩ := T.letters
    refine ⟨p, l1, l2, ?_⟩
    rcases h4 with h | h
    · rw [h, show S [letter "back"] = ("b" : Str) by decide +kernel]; exact l3
    · rw [h, show S [letter "through"] = ("t" : Str) by decide +kernel]; exact l4
  refine d_par (da := R r.1) (db := R r.2) 1 2 rfl sc44.nd (by exact e_call h1 hr r.1 rfl (fun _ _ h => h) (a_one (e_eq (e_cutS (i := none) (j := some (-1)) (by exact e_var 0) trivial (by exact e_neg e_int) hz) (by rw [e1]))) n0) (by exact e_kget hw (e_eq (e_cutS (i := some (-1)) (j := none) (by exact e_var 0) (by exact e_neg e_int) trivial hz) (by rw [e2]))) ?_
  refine d_ret (d := R r) (e_if (k := false || (decide (r.1 < 2) || false)) (by exact b_or3 (b_isN (e_var 1) nn_int) (fun _ => b_lt (e_var 1) e_int) fun _ _ => b_isN (e_var 2) nn_str) (fun h => ?_) fun _ => by exact e_pair (e_var 1) (e_var 2)) ⟨[], rfl, .same trivial⟩
  rw [decide_eq_false (by omega)] at h
  cases h
/-! parse_clock -/
def spPClk : Spec Clk := { args := fun c => [R (fmtClk c)], pre := ClkOk, post := fun c d _ => d = R c }
abbrev s45 : Stmt := top 45
abbrev N45 : List Str := ["text", "words", "balls", "rails", "left", "index", "word", "rail"]
theorem sc45 : FnScope N45 ["text"] (defScope s45) := ⟨rfl, rfl, rfl, by decide +kernel, rfl, by decide +kernel, by decide +kernel⟩
def roomOf (rs : List Rail) : Int := (rs.map fun r => r.1 - 1).sum
theorem room_cons (r : Rail) (rs : List Rail) : roomOf (r :: rs) = (r.1 - 1) + roomOf rs := by unfold roomOf; rw [List.map_cons, List.sum_cons]
theorem room_app (rs ts : List Rail) : roomOf (rs ++ ts) = roomOf rs + roomOf ts := by unfold roomOf; rw [List.map_append, List.sum_append]
theorem room_nn {rs : List Rail} (h : ∀ r ∈ rs, 2 ≤ r.1) : 0 ≤ roomOf rs := by
  induction rs with
  | nil => exact Int.le_refl _
  | cons r rs ih =>
    rw [room_cons]
    have := h r List.mem_cons_self
    have := ih fun x hx => h x (List.mem_cons_of_mem _ hx)
    omega
theorem ClkOk.room {c : Clk} (h : ClkOk c) : roomOf c.2 < c.1 := h.sm
theorem ok_parse_clock (T : Tx K mg) (a : At K mg "parse_clock" s45 ["text"]) (h1 : Has P w K mg base "natural_of" 1 spNat) (h2 : Has P w K mg base "words_of" 1 spWords) (h3 : Has P w K mg base "rail_of" 2 spRailOf) : Has P w K mg base "parse_clock" 3 spPClk := has_of a fun f fd F => by
  refine fn_ok spPClk F sc45 (fun _ => rfl) fun c hc cdv A outer s H E hr => ?_
  have hc : ClkOk c := hc
  have h0 : 0 ≤ c.1 := by have := hc.lo; omega
  have n0 : Nm c.1 := nm_small h0 (by have := hc.hi; omega)
  have hz : (sI c.1 ++ (":" : Str)).length ≤ 1000000 := by
    rw [headW_S h0, S_len, List.length_append, List.length_singleton]
    have := numL_len30 n0
    omega
  have e1 : cutS (sI c.1 ++ (":" : Str)) none (some (-1)) = sI c.1 := by rw [headW_S h0, cutS_init, sI_S h0]
  have e2 : cutS (sI c.1 ++ (":" : Str)) (some (-1)) none = (":" : Str) := by
    rw [headW_S h0, cutS_last]
    decide +kernel
  refine d_set (d := R (clkW c)) 1 sc45.nd (by exact e_call h2 (hr.mono (by decide)) (clkW c) rfl (fun _ _ h => h) (a_one (by exact e_var 0)) (clkW_ok hc)) ?_
  refine d_set (d := R c.1) 2 sc45.nd (e_if (k := decide ((":" : Str) = ":")) (by exact b_eqS (e_eq (e_cutS (i := some (-1)) (j := none) (e_item (xs := clkW c) (r_R (e_var 1)) e_int (atI_nat' (Int.le_refl _) rfl)) (by exact e_neg e_int) trivial hz) (by rw [e2])) e_str) (fun _ => by exact e_call h1 (hr.mono (by decide)) c.1 rfl (fun _ _ h => h) (a_one (e_eq (e_cutS (i := none) (j := some (-1)) (e_item (xs := clkW c) (r_R (e_var 1)) e_int (atI_nat' (Int.le_refl _) rfl)) trivial (by exact e_neg e_int) hz) (by rw [e1]))) n0) fun h => ?_) ?_
  · simp at h
  refine d_no (k := false || !(decide (2 ≤ c.1) && decide (c.1 ≤ 100))) (by exact b_or2 (b_isN (e_var 2) nn_int) fun _ => b_not (b_chain (g := fun i j => decide (i ≤ j)) (g' := fun i j => decide (i ≤ j)) op_le op_le e_int (e_var 2) (e_gint T.balls))) ?_ ?_
  · rw [decide_eq_true hc.lo, decide_eq_true hc.hi]
    rfl
  refine d_parI 3 4 rfl sc45.nd (ai_cons (i_new n_nil fun q => ai_pure (a_one (by exact e_sub (e_var 2) e_int)) ⟨_, _, rfl, ?_⟩))
  refine d_for (enF 1 (c.2.map railW)) (fun x => [(6, R x.2), (5, R x.1)]) (fun _ (_ : Unit) => True) (fun i _ => [(4, R (c.1 - 1 - roomOf (c.2.take i))), (3, dAt q), (2, R c.1)]) (fun i _ => [(q, mR (c.2.take i))]) rfl (wk_enumk T.enumerate (r_R (xs := c.2.map railW) (by exact e_eq (e_slice (xs := clkW c) (i := some 1) (j := none) (r_R (by exact e_var 1)) e_int trivial) (by rw [cut_from (by decide)]; rfl))) (by exact e_int) trivial (by decide) (by decide) (by exact e_eq (e_slice (xs := clkW c) (i := some 1) (j := none) (r_R (by exact e_var 1)) e_int trivial) (by rw [cut_from (by decide)]; rfl))) (fun x => g_pair rfl (g_name 5 sc45.nd) (g_name 6 sc45.nd)) ⟨(), trivial, ?_⟩ (fun i _ x hx _ => ?_) fun _ _ => ?_
  · rw [List.take_zero, show roomOf [] = 0 from rfl, Int.sub_zero]
    exact .same ⟨rfl, rfl, rfl, trivial⟩
  · obtain ⟨hi, hx2⟩ := enF_get hx
    rw [List.getElem?_map] at hx2
    obtain ⟨r, hr2, hr3⟩ := Option.map_eq_some_iff.mp hx2
    have hm := List.mem_of_getElem? hr2
    have e3 : c.2.take (i + 1) = c.2.take i ++ [r] := by rw [List.take_add_one, hr2]; rfl
    have hrm : roomOf (c.2.take i) + (r.1 - 1) ≤ c.1 - 1 := by
      have h5 := hc.room
      have h6 : c.2 = c.2.take (i + 1) ++ c.2.drop (i + 1) := (List.take_append_drop ..).symm
      rw [h6, room_app, e3, room_app, show roomOf [r] = (r.1 - 1) + 0 from room_cons r []] at h5
      have := room_nn (rs := c.2.drop (i + 1)) fun y hy => (hc.bd y (List.mem_of_mem_drop hy)).1
      omega
    refine d_set (d := R r) 7 sc45.nd (by exact e_call h3 hr r rfl (fun _ _ h => h) (a_one (by rw [hr3]; exact e_var 6)) ⟨(hc.bd r hm).1, hc.bound_le r hm, (hc.bd r hm).2⟩) ?_
    refine d_no (k := false || decide (c.1 - 1 - roomOf (c.2.take i) < r.1 - 1)) (by exact b_or2 (b_isN (e_var 7) nn_pair) fun _ => b_gt (e_sub (e_fst (x := r) (e_var 7) e_int) e_int) (e_var 4)) ?_ ?_
    · rw [decide_eq_false (by omega)]
      rfl
    refine d_expr (i_append (q := q) 0 (by exact e_var 3) rfl (i_pure (by exact e_var 7) ⟨_, rfl, ?_, ?_⟩))
    · rw [List.length_map, List.length_take]
      have := hc.len_le
      omega
    refine d_aug 4 sc45.nd (op := .Sub) isub_C rfl (by exact e_sub (e_fst (x := r) (e_var 7) e_int) e_int) trivial (d_nil ⟨(), trivial, ?_⟩)
    have e4 : c.1 - 1 - roomOf (c.2.take i) - (r.1 - 1) = c.1 - 1 - roomOf (c.2.take (i + 1)) := by
      rw [e3, room_app, show roomOf [r] = (r.1 - 1) + 0 from room_cons r []]
      omega
    rw [← e4, e3]
    refine ⟨WkL.ok ⟨rfl, rfl, rfl, trivial⟩, _, .refl _, ?_⟩
    show List.Sublist [(q, mL _)] [(q, mL _)]
    rw [List.map_append]
    exact .refl _
  · rw [enF_len, List.length_map, List.take_length]
    refine d_frz0 3 rfl ?_
    refine d_no (k := decide (c.2 = [])) (by exact b_eqD (x := c.2) (y := []) (hu64 hr) (e_var 3) e_nil hc.lay rfl) (decide_eq_false hc.ne) ?_
    exact d_ret (d := R c) (by exact e_pair (e_var 2) (e_var 3)) ⟨[], rfl, .same trivial⟩
end
end Bh
/-! V6: ball_written, parse_order, parse_sight. -/
namespace Bh
open PySem PySem.Spec PyProof.Rows L2 TL SX
section
variable {P : Program} {w : World} {K : PySem.W.Frag} {mg : Str → Option Value} {base : Heap}
structure BWr where
  c : Clk
  b : Int
  seen : List Int
  q : Addr
def spBallW : Spec BWr := { args := fun x => [R x.c, R (sI x.b), dAt x.q], ms := fun x => [(x.q, mD (kt x.seen))], pre := fun x => Nm x.b ∧ x.b < x.c.1 ∧ x.b ∉ x.seen, post := fun x d m => d = R x.b ∧ m = [(x.q, mD (kt x.seen))] }
abbrev s46 : Stmt := top 46
theorem sc46 : FnScope ["clock", "word", "seen", "ball"] ["clock", "word", "seen"] (defScope s46) := ⟨rfl, rfl, rfl, by decide +kernel, rfl, by decide +kernel, by decide +kernel⟩
theorem ok_ball_written (a : At K mg "ball_written" s46 ["clock", "word", "seen"]) (h1 : Has P w K mg base "natural_of" 1 spNat) : Has P w K mg base "ball_written" 2 spBallW := has_of a fun f fd F => by
  refine fn_ok spBallW F sc46 (fun _ => rfl) fun x hc cdv A outer s H E hr => ?_
  obtain ⟨n0, h2, h3⟩ := hc
  refine d_set (d := R x.b) 3 sc46.nd (by exact e_call h1 hr x.b rfl (fun _ _ h => h) (a_one (by exact e_var 1)) n0) ?_
  refine d_ret (d := R x.b) (e_if (k := false || (decide (x.c.1 ≤ x.b) || (getI (kt x.seen) x.b).isSome)) (by exact b_or3 (b_isN (e_var 3) nn_int) (fun _ => b_ge (e_var 3) (e_fst (x := x.c) (e_var 0) e_int)) fun _ _ => b_inD (hu1 hr) (e_var 3) (rd_cell (e_var 2) List.mem_cons_self)) (fun h => ?_) fun _ => by exact e_var 3) ⟨_, ⟨rfl, rfl⟩, .same trivial⟩
  rw [decide_eq_false (by omega), kt_get, decide_eq_false h3] at h
  cases h
/-! parse_order -/
def spPOrd : Spec (Clk × List Int) := { args := fun x => [R x.1, R (Txt.join " " (rowW x.2))], pre := fun x => ClkOk x.1 ∧ OrderOk x.1 x.2, post := fun x d _ => d = R x.2 }
abbrev s48 : Stmt := top 48
abbrev N48 : List Str := ["clock", "text", "order", "seen", "words", "index", "word", "ball"]
theorem sc48 : FnScope N48 ["clock", "text"] (defScope s48) := ⟨rfl, rfl, rfl, by decide +kernel, rfl, by decide +kernel, by decide +kernel⟩
theorem OrderOk.row {c : Clk} {o : List Int} (hc : ClkOk c) (h : OrderOk c o) : RowOk o := ⟨by have := h.cnt; have := hc.hi; omega, fun b hb => nm_small (h.ball b hb).1 (by have := (h.ball b hb).2; have := hc.hi; omega)⟩
theorem OrderOk.ws {c : Clk} {o : List Int} (hc : ClkOk c) (h : OrderOk c o) : WsOk (rowW o) := rowW_ok (fun e => by have := h.cnt; have := hc.lo; rw [e] at *; simp at *; omega) (h.row hc).len (h.row hc).nm
theorem nd_take {α : Type} {l : List α} (h : l.Nodup) {i : Nat} {x : α} (hx : l[i]? = some x) : x ∉ l.take i := fun z => by
  obtain ⟨j, hj, e⟩ := List.mem_iff_getElem.mp z
  rw [List.getElem_take] at e
  rw [List.length_take] at hj
  obtain ⟨hi2, e2⟩ := List.getElem?_eq_some_iff.mp hx
  have := (List.getElem_inj h).mp (e.trans e2.symm)
  omega
theorem take_snoc {α : Type} {l : List α} {i : Nat} {x : α} (hx : l[i]? = some x) : l.take (i + 1) = l.take i ++ [x] := by rw [List.take_add_one, hx]; rfl
theorem ok_parse_order (T : Tx K mg) (a : At K mg "parse_order" s48 ["clock", "text"]) (h1 : Has P w K mg base "require_clock" 5 spReqClock) (h2 : Has P w K mg base "words_of" 1 spWords) (h3 : Has P w K mg base "ball_written" 2 spBallW) : Has P w K mg base "parse_order" 6 spPOrd := has_of a fun f fd F => by
  refine fn_ok spPOrd F sc48 (fun _ => rfl) fun ⟨c, o⟩ ⟨hc, ho⟩ cdv A outer s H E hr => ?_
  have hc : ClkOk c := hc
  have ho : OrderOk c o := ho
  have hlen : o.length ≤ 100 := by have := ho.cnt; have := hc.hi; omega
  refine d_expr (i_pure (by exact e_call h1 hr c rfl (fun _ _ h => h) (a_one (by exact e_var 0)) hc) ?_)
  refine d_par3I 2 3 4 rfl sc48.nd (ai_cons (i_new n_nil fun q1 => ai_cons (i_dnew fun q2 => ai_pure (a_one (by exact e_call h2 (hr.mono (by decide)) (rowW o) rfl (fun _ _ h => h) (a_one (by exact e_var 1)) (ho.ws hc))) ⟨_, _, _, rfl, ?_⟩)))
  refine d_for (enF 0 (rowW o)) (fun x => [(6, R x.2), (5, R x.1)]) (fun _ (_ : Unit) => True) (fun _ _ => [(0, R c), (2, dAt q1), (3, dAt q2)]) (fun i _ => [(q2, mD (kt (o.take i))), (q1, mR (o.take i))]) rfl (wk_enum T.enumerate (by exact e_var 4)) (fun x => g_pair rfl (g_name 5 sc48.nd) (g_name 6 sc48.nd)) ⟨(), trivial, .same ⟨rfl, rfl, rfl, trivial⟩⟩ (fun i _ x hx _ => ?_) fun _ _ => ?_
  · obtain ⟨hi, hx2⟩ := enF_get hx
    unfold rowW at hx2
    rw [List.getElem?_map] at hx2
    obtain ⟨b, hb1, hb2⟩ := Option.map_eq_some_iff.mp hx2
    have hm := List.mem_of_getElem? hb1
    have hbl := ho.ball b hm
    have hnot := nd_take ho.nd hb1
    refine d_setI 7 sc48.nd (i_call (S := spBallW) h3 (hr.mono (by decide)) (ai_pure (dl := [R c, R (sI b), dAt q2]) (by exact a_cons (by exact e_var 0) (a_cons (by rw [hb2]; exact e_var 6) (a_one (by exact e_var 3)))) ⟨⟨c, b, o.take i, q2⟩, [(q1, mR (o.take i))], rfl, .refl _, ⟨(ho.row hc).nm b hm, hbl.2, hnot⟩, fun d m2 hd => ?_⟩))
    obtain ⟨rfl, rfl⟩ := hd
    refine d_no (by exact b_isN (e_var 7) nn_int) rfl ?_
    refine d_put 0 (hu1 hr) (i_pure e_bool ⟨_, b, by exact e_var 3, by exact e_var 7, rfl, by rw [kt_len, List.length_take]; omega, ?_⟩)
    refine d_expr (i_append (q := q1) 1 (by exact e_var 2) rfl (i_pure (by exact e_var 7) ⟨_, rfl, by rw [List.length_map, List.length_take]; omega, d_nil ⟨(), trivial, ?_⟩⟩))
    rw [kt_put hnot, take_snoc hb1]
    refine ⟨WkL.ok ⟨rfl, rfl, rfl, trivial⟩, _, .refl _, ?_⟩
    show List.Sublist [(q2, mD _), (q1, mL _)] [(q2, mD _), (q1, mL _)]
    rw [List.map_append]
    exact .refl _
  · rw [enF_len, show (rowW o).length = o.length from List.length_map _, List.take_length]
    refine d_wk (ds' := [(0, R c), (2, dAt q1)]) (ms' := [(q1, mR o)]) (.less ⟨rfl, rfl, trivial⟩ (List.sublist_cons_self _ _)) ?_
    refine d_frz0 2 rfl ?_
    refine d_no (k := decide ((o.length : Int) < c.1)) (by exact b_lt (e_lenR T.len (r_R (xs := o) (by exact e_var 2))) (e_fst (x := c) (e_var 0) e_int)) (decide_eq_false (by have := ho.cnt; omega)) ?_
    exact d_ret (d := R o) (by exact e_var 2) ⟨[], rfl, .same trivial⟩
end
end Bh
/-! V7: parse_sight. -/
namespace Bh
open PySem PySem.Spec PyProof.Rows L2 TL SX
def spPSg : Spec (Clk × Sight) := { args := fun x => [R x.1, R (fmtS x.2)], pre := fun x => ClkOk x.1 ∧ SightOk x.1 x.2, post := fun x d _ => d = R x.2 }
abbrev s47 : Stmt := top 47
abbrev N47 : List Str := ["clock", "text", "balls", "rails", "rows", "seen", "words", "room", "index", "word", "ball", "bound", "way"]
theorem sc47 : FnScope N47 ["clock", "text"] (defScope s47) := ⟨rfl, rfl, rfl, by decide +kernel, rfl, by decide +kernel, by decide +kernel⟩
/-- what is read so far: the rows ahead of the k-th, j balls of it -/
def seenAt (s : Sight) (k j : Nat) : List Int := (s.take k).flatten ++ (s.getD k []).take j
theorem room_drop {rs : List Rail} {k : Nat} {r : Rail} (h : rs[k]? = some r) : roomOf (rs.drop k) = (r.1 - 1) + roomOf (rs.drop (k + 1)) := by
  obtain ⟨hk, e⟩ := List.getElem?_eq_some_iff.mp h
  rw [List.drop_eq_getElem_cons hk, room_cons, e]
theorem rows_room {c : Clk} {s : Sight} (h : SightOk c s) (k : Nat) : ((s.drop (k + 1)).flatten.length : Int) ≤ roomOf (c.2.drop k) := by
  have hl := h.len
  by_cases hk : c.2.length ≤ k
  · rw [List.drop_eq_nil_of_le (show s.length ≤ k + 1 by omega), List.drop_eq_nil_of_le hk]
    exact Int.le_refl _
  · have hk2 : k < c.2.length := by omega
    obtain ⟨m, hm⟩ : ∃ m, m = c.2.length - k := ⟨_, rfl⟩
    induction m generalizing k with
    | zero => omega
    | succ m ih =>
      have hr : c.2[k]? = some c.2[k] := List.getElem?_eq_getElem hk2
      have hs : k + 1 < s.length := by omega
      have e1 : s.drop (k + 1) = s[k + 1] :: s.drop (k + 1 + 1) := List.drop_eq_getElem_cons hs
      have h3 := h.rail k _ _ (List.getElem?_eq_getElem hs) hr
      rw [room_drop hr, e1, List.flatten_cons, List.length_append]
      by_cases hk3 : c.2.length ≤ k + 1
      · rw [List.drop_eq_nil_of_le (show s.length ≤ k + 1 + 1 by omega), List.drop_eq_nil_of_le hk3]
        show ((_ + ([] : List Int).length : Nat) : Int) ≤ _ + 0
        rw [List.length_nil]
        omega
      · have := ih (k + 1) hk3 (by omega) (by omega)
        omega
theorem flat_split (s : Sight) (k : Nat) : s.flatten.length = (s.take k).flatten.length + (s.drop k).flatten.length := by
  rw [← List.length_append, ← List.flatten_append, List.take_append_drop]
section
variable {P : Program} {w : World} {K : PySem.W.Frag} {mg : Str → Option Value} {base : Heap}
theorem bar_ne {b : Int} (h : 0 ≤ b) : sI b ≠ "|" := fun e => by
  rw [sI_S h] at e
  have h1 : numL b.toNat = [124] := congrArg (fun z : Str => z.cps.toList) e
  have := numL_digits b.toNat 124 (by rw [h1]; exact List.mem_singleton.mpr rfl)
  omega
theorem ok_parse_sight (T : Tx K mg) (a : At K mg "parse_sight" s47 ["clock", "text"]) (h1 : Has P w K mg base "require_clock" 5 spReqClock) (h2 : Has P w K mg base "words_of" 1 spWords) (h3 : Has P w K mg base "ball_written" 2 spBallW) : Has P w K mg base "parse_sight" 6 spPSg := has_of a fun f fd F => by
  refine fn_ok spPSg F sc47 (fun _ => rfl) fun ⟨c, s⟩ ⟨hc, hs⟩ cdv A outer sh H E hr => ?_
  have hc : ClkOk c := hc
  have hs : SightOk c s := hs
  have hrl := hc.len_le
  have hsl := hs.len
  have hflat : s.flatten.length ≤ 100 := by have := hs.cnt; have := hc.hi; omega
  have hsg := hs.sg hc
  refine d_expr (i_pure (by exact e_call h1 hr c rfl (fun _ _ h => h) (a_one (by exact e_var 0)) hc) ?_)
  refine d_asg (by exact e_var 0) (g_pair (x := c) rfl (g_name 2 sc47.nd) (g_name 3 sc47.nd)) ?_
  refine d_par3I 4 5 6 rfl sc47.nd (ai_cons (i_lstN (ai_cons (i_new n_nil fun r0 => ai_nil ⟨(by show 1 ≤ 1000000; decide), fun rq => ai_cons (i_dnew fun sq => ai_pure (a_one (by exact e_call h2 (hr.mono (by decide)) (sgW s) rfl (fun _ _ h => h) (a_one (by exact e_var 1)) (sgW_ok hsg))) ⟨_, _, _, rfl, ?_⟩)⟩))))
  refine d_set (d := R (roomOf c.2)) 7 sc47.nd (by exact e_sum rfl T.sum (by exact e_lc [("way", 12), ("bound", 11)] c.2 (fun x => [(12, R x.2), (11, R x.1)]) (fun r => r.1 - 1) rfl sc47.nd (wk_R (by exact e_var 3)) (blkOk_by (N := N47) (sc := defScope s47) (by decide +kernel)) (by omega) (fun _ _ _ _ _ x => g_pair rfl (g_name 11 sc47.nd) (g_name 12 sc47.nd)) fun s0 H0 C cl fp q cc x hx => e_sub (e_var 11) e_int)) ?_
  refine d_for (enF 0 (sgW s)) (fun x => [(9, R x.2), (8, R x.1)])
    (fun i (y : Nat × Nat × Addr) => y.1 < s.length ∧ y.2.1 ≤ (s.getD y.1 []).length ∧ (sgW s).drop i = rowW ((s.getD y.1 []).drop y.2.1) ++ restW (s.drop (y.1 + 1)))
    (fun _ y => [(7, R (roomOf (c.2.drop y.1))), (4, dAt rq), (5, dAt sq), (0, R c), (2, R c.1), (3, R c.2)])
    (fun _ y => [(y.2.2, mR ((s.getD y.1 []).take y.2.1)), (rq, mL ((s.take y.1).map (fun x => R x) ++ [dAt y.2.2])), (sq, mD (kt (seenAt s y.1 y.2.1)))])
    rfl (wk_enum T.enumerate (by exact e_var 6)) (fun x => g_pair rfl (g_name 8 sc47.nd) (g_name 9 sc47.nd)) ⟨(0, 0, r0), ⟨by show 0 < s.length; omega, Nat.zero_le _, ?_⟩, ?_⟩ (fun i ⟨k, j, r⟩ x hx ⟨hk, hj, hd⟩ => ?_) fun ⟨k, j, r⟩ ⟨hk, hj, hd⟩ => ?_
  · cases s with
    | nil => simp at hsl
    | cons row l => rfl
  · refine ⟨WkL.ok ⟨rfl, rfl, rfl, rfl, rfl, rfl, trivial⟩, _, ?_, .refl _⟩
    show List.Perm [(r0, mL []), (rq, mL [dAt r0]), (sq, mD (kt (seenAt s 0 0)))] [(sq, mD []), (rq, mL [dAt r0]), (r0, mL [])]
    exact (List.Perm.swap _ _ _).trans ((List.Perm.cons _ (List.Perm.swap _ _ _)).trans (List.Perm.swap _ _ _))
  · have hk : k < s.length := hk
    have hj : j ≤ (s.getD k []).length := hj
    have hd : (sgW s).drop i = rowW ((s.getD k []).drop j) ++ restW (s.drop (k + 1)) := hd
    obtain ⟨hi, hx2⟩ := enF_get hx
    have hil := (List.getElem?_eq_some_iff.mp hx2).1
    have e0 : (sgW s).drop i = x.2 :: (sgW s).drop (i + 1) := by rw [List.drop_eq_getElem_cons hil, (List.getElem?_eq_some_iff.mp hx2).2]
    rw [e0] at hd
    have hsk : s[k]? = some (s.getD k []) := by rw [List.getD_eq_getElem?_getD, List.getElem?_eq_getElem hk]; rfl
    generalize hrow : s.getD k [] = row at *
    have hdk : s.drop k = row :: s.drop (k + 1) := by rw [List.drop_eq_getElem_cons hk, (List.getElem?_eq_some_iff.mp hsk).2]
    have hsl2 : (seenAt s k j).length = (s.take k).flatten.length + j := by
      unfold seenAt
      rw [hrow, List.length_append, List.length_take]
      omega
    have hfs := flat_split s k
    rw [hdk, List.flatten_cons, List.length_append] at hfs
    have hrl2 : (((s.take k).map (fun x => (R x : D))) ++ [dAt r]).length = k + 1 := by rw [List.length_append, List.length_map, List.length_take, List.length_singleton]; omega
    refine d_if (k := decide (x.2 = "|")) (by exact b_eqS (e_var 9) e_str) (fun hb => ?_) fun hb => ?_
    · have hb := of_decide_eq_true hb
      have hjr : row.drop j = [] := by
        cases e : row.drop j with
        | nil => rfl
        | cons b bl =>
          rw [e] at hd
          have : x.2 = sI b := (List.cons.inj hd).1
          have hbm : b ∈ row := List.mem_of_mem_drop (by rw [e]; exact List.mem_cons_self)
          exact absurd (this.symm.trans hb) (bar_ne (hs.ball b (List.mem_flatten.mpr ⟨row, List.mem_of_getElem? hsk, hbm⟩)).1)
      have hjl : j = row.length := by
        have := congrArg List.length hjr
        rw [List.length_drop, List.length_nil] at this
        omega
      rw [hjr] at hd
      obtain ⟨row2, l2, e2⟩ : ∃ row2 l2, s.drop (k + 1) = row2 :: l2 := by
        cases e : s.drop (k + 1) with
        | nil => rw [e] at hd; cases hd
        | cons a b => exact ⟨a, b, rfl⟩
      have hk1 : k + 1 < s.length := by
        have := congrArg List.length e2
        rw [List.length_drop, List.length_cons] at this
        omega
      have hrk : c.2[k]? = some c.2[k] := List.getElem?_eq_getElem (by omega)
      have hrm := rows_room hs k
      refine d_no (k := decide ((c.2.length : Int) < ((((s.take k).map (fun x => (R x : D))) ++ [dAt r]).length : Int)) || decide (roomOf (c.2.drop k) < c.1 - ((kt (seenAt s k j)).length : Int))) (by exact b_or2 (b_gt (e_len T.len (r_in (by exact e_var 4) (.s .h0))) (e_lenR T.len (r_R (xs := c.2) (by exact e_var 3)))) fun _ => b_gt (e_sub (e_var 2) (e_lenD T.len (rd_in (by exact e_var 5) (.s (.s .h0))))) (e_var 7)) ?_ ?_
      · have hcnt := hs.cnt
        rw [hrl2, kt_len, hsl2, decide_eq_false (by omega), decide_eq_false (by omega)]
        rfl
      refine d_aug 7 sc47.nd (op := .Sub) isub_C rfl (by exact e_sub (e_fst (x := c.2[k]) (e_item (xs := c.2) (r_R (by exact e_var 3)) (e_sub (e_len T.len (r_in (by exact e_var 4) (.s .h0))) e_int) (atI_of (n := k) (by rw [hrl2]; omega) hrk)) e_int) e_int) trivial ?_
      refine d_expr (i_appK (q := rq) (by exact e_var 4) (.s .h0) (i_new n_nil fun r2 => ⟨2, _, rfl, by rw [hrl2]; omega, ?_⟩))
      refine d_to (ms' := [(rq, mL ((s.take k).map (fun x => R x) ++ [R row] ++ [dAt r2])), (r2, mL []), (sq, mD (kt (seenAt s k j)))]) (To.trans (b := [(r, mR (row.take j)), (rq, mL ((s.take k).map (fun x => R x) ++ [dAt r] ++ [dAt r2])), (r2, mL []), (sq, mD (kt (seenAt s k j)))]) (To.perm ?_) (To.frz (frz_item (d' := R row) (fun G o z1 z2 => ?_) ?_))) (d_nil (d_nil ⟨(k + 1, 0, r2), ⟨hk1, Nat.zero_le _, ?_⟩, ?_⟩))
      · exact (List.perm_middle (l₁ := [(r, mR (row.take j)), (rq, mL ((s.take k).map (fun x => R x) ++ [dAt r] ++ [dAt r2]))]) (a := (r2, mL [])) (l₂ := [(sq, mD (kt (seenAt s k j)))]))
      · have := frz_L z1 z2
        rw [hjl, List.take_length] at this
        exact this
      · rw [List.append_assoc, List.append_assoc]
        exact All2.append all2_same ⟨.inr ⟨rfl, rfl⟩, .inl rfl, trivial⟩
      · have hd2 := (List.cons.inj (hd.trans (show restW (s.drop (k + 1)) = ("|" : Str) :: (rowW row2 ++ restW l2) by rw [e2]; rfl))).2
        have e3 : s.getD (k + 1) [] = row2 := by
          rw [List.getD_eq_getElem?_getD, ← List.head?_drop, e2]
          rfl
        have e4 : s.drop (k + 1 + 1) = l2 := by
          rw [← List.drop_drop, show (s.drop (k + 1)).drop 1 = l2 by rw [e2]; rfl]
        show (sgW s).drop (i + 1) = rowW ((s.getD (k + 1) []).drop 0) ++ restW (s.drop (k + 1 + 1))
        rw [e3, e4, List.drop_zero]
        exact hd2
      · have e5 : roomOf (c.2.drop k) - (c.2[k].1 - 1) = roomOf (c.2.drop (k + 1)) := by rw [room_drop hrk]; omega
        have e6 : seenAt s (k + 1) 0 = seenAt s k j := by
          unfold seenAt
          rw [List.take_zero, List.append_nil, flatten_take hsk, hrow, hjl, List.take_length]
        refine ⟨WkL.ok ⟨?_, rfl, rfl, rfl, rfl, rfl, trivial⟩, _, ?_, .refl _⟩
        · show some (R (roomOf (c.2.drop k) - (c.2[k].1 - 1))) = some (R (roomOf (c.2.drop (k + 1))))
          rw [e5]
        · show List.Perm [(r2, mL (((s.getD (k + 1) []).take 0).map fun x => R x)), (rq, mL ((s.take (k + 1)).map (fun x => R x) ++ [dAt r2])), (sq, mD (kt (seenAt s (k + 1) 0)))] _
          rw [e6, take_snoc hsk, List.map_append, List.take_zero]
          exact List.Perm.swap _ _ _
    · have hb := of_decide_eq_false hb
      obtain ⟨b, bl, hjr⟩ : ∃ b bl, row.drop j = b :: bl := by
        cases e : row.drop j with
        | cons b bl => exact ⟨b, bl, rfl⟩
        | nil =>
          rw [e] at hd
          cases e2 : s.drop (k + 1) with
          | nil => rw [e2] at hd; cases hd
          | cons a l =>
            rw [e2] at hd
            exact absurd (List.cons.inj hd).1 hb
      rw [hjr] at hd
      have hxb : x.2 = sI b := (List.cons.inj hd).1
      have hjl : j < row.length := by
        have := congrArg List.length hjr
        rw [List.length_drop, List.length_cons] at this
        omega
      have hjb : row[j]? = some b := by
        rw [← List.head?_drop, hjr]
        rfl
      have hbm : b ∈ row := List.mem_of_getElem? hjb
      have hball := hs.ball b (List.mem_flatten.mpr ⟨row, List.mem_of_getElem? hsk, hbm⟩)
      have hnot : b ∉ seenAt s k j := by
        unfold seenAt
        rw [hrow]
        exact sight_new (c := c) hs.nd hsk hjb
      refine d_setI 10 sc47.nd (i_call (S := spBallW) h3 (hr.mono (by decide)) (ai_pure (dl := [R c, R (sI b), dAt sq]) (by exact a_cons (by exact e_var 0) (a_cons (by rw [← hxb]; exact e_var 9) (a_one (by exact e_var 5)))) ⟨⟨c, b, seenAt s k j, sq⟩, [(r, mR (row.take j)), (rq, mL ((s.take k).map (fun x => R x) ++ [dAt r]))], rfl, List.perm_append_comm (l₁ := [(sq, mD (kt (seenAt s k j)))]) (l₂ := [(r, mR (row.take j)), (rq, mL ((s.take k).map (fun x => R x) ++ [dAt r]))]), ⟨hsg.nm b (List.mem_flatten.mpr ⟨row, List.mem_of_getElem? hsk, hbm⟩), hball.2, hnot⟩, fun d m2 hd => ?_⟩))
      obtain ⟨rfl, rfl⟩ := hd
      have hdl : (((row.take j).map fun x => (R x : D)).length : Int) = (j : Int) := by rw [List.length_map, List.length_take]; omega
      refine d_no (k := false || (decide ((1 : Int) < ((((s.take k).map (fun x => (R x : D))) ++ [dAt r]).length : Int)) && decide ((c.2.getD (k - 1) (0, "")).1 - 2 < (((row.take j).map fun x => (R x : D)).length : Int)))) (by exact b_or2 (b_isN (e_var 10) nn_int) fun _ => b_and2 (b_gt (e_len T.len (r_in (by exact e_var 4) (.s (.s .h0)))) e_int) fun hlt => b_gt (e_len T.len (r_in (by exact e_ix (r_in (by exact e_var 4) (.s (.s .h0))) (e_neg e_int) (atI_last _ _)) (.s .h0))) (e_sub (e_fst (x := c.2.getD (k - 1) (0, "")) (e_item (xs := c.2) (r_R (by exact e_var 3)) (e_sub (e_len T.len (r_in (by exact e_var 4) (.s (.s .h0)))) e_int) (by (have hlt := of_decide_eq_true hlt; rw [hrl2] at hlt; refine atI_of (n := k - 1) (by rw [hrl2]; omega) ?_; rw [List.getD_eq_getElem?_getD, List.getElem?_eq_getElem (by omega)]; rfl))) e_int) e_int)) ?_ ?_
      · rw [hrl2, hdl]
        cases k with
        | zero => rfl
        | succ k =>
          have hk2 : k < c.2.length := by omega
          have h5 := hs.rail k row c.2[k] hsk (List.getElem?_eq_getElem hk2)
          have e7 : c.2.getD (k + 1 - 1) (0, "") = c.2[k] := by rw [Nat.add_sub_cancel, List.getD_eq_getElem?_getD, List.getElem?_eq_getElem hk2]; rfl
          rw [e7, decide_eq_false (p := c.2[k].1 - 2 < (j : Int)) (by omega), Bool.and_false]
          rfl
      refine d_put 0 (hu1 hr) (i_pure e_bool ⟨_, b, by exact e_var 5, by exact e_var 10, rfl, by rw [kt_len, hsl2]; omega, ?_⟩)
      refine d_expr (i_appK (q := r) (dl := (row.take j).map fun x => R x) (by exact e_ix (r_in (by exact e_var 4) (.s (.s .h0))) (e_neg e_int) (atI_last _ _)) (.s .h0) (i_pure (by exact e_var 10) ⟨1, _, rfl, by rw [List.length_map, List.length_take]; omega, ?_⟩))
      refine d_nil (d_nil ⟨(k, j + 1, r), ⟨hk, by show j + 1 ≤ (s.getD k []).length; rw [hrow]; omega, ?_⟩, ?_⟩)
      · have hd2 := (List.cons.inj hd).2
        have e8 : row.drop (j + 1) = bl := by rw [← List.drop_drop, hjr]; rfl
        show (sgW s).drop (i + 1) = rowW ((s.getD k []).drop (j + 1)) ++ restW (s.drop (k + 1))
        rw [hrow, e8]
        exact hd2
      · have e9 : seenAt s k (j + 1) = seenAt s k j ++ [b] := by
          unfold seenAt
          rw [hrow, take_snoc hjb, List.append_assoc]
        refine ⟨WkL.ok ⟨rfl, rfl, rfl, rfl, rfl, rfl, trivial⟩, _, ?_, .refl _⟩
        show List.Perm [(r, mL (((s.getD k []).take (j + 1)).map fun x => R x)), (rq, mL ((s.take k).map (fun x => R x) ++ [dAt r])), (sq, mD (kt (seenAt s k (j + 1))))] [(sq, mD (putI (kt (seenAt s k j)) b (R true))), (r, mL ((row.take j).map (fun x => R x) ++ [R b])), (rq, mL ((s.take k).map (fun x => R x) ++ [dAt r]))]
        rw [e9, ← kt_put hnot, hrow, take_snoc hjb, List.map_append]
        exact List.perm_append_comm (l₁ := [_, _]) (l₂ := [_])
  · have hk : k < s.length := hk
    have hj : j ≤ (s.getD k []).length := hj
    have hd : (sgW s).drop (enF 0 (sgW s)).length = rowW ((s.getD k []).drop j) ++ restW (s.drop (k + 1)) := hd
    rw [enF_len] at hd
    rw [List.drop_length] at hd
    have hsk : s[k]? = some (s.getD k []) := by rw [List.getD_eq_getElem?_getD, List.getElem?_eq_getElem hk]; rfl
    generalize hrow : s.getD k [] = row at *
    have hd := List.append_eq_nil_iff.mp hd.symm
    have hjr : row.drop j = [] := List.map_eq_nil_iff.mp hd.1
    have hjl : j = row.length := by
      have := congrArg List.length hjr
      rw [List.length_drop, List.length_nil] at this
      omega
    have hkl : s.drop (k + 1) = [] := by
      cases e : s.drop (k + 1) with
      | nil => rfl
      | cons a b => rw [e] at hd; cases hd.2
    have hk2 : s.length = k + 1 := by
      have := congrArg List.length hkl
      rw [List.length_drop, List.length_nil] at this
      omega
    have hall : s.take k ++ [row] = s := by rw [← take_snoc hsk, ← hk2, List.take_length]
    have hseen : (seenAt s k j).length = s.flatten.length := by
      unfold seenAt
      rw [hrow, hjl, List.take_length, ← flatten_take hsk, ← hk2, List.take_length]
    refine d_to (ms' := [(rq, mR s), (sq, mD (kt (seenAt s k j)))]) (To.frz (frz_item (d' := R row) (fun G o z1 z2 => ?_) ?_)) ?_
    · have := frz_L z1 z2
      rw [hjl, List.take_length] at this
      exact this
    · have : s.map (fun x => (R x : D)) = (s.take k).map (fun x => R x) ++ [R row] := by
        conv => lhs; rw [← hall]
        rw [List.map_append]
        rfl
      rw [this]
      exact All2.append all2_same ⟨.inr ⟨rfl, rfl⟩, trivial⟩
    refine d_frz0 4 rfl ?_
    refine d_no (k := decide ((s.length : Int) ≤ (c.2.length : Int)) || decide (((kt (seenAt s k j)).length : Int) < c.1)) (by exact b_or2 (b_le (e_lenR T.len (r_R (xs := s) (by exact e_var 4))) (e_lenR T.len (r_R (xs := c.2) (by exact e_var 3)))) fun _ => b_lt (e_lenD T.len (rd_in (by exact e_var 5) .h0)) (e_var 2)) ?_ ?_
    · have := hs.cnt
      rw [kt_len, hseen, decide_eq_false (by omega), decide_eq_false (by omega)]
      rfl
    exact d_ret (d := R s) (by exact e_var 4) ⟨[], rfl, .less trivial (List.nil_sublist _)⟩
end
end Bh
/-! T0: rows of a turn as plain lists. -/
namespace Bh
open PySem PySem.Spec PyProof.Rows L2
/-- the rails' own law, without the balls -/
def RsOk (rs : List Rail) : Prop := ∀ r ∈ rs, 2 ≤ r.1 ∧ (r.2 = "back" ∨ r.2 = "through")
def pick (q idx : List Int) : List Int := idx.map fun p => q.getD p.toNat 0
abbrev PermN (l : List Int) (n : Nat) : Prop := l.Perm (rngL 0 n)
theorem rngL_succ (lo : Int) (n : Nat) : rngL lo (n + 1) = rngL lo n ++ [lo + (n : Int)] := by
  unfold rngL
  rw [List.range_succ, List.map_append]
  rfl
theorem rngL_mem {n : Nat} {x : Int} : x ∈ rngL 0 n ↔ 0 ≤ x ∧ x < n := by
  unfold rngL
  rw [List.mem_map]
  constructor
  · rintro ⟨i, h1, h2⟩
    rw [List.mem_range] at h1
    omega
  · rintro ⟨h1, h2⟩
    exact ⟨x.toNat, by rw [List.mem_range]; omega, by omega⟩
theorem rngL_nd (n : Nat) : (rngL 0 n).Nodup := by
  unfold rngL
  refine List.pairwise_map.mpr ?_
  refine List.Pairwise.imp ?_ (List.nodup_range (n := n))
  intro a b h e
  exact h (by omega)
theorem rngL_at {n i : Nat} (h : i < n) : (rngL 0 n)[i]? = some (i : Int) := by
  unfold rngL
  rw [List.getElem?_map, List.getElem?_range h]
  show some ((0 : Int) + (i : Int)) = _
  rw [Int.zero_add]
theorem PermN.len {l : List Int} {n : Nat} (h : PermN l n) : l.length = n := by rw [h.length_eq, rngL_len]
theorem PermN.mem {l : List Int} {n : Nat} (h : PermN l n) {x : Int} : x ∈ l ↔ 0 ≤ x ∧ x < n := by rw [h.mem_iff, rngL_mem]
theorem PermN.nd {l : List Int} {n : Nat} (h : PermN l n) : l.Nodup := h.nodup_iff.mpr (rngL_nd n)
theorem pick_rng (q : List Int) : pick q (rngL 0 q.length) = q := by
  refine List.ext_getElem? fun i => ?_
  unfold pick
  rw [List.getElem?_map]
  by_cases hi : i < q.length
  · rw [rngL_at hi, List.getElem?_eq_getElem hi]
    show some (q.getD (i : Int).toNat 0) = _
    rw [Int.toNat_natCast, List.getD_eq_getElem?_getD, List.getElem?_eq_getElem hi]
    rfl
  · rw [List.getElem?_eq_none (l := q) (by omega), List.getElem?_eq_none (by rw [rngL_len]; omega)]
    rfl
theorem pick_perm {q idx : List Int} (h : PermN idx q.length) : (pick q idx).Perm q := by
  have := h.map fun p : Int => q.getD p.toNat 0
  rw [show (rngL 0 q.length).map (fun p => q.getD p.toNat 0) = q from pick_rng q] at this
  exact this
theorem pick_at {q : List Int} {p : Int} (h0 : 0 ≤ p) (h1 : p < q.length) : atI q p = some (q.getD p.toNat 0) := by
  refine atI_nat' h0 ?_
  rw [List.getD_eq_getElem?_getD, List.getElem?_eq_getElem (by omega)]
  rfl
/-- one turn of the rail below: what it gives, the queue behind it -/
def stepQ (f : Nat → List Int) (st : List Int × List Int) : List Int × List Int := (pick st.1 (f st.1.length).tail, st.2 ++ [st.1.getD ((f st.1.length).headD 0).toNat 0])
def turnSt (f : Nat → List Int) (q : List Int) : Nat → List Int × List Int
  | 0 => (q, [])
  | t + 1 => stepQ f (turnSt f q t)
theorem turn_inv {f : Nat → List Int} {q : List Int} {lo : Nat} (hf : ∀ m, lo ≤ m → m ≤ q.length → PermN (f m) m) (hlo : 1 ≤ lo) : ∀ t, t + lo ≤ q.length + 1 →
    (turnSt f q t).1.length + t = q.length ∧ (turnSt f q t).2.length = t ∧ ((turnSt f q t).2 ++ (turnSt f q t).1).Perm q
  | 0, _ => ⟨rfl, rfl, .refl _⟩
  | t + 1, h => by
    obtain ⟨h1, h2, h3⟩ := turn_inv hf hlo t (by omega)
    have hp := hf (turnSt f q t).1.length (by omega) (by omega)
    show (stepQ f (turnSt f q t)).1.length + _ = _ ∧ (stepQ f (turnSt f q t)).2.length = _ ∧ ((stepQ f (turnSt f q t)).2 ++ (stepQ f (turnSt f q t)).1).Perm q
    generalize turnSt f q t = st at *
    unfold stepQ
    obtain ⟨a, tl, e⟩ : ∃ a tl, f st.1.length = a :: tl := by
      cases e : f st.1.length with
      | nil =>
        have := hp.len
        rw [e, List.length_nil] at this
        omega
      | cons a tl => exact ⟨a, tl, rfl⟩
    have hk := pick_perm hp
    have hl := hp.len
    rw [e] at hk hl ⊢
    dsimp only [List.tail_cons, List.headD_cons]
    have e2 : pick st.1 (a :: tl) = st.1.getD a.toNat 0 :: pick st.1 tl := rfl
    rw [e2] at hk
    rw [List.length_cons] at hl
    refine ⟨?_, by rw [List.length_append, List.length_singleton, h2], ?_⟩
    · show (tl.map _).length + (t + 1) = _
      rw [List.length_map]
      omega
    · rw [List.append_assoc]
      exact (List.Perm.append_left st.2 hk).trans h3
def backOf (way : Str) (l : List Int) : List Int := if way = "back" then l.reverse else l
theorem back_perm (way : Str) (l : List Int) : (backOf way l).Perm l := by
  unfold backOf
  split
  · exact List.reverse_perm l
  · exact .refl _
def rowOf (rs : List Rail) : Nat → Nat → List Int
  | 0, n => rngL 0 n
  | k + 1, n => ((turnSt (rowOf rs k) (rngL 0 n) (rs.getD k (0, "")).1.toNat).2.getLastD 0) :: ((turnSt (rowOf rs k) (rngL 0 n) (rs.getD k (0, "")).1.toNat).1 ++ backOf (rs.getD k (0, "")).2 (turnSt (rowOf rs k) (rngL 0 n) (rs.getD k (0, "")).1.toNat).2.dropLast)
theorem room_take {rs : List Rail} {k : Nat} {r : Rail} (h : rs[k]? = some r) : roomOf (rs.take (k + 1)) = roomOf (rs.take k) + (r.1 - 1) := by
  rw [take_snoc h, room_app, show roomOf [r] = (r.1 - 1) + 0 from room_cons r []]
  omega
theorem room_take_nn {rs : List Rail} (h : RsOk rs) (k : Nat) : 0 ≤ roomOf (rs.take k) := room_nn fun r hr => (h r (List.mem_of_mem_take hr)).1
theorem last_app {l : List Int} (h : l ≠ []) : l.dropLast ++ [l.getLastD 0] = l := by
  have e : l.getLastD 0 = l.getLast h := by
    rw [List.getLastD_eq_getLast?, List.getLast?_eq_some_getLast h]
    rfl
  rw [e]
  exact List.dropLast_concat_getLast h
theorem row_perm {rs : List Rail} (h : RsOk rs) : ∀ (k n : Nat), k ≤ rs.length → roomOf (rs.take k) < n → PermN (rowOf rs k n) n
  | 0, n, _, _ => .refl _
  | k + 1, n, hk, hn => by
    have hr : rs[k]? = some rs[k] := List.getElem?_eq_getElem (by omega)
    have e0 : rs.getD k (0, "") = rs[k] := by rw [List.getD_eq_getElem?_getD, hr]; rfl
    have hb := (h _ (List.mem_of_getElem? hr)).1
    rw [room_take hr] at hn
    have h0 := room_take_nn h k
    unfold rowOf
    rw [e0]
    obtain ⟨h1, h2, h3⟩ := turn_inv (f := rowOf rs k) (q := rngL 0 n) (lo := (roomOf (rs.take k)).toNat + 1) (fun m hm _ => row_perm h k m (by omega) (by omega)) (by omega) rs[k].1.toNat (by rw [rngL_len]; omega)
    generalize turnSt (rowOf rs k) (rngL 0 n) rs[k].1.toNat = st at *
    have hne : st.2 ≠ [] := fun e => by rw [e, List.length_nil] at h2; omega
    have e1 := last_app hne
    have p1 : (st.2.getLastD 0 :: (st.1 ++ backOf rs[k].2 st.2.dropLast)).Perm (st.2.getLastD 0 :: (st.2.dropLast ++ st.1)) := .cons _ ((List.Perm.append_left _ (back_perm _ _)).trans List.perm_append_comm)
    refine p1.trans ?_
    refine (List.perm_middle.symm).trans ?_
    rw [show st.2.dropLast ++ st.2.getLastD 0 :: st.1 = (st.2.dropLast ++ [st.2.getLastD 0]) ++ st.1 by rw [List.append_assoc]; rfl, e1]
    exact h3
/-- the rails from the last to the first -/
def spotSt (rs : List Rail) (n : Nat) (counts : List Int) : Nat → List Int × List (List Int)
  | 0 => (rngL 0 n, [])
  | i + 1 => ((turnSt (rowOf rs (counts.length - i - 1)) (spotSt rs n counts i).1 (counts.getD (counts.length - i - 1) 0).toNat).1, (spotSt rs n counts i).2 ++ [(turnSt (rowOf rs (counts.length - i - 1)) (spotSt rs n counts i).1 (counts.getD (counts.length - i - 1) 0).toNat).2])
def spotsOf (rs : List Rail) (n : Nat) (counts : List Int) : List (List Int) := (spotSt rs n counts counts.length).1 :: (spotSt rs n counts counts.length).2.reverse
structure CtOk (rs : List Rail) (counts : List Int) : Prop where
  len : counts.length = rs.length
  bd : ∀ (i : Nat) (r : Rail) (x : Int), rs[i]? = some r → counts[i]? = some x → 0 ≤ x ∧ x < r.1
theorem spot_inv {rs : List Rail} {n : Nat} {counts : List Int} (h : RsOk rs) (hc : CtOk rs counts) (hn : roomOf rs < n) : ∀ i, i ≤ counts.length →
    roomOf (rs.take (counts.length - i)) < ((spotSt rs n counts i).1.length : Int) ∧ (spotSt rs n counts i).2.length = i ∧ ((spotSt rs n counts i).2.flatten ++ (spotSt rs n counts i).1).Perm (rngL 0 n) ∧
    (∀ j row, (spotSt rs n counts i).2[j]? = some row → (row.length : Int) = counts.getD (counts.length - 1 - j) 0)
  | 0, _ => ⟨by
      show _ < ((rngL 0 n).length : Int)
      rw [rngL_len, Nat.sub_zero, hc.len, List.take_length]
      exact hn, rfl, .refl _, fun j row hj => by cases hj⟩
  | i + 1, hi => by
    obtain ⟨h1, h2, h3, h4⟩ := spot_inv h hc hn i (by omega)
    have hl := hc.len
    have hk : counts.length - i - 1 < rs.length := by omega
    have hr : rs[counts.length - i - 1]? = some rs[counts.length - i - 1] := List.getElem?_eq_getElem hk
    have hx : counts[counts.length - i - 1]? = some counts[counts.length - i - 1] := List.getElem?_eq_getElem (by omega)
    have ex : counts.getD (counts.length - i - 1) 0 = counts[counts.length - i - 1] := by rw [List.getD_eq_getElem?_getD, hx]; rfl
    obtain ⟨hb0, hb1⟩ := hc.bd _ _ _ hr hx
    rw [show counts.length - i = (counts.length - i - 1) + 1 by omega, room_take hr] at h1
    have h0 := room_take_nn h (counts.length - i - 1)
    obtain ⟨g1, g2, g3⟩ := turn_inv (f := rowOf rs (counts.length - i - 1)) (q := (spotSt rs n counts i).1) (lo := (roomOf (rs.take (counts.length - i - 1))).toNat + 1) (fun m hm _ => row_perm h _ m (by omega) (by omega)) (by omega) (counts.getD (counts.length - i - 1) 0).toNat (by rw [ex]; omega)
    unfold spotSt
    generalize turnSt (rowOf rs (counts.length - i - 1)) (spotSt rs n counts i).1 (counts.getD (counts.length - i - 1) 0).toNat = st at *
    generalize spotSt rs n counts i = sp at *
    refine ⟨?_, by rw [List.length_append, List.length_singleton, h2], ?_, fun j row hj => ?_⟩
    · show roomOf (rs.take (counts.length - (i + 1))) < (st.1.length : Int)
      rw [show counts.length - (i + 1) = counts.length - i - 1 by omega]
      rw [ex] at g1
      omega
    · show ((sp.2 ++ [st.2]).flatten ++ st.1).Perm _
      rw [List.flatten_append, List.append_assoc]
      refine List.Perm.trans (List.Perm.append_left _ ?_) h3
      simpa using g3
    · have hj : (sp.2 ++ [st.2])[j]? = some row := hj
      by_cases hji : j < sp.2.length
      · rw [List.getElem?_append_left hji] at hj
        exact h4 j row hj
      · rw [List.getElem?_append_right (by omega)] at hj
        have : j = sp.2.length := by
          have := (List.getElem?_eq_some_iff.mp hj).1
          rw [List.length_singleton] at this
          omega
        subst this
        rw [Nat.sub_self] at hj
        cases hj
        rw [g2, h2, show counts.length - 1 - i = counts.length - i - 1 by omega, ex]
        omega
structure SpotsOk (rs : List Rail) (n : Nat) (counts : List Int) (s : List (List Int)) : Prop where
  len : s.length = rs.length + 1
  perm : PermN s.flatten n
  row : ∀ j row, s[j + 1]? = some row → (row.length : Int) = counts.getD j 0
theorem flatten_rev_perm : ∀ l : List (List Int), l.reverse.flatten.Perm l.flatten
  | [] => .refl _
  | x :: l => by
    rw [List.reverse_cons, List.flatten_append, List.flatten_cons]
    rw [show x ++ ([] : List (List Int)).flatten = x from List.append_nil x, List.flatten_cons]
    exact List.perm_append_comm.trans (List.Perm.append_left _ (flatten_rev_perm l))
theorem spots_ok {rs : List Rail} {n : Nat} {counts : List Int} (h : RsOk rs) (hc : CtOk rs counts) (hn : roomOf rs < n) : SpotsOk rs n counts (spotsOf rs n counts) := by
  obtain ⟨h1, h2, h3, h4⟩ := spot_inv h hc hn counts.length (Nat.le_refl _)
  unfold spotsOf
  generalize spotSt rs n counts counts.length = sp at *
  refine ⟨?_, ?_, fun j row hj => ?_⟩
  · rw [List.length_cons, List.length_reverse, h2, hc.len]
  · rw [List.flatten_cons]
    exact (List.perm_append_comm).trans ((List.Perm.append_right _ (flatten_rev_perm _)).trans h3)
  · rw [List.getElem?_cons_succ] at hj
    have hjl := (List.getElem?_eq_some_iff.mp hj).1
    rw [List.length_reverse] at hjl
    rw [List.getElem?_reverse hjl] at hj
    have := h4 _ _ hj
    rw [this]
    congr 1
    omega
def turnRow (c : Clk) : List Int := (rowOf c.2 c.2.length c.1.toNat).tail ++ [(rowOf c.2 c.2.length c.1.toNat).headD 0]
theorem ClkOk.rs {c : Clk} (h : ClkOk c) : RsOk c.2 := fun r hr => h.bd r hr
theorem turnRow_perm {c : Clk} (h : ClkOk c) : PermN (turnRow c) c.1.toNat := by
  have hp := row_perm h.rs c.2.length c.1.toNat (Nat.le_refl _) (by rw [List.take_length]; have := h.room; have := h.lo; omega)
  unfold turnRow
  cases e : rowOf c.2 c.2.length c.1.toNat with
  | nil =>
    have := hp.len
    have := h.lo
    rw [e, List.length_nil] at *
    omega
  | cons a tl =>
    rw [e] at hp
    exact (List.perm_append_comm (l₁ := tl) (l₂ := [a])).trans hp
/-! ### cycles -/
def walkC (row : List Int) : Nat → List Int → List Int → Int → List Int × List Int
  | 0, seen, cyc, _ => (seen, cyc)
  | f + 1, seen, cyc, here => if here ∈ seen then (seen, cyc) else walkC row f (seen ++ [here]) (cyc ++ [here]) (row.getD here.toNat 0)
def cycSt (row : List Int) : Nat → List (List Int) × List Int
  | 0 => ([], [])
  | b + 1 => (if (walkC row (row.length + 1 - (cycSt row b).2.length) (cycSt row b).2 [] (b : Int)).2 = [] then (cycSt row b).1 else (cycSt row b).1 ++ [(walkC row (row.length + 1 - (cycSt row b).2.length) (cycSt row b).2 [] (b : Int)).2], (walkC row (row.length + 1 - (cycSt row b).2.length) (cycSt row b).2 [] (b : Int)).1)
def cyclesOf (row : List Int) : List (List Int) := (cycSt row row.length).1
theorem nd_len {l : List Int} {n : Nat} (h : l.Nodup) (hm : ∀ x ∈ l, 0 ≤ x ∧ x < n) : l.length ≤ n := by
  induction n generalizing l with
  | zero =>
    cases l with
    | nil => exact Nat.le_refl _
    | cons x l => have := hm x List.mem_cons_self; omega
  | succ n ih =>
    by_cases hn : (n : Int) ∈ l
    · have h1 := List.perm_cons_erase hn
      have h2 := h1.length_eq
      have h3 := ih (l := l.erase (n : Int)) (h.erase _) fun x hx => by
        obtain ⟨h4, h5⟩ := (List.Nodup.mem_erase_iff h).mp hx
        have := hm x h5
        omega
      rw [List.length_cons] at h2
      omega
    · have := ih (l := l) h fun x hx => by
        have h4 := hm x hx
        have : x ≠ (n : Int) := fun e => hn (e ▸ hx)
        omega
      omega
/-- what walkC keeps: seen is old ++ cyc, all different, in range -/
theorem walkC_inv {row : List Int} {n : Nat} (hr : ∀ i, i < n → 0 ≤ row.getD i 0 ∧ row.getD i 0 < n) : ∀ (f : Nat) (old cyc : List Int) (here : Int), (old ++ cyc).Nodup → (∀ x ∈ old ++ cyc, 0 ≤ x ∧ x < (n : Int)) → 0 ≤ here → here < n → n + 1 - (old ++ cyc).length ≤ f →
    ∃ more, walkC row f (old ++ cyc) cyc here = (old ++ (cyc ++ more), cyc ++ more) ∧ (old ++ (cyc ++ more)).Nodup ∧ (∀ x ∈ old ++ (cyc ++ more), 0 ≤ x ∧ x < (n : Int)) ∧ (here ∈ old ++ (cyc ++ more))
  | 0, old, cyc, here, hn, hm, h0, h1, hf => by
    have := nd_len hn hm
    omega
  | f + 1, old, cyc, here, hn, hm, h0, h1, hf => by
    unfold walkC
    by_cases hh : here ∈ old ++ cyc
    · rw [if_pos hh]
      exact ⟨[], by rw [List.append_nil], by rw [List.append_nil]; exact hn, by rw [List.append_nil]; exact hm, by rw [List.append_nil]; exact hh⟩
    · rw [if_neg hh]
      have e : old ++ cyc ++ [here] = old ++ (cyc ++ [here]) := List.append_assoc ..
      have hn2 : (old ++ (cyc ++ [here])).Nodup := by
        rw [← e]
        exact List.nodup_append.mpr ⟨hn, List.nodup_cons.mpr ⟨(fun z => nomatch z), List.nodup_nil⟩, fun a ha b hb q => by
          rw [List.mem_singleton] at hb
          rw [q, hb] at ha
          exact hh ha⟩
      have hm2 : ∀ x ∈ old ++ (cyc ++ [here]), 0 ≤ x ∧ x < (n : Int) := fun x hx => by
        rw [← e] at hx
        rcases List.mem_append.mp hx with hx | hx
        · exact hm x hx
        · rw [List.mem_singleton] at hx
          omega
      have hrr := hr here.toNat (by omega)
      obtain ⟨more, g1, g2, g3, g4⟩ := walkC_inv hr f old (cyc ++ [here]) (row.getD here.toNat 0) hn2 hm2 hrr.1 hrr.2 (by
        rw [List.length_append, List.length_append, List.length_singleton]
        rw [List.length_append] at hf
        omega)
      refine ⟨here :: more, ?_, ?_, ?_, ?_⟩
      · rw [e, g1, List.append_assoc]
        rfl
      · have : cyc ++ here :: more = cyc ++ [here] ++ more := by rw [List.append_assoc]; rfl
        rw [this]; exact g2
      · have : cyc ++ here :: more = cyc ++ [here] ++ more := by rw [List.append_assoc]; rfl
        rw [this]; exact g3
      · exact List.mem_append_right _ (List.mem_append_right _ List.mem_cons_self)
structure CycOk (n b : Nat) (st : List (List Int) × List Int) : Prop where
  flat : st.2 = st.1.flatten
  nd : st.2.Nodup
  rg : ∀ x ∈ st.2, 0 ≤ x ∧ x < (n : Int)
  all : ∀ x : Int, 0 ≤ x → x < b → x ∈ st.2
  ne : ∀ c ∈ st.1, c ≠ []
theorem perm_get {row : List Int} {n : Nat} (h : PermN row n) : ∀ i, i < n → 0 ≤ row.getD i 0 ∧ row.getD i 0 < n := fun i hi => by
  have hl := h.len
  have : row[i]? = some (row.getD i 0) := by rw [List.getD_eq_getElem?_getD, List.getElem?_eq_getElem (by omega)]; rfl
  exact h.mem.mp (List.mem_of_getElem? this)
theorem cyc_inv {row : List Int} {n : Nat} (h : PermN row n) : ∀ b, b ≤ n → CycOk n b (cycSt row b)
  | 0, _ => ⟨rfl, List.nodup_nil, fun x hx => (nomatch hx), fun x h0 h1 => by omega, fun c hc => (nomatch hc)⟩
  | b + 1, hb => by
    obtain ⟨h1, h2, h3, h4, h5⟩ := cyc_inv h b (by omega)
    have hl := h.len
    unfold cycSt
    generalize cycSt row b = st at *
    obtain ⟨more, g1, g2, g3, g4⟩ := walkC_inv (perm_get h) (row.length + 1 - st.2.length) st.2 [] (b : Int) (by rw [List.append_nil]; exact h2) (by rw [List.append_nil]; exact h3) (by omega) (by omega) (by rw [List.append_nil]; omega)
    rw [List.append_nil] at g1
    rw [g1]
    rw [List.nil_append] at *
    refine ⟨?_, g2, g3, fun x h0 h1' => ?_, fun c hc => ?_⟩
    · show st.2 ++ more = _
      split
      · rename_i hm
        have hm : more = [] := hm
        rw [hm, List.append_nil]; exact h1
      · rw [List.flatten_append, ← h1]
        simp
    · by_cases hx : x = (b : Int)
      · rw [hx]; exact g4
      · exact List.mem_append_left _ (h4 x h0 (by omega))
    · have hc : c ∈ (if more = [] then st.1 else st.1 ++ [more]) := hc
      split at hc
      · exact h5 c hc
      · rename_i hm
        rcases List.mem_append.mp hc with hc | hc
        · exact h5 c hc
        · rw [List.mem_singleton] at hc
          rw [hc]; exact hm
theorem perm_of_all {l : List Int} {n : Nat} (h : l.Nodup) (hm : ∀ x ∈ l, 0 ≤ x ∧ x < (n : Int)) (ha : ∀ x : Int, 0 ≤ x → x < n → x ∈ l) : PermN l n :=
  (List.perm_ext_iff_of_nodup h (rngL_nd n)).mpr fun x => ⟨fun hx => rngL_mem.mpr (hm x hx), fun hx => ha x (rngL_mem.mp hx).1 (rngL_mem.mp hx).2⟩
theorem cycles_perm {row : List Int} {n : Nat} (h : PermN row n) : PermN (cyclesOf row).flatten n ∧ ∀ c ∈ cyclesOf row, c ≠ [] := by
  obtain ⟨h1, h2, h3, h4, h5⟩ := cyc_inv h n (Nat.le_refl _)
  unfold cyclesOf
  rw [h.len]
  exact ⟨h1 ▸ perm_of_all h2 h3 h4, h5⟩
/-! ### lists written place by place -/
def puts (l : List Int) (A : List (Int × Int)) : List Int := A.foldl (fun l x => l.set x.1.toNat x.2) l
theorem puts_len : ∀ (A : List (Int × Int)) (l : List Int), (puts l A).length = l.length
  | [], l => rfl
  | x :: A, l => by
    show (puts (l.set x.1.toNat x.2) A).length = _
    rw [puts_len A, List.length_set]
theorem puts_other : ∀ (A : List (Int × Int)) (l : List Int) (i : Nat), (∀ x ∈ A, x.1.toNat ≠ i) → (puts l A)[i]? = l[i]?
  | [], l, i, _ => rfl
  | x :: A, l, i, h => by
    show (puts (l.set x.1.toNat x.2) A)[i]? = _
    rw [puts_other A _ i fun y hy => h y (List.mem_cons_of_mem _ hy), List.getElem?_set_ne (h x List.mem_cons_self)]
theorem puts_at : ∀ (A : List (Int × Int)) (l : List Int) (x : Int × Int), (A.map (·.1)).Nodup → (∀ y ∈ A, 0 ≤ y.1 ∧ y.1 < l.length) → x ∈ A → (puts l A)[x.1.toNat]? = some x.2
  | y :: A, l, x, hn, hm, hx => by
    show (puts (l.set y.1.toNat y.2) A)[x.1.toNat]? = _
    rw [List.map_cons, List.nodup_cons] at hn
    rcases List.mem_cons.mp hx with e | hx
    · subst e
      have hxm := hm x List.mem_cons_self
      rw [puts_other A _ _ fun z hz e => hn.1 (List.mem_map.mpr ⟨z, hz, by have := hm z (List.mem_cons_of_mem _ hz); omega⟩)]
      exact List.getElem?_set_self (by omega)
    · exact puts_at A _ x hn.2 (fun z hz => by rw [List.length_set]; exact hm z (List.mem_cons_of_mem _ hz)) hx
theorem puts_perm {A : List (Int × Int)} {l : List Int} {n : Nat} (hl : l.length = n) (h : PermN (A.map (·.1)) n) : (puts l A).Perm (A.map (·.2)) := by
  have hm : ∀ y ∈ A, 0 ≤ y.1 ∧ y.1 < (l.length : Int) := fun y hy => by
    have := h.mem.mp (List.mem_map.mpr ⟨y, hy, rfl⟩)
    omega
  have e1 : A.map (·.2) = pick (puts l A) (A.map (·.1)) := by
    unfold pick
    rw [List.map_map]
    refine List.map_congr_left fun x hx => ?_
    have := puts_at A l x h.nd hm hx
    show x.2 = (puts l A).getD x.1.toNat 0
    rw [List.getD_eq_getElem?_getD, this]
    rfl
  rw [e1]
  refine (pick_perm ?_).symm
  rw [puts_len, hl]
  exact h
theorem puts_id {A : List (Int × Int)} {l : List Int} {n : Nat} (hl : l.length = n) (h : PermN (A.map (·.1)) n) (he : ∀ x ∈ A, x.2 = x.1) : puts l A = rngL 0 n := by
  have hm : ∀ y ∈ A, 0 ≤ y.1 ∧ y.1 < (l.length : Int) := fun y hy => by
    have := h.mem.mp (List.mem_map.mpr ⟨y, hy, rfl⟩)
    omega
  refine List.ext_getElem? fun i => ?_
  by_cases hi : i < n
  · have hx : (i : Int) ∈ A.map (·.1) := h.mem.mpr (by omega)
    obtain ⟨x, hx1, hx2⟩ := List.mem_map.mp hx
    have := puts_at A l x h.nd hm hx1
    rw [he x hx1] at this
    have e : x.1 = (i : Int) := hx2
    rw [e, Int.toNat_natCast] at this
    rw [this, rngL_at hi]
  · rw [List.getElem?_eq_none (by rw [puts_len]; omega), List.getElem?_eq_none (by rw [rngL_len]; omega)]
/-- a cycle's places, each with the ball t further on -/
def rotA (c : List Int) (t : Int) : List (Int × Int) := (enF 0 c).map fun x => (x.2, c.getD ((x.1 + t) % (c.length : Int)).toNat 0)
def powA (cs : List (List Int)) (t : Int) : List (Int × Int) := cs.flatMap fun c => rotA c t
def powerRow (row : List Int) (t : Int) : List Int := puts row (powA (cyclesOf row) t)
theorem enF_snd {α : Type} : ∀ (k : Int) (l : List α), (enF k l).map (·.2) = l
  | _, [] => rfl
  | k, x :: l => by rw [enF, List.map_cons, enF_snd]
theorem enF_fst {α : Type} : ∀ (k : Nat) (l : List α), (enF (k : Int) l).map (·.1) = (List.range' k l.length).map fun (i : Nat) => (i : Int)
  | _, [] => rfl
  | k, x :: l => by
    rw [enF, List.map_cons, show ((k : Int) + 1) = ((k + 1 : Nat) : Int) by omega, enF_fst (k + 1) l, List.length_cons, List.range'_succ]
    rfl
theorem enF_fst0 {α : Type} (l : List α) : (enF 0 l).map (·.1) = rngL 0 l.length := by
  have := enF_fst 0 l
  rw [show ((0 : Nat) : Int) = 0 from rfl] at this
  rw [this, rngL, List.range_eq_range']
  exact List.map_congr_left fun i _ => by omega
theorem rotA_fst (c : List Int) (t : Int) : (rotA c t).map (·.1) = c := by
  unfold rotA
  rw [List.map_map]
  exact enF_snd 0 c
theorem rotA_snd (c : List Int) (t : Int) : ((rotA c t).map (·.2)).Perm c := by
  have e : (rotA c t).map (·.2) = pick c ((rngL 0 c.length).map fun i => (i + t) % (c.length : Int)) := by
    unfold rotA pick
    rw [List.map_map, List.map_map, ← enF_fst0, List.map_map]
    rfl
  rw [e]
  by_cases hc : c.length = 0
  · rw [List.length_eq_zero_iff.mp hc]
    exact .refl _
  have hpos : (0 : Int) < c.length := by omega
  refine pick_perm (perm_of_all ?_ (fun x hx => ?_) fun x h0 h1 => ?_)
  · refine List.pairwise_map.mpr (List.Pairwise.imp_of_mem ?_ (rngL_nd c.length))
    intro a b ha hb hab e
    have ha := rngL_mem.mp ha
    have hb := rngL_mem.mp hb
    have h1 : (a + t - (b + t)) % (c.length : Int) = 0 := by
      rw [Int.sub_emod, e, Int.sub_self]
      exact Int.zero_emod _
    have h2 : a + t - (b + t) = a - b := by omega
    rw [h2] at h1
    have h3 := Int.emod_emod_of_dvd
    obtain ⟨k, hk⟩ := Int.dvd_of_emod_eq_zero h1
    have : k = 0 := by
      rcases Int.lt_trichotomy k 0 with h | h | h
      · have : (c.length : Int) * k ≤ (c.length : Int) * (-1) := Int.mul_le_mul_of_nonneg_left (by omega) (by omega)
        omega
      · exact h
      · have : (c.length : Int) * 1 ≤ (c.length : Int) * k := Int.mul_le_mul_of_nonneg_left (by omega) (by omega)
        omega
    subst this
    omega
  · obtain ⟨i, _, rfl⟩ := List.mem_map.mp hx
    exact ⟨Int.emod_nonneg _ (by omega), Int.emod_lt_of_pos _ hpos⟩
  · refine List.mem_map.mpr ⟨(x - t) % (c.length : Int), rngL_mem.mpr ⟨Int.emod_nonneg _ (by omega), Int.emod_lt_of_pos _ hpos⟩, ?_⟩
    rw [Int.emod_add_emod, Int.sub_add_cancel]
    exact Int.emod_eq_of_lt h0 h1
theorem powA_fst (cs : List (List Int)) (t : Int) : (powA cs t).map (·.1) = cs.flatten := by
  unfold powA
  induction cs with
  | nil => rfl
  | cons c cs ih => rw [List.flatMap_cons, List.map_append, ih, rotA_fst, List.flatten_cons]
theorem powA_snd (cs : List (List Int)) (t : Int) : ((powA cs t).map (·.2)).Perm cs.flatten := by
  unfold powA
  induction cs with
  | nil => exact .refl _
  | cons c cs ih =>
    rw [List.flatMap_cons, List.map_append, List.flatten_cons]
    exact (rotA_snd c t).append ih
theorem power_perm {row : List Int} {n : Nat} (h : PermN row n) (t : Int) : PermN (powerRow row t) n := by
  have hc := (cycles_perm h).1
  exact (puts_perm h.len (by rw [powA_fst]; exact hc)).trans ((powA_snd _ t).trans hc)
theorem rotA_zero {c : List Int} {x : Int × Int} (h : x ∈ rotA c 0) : x.2 = x.1 := by
  obtain ⟨y, hy, rfl⟩ := List.mem_map.mp h
  obtain ⟨i, hi⟩ := List.getElem?_of_mem hy
  obtain ⟨h1, h2⟩ := enF_get hi
  have hl := (List.getElem?_eq_some_iff.mp h2).1
  show c.getD ((y.1 + 0) % (c.length : Int)).toNat 0 = y.2
  rw [h1, Int.add_zero, Int.emod_eq_of_lt (by omega) (by omega), List.getD_eq_getElem?_getD, show ((0 : Int) + (i : Int)).toNat = i by omega, h2]
  rfl
theorem power_zero {row : List Int} {n : Nat} (h : PermN row n) : powerRow row 0 = rngL 0 n :=
  puts_id h.len (by rw [powA_fst]; exact (cycles_perm h).1) fun x hx => by
    obtain ⟨c, _, hx⟩ := List.mem_flatMap.mp hx
    exact rotA_zero hx
def invA (row : List Int) : List (Int × Int) := (enF 0 row).map fun x => (x.2, x.1)
def inverseRow (row : List Int) : List Int := puts row (invA row)
theorem inverse_perm {row : List Int} {n : Nat} (h : PermN row n) : PermN (inverseRow row) n := by
  have e1 : (invA row).map (·.1) = row := by
    unfold invA
    rw [List.map_map]
    exact enF_snd 0 row
  have e2 : (invA row).map (·.2) = rngL 0 n := by
    unfold invA
    rw [List.map_map, ← h.len]
    exact enF_fst0 row
  have := puts_perm (A := invA row) (l := row) h.len (by rw [e1]; exact h)
  rw [e2] at this
  exact this
end Bh
/-! V8: Runs, spots_at, turn_row. -/
namespace Bh
open PySem PySem.Spec PyProof.Rows L2
/-- a method of the text -/
structure AtM (K : PySem.W.Frag) (C : Addr) (x qual : Str) (st : Stmt) (ps : List Str) : Prop where
  c : Cls K C
  h : ∃ f fd, FD K x qual st f fd ∧ Meth K C x f ∧ Binds K fd ps []
theorem hasM_of {P : Program} {w : World} {K : PySem.W.Frag} {mg : Str → Option Value} {base : Heap} {A : Type} {C : Addr} {x qual : Str} {k : Nat} {S : Spec A} {st : Stmt} {ps : List Str} (a : AtM K C x qual st ps) (h : ∀ f fd, FD K x qual st f fd → FnOk P w K mg base CX0 k f fd ps (spOf S)) : HasM P w K mg base C x k S := by
  obtain ⟨f, fd, F, hm, hb⟩ := a.h
  exact ⟨a.c, f, fd, ps, hm, hb, h f fd F⟩
/-- a class that may be made -/
structure AtC (K : PySem.W.Frag) (mg : Str → Option Value) (x : Str) (C : Addr) (qual : Str) (st : Stmt) (ps : List Str) : Prop where
  c : Cls K C
  h : ∃ f fd, FD K "__init__" qual st f fd ∧ mg x = some (.ref C) ∧ Mk K C f ∧ Binds K fd ps []
theorem hasC_of {P : Program} {w : World} {K : PySem.W.Frag} {mg : Str → Option Value} {base : Heap} {A : Type} {C : Addr} {x qual : Str} {k : Nat} {S : Spec A} {st : Stmt} {ps : List Str} (a : AtC K mg x C qual st ps) (h : ∀ f fd, FD K "__init__" qual st f fd → FnOk P w K mg base CX0 k f fd ps (spOf S)) : HasC P w K mg base x C k S := by
  obtain ⟨f, fd, F, hm, hk, hb⟩ := a.h
  exact ⟨f, fd, ps, hm, hk, hb, h f fd F⟩
theorem HasM.mono {P : Program} {w : World} {K : PySem.W.Frag} {mg : Str → Option Value} {base : Heap} {A : Type} {C : Addr} {x : Str} {j k : Nat} {S : Spec A} (h : HasM P w K mg base C x j S) (hk : j ≤ k) : HasM P w K mg base C x k S := by
  obtain ⟨c, f, fd, ps, h1, h2, h3⟩ := h
  exact ⟨c, f, fd, ps, h1, h2, h3.mono hk⟩
/-! ### Runs -/
structure RunsAt (K : PySem.W.Frag) (mg : Str → Option Value) (C : Addr) : Prop where
  init : AtC K mg "Runs" C "Runs.__init__" (clM 50 0) ["self", "clock"]
  row : AtM K C "row" "Runs.row" (clM 50 1) ["self", "rail", "length"]
  found : AtM K C "found_row" "Runs.found_row" (clM 50 2) ["self", "rail", "length"]
  n1 : NoAttr K C "own_rails"
  n2 : NoAttr K C "own_rows"
/-- the cache holds rows as they are -/
structure Good (rs : List Rail) (ents : List ((Int × Int) × D)) : Prop where
  val : ∀ e ∈ ents, 0 ≤ e.1.1 ∧ e.1.1 ≤ 100 ∧ 0 ≤ e.1.2 ∧ e.1.2 ≤ 100 ∧ e.2 = R (rowOf rs e.1.1.toNat e.1.2.toNat)
  nd : (ents.map (·.1)).Nodup
theorem Good.nil (rs : List Rail) : Good rs [] := ⟨fun e h => (nomatch h), List.nodup_nil⟩
theorem Good.len {rs : List Rail} {ents : List ((Int × Int) × D)} (h : Good rs ents) : ents.length ≤ 10201 := by
  have e : (ents.map fun e => e.1.1 * 101 + e.1.2).length = ents.length := List.length_map _
  rw [← e]
  refine nd_len (n := 10201) ?_ fun x hx => ?_
  · have h1 : (ents.map fun e => e.1.1 * 101 + e.1.2) = (ents.map (·.1)).map fun k : Int × Int => k.1 * 101 + k.2 := by rw [List.map_map]; rfl
    rw [h1]
    refine List.pairwise_map.mpr (List.Pairwise.imp_of_mem ?_ h.nd)
    intro a b ha hb hab e
    obtain ⟨x, hx, rfl⟩ := List.mem_map.mp ha
    obtain ⟨y, hy, rfl⟩ := List.mem_map.mp hb
    obtain ⟨x1, x2, x3, x4, _⟩ := h.val x hx
    obtain ⟨y1, y2, y3, y4, _⟩ := h.val y hy
    exact hab (Prod.ext (by omega) (by omega))
  · obtain ⟨y, hy, rfl⟩ := List.mem_map.mp hx
    obtain ⟨y1, y2, y3, y4, _⟩ := h.val y hy
    omega
theorem Good.get {rs : List Rail} {ents : List ((Int × Int) × D)} (h : Good rs ents) {k : Int × Int} (hk : (getP ents k).isSome = true) : getP ents k = some (R (rowOf rs k.1.toNat k.2.toNat)) := by
  unfold getP at *
  rw [Option.isSome_map] at hk
  obtain ⟨x, hx⟩ := Option.isSome_iff_exists.mp hk
  have h1 := List.mem_of_find?_eq_some hx
  have h2 := of_decide_eq_true (List.find?_some (p := fun x : (Int × Int) × D => decide (x.1 = k)) hx)
  rw [hx, Option.map_some, (h.val x h1).2.2.2.2, h2]
theorem Good.put {rs : List Rail} {ents : List ((Int × Int) × D)} (h : Good rs ents) {k : Int × Int} (h1 : 0 ≤ k.1 ∧ k.1 ≤ 100 ∧ 0 ≤ k.2 ∧ k.2 ≤ 100) : Good rs (putP ents k (R (rowOf rs k.1.toNat k.2.toNat))) := by
  unfold putP
  split
  · refine ⟨fun e he => ?_, ?_⟩
    · obtain ⟨x, hx, rfl⟩ := List.mem_map.mp he
      by_cases hxk : x.1 = k
      · rw [if_pos hxk]
        subst hxk
        exact ⟨h1.1, h1.2.1, h1.2.2.1, h1.2.2.2, rfl⟩
      · rw [if_neg hxk]
        exact h.val x hx
    · rw [List.map_map, show ((fun x : (Int × Int) × D => x.1) ∘ fun x => if x.1 = k then (x.1, R (rowOf rs k.1.toNat k.2.toNat)) else x) = fun x => x.1 by funext x; dsimp only [Function.comp]; split <;> rfl]
      exact h.nd
  · rename_i hn
    refine ⟨fun e he => ?_, ?_⟩
    · rcases List.mem_append.mp he with he | he
      · exact h.val e he
      · rw [List.mem_singleton] at he
        subst he
        exact ⟨h1.1, h1.2.1, h1.2.2.1, h1.2.2.2, rfl⟩
    · rw [List.map_append]
      refine List.nodup_append.mpr ⟨h.nd, List.nodup_cons.mpr ⟨(fun z => nomatch z), List.nodup_nil⟩, fun a ha b hb q => ?_⟩
      rw [List.map_cons, List.map_nil, List.mem_singleton] at hb
      obtain ⟨x, hx, rfl⟩ := List.mem_map.mp ha
      exact hn (List.any_eq_true.mpr ⟨x, hx, decide_eq_true (q.trans hb)⟩)
structure RnA where
  rs : List Rail
  x : Addr
  d : Addr
  ents : List ((Int × Int) × D)
  rail : Nat
  n : Nat
def runsF (rs : List Rail) (d : Addr) : List (Str × D) := [("own_rails", R rs), ("own_rows", dAt d)]
def runsMs (C : Addr) (rs : List Rail) (x d : Addr) (ents : List ((Int × Int) × D)) : MS := [(x, mI C (runsF rs d)), (d, mP ents)]
structure RnOk (j : Nat) (a : RnA) : Prop where
  rs : RsOk a.rs
  good : Good a.rs a.ents
  rail : a.rail ≤ j
  le : a.rail ≤ a.rs.length
  len : a.rs.length ≤ 100
  room : roomOf (a.rs.take a.rail) < a.n
  n : a.n ≤ 100
def spRow (C : Addr) (j : Nat) : Spec RnA := { args := fun a => [dAt a.x, R (a.rail : Int), R (a.n : Int)], ms := fun a => runsMs C a.rs a.x a.d a.ents, pre := RnOk j, post := fun a d m => d = R (rowOf a.rs a.rail a.n) ∧ ∃ e2, Good a.rs e2 ∧ m = runsMs C a.rs a.x a.d e2 }
theorem runs_l {rs : List Rail} {d : Addr} {m : Str} (h : (m == ("own_rails" : Str)) = false) (h2 : (m == ("own_rows" : Str)) = false) : (runsF rs d).lookup m = none := by
  unfold runsF
  rw [List.lookup_cons, h, List.lookup_cons, h2]
  rfl
section
variable {P : Program} {w : World} {K : PySem.W.Frag} {mg : Str → Option Value} {base : Heap} {C : Addr}
abbrev N501 : List Str := ["self", "rail", "length", "key"]
theorem sc501 : FnScope N501 ["self", "rail", "length"] (defScope (clM 50 1)) := ⟨rfl, rfl, rfl, by decide +kernel, rfl, by decide +kernel, by decide +kernel⟩
theorem ok_row {k j : Nat} (a : RunsAt K mg C) (h1 : HasM P w K mg base C "found_row" k (spRow C j)) : HasM P w K mg base C "row" (k + 1) (spRow C j) := hasM_of a.row fun f fd F => by
  refine fn_ok (spRow C j) F sc501 (fun _ => rfl) fun y hy cdv A outer s H E hr => ?_
  have hy : RnOk j y := hy
  have hkey : 0 ≤ (y.rail : Int) ∧ (y.rail : Int) ≤ 100 ∧ 0 ≤ (y.n : Int) ∧ (y.n : Int) ≤ 100 := by have := hy.le; have := hy.len; have := hy.n; omega
  refine d_set (d := R ((y.rail : Int), (y.n : Int))) 3 sc501.nd (by exact e_pair (e_var 1) (e_var 2)) ?_
  refine d_if (k := !(getP y.ents ((y.rail : Int), (y.n : Int))).isSome) (by exact b_notinP (q := y.d) (hu1 hr) (e_var 3) (e_fld a.row.c (e_var 0) .h0 rfl a.n2) (.s .h0)) (fun hk => ?_) fun hk => ?_
  · refine d_putP (q := y.d) (hu1 hr) (i_meth (S := spRow C j) (q := y.x) (fs := runsF y.rs y.d) h1 hr (by exact e_var 0) .h0 (runs_l rfl rfl) (ai_pure (dl := [R (y.rail : Int), R (y.n : Int)]) (by exact a_cons (by exact e_var 1) (a_one (by exact e_var 2))) ⟨y, [], rfl, by rw [List.append_nil], hy, fun d m2 hd => ?_⟩))
    obtain ⟨rfl, e2, g2, rfl⟩ := hd
    rw [List.append_nil]
    refine ⟨1, e2, ((y.rail : Int), (y.n : Int)), by exact e_fld a.row.c (e_var 0) .h0 rfl a.n2, by exact e_var 3, rfl, by have := g2.len; omega, d_nil ?_⟩
    have g3 := g2.put (k := ((y.rail : Int), (y.n : Int))) hkey
    exact d_ret (by exact e_getP (q := y.d) (hu1 hr) (e_fld a.row.c (e_var 0) .h0 rfl a.n2) (.s .h0) (e_var 3) (getP_put _ _ _)) ⟨_, ⟨rfl, _, g3, rfl⟩, .same trivial⟩
  · have hk : (getP y.ents ((y.rail : Int), (y.n : Int))).isSome = true := by simpa using hk
    exact d_nil (d_ret (by exact e_getP (q := y.d) (hu1 hr) (e_fld a.row.c (e_var 0) .h0 rfl a.n2) (.s .h0) (e_var 3) (hy.good.get hk)) ⟨_, ⟨rfl, _, hy.good, rfl⟩, .same trivial⟩)
abbrev N502 : List Str := ["self", "rail", "length", "queue", "bound", "way", "lying", "turn", "row", "given", "back", "place"]
theorem sc502 : FnScope N502 ["self", "rail", "length"] (defScope (clM 50 2)) := ⟨rfl, rfl, rfl, by decide +kernel, rfl, by decide +kernel, by decide +kernel⟩
/-- row 0 alone -/
theorem ok_found0 (T : Tx K mg) (a : RunsAt K mg C) : HasM P w K mg base C "found_row" 1 (spRow C 0) := hasM_of a.found fun f fd F => by
  refine fn_ok (spRow C 0) F sc502 (fun _ => rfl) fun y hy cdv A outer s H E hr => ?_
  have hy : RnOk 0 y := hy
  have h0 : y.rail = 0 := by have := hy.rail; omega
  refine d_set (d := R (rngL 0 y.n)) 3 sc502.nd (by exact e_listRg (n := (y.n : Int)) rfl T.list T.range (e_var 2) ⟨by omega, by have := hy.n; omega⟩) ?_
  refine d_if (k := decide ((y.rail : Int) = 0)) (by exact b_eqS (e_var 1) e_int) (fun _ => ?_) fun hk => ?_
  · refine d_ret (by exact e_var 3) ⟨_, ⟨?_, _, hy.good, rfl⟩, .same trivial⟩
    rw [h0]
    rfl
  · rw [h0] at hk
    cases hk
theorem ok_found {k j : Nat} (T : Tx K mg) (a : RunsAt K mg C) (h1 : HasM P w K mg base C "row" k (spRow C j)) : HasM P w K mg base C "found_row" (k + 1) (spRow C (j + 1)) := hasM_of a.found fun f fd F => by
  refine fn_ok (spRow C (j + 1)) F sc502 (fun _ => rfl) fun y hy cdv A outer s H E hr => ?_
  have hy : RnOk (j + 1) y := hy
  obtain ⟨rs, x, d, ents, rail, n⟩ := y
  obtain ⟨hrs, hgood, hrail, hle, hlen, hroom, hn⟩ := hy
  dsimp only at hrs hgood hrail hle hlen hroom hn
  refine d_set (d := R (rngL 0 n)) 3 sc502.nd (by exact e_listRg (n := (n : Int)) rfl T.list T.range (e_var 2) ⟨by omega, by omega⟩) ?_
  refine d_if (k := decide ((rail : Int) = 0)) (by exact b_eqS (e_var 1) e_int) (fun hk => ?_) fun hk => d_nil ?_
  · have h0 : rail = 0 := by have := of_decide_eq_true hk; omega
    subst h0
    exact d_ret (by exact e_var 3) ⟨_, ⟨rfl, _, hgood, rfl⟩, .same trivial⟩
  obtain ⟨i, rfl⟩ : ∃ i, rail = i + 1 := ⟨rail - 1, by have := of_decide_eq_false hk; omega⟩
  have hr1 : rs[i]? = some rs[i] := List.getElem?_eq_getElem (by omega)
  generalize hrr : rs[i] = r at hr1
  have hb := hrs r (List.mem_of_getElem? hr1)
  rw [room_take hr1] at hroom
  have hr0 := room_take_nn hrs i
  have e0 : rs.getD i (0, "") = r := by rw [List.getD_eq_getElem?_getD, hr1]; rfl
  have hb100 : r.1 ≤ 100 := by omega
  have inv := turn_inv (f := rowOf rs i) (q := rngL 0 n) (lo := (roomOf (rs.take i)).toNat + 1) (fun m hm _ => row_perm hrs i m (by omega) (by omega)) (by omega)
  refine d_asg (d := R r) (by exact e_item (xs := rs) (r_R (e_fld (fs := runsF rs d) a.found.c (by exact e_var 0) .h0 rfl a.n1)) (e_sub (by exact e_var 1) e_int) (atI_of (n := i) (by (show ((i + 1 : Nat) : Int) - 1 = (i : Int); omega)) hr1)) (g_pair (x := r) rfl (g_name 4 sc502.nd) (g_name 5 sc502.nd)) ?_
  refine d_new 6 sc502.nd n_nil fun q => ?_
  refine d_for (rngL 0 r.1.toNat) (fun x => [(7, R x)]) (fun t (es : List ((Int × Int) × D)) => Good rs es ∧ t ≤ r.1.toNat)
    (fun t _ => [(3, R (turnSt (rowOf rs i) (rngL 0 n) t).1), (6, dAt q), (0, dAt x), (1, R ((i + 1 : Nat) : Int)), (4, R r.1), (5, R r.2)])
    (fun t es => [(q, mR (turnSt (rowOf rs i) (rngL 0 n) t).2), (x, mI C (runsF rs d)), (d, mP es)]) rfl (by exact wk_rng1 T.range (e_var 4) (by omega)) (fun x => g_name 7 sc502.nd) ⟨ents, ⟨hgood, Nat.zero_le _⟩, .same ⟨rfl, rfl, rfl, rfl, rfl, rfl, trivial⟩⟩ (fun t es tx hx ⟨hg, _⟩ => ?_) fun es ⟨hg, _⟩ => ?_
  · obtain ⟨ht, _⟩ := rngL_get hx
    obtain ⟨i1, i2, i3⟩ := inv t (by rw [rngL_len]; omega)
    rw [rngL_len] at i1
    have hp := row_perm hrs i (turnSt (rowOf rs i) (rngL 0 n) t).1.length (by omega) (by omega)
    have hstep : turnSt (rowOf rs i) (rngL 0 n) (t + 1) = stepQ (rowOf rs i) (turnSt (rowOf rs i) (rngL 0 n) t) := rfl
    generalize turnSt (rowOf rs i) (rngL 0 n) t = st at *
    refine d_setI 8 sc502.nd (i_meth (S := spRow C j) (q := x) (fs := runsF rs d) h1 hr (by exact e_var 0) (.s .h0) (runs_l rfl rfl) (ai_pure (dl := [R (i : Int), R (st.1.length : Int)]) (by exact a_cons (by exact e_eq (e_sub (e_var 1) e_int) (by rw [show ((i + 1 : Nat) : Int) - 1 = (i : Int) by omega])) (a_one (by exact e_lenR T.len (r_R (by exact e_var 3))))) ⟨⟨rs, x, d, es, i, st.1.length⟩, [(q, mR st.2)], rfl, List.perm_append_comm (l₁ := [_, _]) (l₂ := [_]), ⟨hrs, hg, by (show i ≤ j; omega), by (show i ≤ rs.length; omega), hlen, by (show roomOf (rs.take i) < (st.1.length : Int); omega), by (show st.1.length ≤ 100; omega)⟩, fun d' m2 hd => ?_⟩))
    obtain ⟨rfl, e2, g2, rfl⟩ := hd
    obtain ⟨ra, rt, er⟩ : ∃ ra rt, rowOf rs i st.1.length = ra :: rt := by
      cases e : rowOf rs i st.1.length with
      | nil =>
        have := hp.len
        rw [e, List.length_nil] at this
        omega
      | cons a b => exact ⟨a, b, rfl⟩
    rw [er] at hp
    show DS _ ((8, R (rowOf rs i st.1.length)) :: _) _ _ _
    rw [er]
    have hm : ∀ p ∈ ra :: rt, 0 ≤ p ∧ p < (st.1.length : Int) := fun p hpm => hp.mem.mp hpm
    have hrl := hp.len
    have hst : stepQ (rowOf rs i) st = (pick st.1 rt, st.2 ++ [st.1.getD ra.toNat 0]) := by
      unfold stepQ
      rw [er]
      rfl
    rw [hst] at hstep
    refine d_asg (d := dT [R (st.1.getD ra.toNat 0), R (pick st.1 rt)]) (e_dT (a_cons (by exact e_item (xs := st.1) (r_R (e_var 3)) (e_item (xs := ra :: rt) (r_R (e_var 8)) e_int (atI_nat' (Int.le_refl _) rfl)) (pick_at (hm ra List.mem_cons_self).1 (hm ra List.mem_cons_self).2)) (a_one (by exact e_lc [("place", 11)] rt (fun x => [(11, R x)]) (fun p => st.1.getD p.toNat 0) rfl sc502.nd (wk_R (e_eq (e_slice (xs := ra :: rt) (i := some 1) (j := none) (r_R (e_var 8)) e_int trivial) (by rw [cut_from (by decide)]; rfl))) (blkOk_by (N := N502) (sc := defScope (clM 50 2)) (by decide +kernel)) (by rw [List.length_cons] at hrl; omega) (fun _ _ _ _ _ x => g_name 11 sc502.nd) fun s0 H0 C cl fp q cc p hx => e_item (xs := st.1) (r_R (e_var 3)) (e_var 11) (pick_at (hm p (List.mem_cons_of_mem _ hx)).1 (hm p (List.mem_cons_of_mem _ hx)).2)))) (by (show 2 ≤ 1000000; decide))) (g_tup rfl (gs_cons (g_name 9 sc502.nd) (gs_cons (g_name 3 sc502.nd) gs_nil))) ?_
    refine d_expr (i_appK (q := q) (dl := st.2.map fun x => R x) (by exact e_var 6) (.s (.s .h0)) (i_pure (by exact e_var 9) ⟨2, _, rfl, by rw [List.length_map]; omega, d_nil ⟨e2, ⟨g2, by omega⟩, ?_⟩⟩))
    rw [hstep]
    refine ⟨WkL.ok ⟨rfl, rfl, rfl, rfl, rfl, rfl, trivial⟩, _, ?_, .refl _⟩
    show List.Perm [(q, mL ((st.2 ++ [st.1.getD ra.toNat 0]).map fun x => R x)), (x, mI C (runsF rs d)), (d, mP e2)] [(x, mI C (runsF rs d)), (d, mP e2), (q, mL (st.2.map (fun x => R x) ++ [R (st.1.getD ra.toNat 0)]))]
    rw [List.map_append]
    exact List.perm_append_comm (l₁ := [_]) (l₂ := [_, _])
  · rw [rngL_len]
    obtain ⟨i1, i2, i3⟩ := inv r.1.toNat (by rw [rngL_len]; omega)
    rw [rngL_len] at i1
    have hfin : rowOf rs (i + 1) n = ((turnSt (rowOf rs i) (rngL 0 n) r.1.toNat).2.getLastD 0) :: ((turnSt (rowOf rs i) (rngL 0 n) r.1.toNat).1 ++ backOf r.2 (turnSt (rowOf rs i) (rngL 0 n) r.1.toNat).2.dropLast) := by
      rw [← e0]
      rfl
    generalize turnSt (rowOf rs i) (rngL 0 n) r.1.toNat = st at *
    have hne : st.2 ≠ [] := fun e => by rw [e, List.length_nil] at i2; omega
    have hlast : (st.2.map fun x => (R x : D))[(st.2.map fun x => (R x : D)).length - 1]? = some (R (st.2.getLastD 0)) := by
      rw [List.getElem?_map, List.length_map, ← List.getLast?_eq_getElem?, List.getLastD_eq_getLast?, List.getLast?_eq_some_getLast hne]
      rfl
    refine d_setI 9 sc502.nd (i_pop (q := q) 0 (by exact e_var 6) rfl hlast ?_)
    show DS _ _ [(q, mL (st.2.map fun x => R x).dropLast), (x, mI C (runsF rs d)), (d, mP es)] _ _
    rw [← List.map_dropLast]
    refine d_frz0 6 rfl ?_
    refine d_set (d := R (backOf r.2 st.2.dropLast)) 10 sc502.nd (e_if (k := decide (r.2 = "back")) (by exact b_eqS (e_var 5) e_str) (fun hk => by exact e_eq (e_rev (xs := st.2.dropLast) (r_R (e_var 6))) (by unfold backOf; rw [if_pos (of_decide_eq_true hk)])) fun hk => by exact e_eq (e_var 6) (by unfold backOf; rw [if_neg (of_decide_eq_false hk)]; rfl)) ?_
    have hbl := (back_perm r.2 st.2.dropLast).length_eq
    rw [List.length_dropLast] at hbl
    refine d_ret (e_dL (dl := R (st.2.getLastD 0) :: (st.1.map (fun x => R x) ++ ((backOf r.2 st.2.dropLast).map (fun x => R x) ++ []))) (by exact a_cons (e_var 9) (a_star (r_R (e_var 3)) (a_star (r_R (e_var 10)) a_nil))) ?_) ⟨_, ⟨?_, _, hg, rfl⟩, .same trivial⟩
    · rw [List.append_nil, List.length_cons, List.length_append, List.length_map, List.length_map]
      omega
    · show dL _ = R (rowOf rs (i + 1) n)
      rw [hfin, List.append_nil]
      show dL _ = dL _
      rw [List.map_cons, List.map_append]
theorem rows_all (T : Tx K mg) (a : RunsAt K mg C) : ∀ j, HasM P w K mg base C "row" (2 * j + 2) (spRow C j)
  | 0 => ok_row a (ok_found0 T a)
  | j + 1 => ok_row a (ok_found T a (rows_all T a j))
end
end Bh
/-! V9: the tables' functions. -/
namespace Bh
open PySem PySem.Spec PyProof.Rows L2
/-- a small clock: at most 12 balls -/
structure ClkS (c : Clk) : Prop extends ClkOk c where
  sm12 : c.1 ≤ 12
theorem ClkS.len {c : Clk} (h : ClkS c) : c.2.length ≤ 11 := by
  have := h.toClkOk.len_lt
  have := h.sm12
  omega
section
variable {P : Program} {w : World} {K : PySem.W.Frag} {mg : Str → Option Value} {base : Heap} {C : Addr}
def spRunsInit (C : Addr) : Spec (Addr × Clk) := { args := fun a => [dAt a.1, R a.2], ms := fun a => [(a.1, mI C [])], post := fun a d m => d = R () ∧ ∃ q, m = runsMs C a.2.2 a.1 q [] }
theorem sc500 : FnScope ["self", "clock"] ["self", "clock"] (defScope (clM 50 0)) := ⟨rfl, rfl, rfl, by decide +kernel, rfl, by decide +kernel, by decide +kernel⟩
theorem ok_runs_init (a : RunsAt K mg C) : HasC P w K mg base "Runs" C 1 (spRunsInit C) := hasC_of a.init fun f fd F => by
  refine fn_ok (spRunsInit C) F sc500 (fun _ => rfl) fun ⟨q, c⟩ _ cdv A outer s H E hr => ?_
  refine d_setF (q := q) (C := C) 0 a.init.c a.n1 (i_pure (by exact e_snd (x := c) (e_var 1) e_int) ⟨[], by exact e_var 0, rfl, by decide, ?_⟩)
  refine d_setF (q := q) (C := C) 1 a.init.c a.n2 (i_pnew fun d => ⟨_, by exact e_var 0, rfl, (by show 1 < 1000; decide), ?_⟩)
  exact d_nil ⟨_, ⟨rfl, d, rfl⟩, .perm (List.Perm.swap _ _ _)⟩
/-! spots_at -/
def spSpots : Spec (Clk × List Int) := { args := fun x => [R x.1, R x.2], pre := fun x => ClkS x.1 ∧ CtOk x.1.2 x.2, post := fun x d _ => d = R (spotsOf x.1.2 x.1.1.toNat x.2) }
abbrev s51 : Stmt := top 51
abbrev N51 : List Str := ["clock", "counts", "runs", "queue", "rails", "rail", "lying", "turn", "row", "place"]
theorem sc51 : FnScope N51 ["clock", "counts"] (defScope s51) := ⟨rfl, rfl, rfl, by decide +kernel, rfl, by decide +kernel, by decide +kernel⟩
theorem ok_spots_at (T : Tx K mg) (ra : RunsAt K mg C) (a : At K mg "spots_at" s51 ["clock", "counts"]) (h0 : HasC P w K mg base "Runs" C 1 (spRunsInit C)) (h1 : HasM P w K mg base C "row" 24 (spRow C 11)) : Has P w K mg base "spots_at" 25 spSpots := has_of a fun f fd F => by
  refine fn_ok spSpots F sc51 (fun _ => rfl) fun ⟨c, cts⟩ ⟨hc, hct⟩ cdv A outer s H E hr => ?_
  have hc : ClkS c := hc
  have hct : CtOk c.2 cts := hct
  have hcl := hct.len
  have hrl := hc.len
  have hrs := hc.toClkOk.rs
  have h12 := hc.sm12
  have hlo := hc.lo
  have hroom := hc.toClkOk.room
  refine d_asgI (i_tup (ai_cons (i_make (S := spRunsInit C) h0 (hr.mono (by decide)) (ai_pure (dl := [R c]) (by exact a_one (by exact e_var 0)) fun x => ⟨(x, c), [], rfl, .refl _, trivial, fun d m2 hd => ?_⟩))))
  obtain ⟨rfl, d, rfl⟩ := hd
  refine ⟨rfl, ai_cons (i_pure (by exact e_listRg (n := c.1) rfl T.list T.range (e_fst (x := c) (e_var 0) e_int) ⟨by omega, by omega⟩) (ai_cons (i_new n_nil fun q2 => ai_nil ⟨by (show 3 ≤ 1000000; decide), _, g_tup rfl (gs_cons (g_name 2 sc51.nd) (gs_cons (g_name 3 sc51.nd) (gs_cons (g_name 4 sc51.nd) gs_nil))), ?_⟩)))⟩
  have inv := spot_inv (n := c.1.toNat) hrs hct (by omega)
  have hn3 : ((cts.length : Int) - 0).toNat = cts.length := by omega
  refine d_for (stepL (cts.length : Int) (-1) ((cts.length : Int) - 0).toNat) (fun x => [(5, R x)]) (fun i (es : List ((Int × Int) × D)) => Good c.2 es)
    (fun i _ => [(3, R (spotSt c.2 c.1.toNat cts i).1), (4, dAt q2), (2, dAt x), (0, R c), (1, R cts)])
    (fun i es => [(q2, mR (spotSt c.2 c.1.toNat cts i).2), (x, mI C (runsF c.2 d)), (d, mP es)]) rfl (by exact wk_rngD T.range (e_lenR T.len (r_R (xs := cts) (e_var 1))) e_int (e_neg e_int) rfl (by omega)) (fun x => g_name 5 sc51.nd) ⟨[], Good.nil _, .same ⟨rfl, rfl, rfl, rfl, rfl, trivial⟩⟩ (fun i es xx hx hg => ?_) fun es hg => ?_
  · obtain ⟨hi, hxx⟩ := stepL_get hx
    rw [hn3] at hi
    obtain ⟨i1, i2, i3, i4⟩ := inv i (by omega)
    have hk : cts.length - i - 1 < c.2.length := by omega
    obtain ⟨rl, hr1⟩ : ∃ rl, c.2[cts.length - i - 1]? = some rl := ⟨_, List.getElem?_eq_getElem hk⟩
    obtain ⟨ct, hx1⟩ : ∃ ct, cts[cts.length - i - 1]? = some ct := ⟨_, List.getElem?_eq_getElem (by omega)⟩
    have ex : cts.getD (cts.length - i - 1) 0 = ct := by rw [List.getD_eq_getElem?_getD, hx1]; rfl
    obtain ⟨hb0, hb1⟩ := hct.bd _ _ _ hr1 hx1
    rw [show cts.length - i = (cts.length - i - 1) + 1 by omega, room_take hr1] at i1
    have hr0 := room_take_nn hrs (cts.length - i - 1)
    have hstep : spotSt c.2 c.1.toNat cts (i + 1) = ((turnSt (rowOf c.2 (cts.length - i - 1)) (spotSt c.2 c.1.toNat cts i).1 (cts.getD (cts.length - i - 1) 0).toNat).1, (spotSt c.2 c.1.toNat cts i).2 ++ [(turnSt (rowOf c.2 (cts.length - i - 1)) (spotSt c.2 c.1.toNat cts i).1 (cts.getD (cts.length - i - 1) 0).toNat).2]) := rfl
    rw [ex] at hstep
    have hxr : xx - 1 = ((cts.length - i - 1 : Nat) : Int) := by omega
    have hle : (spotSt c.2 c.1.toNat cts i).1.length ≤ 12 := by
      have := i3.length_eq
      rw [rngL_len, List.length_append] at this
      omega
    have hsl : (spotSt c.2 c.1.toNat cts i).2.length ≤ 1000 := by omega
    generalize spotSt c.2 c.1.toNat cts i = sp at *
    generalize cts.length - i - 1 = rk at *
    have tinv := turn_inv (f := rowOf c.2 rk) (q := sp.1) (lo := (roomOf (c.2.take rk)).toNat + 1) (fun m hm _ => row_perm hrs _ m (by omega) (by omega)) (by omega)
    refine d_new 6 sc51.nd n_nil fun q3 => ?_
    refine d_for (rngL 0 ct.toNat) (fun x => [(7, R x)]) (fun _ (es : List ((Int × Int) × D)) => Good c.2 es)
      (fun t _ => [(3, R (turnSt (rowOf c.2 rk) sp.1 t).1), (6, dAt q3), (4, dAt q2), (2, dAt x), (0, R c), (1, R cts), (5, R xx)])
      (fun t es => [(q3, mR (turnSt (rowOf c.2 rk) sp.1 t).2), (q2, mR sp.2), (x, mI C (runsF c.2 d)), (d, mP es)]) rfl (by exact wk_rng1 T.range (e_item (xs := cts) (r_R (e_var 1)) (e_sub (e_var 5) e_int) (atI_of hxr hx1)) (by omega)) (fun x => g_name 7 sc51.nd) ⟨es, hg, .same ⟨rfl, rfl, rfl, rfl, rfl, rfl, rfl, trivial⟩⟩ (fun t es tx htx hg => ?_) fun es hg => ?_
    · obtain ⟨ht, _⟩ := rngL_get htx
      obtain ⟨g1, g2, g3⟩ := tinv t (by omega)
      have hp := row_perm hrs rk (turnSt (rowOf c.2 rk) sp.1 t).1.length (by omega) (by omega)
      have hstep : turnSt (rowOf c.2 rk) sp.1 (t + 1) = stepQ (rowOf c.2 rk) (turnSt (rowOf c.2 rk) sp.1 t) := rfl
      generalize turnSt (rowOf c.2 rk) sp.1 t = st at *
      refine d_setI 8 sc51.nd (i_meth (S := spRow C 11) (q := x) (fs := runsF c.2 d) h1 (hr.mono (by decide)) (by exact e_var 2) (.s (.s .h0)) (runs_l rfl rfl) (ai_pure (dl := [R (rk : Int), R (st.1.length : Int)]) (by exact a_cons (by exact e_eq (e_sub (e_var 5) e_int) (by rw [hxr])) (a_one (by exact e_lenR T.len (r_R (by exact e_var 3))))) ⟨⟨c.2, x, d, es, rk, st.1.length⟩, [(q3, mR st.2), (q2, mR sp.2)], rfl, List.perm_append_comm (l₁ := [_, _]) (l₂ := [_, _]), ⟨hrs, hg, by (show rk ≤ 11; omega), by (show rk ≤ c.2.length; omega), by (show c.2.length ≤ 100; omega), by (show roomOf (c.2.take rk) < (st.1.length : Int); omega), by (show st.1.length ≤ 100; omega)⟩, fun d' m2 hd => ?_⟩))
      obtain ⟨rfl, e2, g2', rfl⟩ := hd
      obtain ⟨ra, rt, er⟩ : ∃ ra rt, rowOf c.2 rk st.1.length = ra :: rt := by
        cases e : rowOf c.2 rk st.1.length with
        | nil =>
          have := hp.len
          rw [e, List.length_nil] at this
          omega
        | cons a b => exact ⟨a, b, rfl⟩
      rw [er] at hp
      show DS _ ((8, R (rowOf c.2 rk st.1.length)) :: _) _ _ _
      rw [er]
      have hm : ∀ p ∈ ra :: rt, 0 ≤ p ∧ p < (st.1.length : Int) := fun p hpm => hp.mem.mp hpm
      have hrl := hp.len
      have hst : stepQ (rowOf c.2 rk) st = (pick st.1 rt, st.2 ++ [st.1.getD ra.toNat 0]) := by
        unfold stepQ
        rw [er]
        rfl
      rw [hst] at hstep
      refine d_expr (i_appK (q := q3) (dl := st.2.map fun x => R x) (by exact e_var 6) (.s (.s .h0)) (i_pure (by exact e_item (xs := st.1) (r_R (e_var 3)) (e_item (xs := ra :: rt) (r_R (e_var 8)) e_int (atI_nat' (Int.le_refl _) rfl)) (pick_at (hm ra List.mem_cons_self).1 (hm ra List.mem_cons_self).2)) ⟨2, _, rfl, by rw [List.length_map]; omega, ?_⟩))
      refine d_set (d := R (pick st.1 rt)) 3 sc51.nd (by exact e_lc [("place", 9)] rt (fun x => [(9, R x)]) (fun p => st.1.getD p.toNat 0) rfl sc51.nd (wk_R (e_eq (e_slice (xs := ra :: rt) (i := some 1) (j := none) (r_R (e_var 8)) e_int trivial) (by rw [cut_from (by decide)]; rfl))) (blkOk_by (N := N51) (sc := defScope s51) (by decide +kernel)) (by rw [List.length_cons] at hrl; omega) (fun _ _ _ _ _ x => g_name 9 sc51.nd) fun s0 H0 C cl fp q cc p hx => e_item (xs := st.1) (r_R (e_var 3)) (e_var 9) (pick_at (hm p (List.mem_cons_of_mem _ hx)).1 (hm p (List.mem_cons_of_mem _ hx)).2)) ?_
      refine d_nil ⟨e2, g2', ?_⟩
      rw [hstep]
      refine ⟨WkL.ok ⟨rfl, rfl, rfl, rfl, rfl, rfl, rfl, trivial⟩, _, ?_, .refl _⟩
      show List.Perm [(q3, mL ((st.2 ++ [st.1.getD ra.toNat 0]).map fun x => R x)), (q2, mR sp.2), (x, mI C (runsF c.2 d)), (d, mP e2)] [(x, mI C (runsF c.2 d)), (d, mP e2), (q3, mL (st.2.map (fun x => R x) ++ [R (st.1.getD ra.toNat 0)])), (q2, mR sp.2)]
      rw [List.map_append]
      exact List.perm_append_comm (l₁ := [_, _]) (l₂ := [_, _])
    · rw [rngL_len]
      generalize turnSt (rowOf c.2 rk) sp.1 ct.toNat = st at *
      refine d_frz0 6 rfl ?_
      refine d_expr (i_appK (q := q2) (dl := sp.2.map fun x => R x) (by exact e_var 4) .h0 (i_pure (by exact e_var 6) ⟨0, _, rfl, by rw [List.length_map]; omega, d_nil ⟨es, hg, ?_⟩⟩))
      rw [hstep]
      refine ⟨WkL.ok ⟨rfl, rfl, rfl, rfl, rfl, trivial⟩, _, ?_, .refl _⟩
      show List.Perm [(q2, mL ((sp.2 ++ [st.2]).map fun x => R x)), (x, mI C (runsF c.2 d)), (d, mP es)] [(q2, mL (sp.2.map (fun x => R x) ++ [R st.2])), (x, mI C (runsF c.2 d)), (d, mP es)]
      rw [List.map_append]
      exact .refl _
  · rw [stepL_len, hn3]
    obtain ⟨i1, i2, i3, i4⟩ := inv cts.length (Nat.le_refl _)
    have hfin : spotsOf c.2 c.1.toNat cts = (spotSt c.2 c.1.toNat cts cts.length).1 :: (spotSt c.2 c.1.toNat cts cts.length).2.reverse := rfl
    generalize spotSt c.2 c.1.toNat cts cts.length = sp at *
    refine d_ret (e_dL (dl := R sp.1 :: (sp.2.reverse.map (fun x => R x) ++ [])) (by exact a_cons (e_var 3) (a_star (r_R (e_rev (xs := sp.2) (r_in (e_var 4) .h0))) a_nil)) ?_) ⟨[], ?_, .less trivial (List.nil_sublist _)⟩
    · rw [List.append_nil, List.length_cons, List.length_map, List.length_reverse]
      omega
    · show dL _ = R (spotsOf c.2 c.1.toNat cts)
      rw [hfin, List.append_nil]
      rfl
/-! turn_row -/
def spTurnRow : Spec Clk := { args := fun c => [R c], pre := ClkS, post := fun c d _ => d = R (turnRow c) }
abbrev s52 : Stmt := top 52
theorem sc52 : FnScope ["clock", "row"] ["clock"] (defScope s52) := ⟨rfl, rfl, rfl, by decide +kernel, rfl, by decide +kernel, by decide +kernel⟩
theorem ok_turn_row (T : Tx K mg) (ra : RunsAt K mg C) (a : At K mg "turn_row" s52 ["clock"]) (h0 : HasC P w K mg base "Runs" C 1 (spRunsInit C)) (h1 : HasM P w K mg base C "row" 24 (spRow C 11)) : Has P w K mg base "turn_row" 25 spTurnRow := has_of a fun f fd F => by
  refine fn_ok spTurnRow F sc52 (fun _ => rfl) fun c hc cdv A outer s H E hr => ?_
  have hc : ClkS c := hc
  have hrl := hc.len
  have h12 := hc.sm12
  have hlo := hc.lo
  have hp := row_perm hc.toClkOk.rs c.2.length c.1.toNat (Nat.le_refl _) (by rw [List.take_length]; have := hc.toClkOk.room; omega)
  refine d_setI 1 sc52.nd (i_methI (S := spRow C 11) h1 (hr.mono (by decide)) (i_make (S := spRunsInit C) h0 (hr.mono (by decide)) (ai_pure (dl := [R c]) (by exact a_one (by exact e_var 0)) fun x => ⟨(x, c), [], rfl, .refl _, trivial, fun d m2 hd => ?_⟩)))
  obtain ⟨rfl, d, rfl⟩ := hd
  refine ⟨rfl, x, runsF c.2 d, rfl, .h0, runs_l rfl rfl, ai_pure (dl := [R (c.2.length : Int), R (c.1.toNat : Int)]) (a_cons (by exact e_lenR T.len (r_R (e_snd (x := c) (e_var 0) e_int))) (a_one (by exact e_eq (e_fst (x := c) (e_var 0) e_int) (by rw [Int.toNat_of_nonneg (by omega)])))) ⟨⟨c.2, x, d, [], c.2.length, c.1.toNat⟩, [], rfl, .refl _, ⟨hc.toClkOk.rs, Good.nil _, hrl, Nat.le_refl _, by (show c.2.length ≤ 100; omega), by (show roomOf (c.2.take c.2.length) < ((c.1.toNat : Nat) : Int); rw [List.take_length]; have := hc.toClkOk.room; omega), by (show c.1.toNat ≤ 100; omega)⟩, fun d' m2 hd => ?_⟩⟩
  obtain ⟨rfl, e2, g2, rfl⟩ := hd
  show DS _ ((1, R (rowOf c.2 c.2.length c.1.toNat)) :: _) _ _ _
  have hfin : turnRow c = (rowOf c.2 c.2.length c.1.toNat).tail ++ [(rowOf c.2 c.2.length c.1.toNat).headD 0] := rfl
  generalize rowOf c.2 c.2.length c.1.toNat = row at *
  have hrl2 := hp.len
  cases row with
  | nil => rw [List.length_nil] at hrl2; omega
  | cons r0 rt =>
    rw [List.length_cons] at hrl2
    refine d_ret (e_dL (dl := rt.map (fun x => R x) ++ [R r0]) (a_star (r_R (by exact e_eq (e_slice (xs := r0 :: rt) (i := some 1) (j := none) (r_R (e_var 1)) e_int trivial) (by rw [cut_from (by decide)]; rfl))) (a_one (by exact e_item (xs := r0 :: rt) (r_R (e_var 1)) e_int (atI_nat' (Int.le_refl _) rfl)))) ?_) ⟨[], ?_, .less trivial (List.nil_sublist _)⟩
    · rw [List.length_append, List.length_map, List.length_singleton]
      omega
    · show dL _ = R (turnRow c)
      rw [hfin]
      show dL _ = dL _
      rw [List.tail_cons, List.headD_cons, List.map_append]
      rfl
end
end Bh
/-! V10: row_cycles, power_row, inverse_row. -/
namespace Bh
open PySem PySem.Spec PyProof.Rows L2
def PmOk (r : List Int) : Prop := PermN r r.length ∧ r.length ≤ 100
theorem puts_snoc (l : List Int) (A : List (Int × Int)) (x : Int × Int) : puts l (A ++ [x]) = (puts l A).set x.1.toNat x.2 := by unfold puts; rw [List.foldl_append]; rfl
theorem powA_snoc (cs : List (List Int)) (c : List Int) (t : Int) : powA (cs ++ [c]) t = powA cs t ++ rotA c t := by unfold powA; rw [List.flatMap_append]; simp
theorem puts_app (l : List Int) (A B : List (Int × Int)) : puts l (A ++ B) = puts (puts l A) B := by unfold puts; rw [List.foldl_append]
section
variable {P : Program} {w : World} {K : PySem.W.Frag} {mg : Str → Option Value} {base : Heap}
def spCycles : Spec (List Int) := { args := fun r => [R r], pre := PmOk, post := fun r d _ => d = R (cyclesOf r) }
abbrev s53 : Stmt := top 53
abbrev N53 : List Str := ["row", "found", "seen", "begin", "cycle", "here"]
theorem sc53 : FnScope N53 ["row"] (defScope s53) := ⟨rfl, rfl, rfl, by decide +kernel, rfl, by decide +kernel, by decide +kernel⟩
structure WkA where
  old : List Int
  cyc : List Int
  here : Int
theorem ok_row_cycles (T : Tx K mg) (a : At K mg "row_cycles" s53 ["row"]) : Has P w K mg base "row_cycles" 1 spCycles := has_of a fun f fd F => by
  refine fn_ok spCycles F sc53 (fun _ => rfl) fun row ⟨hp, hl⟩ cdv A outer s H E hr => ?_
  have hp : PermN row row.length := hp
  have hl : row.length ≤ 100 := hl
  have hget := perm_get hp
  refine d_parI 1 2 rfl sc53.nd (ai_cons (i_new n_nil fun fq => ai_cons (i_dnew fun sq => ai_nil ⟨_, _, rfl, ?_⟩)))
  refine d_for (rngL 0 row.length) (fun x => [(3, R x)]) (fun b (_ : Unit) => b ≤ row.length) (fun _ _ => [(0, R row), (1, dAt fq), (2, dAt sq)]) (fun b _ => [(fq, mR (cycSt row b).1), (sq, mD (kt (cycSt row b).2))]) rfl (by exact wk_rng1 T.range (e_lenR T.len (r_R (xs := row) (e_var 0))) (by omega)) (fun x => g_name 3 sc53.nd) ⟨(), Nat.zero_le _, ?_⟩ (fun b _ x hx hb => ?_) fun _ _ => ?_
  · exact ⟨WkL.ok ⟨rfl, rfl, rfl, trivial⟩, _, List.Perm.swap _ _ _, .refl _⟩
  · obtain ⟨hbl, hxe⟩ := rngL_get hx
    rw [Int.zero_add] at hxe
    subst hxe
    obtain ⟨q1, q2, q3, q4, q5⟩ := cyc_inv hp b (by omega)
    have hstep : cycSt row (b + 1) = (if (walkC row (row.length + 1 - (cycSt row b).2.length) (cycSt row b).2 [] (b : Int)).2 = [] then (cycSt row b).1 else (cycSt row b).1 ++ [(walkC row (row.length + 1 - (cycSt row b).2.length) (cycSt row b).2 [] (b : Int)).2], (walkC row (row.length + 1 - (cycSt row b).2.length) (cycSt row b).2 [] (b : Int)).1) := rfl
    obtain ⟨q6, q7, q8, q9, q10⟩ := cyc_inv hp (b + 1) (by omega)
    have hfl : (cycSt row b).1.length ≤ 1000 := by
      have hnl := nd_len q2 q3
      have key : ∀ l : List (List Int), (∀ c ∈ l, c ≠ []) → l.length ≤ l.flatten.length := fun l => by
        induction l with
        | nil => intro _; exact Nat.zero_le _
        | cons c l ih =>
          intro h
          have h1 := ih fun x hx => h x (List.mem_cons_of_mem _ hx)
          have h2 : c.length ≠ 0 := fun e => h c List.mem_cons_self (List.length_eq_zero_iff.mp e)
          rw [List.flatten_cons, List.length_append, List.length_cons]
          omega
      have := key _ q5
      rw [← q1] at this
      omega
    generalize hst : cycSt row b = st at *
    generalize hres : walkC row (row.length + 1 - st.2.length) st.2 [] (b : Int) = res at hstep
    refine d_parI 4 5 rfl sc53.nd (ai_cons (i_new n_nil fun cq => ai_pure (a_one (by exact e_var 3)) ⟨_, _, rfl, ?_⟩))
    refine d_while (A := List Int × Int) (fun y => (st.2 ++ y.1).Nodup ∧ (∀ x ∈ st.2 ++ y.1, 0 ≤ x ∧ x < (row.length : Int)) ∧ 0 ≤ y.2 ∧ y.2 < row.length ∧ walkC row (row.length + 1 - (st.2 ++ y.1).length) (st.2 ++ y.1) y.1 y.2 = res)
      (fun y => row.length + 1 - (st.2 ++ y.1).length) (fun y => [(4, dAt cq), (5, R y.2), (0, R row), (1, dAt fq), (2, dAt sq)]) (fun y => [(cq, mR y.1), (fq, mR st.1), (sq, mD (kt (st.2 ++ y.1)))]) (fun y => !(getI (kt (st.2 ++ y.1)) y.2).isSome) ⟨([], (b : Int)), ⟨by rw [List.append_nil]; exact q2, by rw [List.append_nil]; exact q3, by (show 0 ≤ (b : Int); omega), by (show (b : Int) < row.length; omega), by rw [List.append_nil]; exact hres⟩, ?_⟩ (fun y _ => by exact b_notinD (hu1 hr) (e_var 5) (rd_in (e_var 2) (.s (.s .h0)))) (fun y hy ht => ?_) fun y hy ht => ?_
    · refine ⟨WkL.ok ⟨rfl, rfl, rfl, rfl, rfl, trivial⟩, _, .refl _, ?_⟩
      show List.Sublist [(cq, mL []), (fq, mR st.1), (sq, mD (kt (st.2 ++ [])))] [(cq, mL []), (fq, mR st.1), (sq, mD (kt st.2))]
      rw [List.append_nil]
      exact .refl _
    · obtain ⟨cyc, here⟩ := y
      obtain ⟨y1, y2, y3, y4, y5⟩ := hy
      dsimp only at y1 y2 y3 y4 y5
      have hnl := nd_len y1 y2
      have hnot : here ∉ st.2 ++ cyc := by
        rw [kt_get] at ht
        simpa using ht
      have hn1 : (st.2 ++ (cyc ++ [here])).Nodup := by
        rw [← List.append_assoc]
        exact List.nodup_append.mpr ⟨y1, List.nodup_cons.mpr ⟨(fun z => nomatch z), List.nodup_nil⟩, fun a ha b hb q => by
          rw [List.mem_singleton] at hb
          rw [q, hb] at ha
          exact hnot ha⟩
      have hm1 : ∀ x ∈ st.2 ++ (cyc ++ [here]), 0 ≤ x ∧ x < (row.length : Int) := fun x hx => by
        rw [← List.append_assoc] at hx
        rcases List.mem_append.mp hx with hx | hx
        · exact y2 x hx
        · rw [List.mem_singleton] at hx
          omega
      have hgh := hget here.toNat (by omega)
      have hll : (st.2 ++ (cyc ++ [here])).length = (st.2 ++ cyc).length + 1 := by rw [← List.append_assoc, List.length_append (as := st.2 ++ cyc)]; rfl
      refine d_put 2 (hu1 hr) (i_pure e_bool ⟨_, here, by exact e_var 2, by exact e_var 5, rfl, by (rw [kt_len]; show (st.2 ++ cyc).length < 1000000; omega), ?_⟩)
      refine d_expr (i_appK (q := cq) (dl := cyc.map fun x => R x) (by exact e_var 4) .h0 (i_pure (by exact e_var 5) ⟨0, _, rfl, by (rw [List.length_map]; rw [List.length_append] at hnl; show cyc.length < 1000000; omega), ?_⟩))
      refine d_set (d := R (row.getD here.toNat 0)) 5 sc53.nd (by exact e_item (xs := row) (r_R (e_var 0)) (e_var 5) (pick_at y3 y4)) (d_nil ⟨(cyc ++ [here], row.getD here.toNat 0), ⟨⟨hn1, hm1, hgh.1, hgh.2, ?_⟩, ?_⟩, ?_⟩)
      · show walkC row (row.length + 1 - (st.2 ++ (cyc ++ [here])).length) (st.2 ++ (cyc ++ [here])) (cyc ++ [here]) (row.getD here.toNat 0) = res
        rw [← y5, hll, show row.length + 1 - (st.2 ++ cyc).length = (row.length + 1 - ((st.2 ++ cyc).length + 1)) + 1 by omega]
        conv => rhs; unfold walkC
        rw [if_neg hnot, List.append_assoc]
      · show row.length + 1 - (st.2 ++ (cyc ++ [here])).length < row.length + 1 - (st.2 ++ cyc).length
        omega
      · have e1 : kt (st.2 ++ (cyc ++ [here])) = putI (kt (st.2 ++ cyc)) here (R true) := by rw [kt_put hnot, List.append_assoc]
        refine ⟨WkL.ok ⟨rfl, rfl, rfl, rfl, rfl, trivial⟩, _, .refl _, ?_⟩
        show List.Sublist [(cq, mL ((cyc ++ [here]).map fun x => R x)), (fq, mR st.1), (sq, mD (kt (st.2 ++ (cyc ++ [here]))))] [(cq, mL (cyc.map (fun x => R x) ++ [R here])), (fq, mR st.1), (sq, mD (putI (kt (st.2 ++ cyc)) here (R true)))]
        rw [e1, List.map_append]
        exact .refl _
    · obtain ⟨cyc, here⟩ := y
      obtain ⟨y1, y2, y3, y4, y5⟩ := hy
      dsimp only at y1 y2 y3 y4 y5
      have hnl := nd_len y1 y2
      have hin : here ∈ st.2 ++ cyc := by
        have ht : (!(getI (kt (st.2 ++ cyc)) here).isSome) = false := ht
        rw [kt_get, Bool.not_eq_false'] at ht
        exact of_decide_eq_true ht
      have e1 : res = (st.2 ++ cyc, cyc) := by
        rw [← y5, show row.length + 1 - (st.2 ++ cyc).length = (row.length - (st.2 ++ cyc).length) + 1 by omega]
        unfold walkC
        rw [if_pos hin]
      rw [e1] at hstep
      refine d_frz0 4 rfl ?_
      refine d_if (k := !decide (cyc = [])) (by exact b_neD (x := cyc) (y := []) (hu64 hr) (e_var 4) e_nil) (fun hk => ?_) fun hk => ?_
      · have hk : cyc ≠ [] := by simpa using hk
        refine d_expr (i_appK (q := fq) (dl := st.1.map fun x => R x) (by exact e_var 1) .h0 (i_pure (by exact e_var 4) ⟨0, _, rfl, by rw [List.length_map]; omega, d_nil (d_nil ⟨(), by (show b + 1 ≤ _; omega), ?_⟩)⟩))
        rw [hstep]
        refine ⟨WkL.ok ⟨rfl, rfl, rfl, trivial⟩, _, .refl _, ?_⟩
        show List.Sublist [(fq, mL ((if cyc = [] then st.1 else st.1 ++ [cyc]).map fun x => R x)), (sq, mD (kt (st.2 ++ cyc)))] [(fq, mL (st.1.map (fun x => R x) ++ [R cyc])), (sq, mD (kt (st.2 ++ cyc)))]
        rw [if_neg hk, List.map_append]
        exact .refl _
      · have hk : cyc = [] := by simpa using hk
        refine d_nil (d_nil ⟨(), by (show b + 1 ≤ _; omega), ?_⟩)
        rw [hstep]
        refine ⟨WkL.ok ⟨rfl, rfl, rfl, trivial⟩, _, .refl _, ?_⟩
        show List.Sublist [(fq, mL ((if cyc = [] then st.1 else st.1 ++ [cyc]).map fun x => R x)), (sq, mD (kt (st.2 ++ cyc)))] [(fq, mL (st.1.map (fun x => R x))), (sq, mD (kt (st.2 ++ cyc)))]
        rw [if_pos hk]
        exact .refl _
  · rw [rngL_len]
    exact d_frz0 1 rfl (d_ret (d := R (cyclesOf row)) (by exact e_var 1) ⟨[], rfl, .less trivial (List.nil_sublist _)⟩)
/-! power_row -/
def spPower : Spec (List Int × Int) := { args := fun x => [R x.1, R x.2], pre := fun x => PmOk x.1, post := fun x d _ => d = R (powerRow x.1 x.2) }
abbrev s54 : Stmt := top 54
abbrev N54 : List Str := ["row", "times", "found", "cycle", "index", "here"]
theorem sc54 : FnScope N54 ["row", "times"] (defScope s54) := ⟨rfl, rfl, rfl, by decide +kernel, rfl, by decide +kernel, by decide +kernel⟩
theorem ok_power_row (T : Tx K mg) (a : At K mg "power_row" s54 ["row", "times"]) (h1 : Has P w K mg base "row_cycles" 1 spCycles) : Has P w K mg base "power_row" 2 spPower := has_of a fun f fd F => by
  refine fn_ok spPower F sc54 (fun _ => rfl) fun ⟨row, t⟩ ⟨hp, hl⟩ cdv A outer s H E hr => ?_
  have hp : PermN row row.length := hp
  have hl : row.length ≤ 100 := hl
  obtain ⟨hcp, hcn⟩ := cycles_perm hp
  refine d_new 2 sc54.nd (by exact n_list (x := "list") T.list rfl (r_R (xs := row) (e_var 0))) fun q => ?_
  refine d_for (cyclesOf row) (fun x => [(3, R x)]) (fun _ (_ : Unit) => True) (fun _ _ => [(1, R t), (2, dAt q)]) (fun i _ => [(q, mR (puts row (powA ((cyclesOf row).take i) t)))]) rfl (wk_R (by exact e_call h1 hr row rfl (fun _ _ h => h) (a_one (by exact e_var 0)) ⟨hp, hl⟩)) (fun x => g_name 3 sc54.nd) ⟨(), trivial, .same ⟨rfl, rfl, trivial⟩⟩ (fun i _ c hc _ => ?_) fun _ _ => ?_
  · have hcm := List.mem_of_getElem? hc
    have hcr : ∀ x ∈ c, 0 ≤ x ∧ x < (row.length : Int) := fun x hx => hcp.mem.mp (List.mem_flatten.mpr ⟨c, hcm, hx⟩)
    have hcl : c.length ≠ 0 := fun e => hcn c hcm (List.length_eq_zero_iff.mp e)
    refine d_for (enF 0 c) (fun x => [(5, R x.2), (4, R x.1)]) (fun _ (_ : Unit) => True) (fun _ _ => [(1, R t), (2, dAt q), (3, R c)]) (fun j _ => [(q, mR (puts row (powA ((cyclesOf row).take i) t ++ (rotA c t).take j)))]) rfl (wk_enum T.enumerate (by exact e_var 3)) (fun x => g_pair rfl (g_name 4 sc54.nd) (g_name 5 sc54.nd)) ⟨(), trivial, ?_⟩ (fun j _ x hx _ => ?_) fun _ _ => ?_
    · rw [List.take_zero, List.append_nil]
      exact .same ⟨rfl, rfl, rfl, trivial⟩
    · obtain ⟨x1, x2⟩ := enF_get hx
      have hxm := hcr x.2 (List.mem_of_getElem? x2)
      have hpos : (0 : Int) < c.length := by omega
      have hrot : (rotA c t)[j]? = some (x.2, c.getD ((x.1 + t) % (c.length : Int)).toNat 0) := by
        unfold rotA
        rw [List.getElem?_map, hx]
        rfl
      refine d_setItem (q := q) (j := x.2.toNat) (iv := x.2) 0 (i_pure (d := R (c.getD ((x.1 + t) % (c.length : Int)).toNat 0)) (by exact e_item (xs := c) (r_R (e_var 3)) (e_mod (e_add (e_var 4) (e_var 1)) (e_lenR T.len (r_R (xs := c) (e_var 3))) hpos) (pick_at (Int.emod_nonneg _ (by omega)) (Int.emod_lt_of_pos _ hpos))) ⟨by exact e_var 2, by exact e_var 5, _, rfl, by rw [List.length_map, puts_len]; exact ixN_of hxm.1 hxm.2, d_nil ⟨(), trivial, ?_⟩⟩)
      rw [take_snoc hrot, ← List.append_assoc, puts_snoc]
      refine ⟨WkL.ok ⟨rfl, rfl, rfl, trivial⟩, _, .refl _, ?_⟩
      show List.Sublist [(q, mL (((puts row (powA ((cyclesOf row).take i) t ++ (rotA c t).take j)).set x.2.toNat (c.getD ((x.1 + t) % (c.length : Int)).toNat 0)).map fun x => R x))] [(q, mL (((puts row (powA ((cyclesOf row).take i) t ++ (rotA c t).take j)).map fun x => R x).set x.2.toNat (R (c.getD ((x.1 + t) % (c.length : Int)).toNat 0))))]
      rw [List.map_set]
      exact .refl _
    · have hlen : (rotA c t).length = (enF 0 c).length := List.length_map _
      refine d_nil ⟨(), trivial, ?_⟩
      rw [take_snoc hc, powA_snoc, ← hlen, List.take_length]
      exact .same ⟨rfl, rfl, trivial⟩
  · rw [List.take_length]
    exact d_frz0 2 rfl (d_ret (d := R (powerRow row t)) (by exact e_var 2) ⟨[], rfl, .same trivial⟩)
/-! inverse_row -/
def spInverse : Spec (List Int) := { args := fun x => [R x], pre := PmOk, post := fun x d _ => d = R (inverseRow x) }
abbrev s55 : Stmt := top 55
abbrev N55 : List Str := ["row", "found", "place", "here"]
theorem sc55 : FnScope N55 ["row"] (defScope s55) := ⟨rfl, rfl, rfl, by decide +kernel, rfl, by decide +kernel, by decide +kernel⟩
theorem ok_inverse_row (T : Tx K mg) (a : At K mg "inverse_row" s55 ["row"]) : Has P w K mg base "inverse_row" 1 spInverse := has_of a fun f fd F => by
  refine fn_ok spInverse F sc55 (fun _ => rfl) fun row ⟨hp, hl⟩ cdv A outer s H E hr => ?_
  have hp : PermN row row.length := hp
  have hl : row.length ≤ 100 := hl
  refine d_new 1 sc55.nd (by exact n_list (x := "list") T.list rfl (r_R (xs := row) (e_var 0))) fun q => ?_
  refine d_for (enF 0 row) (fun x => [(3, R x.2), (2, R x.1)]) (fun _ (_ : Unit) => True) (fun _ _ => [(1, dAt q)]) (fun j _ => [(q, mR (puts row ((invA row).take j)))]) rfl (wk_enum T.enumerate (by exact e_var 0)) (fun x => g_pair rfl (g_name 2 sc55.nd) (g_name 3 sc55.nd)) ⟨(), trivial, .same ⟨rfl, trivial⟩⟩ (fun j _ x hx _ => ?_) fun _ _ => ?_
  · obtain ⟨x1, x2⟩ := enF_get hx
    have hxm := hp.mem.mp (List.mem_of_getElem? x2)
    have hinv : (invA row)[j]? = some (x.2, x.1) := by
      unfold invA
      rw [List.getElem?_map, hx]
      rfl
    refine d_setItem (q := q) (j := x.2.toNat) (iv := x.2) 0 (i_pure (d := R x.1) (by exact e_var 2) ⟨by exact e_var 1, by exact e_var 3, _, rfl, by rw [List.length_map, puts_len]; exact ixN_of hxm.1 hxm.2, d_nil ⟨(), trivial, ?_⟩⟩)
    rw [take_snoc hinv, puts_snoc]
    refine ⟨WkL.ok ⟨rfl, trivial⟩, _, .refl _, ?_⟩
    show List.Sublist [(q, mL (((puts row ((invA row).take j)).set x.2.toNat x.1).map fun x => R x))] [(q, mL (((puts row ((invA row).take j)).map fun x => R x).set x.2.toNat (R x.1)))]
    rw [List.map_set]
    exact .refl _
  · have hlen : (invA row).length = (enF 0 row).length := List.length_map _
    rw [← hlen, List.take_length]
    exact d_frz0 1 rfl (d_ret (d := R (inverseRow row)) (by exact e_var 1) ⟨[], rfl, .same trivial⟩)
end
end Bh
/-! V11: far. -/
namespace Bh
open PySem PySem.Spec PyProof.Rows L2
def scLC (e : Expr) : Scope := match e with | .ListComp _ _ s _ => s | _ => defScope (.Pass ⟨0, 0, 0, 0⟩)
def retE (st : Stmt) : Expr := match (defBody st).getLast? with | some (.Return (some e) _) => e | _ => .Constant .none 0 ⟨0, 0, 0, 0⟩
/-! ### plain -/
theorem turn_pos : ∀ {rs : List Rail} (h : RsOk rs), 1 ≤ turnOf rs ∧ turnOf rs ≤ 2 ^ (roomOf rs).toNat := by
  have key : ∀ (rs : List Rail), RsOk rs → ∀ a : Int, 1 ≤ a → a ≤ rs.foldl (fun a r => a * r.1) a ∧ rs.foldl (fun a r => a * r.1) a ≤ a * 2 ^ (roomOf rs).toNat := fun rs => by
    induction rs with
    | nil => intro _ a ha; exact ⟨Int.le_refl _, by show a ≤ a * 2 ^ 0; omega⟩
    | cons r rs ih =>
      intro h a ha
      have hr := (h r List.mem_cons_self).1
      have hrs : RsOk rs := fun x hx => h x (List.mem_cons_of_mem _ hx)
      have h0 := room_nn (rs := rs) fun x hx => (hrs x hx).1
      have h1 : a ≤ a * r.1 := by
        have : a * 1 ≤ a * r.1 := Int.mul_le_mul_of_nonneg_left (by omega) (by omega)
        omega
      obtain ⟨h2, h3⟩ := ih hrs (a * r.1) (by omega)
      refine ⟨Int.le_trans h1 h2, Int.le_trans h3 ?_⟩
      have hp : r.1 ≤ 2 ^ (r.1 - 1).toNat := by
        have : (r.1 - 1).toNat + 1 ≤ 2 ^ (r.1 - 1).toNat := Nat.lt_two_pow_self
        have e : ((2 ^ (r.1 - 1).toNat : Nat) : Int) = 2 ^ (r.1 - 1).toNat := by simp
        omega
      have e1 : (roomOf (r :: rs)).toNat = (r.1 - 1).toNat + (roomOf rs).toNat := by rw [room_cons]; omega
      rw [e1, Int.pow_add, ← Int.mul_assoc]
      refine Int.mul_le_mul_of_nonneg_right (Int.mul_le_mul_of_nonneg_left hp (by omega)) ?_
      exact Int.le_of_lt (Int.pow_pos (by omega))
  intro rs h
  have := key rs h 1 (Int.le_refl _)
  rw [Int.one_mul] at this
  exact this
theorem ClkS.turn {c : Clk} (h : ClkS c) : 0 < turnOf c.2 ∧ turnOf c.2 ≤ 2048 := by
  obtain ⟨h1, h2⟩ := turn_pos h.toClkOk.rs
  have h3 : (roomOf c.2).toNat ≤ 11 := by have := h.toClkOk.room; have := h.sm12; omega
  have h4 : (2 : Nat) ^ (roomOf c.2).toNat ≤ 2 ^ 11 := Nat.pow_le_pow_right (by decide) h3
  have e : ((2 ^ (roomOf c.2).toNat : Nat) : Int) = 2 ^ (roomOf c.2).toNat := by simp
  omega
theorem digits_ok {rs : List Rail} (h : RsOk rs) (t : Int) : CtOk rs (digitsOf rs t) := ⟨digitsOf_len rs t, fun i r x h1 h2 => by
  induction rs generalizing t i with
  | nil => cases h1
  | cons r0 rs ih =>
    have hr0 := (h r0 List.mem_cons_self).1
    cases i with
    | zero =>
      cases h1
      have h2 : some (t % r.1) = some x := h2
      cases h2
      exact ⟨Int.emod_nonneg _ (by omega), Int.emod_lt_of_pos _ (by omega)⟩
    | succ i => exact ih (fun x hx => h x (List.mem_cons_of_mem _ hx)) (t / r0.1) i (by simpa using h1) (by simpa [digitsOf] using h2)⟩
theorem digits_zero (rs : List Rail) : digitsOf rs 0 = List.replicate rs.length 0 := by
  induction rs with
  | nil => rfl
  | cons r rs ih =>
    show (0 % r.1) :: digitsOf rs (0 / r.1) = _
    rw [Int.zero_emod, Int.zero_ediv, ih]
    rfl
def sightOf (c : Clk) (q : List Int) (rest : Int) : Sight := (spotsOf c.2 c.1.toNat (digitsOf c.2 rest)).map (pick q)
def behindOf (c : Clk) (q : List Int) (t : Int) : Sight := sightOf c (pick q (powerRow (turnRow c) (t / turnOf c.2))) (t % turnOf c.2)
def ticksPast (c : Clk) (s : Sight) : Int × Int := (c.2.zip s.tail).foldl (fun (a : Int × Int) x => (a.1 + a.2 * (x.2.length : Int), a.2 * x.1.1)) (0, 1)
def lensOf (s : Sight) : List Int := s.tail.map fun row => (row.length : Int)
def placesOf (c : Clk) (s : Sight) : List Int := (spotsOf c.2 c.1.toNat (lensOf s)).flatten
def queueOf (c : Clk) (s : Sight) : List Int := pick s.flatten (inverseRow (placesOf c s))
def farOf (c : Clk) (t : Int) : Sight := behindOf c (rngL 0 c.1.toNat) t
def movedOf (c : Clk) (s : Sight) (t : Int) : Sight := behindOf c (queueOf c s) ((ticksPast c s).1 + t)
theorem order_of_perm {c : Clk} {o : List Int} (h0 : 0 ≤ c.1) (h : PermN o c.1.toNat) : OrderOk c o := ⟨fun b hb => by have := h.mem.mp hb; omega, h.nd, by have := h.len; omega⟩
theorem OrderOk.perm {c : Clk} {o : List Int} (h : OrderOk c o) : PermN o c.1.toNat := by
  have hc := h.cnt
  refine perm_of_all h.nd (fun x hx => by have := h.ball x hx; omega) fun x h0 h1 => ?_
  -- as many as there are numbers
  by_cases hx : x ∈ o
  · exact hx
  · exfalso
    have hl := nd_len (l := x :: o) (n := c.1.toNat) (List.nodup_cons.mpr ⟨hx, h.nd⟩) fun y hy => by
      rcases List.mem_cons.mp hy with e | hy
      · rw [e]; omega
      · have := h.ball y hy
        omega
    rw [List.length_cons] at hl
    omega
theorem pick_order {c : Clk} {q idx : List Int} (hq : OrderOk c q) (hi : PermN idx c.1.toNat) : OrderOk c (pick q idx) := by
  have h0 : q.length = c.1.toNat := by have := hq.cnt; omega
  have hp := pick_perm (q := q) (idx := idx) (by rw [h0]; exact hi)
  have := hq.cnt
  exact order_of_perm (by omega) (hp.trans hq.perm)
theorem pick_flat (q : List Int) (l : List (List Int)) : (l.map (pick q)).flatten = pick q l.flatten := by unfold pick; rw [List.map_flatten]
theorem sight_ok {c : Clk} {q : List Int} (hc : ClkS c) (hq : OrderOk c q) (rest : Int) : SightOk c (sightOf c q rest) := by
  have hlo := hc.lo
  have hs := spots_ok (n := c.1.toNat) hc.toClkOk.rs (digits_ok hc.toClkOk.rs rest) (by have := hc.toClkOk.room; omega)
  have hdg := digits_ok hc.toClkOk.rs rest
  have ho := pick_order hq hs.perm
  have ef : (sightOf c q rest).flatten = pick q (spotsOf c.2 c.1.toNat (digitsOf c.2 rest)).flatten := pick_flat q _
  refine ⟨?_, ?_, ?_, ?_, fun i row r h1 h2 => ?_⟩
  · unfold sightOf
    rw [List.length_map, hs.len]
  · rw [ef]; exact ho.ball
  · rw [ef]; exact ho.nd
  · rw [ef]; exact ho.cnt
  · unfold sightOf at h1
    rw [List.getElem?_map] at h1
    obtain ⟨row', h3, rfl⟩ := Option.map_eq_some_iff.mp h1
    have h4 := hs.row i row' h3
    have hl := (List.getElem?_eq_some_iff.mp h2).1
    have hx : (digitsOf c.2 rest)[i]? = some ((digitsOf c.2 rest).getD i 0) := by rw [List.getD_eq_getElem?_getD, List.getElem?_eq_getElem (by rw [hdg.len]; exact hl)]; rfl
    have := (hdg.bd i r _ h2 hx).2
    show (((row'.map _).length : Nat) : Int) < r.1
    rw [List.length_map]
    omega
theorem behind_ok {c : Clk} {q : List Int} (hc : ClkS c) (hq : OrderOk c q) (t : Int) : SightOk c (behindOf c q t) := sight_ok hc (pick_order hq (power_perm (turnRow_perm hc.toClkOk) _)) _
theorem rng_order {c : Clk} (hc : ClkS c) : OrderOk c (rngL 0 c.1.toNat) := order_of_perm (by have := hc.lo; omega) (.refl _)
theorem far_ok {c : Clk} (hc : ClkS c) (t : Int) : SightOk c (farOf c t) := behind_ok hc (rng_order hc) t
theorem lens_ok {c : Clk} {s : Sight} (h : SightOk c s) : CtOk c.2 (lensOf s) := by
  have hl := h.len
  refine ⟨by unfold lensOf; rw [List.length_map, List.length_tail]; omega, fun i r x h1 h2 => ?_⟩
  unfold lensOf at h2
  rw [List.getElem?_map, List.getElem?_tail] at h2
  obtain ⟨row, h3, rfl⟩ := Option.map_eq_some_iff.mp h2
  have := h.rail i row r h3 h1
  omega
theorem places_perm {c : Clk} {s : Sight} (hc : ClkS c) (h : SightOk c s) : PermN (placesOf c s) c.1.toNat := (spots_ok (n := c.1.toNat) hc.toClkOk.rs (lens_ok h) (by have := hc.toClkOk.room; have := hc.lo; omega)).perm
theorem SightOk.flat {c : Clk} {s : Sight} (h : SightOk c s) : OrderOk c s.flatten := ⟨h.ball, h.nd, h.cnt⟩
theorem queue_ok {c : Clk} {s : Sight} (hc : ClkS c) (h : SightOk c s) : OrderOk c (queueOf c s) := pick_order h.flat (inverse_perm (places_perm hc h))
theorem moved_ok {c : Clk} {s : Sight} (hc : ClkS c) (h : SightOk c s) (t : Int) : SightOk c (movedOf c s t) := behind_ok hc (queue_ok hc h) _
/-! ### the walks -/
section
variable {P : Program} {w : World} {K : PySem.W.Frag} {mg : Str → Option Value} {base : Heap} {C : Addr}
def spSightOf : Spec (Clk × List Int × Int) := { args := fun x => [R x.1, R x.2.1, R x.2.2], pre := fun x => ClkS x.1 ∧ OrderOk x.1 x.2.1, post := fun x d _ => d = R (sightOf x.1 x.2.1 x.2.2) }
abbrev s57 : Stmt := top 57
abbrev N57 : List Str := ["clock", "queue", "rest", "row", "place"]
theorem sc57 : FnScope N57 ["clock", "queue", "rest"] (defScope s57) := ⟨rfl, rfl, rfl, by decide +kernel, rfl, by decide +kernel, by decide +kernel⟩
theorem spots_mem {c : Clk} {q : List Int} (hc : ClkS c) (hq : OrderOk c q) (t : Int) : ∀ row ∈ spotsOf c.2 c.1.toNat (digitsOf c.2 t), row.length ≤ 12 ∧ ∀ p ∈ row, 0 ≤ p ∧ p < (q.length : Int) := fun row hr => by
  have hlo := hc.lo
  have hs := spots_ok (n := c.1.toNat) hc.toClkOk.rs (digits_ok hc.toClkOk.rs t) (by have := hc.toClkOk.room; omega)
  have hcnt := hq.cnt
  have h12 := hc.sm12
  refine ⟨?_, fun p hp => by have := hs.perm.mem.mp (List.mem_flatten.mpr ⟨row, hr, hp⟩); omega⟩
  obtain ⟨l1, l2, e⟩ := List.append_of_mem hr
  have := hs.perm.len
  rw [e, List.flatten_append, List.flatten_cons, List.length_append, List.length_append] at this
  omega
theorem ok_sight_of (a : At K mg "sight_of" s57 ["clock", "queue", "rest"]) (h1 : Has P w K mg base "digits_of" 1 spDigits) (h2 : Has P w K mg base "spots_at" 25 spSpots) : Has P w K mg base "sight_of" 26 spSightOf := has_of a fun f fd F => by
  refine fn_ok spSightOf F sc57 (fun _ => rfl) fun ⟨c, q, t⟩ ⟨hc, hq⟩ cdv A outer s H E hr => ?_
  have hc : ClkS c := hc
  have hq : OrderOk c q := hq
  have hlo := hc.lo
  have hs := spots_ok (n := c.1.toNat) hc.toClkOk.rs (digits_ok hc.toClkOk.rs t) (by have := hc.toClkOk.room; omega)
  have hm := spots_mem hc hq t
  have hl := hs.len
  have hl2 := hc.len
  exact d_ret (d := R (sightOf c q t)) (by exact e_lc [("row", 3)] (spotsOf c.2 c.1.toNat (digitsOf c.2 t)) (fun x => [(3, R x)]) (pick q) rfl sc57.nd (wk_R (e_call h2 hr (c, digitsOf c.2 t) rfl (fun _ _ h => h) (a_cons (by exact e_var 0) (a_one (by exact e_call h1 (hr.mono (by decide)) (c, t) rfl (fun _ _ h => h) (a_cons (by exact e_var 0) (a_one (by exact e_var 2))) hc.toClkOk))) ⟨hc, digits_ok hc.toClkOk.rs t⟩)) (blkOk_by (N := N57) (sc := defScope s57) (by decide +kernel)) (by omega) (fun _ _ _ _ _ x => g_name 3 sc57.nd) fun s0 H0 C cl fp qq cc row hx => e_lc [("place", 4)] row (fun x => [(4, R x)]) (fun p => q.getD p.toNat 0) rfl sc57.nd (wk_R (e_var 3)) (blkOk_by (N := N57) (sc := { kind := .function, names := [(".0", .local), ("row", .local), ("queue", .cell)], isGenerator := false, isCoroutine := false }) (by decide +kernel)) (by have := (hm row hx).1; omega) (fun _ _ _ _ _ x => g_name 4 sc57.nd) fun s0 H0 C cl fp qq cc p hp => e_item (xs := q) (r_R (e_var 1)) (e_var 4) (pick_at ((hm row hx).2 p hp).1 ((hm row hx).2 p hp).2)) ⟨[], rfl, .same trivial⟩
/-! sight_behind -/
def spBehind : Spec (Clk × List Int × Int) := { args := fun x => [R x.1, R x.2.1, R x.2.2], pre := fun x => ClkS x.1 ∧ OrderOk x.1 x.2.1, post := fun x d _ => d = R (behindOf x.1 x.2.1 x.2.2) }
abbrev s58 : Stmt := top 58
abbrev N58 : List Str := ["clock", "queue", "ticks", "turns", "rest", "places", "place"]
theorem sc58 : FnScope N58 ["clock", "queue", "ticks"] (defScope s58) := ⟨rfl, rfl, rfl, by decide +kernel, rfl, by decide +kernel, by decide +kernel⟩
theorem turnRow_pm {c : Clk} (hc : ClkS c) : PmOk (turnRow c) := by
  have h := turnRow_perm hc.toClkOk
  have hl := h.len
  refine ⟨by rw [hl]; exact h, ?_⟩
  have := hc.sm12
  omega
theorem ok_sight_behind (T : Tx K mg) (a : At K mg "sight_behind" s58 ["clock", "queue", "ticks"]) (h1 : Has P w K mg base "turn_of" 1 spTurn) (h2 : Has P w K mg base "turn_row" 25 spTurnRow) (h3 : Has P w K mg base "power_row" 2 spPower) (h4 : Has P w K mg base "sight_of" 26 spSightOf) : Has P w K mg base "sight_behind" 27 spBehind := has_of a fun f fd F => by
  refine fn_ok spBehind F sc58 (fun _ => rfl) fun ⟨c, q, t⟩ ⟨hc, hq⟩ cdv A outer s H E hr => ?_
  have hc : ClkS c := hc
  have hq : OrderOk c q := hq
  have ht := hc.turn
  have hpw := power_perm (turnRow_perm hc.toClkOk) (t / turnOf c.2)
  have hcnt := hq.cnt
  have hm : ∀ p ∈ powerRow (turnRow c) (t / turnOf c.2), 0 ≤ p ∧ p < (q.length : Int) := fun p hp => by have := hpw.mem.mp hp; omega
  have hln := hpw.len
  have h12 := hc.sm12
  refine d_asg (by exact e_divmod (i := t) (j := turnOf c.2) T.divmod (e_var 2) (e_call h1 (hr.mono (by decide)) c rfl (fun _ _ h => h) (a_one (by exact e_var 0)) hc.toClkOk) ⟨by omega, by omega⟩) (g_pair (x := (t / turnOf c.2, t % turnOf c.2)) rfl (g_name 3 sc58.nd) (g_name 4 sc58.nd)) ?_
  refine d_set (d := R (powerRow (turnRow c) (t / turnOf c.2))) 5 sc58.nd (by exact e_call h3 (hr.mono (by decide)) (turnRow c, t / turnOf c.2) rfl (fun _ _ h => h) (a_cons (by exact e_call h2 (hr.mono (by decide)) c rfl (fun _ _ h => h) (a_one (by exact e_var 0)) hc) (a_one (by exact e_var 3))) (turnRow_pm hc)) ?_
  exact d_ret (by exact e_call h4 hr (c, pick q (powerRow (turnRow c) (t / turnOf c.2)), t % turnOf c.2) rfl (fun _ _ h => h) (a_cons (by exact e_var 0) (a_cons (by exact e_lc [("place", 6)] (powerRow (turnRow c) (t / turnOf c.2)) (fun x => [(6, R x)]) (fun p => q.getD p.toNat 0) rfl sc58.nd (wk_R (e_var 5)) (blkOk_by (N := N58) (sc := defScope s58) (by decide +kernel)) (by omega) (fun _ _ _ _ _ x => g_name 6 sc58.nd) fun s0 H0 C cl fp qq cc p hp => e_item (xs := q) (r_R (e_var 1)) (e_var 6) (pick_at (hm p hp).1 (hm p hp).2)) (a_one (by exact e_var 4)))) ⟨hc, pick_order hq hpw⟩) ⟨[], rfl, .same trivial⟩
/-! ticks_past -/
def spPast : Spec (Clk × Sight) := { args := fun x => [R x.1, R x.2], pre := fun x => ClkS x.1 ∧ SightOk x.1 x.2, post := fun x d _ => d = R (ticksPast x.1 x.2).1 }
abbrev s59 : Stmt := top 59
abbrev N59 : List Str := ["clock", "sight", "found", "weight", "bound", "way", "row"]
theorem sc59 : FnScope N59 ["clock", "sight"] (defScope s59) := ⟨rfl, rfl, rfl, by decide +kernel, rfl, by decide +kernel, by decide +kernel⟩
theorem ok_ticks_past (T : Tx K mg) (a : At K mg "ticks_past" s59 ["clock", "sight"]) : Has P w K mg base "ticks_past" 1 spPast := has_of a fun f fd F => by
  refine fn_ok spPast F sc59 (fun _ => rfl) fun ⟨c, sg⟩ ⟨hc, hs⟩ cdv A outer s H E hr => ?_
  have hc : ClkS c := hc
  have hs : SightOk c sg := hs
  refine d_asg (d := R ((0 : Int), (1 : Int))) (by exact e_pair e_int e_int) (g_pair (x := ((0 : Int), (1 : Int))) rfl (g_name 2 sc59.nd) (g_name 3 sc59.nd)) ?_
  refine d_for (c.2.zip sg.tail) (fun x => [(6, R x.2), (5, R x.1.2), (4, R x.1.1)]) (fun i (y : Int × Int) => y = ((c.2.zip sg.tail).take i).foldl (fun (a : Int × Int) x => (a.1 + a.2 * (x.2.length : Int), a.2 * x.1.1)) (0, 1)) (fun _ y => [(2, R y.1), (3, R y.2)]) (fun _ _ => []) rfl (wk_zip (xs := c.2) (ys := sg.tail) T.zip (by exact e_snd (x := c) (e_var 0) e_int) (by exact e_eq (e_slice (xs := sg) (i := some 1) (j := none) (r_R (e_var 1)) e_int trivial) (by rw [cut_from (by decide)]; exact congrArg (fun l : Sight => (R l : D)) List.drop_one))) (fun x => by exact g_tup (dl := [R x.1, R x.2]) rfl (gs_cons (g_pair (x := x.1) rfl (g_name 4 sc59.nd) (g_name 5 sc59.nd)) (gs_cons (g_name 6 sc59.nd) gs_nil))) ⟨(0, 1), rfl, .same ⟨rfl, rfl, trivial⟩⟩ (fun i y x hx hy => ?_) fun y hy => ?_
  · have hz := List.getElem?_zip_eq_some.mp hx
    have hrm := List.mem_of_getElem? hz.1
    have hb := (hc.bd _ hrm).1
    have hb2 := hc.toClkOk.bound_le _ hrm
    have hlen : x.2.length ≤ 100 := by
      have h1 := List.mem_of_mem_tail (List.mem_of_getElem? hz.2)
      obtain ⟨l1, l2, e⟩ := List.append_of_mem h1
      have h2 := hs.cnt
      have h3 := hc.sm12
      rw [e, List.flatten_append, List.flatten_cons, List.length_append, List.length_append] at h2
      omega
    refine d_aug (u := y.1) (v := y.2 * x.2.length) 2 sc59.nd (op := .Add) iadd_C rfl (by exact e_mul (e_var 3) (e_lenR T.len (r_R (xs := x.2) (e_var 6))) (.inr (by omega))) trivial ?_
    refine d_aug (u := y.2) (v := x.1.1) 3 sc59.nd (op := .Mult) iop_mul rfl (by exact e_var 4) (.inr (by omega)) (d_nil ⟨(y.1 + y.2 * x.2.length, y.2 * x.1.1), ?_, .same ⟨rfl, rfl, trivial⟩⟩)
    rw [take_snoc hx, List.foldl_append, ← hy]
    rfl
  · refine d_ret (d := R y.1) (by exact e_var 2) ⟨[], ?_, .same trivial⟩
    rw [hy, List.take_length]
    rfl
end
end Bh
/-! V12: far, further; clocks. -/
namespace Bh
open PySem PySem.Spec PyProof.Rows L2
section
variable {P : Program} {w : World} {K : PySem.W.Frag} {mg : Str → Option Value} {base : Heap} {C : Addr}
def spQueueOf : Spec (Clk × Sight) := { args := fun x => [R x.1, R x.2], pre := fun x => ClkS x.1 ∧ SightOk x.1 x.2, post := fun x d _ => d = R (queueOf x.1 x.2) }
abbrev s60 : Stmt := top 60
abbrev N60 : List Str := ["clock", "sight", "spots", "places", "balls", "row", "here", "index"]
theorem sc60 : FnScope N60 ["clock", "sight"] (defScope s60) := ⟨rfl, rfl, rfl, by decide +kernel, rfl, by decide +kernel, by decide +kernel⟩
theorem take_flat {s : Sight} (i : Nat) : (s.take i).flatten.length ≤ s.flatten.length := by
  have := flat_split s i
  omega
theorem row_le {s : Sight} {row : List Int} (h : row ∈ s) : row.length ≤ s.flatten.length := by
  obtain ⟨l1, l2, e⟩ := List.append_of_mem h
  rw [e, List.flatten_append, List.flatten_cons, List.length_append, List.length_append]
  omega
theorem ok_queue_of (T : Tx K mg) (a : At K mg "queue_of" s60 ["clock", "sight"]) (h1 : Has P w K mg base "spots_at" 25 spSpots) (h2 : Has P w K mg base "inverse_row" 1 spInverse) : Has P w K mg base "queue_of" 26 spQueueOf := has_of a fun f fd F => by
  refine fn_ok spQueueOf F sc60 (fun _ => rfl) fun ⟨c, sg⟩ ⟨hc, hs⟩ cdv A outer s H E hr => ?_
  have hc : ClkS c := hc
  have hs : SightOk c sg := hs
  have hcl := hc.len
  have h12 := hc.sm12
  have hlo := hc.lo
  have hsl := hs.len
  have hcnt := hs.cnt
  have hsp := spots_ok (n := c.1.toNat) hc.toClkOk.rs (lens_ok hs) (by have := hc.toClkOk.room; omega)
  have hpl := places_perm hc hs
  have hplen := hpl.len
  have hpe : placesOf c sg = (spotsOf c.2 c.1.toNat (lensOf sg)).flatten := rfl
  refine d_set (d := R (spotsOf c.2 c.1.toNat (lensOf sg))) 2 sc60.nd (by exact e_call h1 hr (c, lensOf sg) rfl (fun _ _ h => h) (a_cons (by exact e_var 0) (a_one (by exact e_lc [("row", 5)] sg.tail (fun x => [(5, R x)]) (fun row => (row.length : Int)) rfl sc60.nd (wk_R (e_eq (e_slice (xs := sg) (i := some 1) (j := none) (r_R (e_var 1)) e_int trivial) (by rw [cut_from (by decide)]; exact congrArg (fun l : Sight => (R l : D)) List.drop_one))) (blkOk_by (N := N60) (sc := defScope s60) (by decide +kernel)) (by rw [List.length_tail]; omega) (fun _ _ _ _ _ x => g_name 5 sc60.nd) fun s0 H0 C cl fp qq cc row hx => e_lenR T.len (r_R (xs := row) (e_var 5))))) ⟨hc, lens_ok hs⟩) ?_
  generalize hspe : spotsOf c.2 c.1.toNat (lensOf sg) = sp at *
  have hspl := hsp.len
  refine d_asgI (i_tup (ai_cons (i_new n_nil fun q1 => ai_cons (i_new n_nil fun q2 => ai_nil ⟨(by show 2 ≤ 1000000; decide), _, g_tup rfl (gs_cons (g_name 3 sc60.nd) (gs_cons (g_name 4 sc60.nd) gs_nil)), ?_⟩))))
  refine d_for (sp.zip sg) (fun x => [(6, R x.2), (5, R x.1)]) (fun _ (_ : Unit) => True) (fun _ _ => [(3, dAt q1), (4, dAt q2)]) (fun i _ => [(q2, mR (sg.take i).flatten), (q1, mR (sp.take i).flatten)]) rfl (wk_zip (xs := sp) (ys := sg) T.zip (by exact e_var 2) (by exact e_var 1)) (fun x => g_pair rfl (g_name 5 sc60.nd) (g_name 6 sc60.nd)) ⟨(), trivial, .same ⟨rfl, rfl, trivial⟩⟩ (fun i _ x hx _ => ?_) fun _ _ => ?_
  · have hz := List.getElem?_zip_eq_some.mp hx
    have z1 := row_le (List.mem_of_getElem? hz.1)
    have z2 := row_le (List.mem_of_getElem? hz.2)
    have z3 := take_flat (s := sp) i
    have z4 := take_flat (s := sg) i
    rw [hpe] at hplen
    refine d_expr (i_extend (q := q1) (dl := (sp.take i).flatten.map fun x => R x) (dl2 := x.1.map fun x => R x) 1 (by exact e_var 3) rfl (by exact e_var 5) (by rw [List.length_map, List.length_map]; omega) ?_)
    refine d_expr (i_extend (q := q2) (dl := (sg.take i).flatten.map fun x => R x) (dl2 := x.2.map fun x => R x) 0 (by exact e_var 4) rfl (by exact e_var 6) (by rw [List.length_map, List.length_map]; omega) (d_nil ⟨(), trivial, ?_⟩))
    rw [flatten_take hz.1, flatten_take hz.2]
    refine ⟨WkL.ok ⟨rfl, rfl, trivial⟩, _, .refl _, ?_⟩
    show List.Sublist [(q2, mL (((sg.take i).flatten ++ x.2).map fun x => R x)), (q1, mL (((sp.take i).flatten ++ x.1).map fun x => R x))] [(q2, mL ((sg.take i).flatten.map (fun x => R x) ++ x.2.map fun x => R x)), (q1, mL ((sp.take i).flatten.map (fun x => R x) ++ x.1.map fun x => R x))]
    rw [List.map_append, List.map_append]
    exact .refl _
  · have hzl : (sp.zip sg).length = sp.length := by rw [List.length_zip]; omega
    rw [hzl, List.take_length, show sp.length = sg.length by omega, List.take_length]
    refine d_frz0 4 rfl ?_
    refine d_frz0 3 rfl ?_
    have hinv := inverse_perm hpl
    have hinl := hinv.len
    have hm : ∀ p ∈ inverseRow (placesOf c sg), 0 ≤ p ∧ p < (sg.flatten.length : Int) := fun p hp => by have := hinv.mem.mp hp; omega
    exact d_ret (d := R (queueOf c sg)) (by exact e_lc [("index", 7)] (inverseRow (placesOf c sg)) (fun x => [(7, R x)]) (fun p => sg.flatten.getD p.toNat 0) rfl sc60.nd (wk_R (e_call h2 (hr.mono (by decide)) (placesOf c sg) rfl (fun _ _ h => h) (a_one (by rw [hpe]; exact e_var 3)) ⟨by rw [hplen]; exact hpl, by omega⟩)) (blkOk_by (N := N60) (sc := defScope s60) (by decide +kernel)) (by omega) (fun _ _ _ _ _ x => g_name 7 sc60.nd) fun s0 H0 C cl fp qq cc p hp => e_item (xs := sg.flatten) (r_R (e_var 4)) (e_var 7) (pick_at (hm p hp).1 (hm p hp).2)) ⟨[], rfl, .same trivial⟩
def spFar : Spec (Clk × Int) := { args := fun x => [R x.1, R x.2], pre := fun x => ClkS x.1, post := fun x d _ => d = R (farOf x.1 x.2) }
abbrev s61 : Stmt := top 61
theorem sc61 : FnScope ["clock", "tick"] ["clock", "tick"] (defScope s61) := ⟨rfl, rfl, rfl, by decide +kernel, rfl, by decide +kernel, by decide +kernel⟩
theorem ok_far_sight (T : Tx K mg) (a : At K mg "far_sight" s61 ["clock", "tick"]) (h1 : Has P w K mg base "sight_behind" 27 spBehind) : Has P w K mg base "far_sight" 28 spFar := has_of a fun f fd F => by
  refine fn_ok spFar F sc61 (fun _ => rfl) fun ⟨c, t⟩ hc cdv A outer s H E hr => ?_
  have hc : ClkS c := hc
  have hlo := hc.lo
  have h12 := hc.sm12
  exact d_ret (by exact e_call h1 hr (c, rngL 0 c.1.toNat, t) rfl (fun _ _ h => h) (a_cons (by exact e_var 0) (a_cons (by exact e_listRg (n := c.1) rfl T.list T.range (e_fst (x := c) (e_var 0) e_int) ⟨by omega, by omega⟩) (a_one (by exact e_var 1)))) ⟨hc, rng_order hc⟩) ⟨[], rfl, .same trivial⟩
def spMoved : Spec (Clk × Sight × Int) := { args := fun x => [R x.1, R x.2.1, R x.2.2], pre := fun x => ClkS x.1 ∧ SightOk x.1 x.2.1, post := fun x d _ => d = R (movedOf x.1 x.2.1 x.2.2) }
abbrev s62 : Stmt := top 62
theorem sc62 : FnScope ["clock", "sight", "ticks"] ["clock", "sight", "ticks"] (defScope s62) := ⟨rfl, rfl, rfl, by decide +kernel, rfl, by decide +kernel, by decide +kernel⟩
theorem ok_moved_sight (a : At K mg "moved_sight" s62 ["clock", "sight", "ticks"]) (h1 : Has P w K mg base "sight_behind" 27 spBehind) (h2 : Has P w K mg base "queue_of" 26 spQueueOf) (h3 : Has P w K mg base "ticks_past" 1 spPast) : Has P w K mg base "moved_sight" 28 spMoved := has_of a fun f fd F => by
  refine fn_ok spMoved F sc62 (fun _ => rfl) fun ⟨c, sg, t⟩ ⟨hc, hs⟩ cdv A outer s H E hr => ?_
  have hc : ClkS c := hc
  have hs : SightOk c sg := hs
  exact d_ret (by exact e_call h1 hr (c, queueOf c sg, (ticksPast c sg).1 + t) rfl (fun _ _ h => h) (a_cons (by exact e_var 0) (a_cons (by exact e_call h2 (hr.mono (by decide)) (c, sg) rfl (fun _ _ h => h) (a_cons (by exact e_var 0) (a_one (by exact e_var 1))) ⟨hc, hs⟩) (a_one (by exact e_add (e_call h3 (hr.mono (by decide)) (c, sg) rfl (fun _ _ h => h) (a_cons (by exact e_var 0) (a_one (by exact e_var 1))) ⟨hc, hs⟩) (e_var 2))))) ⟨hc, queue_ok hc hs⟩) ⟨[], rfl, .same trivial⟩
def spQBehind : Spec (Clk × Int) := { args := fun x => [R x.1, R x.2], pre := fun x => ClkS x.1, post := fun x d _ => d = R (powerRow (turnRow x.1) x.2) }
abbrev s63 : Stmt := top 63
theorem sc63 : FnScope ["clock", "turns"] ["clock", "turns"] (defScope s63) := ⟨rfl, rfl, rfl, by decide +kernel, rfl, by decide +kernel, by decide +kernel⟩
theorem ok_queue_behind (a : At K mg "queue_behind" s63 ["clock", "turns"]) (h1 : Has P w K mg base "require_clock" 5 spReqClock) (h2 : Has P w K mg base "is_integer" 1 spIsInt) (h3 : Has P w K mg base "turn_row" 25 spTurnRow) (h4 : Has P w K mg base "power_row" 2 spPower) : Has P w K mg base "queue_behind" 26 spQBehind := has_of a fun f fd F => by
  refine fn_ok spQBehind F sc63 (fun _ => rfl) fun ⟨c, t⟩ hc cdv A outer s H E hr => ?_
  have hc : ClkS c := hc
  refine d_expr (i_pure (by exact e_call h1 (hr.mono (by decide)) c rfl (fun _ _ h => h) (a_one (by exact e_var 0)) hc.toClkOk) ?_)
  refine d_no (k := !true) (by exact b_not (b_val (e_call h2 (hr.mono (by decide)) t rfl (fun _ _ h => h) (a_one (by exact e_var 1)) trivial))) rfl ?_
  exact d_ret (by exact e_call h4 (hr.mono (by decide)) (turnRow c, t) rfl (fun _ _ h => h) (a_cons (by exact e_call h3 hr c rfl (fun _ _ h => h) (a_one (by exact e_var 0)) hc) (a_one (by exact e_var 1))) (turnRow_pm hc)) ⟨[], rfl, .same trivial⟩
abbrev s64 : Stmt := top 64
theorem sc64 : FnScope ["clock", "tick"] ["clock", "tick"] (defScope s64) := ⟨rfl, rfl, rfl, by decide +kernel, rfl, by decide +kernel, by decide +kernel⟩
theorem ok_sight_at (a : At K mg "sight_at" s64 ["clock", "tick"]) (h1 : Has P w K mg base "require_clock" 5 spReqClock) (h2 : Has P w K mg base "require_tick" 2 spReqTick) (h3 : Has P w K mg base "far_sight" 28 spFar) : Has P w K mg base "sight_at" 29 spFar := has_of a fun f fd F => by
  refine fn_ok spFar F sc64 (fun _ => rfl) fun ⟨c, t⟩ hc cdv A outer s H E hr => ?_
  have hc : ClkS c := hc
  refine d_expr (i_pure (by exact e_call h1 (hr.mono (by decide)) c rfl (fun _ _ h => h) (a_one (by exact e_var 0)) hc.toClkOk) ?_)
  refine d_expr (i_pure (by exact e_call h2 (hr.mono (by decide)) t rfl (fun _ _ h => h) (a_one (by exact e_var 1)) trivial) ?_)
  exact d_ret (by exact e_call h3 hr (c, t) rfl (fun _ _ h => h) (a_cons (by exact e_var 0) (a_one (by exact e_var 1))) hc) ⟨[], rfl, .same trivial⟩
abbrev s65 : Stmt := top 65
theorem sc65 : FnScope ["clock", "sight", "ticks"] ["clock", "sight", "ticks"] (defScope s65) := ⟨rfl, rfl, rfl, by decide +kernel, rfl, by decide +kernel, by decide +kernel⟩
theorem ok_later_sight (a : At K mg "later_sight" s65 ["clock", "sight", "ticks"]) (h1 : Has P w K mg base "require_clock" 5 spReqClock) (h2 : Has P w K mg base "require_sight" 5 spReqSight) (h3 : Has P w K mg base "is_integer" 1 spIsInt) (h4 : Has P w K mg base "moved_sight" 28 spMoved) : Has P w K mg base "later_sight" 29 spMoved := has_of a fun f fd F => by
  refine fn_ok spMoved F sc65 (fun _ => rfl) fun ⟨c, sg, t⟩ ⟨hc, hs⟩ cdv A outer s H E hr => ?_
  have hc : ClkS c := hc
  have hs : SightOk c sg := hs
  refine d_expr (i_pure (by exact e_call h1 (hr.mono (by decide)) c rfl (fun _ _ h => h) (a_one (by exact e_var 0)) hc.toClkOk) ?_)
  refine d_expr (i_pure (by exact e_call h2 (hr.mono (by decide)) (c, sg) rfl (fun _ _ h => h) (a_cons (by exact e_var 0) (a_one (by exact e_var 1))) ⟨hc.toClkOk, hs⟩) ?_)
  refine d_no (k := !true) (by exact b_not (b_val (e_call h3 (hr.mono (by decide)) t rfl (fun _ _ h => h) (a_one (by exact e_var 2)) trivial))) rfl ?_
  exact d_ret (by exact e_call h4 hr (c, sg, t) rfl (fun _ _ h => h) (a_cons (by exact e_var 0) (a_cons (by exact e_var 1) (a_one (by exact e_var 2)))) ⟨hc, hs⟩) ⟨[], rfl, .same trivial⟩
/-! clocks -/
def spIsClock : Spec Clk := { args := fun c => [R c], pre := ClkOk, post := fun _ d _ => d = R true }
abbrev s79 : Stmt := top 79
theorem sc79 : FnScope ["value"] ["value"] (defScope s79) := ⟨rfl, rfl, rfl, by decide +kernel, rfl, by decide +kernel, by decide +kernel⟩
theorem ok_is_clock (a : At K mg "is_clock" s79 ["value"]) (h1 : Has P w K mg base "clock_fault" 4 spClockFault) : Has P w K mg base "is_clock" 5 spIsClock := has_of a fun f fd F => by
  refine fn_ok spIsClock F sc79 (fun _ => rfl) fun c hc cdv A outer s H E hr => ?_
  exact d_ret (d := R (decide ((⟨[]⟩ : Tup Unit) = ⟨[]⟩))) (by exact e_eqD (x := (⟨[]⟩ : Tup Unit)) (y := ⟨[]⟩) (hu64 hr) (e_call h1 hr c rfl (fun _ _ h => h) (a_one (by exact e_var 0)) hc) e_tnil) ⟨[], rfl, .same trivial⟩
def firstOf (c : Clk) : Sight := rngL 0 c.1.toNat :: c.2.map fun _ => []
def spFirst : Spec Clk := { args := fun c => [R c], pre := ClkOk, post := fun c d _ => d = R (firstOf c) }
abbrev s80 : Stmt := top 80
abbrev N80 : List Str := ["clock", "balls", "rails", "rail"]
theorem sc80 : FnScope N80 ["clock"] (defScope s80) := ⟨rfl, rfl, rfl, by decide +kernel, rfl, by decide +kernel, by decide +kernel⟩
theorem ok_first_sight (T : Tx K mg) (a : At K mg "first_sight" s80 ["clock"]) (h1 : Has P w K mg base "require_clock" 5 spReqClock) : Has P w K mg base "first_sight" 6 spFirst := has_of a fun f fd F => by
  refine fn_ok spFirst F sc80 (fun _ => rfl) fun c hc cdv A outer s H E hr => ?_
  have hc : ClkOk c := hc
  have hl := hc.len_le
  refine d_expr (i_pure (by exact e_call h1 hr c rfl (fun _ _ h => h) (a_one (by exact e_var 0)) hc) ?_)
  refine d_asg (by exact e_var 0) (g_pair (x := c) rfl (g_name 1 sc80.nd) (g_name 2 sc80.nd)) ?_
  refine d_ret (d := R (firstOf c)) (by exact e_lst (xs := firstOf c) (dl := R (rngL 0 c.1.toNat) :: ((c.2.map fun _ => ([] : List Int)).map (fun x => R x) ++ [])) (a_cons (e_listRg (n := c.1) rfl T.list T.range (e_var 1) ⟨by have := hc.lo; omega, by have := hc.hi; omega⟩) (a_star (r_R (e_lc [("rail", 3)] c.2 (fun x => [(3, R x)]) (fun _ => ([] : List Int)) rfl sc80.nd (wk_R (e_var 2)) (blkOk_by (N := N80) (sc := defScope s80) (by decide +kernel)) (by omega) (fun _ _ _ _ _ x => g_name 3 sc80.nd) fun s0 H0 C cl fp qq cc row hx => e_nil)) a_nil)) (by rw [List.append_nil]; rfl) (by rw [List.append_nil, List.length_cons, List.length_map, List.length_map]; omega)) ⟨[], rfl, .same trivial⟩
abbrev s81 : Stmt := top 81
theorem sc81 : FnScope ["clock"] ["clock"] (defScope s81) := ⟨rfl, rfl, rfl, by decide +kernel, rfl, by decide +kernel, by decide +kernel⟩
theorem ok_turn_ticks (a : At K mg "turn_ticks" s81 ["clock"]) (h1 : Has P w K mg base "require_clock" 5 spReqClock) (h2 : Has P w K mg base "turn_of" 1 spTurn) : Has P w K mg base "turn_ticks" 6 spTurn := has_of a fun f fd F => by
  refine fn_ok spTurn F sc81 (fun _ => rfl) fun c hc cdv A outer s H E hr => ?_
  refine d_expr (i_pure (by exact e_call h1 hr c rfl (fun _ _ h => h) (a_one (by exact e_var 0)) hc) ?_)
  exact d_ret (by exact e_call h2 (hr.mono (by decide)) c rfl (fun _ _ h => h) (a_one (by exact e_var 0)) hc) ⟨[], rfl, .same trivial⟩
end
end Bh
/-! V13: ticking. -/
namespace Bh
open PySem PySem.Spec PyProof.Rows L2
def afterGo : List (Rail × List Int) → List (List Int) → List Int → Int → Sight
  | [], done, q, b => (q ++ [b]) :: done
  | x :: l, done, q, b => if (x.2.length : Int) < x.1.1 - 1 then q :: (done ++ (x.2 ++ [b]) :: l.map (·.2)) else afterGo l (done ++ [[]]) (q ++ backOf x.1.2 x.2) b
def afterOf (c : Clk) (s : Sight) : Sight := afterGo (c.2.zip s.tail) [] (s.headD []).tail ((s.headD []).headD 0)
theorem afterGo_ok : ∀ (l : List (Rail × List Int)) (done : List (List Int)) (q : List Int) (b : Int), (∀ x ∈ l, (x.2.length : Int) < x.1.1) → (∀ x ∈ l, 2 ≤ x.1.1) →
    (afterGo l done q b).length = 1 + done.length + l.length ∧ (afterGo l done q b).flatten.Perm (q ++ ([b] ++ (done.flatten ++ (l.map (·.2)).flatten))) ∧
    (∀ j row, (afterGo l done q b)[j + 1]? = some row → j < done.length → done[j]? = some row) ∧ (∀ (j : Nat) row x, (afterGo l done q b)[j + 1]? = some row → done.length ≤ j → l[j - done.length]? = some x → (row.length : Int) < x.1.1)
  | [], done, q, b, _, _ => by
    refine ⟨by unfold afterGo; rw [List.length_cons, List.length_nil]; omega, ?_, fun j row h1 h2 => h1, fun j row x h1 h2 h3 => by cases h3⟩
    show ((q ++ [b]) :: done).flatten.Perm _
    rw [List.flatten_cons, List.append_assoc]
    show List.Perm _ (q ++ ([b] ++ (done.flatten ++ [])))
    rw [List.append_nil]
  | x :: l, done, q, b, h, h2 => by
    unfold afterGo
    have hx := h x List.mem_cons_self
    have hx2 := h2 x List.mem_cons_self
    split
    · rename_i hlt
      refine ⟨?_, ?_, fun j row g1 g2 => ?_, fun j row y g1 g2 g3 => ?_⟩
      · rw [List.length_cons, List.length_append, List.length_cons, List.length_map, List.length_cons]
        omega
      · rw [List.flatten_cons, List.flatten_append, List.flatten_cons, List.map_cons, List.flatten_cons]
        refine List.Perm.append_left q ?_
        rw [List.append_assoc, ← List.append_assoc (as := done.flatten), ← List.append_assoc (as := [b])]
        have e1 : ([b] ++ (done.flatten ++ (x.2 ++ (l.map (·.2)).flatten))) = [b] ++ ((done.flatten ++ x.2) ++ (l.map (·.2)).flatten) := by rw [List.append_assoc]
        rw [show ([b] ++ done.flatten ++ (x.2 ++ (l.map (·.2)).flatten)) = [b] ++ ((done.flatten ++ x.2) ++ (l.map (·.2)).flatten) by simp]
        exact List.perm_middle (l₁ := done.flatten ++ x.2) (l₂ := (l.map (·.2)).flatten) (a := b)
      · rw [List.getElem?_cons_succ, List.getElem?_append_left g2] at g1
        exact g1
      · rw [List.getElem?_cons_succ, List.getElem?_append_right g2] at g1
        cases e : j - done.length with
        | zero =>
          rw [e] at g1 g3
          cases g1
          cases g3
          rw [List.length_append, List.length_singleton]
          omega
        | succ k =>
          rw [e] at g1 g3
          rw [List.getElem?_cons_succ, List.getElem?_map] at g1
          rw [List.getElem?_cons_succ] at g3
          rw [g3] at g1
          cases g1
          exact h y (List.mem_cons_of_mem _ (List.mem_of_getElem? g3))
    · rename_i hge
      obtain ⟨i1, i2, i3, i4⟩ := afterGo_ok l (done ++ [[]]) (q ++ backOf x.1.2 x.2) b (fun y hy => h y (List.mem_cons_of_mem _ hy)) (fun y hy => h2 y (List.mem_cons_of_mem _ hy))
      refine ⟨?_, ?_, fun j row g1 g2 => ?_, fun j row y g1 g2 g3 => ?_⟩
      · rw [i1, List.length_append, List.length_singleton, List.length_cons]
        omega
      · refine i2.trans ?_
        rw [List.flatten_append, List.map_cons, List.flatten_cons, List.append_assoc]
        refine List.Perm.append_left q ?_
        have hb := back_perm x.1.2 x.2
        rw [show (([] : List Int) ++ ([] : List (List Int)).flatten) = [] from rfl, List.append_nil]
        refine (List.Perm.append_right _ hb).trans ?_
        have p1 : (x.2 ++ ([b] ++ (done.flatten ++ (l.map (·.2)).flatten))).Perm (([b] ++ done.flatten) ++ (x.2 ++ (l.map (·.2)).flatten)) := by
          have := List.perm_append_comm_assoc x.2 ([b] ++ done.flatten) ((l.map (·.2)).flatten)
          rw [List.append_assoc] at this
          exact this
        rw [List.append_assoc] at p1
        exact p1
      · have := i3 j row g1 (by rw [List.length_append]; omega)
        rw [List.getElem?_append_left g2] at this
        exact this
      · by_cases hj : j = done.length
        · subst hj
          have := i3 _ row g1 (by rw [List.length_append, List.length_singleton]; omega)
          rw [List.getElem?_append_right (Nat.le_refl _), Nat.sub_self] at this
          rw [Nat.sub_self] at g3
          cases this
          cases g3
          show (0 : Int) < _
          omega
        · have e1 : j - done.length = (j - (done.length + 1)) + 1 := by omega
          rw [e1, List.getElem?_cons_succ] at g3
          refine i4 j row y g1 (by rw [List.length_append, List.length_singleton]; omega) ?_
          rw [List.length_append, List.length_singleton]
          exact g3
/-- the first row of a sight is not empty -/
theorem SightOk.head {c : Clk} {s : Sight} (hc : ClkOk c) (h : SightOk c s) : ∃ b q rest, s = (b :: q) :: rest := by
  have hl := h.len
  cases e : s with
  | nil => rw [e] at hl; simp at hl
  | cons row rest =>
    cases e2 : row with
    | cons b q => exact ⟨b, q, rest, rfl⟩
    | nil =>
      exfalso
      have h1 := rows_room h 0
      have h2 := h.cnt
      have h3 := hc.room
      rw [e, e2] at h1 h2
      rw [List.flatten_cons] at h2
      have e4 : ((([] : List Int) :: rest).drop (0 + 1)) = rest := rfl
      rw [e4, List.drop_zero] at h1
      rw [List.nil_append] at h2
      omega
theorem zip_rows {c : Clk} {s : Sight} (hc : ClkOk c) (h : SightOk c s) : (∀ x ∈ c.2.zip s.tail, (x.2.length : Int) < x.1.1) ∧ (∀ x ∈ c.2.zip s.tail, 2 ≤ x.1.1) := by
  refine ⟨fun x hx => ?_, fun x hx => ?_⟩
  · obtain ⟨i, hi⟩ := List.getElem?_of_mem hx
    have hz := List.getElem?_zip_eq_some.mp hi
    have h2 := hz.2
    rw [List.getElem?_tail] at h2
    exact h.rail i _ _ h2 hz.1
  · exact (hc.bd _ (List.of_mem_zip hx).1).1
theorem zip_snd {α β : Type} : ∀ {l : List α} {m : List β}, l.length = m.length → (l.zip m).map (·.2) = m
  | [], [], _ => rfl
  | x :: l, y :: m, h => by rw [List.zip_cons_cons, List.map_cons, zip_snd (by simpa using h)]
  | [], _ :: _, h => by simp at h
  | _ :: _, [], h => by simp at h
theorem after_ok {c : Clk} {s : Sight} (hc : ClkOk c) (h : SightOk c s) : SightOk c (afterOf c s) := by
  obtain ⟨h1, h2⟩ := zip_rows hc h
  obtain ⟨b, q, rest, rfl⟩ := h.head hc
  have hl := h.len
  rw [List.length_cons] at hl
  have e : afterOf c ((b :: q) :: rest) = afterGo (c.2.zip rest) [] q b := rfl
  obtain ⟨i1, i2, _, i4⟩ := afterGo_ok (c.2.zip rest) [] q b h1 h2
  rw [← e] at i1 i2 i4
  have hzl : (c.2.zip rest).length = c.2.length := by rw [List.length_zip]; omega
  have hp : (afterOf c ((b :: q) :: rest)).flatten.Perm ((b :: q) :: rest).flatten := by
    refine i2.trans ?_
    rw [zip_snd (by omega), List.flatten_cons]
    exact List.perm_middle (l₁ := q) (l₂ := rest.flatten) (a := b)
  refine ⟨by rw [i1, hzl, List.length_nil]; omega, fun x hx => h.ball x (hp.mem_iff.mp hx), hp.nodup_iff.mpr h.nd, by rw [hp.length_eq]; exact h.cnt, fun i row r g1 g2 => ?_⟩
  have hi := (List.getElem?_eq_some_iff.mp g2).1
  have hz : (c.2.zip rest)[i - ([] : List (List Int)).length]? = some (r, rest[i]'(by omega)) := List.getElem?_zip_eq_some.mpr ⟨g2, List.getElem?_eq_getElem (by omega)⟩
  exact i4 i row _ g1 (Nat.zero_le _) hz
def afterN (c : Clk) (s : Sight) : Nat → Sight
  | 0 => s
  | n + 1 => afterOf c (afterN c s n)
theorem afterN_ok {c : Clk} {s : Sight} (hc : ClkOk c) (h : SightOk c s) : ∀ n, SightOk c (afterN c s n)
  | 0 => h
  | n + 1 => after_ok hc (afterN_ok hc h n)
theorem cut_mid {γ : Type} {xs : List γ} {a b : Nat} (h1 : a ≤ b) (h2 : b ≤ xs.length) : cutT xs (some (a : Int)) (some (b : Int)) = (xs.drop a).take (b - a) := by
  unfold cutT HT.sIx
  have e1 : (if (a : Int) < 0 then ((a : Int) + xs.length).toNat else min (a : Int).toNat xs.length) = a := by
    rw [if_neg (by omega), Int.toNat_natCast]
    exact Nat.min_eq_left (by omega)
  have e2 : (if (b : Int) < 0 then ((b : Int) + xs.length).toNat else min (b : Int).toNat xs.length) = b := by
    rw [if_neg (by omega), Int.toNat_natCast]
    exact Nat.min_eq_left (by omega)
  simp only [e1, e2]
section
variable {P : Program} {w : World} {K : PySem.W.Frag} {mg : Str → Option Value} {base : Heap} {C : Addr}
def spSent : Spec (List Int × Str) := { args := fun x => [R x.1, R x.2], post := fun x d _ => d = R (backOf x.2 x.1) }
abbrev s86 : Stmt := top 86
theorem sc86 : FnScope ["row", "way"] ["row", "way"] (defScope s86) := ⟨rfl, rfl, rfl, by decide +kernel, rfl, by decide +kernel, by decide +kernel⟩
theorem e_list {X : Cx} {ds : Ds} {ms : MS} {a : Expr} {p pos : Pos} {α : Type} [Rp α] {xs : List α} (hm : X.mg "list" = none) (ha : DR X ds ms a (xs.map fun x => R x)) (hg : Gl X "list" := by rfl) (he : starEach [a] X.env = (false, eval a X.env) :: starEach [] X.env := by rfl) (hpl : (backTo pos (starEach [] X.env)).any (·.1) = false := by rfl) : DE X ds ms (.Call (.Name "list" p) [a] [] pos) (R xs) := e_new (n_list (x := "list") hm rfl ha hg (by decide) (by decide) he hpl)
theorem ok_sent_back (T : Tx K mg) (a : At K mg "sent_back" s86 ["row", "way"]) : Has P w K mg base "sent_back" 1 spSent := has_of a fun f fd F => by
  refine fn_ok spSent F sc86 (fun _ => rfl) fun ⟨row, way⟩ _ cdv A outer s H E hr => ?_
  exact d_ret (d := R (backOf way row)) (by exact e_if (k := decide (way = "back")) (b_eqS (e_var 1) e_str) (fun hk => e_eq (e_rev (xs := row) (r_R (e_var 0))) (by unfold backOf; rw [if_pos (of_decide_eq_true hk)])) fun hk => e_eq (e_list (xs := row) T.list (r_R (e_var 0))) (by unfold backOf; rw [if_neg (of_decide_eq_false hk)])) ⟨[], rfl, .same trivial⟩
def spAfter : Spec (Clk × Sight) := { args := fun x => [R x.1, R x.2], pre := fun x => ClkS x.1 ∧ SightOk x.1 x.2, post := fun x d _ => d = R (afterOf x.1 x.2) }
abbrev s87 : Stmt := top 87
abbrev N87 : List Str := ["clock", "sight", "rows", "rails", "ball", "queue", "index", "bound", "way", "row"]
theorem sc87 : FnScope N87 ["clock", "sight"] (defScope s87) := ⟨rfl, rfl, rfl, by decide +kernel, rfl, by decide +kernel, by decide +kernel⟩
theorem ok_sight_after (T : Tx K mg) (a : At K mg "sight_after" s87 ["clock", "sight"]) (h1 : Has P w K mg base "sent_back" 1 spSent) : Has P w K mg base "sight_after" 2 spAfter := has_of a fun f fd F => by
  refine fn_ok spAfter F sc87 (fun _ => rfl) fun ⟨c, sg⟩ ⟨hc, hs⟩ cdv A outer s H E hr => ?_
  have hc : ClkS c := hc
  have hs : SightOk c sg := hs
  have hcl := hc.len
  have h12 := hc.sm12
  have hcnt := hs.cnt
  have hsl := hs.len
  obtain ⟨b, q0, rest, rfl⟩ := hs.head hc.toClkOk
  rw [List.length_cons] at hsl
  have hrl : rest.length = c.2.length := by omega
  rw [List.flatten_cons, List.length_append, List.length_cons] at hcnt
  have hres : afterOf c ((b :: q0) :: rest) = afterGo (c.2.zip rest) [] q0 b := rfl
  refine d_parI 2 3 rfl sc87.nd (ai_cons (i_new (by exact n_lc [("row", 9)] ((b :: q0) :: rest) (fun x => [(9, R x)]) (fun x => R x) rfl sc87.nd (wk_R (e_var 1)) (blkOk_by (N := N87) (sc := defScope s87) (by decide +kernel)) (by rw [List.length_cons]; omega) (fun _ _ _ _ _ x => g_name 9 sc87.nd) fun s0 H0 C cl fp qq cc row hx => e_list (xs := row) T.list (r_R (e_var 9))) fun rq => ai_pure (a_one (by exact e_snd (x := c) (e_var 0) e_int)) ⟨_, _, rfl, ?_⟩))
  refine d_par (da := R b) (db := R q0) 4 5 rfl sc87.nd (by exact e_item (xs := b :: q0) (r_R (e_ix (r_in (e_var 2) .h0) e_int (atI_nat' (Int.le_refl _) rfl))) e_int (atI_nat' (Int.le_refl _) rfl)) (by exact e_eq (e_slice (xs := b :: q0) (i := some 1) (j := none) (r_R (e_ix (r_in (e_var 2) .h0) e_int (atI_nat' (Int.le_refl _) rfl))) e_int trivial) (by rw [cut_from (by decide)]; rfl)) ?_
  refine d_for (enF 1 c.2) (fun x => [(8, R x.2.2), (7, R x.2.1), (6, R x.1)]) (fun i (q : List Int) => afterGo ((c.2.zip rest).drop i) (List.replicate i []) q b = afterOf c ((b :: q0) :: rest) ∧ q.length + (rest.drop i).flatten.length ≤ 12 ∧ i ≤ c.2.length)
    (fun _ q => [(5, R q), (4, R b), (2, dAt rq)]) (fun i _ => [(rq, mR ((b :: q0) :: (List.replicate i [] ++ rest.drop i)))]) rfl (wk_enumk T.enumerate (r_R (xs := c.2) (by exact e_var 3)) (by exact e_int) trivial (by decide) (by decide) (by exact e_var 3)) (fun x => by exact g_tup (dl := [R x.1, R x.2]) rfl (gs_cons (g_name 6 sc87.nd) (gs_cons (g_pair (x := x.2) rfl (g_name 7 sc87.nd) (g_name 8 sc87.nd)) gs_nil))) ⟨q0, ⟨by rw [hres]; rfl, by rw [List.drop_zero]; omega, Nat.zero_le _⟩, ?_⟩ (fun i q x hx ⟨hg, hb, _⟩ => ?_) fun q ⟨hg, hb, _⟩ => ?_
  · exact .same ⟨rfl, rfl, rfl, trivial⟩
  · obtain ⟨x1, x2⟩ := enF_get hx
    have hi : i < c.2.length := (List.getElem?_eq_some_iff.mp x2).1
    obtain ⟨row, hrow⟩ : ∃ row, rest[i]? = some row := ⟨_, List.getElem?_eq_getElem (by omega)⟩
    have hdr : rest.drop i = row :: rest.drop (i + 1) := by rw [List.drop_eq_getElem_cons (by omega), (List.getElem?_eq_some_iff.mp hrow).2]
    have hz : (c.2.zip rest)[i]? = some (x.2, row) := List.getElem?_zip_eq_some.mpr ⟨x2, hrow⟩
    have hzd : (c.2.zip rest).drop i = (x.2, row) :: (c.2.zip rest).drop (i + 1) := by
      have := (List.getElem?_eq_some_iff.mp hz)
      rw [List.drop_eq_getElem_cons this.1, this.2]
    rw [hzd] at hg
    unfold afterGo at hg
    dsimp only at hg
    rw [hdr, List.flatten_cons, List.length_append] at hb
    have hat : ((((b :: q0) :: (List.replicate i [] ++ rest.drop i)).map fun x => (R x : D)))[i + 1]? = some (R row) := by
      rw [List.getElem?_map, List.getElem?_cons_succ, List.getElem?_append_right (by rw [List.length_replicate]; omega), List.length_replicate, Nat.sub_self, hdr]
      rfl
    have hlen : ((((b :: q0) :: (List.replicate i [] ++ rest.drop i)).map fun x => (R x : D))).length = 1 + c.2.length := by
      rw [List.length_map, List.length_cons, List.length_append, List.length_replicate, List.length_drop]
      omega
    have hxi : x.1 = ((i + 1 : Nat) : Int) := by omega
    have hd1 : (List.replicate i ([] : List Int) ++ rest.drop i).drop (i + 1) = rest.drop (i + 1) := by
      rw [List.drop_append, List.length_replicate, List.drop_eq_nil_of_le (by rw [List.length_replicate]; omega), List.nil_append, Nat.add_sub_cancel_left, List.drop_drop]
    have hz2 : ((c.2.zip rest).drop (i + 1)).map (·.2) = rest.drop (i + 1) := by rw [List.map_drop, zip_snd (by omega)]
    refine d_if (k := decide ((row.length : Int) < x.2.1 - 1)) (by exact b_lt (e_lenR T.len (r_R (xs := row) (e_ix (r_in (e_var 2) .h0) (e_var 6) (atI_of hxi hat)))) (e_sub (e_var 7) e_int)) (fun hk => ?_) fun hk => d_nil ?_
    · rw [if_pos (of_decide_eq_true hk)] at hg
      refine d_ret (e_dL (dl := R q :: (((List.replicate i ([] : List Int)).map fun x => R x) ++ (R (row ++ [b]) :: (((rest.drop (i + 1)).map fun x => R x) ++ [])))) (by exact a_cons (e_var 5) (a_star (r_lst (e_eq (e_cut (i := some 1) (j := some ((i + 1 : Nat) : Int)) (r_in (e_var 2) .h0) e_int (e_eq (e_var 6) (by rw [hxi]))) (by rw [show (1 : Int) = ((1 : Nat) : Int) from rfl, cut_mid (by omega) (by rw [hlen]; omega)]; rw [← List.map_drop, ← List.map_take, show ((b :: q0) :: (List.replicate i [] ++ rest.drop i)).drop 1 = List.replicate i [] ++ rest.drop i from rfl, Nat.add_sub_cancel, List.take_left' (List.length_replicate ..)]))) (a_cons (e_eq (e_dL (a_star (r_R (xs := row) (e_ix (r_in (e_var 2) .h0) (e_var 6) (atI_of hxi hat))) (a_one (e_var 4))) (by rw [List.length_append, List.length_map, List.length_singleton]; omega)) (by show dL _ = dL ((row ++ [b]).map fun x => R x); rw [List.map_append]; rfl)) (a_star (r_lst (e_eq (e_cut (i := some (x.1 + 1)) (j := none) (r_in (e_var 2) .h0) (e_add (e_var 6) e_int) trivial) (by rw [cut_from (by omega), hxi]; rw [← List.map_drop, show (((i + 1 : Nat) : Int) + 1).toNat = i + 2 by omega, show ((b :: q0) :: (List.replicate i [] ++ rest.drop i)).drop (i + 2) = (List.replicate i [] ++ rest.drop i).drop (i + 1) from rfl, hd1]))) a_nil)))) ?_) ⟨[], ?_, .less trivial (List.nil_sublist _)⟩
      · rw [List.append_nil, List.length_cons, List.length_append, List.length_map, List.length_replicate, List.length_cons, List.length_map, List.length_drop]
        omega
      · show dL _ = R (afterOf c ((b :: q0) :: rest))
        rw [← hg, hz2, List.append_nil]
        show dL _ = dL _
        rw [List.map_cons, List.map_append, List.map_cons]
    · rw [if_neg (of_decide_eq_false hk)] at hg
      refine d_asgG (i_pure (d := dT [R (q ++ backOf x.2.2 row), R ([] : List Int)]) (e_dT (a_cons (e_eq (e_dL (dl := q.map (fun x => R x) ++ ((backOf x.2.2 row).map (fun x => R x) ++ [])) (by exact a_star (r_R (e_var 5)) (a_star (r_R (e_call h1 hr (row, x.2.2) rfl (fun _ _ h => h) (a_cons (e_ix (r_in (e_var 2) .h0) (e_var 6) (atI_of hxi hat)) (a_one (e_var 8))) trivial)) a_nil)) (by rw [List.append_nil, List.length_append, List.length_map, List.length_map, (back_perm _ _).length_eq]; omega)) (by rw [List.append_nil, ← List.map_append]; rfl)) (a_one (by exact e_nil))) (by (show 2 ≤ 1000000; decide))) ?_)
      refine gi_tup rfl (gsi_cons (gi_of (g_name 5 sc87.nd) (gsi_cons (gi_item (q := rq) (iv := x.1) (j := i + 1) 0 (by exact e_var 2) (by exact e_var 6) rfl (by rw [hlen, hxi]; exact ixN_of (by omega) (by omega)) (gsi_nil (d_nil ⟨q ++ backOf x.2.2 row, ⟨?_, ?_, by omega⟩, ?_⟩))))))
      · rw [List.replicate_succ', ← hg]
      · rw [List.length_append, (back_perm _ _).length_eq]
        omega
      · refine ⟨WkL.ok ⟨rfl, rfl, rfl, trivial⟩, _, .refl _, ?_⟩
        show List.Sublist [(rq, mL (((b :: q0) :: (List.replicate (i + 1) [] ++ rest.drop (i + 1))).map fun x => R x))] [(rq, mL (((((b :: q0) :: (List.replicate i [] ++ rest.drop i)).map fun x => (R x : D))).set (i + 1) (R ([] : List Int))))]
        rw [← List.map_set, List.set_cons_succ, List.set_append_right _ _ (by rw [List.length_replicate]; omega), List.length_replicate, Nat.sub_self, hdr, List.set_cons_zero, List.replicate_succ', List.append_assoc]
        exact .refl _
  · rw [enF_len] at hg hb ⊢
    have hzn : (c.2.zip rest).drop c.2.length = [] := List.drop_eq_nil_of_le (by rw [List.length_zip]; omega)
    rw [hzn] at hg
    unfold afterGo at hg
    rw [List.drop_eq_nil_of_le (show rest.length ≤ c.2.length by omega), List.append_nil]
    refine d_ret (e_dL (dl := R (q ++ [b]) :: (((List.replicate c.2.length ([] : List Int)).map fun x => R x) ++ [])) (by exact a_cons (e_eq (e_dL (dl := q.map (fun x => R x) ++ [R b]) (a_star (r_R (e_var 5)) (a_one (e_var 4))) (by rw [List.length_append, List.length_map, List.length_singleton]; omega)) (by show dL _ = dL ((q ++ [b]).map fun x => R x); rw [List.map_append]; rfl)) (a_star (r_lst (e_eq (e_cut (i := some 1) (j := none) (r_in (e_var 2) .h0) e_int trivial) (by rw [cut_from (by decide)]; rfl))) a_nil)) ?_) ⟨[], ?_, .less trivial (List.nil_sublist _)⟩
    · rw [List.append_nil, List.length_cons, List.length_map, List.length_replicate]
      omega
    · show dL _ = R (afterOf c ((b :: q0) :: rest))
      rw [← hg, List.append_nil]
      rfl
/-! sight_row -/
def rowsOf (c : Clk) (s : Sight) (many : Nat) : List Sight := (List.range many).map fun i => afterN c s (i + 1)
def spSRow : Spec (Clk × Sight × Int) := { args := fun x => [R x.1, R x.2.1, R x.2.2], pre := fun x => ClkS x.1 ∧ SightOk x.1 x.2.1 ∧ 0 ≤ x.2.2 ∧ x.2.2 ≤ 60, post := fun x d _ => d = R (rowsOf x.1 x.2.1 x.2.2.toNat) }
abbrev s88 : Stmt := top 88
abbrev N88 : List Str := ["clock", "sight", "many", "found", "here", "turn", "row"]
theorem sc88 : FnScope N88 ["clock", "sight", "many"] (defScope s88) := ⟨rfl, rfl, rfl, by decide +kernel, rfl, by decide +kernel, by decide +kernel⟩
theorem rows_snoc (c : Clk) (s : Sight) (n : Nat) : rowsOf c s (n + 1) = rowsOf c s n ++ [afterN c s (n + 1)] := by unfold rowsOf; rw [List.range_succ, List.map_append]; rfl
theorem ok_sight_row (T : Tx K mg) (a : At K mg "sight_row" s88 ["clock", "sight", "many"]) (h1 : Has P w K mg base "require_clock" 5 spReqClock) (h2 : Has P w K mg base "require_sight" 5 spReqSight) (h3 : Has P w K mg base "is_at_least" 2 spAtLeast) (h4 : Has P w K mg base "sight_after" 2 spAfter) : Has P w K mg base "sight_row" 6 spSRow := has_of a fun f fd F => by
  refine fn_ok spSRow F sc88 (fun _ => rfl) fun ⟨c, sg, m⟩ ⟨hc, hs, hm0, hm1⟩ cdv A outer s H E hr => ?_
  have hc : ClkS c := hc
  have hs : SightOk c sg := hs
  have hm0 : 0 ≤ m := hm0
  have hm1 : m ≤ 60 := hm1
  refine d_expr (i_pure (by exact e_call h1 hr c rfl (fun _ _ h => h) (a_one (by exact e_var 0)) hc.toClkOk) ?_)
  refine d_expr (i_pure (by exact e_call h2 hr (c, sg) rfl (fun _ _ h => h) (a_cons (by exact e_var 0) (a_one (by exact e_var 1))) ⟨hc.toClkOk, hs⟩) ?_)
  refine d_no (k := !decide ((0 : Int) ≤ m) || decide ((60 : Int) < m)) (by exact b_or2 (b_not (b_val (e_call h3 (hr.mono (by decide)) (m, 0) rfl (fun _ _ h => h) (a_cons (by exact e_var 2) (a_one e_int)) trivial))) fun _ => b_gt (e_var 2) (e_gint T.sights)) ?_ ?_
  · rw [decide_eq_true hm0, decide_eq_false (by omega)]
    rfl
  refine d_parI 3 4 rfl sc88.nd (ai_cons (i_new n_nil fun fq => ai_pure (a_one (by exact e_var 1)) ⟨_, _, rfl, ?_⟩))
  refine d_for (rngL 0 m.toNat) (fun x => [(5, R x)]) (fun i (_ : Unit) => i ≤ m.toNat) (fun i _ => [(0, R c), (3, dAt fq), (4, R (afterN c sg i))]) (fun i _ => [(fq, mR (rowsOf c sg i))]) rfl (by exact wk_rng1 T.range (e_var 2) (by omega)) (fun x => g_name 5 sc88.nd) ⟨(), Nat.zero_le _, .same ⟨rfl, rfl, rfl, trivial⟩⟩ (fun i _ x hx hil => ?_) fun _ _ => ?_
  · obtain ⟨hi, _⟩ := rngL_get hx
    have hok := afterN_ok hc.toClkOk hs (i + 1)
    have hol := hok.len
    have hcl := hc.len
    refine d_set (d := R (afterN c sg (i + 1))) 4 sc88.nd (by exact e_call h4 (hr.mono (by decide)) (c, afterN c sg i) rfl (fun _ _ h => h) (a_cons (by exact e_var 0) (a_one (by exact e_var 4))) ⟨hc, afterN_ok hc.toClkOk hs i⟩) ?_
    refine d_expr (i_appK (q := fq) (dl := (rowsOf c sg i).map fun x => R x) (by exact e_var 3) .h0 (i_pure (d := R (afterN c sg (i + 1))) (by exact e_eq (e_lc [("row", 6)] (afterN c sg (i + 1)) (fun x => [(6, R x)]) (fun x => x) rfl sc88.nd (wk_R (e_var 4)) (blkOk_by (N := N88) (sc := defScope s88) (by decide +kernel)) (by omega) (fun _ _ _ _ _ x => g_name 6 sc88.nd) fun s0 H0 C cl fp qq cc row hx => e_list (xs := row) T.list (r_R (e_var 6))) (by rw [List.map_id'])) ⟨0, _, rfl, by (unfold rowsOf; rw [List.length_map, List.length_map, List.length_range]; omega), d_nil ⟨(), by (show i + 1 ≤ m.toNat; omega), ?_⟩⟩))
    rw [rows_snoc]
    refine ⟨WkL.ok ⟨rfl, rfl, rfl, trivial⟩, _, .refl _, ?_⟩
    show List.Sublist [(fq, mL ((rowsOf c sg i ++ [afterN c sg (i + 1)]).map fun x => R x))] [(fq, mL ((rowsOf c sg i).map (fun x => R x) ++ [R (afterN c sg (i + 1))]))]
    rw [List.map_append]
    exact .refl _
  · rw [rngL_len]
    exact d_frz0 3 rfl (d_ret (d := R (rowsOf c sg m.toNat)) (by exact e_var 3) ⟨[], rfl, .same trivial⟩)
end
end Bh
/-! V14: modular. -/
namespace Bh
open PySem PySem.Spec PyProof.Rows L2
def gcdI (a b : Int) : Int := ((Nat.gcd a.toNat b.toNat : Nat) : Int)
theorem gcdI_pos {a b : Int} (h : 0 < b) : 0 < gcdI a b := by
  have : 0 < Nat.gcd a.toNat b.toNat := Nat.gcd_pos_of_pos_right _ (by omega)
  unfold gcdI
  omega
theorem gcdI_pos' {a b : Int} (h : 0 < a) : 0 < gcdI a b := by
  have : 0 < Nat.gcd a.toNat b.toNat := Nat.gcd_pos_of_pos_left _ (by omega)
  unfold gcdI
  omega
theorem gcdI_le {a b : Int} (h : 0 < b) : gcdI a b ≤ b := by
  have := Nat.gcd_le_right a.toNat (n := b.toNat) (by omega)
  unfold gcdI
  omega
theorem gcdI_step {a b : Int} (h0 : 0 ≤ a) (h : 0 < b) : gcdI b (a % b) = gcdI a b := by
  unfold gcdI
  have e : (a % b).toNat = a.toNat % b.toNat := by
    have h1 : ((a.toNat % b.toNat : Nat) : Int) = a % b := by
      rw [Int.natCast_emod, Int.toNat_of_nonneg h0, Int.toNat_of_nonneg (by omega)]
    omega
  rw [e, Nat.gcd_comm, ← Nat.gcd_rec, Nat.gcd_comm]
theorem gcdI_zero {a : Int} (h : 0 ≤ a) : gcdI a 0 = a := by
  unfold gcdI
  rw [show ((0 : Int)).toNat = 0 from rfl, Nat.gcd_zero_right]
  omega
theorem gcdI_dvd {a b : Int} (h : 0 ≤ b) : gcdI a b ∣ b := by
  have h1 := Nat.gcd_dvd_right a.toNat b.toNat
  unfold gcdI
  have h2 : ((Nat.gcd a.toNat b.toNat : Nat) : Int) ∣ ((b.toNat : Nat) : Int) := Int.natCast_dvd_natCast.mpr h1
  rw [Int.toNat_of_nonneg h] at h2
  exact h2
theorem gcdI_dvd' {a b : Int} (h : 0 ≤ a) : gcdI a b ∣ a := by
  have h1 := Nat.gcd_dvd_left a.toNat b.toNat
  unfold gcdI
  have h2 : ((Nat.gcd a.toNat b.toNat : Nat) : Int) ∣ ((a.toNat : Nat) : Int) := Int.natCast_dvd_natCast.mpr h1
  rw [Int.toNat_of_nonneg h] at h2
  exact h2
theorem quot_pos {a b : Int} (h : 0 < b) : 0 < b / gcdI a b := by
  have h1 := gcdI_pos (a := a) h
  have h2 := gcdI_le (a := a) h
  have := Int.ediv_le_ediv h1 h2
  rw [Int.ediv_self (by omega)] at this
  omega
theorem quot_pos' {a b : Int} (h : 0 < a) (hb : 0 < b) : 0 < a / gcdI a b := by
  have h1 := gcdI_pos (a := a) hb
  obtain ⟨k, hk⟩ := gcdI_dvd' (a := a) (b := b) (by omega)
  generalize gcdI a b = g at *
  subst hk
  rw [Int.mul_ediv_cancel_left _ (by omega)]
  exact Int.pos_of_mul_pos_right h (by omega)
theorem quot_le {a b : Int} (h : 0 < b) : b / gcdI a b ≤ b := Int.ediv_le_self _ (by omega)
def lcmI (a b : Int) : Int := a / gcdI a b * b
def invGo : Nat → Int → Int → Int → Int → Int
  | 0, _, _, f, _ => f
  | n + 1, one, other, f, s => if 0 < other then invGo n other (one % other) s (f - one / other * s) else f
def invOf (number step : Int) : Int := invGo step.toNat (number % step) step 1 0 % step
def joinedTwo (x y : Int × Int) : Option (Int × Int) :=
  let g := gcdI x.2 y.2
  if (y.1 - x.1) % g = 0 then
    let part := y.2 / g
    let times := if 1 < part then (y.1 - x.1) / g * invOf (x.2 / g) part % part else 0
    some ((x.1 + times * x.2) % (x.2 * part), x.2 * part)
  else none
def joinedRests (rows : List (Int × Int)) : Option (Int × Int) := rows.foldl (fun f r => f.bind fun x => joinedTwo x r) (some (0, 1))
def RowR (r : Int × Int) : Prop := 1 ≤ r.2 ∧ r.2 ≤ 100
theorem joinedTwo_ok {x y z : Int × Int} (hx : 1 ≤ x.2) (hy : RowR y) (h : joinedTwo x y = some z) : 0 ≤ z.1 ∧ z.1 < z.2 ∧ 1 ≤ z.2 ∧ z.2 ≤ x.2 * 100 := by
  unfold joinedTwo at h
  dsimp only at h
  split at h
  · cases h
    have h1 := quot_pos (a := x.2) (b := y.2) (by have := hy.1; omega)
    have h2 := quot_le (a := x.2) (b := y.2) (by have := hy.1; omega)
    have h3 : x.2 * 1 ≤ x.2 * (y.2 / gcdI x.2 y.2) := Int.mul_le_mul_of_nonneg_left (by omega) (by omega)
    have h4 : x.2 * (y.2 / gcdI x.2 y.2) ≤ x.2 * 100 := Int.mul_le_mul_of_nonneg_left (by have := hy.2; omega) (by omega)
    exact ⟨Int.emod_nonneg _ (by omega), Int.emod_lt_of_pos _ (by omega), by omega, h4⟩
  · cases h
theorem joined_take {rows : List (Int × Int)} (h : ∀ r ∈ rows, RowR r) : ∀ {i : Nat} {f : Int × Int}, i ≤ rows.length → joinedRests (rows.take i) = some f → 1 ≤ f.2 ∧ f.2 ≤ 100 ^ i ∧ 0 ≤ f.1 ∧ f.1 < f.2
  | 0, f, _, hf => by
    rw [List.take_zero] at hf
    cases hf
    exact ⟨Int.le_refl _, Int.le_refl _, Int.le_refl _, by decide⟩
  | i + 1, f, hi, hf => by
    obtain ⟨r, hr⟩ : ∃ r, rows[i]? = some r := ⟨_, List.getElem?_eq_getElem (by omega)⟩
    rw [take_snoc hr] at hf
    unfold joinedRests at hf
    rw [List.foldl_append] at hf
    have hf : (joinedRests (rows.take i)).bind (fun x => joinedTwo x r) = some f := hf
    obtain ⟨g, hg, hf⟩ := Option.bind_eq_some_iff.mp hf
    obtain ⟨i1, i2, i3, i4⟩ := joined_take h (by omega) hg
    obtain ⟨j1, j2, j3, j4⟩ := joinedTwo_ok i1 (h r (List.mem_of_getElem? hr)) hf
    refine ⟨j3, ?_, j1, j2⟩
    rw [Int.pow_succ]
    have : g.2 * 100 ≤ 100 ^ i * 100 := Int.mul_le_mul_of_nonneg_right i2 (by decide)
    omega
section
variable {P : Program} {w : World} {K : PySem.W.Frag} {mg : Str → Option Value} {base : Heap} {C : Addr}
def spGcd : Spec (Int × Int) := { args := fun x => [R x.1, R x.2], pre := fun x => 0 ≤ x.1 ∧ 0 ≤ x.2, post := fun x d _ => d = R (gcdI x.1 x.2) }
abbrev s68 : Stmt := top 68
theorem sc68 : FnScope ["one", "other"] ["one", "other"] (defScope s68) := ⟨rfl, rfl, rfl, by decide +kernel, rfl, by decide +kernel, by decide +kernel⟩
theorem ok_common_divisor (a : At K mg "common_divisor" s68 ["one", "other"]) : Has P w K mg base "common_divisor" 1 spGcd := has_of a fun f fd F => by
  refine fn_ok spGcd F sc68 (fun _ => rfl) fun ⟨x, y⟩ ⟨h0, h1⟩ cdv A outer s H E hr => ?_
  have h0 : 0 ≤ x := h0
  have h1 : 0 ≤ y := h1
  refine d_while (A := Int × Int) (fun z => 0 ≤ z.1 ∧ 0 ≤ z.2 ∧ gcdI z.1 z.2 = gcdI x y) (fun z => z.2.toNat) (fun z => [(0, R z.1), (1, R z.2)]) (fun _ => []) (fun z => decide (0 < z.2)) ⟨(x, y), ⟨h0, h1, rfl⟩, .same ⟨rfl, rfl, trivial⟩⟩ (fun z _ => by exact b_gt (e_var 1) e_int) (fun z hz ht => ?_) fun z hz ht => ?_
  · obtain ⟨z1, z2, z3⟩ := hz
    have ht := of_decide_eq_true ht
    refine d_par (da := R z.2) (db := R (z.1 % z.2)) 0 1 rfl sc68.nd (by exact e_var 1) (by exact e_mod (e_var 0) (e_var 1) ht) (d_nil ⟨(z.2, z.1 % z.2), ⟨⟨z2, Int.emod_nonneg _ (by omega), by rw [← z3]; exact gcdI_step z1 ht⟩, ?_⟩, .same ⟨rfl, rfl, trivial⟩⟩)
    have := Int.emod_lt_of_pos z.1 ht
    show (z.1 % z.2).toNat < z.2.toNat
    omega
  · obtain ⟨z1, z2, z3⟩ := hz
    have ht := of_decide_eq_false ht
    refine d_ret (d := R z.1) (by exact e_var 0) ⟨[], ?_, .same trivial⟩
    show R z.1 = R (gcdI x y)
    rw [← z3, show z.2 = 0 by omega, gcdI_zero z1]
def spLcm : Spec (Int × Int) := { args := fun x => [R x.1, R x.2], pre := fun x => 1 ≤ x.1 ∧ 1 ≤ x.2 ∧ x.2 ≤ 100, post := fun x d _ => d = R (lcmI x.1 x.2) }
abbrev s69 : Stmt := top 69
theorem sc69 : FnScope ["one", "other"] ["one", "other"] (defScope s69) := ⟨rfl, rfl, rfl, by decide +kernel, rfl, by decide +kernel, by decide +kernel⟩
theorem ok_common_multiple (a : At K mg "common_multiple" s69 ["one", "other"]) (h1 : Has P w K mg base "common_divisor" 1 spGcd) : Has P w K mg base "common_multiple" 2 spLcm := has_of a fun f fd F => by
  refine fn_ok spLcm F sc69 (fun _ => rfl) fun ⟨x, y⟩ ⟨h0, h2, h3⟩ cdv A outer s H E hr => ?_
  have h0 : 1 ≤ x := h0
  have h2 : 1 ≤ y := h2
  have h3 : y ≤ 100 := h3
  have g1 := gcdI_pos (a := x) (b := y) (by omega)
  have g2 := gcdI_le (a := x) (b := y) (by omega)
  exact d_ret (d := R (lcmI x y)) (by exact e_mul (e_fdiv (e_var 0) (e_call h1 hr (x, y) rfl (fun _ _ h => h) (a_cons (by exact e_var 0) (a_one (by exact e_var 1))) ⟨by (show 0 ≤ x; omega), by (show 0 ≤ y; omega)⟩) ⟨g1, by omega⟩) (e_var 1) (.inr (by omega))) ⟨[], rfl, .same trivial⟩
def spInv : Spec (Int × Int) := { args := fun x => [R x.1, R x.2], pre := fun x => 1 ≤ x.2 ∧ x.2 ≤ 100, post := fun x d _ => d = R (invOf x.1 x.2) }
abbrev s70 : Stmt := top 70
abbrev N70 : List Str := ["number", "step", "one", "other", "first", "second", "times"]
theorem sc70 : FnScope N70 ["number", "step"] (defScope s70) := ⟨rfl, rfl, rfl, by decide +kernel, rfl, by decide +kernel, by decide +kernel⟩
structure InA where
  n : Nat
  one : Int
  other : Int
  f : Int
  s : Int
theorem ok_inverse_of (a : At K mg "inverse_of" s70 ["number", "step"]) : Has P w K mg base "inverse_of" 1 spInv := has_of a fun f fd F => by
  refine fn_ok spInv F sc70 (fun _ => rfl) fun ⟨x, y⟩ ⟨h0, h1⟩ cdv A outer s H E hr => ?_
  have h0 : 1 ≤ y := h0
  have h1 : y ≤ 100 := h1
  refine d_asg (d := dT [R (x % y), R y, R (1 : Int), R (0 : Int)]) (e_dT (a_cons (by exact e_mod (e_var 0) (e_var 1) (by omega)) (a_cons (by exact e_var 1) (a_cons (by exact e_int) (a_one (by exact e_int))))) (by (show 4 ≤ 1000000; decide))) (g_tup rfl (gs_cons (g_name 2 sc70.nd) (gs_cons (g_name 3 sc70.nd) (gs_cons (g_name 4 sc70.nd) (gs_cons (g_name 5 sc70.nd) gs_nil))))) ?_
  refine d_while (A := InA) (fun z => 0 ≤ z.one ∧ z.one ≤ 100 ∧ 0 ≤ z.other ∧ z.other ≤ 100 ∧ z.other ≤ z.n ∧ invGo z.n z.one z.other z.f z.s = invGo y.toNat (x % y) y 1 0) (fun z => z.other.toNat) (fun z => [(1, R y), (2, R z.one), (3, R z.other), (4, R z.f), (5, R z.s)]) (fun _ => []) (fun z => decide (0 < z.other)) ⟨⟨y.toNat, x % y, y, 1, 0⟩, ⟨Int.emod_nonneg _ (by omega), by (have := Int.emod_lt_of_pos x (show 0 < y by omega); show x % y ≤ 100; omega), by (show 0 ≤ y; omega), h1, by (show y ≤ (y.toNat : Int); omega), rfl⟩, .same ⟨rfl, rfl, rfl, rfl, rfl, trivial⟩⟩ (fun z _ => by exact b_gt (e_var 3) e_int) (fun z hz ht => ?_) fun z hz ht => ?_
  · obtain ⟨z1, z2, z3, z4, z5, z6⟩ := hz
    have ht := of_decide_eq_true ht
    obtain ⟨n, hn⟩ : ∃ n, z.n = n + 1 := ⟨z.n - 1, by omega⟩
    have hq0 : 0 ≤ z.one / z.other := Int.ediv_nonneg z1 z3
    have hq1 : z.one / z.other ≤ z.one := Int.ediv_le_self _ z1
    have hmod := Int.emod_lt_of_pos z.one ht
    have hmod0 := Int.emod_nonneg z.one (show z.other ≠ 0 by omega)
    refine d_set (d := R (z.one / z.other)) 6 sc70.nd (by exact e_fdiv (e_var 2) (e_var 3) ⟨ht, by omega⟩) ?_
    refine d_par (da := R z.other) (db := R (z.one - z.one / z.other * z.other)) 2 3 rfl sc70.nd (by exact e_var 3) (by exact e_sub (e_var 2) (e_mul (e_var 6) (e_var 3) (.inr (by omega)))) ?_
    refine d_par (da := R z.s) (db := R (z.f - z.one / z.other * z.s)) 4 5 rfl sc70.nd (by exact e_var 5) (by exact e_sub (e_var 4) (e_mul (e_var 6) (e_var 5) (.inl (by omega)))) ?_
    have e1 : z.one - z.one / z.other * z.other = z.one % z.other := by
      have := Int.emod_add_mul_ediv z.one z.other
      have e2 : z.one / z.other * z.other = z.other * (z.one / z.other) := Int.mul_comm _ _
      omega
    rw [e1]
    refine d_nil ⟨⟨n, z.other, z.one % z.other, z.s, z.f - z.one / z.other * z.s⟩, ⟨⟨z3, z4, hmod0, by (show z.one % z.other ≤ 100; omega), by (show z.one % z.other ≤ (n : Int); omega), ?_⟩, by (show (z.one % z.other).toNat < z.other.toNat; omega)⟩, .same ⟨rfl, rfl, rfl, rfl, rfl, trivial⟩⟩
    rw [← z6, hn]
    show _ = (if 0 < z.other then _ else _)
    rw [if_pos ht]
  · obtain ⟨z1, z2, z3, z4, z5, z6⟩ := hz
    have ht := of_decide_eq_false ht
    refine d_ret (d := R (z.f % y)) (by exact e_mod (e_var 4) (e_var 1) (by omega)) ⟨[], ?_, .same trivial⟩
    show R (z.f % y) = R (invOf x y)
    unfold invOf
    rw [← z6]
    cases hn : z.n with
    | zero => rfl
    | succ n =>
      show _ = R ((if 0 < z.other then _ else _) % y)
      rw [if_neg ht]
theorem inv_rg {x y : Int} (h : 1 ≤ y) : 0 ≤ invOf x y ∧ invOf x y < y := ⟨Int.emod_nonneg _ (by omega), Int.emod_lt_of_pos _ (by omega)⟩
def spJ2 : Spec ((Int × Int) × (Int × Int)) := { args := fun x => [R x.1, R x.2], pre := fun x => 1 ≤ x.1.2 ∧ RowR x.2, post := fun x d _ => d = R (joinedTwo x.1 x.2) }
abbrev s71 : Stmt := top 71
abbrev N71 : List Str := ["one", "other", "rest", "step", "goal", "more", "divisor", "part", "times", "whole"]
theorem sc71 : FnScope N71 ["one", "other"] (defScope s71) := ⟨rfl, rfl, rfl, by decide +kernel, rfl, by decide +kernel, by decide +kernel⟩
theorem ok_joined_two (a : At K mg "joined_two" s71 ["one", "other"]) (h1 : Has P w K mg base "common_divisor" 1 spGcd) (h2 : Has P w K mg base "inverse_of" 1 spInv) : Has P w K mg base "joined_two" 2 spJ2 := has_of a fun f fd F => by
  refine fn_ok spJ2 F sc71 (fun _ => rfl) fun ⟨x, y⟩ ⟨hx, hy⟩ cdv A outer s H E hr => ?_
  have hx : 1 ≤ x.2 := hx
  have hy1 : 1 ≤ y.2 := hy.1
  have hy2 : y.2 ≤ 100 := hy.2
  have g1 := gcdI_pos (a := x.2) (b := y.2) (by omega)
  have g2 := gcdI_le (a := x.2) (b := y.2) (by omega)
  have p1 := quot_pos (a := x.2) (b := y.2) (by omega)
  have p2 := quot_le (a := x.2) (b := y.2) (by omega)
  have hj : joinedTwo x y = (if (y.1 - x.1) % gcdI x.2 y.2 = 0 then some ((x.1 + (if 1 < y.2 / gcdI x.2 y.2 then (y.1 - x.1) / gcdI x.2 y.2 * invOf (x.2 / gcdI x.2 y.2) (y.2 / gcdI x.2 y.2) % (y.2 / gcdI x.2 y.2) else 0) * x.2) % (x.2 * (y.2 / gcdI x.2 y.2)), x.2 * (y.2 / gcdI x.2 y.2)) else none) := rfl
  refine d_asg (d := dT [R x, R y]) (e_dT (a_cons (by exact e_var 0) (a_one (by exact e_var 1))) (by (show 2 ≤ 1000000; decide))) (g_tup rfl (gs_cons (g_pair (x := x) rfl (g_name 2 sc71.nd) (g_name 3 sc71.nd)) (gs_cons (g_pair (x := y) rfl (g_name 4 sc71.nd) (g_name 5 sc71.nd)) gs_nil))) ?_
  refine d_set (d := R (gcdI x.2 y.2)) 6 sc71.nd (by exact e_call h1 hr (x.2, y.2) rfl (fun _ _ h => h) (a_cons (by exact e_var 3) (a_one (by exact e_var 5))) ⟨by (show 0 ≤ x.2; omega), by (show 0 ≤ y.2; omega)⟩) ?_
  generalize gcdI x.2 y.2 = g at *
  refine d_if (k := !decide ((y.1 - x.1) % g = 0)) (by exact b_neS (e_mod (e_sub (e_var 4) (e_var 2)) (e_var 6) g1) e_int) (fun hk => ?_) fun hk => d_nil ?_
  · have hk : ¬ (y.1 - x.1) % g = 0 := by simpa using hk
    rw [if_neg hk] at hj
    exact d_ret (by exact e_none) ⟨[], by rw [show spJ2.post (x, y) = fun d _ => d = R (joinedTwo x y) from rfl, hj]; rfl, .same trivial⟩
  have hk : (y.1 - x.1) % g = 0 := by simpa using hk
  rw [if_pos hk] at hj
  refine d_set (d := R (y.2 / g)) 7 sc71.nd (by exact e_fdiv (e_var 5) (e_var 6) ⟨g1, by omega⟩) ?_
  generalize hpt : y.2 / g = part at *
  have hx2 : 0 ≤ x.2 / g := Int.ediv_nonneg (by omega) (by omega)
  have hiv := inv_rg (x := x.2 / g) (y := part) (by omega)
  refine d_set (d := R (if 1 < part then (y.1 - x.1) / g * invOf (x.2 / g) part % part else 0)) 8 sc71.nd (e_if (k := decide (1 < part)) (by exact b_gt (e_var 7) e_int) (fun hk => by rw [if_pos (of_decide_eq_true hk)]; exact e_mod (e_mul (e_fdiv (e_sub (e_var 4) (e_var 2)) (e_var 6) ⟨g1, by omega⟩) (e_call h2 hr (x.2 / g, part) rfl (fun _ _ h => h) (a_cons (by exact e_fdiv (e_var 3) (e_var 6) ⟨g1, by omega⟩) (a_one (by exact e_var 7))) ⟨by (show 1 ≤ part; omega), by (show part ≤ 100; omega)⟩) (.inr (by omega))) (e_var 7) (by omega)) fun hk => by rw [if_neg (of_decide_eq_false hk)]; exact e_int) ?_
  have ht : 0 ≤ (if 1 < part then (y.1 - x.1) / g * invOf (x.2 / g) part % part else 0) ∧ (if 1 < part then (y.1 - x.1) / g * invOf (x.2 / g) part % part else 0) < 2 ^ 64 := by
    split
    · exact ⟨Int.emod_nonneg _ (by omega), by have := Int.emod_lt_of_pos ((y.1 - x.1) / g * invOf (x.2 / g) part) (show 0 < part by omega); omega⟩
    · exact ⟨Int.le_refl _, by decide⟩
  have hw : 0 < x.2 * part := Int.mul_pos (by omega) (by omega)
  generalize (if 1 < part then (y.1 - x.1) / g * invOf (x.2 / g) part % part else 0) = times at *
  refine d_set (d := R (x.2 * part)) 9 sc71.nd (by exact e_mul (e_var 3) (e_var 7) (.inr (by omega))) ?_
  refine d_ret (d := R ((x.1 + times * x.2) % (x.2 * part), x.2 * part)) (by exact e_pair (e_mod (e_add (e_var 2) (e_mul (e_var 8) (e_var 3) (.inl (by omega)))) (e_var 9) hw) (e_var 9)) ⟨[], ?_, .same trivial⟩
  show _ = R (joinedTwo x y)
  rw [hj]
  rfl
def spJR : Spec (List (Int × Int)) := { args := fun x => [R x], pre := fun x => ∀ r ∈ x, RowR r, post := fun x d _ => d = R (joinedRests x) }
abbrev s72 : Stmt := top 72
theorem sc72 : FnScope ["rows", "found", "row"] ["rows"] (defScope s72) := ⟨rfl, rfl, rfl, by decide +kernel, rfl, by decide +kernel, by decide +kernel⟩
theorem joined_none (l : List (Int × Int)) : l.foldl (fun f r => f.bind fun x => joinedTwo x r) none = none := by
  induction l with
  | nil => rfl
  | cons x l ih => exact ih
theorem ok_joined_rests (a : At K mg "joined_rests" s72 ["rows"]) (h1 : Has P w K mg base "joined_two" 2 spJ2) : Has P w K mg base "joined_rests" 3 spJR := has_of a fun f fd F => by
  refine fn_ok spJR F sc72 (fun _ => rfl) fun rows hrow cdv A outer s H E hr => ?_
  have hrow : ∀ r ∈ rows, RowR r := hrow
  refine d_set (d := R ((0 : Int), (1 : Int))) 1 sc72.nd (by exact e_pair e_int e_int) ?_
  refine d_for rows (fun x => [(2, R x)]) (fun i (f : Int × Int) => joinedRests (rows.take i) = some f ∧ i ≤ rows.length) (fun _ f => [(1, R f)]) (fun _ _ => []) rfl (wk_R (by exact e_var 0)) (fun x => g_name 2 sc72.nd) ⟨(0, 1), ⟨rfl, Nat.zero_le _⟩, .same ⟨rfl, trivial⟩⟩ (fun i f r hx ⟨hf, hil⟩ => ?_) fun f ⟨hf, _⟩ => ?_
  · have hf1 := (joined_take hrow hil hf).1
    have hi := (List.getElem?_eq_some_iff.mp hx).1
    have hnext : joinedRests (rows.take (i + 1)) = joinedTwo f r := by
      rw [take_snoc hx]
      unfold joinedRests
      rw [List.foldl_append]
      show (joinedRests (rows.take i)).bind (fun x => joinedTwo x r) = _
      rw [hf]
      rfl
    refine d_set (d := R (joinedTwo f r)) 1 sc72.nd (by exact e_call h1 hr (f, r) rfl (fun _ _ h => h) (a_cons (by exact e_var 1) (a_one (by exact e_var 2))) ⟨hf1, hrow r (List.mem_of_getElem? hx)⟩) ?_
    cases hj : joinedTwo f r with
    | some g =>
      refine d_no (k := false) (by exact b_isN (d := R g) (e_var 1) nn_pair) rfl (d_nil ⟨g, ⟨by rw [hnext, hj], by omega⟩, .same ⟨rfl, trivial⟩⟩)
    | none =>
      refine d_if (k := true) (by exact b_isN1 (e_var 1)) (fun _ => ?_) fun hk => by cases hk
      refine d_ret (d := R ()) (by exact e_none) ⟨[], ?_, .same trivial⟩
      show R () = R (joinedRests rows)
      have e : joinedRests rows = none := by
        have := List.take_append_drop (i + 1) rows
        rw [← this]
        unfold joinedRests
        rw [List.foldl_append]
        have e2 : (rows.take (i + 1)).foldl (fun f r => f.bind fun x => joinedTwo x r) (some (0, 1)) = none := hnext.trans hj
        rw [e2]
        exact joined_none _
      rw [e]
      rfl
  · rw [List.take_length] at hf
    refine d_ret (d := R f) (by exact e_var 1) ⟨[], ?_, .same trivial⟩
    show R f = R (joinedRests rows)
    rw [hf]
    rfl
end
end Bh
/-! V15: again. -/
namespace Bh
open PySem PySem.Spec PyProof.Rows L2
abbrev SpL := List (Int × (Int × Int))
def rowSp (x : Int × List Int) : SpL := (enF 0 x.2).map fun y => (y.2, (x.1, y.1))
def circL (cs : List (List Int)) : SpL := (enF 0 cs).flatMap rowSp
def kvsOf (l : SpL) : List (Int × D) := l.foldl (fun kv x => putI kv x.1 (R x.2)) []
def spotIn (l : SpL) (p : Int) : Int × Int := l.foldl (fun o x => if x.1 = p then x.2 else o) (0, 0)
theorem kvs_snoc (l : SpL) (x : Int × (Int × Int)) : kvsOf (l ++ [x]) = putI (kvsOf l) x.1 (R x.2) := by unfold kvsOf; rw [List.foldl_append]; rfl
theorem spotIn_snoc (l : SpL) (x : Int × (Int × Int)) (p : Int) : spotIn (l ++ [x]) p = if x.1 = p then x.2 else spotIn l p := by unfold spotIn; rw [List.foldl_append]; rfl
theorem snoc_ind {α : Type} {P : List α → Prop} (h0 : P []) (h1 : ∀ l x, P l → P (l ++ [x])) : ∀ l, P l := fun l => by
  rw [← List.reverse_reverse l]
  induction l.reverse with
  | nil => exact h0
  | cons x l ih => rw [List.reverse_cons]; exact h1 _ _ ih
theorem kvs_len (l : SpL) : (kvsOf l).length ≤ l.length := by
  refine snoc_ind (P := fun l => (kvsOf l).length ≤ l.length) (Nat.le_refl _) (fun l x ih => ?_) l
  rw [kvs_snoc, List.length_append, List.length_singleton]
  have := putI_len (kvsOf l) x.1 (R x.2)
  omega
theorem kvs_get {l : SpL} {p : Int} (h : p ∈ l.map (·.1)) : getI (kvsOf l) p = some (R (spotIn l p)) ∧ (p, spotIn l p) ∈ l := by
  refine snoc_ind (P := fun l => p ∈ l.map (·.1) → getI (kvsOf l) p = some (R (spotIn l p)) ∧ (p, spotIn l p) ∈ l) (fun h => nomatch h) (fun l x ih h => ?_) l h
  rw [kvs_snoc, spotIn_snoc, getI_put]
  by_cases hp : x.1 = p
  · rw [if_pos hp.symm, if_pos hp]
    refine ⟨rfl, List.mem_append_right _ (List.mem_singleton.mpr ?_)⟩
    rw [← hp]
  · rw [if_neg (fun z => hp z.symm), if_neg hp]
    rw [List.map_append] at h
    rcases List.mem_append.mp h with h | h
    · obtain ⟨h1, h2⟩ := ih h
      exact ⟨h1, List.mem_append_left _ h2⟩
    · rw [List.map_cons, List.map_nil, List.mem_singleton] at h
      exact absurd h.symm hp
theorem circ_keys (cs : List (List Int)) : (circL cs).map (·.1) = cs.flatten := by
  have key : ∀ (k : Int) (cs : List (List Int)), ((enF k cs).flatMap rowSp).map (·.1) = cs.flatten := fun k cs => by
    induction cs generalizing k with
    | nil => rfl
    | cons c cs ih =>
      rw [enF, List.flatMap_cons, List.map_append, ih, List.flatten_cons]
      congr 1
      unfold rowSp
      rw [List.map_map]
      exact enF_snd 0 c
  exact key 0 cs
theorem circ_mem {cs : List (List Int)} {p : Int} {x : Int × Int} (h : (p, x) ∈ circL cs) : ∃ c, cs[x.1.toNat]? = some c ∧ 0 ≤ x.1 ∧ 0 ≤ x.2 ∧ x.2 < c.length := by
  obtain ⟨y, hy, h2⟩ := List.mem_flatMap.mp h
  obtain ⟨i, hi⟩ := List.getElem?_of_mem hy
  obtain ⟨h3, h4⟩ := enF_get hi
  obtain ⟨z, hz, e⟩ := List.mem_map.mp h2
  obtain ⟨j, hj⟩ := List.getElem?_of_mem hz
  obtain ⟨h5, h6⟩ := enF_get hj
  have hjl := (List.getElem?_eq_some_iff.mp h6).1
  cases e
  refine ⟨y.2, ?_, ?_, ?_, ?_⟩
  · rw [show (y.1).toNat = i by omega]; exact h4
  · show 0 ≤ y.1; omega
  · show 0 ≤ z.1; omega
  · show z.1 < _; omega
def stepOf (cs : List (List Int)) (n : Int) : Int := ((cs.getD n.toNat []).length : Int)
def turnsTo (cs : List (List Int)) (p b : Int) : Option (Int × Int) := if (spotIn (circL cs) p).1 = (spotIn (circL cs) b).1 then some (((spotIn (circL cs) b).2 - (spotIn (circL cs) p).2) % stepOf cs (spotIn (circL cs) p).1, stepOf cs (spotIn (circL cs) p).1) else none
def turnsRows (cs : List (List Int)) (o : List Int) : List (Option (Int × Int)) := (enF 0 o).map fun x => turnsTo cs x.1 x.2
def turnsFor (cs : List (List Int)) (o : List Int) : Option (Int × Int) := if (turnsRows cs o).any (·.isNone) then none else joinedRests ((turnsRows cs o).filterMap id)
def tickOf (c : Clk) (s : Sight) : Option Int := (turnsFor (cyclesOf (turnRow c)) (queueOf c s)).map fun f => (ticksPast c s).1 + f.1 * turnOf c.2
/-- the cycles of a small clock -/
structure CsOk (n : Nat) (cs : List (List Int)) : Prop where
  perm : PermN cs.flatten n
  ne : ∀ c ∈ cs, c ≠ []
  n : n ≤ 12
theorem CsOk.at {n : Nat} {cs : List (List Int)} (h : CsOk n cs) {p : Int} (hp : 0 ≤ p ∧ p < n) : ∃ c, getI (kvsOf (circL cs)) p = some (R (spotIn (circL cs) p)) ∧ cs[(spotIn (circL cs) p).1.toNat]? = some c ∧ 0 ≤ (spotIn (circL cs) p).1 ∧ 1 ≤ c.length ∧ c.length ≤ 12 := by
  have hm : p ∈ (circL cs).map (·.1) := by rw [circ_keys]; exact h.perm.mem.mpr hp
  obtain ⟨h1, h2⟩ := kvs_get hm
  obtain ⟨c, h3, h4, h5, h6⟩ := circ_mem h2
  refine ⟨c, h1, h3, h4, by omega, ?_⟩
  have := row_le (s := cs) (List.mem_of_getElem? h3)
  have := h.perm.len
  have := h.n
  omega
theorem turnsTo_row {n : Nat} {cs : List (List Int)} (h : CsOk n cs) {p b : Int} (hp : 0 ≤ p ∧ p < n) {r : Int × Int} (hr : turnsTo cs p b = some r) : RowR r := by
  obtain ⟨c, _, h2, _, h4, h5⟩ := h.at hp
  unfold turnsTo at hr
  split at hr
  · cases hr
    have e : cs.getD (spotIn (circL cs) p).1.toNat [] = c := by rw [List.getD_eq_getElem?_getD, h2]; rfl
    show 1 ≤ stepOf _ _ ∧ stepOf _ _ ≤ 100
    unfold stepOf
    rw [e]
    omega
  · cases hr
theorem cs_clock {c : Clk} (hc : ClkS c) : CsOk c.1.toNat (cyclesOf (turnRow c)) := by
  obtain ⟨h1, h2⟩ := cycles_perm (turnRow_perm hc.toClkOk)
  exact ⟨h1, h2, by have := hc.sm12; omega⟩
theorem turns_rows {c : Clk} (hc : ClkS c) {o : List Int} (ho : OrderOk c o) : ∀ r ∈ (turnsRows (cyclesOf (turnRow c)) o).filterMap id, RowR r := fun r hr => by
  obtain ⟨x, hx, hxr⟩ := List.mem_filterMap.mp hr
  obtain ⟨y, hy, rfl⟩ := List.mem_map.mp hx
  obtain ⟨i, hi⟩ := List.getElem?_of_mem hy
  obtain ⟨h1, h2⟩ := enF_get hi
  have hl := (List.getElem?_eq_some_iff.mp h2).1
  have := ho.cnt
  exact turnsTo_row (cs_clock hc) (by omega) hxr
theorem tick_nn {c : Clk} (hc : ClkS c) {s : Sight} (hs : SightOk c s) {t : Int × Int} (h : turnsFor (cyclesOf (turnRow c)) (queueOf c s) = some t) : 0 ≤ t.1 ∧ t.1 < 100 ^ 12 := by
  unfold turnsFor at h
  split at h
  · cases h
  · have ho := queue_ok hc hs
    have hr := turns_rows hc ho
    have hl : ((turnsRows (cyclesOf (turnRow c)) (queueOf c s)).filterMap id).length ≤ 12 := by
      refine Nat.le_trans (List.length_filterMap_le _ _) ?_
      unfold turnsRows
      rw [List.length_map, enF_len]
      have := ho.cnt
      have := hc.sm12
      omega
    generalize (turnsRows (cyclesOf (turnRow c)) (queueOf c s)).filterMap id = rows at *
    have := joined_take hr (i := rows.length) (f := t) (Nat.le_refl _) (by rw [List.take_length]; exact h)
    have h2 : (100 : Int) ^ rows.length ≤ 100 ^ 12 := by
      have h3 : (100 : Nat) ^ rows.length ≤ 100 ^ 12 := Nat.pow_le_pow_right (by decide) hl
      have e1 : ((100 ^ rows.length : Nat) : Int) = 100 ^ rows.length := by simp
      have e2 : ((100 ^ 12 : Nat) : Int) = 100 ^ 12 := by simp
      omega
    omega
def circF (cs : List (List Int)) : List (Str × D) := [("kept_cycles", R cs), ("kept_spots", dD (kvsOf (circL cs)))]
structure CircAt (K : PySem.W.Frag) (mg : Str → Option Value) (C : Addr) : Prop where
  init : AtC K mg "Circles" C "Circles.__init__" (clM 74 0) ["self", "clock"]
  turns : AtM K C "turns_to" "Circles.turns_to" (clM 74 3) ["self", "place", "ball"]
  for_ : AtM K C "turns_for" "Circles.turns_for" (clM 74 4) ["self", "order"]
  n1 : NoAttr K C "kept_cycles"
  n2 : NoAttr K C "kept_spots"
section
variable {P : Program} {w : World} {K : PySem.W.Frag} {mg : Str → Option Value} {base : Heap} {C : Addr}
def spCircInit (C : Addr) : Spec (Addr × Clk) := { args := fun a => [dAt a.1, R a.2], ms := fun a => [(a.1, mI C [])], pre := fun a => ClkS a.2, post := fun a d m => d = R () ∧ m = [(a.1, mI C (circF (cyclesOf (turnRow a.2))))] }
abbrev N740 : List Str := ["self", "clock", "number", "cycle", "spot", "place"]
theorem sc740 : FnScope N740 ["self", "clock"] (defScope (clM 74 0)) := ⟨rfl, rfl, rfl, by decide +kernel, rfl, by decide +kernel, by decide +kernel⟩
theorem ok_circ_init (T : Tx K mg) (a : CircAt K mg C) (h1 : Has P w K mg base "turn_row" 25 spTurnRow) (h2 : Has P w K mg base "row_cycles" 1 spCycles) : HasC P w K mg base "Circles" C 26 (spCircInit C) := hasC_of a.init fun f fd F => by
  refine fn_ok (spCircInit C) F sc740 (fun _ => rfl) fun ⟨q, c⟩ hc cdv A outer s H E hr => ?_
  have hc : ClkS c := hc
  have hcs := cs_clock hc
  have hfl := hcs.perm.len
  have h12 := hcs.n
  refine d_setF (q := q) (C := C) 0 a.init.c a.n1 (i_pure (d := R (cyclesOf (turnRow c))) (by exact e_call h2 (hr.mono (by decide)) (turnRow c) rfl (fun _ _ h => h) (a_one (by exact e_call h1 hr c rfl (fun _ _ h => h) (a_one (by exact e_var 1)) hc)) (turnRow_pm hc)) ⟨[], by exact e_var 0, rfl, by decide, ?_⟩)
  refine d_setF (q := q) (C := C) 1 a.init.c a.n2 (i_dnew fun dq => ⟨_, by exact e_var 0, rfl, (by show 1 < 1000; decide), ?_⟩)
  have hpost : (spCircInit C).post (q, c) = fun d m => d = R () ∧ m = [(q, mI C (circF (cyclesOf (turnRow c))))] := rfl
  generalize cyclesOf (turnRow c) = cs at *
  refine d_for (enF 0 cs) (fun x => [(3, R x.2), (2, R x.1)]) (fun _ (_ : Unit) => True) (fun _ _ => [(0, dAt q)]) (fun i _ => [(dq, mD (kvsOf (((enF 0 cs).take i).flatMap rowSp))), (q, mI C [("kept_cycles", R cs), ("kept_spots", dAt dq)])]) rfl (wk_enum T.enumerate (by exact e_fld (q := q) (fs := [("kept_cycles", R cs), ("kept_spots", dAt dq)]) a.init.c (by exact e_var 0) (.s .h0) rfl a.n1)) (fun x => g_pair rfl (g_name 2 sc740.nd) (g_name 3 sc740.nd)) ⟨(), trivial, .same ⟨rfl, trivial⟩⟩ (fun i _ x hx _ => ?_) fun _ _ => ?_
  · refine d_for (enF 0 x.2) (fun y => [(5, R y.2), (4, R y.1)]) (fun _ (_ : Unit) => True) (fun _ _ => [(0, dAt q), (2, R x.1), (3, R x.2)]) (fun j _ => [(dq, mD (kvsOf (((enF 0 cs).take i).flatMap rowSp ++ (rowSp x).take j))), (q, mI C [("kept_cycles", R cs), ("kept_spots", dAt dq)])]) rfl (wk_enum T.enumerate (by exact e_var 3)) (fun y => g_pair rfl (g_name 4 sc740.nd) (g_name 5 sc740.nd)) ⟨(), trivial, ?_⟩ (fun j _ y hy _ => ?_) fun _ _ => ?_
    · rw [List.take_zero, List.append_nil]
      exact .same ⟨rfl, rfl, rfl, trivial⟩
    · have hrow : (rowSp x)[j]? = some (y.2, (x.1, y.1)) := by
        unfold rowSp
        rw [List.getElem?_map, hy]
        rfl
      have hlen : (((enF 0 cs).take i).flatMap rowSp ++ (rowSp x).take j).length ≤ 12 := by
        have e1 : (circL cs).length = cs.flatten.length := by rw [← circ_keys, List.length_map]
        have e2 : circL cs = ((enF 0 cs).take i).flatMap rowSp ++ (rowSp x ++ ((enF 0 cs).drop (i + 1)).flatMap rowSp) := by
          unfold circL
          have hd := List.take_append_drop i (enF 0 cs)
          have hdr : (enF 0 cs).drop i = x :: (enF 0 cs).drop (i + 1) := by
            obtain ⟨hil, he⟩ := List.getElem?_eq_some_iff.mp hx
            rw [List.drop_eq_getElem_cons hil, he]
          rw [hdr] at hd
          conv => lhs; rw [← hd]
          rw [List.flatMap_append, List.flatMap_cons]
        rw [e2, List.length_append, List.length_append] at e1
        rw [List.length_append, List.length_take]
        omega
      have hkl := kvs_len (((enF 0 cs).take i).flatMap rowSp ++ (rowSp x).take j)
      refine d_put 0 (hu1 hr) (i_pure (d := R (x.1, y.1)) (by exact e_pair (e_var 2) (e_var 4)) ⟨_, y.2, by exact e_fld (q := q) (fs := [("kept_cycles", R cs), ("kept_spots", dAt dq)]) a.init.c (by exact e_var 0) (.s .h0) rfl a.n2, by exact e_var 5, rfl, by omega, d_nil ⟨(), trivial, ?_⟩⟩)
      rw [take_snoc hrow, ← List.append_assoc, kvs_snoc]
      exact .same ⟨rfl, rfl, rfl, trivial⟩
    · have hrl : (rowSp x).length = (enF 0 x.2).length := List.length_map _
      refine d_nil ⟨(), trivial, ?_⟩
      rw [take_snoc hx, List.flatMap_append, ← hrl, List.take_length]
      have e3 : ([x] : List (Int × List Int)).flatMap rowSp = rowSp x := by simp
      rw [e3]
      exact .same ⟨rfl, trivial⟩
  · rw [List.take_length]
    refine d_to (ms' := [(q, mI C (circF cs))]) (To.frz fun G o u g1 g2 g3 => ?_) (d_nil ⟨_, by rw [hpost]; exact ⟨rfl, rfl⟩, .same trivial⟩)
    obtain ⟨m, rfl, hm⟩ := g2
    obtain ⟨dx, vs, h5, h6⟩ := g3
    refine ⟨dx, vs, h5, ?_⟩
    match vs, h6 with
    | [x1, x2], h6 => exact ⟨h6.1, ⟨h6.2.1.1, dq, m, h6.2.1.2, g1, hm⟩, trivial⟩
structure TtA where
  n : Nat
  cs : List (List Int)
  p : Int
  b : Int
def spTurnsTo (C : Addr) : Spec TtA := { args := fun a => [dI C (circF a.cs), R a.p, R a.b], pre := fun a => CsOk a.n a.cs ∧ (0 ≤ a.p ∧ a.p < a.n) ∧ (0 ≤ a.b ∧ a.b < a.n), post := fun a d _ => d = R (turnsTo a.cs a.p a.b) }
abbrev N743 : List Str := ["self", "place", "ball", "number", "spot", "other", "goal", "step"]
theorem sc743 : FnScope N743 ["self", "place", "ball"] (defScope (clM 74 3)) := ⟨rfl, rfl, rfl, by decide +kernel, rfl, by decide +kernel, by decide +kernel⟩
theorem ok_turns_to (T : Tx K mg) (a : CircAt K mg C) : HasM P w K mg base C "turns_to" 1 (spTurnsTo C) := hasM_of a.turns fun f fd F => by
  refine fn_ok (spTurnsTo C) F sc743 (fun _ => rfl) fun ⟨n, cs, p, b⟩ ⟨hcs, hp, hb⟩ cdv A outer s H E hr => ?_
  have hcs : CsOk n cs := hcs
  obtain ⟨c1, p1, p2, p3, p4, p5⟩ := hcs.at hp
  obtain ⟨c2, b1, b2, b3, b4, b5⟩ := hcs.at hb
  have hpost : (spTurnsTo C).post ⟨n, cs, p, b⟩ = fun d _ => d = R (if (spotIn (circL cs) p).1 = (spotIn (circL cs) b).1 then some (((spotIn (circL cs) b).2 - (spotIn (circL cs) p).2) % stepOf cs (spotIn (circL cs) p).1, stepOf cs (spotIn (circL cs) p).1) else none) := rfl
  have hst : stepOf cs (spotIn (circL cs) p).1 = (c1.length : Int) := by
    unfold stepOf
    rw [List.getD_eq_getElem?_getD, p2]
    rfl
  have l1 : (circF cs).lookup ("kept_spots" : Str) = some (dD (kvsOf (circL cs))) := rfl
  have l2 : (circF cs).lookup ("kept_cycles" : Str) = some (R cs) := rfl
  rw [hst] at hpost
  refine d_asg (d := R (spotIn (circL cs) p)) (by exact e_getD (hu1 hr) (rd_R (e_fldI a.turns.c (e_var 0) l1 a.n2)) (e_var 1) p1) (g_pair (x := spotIn (circL cs) p) rfl (g_name 3 sc743.nd) (g_name 4 sc743.nd)) ?_
  refine d_asg (d := R (spotIn (circL cs) b)) (by exact e_getD (hu1 hr) (rd_R (e_fldI a.turns.c (e_var 0) l1 a.n2)) (e_var 2) b1) (g_pair (x := spotIn (circL cs) b) rfl (g_name 5 sc743.nd) (g_name 6 sc743.nd)) ?_
  generalize spotIn (circL cs) p = sp at *
  generalize spotIn (circL cs) b = sb at *
  refine d_if (k := !decide (sp.1 = sb.1)) (by exact b_neS (e_var 3) (e_var 5)) (fun hk => ?_) fun hk => d_nil ?_
  · have hk : ¬ sp.1 = sb.1 := by simpa using hk
    refine d_ret (d := R ()) (by exact e_none) ⟨[], ?_, .same trivial⟩
    rw [hpost, if_neg hk]
    rfl
  have hk : sp.1 = sb.1 := by simpa using hk
  refine d_set (d := R (c1.length : Int)) 7 sc743.nd (by exact e_lenR T.len (r_R (xs := c1) (e_item (xs := cs) (r_R (e_fldI a.turns.c (e_var 0) l2 a.n1)) (e_var 3) (atI_nat' p3 p2)))) ?_
  refine d_ret (d := R ((sb.2 - sp.2) % (c1.length : Int), (c1.length : Int))) (by exact e_pair (e_mod (e_sub (e_var 6) (e_var 4)) (e_var 7) (by omega)) (e_var 7)) ⟨[], ?_, .same trivial⟩
  rw [hpost, if_pos hk]
  rfl
structure TfA where
  c : Clk
  o : List Int
def spTurnsFor (C : Addr) : Spec TfA := { args := fun a => [dI C (circF (cyclesOf (turnRow a.c))), R a.o], pre := fun a => ClkS a.c ∧ OrderOk a.c a.o, post := fun a d _ => d = R (turnsFor (cyclesOf (turnRow a.c)) a.o) }
abbrev N744 : List Str := ["self", "order", "rows", "place", "ball"]
theorem sc744 : FnScope N744 ["self", "order"] (defScope (clM 74 4)) := ⟨rfl, rfl, rfl, by decide +kernel, rfl, by decide +kernel, by decide +kernel⟩
theorem all_some {α : Type} [Rp α] : ∀ {l : List (Option α)}, l.any (·.isNone) = false → l.map (fun x => (R x : D)) = (l.filterMap id).map fun x => R x
  | [], _ => rfl
  | none :: l, h => by cases h
  | some x :: l, h => by
    show R (some x) :: _ = R x :: _
    rw [all_some (l := l) h]
    rfl
theorem ok_turns_for (T : Tx K mg) (a : CircAt K mg C) (h1 : HasM P w K mg base C "turns_to" 1 (spTurnsTo C)) (h2 : Has P w K mg base "joined_rests" 3 spJR) : HasM P w K mg base C "turns_for" 4 (spTurnsFor C) := hasM_of a.for_ fun f fd F => by
  refine fn_ok (spTurnsFor C) F sc744 (fun _ => rfl) fun ⟨c, o⟩ ⟨hc, ho⟩ cdv A outer s H E hr => ?_
  have hc : ClkS c := hc
  have ho : OrderOk c o := ho
  have hcs := cs_clock hc
  have hrw := turns_rows hc ho
  have hcnt := ho.cnt
  have h12 := hc.sm12
  have hpost : (spTurnsFor C).post ⟨c, o⟩ = fun d _ => d = R (if (turnsRows (cyclesOf (turnRow c)) o).any (·.isNone) then none else joinedRests ((turnsRows (cyclesOf (turnRow c)) o).filterMap id)) := rfl
  refine d_lcR 2 [("ball", 4), ("place", 3)] (enF 0 o) (fun x => [(4, R x.2), (3, R x.1)]) (fun x => turnsTo (cyclesOf (turnRow c)) x.1 x.2) rfl sc744.nd (wk_enum T.enumerate (by exact e_var 1)) (blkOk_by (N := N744) (sc := defScope (clM 74 4)) (by decide +kernel)) (by rw [enF_len]; omega) (fun _ _ _ _ _ x => g_pair rfl (g_name 3 sc744.nd) (g_name 4 sc744.nd)) (fun s0 H0 C1 cl fp qq cc x hx => ?_) ?_
  · obtain ⟨i, hi⟩ := List.getElem?_of_mem hx
    obtain ⟨x1, x2⟩ := enF_get hi
    have hil := (List.getElem?_eq_some_iff.mp x2).1
    have hb := ho.ball x.2 (List.mem_of_getElem? x2)
    exact e_methI (S := spTurnsTo C) (fs := circF (cyclesOf (turnRow c))) (dl := [R x.1, R x.2]) h1 (hr.mono (by decide)) (by exact e_var 0) rfl ⟨c.1.toNat, cyclesOf (turnRow c), x.1, x.2⟩ rfl (fun _ _ h => h) rfl (a_cons (by exact e_var 3) (a_one (by exact e_var 4))) ⟨hcs, by (show 0 ≤ x.1 ∧ x.1 < ((c.1.toNat : Nat) : Int); omega), by (show 0 ≤ x.2 ∧ x.2 < ((c.1.toNat : Nat) : Int); omega)⟩
  · show DS _ ((2, R (turnsRows (cyclesOf (turnRow c)) o)) :: _) _ _ _
    generalize turnsRows (cyclesOf (turnRow c)) o = rows at *
    refine d_ret (d := R (if rows.any (·.isNone) then none else joinedRests (rows.filterMap id))) (e_if (k := rows.any (·.isNone)) (by exact b_noneIn (xs := rows) (hu65 hr) e_none (e_var 2) rfl) (fun hk => by rw [if_pos hk]; exact e_none) fun hk => by rw [if_neg (by rw [hk]; exact Bool.false_ne_true)]; exact e_call h2 hr (rows.filterMap id) rfl (fun _ _ h => h) (a_one (e_eq (e_var 2) (by show dL _ = dL _; rw [all_some hk]))) hrw) ⟨[], by rw [hpost], .same trivial⟩
def spTickOf : Spec (Clk × Sight) := { args := fun x => [R x.1, R x.2], pre := fun x => ClkS x.1 ∧ SightOk x.1 x.2, post := fun x d _ => d = R (tickOf x.1 x.2) }
abbrev s77 : Stmt := top 77
theorem sc77 : FnScope ["clock", "sight", "found"] ["clock", "sight"] (defScope s77) := ⟨rfl, rfl, rfl, by decide +kernel, rfl, by decide +kernel, by decide +kernel⟩
theorem ok_tick_of (a : At K mg "tick_of" s77 ["clock", "sight"]) (h1 : Has P w K mg base "require_clock" 5 spReqClock) (h2 : Has P w K mg base "require_sight" 5 spReqSight) (h3 : HasC P w K mg base "Circles" C 26 (spCircInit C)) (h4 : HasM P w K mg base C "turns_for" 4 (spTurnsFor C)) (h5 : Has P w K mg base "queue_of" 26 spQueueOf) (h6 : Has P w K mg base "ticks_past" 1 spPast) (h7 : Has P w K mg base "turn_of" 1 spTurn) : Has P w K mg base "tick_of" 28 spTickOf := has_of a fun f fd F => by
  refine fn_ok spTickOf F sc77 (fun _ => rfl) fun ⟨c, sg⟩ ⟨hc, hs⟩ cdv A outer s H E hr => ?_
  have hc : ClkS c := hc
  have hs : SightOk c sg := hs
  have ht := hc.turn
  refine d_expr (i_pure (by exact e_call h1 (hr.mono (by decide)) c rfl (fun _ _ h => h) (a_one (by exact e_var 0)) hc.toClkOk) ?_)
  refine d_expr (i_pure (by exact e_call h2 (hr.mono (by decide)) (c, sg) rfl (fun _ _ h => h) (a_cons (by exact e_var 0) (a_one (by exact e_var 1))) ⟨hc.toClkOk, hs⟩) ?_)
  refine d_setI 2 sc77.nd (i_methJ (S := spTurnsFor C) h4 (hr.mono (by decide)) (i_frz (i_make (S := spCircInit C) h3 hr (K := fun d m => ∃ q, d = dAt q ∧ m = [(q, mI C (circF (cyclesOf (turnRow c))))]) (ai_pure (dl := [R c]) (by exact a_one (by exact e_var 0)) fun q => ⟨(q, c), [], rfl, .refl _, hc, fun d m2 hd => ⟨hd.1, q, rfl, by rw [hd.2]; rfl⟩⟩)) fun d m ⟨q, e1, e2⟩ => ⟨q, _, dI C (circF (cyclesOf (turnRow c))), [], e1, e2, fun G o g1 g2 => frz_I g1 g2, circF (cyclesOf (turnRow c)), rfl, rfl, ai_pure (dl := [R (queueOf c sg)]) (a_one (by exact e_call h5 (hr.mono (by decide)) (c, sg) rfl (fun _ _ h => h) (a_cons (by exact e_var 0) (a_one (by exact e_var 1))) ⟨hc, hs⟩)) ⟨⟨c, queueOf c sg⟩, [], rfl, .refl _, ⟨hc, queue_ok hc hs⟩, fun d m2 hd => ⟨[], To.less (List.nil_sublist _), ?_⟩⟩⟩))
  have hd : d = R (turnsFor (cyclesOf (turnRow c)) (queueOf c sg)) := hd
  subst hd
  have hpost : spTickOf.post (c, sg) = fun d _ => d = R ((turnsFor (cyclesOf (turnRow c)) (queueOf c sg)).map fun f => (ticksPast c sg).1 + f.1 * turnOf c.2) := rfl
  cases hf : turnsFor (cyclesOf (turnRow c)) (queueOf c sg) with
  | none =>
    rw [hf] at hpost
    refine d_ret (d := R ()) (e_if (k := false) (by exact b_isnN1 (e_var 2)) (fun h => by cases h) fun _ => by exact e_none) ⟨[], by rw [hpost]; rfl, .same trivial⟩
  | some t =>
    rw [hf] at hpost
    refine d_ret (d := R ((ticksPast c sg).1 + t.1 * turnOf c.2)) (e_if (k := true) (by exact b_isnN (d := R t) (e_var 2) nn_pair) (fun _ => by exact e_add (e_call h6 (hr.mono (by decide)) (c, sg) rfl (fun _ _ h => h) (a_cons (by exact e_var 0) (a_one (by exact e_var 1))) ⟨hc, hs⟩) (e_mul (e_fst (x := t) (e_var 2) e_int) (e_call h7 (hr.mono (by decide)) c rfl (fun _ _ h => h) (a_one (by exact e_var 0)) hc.toClkOk) (.inr (by omega)))) fun h => by cases h) ⟨[], by rw [hpost]; rfl, .same trivial⟩
/-! queue_period -/
def periodOf (c : Clk) : Int := (cyclesOf (turnRow c)).foldl (fun a y => lcmI a (y.length : Int)) 1
def spPeriod : Spec Clk := { args := fun x => [R x], pre := ClkS, post := fun x d _ => d = R (periodOf x) }
abbrev s75 : Stmt := top 75
theorem sc75 : FnScope ["clock", "found", "cycle"] ["clock"] (defScope s75) := ⟨rfl, rfl, rfl, by decide +kernel, rfl, by decide +kernel, by decide +kernel⟩
theorem lcm_pos {a b : Int} (h : 1 ≤ a) (h2 : 1 ≤ b) : 1 ≤ lcmI a b := by
  unfold lcmI
  have := quot_pos' (a := a) (b := b) (by omega) (by omega)
  have := Int.mul_pos this (show 0 < b by omega)
  omega
theorem ok_queue_period (T : Tx K mg) (a : At K mg "queue_period" s75 ["clock"]) (h1 : Has P w K mg base "turn_row" 25 spTurnRow) (h2 : Has P w K mg base "row_cycles" 1 spCycles) (h3 : Has P w K mg base "common_multiple" 2 spLcm) : Has P w K mg base "queue_period" 26 spPeriod := has_of a fun f fd F => by
  refine fn_ok spPeriod F sc75 (fun _ => rfl) fun c hc cdv A outer s H E hr => ?_
  have hc : ClkS c := hc
  have hcs := cs_clock hc
  have hfl := hcs.perm.len
  have h12 := hcs.n
  refine d_set (d := R (1 : Int)) 1 sc75.nd (by exact e_int) ?_
  refine d_for (cyclesOf (turnRow c)) (fun x => [(2, R x)]) (fun i (f : Int) => 1 ≤ f ∧ f = ((cyclesOf (turnRow c)).take i).foldl (fun a y => lcmI a (y.length : Int)) 1) (fun _ f => [(1, R f)]) (fun _ _ => []) rfl (wk_R (by exact e_call h2 (hr.mono (by decide)) (turnRow c) rfl (fun _ _ h => h) (a_one (by exact e_call h1 hr c rfl (fun _ _ h => h) (a_one (by exact e_var 0)) hc)) (turnRow_pm hc))) (fun x => g_name 2 sc75.nd) ⟨1, ⟨Int.le_refl _, rfl⟩, .same ⟨rfl, trivial⟩⟩ (fun i f y hy ⟨hf1, hf2⟩ => ?_) fun f ⟨_, hf2⟩ => ?_
  · have hym := List.mem_of_getElem? hy
    have hyl := row_le (s := cyclesOf (turnRow c)) hym
    have hyn : y.length ≠ 0 := fun e => hcs.ne y hym (List.length_eq_zero_iff.mp e)
    refine d_set (d := R (lcmI f (y.length : Int))) 1 sc75.nd (by exact e_call h3 (hr.mono (by decide)) (f, (y.length : Int)) rfl (fun _ _ h => h) (a_cons (by exact e_var 1) (a_one (by exact e_lenR T.len (r_R (xs := y) (e_var 2))))) ⟨hf1, by (show 1 ≤ (y.length : Int); omega), by (show (y.length : Int) ≤ 100; omega)⟩) (d_nil ⟨lcmI f (y.length : Int), ⟨lcm_pos hf1 (by omega), ?_⟩, .same ⟨rfl, trivial⟩⟩)
    rw [take_snoc hy, List.foldl_append, ← hf2]
    rfl
  · refine d_ret (d := R f) (by exact e_var 1) ⟨[], ?_, .same trivial⟩
    rw [hf2, List.take_length]
    rfl
end
end Bh
/-! V16: live. -/
namespace Bh
open PySem PySem.Spec PyProof.Rows L2
inductive Cal where
  | run (n : Int)
  | swap (a b : Int)
  deriving DecidableEq
structure Ent where
  call : Cal
  sight : Sight
  t : Int
  deriving DecidableEq
instance : Rp Cal := ⟨fun c => match c with | .run n => dT [R ("run" : Str), R n] | .swap a b => dT [R ("swap" : Str), R a, R b]⟩
instance : Rp Ent := ⟨fun e => dT [R e.call, R e.sight, R e.t]⟩
def pyCal : Cal → PyData
  | .run n => .tuple [.str "run", .int n]
  | .swap a b => .tuple [.str "swap", .int a, .int b]
instance : Pd Cal := ⟨pyCal, fun K x G v h => by
  cases x with
  | run n =>
    obtain ⟨a, vs, h1, h2, h3⟩ := h
    rw [h1]
    match vs, h3 with
    | [u1, u2], h => exact .tup (SqT.of h2) (.cons (Pd.dp K ("run" : Str) _ _ h.1) (.cons (Pd.dp K n _ _ h.2.1) .nil))
  | swap x y =>
    obtain ⟨a, vs, h1, h2, h3⟩ := h
    rw [h1]
    match vs, h3 with
    | [u1, u2, u3], h => exact .tup (SqT.of h2) (.cons (Pd.dp K ("swap" : Str) _ _ h.1) (.cons (Pd.dp K x _ _ h.2.1) (.cons (Pd.dp K y _ _ h.2.2.1) .nil))), 1, fun x => by cases x <;> exact Nat.le_refl _, fun x y => by
  cases x with
  | run n =>
    cases y with
    | run m =>
      show ((("run" : Str) == "run") && ((n == m) && true)) = true ↔ _
      rw [beq_self_eq_true, Bool.true_and, Bool.and_true, beq_iff_eq, Cal.run.injEq]
    | swap a b =>
      show (((("run" : Str) == "swap") && ((n == a) && false)) = true) ↔ _
      rw [Bool.and_false, Bool.and_false]
      exact ⟨fun h => (by cases h), fun h => (by cases h)⟩
  | swap c d =>
    cases y with
    | run m =>
      show (((("swap" : Str) == "run") && ((c == m) && false)) = true) ↔ _
      rw [Bool.and_false, Bool.and_false]
      exact ⟨fun h => (by cases h), fun h => (by cases h)⟩
    | swap a b =>
      show ((("swap" : Str) == "swap") && ((c == a) && ((d == b) && true))) = true ↔ _
      rw [beq_self_eq_true, Bool.true_and, Bool.and_true, Bool.and_eq_true, beq_iff_eq, beq_iff_eq, Cal.swap.injEq]⟩
instance : Py0 Cal := ⟨fun x => by
  cases x with
  | run n => show ((PyData.str "run").canLay0 && (true && true)) = true; decide +kernel
  | swap a b => show ((PyData.str "swap").canLay0 && (true && (true && true))) = true; decide +kernel⟩
instance : Pd Ent := ⟨fun e => .tuple [Pd.py e.call, Pd.py e.sight, Pd.py e.t], fun K x G v ⟨a, vs, h1, h2, h3⟩ => by
  rw [h1]
  match vs, h3 with
  | [u1, u2, u3], h => exact .tup (SqT.of h2) (.cons (Pd.dp K x.call _ _ h.1) (.cons (Pd.dp K x.sight _ _ h.2.1) (.cons (Pd.dp K x.t _ _ h.2.2.1) .nil))), 3, fun x => by
  show max (Pd.py x.call).depth (max (Pd.py x.sight).depth (max (Pd.py x.t).depth 0)) + 1 ≤ _
  have h1 := Pd.dpt x.call
  have h2 := Pd.dpt x.sight
  have h3 := Pd.dpt x.t
  have n1 : Pd.n Cal = 1 := rfl
  have n2 : Pd.n Sight = 2 := rfl
  have n3 : Pd.n Int = 0 := rfl
  omega, fun ⟨x1, x2, x3⟩ ⟨y1, y2, y3⟩ => by
  show (PyData.eqv (Pd.py x1) (Pd.py y1) && (PyData.eqv (Pd.py x2) (Pd.py y2) && (PyData.eqv (Pd.py x3) (Pd.py y3) && true))) = true ↔ _
  rw [Bool.and_true, Bool.and_eq_true, Bool.and_eq_true, Pd.eq, Pd.eq, Pd.eq, Ent.mk.injEq]⟩
instance : Py0 Ent := ⟨fun x => by
  show ((Pd.py x.call).canLay0 && ((Pd.py x.sight).canLay0 && ((Pd.py x.t).canLay0 && true))) = true
  rw [Py0.lay, Py0.lay, Py0.lay]
  rfl⟩
def nowOf (c : Clk) (L : List Ent) : Sight := match L.getLast? with
  | none => firstOf c
  | some e => e.sight
def momOf (L : List Ent) : Int := match L.getLast? with
  | none => 0
  | some e => e.t
def bcF (c : Clk) (L : List Ent) : List (Str × D) := [("kept_clock", R c), ("kept_calls", R L)]
structure LiveAt (K : PySem.W.Frag) (mg : Str → Option Value) (C : Addr) : Prop where
  init : AtC K mg "BallClock" C "BallClock.__init__" (clM 83 0) ["self", "clock"]
  now : AtM K C "sight_now" "BallClock.sight_now" (clM 83 1) ["self"]
  keep : AtM K C "keep" "BallClock.keep" (clM 83 2) ["self", "call", "sight", "ticks"]
  run : AtM K C "run" "BallClock.run" (clM 83 4) ["self", "ticks"]
  swap : AtM K C "swap" "BallClock.swap" (clM 83 5) ["self", "one", "other"]
  sight : ∃ p f fd, FD K "sight" "BallClock.sight" (clM 83 9) f fd ∧ PropOf K C "sight" p f ∧ Binds K fd ["self"] []
  moment : ∃ p f fd, FD K "moment" "BallClock.moment" (clM 83 11) f fd ∧ PropOf K C "moment" p f ∧ Binds K fd ["self"] []
  n1 : NoAttr K C "kept_clock"
  n2 : NoAttr K C "kept_calls"
structure LvA where
  q : Addr
  c : Clk
  L : List Ent
  g : Addr → HO
def lvMs (C : Addr) (a : LvA) : MS := [(a.q, mI C (bcF a.c a.L))]
section
variable {P : Program} {w : World} {K : PySem.W.Frag} {mg : Str → Option Value} {base : Heap} {C : Addr}
def spNow (C : Addr) : Spec LvA := { args := fun a => [dAt a.q], ms := fun a => roMs (lvMs C a) a.g, pre := fun a => ClkOk a.c ∧ a.L.length ≤ 1000, post := fun a d m => d = R (nowOf a.c a.L) ∧ ∃ m1, m = roMs (lvMs C a) a.g ++ m1 }
abbrev N831 : List Str := ["self", "rail"]
theorem sc831 : FnScope N831 ["self"] (defScope (clM 83 1)) := ⟨rfl, rfl, rfl, by decide +kernel, rfl, by decide +kernel, by decide +kernel⟩
theorem last_at {α : Type} {L : List α} {e : α} (h : L.getLast? = some e) : atI L (-1) = some e := by
  obtain ⟨ys, rfl⟩ := List.getLast?_eq_some_iff.mp h
  exact atI_last ys e
theorem last_none {α : Type} {L : List α} (h : L ≠ []) : ∃ e, L.getLast? = some e := ⟨L.getLast h, List.getLast?_eq_some_getLast h⟩
theorem ok_now (T : Tx K mg) (a : LiveAt K mg C) : HasM P w K mg base C "sight_now" 1 (spNow C) := hasM_of a.now fun f fd F => by
  refine fn_ok (spNow C) F sc831 (fun _ => rfl) fun ⟨q, c, L, g⟩ ⟨hc, hL⟩ cdv A outer s H E hr => ?_
  have hc : ClkOk c := hc
  have hl := hc.len_le
  have l1 : (bcF c L).lookup ("kept_clock" : Str) = some (R c) := rfl
  have l2 : (bcF c L).lookup ("kept_calls" : Str) = some (R L) := rfl
  have hI : Inn (roMs (lvMs C ⟨q, c, L, g⟩) g) q (mI C (bcF c L)) := .b0
  refine d_if (k := decide (L = [])) (by exact b_eqD (x := L) (y := []) (hu64 hr) (e_fld a.now.c (e_var 0) hI l2 a.n2) e_nil) (fun hk => ?_) fun hk => d_nil ?_
  · have hk := of_decide_eq_true hk
    subst hk
    refine d_ret (d := R (firstOf c)) (by exact e_lst (xs := firstOf c) (dl := R (rngL 0 c.1.toNat) :: ((c.2.map fun _ => ([] : List Int)).map (fun x => R x) ++ [])) (a_cons (e_listRg (n := c.1) rfl T.list T.range (e_fst (x := c) (e_fld a.now.c (e_var 0) hI l1 a.n1) e_int) ⟨(by have h9 : 2 ≤ c.1 := hc.lo; show 0 ≤ c.1; omega), (by have h9 : c.1 ≤ 100 := hc.hi; show c.1 ≤ 1000000; omega)⟩) (a_star (r_R (e_lc [("rail", 1)] c.2 (fun x => [(1, R x)]) (fun _ => ([] : List Int)) rfl sc831.nd (wk_R (e_snd (x := c) (e_fld a.now.c (e_var 0) hI l1 a.n1) e_int)) (blkOk_by (N := N831) (sc := defScope (clM 83 1)) (by decide +kernel)) (by omega) (fun _ _ _ _ _ x => g_name 1 sc831.nd) fun s0 H0 C cl fp qq cc row hx => e_nil)) a_nil)) (by rw [List.append_nil]; rfl) (by rw [List.append_nil, List.length_cons, List.length_map, List.length_map]; omega)) ⟨_, ⟨rfl, [], (List.append_nil _).symm⟩, .same trivial⟩
  · have hk := of_decide_eq_false hk
    obtain ⟨e, he⟩ := last_none hk
    refine d_ret (d := R e.sight) (by exact e_tix (dl := [R e.call, R e.sight, R e.t]) (e_item (xs := L) (y := e) (r_R (e_fld a.now.c (e_var 0) hI l2 a.n2)) (e_neg e_int) (last_at he)) e_int (atI_nat' (by decide) rfl)) ⟨_, ⟨?_, [], (List.append_nil _).symm⟩, .same trivial⟩
    unfold nowOf
    rw [he]
def spMom (C : Addr) : Spec LvA := { args := fun a => [dAt a.q], ms := fun a => roMs (lvMs C a) a.g, pre := fun a => a.L.length ≤ 1000, post := fun a d m => d = R (momOf a.L) ∧ ∃ m1, m = roMs (lvMs C a) a.g ++ m1 }
theorem sc8311 : FnScope ["self"] ["self"] (defScope (clM 83 11)) := ⟨rfl, rfl, rfl, by decide +kernel, rfl, by decide +kernel, by decide +kernel⟩
theorem ok_moment (a : LiveAt K mg C) : HasP P w K mg base C "moment" 1 (spMom C) := by
  obtain ⟨p, f, fd, F, hp, hb⟩ := a.moment
  refine ⟨a.now.c, p, f, fd, ["self"], hp, hb, ?_⟩
  refine fn_ok (spMom C) F sc8311 (fun _ => rfl) fun ⟨q, c, L, g⟩ hL cdv A outer s H E hr => ?_
  have l2 : (bcF c L).lookup ("kept_calls" : Str) = some (R L) := rfl
  have hI : Inn (roMs (lvMs C ⟨q, c, L, g⟩) g) q (mI C (bcF c L)) := .b0
  refine d_ret (d := R (momOf L)) (e_if (k := !decide (L = [])) (by exact b_neD (x := L) (y := []) (hu64 hr) (e_fld a.now.c (e_var 0) hI l2 a.n2) e_nil) (fun hk => ?_) fun hk => ?_) ⟨_, ⟨rfl, [], (List.append_nil _).symm⟩, .same trivial⟩
  · have hk : L ≠ [] := by simpa using hk
    obtain ⟨e, he⟩ := last_none hk
    have hm : momOf L = e.t := by unfold momOf; rw [he]
    rw [hm]
    exact e_tix (dl := [R e.call, R e.sight, R e.t]) (e_item (xs := L) (y := e) (r_R (e_fld a.now.c (e_var 0) hI l2 a.n2)) (e_neg e_int) (last_at he)) e_int (atI_nat' (by decide) rfl)
  · have hk : L = [] := by simpa using hk
    subst hk
    exact e_int
def spBcInit (C : Addr) : Spec (Addr × Clk) := { args := fun a => [dAt a.1, R a.2], ms := fun a => [(a.1, mI C [])], pre := fun a => ClkOk a.2, post := fun a d m => d = R () ∧ m = [(a.1, mI C (bcF a.2 []))] }
theorem sc830 : FnScope ["self", "clock"] ["self", "clock"] (defScope (clM 83 0)) := ⟨rfl, rfl, rfl, by decide +kernel, rfl, by decide +kernel, by decide +kernel⟩
theorem ok_bc_init (T : Tx K mg) (a : LiveAt K mg C) (h1 : Has P w K mg base "require_clock" 5 spReqClock) : HasC P w K mg base "BallClock" C 6 (spBcInit C) := hasC_of a.init fun f fd F => by
  refine fn_ok (spBcInit C) F sc830 (fun _ => rfl) fun ⟨q, c⟩ hc cdv A outer s H E hr => ?_
  have hc : ClkOk c := hc
  refine d_expr (i_pure (by exact e_call h1 hr c rfl (fun _ _ h => h) (a_one (by exact e_var 1)) hc) ?_)
  refine d_setF (q := q) (C := C) 0 a.init.c a.n1 (i_pure (d := R c) (by exact e_pair (x := c.1) (y := c.2) (e_fst (x := c) (e_var 1) e_int) (e_list (xs := c.2) T.list (r_R (e_snd (x := c) (e_var 1) e_int)))) ⟨[], by exact e_var 0, rfl, by decide, ?_⟩)
  refine d_setF (q := q) (C := C) 0 a.init.c a.n2 (i_pure (d := R ([] : List Ent)) (by exact e_nil) ⟨_, by exact e_var 0, rfl, (by show 1 < 1000; decide), ?_⟩)
  exact d_nil ⟨_, ⟨rfl, rfl⟩, .same trivial⟩
structure KpA where
  q : Addr
  c : Clk
  L : List Ent
  call : Cal
  sight : Sight
  t : Int
def spKeep (C : Addr) : Spec KpA := { args := fun a => [dAt a.q, R a.call, R a.sight, R a.t], ms := fun a => [(a.q, mI C (bcF a.c a.L))], pre := fun a => a.L.length ≤ 1000, post := fun a d m => d = R () ∧ m = [(a.q, mI C (bcF a.c (a.L ++ [⟨a.call, a.sight, momOf a.L + a.t⟩])))] }
theorem sc832 : FnScope ["self", "call", "sight", "ticks"] ["self", "call", "sight", "ticks"] (defScope (clM 83 2)) := ⟨rfl, rfl, rfl, by decide +kernel, rfl, by decide +kernel, by decide +kernel⟩
theorem ok_keep (a : LiveAt K mg C) (h1 : HasP P w K mg base C "moment" 1 (spMom C)) : HasM P w K mg base C "keep" 3 (spKeep C) := hasM_of a.keep fun f fd F => by
  refine fn_ok (spKeep C) F sc832 (fun _ => rfl) fun ⟨q, c, L, cl, sg, t⟩ hL cdv A outer s H E hr => ?_
  have hL : L.length ≤ 1000 := hL
  have l2 : (bcF c L).lookup ("kept_calls" : Str) = some (R L) := rfl
  refine d_setF (q := q) (C := C) 0 a.init.c a.n2 (i_pure (d := R (L ++ [⟨cl, sg, momOf L + t⟩])) (e_eq (e_dL (dl := L.map (fun x => R x) ++ [dT [R cl, R sg, R (momOf L + t)]]) (by exact a_star (r_R (e_fld (fs := bcF c L) a.keep.c (e_var 0) .h0 l2 a.n2)) (a_one (e_dT (a_cons (e_var 1) (a_cons (e_var 2) (a_one (e_add (e_prop (S := spMom C) (fs := bcF c L) (cs := [(q, mI C (bcF c L))]) (rest := []) h1 hr (e_var 0) .h0 (.refl _) (fun g => ⟨⟨q, c, L, g⟩, rfl, rfl, hL, fun d' m h => h⟩)) (e_var 3))))) (by show 3 ≤ 1000000; decide)))) (by rw [List.length_append, List.length_map, List.length_singleton]; omega)) (by show dL _ = dL _; rw [List.map_append]; rfl)) ⟨bcF c L, by exact e_var 0, rfl, (by show 2 < 1000; decide), ?_⟩)
  exact d_nil ⟨_, ⟨rfl, rfl⟩, .same trivial⟩
structure RunA where
  q : Addr
  c : Clk
  L : List Ent
  t : Int
structure LvOk (k : Clk) (L : List Ent) : Prop where
  c : ClkS k
  len : L.length ≤ 900
  s : ∀ e ∈ L, SightOk k e.sight
theorem first_ok {c : Clk} (hc : ClkOk c) : SightOk c (firstOf c) := by
  have h0 := hc.lo
  have hf : (firstOf c).flatten = rngL 0 c.1.toNat := by
    unfold firstOf
    rw [List.flatten_cons]
    have : (c.2.map fun _ => ([] : List Int)).flatten = [] := by
      induction c.2 with
      | nil => rfl
      | cons x l ih => rw [List.map_cons, List.flatten_cons, ih]; rfl
    rw [this, List.append_nil]
  refine ⟨by unfold firstOf; rw [List.length_cons, List.length_map], fun b hb => by rw [hf] at hb; have := rngL_mem.mp hb; omega, by rw [hf]; exact rngL_nd _, by rw [hf, rngL_len]; omega, fun i row r h1 h2 => ?_⟩
  unfold firstOf at h1
  rw [List.getElem?_cons_succ, List.getElem?_map] at h1
  obtain ⟨y, _, rfl⟩ := Option.map_eq_some_iff.mp h1
  have := (hc.bd r (List.mem_of_getElem? h2)).1
  show (0 : Int) < _
  omega
theorem LvOk.now {c : Clk} {L : List Ent} (h : LvOk c L) : SightOk c (nowOf c L) := by
  unfold nowOf
  cases e : L.getLast? with
  | none => exact first_ok h.c.toClkOk
  | some x => exact h.s x (List.mem_of_getLast? e)
def runL (c : Clk) (L : List Ent) (t : Int) : List Ent := L ++ [⟨.run t, movedOf c (nowOf c L) t, momOf L + t⟩]
def spRun (C : Addr) : Spec RunA := { args := fun a => [dAt a.q, R a.t], ms := fun a => [(a.q, mI C (bcF a.c a.L))], pre := fun a => LvOk a.c a.L ∧ 1 ≤ a.t, post := fun a d m => d = R () ∧ m = [(a.q, mI C (bcF a.c (runL a.c a.L a.t)))] }
theorem sc834 : FnScope ["self", "ticks"] ["self", "ticks"] (defScope (clM 83 4)) := ⟨rfl, rfl, rfl, by decide +kernel, rfl, by decide +kernel, by decide +kernel⟩
theorem bc_l {c : Clk} {L : List Ent} {m : Str} (h : (m == ("kept_clock" : Str)) = false) (h2 : (m == ("kept_calls" : Str)) = false) : (bcF c L).lookup m = none := by
  unfold bcF
  rw [List.lookup_cons, h, List.lookup_cons, h2]
  rfl
theorem ok_run (a : LiveAt K mg C) (h1 : Has P w K mg base "require_at_least" 3 spReqAtLeast) (h2 : Has P w K mg base "moved_sight" 28 spMoved) (h3 : HasM P w K mg base C "sight_now" 1 (spNow C)) (h4 : HasM P w K mg base C "keep" 3 (spKeep C)) : HasM P w K mg base C "run" 29 (spRun C) := hasM_of a.run fun f fd F => by
  refine fn_ok (spRun C) F sc834 (fun _ => rfl) fun ⟨q, c, L, t⟩ ⟨hv, ht⟩ cdv A outer s H E hr => ?_
  have hv : LvOk c L := hv
  have ht : 1 ≤ t := ht
  have hL := hv.len
  have l1 : (bcF c L).lookup ("kept_clock" : Str) = some (R c) := rfl
  refine d_expr (i_pure (by exact e_call h1 (hr.mono (by decide)) (t, 1) rfl (fun _ _ h => h) (a_cons (by exact e_var 1) (a_one e_int)) ht) ?_)
  refine d_expr (i_meth (S := spKeep C) (q := q) (fs := bcF c L) h4 (hr.mono (by decide)) (by exact e_var 0) .h0 (bc_l rfl rfl) (ai_pure (dl := [R (Cal.run t), R (movedOf c (nowOf c L) t), R t]) (by exact a_cons (by exact e_pair e_str (e_var 1)) (a_cons (e_call h2 hr (c, nowOf c L, t) rfl (fun _ _ h => h) (a_cons (e_fld (fs := bcF c L) a.run.c (e_var 0) .h0 l1 a.n1) (a_cons (e_methR0 (S := spNow C) (fs := bcF c L) (cs := [(q, mI C (bcF c L))]) (rest := []) h3 (hr.mono (by decide)) (e_var 0) .h0 (bc_l rfl rfl) (.refl _) (fun g => ⟨⟨q, c, L, g⟩, rfl, rfl, ⟨hv.c.toClkOk, by show L.length ≤ 1000; omega⟩, fun d' m h => h⟩)) (a_one (e_var 1)))) ⟨hv.c, hv.now⟩) (a_one (e_var 1)))) ⟨⟨q, c, L, .run t, movedOf c (nowOf c L) t, t⟩, [], rfl, .refl _, by (show L.length ≤ 1000; omega), fun d m2 hd => ?_⟩))
  obtain ⟨rfl, rfl⟩ := hd
  exact d_nil ⟨_, ⟨rfl, rfl⟩, .same trivial⟩
theorem run_lv {c : Clk} {L : List Ent} (h : LvOk c L) (t : Int) (hl : L.length < 900) : LvOk c (runL c L t) := ⟨h.c, by unfold runL; rw [List.length_append, List.length_singleton]; omega, fun e he => by
  rcases List.mem_append.mp he with he | he
  · exact h.s e he
  · rw [List.mem_singleton] at he
    subst he
    exact moved_ok h.c h.now t⟩
/-! swap -/
def sw (a b x : Int) : Int := if x = a then b else if x = b then a else x
def swSight (a b : Int) (s : Sight) : Sight := s.map fun row => row.map (sw a b)
def swapL (c : Clk) (L : List Ent) (a b : Int) : List Ent := L ++ [⟨.swap a b, swSight a b (nowOf c L), momOf L + 0⟩]
theorem sw_inj {a b x y : Int} (h : sw a b x = sw a b y) : x = y := by
  unfold sw at h
  split at h <;> split at h <;> (try split at h) <;> (try split at h) <;> omega
theorem sw_ok {c : Clk} {s : Sight} (h : SightOk c s) {a b : Int} (ha : 0 ≤ a ∧ a < c.1) (hb : 0 ≤ b ∧ b < c.1) : SightOk c (swSight a b s) := by
  have hf : (swSight a b s).flatten = s.flatten.map (sw a b) := by unfold swSight; rw [List.map_flatten]
  refine ⟨by unfold swSight; rw [List.length_map]; exact h.len, fun x hx => ?_, ?_, by rw [hf, List.length_map]; exact h.cnt, fun i row r h1 h2 => ?_⟩
  · rw [hf] at hx
    obtain ⟨y, hy, rfl⟩ := List.mem_map.mp hx
    have := h.ball y hy
    unfold sw
    split
    · exact hb
    · split
      · exact ha
      · exact this
  · rw [hf]
    exact List.pairwise_map.mpr (List.Pairwise.imp (fun hxy e => hxy (sw_inj e)) h.nd)
  · unfold swSight at h1
    rw [List.getElem?_map] at h1
    obtain ⟨y, hy, rfl⟩ := Option.map_eq_some_iff.mp h1
    rw [List.length_map]
    exact h.rail i y r hy h2
theorem swap_lv {c : Clk} {L : List Ent} (h : LvOk c L) {a b : Int} (ha : 0 ≤ a ∧ a < c.1) (hb : 0 ≤ b ∧ b < c.1) (hl : L.length < 900) : LvOk c (swapL c L a b) := ⟨h.c, by unfold swapL; rw [List.length_append, List.length_singleton]; omega, fun e he => by
  rcases List.mem_append.mp he with he | he
  · exact h.s e he
  · rw [List.mem_singleton] at he
    subst he
    exact sw_ok h.now ha hb⟩
structure SwA where
  q : Addr
  c : Clk
  L : List Ent
  a : Int
  b : Int
def spSwap (C : Addr) : Spec SwA := { args := fun a => [dAt a.q, R a.a, R a.b], ms := fun a => [(a.q, mI C (bcF a.c a.L))], pre := fun a => LvOk a.c a.L ∧ (0 ≤ a.a ∧ a.a < a.c.1) ∧ (0 ≤ a.b ∧ a.b < a.c.1) ∧ a.a ≠ a.b, post := fun a d m => d = R () ∧ m = [(a.q, mI C (bcF a.c (swapL a.c a.L a.a a.b)))] }
abbrev N835 : List Str := ["self", "one", "other", "swapped", "sight", "balls", "ball"]
theorem sc835 : FnScope N835 ["self", "one", "other"] (defScope (clM 83 5)) := ⟨rfl, rfl, rfl, by decide +kernel, rfl, by decide +kernel, by decide +kernel⟩
def swF (a b x : Int) : Option Int := if x = b then some a else if x = a then some b else none
theorem sw_getD {a b x : Int} (h : a ≠ b) : (swF a b x).getD x = sw a b x := by
  unfold swF sw
  split
  · rename_i h1
    subst h1
    rw [if_neg (fun z => h z.symm)]
    rfl
  · rename_i h1
    split
    · rfl
    · rfl
theorem sw_getI (a b x : Int) : getI (putI (putI [] a (R b)) b (R a)) x = (swF a b x).map fun j => (R j : D) := by
  rw [getI_put, getI_put]
  unfold swF
  split
  · rfl
  · split <;> rfl
theorem ok_swap (a : LiveAt K mg C) (h1 : Has P w K mg base "require_ball" 4 spReqBall) (h3 : HasM P w K mg base C "sight_now" 1 (spNow C)) (h4 : HasM P w K mg base C "keep" 3 (spKeep C)) : HasM P w K mg base C "swap" 5 (spSwap C) := hasM_of a.swap fun f fd F => by
  refine fn_ok (spSwap C) F sc835 (fun _ => rfl) fun ⟨q, c, L, x, y⟩ ⟨hv, hx, hy, hxy⟩ cdv A outer s H E hr => ?_
  have hv : LvOk c L := hv
  have hxy : x ≠ y := hxy
  have hL := hv.len
  have hnow := hv.now
  have hnl := hnow.len
  have hcl := hv.c.len
  have hcnt := hnow.cnt
  have h12 := hv.c.sm12
  have l1 : (bcF c L).lookup ("kept_clock" : Str) = some (R c) := rfl
  refine d_expr (i_pure (by exact e_call h1 (hr.mono (by decide)) (c, x) rfl (fun _ _ h => h) (a_cons (e_fld (fs := bcF c L) a.run.c (e_var 0) .h0 l1 a.n1) (a_one (e_var 1))) hx) ?_)
  refine d_expr (i_pure (by exact e_call h1 (hr.mono (by decide)) (c, y) rfl (fun _ _ h => h) (a_cons (e_fld (fs := bcF c L) a.run.c (e_var 0) .h0 l1 a.n1) (a_one (e_var 2))) hy) ?_)
  refine d_no (k := decide (x = y)) (by exact b_eqS (e_var 1) (e_var 2)) (decide_eq_false hxy) ?_
  refine d_set (d := dD (putI (putI [] x (R y)) y (R x))) 3 sc835.nd (by exact e_disp2 (e_var 1) (e_var 2) (e_var 2) (e_var 1)) ?_
  refine d_lcR 4 [("balls", 5)] (nowOf c L) (fun z => [(5, R z)]) (fun row => row.map (sw x y)) rfl sc835.nd (wk_R (by exact e_methR0 (S := spNow C) (fs := bcF c L) (cs := [(q, mI C (bcF c L))]) (rest := []) h3 (hr.mono (by decide)) (e_var 0) .h0 (bc_l rfl rfl) (.refl _) (fun g => ⟨⟨q, c, L, g⟩, rfl, rfl, ⟨hv.c.toClkOk, by show L.length ≤ 1000; omega⟩, fun d' m h => h⟩))) (blkOk_by (N := N835) (sc := defScope (clM 83 5)) (by decide +kernel)) (by omega) (fun _ _ _ _ _ x => g_name 5 sc835.nd) (fun s0 H0 C1 cl fp qq cc row hrow => ?_) ?_
  · have hrl := row_le hrow
    exact e_lc [("ball", 6)] row (fun z => [(6, R z)]) (sw x y) rfl sc835.nd (wk_R (by exact e_var 5)) (blkOk_by (N := N835) (sc := { kind := .function, names := [(".0", .local), ("balls", .local), ("swapped", .cell)], isGenerator := false, isCoroutine := false }) (by decide +kernel)) (by omega) (fun _ _ _ _ _ x => g_name 6 sc835.nd) fun s1 H1 C2 cl fp q2 c2 z hz => by exact e_eq (e_getDI (f := swF x y) (hu1 hr) (e_var 3) (e_var 6) (e_var 6) (sw_getI x y z)) (by rw [sw_getD hxy])
  refine d_expr (i_meth (S := spKeep C) (q := q) (fs := bcF c L) h4 (hr.mono (by decide)) (by exact e_var 0) .h0 (bc_l rfl rfl) (ai_pure (dl := [R (Cal.swap x y), R (swSight x y (nowOf c L)), R (0 : Int)]) (by exact a_cons (by exact e_dT (a_cons e_str (a_cons (e_var 1) (a_one (e_var 2)))) (by show 3 ≤ 1000000; decide)) (a_cons (e_var 4) (a_one e_int))) ⟨⟨q, c, L, .swap x y, swSight x y (nowOf c L), 0⟩, [], rfl, .refl _, by (show L.length ≤ 1000; omega), fun d m2 hd => ?_⟩))
  obtain ⟨rfl, rfl⟩ := hd
  exact d_nil ⟨_, ⟨rfl, rfl⟩, .same trivial⟩
/-! the property sight -/
def spSight (C : Addr) : Spec LvA := { args := fun a => [dAt a.q], ms := fun a => roMs (lvMs C a) a.g, pre := fun a => LvOk a.c a.L, post := fun a d m => d = R (nowOf a.c a.L) ∧ ∃ m1, m = roMs (lvMs C a) a.g ++ m1 }
theorem sc839 : FnScope ["self", "balls"] ["self"] (defScope (clM 83 9)) := ⟨rfl, rfl, rfl, by decide +kernel, rfl, by decide +kernel, by decide +kernel⟩
theorem ok_sight (T : Tx K mg) (a : LiveAt K mg C) (h3 : HasM P w K mg base C "sight_now" 1 (spNow C)) : HasP P w K mg base C "sight" 2 (spSight C) := by
  obtain ⟨p, f, fd, F, hp, hb⟩ := a.sight
  refine ⟨a.now.c, p, f, fd, ["self"], hp, hb, ?_⟩
  refine fn_ok (spSight C) F sc839 (fun _ => rfl) fun ⟨q, c, L, g⟩ hv cdv A outer s H E hr => ?_
  have hv : LvOk c L := hv
  have hL := hv.len
  have hnl := hv.now.len
  have hcl := hv.c.len
  have hI : Inn (roMs (lvMs C ⟨q, c, L, g⟩) g) q (mI C (bcF c L)) := .b0
  refine d_ret (d := R (nowOf c L)) (by exact e_eq (e_lc [("balls", 1)] (nowOf c L) (fun z => [(1, R z)]) (fun row => row) rfl sc839.nd (wk_R (e_methRW0 (S := spNow C) (fs := bcF c L) (cs' := roMs (lvMs C ⟨q, c, L, g⟩) g) (cs := [(q, mI C (bcF c L))]) (rest := []) h3 hr (e_var 0) hI (bc_l rfl rfl) ⟨⟨rfl, fun _ _ z => z.2⟩, trivial⟩ (by rw [List.append_nil]; exact .refl _) (fun g2 => ⟨⟨q, c, L, g2⟩, rfl, rfl, ⟨hv.c.toClkOk, by show L.length ≤ 1000; omega⟩, fun d' m h => h⟩))) (blkOk_by (N := ["self", "balls"]) (sc := defScope (clM 83 9)) (by decide +kernel)) (by omega) (fun _ _ _ _ _ x => g_name 1 sc839.nd) fun s0 H0 C1 cl fp qq cc row hrow => e_list (xs := row) T.list (r_R (e_var 1))) (by rw [List.map_id'])) ⟨_, ⟨rfl, [], (List.append_nil _).symm⟩, .same trivial⟩
end
end Bh
/-! V17: console. -/
namespace Bh
open PySem PySem.Spec PyProof.Rows L2 TL SX
structure Tc (K : PySem.W.Frag) (w : World) (mg : Str → Option Value) : Prop where
  forms : ∃ p, mg "FORMS" = some (.ref p) ∧ (p == sysModules) = false ∧ KDct K w p "run" (.int 1) ∧ KDct K w p "swap" (.int 2) ∧ KDct K w p "sight" (.int 0) ∧ KDct K w p "when" (.int 0)
  inv : ∃ c, mg "InvalidSyntax" = some c
/-- the commands of numbers that the law gives, with how many numbers each takes -/
def NumCmd (z : Str) (n : Nat) : Prop := (z = "run" ∧ n = 1) ∨ (z = "swap" ∧ n = 2) ∨ (z = "sight" ∧ n = 0) ∨ (z = "when" ∧ n = 0)
section
variable {P : Program} {w : World} {K : PySem.W.Frag} {mg : Str → Option Value} {base : Heap} {C BC : Addr}
def spClkV : Spec Clk := { args := fun c => [R (fmtClk c)], pre := ClkOk, post := fun c d _ => d = R [c] }
abbrev s102 : Stmt := top 102
theorem sc102 : FnScope ["text"] ["text"] (defScope s102) := ⟨rfl, rfl, rfl, by decide +kernel, rfl, by decide +kernel, by decide +kernel⟩
theorem ok_clock_values (T : Tc K w mg) (a : At K mg "clock_values" s102 ["text"]) (h1 : Has P w K mg base "parse_clock" 3 spPClk) : Has P w K mg base "clock_values" 4 spClkV := has_of a fun f fd F => by
  refine fn_ok spClkV F sc102 (fun _ => rfl) fun c hc cdv A outer s H E hr => ?_
  obtain ⟨iv, hiv⟩ := T.inv
  refine d_try (c := iv) ⟨rfl, by decide, .inl hiv⟩ rfl rfl fun pn xe _ => ?_
  exact d_ret (d := R [c]) (by exact e_lst (xs := [c]) (dl := [R c]) (a_one (e_call h1 hr c rfl (fun _ _ h => h) (a_one (e_var 0)) hc)) rfl (by show 1 ≤ 1000000; decide)) ⟨[], rfl, .same trivial⟩
def spCmdC : Spec Clk := { args := fun c => [R ("clock" : Str), R (clkW c)], pre := ClkOk, post := fun c d _ => d = R [c] }
abbrev s103 : Stmt := top 103
abbrev N103 : List Str := ["name", "words", "found", "word"]
theorem sc103 : FnScope N103 ["name", "words"] (defScope s103) := ⟨rfl, rfl, rfl, by decide +kernel, rfl, by decide +kernel, by decide +kernel⟩
theorem ok_cmdC (a : At K mg "command_values" s103 ["name", "words"]) (h1 : Has P w K mg base "clock_values" 4 spClkV) : Has P w K mg base "command_values" 5 spCmdC := has_of a fun f fd F => by
  refine fn_ok spCmdC F sc103 (fun _ => rfl) fun c hc cdv A outer s H E hr => ?_
  have hc : ClkOk c := hc
  refine d_if (k := (("clock" : Str) == "clock" || (("parts" : Str) == "clock" || false))) (by exact b_inT2 (e_var 0) (e_dT (a_cons e_str (a_one e_str)) (by show 2 ≤ 1000000; decide))) (fun _ => ?_) fun hk => absurd hk (by decide +kernel)
  exact d_ret (d := R [c]) (by exact e_call h1 hr c rfl (fun _ _ h => h) (a_one (e_join (z := " ") (ys := clkW c) e_str (e_var 1) (clkW_ok hc).sum_ok)) hc) ⟨[], rfl, .same trivial⟩
/-- a number's word -/
structure Wd where
  n : Int
instance : Rp Wd := ⟨fun x => R (sI x.n)⟩
theorem wd_map (ns : List Int) : (ns.map sI).map (fun x => (R x : D)) = (ns.map Wd.mk).map fun x => R x := by rw [List.map_map, List.map_map]; rfl
theorem wk_wd {X : Cx} {ds : Ds} {ms : MS} {tg e : Expr} {ns : List Int} (h : DWk X ds ms tg e ((ns.map sI).map fun x => R x)) : DWk X ds ms tg e ((ns.map Wd.mk).map fun x => R x) := wd_map ns ▸ h
structure CmN where
  z : Str
  ns : List Int
def spCmdN : Spec CmN := { args := fun x => [R x.z, R (x.ns.map sI)], pre := fun x => NumCmd x.z x.ns.length ∧ ∀ n ∈ x.ns, Nm n, post := fun x d _ => d = R x.ns }
theorem some_map (ns : List Int) : (R (ns.map some) : D) = R ns := by
  show dL _ = dL _
  rw [List.map_map]
  rfl
theorem ok_cmdN (Tx' : Tx K mg) (T : Tc K w mg) (a : At K mg "command_values" s103 ["name", "words"]) (h1 : Has P w K mg base "natural_of" 1 spNat) : Has P w K mg base "command_values" 5 spCmdN := has_of a fun f fd F => by
  refine fn_ok spCmdN F sc103 (fun _ => rfl) fun ⟨z, ns⟩ ⟨hz, hn⟩ cdv A outer s H E hr => ?_
  have hz : NumCmd z ns.length := hz
  have hn : ∀ n ∈ ns, Nm n := hn
  have hl : ns.length ≤ 2 := by rcases hz with h | h | h | h <;> omega
  have hname : z = "run" ∨ z = "swap" ∨ z = "sight" ∨ z = "when" := by
    rcases hz with h | h | h | h
    · exact .inl h.1
    · exact .inr (.inl h.1)
    · exact .inr (.inr (.inl h.1))
    · exact .inr (.inr (.inr h.1))
  refine d_no (k := (("clock" : Str) == z || (("parts" : Str) == z || false))) (by exact b_inT2 (e_var 0) (e_dT (a_cons e_str (a_one e_str)) (by show 2 ≤ 1000000; decide))) (by rcases hname with h | h | h | h <;> subst h <;> decide +kernel) ?_
  have hk : ∃ p, mg "FORMS" = some (.ref p) ∧ (p == sysModules) = false ∧ KDct K w p z (.int (ns.length : Int)) := by
    obtain ⟨p, f1, f2, f3, f4, f5, f6⟩ := T.forms
    refine ⟨p, f1, f2, ?_⟩
    rcases hz with h | h | h | h
    · rw [h.1, h.2]; exact f3
    · rw [h.1, h.2]; exact f4
    · rw [h.1, h.2]; exact f5
    · rw [h.1, h.2]; exact f6
  refine d_no (k := !decide ((ns.length : Int) = ((ns.map sI).length : Int))) (by exact b_neS (i := (ns.length : Int)) (e_kget hk (e_var 0)) (e_lenR Tx'.len (r_R (xs := ns.map sI) (e_var 1)))) (by rw [List.length_map, decide_eq_true rfl]; rfl) ?_
  refine d_lcR 2 [("word", 3)] (ns.map Wd.mk) (fun x => [(3, R x)]) (fun x => x.n) rfl sc103.nd (wk_wd (wk_R (xs := ns.map sI) (by exact e_var 1))) (blkOk_by (N := N103) (sc := defScope s103) (by decide +kernel)) (by rw [List.length_map]; omega) (fun _ _ _ _ _ x => g_name 3 sc103.nd) (fun s0 H0 C1 cl fp qq cc x hx => ?_) ?_
  · obtain ⟨n, hn2, rfl⟩ := List.mem_map.mp hx
    exact e_call h1 (hr.mono (by decide)) n rfl (fun _ _ h => h) (a_one (by exact e_var 3)) (hn n hn2)
  · rw [List.map_map, show ((fun x : Wd => x.n) ∘ Wd.mk) = id from rfl, List.map_id]
    refine d_no (k := decide (z = "spot")) (by exact b_eqS (e_var 0) e_str) (by rcases hname with h | h | h | h <;> subst h <;> decide +kernel) ?_
    refine d_ret (d := R ns) (e_if (k := (ns.map some).any (·.isNone)) (by exact b_noneIn (xs := ns.map some) (hu65 hr) e_none (e_eq (e_var 2) (some_map ns).symm) rfl) (fun hk => ?_) fun _ => by exact e_var 2) ⟨[], rfl, .same trivial⟩
    rw [List.any_map] at hk
    obtain ⟨x, _, hx⟩ := List.any_eq_true.mp hk
    cases hx
/-! value_text -/
def vtOf (o : Option Int) : Str := match o with
  | none => "none"
  | some n => sI n
def spVt : Spec (Option Int) := { args := fun o => [R o], pre := fun o => ∀ n, o = some n → Nm n, post := fun o d _ => d = R (vtOf o) }
abbrev s104 : Stmt := top 104
theorem sc104 : FnScope ["value"] ["value"] (defScope s104) := ⟨rfl, rfl, rfl, by decide +kernel, rfl, by decide +kernel, by decide +kernel⟩
theorem ok_value_text (T : Tx K mg) (a : At K mg "value_text" s104 ["value"]) : Has P w K mg base "value_text" 1 spVt := has_of a fun f fd F => by
  refine fn_ok spVt F sc104 (fun _ => rfl) fun o ho cdv A outer s H E hr => ?_
  have ho : ∀ n, o = some n → Nm n := ho
  cases o with
  | none => exact d_ret (d := R ("none" : Str)) (by exact e_if (k := true) (b_isN1 (e_var 0)) (fun _ => e_str) fun h => by cases h) ⟨[], rfl, .same trivial⟩
  | some n => exact d_ret (d := R (sI n)) (by exact e_if (k := false) (b_isN (d := R n) (e_var 0) nn_int) (fun h => by cases h) fun _ => e_strI T.str (e_var 0) (sI_log (ho n rfl))) ⟨[], rfl, .same trivial⟩
/-! ### Console -/
structure ConAt (K : PySem.W.Frag) (mg : Str → Option Value) (C : Addr) : Prop where
  init : AtC K mg "Console" C "Console.__init__" (clM 106 0) ["self"]
  anew : AtM K C "set_anew" "Console.set_anew" (clM 106 1) ["self", "clock"]
  change : AtM K C "change" "Console.change" (clM 106 2) ["self", "name", "values"]
  answer : AtM K C "answer" "Console.answer" (clM 106 3) ["self", "name", "values"]
  exec : AtM K C "execute" "Console.execute" (clM 106 4) ["self", "command"]
  n1 : NoAttr K C "set_clock"
  n2 : NoAttr K C "set_live"
def coF (c : Clk) (l : Addr) : List (Str × D) := [("set_clock", R c), ("set_live", dAt l)]
theorem co_l {c : Clk} {l : Addr} {m : Str} (h : (m == ("set_clock" : Str)) = false) (h2 : (m == ("set_live" : Str)) = false) : (coF c l).lookup m = none := by
  unfold coF
  rw [List.lookup_cons, h, List.lookup_cons, h2]
  rfl
structure AnA where
  q : Addr
  c : Clk
  fs : List (Str × D)
def FsOk (fs : List (Str × D)) : Prop := fs = [] ∨ ∃ c l, fs = coF c l
def spAnew (C BC : Addr) : Spec AnA := { args := fun a => [dAt a.q, R a.c], ms := fun a => [(a.q, mI C a.fs)], pre := fun a => ClkOk a.c ∧ FsOk a.fs, post := fun a d m => d = R () ∧ ∃ l, m = [(a.q, mI C (coF a.c l)), (l, mI BC (bcF a.c []))] }
theorem sc1061 : FnScope ["self", "clock"] ["self", "clock"] (defScope (clM 106 1)) := ⟨rfl, rfl, rfl, by decide +kernel, rfl, by decide +kernel, by decide +kernel⟩
theorem fs_l {fs : List (Str × D)} (h : FsOk fs) {m : Str} (h1 : (m == ("set_clock" : Str)) = false) (h2 : (m == ("set_live" : Str)) = false) : fs.lookup m = none := by
  rcases h with h | ⟨c, l, h⟩
  · subst h; rfl
  · subst h; exact co_l h1 h2
theorem fs_put {fs : List (Str × D)} (h : FsOk fs) (c : Clk) (l : Addr) : putD "set_live" (dAt l) (putD "set_clock" (R c) fs) = coF c l := by
  rcases h with h | ⟨c, l, h⟩
  · subst h; rfl
  · subst h; rfl
theorem fs_len {fs : List (Str × D)} (h : FsOk fs) : fs.length ≤ 2 := by
  rcases h with h | ⟨c, l, h⟩
  · subst h; exact Nat.zero_le _
  · subst h; exact Nat.le_refl _
theorem putD_len (f : Str) (d : D) : ∀ fs : List (Str × D), (putD f d fs).length ≤ fs.length + 1
  | [] => Nat.le_refl _
  | (g, x) :: r => by
    unfold putD
    split
    · rw [List.length_cons, List.length_cons]; omega
    · have := putD_len f d r
      rw [List.length_cons, List.length_cons]; omega
theorem ok_anew (a : ConAt K mg C) (h1 : HasC P w K mg base "BallClock" BC 6 (spBcInit BC)) : HasM P w K mg base C "set_anew" 8 (spAnew C BC) := hasM_of a.anew fun f fd F => by
  refine fn_ok (spAnew C BC) F sc1061 (fun _ => rfl) fun ⟨q, c, fs⟩ ⟨hc, hf⟩ cdv A outer s H E hr => ?_
  have hc : ClkOk c := hc
  have hf : FsOk fs := hf
  have hfl := fs_len hf
  have hpl := putD_len "set_clock" (R c) fs
  refine d_asgG (i_tup (ai_cons (i_pure (by exact e_var 1) (ai_cons (i_make (S := spBcInit BC) h1 hr (ai_pure (dl := [R c]) (by exact a_one (by exact e_var 1)) fun l => ⟨(l, c), [(q, mI C fs)], rfl, .refl _, hc, fun d m2 hd => ?_⟩))))))
  obtain ⟨rfl, rfl⟩ := hd
  refine ⟨rfl, ai_nil ⟨(by show 2 ≤ 1000000; decide), ?_⟩⟩
  refine gi_tup rfl (gsi_cons (gi_fld (q := q) (C := C) 1 a.anew.c a.n1 (by exact e_var 0) rfl (by omega) (gsi_cons (gi_fld (q := q) (C := C) 1 a.anew.c a.n2 (by exact e_var 0) rfl (by show (putD "set_clock" (R c) fs).length < 1000; omega) (gsi_nil (d_nil ⟨[(q, mI C (coF c l)), (l, mI BC (bcF c []))], ⟨rfl, l, rfl⟩, .perm ?_⟩))))))
  show List.Perm _ [(l, mI BC (bcF c [])), (q, mI C (putD "set_live" (dAt l) (putD "set_clock" (R c) fs)))]
  rw [fs_put hf]
  exact List.Perm.swap _ _ _
def defClk : Clk := (30, [(5, "back"), (12, "back"), (12, "back")])
theorem defClk_ok : ClkOk defClk := ⟨by decide, by decide, by unfold defClk; simp, fun r hr => by
  have hr : r ∈ [((5 : Int), ("back" : Str)), (12, "back"), (12, "back")] := hr
  rcases List.mem_cons.mp hr with h | hr
  · subst h; exact ⟨by decide, .inl rfl⟩
  rcases List.mem_cons.mp hr with h | hr
  · subst h; exact ⟨by decide, .inl rfl⟩
  rw [List.mem_singleton] at hr
  subst hr; exact ⟨by decide, .inl rfl⟩, by show ((5 : Int) - 1) + ((12 - 1) + ((12 - 1) + 0)) < 30; decide⟩
def spConInit (C BC : Addr) : Spec Addr := { args := fun q => [dAt q], ms := fun q => [(q, mI C [])], post := fun q d m => d = R () ∧ ∃ l, m = [(q, mI C (coF defClk l)), (l, mI BC (bcF defClk []))] }
theorem sc1060 : FnScope ["self"] ["self"] (defScope (clM 106 0)) := ⟨rfl, rfl, rfl, by decide +kernel, rfl, by decide +kernel, by decide +kernel⟩
theorem def_eq : (R ((30 : Int), [((5 : Int), ("back" : Str)), (12, "back"), (12, "back")]) : D) = R defClk := rfl
theorem se_tup (es : List Expr) (k p) (rest : List Expr) (env : Env) : starEach (.Tuple es k p :: rest) env = (false, eval (.Tuple es k p) env) :: starEach rest env := rfl
theorem se_lst (es : List Expr) (p) (rest : List Expr) (env : Env) : starEach (.List es p :: rest) env = (false, eval (.List es p) env) :: starEach rest env := rfl
theorem se_con (c k p) (rest : List Expr) (env : Env) : starEach (.Constant c k p :: rest) env = (false, eval (.Constant c k p) env) :: starEach rest env := rfl
theorem e_rl {X : Cx} {ds : Ds} {ms : MS} {i : Int} {z : Str} {j1 j2 x p1 p2 p3} : DE X ds ms (.Tuple [.Constant (.int i) j1 p1, .Constant (.str z) j2 p2] x p3) (R (i, z)) := e_pair e_int e_str (se_con ..) (se_con ..)
theorem e_def {X : Cx} {ds : Ds} {ms : MS} {p1 p2 p3 p4 p5 p6 p7 p8 p9 pa pb pc : Pos} {x1 x2 x3 x4 j1 j2 j3 j4 j5 j6 j7} : DE X ds ms (.Tuple [.Constant (.int 30) j1 p1, .List [.Tuple [.Constant (.int 5) j2 p2, .Constant (.str "back") j3 p3] x1 p4, .Tuple [.Constant (.int 12) j4 p5, .Constant (.str "back") j5 p6] x2 p7, .Tuple [.Constant (.int 12) j6 p8, .Constant (.str "back") j7 p9] x3 pa] pb] x4 pc) (R defClk) := by
  rw [← def_eq]
  have h2 : DA X ds ms [.Tuple [.Constant (.int 5) j2 p2, .Constant (.str "back") j3 p3] x1 p4, .Tuple [.Constant (.int 12) j4 p5, .Constant (.str "back") j5 p6] x2 p7, .Tuple [.Constant (.int 12) j6 p8, .Constant (.str "back") j7 p9] x3 pa] [R ((5 : Int), ("back" : Str)), R ((12 : Int), ("back" : Str)), R ((12 : Int), ("back" : Str))] := a_cons e_rl (a_cons e_rl (a_one e_rl (se_tup ..)) (se_tup ..)) (se_tup ..)
  have h1 : DE X ds ms (.List [.Tuple [.Constant (.int 5) j2 p2, .Constant (.str "back") j3 p3] x1 p4, .Tuple [.Constant (.int 12) j4 p5, .Constant (.str "back") j5 p6] x2 p7, .Tuple [.Constant (.int 12) j6 p8, .Constant (.str "back") j7 p9] x3 pa] pb) (R [((5 : Int), ("back" : Str)), (12, "back"), (12, "back")]) := e_lst h2 rfl (by show 3 ≤ 1000000; decide)
  exact e_pair e_int h1 (se_con ..) (se_lst ..)
theorem ok_con_init (a : ConAt K mg C) (h1 : HasM P w K mg base C "set_anew" 8 (spAnew C BC)) : HasC P w K mg base "Console" C 9 (spConInit C BC) := hasC_of a.init fun f fd F => by
  refine fn_ok (spConInit C BC) F sc1060 (fun _ => rfl) fun q _ cdv A outer s H E hr => ?_
  refine d_expr (i_meth (S := spAnew C BC) (q := q) (fs := []) h1 hr (by exact e_var 0) .h0 rfl (ai_pure (dl := [R defClk]) (a_one e_def (se_tup ..)) ⟨⟨q, defClk, []⟩, [], rfl, .refl _, ⟨defClk_ok, .inl rfl⟩, fun d m2 hd => ?_⟩) (se_tup ..))
  obtain ⟨rfl, l, rfl⟩ := hd
  exact d_nil ⟨_, ⟨rfl, l, rfl⟩, .same trivial⟩
/-! change -/
theorem sc1062 : FnScope ["self", "name", "values"] ["self", "name", "values"] (defScope (clM 106 2)) := ⟨rfl, rfl, rfl, by decide +kernel, rfl, by decide +kernel, by decide +kernel⟩
structure ChA where
  q : Addr
  l : Addr
  c0 : Clk
  c : Clk
  L : List Ent
def chMs (C BC : Addr) (a : ChA) : MS := [(a.q, mI C (coF a.c0 a.l)), (a.l, mI BC (bcF a.c a.L))]
def spChClock (C BC : Addr) : Spec (ChA × Clk) := { args := fun a => [dAt a.1.q, R ("clock" : Str), R [a.2]], ms := fun a => chMs C BC a.1, pre := fun a => ClkOk a.2, post := fun a d m => d = R true ∧ ∃ l, m = chMs C BC ⟨a.1.q, l, a.2, a.2, []⟩ }
theorem ok_chClock (a : ConAt K mg C) (h1 : HasM P w K mg base C "set_anew" 8 (spAnew C BC)) : HasM P w K mg base C "change" 9 (spChClock C BC) := hasM_of a.change fun f fd F => by
  refine fn_ok (spChClock C BC) F sc1062 (fun _ => rfl) fun ⟨⟨q, l, c0, c, L⟩, c2⟩ hc cdv A outer s H E hr => ?_
  have hc : ClkOk c2 := hc
  refine d_match (by exact e_var 1) (m_case true rfl (fun h => by cases h) fun _ => ?_)
  refine d_expr (i_meth (S := spAnew C BC) (q := q) (fs := coF c0 l) h1 hr (by exact e_var 0) .h0 (co_l rfl rfl) (ai_pure (dl := [R c2]) (by exact a_one (e_item (xs := [c2]) (r_R (e_var 2)) e_int (atI_nat' (Int.le_refl _) rfl))) ⟨⟨q, c2, coF c0 l⟩, [(l, mI BC (bcF c L))], rfl, .refl _, ⟨hc, .inr ⟨c0, l, rfl⟩⟩, fun d m2 hd => ?_⟩))
  obtain ⟨rfl, l2, rfl⟩ := hd
  exact d_nil (d_ret (d := R true) (by exact e_bool) ⟨chMs C BC ⟨q, l2, c2, c2, []⟩, ⟨rfl, l2, rfl⟩, .less trivial (by show List.Sublist [_, _] [_, _, _]; exact List.Sublist.cons₂ _ (List.Sublist.cons₂ _ (List.nil_sublist _)))⟩)
def spChRun (C BC : Addr) : Spec (ChA × Int) := { args := fun a => [dAt a.1.q, R ("run" : Str), R [a.2]], ms := fun a => chMs C BC a.1, pre := fun a => LvOk a.1.c a.1.L ∧ 1 ≤ a.2, post := fun a d m => d = R true ∧ m = chMs C BC ⟨a.1.q, a.1.l, a.1.c0, a.1.c, runL a.1.c a.1.L a.2⟩ }
theorem ok_chRun (a : ConAt K mg C) (h1 : HasM P w K mg base BC "run" 29 (spRun BC)) : HasM P w K mg base C "change" 30 (spChRun C BC) := hasM_of a.change fun f fd F => by
  refine fn_ok (spChRun C BC) F sc1062 (fun _ => rfl) fun ⟨⟨q, l, c0, c, L⟩, n⟩ ⟨hv, hn⟩ cdv A outer s H E hr => ?_
  refine d_match (by exact e_var 1) (m_case false (by decide +kernel) (fun _ => m_case false (by decide +kernel) (fun _ => m_case true rfl (fun h => by cases h) fun _ => ?_) fun h => by cases h) fun h => by cases h)
  refine d_expr (i_meth (S := spRun BC) (q := l) (fs := bcF c L) h1 hr (by exact e_fld (fs := coF c0 l) a.change.c (e_var 0) .h0 rfl a.n2) (.s .h0) (bc_l rfl rfl) (ai_pure (dl := [R n]) (by exact a_one (e_item (xs := [n]) (r_R (e_var 2)) e_int (atI_nat' (Int.le_refl _) rfl))) ⟨⟨l, c, L, n⟩, [(q, mI C (coF c0 l))], rfl, List.Perm.swap _ _ _, ⟨hv, hn⟩, fun d m2 hd => ?_⟩))
  obtain ⟨rfl, rfl⟩ := hd
  exact d_nil (d_ret (d := R true) (by exact e_bool) ⟨_, ⟨rfl, rfl⟩, .perm (List.Perm.swap _ _ _)⟩)
def spChSwap (C BC : Addr) : Spec (ChA × Int × Int) := { args := fun a => [dAt a.1.q, R ("swap" : Str), R [a.2.1, a.2.2]], ms := fun a => chMs C BC a.1, pre := fun a => LvOk a.1.c a.1.L ∧ (0 ≤ a.2.1 ∧ a.2.1 < a.1.c.1) ∧ (0 ≤ a.2.2 ∧ a.2.2 < a.1.c.1) ∧ a.2.1 ≠ a.2.2, post := fun a d m => d = R true ∧ m = chMs C BC ⟨a.1.q, a.1.l, a.1.c0, a.1.c, swapL a.1.c a.1.L a.2.1 a.2.2⟩ }
theorem ok_chSwap (a : ConAt K mg C) (h1 : HasM P w K mg base BC "swap" 5 (spSwap BC)) : HasM P w K mg base C "change" 6 (spChSwap C BC) := hasM_of a.change fun f fd F => by
  refine fn_ok (spChSwap C BC) F sc1062 (fun _ => rfl) fun ⟨⟨q, l, c0, c, L⟩, x, y⟩ hp cdv A outer s H E hr => ?_
  refine d_match (by exact e_var 1) (m_case false (by decide +kernel) (fun _ => m_case false (by decide +kernel) (fun _ => m_case false (by decide +kernel) (fun _ => m_case true rfl (fun h => by cases h) fun _ => ?_) fun h => by cases h) fun h => by cases h) fun h => by cases h)
  refine d_expr (i_meth (S := spSwap BC) (q := l) (fs := bcF c L) h1 hr (by exact e_fld (fs := coF c0 l) a.change.c (e_var 0) .h0 rfl a.n2) (.s .h0) (bc_l rfl rfl) (ai_pure (dl := [R x, R y]) (by exact a_cons (e_item (xs := [x, y]) (r_R (e_var 2)) e_int (atI_nat' (Int.le_refl _) rfl)) (a_one (e_item (xs := [x, y]) (r_R (e_var 2)) e_int (atI_nat' (by decide) rfl)))) ⟨⟨l, c, L, x, y⟩, [(q, mI C (coF c0 l))], rfl, List.Perm.swap _ _ _, hp, fun d m2 hd => ?_⟩))
  obtain ⟨rfl, rfl⟩ := hd
  exact d_nil (d_ret (d := R true) (by exact e_bool) ⟨_, ⟨rfl, rfl⟩, .perm (List.Perm.swap _ _ _)⟩)
def spChNo (C BC : Addr) : Spec (ChA × Str) := { args := fun a => [dAt a.1.q, R a.2, R ([] : List Int)], ms := fun a => chMs C BC a.1, pre := fun a => a.2 = "sight" ∨ a.2 = "when", post := fun a d m => d = R false ∧ m = chMs C BC a.1 }
theorem ok_chNo (a : ConAt K mg C) : HasM P w K mg base C "change" 1 (spChNo C BC) := hasM_of a.change fun f fd F => by
  refine fn_ok (spChNo C BC) F sc1062 (fun _ => rfl) fun ⟨x, z⟩ hz cdv A outer s H E hr => ?_
  have hz : z = "sight" ∨ z = "when" := hz
  have hne : ∀ y : Str, y ≠ "sight" → y ≠ "when" → decide (z = y) = false := fun y h1 h2 => decide_eq_false fun e => by
    rcases hz with h | h
    · exact h1 (e.symm.trans h)
    · exact h2 (e.symm.trans h)
  refine d_match (by exact e_var 1) (m_case false (hne _ (by decide +kernel) (by decide +kernel)) (fun _ => m_case false (hne _ (by decide +kernel) (by decide +kernel)) (fun _ => m_case false (hne _ (by decide +kernel) (by decide +kernel)) (fun _ => m_case false (hne _ (by decide +kernel) (by decide +kernel)) (fun _ => m_case false (hne _ (by decide +kernel) (by decide +kernel)) (fun _ => m_wild ?_) fun h => by cases h) fun h => by cases h) fun h => by cases h) fun h => by cases h) fun h => by cases h)
  exact d_ret (d := R false) (by exact e_bool) ⟨_, ⟨rfl, rfl⟩, .same trivial⟩
/-! answer -/
theorem sc1063 : FnScope ["self", "name", "values", "clock", "live"] ["self", "name", "values"] (defScope (clM 106 3)) := ⟨rfl, rfl, rfl, by decide +kernel, rfl, by decide +kernel, by decide +kernel⟩
def spAnSight (C BC : Addr) : Spec ChA := { args := fun a => [dAt a.q, R ("sight" : Str), R ([] : List Int)], ms := fun a => chMs C BC a, pre := fun a => LvOk a.c a.L, post := fun a d m => d = R (fmtS (nowOf a.c a.L)) ∧ m = chMs C BC a }
theorem ok_anSight (a : ConAt K mg C) (h1 : HasP P w K mg base BC "sight" 2 (spSight BC)) (h2 : Has P w K mg base "format_sight" 1 spFmtS) : HasM P w K mg base C "answer" 4 (spAnSight C BC) := hasM_of a.answer fun f fd F => by
  refine fn_ok (spAnSight C BC) F sc1063 (fun _ => rfl) fun ⟨q, l, c0, c, L⟩ hv cdv A outer s H E hr => ?_
  have hv : LvOk c L := hv
  refine d_par (da := R c0) (db := dAt l) 3 4 rfl sc1063.nd (by exact e_fld (fs := coF c0 l) a.answer.c (e_var 0) .h0 rfl a.n1) (by exact e_fld (fs := coF c0 l) a.answer.c (e_var 0) .h0 rfl a.n2) ?_
  refine d_match (by exact e_var 1) (m_case true rfl (fun h => by cases h) fun _ => ?_)
  exact d_ret (d := R (fmtS (nowOf c L))) (by exact e_call h2 (hr.mono (by decide)) (nowOf c L) rfl (fun _ _ h => h) (a_one (e_prop (S := spSight BC) (fs := bcF c L) (cs := [(l, mI BC (bcF c L))]) (rest := [(q, mI C (coF c0 l))]) h1 hr (e_var 4) (.s .h0) (List.Perm.swap _ _ _) (fun g => ⟨⟨l, c, L, g⟩, rfl, rfl, hv, fun d' m h => h⟩))) (hv.now.sg hv.c.toClkOk)) ⟨_, ⟨rfl, rfl⟩, .same trivial⟩
theorem past_bd {c : Clk} (hc : ClkS c) {s : Sight} (h : SightOk c s) : 0 ≤ (ticksPast c s).1 ∧ (ticksPast c s).1 < 2048 := by
  have key : ∀ (l : List (Rail × List Int)) (a b : Int), (∀ x ∈ l, (x.2.length : Int) < x.1.1) → (∀ x ∈ l, 2 ≤ x.1.1) → 0 ≤ a → a < b → 0 ≤ (l.foldl (fun (a : Int × Int) x => (a.1 + a.2 * (x.2.length : Int), a.2 * x.1.1)) (a, b)).1 ∧ (l.foldl (fun (a : Int × Int) x => (a.1 + a.2 * (x.2.length : Int), a.2 * x.1.1)) (a, b)).1 < (l.map (·.1)).foldl (fun a r => a * r.1) b := fun l => by
    induction l with
    | nil => intro a b _ _ h0 h1; exact ⟨h0, h1⟩
    | cons x l ih =>
      intro a b h1 h2 h3 h4
      have hx := h1 x List.mem_cons_self
      have e1 : b * ((x.2.length : Int) + 1) ≤ b * x.1.1 := Int.mul_le_mul_of_nonneg_left (by omega) (by omega)
      rw [Int.mul_add, Int.mul_one] at e1
      have e2 : 0 ≤ b * (x.2.length : Int) := Int.mul_nonneg (by omega) (by omega)
      exact ih (a + b * (x.2.length : Int)) (b * x.1.1) (fun y hy => h1 y (List.mem_cons_of_mem _ hy)) (fun y hy => h2 y (List.mem_cons_of_mem _ hy)) (by omega) (by omega)
  obtain ⟨z1, z2⟩ := zip_rows hc.toClkOk h
  have h1 := key (c.2.zip s.tail) 0 1 z1 z2 (Int.le_refl _) (by decide)
  have hl := h.len
  have e3 : (c.2.zip s.tail).map (·.1) = c.2 := by
    have : ∀ {l : List Rail} {m : List (List Int)}, l.length = m.length → (l.zip m).map (·.1) = l := fun {l} => by
      induction l with
      | nil => intro m _; cases m <;> rfl
      | cons x l ih =>
        intro m hm
        cases m with
        | nil => simp at hm
        | cons y m => rw [List.zip_cons_cons, List.map_cons, ih (by simpa using hm)]
    exact this (by rw [List.length_tail]; omega)
  rw [e3] at h1
  have ht := hc.turn
  have h2 : (ticksPast c s).1 < turnOf c.2 := h1.2
  exact ⟨h1.1, by omega⟩
theorem tickOf_nm {c : Clk} (hc : ClkS c) {s : Sight} (h : SightOk c s) : ∀ n, tickOf c s = some n → Nm n := fun n hn => by
  unfold tickOf at hn
  obtain ⟨t, h1, rfl⟩ := Option.map_eq_some_iff.mp hn
  obtain ⟨h2, h3⟩ := tick_nn hc h h1
  obtain ⟨h4, h5⟩ := past_bd hc h
  have ht := hc.turn
  have e1 : 0 ≤ t.1 * turnOf c.2 := Int.mul_nonneg h2 (by omega)
  have e2 : t.1 * turnOf c.2 ≤ t.1 * 2048 := Int.mul_le_mul_of_nonneg_left (by omega) h2
  exact ⟨by omega, by omega⟩
def spAnWhen (C BC : Addr) : Spec ChA := { args := fun a => [dAt a.q, R ("when" : Str), R ([] : List Int)], ms := fun a => chMs C BC a, pre := fun a => LvOk a.c a.L ∧ a.c0 = a.c, post := fun a d m => d = R (vtOf (tickOf a.c (nowOf a.c a.L))) ∧ m = chMs C BC a }
theorem ok_anWhen (a : ConAt K mg C) (h1 : HasP P w K mg base BC "sight" 2 (spSight BC)) (h2 : Has P w K mg base "tick_of" 28 spTickOf) (h3 : Has P w K mg base "value_text" 1 spVt) : HasM P w K mg base C "answer" 29 (spAnWhen C BC) := hasM_of a.answer fun f fd F => by
  refine fn_ok (spAnWhen C BC) F sc1063 (fun _ => rfl) fun ⟨q, l, c0, c, L⟩ ⟨hv, he⟩ cdv A outer s H E hr => ?_
  have hv : LvOk c L := hv
  have he : c0 = c := he
  subst he
  refine d_par (da := R c0) (db := dAt l) 3 4 rfl sc1063.nd (by exact e_fld (fs := coF c0 l) a.answer.c (e_var 0) .h0 rfl a.n1) (by exact e_fld (fs := coF c0 l) a.answer.c (e_var 0) .h0 rfl a.n2) ?_
  refine d_match (by exact e_var 1) (m_case false (by decide +kernel) (fun _ => m_case false (by decide +kernel) (fun _ => m_case false (by decide +kernel) (fun _ => m_case false (by decide +kernel) (fun _ => m_case false (by decide +kernel) (fun _ => m_case true rfl (fun h => by cases h) fun _ => ?_) fun h => by cases h) fun h => by cases h) fun h => by cases h) fun h => by cases h) fun h => by cases h)
  exact d_ret (d := R (vtOf (tickOf c0 (nowOf c0 L)))) (by exact e_call h3 (hr.mono (by decide)) (tickOf c0 (nowOf c0 L)) rfl (fun _ _ h => h) (a_one (e_call h2 hr (c0, nowOf c0 L) rfl (fun _ _ h => h) (a_cons (e_var 3) (a_one (e_prop (S := spSight BC) (fs := bcF c0 L) (cs := [(l, mI BC (bcF c0 L))]) (rest := [(q, mI C (coF c0 l))]) h1 (hr.mono (by decide)) (e_var 4) (.s .h0) (List.Perm.swap _ _ _) (fun g => ⟨⟨l, c0, L, g⟩, rfl, rfl, hv, fun d' m h => h⟩)))) ⟨hv.c, hv.now⟩)) (tickOf_nm hv.c hv.now)) ⟨_, ⟨rfl, rfl⟩, .same trivial⟩
/-! execute -/
abbrev N1064 : List Str := ["self", "command", "name", "words", "values"]
theorem sc1064 : FnScope N1064 ["self", "command"] (defScope (clM 106 4)) := ⟨rfl, rfl, rfl, by decide +kernel, rfl, by decide +kernel, by decide +kernel⟩
def spExClock (C BC : Addr) : Spec (ChA × Clk) := { args := fun a => [dAt a.1.q, R (Txt.join " " ("clock" :: clkW a.2))], ms := fun a => chMs C BC a.1, pre := fun a => ClkOk a.2, post := fun a d m => d = R ("ok" : Str) ∧ ∃ l, m = chMs C BC ⟨a.1.q, l, a.2, a.2, []⟩ }
theorem ws_cons {x : Str} {ws : List Str} (h : WsOk ws) (hx : 32 ∉ tl x) (hl : x.length ≤ 100) (h2 : ws.length < 2000) : WsOk (x :: ws) := ⟨by simp, fun y hy => by
  rcases List.mem_cons.mp hy with e | hy
  · rw [e]; exact hx
  · exact h.sp y hy, by rw [List.length_cons]; omega, fun y hy => by
  rcases List.mem_cons.mp hy with e | hy
  · rw [e]; exact hl
  · exact h.sz y hy⟩
theorem ok_exClock (T : Tx K mg) (a : ConAt K mg C) (h1 : HasM P w K mg base C "change" 9 (spChClock C BC)) (h2 : Has P w K mg base "command_values" 5 spCmdC) : HasM P w K mg base C "execute" 10 (spExClock C BC) := hasM_of a.exec fun f fd F => by
  refine fn_ok (spExClock C BC) F sc1064 (fun _ => rfl) fun ⟨⟨q, l, c0, c, L⟩, c2⟩ hc cdv A outer s H E hr => ?_
  have hc : ClkOk c2 := hc
  have hw := clkW_ok hc
  have hlen : (clkW c2).length ≤ 101 := by unfold clkW; rw [List.length_cons, List.length_map]; have := hc.len_le; omega
  have hw2 := ws_cons (x := "clock") hw (by decide +kernel) (by decide +kernel) (by omega)
  refine d_no (k := !true) (by exact b_not (b_val (e_isi "str" T.isinstance (e_var 1) ty_str T.str (by decide +kernel) (by decide +kernel)))) rfl ?_
  refine d_asg (d := dL (R ("clock" : Str) :: (clkW c2).map fun x => R x)) (by exact e_eq (e_split (e_var 1) e_str (by decide +kernel) (line_of (show (Txt.join " " ("clock" :: clkW c2)).length + 2 ≤ 1000000 by have := hw2.join_le; omega))) (by rw [hw2.split]; rfl)) (g_star rfl (gs_cons (g_name 2 sc1064.nd) (gs_last (g_name (d := R (clkW c2)) 3 sc1064.nd))) (by rw [List.length_map]; omega)) ?_
  refine d_set (d := R [c2]) 4 sc1064.nd (by exact e_call h2 (hr.mono (by decide)) c2 rfl (fun _ _ h => h) (a_cons (e_var 2) (a_one (e_var 3))) hc) ?_
  refine d_no (by exact b_isN (d := R [c2]) (e_var 4) nn_list) rfl ?_
  refine d_retI (i_if (bi_val (i_meth (S := spChClock C BC) (q := q) (fs := coF c0 l) h1 hr (by exact e_var 0) .h0 (co_l rfl rfl) (ai_pure (dl := [R ("clock" : Str), R [c2]]) (by exact a_cons (e_var 2) (a_one (e_var 4))) ⟨(⟨q, l, c0, c, L⟩, c2), [], rfl, .refl _, hc, fun d m2 hd => ?_⟩))))
  obtain ⟨rfl, l2, rfl⟩ := hd
  exact ⟨true, rfl, fun _ => i_pure (d := R ("ok" : Str)) (by exact e_str) ⟨_, ⟨rfl, l2, rfl⟩, .same trivial⟩, fun h => by cases h⟩
end
end Bh
/-! V18: console: commands of numbers. -/
namespace Bh
open PySem PySem.Spec PyProof.Rows L2 TL SX
theorem cmd_ws {z : Str} {ns : List Int} (hz : NumCmd z ns.length) (hn : ∀ n ∈ ns, Nm n) : WsOk (z :: ns.map sI) := by
  have hz2 : 32 ∉ tl z ∧ z.length ≤ 100 := by rcases hz with h | h | h | h <;> rw [h.1] <;> decide +kernel
  have hl : ns.length ≤ 2 := by rcases hz with h | h | h | h <;> omega
  refine ⟨by simp, fun y hy => ?_, by rw [List.length_cons, List.length_map]; omega, fun y hy => ?_⟩
  · rcases List.mem_cons.mp hy with e | hy
    · rw [e]; exact hz2.1
    · obtain ⟨b, hb, rfl⟩ := List.mem_map.mp hy
      rw [sI_S (hn b hb).1]
      exact numL_free (Or.inl (by decide))
  · rcases List.mem_cons.mp hy with e | hy
    · rw [e]; exact hz2.2
    · obtain ⟨b, hb, rfl⟩ := List.mem_map.mp hy
      have := sI_len (hn b hb)
      omega
section
variable {P : Program} {w : World} {K : PySem.W.Frag} {mg : Str → Option Value} {base : Heap} {C BC : Addr}
def spExRun (C BC : Addr) : Spec (ChA × Int) := { args := fun a => [dAt a.1.q, R (Txt.join " " ["run", sI a.2])], ms := fun a => chMs C BC a.1, pre := fun a => LvOk a.1.c a.1.L ∧ 1 ≤ a.2 ∧ Nm a.2, post := fun a d m => d = R ("ok" : Str) ∧ m = chMs C BC ⟨a.1.q, a.1.l, a.1.c0, a.1.c, runL a.1.c a.1.L a.2⟩ }
theorem ok_exRun (T : Tx K mg) (a : ConAt K mg C) (h1 : HasM P w K mg base C "change" 30 (spChRun C BC)) (h2 : Has P w K mg base "command_values" 5 spCmdN) : HasM P w K mg base C "execute" 31 (spExRun C BC) := hasM_of a.exec fun f fd F => by
  refine fn_ok (spExRun C BC) F sc1064 (fun _ => rfl) fun ⟨⟨q, l, c0, c, L⟩, n⟩ ⟨hv, hn1, hn⟩ cdv A outer s H E hr => ?_
  have hn : Nm n := hn
  have hcmd : NumCmd "run" [n].length := .inl ⟨rfl, rfl⟩
  have hns : ∀ x ∈ [n], Nm x := fun x hx => by rw [List.mem_singleton] at hx; rw [hx]; exact hn
  have hw := cmd_ws hcmd hns
  refine d_no (k := !true) (by exact b_not (b_val (e_isi "str" T.isinstance (e_var 1) ty_str T.str (by decide +kernel) (by decide +kernel)))) rfl ?_
  refine d_asg (d := dL (R ("run" : Str) :: ([n].map sI).map fun x => R x)) (by exact e_eq (e_split (e_var 1) e_str (by decide +kernel) (line_of (show (Txt.join " " ("run" :: [n].map sI)).length + 2 ≤ 1000000 by have := hw.join_le; omega))) (congrArg (fun l : List Str => (R l : D)) hw.split)) (g_star rfl (gs_cons (g_name 2 sc1064.nd) (gs_last (g_name (d := R ([n].map sI)) 3 sc1064.nd))) (by show 1 ≤ 16000; decide)) ?_
  refine d_set (d := R [n]) 4 sc1064.nd (by exact e_call h2 (hr.mono (by decide)) ⟨"run", [n]⟩ rfl (fun _ _ h => h) (a_cons (e_var 2) (a_one (e_var 3))) ⟨hcmd, hns⟩) ?_
  refine d_no (by exact b_isN (d := R [n]) (e_var 4) nn_list) rfl ?_
  refine d_retI (i_if (bi_val (i_meth (S := spChRun C BC) (q := q) (fs := coF c0 l) h1 hr (by exact e_var 0) .h0 (co_l rfl rfl) (ai_pure (dl := [R ("run" : Str), R [n]]) (by exact a_cons (e_var 2) (a_one (e_var 4))) ⟨(⟨q, l, c0, c, L⟩, n), [], rfl, .refl _, ⟨hv, hn1⟩, fun d m2 hd => ?_⟩))))
  obtain ⟨rfl, rfl⟩ := hd
  exact ⟨true, rfl, fun _ => i_pure (d := R ("ok" : Str)) (by exact e_str) ⟨_, ⟨rfl, rfl⟩, .same trivial⟩, fun h => by cases h⟩
def spExSwap (C BC : Addr) : Spec (ChA × Int × Int) := { args := fun a => [dAt a.1.q, R (Txt.join " " ["swap", sI a.2.1, sI a.2.2])], ms := fun a => chMs C BC a.1, pre := fun a => LvOk a.1.c a.1.L ∧ (0 ≤ a.2.1 ∧ a.2.1 < a.1.c.1) ∧ (0 ≤ a.2.2 ∧ a.2.2 < a.1.c.1) ∧ a.2.1 ≠ a.2.2, post := fun a d m => d = R ("ok" : Str) ∧ m = chMs C BC ⟨a.1.q, a.1.l, a.1.c0, a.1.c, swapL a.1.c a.1.L a.2.1 a.2.2⟩ }
theorem ok_exSwap (T : Tx K mg) (a : ConAt K mg C) (h1 : HasM P w K mg base C "change" 6 (spChSwap C BC)) (h2 : Has P w K mg base "command_values" 5 spCmdN) : HasM P w K mg base C "execute" 7 (spExSwap C BC) := hasM_of a.exec fun f fd F => by
  refine fn_ok (spExSwap C BC) F sc1064 (fun _ => rfl) fun ⟨⟨q, l, c0, c, L⟩, x, y⟩ ⟨hv, hx, hy, hxy⟩ cdv A outer s H E hr => ?_
  have hv : LvOk c L := hv
  have hx : 0 ≤ x ∧ x < c.1 := hx
  have hy : 0 ≤ y ∧ y < c.1 := hy
  have h12 := hv.c.sm12
  have hcmd : NumCmd "swap" [x, y].length := .inr (.inl ⟨rfl, rfl⟩)
  have hns : ∀ z ∈ [x, y], Nm z := fun z hz => by
    rcases List.mem_cons.mp hz with e | hz
    · rw [e]; exact nm_small hx.1 (by omega)
    · rw [List.mem_singleton] at hz; rw [hz]; exact nm_small hy.1 (by omega)
  have hw := cmd_ws hcmd hns
  refine d_no (k := !true) (by exact b_not (b_val (e_isi "str" T.isinstance (e_var 1) ty_str T.str (by decide +kernel) (by decide +kernel)))) rfl ?_
  refine d_asg (d := dL (R ("swap" : Str) :: ([x, y].map sI).map fun x => R x)) (by exact e_eq (e_split (e_var 1) e_str (by decide +kernel) (line_of (show (Txt.join " " ("swap" :: [x, y].map sI)).length + 2 ≤ 1000000 by have := hw.join_le; omega))) (congrArg (fun l : List Str => (R l : D)) hw.split)) (g_star rfl (gs_cons (g_name 2 sc1064.nd) (gs_last (g_name (d := R ([x, y].map sI)) 3 sc1064.nd))) (by show 2 ≤ 16000; decide)) ?_
  refine d_set (d := R [x, y]) 4 sc1064.nd (by exact e_call h2 (hr.mono (by decide)) ⟨"swap", [x, y]⟩ rfl (fun _ _ h => h) (a_cons (e_var 2) (a_one (e_var 3))) ⟨hcmd, hns⟩) ?_
  refine d_no (by exact b_isN (d := R [x, y]) (e_var 4) nn_list) rfl ?_
  refine d_retI (i_if (bi_val (i_meth (S := spChSwap C BC) (q := q) (fs := coF c0 l) h1 hr (by exact e_var 0) .h0 (co_l rfl rfl) (ai_pure (dl := [R ("swap" : Str), R [x, y]]) (by exact a_cons (e_var 2) (a_one (e_var 4))) ⟨(⟨q, l, c0, c, L⟩, x, y), [], rfl, .refl _, ⟨hv, hx, hy, hxy⟩, fun d m2 hd => ?_⟩))))
  obtain ⟨rfl, rfl⟩ := hd
  exact ⟨true, rfl, fun _ => i_pure (d := R ("ok" : Str)) (by exact e_str) ⟨_, ⟨rfl, rfl⟩, .same trivial⟩, fun h => by cases h⟩
/-- sight, when -/
theorem ok_exTell (T : Tx K mg) (a : ConAt K mg C) (h1 : HasM P w K mg base C "change" 1 (spChNo C BC)) (h2 : Has P w K mg base "command_values" 5 spCmdN) {k : Nat} (hk : 5 ≤ k) {S : Spec ChA} {z res : Str} {x : ChA} (hz : z = "sight" ∨ z = "when") (h3 : HasM P w K mg base C "answer" k S)
    (e1 : S.args x = [dAt x.q, R z, R ([] : List Int)]) (e2 : S.ms x = chMs C BC x) (e3 : S.pre x) (e4 : ∀ d m, S.post x d m → d = R res ∧ m = chMs C BC x) (cdv : Value) (A : Around) (outer : List Env) (s : Shared) (H : Hp) (E : XK) (f : Addr)
    (hr : Room k (A.deeper (envOfC "Console.execute" (defScope (clM 106 4)) s.heap.objs.size f cdv))) (Sx : Spec ChA) (hpost : ∀ m, m = chMs C BC x → Sx.post x (R res) m) :
    DS (cxOf CX0 P w K mg base N1064 "Console.execute" (defScope (clM 106 4)) f cdv A outer s H E).nox (num 0 [dAt x.q, R (Txt.join " " [z])]) (chMs C BC x) (defBody (clM 106 4)) (seOf Sx x) := by
  have hcmd : NumCmd z ([] : List Int).length := by
    rcases hz with h | h
    · exact .inr (.inr (.inl ⟨h, rfl⟩))
    · exact .inr (.inr (.inr ⟨h, rfl⟩))
  have hns : ∀ n ∈ ([] : List Int), Nm n := fun n h => nomatch h
  have hw := cmd_ws hcmd hns
  refine d_no (k := !true) (by exact b_not (b_val (e_isi "str" T.isinstance (e_var 1) ty_str T.str (by decide +kernel) (by decide +kernel)))) rfl ?_
  refine d_asg (d := dL (R z :: (([] : List Int).map sI).map fun x => R x)) (by exact e_eq (e_split (e_var 1) e_str (by decide +kernel) (line_of (show (Txt.join " " (z :: ([] : List Int).map sI)).length + 2 ≤ 1000000 by have := hw.join_le; omega))) (congrArg (fun l : List Str => (R l : D)) hw.split)) (g_star rfl (gs_cons (g_name 2 sc1064.nd) (gs_last (g_name (d := R (([] : List Int).map sI)) 3 sc1064.nd))) (by show 0 ≤ 16000; decide)) ?_
  refine d_set (d := R ([] : List Int)) 4 sc1064.nd (by exact e_call h2 (hr.mono hk) ⟨z, []⟩ rfl (fun _ _ h => h) (a_cons (e_var 2) (a_one (e_var 3))) ⟨hcmd, hns⟩) ?_
  refine d_no (by exact b_isN (d := R ([] : List Int)) (e_var 4) nn_list) rfl ?_
  refine d_retI (i_if (bi_val (i_meth (S := spChNo C BC) (q := x.q) (fs := coF x.c0 x.l) h1 (hr.mono (by omega)) (by exact e_var 0) .h0 (co_l rfl rfl) (ai_pure (dl := [R z, R ([] : List Int)]) (by exact a_cons (e_var 2) (a_one (e_var 4))) ⟨(x, z), [], rfl, by rw [List.append_nil]; exact .refl _, hz, fun d m2 hd => ?_⟩))))
  obtain ⟨rfl, rfl⟩ := hd
  refine ⟨false, rfl, (fun h => by cases h), fun _ => ?_⟩
  show DI _ _ (chMs C BC x ++ []) _ _
  rw [List.append_nil]
  refine i_meth (S := S) (q := x.q) (fs := coF x.c0 x.l) h3 hr (by exact e_var 0) .h0 (co_l rfl rfl) (ai_pure (dl := [R z, R ([] : List Int)]) (by exact a_cons (e_var 2) (a_one (e_var 4))) ⟨x, [], e1, by rw [List.append_nil, e2], e3, fun d m2 hd => ?_⟩)
  obtain ⟨rfl, rfl⟩ := e4 d m2 hd
  rw [List.append_nil]
  exact ⟨_, hpost _ rfl, .same trivial⟩
def spExSight (C BC : Addr) : Spec ChA := { args := fun a => [dAt a.q, R (Txt.join " " [("sight" : Str)])], ms := fun a => chMs C BC a, pre := fun a => LvOk a.c a.L, post := fun a d m => d = R (fmtS (nowOf a.c a.L)) ∧ m = chMs C BC a }
theorem ok_exSight (T : Tx K mg) (a : ConAt K mg C) (h1 : HasM P w K mg base C "change" 1 (spChNo C BC)) (h2 : Has P w K mg base "command_values" 5 spCmdN) (h3 : HasM P w K mg base C "answer" 5 (spAnSight C BC)) : HasM P w K mg base C "execute" 6 (spExSight C BC) := hasM_of a.exec fun f fd F =>
  fn_ok (spExSight C BC) F sc1064 (fun _ => rfl) fun x hv cdv A outer s H E hr => ok_exTell T a h1 h2 (Nat.le_refl _) (.inl rfl) h3 rfl rfl hv (fun d m h => h) cdv A outer s H E f hr (spExSight C BC) fun m e => ⟨rfl, e⟩
def spExWhen (C BC : Addr) : Spec ChA := { args := fun a => [dAt a.q, R (Txt.join " " [("when" : Str)])], ms := fun a => chMs C BC a, pre := fun a => LvOk a.c a.L ∧ a.c0 = a.c, post := fun a d m => d = R (vtOf (tickOf a.c (nowOf a.c a.L))) ∧ m = chMs C BC a }
theorem ok_exWhen (T : Tx K mg) (a : ConAt K mg C) (h1 : HasM P w K mg base C "change" 1 (spChNo C BC)) (h2 : Has P w K mg base "command_values" 5 spCmdN) (h3 : HasM P w K mg base C "answer" 29 (spAnWhen C BC)) : HasM P w K mg base C "execute" 30 (spExWhen C BC) := hasM_of a.exec fun f fd F =>
  fn_ok (spExWhen C BC) F sc1064 (fun _ => rfl) fun x hv cdv A outer s H E hr => ok_exTell T a h1 h2 (by decide) (.inr rfl) h3 rfl rfl hv (fun d m h => h) cdv A outer s H E f hr (spExWhen C BC) fun m e => ⟨rfl, e⟩
end
end Bh
/-! V20: the law's draws. -/
namespace Bh
open PySem PySem.Spec PyProof.Rows L2
/-- a power of any int whose bits are few -/
def CPowW (i j : Int) : Prop := 0 ≤ j ∧ (Builtin.Int.intBits i : Int) * j ≤ 2 ^ 27
theorem op_powW {X : Cx} : OpR X (binaryOp .Pow) (rI CPowW fun i j => .int (i ^ j.toNat)) := opI fun _ _ _ _ _ _ _ hc q => pow_int hc.1 hc.2 q
theorem e_powW {X : Cx} {ds : Ds} {ms : MS} {a b : Expr} {pos : Pos} {i j : Int} (ha : DE X ds ms a (R i)) (hb : DE X ds ms b (R j)) (hc : CPowW i j) : DE X ds ms (.BinOp a .Pow b pos) (R (i ^ j.toNat)) := e_opI (g := fun i j => i ^ j.toNat) op_powW ha hb hc
theorem cube_ok {i : Int} (h0 : 0 ≤ i) (h : i < 2 ^ 1000) : CPowW i 3 := by
  have h1 : i.natAbs < 2 ^ 1000 := by
    have e : ((2 ^ 1000 : Nat) : Int) = 2 ^ 1000 := by simp
    omega
  have := PyProof.Rows.intBits_le h1
  exact ⟨by decide, by omega⟩
/-! ### the script: a list that may be one of the module's own -/
def dSc (K : PySem.W.Frag) (ns : List Int) : D := ⟨fun G v => ∃ a, v = .ref a ∧ SqL K G a (ns.map V.int), fun s ⟨a, h0, h1⟩ => ⟨a, h0, s.seq h1⟩⟩
theorem atI_int {ns : List Int} {i x : Int} (h : atI ns i = some x) : atI (ns.map V.int) i = some (V.int x) := by
  unfold atI at h ⊢
  rw [List.length_map]
  cases e : ixN ns.length i with
  | none =>
    rw [e] at h
    cases h
  | some j =>
    rw [e] at h
    show (ns.map V.int)[j]? = _
    rw [List.getElem?_map, show ns[j]? = some x from h]
    rfl
section
variable {X : Cx} {ds : Ds} {ms : MS} {a b : Expr} {pos p : Pos} {ns : List Int} {i x : Int}
theorem e_lenSc (hm : X.mg "len" = none) (ha : DE X ds ms a (dSc X.K ns)) (hg : Gl X "len" := by rfl) (he : starEach [a] X.env = (false, eval a X.env) :: starEach [] X.env := by rfl) (hpl : (backTo pos (starEach [] X.env)).any (·.1) = false := by rfl) : DE X ds ms (.Call (.Name "len" p) [a] [] pos) (R (ns.length : Int)) :=
  e_of (pe_callB call_len_seq hg hm PySem.boot_len (pa_cons (wE_ok a) pa_nil he) (by decide) (by decide) he hpl) fun σ H s Q k => ha σ H s _ fun v H1 e1 ⟨l, h0, h1⟩ => ⟨l, ns.map V.int, by rw [h0], .inl (mi_sub.seq h1), by
    have := k (.int (ns.length : Int)) H1 e1 rfl
    rw [List.length_map]
    exact this⟩
theorem e_ixSc (ha : DE X ds ms a (dSc X.K ns)) (hb : DE X ds ms b (R i)) (h : atI ns i = some x) (hs : PlainIx b := by exact fun _ _ => rfl) : DE X ds ms (.Subscript a b pos) (R x) := e_of (pe_ix ix_list (wE_ok a) (wE_ok b) hs) fun σ H s Q k =>
  two ha hb s fun v w H1 e1 ⟨l, h1, h2⟩ p2 => ⟨l, ns.map V.int, i, .int x, h1, p2, mi_sub.seq h2, atI_int h, k _ H1 e1 rfl⟩
end
/-- the jar: what is left of the cell, the seed, the draws from the seed -/
structure Jar where
  a : Int
  b : Int
  c : Int
structure JarOk (n : Int) (j : Jar) : Prop where
  a : 0 ≤ j.a
  b0 : 0 ≤ j.b
  b1 : j.b < 10 ^ 28
  c0 : 0 ≤ j.c
  c1 : j.c ≤ n
theorem JarOk.le {n m : Int} {j : Jar} (h : JarOk n j) (hm : n ≤ m) : JarOk m j := ⟨h.a, h.b0, h.b1, h.c0, by have := h.c1; omega⟩
def mJ (j : Jar) : MC := mR [j.a, j.b, j.c]
section
variable {P : Program} {w : World} {K : PySem.W.Frag} {mg : Str → Option Value} {base : Heap}
def spJar (K : PySem.W.Frag) : Spec (List Int × Nat) := { args := fun x => [dSc K x.1, R (x.2 : Int)], pre := fun x => x.2 ≤ 4, post := fun _ d m => ∃ q j, d = dAt q ∧ m = [(q, mJ j)] ∧ JarOk 0 j }
abbrev s127 : Stmt := top 127
abbrev N127 : List Str := ["_law_script", "_law_at", "_law_cell"]
theorem sc127 : FnScope N127 ["_law_script", "_law_at"] (defScope s127) := ⟨rfl, rfl, rfl, by decide +kernel, rfl, by decide +kernel, by decide +kernel⟩
theorem ok_jar (T : Tx K mg) (a : At K mg "_law_jar" s127 ["_law_script", "_law_at"]) : Has P w K mg base "_law_jar" 1 (spJar K) := has_of a fun f fd F => by
  refine fn_ok (spJar K) F sc127 (fun _ => rfl) fun ⟨ns, i⟩ hi cdv A outer s H E hr => ?_
  have hi : i ≤ 4 := hi
  obtain ⟨cell, hcell⟩ : ∃ cell : Int, cell = (if (i : Int) < ns.length then ns.getD i 0 else 0) := ⟨_, rfl⟩
  refine d_set (d := R cell) 2 sc127.nd (e_if (k := decide ((i : Int) < ns.length)) (by exact b_lt (e_var 1) (e_lenSc T.len (e_var 0))) (fun hk => ?_) fun hk => ?_) ?_
  · have hk := of_decide_eq_true hk
    rw [hcell, if_pos hk]
    exact e_ixSc (ns := ns) (by exact e_var 0) (e_var 1) (atI_of (n := i) rfl (by rw [List.getD_eq_getElem?_getD, List.getElem?_eq_getElem (by omega)]; rfl))
  · have hk := of_decide_eq_false hk
    rw [hcell, if_neg hk]
    exact e_int
  have hm0 := Int.emod_nonneg cell (show ((10 : Int) ^ ((27 : Int)).toNat + 103) ≠ 0 by decide)
  have hm1 := Int.emod_lt_of_pos cell (show (0 : Int) < (10 : Int) ^ ((27 : Int)).toNat + 103 by decide)
  have e27 : (10 : Int) ^ ((27 : Int)).toNat = 1000000000000000000000000000 := by decide
  refine d_retI (i_new (dl := [R (if (if cell < 0 then -cell else cell) - (10 : Int) ^ ((18 : Int)).toNat + 1 > 0 then (if cell < 0 then -cell else cell) - (10 : Int) ^ ((18 : Int)).toNat + 1 else 0), R (cell % ((10 : Int) ^ ((27 : Int)).toNat + 103) + 90017 * ((i : Int) + 1)), R (0 : Int)]) (n_lst (a_cons (by exact e_max2 rfl T.max e_int (e_add (e_sub (e_abs T.abs (e_var 2)) (e_pow e_int e_int ⟨by decide, by decide, by decide⟩)) e_int)) (a_cons (by exact e_add (e_mod (e_int1 T.int (e_var 2)) (e_add (e_pow e_int e_int ⟨by decide, by decide, by decide⟩) e_int) (by decide)) (e_mul e_int (e_add (e_var 1) e_int) (.inl (by decide)))) (a_one e_int))) (by show 3 ≤ 1000000; decide)) fun q => ⟨[(q, mJ ⟨_, _, 0⟩)], ⟨q, ⟨_, _, 0⟩, rfl, rfl, ⟨?_, ?_, ?_, Int.le_refl _, Int.le_refl _⟩⟩, .same trivial⟩)
  · show 0 ≤ (if (if cell < 0 then -cell else cell) - (10 : Int) ^ ((18 : Int)).toNat + 1 > 0 then (if cell < 0 then -cell else cell) - (10 : Int) ^ ((18 : Int)).toNat + 1 else 0)
    split <;> omega
  · show 0 ≤ cell % ((10 : Int) ^ ((27 : Int)).toNat + 103) + 90017 * ((i : Int) + 1)
    omega
  · show cell % ((10 : Int) ^ ((27 : Int)).toNat + 103) + 90017 * ((i : Int) + 1) < 10 ^ 28
    rw [e27] at hm1 ⊢
    omega
structure PkA where
  q : Addr
  j : Jar
  n : Int
  m : Int
def spPick : Spec PkA := { args := fun x => [dAt x.q, R x.m], ms := fun x => [(x.q, mJ x.j)], pre := fun x => JarOk x.n x.j ∧ x.n ≤ 10 ^ 9 ∧ 1 ≤ x.m ∧ x.m ≤ 10 ^ 40, post := fun x d m => ∃ (r : Int) (j : Jar), d = R r ∧ m = [(x.q, mJ j)] ∧ 0 ≤ r ∧ r < x.m ∧ JarOk (x.n + 1) j }
abbrev s128 : Stmt := top 128
abbrev N128 : List Str := ["_law_jar_here", "_law_bound", "_law_drawn", "_law_mixed_here"]
theorem sc128 : FnScope N128 ["_law_jar_here", "_law_bound"] (defScope s128) := ⟨rfl, rfl, rfl, by decide +kernel, rfl, by decide +kernel, by decide +kernel⟩
theorem ok_pick (T : Tx K mg) (a : At K mg "_law_pick" s128 ["_law_jar_here", "_law_bound"]) : Has P w K mg base "_law_pick" 1 spPick := has_of a fun f fd F => by
  refine fn_ok spPick F sc128 (fun _ => rfl) fun ⟨q, ⟨ja, jb, jc⟩, n, m⟩ ⟨hj, hn, hm1, hm2⟩ cdv A outer s H E hr => ?_
  obtain ⟨j1, j2, j3, j4, j5⟩ := hj
  have hm1 : 1 ≤ m := hm1
  have hm2 : m ≤ 10 ^ 40 := hm2
  have hn : n ≤ 10 ^ 9 := hn
  dsimp only at j1 j2 j3 j4 j5
  have hdm : CDivW ja m := wide_div (b := 200) (by omega) (by omega) (by decide) (by decide)
  have hc0 : Inn [(q, mJ ⟨ja, jb, jc⟩)] q (mR [ja, jb, jc]) := .h0
  refine d_if (k := decide (0 < ja)) (by exact b_gt (e_item (xs := [ja, jb, jc]) (r_in (e_var 0) hc0) e_int (atI_nat' (Int.le_refl _) rfl)) e_int) (fun _ => ?_) fun _ => d_nil ?_
  · refine d_set (d := R (ja % m)) 2 sc128.nd (by exact e_mod (e_int1 T.int (e_item (xs := [ja, jb, jc]) (r_in (e_var 0) hc0) e_int (atI_nat' (Int.le_refl _) rfl))) (e_var 1) (by omega)) ?_
    refine d_setItem (q := q) (j := 0) (iv := 0) 0 (i_pure (d := R (ja / m)) (by exact e_fdivW (e_item (xs := [ja, jb, jc]) (r_in (e_var 0) hc0) e_int (atI_nat' (Int.le_refl _) rfl)) (e_var 1) hdm) ⟨by exact e_var 0, by exact e_int, _, rfl, rfl, ?_⟩)
    refine d_ret (d := R (ja % m)) (by exact e_var 2) ⟨[(q, mJ ⟨ja / m, jb, jc⟩)], ⟨ja % m, ⟨ja / m, jb, jc⟩, rfl, rfl, Int.emod_nonneg _ (by omega), Int.emod_lt_of_pos _ (by omega), ⟨Int.ediv_nonneg j1 (by omega), j2, j3, j4, by (show jc ≤ n + 1; omega)⟩⟩, .same trivial⟩
  · refine d_setItem (q := q) (j := 2) (iv := 2) 0 (i_pure (d := R (jc + 1)) (by exact e_add (e_item (xs := [ja, jb, jc]) (r_in (e_var 0) hc0) e_int (atI_nat' (by decide) rfl)) e_int) ⟨by exact e_var 0, by exact e_int, _, rfl, rfl, ?_⟩)
    show DS _ _ [(q, mR [ja, jb, jc + 1])] _ _
    have hc1 : Inn [(q, mR [ja, jb, jc + 1])] q (mR [ja, jb, jc + 1]) := .h0
    have p39 : (0 : Int) < (10 : Int) ^ ((39 : Int)).toNat + 3 := by decide
    have p42 : (0 : Int) < (10 : Int) ^ ((42 : Int)).toNat + 63 := by decide
    have hx0 := Int.emod_nonneg ((jb + 611953 * (jc + 1)) ^ ((3 : Int)).toNat) (show ((10 : Int) ^ ((39 : Int)).toNat + 3) ≠ 0 by decide)
    have hx1 := Int.emod_lt_of_pos ((jb + 611953 * (jc + 1)) ^ ((3 : Int)).toNat) p39
    have l39 : (10 : Int) ^ ((39 : Int)).toNat + 3 < 2 ^ 900 := by decide
    refine d_set (d := R ((jb + 611953 * (jc + 1)) ^ ((3 : Int)).toNat % ((10 : Int) ^ ((39 : Int)).toNat + 3))) 3 sc128.nd (by exact e_mod (e_int1 T.int (e_powW (e_add (e_item (xs := [ja, jb, jc + 1]) (r_in (e_var 0) hc1) e_int (atI_nat' (by decide) rfl)) (e_mul e_int (e_item (xs := [ja, jb, jc + 1]) (r_in (e_var 0) hc1) e_int (atI_nat' (by decide) rfl)) (.inl (by decide)))) e_int (cube_ok (by omega) (by omega)))) (e_add (e_pow e_int e_int ⟨by decide, by decide, by decide⟩) e_int) p39) ?_
    generalize (jb + 611953 * (jc + 1)) ^ ((3 : Int)).toNat % ((10 : Int) ^ ((39 : Int)).toNat + 3) = x at *
    refine d_set (d := R ((x + 86028121 * (jc + 1)) ^ ((3 : Int)).toNat % ((10 : Int) ^ ((42 : Int)).toNat + 63))) 3 sc128.nd (by exact e_mod (e_int1 T.int (e_powW (e_add (e_var 3) (e_mul e_int (e_item (xs := [ja, jb, jc + 1]) (r_in (e_var 0) hc1) e_int (atI_nat' (by decide) rfl)) (.inl (by decide)))) e_int (cube_ok (by omega) (by omega)))) (e_add (e_pow e_int e_int ⟨by decide, by decide, by decide⟩) e_int) p42) ?_
    generalize (x + 86028121 * (jc + 1)) ^ ((3 : Int)).toNat % ((10 : Int) ^ ((42 : Int)).toNat + 63) = y
    refine d_ret (d := R (y / 919393 % m)) (by exact e_mod (e_int1 T.int (e_fdiv (e_var 3) e_int ⟨by decide, by decide⟩)) (e_var 1) (by omega)) ⟨[(q, mJ ⟨ja, jb, jc + 1⟩)], ⟨y / 919393 % m, ⟨ja, jb, jc + 1⟩, rfl, rfl, Int.emod_nonneg _ (by omega), Int.emod_lt_of_pos _ (by omega), ⟨j1, j2, j3, by (show 0 ≤ jc + 1; omega), by (show jc + 1 ≤ n + 1; omega)⟩⟩, .same trivial⟩
end
end Bh
/-! V21: the law's device, its mixed order. -/
namespace Bh
open PySem PySem.Spec PyProof.Rows L2
section
variable {X : Cx} {ds : Ds} {ms : MS} {e a b tg : Expr} {pos p : Pos} {rest body : List Stmt} {E : SE}
/-- for tg in range(e): body, where e may change cells -/
theorem d_forR1I {A : Type} (f : Int → Ds) (hc : X.calm = true) (hm : X.mg "range" = none) (hg : ∀ x : Int, DG X tg (R x) (f x))
    (h : DI X ds ms e fun d m => ∃ (j : Int) (I : Nat → A → Prop) (sd : Nat → A → Ds) (sm : Nat → A → MS), d = R j ∧ (-(2 ^ 62) ≤ j ∧ j < 2 ^ 62) ∧ Lp (I 0) (sd 0) (sm 0) ds m
      ∧ (∀ i a, i < j.toNat → I i a → DS X (f (0 + (i : Int)) ++ sd i a) (sm i a) body { nx := Lp (I (i + 1)) (sd (i + 1)) (sm (i + 1)), ct := Lp (I (i + 1)) (sd (i + 1)) (sm (i + 1)), bk := fun ds ms => DS X ds ms rest E, rt := E.rt })
      ∧ ∀ a, I j.toNat a → DS X (sd j.toNat a) (sm j.toNat a) rest E)
    (hgl : Gl X "range" := by rfl) (he : starEach [e] X.env = (false, eval e X.env) :: starEach [] X.env := by rfl) (hs : starEach [e] X.env = [(false, eval e X.env)] := by rfl)
    (hp : PassesOwn (model X.prog X.w) X.A X.env X.xe := by exact PassesOwn.never) (hf : ∀ x, foldedSetIterable (.Call (.Name "range" p) [e] [] pos) X.env x = pure x := by intro _; rfl) : DS X ds ms (.For tg (.Call (.Name "range" p) [e] [] pos) body [] pos' :: rest) E := by
  refine d_cons fun G0 σ H s => wS_of (ps_for hp hc (pi_range1 hgl hm (pa_cons (wE_ok e) pa_nil he) hs) (wG_ok tg) (wSs_ok body) hf) ?_
  refine h σ H s.s _ fun d m v H1 ⟨j, I, sd, sm, hd, hj, h0, hst, hdn⟩ s1 g1 p1 => ⟨j, by rw [hd] at p1; rw [show v = V.int j from p1], hj.1, hj.2, ?_⟩
  have g01 : Same G0 (mi H1 (ads m)) := s.a.trans g1
  refine for_it walk_range (D := SE.sem G0 { E with nx := fun ds' ms' => DS X ds' ms' rest E }) (fun i σ H => ∃ ds' ms', Lp (I i) (sd i) (sm i) ds' ms' ∧ Sg (mi H1 (ads m)) ds' ms' σ H) ⟨ds, m, h0, s1, Same.refl _⟩ (fun i σ2 H2 _ ⟨ds', ms', _, q⟩ => trivial) (fun i x σ2 H2 H3 hi ⟨ds', ms', ⟨a, ia, wk⟩, q⟩ y => ?_) (fun σ2 H2 ⟨ds', ms', ⟨a, ia, wk⟩, q⟩ => ?_)
  · have q2 := wk.sg q
    obtain ⟨rfl, y⟩ := y
    refine hg (0 + (i : Int)) (sd i a) (sm i a) σ2 H3 x q2.s (show x = V.int (0 + (i : Int)) from y) _ fun σ4 H4 s4 e4 _ => ?_
    refine ds_run (hst i a hi ia) ⟨s4, q2.a.trans e4.g⟩ (fun ds ms σ H h1 h2 => ⟨ds, ms, h1, h2⟩) (fun ds ms σ H h1 h2 => ⟨ds, ms, h1, h2⟩) (fun ds ms σ H h1 h2 => ⟨ds, ms, h1, h2.an g01⟩) (fun d ms v H h1 h2 => ⟨d, ms, h1, h2.an g01⟩)
  · exact ⟨_, _, hdn a ia, (wk.sg q).an g01⟩
/-- a draw -/
theorem i_pick {k n : Int} {q : Addr} {j : Jar} {r : MS} {K : D → MS → Prop} (h : HasX X "_law_pick" 1 spPick) (hr : Room 1 X.A) (ha : DE X ds ms a (dAt q)) (hb : DE X ds ms b (R k)) (hm : ((q, mJ j) :: r).Perm ms) (hJ : JarOk n j) (hn : n ≤ 10 ^ 9) (h1 : 1 ≤ k) (h2 : k ≤ 10 ^ 40)
    (hk : ∀ (x : Int) (j' : Jar), 0 ≤ x → x < k → JarOk (n + 1) j' → K (R x) ((q, mJ j') :: r))
    (hg : Gl X "_law_pick" := by rfl) (he : starEach [a, b] X.env = (false, eval a X.env) :: starEach [b] X.env := by rfl) (he2 : starEach [b] X.env = (false, eval b X.env) :: starEach [] X.env := by rfl) (hpl : (backTo pos (starEach [b] X.env)).any (·.1) = false := by rfl) : DI X ds ms (.Call (.Name "_law_pick" p) [a, b] [] pos) K :=
  i_call h hr (ai_pure (dl := [dAt q, R k]) (a_cons ha (a_cons hb a_nil he2) he) ⟨⟨q, j, n, k⟩, r, rfl, hm, ⟨hJ, hn, h1, h2⟩, fun d m2 ⟨x, j', e1, e2, e3, e4, e5⟩ => by
    rw [e1, e2]
    exact hk x j' e3 e4 e5⟩) hg (by decide) he hpl
end
section
variable {P : Program} {w : World} {K : PySem.W.Frag} {mg : Str → Option Value} {base : Heap}
structure DvA where
  q : Addr
  j : Jar
  n : Int
  m : Int
def spDevice : Spec DvA := { args := fun x => [dAt x.q, R x.m], ms := fun x => [(x.q, mJ x.j)], pre := fun x => JarOk x.n x.j ∧ x.n ≤ 10 ^ 8 ∧ 2 ≤ x.m ∧ x.m ≤ 12, post := fun x d m => ∃ (c : Clk) (j : Jar), d = R c ∧ m = [(x.q, mJ j)] ∧ ClkS c ∧ JarOk (x.n + 30) j }
abbrev s129 : Stmt := top 129
abbrev N129 : List Str := ["_law_jar_here", "_law_most", "_law_left", "_law_tracks", "_law_kind", "_law_lap", "_law_top", "_law_size"]
theorem sc129 : FnScope N129 ["_law_jar_here", "_law_most"] (defScope s129) := ⟨rfl, rfl, rfl, by decide +kernel, rfl, by decide +kernel, by decide +kernel⟩
theorem mR_snoc {α : Type} [Rp α] (xs : List α) (x : α) : mR (xs ++ [x]) = mL ((xs.map fun x => R x) ++ [R x]) := by
  show mL (List.map _ _) = _
  rw [List.map_append]
  rfl
structure DvS where
  rs : List Rail
  j : Jar
  top : Int := 0
structure DvI (m n : Int) (i : Nat) (x : DvS) : Prop where
  j : JarOk (n + 2 + 2 * i) x.j
  bd : ∀ r ∈ x.rs, 2 ≤ r.1 ∧ (r.2 = "back" ∨ r.2 = "through")
  ne : x.rs = [] → i = 0
  sm : ((x.rs.map fun r => r.1 - 1).sum : Int) ≤ m - 1
  ln : x.rs.length ≤ i
theorem atI4 {α : Type} {a b c d : α} {i : Int} (h0 : 0 ≤ i) (h4 : i < 4) : ∃ x, atI [a, b, c, d] i = some x ∧ (x = a ∨ x = b ∨ x = c ∨ x = d) := by
  have : i = 0 ∨ i = 1 ∨ i = 2 ∨ i = 3 := by omega
  rcases this with h | h | h | h <;> subst h
  · exact ⟨a, rfl, .inl rfl⟩
  · exact ⟨b, rfl, .inr (.inl rfl)⟩
  · exact ⟨c, rfl, .inr (.inr (.inl rfl))⟩
  · exact ⟨d, rfl, .inr (.inr (.inr rfl))⟩
theorem atI3 {α : Type} {a b c : α} {i : Int} (h0 : 0 ≤ i) (h4 : i < 3) : ∃ x, atI [a, b, c] i = some x ∧ (x = a ∨ x = b ∨ x = c) := by
  have : i = 0 ∨ i = 1 ∨ i = 2 := by omega
  rcases this with h | h | h <;> subst h
  · exact ⟨a, rfl, .inl rfl⟩
  · exact ⟨b, rfl, .inr (.inl rfl)⟩
  · exact ⟨c, rfl, .inr (.inr rfl)⟩
theorem atI2 {α : Type} {a b : α} {i : Int} (h0 : 0 ≤ i) (h4 : i < 2) : ∃ x, atI [a, b] i = some x ∧ (x = a ∨ x = b) := by
  have : i = 0 ∨ i = 1 := by omega
  rcases this with h | h <;> subst h
  · exact ⟨a, rfl, .inl rfl⟩
  · exact ⟨b, rfl, .inr rfl⟩
theorem ok_device (T : Tx K mg) (a : At K mg "_law_device" s129 ["_law_jar_here", "_law_most"]) (h1 : Has P w K mg base "_law_pick" 1 spPick) : Has P w K mg base "_law_device" 2 spDevice := has_of a fun f fd F => by
  refine fn_ok spDevice F sc129 (fun _ => rfl) fun ⟨q, j, n, m⟩ ⟨hj, hn, hm1, hm2⟩ cdv A outer s H E hr => ?_
  have hm1 : 2 ≤ m := hm1
  have hm2 : m ≤ 12 := hm2
  have hn : n ≤ 10 ^ 8 := hn
  have hj : JarOk n j := hj
  refine d_par3I 2 3 4 rfl sc129.nd (ai_cons (i_pure (d := R (m - 1)) (by exact e_sub (e_var 1) e_int) (ai_cons (i_new n_nil fun q2 => ai_cons (i_pick (k := 4) h1 hr (by exact e_var 0) (by exact e_int) (r := [(q2, mL [])]) (List.Perm.swap ..) hj (by omega) (by decide) (by decide) fun kd j1 k0 k1 hj1 => ai_nil ⟨_, _, _, rfl, ?_⟩)))))
  refine d_forR1I (A := DvS) (fun x => [(5, R x)]) rfl T.range (fun x => g_name 5 sc129.nd) (i_ix (i_pure (e_lst (xs := [(1 : Int), 2, 3, 9]) (a_cons e_int (a_cons e_int (a_cons e_int (a_one e_int)))) rfl (by decide)) ⟨_, rfl, i_pick (k := 4) h1 hr (by exact e_var 0) (by exact e_int) (.refl _) hj1 (by omega) (by decide) (by decide) fun x j2 x0 x1 hj2 => ?_⟩))
  obtain ⟨N, hN, hN2⟩ := atI4 (a := (1 : Int)) (b := 2) (c := 3) (d := 9) x0 x1
  have hN3 : 1 ≤ N ∧ N ≤ 9 := by omega
  refine ⟨x, R N, rfl, at_map (xs := [(1 : Int), 2, 3, 9]) hN, N, DvI m n, fun _ y => [(4, R kd), (3, dAt q2), (2, R (m - 1 - (y.rs.map fun r => r.1 - 1).sum)), (1, R m), (0, dAt q)], fun _ y => [(q, mJ y.j), (q2, mR y.rs)], rfl, by omega, ⟨⟨[], j2, 0⟩, ⟨hj2.le (by omega), fun r hr => (nomatch hr), fun _ => rfl, (by show (0 : Int) ≤ m - 1; omega), Nat.le_refl _⟩, .same ⟨rfl, rfl, (by show _ = some (R (m - 1 - 0)); rw [Int.sub_zero]; rfl), rfl, rfl, trivial⟩⟩, fun i y hi hy => ?_, fun y hy => ?_⟩
  · obtain ⟨rs, jy, _⟩ := y
    obtain ⟨y1, y2, y3, y4, y5⟩ := hy
    dsimp only at y1 y2 y3 y4 y5 ⊢
    generalize hS : (rs.map fun r => r.1 - 1).sum = S at *
    have hS0 : 0 ≤ S := by rw [← hS]; exact room_nn fun r hr => (y2 r hr).1
    obtain ⟨t, ht, ht2⟩ := atI4 (a := (1 : Int)) (b := 2) (c := 11) (d := m - 1 - S) k0 k1
    refine d_set (d := R (if t < m - 1 - S then t else m - 1 - S)) 6 sc129.nd (by exact e_min2 rfl T.min (e_var 2) (e_item (xs := [(1 : Int), 2, 11, m - 1 - S]) (r_R (e_lst (a_cons e_int (a_cons e_int (a_cons e_int (a_one (e_var 2))))) rfl (by show 4 ≤ 1000000; decide))) (e_var 4) ht)) ?_
    generalize hT : (if t < m - 1 - S then t else m - 1 - S) = tp
    have hT1 : tp ≤ m - 1 - S := by rw [← hT]; split <;> omega
    refine d_if (k := decide (0 < tp)) (by exact b_gt (e_var 6) e_int) (fun hk => ?_) fun hk => d_nil (d_nil ?_)
    · have hk := of_decide_eq_true hk
      refine d_setI 7 sc129.nd (i_add (i_pure (by exact e_int) ⟨_, rfl, i_pick h1 hr (by exact e_var 0) (by exact e_var 6) (.refl _) y1 (by omega) (by omega) (by omega) fun sz j3 z0 z1 hj3 => ⟨sz, rfl, ?_⟩⟩)) 
      refine d_expr (i_appK (q := q2) (dl := rs.map fun x => R x) (by exact e_var 3) (.s .h0) (i_tup (ai_cons (i_pure (d := R (1 + sz + 1)) (by exact e_add (e_var 7) e_int) (ai_cons (i_ix (i_pure (e_lst (xs := [("back" : Str), "through"]) (a_cons e_str (a_one e_str)) rfl (by decide)) ⟨_, rfl, i_pick (k := 2) h1 hr (by exact e_var 0) (by exact e_int) (.refl _) hj3 (by omega) (by decide) (by decide) fun wy j4 w0 w1 hj4 => ?_⟩)))))))
      obtain ⟨sd, hs1, hs2⟩ := atI2 (a := ("back" : Str)) (b := "through") w0 w1
      refine ⟨wy, R sd, rfl, at_map (xs := [("back" : Str), "through"]) hs1, ai_nil ⟨(by show 2 ≤ 1000000; decide), 1, _, rfl, ?_, ?_⟩⟩
      · rw [List.length_map]; omega
      refine d_set (d := R (m - 1 - S - (1 + sz))) 2 sc129.nd (by exact e_sub (e_var 2) (e_var 7)) (d_nil (d_nil ⟨⟨rs ++ [(1 + sz + 1, sd)], j4, 0⟩, ⟨?_, ?_, ?_, ?_, ?_⟩, ?_⟩))
      · exact hj4.le (by omega)
      · intro r hr
        rcases List.mem_append.mp hr with hr | hr
        · exact y2 r hr
        · rw [List.mem_singleton.mp hr]
          exact ⟨by show 2 ≤ 1 + sz + 1; omega, hs2⟩
      · intro h
        simp at h
      · show ((rs ++ [(1 + sz + 1, sd)]).map fun r => r.1 - 1).sum ≤ m - 1
        rw [List.map_append, List.sum_append, hS]
        show S + ((1 + sz + 1 - 1) + 0) ≤ m - 1
        omega
      · show (rs ++ [(1 + sz + 1, sd)]).length ≤ i + 1
        rw [List.length_append]
        exact Nat.add_le_add y5 (Nat.le_refl _)
      · have e1 : ((rs ++ [(1 + sz + 1, sd)]).map fun r => r.1 - 1).sum = S + (1 + sz) := by
          rw [List.map_append, List.sum_append, hS]
          show S + ((1 + sz + 1 - 1) + 0) = S + (1 + sz)
          omega
        have e2 : m - 1 - S - (1 + sz) = m - 1 - (S + (1 + sz)) := by omega
        dsimp only
        rw [e1, e2, mR_snoc]
        exact .same ⟨rfl, rfl, rfl, rfl, rfl, trivial⟩
    · have hk := of_decide_eq_false hk
      refine ⟨⟨rs, jy, 0⟩, ⟨y1.le (by omega), y2, fun h => ?_, by rw [hS]; exact y4, Nat.le_succ_of_le y5⟩, by dsimp only; rw [hS]; exact .same ⟨rfl, rfl, rfl, rfl, rfl, trivial⟩⟩
      exfalso
      have h : rs = [] := h
      have h0 := y3 h
      rw [h] at hS
      have : S = 0 := hS.symm
      rw [← hT, this] at hk
      split at hk <;> omega
  · obtain ⟨rs, jy, _⟩ := y
    obtain ⟨y1, y2, y3, y4, y5⟩ := hy
    dsimp only at y1 y2 y3 y4 y5 ⊢
    generalize hS : (rs.map fun r => r.1 - 1).sum = S at *
    have hS0 : 0 ≤ S := by rw [← hS]; exact room_nn fun r hr => (y2 r hr).1
    refine d_wk (.perm (List.Perm.swap ..)) (d_frzC 3 (d' := R rs) rfl (fun G o h1 h2 => frz_L h1 h2) ?_)
    refine d_retI (i_tup (ai_cons (i_add (i_pure (by exact e_sub (e_var 1) (e_var 2)) ⟨_, rfl, i_ix (i_lst (ai_cons (i_pure (by exact e_int) (ai_cons (i_pure (by exact e_min2 rfl T.min e_int (e_var 2)) (ai_cons (i_pick h1 hr (by exact e_var 0) (by exact e_add (e_var 2) e_int) (.refl _) y1 (by omega) (by omega) (by omega) fun u j3 u0 u1 hj3 => ai_nil ⟨(by show 3 ≤ 1000000; decide), _, rfl, i_pick (k := 3) h1 hr (by exact e_var 0) (by exact e_int) (.refl _) hj3 (by omega) (by decide) (by decide) fun v j4 v0 v1 hj4 => ?_⟩)))))))⟩))))
    obtain ⟨z, hz1, hz2⟩ := atI3 (a := (0 : Int)) (b := if m - 1 - S < 1 then m - 1 - S else 1) (c := u) v0 v1
    have hz3 : 0 ≤ z ∧ z ≤ m - 1 - S := by
      rcases hz2 with h | h | h
      · omega
      · rw [h]; split <;> omega
      · omega
    refine ⟨v, R z, rfl, at_map (xs := [(0 : Int), if m - 1 - S < 1 then m - 1 - S else 1, u]) hz1, z, rfl, ai_cons (i_pure (by exact e_var 3) (ai_nil ⟨(by show 2 ≤ 1000000; decide), [(q, mJ j4)], ⟨(m - (m - 1 - S) + z, rs), j4, rfl, rfl, ?_, hj4.le (by have := hN3; (show n + 2 + 2 * (N.toNat : Int) + 1 + 1 ≤ n + 30); omega)⟩, .same trivial⟩))⟩
    refine ⟨⟨?_, ?_, ?_, y2, ?_⟩, ?_⟩
    · show 2 ≤ m - (m - 1 - S) + z
      have : rs ≠ [] := fun h => by have := y3 h; omega
      cases rs with
      | nil => exact absurd rfl this
      | cons r rs =>
        have h5 := (y2 r List.mem_cons_self).1
        have h6 := room_nn (rs := rs) fun x hx => (y2 x (List.mem_cons_of_mem _ hx)).1
        have h7 : S = (r.1 - 1) + roomOf rs := hS.symm
        omega
    · show m - (m - 1 - S) + z ≤ 100
      omega
    · show rs ≠ []
      intro h
      have := y3 h
      omega
    · show ((rs.map fun r => r.1 - 1).sum : Int) < m - (m - 1 - S) + z
      rw [hS]
      omega
    · show m - (m - 1 - S) + z ≤ 12
      omega
end
end Bh
/-! V22: the law's mixed order, scene, moment. -/
namespace Bh
open PySem PySem.Spec PyProof.Rows L2
section
variable {P : Program} {w : World} {K : PySem.W.Frag} {mg : Str → Option Value} {base : Heap}
def spMixed : Spec DvA := { args := fun x => [dAt x.q, R x.m], ms := fun x => [(x.q, mJ x.j)], pre := fun x => JarOk x.n x.j ∧ x.n ≤ 10 ^ 8 ∧ 0 ≤ x.m ∧ x.m ≤ 12, post := fun x d m => ∃ (o : List Int) (j : Jar), d = R o ∧ m = [(x.q, mJ j)] ∧ o.Perm (rngL 0 x.m.toNat) ∧ JarOk (x.n + 12) j }
abbrev s130 : Stmt := top 130
abbrev N130 : List Str := ["_law_jar_here", "_law_count", "_law_left", "_law_found"]
theorem sc130 : FnScope N130 ["_law_jar_here", "_law_count"] (defScope s130) := ⟨rfl, rfl, rfl, by decide +kernel, rfl, by decide +kernel, by decide +kernel⟩
structure MxS where
  left : List Int
  found : List Int
  j : Jar
theorem pop_perm {α : Type} : ∀ {l : List α} {i : Nat} {y : α}, l[i]? = some y → (y :: l.eraseIdx i).Perm l
  | [], _, _, h => by simp at h
  | x :: l, 0, y, h => by
    simp at h
    subst h
    exact .refl _
  | x :: l, i + 1, y, h => by
    rw [List.eraseIdx_cons_succ]
    exact (List.Perm.swap x y _).trans ((pop_perm (l := l) (i := i) (by simpa using h)).cons x)
theorem erase_map {α β : Type} (f : α → β) : ∀ (l : List α) (i : Nat), (l.map f).eraseIdx i = (l.eraseIdx i).map f
  | [], _ => rfl
  | x :: l, 0 => rfl
  | x :: l, i + 1 => congrArg (f x :: ·) (erase_map f l i)
theorem perm_pop {α : Type} {left found : List α} {i : Nat} {y : α} (h : left[i]? = some y) : (left.eraseIdx i ++ (found ++ [y])).Perm (left ++ found) := by
  have h1 : (y :: left.eraseIdx i).Perm left := by
    exact pop_perm h
  have h2 : (left.eraseIdx i ++ (found ++ [y])).Perm ((y :: left.eraseIdx i) ++ found) := by
    rw [List.cons_append]
    refine List.Perm.trans (l₂ := left.eraseIdx i ++ (y :: found)) ?_ List.perm_middle
    exact List.Perm.append_left _ (List.perm_append_singleton y found)
  exact h2.trans (h1.append_right found)
theorem ok_mixed (T : Tx K mg) (a : At K mg "_law_mixed" s130 ["_law_jar_here", "_law_count"]) (h1 : Has P w K mg base "_law_pick" 1 spPick) : Has P w K mg base "_law_mixed" 2 spMixed := has_of a fun f fd F => by
  refine fn_ok spMixed F sc130 (fun _ => rfl) fun ⟨q, j, n, m⟩ ⟨hj, hn, hm1, hm2⟩ cdv A outer s H E hr => ?_
  have hm1 : 0 ≤ m := hm1
  have hm2 : m ≤ 12 := hm2
  have hn : n ≤ 10 ^ 8 := hn
  have hj : JarOk n j := hj
  refine d_parI 2 3 rfl sc130.nd (ai_cons (i_new (n_listRg rfl T.list T.range (by exact e_var 1) (by omega)) fun q2 => ai_cons (i_new n_nil fun q3 => ai_nil ⟨_, _, rfl, ?_⟩)))
  refine d_while (A := MxS) (fun z => JarOk (n + z.found.length) z.j ∧ (z.left ++ z.found).Perm (rngL 0 m.toNat)) (fun z => z.left.length) (fun z => [(3, dAt q3), (2, dAt q2), (1, R m), (0, dAt q)]) (fun z => [(q, mJ z.j), (q2, mR z.left), (q3, mR z.found)]) (fun z => !decide (z.left = [])) ⟨⟨rngL 0 m.toNat, [], j⟩, ⟨hj.le (by omega), by rw [List.append_nil]⟩, ?_⟩ (fun z _ => by exact b_neR (xs := z.left) (ys := []) (hu64 hr) (r_in (e_var 2) (.s .h0)) e_nil) (fun z hz ht => ?_) fun z hz ht => ?_
  · refine ⟨WkL.ok ⟨rfl, rfl, rfl, rfl, trivial⟩, _, ?_, .refl _⟩
    exact (List.reverse_perm [(q3, mL []), (q2, mR (rngL 0 m.toNat)), (q, mJ j)])
  · obtain ⟨left, found, jz⟩ := z
    obtain ⟨z1, z2⟩ := hz
    dsimp only at z1 z2 ht ⊢
    have hne : left ≠ [] := fun h => by rw [h] at ht; simp at ht
    have hlen : left.length + found.length = m.toNat := by
      have := z2.length_eq
      rw [List.length_append, rngL_len] at this
      exact this
    have hpos : 0 < left.length := List.length_pos_iff.mpr hne
    refine d_expr (i_appK (q := q3) (dl := found.map fun x => R x) (by exact e_var 3) (.s (.s .h0)) (i_popAt 1 (dl2 := left.map fun x => R x) (by exact e_var 2) rfl (i_pick (k := (left.length : Int)) h1 hr (by exact e_var 0) (by exact e_lenR T.len (r_in (e_var 2) (.s .h0))) (.refl _) z1 (by omega) (by omega) (by omega) fun x j' x0 x1 hj' => ?_)))
    have hx : left[x.toNat]? = some left[x.toNat] := List.getElem?_eq_getElem (by omega)
    refine ⟨x.toNat, _, R left[x.toNat], by rw [Int.toNat_of_nonneg x0], rfl, by rw [List.length_map]; omega, by rw [List.getElem?_map, hx]; rfl, 2, _, rfl, by rw [List.length_map]; omega, d_nil ⟨⟨left.eraseIdx x.toNat, found ++ [left[x.toNat]], j'⟩, ⟨⟨hj'.le (by (show n + (found.length : Int) + 1 ≤ n + ((found ++ [left[x.toNat]]).length : Int)); rw [List.length_append, List.length_singleton]; omega), (perm_pop hx).trans z2⟩, ?_⟩, ?_⟩⟩
    · show (left.eraseIdx x.toNat).length < left.length
      rw [List.length_eraseIdx, if_pos (by omega)]
      omega
    · have e1 : (left.map fun x => R x).eraseIdx x.toNat = (left.eraseIdx x.toNat).map fun x => R x := erase_map _ _ _
      dsimp only [List.set]
      rw [e1, mR_snoc]
      exact .same ⟨rfl, rfl, rfl, rfl, trivial⟩
  · obtain ⟨left, found, jz⟩ := z
    obtain ⟨z1, z2⟩ := hz
    dsimp only at z1 z2 ht ⊢
    have hl : left = [] := by
      by_cases h : left = []
      · exact h
      · rw [decide_eq_false h] at ht; cases ht
    subst hl
    rw [List.nil_append] at z2
    refine d_wk (.perm (ms' := [(q3, mR found), (q, mJ jz), (q2, mR ([] : List Int))]) (List.perm_append_comm (l₁ := [(q3, mR found)]) (l₂ := [(q, mJ jz), (q2, mR ([] : List Int))]))) (d_frzC 3 (d' := R found) rfl (fun G o h1 h2 => frz_L h1 h2) ?_)
    have hlen : found.length = m.toNat := by
      have := z2.length_eq
      rw [rngL_len] at this
      exact this
    exact d_ret (d := R found) (by exact e_var 3) ⟨[(q, mJ jz)], ⟨found, jz, rfl, rfl, z2, z1.le (by (show n + (found.length : Int) ≤ n + 12); omega)⟩, .cells (List.sublist_append_left [(q, mJ jz)] [(q2, mR ([] : List Int))])⟩
structure ScA where
  q : Addr
  j : Jar
  n : Int
  c : Clk
def spScene : Spec ScA := { args := fun x => [dAt x.q, R x.c], ms := fun x => [(x.q, mJ x.j)], pre := fun x => JarOk x.n x.j ∧ x.n ≤ 10 ^ 8 ∧ ClkS x.c, post := fun x d m => ∃ (s : Sight) (j : Jar), d = R s ∧ m = [(x.q, mJ j)] ∧ SightOk x.c s ∧ JarOk (x.n + 40) j }
abbrev s131 : Stmt := top 131
abbrev N131 : List Str := ["_law_jar_here", "_law_device_here", "_law_found", "_law_row", "_law_bound", "_law_side", "_law_size"]
theorem sc131 : FnScope N131 ["_law_jar_here", "_law_device_here"] (defScope s131) := ⟨rfl, rfl, rfl, by decide +kernel, rfl, by decide +kernel, by decide +kernel⟩
structure ScS where
  row : List Int
  found : List (List Int)
  j : Jar
structure ScI (c : Clk) (n : Int) (i : Nat) (z : ScS) : Prop where
  j : JarOk (n + 12 + 2 * i) z.j
  ln : z.found.length = i
  pm : (z.row ++ z.found.flatten).Perm (rngL 0 c.1.toNat)
  rl : ∀ (k : Nat) (row : List Int) (r : Rail), z.found[k]? = some row → c.2[k]? = some r → (row.length : Int) < r.1
theorem ok_scene (T : Tx K mg) (a : At K mg "_law_scene" s131 ["_law_jar_here", "_law_device_here"]) (h1 : Has P w K mg base "_law_pick" 1 spPick) (h2 : Has P w K mg base "_law_mixed" 2 spMixed) : Has P w K mg base "_law_scene" 3 spScene := has_of a fun f fd F => by
  refine fn_ok spScene F sc131 (fun _ => rfl) fun ⟨q, j, n, c⟩ ⟨hj, hn, hc⟩ cdv A outer s H E hr => ?_
  have hc : ClkS c := hc
  have hn : n ≤ 10 ^ 8 := hn
  have hj : JarOk n j := hj
  have hlo := hc.lo
  have hhi := hc.sm12
  have hln := hc.len
  refine d_parI 2 3 rfl sc131.nd (ai_cons (i_new n_nil fun q2 => ai_cons (i_call h2 hr (ai_pure (dl := [dAt q, R c.1]) (a_cons (by exact e_var 0) (a_one (by exact e_fst (x := c) (e_var 1) e_int))) ⟨⟨q, j, n, c.1⟩, [(q2, mL [])], rfl, List.Perm.swap .., ⟨hj, hn, (by show 0 ≤ c.1; omega), hhi⟩, fun d m2 hd => ?_⟩) ) ) )
  obtain ⟨o, j2, rfl, rfl, ho, hj2⟩ := hd
  refine ai_nil ⟨_, _, rfl, ?_⟩
  refine d_for c.2 (fun r => [(5, R r.2), (4, R r.1)]) (ScI c n) (fun _ z => [(3, R z.row), (2, dAt q2), (1, R c), (0, dAt q)]) (fun _ z => [(q, mJ z.j), (q2, mR z.found)]) rfl (wk_R (by exact e_snd (x := c) (e_var 1) e_int)) (fun x => g_pair rfl (g_name 4 sc131.nd) (g_name 5 sc131.nd)) ⟨⟨o, [], j2⟩, ⟨hj2.le (by show n + 12 ≤ _; omega), rfl, by (show (o ++ []).Perm _); rw [List.append_nil]; exact ho, fun k row r h => by simp at h⟩, .same ⟨rfl, rfl, rfl, rfl, trivial⟩⟩ (fun i z r hr2 hz => ?_) fun z hz => ?_
  · obtain ⟨row, found, jz⟩ := z
    obtain ⟨z1, z2, z3, z4⟩ := hz
    dsimp only at z1 z2 z3 z4 ⊢
    have hi : i < c.2.length := (List.getElem?_eq_some_iff.mp hr2).1
    have hrb := hc.bd r (List.mem_of_getElem? hr2)
    have hrh := hc.bound_le r (List.mem_of_getElem? hr2)
    refine d_setI 6 sc131.nd (i_ix (i_lst (ai_cons (i_pure (by exact e_int) (ai_cons (i_pure (by exact e_sub (e_var 4) e_int) (ai_cons (i_pick h1 (hr.mono (by decide)) (by exact e_var 0) (by exact e_var 4) (.refl _) z1 (by omega) (by omega) (by omega) fun u j3 u0 u1 hj3 => ai_nil ⟨(by show 3 ≤ 1000000; decide), _, rfl, i_pick (k := 3) h1 (hr.mono (by decide)) (by exact e_var 0) (by exact e_int) (.refl _) hj3 (by omega) (by decide) (by decide) fun v j4 v0 v1 hj4 => ?_⟩))))))))
    obtain ⟨x, hx1, hx2⟩ := atI3 (a := (0 : Int)) (b := r.1 - 1) (c := u) v0 v1
    have hx3 : 0 ≤ x ∧ x < r.1 := by omega
    refine ⟨v, R x, rfl, at_map (xs := [(0 : Int), r.1 - 1, u]) hx1, ?_⟩
    refine d_expr (i_appK (q := q2) (dl := found.map fun x => R x) (by exact e_var 2) (.s .h0) (i_pure (d := R (row.take x.toNat)) (by exact e_eq (e_slice (xs := row) (i := none) (j := some x) (r_R (e_var 3)) trivial (e_var 6)) (by rw [cut_to hx3.1])) ⟨1, _, rfl, by rw [List.length_map]; omega, ?_⟩))
    refine d_set (d := R (row.drop x.toNat)) 3 sc131.nd (by exact e_eq (e_slice (xs := row) (i := some x) (j := none) (r_R (e_var 3)) (e_var 6) trivial) (by rw [cut_from hx3.1])) (d_nil ⟨⟨row.drop x.toNat, found ++ [row.take x.toNat], j4⟩, ⟨?_, ?_, ?_, ?_⟩, ?_⟩)
    · exact hj4.le (by omega)
    · show (found ++ [row.take x.toNat]).length = i + 1
      rw [List.length_append, z2]
      rfl
    · show (row.drop x.toNat ++ (found ++ [row.take x.toNat]).flatten).Perm _
      refine List.Perm.trans ?_ z3
      rw [List.flatten_append, List.flatten_singleton]
      refine List.Perm.trans (l₂ := row.drop x.toNat ++ (row.take x.toNat ++ found.flatten)) (List.Perm.append_left _ List.perm_append_comm) ?_
      rw [← List.append_assoc]
      refine List.Perm.append_right _ ?_
      refine List.perm_append_comm.trans ?_
      rw [List.take_append_drop]
    · intro k rw' r' h3 h4
      rcases Nat.lt_trichotomy k i with hk | hk | hk
      · exact z4 k rw' r' (by rw [← h3]; exact (List.getElem?_append_left (by omega)).symm) h4
      · subst hk
        have e1 : (found ++ [row.take x.toNat])[k]? = some (row.take x.toNat) := by
          rw [List.getElem?_append_right (by omega), z2, Nat.sub_self]
          rfl
        have h3 : (found ++ [row.take x.toNat])[k]? = some rw' := h3
        rw [e1] at h3
        cases h3
        rw [hr2] at h4
        cases h4
        rw [List.length_take]
        omega
      · have h3 : (found ++ [row.take x.toNat])[k]? = some rw' := h3
        rw [List.getElem?_eq_none (by rw [List.length_append, List.length_singleton]; omega)] at h3
        cases h3
    · dsimp only [List.set]
      rw [mR_snoc]
      exact .same ⟨rfl, rfl, rfl, rfl, trivial⟩
  · obtain ⟨row, found, jz⟩ := z
    obtain ⟨z1, z2, z3, z4⟩ := hz
    dsimp only at z1 z2 z3 z4 ⊢
    have ho2 := order_of_perm (c := c) (by omega) z3
    refine d_ret (d := R (row :: found)) (by exact e_new (n_cat (dl := [R row]) (dl2 := found.map fun x => R x) (r_lst (e_dL (a_one (by exact e_var 3)) (by show 1 ≤ 1000000; decide))) (r_in (by exact e_var 2) (.s .h0)) (by rw [List.length_map]; (show 1 + found.length ≤ 1000000); omega))) ⟨[(q, mJ jz)], ⟨row :: found, jz, rfl, rfl, ⟨by (show found.length + 1 = _); rw [z2], ho2.ball, ho2.nd, ho2.cnt, fun i rw' r h3 h4 => z4 i rw' r (by simpa using h3) h4⟩, z1.le (by show n + 12 + 2 * (c.2.length : Int) ≤ n + 40; omega)⟩, .cells (List.sublist_append_left [(q, mJ jz)] [(q2, mR found)])⟩
structure MoA where
  q : Addr
  j : Jar
  n : Int
  u : Int
def spLMom : Spec MoA := { args := fun x => [dAt x.q, R x.u], ms := fun x => [(x.q, mJ x.j)], pre := fun x => JarOk x.n x.j ∧ x.n ≤ 10 ^ 8 ∧ 0 ≤ x.u ∧ x.u ≤ 10000, post := fun x d m => ∃ (r : Int) (j : Jar), d = R r ∧ m = [(x.q, mJ j)] ∧ JarOk (x.n + 6) j }
abbrev s132 : Stmt := top 132
abbrev N132 : List Str := ["_law_jar_here", "_law_unit", "_law_far", "_law_some"]
theorem sc132 : FnScope N132 ["_law_jar_here", "_law_unit"] (defScope s132) := ⟨rfl, rfl, rfl, by decide +kernel, rfl, by decide +kernel, by decide +kernel⟩
theorem ok_lawMoment (T : Tx K mg) (a : At K mg "_law_moment" s132 ["_law_jar_here", "_law_unit"]) (h1 : Has P w K mg base "_law_pick" 1 spPick) : Has P w K mg base "_law_moment" 2 spLMom := has_of a fun f fd F => by
  refine fn_ok spLMom F sc132 (fun _ => rfl) fun ⟨q, j, n, u⟩ ⟨hj, hn, hu0, hu1⟩ cdv A outer s H E hr => ?_
  have hn : n ≤ 10 ^ 8 := hn
  have hj : JarOk n j := hj
  have hu0 : 0 ≤ u := hu0
  have hu1 : u ≤ 10000 := hu1
  refine d_setI 2 sc132.nd (i_sub (i_pick h1 hr (by exact e_var 0) (by exact e_pow e_int e_int ⟨by decide, by decide, by decide⟩) (.refl _) hj (by omega) (by decide) (by decide) fun x1 j1 a1 b1 hj1 => ⟨x1, rfl, i_pure (by exact e_mul e_int (e_pow e_int e_int ⟨by decide, by decide, by decide⟩) (.inl (by decide))) ⟨_, rfl, ?_⟩⟩))
  generalize x1 - 5 * 10 ^ (38 : Int).toNat = far
  refine d_setI 3 sc132.nd (i_lst (ai_cons (i_pick (k := 9) h1 hr (by exact e_var 0) (by exact e_int) (.refl _) hj1 (by omega) (by decide) (by decide) fun x2 j2 a2 b2 hj2 => ai_cons (i_sub (i_pure (by exact e_int) ⟨_, rfl, i_pick (k := 9) h1 hr (by exact e_var 0) (by exact e_int) (.refl _) hj2 (by omega) (by decide) (by decide) fun x3 j3 a3 b3 hj3 => ⟨x3, rfl, ai_cons (i_sub (i_add (i_mul (i_pure (by exact e_var 1) ⟨u, rfl, i_sub (i_pick (k := 9) h1 hr (by exact e_var 0) (by exact e_int) (.refl _) hj3 (by omega) (by decide) (by decide) fun x4 j4 a4 b4 hj4 => ⟨x4, rfl, i_pure (by exact e_int) ⟨4, rfl, x4 - 4, rfl, ?_, u * (x4 - 4), rfl, i_pick (k := 3) h1 hr (by exact e_var 0) (by exact e_int) (.refl _) hj4 (by omega) (by decide) (by decide) fun x5 j5 a5 b5 hj5 => ⟨x5, rfl, u * (x4 - 4) + x5, rfl, i_pure (by exact e_int) ⟨1, rfl, ai_cons (i_pure (by exact e_var 2) (ai_nil ⟨(by show 4 ≤ 1000000; decide), ?_⟩))⟩⟩⟩⟩)⟩))))⟩⟩)))))
  · exact .inr (by omega)
  · refine d_retI (i_if (bi_pure (k := true) (by exact b_eq (b_lt (e_var 1) (e_pow e_int e_int ⟨by decide, by decide, by decide⟩)) (decide_eq_true (show u < 10 ^ (30 : Int).toNat from Int.lt_of_le_of_lt hu1 (by decide)))) ⟨fun _ => i_ix (i_pure (by exact e_var 3) ⟨_, rfl, i_pick (k := 4) h1 hr (by exact e_var 0) (by exact e_int) (.refl _) hj5 (by omega) (by decide) (by decide) fun x6 j6 a6 b6 hj6 => ?_⟩), fun h => by cases h⟩))
    obtain ⟨y, hy, _⟩ := atI4 (a := x2) (b := 0 - x3) (c := u * (x4 - 4) + x5 - 1) (d := far) a6 b6
    exact ⟨x6, R y, rfl, at_map (xs := [x2, 0 - x3, u * (x4 - 4) + x5 - 1, far]) hy, [(q, mJ j6)], ⟨y, j6, rfl, rfl, hj6.le (by show n + 1 + 1 + 1 + 1 + 1 + 1 ≤ n + 6; omega)⟩, .same trivial⟩
end
end Bh
/-! V23: design: require_balls, lists_within, bound_lists. -/
namespace Bh
open PySem PySem.Spec PyProof.Rows L2
section
variable {P : Program} {w : World} {K : PySem.W.Frag} {mg : Str → Option Value} {base : Heap}
def spReqBalls : Spec Int := { args := fun x => [R x], pre := fun x => 2 ≤ x ∧ x ≤ 100, post := fun _ d _ => d = R () }
abbrev s108 : Stmt := top 108
theorem sc108 : FnScope ["balls"] ["balls"] (defScope s108) := ⟨rfl, rfl, rfl, by decide +kernel, rfl, by decide +kernel, by decide +kernel⟩
theorem ok_require_balls (T : Tx K mg) (a : At K mg "require_balls" s108 ["balls"]) (h1 : Has P w K mg base "is_at_least" 2 spAtLeast) : Has P w K mg base "require_balls" 3 spReqBalls := has_of a fun f fd F => by
  refine fn_ok spReqBalls F sc108 (fun _ => rfl) fun x ⟨h2, h3⟩ cdv A outer s H E hr => ?_
  have h2 : 2 ≤ x := h2
  have h3 : x ≤ 100 := h3
  refine d_no (k := !(decide (2 ≤ x)) || decide (100 < x)) (by exact b_or2 (b_not (b_val (e_call h1 hr (x, 2) rfl (fun _ _ h => h) (a_cons (by exact e_var 0) (a_one e_int)) trivial))) fun _ => b_gt (e_var 0) (e_gint T.balls)) ?_ (d_nil ⟨[], rfl, .same trivial⟩)
  rw [decide_eq_true h2, decide_eq_false (by omega)]
  rfl
/-- all lists of bounds with the product t and the room m; j: fuel -/
def within : Nat → Int → Int → List (List Int)
  | 0, _, _ => []
  | j + 1, room, t => (rngL 2 ((if room + 1 < t then room + 1 else t) + 1 - 2).toNat).flatMap fun b => if b = t then [[b]] else if t % b = 0 then (within j (room - b + 1) (t / b)).map fun r => b :: r else []
def capW : Nat → Nat
  | 0 => 0
  | j + 1 => 11 * (capW j + 1)
theorem flatMap_len {α β : Type} (f : α → List β) (n : Nat) : ∀ (l : List α), (∀ x ∈ l, (f x).length ≤ n) → (l.flatMap f).length ≤ l.length * n
  | [], _ => Nat.zero_le _
  | x :: l, h => by
    rw [List.flatMap_cons, List.length_append, List.length_cons, Nat.succ_mul]
    have h1 := h x List.mem_cons_self
    have h2 := flatMap_len f n l fun y hy => h y (List.mem_cons_of_mem _ hy)
    omega
def wItem (j : Nat) (room t b : Int) : List (List Int) := if b = t then [[b]] else if t % b = 0 then (within j (room - b + 1) (t / b)).map fun r => b :: r else []
theorem within_succ (j : Nat) (room t : Int) : within (j + 1) room t = (rngL 2 ((if room + 1 < t then room + 1 else t) + 1 - 2).toNat).flatMap (wItem j room t) := rfl
theorem wItem_len (j : Nat) (ih : ∀ room t : Int, room ≤ 11 → (within j room t).length ≤ capW j) (room t b : Int) (h : room ≤ 11) (hb : 1 ≤ b) : (wItem j room t b).length ≤ capW j + 1 := by
  unfold wItem
  split
  · exact Nat.le_add_left _ _
  · split
    · rw [List.length_map]
      exact Nat.le_succ_of_le (ih (room - b + 1) (t / b) (by omega))
    · exact Nat.zero_le _
theorem within_len : ∀ (j : Nat) (room t : Int), room ≤ 11 → (within j room t).length ≤ capW j
  | 0, room, t, h => Nat.le_refl _
  | j + 1, room, t, h => by
    rw [within_succ]
    refine Nat.le_trans (flatMap_len _ (capW j + 1) _ fun b hb => wItem_len j (within_len j) room t b h ?_) ?_
    · obtain ⟨i, hi⟩ := List.mem_iff_getElem?.mp hb
      have := (rngL_get hi).2
      omega
    · rw [rngL_len]
      refine Nat.mul_le_mul_right _ ?_
      split <;> omega
structure WLok (room t : Int) (l : List Int) : Prop where
  ne : l ≠ []
  bd : ∀ b ∈ l, 2 ≤ b
  pr : l.foldl (fun a b => a * b) 1 = t
  sm : ((l.map fun b => b - 1).sum : Int) ≤ room
theorem sum_len : ∀ (l : List Int), (∀ b ∈ l, 2 ≤ b) → (l.length : Int) ≤ (l.map fun b => b - 1).sum
  | [], _ => Int.le_refl _
  | x :: l, h => by
    have h1 := h x List.mem_cons_self
    have h2 := sum_len l fun b hb => h b (List.mem_cons_of_mem _ hb)
    rw [List.length_cons, List.map_cons, List.sum_cons]
    omega
theorem WLok.len {room t : Int} {l : List Int} (h : WLok room t l) (hr : room ≤ 11) : l.length ≤ 11 := by
  have := sum_len l h.bd
  have := h.sm
  omega
theorem foldl_mul (l : List Int) : ∀ a : Int, l.foldl (fun a b => a * b) a = a * l.foldl (fun a b => a * b) 1 := by
  induction l with
  | nil => intro a; simp
  | cons x l ih =>
    intro a
    rw [List.foldl_cons, List.foldl_cons, ih (a * x), ih (1 * x), Int.one_mul, Int.mul_assoc]
theorem within_ok : ∀ (j : Nat) (room t : Int), ∀ l ∈ within j room t, WLok room t l
  | 0, room, t, l, h => nomatch h
  | j + 1, room, t, l, h => by
    rw [within_succ, List.mem_flatMap] at h
    obtain ⟨b, hb, hl⟩ := h
    obtain ⟨i, hi⟩ := List.mem_iff_getElem?.mp hb
    obtain ⟨hi1, hi2⟩ := rngL_get hi
    have hb2 : 2 ≤ b := by omega
    have hb3 : b ≤ room + 1 := by
      split at hi1 <;> omega
    unfold wItem at hl
    split at hl
    · rename_i e
      rw [List.mem_singleton.mp hl]
      refine ⟨by simp, fun x hx => by rw [List.mem_singleton.mp hx]; exact hb2, ?_, ?_⟩
      · show 1 * b = t
        omega
      · show (b - 1) + 0 ≤ room
        omega
    · split at hl
      · rename_i e1 e2
        obtain ⟨r, hr, rfl⟩ := List.mem_map.mp hl
        obtain ⟨q1, q2, q3, q4⟩ := within_ok j _ _ r hr
        refine ⟨by simp, fun x hx => ?_, ?_, ?_⟩
        · rcases List.mem_cons.mp hx with hx | hx
          · rw [hx]; exact hb2
          · exact q2 x hx
        · rw [List.foldl_cons, foldl_mul, q3, Int.one_mul]
          exact Int.mul_ediv_cancel' (Int.dvd_of_emod_eq_zero e2)
        · rw [List.map_cons, List.sum_cons]
          omega
      · exact nomatch hl
abbrev s109 : Stmt := top 109
abbrev N109 : List Str := ["room", "ticks", "found", "bound", "rest"]
theorem sc109 : FnScope N109 ["room", "ticks"] (defScope s109) := ⟨rfl, rfl, rfl, by decide +kernel, rfl, by decide +kernel, by decide +kernel⟩
def spWithin (j : Nat) : Spec (Int × Int) := { args := fun x => [R x.1, R x.2], pre := fun x => 0 ≤ x.1 ∧ x.1 ≤ 11 ∧ 2 ≤ x.2 ∧ x.2 < 2 ^ j, post := fun x d _ => d = R (within j x.1 x.2) }
theorem cap_le {j : Nat} (h : j ≤ 5) : capW j ≤ 200000 := by
  have : j = 0 ∨ j = 1 ∨ j = 2 ∨ j = 3 ∨ j = 4 ∨ j = 5 := by omega
  rcases this with h | h | h | h | h | h <;> subst h <;> decide
theorem ok_within (T : Tx K mg) (a : At K mg "lists_within" s109 ["room", "ticks"]) : ∀ j, j ≤ 5 → Has P w K mg base "lists_within" (j + 1) (spWithin j)
  | 0, _ => has_of a fun f fd F => fn_ok (spWithin 0) F sc109 (fun _ => rfl) fun ⟨room, t⟩ ⟨h1, h2, h3, h4⟩ cdv A outer s H E hr => by
    have h3 : 2 ≤ t := h3
    have h4 : t < 1 := h4
    omega
  | j + 1, hj5 => has_of a fun f fd F => by
    have ih := ok_within T a j (by omega)
    have cp := cap_le (j := j) (by omega)
    refine fn_ok (spWithin (j + 1)) F sc109 (fun _ => rfl) fun ⟨room, t⟩ ⟨h1, h2, h3, h4⟩ cdv A outer s H E hr => ?_
    have h1 : 0 ≤ room := h1
    have h2 : room ≤ 11 := h2
    have h3 : 2 ≤ t := h3
    have h4 : t < 2 ^ (j + 1) := h4
    refine d_setI 2 sc109.nd (i_new n_nil fun q => ?_)
    obtain ⟨hi, hhi⟩ : ∃ hi : Int, hi = (if room + 1 < t then room + 1 else t) + 1 := ⟨_, rfl⟩
    have hhi2 : hi ≤ 13 ∧ 2 ≤ hi := by rw [hhi]; split <;> omega
    refine d_for (rngL 2 (hi - 2).toNat) (fun x => [(3, R x)]) (fun _ (_ : Unit) => True) (fun _ _ => [(2, dAt q), (1, R t), (0, R room)]) (fun i _ => [(q, mR (((rngL 2 (hi - 2).toNat).take i).flatMap (wItem j room t)))]) rfl (wk_rng2 T.range (by exact e_int) (by rw [hhi]; exact e_add (e_min2 rfl T.min (e_var 1) (e_add (e_var 0) e_int)) e_int) (by omega)) (fun x => g_name 3 sc109.nd) ⟨(), trivial, .same ⟨rfl, rfl, rfl, trivial⟩⟩ (fun i _ b hb _ => ?_) fun _ _ => ?_
    · obtain ⟨hb1, hb2⟩ := rngL_get hb
      have hlen : (((rngL 2 (hi - 2).toNat).take i).flatMap (wItem j room t)).length ≤ 11 * (capW j + 1) := by
        refine Nat.le_trans (flatMap_len _ (capW j + 1) _ fun x hx => wItem_len j (within_len j) room t x h2 ?_) ?_
        · obtain ⟨k, hk⟩ := List.mem_iff_getElem?.mp (List.mem_of_mem_take hx)
          have := (rngL_get hk).2
          omega
        · rw [List.length_take, rngL_len]
          exact Nat.mul_le_mul_right _ (by omega)
      have cp5 := cap_le hj5
      have hcap : 11 * (capW j + 1) ≤ 200000 := cp5
      have e1 : ((rngL 2 (hi - 2).toNat).take (i + 1)).flatMap (wItem j room t) = ((rngL 2 (hi - 2).toNat).take i).flatMap (wItem j room t) ++ wItem j room t b := by
        rw [List.take_add_one, hb, List.flatMap_append]
        simp
      rw [e1]
      refine d_if (k := decide (b = t)) (by exact b_eqS (e_var 3) (e_var 1)) (fun hk => ?_) fun hk => ?_
      · have hk := of_decide_eq_true hk
        have e2 : wItem j room t b = [[b]] := by unfold wItem; rw [if_pos hk]
        rw [e2, mR_snoc]
        exact d_expr (i_append (q := q) 0 (by exact e_var 2) rfl (i_pure (d := R [b]) (by exact e_lst (xs := [b]) (a_one (e_var 3)) rfl (by show 1 ≤ 1000000; decide)) ⟨_, rfl, by rw [List.length_map]; omega, d_nil (d_nil ⟨(), trivial, .same ⟨rfl, rfl, rfl, trivial⟩⟩)⟩))
      · have hk := of_decide_eq_false hk
        refine d_if (k := decide (t % b = 0)) (by exact b_eqS (e_mod (e_var 1) (e_var 3) (by omega)) e_int) (fun hk2 => ?_) fun hk2 => ?_
        · have hk2 := of_decide_eq_true hk2
          have e2 : wItem j room t b = (within j (room - b + 1) (t / b)).map fun r => b :: r := by unfold wItem; rw [if_neg hk, if_pos hk2]
          have hbt : b < t := by
            have : hi ≤ t + 1 := by rw [hhi]; split <;> omega
            omega
          have hbr : b ≤ room + 1 := by
            have : hi ≤ room + 2 := by rw [hhi]; split <;> omega
            omega
          have ht2 : 2 ≤ t / b := by
            have h5 := Int.mul_ediv_cancel' (Int.dvd_of_emod_eq_zero hk2)
            have h6 : 0 < t / b := Int.ediv_pos_of_pos_of_dvd (by omega) (by omega) (Int.dvd_of_emod_eq_zero hk2)
            have h7 : t / b ≠ 1 := fun e => by rw [e] at h5; omega
            omega
          have ht3 : t / b < 2 ^ j := by
            have h5 : t / b * b ≤ t := Int.ediv_mul_le _ (by omega)
            have h6 : t / b * 2 ≤ t / b * b := Int.mul_le_mul_of_nonneg_left (by omega) (by omega)
            have h7 : (2 : Int) ^ (j + 1) = 2 ^ j * 2 := Int.pow_succ 2 j
            omega
          have hwl := within_len j (room - b + 1) (t / b) (by omega)
          rw [e2]
          have hL : ∀ r ∈ within j (room - b + 1) (t / b), r.length ≤ 11 := fun r hr2 => (within_ok j _ _ r hr2).len (by omega)
          refine d_expr (i_extend (q := q) (dl2 := ((within j (room - b + 1) (t / b)).map fun r => b :: r).map fun x => R x) 0 (by exact e_var 2) rfl ?_ (by rw [List.length_map, List.length_map, List.length_map]; omega) (d_nil (d_nil (d_nil ⟨(), trivial, ?_⟩))))
          · refine e_lc [("rest", 4)] (within j (room - b + 1) (t / b)) (fun x => [(4, R x)]) (fun r => b :: r) rfl sc109.nd (wk_R (e_call ih (hr.mono (by omega)) (room - b + 1, t / b) rfl (fun _ _ h => h) (a_cons (by exact e_add (e_sub (e_var 0) (e_var 3)) e_int) (a_one (by exact e_fdiv (e_var 1) (e_var 3) ⟨by omega, by omega⟩))) ⟨by (show 0 ≤ room - b + 1); omega, by (show room - b + 1 ≤ 11); omega, ht2, ht3⟩)) (blkOk_by (N := N109) (sc := defScope s109) (by decide +kernel)) (by omega) (fun _ _ _ _ _ x => g_name 4 sc109.nd) fun s0 H0 C cl fp qq cc r hr2 => ?_
            have hrl := hL r hr2
            exact e_eq (e_dL (dl := R b :: ((r.map fun x => R x) ++ [])) (a_cons (by exact e_var 3) (a_star (r_R (xs := r) (by exact e_var 4)) a_nil)) (by rw [List.length_cons, List.length_append, List.length_map]; (show r.length + 0 + 1 ≤ 1000000); omega)) (by rw [List.append_nil]; rfl)
          · rw [← List.map_append]
            exact .same ⟨rfl, rfl, rfl, trivial⟩
        · have hk2 := of_decide_eq_false hk2
          have e2 : wItem j room t b = [] := by unfold wItem; rw [if_neg hk, if_neg hk2]
          rw [e2, List.append_nil]
          exact d_nil (d_nil (d_nil ⟨(), trivial, .same ⟨rfl, rfl, rfl, trivial⟩⟩))
    · rw [List.take_of_length_le (Nat.le_refl _)]
      refine d_frzC 2 (d' := R (within (j + 1) room t)) rfl (fun G o h1 h2 => by rw [within_succ, ← hhi]; exact frz_L h1 h2) (d_ret (by exact e_var 2) ⟨[], rfl, .same trivial⟩)
end
end Bh
/-! V24: design: bound_lists, longest_clock. -/
namespace Bh
open PySem PySem.Spec PyProof.Rows L2
section
variable {X : Cx} {ds : Ds} {ms : MS} {e a b c : Expr} {pos p : Pos}
/-- e not in WAYS -/
theorem b_ninW {z : Str} (h : ∃ a, X.mg "WAYS" = some (.ref a) ∧ ∀ H, SqT X.K H a [.str "back", .str "through"]) (ha : DE X ds ms a (R z)) (hz : z = "back" ∨ z = "through") (hg : Gl X "WAYS" := by rfl) : DB X ds ms (.Compare a [.NotIn] [.Name "WAYS" p] pos) false := by
  obtain ⟨l, h1, h2⟩ := h
  refine b_cmp (r := rIn X.K true) op_notIn_seq ha (e_glob (v := .ref l) h1 rfl hg) (hm := by rfl) fun σ H x y s hx hy Q k => ?_
  refine ⟨l, _, hy, .inr (h2 H), by rw [show x = V.str z from hx]; rfl, rfl, ?_⟩
  rw [show x = V.str z from hx]
  have e1 : inV (V.str z) [V.str "back", V.str "through"] = true := by
    show ((("back" : Str) == z) || ((("through" : Str) == z) || false)) = true
    rcases hz with hz | hz
    · subst hz
      rw [beq_self_eq_true]
      rfl
    · subst hz
      rw [beq_self_eq_true, Bool.true_or, Bool.or_true]
  show Q (V.bl (!inV (V.str z) [V.str "back", V.str "through"])) H
  rw [e1]
  exact k _ H (Ex.refl _ _) rfl
end
section
variable {P : Program} {w : World} {K : PySem.W.Frag} {mg : Str → Option Value} {base : Heap}
abbrev s110 : Stmt := top 110
theorem sc110 : FnScope ["balls", "ticks"] ["balls", "ticks"] (defScope s110) := ⟨rfl, rfl, rfl, by decide +kernel, rfl, by decide +kernel, by decide +kernel⟩
structure BtOk (b t : Int) : Prop where
  b0 : 2 ≤ b
  b1 : b ≤ 12
  t0 : 2 ≤ t
  t1 : t < 32
def spBLists : Spec (Int × Int) := { args := fun x => [R x.1, R x.2], pre := fun x => BtOk x.1 x.2, post := fun x d _ => d = R (within 5 (x.1 - 1) x.2) }
theorem ok_bound_lists (a : At K mg "bound_lists" s110 ["balls", "ticks"]) (h1 : Has P w K mg base "require_balls" 3 spReqBalls) (h2 : Has P w K mg base "require_at_least" 3 spReqAtLeast) (h3 : Has P w K mg base "lists_within" 6 (spWithin 5)) : Has P w K mg base "bound_lists" 7 spBLists := has_of a fun f fd F => by
  refine fn_ok spBLists F sc110 (fun _ => rfl) fun ⟨b, t⟩ h cdv A outer s H E hr => ?_
  obtain ⟨b0, b1, t0, t1⟩ := h
  have b0 : 2 ≤ b := b0
  have b1 : b ≤ 12 := b1
  have t0 : 2 ≤ t := t0
  have t1 : t < 32 := t1
  refine d_expr (i_pure (by exact e_call h1 (hr.mono (by decide)) b rfl (fun _ _ h => h) (a_one (by exact e_var 0)) ⟨b0, by omega⟩) ?_)
  refine d_expr (i_pure (by exact e_call h2 (hr.mono (by decide)) (t, 2) rfl (fun _ _ h => h) (a_cons (by exact e_var 1) (a_one e_int)) t0) ?_)
  exact d_ret (by exact e_call h3 hr (b - 1, t) rfl (fun _ _ h => h) (a_cons (by exact e_sub (e_var 0) e_int) (a_one (by exact e_var 1))) ⟨by (show 0 ≤ b - 1); omega, by (show b - 1 ≤ 11); omega, t0, t1⟩) ⟨[], rfl, .same trivial⟩
abbrev s111 : Stmt := top 111
abbrev N111 : List Str := ["balls", "ticks", "way", "best", "found", "bounds", "clock", "period", "bound"]
theorem sc111 : FnScope N111 ["balls", "ticks", "way"] (defScope s111) := ⟨rfl, rfl, rfl, by decide +kernel, rfl, by decide +kernel, by decide +kernel⟩
structure LcA where
  b : Int
  t : Int
  z : Str
def clkOf (b : Int) (z : Str) (l : List Int) : Clk := (b, l.map fun x => (x, z))
theorem clkOf_ok {b t : Int} {z : Str} {l : List Int} (h0 : 2 ≤ b) (h1 : b ≤ 12) (hz : z = "back" ∨ z = "through") (h : WLok (b - 1) t l) : ClkS (clkOf b z l) ∧ turnOf (clkOf b z l).2 = t := by
  refine ⟨⟨⟨h0, by show b ≤ 100; omega, ?_, ?_, ?_⟩, h1⟩, ?_⟩
  · show l.map _ ≠ []
    intro e
    exact h.ne (List.map_eq_nil_iff.mp e)
  · intro r hr
    obtain ⟨x, hx, rfl⟩ := List.mem_map.mp hr
    exact ⟨h.bd x hx, hz⟩
  · show (((l.map fun x => (x, z)).map fun r => r.1 - 1).sum : Int) < b
    rw [List.map_map]
    have := h.sm
    show (l.map fun x => x - 1).sum < b
    omega
  · show (l.map fun x => (x, z)).foldl (fun a r => a * r.1) 1 = t
    rw [List.foldl_map]
    exact h.pr
def lgStep (b : Int) (z : Str) (y : Int × Option Clk) (l : List Int) : Int × Option Clk := if y.1 < periodOf (clkOf b z l) then (periodOf (clkOf b z l), some (clkOf b z l)) else y
def lgOf (b : Int) (z : Str) (ls : List (List Int)) : Int × Option Clk := ls.foldl (lgStep b z) (0, none)
def longestOf (b t : Int) (z : Str) : Option Clk := (lgOf b z (within 5 (b - 1) t)).2
theorem lg_mem (b : Int) (z : Str) : ∀ (ls : List (List Int)) (y : Int × Option Clk) (c : Clk), (ls.foldl (lgStep b z) y).2 = some c → y.2 = some c ∨ ∃ l ∈ ls, c = clkOf b z l
  | [], y, c, h => .inl h
  | l :: ls, y, c, h => by
    rcases lg_mem b z ls (lgStep b z y l) c h with h | ⟨l2, h1, h2⟩
    · unfold lgStep at h
      split at h
      · exact .inr ⟨l, List.mem_cons_self, (Option.some.inj h).symm⟩
      · exact .inl h
    · exact .inr ⟨l2, List.mem_cons_of_mem _ h1, h2⟩
theorem longest_ok {b t : Int} {z : Str} (h : BtOk b t) (hz : z = "back" ∨ z = "through") {c : Clk} (e : longestOf b t z = some c) : ClkS c ∧ c.1 = b ∧ turnOf c.2 = t := by
  rcases lg_mem b z _ _ c e with h1 | ⟨l, h1, h2⟩
  · cases h1
  · have := clkOf_ok h.b0 h.b1 hz (within_ok 5 (b - 1) t l h1)
    rw [h2]
    exact ⟨this.1, rfl, this.2⟩
def spLongest : Spec LcA := { args := fun x => [R x.b, R x.t, R x.z], pre := fun x => BtOk x.b x.t ∧ (x.z = "back" ∨ x.z = "through"), post := fun x d _ => d = R (longestOf x.b x.t x.z) }
theorem ok_longest (T : Tx K mg) (a : At K mg "longest_clock" s111 ["balls", "ticks", "way"]) (h1 : Has P w K mg base "require_balls" 3 spReqBalls) (h2 : Has P w K mg base "require_at_least" 3 spReqAtLeast) (h3 : Has P w K mg base "lists_within" 6 (spWithin 5)) (h4 : Has P w K mg base "queue_period" 26 spPeriod) : Has P w K mg base "longest_clock" 27 spLongest := has_of a fun f fd F => by
  refine fn_ok spLongest F sc111 (fun _ => rfl) fun ⟨b, t, z⟩ ⟨h, hz⟩ cdv A outer s H E hr => ?_
  obtain ⟨b0, b1, t0, t1⟩ := h
  have b0 : 2 ≤ b := b0
  have b1 : b ≤ 12 := b1
  have t0 : 2 ≤ t := t0
  have t1 : t < 32 := t1
  have hz : z = "back" ∨ z = "through" := hz
  refine d_expr (i_pure (by exact e_call h1 (hr.mono (by decide)) b rfl (fun _ _ h => h) (a_one (by exact e_var 0)) ⟨b0, by omega⟩) ?_)
  refine d_expr (i_pure (by exact e_call h2 (hr.mono (by decide)) (t, 2) rfl (fun _ _ h => h) (a_cons (by exact e_var 1) (a_one e_int)) t0) ?_)
  refine d_no (k := !true || false) (by exact b_or2 (b_not (b_val (e_isi "str" T.isinstance (e_var 2) ty_str T.str (by decide +kernel) (by decide +kernel)))) fun _ => b_ninW T.ways (e_var 2) hz) rfl ?_
  refine d_asg (d := R ((0 : Int), (none : Option Clk))) (by exact e_pair (x := (0 : Int)) (y := (none : Option Clk)) e_int e_none) (g_pair (x := ((0 : Int), (none : Option Clk))) rfl (g_name 3 sc111.nd) (g_name 4 sc111.nd)) ?_
  refine d_for (within 5 (b - 1) t) (fun x => [(5, R x)]) (fun i (y : Int × Option Clk) => y = lgOf b z ((within 5 (b - 1) t).take i)) (fun _ y => [(3, R y.1), (4, R y.2), (2, R z), (0, R b)]) (fun _ _ => []) rfl (wk_R (by exact e_call h3 (hr.mono (by decide)) (b - 1, t) rfl (fun _ _ h => h) (a_cons (by exact e_sub (e_var 0) e_int) (a_one (by exact e_var 1))) ⟨by (show 0 ≤ b - 1); omega, by (show b - 1 ≤ 11); omega, t0, t1⟩)) (fun x => g_name 5 sc111.nd) ⟨(0, none), rfl, .same ⟨rfl, rfl, rfl, rfl, trivial⟩⟩ (fun i y l hl hy => ?_) fun y hy => ?_
  · have hw := within_ok 5 (b - 1) t l (List.mem_of_getElem? hl)
    obtain ⟨hc1, hc2⟩ := clkOf_ok b0 b1 hz hw
    have hl11 := hw.len (by omega)
    refine d_set (d := R (clkOf b z l)) 6 sc111.nd (by exact e_pair (x := b) (y := l.map fun x => (x, z)) (e_var 0) (e_lc [("bound", 8)] l (fun x => [(8, R x)]) (fun x => (x, z)) rfl sc111.nd (wk_R (e_var 5)) (blkOk_by (N := N111) (sc := defScope s111) (by decide +kernel)) (by omega) (fun _ _ _ _ _ x => g_name 8 sc111.nd) fun s0 H0 C cl fp qq cc x hx => e_pair (x := x) (y := z) (e_var 8) (e_var 2))) ?_
    refine d_set (d := R (periodOf (clkOf b z l))) 7 sc111.nd (by exact e_call h4 hr (clkOf b z l) rfl (fun _ _ h => h) (a_one (by exact e_var 6)) hc1) ?_
    have hstep : lgOf b z ((within 5 (b - 1) t).take (i + 1)) = lgStep b z y l := by
      rw [List.take_add_one, hl, hy]
      unfold lgOf
      rw [List.foldl_append]
      rfl
    refine d_if (k := decide (y.1 < periodOf (clkOf b z l))) (by exact b_gt (e_var 7) (e_var 3)) (fun hk => ?_) fun hk => ?_
    · refine d_par 3 4 (da := R (periodOf (clkOf b z l))) (db := R (some (clkOf b z l))) rfl sc111.nd (by exact e_var 7) (by exact e_var 6) (d_nil (d_nil ⟨(periodOf (clkOf b z l), some (clkOf b z l)), ?_, .same ⟨rfl, rfl, rfl, rfl, trivial⟩⟩))
      rw [hstep]
      unfold lgStep
      rw [if_pos (of_decide_eq_true hk)]
    · refine d_nil (d_nil ⟨y, ?_, .same ⟨rfl, rfl, rfl, rfl, trivial⟩⟩)
      rw [hstep]
      unfold lgStep
      rw [if_neg (of_decide_eq_false hk)]
  · refine d_ret (d := R y.2) (by exact e_var 4) ⟨[], ?_, .same trivial⟩
    rw [hy, List.take_length]
    rfl
end
end Bh
/-! V25: ordered_sight. -/
namespace Bh
open PySem PySem.Spec PyProof.Rows L2
section
variable {P : Program} {w : World} {K : PySem.W.Frag} {mg : Str → Option Value} {base : Heap}
structure OdA where
  c : Clk
  o : List Int
  t : Int
def orderedOf (c : Clk) (o : List Int) (t : Int) : Sight := (farOf c t).map (pick o)
def spOrdered : Spec OdA := { args := fun x => [R x.c, R x.o, R x.t], pre := fun x => ClkS x.c ∧ OrderOk x.c x.o, post := fun x d _ => d = R (orderedOf x.c x.o x.t) }
abbrev s125 : Stmt := top 125
abbrev N125 : List Str := ["clock", "order", "tick", "places", "place"]
theorem sc125 : FnScope N125 ["clock", "order", "tick"] (defScope s125) := ⟨rfl, rfl, rfl, by decide +kernel, rfl, by decide +kernel, by decide +kernel⟩
theorem far_mem {c : Clk} (hc : ClkS c) (t : Int) : ∀ row ∈ farOf c t, row.length ≤ 12 ∧ ∀ p ∈ row, 0 ≤ p ∧ p < c.1 := fun row hr => by
  have hs := far_ok hc (t := t)
  refine ⟨?_, fun p hp => hs.ball p (List.mem_flatten.mpr ⟨row, hr, hp⟩)⟩
  have h1 := hs.cnt
  have h2 := hc.sm12
  obtain ⟨l1, l2, e⟩ := List.append_of_mem hr
  rw [e, List.flatten_append, List.flatten_cons, List.length_append, List.length_append] at h1
  omega
theorem ok_ordered (a : At K mg "ordered_sight" s125 ["clock", "order", "tick"]) (h1 : Has P w K mg base "require_clock" 5 spReqClock) (h2 : Has P w K mg base "require_order" 5 spReqOrder) (h3 : Has P w K mg base "require_tick" 2 spReqTick) (h4 : Has P w K mg base "far_sight" 28 spFar) : Has P w K mg base "ordered_sight" 29 spOrdered := has_of a fun f fd F => by
  refine fn_ok spOrdered F sc125 (fun _ => rfl) fun ⟨c, q, t⟩ ⟨hc, hq⟩ cdv A outer s H E hr => ?_
  have hc : ClkS c := hc
  have hq : OrderOk c q := hq
  have hm := far_mem hc t
  have hqc := hq.cnt
  have hl := (far_ok hc (t := t)).len
  have hl2 := hc.len
  refine d_expr (i_pure (by exact e_call h1 (hr.mono (by decide)) c rfl (fun _ _ h => h) (a_one (by exact e_var 0)) hc.toClkOk) ?_)
  refine d_expr (i_pure (by exact e_call h2 (hr.mono (by decide)) (c, q) rfl (fun _ _ h => h) (a_cons (by exact e_var 0) (a_one (by exact e_var 1))) ⟨hc.toClkOk, hq⟩) ?_)
  refine d_expr (i_pure (by exact e_call h3 (hr.mono (by decide)) t rfl (fun _ _ h => h) (a_one (by exact e_var 2)) trivial) ?_)
  exact d_ret (d := R (orderedOf c q t)) (by exact e_lc [("places", 3)] (farOf c t) (fun x => [(3, R x)]) (pick q) rfl sc125.nd (wk_R (e_call h4 hr (c, t) rfl (fun _ _ h => h) (a_cons (by exact e_var 0) (a_one (by exact e_var 2))) hc)) (blkOk_by (N := N125) (sc := defScope s125) (by decide +kernel)) (by omega) (fun _ _ _ _ _ x => g_name 3 sc125.nd) fun s0 H0 C cl fp qq cc row hx => e_lc [("place", 4)] row (fun x => [(4, R x)]) (fun p => q.getD p.toNat 0) rfl sc125.nd (wk_R (e_var 3)) (blkOk_by (N := N125) (sc := { kind := .function, names := [(".0", .local), ("places", .local), ("order", .cell)], isGenerator := false, isCoroutine := false }) (by decide +kernel)) (by have := (hm row hx).1; omega) (fun _ _ _ _ _ x => g_name 4 sc125.nd) fun s0 H0 C cl fp qq cc p hp => e_item (xs := q) (r_R (e_var 1)) (e_var 4) (pick_at ((hm row hx).2 p hp).1 (by have := ((hm row hx).2 p hp).2; omega))) ⟨[], rfl, .same trivial⟩
end
end Bh
/-! V26: wishes. -/
namespace Bh
open PySem PySem.Spec PyProof.Rows L2
section
variable {P : Program} {w : World} {K : PySem.W.Frag} {mg : Str → Option Value} {base : Heap}
def WsIn (c : Clk) (x : Int × Int) : Prop := (0 ≤ x.1 ∧ x.1 < c.1) ∧ 0 ≤ x.2 ∧ x.2 ≤ (c.2.length : Int)
structure WishOk (c : Clk) (ws : List (Int × Int)) : Prop where
  inn : ∀ x ∈ ws, WsIn c x
  nd : (ws.map (·.1)).Nodup
  ln : ws.length ≤ 12
def spIsWish : Spec (Clk × Int × Int) := { args := fun x => [R x.1, R x.2], pre := fun x => WsIn x.1 x.2, post := fun _ d _ => d = R true }
abbrev s114 : Stmt := top 114
abbrev N114 : List Str := ["clock", "value", "ball", "rail"]
theorem sc114 : FnScope N114 ["clock", "value"] (defScope s114) := ⟨rfl, rfl, rfl, by decide +kernel, rfl, by decide +kernel, by decide +kernel⟩
theorem ok_is_wish (T : Tx K mg) (a : At K mg "is_wish" s114 ["clock", "value"]) (h1 : Has P w K mg base "is_integer" 1 spIsInt) : Has P w K mg base "is_wish" 2 spIsWish := has_of a fun f fd F => by
  refine fn_ok spIsWish F sc114 (fun _ => rfl) fun ⟨c, b, r⟩ ⟨⟨hb0, hb1⟩, hr0, hr1⟩ cdv A outer s H E hr => ?_
  have hb0 : 0 ≤ b := hb0
  have hb1 : b < c.1 := hb1
  have hr0 : 0 ≤ r := hr0
  have hr1 : r ≤ (c.2.length : Int) := hr1
  refine d_no (k := !true || !decide (((2 : Nat) : Int) = 2)) (by exact b_or2 (b_not (b_val (e_isi "tuple" T.isinstance (e_var 1) (ty_dT (dl := [R b, R r])) T.tuple (by decide +kernel) (by decide +kernel)))) fun _ => b_neS (e_lenT (dl := [R b, R r]) T.len (e_var 1)) e_int) rfl ?_
  refine d_asg (by exact e_var 1) (g_pair (x := (b, r)) rfl (g_name 2 sc114.nd) (g_name 3 sc114.nd)) ?_
  refine d_no (k := !true || !true) (by exact b_or2 (b_not (b_val (e_call h1 hr b rfl (fun _ _ h => h) (a_one (by exact e_var 2)) trivial))) fun _ => b_not (b_val (e_call h1 hr r rfl (fun _ _ h => h) (a_one (by exact e_var 3)) trivial))) rfl ?_
  refine d_ret (d := R ((decide (0 ≤ b) && decide (b < c.1)) && (decide (0 ≤ r) && decide (r ≤ (c.2.length : Int))))) (e_and2 (by exact e_chain (g := fun i j => decide (i ≤ j)) (g' := fun i j => decide (i < j)) op_le op_lt e_int (e_var 2) (e_fst (x := c) (e_var 0) e_int)) fun _ => by exact e_chain (g := fun i j => decide (i ≤ j)) (g' := fun i j => decide (i ≤ j)) op_le op_le e_int (e_var 3) (e_lenR (xs := c.2) T.len (r_R (e_snd (x := c) (e_var 0) e_int)))) ⟨[], ?_, .same trivial⟩
  show R _ = R true
  rw [decide_eq_true hb0, decide_eq_true hb1, decide_eq_true hr0, decide_eq_true hr1]
  rfl
end
end Bh
/-! V27: require_wished, place_rails. -/
namespace Bh
open PySem PySem.Spec PyProof.Rows L2
section
variable {P : Program} {w : World} {K : PySem.W.Frag} {mg : Str → Option Value} {base : Heap}
structure WsA where
  c : Clk
  t : Int
  ws : List (Int × Int)
def spReqWish : Spec WsA := { args := fun x => [R x.c, R x.t, R x.ws], pre := fun x => ClkOk x.c ∧ WishOk x.c x.ws, post := fun _ d _ => d = R () }
abbrev s115 : Stmt := top 115
abbrev N115 : List Str := ["clock", "tick", "wishes", "balls", "index", "wish"]
theorem sc115 : FnScope N115 ["clock", "tick", "wishes"] (defScope s115) := ⟨rfl, rfl, rfl, by decide +kernel, rfl, by decide +kernel, by decide +kernel⟩
theorem ok_require_wished (T : Tx K mg) (a : At K mg "require_wished" s115 ["clock", "tick", "wishes"]) (h1 : Has P w K mg base "require_clock" 5 spReqClock) (h2 : Has P w K mg base "require_tick" 2 spReqTick) (h3 : Has P w K mg base "is_wish" 2 spIsWish) : Has P w K mg base "require_wished" 6 spReqWish := has_of a fun f fd F => by
  refine fn_ok spReqWish F sc115 (fun _ => rfl) fun ⟨c, t, ws⟩ ⟨hc, hw⟩ cdv A outer s H E hr => ?_
  have hc : ClkOk c := hc
  have hw : WishOk c ws := hw
  have hln := hw.ln
  refine d_expr (i_pure (by exact e_call h1 hr c rfl (fun _ _ h => h) (a_one (by exact e_var 0)) hc) ?_)
  refine d_expr (i_pure (by exact e_call h2 (hr.mono (by decide)) t rfl (fun _ _ h => h) (a_one (by exact e_var 1)) trivial) ?_)
  refine d_no (k := !true || decide ((100 : Int) < (ws.length : Int))) (by exact b_or2 (b_not (b_val (e_isi "list" T.isinstance (e_var 2) (ty_dL (dl := ws.map fun x => R x)) T.list (by decide +kernel) (by decide +kernel)))) fun _ => b_gt (e_lenR (xs := ws) T.len (r_R (e_var 2))) (e_gint T.wishes)) ?_ ?_
  · rw [decide_eq_false (by omega)]
    rfl
  refine d_setI 3 sc115.nd (i_new n_nil fun q => ?_)
  refine d_for (enF 0 ws) (fun x => [(5, R x.2), (4, R x.1)]) (fun _ (_ : Unit) => True) (fun _ _ => [(3, dAt q), (2, R ws), (1, R t), (0, R c)]) (fun i _ => [(q, mR ((ws.take i).map (·.1)))]) rfl (wk_enum T.enumerate (by exact e_var 2)) (fun x => g_pair rfl (g_name 4 sc115.nd) (g_name 5 sc115.nd)) ⟨(), trivial, .same ⟨rfl, rfl, rfl, rfl, trivial⟩⟩ (fun i _ x hx _ => ?_) fun _ _ => d_nil ⟨[], rfl, .cells (List.nil_sublist _)⟩
  obtain ⟨hi, hx2⟩ := enF_get hx
  obtain ⟨ix, b, r⟩ := x
  have hx2 : ws[i]? = some (b, r) := hx2
  have hin := hw.inn (b, r) (List.mem_of_getElem? hx2)
  have e3 : ws.take (i + 1) = ws.take i ++ [(b, r)] := by rw [List.take_add_one, hx2]; rfl
  have hnot : b ∉ (ws.take i).map (·.1) := fun z => by
    have h5 := hw.nd
    have h6 : ws = ws.take (i + 1) ++ ws.drop (i + 1) := (List.take_append_drop ..).symm
    rw [h6, e3, List.map_append, List.map_append] at h5
    have h7 := (List.nodup_append.mp (List.nodup_append.mp h5).1).2.2
    exact h7 b z b (by simp) rfl
  refine d_no (k := !true || decide (b ∈ (ws.take i).map (·.1))) (by exact b_or2 (b_not (b_val (e_call h3 (hr.mono (by decide)) (c, b, r) rfl (fun _ _ h => h) (a_cons (by exact e_var 0) (a_one (by exact e_var 5))) hin))) fun _ => b_inL (k := b) (e_fst (x := (b, r)) (e_var 5) e_int) (r_in (e_var 3) .h0)) (by rw [decide_eq_false hnot]; rfl) ?_
  refine d_expr (i_append (q := q) 0 (by exact e_var 3) rfl (i_pure (d := R b) (by exact e_fst (x := (b, r)) (e_var 5) e_int) ⟨_, rfl, by rw [List.length_map, List.length_map, List.length_take]; omega, d_nil ⟨(), trivial, ?_⟩⟩))
  dsimp only [List.set]
  rw [e3, List.map_append, List.map_singleton, mR_snoc]
  exact .same ⟨rfl, rfl, rfl, rfl, trivial⟩
end
end Bh
/-! V28: place_rails. -/
namespace Bh
open PySem PySem.Spec PyProof.Rows L2
section
variable {P : Program} {w : World} {K : PySem.W.Frag} {mg : Str → Option Value} {base : Heap}
def plc (acc : List Int) (rail : Int) (row : List Int) : List Int := row.foldl (fun a p => a.set p.toNat rail) acc
def plcAll (n : Nat) (xs : List (Int × List Int)) : List Int := xs.foldl (fun a x => plc a x.1 x.2) (List.replicate n 0)
def railsOf (c : Clk) (t : Int) : List Int := plcAll c.1.toNat (enF 0 (farOf c t))
theorem plc_len (rail : Int) : ∀ (row acc : List Int), (plc acc rail row).length = acc.length
  | [], _ => rfl
  | p :: row, acc => by
    show (plc (acc.set p.toNat rail) rail row).length = _
    rw [plc_len rail row, List.length_set]
theorem plcAll_len (n : Nat) : ∀ (xs : List (Int × List Int)) (acc : List Int), (xs.foldl (fun a x => plc a x.1 x.2) acc).length = acc.length
  | [], _ => rfl
  | x :: xs, acc => by rw [List.foldl_cons, plcAll_len n xs, plc_len]
theorem rails_len (c : Clk) (t : Int) : (railsOf c t).length = c.1.toNat := by
  unfold railsOf plcAll
  rw [plcAll_len c.1.toNat, List.length_replicate]
def spPlace : Spec (Clk × Int) := { args := fun x => [R x.1, R x.2], pre := fun x => ClkS x.1, post := fun x d _ => d = R (railsOf x.1 x.2) }
abbrev s116 : Stmt := top 116
abbrev N116 : List Str := ["clock", "tick", "found", "rail", "places", "place"]
theorem sc116 : FnScope N116 ["clock", "tick"] (defScope s116) := ⟨rfl, rfl, rfl, by decide +kernel, rfl, by decide +kernel, by decide +kernel⟩
theorem ok_place_rails (T : Tx K mg) (a : At K mg "place_rails" s116 ["clock", "tick"]) (h1 : Has P w K mg base "far_sight" 28 spFar) : Has P w K mg base "place_rails" 29 spPlace := has_of a fun f fd F => by
  refine fn_ok spPlace F sc116 (fun _ => rfl) fun ⟨c, t⟩ hc cdv A outer s H E hr => ?_
  have hc : ClkS c := hc
  have hlo := hc.lo
  have h12 := hc.sm12
  have hm := far_mem hc t
  refine d_setI 2 sc116.nd (i_new (n_rep (d := R (0 : Int)) (n_lst (a_one (by exact e_int)) (by show 1 ≤ 1000000; decide)) (by exact e_fst (x := c) (e_var 0) e_int) (by omega) (by omega)) fun q => ?_)
  refine d_for (enF 0 (farOf c t)) (fun x => [(4, R x.2), (3, R x.1)]) (fun _ (_ : Unit) => True) (fun _ _ => [(2, dAt q), (1, R t), (0, R c)]) (fun i _ => [(q, mR (plcAll c.1.toNat ((enF 0 (farOf c t)).take i)))]) rfl (wk_enum T.enumerate (by exact e_call h1 hr (c, t) rfl (fun _ _ h => h) (a_cons (by exact e_var 0) (a_one (by exact e_var 1))) hc)) (fun x => g_pair rfl (g_name 3 sc116.nd) (g_name 4 sc116.nd)) ⟨(), trivial, ?_⟩ (fun i _ x hx _ => ?_) fun _ _ => ?_
  · show Wk _ _ _ [(q, mL ((List.replicate c.1.toNat (0 : Int)).map fun x => R x))]
    rw [List.map_replicate]
    exact .same ⟨rfl, rfl, rfl, trivial⟩
  · obtain ⟨hi, hx2⟩ := enF_get hx
    have hrow := hm x.2 (List.mem_of_getElem? hx2)
    have e1 : plcAll c.1.toNat ((enF 0 (farOf c t)).take (i + 1)) = plc (plcAll c.1.toNat ((enF 0 (farOf c t)).take i)) x.1 x.2 := by
      rw [List.take_add_one, hx]
      unfold plcAll
      rw [List.foldl_append]
      rfl
    have hl : (plcAll c.1.toNat ((enF 0 (farOf c t)).take i)).length = c.1.toNat := by unfold plcAll; rw [plcAll_len c.1.toNat, List.length_replicate]
    rw [e1]
    generalize plcAll c.1.toNat ((enF 0 (farOf c t)).take i) = acc at *
    refine d_for x.2 (fun y => [(5, R y)]) (fun _ (_ : Unit) => True) (fun _ _ => [(4, R x.2), (3, R x.1), (2, dAt q), (1, R t), (0, R c)]) (fun j _ => [(q, mR (plc acc x.1 (x.2.take j)))]) rfl (wk_R (by exact e_var 4)) (fun x => g_name 5 sc116.nd) ⟨(), trivial, .same ⟨rfl, rfl, rfl, rfl, rfl, trivial⟩⟩ (fun j _ y hy _ => ?_) fun _ _ => ?_
    · have hy2 := hrow.2 y (List.mem_of_getElem? hy)
      have e2 : plc acc x.1 (x.2.take (j + 1)) = (plc acc x.1 (x.2.take j)).set y.toNat x.1 := by
        rw [List.take_add_one, hy]
        unfold plc
        rw [List.foldl_append]
        rfl
      have hl2 : (plc acc x.1 (x.2.take j)).length = c.1.toNat := by rw [plc_len, hl]
      rw [e2]
      refine d_setItem (q := q) (j := y.toNat) (iv := y) 0 (i_pure (d := R x.1) (by exact e_var 3) ⟨by exact e_var 2, by exact e_var 5, _, rfl, ?_, ?_⟩)
      · rw [List.length_map, hl2]
        exact ixN_of hy2.1 (by omega)
      · refine d_nil ⟨(), trivial, ?_⟩
        have e3 : mR ((plc acc x.1 (x.2.take j)).set y.toNat x.1) = mL (((plc acc x.1 (x.2.take j)).map fun x => R x).set y.toNat (R x.1)) := by
          show mL (List.map _ _) = _
          rw [List.map_set]
        rw [e3]
        exact .same ⟨rfl, rfl, rfl, rfl, rfl, trivial⟩
    · rw [List.take_length]
      exact d_nil ⟨(), trivial, .same ⟨rfl, rfl, rfl, trivial⟩⟩
  · rw [List.take_length]
    exact d_frzC 2 (d' := R (railsOf c t)) rfl (fun G o h1 h2 => frz_L h1 h2) (d_ret (by exact e_var 2) ⟨[], rfl, .same trivial⟩)
end
end Bh
/-! P1: orders that grant wishes, counted: plain. -/
namespace Bh
def fall (r : Nat) : Nat → Nat
  | 0 => 1
  | w + 1 => fall r w * (r - w)
def fact : Nat → Nat
  | 0 => 1
  | n + 1 => (n + 1) * fact n
def prN (h : Nat → Nat) : Nat → Nat
  | 0 => 1
  | m + 1 => prN h m * h m
def smN (h : Nat → Nat) : Nat → Nat
  | 0 => 0
  | m + 1 => smN h m + h m
theorem fall_up (r : Nat) : ∀ w, fall (r + 1) (w + 1) = (r + 1) * fall r w
  | 0 => by simp [fall]
  | w + 1 => by
    show fall (r + 1) (w + 1) * (r + 1 - (w + 1)) = _
    rw [fall_up r w, show r + 1 - (w + 1) = r - w by omega, Nat.mul_assoc]
    rfl
theorem fall_zero {r : Nat} : ∀ {w : Nat}, r < w → fall r w = 0
  | 0, h => by omega
  | w + 1, h => by
    show fall r w * (r - w) = 0
    by_cases e : r < w
    · rw [fall_zero e, Nat.zero_mul]
    · rw [show r - w = 0 by omega, Nat.mul_zero]
theorem fall_rec (r : Nat) : ∀ w, fall (r + 1) w = fall r w + w * fall r (w - 1)
  | 0 => by simp [fall]
  | w + 1 => by
    rw [fall_up]
    show (r + 1) * fall r w = fall r w * (r - w) + (w + 1) * fall r w
    by_cases e : r < w
    · rw [fall_zero e]
      simp
    · rw [Nat.mul_comm (fall r w), ← Nat.add_mul]
      congr 1
      omega
theorem prN_at {h : Nat → Nat} {r : Nat} : ∀ {m : Nat}, r < m → prN h m = prN (fun j => if j = r then 1 else h j) m * h r
  | 0, e => by omega
  | m + 1, e => by
    show prN h m * h m = prN _ m * (if m = r then 1 else h m) * h r
    by_cases q : m = r
    · subst q
      have key : ∀ n, n ≤ m → prN h n = prN (fun j => if j = m then 1 else h j) n := fun n => by
        induction n with
        | zero => intro _; rfl
        | succ n ih =>
          intro hn
          show prN h n * h n = prN _ n * (if n = m then 1 else h n)
          rw [ih (by omega), if_neg (by omega)]
      rw [key m (Nat.le_refl _), if_pos rfl, Nat.mul_one]
    · rw [if_neg q, prN_at (m := m) (r := r) (by omega), Nat.mul_assoc, Nat.mul_assoc, Nat.mul_comm (h m)]
theorem prN_congr {h h' : Nat → Nat} : ∀ {m : Nat}, (∀ j, j < m → h j = h' j) → prN h m = prN h' m
  | 0, _ => rfl
  | m + 1, e => by
    show prN h m * h m = prN h' m * h' m
    rw [prN_congr fun j hj => e j (by omega), e m (by omega)]
theorem smN_congr {h h' : Nat → Nat} : ∀ {m : Nat}, (∀ j, j < m → h j = h' j) → smN h m = smN h' m
  | 0, _ => rfl
  | m + 1, e => by
    show smN h m + h m = smN h' m + h' m
    rw [smN_congr fun j hj => e j (by omega), e m (by omega)]
theorem smN_add {h h' : Nat → Nat} : ∀ {m : Nat}, smN (fun j => h j + h' j) m = smN h m + smN h' m
  | 0 => rfl
  | m + 1 => by
    show smN _ m + (h m + h' m) = (smN h m + h m) + (smN h' m + h' m)
    rw [smN_add]
    omega
theorem smN_zero : ∀ {m : Nat}, smN (fun _ => 0) m = 0
  | 0 => rfl
  | m + 1 => smN_zero (m := m)
theorem smN_one {r : Nat} : ∀ {m : Nat}, r < m → smN (fun j => if j = r then 1 else 0) m = 1
  | 0, e => by omega
  | m + 1, e => by
    show smN _ m + (if m = r then 1 else 0) = 1
    by_cases q : m = r
    · subst q
      rw [if_pos rfl, smN_congr (h' := fun _ => 0) fun j hj => if_neg (by omega), smN_zero]
    · rw [if_neg q, smN_one (m := m) (by omega)]
theorem prN_zero {f g : Nat → Nat} : ∀ {m : Nat}, smN f m < smN g m → prN (fun j => fall (f j) (g j)) m = 0
  | 0, e => by cases e
  | m + 1, e => by
    have e : smN f m + f m < smN g m + g m := e
    show prN _ m * fall (f m) (g m) = 0
    by_cases q : f m < g m
    · rw [fall_zero q, Nat.mul_zero]
    · rw [prN_zero (m := m) (by omega), Nat.zero_mul]
/-- the count, split by who comes next -/
theorem tot_split {f g : Nat → Nat} {m r U : Nat} (hr : r < m) (hf : 1 ≤ f r) (hU : smN f m = smN g m + U) :
    prN (fun j => fall (f j) (g j)) m * fact U = U * (prN (fun j => fall (if j = r then f r - 1 else f j) (g j)) m * fact (U - 1)) +
      g r * (prN (fun j => fall (if j = r then f r - 1 else f j) (if j = r then g r - 1 else g j)) m * fact U) := by
  have e0 : ∀ (f1 g1 : Nat → Nat), (∀ j, j ≠ r → f1 j = f j ∧ g1 j = g j) → prN (fun j => fall (f1 j) (g1 j)) m = prN (fun j => if j = r then 1 else fall (f j) (g j)) m * fall (f1 r) (g1 r) := fun f1 g1 h => by
    rw [prN_at (h := fun j => fall (f1 j) (g1 j)) hr]
    congr 1
    refine prN_congr fun j _ => ?_
    by_cases q : j = r
    · rw [if_pos q, if_pos q]
    · rw [if_neg q, if_neg q, (h j q).1, (h j q).2]
  have h1 := e0 f g fun j _ => ⟨rfl, rfl⟩
  have h2 := e0 (fun j => if j = r then f r - 1 else f j) g fun j hj => ⟨if_neg hj, rfl⟩
  have h3 := e0 (fun j => if j = r then f r - 1 else f j) (fun j => if j = r then g r - 1 else g j) fun j hj => ⟨if_neg hj, if_neg hj⟩
  simp only [if_true] at h2 h3
  have h4 := fall_rec (f r - 1) (g r)
  rw [show f r - 1 + 1 = f r by omega] at h4
  have h5 : U = 0 → prN (fun j => if j = r then 1 else fall (f j) (g j)) m * fall (f r - 1) (g r) = 0 := fun z => by
    rw [← h2]
    refine prN_zero ?_
    have e1 : smN (fun j => (if j = r then f r - 1 else f j) + (if j = r then 1 else 0)) m = smN f m := smN_congr fun j _ => by
      by_cases q : j = r
      · rw [if_pos q, if_pos q, q]; omega
      · rw [if_neg q, if_neg q]; rfl
    rw [smN_add, smN_one hr] at e1
    omega
  rw [h1, h2, h3, h4]
  generalize prN (fun j => if j = r then 1 else fall (f j) (g j)) m = P at *
  cases U with
  | zero =>
    have h5 := h5 rfl
    rw [Nat.mul_add, h5, Nat.zero_add, Nat.zero_mul, Nat.zero_add, ← Nat.mul_assoc, ← Nat.mul_assoc, Nat.mul_comm P (g r), Nat.mul_assoc (g r), Nat.mul_assoc (g r)]
  | succ U =>
    rw [Nat.add_sub_cancel]
    have hfu : fact (U + 1) = (U + 1) * fact U := rfl
    rw [hfu]
    generalize fall (f r - 1) (g r) = x
    generalize fall (f r - 1) (g r - 1) = y
    generalize fact U = z
    rw [Nat.mul_add, Nat.add_mul]
    congr 1
    · simp only [Nat.mul_comm, Nat.mul_left_comm, Nat.mul_assoc]
    · generalize (U + 1) * z = q
      simp only [Nat.mul_comm, Nat.mul_left_comm, Nat.mul_assoc]
/-! ### the state: the rails that are left, the balls that are left -/
def roomsL (m : Nat) (rs : List Int) : List Nat := (List.range m).map fun (j : Nat) => rs.count (j : Int)
def wantsAt (ws : List (Int × Int)) (balls : List Int) (j : Nat) : Nat := balls.countP fun b => decide (ws.lookup b = some (j : Int))
def wantsL (m : Nat) (ws : List (Int × Int)) (balls : List Int) : List Nat := (List.range m).map (wantsAt ws balls)
def unw (ws : List (Int × Int)) (balls : List Int) : Nat := balls.countP fun b => (ws.lookup b).isNone
def prL : List Nat → List Nat → Nat
  | r :: rs, w :: ws => fall r w * prL rs ws
  | _, _ => 1
def waysL (rooms wants : List Nat) : Nat := prL rooms wants * fact (rooms.sum - wants.sum)
theorem prL_app : ∀ {a b c d : List Nat}, a.length = b.length → prL (a ++ c) (b ++ d) = prL a b * prL c d
  | [], [], c, d, _ => by simp [prL]
  | x :: a, y :: b, c, d, h => by
    show fall x y * prL (a ++ c) (b ++ d) = fall x y * prL a b * prL c d
    rw [prL_app (by simpa using h), Nat.mul_assoc]
  | [], _ :: _, _, _, h => by simp at h
  | _ :: _, [], _, _, h => by simp at h
theorem prL_range (f g : Nat → Nat) : ∀ m, prL ((List.range m).map f) ((List.range m).map g) = prN (fun j => fall (f j) (g j)) m
  | 0 => rfl
  | m + 1 => by
    rw [List.range_succ, List.map_append, List.map_append, prL_app (by simp), prL_range f g m]
    show _ * (fall (f m) (g m) * 1) = _
    rw [Nat.mul_one]
    rfl
theorem sum_range (f : Nat → Nat) : ∀ m, ((List.range m).map f).sum = smN f m
  | 0 => rfl
  | m + 1 => by
    rw [List.range_succ, List.map_append, List.sum_append, sum_range f m]
    simp [smN]
theorem waysL_range (f g : Nat → Nat) (m : Nat) : waysL ((List.range m).map f) ((List.range m).map g) = prN (fun j => fall (f j) (g j)) m * fact (smN f m - smN g m) := by
  unfold waysL
  rw [prL_range, sum_range, sum_range]
theorem set_range {f : Nat → Nat} {m r x : Nat} : ((List.range m).map f).set r x = (List.range m).map fun j => if j = r then x else f j := by
  refine List.ext_getElem (by simp) fun j h1 h2 => ?_
  rw [List.getElem_set]
  simp only [List.getElem_map, List.getElem_range]
  by_cases hj : r = j
  · rw [if_pos hj, if_pos hj.symm]
  · rw [if_neg hj, if_neg (fun z => hj z.symm)]
structure FgOk (m : Nat) (ws : List (Int × Int)) (rs balls : List Int) : Prop where
  len : balls.length = rs.length
  rl : ∀ r ∈ rs, 0 ≤ r ∧ r < m
  wl : ∀ b r, ws.lookup b = some r → 0 ≤ r ∧ r < m
  nd : balls.Pairwise (· < ·)
theorem sm_rooms (m : Nat) : ∀ (rs : List Int), (∀ r ∈ rs, 0 ≤ r ∧ r < m) → smN (fun j => rs.count (j : Int)) m = rs.length
  | [], _ => smN_zero
  | r :: rs, h => by
    have h0 := h r List.mem_cons_self
    rw [List.length_cons, ← sm_rooms m rs fun x hx => h x (List.mem_cons_of_mem _ hx), ← smN_one (m := m) (r := r.toNat) (by omega), ← smN_add]
    refine smN_congr fun j _ => ?_
    rw [List.count_cons]
    congr 1
    by_cases q : j = r.toNat
    · rw [if_pos (beq_iff_eq.mpr (by omega)), if_pos q]
    · rw [if_neg (fun z => q (by have := beq_iff_eq.mp z; omega)), if_neg q]
theorem sm_wants (m : Nat) (ws : List (Int × Int)) (hw : ∀ b r, ws.lookup b = some r → 0 ≤ r ∧ r < m) : ∀ (balls : List Int), smN (wantsAt ws balls) m + unw ws balls = balls.length
  | [] => by
    show smN (fun _ => 0) m + 0 = 0
    rw [smN_zero]
  | b :: balls => by
    rw [List.length_cons, ← sm_wants m ws hw balls]
    cases e : ws.lookup b with
    | none =>
      have e1 : smN (wantsAt ws (b :: balls)) m = smN (wantsAt ws balls) m := smN_congr fun j _ => by
        unfold wantsAt
        rw [List.countP_cons, e]
        simp
      have e2 : unw ws (b :: balls) = unw ws balls + 1 := by
        unfold unw
        rw [List.countP_cons, e]
        simp
      omega
    | some r =>
      have h0 := hw b r e
      have e1 : smN (wantsAt ws (b :: balls)) m = smN (wantsAt ws balls) m + 1 := by
        rw [← smN_one (m := m) (r := r.toNat) (by omega), ← smN_add]
        refine smN_congr fun j _ => ?_
        unfold wantsAt
        rw [List.countP_cons, e]
        congr 1
        by_cases q : j = r.toNat
        · rw [if_pos q, if_pos (decide_eq_true (by rw [show r = (j : Int) by omega]))]
        · rw [if_neg q, if_neg (fun z => q (by have := of_decide_eq_true z; injection this with this; omega))]
      have e2 : unw ws (b :: balls) = unw ws balls := by
        unfold unw
        rw [List.countP_cons, e]
        simp
      omega
def bothOf (m : Nat) (ws : List (Int × Int)) (rs balls : List Int) (r : Int) : Nat × Nat :=
  (waysL (roomsL m rs) (wantsL m ws balls), if 0 < wantsAt ws balls r.toNat then waysL (roomsL m rs) ((wantsL m ws balls).set r.toNat (wantsAt ws balls r.toNat - 1)) else 0)
def manyOf (ws : List (Int × Int)) (both : Nat × Nat) (r b : Int) : Nat := match ws.lookup b with
  | none => both.1
  | some x => if x = r then both.2 else 0
theorem many_sum (ws : List (Int × Int)) (both : Nat × Nat) (r : Int) (hr : 0 ≤ r) : ∀ balls : List Int, (balls.map (manyOf ws both r)).sum = unw ws balls * both.1 + wantsAt ws balls r.toNat * both.2
  | [] => by simp [unw, wantsAt]
  | b :: balls => by
    rw [List.map_cons, List.sum_cons, many_sum ws both r hr balls]
    unfold unw wantsAt
    rw [List.countP_cons, List.countP_cons]
    have hrr : ((r.toNat : Nat) : Int) = r := by omega
    generalize balls.countP (fun b => (ws.lookup b).isNone) = x
    rw [hrr]
    generalize balls.countP (fun b => decide (ws.lookup b = some r)) = y
    unfold manyOf
    cases e : ws.lookup b with
    | none => simp [Nat.add_mul]; omega
    | some z =>
      by_cases q : z = r
      · subst q
        simp [Nat.add_mul]; omega
      · simp [q]
theorem ways_sum {m : Nat} {ws : List (Int × Int)} {r : Int} {rs balls : List Int} (h : FgOk m ws (r :: rs) balls) : waysL (roomsL m (r :: rs)) (wantsL m ws balls) = (balls.map (manyOf ws (bothOf m ws rs balls r) r)).sum := by
  have h0 := h.rl r List.mem_cons_self
  have hrr : ((r.toNat : Nat) : Int) = r := by omega
  have hs1 := sm_rooms m (r :: rs) h.rl
  have hs2 := sm_rooms m rs fun x hx => h.rl x (List.mem_cons_of_mem _ hx)
  have hs3 := sm_wants m ws h.wl balls
  have hl := h.len
  rw [List.length_cons] at hs1 hl
  rw [many_sum ws _ r h0.1]
  have hc : (r :: rs).count ((r.toNat : Nat) : Int) = rs.count r + 1 := by rw [hrr, List.count_cons_self]
  have hf : ∀ j, (if j = r.toNat then (r :: rs).count ((r.toNat : Nat) : Int) - 1 else (r :: rs).count (j : Int)) = rs.count (j : Int) := fun j => by
    by_cases q : j = r.toNat
    · rw [if_pos q, hc, q, hrr]; omega
    · rw [if_neg q, List.count_cons_of_ne (by omega)]
  have key := tot_split (f := fun j => (r :: rs).count (j : Int)) (g := wantsAt ws balls) (m := m) (r := r.toNat) (U := unw ws balls) (by omega) (by show 1 ≤ (r :: rs).count ((r.toNat : Nat) : Int); omega) (by omega)
  simp only [hf] at key
  unfold roomsL wantsL bothOf
  rw [show waysL _ _ = _ from waysL_range (fun j => (r :: rs).count (j : Int)) (wantsAt ws balls) m, show smN (fun j => (r :: rs).count (j : Int)) m - smN (wantsAt ws balls) m = unw ws balls by omega, key]
  congr 1
  · congr 1
    show _ = waysL (roomsL m rs) (wantsL m ws balls)
    unfold roomsL wantsL
    rw [show waysL _ _ = _ from waysL_range (fun j => rs.count (j : Int)) (wantsAt ws balls) m, show smN (fun j => rs.count (j : Int)) m - smN (wantsAt ws balls) m = unw ws balls - 1 by omega]
  · by_cases q : 0 < wantsAt ws balls r.toNat
    · congr 1
      rw [if_pos q]
      unfold roomsL wantsL
      rw [set_range, show waysL _ _ = _ from waysL_range (fun j => rs.count (j : Int)) (fun j => if j = r.toNat then wantsAt ws balls r.toNat - 1 else wantsAt ws balls j) m]
      congr 2
      have e1 : smN (fun j => (if j = r.toNat then wantsAt ws balls r.toNat - 1 else wantsAt ws balls j) + (if j = r.toNat then 1 else 0)) m = smN (wantsAt ws balls) m := smN_congr fun j _ => by
        by_cases q2 : j = r.toNat
        · rw [if_pos q2, if_pos q2, q2]; omega
        · rw [if_neg q2, if_neg q2]; rfl
      rw [smN_add, smN_one (by omega)] at e1
      omega
    · rw [show wantsAt ws balls r.toNat = 0 by omega, Nat.zero_mul, Nat.zero_mul]
/-- the first ball whose share holds the index -/
def choose (many : Int → Nat) : List Int → Nat → Option (Int × Nat)
  | [], _ => none
  | b :: bs, i => if i < many b then some (b, i) else choose many bs (i - many b)
theorem choose_ok (many : Int → Nat) : ∀ (l : List Int) (i : Nat), i < (l.map many).sum → ∃ b j l1 l2, choose many l i = some (b, j) ∧ l = l1 ++ b :: l2 ∧ i = (l1.map many).sum + j ∧ j < many b
  | [], i, h => by simp at h
  | b :: bs, i, h => by
    rw [List.map_cons, List.sum_cons] at h
    by_cases q : i < many b
    · exact ⟨b, i, [], bs, if_pos q, rfl, by simp, q⟩
    · obtain ⟨b2, j, l1, l2, h1, h2, h3, h4⟩ := choose_ok many bs (i - many b) (by omega)
      refine ⟨b2, j, b :: l1, l2, ?_, by rw [h2]; rfl, ?_, h4⟩
      · show (if i < many b then some (b, i) else choose many bs (i - many b)) = _
        rw [if_neg q, h1]
      · rw [List.map_cons, List.sum_cons]
        omega
def foGo (m : Nat) (ws : List (Int × Int)) : List Int → List Int → Nat → List Int
  | [], _, _ => []
  | r :: rs, balls, i => match choose (manyOf ws (bothOf m ws rs balls r) r) balls i with
    | some (b, j) => b :: foGo m ws rs (balls.erase b) j
    | none => []
theorem wants_erase {ws : List (Int × Int)} {balls : List Int} {b : Int} (hb : b ∈ balls) (j : Nat) : wantsAt ws (balls.erase b) j = wantsAt ws balls j - (if ws.lookup b = some (j : Int) then 1 else 0) := by
  have h := (List.perm_cons_erase hb).countP_eq fun b => decide (ws.lookup b = some (j : Int))
  rw [List.countP_cons] at h
  unfold wantsAt
  rw [h]
  by_cases q : ws.lookup b = some (j : Int)
  · simp [q]
  · simp [q]
structure FoStep (m : Nat) (ws : List (Int × Int)) (r : Int) (rs balls : List Int) (i : Nat) (b : Int) (j : Nat) (l1 l2 : List Int) : Prop where
  eq : balls = l1 ++ b :: l2
  ix : i = (l1.map (manyOf ws (bothOf m ws rs balls r) r)).sum + j
  lt : j < manyOf ws (bothOf m ws rs balls r) r b
  wish : ws.lookup b = none ∨ ws.lookup b = some r
  ways : manyOf ws (bothOf m ws rs balls r) r b = waysL (roomsL m rs) (wantsL m ws (balls.erase b))
  ok : FgOk m ws rs (balls.erase b)
  go : foGo m ws (r :: rs) balls i = b :: foGo m ws rs (balls.erase b) j
theorem fo_step {m : Nat} {ws : List (Int × Int)} {r : Int} {rs balls : List Int} {i : Nat} (h : FgOk m ws (r :: rs) balls) (hi : i < waysL (roomsL m (r :: rs)) (wantsL m ws balls)) : ∃ b j l1 l2, FoStep m ws r rs balls i b j l1 l2 := by
  rw [ways_sum h] at hi
  obtain ⟨b, j, l1, l2, h1, h2, h3, h4⟩ := choose_ok _ _ _ hi
  have hb : b ∈ balls := by rw [h2]; simp
  have h0 := h.rl r List.mem_cons_self
  have hrr : ((r.toNat : Nat) : Int) = r := by omega
  have hw : ws.lookup b = none ∨ ws.lookup b = some r := by
    unfold manyOf at h4
    cases e : ws.lookup b with
    | none => exact .inl rfl
    | some x =>
      rw [e] at h4
      dsimp only at h4
      by_cases q : x = r
      · rw [q]; exact .inr rfl
      · rw [if_neg q] at h4; omega
  refine ⟨b, j, l1, l2, h2, h3, h4, hw, ?_, ⟨?_, fun x hx => h.rl x (List.mem_cons_of_mem _ hx), h.wl, h.nd.sublist List.erase_sublist⟩, ?_⟩
  · rcases hw with e | e
    · unfold manyOf
      rw [e]
      show waysL _ _ = _
      congr 1
      unfold wantsL
      refine List.map_congr_left fun j _ => ?_
      rw [wants_erase hb, e]
      simp
    · have hpos : 0 < wantsAt ws balls r.toNat := by
        unfold wantsAt
        rw [List.countP_pos_iff]
        exact ⟨b, hb, decide_eq_true (by rw [e, hrr])⟩
      unfold manyOf
      rw [e]
      show (if r = r then (bothOf m ws rs balls r).2 else 0) = _
      rw [if_pos rfl]
      unfold bothOf
      rw [if_pos hpos]
      congr 1
      unfold wantsL
      rw [set_range]
      show waysL _ _ = waysL _ _
      congr 1
      refine List.map_congr_left fun j _ => ?_
      rw [wants_erase hb, e]
      by_cases q : j = r.toNat
      · rw [if_pos q, if_pos (by rw [q, hrr]), q]
      · rw [if_neg q, if_neg (fun z => q (by injection z with z; omega))]; rfl
  · rw [List.length_erase_of_mem hb, h.len]; rfl
  · show (match choose (manyOf ws (bothOf m ws rs balls r) r) balls i with
      | some (b, j) => b :: foGo m ws rs (balls.erase b) j
      | none => []) = _
    rw [h1]
theorem ways_end {m : Nat} {ws : List (Int × Int)} {balls : List Int} (h : FgOk m ws [] balls) : waysL (roomsL m []) (wantsL m ws balls) = 1 := by
  have e : balls = [] := List.length_eq_zero_iff.mp h.len
  subst e
  unfold roomsL wantsL
  rw [show waysL _ _ = _ from waysL_range (fun j => ([] : List Int).count (j : Int)) (wantsAt ws []) m]
  have e1 : ∀ n, prN (fun j => fall (([] : List Int).count (j : Int)) (wantsAt ws [] j)) n = 1 := fun n => by
    induction n with
    | zero => rfl
    | succ n ih =>
      show prN _ n * fall _ _ = 1
      rw [ih]
      rfl
  rw [e1]
  show 1 * fact (smN (fun _ => 0) m - smN (fun _ => 0) m) = 1
  rw [Nat.sub_self]
  rfl
theorem fo_perm {m : Nat} {ws : List (Int × Int)} : ∀ {rs balls : List Int} {i : Nat}, FgOk m ws rs balls → i < waysL (roomsL m rs) (wantsL m ws balls) → (foGo m ws rs balls i).Perm balls
  | [], balls, i, h, _ => by
    rw [List.length_eq_zero_iff.mp h.len]
    exact .refl _
  | r :: rs, balls, i, h, hi => by
    obtain ⟨b, j, l1, l2, s⟩ := fo_step h hi
    rw [s.go]
    have hb : b ∈ balls := by rw [s.eq]; simp
    exact ((fo_perm s.ok (by rw [← s.ways]; exact s.lt)).cons b).trans (List.perm_cons_erase hb).symm
theorem fo_grant {m : Nat} {ws : List (Int × Int)} : ∀ {rs balls : List Int} {i : Nat}, FgOk m ws rs balls → i < waysL (roomsL m rs) (wantsL m ws balls) → ∀ x ∈ (foGo m ws rs balls i).zip rs, ws.lookup x.1 = none ∨ ws.lookup x.1 = some x.2
  | [], balls, i, h, _, x, hx => by cases hx
  | r :: rs, balls, i, h, hi, x, hx => by
    obtain ⟨b, j, l1, l2, s⟩ := fo_step h hi
    rw [s.go, List.zip_cons_cons] at hx
    rcases List.mem_cons.mp hx with e | e
    · rw [e]; exact s.wish
    · exact fo_grant s.ok (by rw [← s.ways]; exact s.lt) x e
end Bh
/-! V29: Filling: ways, next_ways, ball_ways, fill. -/
namespace Bh
open PySem PySem.Spec PyProof.Rows L2
def nI (l : List Nat) : List Int := l.map fun (n : Nat) => (n : Int)
theorem nI_len (l : List Nat) : (nI l).length = l.length := List.length_map _
theorem nI_get {l : List Nat} {i n : Nat} (h : l[i]? = some n) : (nI l)[i]? = some (n : Int) := by unfold nI; rw [List.getElem?_map, h]; rfl
theorem nI_set (l : List Nat) (i n : Nat) : nI (l.set i n) = (nI l).set i (n : Int) := List.map_set
theorem nI_sum : ∀ l : List Nat, (nI l).sum = ((l.sum : Nat) : Int)
  | [] => rfl
  | x :: l => by
    show (x : Int) + (nI l).sum = _
    rw [nI_sum l, List.sum_cons, Int.natCast_add]
theorem mR_set (l : List Int) (i : Nat) (x : Int) : mR (l.set i x) = mL ((l.map fun x => R x).set i (R x)) := by
  show mL (List.map _ _) = _
  rw [List.map_set]
def fiF (rl : List Int) (ws : List (Int × Int)) (dr dw db : D) : List (Str × D) := [("kept_rails", R rl), ("kept_rooms", dr), ("kept_wishes", dF (wD ws)), ("kept_wants", dw), ("kept_balls", db)]
structure FillAt (K : PySem.W.Frag) (mg : Str → Option Value) (C : Addr) : Prop where
  init : AtC K mg "Filling" C "Filling.__init__" (clM 117 0) ["self", "clock", "tick", "wishes"]
  ways : AtM K C "ways" "Filling.ways" (clM 117 1) ["self"]
  next : AtM K C "next_ways" "Filling.next_ways" (clM 117 2) ["self", "rail"]
  ball : AtM K C "ball_ways" "Filling.ball_ways" (clM 117 3) ["self", "ball", "rail", "both"]
  fill : AtM K C "fill" "Filling.fill" (clM 117 4) ["self", "ball", "rail"]
  n1 : NoAttr K C "kept_rails"
  n2 : NoAttr K C "kept_rooms"
  n3 : NoAttr K C "kept_wishes"
  n4 : NoAttr K C "kept_wants"
  n5 : NoAttr K C "kept_balls"
theorem fi_l {rl : List Int} {ws : List (Int × Int)} {dr dw db : D} {m : Str} (h1 : (m == ("kept_rails" : Str)) = false) (h2 : (m == ("kept_rooms" : Str)) = false) (h3 : (m == ("kept_wishes" : Str)) = false) (h4 : (m == ("kept_wants" : Str)) = false) (h5 : (m == ("kept_balls" : Str)) = false) : (fiF rl ws dr dw db).lookup m = none := by
  unfold fiF
  rw [List.lookup_cons, h1, List.lookup_cons, h2, List.lookup_cons, h3, List.lookup_cons, h4, List.lookup_cons, h5]
  rfl
theorem sumN_le {n : Nat} : ∀ {l : List Nat}, (∀ x ∈ l, x ≤ n) → l.sum ≤ n * l.length
  | [], _ => by simp
  | x :: l, h => by
    have h1 := h x List.mem_cons_self
    have h2 := sumN_le fun y hy => h y (List.mem_cons_of_mem _ hy)
    rw [List.sum_cons, List.length_cons, Nat.mul_succ]
    omega
theorem zip_take {α β : Type} : ∀ (xs : List α) (ys : List β) (n : Nat), (xs.zip ys).take n = (xs.take n).zip (ys.take n)
  | [], _, _ => by simp
  | _ :: _, [], n => by cases n <;> simp
  | x :: xs, y :: ys, 0 => rfl
  | x :: xs, y :: ys, n + 1 => congrArg _ (zip_take xs ys n)
theorem prL_snoc {a b : List Nat} {i r w : Nat} (hl : a.length = b.length) (ha : a[i]? = some r) (hb : b[i]? = some w) : prL (a.take (i + 1)) (b.take (i + 1)) = prL (a.take i) (b.take i) * fall r w := by
  rw [List.take_add_one, List.take_add_one, ha, hb, prL_app (by rw [List.length_take, List.length_take, hl])]
  show _ * (fall r w * 1) = _
  rw [Nat.mul_one]
section
variable {P : Program} {w : World} {K : PySem.W.Frag} {mg : Str → Option Value} {base : Heap} {C : Addr}
structure WyA where
  rl : List Int
  ws : List (Int × Int)
  rooms : List Nat
  wants : List Nat
  db : D
structure WyOk (a : WyA) : Prop where
  len : a.rooms.length = a.wants.length
  ln : a.rooms.length ≤ 100
  w : ∀ x ∈ a.wants, x ≤ 100
  r : ∀ x ∈ a.rooms, x ≤ 100
  s : a.rooms.sum ≤ 100
def spWays (C : Addr) : Spec WyA := { args := fun a => [dI C (fiF a.rl a.ws (R (nI a.rooms)) (R (nI a.wants)) a.db)], pre := WyOk, post := fun a d _ => d = R ((waysL a.rooms a.wants : Nat) : Int) }
abbrev N1171 : List Str := ["self", "found", "room", "want", "taken", "number"]
theorem sc1171 : FnScope N1171 ["self"] (defScope (clM 117 1)) := ⟨rfl, rfl, rfl, by decide +kernel, rfl, by decide +kernel, by decide +kernel⟩
theorem ok_ways (T : Tx K mg) (a : FillAt K mg C) : HasM P w K mg base C "ways" 1 (spWays C) := hasM_of a.ways fun f fd F => by
  refine fn_ok (spWays C) F sc1171 (fun _ => rfl) fun ⟨rl, ws, rooms, wants, db⟩ h cdv A outer s H E hr => ?_
  obtain ⟨hl, hln, hw, hrm, hsm⟩ := h
  have hln : rooms.length ≤ 100 := hln
  have hl : rooms.length = wants.length := hl
  have hw : ∀ x ∈ wants, x ≤ 100 := hw
  have hrm : ∀ x ∈ rooms, x ≤ 100 := hrm
  have hsm : rooms.sum ≤ 100 := hsm
  refine d_set 1 sc1171.nd (by exact e_int) ?_
  refine d_for ((nI rooms).zip (nI wants)) (fun x => [(3, R x.2), (2, R x.1)]) (fun _ (_ : Unit) => True) (fun i _ => [(1, R ((prL (rooms.take i) (wants.take i) : Nat) : Int)), (0, dI C (fiF rl ws (R (nI rooms)) (R (nI wants)) db))]) (fun _ _ => []) rfl (wk_zip T.zip (by exact e_fldI a.ways.c (e_var 0) rfl a.n2) (by exact e_fldI a.ways.c (e_var 0) rfl a.n4)) (fun x => g_pair rfl (g_name 2 sc1171.nd) (g_name 3 sc1171.nd)) ⟨(), trivial, .same ⟨rfl, rfl, trivial⟩⟩ (fun i _ x hx _ => ?_) fun _ _ => ?_
  · obtain ⟨h1, h2⟩ := List.getElem?_zip_eq_some.mp hx
    obtain ⟨r, hr1, hr2⟩ : ∃ r, rooms[i]? = some r ∧ x.1 = (r : Int) := by
      unfold nI at h1
      rw [List.getElem?_map] at h1
      obtain ⟨r, q1, q2⟩ := Option.map_eq_some_iff.mp h1
      exact ⟨r, q1, q2.symm⟩
    obtain ⟨wn, hw1, hw2⟩ : ∃ r, wants[i]? = some r ∧ x.2 = (r : Int) := by
      unfold nI at h2
      rw [List.getElem?_map] at h2
      obtain ⟨r, q1, q2⟩ := Option.map_eq_some_iff.mp h2
      exact ⟨r, q1, q2.symm⟩
    obtain ⟨x1, x2⟩ := x
    dsimp only at hr2 hw2
    subst hr2
    subst hw2
    rw [prL_snoc hl hr1 hw1]
    have hwb := hw wn (List.mem_of_getElem? hw1)
    have hrb := hrm r (List.mem_of_getElem? hr1)
    generalize prL (rooms.take i) (wants.take i) = Pr
    refine d_for (rngL 0 (wn : Int).toNat) (fun y => [(4, R y)]) (fun _ (_ : Unit) => True) (fun j _ => [(1, R ((Pr * fall r j : Nat) : Int)), (2, R (r : Int)), (0, dI C (fiF rl ws (R (nI rooms)) (R (nI wants)) db))]) (fun _ _ => []) rfl (wk_rng1 T.range (by exact e_var 3) (by omega)) (fun x => g_name 4 sc1171.nd) ⟨(), trivial, .same ⟨by show some (R ((Pr : Nat) : Int)) = some (R ((Pr * 1 : Nat) : Int)); rw [Nat.mul_one], rfl, rfl, trivial⟩⟩ (fun j _ y hy _ => ?_) fun _ _ => ?_
    · obtain ⟨hj1, hj2⟩ := rngL_get hy
      have e1 : (if (r : Int) - y > 0 then (r : Int) - y else 0) = ((r - j : Nat) : Int) := by split <;> omega
      refine d_aug 1 sc1171.nd (op := .Mult) iop_mul rfl (v := ((r - j : Nat) : Int)) (by exact e_eq (e_max2 rfl T.max e_int (e_sub (e_var 2) (e_var 4))) (by rw [e1])) (.inr (by omega)) (d_nil ⟨(), trivial, .same ⟨?_, rfl, rfl, trivial⟩⟩)
      show some (R (((Pr * fall r j : Nat) : Int) * ((r - j : Nat) : Int))) = some (R ((Pr * (fall r j * (r - j)) : Nat) : Int))
      rw [← Nat.mul_assoc, Int.natCast_mul (Pr * fall r j)]
    · rw [rngL_len, Int.toNat_natCast]
      exact d_nil ⟨(), trivial, .same ⟨rfl, rfl, trivial⟩⟩
  · have hlz : ((nI rooms).zip (nI wants)).length = rooms.length := by rw [List.length_zip, nI_len, nI_len, ← hl, Nat.min_self]
    rw [hlz, List.take_length, hl, List.take_length]
    have hS : -(2 ^ 62) ≤ (nI rooms).sum - (nI wants).sum + 1 ∧ (nI rooms).sum - (nI wants).sum + 1 < 2 ^ 62 := by
      rw [nI_sum, nI_sum]
      have := sumN_le hw
      have : 100 * wants.length ≤ 100 * 100 := Nat.mul_le_mul_left _ (by omega)
      omega
    refine d_for (rngL 2 ((nI rooms).sum - (nI wants).sum + 1 - 2).toNat) (fun y => [(5, R y)]) (fun _ (_ : Unit) => True) (fun j _ => [(1, R ((prL rooms wants * fact (j + 1) : Nat) : Int))]) (fun _ _ => []) rfl (wk_rng2 T.range (by exact e_int) (by exact e_add (e_sub (e_sum rfl T.sum (e_fldI a.ways.c (e_var 0) rfl a.n2)) (e_sum rfl T.sum (e_fldI a.ways.c (e_var 0) rfl a.n4))) e_int) (by omega)) (fun x => g_name 5 sc1171.nd) ⟨(), trivial, .same ⟨by show some (R ((prL rooms wants : Nat) : Int)) = some (R ((prL rooms wants * 1 : Nat) : Int)); rw [Nat.mul_one], trivial⟩⟩ (fun j _ y hy _ => ?_) fun _ _ => ?_
    · obtain ⟨hj1, hj2⟩ := rngL_get hy
      refine d_aug 1 sc1171.nd (op := .Mult) iop_mul rfl (v := y) (by exact e_var 5) (.inr (by rw [nI_sum, nI_sum] at hj1; omega)) (d_nil ⟨(), trivial, .same ⟨?_, trivial⟩⟩)
      show some (R (((prL rooms wants * fact (j + 1) : Nat) : Int) * y)) = some (R ((prL rooms wants * ((j + 1 + 1) * fact (j + 1)) : Nat) : Int))
      rw [hj2, show (2 : Int) + (j : Int) = ((j + 1 + 1 : Nat) : Int) by omega, ← Int.natCast_mul, Nat.mul_comm (j + 1 + 1), Nat.mul_assoc]
    · refine d_ret (by exact e_var 1) ⟨[], ?_, .same trivial⟩
      show R ((prL rooms wants * fact (_ + 1) : Nat) : Int) = R ((prL rooms wants * fact (rooms.sum - wants.sum) : Nat) : Int)
      rw [rngL_len, nI_sum, nI_sum]
      by_cases q : wants.sum < rooms.sum
      · rw [show ((rooms.sum : Int) - (wants.sum : Int) + 1 - 2).toNat + 1 = rooms.sum - wants.sum by omega]
      · rw [show ((rooms.sum : Int) - (wants.sum : Int) + 1 - 2).toNat = 0 by omega, show rooms.sum - wants.sum = 0 by omega]
        rfl
/-! ### the state -/
structure FgS (m : Nat) (ws : List (Int × Int)) (rs balls : List Int) : Prop extends FgOk m ws rs balls where
  m : m ≤ 100
  ln : balls.length ≤ 12
theorem rooms_at {m : Nat} {rs : List Int} {r : Int} (h0 : 0 ≤ r) (h1 : r < m) : (roomsL m rs)[r.toNat]? = some (rs.count r) := by
  unfold roomsL
  rw [List.getElem?_map, List.getElem?_range (by omega)]
  show some (rs.count ((r.toNat : Nat) : Int)) = _
  rw [show ((r.toNat : Nat) : Int) = r by omega]
theorem wants_at {m : Nat} {ws : List (Int × Int)} {balls : List Int} {r : Int} (h0 : 0 ≤ r) (h1 : r < m) : (wantsL m ws balls)[r.toNat]? = some (wantsAt ws balls r.toNat) := by
  unfold wantsL
  rw [List.getElem?_map, List.getElem?_range (by omega)]
  rfl
theorem rooms_dec {m : Nat} {rs : List Int} {r : Int} (h0 : 0 ≤ r) : (roomsL m (r :: rs)).set r.toNat (rs.count r + 1 - 1) = roomsL m rs := by
  unfold roomsL
  rw [set_range]
  refine List.map_congr_left fun j _ => ?_
  by_cases q : j = r.toNat
  · rw [if_pos q, q, show ((r.toNat : Nat) : Int) = r by omega, Nat.add_sub_cancel]
  · rw [if_neg q, List.count_cons_of_ne (by omega)]
theorem set_back {l : List Nat} {i a b : Nat} (h : l[i]? = some b) : (l.set i a).set i b = l := by
  rw [List.set_set]
  refine List.ext_getElem? fun j => ?_
  by_cases q : i = j
  · subst q
    rw [List.getElem?_set_self (List.getElem?_eq_some_iff.mp h).1, h]
  · rw [List.getElem?_set_ne q]
theorem wants_dec {m : Nat} {ws : List (Int × Int)} {balls : List Int} {b : Int} (hb : b ∈ balls) {r : Int} (h0 : 0 ≤ r) (e : ws.lookup b = some r) : (wantsL m ws balls).set r.toNat (wantsAt ws balls r.toNat - 1) = wantsL m ws (balls.erase b) := by
  unfold wantsL
  rw [set_range]
  refine List.map_congr_left fun j _ => ?_
  rw [wants_erase hb, e]
  by_cases q : j = r.toNat
  · rw [if_pos q, if_pos (by rw [q, show ((r.toNat : Nat) : Int) = r by omega]), q]
  · rw [if_neg q, if_neg (fun z => q (by injection z with z; omega))]; rfl
theorem wants_same {m : Nat} {ws : List (Int × Int)} {balls : List Int} {b : Int} (hb : b ∈ balls) (e : ws.lookup b = none) : wantsL m ws balls = wantsL m ws (balls.erase b) := by
  unfold wantsL
  refine List.map_congr_left fun j _ => ?_
  rw [wants_erase hb, e]
  simp
theorem wants_pos {ws : List (Int × Int)} {balls : List Int} {b : Int} (hb : b ∈ balls) {r : Int} (h0 : 0 ≤ r) (e : ws.lookup b = some r) : 0 < wantsAt ws balls r.toNat := by
  unfold wantsAt
  rw [List.countP_pos_iff]
  exact ⟨b, hb, decide_eq_true (by rw [e, show ((r.toNat : Nat) : Int) = r by omega])⟩
theorem rooms_sum {m : Nat} {rs : List Int} (h : ∀ r ∈ rs, 0 ≤ r ∧ r < m) : (roomsL m rs).sum = rs.length := by
  unfold roomsL
  rw [sum_range, sm_rooms m rs h]
theorem wy_ok {m : Nat} {ws : List (Int × Int)} {rs : List Int} {wants : List Nat} {rl : List Int} {db : D} (h : ∀ r ∈ rs, 0 ≤ r ∧ r < m) (hm : m ≤ 100) (hr : rs.length ≤ 12) (hl : wants.length = m) (hw : ∀ x ∈ wants, x ≤ 100) : WyOk ⟨rl, ws, roomsL m rs, wants, db⟩ := ⟨by
  show (roomsL m rs).length = wants.length
  unfold roomsL
  rw [hl, List.length_map, List.length_range], by
  show (roomsL m rs).length ≤ 100
  unfold roomsL
  rw [List.length_map, List.length_range]
  exact hm, hw, fun x hx => by
  obtain ⟨j, _, rfl⟩ := List.mem_map.mp (show x ∈ roomsL m rs from hx)
  have := List.count_le_length (l := rs) (a := (j : Int))
  omega, by
  show (roomsL m rs).sum ≤ 100
  rw [rooms_sum h]
  omega⟩
theorem wants_le {m : Nat} {ws : List (Int × Int)} {balls : List Int} (h : balls.length ≤ 12) : ∀ x ∈ wantsL m ws balls, x ≤ 100 := fun x hx => by
  obtain ⟨j, _, rfl⟩ := List.mem_map.mp (show x ∈ wantsL m ws balls from hx)
  have : wantsAt ws balls j ≤ balls.length := List.countP_le_length
  omega
theorem wants_len {m : Nat} {ws : List (Int × Int)} {balls : List Int} : (wantsL m ws balls).length = m := by
  unfold wantsL
  rw [List.length_map, List.length_range]
theorem cell_dec (l : List Nat) (j n : Nat) (h : 1 ≤ n) : mL (((nI l).map fun x => (R x : D)).set j (R ((n : Int) - 1))) = mR (nI (l.set j (n - 1))) := by
  rw [nI_set, mR_set, show ((n - 1 : Nat) : Int) = (n : Int) - 1 by omega]
theorem cell_inc (l : List Nat) (j n : Nat) : mL (((nI l).map fun x => (R x : D)).set j (R ((n : Int) + 1))) = mR (nI (l.set j (n + 1))) := by
  rw [nI_set, mR_set, show ((n + 1 : Nat) : Int) = (n : Int) + 1 by omega]
/-- fields, said otherwise -/
theorem fv_as {G : Hp} : ∀ {fs fs' : List (Str × D)} {vs : List (Str × V)}, FvOk G fs vs → All2 (fun (x y : Str × D) => x.1 = y.1 ∧ ∀ u, x.2.p G u → y.2.p G u) fs fs' → FvOk G fs' vs
  | [], [], [], _, _ => trivial
  | x :: fs, y :: fs', z :: vs, h, k => ⟨⟨h.1.1.trans k.1.1, k.1.2 _ h.1.2⟩, fv_as h.2 k.2⟩
  | [], _ :: _, _, _, k => k.elim
  | _ :: _, [], _, _, k => k.elim
  | [], [], _ :: _, h, _ => h.elim
  | _ :: _, _ :: _, [], h, _ => h.elim
theorem fi_see {rl : List Int} {ws : List (Int × Int)} {ar aw : Addr} {db : D} {rooms wants : List Int} : ∀ G v, (∀ q ∈ [(ar, mR rooms), (aw, mR wants)], ∃ ob, G q.1 = some ob ∧ q.2.p G ob) → (dI C (fiF rl ws (dAt ar) (dAt aw) db)).p G v → (dI C (fiF rl ws (R rooms) (R wants) db)).p G v := fun G v h ⟨a, dx, vs, h0, h1, h2⟩ => by
  obtain ⟨o1, c1, c2⟩ := h (ar, mR rooms) List.mem_cons_self
  obtain ⟨o2, c3, c4⟩ := h (aw, mR wants) (List.mem_cons_of_mem _ List.mem_cons_self)
  exact ⟨a, dx, vs, h0, h1, fv_as h2 ⟨⟨rfl, fun _ z => z⟩, ⟨rfl, fun u z => by rw [show u = V.ref ar from z]; exact frz_L c1 c2⟩, ⟨rfl, fun _ z => z⟩, ⟨rfl, fun u z => by rw [show u = V.ref aw from z]; exact frz_L c3 c4⟩, ⟨rfl, fun _ z => z⟩, trivial⟩⟩
/-! ### next_ways -/
structure NxA where
  m : Nat
  ws : List (Int × Int)
  rl : List Int
  r : Int
  rs : List Int
  balls : List Int
  ar : Addr
  aw : Addr
  db : D
def nxMs (a : NxA) : MS := [(a.ar, mR (nI (roomsL a.m (a.r :: a.rs)))), (a.aw, mR (nI (wantsL a.m a.ws a.balls)))]
def bothR (a : NxA) : D := R ((((bothOf a.m a.ws a.rs a.balls a.r).1 : Nat) : Int), (((bothOf a.m a.ws a.rs a.balls a.r).2 : Nat) : Int))
def spNext (C : Addr) : Spec NxA := { args := fun a => [dI C (fiF a.rl a.ws (dAt a.ar) (dAt a.aw) a.db), R a.r], ms := nxMs, pre := fun a => FgS a.m a.ws (a.r :: a.rs) a.balls, post := fun a d m => d = bothR a ∧ m = nxMs a }
abbrev N1172 : List Str := ["self", "rail", "plain", "wished"]
theorem sc1172 : FnScope N1172 ["self", "rail"] (defScope (clM 117 2)) := ⟨rfl, rfl, rfl, by decide +kernel, rfl, by decide +kernel, by decide +kernel⟩
theorem ok_next (a : FillAt K mg C) (h1 : HasM P w K mg base C "ways" 1 (spWays C)) : HasM P w K mg base C "next_ways" 2 (spNext C) := hasM_of a.next fun f fd F => by
  refine fn_ok (spNext C) F sc1172 (fun _ => rfl) fun ⟨m, ws, rl, r, rs, balls, ar, aw, db⟩ h cdv A outer s H E hr => ?_
  have h : FgS m ws (r :: rs) balls := h
  have hrl := h.rl r List.mem_cons_self
  have hm := h.m
  have hln := h.ln
  have hrs : rs.length ≤ 12 := by have := h.len; rw [List.length_cons] at this; omega
  have hin : ((r.toNat : Nat) : Int) = r := by omega
  have hc : (r :: rs).count r = rs.count r + 1 := List.count_cons_self ..
  have g1 : (roomsL m (r :: rs))[r.toNat]? = some (rs.count r + 1) := by rw [rooms_at hrl.1 hrl.2, hc]
  have g2 : (wantsL m ws balls)[r.toNat]? = some (wantsAt ws balls r.toNat) := wants_at hrl.1 hrl.2
  have hrs2 : ∀ x ∈ rs, 0 ≤ x ∧ x < m := fun x hx => h.rl x (List.mem_cons_of_mem _ hx)
  refine d_augItem (q := ar) (dl := (nI (roomsL m (r :: rs))).map fun x => R x) (u := ((rs.count r + 1 : Nat) : Int)) (v := 1) 0 isub_C (by exact e_fldI a.next.c (e_var 0) rfl a.n2) (by exact e_var 1) rfl hin.symm (by omega) (by rw [List.getElem?_map, nI_get g1]; rfl) (by exact e_int) trivial ?_
  show DS _ _ [(ar, mL _), (aw, _)] _ _
  rw [cell_dec _ _ _ (by omega), rooms_dec hrl.1]
  refine d_set 2 sc1172.nd (d := R (((bothOf m ws rs balls r).1 : Nat) : Int)) (by exact e_methX0 h1 (hr.mono (by decide)) (by exact e_var 0) (fi_l rfl rfl rfl rfl rfl) [(ar, mR (nI (roomsL m rs))), (aw, mR (nI (wantsL m ws balls)))] [] (.refl _) fi_see ⟨rl, ws, roomsL m rs, wantsL m ws balls, db⟩ rfl rfl (wy_ok hrs2 hm hrs wants_len (wants_le hln)) (fun _ _ h => h) dR_any) ?_
  refine d_set 3 sc1172.nd (by exact e_int) ?_
  have fin : ∀ x : Int, x = (((bothOf m ws rs balls r).2 : Nat) : Int) → R (((((bothOf m ws rs balls r).1 : Nat) : Int)), x) = bothR ⟨m, ws, rl, r, rs, balls, ar, aw, db⟩ := fun x hx => by rw [hx]; rfl
  have rback : mL (((nI (roomsL m rs)).map fun x => (R x : D)).set r.toNat (R (((rs.count r : Nat) : Int) + 1))) = mR (nI (roomsL m (r :: rs))) := by
    rw [cell_inc, ← rooms_dec hrl.1, set_back g1]
  refine d_if (k := decide ((0 : Int) < ((wantsAt ws balls r.toNat : Nat) : Int))) (by exact b_gt (e_item (xs := nI (wantsL m ws balls)) (r_in (e_fldI a.next.c (e_var 0) rfl a.n4) (.s .h0)) (e_var 1) (atI_nat' hrl.1 (nI_get g2))) e_int) (fun hk => ?_) fun hk => ?_
  · have hk : 0 < wantsAt ws balls r.toNat := by have := of_decide_eq_true hk; omega
    refine d_augItem (q := aw) (dl := (nI (wantsL m ws balls)).map fun x => R x) (u := ((wantsAt ws balls r.toNat : Nat) : Int)) (v := 1) 1 isub_C (by exact e_fldI a.next.c (e_var 0) rfl a.n4) (by exact e_var 1) rfl hin.symm (by omega) (by rw [List.getElem?_map, nI_get g2]; rfl) (by exact e_int) trivial ?_
    dsimp only [List.set]
    rw [cell_dec _ _ _ hk]
    have hset : ∀ x ∈ (wantsL m ws balls).set r.toNat (wantsAt ws balls r.toNat - 1), x ≤ 100 := fun x hx => by
      rcases List.mem_or_eq_of_mem_set hx with hx | hx
      · exact wants_le hln x hx
      · have : wantsAt ws balls r.toNat ≤ balls.length := List.countP_le_length
        omega
    refine d_set 3 sc1172.nd (d := R (((bothOf m ws rs balls r).2 : Nat) : Int)) (by exact e_eq (e_methX0 h1 (hr.mono (by decide)) (by exact e_var 0) (fi_l rfl rfl rfl rfl rfl) [(ar, mR (nI (roomsL m rs))), (aw, mR (nI ((wantsL m ws balls).set r.toNat (wantsAt ws balls r.toNat - 1))))] [] (.refl _) fi_see ⟨rl, ws, roomsL m rs, (wantsL m ws balls).set r.toNat (wantsAt ws balls r.toNat - 1), db⟩ rfl rfl (wy_ok hrs2 hm hrs (by rw [List.length_set, wants_len]) hset) (fun _ _ h => h) dR_any) (by unfold bothOf; rw [if_pos hk])) ?_
    refine d_augItem (q := aw) (dl := (nI ((wantsL m ws balls).set r.toNat (wantsAt ws balls r.toNat - 1))).map fun x => R x) (u := ((wantsAt ws balls r.toNat - 1 : Nat) : Int)) (v := 1) 1 iadd_C (by exact e_fldI a.next.c (e_var 0) rfl a.n4) (by exact e_var 1) rfl hin.symm (by omega) (by rw [List.getElem?_map, nI_get (n := wantsAt ws balls r.toNat - 1) (by rw [List.getElem?_set_self (List.getElem?_eq_some_iff.mp g2).1])]; rfl) (by exact e_int) trivial ?_
    dsimp only [List.set]
    rw [cell_inc, show wantsAt ws balls r.toNat - 1 + 1 = wantsAt ws balls r.toNat by omega, set_back g2]
    refine d_nil (d_augItem (q := ar) (dl := (nI (roomsL m rs)).map fun x => R x) (u := ((rs.count r : Nat) : Int)) (v := 1) 0 iadd_C (by exact e_fldI a.next.c (e_var 0) rfl a.n2) (by exact e_var 1) rfl hin.symm (by omega) (by rw [List.getElem?_map, nI_get (rooms_at hrl.1 hrl.2)]; rfl) (by exact e_int) trivial ?_)
    dsimp only [List.set]
    rw [rback]
    exact d_ret (by exact e_pair (e_var 2) (e_var 3)) ⟨_, ⟨fin _ rfl, rfl⟩, .same trivial⟩
  · have hk : wantsAt ws balls r.toNat = 0 := by have := of_decide_eq_false hk; omega
    refine d_nil (d_augItem (q := ar) (dl := (nI (roomsL m rs)).map fun x => R x) (u := ((rs.count r : Nat) : Int)) (v := 1) 0 iadd_C (by exact e_fldI a.next.c (e_var 0) rfl a.n2) (by exact e_var 1) rfl hin.symm (by omega) (by rw [List.getElem?_map, nI_get (rooms_at hrl.1 hrl.2)]; rfl) (by exact e_int) trivial ?_)
    dsimp only [List.set]
    rw [rback]
    exact d_ret (by exact e_pair (e_var 2) (e_var 3)) ⟨_, ⟨fin _ (by unfold bothOf; rw [if_neg (by omega)]; rfl), rfl⟩, .same trivial⟩
/-! ### ball_ways, fill -/
structure BwA where
  rl : List Int
  ws : List (Int × Int)
  dr : D
  dw : D
  db : D
  both : Nat × Nat
  r : Int
  b : Int
def spBall (C : Addr) : Spec BwA := { args := fun a => [dI C (fiF a.rl a.ws a.dr a.dw a.db), R a.b, R a.r, R (((a.both.1 : Nat) : Int), ((a.both.2 : Nat) : Int))], post := fun a d _ => d = R ((manyOf a.ws a.both a.r a.b : Nat) : Int) }
theorem sc1173 : FnScope ["self", "ball", "rail", "both"] ["self", "ball", "rail", "both"] (defScope (clM 117 3)) := ⟨rfl, rfl, rfl, by decide +kernel, rfl, by decide +kernel, by decide +kernel⟩
theorem ok_ball (a : FillAt K mg C) : HasM P w K mg base C "ball_ways" 1 (spBall C) := hasM_of a.ball fun f fd F => by
  refine fn_ok (spBall C) F sc1173 (fun _ => rfl) fun ⟨rl, ws, dr, dw, db, both, r, b⟩ h cdv A outer s H E hr => ?_
  refine d_if (k := !(getI (wD ws) b).isSome) (by exact b_ninF (hu1 hr) (e_var 1) (e_fldI a.ball.c (e_var 0) rfl a.n3)) (fun hk => ?_) fun hk => ?_
  · refine d_ret (by exact e_fst (x := (((both.1 : Nat) : Int), ((both.2 : Nat) : Int))) (e_var 3) e_int) ⟨[], ?_, .same trivial⟩
    show R ((both.1 : Nat) : Int) = R ((manyOf ws both r b : Nat) : Int)
    unfold manyOf
    rw [wD_get] at hk
    cases e : ws.lookup b with
    | none => rfl
    | some x => rw [e] at hk; cases hk
  · rw [wD_get] at hk
    cases e : ws.lookup b with
    | none => rw [e] at hk; cases hk
    | some x =>
      refine d_nil (d_ret (d := R ((manyOf ws both r b : Nat) : Int)) (by exact e_if (k := decide (x = r)) (b_eqS (e_getF (hu1 hr) (e_fldI a.ball.c (e_var 0) rfl a.n3) (e_var 1) (by rw [wD_get, e]; rfl)) (e_var 2)) (fun hk => e_eq (e_snd (x := (((both.1 : Nat) : Int), ((both.2 : Nat) : Int))) (e_var 3) e_int) (by unfold manyOf; rw [e]; show _ = R (((if x = r then both.2 else 0) : Nat) : Int); rw [if_pos (of_decide_eq_true hk)])) fun hk => e_eq e_int (by unfold manyOf; rw [e]; show _ = R (((if x = r then both.2 else 0) : Nat) : Int); rw [if_neg (of_decide_eq_false hk)]; rfl)) ⟨[], rfl, .same trivial⟩)
structure FiA where
  m : Nat
  ws : List (Int × Int)
  rl : List Int
  r : Int
  rs : List Int
  balls : List Int
  b : Int
  ar : Addr
  aw : Addr
  ab : Addr
def fiMs (m : Nat) (ws : List (Int × Int)) (rs balls : List Int) (ar aw ab : Addr) : MS := [(ar, mR (nI (roomsL m rs))), (aw, mR (nI (wantsL m ws balls))), (ab, mR balls)]
structure FiOk (a : FiA) : Prop where
  g : FgS a.m a.ws (a.r :: a.rs) a.balls
  b : a.b ∈ a.balls
  w : a.ws.lookup a.b = none ∨ a.ws.lookup a.b = some a.r
def spFill (C : Addr) : Spec FiA := { args := fun a => [dI C (fiF a.rl a.ws (dAt a.ar) (dAt a.aw) (dAt a.ab)), R a.b, R a.r], ms := fun a => fiMs a.m a.ws (a.r :: a.rs) a.balls a.ar a.aw a.ab, pre := FiOk, post := fun a d m => d = R () ∧ m = fiMs a.m a.ws a.rs (a.balls.erase a.b) a.ar a.aw a.ab }
theorem sc1174 : FnScope ["self", "ball", "rail"] ["self", "ball", "rail"] (defScope (clM 117 4)) := ⟨rfl, rfl, rfl, by decide +kernel, rfl, by decide +kernel, by decide +kernel⟩
theorem ok_fill (a : FillAt K mg C) : HasM P w K mg base C "fill" 1 (spFill C) := hasM_of a.fill fun f fd F => by
  refine fn_ok (spFill C) F sc1174 (fun _ => rfl) fun ⟨m, ws, rl, r, rs, balls, b, ar, aw, ab⟩ h cdv A outer s H E hr => ?_
  obtain ⟨h, hb, hw⟩ := h
  have h : FgS m ws (r :: rs) balls := h
  have hb : b ∈ balls := hb
  have hw : ws.lookup b = none ∨ ws.lookup b = some r := hw
  have hrl := h.rl r List.mem_cons_self
  have hm := h.m
  have hln := h.ln
  have hin : ((r.toNat : Nat) : Int) = r := by omega
  have hc : (r :: rs).count r = rs.count r + 1 := List.count_cons_self ..
  have g1 : (roomsL m (r :: rs))[r.toNat]? = some (rs.count r + 1) := by rw [rooms_at hrl.1 hrl.2, hc]
  have g2 : (wantsL m ws balls)[r.toNat]? = some (wantsAt ws balls r.toNat) := wants_at hrl.1 hrl.2
  refine d_expr (i_remove (q := ab) (k := b) (ns := balls) 2 (by exact e_fldI a.fill.c (e_var 0) rfl a.n5) rfl (by exact e_var 1) hb ?_)
  refine d_augItem (q := ar) (dl := (nI (roomsL m (r :: rs))).map fun x => R x) (u := ((rs.count r + 1 : Nat) : Int)) (v := 1) 0 isub_C (by exact e_fldI a.fill.c (e_var 0) rfl a.n2) (by exact e_var 2) rfl hin.symm (by omega) (by rw [List.getElem?_map, nI_get g1]; rfl) (by exact e_int) trivial ?_
  show DS _ _ [(ar, mL _), (aw, _), (ab, _)] _ _
  rw [cell_dec _ _ _ (by omega), rooms_dec hrl.1]
  refine d_if (k := (getI (wD ws) b).isSome) (by exact b_inF (hu1 hr) (e_var 1) (e_fldI a.fill.c (e_var 0) rfl a.n3)) (fun hk => ?_) fun hk => ?_
  · rw [wD_get] at hk
    have e : ws.lookup b = some r := by
      rcases hw with e | e
      · rw [e] at hk; cases hk
      · exact e
    refine d_augItem (q := aw) (dl := (nI (wantsL m ws balls)).map fun x => R x) (u := ((wantsAt ws balls r.toNat : Nat) : Int)) (v := 1) 1 isub_C (by exact e_fldI a.fill.c (e_var 0) rfl a.n4) (by exact e_var 2) rfl hin.symm (by omega) (by rw [List.getElem?_map, nI_get g2]; rfl) (by exact e_int) trivial ?_
    dsimp only [List.set]
    rw [cell_dec _ _ _ (wants_pos hb hrl.1 e), wants_dec hb hrl.1 e]
    exact d_nil (d_nil ⟨_, ⟨rfl, rfl⟩, .same trivial⟩)
  · rw [wD_get] at hk
    have e : ws.lookup b = none := by
      rcases hw with e | e
      · exact e
      · rw [e] at hk; cases hk
    rw [wants_same hb e]
    exact d_nil (d_nil ⟨_, ⟨rfl, rfl⟩, .same trivial⟩)
end
end Bh
/-! V30: found_order, found_rank. -/
namespace Bh
open PySem PySem.Spec PyProof.Rows L2
theorem lt_l1 {balls l1 l2 : List Int} {b : Int} (h : balls = l1 ++ b :: l2) {j : Nat} {x : Int} (hj : balls[j]? = some x) (hlt : j < l1.length) : l1[j]? = some x := by
  rw [h, List.getElem?_append_left hlt] at hj
  exact hj
theorem take_snoc' {α : Type} {l : List α} {i : Nat} {x : α} (h : l[i]? = some x) : l.take (i + 1) = l.take i ++ [x] := by
  rw [List.take_add_one, h]
  rfl
section
variable {P : Program} {w : World} {K : PySem.W.Frag} {mg : Str → Option Value} {base : Heap} {C : Addr}
structure FoA where
  m : Nat
  ws : List (Int × Int)
  rl : List Int
  balls : List Int
  i : Nat
  ar : Addr
  aw : Addr
  ab : Addr
structure FoOk (a : FoA) : Prop where
  g : FgS a.m a.ws a.rl a.balls
  i : a.i < waysL (roomsL a.m a.rl) (wantsL a.m a.ws a.balls)
def foSelf (C : Addr) (a : FoA) : D := dI C (fiF a.rl a.ws (dAt a.ar) (dAt a.aw) (dAt a.ab))
def spFound (C : Addr) : Spec FoA := { args := fun a => [foSelf C a, R (a.i : Int)], ms := fun a => fiMs a.m a.ws a.rl a.balls a.ar a.aw a.ab, pre := FoOk, post := fun a d _ => d = R (foGo a.m a.ws a.rl a.balls a.i) }
abbrev s118 : Stmt := top 118
abbrev N118 : List Str := ["filling", "index", "found", "rail", "both", "ball", "many"]
theorem sc118 : FnScope N118 ["filling", "index"] (defScope s118) := ⟨rfl, rfl, rfl, by decide +kernel, rfl, by decide +kernel, by decide +kernel⟩
structure FoS where
  balls : List Int
  i : Nat
  found : List Int
/-- behind k rails -/
structure FoI (y : FoA) (k : Nat) (x : FoS) : Prop where
  g : FgS y.m y.ws (y.rl.drop k) x.balls
  i : x.i < waysL (roomsL y.m (y.rl.drop k)) (wantsL y.m y.ws x.balls)
  e : x.found ++ foGo y.m y.ws (y.rl.drop k) x.balls x.i = foGo y.m y.ws y.rl y.balls y.i
  l : x.found.length = k
theorem drop_cons {α : Type} {l : List α} {k : Nat} {x : α} (h : l[k]? = some x) : l.drop k = x :: l.drop (k + 1) := by
  obtain ⟨h1, h2⟩ := List.getElem?_eq_some_iff.mp h
  rw [List.drop_eq_getElem_cons h1, h2]
theorem FgS.next {m : Nat} {ws : List (Int × Int)} {rs rs' balls balls' : List Int} (h : FgS m ws rs balls) (h2 : FgOk m ws rs' balls') (hl : balls'.length ≤ balls.length) : FgS m ws rs' balls' := ⟨h2, h.m, Nat.le_trans hl h.ln⟩
theorem ok_found_order (a : FillAt K mg C) (b : At K mg "found_order" s118 ["filling", "index"]) (T : Tx K mg) (h1 : HasM P w K mg base C "next_ways" 2 (spNext C)) (h2 : HasM P w K mg base C "ball_ways" 1 (spBall C)) (h3 : HasM P w K mg base C "fill" 1 (spFill C)) : Has P w K mg base "found_order" 3 (spFound C) := has_of b fun f fd F => by
  refine fn_ok (spFound C) F sc118 (fun _ => rfl) fun y ⟨hg, hi⟩ cdv A outer s H E hr => ?_
  refine d_setI 2 sc118.nd (i_new n_nil fun q => ?_)
  refine d_for y.rl (fun x => [(3, R x)]) (FoI y) (fun _ x => [(2, dAt q), (1, R (x.i : Int)), (0, foSelf C y)]) (fun k x => (q, mR x.found) :: fiMs y.m y.ws (y.rl.drop k) x.balls y.ar y.aw y.ab) rfl (wk_R (by exact e_fldI (fs := fiF y.rl y.ws (dAt y.ar) (dAt y.aw) (dAt y.ab)) a.next.c (e_var 0) rfl a.n1)) (fun x => g_name 3 sc118.nd) ⟨⟨y.balls, y.i, []⟩, ⟨hg, hi, rfl, rfl⟩, .same ⟨rfl, rfl, rfl, trivial⟩⟩ (fun k x r hr1 hI => ?_) fun x hI => ?_
  · obtain ⟨g, gi, ge, gl⟩ := hI
    obtain ⟨balls, i, found⟩ := x
    have hd := drop_cons hr1
    rw [hd] at g gi ge
    have g : FgS y.m y.ws (r :: y.rl.drop (k + 1)) balls := g
    have gi : i < waysL (roomsL y.m (r :: y.rl.drop (k + 1))) (wantsL y.m y.ws balls) := gi
    have gl : found.length = k := gl
    obtain ⟨b, j, l1, l2, st⟩ := fo_step g.toFgOk gi
    obtain ⟨rs, hrs⟩ : ∃ rs, y.rl.drop (k + 1) = rs := ⟨_, rfl⟩
    rw [hrs] at hd g gi ge st
    have hlen := g.ln
    have hk : k ≤ 12 := by
      have h5 := (List.getElem?_eq_some_iff.mp hr1).1
      have h6 := hg.len
      have h7 := hg.ln
      omega
    rw [hd]
    refine d_setI 4 sc118.nd (i_methJ (S := spNext C) h1 (hr.mono (by decide)) (i_pure (by exact e_var 0) ⟨fiF y.rl y.ws (dAt y.ar) (dAt y.aw) (dAt y.ab), rfl, fi_l rfl rfl rfl rfl rfl, ai_pure (dl := [R r]) (a_one (by exact e_var 3)) ⟨⟨y.m, y.ws, y.rl, r, rs, balls, y.ar, y.aw, dAt y.ab⟩, [(y.ab, mR balls), (q, mR found)], rfl, ?_, g, fun d m2 hd => ⟨[(q, mR found), (y.ar, mR (nI (roomsL y.m (r :: rs)))), (y.aw, mR (nI (wantsL y.m y.ws balls))), (y.ab, mR balls)], ?_, ?_⟩⟩⟩))
    · exact List.perm_append_comm (l₁ := [(y.ar, mR (nI (roomsL y.m (r :: rs)))), (y.aw, mR (nI (wantsL y.m y.ws balls))), (y.ab, mR balls)]) (l₂ := [(q, mR found)])
    · rw [hd.2]
      exact To.perm (List.perm_append_comm (l₁ := [(q, mR found)]) (l₂ := [(y.ar, mR (nI (roomsL y.m (r :: rs)))), (y.aw, mR (nI (wantsL y.m y.ws balls))), (y.ab, mR balls)]))
    rw [hd.1]
    have hmany : ∀ n, n ≤ l1.length → ((balls.take n).map (manyOf y.ws (bothOf y.m y.ws rs balls r) r)).sum ≤ i := fun n hn => by
      have e1 : balls.take n = l1.take n := by rw [st.eq, List.take_append_of_le_length hn]
      have e2 : (l1.map (manyOf y.ws (bothOf y.m y.ws rs balls r) r)).sum = ((l1.take n).map (manyOf y.ws (bothOf y.m y.ws rs balls r) r)).sum + ((l1.drop n).map (manyOf y.ws (bothOf y.m y.ws rs balls r) r)).sum := by
        conv => lhs; rw [← List.take_append_drop n l1]
        rw [List.map_append, List.sum_append]
      have e3 := st.ix
      rw [e1]
      omega
    refine d_for balls (fun x => [(5, R x)]) (fun n (_ : Unit) => n ≤ l1.length) (fun n _ => [(4, bothR ⟨y.m, y.ws, y.rl, r, rs, balls, y.ar, y.aw, dAt y.ab⟩), (3, R r), (2, dAt q), (1, R ((i - ((balls.take n).map (manyOf y.ws (bothOf y.m y.ws rs balls r) r)).sum : Nat) : Int)), (0, foSelf C y)]) (fun _ _ => (q, mR found) :: fiMs y.m y.ws (r :: rs) balls y.ar y.aw y.ab) rfl (wk_R (by exact e_new (n_list T.list rfl (r_in (e_fldI (fs := fiF y.rl y.ws (dAt y.ar) (dAt y.aw) (dAt y.ab)) a.next.c (e_var 0) rfl a.n5) (.s (.s (.s .h0))))))) (fun x => g_name 5 sc118.nd) ⟨(), Nat.zero_le _, .same ⟨rfl, rfl, rfl, rfl, rfl, trivial⟩⟩ (fun n _ z hz hn => ?_) fun _ hn => ?_
    · refine d_set 6 sc118.nd (d := R ((manyOf y.ws (bothOf y.m y.ws rs balls r) r z : Nat) : Int)) (by exact e_methI h2 (hr.mono (by decide)) (C := C) (fs := fiF y.rl y.ws (dAt y.ar) (dAt y.aw) (dAt y.ab)) (by exact e_var 0) (fi_l rfl rfl rfl rfl rfl) ⟨y.rl, y.ws, dAt y.ar, dAt y.aw, dAt y.ab, bothOf y.m y.ws rs balls r, r, z⟩ rfl (fun _ _ h => h) rfl (a_cons (by exact e_var 5) (a_cons (by exact e_var 3) (a_one (by exact e_var 4)))) trivial) ?_
      have hsn := take_snoc' hz
      have hm1 := hmany n hn
      refine d_if (k := decide (((i - ((balls.take n).map (manyOf y.ws (bothOf y.m y.ws rs balls r) r)).sum : Nat) : Int) < ((manyOf y.ws (bothOf y.m y.ws rs balls r) r z : Nat) : Int))) (by exact b_lt (e_var 1) (e_var 6)) (fun hk => ?_) fun hk => ?_
      · have hk := of_decide_eq_true hk
        have hnl : ¬ n < l1.length := fun hlt => by
          have hm2 := hmany (n + 1) hlt
          rw [hsn, List.map_append, List.sum_append] at hm2
          simp only [List.map_cons, List.map_nil, List.sum_cons, List.sum_nil] at hm2
          omega
        have hnn : n = l1.length := by omega
        subst hnn
        have hzb : z = b := by
          rw [st.eq, List.getElem?_append_right (Nat.le_refl _), Nat.sub_self] at hz
          exact (Option.some.inj hz).symm
        subst hzb
        have hmem : z ∈ balls := List.mem_of_getElem? hz
        refine d_expr (i_methJ (S := spFill C) h3 (hr.mono (by decide)) (i_pure (by exact e_var 0) ⟨fiF y.rl y.ws (dAt y.ar) (dAt y.aw) (dAt y.ab), rfl, fi_l rfl rfl rfl rfl rfl, ai_pure (dl := [R z, R r]) (a_cons (by exact e_var 5) (a_one (by exact e_var 3))) ⟨⟨y.m, y.ws, y.rl, r, rs, balls, z, y.ar, y.aw, y.ab⟩, [(q, mR found)], rfl, ?_, ⟨g, hmem, st.wish⟩, fun d m2 hd => ⟨(q, mR found) :: fiMs y.m y.ws rs (balls.erase z) y.ar y.aw y.ab, ?_, ?_⟩⟩⟩))
        · exact List.perm_append_comm (l₁ := fiMs y.m y.ws (r :: rs) balls y.ar y.aw y.ab) (l₂ := [(q, mR found)])
        · rw [hd.2]
          exact To.perm (List.perm_append_comm (l₁ := [(q, mR found)]) (l₂ := fiMs y.m y.ws rs (balls.erase z) y.ar y.aw y.ab))
        refine d_expr (i_append (q := q) 0 (by exact e_var 2) rfl (i_pure (d := R z) (by exact e_var 5) ⟨_, rfl, by rw [List.length_map]; omega, ?_⟩))
        show DS _ _ ((q, mL ((found.map fun x => R x) ++ [R z])) :: _) _ _
        rw [← mR_snoc]
        have hij : i - ((balls.take l1.length).map (manyOf y.ws (bothOf y.m y.ws rs balls r) r)).sum = j := by
          have e1 : balls.take l1.length = l1 := by rw [st.eq, List.take_left']; rfl
          have e3 := st.ix
          rw [e1]
          omega
        have glt := st.lt
        rw [st.ways] at glt
        have ge : found ++ foGo y.m y.ws (r :: rs) balls i = foGo y.m y.ws y.rl y.balls y.i := ge
        rw [st.go] at ge
        subst hrs
        refine d_break (d_nil ⟨⟨balls.erase z, j, found ++ [z]⟩, ⟨g.next st.ok (by rw [List.length_erase_of_mem hmem]; omega), glt, by show (found ++ [z]) ++ _ = _; rw [List.append_assoc]; exact ge, by show (found ++ [z]).length = k + 1; rw [List.length_append, gl]; rfl⟩, .same ⟨rfl, ?_, rfl, trivial⟩⟩)
        show some (R ((_ : Nat) : Int)) = some (R ((j : Nat) : Int))
        rw [hij]
      · have hk := of_decide_eq_false hk
        have hnl : n < l1.length := by
          by_cases hlt : n < l1.length
          · exact hlt
          · have hnn : n = l1.length := by omega
            subst hnn
            have hzb : z = b := by
              rw [st.eq, List.getElem?_append_right (Nat.le_refl _), Nat.sub_self] at hz
              exact (Option.some.inj hz).symm
            subst hzb
            have e1 : balls.take l1.length = l1 := by rw [st.eq, List.take_left']; rfl
            have e3 := st.ix
            have e4 := st.lt
            rw [e1] at hk
            omega
        have hm2 := hmany (n + 1) hnl
        rw [hsn, List.map_append, List.sum_append] at hm2
        simp only [List.map_cons, List.map_nil, List.sum_cons, List.sum_nil] at hm2
        refine d_nil (d_aug 1 sc118.nd (op := .Sub) isub_C rfl (v := ((manyOf y.ws (bothOf y.m y.ws rs balls r) r z : Nat) : Int)) (by exact e_var 6) trivial (d_nil ⟨(), hnl, .same ⟨rfl, rfl, rfl, ?_, rfl, trivial⟩⟩))
        show some (R (((_ : Nat) : Int) - ((_ : Nat) : Int))) = some (R ((_ : Nat) : Int))
        rw [hsn, List.map_append, List.sum_append]
        simp only [List.map_cons, List.map_nil, List.sum_cons, List.sum_nil]
        congr 2
        omega
    · have h5 : balls.length ≤ l1.length := hn
      have h6 := congrArg List.length st.eq
      rw [List.length_append, List.length_cons] at h6
      omega
  · obtain ⟨g, gi, ge, gl⟩ := hI
    rw [List.drop_length] at ge
    refine d_frzC 2 (d' := R x.found) rfl (fun G o h1 h2 => frz_L h1 h2) (d_ret (by exact e_var 2) ⟨_, ?_, .same trivial⟩)
    show R x.found = R (foGo y.m y.ws y.rl y.balls y.i)
    rw [← ge]
    show R x.found = R (x.found ++ [])
    rw [List.append_nil]
/-! ### found_rank -/
theorem R_eq {i j : Int} (h : i = j) : some (R i : D) = some (R j) := by rw [h]
theorem flt_l1 {l1 l2 : List Int} {b : Int} (h : (l1 ++ b :: l2).Pairwise (· < ·)) : (l1 ++ b :: l2).filter (fun x => decide (x < b)) = l1 := by
  obtain ⟨h1, h2, h3⟩ := List.pairwise_append.mp h
  have h4 := (List.pairwise_cons.mp h2).1
  rw [List.filter_append, List.filter_eq_self.mpr fun x hx => decide_eq_true (h3 x hx b List.mem_cons_self), List.filter_eq_nil_iff.mpr fun x hx => ?_, List.append_nil]
  rcases List.mem_cons.mp hx with e | e
  · rw [e]; simp
  · have := h4 x e
    simp
    omega
def spRank (C : Addr) : Spec FoA := { args := fun a => [foSelf C a, R (foGo a.m a.ws a.rl a.balls a.i)], ms := fun a => fiMs a.m a.ws a.rl a.balls a.ar a.aw a.ab, pre := FoOk, post := fun a d _ => d = R (a.i : Int) }
abbrev s119 : Stmt := top 119
abbrev N119 : List Str := ["filling", "order", "found", "place", "rail", "both", "ball"]
theorem sc119 : FnScope N119 ["filling", "order"] (defScope s119) := ⟨rfl, rfl, rfl, by decide +kernel, rfl, by decide +kernel, by decide +kernel⟩
structure RkI (y : FoA) (k : Nat) (x : FoS) : Prop extends FoI y k x where
  le : x.i ≤ y.i
theorem ok_found_rank (a : FillAt K mg C) (b : At K mg "found_rank" s119 ["filling", "order"]) (T : Tx K mg) (h1 : HasM P w K mg base C "next_ways" 2 (spNext C)) (h2 : HasM P w K mg base C "ball_ways" 1 (spBall C)) (h3 : HasM P w K mg base C "fill" 1 (spFill C)) : Has P w K mg base "found_rank" 3 (spRank C) := has_of b fun f fd F => by
  refine fn_ok (spRank C) F sc119 (fun _ => rfl) fun y ⟨hg, hi⟩ cdv A outer s H E hr => ?_
  obtain ⟨od, hod⟩ : ∃ od, foGo y.m y.ws y.rl y.balls y.i = od := ⟨_, rfl⟩
  have hargs : (spRank C).args y = [foSelf C y, R od] := by rw [← hod]; rfl
  rw [hargs]
  refine d_set 2 sc119.nd (by exact e_int) ?_
  refine d_for (enF 0 y.rl) (fun x => [(4, R x.2), (3, R x.1)]) (RkI y) (fun _ x => [(2, R ((y.i - x.i : Nat) : Int)), (1, R od), (0, foSelf C y)]) (fun k x => fiMs y.m y.ws (y.rl.drop k) x.balls y.ar y.aw y.ab) rfl (wk_enum T.enumerate (by exact e_fldI (fs := fiF y.rl y.ws (dAt y.ar) (dAt y.aw) (dAt y.ab)) a.next.c (e_var 0) rfl a.n1)) (fun x => g_pair rfl (g_name 3 sc119.nd) (g_name 4 sc119.nd)) ⟨⟨y.balls, y.i, []⟩, ⟨⟨hg, hi, rfl, rfl⟩, Nat.le_refl _⟩, .same ⟨by show some (R ((0 : Nat) : Int)) = some (R ((y.i - y.i : Nat) : Int)); rw [Nat.sub_self], rfl, rfl, trivial⟩⟩ (fun k x pr hr1 hI => ?_) fun x hI => ?_
  · obtain ⟨⟨g, gi, ge, gl⟩, gle⟩ := hI
    obtain ⟨balls, i, found⟩ := x
    obtain ⟨hpk, hr1⟩ := enF_get hr1
    obtain ⟨pk, r⟩ := pr
    have hpk : pk = 0 + (k : Int) := hpk
    have hr1 : y.rl[k]? = some r := hr1
    have hd := drop_cons hr1
    rw [hd] at g gi ge
    have g : FgS y.m y.ws (r :: y.rl.drop (k + 1)) balls := g
    have gi : i < waysL (roomsL y.m (r :: y.rl.drop (k + 1))) (wantsL y.m y.ws balls) := gi
    have gl : found.length = k := gl
    have gle : i ≤ y.i := gle
    obtain ⟨b, j, l1, l2, st⟩ := fo_step g.toFgOk gi
    obtain ⟨rs, hrs⟩ : ∃ rs, y.rl.drop (k + 1) = rs := ⟨_, rfl⟩
    rw [hrs] at hd g gi ge st
    have ge : found ++ foGo y.m y.ws (r :: rs) balls i = foGo y.m y.ws y.rl y.balls y.i := ge
    rw [st.go] at ge
    have hob : atI od pk = some b := by
      refine atI_of (n := k) (by omega) ?_
      rw [← hod, ← ge, List.getElem?_append_right (by omega), gl, Nat.sub_self]
      rfl
    have hmem : b ∈ balls := by rw [st.eq]; simp
    rw [hd]
    refine d_setI 5 sc119.nd (i_methJ (S := spNext C) h1 (hr.mono (by decide)) (i_pure (by exact e_var 0) ⟨fiF y.rl y.ws (dAt y.ar) (dAt y.aw) (dAt y.ab), rfl, fi_l rfl rfl rfl rfl rfl, ai_pure (dl := [R r]) (a_one (by exact e_var 4)) ⟨⟨y.m, y.ws, y.rl, r, rs, balls, y.ar, y.aw, dAt y.ab⟩, [(y.ab, mR balls)], rfl, .refl _, g, fun d m2 hd => ⟨[(y.ab, mR balls), (y.ar, mR (nI (roomsL y.m (r :: rs)))), (y.aw, mR (nI (wantsL y.m y.ws balls)))], ?_, ?_⟩⟩⟩))
    · rw [hd.2]
      exact To.perm (List.perm_append_comm (l₁ := [(y.ab, mR balls)]) (l₂ := [(y.ar, mR (nI (roomsL y.m (r :: rs)))), (y.aw, mR (nI (wantsL y.m y.ws balls)))]))
    rw [hd.1]
    obtain ⟨bw, hbw⟩ : ∃ bw, manyOf y.ws (bothOf y.m y.ws rs balls r) r = bw := ⟨_, rfl⟩
    refine d_forI balls (fun x => [(6, R x)]) (fun n (_ : Unit) => True) (fun n _ => [(5, bothR ⟨y.m, y.ws, y.rl, r, rs, balls, y.ar, y.aw, dAt y.ab⟩), (4, R r), (3, R pk), (2, R ((y.i - i + (((balls.take n).filter fun x => decide (x < b)).map bw).sum : Nat) : Int)), (1, R od), (0, foSelf C y)]) (fun _ _ => [(y.ar, mR (nI (roomsL y.m (r :: rs)))), (y.aw, mR (nI (wantsL y.m y.ws balls)))]) rfl (by exact e_fldI (fs := fiF y.rl y.ws (dAt y.ar) (dAt y.aw) (dAt y.ab)) a.next.c (e_var 0) rfl a.n5) (fun x => g_name 6 sc119.nd) ⟨(), trivial, .same ⟨rfl, rfl, rfl, rfl, rfl, rfl, trivial⟩⟩ (fun o n _ z hz _ => ?_) fun _ _ => ?_
    · have hsn := take_snoc' hz
      refine d_if (k := decide (z < b)) (by exact b_lt (e_var 6) (e_item (xs := od) (r_R (e_var 1)) (e_var 3) hob)) (fun hk => ?_) fun hk => ?_
      · refine d_aug 2 sc119.nd (op := .Add) iadd_C rfl (v := ((bw z : Nat) : Int)) (by exact e_eq (e_methI h2 (hr.mono (by decide)) (C := C) (fs := fiF y.rl y.ws (dAt y.ar) (dAt y.aw) (dAt y.ab)) (d := R ((manyOf y.ws (bothOf y.m y.ws rs balls r) r z : Nat) : Int)) (by exact e_var 0) (fi_l rfl rfl rfl rfl rfl) ⟨y.rl, y.ws, dAt y.ar, dAt y.aw, dAt y.ab, bothOf y.m y.ws rs balls r, r, z⟩ rfl (fun _ _ h => h) rfl (a_cons (by exact e_var 6) (a_cons (by exact e_var 4) (a_one (by exact e_var 5)))) trivial) (by rw [hbw])) trivial (d_nil (d_nil ⟨(), trivial, .same ⟨rfl, rfl, rfl, ?_, rfl, rfl, trivial⟩⟩))
        show some (R (((_ : Nat) : Int) + ((_ : Nat) : Int))) = some (R ((_ : Nat) : Int))
        rw [hsn, List.filter_append, List.map_append, List.sum_append, List.filter_cons, if_pos hk]
        simp only [List.filter_nil, List.map_cons, List.map_nil, List.sum_cons, List.sum_nil]
        exact R_eq (by omega)
      · refine d_nil (d_nil ⟨(), trivial, .same ⟨rfl, rfl, rfl, ?_, rfl, rfl, trivial⟩⟩)
        show some (R ((_ : Nat) : Int)) = some (R ((_ : Nat) : Int))
        rw [hsn, List.filter_append, List.map_append, List.sum_append, List.filter_cons, if_neg (by rw [hk]; simp)]
        simp only [List.filter_nil, List.map_nil, List.sum_nil]
        rfl
    · refine d_expr (i_methJ (S := spFill C) h3 (hr.mono (by decide)) (i_pure (by exact e_var 0) ⟨fiF y.rl y.ws (dAt y.ar) (dAt y.aw) (dAt y.ab), rfl, fi_l rfl rfl rfl rfl rfl, ai_pure (dl := [R b, R r]) (a_cons (by exact e_item (xs := od) (r_R (e_var 1)) (e_var 3) hob) (a_one (by exact e_var 4))) ⟨⟨y.m, y.ws, y.rl, r, rs, balls, b, y.ar, y.aw, y.ab⟩, [], rfl, ?_, ⟨g, hmem, st.wish⟩, fun d m2 hd => ⟨fiMs y.m y.ws rs (balls.erase b) y.ar y.aw y.ab, ?_, ?_⟩⟩⟩))
      · exact List.perm_append_comm (l₁ := [(y.ar, mR (nI (roomsL y.m (r :: rs)))), (y.aw, mR (nI (wantsL y.m y.ws balls)))]) (l₂ := [(y.ab, mR balls)])
      · rw [hd.2, List.append_nil]
        exact .refl _
      have hsum : (((balls.take balls.length).filter fun x => decide (x < b)).map bw).sum = i - j := by
        have e1 := flt_l1 (l1 := l1) (b := b) (l2 := l2) (by rw [← st.eq]; exact g.nd)
        rw [← st.eq] at e1
        rw [List.take_length, e1]
        have := st.ix
        rw [hbw] at this
        omega
      have hji : j ≤ i := by
        have := st.ix
        omega
      have glt := st.lt
      rw [st.ways] at glt
      subst hrs
      refine d_nil ⟨⟨balls.erase b, j, found ++ [b]⟩, ⟨⟨g.next st.ok (by rw [List.length_erase_of_mem hmem]; omega), glt, by show (found ++ [b]) ++ _ = _; rw [List.append_assoc]; exact ge, by show (found ++ [b]).length = k + 1; rw [List.length_append, gl]; rfl⟩, by show j ≤ y.i; omega⟩, .same ⟨?_, rfl, rfl, trivial⟩⟩
      show some (R ((_ : Nat) : Int)) = some (R ((y.i - j : Nat) : Int))
      rw [hsum]
      exact R_eq (by omega)
  · obtain ⟨⟨g, gi, ge, gl⟩, gle⟩ := hI
    have hl : (enF 0 y.rl).length = y.rl.length := enF_len 0 y.rl
    rw [hl, List.drop_length] at g gi
    rw [ways_end g.toFgOk] at gi
    refine d_ret (by exact e_var 2) ⟨_, ?_, .same trivial⟩
    show R ((y.i - x.i : Nat) : Int) = R ((y.i : Nat) : Int)
    rw [show x.i = 0 by omega, Nat.sub_zero]
end
end Bh
/-! V31: Filling made; order_count, least_order, nth_order, order_rank. -/
namespace Bh
open PySem PySem.Spec PyProof.Rows L2
section
variable {X : Cx} {ds : Ds} {ms : MS} {σ : L2.St} {H H' : Hp} {e o a b c : Expr} {es : List Expr} {d : D} {K : D → MS → Prop} {pos p apos cpos : Pos} {q C : Addr} {fs : List (Str × D)} {m : Str}
/-- o.m(), o new, then for good -/
theorem i_methJ0 {A : Type} {S : Spec A} {k : Nat} (h : HasMX X C m k S) (hr : Room k X.A)
    (ho : DI X ds ms o fun d0 m0 => ∃ fs, d0 = dI C fs ∧ fs.lookup m = none ∧ ∃ (a : A) (rest : MS), S.args a = [dI C fs] ∧ (S.ms a ++ rest).Perm m0 ∧ S.pre a ∧ ∀ d m2, S.post a d m2 → ∃ m', To (m2 ++ rest) m' ∧ K d m') {pl : Sem Bool}
    (ht : eval (.Call (.Attribute o m apos) [] [] pos) X.env = (do
      let ov ← eval o X.env
      standAt apos.atName
      let (f, first) ← holding [ov] (getMethod ov m pl)
      callWith pos f first (backTo pos (starEach [] X.env)) (backToKw pos (keywordEach [] X.env))) := by rfl) :
    DI X ds ms (.Call (.Attribute o m apos) [] [] pos) K := fun σ H s Q hQ => by
  obtain ⟨f, fd, ps, hM, hb, F⟩ := h.h
  refine wE_of (pe_meth0 (wE_ok o) h.c hM F hr hb .nil pass0 ht) ?_
  refine ho σ H s _ fun d0 m0 v H0 ⟨fs, e0, l, a, rest, h1, h2, h3, h4⟩ s0 g0 h0 => ?_
  subst e0
  obtain ⟨a1, dx, vs, i0, i1, i3⟩ := h0
  subst i0
  refine ⟨a1, dx, vs, rfl, mi_sub _ _ i1, fv_none i3 l, ?_⟩
  refine sp_of_state (E := E0) (ms := m0) (vs := [.ref a1]) a h3 h2 s0.nd s0.ce (by rw [h1]; exact ⟨⟨a1, dx, vs, rfl, i1, i3⟩, trivial⟩) fun d m2 v H2 k1 k2 k3 k4 k5 k6 => ?_
  obtain ⟨m', t, hK⟩ := h4 d m2 k1
  obtain ⟨s3, g3⟩ := t.sy (sy_call (d := d) (v := v) s0 k2 k3 k4)
  exact hQ d m' v H2 hK s3 (g0.trans (k3.trans g3)) (d.mono g3 k6)
end
/-! ### the first state -/
def wcnt (m : Nat) (l : List (Int × Int)) : List Nat := (List.range m).map fun (j : Nat) => l.countP fun x => decide (x.2 = (j : Int))
theorem wcnt_snoc {m : Nat} (l : List (Int × Int)) {x : Int × Int} (h0 : 0 ≤ x.2) : wcnt m (l ++ [x]) = (wcnt m l).set x.2.toNat (l.countP (fun y => decide (y.2 = x.2)) + 1) := by
  unfold wcnt
  rw [set_range]
  refine List.map_congr_left fun j _ => ?_
  rw [List.countP_append, List.countP_cons, List.countP_nil]
  by_cases q : j = x.2.toNat
  · rw [if_pos q, if_pos (decide_eq_true (by omega)), show ((j : Nat) : Int) = x.2 by omega]
  · rw [if_neg q, if_neg (fun z => q (by have := of_decide_eq_true z; omega))]
    omega
theorem lookup_none {ws : List (Int × Int)} {k : Int} (h : k ∉ ws.map (·.1)) : ws.lookup k = none := by
  induction ws with
  | nil => rfl
  | cons x ws ih =>
    rw [List.lookup_cons]
    rw [List.map_cons, List.mem_cons] at h
    rw [show (k == x.1) = false from beq_eq_false_iff_ne.mpr fun z => h (.inl z)]
    exact ih fun z => h (.inr z)
theorem lookup_mem {ws : List (Int × Int)} {k r : Int} (h : ws.lookup k = some r) : (k, r) ∈ ws := by
  induction ws with
  | nil => cases h
  | cons x ws ih =>
    rw [List.lookup_cons] at h
    cases e : k == x.1 with
    | true =>
      rw [e] at h
      cases h
      rw [beq_iff_eq.mp e]
      exact List.mem_cons_self
    | false =>
      rw [e] at h
      exact List.mem_cons_of_mem _ (ih h)
theorem wants_init {balls : List Int} (nb : balls.Nodup) (j : Nat) : ∀ {ws : List (Int × Int)}, (∀ x ∈ ws, x.1 ∈ balls) → (ws.map (·.1)).Nodup → ws.countP (fun x => decide (x.2 = (j : Int))) = wantsAt ws balls j
  | [], _, _ => by
    unfold wantsAt
    rw [List.countP_nil]
    exact (List.countP_eq_zero.mpr fun b _ => by simp).symm
  | x :: ws, hk, hn => by
    have hn2 := List.nodup_cons.mp (show (x.1 :: ws.map (·.1)).Nodup from hn)
    have ih := wants_init nb j (ws := ws) (fun y hy => hk y (List.mem_cons_of_mem _ hy)) hn2.2
    have hx := hk x List.mem_cons_self
    rw [List.countP_cons, ih]
    unfold wantsAt
    have key : ∀ l : List Int, l.Nodup → l.countP (fun b => decide ((x :: ws).lookup b = some (j : Int))) = l.countP (fun b => decide (ws.lookup b = some (j : Int))) + (if x.1 ∈ l ∧ x.2 = (j : Int) then 1 else 0) := fun l => by
      induction l with
      | nil => intro _; simp
      | cons b l ih2 =>
        intro hl
        have hl2 := List.nodup_cons.mp hl
        rw [List.countP_cons, List.countP_cons, ih2 hl2.2, List.lookup_cons]
        by_cases e : b = x.1
        · subst e
          rw [beq_self_eq_true, lookup_none hn2.1]
          have h1 : ¬ (x.1 ∈ l ∧ x.2 = (j : Int)) := fun z => hl2.1 z.1
          rw [if_neg h1]
          by_cases q : x.2 = (j : Int)
          · simp [q]
          · simp [q]
        · rw [show (b == x.1) = false from beq_eq_false_iff_ne.mpr e]
          have h1 : (x.1 ∈ b :: l) = (x.1 ∈ l) := by
            rw [List.mem_cons]
            exact propext ⟨fun z => z.resolve_left fun y => e y.symm, .inr⟩
          simp only [h1]
          omega
    rw [key balls nb]
    by_cases q : x.2 = (j : Int)
    · simp [q, hx]
    · simp [q]
theorem plc_mem (rail : Int) : ∀ (row acc : List Int), ∀ x ∈ plc acc rail row, x = rail ∨ x ∈ acc
  | [], acc, x, h => .inr h
  | p :: row, acc, x, h => by
    rcases plc_mem rail row (acc.set p.toNat rail) x h with h | h
    · exact .inl h
    · rcases List.mem_or_eq_of_mem_set h with h | h
      · exact .inr h
      · exact .inl h
theorem plcAll_mem : ∀ (xs : List (Int × List Int)) (acc : List Int), ∀ x ∈ xs.foldl (fun a y => plc a y.1 y.2) acc, (∃ y ∈ xs, x = y.1) ∨ x ∈ acc
  | [], acc, x, h => .inr h
  | y :: xs, acc, x, h => by
    rcases plcAll_mem xs (plc acc y.1 y.2) x h with ⟨z, h1, h2⟩ | h
    · exact .inl ⟨z, List.mem_cons_of_mem _ h1, h2⟩
    · rcases plc_mem y.1 y.2 acc x h with h | h
      · exact .inl ⟨y, List.mem_cons_self, h⟩
      · exact .inr h
theorem rails_in {c : Clk} (hc : ClkS c) (t : Int) : ∀ r ∈ railsOf c t, 0 ≤ r ∧ r < ((c.2.length + 1 : Nat) : Int) := fun r hr => by
  unfold railsOf plcAll at hr
  rcases plcAll_mem _ _ r hr with ⟨y, hy, e⟩ | h
  · obtain ⟨i, hi⟩ := List.mem_iff_getElem?.mp hy
    have h1 := (enF_get hi).1
    have h2 := (List.getElem?_eq_some_iff.mp hi).1
    rw [enF_len, (far_ok hc (t := t)).len] at h2
    omega
  · have := (List.mem_replicate.mp h).2
    omega
structure FlS (c : Clk) (ws : List (Int × Int)) : Prop where
  k : ClkS c
  w : WishOk c ws
abbrev mOf (c : Clk) : Nat := c.2.length + 1
abbrev bsOf (c : Clk) : List Int := rngL 0 c.1.toNat
theorem rng_lt (n : Nat) : (rngL 0 n).Pairwise (· < ·) := by
  unfold rngL
  refine List.pairwise_map.mpr (List.Pairwise.imp ?_ List.pairwise_lt_range)
  intro a b h
  omega
theorem fg_first {c : Clk} {ws : List (Int × Int)} (h : FlS c ws) (t : Int) : FgS (mOf c) ws (railsOf c t) (bsOf c) := by
  have h1 := h.k.lo
  have h2 := h.k.sm12
  have h3 := h.k.toClkOk.len_lt
  refine ⟨⟨by rw [rngL_len, rails_len], rails_in h.k t, fun b r hb => ?_, rng_lt _⟩, by show c.2.length + 1 ≤ 100; omega, by rw [rngL_len]; omega⟩
  have := h.w.inn _ (lookup_mem hb)
  have h4 := this.2.1
  have h5 := this.2.2
  show 0 ≤ r ∧ r < ((c.2.length + 1 : Nat) : Int)
  have h4 : 0 ≤ r := h4
  have h5 : r ≤ (c.2.length : Int) := h5
  omega
theorem mem_rng {n : Nat} {x : Int} (h0 : 0 ≤ x) (h : x < n) : x ∈ rngL 0 n := by
  refine List.mem_iff_getElem?.mpr ⟨x.toNat, ?_⟩
  unfold rngL
  rw [List.getElem?_map, List.getElem?_range (by omega)]
  show some ((0 : Int) + ((x.toNat : Nat) : Int)) = some x
  rw [show (0 : Int) + ((x.toNat : Nat) : Int) = x by omega]
theorem wcnt_all {c : Clk} {ws : List (Int × Int)} (h : FlS c ws) : wcnt (mOf c) ws = wantsL (mOf c) ws (bsOf c) := by
  unfold wcnt wantsL
  have h1 := h.k.lo
  refine List.map_congr_left fun j _ => wants_init ((rng_lt _).imp fun h => by omega) j (fun x hx => ?_) h.w.nd
  have := (h.w.inn x hx).1
  exact mem_rng this.1 (by have := this.2; omega)
section
variable {P : Program} {w : World} {K : PySem.W.Frag} {mg : Str → Option Value} {base : Heap} {C : Addr}
def spFlInit (C : Addr) : Spec (Addr × WsA) := { args := fun a => [dAt a.1, R a.2.c, R a.2.t, R a.2.ws], ms := fun a => [(a.1, mI C [])], pre := fun a => FlS a.2.c a.2.ws, post := fun a d m => d = R () ∧ ∃ ar aw ab, m = (a.1, mI C (fiF (railsOf a.2.c a.2.t) a.2.ws (dAt ar) (dAt aw) (dAt ab))) :: fiMs (mOf a.2.c) a.2.ws (railsOf a.2.c a.2.t) (bsOf a.2.c) ar aw ab }
abbrev N1170 : List Str := ["self", "clock", "tick", "wishes", "rail"]
theorem sc1170 : FnScope N1170 ["self", "clock", "tick", "wishes"] (defScope (clM 117 0)) := ⟨rfl, rfl, rfl, by decide +kernel, rfl, by decide +kernel, by decide +kernel⟩
theorem ok_fl_init (T : Tx K mg) (a : FillAt K mg C) (h1 : Has P w K mg base "place_rails" 29 spPlace) : HasC P w K mg base "Filling" C 30 (spFlInit C) := hasC_of a.init fun f fd F => by
  refine fn_ok (spFlInit C) F sc1170 (fun _ => rfl) fun ⟨q, c, t, ws⟩ h cdv A outer s H E hr => ?_
  have h : FlS c ws := h
  have hc := h.k
  have hlo := hc.lo
  have h12 := hc.sm12
  have hlen := hc.toClkOk.len_lt
  have hpost : (spFlInit C).post (q, ⟨c, t, ws⟩) = fun d m => d = R () ∧ ∃ ar aw ab, m = (q, mI C (fiF (railsOf c t) ws (dAt ar) (dAt aw) (dAt ab))) :: fiMs (mOf c) ws (railsOf c t) (bsOf c) ar aw ab := rfl
  have hrin := rails_in hc t
  have hmm : mOf c ≤ 12 := by show c.2.length + 1 ≤ 12; omega
  have hwc := wcnt_all h
  have hwn := h.w.nd
  have hwl := h.w.ln
  have hwi : ∀ x ∈ ws, 0 ≤ x.2 ∧ x.2 < (mOf c : Nat) := fun x hx => by
    have h1 := h.w.inn x hx
    have h2 := h1.2.1
    have h3 := h1.2.2
    show 0 ≤ x.2 ∧ x.2 < ((c.2.length + 1 : Nat) : Int)
    omega
  have hmc : ((mOf c : Nat) : Int) = (c.2.length : Int) + 1 := rfl
  refine d_setF (q := q) (C := C) 0 a.init.c a.n1 (i_pure (d := R (railsOf c t)) (by exact e_call h1 hr (c, t) rfl (fun _ _ h => h) (a_cons (by exact e_var 1) (a_one (by exact e_var 2))) hc) ⟨[], by exact e_var 0, rfl, by decide, ?_⟩)
  generalize railsOf c t = rails at *
  refine d_setF (q := q) (C := C) 1 a.init.c a.n2 (i_new (n_lc [("rail", 4)] (rngL 0 (mOf c)) (fun x => [(4, R x)]) (fun x => R (((rails.count x : Nat)) : Int)) rfl sc1170.nd (by exact wk_rng1 (j := ((mOf c : Nat) : Int)) T.range (by exact e_add (e_lenR (xs := c.2) T.len (r_R (e_snd (x := c) (e_var 1) e_int))) e_int) (by omega)) (blkOk_by (N := N1170) (sc := defScope (clM 117 0)) (by decide +kernel)) (by rw [rngL_len]; omega) (fun _ _ _ _ _ x => g_name 4 sc1170.nd) (fun s0 H0 C' cl fp qq cc x hx => by exact e_count (r_R (e_fld (q := q) (fs := [("kept_rails", R rails)]) a.init.c (by exact e_var 0) (.s .h0) rfl a.n1)) (by exact e_var 4))) fun ar => ⟨[("kept_rails", R rails)], by exact e_var 0, rfl, (by show 1 < 1000; decide), ?_⟩)
  have er : mL ((rngL 0 (mOf c)).map fun x => (R ((rails.count x : Nat) : Int) : D)) = mR (nI (roomsL (mOf c) rails)) := by
    unfold nI roomsL rngL
    show _ = mL (List.map _ _)
    rw [List.map_map, List.map_map, List.map_map]
    refine congrArg mL (List.map_congr_left fun j _ => ?_)
    show R ((rails.count ((0 : Int) + (j : Int)) : Nat) : Int) = R ((rails.count (j : Int) : Nat) : Int)
    rw [Int.zero_add]
  rw [er]
  refine d_setF (q := q) (C := C) 1 a.init.c a.n3 (i_pure (d := dF (wD ws)) (by exact e_dictF rfl T.dict (e_var 3) hwn) ⟨[("kept_rails", R rails), ("kept_rooms", dAt ar)], by exact e_var 0, rfl, (by show 2 < 1000; decide), ?_⟩)
  refine d_setF (q := q) (C := C) 2 a.init.c a.n4 (i_new (n_rep (d := R (0 : Int)) (n := ((mOf c : Nat) : Int)) (n_lst (a_one (by exact e_int)) (by show 1 ≤ 1000000; decide)) (by exact e_eq (e_lenR (xs := nI (roomsL (mOf c) rails)) T.len (r_in (e_fld (q := q) (fs := [("kept_rails", R rails), ("kept_rooms", dAt ar), ("kept_wishes", dF (wD ws))]) a.init.c (by exact e_var 0) (.s .h0) rfl a.n2) .h0)) (by rw [nI_len]; unfold roomsL; rw [List.length_map, List.length_range])) (by omega) (by omega)) fun aw => ⟨[("kept_rails", R rails), ("kept_rooms", dAt ar), ("kept_wishes", dF (wD ws))], by exact e_var 0, rfl, (by show 3 < 1000; decide), ?_⟩)
  refine d_for (ws.map (·.2)) (fun x => [(4, R x)]) (fun _ (_ : Unit) => True) (fun _ _ => [(1, R c), (0, dAt q)]) (fun i _ => [(aw, mR (nI (wcnt (mOf c) (ws.take i)))), (ar, mR (nI (roomsL (mOf c) rails))), (q, mI C [("kept_rails", R rails), ("kept_rooms", dAt ar), ("kept_wishes", dF (wD ws)), ("kept_wants", dAt aw)])]) rfl (wk_vals (by exact e_fld (q := q) (fs := [("kept_rails", R rails), ("kept_rooms", dAt ar), ("kept_wishes", dF (wD ws)), ("kept_wants", dAt aw)]) a.init.c (by exact e_var 0) (.s (.s .h0)) rfl a.n3)) (fun x => g_name 4 sc1170.nd) ⟨(), trivial, ?_⟩ (fun i _ x hx _ => ?_) fun _ _ => ?_
  · have e0 : mL (List.replicate ((mOf c : Nat) : Int).toNat (R (0 : Int) : D)) = mR (nI (wcnt (mOf c) (ws.take 0))) := by
      unfold nI wcnt
      show _ = mL (List.map _ _)
      rw [List.map_map, List.map_map, Int.toNat_natCast, List.take_zero]
      refine congrArg mL ?_
      generalize mOf c = n
      refine (List.eq_replicate_iff.mpr ⟨by rw [List.length_map, List.length_range], fun y hy => ?_⟩).symm
      obtain ⟨j, _, rfl⟩ := List.mem_map.mp hy
      rfl
    show Wk _ [(aw, mL (List.replicate ((mOf c : Nat) : Int).toNat (R (0 : Int) : D))), _, _] _ _
    rw [e0]
    exact .same ⟨rfl, rfl, trivial⟩
  · rw [List.getElem?_map] at hx
    obtain ⟨w0, hw1, rfl⟩ := Option.map_eq_some_iff.mp hx
    have hw2 := hwi w0 (List.mem_of_getElem? hw1)
    have hin : ((w0.2.toNat : Nat) : Int) = w0.2 := by omega
    have hat : (wcnt (mOf c) (ws.take i))[w0.2.toNat]? = some ((ws.take i).countP fun y => decide (y.2 = w0.2)) := by
      unfold wcnt
      rw [List.getElem?_map, List.getElem?_range (by omega)]
      show some ((ws.take i).countP fun x => decide (x.2 = ((w0.2.toNat : Nat) : Int))) = _
      rw [hin]
    refine d_augItem (q := aw) (dl := (nI (wcnt (mOf c) (ws.take i))).map fun x => R x) (u := (((ws.take i).countP fun y => decide (y.2 = w0.2) : Nat) : Int)) (v := 1) 0 iadd_C (by exact e_fld (q := q) (fs := [("kept_rails", R rails), ("kept_rooms", dAt ar), ("kept_wishes", dF (wD ws)), ("kept_wants", dAt aw)]) a.init.c (by exact e_var 0) (.s (.s .h0)) rfl a.n4) (by exact e_var 4) rfl hin.symm (by omega) (by rw [List.getElem?_map, nI_get hat]; rfl) (by exact e_int) trivial (d_nil ⟨(), trivial, ?_⟩)
    show Wk _ [(aw, mL _), _, _] _ _
    rw [cell_inc, ← wcnt_snoc _ hw2.1, ← take_snoc' hw1]
    exact .same ⟨rfl, rfl, trivial⟩
  · rw [List.length_map, List.take_length, hwc]
    refine d_setF (q := q) (C := C) 3 a.init.c a.n5 (i_new (n_listRg (n := c.1) rfl T.list T.range (by exact e_fst (x := c) (e_var 1) e_int) ⟨by omega, by omega⟩) fun ab => ⟨[("kept_rails", R rails), ("kept_rooms", dAt ar), ("kept_wishes", dF (wD ws)), ("kept_wants", dAt aw)], by exact e_var 0, rfl, (by show 4 < 1000; decide), ?_⟩)
    refine d_nil ⟨_, by rw [hpost]; exact ⟨rfl, ar, aw, ab, rfl⟩, .perm ?_⟩
    exact List.reverse_perm [(ab, mR (bsOf c)), (aw, mR (nI (wantsL (mOf c) ws (bsOf c)))), (ar, mR (nI (roomsL (mOf c) rails))), (q, mI C (fiF rails ws (dAt ar) (dAt aw) (dAt ab)))]
end
end Bh
/-! V32: is_granting, order_count, least_order, nth_order, order_rank. -/
namespace Bh
open PySem PySem.Spec PyProof.Rows L2
def cntOf (c : Clk) (t : Int) (ws : List (Int × Int)) : Nat := waysL (roomsL (mOf c) (railsOf c t)) (wantsL (mOf c) ws (bsOf c))
def nthOf (c : Clk) (t : Int) (ws : List (Int × Int)) (i : Nat) : List Int := foGo (mOf c) ws (railsOf c t) (bsOf c) i
theorem nth_ok {c : Clk} {t : Int} {ws : List (Int × Int)} {i : Nat} (h : FlS c ws) (hi : i < cntOf c t ws) : OrderOk c (nthOf c t ws i) := by
  have hp : (nthOf c t ws i).Perm (bsOf c) := fo_perm (fg_first h t).toFgOk hi
  have h1 := h.k.lo
  refine ⟨fun b hb => ?_, hp.nodup_iff.mpr ((rng_lt _).imp fun h => by omega), ?_⟩
  · obtain ⟨j, hj⟩ := List.mem_iff_getElem?.mp (hp.mem_iff.mp hb)
    have := rngL_get hj
    omega
  · rw [hp.length_eq, rngL_len]
    omega
theorem to_fi {C q ar aw ab : Addr} {m : Nat} {rl : List Int} {ws : List (Int × Int)} {rs balls : List Int} : To ((q, mI C (fiF rl ws (dAt ar) (dAt aw) (dAt ab))) :: fiMs m ws rs balls ar aw ab) [(q, mI C (fiF rl ws (R (nI (roomsL m rs))) (R (nI (wantsL m ws balls))) (R balls)))] := by
  have t1 : To ((q, mI C (fiF rl ws (dAt ar) (dAt aw) (dAt ab))) :: fiMs m ws rs balls ar aw ab) ((ar, mR (nI (roomsL m rs))) :: (q, mI C (fiF rl ws (dAt ar) (dAt aw) (dAt ab))) :: [(aw, mR (nI (wantsL m ws balls))), (ab, mR balls)]) := .perm (List.Perm.swap _ _ _)
  have t2 : To ((ar, mR (nI (roomsL m rs))) :: (q, mI C (fiF rl ws (dAt ar) (dAt aw) (dAt ab))) :: [(aw, mR (nI (wantsL m ws balls))), (ab, mR balls)]) ((q, mI C (fiF rl ws (R (nI (roomsL m rs))) (dAt aw) (dAt ab))) :: [(aw, mR (nI (wantsL m ws balls))), (ab, mR balls)]) := .frz fun G o u h1 h2 ⟨dx, vs, h3, h4⟩ =>
    ⟨dx, vs, h3, fv_as h4 ⟨⟨rfl, fun _ z => z⟩, ⟨rfl, fun u z => by rw [show u = V.ref ar from z]; exact frz_L h1 h2⟩, ⟨rfl, fun _ z => z⟩, ⟨rfl, fun _ z => z⟩, ⟨rfl, fun _ z => z⟩, trivial⟩⟩
  have t3 : To ((q, mI C (fiF rl ws (R (nI (roomsL m rs))) (dAt aw) (dAt ab))) :: [(aw, mR (nI (wantsL m ws balls))), (ab, mR balls)]) ((aw, mR (nI (wantsL m ws balls))) :: (q, mI C (fiF rl ws (R (nI (roomsL m rs))) (dAt aw) (dAt ab))) :: [(ab, mR balls)]) := .perm (List.Perm.swap _ _ _)
  have t4 : To ((aw, mR (nI (wantsL m ws balls))) :: (q, mI C (fiF rl ws (R (nI (roomsL m rs))) (dAt aw) (dAt ab))) :: [(ab, mR balls)]) ((q, mI C (fiF rl ws (R (nI (roomsL m rs))) (R (nI (wantsL m ws balls))) (dAt ab))) :: [(ab, mR balls)]) := .frz fun G o u h1 h2 ⟨dx, vs, h3, h4⟩ =>
    ⟨dx, vs, h3, fv_as h4 ⟨⟨rfl, fun _ z => z⟩, ⟨rfl, fun _ z => z⟩, ⟨rfl, fun _ z => z⟩, ⟨rfl, fun u z => by rw [show u = V.ref aw from z]; exact frz_L h1 h2⟩, ⟨rfl, fun _ z => z⟩, trivial⟩⟩
  have t5 : To ((q, mI C (fiF rl ws (R (nI (roomsL m rs))) (R (nI (wantsL m ws balls))) (dAt ab))) :: [(ab, mR balls)]) ((ab, mR balls) :: (q, mI C (fiF rl ws (R (nI (roomsL m rs))) (R (nI (wantsL m ws balls))) (dAt ab))) :: []) := .perm (List.Perm.swap _ _ _)
  have t6 : To ((ab, mR balls) :: (q, mI C (fiF rl ws (R (nI (roomsL m rs))) (R (nI (wantsL m ws balls))) (dAt ab))) :: []) ((q, mI C (fiF rl ws (R (nI (roomsL m rs))) (R (nI (wantsL m ws balls))) (R balls))) :: []) := .frz fun G o u h1 h2 ⟨dx, vs, h3, h4⟩ =>
    ⟨dx, vs, h3, fv_as h4 ⟨⟨rfl, fun _ z => z⟩, ⟨rfl, fun _ z => z⟩, ⟨rfl, fun _ z => z⟩, ⟨rfl, fun _ z => z⟩, ⟨rfl, fun u z => by rw [show u = V.ref ab from z]; exact frz_L h1 h2⟩, trivial⟩⟩
  exact t1.trans (t2.trans (t3.trans (t4.trans (t5.trans t6))))
section
variable {P : Program} {w : World} {K : PySem.W.Frag} {mg : Str → Option Value} {base : Heap} {C : Addr}
structure GrA where
  c : Clk
  t : Int
  ws : List (Int × Int)
  o : List Int
def spGrant : Spec GrA := { args := fun x => [R x.c, R x.t, R x.ws, R x.o], pre := fun x => FlS x.c x.ws ∧ ∀ y ∈ x.o.zip (railsOf x.c x.t), x.ws.lookup y.1 = none ∨ x.ws.lookup y.1 = some y.2, post := fun _ d _ => d = R true }
abbrev s120 : Stmt := top 120
abbrev N120 : List Str := ["clock", "tick", "wishes", "order", "rails", "wished", "ball", "rail"]
theorem sc120 : FnScope N120 ["clock", "tick", "wishes", "order"] (defScope s120) := ⟨rfl, rfl, rfl, by decide +kernel, rfl, by decide +kernel, by decide +kernel⟩
theorem ok_is_granting (T : Tx K mg) (b : At K mg "is_granting" s120 ["clock", "tick", "wishes", "order"]) (h1 : Has P w K mg base "place_rails" 29 spPlace) : Has P w K mg base "is_granting" 30 spGrant := has_of b fun f fd F => by
  refine fn_ok spGrant F sc120 (fun _ => rfl) fun ⟨c, t, ws, o⟩ ⟨h, hg⟩ cdv A outer s H E hr => ?_
  have h : FlS c ws := h
  have hg : ∀ y ∈ o.zip (railsOf c t), ws.lookup y.1 = none ∨ ws.lookup y.1 = some y.2 := hg
  refine d_par 4 5 (da := R (railsOf c t)) (db := dF (wD ws)) rfl sc120.nd (by exact e_call h1 hr (c, t) rfl (fun _ _ h => h) (a_cons (by exact e_var 0) (a_one (by exact e_var 1))) h.k) (by exact e_dictF rfl T.dict (e_var 2) h.w.nd) ?_
  generalize railsOf c t = rails at *
  refine d_for (o.zip rails) (fun x => [(7, R x.2), (6, R x.1)]) (fun _ (_ : Unit) => True) (fun _ _ => [(5, dF (wD ws))]) (fun _ _ => []) rfl (wk_zip T.zip (by exact e_var 3) (by exact e_var 4)) (fun x => g_pair rfl (g_name 6 sc120.nd) (g_name 7 sc120.nd)) ⟨(), trivial, .same ⟨rfl, trivial⟩⟩ (fun i _ x hx _ => ?_) fun _ _ => ?_
  · refine d_no (k := !decide ((ws.lookup x.1).getD x.2 = x.2)) (by exact b_neS (e_getF2 (f := fun k => ws.lookup k) (hu1 hr) (e_var 5) (e_var 6) (e_var 7) (wD_get ws x.1)) (e_var 7)) ?_ (d_nil ⟨(), trivial, .same ⟨rfl, trivial⟩⟩)
    rcases hg x (List.mem_of_getElem? hx) with e | e
    · rw [e]; simp
    · rw [e]; simp
  · exact d_ret (by exact e_bool) ⟨[], rfl, .same trivial⟩
/-- Filling(clock, tick, wishes), the instance for good -/
theorem i_filling {X : Cx} {ds : Ds} {p pos : Pos} {e1 e2 e3 : Expr} {c : Clk} {t : Int} {ws : List (Int × Int)} {KK : D → MS → Prop} (h0 : HasCX X "Filling" C 30 (spFlInit C)) (hr : Room 31 X.A) (h : FlS c ws) (a1 : DE X ds [] e1 (R c)) (a2 : DE X ds [] e2 (R t)) (a3 : DE X ds [] e3 (R ws))
    (hK : ∀ ar aw ab, KK (dI C (fiF (railsOf c t) ws (dAt ar) (dAt aw) (dAt ab))) (fiMs (mOf c) ws (railsOf c t) (bsOf c) ar aw ab)) (hg : Gl X "Filling" := by rfl) (s1 : starEach [e1, e2, e3] X.env = (false, eval e1 X.env) :: starEach [e2, e3] X.env := by rfl) (s2 : starEach [e2, e3] X.env = (false, eval e2 X.env) :: starEach [e3] X.env := by rfl) (s3 : starEach [e3] X.env = (false, eval e3 X.env) :: starEach [] X.env := by rfl) (hpl : (backTo pos (starEach [e2, e3] X.env)).any (·.1) = false := by rfl) : DI X ds [] (.Call (.Name "Filling" p) [e1, e2, e3] [] pos) KK :=
  i_frz (i_make (S := spFlInit C) h0 hr (K := fun d m => ∃ q ar aw ab, d = dAt q ∧ m = (q, mI C (fiF (railsOf c t) ws (dAt ar) (dAt aw) (dAt ab))) :: fiMs (mOf c) ws (railsOf c t) (bsOf c) ar aw ab) (ai_pure (dl := [R c, R t, R ws]) (a_cons a1 (a_cons a2 (a_one a3 s3) s2) s1) fun q => ⟨(q, ⟨c, t, ws⟩), [], rfl, .refl _, h, fun d m2 ⟨hd, ar, aw, ab, hm⟩ => ⟨hd, q, ar, aw, ab, rfl, by rw [hm, List.append_nil]⟩⟩) hg (by decide) s1 hpl) fun d m ⟨q, ar, aw, ab, e1, e2⟩ => ⟨q, _, dI C (fiF (railsOf c t) ws (dAt ar) (dAt aw) (dAt ab)), _, e1, e2, fun G o g1 g2 => frz_I g1 g2, hK ar aw ab⟩
theorem i_fillingR {X : Cx} {ds : Ds} {p pos : Pos} {e1 e2 e3 : Expr} {c : Clk} {t : Int} {ws : List (Int × Int)} {KK : D → MS → Prop} (h0 : HasCX X "Filling" C 30 (spFlInit C)) (hr : Room 31 X.A) (h : FlS c ws) (a1 : DE X ds [] e1 (R c)) (a2 : DE X ds [] e2 (R t)) (a3 : DE X ds [] e3 (R ws))
    (hK : KK (dI C (fiF (railsOf c t) ws (R (nI (roomsL (mOf c) (railsOf c t)))) (R (nI (wantsL (mOf c) ws (bsOf c)))) (R (bsOf c)))) []) (hg : Gl X "Filling" := by rfl) (s1 : starEach [e1, e2, e3] X.env = (false, eval e1 X.env) :: starEach [e2, e3] X.env := by rfl) (s2 : starEach [e2, e3] X.env = (false, eval e2 X.env) :: starEach [e3] X.env := by rfl) (s3 : starEach [e3] X.env = (false, eval e3 X.env) :: starEach [] X.env := by rfl) (hpl : (backTo pos (starEach [e2, e3] X.env)).any (·.1) = false := by rfl) : DI X ds [] (.Call (.Name "Filling" p) [e1, e2, e3] [] pos) KK :=
  i_frz (i_to (i_make (S := spFlInit C) h0 hr (K := fun d m => ∃ q ar aw ab, d = dAt q ∧ m = (q, mI C (fiF (railsOf c t) ws (dAt ar) (dAt aw) (dAt ab))) :: fiMs (mOf c) ws (railsOf c t) (bsOf c) ar aw ab) (ai_pure (dl := [R c, R t, R ws]) (a_cons a1 (a_cons a2 (a_one a3 s3) s2) s1) fun q => ⟨(q, ⟨c, t, ws⟩), [], rfl, .refl _, h, fun d m2 ⟨hd, ar, aw, ab, hm⟩ => ⟨hd, q, ar, aw, ab, rfl, by rw [hm, List.append_nil]⟩⟩) hg (by decide) s1 hpl)
    (K := fun d m => ∃ q, d = dAt q ∧ m = [(q, mI C (fiF (railsOf c t) ws (R (nI (roomsL (mOf c) (railsOf c t)))) (R (nI (wantsL (mOf c) ws (bsOf c)))) (R (bsOf c))))]) fun d m ⟨q, ar, aw, ab, e1, e2⟩ => ⟨_, by rw [e2]; exact to_fi, q, e1, rfl⟩) fun d m ⟨q, e1, e2⟩ => ⟨q, _, _, _, e1, e2, fun G o g1 g2 => frz_I g1 g2, hK⟩
def spCount : Spec WsA := { args := fun x => [R x.c, R x.t, R x.ws], pre := fun x => FlS x.c x.ws, post := fun x d _ => d = R ((cntOf x.c x.t x.ws : Nat) : Int) }
abbrev s121 : Stmt := top 121
theorem sc121 : FnScope ["clock", "tick", "wishes"] ["clock", "tick", "wishes"] (defScope s121) := ⟨rfl, rfl, rfl, by decide +kernel, rfl, by decide +kernel, by decide +kernel⟩
theorem wy_first {c : Clk} {ws : List (Int × Int)} (h : FlS c ws) (t : Int) {rl : List Int} {db : D} : WyOk ⟨rl, ws, roomsL (mOf c) (railsOf c t), wantsL (mOf c) ws (bsOf c), db⟩ := by
  have g := fg_first h t
  exact wy_ok (rails_in h.k t) g.m (by rw [← g.len]; exact g.ln) wants_len (wants_le g.ln)
theorem ok_order_count (a : FillAt K mg C) (b : At K mg "order_count" s121 ["clock", "tick", "wishes"]) (h0 : HasC P w K mg base "Filling" C 30 (spFlInit C)) (h1 : HasM P w K mg base C "ways" 1 (spWays C)) (h2 : Has P w K mg base "require_wished" 6 spReqWish) : Has P w K mg base "order_count" 32 spCount := has_of b fun f fd F => by
  refine fn_ok spCount F sc121 (fun _ => rfl) fun ⟨c, t, ws⟩ h cdv A outer s H E hr => ?_
  have h : FlS c ws := h
  refine d_expr (i_pure (by exact e_call h2 (hr.mono (by decide)) ⟨c, t, ws⟩ rfl (fun _ _ h => h) (a_cons (by exact e_var 0) (a_cons (by exact e_var 1) (a_one (by exact e_var 2)))) ⟨h.k.toClkOk, h.w⟩) ?_)
  refine d_retI (i_methJ0 (S := spWays C) h1 (hr.mono (by decide)) (i_fillingR h0 hr h (by exact e_var 0) (by exact e_var 1) (by exact e_var 2) ⟨_, rfl, fi_l rfl rfl rfl rfl rfl, ⟨railsOf c t, ws, roomsL (mOf c) (railsOf c t), wantsL (mOf c) ws (bsOf c), R (bsOf c)⟩, [], rfl, .refl _, wy_first h t, fun d m2 hd => ⟨[], To.less (List.nil_sublist _), [], hd, .same trivial⟩⟩))
/-! least_order, nth_order -/
theorem fo_first {c : Clk} {ws : List (Int × Int)} (h : FlS c ws) {t : Int} {i : Nat} (hi : i < cntOf c t ws) {ar aw ab : Addr} : FoOk ⟨mOf c, ws, railsOf c t, bsOf c, i, ar, aw, ab⟩ := ⟨fg_first h t, hi⟩
def spLeast : Spec WsA := { args := fun x => [R x.c, R x.t, R x.ws], pre := fun x => FlS x.c x.ws ∧ 0 < cntOf x.c x.t x.ws, post := fun x d _ => d = R (nthOf x.c x.t x.ws 0) }
abbrev s122 : Stmt := top 122
theorem sc122 : FnScope ["clock", "tick", "wishes", "filling"] ["clock", "tick", "wishes"] (defScope s122) := ⟨rfl, rfl, rfl, by decide +kernel, rfl, by decide +kernel, by decide +kernel⟩
theorem ok_least_order (a : FillAt K mg C) (b : At K mg "least_order" s122 ["clock", "tick", "wishes"]) (h0 : HasC P w K mg base "Filling" C 30 (spFlInit C)) (h1 : HasM P w K mg base C "ways" 1 (spWays C)) (h2 : Has P w K mg base "require_wished" 6 spReqWish) (h3 : Has P w K mg base "found_order" 3 (spFound C)) : Has P w K mg base "least_order" 32 spLeast := has_of b fun f fd F => by
  refine fn_ok spLeast F sc122 (fun _ => rfl) fun ⟨c, t, ws⟩ ⟨h, hc⟩ cdv A outer s H E hr => ?_
  have h : FlS c ws := h
  have hc : 0 < cntOf c t ws := hc
  refine d_expr (i_pure (by exact e_call h2 (hr.mono (by decide)) ⟨c, t, ws⟩ rfl (fun _ _ h => h) (a_cons (by exact e_var 0) (a_cons (by exact e_var 1) (a_one (by exact e_var 2)))) ⟨h.k.toClkOk, h.w⟩) ?_)
  refine d_setI 3 sc122.nd (i_filling h0 hr h (by exact e_var 0) (by exact e_var 1) (by exact e_var 2) fun ar aw ab => ?_)
  refine d_retI (i_if (bi_pure (k := decide ((0 : Int) < ((cntOf c t ws : Nat) : Int))) (by exact b_gt (e_methX0 (C := C) (fs := fiF (railsOf c t) ws (dAt ar) (dAt aw) (dAt ab)) h1 (hr.mono (by decide)) (by exact e_var 3) (fi_l rfl rfl rfl rfl rfl) [(ar, mR (nI (roomsL (mOf c) (railsOf c t)))), (aw, mR (nI (wantsL (mOf c) ws (bsOf c))))] [(ab, mR (bsOf c))] (.refl _) fi_see ⟨railsOf c t, ws, roomsL (mOf c) (railsOf c t), wantsL (mOf c) ws (bsOf c), dAt ab⟩ rfl rfl (wy_first h t) (fun _ _ h => h) dR_any) e_int) ⟨fun _ => ?_, fun z => by have := of_decide_eq_false z; omega⟩))
  exact i_call (S := spFound C) h3 (hr.mono (by decide)) (ai_pure (dl := [dI C (fiF (railsOf c t) ws (dAt ar) (dAt aw) (dAt ab)), R (0 : Int)]) (a_cons (by exact e_var 3) (a_one (by exact e_int))) ⟨⟨mOf c, ws, railsOf c t, bsOf c, 0, ar, aw, ab⟩, [], rfl, .refl _, fo_first h hc, fun d m2 hd => ⟨[], hd, .cells (List.nil_sublist _)⟩⟩)
structure NtA where
  c : Clk
  t : Int
  ws : List (Int × Int)
  i : Nat
def spNth : Spec NtA := { args := fun x => [R x.c, R x.t, R x.ws, R (x.i : Int)], pre := fun x => FlS x.c x.ws ∧ x.i < cntOf x.c x.t x.ws, post := fun x d _ => d = R (nthOf x.c x.t x.ws x.i) }
abbrev s123 : Stmt := top 123
theorem sc123 : FnScope ["clock", "tick", "wishes", "index", "filling"] ["clock", "tick", "wishes", "index"] (defScope s123) := ⟨rfl, rfl, rfl, by decide +kernel, rfl, by decide +kernel, by decide +kernel⟩
theorem ok_nth_order (a : FillAt K mg C) (b : At K mg "nth_order" s123 ["clock", "tick", "wishes", "index"]) (h0 : HasC P w K mg base "Filling" C 30 (spFlInit C)) (h1 : HasM P w K mg base C "ways" 1 (spWays C)) (h2 : Has P w K mg base "require_wished" 6 spReqWish) (h3 : Has P w K mg base "found_order" 3 (spFound C)) (h4 : Has P w K mg base "is_integer" 1 spIsInt) : Has P w K mg base "nth_order" 32 spNth := has_of b fun f fd F => by
  refine fn_ok spNth F sc123 (fun _ => rfl) fun ⟨c, t, ws, i⟩ ⟨h, hc⟩ cdv A outer s H E hr => ?_
  have h : FlS c ws := h
  have hc : i < cntOf c t ws := hc
  refine d_expr (i_pure (by exact e_call h2 (hr.mono (by decide)) ⟨c, t, ws⟩ rfl (fun _ _ h => h) (a_cons (by exact e_var 0) (a_cons (by exact e_var 1) (a_one (by exact e_var 2)))) ⟨h.k.toClkOk, h.w⟩) ?_)
  refine d_setI 4 sc123.nd (i_filling h0 hr h (by exact e_var 0) (by exact e_var 1) (by exact e_var 2) fun ar aw ab => ?_)
  refine d_no (k := !true || !(decide ((0 : Int) ≤ (i : Int)) && decide ((i : Int) < ((cntOf c t ws : Nat) : Int)))) (by exact b_or2 (b_not (b_val (e_call h4 (hr.mono (by decide)) (i : Int) rfl (fun _ _ h => h) (a_one (by exact e_var 3)) trivial))) fun _ => b_not (b_chain (g := fun i j => decide (i ≤ j)) (g' := fun i j => decide (i < j)) op_le op_lt e_int (e_var 3) (e_methX0 (C := C) (fs := fiF (railsOf c t) ws (dAt ar) (dAt aw) (dAt ab)) h1 (hr.mono (by decide)) (by exact e_var 4) (fi_l rfl rfl rfl rfl rfl) [(ar, mR (nI (roomsL (mOf c) (railsOf c t)))), (aw, mR (nI (wantsL (mOf c) ws (bsOf c))))] [(ab, mR (bsOf c))] (.refl _) fi_see ⟨railsOf c t, ws, roomsL (mOf c) (railsOf c t), wantsL (mOf c) ws (bsOf c), dAt ab⟩ rfl rfl (wy_first h t) (fun _ _ h => h) dR_any))) (by rw [decide_eq_true (show (0 : Int) ≤ (i : Int) by omega), decide_eq_true (show (i : Int) < ((cntOf c t ws : Nat) : Int) by omega)]; rfl) ?_
  exact d_retI (i_call (S := spFound C) h3 (hr.mono (by decide)) (ai_pure (dl := [dI C (fiF (railsOf c t) ws (dAt ar) (dAt aw) (dAt ab)), R (i : Int)]) (a_cons (by exact e_var 4) (a_one (by exact e_var 3))) ⟨⟨mOf c, ws, railsOf c t, bsOf c, i, ar, aw, ab⟩, [], rfl, .refl _, fo_first h hc, fun d m2 hd => ⟨[], hd, .cells (List.nil_sublist _)⟩⟩))
/-! order_rank -/
def spORank : Spec NtA := { args := fun x => [R x.c, R x.t, R x.ws, R (nthOf x.c x.t x.ws x.i)], pre := fun x => FlS x.c x.ws ∧ x.i < cntOf x.c x.t x.ws, post := fun x d _ => d = R (x.i : Int) }
abbrev s124 : Stmt := top 124
theorem sc124 : FnScope ["clock", "tick", "wishes", "order"] ["clock", "tick", "wishes", "order"] (defScope s124) := ⟨rfl, rfl, rfl, by decide +kernel, rfl, by decide +kernel, by decide +kernel⟩
theorem ok_order_rank (a : FillAt K mg C) (b : At K mg "order_rank" s124 ["clock", "tick", "wishes", "order"]) (h0 : HasC P w K mg base "Filling" C 30 (spFlInit C)) (h1 : Has P w K mg base "is_granting" 30 spGrant) (h2 : Has P w K mg base "require_wished" 6 spReqWish) (h3 : Has P w K mg base "found_rank" 3 (spRank C)) (h4 : Has P w K mg base "require_order" 5 spReqOrder) : Has P w K mg base "order_rank" 32 spORank := has_of b fun f fd F => by
  refine fn_ok spORank F sc124 (fun _ => rfl) fun ⟨c, t, ws, i⟩ ⟨h, hc⟩ cdv A outer s H E hr => ?_
  have h : FlS c ws := h
  have hc : i < cntOf c t ws := hc
  have ho := nth_ok h hc
  have hgr := fo_grant (fg_first h t).toFgOk hc
  refine d_expr (i_pure (by exact e_call h2 (hr.mono (by decide)) ⟨c, t, ws⟩ rfl (fun _ _ h => h) (a_cons (by exact e_var 0) (a_cons (by exact e_var 1) (a_one (by exact e_var 2)))) ⟨h.k.toClkOk, h.w⟩) ?_)
  refine d_expr (i_pure (by exact e_call h4 (hr.mono (by decide)) (c, nthOf c t ws i) rfl (fun _ _ h => h) (a_cons (by exact e_var 0) (a_one (by exact e_var 3))) ⟨h.k.toClkOk, ho⟩) ?_)
  refine d_no (k := !true) (by exact b_not (b_val (e_call h1 (hr.mono (by decide)) ⟨c, t, ws, nthOf c t ws i⟩ rfl (fun _ _ h => h) (a_cons (by exact e_var 0) (a_cons (by exact e_var 1) (a_cons (by exact e_var 2) (a_one (by exact e_var 3))))) ⟨h, hgr⟩))) rfl ?_
  refine d_retI (i_call (S := spRank C) h3 (hr.mono (by decide)) (ai_cons (i_filling h0 hr h (by exact e_var 0) (by exact e_var 1) (by exact e_var 2) fun ar aw ab => ?_)))
  exact ai_pure (dl := [R (nthOf c t ws i)]) (a_one (by exact e_var 3)) ⟨⟨mOf c, ws, railsOf c t, bsOf c, i, ar, aw, ab⟩, [], rfl, .refl _, fo_first h hc, fun d m2 hd => ⟨[], hd, .cells (List.nil_sublist _)⟩⟩
end
end Bh
/-! V33: texts tell sights apart; data that repr shows; _law_sights_right. -/
namespace Bh
open PySem PySem.Spec PyProof.Rows L2
def NnS (s : Sight) : Prop := ∀ b ∈ s.flatten, 0 ≤ b
theorem words_inj : ∀ (l l' : Sight) (a b : List Int), NnS l → NnS l' → (∀ x ∈ a, 0 ≤ x) → (∀ x ∈ b, 0 ≤ x) → rowW a ++ restW l = rowW b ++ restW l' → a = b ∧ l = l'
  | l, l', x :: a, y :: b, h1, h2, h3, h4, e => by
    have e : sI x :: (rowW a ++ restW l) = sI y :: (rowW b ++ restW l') := e
    injection e with e1 e2
    obtain ⟨h5, h6⟩ := words_inj l l' a b h1 h2 (fun z hz => h3 z (List.mem_cons_of_mem _ hz)) (fun z hz => h4 z (List.mem_cons_of_mem _ hz)) e2
    exact ⟨by rw [sI_inj (h3 x List.mem_cons_self) (h4 y List.mem_cons_self) e1, h5], h6⟩
  | [], [], [], [], _, _, _, _, _ => ⟨rfl, rfl⟩
  | row :: l, row' :: l', [], [], h1, h2, _, _, e => by
    have e : ("|" : Str) :: (rowW row ++ restW l) = ("|" : Str) :: (rowW row' ++ restW l') := e
    injection e with _ e2
    obtain ⟨h5, h6⟩ := words_inj l l' row row' (fun z hz => h1 z (by rw [List.flatten_cons]; exact List.mem_append_right _ hz)) (fun z hz => h2 z (by rw [List.flatten_cons]; exact List.mem_append_right _ hz)) (fun z hz => h1 z (by rw [List.flatten_cons]; exact List.mem_append_left _ hz)) (fun z hz => h2 z (by rw [List.flatten_cons]; exact List.mem_append_left _ hz)) e2
    exact ⟨rfl, by rw [h5, h6]⟩
  | [], row' :: l', [], [], _, _, _, _, e => by
    have e : ([] : List Str) = ("|" : Str) :: (rowW row' ++ restW l') := e
    cases e
  | row :: l, [], [], [], _, _, _, _, e => by
    have e : ("|" : Str) :: (rowW row ++ restW l) = ([] : List Str) := e
    cases e
  | [], l', x :: a, [], _, _, h3, _, e => by
    have e : sI x :: (rowW a ++ restW []) = restW l' := e
    cases l' with
    | nil => cases e
    | cons row' l' =>
      have e : sI x :: (rowW a ++ restW []) = ("|" : Str) :: (rowW row' ++ restW l') := e
      injection e with e1 _
      exact absurd e1 (bar_ne (h3 x List.mem_cons_self))
  | row :: l, l', x :: a, [], _, _, h3, _, e => by
    have e : sI x :: (rowW a ++ restW (row :: l)) = restW l' := e
    cases l' with
    | nil => cases e
    | cons row' l' =>
      have e : sI x :: (rowW a ++ restW (row :: l)) = ("|" : Str) :: (rowW row' ++ restW l') := e
      injection e with e1 _
      exact absurd e1 (bar_ne (h3 x List.mem_cons_self))
  | l, [], [], y :: b, _, _, _, h4, e => by
    have e : restW l = sI y :: (rowW b ++ restW []) := e
    cases l with
    | nil => cases e
    | cons row l =>
      have e : ("|" : Str) :: (rowW row ++ restW l) = sI y :: (rowW b ++ restW []) := e
      injection e with e1 _
      exact absurd e1.symm (bar_ne (h4 y List.mem_cons_self))
  | l, row' :: l', [], y :: b, _, _, _, h4, e => by
    have e : restW l = sI y :: (rowW b ++ restW (row' :: l')) := e
    cases l with
    | nil => cases e
    | cons row l =>
      have e : ("|" : Str) :: (rowW row ++ restW l) = sI y :: (rowW b ++ restW (row' :: l')) := e
      injection e with e1 _
      exact absurd e1.symm (bar_ne (h4 y List.mem_cons_self))
  termination_by l _ a _ => (l.length, a.length)
theorem fmtS_inj {c : Clk} (hc : ClkOk c) {s s' : Sight} (h : SightOk c s) (h' : SightOk c s') (e : fmtS s = fmtS s') : s = s' := by
  have e1 := (sgW_ok (h.sg hc)).split
  have e2 := (sgW_ok (h'.sg hc)).split
  have e3 : sgW s = sgW s' := by
    rw [← e1, ← e2]
    exact congrArg (fun z => Txt.split z " ") e
  have l1 := h.len
  have l2 := h'.len
  match s, s', l1, l2 with
  | r :: l, r' :: l', _, _ =>
    have nn : ∀ {r : List Int} {l : Sight}, SightOk c (r :: l) → (∀ x ∈ r, 0 ≤ x) ∧ NnS l := fun {r l} h => ⟨fun x hx => (h.ball x (by rw [List.flatten_cons]; exact List.mem_append_left _ hx)).1, fun x hx => (h.ball x (by rw [List.flatten_cons]; exact List.mem_append_right _ hx)).1⟩
    obtain ⟨h5, h6⟩ := words_inj l l' r r' (nn h).2 (nn h').2 (nn h).1 (nn h').1 e3
    rw [h5, h6]
/-! ### data that repr shows -/
structure Sh1 (d : PyData) (n : Nat) : Prop where
  sh : d.showable = true
  lf : d.leavesShort 13 = true
  nd : d.hasDict = false
  wt : d.weight ≤ n
structure ShL (ds : List PyData) (n : Nat) : Prop where
  sh : PyData.showableAll ds = true
  lf : PyData.leavesShortAll 13 ds = true
  nd : PyData.hasDictAll ds = false
  wt : PyData.weightAll ds ≤ n
theorem ShL.nil : ShL [] 0 := ⟨rfl, rfl, rfl, Nat.le_refl _⟩
theorem ShL.cons {d : PyData} {ds : List PyData} {n m : Nat} (h : Sh1 d n) (h2 : ShL ds m) : ShL (d :: ds) (n + 1 + m) := ⟨by
  show (d.showable && PyData.showableAll ds) = true
  rw [h.sh, h2.sh]; rfl, by
  show (d.leavesShort 13 && PyData.leavesShortAll 13 ds) = true
  rw [h.lf, h2.lf]; rfl, by
  show (d.hasDict || PyData.hasDictAll ds) = false
  rw [h.nd, h2.nd]; rfl, by
  show d.weight + 1 + PyData.weightAll ds ≤ _
  have h3 := h.wt
  have h4 := h2.wt
  omega⟩
theorem ShL.list {ds : List PyData} {n : Nat} (h : ShL ds n) : Sh1 (.list ds) n := ⟨h.sh, h.lf, h.nd, h.wt⟩
theorem ShL.tup {ds : List PyData} {n : Nat} (h : ShL ds n) : Sh1 (.tuple ds) n := ⟨h.sh, h.lf, h.nd, h.wt⟩
theorem Sh1.ok {d : PyData} {n : Nat} (h : Sh1 d n) (hn : n ≤ 2 ^ 20) : ShOk d := ⟨h.sh, h.nd, h.lf, Nat.le_trans h.wt hn⟩
theorem ShL.map {α : Type} {f : α → PyData} {n : Nat} : ∀ {xs : List α}, (∀ x ∈ xs, Sh1 (f x) n) → ShL (xs.map f) (xs.length * (n + 1))
  | [], _ => by rw [List.length_nil, Nat.zero_mul]; exact .nil
  | x :: xs, h => by
    have := ShL.cons (h x List.mem_cons_self) (ShL.map fun y hy => h y (List.mem_cons_of_mem _ hy))
    rw [List.length_cons, Nat.succ_mul, Nat.add_comm]
    exact this
theorem sh_int {i : Int} (h : 0 ≤ i ∧ i ≤ 100) : Sh1 (.int i) 7 := ⟨decide_eq_true (sI_log ⟨h.1, by omega⟩), decide_eq_true (PyData.shown_int_le (by omega)), rfl, by
  show (if i == 0 then 0 else i.natAbs.log2 + 1) ≤ 7
  split
  · exact Nat.zero_le _
  · rename_i hi
    have : i.natAbs.log2 < 7 := (Nat.log2_lt (fun z => hi (by simp; omega))).mpr (by omega)
    omega⟩
theorem sh_ints {r : List Int} (h : ∀ i ∈ r, 0 ≤ i ∧ i ≤ 100) : Sh1 (Pd.py r) (r.length * 8) := (ShL.map (f := fun i : Int => PyData.int i) (n := 7) fun i hi => sh_int (h i hi)).list
theorem OrderOk.sho {c : Clk} {o : List Int} (hc : ClkS c) (h : OrderOk c o) : ShOk (Pd.py o) := by
  have h1 := h.cnt
  have h2 := hc.sm12
  exact (sh_ints fun i hi => by have := h.ball i hi; omega).ok (by omega)
theorem SightOk.sho {c : Clk} {s : Sight} (hc : ClkS c) (h : SightOk c s) : ShOk (Pd.py s) := by
  have h1 := h.cnt
  have h2 := hc.sm12
  have h3 := h.len
  have h4 := hc.toClkOk.len_lt
  have hr : ∀ row ∈ s, Sh1 (Pd.py row) 96 := fun row hrow => by
    have h5 := sh_ints (r := row) fun i hi => by
      have := h.ball i (List.mem_flatten.mpr ⟨row, hrow, hi⟩)
      omega
    have h6 : row.length ≤ 12 := by
      obtain ⟨l1, l2, e⟩ := List.append_of_mem hrow
      rw [e, List.flatten_append, List.flatten_cons, List.length_append, List.length_append] at h1
      omega
    exact ⟨h5.sh, h5.lf, h5.nd, Nat.le_trans h5.wt (by omega)⟩
  exact (ShL.map (f := fun row : List Int => Pd.py row) hr).list.ok (by omega)
theorem sh_way {z : Str} (h : z = "back" ∨ z = "through") : Sh1 (.str z) 7 := by
  rcases h with h | h
  · subst h
    exact ⟨rfl, by decide +kernel, rfl, by decide +kernel⟩
  · subst h
    exact ⟨rfl, by decide +kernel, rfl, by decide +kernel⟩
theorem ClkS.sho {c : Clk} (hc : ClkS c) : ShOk (Pd.py c) := by
  have h2 := hc.sm12
  have h3 := hc.lo
  have h4 := hc.toClkOk.len_lt
  have hb := hc.toClkOk.bound_le
  have hr : ∀ r ∈ c.2, Sh1 (Pd.py r) 16 := fun r hrm => by
    have h5 := hc.bd r hrm
    have h6 := hb r hrm
    exact (ShL.cons (sh_int ⟨by omega, h6⟩) (ShL.cons (sh_way h5.2) .nil)).tup
  have hl : Sh1 (Pd.py c.2) (c.2.length * 17) := (ShL.map (f := fun r : Rail => Pd.py r) hr).list
  exact ((ShL.cons (d := .int c.1) (sh_int ⟨by omega, by omega⟩) (ShL.cons hl .nil)).tup (n := 7 + 1 + (c.2.length * 17 + 1 + 0))).ok (by omega)
theorem rfL {α : Type} [Rp α] {y : List α} : ∀ G v, (R y : D).p G v → ∃ q, v = .ref q := fun G v ⟨a, _, h, _⟩ => ⟨a, h⟩
theorem rfP {α β : Type} [Rp α] [Rp β] {y : α × β} : ∀ G v, (R y : D).p G v → ∃ q, v = .ref q := fun G v ⟨a, _, h, _⟩ => ⟨a, h⟩
/-! ### _law_sights_right -/
section
variable {P : Program} {w : World} {K : PySem.W.Frag} {mg : Str → Option Value} {base : Heap}
structure LsA where
  c : Clk
  l : List Sight
structure LsOk (x : LsA) : Prop where
  c : ClkS x.c
  s : ∀ s ∈ x.l, SightOk x.c s
  n : x.l.length ≤ 100
theorem hasG_of {A : Type} {x : Str} {k : Nat} {S : Spec A} {st : Stmt} {ps : List Str} (a : At K mg x st ps) (h : ∀ f fd, FD K x x st f fd → FnG P w K mg base k f fd ps (spOf S)) : HasG P w K mg base x k S := by
  obtain ⟨f, fd, F, hm, hb⟩ := a.h
  exact ⟨f, fd, ps, hm, F.kp, hb, h f fd F⟩
def spLSights : Spec LsA := { args := fun x => [R x.c, R x.l], pre := LsOk, post := fun _ d _ => d = R true }
abbrev s133 : Stmt := top 133
abbrev N133 : List Str := ["_law_device_here", "_law_scenes", "_law_texts_here", "_law_scene_here", "_law_written", "_law_again", "_law_other", "_law_more"]
theorem sc133 : FnScope N133 ["_law_device_here", "_law_scenes"] (defScope s133) := ⟨rfl, rfl, rfl, by decide +kernel, rfl, by decide +kernel, by decide +kernel⟩
theorem ok_law_sights (T : Tx K mg) (a : At K mg "_law_sights_right" s133 ["_law_device_here", "_law_scenes"]) (h1 : Has P w K mg base "format_sight" 1 spFmtS) (h2 : Has P w K mg base "parse_sight" 6 spPSg) (h3 : Has P w K mg base "later_sight" 29 spMoved) : HasG P w K mg base "_law_sights_right" 30 spLSights := hasG_of a fun f fd F => by
  refine fn_okG spLSights F sc133 (fun _ => rfl) fun ⟨c, l⟩ ⟨hc, hs, hn⟩ cdv A outer s H E hr hgd => ?_
  have hc : ClkS c := hc
  have hs : ∀ s ∈ l, SightOk c s := hs
  have hn : l.length ≤ 100 := hn
  have hgd2 : (A.deeper (envOfC "_law_sights_right" (defScope s133) s.heap.objs.size f cdv)).guards = some [] := hgd
  refine d_lcR 2 [("_law_scene_here", 3)] l (fun x => [(3, R x)]) fmtS rfl sc133.nd (wk_R (by exact e_var 1)) (blkOk_by (N := N133) (sc := defScope s133) (by decide +kernel)) (by omega) (fun _ _ _ _ _ x => g_name 3 sc133.nd) (fun s0 H0 C cl fp qq cc x hx => by exact e_call h1 (hr.mono (by decide)) x rfl (fun _ _ h => h) (a_one (e_var 3)) ((hs x hx).sg hc.toClkOk)) ?_
  have hzip : ∀ x ∈ l.zip (l.map fmtS), x.1 ∈ l ∧ x.2 = fmtS x.1 := fun x hx => by
    obtain ⟨i, hi⟩ := List.mem_iff_getElem?.mp hx
    obtain ⟨h5, h6⟩ := List.getElem?_zip_eq_some.mp hi
    rw [List.getElem?_map, h5] at h6
    exact ⟨List.mem_of_getElem? h5, (Option.some.inj h6).symm⟩
  refine d_for (l.zip (l.map fmtS)) (fun x => [(4, R x.2), (3, R x.1)]) (fun _ (_ : Unit) => True) (fun _ _ => [(2, R (l.map fmtS)), (1, R l), (0, R c)]) (fun _ _ => []) rfl (wk_zip T.zip (by exact e_var 1) (by exact e_var 2)) (fun x => g_pair rfl (g_name 3 sc133.nd) (g_name 4 sc133.nd)) ⟨(), trivial, .same ⟨rfl, rfl, rfl, trivial⟩⟩ (fun i _ x hx _ => ?_) fun _ _ => ?_
  · obtain ⟨hx1, hx2⟩ := hzip x (List.mem_of_getElem? hx)
    obtain ⟨sg, wr⟩ := x
    have hx2 : wr = fmtS sg := hx2
    subst hx2
    have hsg := hs sg hx1
    refine d_set 5 sc133.nd (d := R sg) (by exact e_call h2 (hr.mono (by decide)) (c, sg) rfl (fun _ _ h => h) (a_cons (by exact e_var 0) (a_one (by exact e_var 4))) ⟨hc.toClkOk, hsg⟩) ?_
    refine d_no (k := !decide ((Pd.py sg).shown = (Pd.py sg).shown) || !decide (movedOf c sg 7 = movedOf c sg 7)) (by exact b_or2 (b_neS (e_repr hgd2 (hu64 hr) T.repr (e_var 5) (hsg.sho hc) (by decide) rfL) (e_repr hgd2 (hu64 hr) T.repr (e_var 3) (hsg.sho hc) (by decide) rfL)) fun _ => b_neD (x := movedOf c sg 7) (y := movedOf c sg 7) (hu64 hr) (e_call h3 (hr.mono (by decide)) (c, sg, 7) rfl (fun _ _ h => h) (a_cons (by exact e_var 0) (a_cons (by exact e_var 5) (a_one (by exact e_int)))) ⟨hc, hsg⟩) (e_call h3 (hr.mono (by decide)) (c, sg, 7) rfl (fun _ _ h => h) (a_cons (by exact e_var 0) (a_cons (by exact e_var 3) (a_one (by exact e_int)))) ⟨hc, hsg⟩)) (by rw [decide_eq_true rfl, decide_eq_true rfl]; rfl) ?_
    refine d_for (l.zip (l.map fmtS)) (fun x => [(7, R x.2), (6, R x.1)]) (fun _ (_ : Unit) => True) (fun _ _ => [(4, R (fmtS sg)), (3, R sg), (2, R (l.map fmtS)), (1, R l), (0, R c)]) (fun _ _ => []) rfl (wk_zip T.zip (by exact e_var 1) (by exact e_var 2)) (fun x => g_pair rfl (g_name 6 sc133.nd) (g_name 7 sc133.nd)) ⟨(), trivial, .same ⟨rfl, rfl, rfl, rfl, rfl, trivial⟩⟩ (fun j _ y hy _ => ?_) fun _ _ => d_nil ⟨(), trivial, .same ⟨rfl, rfl, rfl, trivial⟩⟩
    obtain ⟨hy1, hy2⟩ := hzip y (List.mem_of_getElem? hy)
    obtain ⟨sg2, wr2⟩ := y
    have hy2 : wr2 = fmtS sg2 := hy2
    subst hy2
    have hsg2 := hs sg2 hy1
    refine d_no (k := !decide (decide (sg = sg2) = decide (fmtS sg = fmtS sg2))) (by exact b_neS (e_eqD (hu64 hr) (e_var 3) (e_var 6)) (e_eqS (e_var 4) (e_var 7))) ?_ (d_nil ⟨(), trivial, .same ⟨rfl, rfl, rfl, rfl, rfl, trivial⟩⟩)
    rw [show decide (sg = sg2) = decide (fmtS sg = fmtS sg2) from decide_eq_decide.mpr ⟨fun h => by rw [h], fun h => fmtS_inj hc.toClkOk hsg hsg2 h⟩, decide_eq_true rfl]
    rfl
  · exact d_ret (by exact e_bool) ⟨[], rfl, .same trivial⟩
end
end Bh
/-! V34: _law_rows_right. -/
namespace Bh
open PySem PySem.Spec PyProof.Rows L2
/-! ### the first tick -/
theorem spot_zero (rs : List Rail) (n k : Nat) : ∀ i, i ≤ k → spotSt rs n (List.replicate k 0) i = (rngL 0 n, List.replicate i [])
  | 0, _ => rfl
  | i + 1, hi => by
    have ih := spot_zero rs n k i (by omega)
    unfold spotSt
    rw [ih]
    have e : ((List.replicate k (0 : Int)).getD ((List.replicate k (0 : Int)).length - i - 1) 0).toNat = 0 := by
      rw [List.length_replicate, List.getD_eq_getElem?_getD, List.getElem?_replicate]
      split <;> rfl
    rw [e]
    show (rngL 0 n, List.replicate i [] ++ [[]]) = _
    rw [← List.replicate_succ']
theorem spots_zero (rs : List Rail) (n : Nat) : spotsOf rs n (digitsOf rs 0) = rngL 0 n :: List.replicate rs.length [] := by
  unfold spotsOf
  rw [digits_zero, spot_zero rs n rs.length _ (by rw [List.length_replicate]; exact Nat.le_refl _), List.length_replicate, List.reverse_replicate]
theorem far_zero {c : Clk} (hc : ClkS c) : farOf c 0 = rngL 0 c.1.toNat :: List.replicate c.2.length [] := by
  have e0 : pick (rngL 0 c.1.toNat) (rngL 0 c.1.toNat) = rngL 0 c.1.toNat := by
    have := pick_rng (rngL 0 c.1.toNat)
    rw [rngL_len] at this
    exact this
  unfold farOf behindOf sightOf
  rw [Int.zero_ediv, Int.zero_emod, power_zero (turnRow_perm hc.toClkOk), e0, spots_zero, List.map_cons, e0, List.map_replicate]
  rfl
theorem ordered_zero {c : Clk} {o : List Int} (hc : ClkS c) (ho : OrderOk c o) : orderedOf c o 0 = o :: List.replicate c.2.length [] := by
  unfold orderedOf
  rw [far_zero hc, List.map_cons, List.map_replicate]
  have := pick_rng o
  rw [show o.length = c.1.toNat by have := ho.cnt; omega] at this
  rw [this]
  rfl
theorem pick_sight {c : Clk} {s : Sight} {o : List Int} (hc : ClkS c) (hs : SightOk c s) (ho : OrderOk c o) : SightOk c (s.map (pick o)) := by
  have hp := pick_order ho hs.flat.perm
  have ef : (s.map (pick o)).flatten = pick o s.flatten := pick_flat o s
  refine ⟨by rw [List.length_map, hs.len], by rw [ef]; exact hp.ball, by rw [ef]; exact hp.nd, by rw [ef]; exact hp.cnt, fun i row r h1 h2 => ?_⟩
  rw [List.getElem?_map] at h1
  obtain ⟨row', h3, rfl⟩ := Option.map_eq_some_iff.mp h1
  have := hs.rail i row' r h3 h2
  unfold pick
  rw [List.length_map]
  exact this
theorem ordered_ok {c : Clk} {o : List Int} (hc : ClkS c) (ho : OrderOk c o) (t : Int) : SightOk c (orderedOf c o t) := pick_sight hc (far_ok hc t) ho
theorem rest_bars : ∀ k, restW (List.replicate k []) = List.replicate k ("|" : Str)
  | 0 => rfl
  | k + 1 => by
    rw [List.replicate_succ, List.replicate_succ]
    show (("|" : Str) :: rowW []) ++ restW (List.replicate k []) = _
    rw [rest_bars k]
    rfl
theorem fmt_bars {o : List Int} (h : o ≠ []) (k : Nat) : fmtS (o :: List.replicate k []) = Txt.join " " (rowW o) ++ repS " |" k := by
  unfold fmtS
  show Txt.join " " (rowW o ++ restW (List.replicate k [])) = _
  rw [rest_bars]
  cases o with
  | nil => exact absurd rfl h
  | cons x o => exact join_bars (sI x) (rowW o) k
section
variable {P : Program} {w : World} {K : PySem.W.Frag} {mg : Str → Option Value} {base : Heap}
def spLRows : Spec WsA := { args := fun x => [R x.c, R x.t, R x.ws], pre := fun x => FlS x.c x.ws, post := fun _ d _ => d = R true }
abbrev s134 : Stmt := top 134
abbrev N134 : List Str := ["_law_device_here", "_law_moment_here", "_law_wished", "_law_rows", "_law_count", "_law_row", "_law_again", "_law_turns_here"]
theorem sc134 : FnScope N134 ["_law_device_here", "_law_moment_here", "_law_wished"] (defScope s134) := ⟨rfl, rfl, rfl, by decide +kernel, rfl, by decide +kernel, by decide +kernel⟩
structure RwI (c : Clk) (t : Int) (ws : List (Int × Int)) (rows : List (List Int)) : Prop where
  ok : ∀ o ∈ rows, OrderOk c o
  n : rows.length ≤ 10
  l : 0 < cntOf c t ws → atI rows (-1) = some (nthOf c t ws (cntOf c t ws - 1))
theorem ok_law_rows (T : Tx K mg) (a : At K mg "_law_rows_right" s134 ["_law_device_here", "_law_moment_here", "_law_wished"]) (h1 : Has P w K mg base "queue_behind" 26 spQBehind) (h2 : Has P w K mg base "order_count" 32 spCount) (h3 : Has P w K mg base "least_order" 32 spLeast) (h4 : Has P w K mg base "nth_order" 32 spNth) (h5 : Has P w K mg base "parse_order" 6 spPOrd) (h6 : Has P w K mg base "format_order" 2 spJoined) (h7 : Has P w K mg base "ordered_sight" 29 spOrdered) (h8 : Has P w K mg base "parse_sight" 6 spPSg) (h9 : Has P w K mg base "order_rank" 32 spORank) : HasG P w K mg base "_law_rows_right" 33 spLRows := hasG_of a fun f fd F => by
  refine fn_okG spLRows F sc134 (fun _ => rfl) fun ⟨c, t, ws⟩ h cdv A outer s H E hr hgd => ?_
  have h : FlS c ws := h
  have hc := h.k
  have hlo := hc.lo
  have h12 := hc.sm12
  have hlen := hc.toClkOk.len_lt
  have hne := hc.ne
  have hn1 : 1 ≤ c.2.length := by
    cases e : c.2 with
    | nil => exact absurd e hne
    | cons x l => rw [List.length_cons]; omega
  have hgd2 : (A.deeper (envOfC "_law_rows_right" (defScope s134) s.heap.objs.size f cdv)).guards = some [] := hgd
  have hpw : ∀ x : Int, OrderOk c (powerRow (turnRow c) x) := fun x => order_of_perm (by omega) (power_perm (turnRow_perm hc.toClkOk) x)
  refine d_lcR 3 [("_law_turns_here", 7)] [0, 1, -1, t] (fun x => [(7, R x)]) (fun x => powerRow (turnRow c) x) rfl sc134.nd (wk_tup (dl := [R (0 : Int), R (1 : Int), R (-1 : Int), R t]) (by exact e_dT (a_cons e_int (a_cons e_int (a_cons (e_neg e_int) (a_one (e_var 1))))) (by show 4 ≤ 1000000; decide))) (blkOk_by (N := N134) (sc := defScope s134) (by decide +kernel)) (by show 4 < 1000000; decide) (fun _ _ _ _ _ x => g_name 7 sc134.nd) (fun s0 H0 C cl fp qq cc x hx => by exact e_call h1 (hr.mono (by decide)) (c, x) rfl (fun _ _ h => h) (a_cons (by exact e_var 0) (a_one (by exact e_var 7))) hc) ?_
  obtain ⟨b4, hb4⟩ : ∃ b4, ([0, 1, -1, t] : List Int).map (fun x => powerRow (turnRow c) x) = b4 := ⟨_, rfl⟩
  have hb5 : b4.length = 4 := by rw [← hb4]; rfl
  have hb6 : ∀ o ∈ b4, OrderOk c o := fun o ho => by
    rw [← hb4] at ho
    obtain ⟨x, _, rfl⟩ := List.mem_map.mp ho
    exact hpw x
  rw [hb4]
  refine d_set 4 sc134.nd (d := R ((cntOf c t ws : Nat) : Int)) (by exact e_call h2 (hr.mono (by decide)) ⟨c, t, ws⟩ rfl (fun _ _ h => h) (a_cons (by exact e_var 0) (a_cons (by exact e_var 1) (a_one (by exact e_var 2)))) h) ?_
  refine d_ifJ (k := decide ((0 : Int) < ((cntOf c t ws : Nat) : Int))) (RwI c t ws) (fun rows => [(4, R ((cntOf c t ws : Nat) : Int)), (3, R rows), (2, R ws), (1, R t), (0, R c)]) (fun _ => []) (by exact b_gt (e_var 4) e_int) (fun hk => ?_) (fun hk => ?_) fun rows hI => ?_
  · have hk : 0 < cntOf c t ws := by have := of_decide_eq_true hk; omega
    have i0 := nth_ok h hk
    have i1 := nth_ok (t := t) (i := cntOf c t ws - 1) h (by omega)
    have ecat : (b4.map fun x => (R x : D)) ++ [R (nthOf c t ws 0), R (nthOf c t ws (cntOf c t ws - 1))] = (b4 ++ [nthOf c t ws 0, nthOf c t ws (cntOf c t ws - 1)]).map fun x => R x := by rw [List.map_append]; rfl
    refine d_set 3 sc134.nd (d := R (b4 ++ [nthOf c t ws 0, nthOf c t ws (cntOf c t ws - 1)])) (by exact e_eq (e_new (n_cat (r_R (xs := b4) (e_var 3)) (r_lst (dl := [R (nthOf c t ws 0), R (nthOf c t ws (cntOf c t ws - 1))]) (e_dL (a_cons (by exact e_call h3 (hr.mono (by decide)) ⟨c, t, ws⟩ rfl (fun _ _ h => h) (a_cons (by exact e_var 0) (a_cons (by exact e_var 1) (a_one (by exact e_var 2)))) ⟨h, hk⟩) (a_one (by exact e_call h4 (hr.mono (by decide)) ⟨c, t, ws, cntOf c t ws - 1⟩ rfl (fun _ _ h => h) (a_cons (by exact e_var 0) (a_cons (by exact e_var 1) (a_cons (by exact e_var 2) (a_one (by exact e_eq (e_sub (e_var 4) e_int) (by rw [show ((cntOf c t ws : Nat) : Int) - 1 = ((cntOf c t ws - 1 : Nat) : Int) by omega])))))) ⟨h, by (show cntOf c t ws - 1 < cntOf c t ws); omega⟩))) (by show 2 ≤ 1000000; decide))) (by rw [List.length_map, hb5]; (show 4 + 2 ≤ 1000000); decide))) (by rw [ecat]; rfl)) (d_nil ⟨_, ⟨fun o ho => ?_, ?_, fun _ => ?_⟩, .same ⟨rfl, rfl, rfl, rfl, rfl, trivial⟩⟩)
    · rcases List.mem_append.mp ho with ho | ho
      · exact hb6 o ho
      · rcases List.mem_cons.mp ho with e | ho
        · rw [e]; exact i0
        · rw [List.mem_singleton.mp ho]; exact i1
    · rw [List.length_append, hb5]
      show 4 + 2 ≤ 10
      decide
    · rw [show b4 ++ [nthOf c t ws 0, nthOf c t ws (cntOf c t ws - 1)] = (b4 ++ [nthOf c t ws 0]) ++ [nthOf c t ws (cntOf c t ws - 1)] by simp]
      exact atI_last _ _
  · have hk : cntOf c t ws = 0 := by have := of_decide_eq_false hk; omega
    exact d_nil ⟨b4, ⟨hb6, by omega, fun z => by omega⟩, .same ⟨rfl, rfl, rfl, rfl, rfl, trivial⟩⟩
  obtain ⟨io, il, iz⟩ := hI
  refine d_for rows (fun x => [(5, R x)]) (fun _ (_ : Unit) => True) (fun _ _ => [(4, R ((cntOf c t ws : Nat) : Int)), (3, R rows), (2, R ws), (1, R t), (0, R c)]) (fun _ _ => []) rfl (wk_R (by exact e_var 3)) (fun x => g_name 5 sc134.nd) ⟨(), trivial, .same ⟨rfl, rfl, rfl, rfl, rfl, trivial⟩⟩ (fun i _ o hx _ => ?_) fun _ _ => ?_
  · have ho := io o (List.mem_of_getElem? hx)
    have one : o ≠ [] := fun e => by have := ho.cnt; rw [e] at this; simp at this; omega
    have hws := (OrderOk.ws hc.toClkOk ho).join_le
    have hso := ordered_ok hc ho
    have hz := ordered_zero hc ho
    have hfm := fmt_bars one c.2.length
    rw [← hz] at hfm
    have hbl : (" |" : Str).length = 2 := by decide +kernel
    have hrl : (repS " |" c.2.length).length ≤ 24 := by rw [repS_len, hbl]; omega
    refine d_set 6 sc134.nd (d := R o) (by exact e_call h5 (hr.mono (by decide)) (c, o) rfl (fun _ _ h => h) (a_cons (by exact e_var 0) (a_one (by exact e_call h6 (hr.mono (by decide)) o rfl (fun _ _ h => h) (a_one (by exact e_var 5)) (OrderOk.row hc.toClkOk ho)))) ⟨hc.toClkOk, ho⟩) ?_
    refine d_no (k := !decide ((Pd.py o).shown = (Pd.py o).shown)) (by exact b_neS (e_repr hgd2 (hu64 hr) T.repr (e_var 6) (ho.sho hc) (by decide) rfL) (e_repr hgd2 (hu64 hr) T.repr (e_var 5) (ho.sho hc) (by decide) rfL)) (by rw [decide_eq_true rfl]; rfl) ?_
    refine d_no (k := !decide (orderedOf c o t = orderedOf c o t)) (by exact b_neD (x := orderedOf c o t) (y := orderedOf c o t) (hu64 hr) (e_call h7 (hr.mono (by decide)) ⟨c, o, t⟩ rfl (fun _ _ h => h) (a_cons (by exact e_var 0) (a_cons (by exact e_var 6) (a_one (by exact e_var 1)))) ⟨hc, ho⟩) (e_call h7 (hr.mono (by decide)) ⟨c, o, t⟩ rfl (fun _ _ h => h) (a_cons (by exact e_var 0) (a_cons (by exact e_var 5) (a_one (by exact e_var 1)))) ⟨hc, ho⟩)) (by rw [decide_eq_true rfl]; rfl) ?_
    refine d_no (k := !decide (orderedOf c o 0 = orderedOf c o 0)) (by exact b_neD (x := orderedOf c o 0) (y := orderedOf c o 0) (hu64 hr) (e_call h8 (hr.mono (by decide)) (c, orderedOf c o 0) rfl (fun _ _ h => h) (a_cons (by exact e_var 0) (a_one (by exact e_eq (e_addS (e_call h6 (hr.mono (by decide)) o rfl (fun _ _ h => h) (a_one (by exact e_var 5)) (OrderOk.row hc.toClkOk ho)) (e_mulS e_str (e_lenR (xs := c.2) T.len (r_R (e_snd (x := c) (e_var 0) e_int))) (by omega) (by omega) (by rw [hbl]; decide) (by rw [hbl]; decide)) (by rw [Int.toNat_natCast]; omega)) (by rw [Int.toNat_natCast, ← hfm])))) ⟨hc.toClkOk, hso 0⟩) (e_call h7 (hr.mono (by decide)) ⟨c, o, 0⟩ rfl (fun _ _ h => h) (a_cons (by exact e_var 0) (a_cons (by exact e_var 5) (a_one (by exact e_int)))) ⟨hc, ho⟩)) (by rw [decide_eq_true rfl]; rfl) (d_nil ⟨(), trivial, .same ⟨rfl, rfl, rfl, rfl, rfl, trivial⟩⟩)
  · refine d_ret (d := R (decide (((cntOf c t ws : Nat) : Int) = 0) || decide (((cntOf c t ws - 1 : Nat) : Int) = ((cntOf c t ws : Nat) : Int) - 1))) (by exact e_or2 (e_eqS (e_var 4) e_int) fun hk => e_eqS (e_call h9 (hr.mono (by decide)) ⟨c, t, ws, cntOf c t ws - 1⟩ rfl (fun _ _ h => h) (a_cons (by exact e_var 0) (a_cons (by exact e_var 1) (a_cons (by exact e_var 2) (a_one (by exact e_item (xs := rows) (r_R (e_var 3)) (e_neg e_int) (iz (by have := of_decide_eq_false hk; omega))))))) ⟨h, by (show cntOf c t ws - 1 < cntOf c t ws); have := of_decide_eq_false hk; omega⟩) (e_sub (e_var 4) e_int)) ⟨[], ?_, .same trivial⟩
    show R _ = R true
    by_cases hk : cntOf c t ws = 0
    · rw [hk]; rfl
    · rw [decide_eq_true (show ((cntOf c t ws - 1 : Nat) : Int) = ((cntOf c t ws : Nat) : Int) - 1 by omega), Bool.or_true]
end
end Bh
/-! V35: _law_devices_right. -/
namespace Bh
open PySem PySem.Spec PyProof.Rows L2
def bT (X : Cx) (scope : Scope) (e : Expr) : TT := fun σ H Q => ∀ (s0 : Shared) (H0 : Hp) (C : Addr) (cl : List (Str × Addr)) (fp : List Addr), wT (X.blk s0 H0 scope (compEnvC scope cl C X.env) fp) e σ H Q
theorem filt_some {α : Type} [Rp α] : ∀ l : List (Option α), (l.filter (·.isSome)).map (fun o => (R o : D)) = (l.filterMap id).map fun x => R x
  | [] => rfl
  | none :: l => filt_some l
  | some x :: l => by
    show R (some x) :: (l.filter (·.isSome)).map (fun o => (R o : D)) = R x :: (l.filterMap id).map fun x => R x
    rw [filt_some l]
    rfl
def thruOf (b : Int) (l : List Int) : Clk := clkOf b "through" l
def devs (sz far : Int) : List Clk := ([longestOf sz far "back", longestOf sz far "through"].filterMap id) ++ ((within 5 (sz - 1) far).take 9).map (thruOf sz)
theorem devs_ok {sz far : Int} (h : BtOk sz far) : (∀ c ∈ devs sz far, ClkS c ∧ c.1 = sz ∧ turnOf c.2 = far) ∧ (devs sz far).length ≤ 11 := by
  refine ⟨fun c hc => ?_, ?_⟩
  · rcases List.mem_append.mp hc with hc | hc
    · obtain ⟨o, ho, e⟩ := List.mem_filterMap.mp hc
      have e : o = some c := e
      subst e
      rcases List.mem_cons.mp ho with e | ho
      · exact longest_ok h (.inl rfl) e.symm
      · exact longest_ok h (.inr rfl) (List.mem_singleton.mp ho).symm
    · obtain ⟨l, hl, rfl⟩ := List.mem_map.mp hc
      have := clkOf_ok h.b0 h.b1 (z := "through") (.inr rfl) (within_ok 5 (sz - 1) far l (List.mem_of_mem_take hl))
      exact ⟨this.1, rfl, this.2⟩
  · unfold devs
    rw [List.length_append, List.length_map, List.length_take]
    have : ([longestOf sz far "back", longestOf sz far "through"].filterMap id).length ≤ 2 := List.length_filterMap_le _ _
    omega
section
variable {P : Program} {w : World} {K : PySem.W.Frag} {mg : Str → Option Value} {base : Heap}
structure JrA where
  q : Addr
  j : Jar
  n : Int
def spLDevs : Spec JrA := { args := fun x => [dAt x.q], ms := fun x => [(x.q, mJ x.j)], pre := fun x => JarOk x.n x.j ∧ x.n ≤ 10 ^ 8, post := fun x d m => d = R true ∧ ∃ j, m = [(x.q, mJ j)] ∧ JarOk (x.n + 2) j }
abbrev s135 : Stmt := top 135
abbrev N135 : List Str := ["_law_jar_here", "_law_size", "_law_far", "_law_found", "_law_device_here", "_law_again", "_law_side", "_law_bounds", "_law_bound"]
theorem sc135 : FnScope N135 ["_law_jar_here"] (defScope s135) := ⟨rfl, rfl, rfl, by decide +kernel, rfl, by decide +kernel, by decide +kernel⟩
theorem ok_law_devs (T : Tx K mg) (a : At K mg "_law_devices_right" s135 ["_law_jar_here"]) (h1 : Has P w K mg base "_law_pick" 1 spPick) (h2 : Has P w K mg base "longest_clock" 27 spLongest) (h3 : Has P w K mg base "bound_lists" 7 spBLists) (h4 : Has P w K mg base "parse_clock" 3 spPClk) (h5 : Has P w K mg base "format_clock" 1 spFmtClk) (h6 : Has P w K mg base "is_clock" 5 spIsClock) (h7 : Has P w K mg base "turn_ticks" 6 spTurn) : HasG P w K mg base "_law_devices_right" 28 spLDevs := hasG_of a fun f fd F => by
  refine fn_okG spLDevs F sc135 (fun _ => rfl) fun ⟨q, j, n⟩ ⟨hj, hn⟩ cdv A outer s H E hr hgd => ?_
  have hj : JarOk n j := hj
  have hn : n ≤ 10 ^ 8 := hn
  have hgd2 : (A.deeper (envOfC "_law_devices_right" (defScope s135) s.heap.objs.size f cdv)).guards = some [] := hgd
  refine d_asgI (i_tup (ai_cons (i_add (i_pure (by exact e_int) ⟨3, rfl, i_pick (k := 10) h1 (hr.mono (by decide)) (by exact e_var 0) (by exact e_int) (.refl _) hj (by omega) (by decide) (by decide) fun x1 j1 a1 b1 hj1 => ⟨x1, rfl, ai_cons (i_add (i_pure (by exact e_int) ⟨2, rfl, i_pick (k := 30) h1 (hr.mono (by decide)) (by exact e_var 0) (by exact e_int) (.refl _) hj1 (by omega) (by decide) (by decide) fun x2 j2 a2 b2 hj2 => ⟨x2, rfl, ai_nil ⟨(by show 2 ≤ 1000000; decide), [(2, R (2 + x2)), (1, R (3 + x1))], by exact g_tup (dl := [R (3 + x1), R (2 + x2)]) rfl (gs_cons (g_name 1 sc135.nd) (gs_cons (g_name 2 sc135.nd) gs_nil)), ?_⟩⟩⟩))⟩⟩))))
  have hbt : BtOk (3 + x1) (2 + x2) := ⟨by omega, by omega, by omega, by omega⟩
  generalize 3 + x1 = sz at *
  generalize 2 + x2 = far at *
  refine d_lcR 3 [("_law_side", 6)] (["back", "through"] : List Str) (fun x => [(6, R x)]) (fun z => longestOf sz far z) rfl sc135.nd (wk_tup (dl := [R ("back" : Str), R ("through" : Str)]) (by exact e_dT (a_cons e_str (a_one e_str)) (by show 2 ≤ 1000000; decide))) (blkOk_by (N := N135) (sc := defScope s135) (by decide +kernel)) (by show 2 < 1000000; decide) (fun _ _ _ _ _ x => g_name 6 sc135.nd) (fun s0 H0 C cl fp qq cc x hx => ?_) ?_
  · have hx2 : x = "back" ∨ x = "through" := by
      rcases List.mem_cons.mp hx with e | e
      · exact .inl e
      · exact .inr (List.mem_singleton.mp e)
    exact e_call h2 (hr.mono (by decide)) ⟨sz, far, x⟩ rfl (fun _ _ h => h) (a_cons (by exact e_var 1) (a_cons (by exact e_var 2) (a_one (by exact e_var 6)))) ⟨hbt, hx2⟩
  obtain ⟨os, hos⟩ : ∃ os : List (Option Clk), ([longestOf sz far "back", longestOf sz far "through"] : List (Option Clk)) = os := ⟨_, rfl⟩
  have hol : os.length = 2 := by rw [← hos]; rfl
  have hdv := devs_ok hbt
  have hdd : devs sz far = os.filterMap id ++ ((within 5 (sz - 1) far).take 9).map (thruOf sz) := by rw [← hos]; rfl
  have hmo : (["back", "through"] : List Str).map (fun z => longestOf sz far z) = os := by rw [← hos]; rfl
  rw [hmo]
  refine d_lcT 3 [("_law_device_here", 4)] os (fun o => [(4, R o)]) (fun o => o.isSome) (fun o => (R o : D)) rfl sc135.nd (wk_R (by exact e_var 3)) (blkOk_by (N := N135) (sc := defScope s135) (by decide +kernel)) rfl (fun _ _ h => h) (by omega) (fun _ _ _ _ _ x => g_name 4 sc135.nd) (bT _ _ _) (fun s0 H0 C cl fp => pts_one ⟨fun pins sh σ H Q I h => h s0 H0 C cl fp pins sh I⟩) (fun qq cc x hx σ H s Q k => fun s0 H0 C cl fp => ?_) (fun s0 H0 C cl fp qq cc x hx ht => by exact e_var 4) fun a => ?_
  · cases x with
    | none =>
      refine (show DB _ _ _ _ false from ?_) σ H s Q k
      exact b_isnN1 (by exact e_var 4)
    | some c =>
      refine (show DB _ _ _ _ true from ?_) σ H s Q k
      exact b_isnN (d := R c) (by exact e_var 4) nn_pair
  rw [filt_some]
  refine d_frz0 3 rfl ?_
  have hbl : ∀ l ∈ (within 5 (sz - 1) far).take 9, l.length ≤ 11 := fun l hl => (within_ok 5 (sz - 1) far l (List.mem_of_mem_take hl)).len (by have := hbt.b1; omega)
  have hfl : (os.filterMap id).length ≤ 2 := by rw [← hol]; exact List.length_filterMap_le _ _
  have htl : ((within 5 (sz - 1) far).take 9).length ≤ 9 := by rw [List.length_take]; omega
  refine d_set 3 sc135.nd (d := R (devs sz far)) (by exact e_eq (e_new (n_cat (r_R (xs := os.filterMap id) (by exact e_var 3)) (r_R (xs := ((within 5 (sz - 1) far).take 9).map (thruOf sz)) (by exact e_lc [("_law_bounds", 7)] ((within 5 (sz - 1) far).take 9) (fun x => [(7, R x)]) (thruOf sz) rfl sc135.nd (wk_R (by exact e_eq (e_slice (xs := within 5 (sz - 1) far) (i := none) (j := some 9) (r_R (e_call h3 (hr.mono (by decide)) (sz, far) rfl (fun _ _ h => h) (a_cons (by exact e_var 1) (a_one (by exact e_var 2))) hbt)) trivial e_int) (by rw [cut_to (by decide)]; rfl))) (blkOk_by (N := N135) (sc := defScope s135) (by decide +kernel)) (by omega) (fun _ _ _ _ _ x => g_name 7 sc135.nd) fun s0 H0 C cl fp qq cc x hx => by exact e_pair (x := sz) (y := x.map fun b => (b, ("through" : Str))) (e_var 1) (e_lc [("_law_bound", 8)] x (fun b => [(8, R b)]) (fun b => (b, ("through" : Str))) rfl sc135.nd (wk_R (e_var 7)) (blkOk_by (N := N135) (sc := { kind := .function, names := [(".0", .local), ("_law_bounds", .local), ("_law_size", .cell)], isGenerator := false, isCoroutine := false }) (by decide +kernel)) (by have := hbl x hx; omega) (fun _ _ _ _ _ x => g_name 8 sc135.nd) fun s0 H0 C cl fp qq cc b hb => e_pair (x := b) (y := ("through" : Str)) (e_var 8) e_str))) (by rw [List.length_map, List.length_map, List.length_map]; omega))) (by rw [hdd]; (show dL _ = dL (List.map _ _)); rw [List.map_append])) ?_
  obtain ⟨hdv1, hdv2⟩ := hdv
  generalize devs sz far = dl at *
  refine d_for dl (fun x => [(4, R x)]) (fun _ (_ : Unit) => True) (fun _ _ => [(3, R dl), (2, R far), (1, R sz), (0, dAt q)]) (fun _ _ => [(q, mJ j2)]) rfl (wk_R (by exact e_var 3)) (fun x => g_name 4 sc135.nd) ⟨(), trivial, .same ⟨rfl, rfl, rfl, rfl, trivial⟩⟩ (fun i _ c hc _ => ?_) fun _ _ => d_ret (by exact e_bool) ⟨_, ⟨rfl, j2, rfl, hj2.le (by show n + 1 + 1 ≤ n + 2; omega)⟩, .same trivial⟩
  obtain ⟨hcs, hc1, hct⟩ := hdv1 c (List.mem_of_getElem? hc)
  have hck := hcs.toClkOk
  have hnm : Nm c.1 := ⟨by have := hck.lo; omega, by have := hck.hi; omega⟩
  have hw := clkW_ok hck
  refine d_set 5 sc135.nd (d := R c) (by exact e_call h4 (hr.mono (by decide)) c rfl (fun _ _ h => h) (a_one (by exact e_call h5 (hr.mono (by decide)) c rfl (fun _ _ h => h) (a_one (by exact e_var 4)) hck)) hck) ?_
  refine d_no (k := !true || (!decide ((Pd.py c).shown = (Pd.py c).shown) || !decide (turnOf c.2 = far))) (by exact b_or3 (b_not (b_val (e_call h6 (hr.mono (by decide)) c rfl (fun _ _ h => h) (a_one (by exact e_var 5)) hck))) (fun _ => b_neS (e_repr hgd2 (hu64 hr) T.repr (e_var 5) hcs.sho (by decide) rfP) (e_repr hgd2 (hu64 hr) T.repr (e_var 4) hcs.sho (by decide) rfP)) fun _ _ => b_neS (e_call h7 (hr.mono (by decide)) c rfl (fun _ _ h => h) (a_one (by exact e_var 5)) hck) (e_var 2)) (by rw [decide_eq_true rfl, decide_eq_true hct]; rfl) ?_
  refine d_no (k := !decide ((sI c.1 ++ (":" : Str)) = sI sz ++ (":" : Str))) (by exact b_neS (e_item (xs := clkW c) (i := 0) (y := sI c.1 ++ (":" : Str)) (r_R (e_eq (e_split (z := fmtClk c) (y := " ") (e_call h5 (hr.mono (by decide)) c rfl (fun _ _ h => h) (a_one (by exact e_var 4)) hck) e_str (by decide +kernel) (by have := hw.join_le; exact line_of (by (show (Txt.join " " (clkW c)).length + 2 ≤ 1000000); omega))) (by (show R (Txt.split (Txt.join " " (clkW c)) " ") = _); rw [hw.split]))) e_int (atI_nat' (by decide) rfl)) (e_addS (e_strI T.str (e_var 1) (by rw [← hc1]; exact sI_log hnm)) e_str (by rw [← hc1]; have := sI_len hnm; have : (":" : Str).length = 1 := (by decide +kernel); omega))) (by rw [hc1, decide_eq_true rfl]; rfl) (d_nil ⟨(), trivial, .same ⟨rfl, rfl, rfl, rfl, trivial⟩⟩)
end
end Bh
/-! V36: _law_live_right. -/
namespace Bh
open PySem PySem.Spec PyProof.Rows L2 TL
theorem swap_txt (x y : Str) : ("swap " : Str) ++ x ++ (" " : Str) ++ y = Txt.join " " ["swap", x, y] := by
  have e : ("swap " : Str) = ("swap" : Str) ++ (" " : Str) := ext_tl (by decide +kernel)
  rw [join_cons, join_cons, join_one, e]
  refine ext_tl ?_
  simp only [tl_append, List.append_assoc]
theorem str_vt (o : Option Int) : vtOf o = (match o with | none => ("none" : Str) | some n => sI n) := by cases o <;> rfl
section
variable {P : Program} {w : World} {K : PySem.W.Frag} {mg : Str → Option Value} {base : Heap} {C BC : Addr}
structure LvJ where
  q : Addr
  j : Jar
  n : Int
  c : Clk
def spLLive : Spec LvJ := { args := fun x => [dAt x.q, R x.c], ms := fun x => [(x.q, mJ x.j)], pre := fun x => JarOk x.n x.j ∧ x.n ≤ 10 ^ 8 ∧ ClkS x.c, post := fun x d m => d = R true ∧ ∃ j, m = [(x.q, mJ j)] ∧ JarOk (x.n + 24) j }
abbrev s136 : Stmt := top 136
abbrev N136 : List Str := ["_law_jar_here", "_law_device_here", "_law_live", "_law_console", "_law_lap", "_law_many", "_law_one", "_law_two", "_law_told", "_law_when"]
theorem sc136 : FnScope N136 ["_law_jar_here", "_law_device_here"] (defScope s136) := ⟨rfl, rfl, rfl, by decide +kernel, rfl, by decide +kernel, by decide +kernel⟩
structure LvX where
  L : List Ent
  j : Jar
structure LvI (c : Clk) (n : Int) (i : Nat) (x : LvX) : Prop where
  v : LvOk c x.L
  l : x.L.length = i
  j : JarOk (n + 4 * (i : Int)) x.j
/-- the cells of a lap -/
def lapMs (C BC cq l bq q : Addr) (c : Clk) (L1 L2 : List Ent) (j : Jar) : MS := [(cq, mI C (coF c l)), (l, mI BC (bcF c L1)), (bq, mI BC (bcF c L2)), (q, mJ j)]
structure LiveHas (P : Program) (w : World) (K : PySem.W.Frag) (mg : Str → Option Value) (base : Heap) (C BC : Addr) : Prop where
  T : Tx K mg
  mkB : HasC P w K mg base "BallClock" BC 6 (spBcInit BC)
  mkC : HasC P w K mg base "Console" C 9 (spConInit C BC)
  exC : HasM P w K mg base C "execute" 10 (spExClock C BC)
  exR : HasM P w K mg base C "execute" 31 (spExRun C BC)
  exS : HasM P w K mg base C "execute" 7 (spExSwap C BC)
  exI : HasM P w K mg base C "execute" 6 (spExSight C BC)
  exW : HasM P w K mg base C "execute" 30 (spExWhen C BC)
  run : HasM P w K mg base BC "run" 29 (spRun BC)
  swap : HasM P w K mg base BC "swap" 5 (spSwap BC)
  sight : HasP P w K mg base BC "sight" 2 (spSight BC)
  pick : Has P w K mg base "_law_pick" 1 spPick
  fmtC : Has P w K mg base "format_clock" 1 spFmtClk
  fmtS : Has P w K mg base "format_sight" 1 spFmtS
  parS : Has P w K mg base "parse_sight" 6 spPSg
  tick : Has P w K mg base "tick_of" 28 spTickOf
theorem ok_law_live (h : LiveHas P w K mg base C BC) (a : At K mg "_law_live_right" s136 ["_law_jar_here", "_law_device_here"]) : HasG P w K mg base "_law_live_right" 32 spLLive := hasG_of a fun f fd F => by
  obtain ⟨T, mkB, mkC, exC, exR, exS, exI, exW, hrun, hswap, hsight, hpick, hfmtC, hfmtS, hparS, htick⟩ := h
  refine fn_okG spLLive F sc136 (fun _ => rfl) fun ⟨q, j, n, c⟩ ⟨hj, hn, hc⟩ cdv A outer s H E hr hgd => ?_
  have hj : JarOk n j := hj
  have hn : n ≤ 10 ^ 8 := hn
  have hc : ClkS c := hc
  have hlo := hc.lo
  have h12 := hc.sm12
  have hgd2 : (A.deeper (envOfC "_law_live_right" (defScope s136) s.heap.objs.size f cdv)).guards = some [] := hgd
  have hwk := clkW_ok hc.toClkOk
  refine d_parI 2 3 rfl sc136.nd (ai_cons (i_make (S := spBcInit BC) mkB (hr.mono (by decide)) (ai_pure (dl := [R c]) (a_one (by exact e_var 1)) fun bq => ⟨(bq, c), [(q, mJ j)], rfl, .refl _, hc.toClkOk, fun d m2 hd => ⟨hd.1, ?_⟩⟩)))
  rw [hd.2]
  refine ai_cons (i_make0 (S := spConInit C BC) mkC (hr.mono (by decide)) fun cq => ⟨cq, [(bq, mI BC (bcF c [])), (q, mJ j)], rfl, .refl _, trivial, fun d m3 ⟨hd1, l0, hd2⟩ => ⟨hd1, ?_⟩⟩)
  rw [hd2]
  refine ai_nil ⟨_, _, rfl, ?_⟩
  have etx : ("clock " : Str) ++ fmtClk c = Txt.join " " ("clock" :: clkW c) := by
    show _ = Txt.join " " ("clock" :: (sI c.1 ++ (":" : Str)) :: c.2.map railW)
    rw [join_cons]
    rfl
  have hfl : (fmtClk c).length ≤ 202000 := hwk.join_le
  refine d_ifI (bi_neS (α := Str) (i_meth (S := spExClock C BC) (q := cq) (fs := coF defClk l0) exC (hr.mono (by decide)) (by exact e_var 3) .h0 (co_l rfl rfl) (ai_pure (dl := [R (Txt.join " " ("clock" :: clkW c))]) (a_one (by exact e_eq (e_addS e_str (e_call hfmtC (hr.mono (by decide)) c rfl (fun _ _ h => h) (a_one (by exact e_var 1)) hc.toClkOk) (by have : ("clock " : Str).length = 6 := (by decide +kernel); omega)) (by rw [etx]))) ⟨(⟨cq, l0, defClk, defClk, []⟩, c), [(bq, mI BC (bcF c [])), (q, mJ j)], rfl, .refl _, hc.toClkOk, fun d m4 ⟨hd3, l, hd4⟩ => ⟨"ok", hd3, i_pure (by exact e_str) ⟨"ok", rfl, ?_⟩⟩⟩)))
  rw [hd4]
  refine ⟨fun z => (by rw [decide_eq_true rfl] at z; cases z), fun _ => d_nil ?_⟩
  refine d_for (rngL 0 6) (fun x => [(4, R x)]) (LvI c n) (fun _ _ => [(3, dAt cq), (2, dAt bq), (1, R c), (0, dAt q)]) (fun _ x => lapMs C BC cq l bq q c x.L x.L x.j) rfl (wk_rng1 (j := 6) T.range (by exact e_int) (by decide)) (fun x => g_name 4 sc136.nd) ⟨⟨[], j⟩, ⟨⟨hc, Nat.zero_le _, fun e he => nomatch he⟩, rfl, by simpa using hj⟩, .same ⟨rfl, rfl, rfl, rfl, trivial⟩⟩ (fun i x y hy hI => ?_) fun x hI => ?_
  · obtain ⟨L, jx⟩ := x
    obtain ⟨hv, hl, hjx⟩ := hI
    have hv : LvOk c L := hv
    have hl : L.length = i := hl
    have hjx : JarOk (n + 4 * (i : Int)) jx := hjx
    have hi6 : i < 6 := by have := (List.getElem?_eq_some_iff.mp hy).1; rw [rngL_len] at this; omega
    refine d_parI 5 6 rfl sc136.nd (ai_cons (i_add (i_pure (by exact e_int) ⟨1, rfl, i_pick (k := 40) hpick (hr.mono (by decide)) (by exact e_var 0) (by exact e_int) (r := [(cq, mI C (coF c l)), (l, mI BC (bcF c L)), (bq, mI BC (bcF c L))]) (List.perm_append_comm (l₁ := [(q, mJ jx)]) (l₂ := [(cq, mI C (coF c l)), (l, mI BC (bcF c L)), (bq, mI BC (bcF c L))])) hjx (by omega) (by decide) (by decide) fun x1 j1 a1 b1 hj1 => ⟨x1, rfl, ai_cons (i_pick (k := c.1) hpick (hr.mono (by decide)) (by exact e_var 0) (by exact e_fst (x := c) (e_var 1) e_int) (.refl _) hj1 (by omega) (by omega) (by omega) fun x2 j2 a2 b2 hj2 => ai_nil ⟨_, _, rfl, ?_⟩)⟩⟩)))
    refine d_setI 7 sc136.nd (i_mod (i_int1 T.int (i_add (i_pure (d := R (x2 + 1)) (by exact e_add (e_var 6) e_int) ⟨x2 + 1, rfl, i_pick (k := c.1 - 1) hpick (hr.mono (by decide)) (by exact e_var 0) (by exact e_sub (e_fst (x := c) (e_var 1) e_int) e_int) (.refl _) hj2 (by omega) (by omega) (by omega) fun x3 j3 a3 b3 hj3 => ⟨x3, rfl, x2 + 1 + x3, rfl, x2 + 1 + x3, rfl, i_pure (d := R c.1) (by exact e_fst (x := c) (e_var 1) e_int) ⟨c.1, rfl, by omega, ?_⟩⟩⟩))))
    have hne : (x2 + 1 + x3) % c.1 ≠ x2 := fun e => by
      by_cases hlt : x2 + 1 + x3 < c.1
      · rw [Int.emod_eq_of_lt (by omega) hlt] at e
        omega
      · have e2 : (x2 + 1 + x3) % c.1 = (x2 + 1 + x3 - c.1) % c.1 := (Int.sub_emod_right _ _).symm
        rw [e2, Int.emod_eq_of_lt (by omega) (by omega)] at e
        omega
    have htw : 0 ≤ (x2 + 1 + x3) % c.1 ∧ (x2 + 1 + x3) % c.1 < c.1 := ⟨Int.emod_nonneg _ (by omega), Int.emod_lt_of_pos _ (by omega)⟩
    generalize (x2 + 1 + x3) % c.1 = tw at *
    refine d_ifJI (A := LvX) (fun y => LvI c n (i + 1) y) (fun _ => [(8, R ("ok" : Str)), (3, dAt cq), (2, dAt bq), (1, R c), (0, dAt q)]) (fun y => lapMs C BC cq l bq q c y.L y.L y.j) (bi_eqS (α := Int) (i_pick (k := 2) hpick (hr.mono (by decide)) (by exact e_var 0) (by exact e_int) (.refl _) hj3 (by omega) (by decide) (by decide) fun x4 j4 a4 b4 hj4 => ⟨x4, rfl, i_pure (by exact e_int) ⟨0, rfl, ?_⟩⟩)) fun y hy => ?_
    · have hj5 : JarOk (n + 4 * ((i + 1 : Nat) : Int)) j4 := hj4.le (by omega)
      have hnm : ∀ z : Int, 0 ≤ z → z ≤ 1000 → Nm z := fun z h0 h1 => ⟨h0, by omega⟩
      have hnr := hnm (1 + x1) (by omega) (by omega)
      have hno := hnm x2 (by omega) (by omega)
      have hnt := hnm tw (by omega) (by omega)
      refine ⟨fun _ => ?_, fun _ => ?_⟩
      · refine d_expr (i_meth (S := spRun BC) (q := bq) (fs := bcF c L) hrun (hr.mono (by decide)) (by exact e_var 2) (.s (.s (.s .h0))) (bc_l rfl rfl) (ai_pure (dl := [R (1 + x1)]) (a_one (by exact e_var 5)) ⟨⟨bq, c, L, 1 + x1⟩, [(q, mJ j4), (cq, mI C (coF c l)), (l, mI BC (bcF c L))], rfl, List.perm_append_comm (l₁ := [(bq, mI BC (bcF c L))]) (l₂ := [(q, mJ j4), (cq, mI C (coF c l)), (l, mI BC (bcF c L))]), ⟨hv, by (show 1 ≤ 1 + x1); omega⟩, fun d m2 hd => ?_⟩))
        rw [hd.2]
        refine d_setI 8 sc136.nd (i_meth (S := spExRun C BC) (q := cq) (fs := coF c l) exR (hr.mono (by decide)) (by exact e_var 3) (.s (.s .h0)) (co_l rfl rfl) (ai_pure (dl := [R (Txt.join " " ["run", sI (1 + x1)])]) (a_one (by exact e_eq (e_addS e_str (e_strI T.str (e_var 5) (sI_log hnr)) (by have := sI_len hnr; have : ("run " : Str).length = 4 := (by decide +kernel); omega)) (by rw [join_cons, join_one]; rfl))) ⟨(⟨cq, l, c, c, L⟩, 1 + x1), [(bq, mI BC (bcF c (runL c L (1 + x1)))), (q, mJ j4)], rfl, List.perm_append_comm (l₁ := [(cq, mI C (coF c l)), (l, mI BC (bcF c L))]) (l₂ := [(bq, mI BC (bcF c (runL c L (1 + x1)))), (q, mJ j4)]), ⟨hv, by (show 1 ≤ 1 + x1); omega, hnr⟩, fun d m3 hd3 => ?_⟩))
        rw [hd3.1, hd3.2]
        exact d_nil ⟨⟨runL c L (1 + x1), j4⟩, ⟨run_lv hv _ (by omega), by unfold runL; rw [List.length_append, hl]; rfl, hj5⟩, .same ⟨rfl, rfl, rfl, rfl, rfl, trivial⟩⟩
      · refine d_expr (i_meth (S := spSwap BC) (q := bq) (fs := bcF c L) hswap (hr.mono (by decide)) (by exact e_var 2) (.s (.s (.s .h0))) (bc_l rfl rfl) (ai_pure (dl := [R x2, R tw]) (a_cons (by exact e_var 6) (a_one (by exact e_var 7))) ⟨⟨bq, c, L, x2, tw⟩, [(q, mJ j4), (cq, mI C (coF c l)), (l, mI BC (bcF c L))], rfl, List.perm_append_comm (l₁ := [(bq, mI BC (bcF c L))]) (l₂ := [(q, mJ j4), (cq, mI C (coF c l)), (l, mI BC (bcF c L))]), ⟨hv, ⟨a2, b2⟩, htw, fun e => hne e.symm⟩, fun d m2 hd => ?_⟩))
        rw [hd.2]
        refine d_setI 8 sc136.nd (i_meth (S := spExSwap C BC) (q := cq) (fs := coF c l) exS (hr.mono (by decide)) (by exact e_var 3) (.s (.s .h0)) (co_l rfl rfl) (ai_pure (dl := [R (Txt.join " " ["swap", sI x2, sI tw])]) (a_one (by exact e_eq (e_addS (e_addS (e_addS e_str (e_strI T.str (e_var 6) (sI_log hno)) (by have := sI_len hno; have : ("swap " : Str).length = 5 := (by decide +kernel); omega)) e_str (by have := sI_len hno; have h1 : ("swap " : Str).length = 5 := (by decide +kernel); have h2 : (" " : Str).length = 1 := (by decide +kernel); rw [len_tl, tl_append, List.length_append, ← len_tl, ← len_tl]; omega)) (e_strI T.str (e_var 7) (sI_log hnt)) (by have := sI_len hno; have := sI_len hnt; have h1 : ("swap " : Str).length = 5 := (by decide +kernel); have h2 : (" " : Str).length = 1 := (by decide +kernel); rw [len_tl, tl_append, tl_append, List.length_append, List.length_append, ← len_tl, ← len_tl, ← len_tl]; omega)) (by rw [swap_txt]))) ⟨(⟨cq, l, c, c, L⟩, x2, tw), [(bq, mI BC (bcF c (swapL c L x2 tw))), (q, mJ j4)], rfl, List.perm_append_comm (l₁ := [(cq, mI C (coF c l)), (l, mI BC (bcF c L))]) (l₂ := [(bq, mI BC (bcF c (swapL c L x2 tw))), (q, mJ j4)]), ⟨hv, ⟨a2, b2⟩, htw, fun e => hne e.symm⟩, fun d m3 hd3 => ?_⟩))
        rw [hd3.1, hd3.2]
        exact d_nil ⟨⟨swapL c L x2 tw, j4⟩, ⟨swap_lv hv ⟨a2, b2⟩ htw (by omega), by unfold swapL; rw [List.length_append, hl]; rfl, hj5⟩, .same ⟨rfl, rfl, rfl, rfl, rfl, trivial⟩⟩
    · obtain ⟨L2, jy⟩ := y
      obtain ⟨hv2, hl2, hjy⟩ := hy
      have hv2 : LvOk c L2 := hv2
      have hnow := hv2.now
      have hpm : ([(bq, mI BC (bcF c L2))] ++ [(cq, mI C (coF c l)), (l, mI BC (bcF c L2)), (q, mJ jy)]).Perm (lapMs C BC cq l bq q c L2 L2 jy) := (List.perm_middle (l₁ := [(cq, mI C (coF c l)), (l, mI BC (bcF c L2))]) (l₂ := [(q, mJ jy)])).symm
      have hsp : ∀ g : Addr → HO, ∃ a, (spSight BC).ms a = roMs [(bq, mI BC (bcF c L2))] g ∧ (spSight BC).args a = [dAt bq] ∧ (spSight BC).pre a ∧ ∀ d' m, (spSight BC).post a d' m → d' = R (nowOf c L2) ∧ ∃ m1, m = roMs [(bq, mI BC (bcF c L2))] g ++ m1 := fun g => ⟨⟨bq, c, L2, g⟩, rfl, rfl, hv2, fun d' m h => h⟩
      refine d_ifI (bi_or2 (bi_pure (k := !decide (("ok" : Str) = "ok")) (by exact b_neS (e_var 8) e_str) ⟨fun z => (by rw [decide_eq_true rfl] at z; cases z), fun _ => bi_neS (α := Str) (i_meth (S := spExSight C BC) (q := cq) (fs := coF c l) exI (hr.mono (by decide)) (by exact e_var 3) .h0 (co_l rfl rfl) (ai_pure (dl := [R (Txt.join " " [("sight" : Str)])]) (a_one (by exact e_eq e_str (by rw [join_one]))) ⟨⟨cq, l, c, c, L2⟩, [(bq, mI BC (bcF c L2)), (q, mJ jy)], rfl, .refl _, hv2, fun d m hd => ⟨fmtS (nowOf c L2), hd.1, ?_⟩⟩))⟩))
      rw [hd.2]
      refine i_pure (d := R (fmtS (nowOf c L2))) (by exact e_call hfmtS (hr.mono (by decide)) (nowOf c L2) rfl (fun _ _ h => h) (a_one (by exact e_prop (S := spSight BC) (fs := bcF c L2) (cs := [(bq, mI BC (bcF c L2))]) (rest := [(cq, mI C (coF c l)), (l, mI BC (bcF c L2)), (q, mJ jy)]) hsight (hr.mono (by decide)) (e_var 2) (.s (.s .h0)) hpm hsp)) (hnow.sg hc.toClkOk)) ⟨fmtS (nowOf c L2), rfl, fun z => (by rw [decide_eq_true rfl] at z; cases z), fun _ => d_nil ?_⟩
      refine d_ifI (bi_neS (α := Str) (i_repr (y := nowOf c L2) hgd2 (hu64 hr) T.repr ?_ (hnow.sho hc) (by decide) rfL))
      refine i_callP (S := spPSg) hparS (hr.mono (by decide)) (ai_cons (i_pure (d := R c) (by exact e_var 1) (ai_cons (i_meth (S := spExSight C BC) (q := cq) (fs := coF c l) exI (hr.mono (by decide)) (by exact e_var 3) .h0 (co_l rfl rfl) (ai_pure (dl := [R (Txt.join " " [("sight" : Str)])]) (a_one (by exact e_eq e_str (by rw [join_one]))) ⟨⟨cq, l, c, c, L2⟩, [(bq, mI BC (bcF c L2)), (q, mJ jy)], rfl, .refl _, hv2, fun d m hd => ai_nil ⟨(c, nowOf c L2), by rw [hd.1]; rfl, rfl, ⟨hc.toClkOk, hnow⟩, fun d2 m2 hd2 => ⟨hd2, (Pd.py (nowOf c L2)).shown, rfl, ?_⟩⟩⟩)))))
      rw [hd.2]
      refine i_pure (d := R (Pd.py (nowOf c L2)).shown) (by exact e_repr hgd2 (hu64 hr) T.repr (e_prop (S := spSight BC) (fs := bcF c L2) (cs := [(bq, mI BC (bcF c L2))]) (rest := [(cq, mI C (coF c l)), (l, mI BC (bcF c L2)), (q, mJ jy)]) hsight (hr.mono (by decide)) (e_var 2) (.s (.s .h0)) hpm hsp) (hnow.sho hc) (by decide) rfL) ⟨(Pd.py (nowOf c L2)).shown, rfl, fun z => (by rw [decide_eq_true rfl] at z; cases z), fun _ => d_nil ?_⟩
      refine d_set 9 sc136.nd (d := R (tickOf c (nowOf c L2))) (by exact e_call htick (hr.mono (by decide)) (c, nowOf c L2) rfl (fun _ _ h => h) (a_cons (by exact e_var 1) (a_one (by exact e_prop (S := spSight BC) (fs := bcF c L2) (cs := [(bq, mI BC (bcF c L2))]) (rest := [(cq, mI C (coF c l)), (l, mI BC (bcF c L2)), (q, mJ jy)]) hsight (hr.mono (by decide)) (e_var 2) (.s (.s .h0)) hpm hsp))) ⟨hc, hnow⟩) ?_
      have htn := tickOf_nm hc hnow
      refine d_ifI (bi_neS (α := Str) (i_meth (S := spExWhen C BC) (q := cq) (fs := coF c l) exW (hr.mono (by decide)) (by exact e_var 3) .h0 (co_l rfl rfl) (ai_pure (dl := [R (Txt.join " " [("when" : Str)])]) (a_one (by exact e_eq e_str (by rw [join_one]))) ⟨⟨cq, l, c, c, L2⟩, [(bq, mI BC (bcF c L2)), (q, mJ jy)], rfl, .refl _, ⟨hv2, rfl⟩, fun d m hd => ⟨vtOf (tickOf c (nowOf c L2)), hd.1, ?_⟩⟩)))
      rw [hd.2]
      generalize tickOf c (nowOf c L2) = o at *
      refine i_pure (d := R (vtOf o)) ?_ ⟨vtOf o, rfl, fun z => (by rw [decide_eq_true rfl] at z; cases z), fun _ => d_nil (d_nil ⟨⟨L2, jy⟩, ⟨hv2, hl2, hjy⟩, .same ⟨rfl, rfl, rfl, rfl, trivial⟩⟩)⟩
      cases o with
      | none => exact e_if (k := true) (b_isN1 (e_var 9)) (fun _ => e_str) fun h => by cases h
      | some n => exact e_if (k := false) (b_isN (d := R n) (e_var 9) nn_int) (fun h => by cases h) fun _ => e_strI T.str (e_var 9) (sI_log (htn n rfl))
  · obtain ⟨hv, hl, hjx⟩ := hI
    rw [rngL_len] at hjx
    exact d_ret (by exact e_bool) ⟨_, ⟨rfl, x.j, rfl, hjx.le (by show n + 4 * ((6 : Nat) : Int) ≤ n + 24; omega)⟩, .cells (.cons _ (.cons _ (.cons _ (.refl _))))⟩
end
end Bh
/-! V37: law. -/
namespace Bh
open PySem PySem.Spec PyProof.Rows L2
theorem mixed_order {c : Clk} (hc : ClkS c) {o : List Int} (h : o.Perm (rngL 0 c.1.toNat)) : OrderOk c o := order_of_perm (by have := hc.lo; omega) h
theorem rows_ok {c : Clk} (hc : ClkS c) {s : Sight} (h : SightOk c s) (n : Nat) : ∀ x ∈ rowsOf c s n, SightOk c x := fun x hx => by
  obtain ⟨i, _, rfl⟩ := List.mem_map.mp hx
  exact afterN_ok hc.toClkOk h _
section
variable {P : Program} {w : World} {K : PySem.W.Frag} {mg : Str → Option Value} {base : Heap}
structure LawHas (P : Program) (w : World) (K : PySem.W.Frag) (mg : Str → Option Value) (base : Heap) : Prop where
  T : Tx K mg
  jar : Has P w K mg base "_law_jar" 1 (spJar K)
  pick : Has P w K mg base "_law_pick" 1 spPick
  dev : Has P w K mg base "_law_device" 2 spDevice
  mix : Has P w K mg base "_law_mixed" 2 spMixed
  scene : Has P w K mg base "_law_scene" 3 spScene
  mom : Has P w K mg base "_law_moment" 2 spLMom
  turn : Has P w K mg base "turn_ticks" 6 spTurn
  first : Has P w K mg base "first_sight" 6 spFirst
  sat : Has P w K mg base "sight_at" 29 spFar
  ord : Has P w K mg base "ordered_sight" 29 spOrdered
  srow : Has P w K mg base "sight_row" 6 spSRow
  later : Has P w K mg base "later_sight" 29 spMoved
  fmtS : Has P w K mg base "format_sight" 1 spFmtS
  sights : HasG P w K mg base "_law_sights_right" 30 spLSights
  rows : HasG P w K mg base "_law_rows_right" 33 spLRows
  devs : HasG P w K mg base "_law_devices_right" 28 spLDevs
  live : HasG P w K mg base "_law_live_right" 32 spLLive
def spLaw (K : PySem.W.Frag) : Spec (List Int) := { args := fun x => [dSc K x], post := fun _ d _ => d = R true }
abbrev s137 : Stmt := top 137
abbrev N137 : List Str := ["_law_script", "_law_at", "_law_jar_here", "_law_device_here", "_law_moment_here", "_law_row", "_law_scenes", "_law_wished", "_law_item"]
theorem sc137 : FnScope N137 ["_law_script"] (defScope s137) := ⟨rfl, rfl, rfl, by decide +kernel, rfl, by decide +kernel, by decide +kernel⟩
def endClk : Clk := (3, [(2, "back"), (2, "back")])
theorem endClk_ok : ClkS endClk := ⟨⟨by decide, by decide, by unfold endClk; simp, fun r hr => by
  have : r = ((2, "back") : Rail) := by
    rcases List.mem_cons.mp hr with e | e
    · exact e
    · exact List.mem_singleton.mp e
  rw [this]
  exact ⟨by decide, .inl rfl⟩, by decide⟩, by decide⟩
theorem end_text : fmtS (farOf endClk 3) = "0 | 2 | 1" := by decide +kernel
structure LwJ where
  r : List (Int × Int)
  j : Jar
structure LwI (c : Clk) (n : Int) (xs : List Int) (i : Nat) (x : LwJ) : Prop where
  f : x.r.map (·.1) = xs.take i
  s : ∀ y ∈ x.r, 0 ≤ y.2 ∧ y.2 ≤ (c.2.length : Int)
  j : JarOk (n + (i : Int)) x.j
  l : x.r.length ≤ i
theorem ok_law (h : LawHas P w K mg base) {f : Addr} {fd : FuncData} (F : FD K "law" "law" s137 f fd) : FnG P w K mg base 34 f fd ["_law_script"] (spOf (spLaw K)) := by
  obtain ⟨T, hjar, hpick, hdev, hmix, hscene, hmom, hturn, hfirst, hsat, hord, hsrow, hlater, hfmtS, hsights, hrows, hdevs, hlive⟩ := h
  refine fn_okG (spLaw K) F sc137 (fun _ => rfl) fun script _ cdv A outer s H E hr hgd => ?_
  have hgd2 : (A.deeper (envOfC "law" (defScope s137) s.heap.objs.size f cdv)).guards = some [] := hgd
  obtain ⟨N, hN⟩ : ∃ N : Int, (if (if (script.length : Int) < 5 then (script.length : Int) else 5) > 1 then (if (script.length : Int) < 5 then (script.length : Int) else 5) else 1) = N := ⟨_, rfl⟩
  have hN5 : 1 ≤ N ∧ N ≤ 5 := by rw [← hN]; split <;> split <;> omega
  refine d_for (rngL 0 N.toNat) (fun x => [(1, R x)]) (fun _ (_ : Unit) => True) (fun _ _ => [(0, dSc K script)]) (fun _ _ => []) rfl (wk_rng1 (j := N) T.range (by exact e_eq (e_max2 rfl T.max e_int (e_min2 rfl T.min e_int (e_lenSc T.len (e_var 0)))) (by rw [← hN])) (by omega)) (fun x => g_name 1 sc137.nd) ⟨(), trivial, .same ⟨rfl, trivial⟩⟩ (fun i _ y hy _ => ?_) fun _ _ => ?_
  · obtain ⟨hi, hy2⟩ := rngL_get hy
    have hy3 : y = ((i : Nat) : Int) := by omega
    subst hy3
    refine d_setI 2 sc137.nd (i_call (S := spJar K) hjar (hr.mono (by decide)) (ai_pure (dl := [dSc K script, R ((i : Nat) : Int)]) (a_cons (by exact e_var 0) (a_one (by exact e_var 1))) ⟨(script, i), [], rfl, .refl _, by (show i ≤ 4); omega, fun d m2 ⟨q, j, hd1, hd2, hj⟩ => ?_⟩))
    rw [hd1, hd2]
    refine d_setI 3 sc137.nd (i_call (S := spDevice) hdev (hr.mono (by decide)) (ai_cons (i_pure (d := dAt q) (by exact e_var 2) (ai_cons (i_ix (i_pure (by exact e_lst (xs := [(4 : Int), 12]) (a_cons e_int (a_one e_int)) rfl (by show 2 ≤ 1000000; decide)) ⟨_, rfl, i_pick (k := 2) hpick (hr.mono (by decide)) (by exact e_var 2) (by exact e_int) (.refl _) hj (by decide) (by decide) (by decide) fun x1 j1 a1 b1 hj1 => ?_⟩))))))
    have hx1 : x1 = 0 ∨ x1 = 1 := by omega
    obtain ⟨M, hM1, hM2, hM3⟩ : ∃ M : Int, atI [(4 : Int), 12] x1 = some M ∧ 2 ≤ M ∧ M ≤ 12 := by
      rcases hx1 with e | e
      · subst e; exact ⟨4, rfl, by decide, by decide⟩
      · subst e; exact ⟨12, rfl, by decide, by decide⟩
    refine ⟨x1, R M, rfl, at_map (xs := [(4 : Int), 12]) hM1, ai_nil ⟨⟨q, j1, 0 + 1, M⟩, [], rfl, .refl _, ⟨hj1, by (show (0 : Int) + 1 ≤ 10 ^ 8); decide, hM2, hM3⟩, fun d m2 ⟨c, j2, hd3, hd4, hc, hj2⟩ => ?_⟩⟩
    rw [hd3, hd4]
    have hlo := hc.lo
    have h12 := hc.sm12
    have hlen := hc.toClkOk.len_lt
    have htn := hc.turn
    have hj2 : JarOk (0 + 1 + 30) j2 := hj2
    refine d_parI 4 5 rfl sc137.nd (ai_cons (i_call (S := spLMom) hmom (hr.mono (by decide)) (ai_pure (dl := [dAt q, R (turnOf c.2)]) (a_cons (by exact e_var 2) (a_one (by exact e_call hturn (hr.mono (by decide)) c rfl (fun _ _ h => h) (a_one (by exact e_var 3)) hc.toClkOk))) ⟨⟨q, j2, 0 + 1 + 30, turnOf c.2⟩, [], rfl, .refl _, ⟨hj2, by (show (0 : Int) + 1 + 30 ≤ 10 ^ 8); decide, by (show 0 ≤ turnOf c.2); omega, by (show turnOf c.2 ≤ 10000); omega⟩, fun d m ⟨t, j3, hd5, hd6, hj3⟩ => ?_⟩)))
    rw [hd5, hd6]
    have hj3 : JarOk (0 + 1 + 30 + 6) j3 := hj3
    refine ai_cons (i_call (S := spMixed) hmix (hr.mono (by decide)) (ai_pure (dl := [dAt q, R c.1]) (a_cons (by exact e_var 2) (a_one (by exact e_fst (x := c) (e_var 3) e_int))) ⟨⟨q, j3, 0 + 1 + 30 + 6, c.1⟩, [], rfl, .refl _, ⟨hj3, by (show (0 : Int) + 1 + 30 + 6 ≤ 10 ^ 8); decide, by (show 0 ≤ c.1); omega, h12⟩, fun d m ⟨row, j4, hd7, hd8, hrow, hj4⟩ => ?_⟩))
    rw [hd7, hd8]
    refine ai_nil ⟨_, _, rfl, ?_⟩
    have hj4 : JarOk (0 + 1 + 30 + 6 + 12) j4 := hj4
    have hrow : row.Perm (rngL 0 c.1.toNat) := hrow
    have ho := mixed_order hc hrow
    have hsf := first_ok hc.toClkOk
    have hst := far_ok hc (t := t)
    have hso := ordered_ok hc ho t
    refine d_set 6 sc137.nd (d := R [firstOf c, farOf c t, orderedOf c row t]) (by exact e_lst (xs := [firstOf c, farOf c t, orderedOf c row t]) (a_cons (by exact e_call hfirst (hr.mono (by decide)) c rfl (fun _ _ h => h) (a_one (by exact e_var 3)) hc.toClkOk) (a_cons (by exact e_call hsat (hr.mono (by decide)) (c, t) rfl (fun _ _ h => h) (a_cons (by exact e_var 3) (a_one (by exact e_var 4))) hc) (a_one (by exact e_call hord (hr.mono (by decide)) ⟨c, row, t⟩ rfl (fun _ _ h => h) (a_cons (by exact e_var 3) (a_cons (by exact e_var 5) (a_one (by exact e_var 4)))) ⟨hc, ho⟩)))) rfl (by show 3 ≤ 1000000; decide)) ?_
    refine d_setI 6 sc137.nd (i_cat (i_cat (i_pure (d := R [firstOf c, farOf c t, orderedOf c row t]) (by exact e_var 6) ⟨_, rfl, i_callP (S := spSRow) hsrow (hr.mono (by decide)) (ai_cons (i_pure (d := R c) (by exact e_var 3) (ai_cons (i_call (S := spScene) hscene (hr.mono (by decide)) (ai_pure (dl := [dAt q, R c]) (a_cons (by exact e_var 2) (a_one (by exact e_var 3))) ⟨⟨q, j4, 0 + 1 + 30 + 6 + 12, c⟩, [], rfl, .refl _, ⟨hj4, by (show (0 : Int) + 1 + 30 + 6 + 12 ≤ 10 ^ 8); decide, hc⟩, fun d m ⟨sg, j5, hd9, hd10, hsg, hj5⟩ => ?_⟩)))))⟩)))
    rw [hd9, hd10]
    have hsg : SightOk c sg := hsg
    have hj5 : JarOk (0 + 1 + 30 + 6 + 12 + 40) j5 := hj5
    refine ai_cons (i_pure (d := R (9 : Int)) (by exact e_int) (ai_nil ⟨(c, sg, 9), rfl, rfl, ⟨hc, hsg, by (show (0 : Int) ≤ 9); decide, by (show (9 : Int) ≤ 60); decide⟩, fun d m2 hd11 => ?_⟩))
    have hd11 : d = R (rowsOf c sg 9) := hd11
    rw [hd11]
    have hrl : (rowsOf c sg 9).length = 9 := by unfold rowsOf; rw [List.length_map, List.length_range]
    refine ⟨_, rfl, by rw [List.length_map, List.length_map, hrl]; (show 3 + 9 ≤ 1000000); decide, _, rfl, i_pure (d := R [movedOf c (orderedOf c row t) (-5)]) (by exact e_lst (xs := [movedOf c (orderedOf c row t) (-5)]) (a_one (by exact e_call hlater (hr.mono (by decide)) (c, orderedOf c row t, -5) rfl (fun _ _ h => h) (a_cons (by exact e_var 3) (a_cons (by exact e_item (xs := [firstOf c, farOf c t, orderedOf c row t]) (i := 2) (r_R (e_var 6)) e_int rfl) (a_one (by exact e_neg e_int)))) ⟨hc, hso⟩)) rfl (by show 1 ≤ 1000000; decide)) ⟨_, rfl, by rw [List.length_append, List.length_map, List.length_map, hrl]; (show 3 + 9 + 1 ≤ 1000000); decide, ?_⟩⟩
    obtain ⟨sc, hsc⟩ : ∃ sc : List Sight, ([firstOf c, farOf c t, orderedOf c row t] ++ rowsOf c sg 9) ++ [movedOf c (orderedOf c row t) (-5)] = sc := ⟨_, rfl⟩
    have esc : dL ((([firstOf c, farOf c t, orderedOf c row t] : List Sight).map (fun x => R x) ++ (rowsOf c sg 9).map fun x => R x) ++ ([movedOf c (orderedOf c row t) (-5)] : List Sight).map fun x => R x) = R sc := by
      rw [← hsc]
      show _ = dL (List.map _ _)
      rw [List.map_append, List.map_append]
    have hscl : sc.length = 13 := by rw [← hsc, List.length_append, List.length_append, hrl]; rfl
    have hscs : ∀ x ∈ sc, SightOk c x := fun x hx => by
      rw [← hsc] at hx
      rcases List.mem_append.mp hx with hx | hx
      · rcases List.mem_append.mp hx with hx | hx
        · rcases List.mem_cons.mp hx with e | hx
          · rw [e]; exact hsf
          · rcases List.mem_cons.mp hx with e | hx
            · rw [e]; exact hst
            · rw [List.mem_singleton.mp hx]; exact hso
        · exact rows_ok hc hsg 9 x hx
      · rw [List.mem_singleton.mp hx]
        exact moved_ok hc hso _
    refine d_as 6 (d' := R sc) rfl (fun G v hv => by rw [← esc]; exact hv) ?_
    refine d_no (k := !true) (by exact b_not (b_val (e_callG hsights (hr.mono (by decide)) hgd2 ⟨c, sc⟩ rfl (fun _ _ h => h) (a_cons (by exact e_var 3) (a_one (by exact e_var 6))) ⟨hc, hscs, by (show sc.length ≤ 100); omega⟩))) rfl ?_
    obtain ⟨n5, hn5⟩ : ∃ n5 : Int, (0 : Int) + 1 + 30 + 6 + 12 + 40 = n5 := ⟨_, rfl⟩
    rw [hn5] at hj5
    have hn6 : n5 = 89 := by omega
    refine d_lcI (α := Int) 7 [("_law_item", 8)] (fun x => [(8, R x)]) rfl sc137.nd (i_cutTo (xs := row) (by exact e_var 5) (i_pick (k := 3) hpick (hr.mono (by decide)) (by exact e_var 2) (by exact e_int) (.refl _) hj5 (by omega) (by decide) (by decide) fun x2 j6 a2 b2 hj6 => ⟨x2, rfl, a2, row.take x2.toNat, rfl, by rw [List.length_take]; omega, ⟨LwJ, LwI c (n5 + 1) (row.take x2.toNat), fun z => z.r.map fun y => R y, fun z => [(q, mJ z.j)], ⟨⟨[], j6⟩, ⟨rfl, fun y hy => (nomatch hy), by simpa using hj6, Nat.le_refl _⟩, rfl, rfl⟩, fun k z hz => by rw [List.length_map]; exact hz.l, fun k z x hx hz s0 H0 C cl fp qq => ?_, fun z hz qq => ?_⟩⟩)) (blkOk_by (N := N137) (sc := defScope s137) (by decide +kernel)) (fun _ _ _ _ _ x => g_name 8 sc137.nd)
    · obtain ⟨zf, zs, zj, zl⟩ := hz
      have hk3 : k < 3 := by have := (List.getElem?_eq_some_iff.mp hx).1; rw [List.length_take] at this; omega
      refine i_to (K' := fun d m => ∃ (v : Int) (j' : Jar), d = R (x, v) ∧ m = [(q, mJ j'), (qq, mL (z.r.map fun y => R y))] ∧ 0 ≤ v ∧ v ≤ (c.2.length : Int) ∧ JarOk (n5 + 1 + (k : Int) + 1) j') (i_tup (ai_cons (i_pure (d := R x) (by exact e_var 8) (ai_cons (i_pick (k := (c.2.length : Int) + 1) hpick (hr.mono (by decide)) (by exact e_var 2) (by exact e_add (e_lenR (xs := c.2) T.len (r_R (e_snd (x := c) (e_var 3) e_int))) e_int) (List.Perm.swap _ _ _) zj (by omega) (by omega) (by omega) fun v j' a3 b3 hj' => ai_nil ⟨(by show 2 ≤ 1000000; decide), v, j', rfl, rfl, a3, by omega, hj'⟩))))) fun d m ⟨v, j', hd, hm, v0, v1, hj'⟩ => ⟨[(qq, mL (z.r.map fun y => R y)), (q, mJ j')], by rw [hm]; exact To.perm (List.Perm.swap _ _ _), ⟨z.r ++ [(x, v)], j'⟩, ⟨?_, ?_, ?_, ?_⟩, ?_, rfl⟩
      · show (z.r ++ [(x, v)]).map (·.1) = _
        rw [List.map_append, zf, take_snoc' hx]
        rfl
      · intro y hy
        rcases List.mem_append.mp hy with hy | hy
        · exact zs y hy
        · rw [List.mem_singleton.mp hy]
          exact ⟨v0, v1⟩
      · exact hj'.le (by omega)
      · show (z.r ++ [(x, v)]).length ≤ k + 1
        rw [List.length_append, List.length_singleton]
        omega
      · show (z.r ++ [(x, v)]).map (fun y => R y) = _
        rw [List.map_append, hd]
        rfl
    · obtain ⟨zf, zs, zj, zl⟩ := hz
      obtain ⟨ws, jz⟩ := z
      rw [List.take_length] at zf
      have htl : (row.take x2.toNat).length ≤ 2 := by rw [List.length_take]; omega
      have zf : ws.map (·.1) = row.take x2.toNat := zf
      have zs : ∀ y ∈ ws, 0 ≤ y.2 ∧ y.2 ≤ (c.2.length : Int) := zs
      have zj : JarOk (n5 + 1 + (((row.take x2.toNat).length : Nat) : Int)) jz := zj
      have zl : ws.length ≤ (row.take x2.toNat).length := zl
      have hwok : WishOk c ws := ⟨fun y hy => ⟨ho.ball y.1 (List.mem_of_mem_take (i := x2.toNat) (by rw [← zf]; exact List.mem_map_of_mem hy)), zs y hy⟩, by rw [zf]; exact ho.nd.sublist (List.take_sublist _ _), by omega⟩
      have hfl : FlS c ws := ⟨hc, hwok⟩
      have zj2 : JarOk 100 jz := zj.le (by omega)
      refine d_frz0 7 rfl (d_as 7 (d' := R ws) rfl (fun G v hv => hv) ?_)
      refine d_ifI (bi_or2 (bi_pure (k := !true) (by exact b_not (b_val (e_callG hrows (hr.mono (by decide)) hgd2 ⟨c, t, ws⟩ rfl (fun _ _ h => h) (a_cons (by exact e_var 3) (a_cons (by exact e_var 4) (a_one (by exact e_var 7)))) hfl))) ⟨fun h => (by cases h), fun _ => bi_not (bi_val (i_callG (S := spLDevs) hdevs (hr.mono (by decide)) hgd2 (ai_pure (dl := [dAt q]) (a_one (by exact e_var 2)) ⟨⟨q, jz, 100⟩, [], rfl, .refl _, ⟨zj2, by (show (100 : Int) ≤ 10 ^ 8); decide⟩, fun d m2 ⟨hd1, j7, hd2, hj7⟩ => ⟨true, hd1, fun h => (by cases h), fun _ => d_nil ?_⟩⟩)))⟩))
      rw [hd2]
      have hj7 : JarOk (100 + 2) j7 := hj7
      refine d_ifI (bi_not (bi_val (i_callG (S := spLLive) hlive (hr.mono (by decide)) hgd2 (ai_pure (dl := [dAt q, R c]) (a_cons (by exact e_var 2) (a_one (by exact e_var 3))) ⟨⟨q, j7, 100 + 2, c⟩, [], rfl, .refl _, ⟨hj7, by (show (100 : Int) + 2 ≤ 10 ^ 8); decide, hc⟩, fun d m2 ⟨hd3, j8, hd4, hj8⟩ => ⟨true, hd3, fun h => (by cases h), fun _ => d_nil (d_nil ⟨(), trivial, .less ⟨rfl, trivial⟩ (List.nil_sublist _)⟩)⟩⟩))))
  · refine d_ret (d := R (decide (fmtS (farOf endClk 3) = "0 | 2 | 1"))) (by exact e_eqS (e_call hfmtS (hr.mono (by decide)) (farOf endClk 3) rfl (fun _ _ h => h) (a_one (by exact e_call hsat (hr.mono (by decide)) (endClk, 3) rfl (fun _ _ h => h) (a_cons (by exact e_pair (x := (3 : Int)) (y := ([(2, "back"), (2, "back")] : List Rail)) e_int (e_eq (e_new (n_rep (d := R ((2, "back") : Rail)) (n_lst (a_one (by exact e_pair (x := (2 : Int)) (y := ("back" : Str)) e_int e_str)) (by show 1 ≤ 1000000; decide)) (by exact e_int) (by decide) (by decide))) rfl)) (a_one (by exact e_int))) endClk_ok)) ((far_ok endClk_ok _).sg endClk_ok.toClkOk)) e_str) ⟨[], ?_, .cells (List.nil_sublist _)⟩
    show R _ = R true
    rw [end_text, decide_eq_true rfl]
end
end Bh
/-! HG: the law's entry, where no repr is under way. -/
namespace Bh
open PySem PySem.Spec PyProof.Rows L2
/-- the law's call, from what nothing but the script may be tracked -/
theorem enterG {P : Program} {w : World} {K : PySem.W.Frag} {mg mb : Str → Option Value} {k : Nat} {fa a : Addr} {fd : FuncData} {x : Str} {sp : Sp} {s : Shared} {vs : List Value} (KX : K.In s.heap) (hns : s.heap.Ns mainGlobals mg) (hb : s.heap.Ns builtinsNs mb)
    (hbb : ∀ x : Str, x ≠ "__name__" → mb x = bootBuiltins x) (nol : s.heap.NoLimit) (gens : s.gens = #[]) (ha : s.heap.get? a = some { cls := .type "list", data := .seq vs.toArray }) (hr : Room k callerA) (F : ∀ base : Heap, K.In base → base.Ns mainGlobals mg → FnG P w K mg base k fa fd [x] sp)
    (bind : ∀ (s : Shared) (u : Value), BindsTo s fd ⟨[u], []⟩ [(x, u)]) (H : Hp) (hO : Only H) (hsp : sp [.ref a] H (fun v _ => v = .bl true) fun _ _ _ => False) (ok : HOk P w H s.heap) (one : ∀ b, H b ≠ none → b = a) (noK : H a ≠ none → K.lookup a = none) :
    codeAny (model P w) callerA (.call (.ref fa) ⟨[.ref a], []⟩) (fun r s' => r = .ok (.ret (.bool true)) ∧ OldK s.heap s'.heap ∧ s'.os = s.os ∧ AllBare s'.gens) s := by
  have seen : ∀ {b : Addr} {o : Obj}, s.heap.get? b = some o → H b = none → (hidT s.heap H).get? b = some o := fun z n => hidT_get z n
  have dictN : ∀ {b : Addr} {o : Obj} {es : Array DictEntry} {ep : Nat}, s.heap.get? b = some o → o.data = .dict es ep → H b = none := by
    intro b o es ep z dz
    by_cases hn : H b = none
    · exact hn
    · have hba := one b hn
      subst hba
      rw [ha] at z
      cases z
      cases (show Data.seq vs.toArray _ = Data.dict es ep from dz)
  have nsOk : ∀ {b : Addr} {m : Str → Option Value}, s.heap.Ns b m → (hidT s.heap H).Ns b m := by
    rintro b m ⟨o, es, ep, z, dz, rz⟩
    exact ⟨o, es, ep, seen z (dictN z dz), dz, rz⟩
  have kin : K.In (hidT s.heap H) := by
    intro b o z
    refine seen (KX b o z) ?_
    by_cases hn : H b = none
    · exact hn
    · have hba := one b hn
      subst hba
      rw [noK hn] at z
      cases z
  have env : Env0 P w K mg (hidT s.heap H) callerA [] s H := by
    obtain ⟨mc, l1, l2⟩ := nol
    exact ⟨rfl, ⟨kin, nsOk hns, ⟨mb, nsOk hb, hbb⟩, ⟨mc, nsOk l1, l2⟩⟩, fun b o z => of_hidT z, Nat.le_of_eq (hidT_size _ _), trivial, fun b z => (by cases (show b ∈ ([] : List Addr) from z)), ok, .of_eq gens⟩
  refine codeAny_mono ((F _ kin (nsOk hns)).go callerA [] s H ⟨[.ref a], []⟩ [.ref a] [.ref a] _ _ hr rfl env (bind s (.ref a)) (.cons rfl .nil) hsp) fun r s' z => ?_
  cases r with
  | error e => exact (show False from z).elim
  | ok fl =>
    cases fl with
    | next => exact z.elim
    | brk => exact z.elim
    | cont => exact z.elim
    | ret u =>
      obtain ⟨v, H2, os, bare, un, ok2, rv, hv⟩ := z
      obtain rfl : v = .bl true := hv
      obtain rfl : u = Value.bool true := rv
      refine ⟨rfl, OldK.of_keep fun b o hbo => ?_, os, bare⟩
      rcases hO b with hn | ⟨ob, xs, hn⟩
      · exact un.keep b o hbo hn (fun y => (by cases (show b ∈ ([] : List Addr) from y))) (by simp)
      · obtain ⟨z1, _⟩ := ok b _ hn
        obtain ⟨z2, _⟩ := ok2 b _ (un.frzs b ob _ hn)
        rw [hbo] at z1
        cases z1
        exact z2
theorem walkG {l : PySem.W.OpenLaw} {n k : Nat} {q : Program} {loose : List Str} {XP : (Str → Option Value) → Heap → Prop} {YP : World → Heap → Prop} {d : DefRec} {x : Str} (hn : l.most = some n) (hn2 : n ≤ sizeLine) (hdf : d.params.defaults = []) (hr : Room k callerA)
    (F : ∀ (w : World) (mg : Str → Option Value) (fa : Addr) (h : Heap), YP w h → h.Ns mainGlobals mg → mg d.name = some (.ref fa) → ∃ (K : PySem.W.Frag) (fd : FuncData) (sp : Sp), K.In h ∧ (∀ (s : Shared) (u : Value), BindsTo s fd ⟨[u], []⟩ [(x, u)]) ∧
      (∀ (H : Hp) (a : Addr) (ns : List Int), Only H → SqL K H a (ns.map V.int) → sp [.ref a] H (fun v _ => v = .bl true) fun _ _ _ => False) ∧ ∀ base : Heap, K.In base → base.Ns mainGlobals mg → FnG l.prog w K mg base k fa fd [x] sp) :
    PySem.W.WalkO q loose XP YP l.row.toRowW d [] (fun f vs => PySem.call f vs) := by
  refine Att.attach_call hn hdf fun w s0 s mg mb fa o pm cd doc a vs ns G Y ho hd hcd hmg hobj hints hlen hg => ?_
  obtain ⟨K, fd, sp, KX, hb, hsp, hF⟩ := F w mg fa _ Y G.T.g hmg
  have rv := vals_ints hints
  have hlv := hints.length
  cases hk : K.lookup a with
  | some o2 =>
    have z := KX a o2 hk
    rw [hobj] at z
    cases z
    have hq : SqL K (fun _ => none) a (ns.map V.int) := .inr ⟨_, vs.toArray, _, hk, rfl, rfl, rfl, by rw [List.size_toArray, hlv]; exact Nat.le_trans hlen hn2, by simpa using rv⟩
    exact enterG KX G.T.g G.T.b G.T.builtins G.T.nolimit hg hobj hr hF hb (fun _ => none) (fun _ => .inl rfl) (hsp _ a ns (fun _ => .inl rfl) hq) (fun b u z => (by cases (show (none : Option HO) = some u from z))) (fun b z => absurd rfl z) fun z => absurd rfl z
  | none =>
    let H : Hp := fun b => if b = a then some (.frz { cls := .type "list", data := .seq vs.toArray } (.lst (ns.map V.int))) else none
    have Ha : H a = some (.frz { cls := .type "list", data := .seq vs.toArray } (.lst (ns.map V.int))) := if_pos rfl
    have Hb : ∀ b, b ≠ a → H b = none := fun b z => if_neg z
    have only : Only H := fun b => by
      by_cases z : b = a
      · subst z; exact .inr ⟨_, _, Ha⟩
      · exact .inl (Hb b z)
    refine enterG KX G.T.g G.T.b G.T.builtins G.T.nolimit hg hobj hr hF hb H only (hsp H a ns only (.inl (.inr ⟨_, Ha⟩))) (fun b u z => ?_) (fun b z => ?_) fun _ => hk
    · by_cases y : b = a
      · subst y
        rw [Ha] at z
        cases z
        exact ⟨hobj, by rw [List.length_map]; exact Nat.le_trans hlen hn2, vs, _, rv, hobj⟩
      · rw [Hb b y] at z
        cases z
    · by_cases y : b = a
      · exact y
      · exact absurd (Hb b y) z
end Bh
/-! HF0: facts from what was looked at. -/
namespace Bh
open PySem PySem.Spec PyProof.Rows L2
structure Fc (w : World) (K : PySem.W.Frag) (h : Heap) (mg : Str → Option Value) : Prop where
  X : K.In h
  G : h.Ns mainGlobals mg
  c : obsB K = valB w
section
variable {w : World} {K : PySem.W.Frag} {h : Heap} {mg : Str → Option Value}
theorem Fc.t (F : Fc w K h mg) : He.SaysT fa fn ts w K := congrArg (fun z : AlB => z.1) F.c
theorem Fc.fact (F : Fc w K h mg) (i : Nat) {q : He.Fa} (e : fa[i]? = some q) : q.ok K = true := F.t.d.fact i e
theorem Fc.ex (F : Fc w K h mg) : exB K = true := congrArg (fun z : AlB => z.2.2) F.c
abbrev BindsF (x qual : Str) (st : Stmt) (ps : List Str) : Prop := ∀ (kV doc pm : Value) (an : Option Addr) (cdv ct : Value) (us : List Value), us.length = ps.length → bindArgs (PySem.W.fnOf x qual (defArgs st) (defBody st) (defScope st) .none kV doc pm an cdv ct) ⟨us, []⟩ = pure (ps.zip us)
theorem at_of {x : Str} {i : Nat} {ps : List Str} (F : Fc w K h mg) (j k : Nat) (hd : fn[j]? = some ⟨(x, none), x, x, defArgs (top i), defBody (top i), defScope (top i), [], []⟩) (hg : fa[k]? = some (.glo x)) (hb : BindsF x x (top i) ps) : At K mg x (top i) ps := by
  obtain ⟨fd, D⟩ := F.t.d.def_ j hd
  exact ⟨⟨_, fd, D, He.glo_ok F.X F.G (F.fact k hg), FunD.bindsN D hb⟩⟩
theorem atM_of {c x qual : Str} {i j0 : Nat} {ps : List Str} (F : Fc w K h mg) (j k kc : Nat) (hd : fn[j]? = some ⟨(c, some x), x, qual, defArgs (clM i j0), defBody (clM i j0), defScope (clM i j0), [], []⟩) (hm : fa[k]? = some (.meth c x)) (hc : fa[kc]? = some (.cls c)) (hb : BindsF x qual (clM i j0) ps) : AtM K (He.ga K c) x qual (clM i j0) ps := by
  obtain ⟨fd, D⟩ := F.t.d.def_ j hd
  exact ⟨He.cls_ok (F.fact kc hc), _, fd, D, He.meth_ok (F.fact k hm), FunD.bindsN D hb⟩
theorem atC_of {c qual : Str} {i j0 : Nat} {ps : List Str} (F : Fc w K h mg) (j k kc kg : Nat) (hd : fn[j]? = some ⟨(c, some "__init__"), "__init__", qual, defArgs (clM i j0), defBody (clM i j0), defScope (clM i j0), [], []⟩) (hm : fa[k]? = some (.mkr c)) (hc : fa[kc]? = some (.cls c)) (hg : fa[kg]? = some (.glo c)) (hb : BindsF "__init__" qual (clM i j0) ps) : AtC K mg c (He.ga K c) qual (clM i j0) ps := by
  obtain ⟨fd, D⟩ := F.t.d.def_ j hd
  exact ⟨He.cls_ok (F.fact kc hc), _, fd, D, He.glo_ok F.X F.G (F.fact kg hg), He.mkr_ok (F.fact k hm), FunD.bindsN D hb⟩
theorem na_of {c f : Str} (F : Fc w K h mg) (k : Nat) (e : fa[k]? = some (.noat c f)) : NoAttr K (He.ga K c) f := He.noat_ok (F.fact k e)
theorem free_of {x : Str} (F : Fc w K h mg) (k : Nat) (e : fa[k]? = some (.free x)) : mg x = none := He.free_ok F.X F.G (F.fact k e)
theorem glo_of {x : Str} (F : Fc w K h mg) (k : Nat) (e : fa[k]? = some (.glo x)) : mg x = some (.ref (He.ga K x)) := He.glo_ok F.X F.G (F.fact k e)
/-! ### properties -/
theorem and2 {a b : Bool} (h : (a && b) = true) : a = true ∧ b = true := Bool.and_eq_true_iff.mp h
theorem prop_of {c x qual : Str} {i j0 : Nat} {ps : List Str} (F : Fc w K h mg) (j : Nat) (hd : pr[j]? = some ⟨(c, some x), x, qual, defArgs (clM i j0), defBody (clM i j0), defScope (clM i j0), [], []⟩) (hb : BindsF x qual (clM i j0) ps) : ∃ p f fd, FD K x qual (clM i j0) f fd ∧ PropOf K (He.ga K c) x p f ∧ Binds K fd ps [] := by
  obtain ⟨d, hdd⟩ : ∃ d : He.DefD, d = ⟨(c, some x), x, qual, defArgs (clM i j0), defBody (clM i j0), defScope (clM i j0), [], []⟩ := ⟨_, rfl⟩
  rw [← hdd] at hd
  have hall := (and2 (and2 (and2 F.ex).2).2).2
  have hp : prB K d = true := List.all_eq_true.mp hall d (List.mem_of_getElem? hd)
  have hv : fnA K (pAd K d.at_) = d.val := by
    have e : pr.map (fun d => fnA K (pAd K d.at_)) = pr.map He.DefD.val := congrArg (fun z : AlB => z.2.1) F.c
    have e2 : (pr.map fun d => fnA K (pAd K d.at_))[j]? = (pr.map He.DefD.val)[j]? := by rw [e]
    rw [List.getElem?_map, List.getElem?_map, hd] at e2
    exact Option.some.inj e2
  subst hdd
  unfold prB at hp
  unfold pAd at hv
  dsimp only at hp hv
  cases e1 : PySem.W.findIn K (.ref (He.ga K c)) x with
  | none => rw [e1] at hp; cases hp
  | some o =>
    rw [e1] at hp hv
    cases o with
    | none => cases hp
    | some v =>
      cases v with
      | ref q =>
        obtain ⟨h1, h2⟩ := and2 hp
        obtain ⟨h3, h4⟩ := and2 h2
        dsimp only at h4 hv
        cases e2 : PySem.W.recIn K q "property" with
        | none => rw [e2] at h4; cases h4
        | some l =>
          rw [e2] at h4 hv
          cases l with
          | nil => cases h4
          | cons y rest =>
            cases y with
            | ref g =>
              dsimp only at h4 hv
              obtain ⟨h5, h6⟩ := and2 h4
              unfold fnA at hv
              cases e3 : K.lookup g with
              | none => rw [e3] at h6; cases h6
              | some ob =>
                obtain ⟨oc, od, dt, osl⟩ := ob
                rw [e3] at h6 hv
                cases dt with
                | func fd =>
                  obtain ⟨a1, a2, a3, a4, a5, a6, a7, a8, a9, a10, a11, a12, a13, a14, a15⟩ := fd
                  dsimp only at h6 hv
                  obtain ⟨h7, h8⟩ := and2 h6
                  obtain ⟨h9, h10⟩ := and2 h8
                  unfold He.DefD.val at hv
                  simp only [Option.some.injEq, Prod.mk.injEq] at hv
                  obtain ⟨k1, k2, k3, k4, k5, k6, k7, k8⟩ := hv
                  subst k1 k2 k3 k4 k5 k6 k7 k8
                  have D : FD K a1 a2 (clM i j0) g _ := ⟨⟨oc, od, a8, a9, a10, a11, a12, a13, a14, osl, rfl, e3, h7, He.dflB_ok h9, He.kwdB_ok h10⟩, h5⟩
                  exact ⟨q, g, _, D, ⟨e1, He.eqO_ok h1, of_decide_eq_true h3, rest, e2⟩, FunD.bindsN D hb⟩
                | _ => cases h6
            | _ => cases h4
      | _ => cases hp
end
end Bh
/-! HF: the defs' places; the law's promise. -/
namespace Bh
open PySem PySem.Spec PyProof.Rows L2
section
variable {w : World} {K : PySem.W.Frag} {h : Heap} {mg : Str → Option Value}

theorem at_is_integer (F : Fc w K h mg) : At K mg "is_integer" (top 18) ["value"] := at_of F 0 23 rfl rfl (fun _ _ _ _ _ _ us hl => match us, hl with | [_], _ => rfl)
theorem at_is_at_least (F : Fc w K h mg) : At K mg "is_at_least" (top 19) ["value", "least"] := at_of F 1 24 rfl rfl (fun _ _ _ _ _ _ us hl => match us, hl with | [_, _], _ => rfl)
theorem at_is_rail (F : Fc w K h mg) : At K mg "is_rail" (top 20) ["value"] := at_of F 2 25 rfl rfl (fun _ _ _ _ _ _ us hl => match us, hl with | [_], _ => rfl)
theorem at_clock_fault (F : Fc w K h mg) : At K mg "clock_fault" (top 21) ["value"] := at_of F 3 26 rfl rfl (fun _ _ _ _ _ _ us hl => match us, hl with | [_], _ => rfl)
theorem at_is_ball (F : Fc w K h mg) : At K mg "is_ball" (top 22) ["clock", "value"] := at_of F 4 27 rfl rfl (fun _ _ _ _ _ _ us hl => match us, hl with | [_, _], _ => rfl)
theorem at_sight_fault (F : Fc w K h mg) : At K mg "sight_fault" (top 23) ["clock", "value"] := at_of F 5 28 rfl rfl (fun _ _ _ _ _ _ us hl => match us, hl with | [_, _], _ => rfl)
theorem at_order_fault (F : Fc w K h mg) : At K mg "order_fault" (top 24) ["clock", "value"] := at_of F 6 29 rfl rfl (fun _ _ _ _ _ _ us hl => match us, hl with | [_, _], _ => rfl)
theorem at_require_clock (F : Fc w K h mg) : At K mg "require_clock" (top 25) ["clock"] := at_of F 7 30 rfl rfl (fun _ _ _ _ _ _ us hl => match us, hl with | [_], _ => rfl)
theorem at_require_sight (F : Fc w K h mg) : At K mg "require_sight" (top 26) ["clock", "sight"] := at_of F 8 31 rfl rfl (fun _ _ _ _ _ _ us hl => match us, hl with | [_, _], _ => rfl)
theorem at_require_order (F : Fc w K h mg) : At K mg "require_order" (top 27) ["clock", "order"] := at_of F 9 32 rfl rfl (fun _ _ _ _ _ _ us hl => match us, hl with | [_, _], _ => rfl)
theorem at_require_ball (F : Fc w K h mg) : At K mg "require_ball" (top 28) ["clock", "ball"] := at_of F 10 33 rfl rfl (fun _ _ _ _ _ _ us hl => match us, hl with | [_, _], _ => rfl)
theorem at_require_tick (F : Fc w K h mg) : At K mg "require_tick" (top 29) ["tick"] := at_of F 11 34 rfl rfl (fun _ _ _ _ _ _ us hl => match us, hl with | [_], _ => rfl)
theorem at_require_at_least (F : Fc w K h mg) : At K mg "require_at_least" (top 30) ["value", "least"] := at_of F 12 35 rfl rfl (fun _ _ _ _ _ _ us hl => match us, hl with | [_, _], _ => rfl)
theorem at_turn_of (F : Fc w K h mg) : At K mg "turn_of" (top 31) ["clock"] := at_of F 13 36 rfl rfl (fun _ _ _ _ _ _ us hl => match us, hl with | [_], _ => rfl)
theorem at_digits_of (F : Fc w K h mg) : At K mg "digits_of" (top 32) ["clock", "rest"] := at_of F 14 37 rfl rfl (fun _ _ _ _ _ _ us hl => match us, hl with | [_, _], _ => rfl)
theorem at_natural_of (F : Fc w K h mg) : At K mg "natural_of" (top 37) ["word"] := at_of F 15 38 rfl rfl (fun _ _ _ _ _ _ us hl => match us, hl with | [_], _ => rfl)
theorem at_words_of (F : Fc w K h mg) : At K mg "words_of" (top 39) ["text"] := at_of F 16 39 rfl rfl (fun _ _ _ _ _ _ us hl => match us, hl with | [_], _ => rfl)
theorem at_joined_balls (F : Fc w K h mg) : At K mg "joined_balls" (top 40) ["row"] := at_of F 17 40 rfl rfl (fun _ _ _ _ _ _ us hl => match us, hl with | [_], _ => rfl)
theorem at_format_clock (F : Fc w K h mg) : At K mg "format_clock" (top 41) ["clock"] := at_of F 18 41 rfl rfl (fun _ _ _ _ _ _ us hl => match us, hl with | [_], _ => rfl)
theorem at_format_sight (F : Fc w K h mg) : At K mg "format_sight" (top 42) ["sight"] := at_of F 19 42 rfl rfl (fun _ _ _ _ _ _ us hl => match us, hl with | [_], _ => rfl)
theorem at_format_order (F : Fc w K h mg) : At K mg "format_order" (top 43) ["order"] := at_of F 20 43 rfl rfl (fun _ _ _ _ _ _ us hl => match us, hl with | [_], _ => rfl)
theorem at_rail_of (F : Fc w K h mg) : At K mg "rail_of" (top 44) ["word"] := at_of F 21 44 rfl rfl (fun _ _ _ _ _ _ us hl => match us, hl with | [_], _ => rfl)
theorem at_parse_clock (F : Fc w K h mg) : At K mg "parse_clock" (top 45) ["text"] := at_of F 22 45 rfl rfl (fun _ _ _ _ _ _ us hl => match us, hl with | [_], _ => rfl)
theorem at_ball_written (F : Fc w K h mg) : At K mg "ball_written" (top 46) ["clock", "word", "seen"] := at_of F 23 46 rfl rfl (fun _ _ _ _ _ _ us hl => match us, hl with | [_, _, _], _ => rfl)
theorem at_parse_sight (F : Fc w K h mg) : At K mg "parse_sight" (top 47) ["clock", "text"] := at_of F 24 47 rfl rfl (fun _ _ _ _ _ _ us hl => match us, hl with | [_, _], _ => rfl)
theorem at_parse_order (F : Fc w K h mg) : At K mg "parse_order" (top 48) ["clock", "text"] := at_of F 25 48 rfl rfl (fun _ _ _ _ _ _ us hl => match us, hl with | [_, _], _ => rfl)
theorem at_spots_at (F : Fc w K h mg) : At K mg "spots_at" (top 51) ["clock", "counts"] := at_of F 26 49 rfl rfl (fun _ _ _ _ _ _ us hl => match us, hl with | [_, _], _ => rfl)
theorem at_turn_row (F : Fc w K h mg) : At K mg "turn_row" (top 52) ["clock"] := at_of F 27 50 rfl rfl (fun _ _ _ _ _ _ us hl => match us, hl with | [_], _ => rfl)
theorem at_row_cycles (F : Fc w K h mg) : At K mg "row_cycles" (top 53) ["row"] := at_of F 28 51 rfl rfl (fun _ _ _ _ _ _ us hl => match us, hl with | [_], _ => rfl)
theorem at_power_row (F : Fc w K h mg) : At K mg "power_row" (top 54) ["row", "times"] := at_of F 29 52 rfl rfl (fun _ _ _ _ _ _ us hl => match us, hl with | [_, _], _ => rfl)
theorem at_inverse_row (F : Fc w K h mg) : At K mg "inverse_row" (top 55) ["row"] := at_of F 30 53 rfl rfl (fun _ _ _ _ _ _ us hl => match us, hl with | [_], _ => rfl)
theorem at_sight_of (F : Fc w K h mg) : At K mg "sight_of" (top 57) ["clock", "queue", "rest"] := at_of F 31 54 rfl rfl (fun _ _ _ _ _ _ us hl => match us, hl with | [_, _, _], _ => rfl)
theorem at_sight_behind (F : Fc w K h mg) : At K mg "sight_behind" (top 58) ["clock", "queue", "ticks"] := at_of F 32 55 rfl rfl (fun _ _ _ _ _ _ us hl => match us, hl with | [_, _, _], _ => rfl)
theorem at_ticks_past (F : Fc w K h mg) : At K mg "ticks_past" (top 59) ["clock", "sight"] := at_of F 33 56 rfl rfl (fun _ _ _ _ _ _ us hl => match us, hl with | [_, _], _ => rfl)
theorem at_queue_of (F : Fc w K h mg) : At K mg "queue_of" (top 60) ["clock", "sight"] := at_of F 34 57 rfl rfl (fun _ _ _ _ _ _ us hl => match us, hl with | [_, _], _ => rfl)
theorem at_far_sight (F : Fc w K h mg) : At K mg "far_sight" (top 61) ["clock", "tick"] := at_of F 35 58 rfl rfl (fun _ _ _ _ _ _ us hl => match us, hl with | [_, _], _ => rfl)
theorem at_moved_sight (F : Fc w K h mg) : At K mg "moved_sight" (top 62) ["clock", "sight", "ticks"] := at_of F 36 59 rfl rfl (fun _ _ _ _ _ _ us hl => match us, hl with | [_, _, _], _ => rfl)
theorem at_queue_behind (F : Fc w K h mg) : At K mg "queue_behind" (top 63) ["clock", "turns"] := at_of F 37 60 rfl rfl (fun _ _ _ _ _ _ us hl => match us, hl with | [_, _], _ => rfl)
theorem at_sight_at (F : Fc w K h mg) : At K mg "sight_at" (top 64) ["clock", "tick"] := at_of F 38 61 rfl rfl (fun _ _ _ _ _ _ us hl => match us, hl with | [_, _], _ => rfl)
theorem at_later_sight (F : Fc w K h mg) : At K mg "later_sight" (top 65) ["clock", "sight", "ticks"] := at_of F 39 62 rfl rfl (fun _ _ _ _ _ _ us hl => match us, hl with | [_, _, _], _ => rfl)
theorem at_common_divisor (F : Fc w K h mg) : At K mg "common_divisor" (top 68) ["one", "other"] := at_of F 40 63 rfl rfl (fun _ _ _ _ _ _ us hl => match us, hl with | [_, _], _ => rfl)
theorem at_common_multiple (F : Fc w K h mg) : At K mg "common_multiple" (top 69) ["one", "other"] := at_of F 41 64 rfl rfl (fun _ _ _ _ _ _ us hl => match us, hl with | [_, _], _ => rfl)
theorem at_inverse_of (F : Fc w K h mg) : At K mg "inverse_of" (top 70) ["number", "step"] := at_of F 42 65 rfl rfl (fun _ _ _ _ _ _ us hl => match us, hl with | [_, _], _ => rfl)
theorem at_joined_two (F : Fc w K h mg) : At K mg "joined_two" (top 71) ["one", "other"] := at_of F 43 66 rfl rfl (fun _ _ _ _ _ _ us hl => match us, hl with | [_, _], _ => rfl)
theorem at_joined_rests (F : Fc w K h mg) : At K mg "joined_rests" (top 72) ["rows"] := at_of F 44 67 rfl rfl (fun _ _ _ _ _ _ us hl => match us, hl with | [_], _ => rfl)
theorem at_queue_period (F : Fc w K h mg) : At K mg "queue_period" (top 75) ["clock"] := at_of F 45 68 rfl rfl (fun _ _ _ _ _ _ us hl => match us, hl with | [_], _ => rfl)
theorem at_tick_of (F : Fc w K h mg) : At K mg "tick_of" (top 77) ["clock", "sight"] := at_of F 46 69 rfl rfl (fun _ _ _ _ _ _ us hl => match us, hl with | [_, _], _ => rfl)
theorem at_is_clock (F : Fc w K h mg) : At K mg "is_clock" (top 79) ["value"] := at_of F 47 70 rfl rfl (fun _ _ _ _ _ _ us hl => match us, hl with | [_], _ => rfl)
theorem at_first_sight (F : Fc w K h mg) : At K mg "first_sight" (top 80) ["clock"] := at_of F 48 71 rfl rfl (fun _ _ _ _ _ _ us hl => match us, hl with | [_], _ => rfl)
theorem at_turn_ticks (F : Fc w K h mg) : At K mg "turn_ticks" (top 81) ["clock"] := at_of F 49 72 rfl rfl (fun _ _ _ _ _ _ us hl => match us, hl with | [_], _ => rfl)
theorem at_sent_back (F : Fc w K h mg) : At K mg "sent_back" (top 86) ["row", "way"] := at_of F 50 73 rfl rfl (fun _ _ _ _ _ _ us hl => match us, hl with | [_, _], _ => rfl)
theorem at_sight_after (F : Fc w K h mg) : At K mg "sight_after" (top 87) ["clock", "sight"] := at_of F 51 74 rfl rfl (fun _ _ _ _ _ _ us hl => match us, hl with | [_, _], _ => rfl)
theorem at_sight_row (F : Fc w K h mg) : At K mg "sight_row" (top 88) ["clock", "sight", "many"] := at_of F 52 75 rfl rfl (fun _ _ _ _ _ _ us hl => match us, hl with | [_, _, _], _ => rfl)
theorem at_clock_values (F : Fc w K h mg) : At K mg "clock_values" (top 102) ["text"] := at_of F 53 76 rfl rfl (fun _ _ _ _ _ _ us hl => match us, hl with | [_], _ => rfl)
theorem at_command_values (F : Fc w K h mg) : At K mg "command_values" (top 103) ["name", "words"] := at_of F 54 77 rfl rfl (fun _ _ _ _ _ _ us hl => match us, hl with | [_, _], _ => rfl)
theorem at_value_text (F : Fc w K h mg) : At K mg "value_text" (top 104) ["value"] := at_of F 55 78 rfl rfl (fun _ _ _ _ _ _ us hl => match us, hl with | [_], _ => rfl)
theorem at_require_balls (F : Fc w K h mg) : At K mg "require_balls" (top 108) ["balls"] := at_of F 56 79 rfl rfl (fun _ _ _ _ _ _ us hl => match us, hl with | [_], _ => rfl)
theorem at_lists_within (F : Fc w K h mg) : At K mg "lists_within" (top 109) ["room", "ticks"] := at_of F 57 80 rfl rfl (fun _ _ _ _ _ _ us hl => match us, hl with | [_, _], _ => rfl)
theorem at_bound_lists (F : Fc w K h mg) : At K mg "bound_lists" (top 110) ["balls", "ticks"] := at_of F 58 81 rfl rfl (fun _ _ _ _ _ _ us hl => match us, hl with | [_, _], _ => rfl)
theorem at_longest_clock (F : Fc w K h mg) : At K mg "longest_clock" (top 111) ["balls", "ticks", "way"] := at_of F 59 82 rfl rfl (fun _ _ _ _ _ _ us hl => match us, hl with | [_, _, _], _ => rfl)
theorem at_is_wish (F : Fc w K h mg) : At K mg "is_wish" (top 114) ["clock", "value"] := at_of F 60 83 rfl rfl (fun _ _ _ _ _ _ us hl => match us, hl with | [_, _], _ => rfl)
theorem at_require_wished (F : Fc w K h mg) : At K mg "require_wished" (top 115) ["clock", "tick", "wishes"] := at_of F 61 84 rfl rfl (fun _ _ _ _ _ _ us hl => match us, hl with | [_, _, _], _ => rfl)
theorem at_place_rails (F : Fc w K h mg) : At K mg "place_rails" (top 116) ["clock", "tick"] := at_of F 62 85 rfl rfl (fun _ _ _ _ _ _ us hl => match us, hl with | [_, _], _ => rfl)
theorem at_found_order (F : Fc w K h mg) : At K mg "found_order" (top 118) ["filling", "index"] := at_of F 63 86 rfl rfl (fun _ _ _ _ _ _ us hl => match us, hl with | [_, _], _ => rfl)
theorem at_found_rank (F : Fc w K h mg) : At K mg "found_rank" (top 119) ["filling", "order"] := at_of F 64 87 rfl rfl (fun _ _ _ _ _ _ us hl => match us, hl with | [_, _], _ => rfl)
theorem at_is_granting (F : Fc w K h mg) : At K mg "is_granting" (top 120) ["clock", "tick", "wishes", "order"] := at_of F 65 88 rfl rfl (fun _ _ _ _ _ _ us hl => match us, hl with | [_, _, _, _], _ => rfl)
theorem at_order_count (F : Fc w K h mg) : At K mg "order_count" (top 121) ["clock", "tick", "wishes"] := at_of F 66 89 rfl rfl (fun _ _ _ _ _ _ us hl => match us, hl with | [_, _, _], _ => rfl)
theorem at_least_order (F : Fc w K h mg) : At K mg "least_order" (top 122) ["clock", "tick", "wishes"] := at_of F 67 90 rfl rfl (fun _ _ _ _ _ _ us hl => match us, hl with | [_, _, _], _ => rfl)
theorem at_nth_order (F : Fc w K h mg) : At K mg "nth_order" (top 123) ["clock", "tick", "wishes", "index"] := at_of F 68 91 rfl rfl (fun _ _ _ _ _ _ us hl => match us, hl with | [_, _, _, _], _ => rfl)
theorem at_order_rank (F : Fc w K h mg) : At K mg "order_rank" (top 124) ["clock", "tick", "wishes", "order"] := at_of F 69 92 rfl rfl (fun _ _ _ _ _ _ us hl => match us, hl with | [_, _, _, _], _ => rfl)
theorem at_ordered_sight (F : Fc w K h mg) : At K mg "ordered_sight" (top 125) ["clock", "order", "tick"] := at_of F 70 93 rfl rfl (fun _ _ _ _ _ _ us hl => match us, hl with | [_, _, _], _ => rfl)
theorem at__law_jar (F : Fc w K h mg) : At K mg "_law_jar" (top 127) ["_law_script", "_law_at"] := at_of F 71 94 rfl rfl (fun _ _ _ _ _ _ us hl => match us, hl with | [_, _], _ => rfl)
theorem at__law_pick (F : Fc w K h mg) : At K mg "_law_pick" (top 128) ["_law_jar_here", "_law_bound"] := at_of F 72 95 rfl rfl (fun _ _ _ _ _ _ us hl => match us, hl with | [_, _], _ => rfl)
theorem at__law_device (F : Fc w K h mg) : At K mg "_law_device" (top 129) ["_law_jar_here", "_law_most"] := at_of F 73 96 rfl rfl (fun _ _ _ _ _ _ us hl => match us, hl with | [_, _], _ => rfl)
theorem at__law_mixed (F : Fc w K h mg) : At K mg "_law_mixed" (top 130) ["_law_jar_here", "_law_count"] := at_of F 74 97 rfl rfl (fun _ _ _ _ _ _ us hl => match us, hl with | [_, _], _ => rfl)
theorem at__law_scene (F : Fc w K h mg) : At K mg "_law_scene" (top 131) ["_law_jar_here", "_law_device_here"] := at_of F 75 98 rfl rfl (fun _ _ _ _ _ _ us hl => match us, hl with | [_, _], _ => rfl)
theorem at__law_moment (F : Fc w K h mg) : At K mg "_law_moment" (top 132) ["_law_jar_here", "_law_unit"] := at_of F 76 99 rfl rfl (fun _ _ _ _ _ _ us hl => match us, hl with | [_, _], _ => rfl)
theorem at__law_sights_right (F : Fc w K h mg) : At K mg "_law_sights_right" (top 133) ["_law_device_here", "_law_scenes"] := at_of F 77 100 rfl rfl (fun _ _ _ _ _ _ us hl => match us, hl with | [_, _], _ => rfl)
theorem at__law_rows_right (F : Fc w K h mg) : At K mg "_law_rows_right" (top 134) ["_law_device_here", "_law_moment_here", "_law_wished"] := at_of F 78 101 rfl rfl (fun _ _ _ _ _ _ us hl => match us, hl with | [_, _, _], _ => rfl)
theorem at__law_devices_right (F : Fc w K h mg) : At K mg "_law_devices_right" (top 135) ["_law_jar_here"] := at_of F 79 102 rfl rfl (fun _ _ _ _ _ _ us hl => match us, hl with | [_], _ => rfl)
theorem at__law_live_right (F : Fc w K h mg) : At K mg "_law_live_right" (top 136) ["_law_jar_here", "_law_device_here"] := at_of F 80 103 rfl rfl (fun _ _ _ _ _ _ us hl => match us, hl with | [_, _], _ => rfl)
theorem at_law (F : Fc w K h mg) : At K mg "law" (top 137) ["_law_script"] := at_of F 81 104 rfl rfl (fun _ _ _ _ _ _ us hl => match us, hl with | [_], _ => rfl)
theorem cl_Runs (F : Fc w K h mg) : RunsAt K mg (He.ga K "Runs") := ⟨atC_of F 82 115 114 109 rfl rfl rfl rfl (fun _ _ _ _ _ _ us hl => match us, hl with | [_, _], _ => rfl), atM_of F 83 137 114 rfl rfl rfl (fun _ _ _ _ _ _ us hl => match us, hl with | [_, _, _], _ => rfl), atM_of F 84 138 114 rfl rfl rfl (fun _ _ _ _ _ _ us hl => match us, hl with | [_, _, _], _ => rfl), na_of F 116 rfl, na_of F 117 rfl⟩
theorem cl_Circles (F : Fc w K h mg) : CircAt K mg (He.ga K "Circles") := ⟨atC_of F 85 119 118 110 rfl rfl rfl rfl (fun _ _ _ _ _ _ us hl => match us, hl with | [_, _], _ => rfl), atM_of F 86 139 118 rfl rfl rfl (fun _ _ _ _ _ _ us hl => match us, hl with | [_, _, _], _ => rfl), atM_of F 87 140 118 rfl rfl rfl (fun _ _ _ _ _ _ us hl => match us, hl with | [_, _], _ => rfl), na_of F 120 rfl, na_of F 121 rfl⟩
theorem cl_BallClock (F : Fc w K h mg) : LiveAt K mg (He.ga K "BallClock") := ⟨atC_of F 88 123 122 111 rfl rfl rfl rfl (fun _ _ _ _ _ _ us hl => match us, hl with | [_, _], _ => rfl), atM_of F 89 141 122 rfl rfl rfl (fun _ _ _ _ _ _ us hl => match us, hl with | [_], _ => rfl), atM_of F 90 142 122 rfl rfl rfl (fun _ _ _ _ _ _ us hl => match us, hl with | [_, _, _, _], _ => rfl), atM_of F 91 143 122 rfl rfl rfl (fun _ _ _ _ _ _ us hl => match us, hl with | [_, _], _ => rfl), atM_of F 92 144 122 rfl rfl rfl (fun _ _ _ _ _ _ us hl => match us, hl with | [_, _, _], _ => rfl), prop_of F 0 rfl (fun _ _ _ _ _ _ us hl => match us, hl with | [_], _ => rfl), prop_of F 1 rfl (fun _ _ _ _ _ _ us hl => match us, hl with | [_], _ => rfl), na_of F 124 rfl, na_of F 125 rfl⟩
theorem cl_Console (F : Fc w K h mg) : ConAt K mg (He.ga K "Console") := ⟨atC_of F 93 127 126 112 rfl rfl rfl rfl (fun _ _ _ _ _ _ us hl => match us, hl with | [_], _ => rfl), atM_of F 94 145 126 rfl rfl rfl (fun _ _ _ _ _ _ us hl => match us, hl with | [_, _], _ => rfl), atM_of F 95 146 126 rfl rfl rfl (fun _ _ _ _ _ _ us hl => match us, hl with | [_, _, _], _ => rfl), atM_of F 96 147 126 rfl rfl rfl (fun _ _ _ _ _ _ us hl => match us, hl with | [_, _, _], _ => rfl), atM_of F 97 148 126 rfl rfl rfl (fun _ _ _ _ _ _ us hl => match us, hl with | [_, _], _ => rfl), na_of F 128 rfl, na_of F 129 rfl⟩
theorem cl_Filling (F : Fc w K h mg) : FillAt K mg (He.ga K "Filling") := ⟨atC_of F 98 131 130 113 rfl rfl rfl rfl (fun _ _ _ _ _ _ us hl => match us, hl with | [_, _, _, _], _ => rfl), atM_of F 99 149 130 rfl rfl rfl (fun _ _ _ _ _ _ us hl => match us, hl with | [_], _ => rfl), atM_of F 100 150 130 rfl rfl rfl (fun _ _ _ _ _ _ us hl => match us, hl with | [_, _], _ => rfl), atM_of F 101 151 130 rfl rfl rfl (fun _ _ _ _ _ _ us hl => match us, hl with | [_, _, _, _], _ => rfl), atM_of F 102 152 130 rfl rfl rfl (fun _ _ _ _ _ _ us hl => match us, hl with | [_, _, _], _ => rfl), na_of F 132 rfl, na_of F 133 rfl, na_of F 134 rfl, na_of F 135 rfl, na_of F 136 rfl⟩
theorem tx_of (F : Fc w K h mg) : Tx K mg where
  isinstance := free_of F 0 rfl
  int := free_of F 1 rfl
  bool := free_of F 2 rfl
  tuple := free_of F 3 rfl
  list := free_of F 4 rfl
  str := free_of F 5 rfl
  dict := free_of F 6 rfl
  len := free_of F 7 rfl
  all := free_of F 8 rfl
  sum := free_of F 9 rfl
  enumerate := free_of F 10 rfl
  range := free_of F 11 rfl
  zip := free_of F 12 rfl
  divmod := free_of F 13 rfl
  min := free_of F 14 rfl
  max := free_of F 15 rfl
  abs := free_of F 16 rfl
  repr := free_of F 17 rfl
  ways := ⟨_, glo_of F 105 rfl, fun H => He.tupB_ok (and2 F.ex).1 H⟩
  balls := He.int_ok F.X F.G (F.fact 18 rfl)
  wishes := He.int_ok F.X F.G (F.fact 19 rfl)
  sights := He.int_ok F.X F.G (F.fact 20 rfl)
  digits := He.int_ok F.X F.G (F.fact 21 rfl)
  signs := He.str_ok F.X F.G (F.fact 22 rfl)
theorem kd_of {a : Addr} {es : Array DictEntry} {n : Nat} {kvs : List (Str × He.Dv)} {z : Str} {v : He.Dv} (D : KDict K w a es n) (hv : He.valsB K a kvs = true) (hm : (z, v) ∈ kvs) : KDct K w a z (v.v K) := by
  obtain ⟨u, e1, e2⟩ := He.valsB_ok hv hm
  exact ⟨es, n, u, D.at_, D.lit, e1, e2⟩
theorem tl_of (F : Fc w K h mg) : Tl K w mg := by
  obtain ⟨es, n, D⟩ := F.t.tab 0 rfl
  have hv := (and2 (and2 F.ex).2).1
  exact ⟨⟨_, glo_of F 106 rfl, D.low, kd_of D hv (v := .str "back") (by simp), kd_of D hv (v := .str "through") (by simp)⟩⟩
theorem tc_of (F : Fc w K h mg) : Tc K w mg := by
  obtain ⟨es, n, D⟩ := F.t.tab 1 rfl
  have hv := (and2 (and2 (and2 F.ex).2).2).1
  exact ⟨⟨_, glo_of F 107 rfl, D.low, kd_of D hv (v := .int 1) (by simp), kd_of D hv (v := .int 2) (by simp), kd_of D hv (v := .int 0) (by simp), kd_of D hv (v := .int 0) (by simp)⟩, ⟨_, glo_of F 108 rfl⟩⟩
end
theorem law_of {P : Program} {w : World} {K : PySem.W.Frag} {h : Heap} {mg : Str → Option Value} {base : Heap} (F : Fc w K h mg) {f : Addr} {fd : FuncData} (D : FD K "law" "law" (top 137) f fd) : FnG P w K mg base 34 f fd ["_law_script"] (spOf (spLaw K)) := by
  have hTx := tx_of F
  have h_is_integer := ok_is_integer (P := P) (w := w) (base := base) hTx (at_is_integer F)
  have h_is_at_least := ok_is_at_least (P := P) (w := w) (base := base) (at_is_at_least F) h_is_integer
  have h_is_rail := ok_is_rail (P := P) (w := w) (base := base) hTx (at_is_rail F) h_is_at_least
  have h_clock_fault := ok_clock_fault (P := P) (w := w) (base := base) hTx (at_clock_fault F) h_is_at_least h_is_rail
  have h_is_ball := ok_is_ball (P := P) (w := w) (base := base) (at_is_ball F) h_is_at_least
  have h_order_fault := ok_order_fault (P := P) (w := w) (base := base) hTx (at_order_fault F) h_is_ball
  have h_sight_fault := ok_sight_fault (P := P) (w := w) (base := base) hTx (at_sight_fault F) h_is_ball
  have h_require_clock := ok_require_clock (P := P) (w := w) (base := base) (at_require_clock F) h_clock_fault
  have h_require_sight := ok_require_sight (P := P) (w := w) (base := base) (at_require_sight F) h_sight_fault
  have h_require_order := ok_require_order (P := P) (w := w) (base := base) (at_require_order F) h_order_fault
  have h_require_ball := ok_require_ball (P := P) (w := w) (base := base) (at_require_ball F) h_is_ball
  have h_require_tick := ok_require_tick (P := P) (w := w) (base := base) (at_require_tick F) h_is_integer
  have h_require_at_least := ok_require_at_least (P := P) (w := w) (base := base) (at_require_at_least F) h_is_at_least
  have h_turn_of := ok_turn_of (P := P) (w := w) (base := base) (at_turn_of F)
  have h_digits_of := ok_digits_of (P := P) (w := w) (base := base) hTx (at_digits_of F)
  have h_natural_of := ok_natural_of (P := P) (w := w) (base := base) hTx (at_natural_of F)
  have h_words_of := ok_words_of (P := P) (w := w) (base := base) hTx (at_words_of F)
  have h_joined_balls := ok_joined_balls (P := P) (w := w) (base := base) hTx (at_joined_balls F)
  have h_format_order := ok_format_order (P := P) (w := w) (base := base) (at_format_order F) h_joined_balls
  have h_format_clock := ok_format_clock (P := P) (w := w) (base := base) hTx (at_format_clock F)
  have h_format_sight := ok_format_sight (P := P) (w := w) (base := base) hTx (at_format_sight F)
  have h_rail_of := ok_rail_of (P := P) (w := w) (base := base) (tl_of F) (at_rail_of F) h_natural_of
  have h_parse_clock := ok_parse_clock (P := P) (w := w) (base := base) hTx (at_parse_clock F) h_natural_of h_words_of h_rail_of
  have h_ball_written := ok_ball_written (P := P) (w := w) (base := base) (at_ball_written F) h_natural_of
  have h_parse_order := ok_parse_order (P := P) (w := w) (base := base) hTx (at_parse_order F) h_require_clock h_words_of h_ball_written
  have h_parse_sight := ok_parse_sight (P := P) (w := w) (base := base) hTx (at_parse_sight F) h_require_clock h_words_of h_ball_written
  have hRow : ∀ j : Nat, HasM P w K mg base (He.ga K "Runs") "row" (2 * j + 2) (spRow (He.ga K "Runs") j) := fun j => by
    induction j with
    | zero => exact ok_row (cl_Runs F) (ok_found0 hTx (cl_Runs F))
    | succ j ih => exact ok_row (cl_Runs F) (ok_found hTx (cl_Runs F) ih)
  have hRow11 : HasM P w K mg base (He.ga K "Runs") "row" 24 (spRow (He.ga K "Runs") 11) := hRow 11
  have h_runs_init := ok_runs_init (P := P) (w := w) (base := base) (cl_Runs F)
  have h_spots_at := ok_spots_at (P := P) (w := w) (base := base) hTx (cl_Runs F) (at_spots_at F) h_runs_init hRow11
  have h_turn_row := ok_turn_row (P := P) (w := w) (base := base) hTx (cl_Runs F) (at_turn_row F) h_runs_init hRow11
  have h_row_cycles := ok_row_cycles (P := P) (w := w) (base := base) hTx (at_row_cycles F)
  have h_power_row := ok_power_row (P := P) (w := w) (base := base) hTx (at_power_row F) h_row_cycles
  have h_inverse_row := ok_inverse_row (P := P) (w := w) (base := base) hTx (at_inverse_row F)
  have h_sight_of := ok_sight_of (P := P) (w := w) (base := base) (at_sight_of F) h_digits_of h_spots_at
  have h_sight_behind := ok_sight_behind (P := P) (w := w) (base := base) hTx (at_sight_behind F) h_turn_of h_turn_row h_power_row h_sight_of
  have h_ticks_past := ok_ticks_past (P := P) (w := w) (base := base) hTx (at_ticks_past F)
  have h_queue_of := ok_queue_of (P := P) (w := w) (base := base) hTx (at_queue_of F) h_spots_at h_inverse_row
  have h_far_sight := ok_far_sight (P := P) (w := w) (base := base) hTx (at_far_sight F) h_sight_behind
  have h_moved_sight := ok_moved_sight (P := P) (w := w) (base := base) (at_moved_sight F) h_sight_behind h_queue_of h_ticks_past
  have h_queue_behind := ok_queue_behind (P := P) (w := w) (base := base) (at_queue_behind F) h_require_clock h_is_integer h_turn_row h_power_row
  have h_sight_at := ok_sight_at (P := P) (w := w) (base := base) (at_sight_at F) h_require_clock h_require_tick h_far_sight
  have h_later_sight := ok_later_sight (P := P) (w := w) (base := base) (at_later_sight F) h_require_clock h_require_sight h_is_integer h_moved_sight
  have h_is_clock := ok_is_clock (P := P) (w := w) (base := base) (at_is_clock F) h_clock_fault
  have h_first_sight := ok_first_sight (P := P) (w := w) (base := base) hTx (at_first_sight F) h_require_clock
  have h_turn_ticks := ok_turn_ticks (P := P) (w := w) (base := base) (at_turn_ticks F) h_require_clock h_turn_of
  have h_sent_back := ok_sent_back (P := P) (w := w) (base := base) hTx (at_sent_back F)
  have h_sight_after := ok_sight_after (P := P) (w := w) (base := base) hTx (at_sight_after F) h_sent_back
  have h_sight_row := ok_sight_row (P := P) (w := w) (base := base) hTx (at_sight_row F) h_require_clock h_require_sight h_is_at_least h_sight_after
  have h_common_divisor := ok_common_divisor (P := P) (w := w) (base := base) (at_common_divisor F)
  have h_common_multiple := ok_common_multiple (P := P) (w := w) (base := base) (at_common_multiple F) h_common_divisor
  have h_inverse_of := ok_inverse_of (P := P) (w := w) (base := base) (at_inverse_of F)
  have h_joined_two := ok_joined_two (P := P) (w := w) (base := base) (at_joined_two F) h_common_divisor h_inverse_of
  have h_joined_rests := ok_joined_rests (P := P) (w := w) (base := base) (at_joined_rests F) h_joined_two
  have h_circ_init := ok_circ_init (P := P) (w := w) (base := base) hTx (cl_Circles F) h_turn_row h_row_cycles
  have h_turns_to := ok_turns_to (P := P) (w := w) (base := base) hTx (cl_Circles F)
  have h_turns_for := ok_turns_for (P := P) (w := w) (base := base) hTx (cl_Circles F) h_turns_to h_joined_rests
  have h_tick_of := ok_tick_of (P := P) (w := w) (base := base) (at_tick_of F) h_require_clock h_require_sight h_circ_init h_turns_for h_queue_of h_ticks_past h_turn_of
  have h_queue_period := ok_queue_period (P := P) (w := w) (base := base) hTx (at_queue_period F) h_turn_row h_row_cycles h_common_multiple
  have h_now := ok_now (P := P) (w := w) (base := base) hTx (cl_BallClock F)
  have h_moment := ok_moment (P := P) (w := w) (base := base) (cl_BallClock F)
  have h_bc_init := ok_bc_init (P := P) (w := w) (base := base) hTx (cl_BallClock F) h_require_clock
  have h_keep := ok_keep (P := P) (w := w) (base := base) (cl_BallClock F) h_moment
  have h_run := ok_run (P := P) (w := w) (base := base) (cl_BallClock F) h_require_at_least h_moved_sight h_now h_keep
  have h_swap := ok_swap (P := P) (w := w) (base := base) (cl_BallClock F) h_require_ball h_now h_keep
  have h_sight := ok_sight (P := P) (w := w) (base := base) hTx (cl_BallClock F) h_now
  have h_clock_values := ok_clock_values (P := P) (w := w) (base := base) (tc_of F) (at_clock_values F) h_parse_clock
  have h_cmdC := ok_cmdC (P := P) (w := w) (base := base) (at_command_values F) h_clock_values
  have h_cmdN := ok_cmdN (P := P) (w := w) (base := base) hTx (tc_of F) (at_command_values F) h_natural_of
  have h_value_text := ok_value_text (P := P) (w := w) (base := base) hTx (at_value_text F)
  have h_anew := ok_anew (P := P) (w := w) (base := base) (BC := He.ga K "BallClock") (cl_Console F) h_bc_init
  have h_con_init := ok_con_init (P := P) (w := w) (base := base) (BC := He.ga K "BallClock") (cl_Console F) h_anew
  have h_chClock := ok_chClock (P := P) (w := w) (base := base) (BC := He.ga K "BallClock") (cl_Console F) h_anew
  have h_chRun := ok_chRun (P := P) (w := w) (base := base) (BC := He.ga K "BallClock") (cl_Console F) h_run
  have h_chSwap := ok_chSwap (P := P) (w := w) (base := base) (BC := He.ga K "BallClock") (cl_Console F) h_swap
  have h_chNo := ok_chNo (P := P) (w := w) (base := base) (BC := He.ga K "BallClock") (cl_Console F)
  have h_anSight := ok_anSight (P := P) (w := w) (base := base) (BC := He.ga K "BallClock") (cl_Console F) h_sight h_format_sight
  have h_anWhen := ok_anWhen (P := P) (w := w) (base := base) (BC := He.ga K "BallClock") (cl_Console F) h_sight h_tick_of h_value_text
  have h_exClock := ok_exClock (P := P) (w := w) (base := base) (BC := He.ga K "BallClock") hTx (cl_Console F) h_chClock h_cmdC
  have h_exRun := ok_exRun (P := P) (w := w) (base := base) (BC := He.ga K "BallClock") hTx (cl_Console F) h_chRun h_cmdN
  have h_exSwap := ok_exSwap (P := P) (w := w) (base := base) (BC := He.ga K "BallClock") hTx (cl_Console F) h_chSwap h_cmdN
  have h_exSight := ok_exSight (P := P) (w := w) (base := base) (BC := He.ga K "BallClock") hTx (cl_Console F) h_chNo h_cmdN (h_anSight.mono (by decide))
  have h_exWhen := ok_exWhen (P := P) (w := w) (base := base) (BC := He.ga K "BallClock") hTx (cl_Console F) h_chNo h_cmdN h_anWhen
  have h_jar := ok_jar (P := P) (w := w) (base := base) hTx (at__law_jar F)
  have h_pick := ok_pick (P := P) (w := w) (base := base) hTx (at__law_pick F)
  have h_device := ok_device (P := P) (w := w) (base := base) hTx (at__law_device F) h_pick
  have h_mixed := ok_mixed (P := P) (w := w) (base := base) hTx (at__law_mixed F) h_pick
  have h_scene := ok_scene (P := P) (w := w) (base := base) hTx (at__law_scene F) h_pick h_mixed
  have h_lawMoment := ok_lawMoment (P := P) (w := w) (base := base) hTx (at__law_moment F) h_pick
  have h_require_balls := ok_require_balls (P := P) (w := w) (base := base) hTx (at_require_balls F) h_is_at_least
  have hWithin := ok_within (P := P) (w := w) (base := base) hTx (at_lists_within F) 5 (by decide)
  have h_bound_lists := ok_bound_lists (P := P) (w := w) (base := base) (at_bound_lists F) h_require_balls h_require_at_least hWithin
  have h_longest := ok_longest (P := P) (w := w) (base := base) hTx (at_longest_clock F) h_require_balls h_require_at_least hWithin h_queue_period
  have h_ordered := ok_ordered (P := P) (w := w) (base := base) (at_ordered_sight F) h_require_clock h_require_order h_require_tick h_far_sight
  have h_is_wish := ok_is_wish (P := P) (w := w) (base := base) hTx (at_is_wish F) h_is_integer
  have h_require_wished := ok_require_wished (P := P) (w := w) (base := base) hTx (at_require_wished F) h_require_clock h_require_tick h_is_wish
  have h_place_rails := ok_place_rails (P := P) (w := w) (base := base) hTx (at_place_rails F) h_far_sight
  have h_ways := ok_ways (P := P) (w := w) (base := base) hTx (cl_Filling F)
  have h_next := ok_next (P := P) (w := w) (base := base) (cl_Filling F) h_ways
  have h_ball := ok_ball (P := P) (w := w) (base := base) (cl_Filling F)
  have h_fill := ok_fill (P := P) (w := w) (base := base) (cl_Filling F)
  have h_found_order := ok_found_order (P := P) (w := w) (base := base) (cl_Filling F) (at_found_order F) hTx h_next h_ball h_fill
  have h_found_rank := ok_found_rank (P := P) (w := w) (base := base) (cl_Filling F) (at_found_rank F) hTx h_next h_ball h_fill
  have h_fl_init := ok_fl_init (P := P) (w := w) (base := base) hTx (cl_Filling F) h_place_rails
  have h_is_granting := ok_is_granting (P := P) (w := w) (base := base) hTx (at_is_granting F) h_place_rails
  have h_order_count := ok_order_count (P := P) (w := w) (base := base) (cl_Filling F) (at_order_count F) h_fl_init h_ways h_require_wished
  have h_least_order := ok_least_order (P := P) (w := w) (base := base) (cl_Filling F) (at_least_order F) h_fl_init h_ways h_require_wished h_found_order
  have h_nth_order := ok_nth_order (P := P) (w := w) (base := base) (cl_Filling F) (at_nth_order F) h_fl_init h_ways h_require_wished h_found_order h_is_integer
  have h_order_rank := ok_order_rank (P := P) (w := w) (base := base) (cl_Filling F) (at_order_rank F) h_fl_init h_is_granting h_require_wished h_found_rank h_require_order
  have h_law_sights := ok_law_sights (P := P) (w := w) (base := base) hTx (at__law_sights_right F) h_format_sight h_parse_sight h_later_sight
  have h_law_rows := ok_law_rows (P := P) (w := w) (base := base) hTx (at__law_rows_right F) h_queue_behind h_order_count h_least_order h_nth_order h_parse_order h_format_order h_ordered h_parse_sight h_order_rank
  have h_law_devs := ok_law_devs (P := P) (w := w) (base := base) hTx (at__law_devices_right F) h_pick h_longest h_bound_lists h_parse_clock h_format_clock h_is_clock h_turn_ticks
  have hLiveHas : LiveHas P w K mg base (He.ga K "Console") (He.ga K "BallClock") := ⟨hTx, h_bc_init, h_con_init, h_exClock, h_exRun, h_exSwap, h_exSight, h_exWhen, h_run, h_swap, h_sight, h_pick, h_format_clock, h_format_sight, h_parse_sight, h_tick_of⟩
  have h_law_live := ok_law_live (P := P) (w := w) (base := base) hLiveHas (at__law_live_right F)
  have hLawHas : LawHas P w K mg base := ⟨hTx, h_jar, h_pick, h_device, h_mixed, h_scene, h_lawMoment, h_turn_ticks, h_first_sight, h_sight_at, h_ordered, h_sight_row, h_later_sight, h_format_sight, h_law_sights, h_law_rows, h_law_devs, h_law_live⟩
  exact ok_law hLawHas D
end Bh
/-! HW: the law's walk. -/
namespace Bh
open PySem PySem.Spec PyProof.Rows L2
theorem spLaw_of {K : PySem.W.Frag} {H : Hp} {a : Addr} {ns : List Int} (h : SqL K H a (ns.map V.int)) (hO : Only H) : spOf (spLaw K) [.ref a] H (fun v _ => v = .bl true) fun _ _ _ => False := by
  have e : mi H (ads ((spLaw K).ms ns) ++ []) = H := by
    funext b
    unfold mi
    rw [if_neg (by show ¬ b ∈ ([] : List Addr); simp)]
    rcases hO b with z | ⟨o, xs, z⟩
    · rw [z]
    · rw [z]
  refine ⟨ns, [], trivial, List.nodup_nil, (fun r hr => (by cases hr)), ⟨⟨a, rfl, ?_⟩, trivial⟩, (fun q hq => (by cases hq)), fun d ms' v H' hd _ _ _ hv _ => ?_⟩
  · rw [e]
    exact h
  · obtain rfl : d = R true := hd
    exact hv
abbrev Lw : PySem.W.OpenLaw := PySem.Challenge.rw_ballhours_k61_whole_texts_of_all_that_is
theorem lawName : (HandSHeadRun.topDef Rw.prog 137).name = ("law" : Str) := by kernel_rfl
theorem lawDfl : (HandSHeadRun.topDef Rw.prog 137).params.defaults = [] := by kernel_rfl
theorem walkAll : PySem.W.WalkO qv loose (PySem.W.XL qv []) hookB.says Lw.row.toRowW (HandSHeadRun.topDef Rw.prog 137) [] (fun f vs => PySem.call f vs) := by
  refine walkG (l := Lw) (n := 63) (k := 34) (x := "_law_script") rfl (by decide) lawDfl ⟨rfl, by decide, by decide⟩ ?_
  intro w mg fa h Y G hmg0
  obtain ⟨K, KX, c⟩ := Y
  have F : Fc w K h mg := ⟨KX, G, c⟩
  rw [lawName] at hmg0
  obtain ⟨f, fd, D, hm, hb⟩ := (at_law F).h
  have e : fa = f := by
    have z := hmg0.symm.trans hm
    injection z with z
    injection z with z
  subst e
  exact ⟨K, fd, spOf (spLaw K), KX, fun s u => FunD.bindsA (ps := ["_law_script"]) D (fun _ _ _ _ _ _ us hl => match us, hl with | [_], _ => rfl) s [u] rfl, fun H a ns hO hS => spLaw_of hS hO, fun base _ _ => law_of F D⟩
end Bh
set_option maxHeartbeats 0
/-! HZ: the law holds. -/
open PySem PySem.W PySem.Calls PyProof.Rows
theorem PySem.Challenge.cw_ballhours_k61_whole_texts_of_all_that_is_holds : PySem.Challenge.rw_ballhours_k61_whole_texts_of_all_that_is.Holds := by
  w_on; o_law
  refine HandSHeadRun.head_any (r := OpenLaw.row PySem.Challenge.rw_ballhours_k61_whole_texts_of_all_that_is) (q := Bh.qv) (H := Bh.hookB) (ob := Bh.obB) (M := 20000) (loose := Bh.loose) (d := HandSHeadRun.topDef (OpenLaw.row PySem.Challenge.rw_ballhours_k61_whole_texts_of_all_that_is).prog 137) (kwd := []) Bh.obB_eq
    (by kernel_rfl) (fun s => by kernel_rfl) Bh.runAll (by kernel_rfl) (by kernel_rfl) (by kernel_rfl) (by rfl) (by first | assumption | decide +kernel) (by decide +kernel) ⟨rfl, rfl, rfl, rfl, rfl, by decide +kernel⟩ ?hw ?hc
  case hw => w_witness2
  case hc => exact Bh.walkAll
