import PyProof.Rows.All
import Wide.All
import OpenK.AllK
import Wide.FinOn
import HandS.Words
import PySem.Challenge.RW_gunclocks_k63_whole_late_as_in_time
import KE.KStateDown
import Lean
import HandS.Base
import HandS.Call
import HandS.Ends
import HandS.More
import HandS.WordsExc
import HandS.Defaults
import HandS.Head0
import HandS.Head1
import HandS.Head2
import HandS.HeadEnd
import HandS.HeadHook1
import HandS.HeadHook2
import HandS.ForMost
import HandS.TupAny
import HandS.Zip
import HandS.IsInst
import HandS.Style
import HandS.Deep
import HandS.Walk
import KE.GoesEnum
import HandS.NamedTupGet
import KE.KDictZip
import KE.KDictItemsList
import HandS.ListItems
import KE.KAssignIn
import HandS.Codes
import KE.SortData
import PyProof.ReprRoads
set_option Elab.async false
set_option linter.all false
set_option maxRecDepth 100000
set_option maxHeartbeats 0
namespace Gc
open PySem L2
/-! the text by places -/
def top (i : Nat) : Stmt := PySem.Challenge.pw_gunclocks_k63_whole_late_as_in_time.main.body.getD i (.Pass ⟨0, 0, 0, 0⟩)
abbrev s_is_whole : Stmt := top 16
abbrev s_is_from_to : Stmt := top 17
abbrev s_shared : Stmt := top 18
abbrev s_lowest : Stmt := top 19
abbrev s_is_part : Stmt := top 20
abbrev s_need_part : Stmt := top 21
abbrev s_plus : Stmt := top 22
abbrev s_minus : Stmt := top 23
abbrev s_product : Stmt := top 24
abbrev s_below : Stmt := top 25
abbrev s_turned : Stmt := top 26
abbrev s_added : Stmt := top 27
abbrev s_is_less : Stmt := top 28
abbrev s_is_gain : Stmt := top 33
abbrev s_is_moment : Stmt := top 34
abbrev s_is_set : Stmt := top 35
abbrev s_is_clock : Stmt := top 36
abbrev s_need_clock : Stmt := top 37
abbrev s_need_moment : Stmt := top 38
abbrev s_jumps_till : Stmt := top 39
abbrev s_drift_by : Stmt := top 40
abbrev s_drift : Stmt := top 41
abbrev s_is_clock_number : Stmt := top 45
abbrev s_need_clock_number : Stmt := top 46
abbrev s_are_bounds : Stmt := top 47
abbrev s_is_telling : Stmt := top 48
abbrev s_are_tellings : Stmt := top 49
abbrev s_need_tellings : Stmt := top 50
abbrev s_steps_of : Stmt := top 51
abbrev s_shortest : Stmt := top 53
abbrev s_ring_in : Stmt := top 55
abbrev s_together : Stmt := top 56
abbrev s_agree : Stmt := top 57
abbrev s_need_together : Stmt := top 58
abbrev s_far_from : Stmt := top 59
abbrev s_stretch_by : Stmt := top 60
abbrev s_stretch_of : Stmt := top 61
abbrev s_need_other_clock : Stmt := top 62
abbrev s_are_gains : Stmt := top 65
abbrev s_moved : Stmt := top 66
abbrev s_law_cell_at : Stmt := top 69
abbrev s_law_next : Stmt := top 70
abbrev s_law_pen_of : Stmt := top 71
abbrev s_law_draw : Stmt := top 72
abbrev s_law_made : Stmt := top 73
abbrev s_law_sum : Stmt := top 74
abbrev s_law_rest : Stmt := top 75
abbrev s_law_prod : Stmt := top 76
abbrev s_law_under : Stmt := top 77
abbrev s_law_some : Stmt := top 78
abbrev s_law_up : Stmt := top 79
abbrev s_law_row : Stmt := top 80
abbrev s_law_true : Stmt := top 81
abbrev s_law_gains : Stmt := top 82
abbrev s_law_drift : Stmt := top 83
abbrev s_law_sets_of : Stmt := top 84
abbrev s_law_told_of : Stmt := top 85
abbrev s_law_clocks : Stmt := top 86
abbrev s_law_mixed : Stmt := top 87
abbrev s_law_tell : Stmt := top 88
abbrev s_law_same : Stmt := top 89
abbrev s_law_in : Stmt := top 90
abbrev s_law_row_right : Stmt := top 91
abbrev s_law : Stmt := top 92
abbrev m_init : Stmt := inClass (top 67) 0
abbrev m_taken_back : Stmt := inClass (top 67) 1
abbrev m_become : Stmt := inClass (top 67) 2
abbrev m_tells : Stmt := inClass (top 67) 3
abbrev m_sets : Stmt := inClass (top 67) 4
abbrev m_calls_false : Stmt := inClass (top 67) 5
abbrev m_back : Stmt := inClass (top 67) 6
abbrev m_stretch_at : Stmt := inClass (top 67) 7
abbrev m_stretch_then : Stmt := inClass (top 67) 8
abbrev m_standing : Stmt := inClass (top 67) 9
abbrev m_clock_now : Stmt := inClass (top 67) 10
abbrev m_len : Stmt := inClass (top 67) 13
end Gc
namespace Gc
open PySem PySem.Spec PyProof.Rows L2
def ds_is_whole : He.DefD := ⟨("is_whole", none), "is_whole", "is_whole", defArgs s_is_whole, defBody s_is_whole, defScope s_is_whole, [], []⟩
def ds_is_from_to : He.DefD := ⟨("is_from_to", none), "is_from_to", "is_from_to", defArgs s_is_from_to, defBody s_is_from_to, defScope s_is_from_to, [], []⟩
def ds_shared : He.DefD := ⟨("shared", none), "shared", "shared", defArgs s_shared, defBody s_shared, defScope s_shared, [], []⟩
def ds_lowest : He.DefD := ⟨("lowest", none), "lowest", "lowest", defArgs s_lowest, defBody s_lowest, defScope s_lowest, [], []⟩
def ds_is_part : He.DefD := ⟨("is_part", none), "is_part", "is_part", defArgs s_is_part, defBody s_is_part, defScope s_is_part, [], []⟩
def ds_need_part : He.DefD := ⟨("need_part", none), "need_part", "need_part", defArgs s_need_part, defBody s_need_part, defScope s_need_part, [], []⟩
def ds_plus : He.DefD := ⟨("plus", none), "plus", "plus", defArgs s_plus, defBody s_plus, defScope s_plus, [], []⟩
def ds_minus : He.DefD := ⟨("minus", none), "minus", "minus", defArgs s_minus, defBody s_minus, defScope s_minus, [], []⟩
def ds_product : He.DefD := ⟨("product", none), "product", "product", defArgs s_product, defBody s_product, defScope s_product, [], []⟩
def ds_below : He.DefD := ⟨("below", none), "below", "below", defArgs s_below, defBody s_below, defScope s_below, [], []⟩
def ds_turned : He.DefD := ⟨("turned", none), "turned", "turned", defArgs s_turned, defBody s_turned, defScope s_turned, [], []⟩
def ds_added : He.DefD := ⟨("added", none), "added", "added", defArgs s_added, defBody s_added, defScope s_added, [], []⟩
def ds_is_less : He.DefD := ⟨("is_less", none), "is_less", "is_less", defArgs s_is_less, defBody s_is_less, defScope s_is_less, [], []⟩
def ds_is_gain : He.DefD := ⟨("is_gain", none), "is_gain", "is_gain", defArgs s_is_gain, defBody s_is_gain, defScope s_is_gain, [], []⟩
def ds_is_moment : He.DefD := ⟨("is_moment", none), "is_moment", "is_moment", defArgs s_is_moment, defBody s_is_moment, defScope s_is_moment, [], []⟩
def ds_is_set : He.DefD := ⟨("is_set", none), "is_set", "is_set", defArgs s_is_set, defBody s_is_set, defScope s_is_set, [], []⟩
def ds_is_clock : He.DefD := ⟨("is_clock", none), "is_clock", "is_clock", defArgs s_is_clock, defBody s_is_clock, defScope s_is_clock, [], []⟩
def ds_need_clock : He.DefD := ⟨("need_clock", none), "need_clock", "need_clock", defArgs s_need_clock, defBody s_need_clock, defScope s_need_clock, [], []⟩
def ds_need_moment : He.DefD := ⟨("need_moment", none), "need_moment", "need_moment", defArgs s_need_moment, defBody s_need_moment, defScope s_need_moment, [], []⟩
def ds_jumps_till : He.DefD := ⟨("jumps_till", none), "jumps_till", "jumps_till", defArgs s_jumps_till, defBody s_jumps_till, defScope s_jumps_till, [], []⟩
def ds_drift_by : He.DefD := ⟨("drift_by", none), "drift_by", "drift_by", defArgs s_drift_by, defBody s_drift_by, defScope s_drift_by, [], []⟩
def ds_drift : He.DefD := ⟨("drift", none), "drift", "drift", defArgs s_drift, defBody s_drift, defScope s_drift, [], []⟩
def ds_is_clock_number : He.DefD := ⟨("is_clock_number", none), "is_clock_number", "is_clock_number", defArgs s_is_clock_number, defBody s_is_clock_number, defScope s_is_clock_number, [], []⟩
def ds_need_clock_number : He.DefD := ⟨("need_clock_number", none), "need_clock_number", "need_clock_number", defArgs s_need_clock_number, defBody s_need_clock_number, defScope s_need_clock_number, [], []⟩
def ds_are_bounds : He.DefD := ⟨("are_bounds", none), "are_bounds", "are_bounds", defArgs s_are_bounds, defBody s_are_bounds, defScope s_are_bounds, [], []⟩
def ds_is_telling : He.DefD := ⟨("is_telling", none), "is_telling", "is_telling", defArgs s_is_telling, defBody s_is_telling, defScope s_is_telling, [], []⟩
def ds_are_tellings : He.DefD := ⟨("are_tellings", none), "are_tellings", "are_tellings", defArgs s_are_tellings, defBody s_are_tellings, defScope s_are_tellings, [], []⟩
def ds_need_tellings : He.DefD := ⟨("need_tellings", none), "need_tellings", "need_tellings", defArgs s_need_tellings, defBody s_need_tellings, defScope s_need_tellings, [], []⟩
def ds_steps_of : He.DefD := ⟨("steps_of", none), "steps_of", "steps_of", defArgs s_steps_of, defBody s_steps_of, defScope s_steps_of, [], []⟩
def ds_shortest : He.DefD := ⟨("shortest", none), "shortest", "shortest", defArgs s_shortest, defBody s_shortest, defScope s_shortest, [], []⟩
def ds_ring_in : He.DefD := ⟨("ring_in", none), "ring_in", "ring_in", defArgs s_ring_in, defBody s_ring_in, defScope s_ring_in, [], []⟩
def ds_together : He.DefD := ⟨("together", none), "together", "together", defArgs s_together, defBody s_together, defScope s_together, [], []⟩
def ds_agree : He.DefD := ⟨("agree", none), "agree", "agree", defArgs s_agree, defBody s_agree, defScope s_agree, [], []⟩
def ds_need_together : He.DefD := ⟨("need_together", none), "need_together", "need_together", defArgs s_need_together, defBody s_need_together, defScope s_need_together, [], []⟩
def ds_far_from : He.DefD := ⟨("far_from", none), "far_from", "far_from", defArgs s_far_from, defBody s_far_from, defScope s_far_from, [], []⟩
def ds_stretch_by : He.DefD := ⟨("stretch_by", none), "stretch_by", "stretch_by", defArgs s_stretch_by, defBody s_stretch_by, defScope s_stretch_by, [], []⟩
def ds_stretch_of : He.DefD := ⟨("stretch_of", none), "stretch_of", "stretch_of", defArgs s_stretch_of, defBody s_stretch_of, defScope s_stretch_of, [.int 0], []⟩
def ds_need_other_clock : He.DefD := ⟨("need_other_clock", none), "need_other_clock", "need_other_clock", defArgs s_need_other_clock, defBody s_need_other_clock, defScope s_need_other_clock, [], []⟩
def ds_are_gains : He.DefD := ⟨("are_gains", none), "are_gains", "are_gains", defArgs s_are_gains, defBody s_are_gains, defScope s_are_gains, [], []⟩
def ds_moved : He.DefD := ⟨("moved", none), "moved", "moved", defArgs s_moved, defBody s_moved, defScope s_moved, [], []⟩
def ds_law_cell_at : He.DefD := ⟨("_law_cell_at", none), "_law_cell_at", "_law_cell_at", defArgs s_law_cell_at, defBody s_law_cell_at, defScope s_law_cell_at, [], []⟩
def ds_law_next : He.DefD := ⟨("_law_next", none), "_law_next", "_law_next", defArgs s_law_next, defBody s_law_next, defScope s_law_next, [], []⟩
def ds_law_pen_of : He.DefD := ⟨("_law_pen_of", none), "_law_pen_of", "_law_pen_of", defArgs s_law_pen_of, defBody s_law_pen_of, defScope s_law_pen_of, [], []⟩
def ds_law_draw : He.DefD := ⟨("_law_draw", none), "_law_draw", "_law_draw", defArgs s_law_draw, defBody s_law_draw, defScope s_law_draw, [], []⟩
def ds_law_made : He.DefD := ⟨("_law_made", none), "_law_made", "_law_made", defArgs s_law_made, defBody s_law_made, defScope s_law_made, [], []⟩
def ds_law_sum : He.DefD := ⟨("_law_sum", none), "_law_sum", "_law_sum", defArgs s_law_sum, defBody s_law_sum, defScope s_law_sum, [], []⟩
def ds_law_rest : He.DefD := ⟨("_law_rest", none), "_law_rest", "_law_rest", defArgs s_law_rest, defBody s_law_rest, defScope s_law_rest, [], []⟩
def ds_law_prod : He.DefD := ⟨("_law_prod", none), "_law_prod", "_law_prod", defArgs s_law_prod, defBody s_law_prod, defScope s_law_prod, [], []⟩
def ds_law_under : He.DefD := ⟨("_law_under", none), "_law_under", "_law_under", defArgs s_law_under, defBody s_law_under, defScope s_law_under, [], []⟩
def ds_law_some : He.DefD := ⟨("_law_some", none), "_law_some", "_law_some", defArgs s_law_some, defBody s_law_some, defScope s_law_some, [], []⟩
def ds_law_up : He.DefD := ⟨("_law_up", none), "_law_up", "_law_up", defArgs s_law_up, defBody s_law_up, defScope s_law_up, [], []⟩
def ds_law_row : He.DefD := ⟨("_law_row", none), "_law_row", "_law_row", defArgs s_law_row, defBody s_law_row, defScope s_law_row, [], []⟩
def ds_law_true : He.DefD := ⟨("_law_true", none), "_law_true", "_law_true", defArgs s_law_true, defBody s_law_true, defScope s_law_true, [], []⟩
def ds_law_gains : He.DefD := ⟨("_law_gains", none), "_law_gains", "_law_gains", defArgs s_law_gains, defBody s_law_gains, defScope s_law_gains, [], []⟩
def ds_law_drift : He.DefD := ⟨("_law_drift", none), "_law_drift", "_law_drift", defArgs s_law_drift, defBody s_law_drift, defScope s_law_drift, [], []⟩
def ds_law_sets_of : He.DefD := ⟨("_law_sets_of", none), "_law_sets_of", "_law_sets_of", defArgs s_law_sets_of, defBody s_law_sets_of, defScope s_law_sets_of, [], []⟩
def ds_law_told_of : He.DefD := ⟨("_law_told_of", none), "_law_told_of", "_law_told_of", defArgs s_law_told_of, defBody s_law_told_of, defScope s_law_told_of, [], []⟩
def ds_law_clocks : He.DefD := ⟨("_law_clocks", none), "_law_clocks", "_law_clocks", defArgs s_law_clocks, defBody s_law_clocks, defScope s_law_clocks, [], []⟩
def ds_law_mixed : He.DefD := ⟨("_law_mixed", none), "_law_mixed", "_law_mixed", defArgs s_law_mixed, defBody s_law_mixed, defScope s_law_mixed, [], []⟩
def ds_law_tell : He.DefD := ⟨("_law_tell", none), "_law_tell", "_law_tell", defArgs s_law_tell, defBody s_law_tell, defScope s_law_tell, [], []⟩
def ds_law_same : He.DefD := ⟨("_law_same", none), "_law_same", "_law_same", defArgs s_law_same, defBody s_law_same, defScope s_law_same, [], []⟩
def ds_law_in : He.DefD := ⟨("_law_in", none), "_law_in", "_law_in", defArgs s_law_in, defBody s_law_in, defScope s_law_in, [], []⟩
def ds_law_row_right : He.DefD := ⟨("_law_row_right", none), "_law_row_right", "_law_row_right", defArgs s_law_row_right, defBody s_law_row_right, defScope s_law_row_right, [], []⟩
def ds_law : He.DefD := ⟨("law", none), "law", "law", defArgs s_law, defBody s_law, defScope s_law, [], []⟩
def dm_init : He.DefD := ⟨("Post", some "__init__"), "__init__", "Post.__init__", defArgs m_init, defBody m_init, defScope m_init, [], []⟩
def dm_taken_back : He.DefD := ⟨("Post", some "taken_back"), "taken_back", "Post.taken_back", defArgs m_taken_back, defBody m_taken_back, defScope m_taken_back, [], []⟩
def dm_become : He.DefD := ⟨("Post", some "become"), "become", "Post.become", defArgs m_become, defBody m_become, defScope m_become, [], []⟩
def dm_tells : He.DefD := ⟨("Post", some "tells"), "tells", "Post.tells", defArgs m_tells, defBody m_tells, defScope m_tells, [.non, .non], []⟩
def dm_sets : He.DefD := ⟨("Post", some "sets"), "sets", "Post.sets", defArgs m_sets, defBody m_sets, defScope m_sets, [], []⟩
def dm_calls_false : He.DefD := ⟨("Post", some "calls_false"), "calls_false", "Post.calls_false", defArgs m_calls_false, defBody m_calls_false, defScope m_calls_false, [], []⟩
def dm_back : He.DefD := ⟨("Post", some "back"), "back", "Post.back", defArgs m_back, defBody m_back, defScope m_back, [], []⟩
def dm_stretch_at : He.DefD := ⟨("Post", some "stretch_at"), "stretch_at", "Post.stretch_at", defArgs m_stretch_at, defBody m_stretch_at, defScope m_stretch_at, [.non], []⟩
def dm_stretch_then : He.DefD := ⟨("Post", some "stretch_then"), "stretch_then", "Post.stretch_then", defArgs m_stretch_then, defBody m_stretch_then, defScope m_stretch_then, [], []⟩
def dm_standing : He.DefD := ⟨("Post", some "standing"), "standing", "Post.standing", defArgs m_standing, defBody m_standing, defScope m_standing, [], []⟩
def dm_clock_now : He.DefD := ⟨("Post", some "clock_now"), "clock_now", "Post.clock_now", defArgs m_clock_now, defBody m_clock_now, defScope m_clock_now, [], []⟩
def dm_len : He.DefD := ⟨("Post", some "__len__"), "__len__", "Post.__len__", defArgs m_len, defBody m_len, defScope m_len, [], []⟩
def fn0 : List He.DefD := [ds_is_whole, ds_is_from_to, ds_shared, ds_lowest, ds_is_part, ds_need_part, ds_plus, ds_minus, ds_product, ds_below, ds_turned, ds_added, ds_is_less, ds_is_gain, ds_is_moment, ds_is_set, ds_is_clock, ds_need_clock, ds_need_moment, ds_jumps_till]
def fn1 : List He.DefD := [ds_drift_by, ds_drift, ds_is_clock_number, ds_need_clock_number, ds_are_bounds, ds_is_telling, ds_are_tellings, ds_need_tellings, ds_steps_of, ds_shortest, ds_ring_in, ds_together, ds_agree, ds_need_together, ds_far_from, ds_stretch_by, ds_stretch_of, ds_need_other_clock, ds_are_gains, ds_moved]
def fn2 : List He.DefD := [ds_law_cell_at, ds_law_next, ds_law_pen_of, ds_law_draw, ds_law_made, ds_law_sum, ds_law_rest, ds_law_prod, ds_law_under, ds_law_some, ds_law_up, ds_law_row, ds_law_true, ds_law_gains, ds_law_drift, ds_law_sets_of, ds_law_told_of, ds_law_clocks, ds_law_mixed, ds_law_tell]
def fn3 : List He.DefD := [ds_law_same, ds_law_in, ds_law_row_right, ds_law, dm_init, dm_taken_back, dm_become, dm_tells, dm_sets, dm_calls_false, dm_back, dm_stretch_at, dm_stretch_then, dm_standing, dm_clock_now, dm_len]
def fn : List He.DefD := fn0 ++ fn1 ++ fn2 ++ fn3
def fa0 : List He.Fa := [.glo "is_whole", .glo "is_from_to", .glo "shared", .glo "lowest", .glo "is_part", .glo "need_part", .glo "plus", .glo "minus", .glo "product", .glo "below", .glo "turned", .glo "added", .glo "is_less", .glo "is_gain", .glo "is_moment", .glo "is_set", .glo "is_clock", .glo "need_clock", .glo "need_moment", .glo "jumps_till", .glo "drift_by", .glo "drift", .glo "is_clock_number", .glo "need_clock_number", .glo "are_bounds"]
def fa1 : List He.Fa := [.glo "is_telling", .glo "are_tellings", .glo "need_tellings", .glo "steps_of", .glo "shortest", .glo "ring_in", .glo "together", .glo "agree", .glo "need_together", .glo "far_from", .glo "stretch_by", .glo "stretch_of", .glo "need_other_clock", .glo "are_gains", .glo "moved", .glo "_law_cell_at", .glo "_law_next", .glo "_law_pen_of", .glo "_law_draw", .glo "_law_made", .glo "_law_sum", .glo "_law_rest", .glo "_law_prod", .glo "_law_under", .glo "_law_some"]
def fa2 : List He.Fa := [.glo "_law_up", .glo "_law_row", .glo "_law_true", .glo "_law_gains", .glo "_law_drift", .glo "_law_sets_of", .glo "_law_told_of", .glo "_law_clocks", .glo "_law_mixed", .glo "_law_tell", .glo "_law_same", .glo "_law_in", .glo "_law_row_right", .glo "law", .glo "Post", .free "isinstance", .free "int", .free "bool", .free "abs", .free "tuple", .free "len", .free "all", .free "zip", .free "range", .free "enumerate"]
def fa3 : List He.Fa := [.free "list", .free "sorted", .free "str", .free "max", .int "MOST_SETS" 6, .int "CLOCKS" 6, .int "MOST_TELLINGS" 16, .int "MOST_STANDING" 10, .glo "NOUGHT", .glo "MOST_GAIN", .glo "LEAST_GAIN", .cls "Post", .mkr "Post", .noat "Post" "clocks", .noat "Post" "told", .noat "Post" "next_number", .noat "Post" "past", .meth "Post" "taken_back", .meth "Post" "become", .meth "Post" "tells", .meth "Post" "sets", .meth "Post" "calls_false", .meth "Post" "back", .meth "Post" "stretch_at", .meth "Post" "stretch_then"]
def fa4 : List He.Fa := [.meth "Post" "standing", .meth "Post" "clock_now", .meth "Post" "__len__"]
def fa : List He.Fa := fa0 ++ fa1 ++ fa2 ++ fa3 ++ fa4
def exB (K : PySem.W.Frag) : Bool := He.tupB K "NOUGHT" [.int (0), .int 1] && He.tupB K "MOST_GAIN" [.int (12), .int 1] && He.tupB K "LEAST_GAIN" [.int (-12), .int 1]
def refsA (g : Addr → Option Obj) (as : List Addr) : List Addr := as.flatMap fun a => match g a with
  | some o => He.refsD o
  | none => []
def frontA (g : Addr → Option Obj) : Nat → List Addr → List Addr
  | 0, as => as
  | n + 1, as => as ++ frontA g n (refsA g as)
abbrev AlG : Type := He.AlD × Bool
def obsG (n : Nat) (g : Addr → Option Obj) : AlG := (fun K => (He.obsD fa fn K, exB K)) (He.frG g (frontA g n [mainGlobals]))
def SaysG (K : PySem.W.Frag) : Prop := He.SaysD fa fn K ∧ exB K = true
def hk (n : Nat) : PySem.W.Hook where
  α := AlG
  obs := fun s => obsG n s.heap.get?
  val := fun _ => (He.valD fn, true)
  says := fun _ h => ∃ K : PySem.W.Frag, K.In h ∧ SaysG K
  of := fun _ _ e => ⟨_, He.frG_in, congrArg (fun z : AlG => z.1) e, congrArg (fun z : AlG => z.2) e⟩
  keeps := fun _ _ _ ⟨K, hK, c⟩ k => ⟨K, PySem.W.Frag.In.keeps hK k, c⟩
theorem obsG_eq {n : Nat} {g : Addr → Option Obj} {s : Shared} (h : ∀ a, g a = s.heap.get? a) : obsG n g = (hk n).obs s := by
  have e : g = s.heap.get? := funext h
  rw [e] <;> rfl
def ob (s : PySem.W.SharedT) : AlG := obsG 4 (HandSHeadRun.getT s)
theorem ob_eq (s : PySem.W.SharedT) : ob s = (hk 4).obs s.abs := obsG_eq (HandSHeadRun.getT_eq s)
abbrev R : PySem.W.OpenRow := PySem.W.OpenLaw.row PySem.Challenge.rw_gunclocks_k63_whole_late_as_in_time
def loose0 : List Str := ["_wall", "__name__", "ClockError", "NoPart", "NoNumber", "NoMoment", "NoClock", "NoTelling", "NoTellings", "Apart", "Twice", "Missing", "NoDeed", "TooMany", "NOUGHT", "is_whole", "is_from_to", "shared", "lowest", "is_part", "need_part", "plus", "minus", "product", "below", "turned", "added", "is_less", "MOST_GAIN", "LEAST_GAIN"]
def loose1 : List Str := ["MOST_SETS", "is_gain", "is_moment", "is_set", "is_clock", "need_clock", "need_moment", "jumps_till", "drift_by", "drift", "CLOCKS", "MOST_TELLINGS", "is_clock_number", "need_clock_number", "are_bounds", "is_telling", "are_tellings", "need_tellings", "steps_of", "shortest", "ring_on", "ring_in", "together", "agree", "need_together", "far_from", "stretch_by", "stretch_of", "need_other_clock", "MOST_STANDING"]
def loose2 : List Str := ["are_gains", "moved", "Post", "_law_cell_at", "_law_next", "_law_pen_of", "_law_draw", "_law_made", "_law_sum", "_law_rest", "_law_prod", "_law_under", "_law_some", "_law_up", "_law_row", "_law_true", "_law_gains", "_law_drift", "_law_sets_of", "_law_told_of", "_law_clocks", "_law_mixed", "_law_tell", "_law_same", "_law_in", "_law_row_right"]
def loose : List Str := loose0 ++ loose1 ++ loose2
abbrev qv : Program := PySem.W.view R.prog [92]
theorem run (w : World) : HandSHeadRun.RunEq R qv (hk 4) ob 8000 loose w := by
  intro os
  kernel_rfl
end Gc
namespace Gc
open PySem L2
-- s_is_whole: 0 thing
theorem sc_is_whole : FnScope ["thing"] ["thing"] (defScope s_is_whole) := ⟨rfl, rfl, rfl, by decide +kernel, rfl, by decide +kernel, by decide +kernel⟩
-- s_is_from_to: 0 thing, 1 least, 2 most
theorem sc_is_from_to : FnScope ["thing", "least", "most"] ["thing", "least", "most"] (defScope s_is_from_to) := ⟨rfl, rfl, rfl, by decide +kernel, rfl, by decide +kernel, by decide +kernel⟩
-- s_shared: 0 one, 1 other
theorem sc_shared : FnScope ["one", "other"] ["one", "other"] (defScope s_shared) := ⟨rfl, rfl, rfl, by decide +kernel, rfl, by decide +kernel, by decide +kernel⟩
-- s_lowest: 0 top, 1 bottom, 2 factor
theorem sc_lowest : FnScope ["top", "bottom", "factor"] ["top", "bottom"] (defScope s_lowest) := ⟨rfl, rfl, rfl, by decide +kernel, rfl, by decide +kernel, by decide +kernel⟩
-- s_is_part: 0 thing
theorem sc_is_part : FnScope ["thing"] ["thing"] (defScope s_is_part) := ⟨rfl, rfl, rfl, by decide +kernel, rfl, by decide +kernel, by decide +kernel⟩
-- s_need_part: 0 thing
theorem sc_need_part : FnScope ["thing"] ["thing"] (defScope s_need_part) := ⟨rfl, rfl, rfl, by decide +kernel, rfl, by decide +kernel, by decide +kernel⟩
-- s_plus: 0 one, 1 other
theorem sc_plus : FnScope ["one", "other"] ["one", "other"] (defScope s_plus) := ⟨rfl, rfl, rfl, by decide +kernel, rfl, by decide +kernel, by decide +kernel⟩
-- s_minus: 0 one, 1 other
theorem sc_minus : FnScope ["one", "other"] ["one", "other"] (defScope s_minus) := ⟨rfl, rfl, rfl, by decide +kernel, rfl, by decide +kernel, by decide +kernel⟩
-- s_product: 0 one, 1 other
theorem sc_product : FnScope ["one", "other"] ["one", "other"] (defScope s_product) := ⟨rfl, rfl, rfl, by decide +kernel, rfl, by decide +kernel, by decide +kernel⟩
-- s_below: 0 one, 1 other
theorem sc_below : FnScope ["one", "other"] ["one", "other"] (defScope s_below) := ⟨rfl, rfl, rfl, by decide +kernel, rfl, by decide +kernel, by decide +kernel⟩
-- s_turned: 0 one
theorem sc_turned : FnScope ["one"] ["one"] (defScope s_turned) := ⟨rfl, rfl, rfl, by decide +kernel, rfl, by decide +kernel, by decide +kernel⟩
-- s_added: 0 one, 1 other
theorem sc_added : FnScope ["one", "other"] ["one", "other"] (defScope s_added) := ⟨rfl, rfl, rfl, by decide +kernel, rfl, by decide +kernel, by decide +kernel⟩
-- s_is_less: 0 one, 1 other
theorem sc_is_less : FnScope ["one", "other"] ["one", "other"] (defScope s_is_less) := ⟨rfl, rfl, rfl, by decide +kernel, rfl, by decide +kernel, by decide +kernel⟩
-- s_is_gain: 0 thing
theorem sc_is_gain : FnScope ["thing"] ["thing"] (defScope s_is_gain) := ⟨rfl, rfl, rfl, by decide +kernel, rfl, by decide +kernel, by decide +kernel⟩
-- s_is_moment: 0 thing
theorem sc_is_moment : FnScope ["thing"] ["thing"] (defScope s_is_moment) := ⟨rfl, rfl, rfl, by decide +kernel, rfl, by decide +kernel, by decide +kernel⟩
-- s_is_set: 0 thing
theorem sc_is_set : FnScope ["thing"] ["thing"] (defScope s_is_set) := ⟨rfl, rfl, rfl, by decide +kernel, rfl, by decide +kernel, by decide +kernel⟩
-- s_is_clock: 0 thing, 1 one, 2 later
theorem sc_is_clock : FnScope ["thing", "one", "later"] ["thing"] (defScope s_is_clock) := ⟨rfl, rfl, rfl, by decide +kernel, rfl, by decide +kernel, by decide +kernel⟩
-- s_need_clock: 0 clock
theorem sc_need_clock : FnScope ["clock"] ["clock"] (defScope s_need_clock) := ⟨rfl, rfl, rfl, by decide +kernel, rfl, by decide +kernel, by decide +kernel⟩
-- s_need_moment: 0 moment
theorem sc_need_moment : FnScope ["moment"] ["moment"] (defScope s_need_moment) := ⟨rfl, rfl, rfl, by decide +kernel, rfl, by decide +kernel, by decide +kernel⟩
-- s_jumps_till: 0 clock, 1 moment, 2 found, 3 when, 4 jump
theorem sc_jumps_till : FnScope ["clock", "moment", "found", "when", "jump"] ["clock", "moment"] (defScope s_jumps_till) := ⟨rfl, rfl, rfl, by decide +kernel, rfl, by decide +kernel, by decide +kernel⟩
-- s_drift_by: 0 clock, 1 moment
theorem sc_drift_by : FnScope ["clock", "moment"] ["clock", "moment"] (defScope s_drift_by) := ⟨rfl, rfl, rfl, by decide +kernel, rfl, by decide +kernel, by decide +kernel⟩
-- s_drift: 0 clock, 1 moment
theorem sc_drift : FnScope ["clock", "moment"] ["clock", "moment"] (defScope s_drift) := ⟨rfl, rfl, rfl, by decide +kernel, rfl, by decide +kernel, by decide +kernel⟩
-- s_is_clock_number: 0 thing
theorem sc_is_clock_number : FnScope ["thing"] ["thing"] (defScope s_is_clock_number) := ⟨rfl, rfl, rfl, by decide +kernel, rfl, by decide +kernel, by decide +kernel⟩
-- s_need_clock_number: 0 thing
theorem sc_need_clock_number : FnScope ["thing"] ["thing"] (defScope s_need_clock_number) := ⟨rfl, rfl, rfl, by decide +kernel, rfl, by decide +kernel, by decide +kernel⟩
-- s_are_bounds: 0 low, 1 high
theorem sc_are_bounds : FnScope ["low", "high"] ["low", "high"] (defScope s_are_bounds) := ⟨rfl, rfl, rfl, by decide +kernel, rfl, by decide +kernel, by decide +kernel⟩
-- s_is_telling: 0 thing
theorem sc_is_telling : FnScope ["thing"] ["thing"] (defScope s_is_telling) := ⟨rfl, rfl, rfl, by decide +kernel, rfl, by decide +kernel, by decide +kernel⟩
-- s_are_tellings: 0 thing, 1 one
theorem sc_are_tellings : FnScope ["thing", "one"] ["thing"] (defScope s_are_tellings) := ⟨rfl, rfl, rfl, by decide +kernel, rfl, by decide +kernel, by decide +kernel⟩
-- s_need_tellings: 0 thing
theorem sc_need_tellings : FnScope ["thing"] ["thing"] (defScope s_need_tellings) := ⟨rfl, rfl, rfl, by decide +kernel, rfl, by decide +kernel, by decide +kernel⟩
-- s_steps_of: 0 tellings, 1 found, 2 number, 3 one, 4 other, 5 low, 6 high
theorem sc_steps_of : FnScope ["tellings", "found", "number", "one", "other", "low", "high"] ["tellings"] (defScope s_steps_of) := ⟨rfl, rfl, rfl, by decide +kernel, rfl, by decide +kernel, by decide +kernel⟩
-- s_shortest: 0 steps, 1 begin, 2 found, 3 nearer, 4 turn, 5 one, 6 other, 7 long, 8 number, 9 sign, 10 here
theorem sc_shortest : FnScope ["steps", "begin", "found", "nearer", "turn", "one", "other", "long", "number", "sign", "here"] ["steps", "begin"] (defScope s_shortest) := ⟨rfl, rfl, rfl, by decide +kernel, rfl, by decide +kernel, by decide +kernel⟩
-- s_ring_in: 0 tellings, 1 steps, 2 begin, 3 found, 4 nearer
theorem sc_ring_in : FnScope ["tellings", "steps", "begin", "found", "nearer"] ["tellings"] (defScope s_ring_in) := ⟨rfl, rfl, rfl, by decide +kernel, rfl, by decide +kernel, by decide +kernel⟩
-- s_together: 0 tellings
theorem sc_together : FnScope ["tellings"] ["tellings"] (defScope s_together) := ⟨rfl, rfl, rfl, by decide +kernel, rfl, by decide +kernel, by decide +kernel⟩
-- s_agree: 0 tellings
theorem sc_agree : FnScope ["tellings"] ["tellings"] (defScope s_agree) := ⟨rfl, rfl, rfl, by decide +kernel, rfl, by decide +kernel, by decide +kernel⟩
-- s_need_together: 0 tellings
theorem sc_need_together : FnScope ["tellings"] ["tellings"] (defScope s_need_together) := ⟨rfl, rfl, rfl, by decide +kernel, rfl, by decide +kernel, by decide +kernel⟩
-- s_far_from: 0 tellings, 1 clock, 2 other, 3 found
theorem sc_far_from : FnScope ["tellings", "clock", "other", "found"] ["tellings", "clock", "other"] (defScope s_far_from) := ⟨rfl, rfl, rfl, by decide +kernel, rfl, by decide +kernel, by decide +kernel⟩
-- s_stretch_by: 0 tellings, 1 clock, 2 other, 3 high, 4 back
theorem sc_stretch_by : FnScope ["tellings", "clock", "other", "high", "back"] ["tellings", "clock", "other"] (defScope s_stretch_by) := ⟨rfl, rfl, rfl, by decide +kernel, rfl, by decide +kernel, by decide +kernel⟩
-- s_stretch_of: 0 tellings, 1 clock, 2 other
theorem sc_stretch_of : FnScope ["tellings", "clock", "other"] ["tellings", "clock", "other"] (defScope s_stretch_of) := ⟨rfl, rfl, rfl, by decide +kernel, rfl, by decide +kernel, by decide +kernel⟩
-- s_need_other_clock: 0 clock
theorem sc_need_other_clock : FnScope ["clock"] ["clock"] (defScope s_need_other_clock) := ⟨rfl, rfl, rfl, by decide +kernel, rfl, by decide +kernel, by decide +kernel⟩
-- s_are_gains: 0 thing, 1 one
theorem sc_are_gains : FnScope ["thing", "one"] ["thing"] (defScope s_are_gains) := ⟨rfl, rfl, rfl, by decide +kernel, rfl, by decide +kernel, by decide +kernel⟩
-- s_moved: 0 bound, 1 by
theorem sc_moved : FnScope ["bound", "by"] ["bound", "by"] (defScope s_moved) := ⟨rfl, rfl, rfl, by decide +kernel, rfl, by decide +kernel, by decide +kernel⟩
-- s_law_cell_at: 0 _law_script, 1 _law_k
theorem sc_law_cell_at : FnScope ["_law_script", "_law_k"] ["_law_script", "_law_k"] (defScope s_law_cell_at) := ⟨rfl, rfl, rfl, by decide +kernel, rfl, by decide +kernel, by decide +kernel⟩
-- s_law_next: 0 _law_seed
theorem sc_law_next : FnScope ["_law_seed"] ["_law_seed"] (defScope s_law_next) := ⟨rfl, rfl, rfl, by decide +kernel, rfl, by decide +kernel, by decide +kernel⟩
-- s_law_pen_of: 0 _law_cell, 1 _law_left
theorem sc_law_pen_of : FnScope ["_law_cell", "_law_left"] ["_law_cell"] (defScope s_law_pen_of) := ⟨rfl, rfl, rfl, by decide +kernel, rfl, by decide +kernel, by decide +kernel⟩
-- s_law_draw: 0 _law_pen, 1 _law_many, 2 _law_found
theorem sc_law_draw : FnScope ["_law_pen", "_law_many", "_law_found"] ["_law_pen", "_law_many"] (defScope s_law_draw) := ⟨rfl, rfl, rfl, by decide +kernel, rfl, by decide +kernel, by decide +kernel⟩
-- s_law_made: 0 _law_top, 1 _law_bottom, 2 _law_one, 3 _law_other
theorem sc_law_made : FnScope ["_law_top", "_law_bottom", "_law_one", "_law_other"] ["_law_top", "_law_bottom"] (defScope s_law_made) := ⟨rfl, rfl, rfl, by decide +kernel, rfl, by decide +kernel, by decide +kernel⟩
-- s_law_sum: 0 _law_one, 1 _law_other
theorem sc_law_sum : FnScope ["_law_one", "_law_other"] ["_law_one", "_law_other"] (defScope s_law_sum) := ⟨rfl, rfl, rfl, by decide +kernel, rfl, by decide +kernel, by decide +kernel⟩
-- s_law_rest: 0 _law_one, 1 _law_other
theorem sc_law_rest : FnScope ["_law_one", "_law_other"] ["_law_one", "_law_other"] (defScope s_law_rest) := ⟨rfl, rfl, rfl, by decide +kernel, rfl, by decide +kernel, by decide +kernel⟩
-- s_law_prod: 0 _law_one, 1 _law_other
theorem sc_law_prod : FnScope ["_law_one", "_law_other"] ["_law_one", "_law_other"] (defScope s_law_prod) := ⟨rfl, rfl, rfl, by decide +kernel, rfl, by decide +kernel, by decide +kernel⟩
-- s_law_under: 0 _law_one, 1 _law_other
theorem sc_law_under : FnScope ["_law_one", "_law_other"] ["_law_one", "_law_other"] (defScope s_law_under) := ⟨rfl, rfl, rfl, by decide +kernel, rfl, by decide +kernel, by decide +kernel⟩
-- s_law_some: 0 _law_pen, 1 _law_top, 2 _law_bottom
theorem sc_law_some : FnScope ["_law_pen", "_law_top", "_law_bottom"] ["_law_pen"] (defScope s_law_some) := ⟨rfl, rfl, rfl, by decide +kernel, rfl, by decide +kernel, by decide +kernel⟩
-- s_law_up: 0 _law_pen
theorem sc_law_up : FnScope ["_law_pen"] ["_law_pen"] (defScope s_law_up) := ⟨rfl, rfl, rfl, by decide +kernel, rfl, by decide +kernel, by decide +kernel⟩
-- s_law_row: 0 _law_pen, 1 _law_clock
theorem sc_law_row : FnScope ["_law_pen", "_law_clock"] ["_law_pen"] (defScope s_law_row) := ⟨rfl, rfl, rfl, by decide +kernel, rfl, by decide +kernel, by decide +kernel⟩
-- s_law_true: 0 _law_pen, 1 _law_row_here, 2 _law_near, 3 _law_one, 4 _law_other, 5 _law_apart, 6 _law_low, 7 _law_high, 8 _law_ends
theorem sc_law_true : FnScope ["_law_pen", "_law_row_here", "_law_near", "_law_one", "_law_other", "_law_apart", "_law_low", "_law_high", "_law_ends"] ["_law_pen", "_law_row_here", "_law_near"] (defScope s_law_true) := ⟨rfl, rfl, rfl, by decide +kernel, rfl, by decide +kernel, by decide +kernel⟩
-- s_law_gains: 0 _law_pen, 1 _law_some_here, 2 _law_clock, 3 _law_gain
theorem sc_law_gains : FnScope ["_law_pen", "_law_some_here", "_law_clock", "_law_gain"] ["_law_pen"] (defScope s_law_gains) := ⟨rfl, rfl, rfl, by decide +kernel, rfl, by decide +kernel, by decide +kernel⟩
-- s_law_drift: 0 _law_clock, 1 _law_moment, 2 _law_found, 3 _law_when, 4 _law_jump
theorem sc_law_drift : FnScope ["_law_clock", "_law_moment", "_law_found", "_law_when", "_law_jump"] ["_law_clock", "_law_moment"] (defScope s_law_drift) := ⟨rfl, rfl, rfl, by decide +kernel, rfl, by decide +kernel, by decide +kernel⟩
-- s_law_sets_of: 0 _law_pen, 1 _law_found, 2 _law_turn, 3 _law_jump
theorem sc_law_sets_of : FnScope ["_law_pen", "_law_found", "_law_turn", "_law_jump"] ["_law_pen"] (defScope s_law_sets_of) := ⟨rfl, rfl, rfl, by decide +kernel, rfl, by decide +kernel, by decide +kernel⟩
-- s_law_told_of: 0 _law_pen, 1 _law_row_here, 2 _law_clocks_here, 3 _law_found, 4 _law_turn, 5 _law_moment, 6 _law_one, 7 _law_other, 8 _law_low, 9 _law_high, 10 _law_by, 11 _law_ends, 12 _law_bound
theorem sc_law_told_of : FnScope ["_law_pen", "_law_row_here", "_law_clocks_here", "_law_found", "_law_turn", "_law_moment", "_law_one", "_law_other", "_law_low", "_law_high", "_law_by", "_law_ends", "_law_bound"] ["_law_pen", "_law_row_here", "_law_clocks_here"] (defScope s_law_told_of) := ⟨rfl, rfl, rfl, by decide +kernel, rfl, by decide +kernel, by decide +kernel⟩
-- s_law_clocks: 0 _law_gains_here, 1 _law_sets, 2 _law_found, 3 _law_clock, 4 _law_gain, 5 _law_own, 6 _law_number, 7 _law_when, 8 _law_jump, 9 _law_one
theorem sc_law_clocks : FnScope ["_law_gains_here", "_law_sets", "_law_found", "_law_clock", "_law_gain", "_law_own", "_law_number", "_law_when", "_law_jump", "_law_one"] ["_law_gains_here", "_law_sets"] (defScope s_law_clocks) := ⟨rfl, rfl, rfl, by decide +kernel, rfl, by decide +kernel, by decide +kernel⟩
-- s_law_mixed: 0 _law_pen, 1 _law_some_here, 2 _law_left, 3 _law_found, 4 _law_one
theorem sc_law_mixed : FnScope ["_law_pen", "_law_some_here", "_law_left", "_law_found", "_law_one"] ["_law_pen", "_law_some_here"] (defScope s_law_mixed) := ⟨rfl, rfl, rfl, by decide +kernel, rfl, by decide +kernel, by decide +kernel⟩
-- s_law_tell: 0 _law_post, 1 _law_deed
theorem sc_law_tell : FnScope ["_law_post", "_law_deed"] ["_law_post", "_law_deed"] (defScope s_law_tell) := ⟨rfl, rfl, rfl, by decide +kernel, rfl, by decide +kernel, by decide +kernel⟩
-- s_law_same: 0 _law_post, 1 _law_other, 2 _law_mine, 3 _law_yours, 4 _law_clock, 5 _law_moment, 6 _law_one
theorem sc_law_same : FnScope ["_law_post", "_law_other", "_law_mine", "_law_yours", "_law_clock", "_law_moment", "_law_one"] ["_law_post", "_law_other"] (defScope s_law_same) := ⟨rfl, rfl, rfl, by decide +kernel, rfl, by decide +kernel, by decide +kernel⟩
-- s_law_in: 0 _law_part, 1 _law_stretch
theorem sc_law_in : FnScope ["_law_part", "_law_stretch"] ["_law_part", "_law_stretch"] (defScope s_law_in) := ⟨rfl, rfl, rfl, by decide +kernel, rfl, by decide +kernel, by decide +kernel⟩
-- s_law_row_right: 0 _law_post, 1 _law_row_here, 2 _law_standing, 3 _law_clock, 4 _law_moment, 5 _law_by, 6 _law_due, 7 _law_number, 8 _law_telling, 9 _law_end
theorem sc_law_row_right : FnScope ["_law_post", "_law_row_here", "_law_standing", "_law_clock", "_law_moment", "_law_by", "_law_due", "_law_number", "_law_telling", "_law_end"] ["_law_post", "_law_row_here"] (defScope s_law_row_right) := ⟨rfl, rfl, rfl, by decide +kernel, rfl, by decide +kernel, by decide +kernel⟩
-- s_law: 0 _law_script, 1 _law_cell, 2 _law_pen, 3 _law_gains_here, 4 _law_row_here, 5 _law_sets, 6 _law_told, 7 _law_posts, 8 _law_deed, 9 _law_number, 10 _law_ahead, 11 _law_later, 12 _law_end
theorem sc_law : FnScope ["_law_script", "_law_cell", "_law_pen", "_law_gains_here", "_law_row_here", "_law_sets", "_law_told", "_law_posts", "_law_deed", "_law_number", "_law_ahead", "_law_later", "_law_end"] ["_law_script"] (defScope s_law) := ⟨rfl, rfl, rfl, by decide +kernel, rfl, by decide +kernel, by decide +kernel⟩
-- m_init: 0 self, 1 gains, 2 gain
theorem sc_m_init : FnScope ["self", "gains", "gain"] ["self", "gains"] (defScope m_init) := ⟨rfl, rfl, rfl, by decide +kernel, rfl, by decide +kernel, by decide +kernel⟩
-- m_taken_back: 0 self, 1 clocks, 2 told, 3 found, 4 number, 5 moment, 6 one, 7 other, 8 low, 9 high, 10 by
theorem sc_m_taken_back : FnScope ["self", "clocks", "told", "found", "number", "moment", "one", "other", "low", "high", "by"] ["self", "clocks", "told"] (defScope m_taken_back) := ⟨rfl, rfl, rfl, by decide +kernel, rfl, by decide +kernel, by decide +kernel⟩
-- m_become: 0 self, 1 clocks, 2 told, 3 next_number
theorem sc_m_become : FnScope ["self", "clocks", "told", "next_number"] ["self", "clocks", "told", "next_number"] (defScope m_become) := ⟨rfl, rfl, rfl, by decide +kernel, rfl, by decide +kernel, by decide +kernel⟩
-- m_tells: 0 self, 1 moment, 2 one, 3 other, 4 low, 5 high, 6 told
theorem sc_m_tells : FnScope ["self", "moment", "one", "other", "low", "high", "told"] ["self", "moment", "one", "other", "low", "high"] (defScope m_tells) := ⟨rfl, rfl, rfl, by decide +kernel, rfl, by decide +kernel, by decide +kernel⟩
-- m_sets: 0 self, 1 clock, 2 moment, 3 jump, 4 gain, 5 ahead, 6 at, 7 own, 8 clocks, 9 when, 10 by
theorem sc_m_sets : FnScope ["self", "clock", "moment", "jump", "gain", "ahead", "at", "own", "clocks", "when", "by"] ["self", "clock", "moment", "jump"] (defScope m_sets) := ⟨rfl, rfl, rfl, by decide +kernel, rfl, by decide +kernel, by decide +kernel⟩
-- m_calls_false: 0 self, 1 number, 2 told, 3 one
theorem sc_m_calls_false : FnScope ["self", "number", "told", "one"] ["self", "number"] (defScope m_calls_false) := ⟨rfl, rfl, rfl, by decide +kernel, rfl, by decide +kernel, by decide +kernel⟩
-- m_back: 0 self
theorem sc_m_back : FnScope ["self"] ["self"] (defScope m_back) := ⟨rfl, rfl, rfl, by decide +kernel, rfl, by decide +kernel, by decide +kernel⟩
-- m_stretch_at: 0 self, 1 clock, 2 moment
theorem sc_m_stretch_at : FnScope ["self", "clock", "moment"] ["self", "clock", "moment"] (defScope m_stretch_at) := ⟨rfl, rfl, rfl, by decide +kernel, rfl, by decide +kernel, by decide +kernel⟩
-- m_stretch_then: 0 self, 1 clock, 2 moment, 3 low, 4 high, 5 by
theorem sc_m_stretch_then : FnScope ["self", "clock", "moment", "low", "high", "by"] ["self", "clock", "moment"] (defScope m_stretch_then) := ⟨rfl, rfl, rfl, by decide +kernel, rfl, by decide +kernel, by decide +kernel⟩
-- m_standing: 0 self, 1 numbers, 2 one
theorem sc_m_standing : FnScope ["self", "numbers", "one"] ["self"] (defScope m_standing) := ⟨rfl, rfl, rfl, by decide +kernel, rfl, by decide +kernel, by decide +kernel⟩
-- m_clock_now: 0 self, 1 clock
theorem sc_m_clock_now : FnScope ["self", "clock"] ["self", "clock"] (defScope m_clock_now) := ⟨rfl, rfl, rfl, by decide +kernel, rfl, by decide +kernel, by decide +kernel⟩
-- m_len: 0 self
theorem sc_m_len : FnScope ["self"] ["self"] (defScope m_len) := ⟨rfl, rfl, rfl, by decide +kernel, rfl, by decide +kernel, by decide +kernel⟩
end Gc
namespace Gc
open PySem PySem.Spec PyProof.Rows L2
/-! ## values as data, read off an abstract heap -/
mutual
def nolst : PyData → Bool
  | .list _ => false
  | .dict _ => false
  | .tuple ds => nolstA ds
  | .none => true
  | .bool _ => true
  | .int _ => true
  | .str _ => true
def nolstA : List PyData → Bool
  | [] => true
  | d :: ds => nolst d && nolstA ds
end
/-- a pen: a list of three ints -/
def PenO (o : HO) : Prop := ∃ a b c : Int, o = .lst [.int a, .int b, .int c]
def PenAt (H : Hp) (p : Addr) : Prop := ∃ o, H p = some o ∧ PenO o
/-- what may change: the pens P (they stay pens); M: what no data reads -/
structure Md where
  P : List Addr
  M : List Addr
  sub : ∀ a, a ∈ P → a ∈ M
def md0 : Md := ⟨[], [], fun _ h => h⟩
structure Wm (m : Md) (H H1 : Hp) : Prop where
  keep : ∀ a o, H a = some o → (a ∉ m.P ∨ ∃ xs, o = .tup xs) → H1 a = some o
  pens : ∀ a, a ∈ m.P → PenAt H1 a
  ok : ∀ a, a ∈ m.M → H1 a ≠ none
theorem Wm.rfl1 {m : Md} {H H1 : Hp} (w : Wm m H H1) : Wm m H1 H1 := ⟨fun _ _ h _ => h, w.pens, w.ok⟩
theorem Wm.trans {m : Md} {H H1 H2 : Hp} (a : Wm m H H1) (b : Wm m H1 H2) : Wm m H H2 := ⟨fun x o h q => b.keep x o (a.keep x o h q) q, b.pens, b.ok⟩
theorem PenAt.keep {H H1 : Hp} {a : Addr} (k : Same H H1) (h : PenAt H a) : PenAt H1 a := let ⟨o, h1, h2⟩ := h; ⟨o, k _ _ h1, h2⟩
/-- a state from which everything stays -/
theorem Wm.same {m : Md} {H H1 H2 : Hp} (w : Wm m H H1) (k : Same H1 H2) : Wm m H1 H2 :=
  ⟨fun _ _ h _ => k _ _ h, fun a ha => (w.pens a ha).keep k, fun a ha q => by
    cases e : H1 a with
    | none => exact w.ok a ha e
    | some o => rw [k _ _ e] at q; cases q⟩
theorem Same.new {H : Hp} {p : Addr} {o : HO} (h : H p = none) : Same H (upd H p o) := fun a u e => by
  rw [upd_ne (ne_of_none e h)]
  exact e
theorem Wm.new {m : Md} {H H1 : Hp} {p : Addr} {o : HO} (w : Wm m H H1) (h : H1 p = none) : Wm m H1 (upd H1 p o) := w.same (Same.new h)
theorem Wm.fresh {m : Md} {H H1 : Hp} {p : Addr} (w : Wm m H H1) (h : H1 p = none) : p ∉ m.M := fun q => w.ok p q h
theorem Wm.old {H H1 : Hp} (w : Wm md0 H H1) : Same H H1 := fun a o h => w.keep a o h (.inl (by intro q; cases q))
theorem Same.w0 {H H1 : Hp} (k : Same H H1) : Wm md0 H H1 := ⟨fun a o h _ => k a o h, (fun a q => by cases q), (fun a q => by cases q)⟩
theorem Wm.back {m : Md} {H H1 : Hp} {p : Addr} (w : Wm m H H1) (hP : ∀ a, a ∈ m.P → H a ≠ none) (h : H1 p = none) : H p = none := by
  cases e : H p with
  | none => rfl
  | some o =>
    by_cases hp : p ∈ m.P
    · obtain ⟨o', h1, _⟩ := w.pens p hp
      rw [h] at h1; cases h1
    · rw [w.keep p o e (.inl hp)] at h; cases h

mutual
inductive Dr (K : PySem.W.Frag) (M : List Addr) (H : Hp) : V → PyData → Prop
  | non : Dr K M H .non .none
  | bl (b : Bool) : Dr K M H (.bl b) (.bool b)
  | int (i : Int) : Dr K M H (.int i) (.int i)
  | str (x : Str) : Dr K M H (.str x) (.str x)
  | lst {a : Addr} {vs : List V} {ds : List PyData} (h : H a = some (.lst vs)) (hm : a ∉ M) (r : DrA K M H vs ds) : Dr K M H (.ref a) (.list ds)
  | tup {a : Addr} {vs : List V} {ds : List PyData} (h : H a = some (.tup vs)) (r : DrA K M H vs ds) : Dr K M H (.ref a) (.tuple ds)
  | kt {a : Addr} {vs : List V} {ds : List PyData} (h : SqT K (fun _ => none) a vs) (r : DrA K M H vs ds) : Dr K M H (.ref a) (.tuple ds)
inductive DrA (K : PySem.W.Frag) (M : List Addr) (H : Hp) : List V → List PyData → Prop
  | nil : DrA K M H [] []
  | cons {v : V} {vs : List V} {d : PyData} {ds : List PyData} (h : Dr K M H v d) (r : DrA K M H vs ds) : DrA K M H (v :: vs) (d :: ds)
end
section
variable {K : PySem.W.Frag} {m : Md} {M M' : List Addr} {H H1 : Hp}
theorem sqT_k {a : Addr} {vs : List V} (h : SqT K (fun _ => none) a vs) (H : Hp) : SqT K H a vs := by
  rcases h with (h | ⟨o, h⟩) | h
  · cases h
  · cases h
  · exact .inr h
mutual
theorem Dr.mono (w : Wm m H H1) : ∀ (d : PyData) (v : V), Dr K m.M H v d → Dr K m.M H1 v d
  | .none, _, h => by cases h; exact .non
  | .bool b, _, h => by cases h; exact .bl b
  | .int i, _, h => by cases h; exact .int i
  | .str x, _, h => by cases h; exact .str x
  | .list ds, _, h => by
    cases h with
    | lst h hm r => exact .lst (w.keep _ _ h (.inl fun q => hm (m.sub _ q))) hm (DrA.mono w ds _ r)
  | .tuple ds, _, h => by
    cases h with
    | tup h r => exact .tup (w.keep _ _ h (.inr ⟨_, rfl⟩)) (DrA.mono w ds _ r)
    | kt h r => exact .kt h (DrA.mono w ds _ r)
  | .dict _, _, h => by cases h
theorem DrA.mono (w : Wm m H H1) : ∀ (ds : List PyData) (vs : List V), DrA K m.M H vs ds → DrA K m.M H1 vs ds
  | [], _, h => by cases h; exact .nil
  | d :: ds, _, h => by
    cases h with
    | cons h r => exact .cons (Dr.mono w d _ h) (DrA.mono w ds _ r)
end
/- all stays, what M bars may change -/
mutual
theorem Dr.sub (k : Same H H1) (hM : ∀ a, H a ≠ none → a ∈ M' → a ∈ M) : ∀ (d : PyData) (v : V), Dr K M H v d → Dr K M' H1 v d
  | .none, _, h => by cases h; exact .non
  | .bool b, _, h => by cases h; exact .bl b
  | .int i, _, h => by cases h; exact .int i
  | .str x, _, h => by cases h; exact .str x
  | .list ds, _, h => by
    cases h with
    | lst h hm r => exact .lst (k _ _ h) (fun q => hm (hM _ (by rw [h]; simp) q)) (DrA.sub k hM ds _ r)
  | .tuple ds, _, h => by
    cases h with
    | tup h r => exact .tup (k _ _ h) (DrA.sub k hM ds _ r)
    | kt h r => exact .kt h (DrA.sub k hM ds _ r)
  | .dict _, _, h => by cases h
theorem DrA.sub (k : Same H H1) (hM : ∀ a, H a ≠ none → a ∈ M' → a ∈ M) : ∀ (ds : List PyData) (vs : List V), DrA K M H vs ds → DrA K M' H1 vs ds
  | [], _, h => by cases h; exact .nil
  | d :: ds, _, h => by
    cases h with
    | cons h r => exact .cons (Dr.sub k hM d _ h) (DrA.sub k hM ds _ r)
end
/- a store to a list that M bars -/
mutual
theorem Dr.mut {l : Addr} {xs : List V} {o : HO} (hl : H l = some (.lst xs)) (hm : l ∈ M) : ∀ (d : PyData) (v : V), Dr K M H v d → Dr K M (upd H l o) v d
  | .none, _, h => by cases h; exact .non
  | .bool b, _, h => by cases h; exact .bl b
  | .int i, _, h => by cases h; exact .int i
  | .str x, _, h => by cases h; exact .str x
  | .list ds, _, h => by
    cases h with
    | lst h hn r => exact .lst ((upd_ne (fun q => hn (by rw [q]; exact hm))).trans h) hn (DrA.mut hl hm ds _ r)
  | .tuple ds, _, h => by
    cases h with
    | tup h r => exact .tup ((upd_ne (ne_of h hl (by intro q; cases q))).trans h) (DrA.mut hl hm ds _ r)
    | kt h r => exact .kt h (DrA.mut hl hm ds _ r)
  | .dict _, _, h => by cases h
theorem DrA.mut {l : Addr} {xs : List V} {o : HO} (hl : H l = some (.lst xs)) (hm : l ∈ M) : ∀ (ds : List PyData) (vs : List V), DrA K M H vs ds → DrA K M (upd H l o) vs ds
  | [], _, h => by cases h; exact .nil
  | d :: ds, _, h => by
    cases h with
    | cons h r => exact .cons (Dr.mut hl hm d _ h) (DrA.mut hl hm ds _ r)
end
/- without lists nothing is barred -/
mutual
theorem Dr.free : ∀ (d : PyData) (v : V), nolst d = true → Dr K M H v d → Dr K M' H v d
  | .none, _, _, h => by cases h; exact .non
  | .bool b, _, _, h => by cases h; exact .bl b
  | .int i, _, _, h => by cases h; exact .int i
  | .str x, _, _, h => by cases h; exact .str x
  | .list ds, _, e, h => by cases e
  | .tuple ds, _, e, h => by
    cases h with
    | tup h r => exact .tup h (DrA.free ds _ e r)
    | kt h r => exact .kt h (DrA.free ds _ e r)
  | .dict _, _, _, h => by cases h
theorem DrA.free : ∀ (ds : List PyData) (vs : List V), nolstA ds = true → DrA K M H vs ds → DrA K M' H vs ds
  | [], _, _, h => by cases h; exact .nil
  | d :: ds, _, e, h => by
    obtain ⟨e1, e2⟩ := Bool.and_eq_true_iff.mp (show (nolst d && nolstA ds) = true from e)
    cases h with
    | cons h r => exact .cons (Dr.free d _ e1 h) (DrA.free ds _ e2 r)
end
mutual
theorem Dr.dp : ∀ (d : PyData) (v : V), Dr K M H v d → Dp K H v d
  | .none, _, h => by cases h; exact .non
  | .bool b, _, h => by cases h; exact .bl b
  | .int i, _, h => by cases h; exact .int i
  | .str x, _, h => by cases h; exact .str x
  | .list ds, _, h => by
    cases h with
    | lst h hn r => exact .lst (SqL.of h) (DrA.dp ds _ r)
  | .tuple ds, _, h => by
    cases h with
    | tup h r => exact .tup (SqT.of h) (DrA.dp ds _ r)
    | kt h r => exact .tup (sqT_k h H) (DrA.dp ds _ r)
  | .dict _, _, h => by cases h
theorem DrA.dp : ∀ (ds : List PyData) (vs : List V), DrA K M H vs ds → DpAll K H vs ds
  | [], _, h => by cases h; exact .nil
  | d :: ds, _, h => by
    cases h with
    | cons h r => exact .cons (Dr.dp d _ h) (DrA.dp ds _ r)
end
theorem DrA.len : ∀ {ds : List PyData} {vs : List V}, DrA K M H vs ds → vs.length = ds.length
  | [], _, h => by cases h; rfl
  | d :: ds, _, h => by
    cases h with
    | cons h r => exact congrArg Nat.succ r.len
theorem DrA.at : ∀ {ds : List PyData} {vs : List V} {i : Nat} {d : PyData}, DrA K M H vs ds → ds[i]? = some d → ∃ v, vs[i]? = some v ∧ Dr K M H v d
  | [], _, _, _, _, e => by simp at e
  | d :: ds, _, 0, _, h, e => by
    cases h with
    | cons h r =>
      have e' : d = _ := Option.some.inj e
      subst e'
      exact ⟨_, rfl, h⟩
  | d :: ds, _, i + 1, x, h, e => by
    cases h with
    | cons h r =>
      have e' : ds[i]? = some x := by simpa using e
      obtain ⟨v, h1, h2⟩ := r.at e'
      exact ⟨v, by simpa using h1, h2⟩
theorem DrA.at' : ∀ {ds : List PyData} {vs : List V} {i : Nat} {v : V}, DrA K M H vs ds → vs[i]? = some v → ∃ d, ds[i]? = some d ∧ Dr K M H v d := fun {ds vs i v} h e => by
  have hi : i < ds.length := by rw [← h.len]; exact (List.getElem?_eq_some_iff.mp e).1
  obtain ⟨v', h1, h2⟩ := h.at (List.getElem?_eq_getElem hi)
  rw [e] at h1
  cases h1
  exact ⟨_, List.getElem?_eq_getElem hi, h2⟩
theorem DrA.append : ∀ {ds es : List PyData} {vs ws : List V}, DrA K M H vs ds → DrA K M H ws es → DrA K M H (vs ++ ws) (ds ++ es)
  | [], _, _, _, h, h2 => by cases h; exact h2
  | d :: ds, _, _, _, h, h2 => by
    cases h with
    | cons h r => exact .cons h (r.append h2)
theorem DrA.one {v : V} {d : PyData} (h : Dr K M H v d) : DrA K M H [v] [d] := .cons h .nil
theorem DrA.set : ∀ {ds : List PyData} {vs : List V} {i : Nat} {v : V} {d : PyData}, DrA K M H vs ds → Dr K M H v d → DrA K M H (vs.set i v) (ds.set i d)
  | [], _, _, _, _, h, _ => by cases h; exact .nil
  | x :: ds, _, 0, _, _, h, q => by
    cases h with
    | cons h r => exact .cons q r
  | x :: ds, _, i + 1, _, _, h, q => by
    cases h with
    | cons h r => exact .cons h (r.set q)
theorem DrA.eraseIdx : ∀ {ds : List PyData} {vs : List V} {i : Nat}, DrA K M H vs ds → DrA K M H (vs.eraseIdx i) (ds.eraseIdx i)
  | [], _, _, h => by cases h; exact .nil
  | x :: ds, _, 0, h => by
    cases h with
    | cons h r => exact r
  | x :: ds, _, i + 1, h => by
    cases h with
    | cons h r => exact .cons h r.eraseIdx
theorem DrA.take : ∀ {ds : List PyData} {vs : List V} (i : Nat), DrA K M H vs ds → DrA K M H (vs.take i) (ds.take i)
  | [], _, i, h => by cases h; rw [List.take_nil, List.take_nil]; exact .nil
  | x :: ds, _, 0, h => .nil
  | x :: ds, _, i + 1, h => by
    cases h with
    | cons h r => exact .cons h (r.take i)
theorem DrA.drop : ∀ {ds : List PyData} {vs : List V} (i : Nat), DrA K M H vs ds → DrA K M H (vs.drop i) (ds.drop i)
  | [], _, i, h => by cases h; rw [List.drop_nil, List.drop_nil]; exact .nil
  | x :: ds, _, 0, h => h
  | x :: ds, _, i + 1, h => by
    cases h with
    | cons h r => exact r.drop i
theorem DrA.reverse : ∀ {ds : List PyData} {vs : List V}, DrA K M H vs ds → DrA K M H vs.reverse ds.reverse
  | [], _, h => by cases h; exact .nil
  | x :: ds, _, h => by
    cases h with
    | cons h r =>
      rw [List.reverse_cons, List.reverse_cons]
      exact r.reverse.append (.one h)
theorem DrA.map_int {M : List Addr} : ∀ (ns : List Int), DrA K M H (ns.map V.int) (ns.map PyData.int)
  | [] => .nil
  | n :: ns => .cons (.int n) (DrA.map_int ns)
/-- a tuple's items -/
theorem Dr.items {v : V} {ds : List PyData} (h : Dr K M H v (.tuple ds)) : ∃ a vs, v = .ref a ∧ SqT K H a vs ∧ DrA K M H vs ds := by
  cases h with
  | tup h r => exact ⟨_, _, rfl, SqT.of h, r⟩
  | kt h r => exact ⟨_, _, rfl, sqT_k h H, r⟩
theorem Dr.litems {v : V} {ds : List PyData} (h : Dr K M H v (.list ds)) : ∃ a vs, v = .ref a ∧ H a = some (.lst vs) ∧ a ∉ M ∧ DrA K M H vs ds := by
  cases h with
  | lst h hm r => exact ⟨_, _, rfl, h, hm, r⟩
end

/-- what stands in a slot: data, or a value as it is -/
inductive Item where
  | d (x : PyData)
  | v (u : V)
def Ir (K : PySem.W.Frag) (M : List Addr) (H : Hp) (v : V) : Item → Prop
  | .d x => Dr K M H v x
  | .v u => v = u
inductive IrA (K : PySem.W.Frag) (M : List Addr) (H : Hp) : List V → List Item → Prop
  | nil : IrA K M H [] []
  | cons {v : V} {vs : List V} {i : Item} {is : List Item} (h : Ir K M H v i) (r : IrA K M H vs is) : IrA K M H (v :: vs) (i :: is)
theorem Ir.mono {K : PySem.W.Frag} {m : Md} {H H1 : Hp} (w : Wm m H H1) {v : V} {i : Item} (h : Ir K m.M H v i) : Ir K m.M H1 v i := by
  cases i with
  | d x => exact Dr.mono w x v h
  | v u => exact h
theorem IrA.data {K : PySem.W.Frag} {M : List Addr} {H : Hp} : ∀ {ds : List PyData} {vs : List V}, IrA K M H vs (ds.map Item.d) → DrA K M H vs ds
  | [], _, h => by cases h; exact .nil
  | d :: ds, _, h => by
    cases h with
    | cons h r => exact .cons h r.data
/-- the slots -/
structure En (K : PySem.W.Frag) (M : List Addr) (H : Hp) (σ : L2.St) (ds : List (Option Item)) : Prop where
  len : σ.length = ds.length
  at_ : ∀ (i : Nat) (it : Item), ds[i]? = some (some it) → ∃ v, σ[i]? = some (some v) ∧ Ir K M H v it
section
variable {K : PySem.W.Frag} {m : Md} {M : List Addr} {H H1 : Hp} {σ : L2.St} {ds : List (Option Item)}
theorem En.mono (w : Wm m H H1) (E : En K m.M H σ ds) : En K m.M H1 σ ds := ⟨E.len, fun i it h => let ⟨v, h1, h2⟩ := E.at_ i it h; ⟨v, h1, h2.mono w⟩⟩
theorem En.set {i : Nat} {v : V} {it : Item} (E : En K M H σ ds) (h : Ir K M H v it) : En K M H (σ.set i (some v)) (ds.set i (some it)) := by
  refine ⟨by rw [List.length_set, List.length_set]; exact E.len, fun j jt hj => ?_⟩
  by_cases e : i = j
  · subst e
    by_cases hl : i < ds.length
    · rw [List.getElem?_set_self hl] at hj
      have e2 : it = jt := Option.some.inj (Option.some.inj hj)
      subst e2
      exact ⟨v, List.getElem?_set_self (by rw [E.len]; exact hl), h⟩
    · rw [List.getElem?_eq_none (by rw [List.length_set]; omega)] at hj
      cases hj
  · rw [List.getElem?_set_ne e] at hj
    obtain ⟨u, h1, h2⟩ := E.at_ j jt hj
    exact ⟨u, by rw [List.getElem?_set_ne e]; exact h1, h2⟩
theorem En.weak {ds' : List (Option Item)} (E : En K M H σ ds) (hl : ds'.length = ds.length) (h : ∀ (i : Nat) it, ds'[i]? = some (some it) → ds[i]? = some (some it)) : En K M H σ ds' :=
  ⟨by rw [hl]; exact E.len, fun i it e => E.at_ i it (h i it e)⟩
theorem Ir.mut {l : Addr} {xs : List V} {o : HO} (hl : H l = some (.lst xs)) (hm : l ∈ M) {v : V} {i : Item} (h : Ir K M H v i) : Ir K M (upd H l o) v i := by
  cases i with
  | d x => exact Dr.mut hl hm x v h
  | v u => exact h
theorem En.mut {l : Addr} {xs : List V} {o : HO} (hl : H l = some (.lst xs)) (hm : l ∈ M) (E : En K M H σ ds) : En K M (upd H l o) σ ds := ⟨E.len, fun i it h => let ⟨v, h1, h2⟩ := E.at_ i it h; ⟨v, h1, h2.mut hl hm⟩⟩
theorem Ir.sub {M' : List Addr} (k : Same H H1) (hM : ∀ a, H a ≠ none → a ∈ M' → a ∈ M) {v : V} {i : Item} (h : Ir K M H v i) : Ir K M' H1 v i := by
  cases i with
  | d x => exact Dr.sub k hM x v h
  | v u => exact h
theorem En.sub {M' : List Addr} (k : Same H H1) (hM : ∀ a, H a ≠ none → a ∈ M' → a ∈ M) (E : En K M H σ ds) : En K M' H1 σ ds := ⟨E.len, fun i it h => let ⟨v, h1, h2⟩ := E.at_ i it h; ⟨v, h1, h2.sub k hM⟩⟩
end
end Gc
namespace Gc
open PySem PySem.Spec PyProof.Rows L2
/-! ## each judgement's own reading: what it asks is that it runs -/
def cE (X : Cx) (e : Expr) : TE := fun σ H Q => ∀ pins s, Inv X pins σ H s → wpAny (model X.prog X.w) X.A (eval e X.env) (EP X pins σ Q) X.xe s
def cT (X : Cx) (e : Expr) : TT := fun σ H Q => ∀ pins s, Inv X pins σ H s → wpAny (model X.prog X.w) X.A (isTrue e X.env (eval e X.env)) (TP X pins σ Q) X.xe s
def cW (X : Cx) (e : Expr) : TT := fun σ H Q => ∀ whole pins s, Inv X pins σ H s → wpAny (model X.prog X.w) X.A (isTrue e X.env whole) (TP X pins σ Q) X.xe s
def cA (X : Cx) (es : List Expr) : TA := fun σ H Q => ∀ pos pins s, Inv X pins σ H s → wpAny (model X.prog X.w) X.A (spliced (backTo pos (starEach es X.env))) (AP X pins σ Q) X.xe s
def cSs (X : Cx) (st : List Stmt) : TS := fun D σ H => ∀ pins s, Inv X pins σ H s → wpAny (model X.prog X.w) X.A (execs st X.env) (SP X pins D) X.xe s
def cG (X : Cx) (tg : Expr) : TG := fun v σ H Q => ∀ pins s u, Inv X pins σ H s → RelV v u → wpAny (model X.prog X.w) X.A (assign tg X.env u) (fun _ s' => ∃ σ' H', Inv X pins σ' H' s' ∧ Q σ' H') X.xe s
section
variable {X : Cx} {e : Expr} {es : List Expr} {st : Stmt} {sts : List Stmt} {σ : L2.St} {H : Hp}
theorem pe_c : PE X e (cE X e) := ⟨fun pins s σ H Q I h => h pins s I⟩
theorem pt_c : PT X e (cT X e) := ⟨fun pins s σ H Q I h => h pins s I⟩
theorem pw_c : PW X e (cW X e) := ⟨fun whole pins s σ H Q I h => h whole pins s I⟩
theorem pa_c : PA X es (cA X es) := ⟨fun pos pins s σ H Q I h => h pos pins s I⟩
theorem pss_c : PSs X sts (cSs X sts) := ⟨fun pins s σ H D I h => h pins s I⟩
theorem pg_c : PG X e (cG X e) := ⟨fun pins s σ H v u Q I r h => h pins s u I r⟩
theorem of_pe {t : TE} {Q : VK} (h : PE X e t) (q : t σ H Q) : cE X e σ H Q := fun pins s I => h.run pins s σ H Q I q
theorem of_pt {t : TT} {Q : Bool → Hp → Prop} (h : PT X e t) (q : t σ H Q) : cT X e σ H Q := fun pins s I => h.run pins s σ H Q I q
theorem of_pw {t : TT} {Q : Bool → Hp → Prop} (h : PW X e t) (q : t σ H Q) : cW X e σ H Q := fun wh pins s I => h.run wh pins s σ H Q I q
theorem of_pa {t : TA} {Q : List V → Hp → Prop} (h : PA X es t) (q : t σ H Q) : cA X es σ H Q := fun pos pins s I => h.run pos pins s σ H Q I q
theorem of_pg {t : TG} {v : V} {Q : L2.St → Hp → Prop} (h : PG X e t) (q : t v σ H Q) : cG X e v σ H Q := fun pins s u I r => h.run pins s σ H v u Q I r q
theorem of_ps {t : TS} {D : Ends} (h : PS X st t) (q : t { D with nx := cSs X sts D } σ H) : cSs X (st :: sts) D σ H := fun pins s I => (pss_cons h pss_c).run pins s σ H D I q
end
/-! ## evaluation to an item, everything staying but pens -/
section
variable (m : Md) (X : Cx) (σ : L2.St) (H : Hp)
def J (e : Expr) (it : Item) : Prop := ∀ H1, Wm m H H1 → ∀ Q : VK, (∀ v H2, Wm m H1 H2 → Ir X.K m.M H2 v it → Q v H2) → cE X e σ H1 Q
def JR (e : Expr) (R : Item → Prop) : Prop := ∀ H1, Wm m H H1 → ∀ Q : VK, (∀ v it H2, Wm m H1 H2 → R it → Ir X.K m.M H2 v it → Q v H2) → cE X e σ H1 Q
def JA (es : List Expr) (its : List Item) : Prop := ∀ H1, Wm m H H1 → ∀ Q : List V → Hp → Prop, (∀ vs H2, Wm m H1 H2 → IrA X.K m.M H2 vs its → Q vs H2) → cA X es σ H1 Q
def JAR (es : List Expr) (R : List Item → Prop) : Prop := ∀ H1, Wm m H H1 → ∀ Q : List V → Hp → Prop, (∀ vs its H2, Wm m H1 H2 → R its → IrA X.K m.M H2 vs its → Q vs H2) → cA X es σ H1 Q
def JT (e : Expr) (b : Bool) : Prop := ∀ H1, Wm m H H1 → ∀ Q : Bool → Hp → Prop, (∀ H2, Wm m H1 H2 → Q b H2) → cT X e σ H1 Q
def JW (e : Expr) (b : Bool) : Prop := ∀ H1, Wm m H H1 → ∀ Q : Bool → Hp → Prop, (∀ H2, Wm m H1 H2 → Q b H2) → cW X e σ H1 Q
def JD (e : Expr) (d : PyData) : Prop := J m X σ H e (.d d)
def JAd (es : List Expr) (ds : List PyData) : Prop := JA m X σ H es (ds.map Item.d)
/-- a rule for two values, for one, for a call's values -/
def RV (r : R2) (ia ib it : Item) : Prop := ∀ H1, Wm m H H1 → ∀ x y, Ir X.K m.M H1 x ia → Ir X.K m.M H1 y ib → ∀ Q : VK, (∀ v H2, Wm m H1 H2 → Ir X.K m.M H2 v it → Q v H2) → r x y H1 Q
def RC (r : List V → Hp → VK → Prop) (its : List Item) (it : Item) : Prop := ∀ H1, Wm m H H1 → ∀ xs, IrA X.K m.M H1 xs its → ∀ Q : VK, (∀ v H2, Wm m H1 H2 → Ir X.K m.M H2 v it → Q v H2) → r xs H1 Q
end
section
variable {m : Md} {X : Cx} {σ : L2.St} {H : Hp} {a b c e o : Expr} {es rest : List Expr} {pos pos' p : Pos} {it ia ib : Item} {its : List Item} {d d1 d2 : PyData} {ds : List PyData} {r : R2} {i j : Int} {t u : Bool} {sl : List (Option Item)}
theorem J.mono {H' : Hp} (w : Wm m H H') (h : J m X σ H e it) : J m X σ H' e it := fun H1 w1 => h H1 (w.trans w1)
theorem JT.mono {H' : Hp} (w : Wm m H H') (h : JT m X σ H e t) : JT m X σ H' e t := fun H1 w1 => h H1 (w.trans w1)
theorem j_is {it' : Item} (h : J m X σ H e it) (q : it = it') : J m X σ H e it' := q ▸ h
theorem jd_is {d' : PyData} (h : JD m X σ H e d) (q : d = d') : JD m X σ H e d' := q ▸ h
theorem jt_is (h : JT m X σ H e t) (q : t = u) : JT m X σ H e u := q ▸ h
theorem jr_of (h : J m X σ H e it) : JR m X σ H e (fun z => z = it) := fun H1 w Q q => h H1 w Q fun v H2 w2 r => q v it H2 w2 rfl r
theorem jr_imp {R R' : Item → Prop} (h : JR m X σ H e R) (k : ∀ it, R it → R' it) : JR m X σ H e R' := fun H1 w Q q => h H1 w Q fun v it H2 w2 hR r => q v it H2 w2 (k it hR) r
/-! names and constants -/
theorem j_var (n : Nat) {x : Str} (E : En X.K m.M H σ sl) (hi : sl[n]? = some (some it) := by rfl) (hN : X.N[n]? = some x := by rfl) (hv : Vis X.env.scope x := by first | exact Or.inl rfl | exact Or.inr (Or.inl rfl) | exact Or.inr (Or.inr rfl))
    (hd : (x == ("__debug__" : Str)) = false := by decide) (hcd : (x == ("__classdict__" : Str)) = false := by decide) : J m X σ H (.Name x pos) it := fun H1 w Q q => by
  obtain ⟨v, h1, h2⟩ := E.at_ n it hi
  exact of_pe (pe_var hN hv hd hcd) ⟨v, h1, q v H1 w.rfl1 (h2.mono w)⟩
theorem jd_var (n : Nat) {x : Str} (E : En X.K m.M H σ sl) (hi : sl[n]? = some (some (.d d)) := by rfl) (hN : X.N[n]? = some x := by rfl) (hv : Vis X.env.scope x := by first | exact Or.inl rfl | exact Or.inr (Or.inl rfl) | exact Or.inr (Or.inr rfl))
    (hd : (x == ("__debug__" : Str)) = false := by decide) (hcd : (x == ("__classdict__" : Str)) = false := by decide) : JD m X σ H (.Name x pos) d := j_var n E hi hN hv hd hcd
theorem j_c {v : V} (h : PE X e (tC v)) (k : ∀ H, Ir X.K m.M H v it) : J m X σ H e it := fun H1 w Q q => of_pe h (q v H1 w.rfl1 (k H1))
theorem j_int {n : Nat} : JD m X σ H (.Constant (.int i) n pos) (.int i) := j_c pe_int fun _ => .int i
theorem j_bl {n : Nat} : JD m X σ H (.Constant (.bool t) n pos) (.bool t) := j_c pe_bl fun _ => .bl t
theorem j_non {n : Nat} : JD m X σ H (.Constant .none n pos) .none := j_c pe_non fun _ => .non
/-- a global that is an int, a tuple of the written part -/
theorem j_gint {x : Str} {tk : Tok} (hm : X.mg x = some (.int i tk)) (hg : Gl X x := by rfl) (hd : (x == ("__debug__" : Str)) = false := by decide) : JD m X σ H (.Name x pos) (.int i) := j_c (v := .int i) (pe_glob hg hm ⟨_, rfl⟩ hd) fun _ => .int i
theorem j_gtup {x : Str} {f : Addr} {vs : List V} (hm : X.mg x = some (.ref f)) (hf : SqT X.K (fun _ => none) f vs) (hv : ∀ H, DrA X.K m.M H vs ds) (hg : Gl X x := by rfl) (hd : (x == ("__debug__" : Str)) = false := by decide) : JD m X σ H (.Name x pos) (.tuple ds) :=
  j_c (v := .ref f) (pe_glob hg hm rfl hd) fun H => .kt hf (hv H)
/-! operators -/
theorem j_op2 {op : Operator} (ho : OpR X (binaryOp op) r) (ja : J m X σ H a ia) (jb : J m X σ H b ib) (hr : RV m X H r ia ib it) : J m X σ H (.BinOp a op b pos) it := fun H1 w Q q =>
  of_pe (pe_op ho pe_c pe_c) (ja H1 w _ fun x H2 w2 rx => jb H2 (w.trans w2) _ fun y H3 w3 ry => hr H3 ((w.trans w2).trans w3) x y (rx.mono w3) ry Q fun v H4 w4 rv => q v H4 ((w2.trans w3).trans w4) rv)
theorem j_cmp2 {op : CmpOp} (ho : OpR X (compareOp op) r) (ja : J m X σ H a ia) (jb : J m X σ H b ib) (hr : RV m X H r ia ib it) (hm : behindInMarks op b = false) : J m X σ H (.Compare a [op] [b] pos) it := fun H1 w Q q =>
  of_pe (pe_cmpR ho pe_c pe_c hm) (ja H1 w _ fun x H2 w2 rx => jb H2 (w.trans w2) _ fun y H3 w3 ry => hr H3 ((w.trans w2).trans w3) x y (rx.mono w3) ry Q fun v H4 w4 rv => q v H4 ((w2.trans w3).trans w4) rv)
theorem jt_cmp2 {op : CmpOp} (ho : OpR X (compareOp op) r) (ja : J m X σ H a ia) (jb : J m X σ H b ib) (hr : RV m X H r ia ib (.d (.bool t))) (hm : behindInMarks op b = false) : JT m X σ H (.Compare a [op] [b] pos) t := fun H1 w Q q =>
  of_pt (pt_cmpR ho pe_c pe_c hm) (ja H1 w _ fun x H2 w2 rx => jb H2 (w.trans w2) _ fun y H3 w3 ry => hr H3 ((w.trans w2).trans w3) x y (rx.mono w3) ry _ fun v H4 w4 rv => by
    cases rv
    exact ⟨t, rfl, q H4 ((w2.trans w3).trans w4)⟩)
theorem rv_I0 {g : Int → Int → V} (k : ∀ H, Ir X.K m.M H (g i j) it) : RV m X H (rI0 g) (.d (.int i)) (.d (.int j)) it := fun H1 w x y rx ry Q q => by
  cases rx
  cases ry
  exact ⟨i, j, rfl, rfl, q _ H1 w.rfl1 (k H1)⟩
theorem rv_I {C : Int → Int → Prop} {g : Int → Int → V} (hc : C i j) (k : ∀ H, Ir X.K m.M H (g i j) it) : RV m X H (rI C g) (.d (.int i)) (.d (.int j)) it := fun H1 w x y rx ry Q q => by
  cases rx
  cases ry
  exact ⟨i, j, rfl, rfl, hc, q _ H1 w.rfl1 (k H1)⟩
theorem j_add (ja : JD m X σ H a (.int i)) (jb : JD m X σ H b (.int j)) : JD m X σ H (.BinOp a .Add b pos) (.int (i + j)) := j_op2 op_add ja jb (rv_I0 fun _ => .int _)
theorem j_sub (ja : JD m X σ H a (.int i)) (jb : JD m X σ H b (.int j)) : JD m X σ H (.BinOp a .Sub b pos) (.int (i - j)) := j_op2 op_sub ja jb (rv_I0 fun _ => .int _)
theorem j_mul (ja : JD m X σ H a (.int i)) (jb : JD m X σ H b (.int j)) (hc : CMul i j) : JD m X σ H (.BinOp a .Mult b pos) (.int (i * j)) := j_op2 op_mul ja jb (rv_I hc fun _ => .int _)
theorem j_fdiv (ja : JD m X σ H a (.int i)) (jb : JD m X σ H b (.int j)) (hc : CDiv i j) : JD m X σ H (.BinOp a .FloorDiv b pos) (.int (i / j)) := j_op2 op_fdiv ja jb (rv_I hc fun _ => .int _)
theorem j_mod (ja : JD m X σ H a (.int i)) (jb : JD m X σ H b (.int j)) (hc : 0 < j) : JD m X σ H (.BinOp a .Mod b pos) (.int (i % j)) := j_op2 op_mod ja jb (rv_I hc fun _ => .int _)
theorem j_pow (ja : JD m X σ H a (.int i)) (jb : JD m X σ H b (.int j)) (hc : CPow i j) : JD m X σ H (.BinOp a .Pow b pos) (.int (i ^ j.toNat)) := j_op2 op_pow ja jb (rv_I hc fun _ => .int _)
theorem j_neg (ja : JD m X σ H a (.int i)) : JD m X σ H (.UnaryOp .USub a pos) (.int (-i)) := fun H1 w Q q =>
  of_pe (pe_un un_neg pe_c) (ja H1 w _ fun x H2 w2 rx => by
    cases rx
    exact ⟨i, rfl, q _ H2 w2 (.int _)⟩)
theorem j_lt (ja : JD m X σ H a (.int i)) (jb : JD m X σ H b (.int j)) (hq : (decide (i < j)) = t := by rfl) : JD m X σ H (.Compare a [.Lt] [b] pos) (.bool t) := by
  subst hq
  exact j_cmp2 op_lt ja jb (rv_I0 fun _ => .bl _) (nomark _)
theorem j_le (ja : JD m X σ H a (.int i)) (jb : JD m X σ H b (.int j)) (hq : (decide (i ≤ j)) = t := by rfl) : JD m X σ H (.Compare a [.LtE] [b] pos) (.bool t) := by
  subst hq
  exact j_cmp2 op_le ja jb (rv_I0 fun _ => .bl _) (nomark _)
theorem j_gt (ja : JD m X σ H a (.int i)) (jb : JD m X σ H b (.int j)) (hq : (decide (j < i)) = t := by rfl) : JD m X σ H (.Compare a [.Gt] [b] pos) (.bool t) := by
  subst hq
  exact j_cmp2 op_gt ja jb (rv_I0 fun _ => .bl _) (nomark _)
theorem j_ge (ja : JD m X σ H a (.int i)) (jb : JD m X σ H b (.int j)) (hq : (decide (j ≤ i)) = t := by rfl) : JD m X σ H (.Compare a [.GtE] [b] pos) (.bool t) := by
  subst hq
  exact j_cmp2 op_ge ja jb (rv_I0 fun _ => .bl _) (nomark _)
theorem jt_lt (ja : JD m X σ H a (.int i)) (jb : JD m X σ H b (.int j)) (hq : (decide (i < j)) = t := by rfl) : JT m X σ H (.Compare a [.Lt] [b] pos) t := by
  subst hq
  exact jt_cmp2 op_lt ja jb (rv_I0 fun _ => .bl _) (nomark _)
theorem jt_gt (ja : JD m X σ H a (.int i)) (jb : JD m X σ H b (.int j)) (hq : (decide (j < i)) = t := by rfl) : JT m X σ H (.Compare a [.Gt] [b] pos) t := by
  subst hq
  exact jt_cmp2 op_gt ja jb (rv_I0 fun _ => .bl _) (nomark _)
theorem jt_ge (ja : JD m X σ H a (.int i)) (jb : JD m X σ H b (.int j)) (hq : (decide (j ≤ i)) = t := by rfl) : JT m X σ H (.Compare a [.GtE] [b] pos) t := by
  subst hq
  exact jt_cmp2 op_ge ja jb (rv_I0 fun _ => .bl _) (nomark _)
theorem rv_eqI : RV m X H rEq (.d (.int i)) (.d (.int j)) (.d (.bool (decide (i = j)))) := fun H1 w x y rx ry Q q => by
  cases rx
  cases ry
  have e : decide (V.int i = V.int j) = decide (i = j) := by simp
  refine ⟨rfl, ?_⟩
  rw [e]
  exact q _ H1 w.rfl1 (.bl _)
theorem rv_neI : RV m X H rNe (.d (.int i)) (.d (.int j)) (.d (.bool (!decide (i = j)))) := fun H1 w x y rx ry Q q => by
  cases rx
  cases ry
  have e : decide (V.int i = V.int j) = decide (i = j) := by simp
  refine ⟨rfl, ?_⟩
  rw [e]
  exact q _ H1 w.rfl1 (.bl _)
theorem j_eq (ja : JD m X σ H a (.int i)) (jb : JD m X σ H b (.int j)) (hq : (decide (i = j)) = t := by rfl) : JD m X σ H (.Compare a [.Eq] [b] pos) (.bool t) := by
  subst hq
  exact j_cmp2 op_eq ja jb rv_eqI (nomark _)
theorem jt_eq (ja : JD m X σ H a (.int i)) (jb : JD m X σ H b (.int j)) (hq : (decide (i = j)) = t := by rfl) : JT m X σ H (.Compare a [.Eq] [b] pos) t := by
  subst hq
  exact jt_cmp2 op_eq ja jb rv_eqI (nomark _)
theorem j_ne (ja : JD m X σ H a (.int i)) (jb : JD m X σ H b (.int j)) (hq : (!decide (i = j)) = t := by rfl) : JD m X σ H (.Compare a [.NotEq] [b] pos) (.bool t) := by
  subst hq
  exact j_cmp2 op_ne ja jb rv_neI (nomark _)
theorem jt_ne (ja : JD m X σ H a (.int i)) (jb : JD m X σ H b (.int j)) (hq : (!decide (i = j)) = t := by rfl) : JT m X σ H (.Compare a [.NotEq] [b] pos) t := by
  subst hq
  exact jt_cmp2 op_ne ja jb rv_neI (nomark _)
/-! == of data -/
theorem rv_eqD (s1 : SeqAt.shaped d1 = true) (s2 : SeqAt.shaped d2 = true) : RV m X H (rEqD X.K) (.d d1) (.d d2) (.d (.bool (PyData.eqv d1 d2))) := fun H1 w x y rx ry Q q => ⟨d1, d2, rx.dp, ry.dp, s1, s2, q _ H1 w.rfl1 (.bl _)⟩
theorem rv_neD (s1 : SeqAt.shaped d1 = true) (s2 : SeqAt.shaped d2 = true) : RV m X H (rNeD X.K) (.d d1) (.d d2) (.d (.bool (!PyData.eqv d1 d2))) := fun H1 w x y rx ry Q q => ⟨d1, d2, rx.dp, ry.dp, s1, s2, q _ H1 w.rfl1 (.bl _)⟩
theorem j_eqD {k : Nat} (hr : Room k X.A) (ja : JD m X σ H a d1) (jb : JD m X σ H b d2) (s1 : SeqAt.shaped d1 = true) (s2 : SeqAt.shaped d2 = true) (hq : (PyData.eqv d1 d2) = t := by rfl) : JD m X σ H (.Compare a [.Eq] [b] pos) (.bool t) := by
  subst hq
  exact j_cmp2 (op_eqD hr.units) ja jb (rv_eqD s1 s2) (nomark _)
theorem jt_eqD {k : Nat} (hr : Room k X.A) (ja : JD m X σ H a d1) (jb : JD m X σ H b d2) (s1 : SeqAt.shaped d1 = true) (s2 : SeqAt.shaped d2 = true) (hq : (PyData.eqv d1 d2) = t := by rfl) : JT m X σ H (.Compare a [.Eq] [b] pos) t := by
  subst hq
  exact jt_cmp2 (op_eqD hr.units) ja jb (rv_eqD s1 s2) (nomark _)
theorem j_neD {k : Nat} (hr : Room k X.A) (ja : JD m X σ H a d1) (jb : JD m X σ H b d2) (s1 : SeqAt.shaped d1 = true) (s2 : SeqAt.shaped d2 = true) (hq : (!PyData.eqv d1 d2) = t := by rfl) : JD m X σ H (.Compare a [.NotEq] [b] pos) (.bool t) := by
  subst hq
  exact j_cmp2 (op_neD hr.units) ja jb (rv_neD s1 s2) (nomark _)
theorem jt_neD {k : Nat} (hr : Room k X.A) (ja : JD m X σ H a d1) (jb : JD m X σ H b d2) (s1 : SeqAt.shaped d1 = true) (s2 : SeqAt.shaped d2 = true) (hq : (!PyData.eqv d1 d2) = t := by rfl) : JT m X σ H (.Compare a [.NotEq] [b] pos) t := by
  subst hq
  exact jt_cmp2 (op_neD hr.units) ja jb (rv_neD s1 s2) (nomark _)
/-! is None -/
def isNo : PyData → Bool
  | .none => true
  | _ => false
theorem dr_non {K : PySem.W.Frag} {M : List Addr} {v : V} (h : Dr K M H v d) : decide (v = .non) = isNo d := by
  cases h <;> first | rfl | exact decide_eq_false (by intro q; cases q)
theorem j_isN {n : Nat} {p2 : Pos} (ja : JD m X σ H a d) (hq : (isNo d) = t := by rfl) : JD m X σ H (.Compare a [.Is] [.Constant .none n p2] pos) (.bool t) := by
  subst hq
  exact fun H1 w Q q =>
    of_pe (pe_cmp (pc_isN pe_c) rfl) (ja H1 w _ fun x H2 w2 rx => by rw [dr_non rx]; exact q _ H2 w2 (.bl _))
theorem j_notN {n : Nat} {p2 : Pos} (ja : JD m X σ H a d) (hq : (!isNo d) = t := by rfl) : JD m X σ H (.Compare a [.IsNot] [.Constant .none n p2] pos) (.bool t) := by
  subst hq
  exact fun H1 w Q q =>
    of_pe (pe_cmp (pc_notN pe_c) rfl) (ja H1 w _ fun x H2 w2 rx => by rw [dr_non rx]; exact q _ H2 w2 (.bl _))
/-! tests -/
theorem jt_val (h : JD m X σ H e (.bool t)) (he : ∀ whole, isTrue e X.env whole = (do let v ← whole; standAt e.pos; holding [v] (truthy v)) := by intro _; rfl) : JT m X σ H e t := fun H1 w Q q =>
  of_pt (pt_val pe_c he) (h H1 w _ fun v H2 w2 r => by
    cases r
    exact ⟨t, rfl, q H2 w2⟩)
theorem jt_isN {n : Nat} {p2 : Pos} (ja : JD m X σ H a d) (hq : (isNo d) = t := by rfl) : JT m X σ H (.Compare a [.Is] [.Constant .none n p2] pos) t := by
  subst hq
  exact fun H1 w Q q =>
    of_pt (pt_cmp (pc_isN pe_c) rfl) (ja H1 w _ fun x H2 w2 rx => ⟨_, rfl, by rw [dr_non rx]; exact q H2 w2⟩)
theorem jt_notN {n : Nat} {p2 : Pos} (ja : JD m X σ H a d) (hq : (!isNo d) = t := by rfl) : JT m X σ H (.Compare a [.IsNot] [.Constant .none n p2] pos) t := by
  subst hq
  exact fun H1 w Q q =>
    of_pt (pt_cmp (pc_notN pe_c) rfl) (ja H1 w _ fun x H2 w2 rx => ⟨_, rfl, by rw [dr_non rx]; exact q H2 w2⟩)
theorem jt_not (h : JT m X σ H a t) (hq : (!t) = u := by rfl) : JT m X σ H (.UnaryOp .Not a pos) u := by
  subst hq
  exact fun H1 w Q q => of_pt (L2.pt_not pt_c) (h H1 w _ fun H2 w2 => q H2 w2)
theorem jt_w (h : JW m X σ H e t) : JT m X σ H e t := fun H1 w Q q => of_pt pw_c.pt (h H1 w Q q)
theorem jw_and1 (h : JT m X σ H a t) : JW m X σ H (.BoolOp .And [a] pos) t := fun H1 w Q q => of_pw (pw_and1 pt_c) (h H1 w Q q)
theorem jw_or1 (h : JT m X σ H a t) : JW m X σ H (.BoolOp .Or [a] pos) t := fun H1 w Q q => of_pw (pw_or1 pt_c) (h H1 w Q q)
theorem jw_and {r : Bool} (h : JT m X σ H a t) (k : t = true → JW m X σ H (.BoolOp .And (b :: rest) pos) u) (hq : (t && u) = r := by rfl) : JW m X σ H (.BoolOp .And (a :: b :: rest) pos) r := fun H1 w Q q' => by
  have q : ∀ H2, Wm m H1 H2 → Q (t && u) H2 := fun H2 w2 => by rw [hq]; exact q' H2 w2
  exact
  of_pw (pw_and pt_c pw_c) (h H1 w _ fun H2 w2 => by
    cases t with
    | true => exact iteT (k rfl H2 (w.trans w2) Q fun H3 w3 => q H3 (w2.trans w3))
    | false => exact iteF (q H2 w2))
theorem jw_or {r : Bool} (h : JT m X σ H a t) (k : t = false → JW m X σ H (.BoolOp .Or (b :: rest) pos) u) (hq : (t || u) = r := by rfl) : JW m X σ H (.BoolOp .Or (a :: b :: rest) pos) r := fun H1 w Q q' => by
  have q : ∀ H2, Wm m H1 H2 → Q (t || u) H2 := fun H2 w2 => by rw [hq]; exact q' H2 w2
  exact
  of_pw (pw_or pt_c pw_c) (h H1 w _ fun H2 w2 => by
    cases t with
    | true => exact iteT (q H2 w2)
    | false => exact iteF (k rfl H2 (w.trans w2) Q fun H3 w3 => q H3 (w2.trans w3)))
theorem j_one {op : BoolOp} (h : JD m X σ H a d) : JD m X σ H (.BoolOp op [a] pos) d := fun H1 w Q q => of_pe (pe_one pe_c) (h H1 w Q q)
theorem j_and {r : Bool} (h : JD m X σ H a (.bool t)) (k : t = true → JD m X σ H (.BoolOp .And (b :: rest) pos) (.bool u)) (hq : (t && u) = r := by rfl) : JD m X σ H (.BoolOp .And (a :: b :: rest) pos) (.bool r) := fun H1 w Q q' => by
  have q : ∀ v H2, Wm m H1 H2 → Ir X.K m.M H2 v (.d (.bool (t && u))) → Q v H2 := fun v H2 w2 rr => q' v H2 w2 (by rw [← hq]; exact rr)
  exact
  of_pe (pe_and pe_c pe_c) (h H1 w _ fun v H2 w2 r => by
    cases r
    refine ⟨t, rfl, ?_⟩
    cases t with
    | true => exact iteT (k rfl H2 (w.trans w2) Q fun v H3 w3 r3 => q v H3 (w2.trans w3) r3)
    | false => exact iteF (q _ H2 w2 (.bl _)))
theorem j_or {r : Bool} (h : JD m X σ H a (.bool t)) (k : t = false → JD m X σ H (.BoolOp .Or (b :: rest) pos) (.bool u)) (hq : (t || u) = r := by rfl) : JD m X σ H (.BoolOp .Or (a :: b :: rest) pos) (.bool r) := fun H1 w Q q' => by
  have q : ∀ v H2, Wm m H1 H2 → Ir X.K m.M H2 v (.d (.bool (t || u))) → Q v H2 := fun v H2 w2 rr => q' v H2 w2 (by rw [← hq]; exact rr)
  exact
  of_pe (pe_or pe_c pe_c) (h H1 w _ fun v H2 w2 r => by
    cases r
    refine ⟨t, rfl, ?_⟩
    cases t with
    | true => exact iteT (q _ H2 w2 (.bl _))
    | false => exact iteF (k rfl H2 (w.trans w2) Q fun v H3 w3 r3 => q v H3 (w2.trans w3) r3))
theorem j_not (h : JD m X σ H a (.bool t)) (hq : (!t) = u := by rfl) : JD m X σ H (.UnaryOp .Not a pos) (.bool u) := by
  subst hq
  exact fun H1 w Q q => of_pe (pe_not pe_c) (h H1 w _ fun v H2 w2 r => by
    cases r
    exact ⟨t, rfl, q _ H2 w2 (.bl _)⟩)
theorem j_ifT (h : JT m X σ H c true) (ha : J m X σ H a it) : J m X σ H (.IfExp c a b pos) it := fun H1 w Q q =>
  of_pe (pe_ifExp pt_c pe_c pe_c) (h H1 w _ fun H2 w2 => iteT (ha H2 (w.trans w2) Q fun v H3 w3 r3 => q v H3 (w2.trans w3) r3))
theorem j_ifF (h : JT m X σ H c false) (hb : J m X σ H b it) : J m X σ H (.IfExp c a b pos) it := fun H1 w Q q =>
  of_pe (pe_ifExp pt_c pe_c pe_c) (h H1 w _ fun H2 w2 => iteF (hb H2 (w.trans w2) Q fun v H3 w3 r3 => q v H3 (w2.trans w3) r3))
/-- a <= b <= c -/
theorem j_chainLe {k : Int} (ja : JD m X σ H a (.int i)) (jb : JD m X σ H b (.int j)) (jc : JD m X σ H c (.int k)) (hq : (decide (i ≤ j) && decide (j ≤ k)) = t := by rfl) (hm : lastMarks [.LtE, .LtE] [b, c] = false := by with_unfolding_all rfl) :
    JD m X σ H (.Compare a [.LtE, .LtE] [b, c] pos) (.bool t) := fun H1 w Q q => by
  subst hq
  exact
  of_pe (pe_chain op_le op_le pe_c pe_c pe_c hm) (ja H1 w _ fun x H2 w2 rx => jb H2 (w.trans w2) _ fun y H3 w3 ry => by
    cases rx
    cases ry
    refine ⟨i, j, rfl, rfl, _, rfl, ite2 (fun e => ?_) fun e => ?_⟩
    · refine jc H3 ((w.trans w2).trans w3) _ fun z H4 w4 rz => ?_
      cases rz
      refine ⟨j, k, rfl, rfl, ?_⟩
      rw [e] at q
      exact q _ H4 ((w2.trans w3).trans w4) (.bl _)
    · have e' : decide (i ≤ j) = false := by simpa using e
      rw [e'] at q
      exact q _ H3 (w2.trans w3) (.bl _))
/-! arguments, displays -/
theorem ja_nil : JA m X σ H [] [] := fun H1 w Q q => of_pa pa_nil (q [] H1 w.rfl1 .nil)
theorem IrA.mono {H1 : Hp} (w : Wm m H H1) {K : PySem.W.Frag} : ∀ {its : List Item} {vs : List V}, IrA K m.M H vs its → IrA K m.M H1 vs its
  | [], _, h => by cases h; exact .nil
  | _ :: _, _, h => by
    cases h with
    | cons h r => exact .cons (h.mono w) (IrA.mono w r)
theorem ja_cons (j : J m X σ H e it) (r : JA m X σ H es its) (hs : starEach (e :: es) X.env = (false, eval e X.env) :: starEach es X.env := by rfl) : JA m X σ H (e :: es) (it :: its) := fun H1 w Q q =>
  of_pa (pa_cons pe_c pa_c hs) (j H1 w _ fun v H2 w2 r2 => r H2 (w.trans w2) _ fun vs H3 w3 r3 => q _ H3 (w2.trans w3) (.cons (r2.mono w3) r3))
theorem jad_nil : JAd m X σ H [] [] := ja_nil
theorem jad_cons (j : JD m X σ H e d) (r : JAd m X σ H es ds) (hs : starEach (e :: es) X.env = (false, eval e X.env) :: starEach es X.env := by rfl) : JAd m X σ H (e :: es) (d :: ds) := ja_cons j r hs
theorem j_tup {k : Nat} (h : JAd m X σ H es ds) (hl : Nat.ble ds.length 1000 = true := by rfl) : JD m X σ H (.Tuple es k pos) (.tuple ds) := fun H1 w Q q =>
  of_pe (pe_tup pa_c) (h H1 w _ fun vs H2 w2 r => ⟨by rw [r.data.len]; exact Nat.le_of_lt (small1000 (Nat.le_of_ble_eq_true hl)), fun p hp => q _ _ (w2.trans (w2.new hp)) (.tup upd_same (DrA.mono (w2.new hp) _ _ r.data))⟩)
theorem j_lst (h : JAd m X σ H es ds) (hl : Nat.ble ds.length 1000 = true := by rfl) : JD m X σ H (.List es pos) (.list ds) := fun H1 w Q q =>
  of_pe (pe_lst pa_c) (h H1 w _ fun vs H2 w2 r => ⟨by rw [r.data.len]; exact Nat.le_of_lt (small1000 (Nat.le_of_ble_eq_true hl)), fun p hp => q _ _ (w2.trans (w2.new hp)) (.lst upd_same (w2.fresh hp) (DrA.mono (w2.new hp) _ _ r.data))⟩)
/-! items -/
theorem atI_of {α : Type} {xs : List α} {n : Nat} {x : α} (h : xs[n]? = some x) : atI xs (n : Int) = some x := atI_nat h
theorem j_ixT (n : Nat) (ja : JD m X σ H a (.tuple ds)) (jb : JD m X σ H b (.int i)) (hz : i = (n : Int) := by rfl) (hd : ds[n]? = some d := by rfl) (hs : PlainIx b := by exact fun _ _ => rfl) : JD m X σ H (.Subscript a b pos) d := fun H1 w Q q =>
  of_pe (pe_ix ix_tup pe_c pe_c hs) (ja H1 w _ fun x H2 w2 rx => jb H2 (w.trans w2) _ fun y H3 w3 ry => by
    cases ry
    obtain ⟨f, vs, rfl, h1, h2⟩ := Dr.items (Dr.mono w3 _ _ rx)
    obtain ⟨v, h3, h4⟩ := h2.at hd
    exact ⟨f, vs, i, v, rfl, rfl, h1, at_of hz h3, q v H3 (w2.trans w3) h4⟩)
theorem j_ixL (n : Nat) (ja : JD m X σ H a (.list ds)) (jb : JD m X σ H b (.int i)) (hz : i = (n : Int) := by rfl) (hd : ds[n]? = some d := by rfl) (hs : PlainIx b := by exact fun _ _ => rfl) : JD m X σ H (.Subscript a b pos) d := fun H1 w Q q =>
  of_pe (pe_ix ix_list pe_c pe_c hs) (ja H1 w _ fun x H2 w2 rx => jb H2 (w.trans w2) _ fun y H3 w3 ry => by
    cases ry
    obtain ⟨f, vs, rfl, h1, _, h2⟩ := Dr.litems (Dr.mono w3 _ _ rx)
    obtain ⟨v, h3, h4⟩ := h2.at hd
    exact ⟨f, vs, i, v, rfl, rfl, SqL.of h1, at_of hz h3, q v H3 (w2.trans w3) h4⟩)
/-! built-ins by name -/
theorem j_callB {x : Str} {id : String} {rr : List V → Hp → VK → Prop} (hc : CallR X (.builtin id) rr) (hm : X.mg x = none) (hv : bootBuiltins x = some (.builtin id)) (ja : JA m X σ H (e :: es) its) (hr : RC m X H rr its it) (hg : Gl X x := by rfl) (hn : x ≠ "__name__" := by decide) (hdb : (x == ("__debug__" : Str)) = false := by decide)
    (he : starEach (e :: es) X.env = (false, eval e X.env) :: starEach es X.env := by rfl) (hpl : (backTo pos (starEach es X.env)).any (·.1) = false := by rfl) : J m X σ H (.Call (.Name x p) (e :: es) [] pos) it := fun H1 w Q q =>
  of_pe (pe_callB hc hg hm hv pa_c hn hdb he hpl) (ja H1 w _ fun vs H2 w2 r => hr H2 (w.trans w2) vs r Q fun v H3 w3 r3 => q v H3 (w2.trans w3) r3)
theorem j_callTy {x : Str} {T : String} {rr : List V → Hp → VK → Prop} (hc : CallR X (.type T) rr) (hm : X.mg x = none) (hv : bootBuiltins x = some (.type T)) (ja : JA m X σ H (e :: es) its) (hr : RC m X H rr its it) (hg : Gl X x := by rfl) (hn : x ≠ "__name__" := by decide) (hdb : (x == ("__debug__" : Str)) = false := by decide)
    (he : starEach (e :: es) X.env = (false, eval e X.env) :: starEach es X.env := by rfl) (hpl : (backTo pos (starEach es X.env)).any (·.1) = false := by rfl) : J m X σ H (.Call (.Name x p) (e :: es) [] pos) it := fun H1 w Q q =>
  of_pe (pe_callTy hc hg hm hv pa_c hn hdb he hpl) (ja H1 w _ fun vs H2 w2 r => hr H2 (w.trans w2) vs r Q fun v H3 w3 r3 => q v H3 (w2.trans w3) r3)
theorem IrA.one {K : PySem.W.Frag} {M : List Addr} {vs : List V} (h : IrA K M H vs [it]) : ∃ v, vs = [v] ∧ Ir K M H v it := by
  cases h with
  | cons h r =>
    cases r
    exact ⟨_, rfl, h⟩
theorem IrA.two {K : PySem.W.Frag} {M : List Addr} {vs : List V} (h : IrA K M H vs [ia, ib]) : ∃ v u, vs = [v, u] ∧ Ir K M H v ia ∧ Ir K M H u ib := by
  cases h with
  | cons h r =>
    obtain ⟨u, rfl, h2⟩ := r.one
    exact ⟨_, u, rfl, h, h2⟩
theorem j_abs {x : Str} (hm : X.mg x = none) (hv : bootBuiltins x = some (.builtin "abs")) (ja : JD m X σ H e (.int i)) (hg : Gl X x := by rfl) (hn : x ≠ "__name__" := by decide) (hdb : (x == ("__debug__" : Str)) = false := by decide)
    (he : starEach [e] X.env = (false, eval e X.env) :: starEach [] X.env := by rfl) (hpl : (backTo pos (starEach [] X.env)).any (·.1) = false := by rfl) : JD m X σ H (.Call (.Name x p) [e] [] pos) (.int (i.natAbs : Nat)) :=
  j_callB call_abs hm hv (ja_cons ja ja_nil he) (fun H1 w xs rx Q q => by
    obtain ⟨v, rfl, h⟩ := rx.one
    cases h
    have e2 : (if i < 0 then -i else i) = ((i.natAbs : Nat) : Int) := by split <;> omega
    refine ⟨i, rfl, ?_⟩
    rw [e2]
    exact q _ H1 w.rfl1 (.int _)) hg hn hdb he hpl
theorem j_lenT {x : Str} (hm : X.mg x = none) (ja : JD m X σ H e (.tuple ds)) (hv : bootBuiltins x = some (.builtin "len") := by exact PySem.boot_len) (hg : Gl X x := by rfl) (hn : x ≠ "__name__" := by decide) (hdb : (x == ("__debug__" : Str)) = false := by decide)
    (he : starEach [e] X.env = (false, eval e X.env) :: starEach [] X.env := by rfl) (hpl : (backTo pos (starEach [] X.env)).any (·.1) = false := by rfl) : JD m X σ H (.Call (.Name x p) [e] [] pos) (.int (ds.length : Nat)) :=
  j_callB call_len_seq hm hv (ja_cons ja ja_nil he) (fun H1 w xs rx Q q => by
    obtain ⟨v, rfl, h⟩ := rx.one
    obtain ⟨f, vs, rfl, h1, h2⟩ := Dr.items h
    refine ⟨f, vs, rfl, .inr h1, ?_⟩
    rw [h2.len]
    exact q _ H1 w.rfl1 (.int _)) hg hn hdb he hpl
theorem j_lenL {x : Str} (hm : X.mg x = none) (ja : JD m X σ H e (.list ds)) (hv : bootBuiltins x = some (.builtin "len") := by exact PySem.boot_len) (hg : Gl X x := by rfl) (hn : x ≠ "__name__" := by decide) (hdb : (x == ("__debug__" : Str)) = false := by decide)
    (he : starEach [e] X.env = (false, eval e X.env) :: starEach [] X.env := by rfl) (hpl : (backTo pos (starEach [] X.env)).any (·.1) = false := by rfl) : JD m X σ H (.Call (.Name x p) [e] [] pos) (.int (ds.length : Nat)) :=
  j_callB call_len_seq hm hv (ja_cons ja ja_nil he) (fun H1 w xs rx Q q => by
    obtain ⟨v, rfl, h⟩ := rx.one
    obtain ⟨f, vs, rfl, h1, _, h2⟩ := Dr.litems h
    refine ⟨f, vs, rfl, .inl (SqL.of h1), ?_⟩
    rw [h2.len]
    exact q _ H1 w.rfl1 (.int _)) hg hn hdb he hpl
/-- tuple(list) -/
theorem j_tupleL {x : Str} (hm : X.mg x = none) (ja : JD m X σ H e (.list ds)) (hv : bootBuiltins x = some (.type "tuple") := by decide +kernel) (hg : Gl X x := by rfl) (hn : x ≠ "__name__" := by decide) (hdb : (x == ("__debug__" : Str)) = false := by decide)
    (he : starEach [e] X.env = (false, eval e X.env) :: starEach [] X.env := by rfl) (hpl : (backTo pos (starEach [] X.env)).any (·.1) = false := by rfl) : JD m X σ H (.Call (.Name x p) [e] [] pos) (.tuple ds) :=
  j_callTy call_tuple_of hm hv (ja_cons ja ja_nil he) (fun H1 w xs rx Q q => by
    obtain ⟨v, rfl, h⟩ := rx.one
    obtain ⟨f, vs, rfl, h1, _, h2⟩ := Dr.litems h
    exact ⟨f, vs, rfl, .inl ⟨SqL.of h1, fun l hl => q _ _ (w.rfl1.new hl) (.tup upd_same (DrA.mono (w.rfl1.new hl) _ _ h2))⟩⟩) hg hn hdb he hpl
/-- all(list of bools) -/
theorem dra_bools {K : PySem.W.Frag} {M : List Addr} : ∀ {bs : List Bool} {vs : List V}, DrA K M H vs (bs.map PyData.bool) → vs = bs.map V.bl
  | [], _, h => by cases h; rfl
  | b :: bs, _, h => by
    cases h with
    | cons h r =>
      cases h
      rw [dra_bools r] <;> rfl
theorem j_all {x : Str} {bs : List Bool} (hc : X.calm = true) (hm : X.mg x = none) (ja : JD m X σ H e (.list (bs.map PyData.bool))) (hv : bootBuiltins x = some (.builtin "all") := by decide +kernel) (hg : Gl X x := by rfl) (hn : x ≠ "__name__" := by decide) (hdb : (x == ("__debug__" : Str)) = false := by decide)
    (he : starEach [e] X.env = (false, eval e X.env) :: starEach [] X.env := by rfl) (hpl : (backTo pos (starEach [] X.env)).any (·.1) = false := by rfl) : JD m X σ H (.Call (.Name x p) [e] [] pos) (.bool (bs.all id)) :=
  j_callB (cr_all hc) hm hv (ja_cons ja ja_nil he) (fun H1 w xs rx Q q => by
    obtain ⟨v, rfl, h⟩ := rx.one
    obtain ⟨f, vs, rfl, h1, _, h2⟩ := Dr.litems h
    refine ⟨f, bs, rfl, ?_, q _ H1 w.rfl1 (.bl _)⟩
    rw [← dra_bools h2]
    exact SqL.of h1) hg hn hdb he hpl
/-- isinstance(x, T), T a built-in class -/
def tyD : PyData → String
  | .none => "NoneType"
  | .bool _ => "bool"
  | .int _ => "int"
  | .str _ => "str"
  | .list _ => "list"
  | .tuple _ => "tuple"
  | .dict _ => "dict"
theorem dr_ty {K : PySem.W.Frag} {M : List Addr} {v : V} (h : Dr K M H v d) : TyX K H v (.type (tyD d)) := by
  cases h with
  | non => exact .base .non
  | bl b => exact .base (.bl b)
  | int i => exact .base (.int i)
  | str x => exact .base (.str x)
  | lst h _ _ => exact .base (.lst h)
  | tup h _ => exact .base (.tup h)
  | kt h _ =>
    rcases h with (h | ⟨o, h⟩) | ⟨o, its, n, h1, h2, _⟩
    · cases h
    · cases h
    · exact .kTuple h1 h2
theorem j_isi {x y : Str} {T : String} (hm : X.mg x = none) (hm2 : X.mg y = none) (ja : JD m X σ H e d) (hk : kitB (tyD d) T = some t) (hv2 : bootBuiltins y = some (.type T) := by decide +kernel) (hv : bootBuiltins x = some (.builtin "isinstance") := by decide +kernel)
    (hg : Gl X x := by rfl) (hg2 : Gl X y := by rfl) (hn : x ≠ "__name__" := by decide) (hn2 : y ≠ "__name__" := by decide) (hdb : (x == ("__debug__" : Str)) = false := by decide) (hdb2 : (y == ("__debug__" : Str)) = false := by decide)
    (he : starEach [e, .Name y pos'] X.env = (false, eval e X.env) :: starEach [.Name y pos'] X.env := by rfl) (he2 : starEach [.Name y pos'] X.env = (false, eval (.Name y pos') X.env) :: starEach [] X.env := by rfl) (hpl : (backTo pos (starEach [.Name y pos'] X.env)).any (·.1) = false := by rfl) :
    JD m X σ H (.Call (.Name x p) [e, .Name y pos'] [] pos) (.bool t) :=
  j_callB call_isi hm hv (ja_cons ja (ja_cons (it := .v (.ty T)) (j_c (v := .ty T) (pe_bltn hg2 hm2 hv2 rfl hn2 hdb2) fun _ => rfl) ja_nil he2) he) (fun H1 w xs rx Q q => by
    obtain ⟨v, u, rfl, h1, rfl⟩ := rx.two
    exact ⟨v, .ty T, _, _, t, rfl, .ty T, dr_ty h1, kit_ty hk, q _ H1 w.rfl1 (.bl _)⟩) hg hn hdb he hpl
theorem j_isi_ii {x y : Str} (hm : X.mg x = none) (hm2 : X.mg y = none) (ja : JD m X σ H e (.int i)) (hv2 : bootBuiltins y = some (.type "int") := by decide +kernel) (hv : bootBuiltins x = some (.builtin "isinstance") := by decide +kernel)
    (hg : Gl X x := by rfl) (hg2 : Gl X y := by rfl) (hn : x ≠ "__name__" := by decide) (hn2 : y ≠ "__name__" := by decide) (hdb : (x == ("__debug__" : Str)) = false := by decide) (hdb2 : (y == ("__debug__" : Str)) = false := by decide)
    (he : starEach [e, .Name y pos'] X.env = (false, eval e X.env) :: starEach [.Name y pos'] X.env := by rfl) (he2 : starEach [.Name y pos'] X.env = (false, eval (.Name y pos') X.env) :: starEach [] X.env := by rfl) (hpl : (backTo pos (starEach [.Name y pos'] X.env)).any (·.1) = false := by rfl) :
    JD m X σ H (.Call (.Name x p) [e, .Name y pos'] [] pos) (.bool true) := j_isi (T := "int") hm hm2 ja (show kitB "int" "int" = some true by decide +kernel) hv2 hv hg hg2 hn hn2 hdb hdb2 he he2 hpl
theorem j_isi_ib {x y : Str} (hm : X.mg x = none) (hm2 : X.mg y = none) (ja : JD m X σ H e (.int i)) (hv2 : bootBuiltins y = some (.type "bool") := by decide +kernel) (hv : bootBuiltins x = some (.builtin "isinstance") := by decide +kernel)
    (hg : Gl X x := by rfl) (hg2 : Gl X y := by rfl) (hn : x ≠ "__name__" := by decide) (hn2 : y ≠ "__name__" := by decide) (hdb : (x == ("__debug__" : Str)) = false := by decide) (hdb2 : (y == ("__debug__" : Str)) = false := by decide)
    (he : starEach [e, .Name y pos'] X.env = (false, eval e X.env) :: starEach [.Name y pos'] X.env := by rfl) (he2 : starEach [.Name y pos'] X.env = (false, eval (.Name y pos') X.env) :: starEach [] X.env := by rfl) (hpl : (backTo pos (starEach [.Name y pos'] X.env)).any (·.1) = false := by rfl) :
    JD m X σ H (.Call (.Name x p) [e, .Name y pos'] [] pos) (.bool false) := j_isi (T := "bool") hm hm2 ja (show kitB "int" "bool" = some false by decide +kernel) hv2 hv hg hg2 hn hn2 hdb hdb2 he he2 hpl
theorem j_isi_tt {x y : Str} (hm : X.mg x = none) (hm2 : X.mg y = none) (ja : JD m X σ H e (.tuple ds)) (hv2 : bootBuiltins y = some (.type "tuple") := by decide +kernel) (hv : bootBuiltins x = some (.builtin "isinstance") := by decide +kernel)
    (hg : Gl X x := by rfl) (hg2 : Gl X y := by rfl) (hn : x ≠ "__name__" := by decide) (hn2 : y ≠ "__name__" := by decide) (hdb : (x == ("__debug__" : Str)) = false := by decide) (hdb2 : (y == ("__debug__" : Str)) = false := by decide)
    (he : starEach [e, .Name y pos'] X.env = (false, eval e X.env) :: starEach [.Name y pos'] X.env := by rfl) (he2 : starEach [.Name y pos'] X.env = (false, eval (.Name y pos') X.env) :: starEach [] X.env := by rfl) (hpl : (backTo pos (starEach [.Name y pos'] X.env)).any (·.1) = false := by rfl) :
    JD m X σ H (.Call (.Name x p) [e, .Name y pos'] [] pos) (.bool true) := j_isi (T := "tuple") hm hm2 ja (show kitB "tuple" "tuple" = some true by decide +kernel) hv2 hv hg hg2 hn hn2 hdb hdb2 he he2 hpl
theorem j_isi_nt {x y : Str} (hm : X.mg x = none) (hm2 : X.mg y = none) (ja : JD m X σ H e .none) (hv2 : bootBuiltins y = some (.type "tuple") := by decide +kernel) (hv : bootBuiltins x = some (.builtin "isinstance") := by decide +kernel)
    (hg : Gl X x := by rfl) (hg2 : Gl X y := by rfl) (hn : x ≠ "__name__" := by decide) (hn2 : y ≠ "__name__" := by decide) (hdb : (x == ("__debug__" : Str)) = false := by decide) (hdb2 : (y == ("__debug__" : Str)) = false := by decide)
    (he : starEach [e, .Name y pos'] X.env = (false, eval e X.env) :: starEach [.Name y pos'] X.env := by rfl) (he2 : starEach [.Name y pos'] X.env = (false, eval (.Name y pos') X.env) :: starEach [] X.env := by rfl) (hpl : (backTo pos (starEach [.Name y pos'] X.env)).any (·.1) = false := by rfl) :
    JD m X σ H (.Call (.Name x p) [e, .Name y pos'] [] pos) (.bool false) := j_isi (T := "tuple") hm hm2 ja (show kitB "NoneType" "tuple" = some false by decide +kernel) hv2 hv hg hg2 hn hn2 hdb hdb2 he he2 hpl
end
end Gc
namespace Gc
open PySem PySem.Spec PyProof.Rows L2
/-! ## what stays but M -/
def Bs (M : List Addr) (H H1 : Hp) : Prop := ∀ a o, H a = some o → (a ∉ M ∨ ∃ xs, o = .tup xs) → H1 a = some o
theorem Bs.refl (M : List Addr) (H : Hp) : Bs M H H := fun _ _ h _ => h
theorem Bs.trans {M : List Addr} {H H1 H2 : Hp} (a : Bs M H H1) (b : Bs M H1 H2) : Bs M H H2 := fun x o h q => b x o (a x o h q) q
theorem Wm.bs {m : Md} {H H1 : Hp} (w : Wm m H H1) : Bs m.M H H1 := fun a o h q => w.keep a o h (q.imp (fun z q => z (m.sub a q)) id)
theorem Bs.same {M : List Addr} {H H1 : Hp} (k : Same H H1) : Bs M H H1 := fun a o h _ => k a o h
theorem Bs.mut {M : List Addr} {H : Hp} {l : Addr} {xs : List V} {o : HO} (hl : H l = some (.lst xs)) (hm : l ∈ M) : Bs M H (upd H l o) := fun a u h q => by
  refine (upd_ne fun e => ?_).trans h
  subst e
  rcases q with q | ⟨ys, rfl⟩
  · exact q hm
  · rw [hl] at h; cases h
theorem Bs.old {H H1 : Hp} (b : Bs [] H H1) : Same H H1 := fun a o h => b a o h (.inl (by intro q; cases q))
/-- what is new may be barred besides -/
theorem Bs.less {M M' : List Addr} {H H1 : Hp} (b : Bs M' H H1) (hM : ∀ a, H a ≠ none → a ∈ M' → a ∈ M) : Bs M H H1 := fun a o h q => b a o h (q.imp (fun z q => z (hM a (by rw [h]; simp) q)) id)
section
variable {K : PySem.W.Frag} {M : List Addr} {H H1 : Hp}
mutual
theorem Dr.bs (w : Bs M H H1) : ∀ (d : PyData) (v : V), Dr K M H v d → Dr K M H1 v d
  | .none, _, h => by cases h; exact .non
  | .bool b, _, h => by cases h; exact .bl b
  | .int i, _, h => by cases h; exact .int i
  | .str x, _, h => by cases h; exact .str x
  | .list ds, _, h => by
    cases h with
    | lst h hm r => exact .lst (w _ _ h (.inl hm)) hm (DrA.bs w ds _ r)
  | .tuple ds, _, h => by
    cases h with
    | tup h r => exact .tup (w _ _ h (.inr ⟨_, rfl⟩)) (DrA.bs w ds _ r)
    | kt h r => exact .kt h (DrA.bs w ds _ r)
  | .dict _, _, h => by cases h
theorem DrA.bs (w : Bs M H H1) : ∀ (ds : List PyData) (vs : List V), DrA K M H vs ds → DrA K M H1 vs ds
  | [], _, h => by cases h; exact .nil
  | d :: ds, _, h => by
    cases h with
    | cons h r => exact .cons (Dr.bs w d _ h) (DrA.bs w ds _ r)
end
theorem Ir.bs (w : Bs M H H1) {v : V} {i : Item} (h : Ir K M H v i) : Ir K M H1 v i := by
  cases i with
  | d x => exact Dr.bs w x v h
  | v u => exact h
theorem En.bs {σ : L2.St} {ds : List (Option Item)} (w : Bs M H H1) (E : En K M H σ ds) : En K M H1 σ ds := ⟨E.len, fun i it h => let ⟨v, h1, h2⟩ := E.at_ i it h; ⟨v, h1, h2.bs w⟩⟩
end
/-! ## more is barred -/
def Md.add (m : Md) (a : Addr) : Md := ⟨m.P, a :: m.M, fun b h => List.mem_cons_of_mem _ (m.sub b h)⟩
theorem Wm.add {m : Md} {H : Hp} {a : Addr} (w : Wm m H H) (h : H a ≠ none) : Wm (m.add a) H H := ⟨w.keep, w.pens, fun b hb => by
  rcases List.mem_cons.mp hb with rfl | hb
  · exact h
  · exact w.ok b hb⟩
theorem Wm.drop {m : Md} {H H1 : Hp} {a : Addr} (w : Wm (m.add a) H H1) : Wm m H H1 := ⟨w.keep, w.pens, fun b hb => w.ok b (List.mem_cons_of_mem _ hb)⟩
/-- a list of one's own -/
def Lo (K : PySem.W.Frag) (M : List Addr) (H : Hp) (l : Addr) (ds : List PyData) : Prop := ∃ vs, H l = some (.lst vs) ∧ DrA K M H vs ds
theorem Lo.mono {K : PySem.W.Frag} {m : Md} {H H1 : Hp} {l : Addr} {ds : List PyData} (w : Wm m H H1) (hl : l ∉ m.P) (h : Lo K m.M H l ds) : Lo K m.M H1 l ds := let ⟨vs, h1, h2⟩ := h; ⟨vs, w.keep _ _ h1 (.inl hl), DrA.mono w _ _ h2⟩
/-- a store to another list -/
theorem Lo.other {K : PySem.W.Frag} {M : List Addr} {H : Hp} {l a : Addr} {ds : List PyData} {xs : List V} {o : HO} (ha : H a = some (.lst xs)) (hm : a ∈ M) (hn : l ≠ a) (h : Lo K M H l ds) : Lo K M (upd H a o) l ds := let ⟨vs, h1, h2⟩ := h; ⟨vs, (upd_ne hn).trans h1, DrA.mut ha hm _ _ h2⟩
theorem Lo.ne {K : PySem.W.Frag} {M : List Addr} {H : Hp} {l : Addr} {ds : List PyData} (h : Lo K M H l ds) : H l ≠ none := let ⟨_, h1, _⟩ := h; by rw [h1]; simp
theorem Lo.lst {K : PySem.W.Frag} {M : List Addr} {H : Hp} {l : Addr} {ds : List PyData} (h : Lo K M H l ds) : ∃ xs, H l = some (.lst xs) := let ⟨vs, h1, _⟩ := h; ⟨vs, h1⟩
/-! ## targets -/
/-- the target lays data into slots is: from sl to sl' -/
structure Gt (X : Cx) (tg : Expr) (is : List Nat) (d : PyData) (sl sl' : List (Option Item)) : Prop where
  run : ∀ (M : List Addr) (H : Hp) (σ : L2.St) (v : V) (Q : L2.St → Hp → Prop), En X.K M H σ sl → Dr X.K M H v d → (∀ σ', En X.K M H σ' sl' → σ'.length = σ.length → (∀ j, j ∉ is → σ'[j]? = σ[j]?) → Q σ' H) → cG X tg v σ H Q
structure Gts (X : Cx) (tgs : List Expr) (is : List Nat) (ds : List PyData) (sl sl' : List (Option Item)) : Prop where
  run : ∀ (M : List Addr) (H : Hp) (σ : L2.St) (vs : List V) (Q : L2.St → Hp → Prop), En X.K M H σ sl → DrA X.K M H vs ds → (∀ σ', En X.K M H σ' sl' → σ'.length = σ.length → (∀ j, j ∉ is → σ'[j]? = σ[j]?) → Q σ' H) →
    ∀ pins s us, Inv X pins σ H s → Vals vs us → wpAny (model X.prog X.w) X.A (assignInOrder ((assignEach tgs X.env).map (·.2)) us) (fun _ s' => ∃ σ' H', Inv X pins σ' H' s' ∧ Q σ' H') X.xe s
section
variable {X : Cx} {tg : Expr} {tgs : List Expr} {is js : List Nat} {d : PyData} {ds : List PyData} {sl sl' sl2 : List (Option Item)} {pos : Pos}
theorem gt_name (i : Nat) {x : Str} (hN : X.N.Nodup) (hi : X.N[i]? = some x := by rfl) (hx : Loc X.env.scope x := by first | exact Or.inl rfl | exact Or.inr rfl) (hf : X.fn x = true ∨ X.env.scope.names.lookup x = some .local := by first | exact .inl rfl | exact .inr rfl) :
    Gt X (.Name x pos) [i] d sl (sl.set i (some (.d d))) := ⟨fun M H σ v Q E r q => of_pg (pg_name hN hi hx hf) (q _ (E.set (it := .d d) r) (List.length_set ..) fun j hj => List.getElem?_set_ne (fun e => hj (by simp [e])))⟩
theorem gts_nil : Gts X [] [] [] sl sl := ⟨fun M H σ vs Q E r q pins s us I rv => by
  cases r
  exact (pgs_nil (X := X)).run pins s σ H [] us Q I rv ⟨rfl, q σ E rfl fun _ _ => rfl⟩⟩
theorem gts_cons (h1 : Gt X tg is d sl sl') (h2 : Gts X tgs js ds sl' sl2) (hs : (assignEach (tg :: tgs) X.env).map (·.2) = assign tg X.env :: (assignEach tgs X.env).map (·.2) := by rfl) : Gts X (tg :: tgs) (is ++ js) (d :: ds) sl sl2 := by
  refine ⟨fun M H σ vs Q E r q pins s us I rv => ?_⟩
  cases r with
  | cons r rr =>
    cases rv with
    | cons v1 v2 =>
      rw [hs]
      refine assignInOrder_cons (thn (h1.run M H σ _ (fun σ' H' => H' = H ∧ En X.K M H σ' sl' ∧ σ'.length = σ.length ∧ ∀ j, j ∉ is → σ'[j]? = σ[j]?) E r (fun σ' a b c => ⟨rfl, a, b, c⟩) pins s _ I v1) fun _ s1 ⟨σ1, H1, I1, e, E1, hl, hk⟩ => ?_)
      subst e
      refine h2.run M H1 σ1 _ Q E1 rr (fun σ' a b c => q σ' a (b.trans hl) fun j hj => ?_) pins s1 _ I1 v2
      rw [List.mem_append, not_or] at hj
      exact (c j hj.2).trans (hk j hj.1)
theorem gt_tup {k : Nat} {n : Nat} (hc : X.calm = true) (h : Gts X tgs is ds sl sl') (hl : ds.length = n := by rfl) (hn : (assignEach tgs X.env).length = n := by rfl) (hst : (assignEach tgs X.env).findIdx? (·.1) = none := by rfl) : Gt X (.Tuple tgs k pos) is (.tuple ds) sl sl' := by
  refine ⟨fun M H σ v Q E r q pins s u I ru => ?_⟩
  obtain ⟨f, vs, rfl, h1, h2⟩ := r.items
  exact (pg_tup (t := fun ws σ' H' Q' => ws = vs ∧ σ' = σ ∧ H' = H ∧ Q' = Q) hc ⟨fun pins' s' σ' H' ws us Q' I' rv e => by
    obtain ⟨rfl, rfl, rfl, rfl⟩ := e
    exact h.run M _ _ _ _ E h2 q pins' s' us I' rv⟩ hn hst).run pins s σ H (.ref f) u Q I ru ⟨f, vs, rfl, h1, by rw [h2.len, hl], rfl, rfl, rfl, rfl⟩
end
/-! ## what is walked -/
/-- n items; as long as what stood stays, turn i gives item i -/
structure Sr (m : Md) (X : Cx) (σ : L2.St) (H : Hp) (tg iter : Expr) (n : Nat) (item : Nat → PyData) : Prop where
  ex : ∃ wi : TI, PI X tg iter wi ∧ ∀ H1, Wm m H H1 → ∀ R : It → Hp → Prop, (∀ Jt H2, Wm m H1 H2 →
    (∀ M' H', (∀ a, H2 a ≠ none → a ∈ M' → a ∈ m.M) → Bs M' H2 H' → (∀ i, i < n → Jt.go i H') ∧ Jt.stop n H' ∧ ∀ i v H'', i < n → Jt.yld i H' v H'' → Same H' H'' ∧ Dr X.K M' H'' v (item i)) → R Jt H2) → wi σ H1 R
section
variable {m : Md} {X : Cx} {σ : L2.St} {H : Hp} {tg iter e : Expr} {es : List Expr} {pos p : Pos} {ds ds2 : List PyData}
theorem get_some {n : Nat} {ds : List PyData} (h : n < ds.length) : ds[n]? = some (ds.getD n .none) := by
  rw [List.getElem?_eq_getElem h]
  simp [List.getD, h]
theorem sr_list (ja : JD m X σ H iter (.list ds)) : Sr m X σ H tg iter ds.length fun i => ds.getD i .none :=
  ⟨_, pi_list pe_c, fun H1 w R k => ja H1 w _ fun v H2 w2 r => by
    obtain ⟨a, vs, rfl, h1, hm, h2⟩ := Dr.litems r
    refine ⟨a, rfl, ⟨vs, SqL.of h1⟩, k _ _ w2 fun M' H' hM b => ?_⟩
    have h1' : H' a = some (.lst vs) := b _ _ h1 (.inl fun q => hm (hM a (by rw [h1]; simp) q))
    have hl := h2.len
    refine ⟨fun i hi => ⟨vs, vs[i]'(by omega), SqL.of h1', by simp⟩, ⟨vs, SqL.of h1', by omega⟩, fun i v H'' hi y => ?_⟩
    obtain ⟨rfl, y⟩ := y
    refine ⟨Same.refl _, ?_⟩
    obtain ⟨u, e1, e2⟩ := h2.at (get_some hi)
    have e3 := y vs (SqL.of h1')
    rw [e1] at e3
    cases e3
    exact Dr.bs b _ _ (Dr.sub (Same.refl _) hM _ _ e2)⟩
theorem sr_tup (ja : JD m X σ H iter (.tuple ds)) : Sr m X σ H tg iter ds.length fun i => ds.getD i .none :=
  ⟨_, pi_tup pe_c, fun H1 w R k => ja H1 w _ fun v H2 w2 r => by
    obtain ⟨a, vs, rfl, h1, h2⟩ := Dr.items r
    refine ⟨a, rfl, ⟨vs, h1⟩, k _ _ w2 fun M' H' hM b => ?_⟩
    have r' := Dr.bs b _ _ (Dr.sub (M' := M') (Same.refl _) hM _ _ r)
    obtain ⟨a', vs', e0, h1', h2'⟩ := Dr.items r'
    cases e0
    have hl := h2'.len
    refine ⟨fun i hi => ⟨vs', vs'[i]'(by omega), h1', by simp⟩, ⟨vs', h1', by omega⟩, fun i v H'' hi y => ?_⟩
    obtain ⟨rfl, y⟩ := y
    refine ⟨Same.refl _, ?_⟩
    obtain ⟨u, e1, e2⟩ := h2'.at (get_some hi)
    have e3 := y vs' h1'
    rw [e1] at e3
    cases e3
    exact e2⟩
theorem sr_range {n : Int} (hm : X.mg "range" = none) (ja : JD m X σ H e (.int n)) (hn : -(2 ^ 62) ≤ n ∧ n < 2 ^ 62) (hg : Gl X "range" := by rfl) (hs : starEach [e] X.env = [(false, eval e X.env)] := by rfl) (he : starEach [e] X.env = (false, eval e X.env) :: starEach [] X.env := by rfl) : Sr m X σ H tg (.Call (.Name "range" p) [e] [] pos) n.toNat fun i => .int i :=
  ⟨_, pi_range1 hg hm pa_c hs, fun H1 w R k => ja_cons ja ja_nil he H1 w _ fun vs H2 w2 r => by
    obtain ⟨v, rfl, h⟩ := r.one
    cases h
    refine ⟨n, rfl, hn.1, hn.2, k _ _ w2 fun M' H' hM b => ?_⟩
    refine ⟨fun i hi => hi, Nat.le_refl _, fun i v H'' hi y => ?_⟩
    obtain ⟨rfl, rfl⟩ := y
    refine ⟨Same.refl _, ?_⟩
    have e0 : (0 : Int) + (i : Int) = (i : Int) := Int.zero_add _
    rw [e0]
    exact .int _⟩
/-- zip of two tuples: new pairs -/
theorem sr_zipT {e2 : Expr} {kk : Nat} {tpos : Pos} {elts : List Expr} {n : Nat} (hm : X.mg "zip" = none) (ja : JD m X σ H e (.tuple ds)) (jb : JD m X σ H e2 (.tuple ds2)) (hn : n = min ds.length ds2.length) (hg : Gl X "zip" := by rfl)
    (hs : starEach [e, e2] X.env = (false, eval e X.env) :: starEach [e2] X.env := by rfl) (hs2 : starEach [e2] X.env = (false, eval e2 X.env) :: starEach [] X.env := by rfl) (hpl : (backTo pos (starEach [e2] X.env)).any (·.1) = false := by rfl) :
    Sr m X σ H (.Tuple elts kk tpos) (.Call (.Name "zip" p) [e, e2] [] pos) n fun i => .tuple [ds.getD i .none, ds2.getD i .none] :=
  ⟨_, RZ.pi_zipA hg hm pa_c hs hpl, fun H1 w R k => ja_cons ja (ja_cons jb ja_nil hs2) hs H1 w _ fun vs H2 w2 r => by
    obtain ⟨v, u, rfl, r1, r2⟩ := r.two
    obtain ⟨a, xs, rfl, h1, h2⟩ := Dr.items r1
    obtain ⟨b', ys, rfl, g1, g2⟩ := Dr.items r2
    refine ⟨a, b', xs, ys, rfl, .inr ⟨h1, g1, k _ _ w2 fun M' H' hM b => ?_⟩⟩
    have q1 := Dr.bs b _ _ (Dr.sub (M' := M') (Same.refl _) hM _ _ r1)
    have q2 := Dr.bs b _ _ (Dr.sub (M' := M') (Same.refl _) hM _ _ r2)
    obtain ⟨a2, xs, e0, h1, h2⟩ := Dr.items q1
    cases e0
    obtain ⟨b2, ys, e0, g1, g2⟩ := Dr.items q2
    cases e0
    have hl := h2.len
    have gl := g2.len
    subst hn
    refine ⟨fun i hi => ⟨xs, ys, xs[i]'(by omega), ys[i]'(by omega), h1, g1, by simp, by simp⟩, ⟨xs, ys, h1, g1, by omega⟩, fun i v H'' hi y => ?_⟩
    obtain ⟨T, x, z, rfl, hT, rfl, y1, y2⟩ := y
    obtain ⟨u1, e1, e2⟩ := h2.at (get_some (show i < ds.length by omega))
    obtain ⟨u2, e3, e4⟩ := g2.at (get_some (show i < ds2.length by omega))
    have f1 := y1 xs h1
    have f2 := y2 ys g1
    rw [e1] at f1
    rw [e3] at f2
    cases f1
    cases f2
    exact ⟨Same.new hT, .tup upd_same (.cons (Dr.bs (Bs.same (Same.new hT)) _ _ e2) (.cons (Dr.bs (Bs.same (Same.new hT)) _ _ e4) .nil))⟩⟩
end
/-! ## statements -/
section
variable {m : Md} {X : Cx} {σ : L2.St} {H : Hp} {a b c e o tg iter : Expr} {es : List Expr} {st : Stmt} {body orelse rest : List Stmt} {pos pos' p : Pos} {it ia ib : Item} {its : List Item} {d d1 d2 : PyData} {ds : List PyData} {t u : Bool} {sl sl' : List (Option Item)} {D : Ends}
theorem s_asg (n : Nat) {x : Str} (w : Wm m H H) (E : En X.K m.M H σ sl) (j : J m X σ H e it) (hN : X.N.Nodup) (k : ∀ σ1 H1, Wm m H H1 → En X.K m.M H1 σ1 (sl.set n (some it)) → cSs X rest D σ1 H1) (hi : X.N[n]? = some x := by rfl) (hx : Loc X.env.scope x := by first | exact Or.inl rfl | exact Or.inr rfl)
    (hs : swapsWith e (some (.Name x pos')) pos.line X.env = pure false := by rfl) (hf : X.fn x = true ∨ X.env.scope.names.lookup x = some .local := by first | exact .inl rfl | exact .inr rfl) : cSs X (.Assign [.Name x pos'] e pos :: rest) D σ H :=
  of_ps (ps_set hN hi hx pe_c hs hf) (j H w _ fun v H1 w1 r => k _ H1 w1 ((E.mono w1).set r))
/-- the value told -/
theorem s_asgR (n : Nat) {x : Str} {R : Item → Prop} (w : Wm m H H) (E : En X.K m.M H σ sl) (j : JR m X σ H e R) (hN : X.N.Nodup) (k : ∀ it σ1 H1, R it → Wm m H H1 → En X.K m.M H1 σ1 (sl.set n (some it)) → cSs X rest D σ1 H1) (hi : X.N[n]? = some x := by rfl) (hx : Loc X.env.scope x := by first | exact Or.inl rfl | exact Or.inr rfl)
    (hs : swapsWith e (some (.Name x pos')) pos.line X.env = pure false := by rfl) (hf : X.fn x = true ∨ X.env.scope.names.lookup x = some .local := by first | exact .inl rfl | exact .inr rfl) : cSs X (.Assign [.Name x pos'] e pos :: rest) D σ H :=
  of_ps (ps_set hN hi hx pe_c hs hf) (j H w _ fun v it H1 w1 hR r => k it _ H1 hR w1 ((E.mono w1).set r))
theorem s_unp {is : List Nat} (w : Wm m H H) (E : En X.K m.M H σ sl) (j : JD m X σ H e d) (g : Gt X tg is d sl sl') (k : ∀ σ1 H1, Wm m H H1 → En X.K m.M H1 σ1 sl' → cSs X rest D σ1 H1)
    (hs : swapsWithSole [tg] e pos.line X.env = pure false := by rfl) (hw : swappedStores [tg] e X.env = pure none := by rfl) (h1 : (assignEach [tg] X.env).map (·.2) = [assign tg X.env] := by rfl) : cSs X (.Assign [tg] e pos :: rest) D σ H :=
  of_ps (ps_asg pe_c pg_c hs hw h1) (j H w _ fun v H1 w1 r => g.run _ H1 σ v _ (E.mono w1) r fun σ1 E1 _ _ => k σ1 H1 w1 E1)
theorem s_ret (w : Wm m H H) (j : J m X σ H e it) (k : ∀ v H1, Wm m H H1 → Ir X.K m.M H1 v it → D.rt v H1) : cSs X (.Return (some e) pos :: rest) D σ H := of_ps (ps_ret pe_c) (j H w _ k)
theorem s_retR {R : Item → Prop} (w : Wm m H H) (j : JR m X σ H e R) (k : ∀ v it H1, Wm m H H1 → R it → Ir X.K m.M H1 v it → D.rt v H1) : cSs X (.Return (some e) pos :: rest) D σ H := of_ps (ps_ret pe_c) (j H w _ k)
theorem s_if (w : Wm m H H) (j : JT m X σ H c t) (k1 : t = true → ∀ H1, Wm m H H1 → cSs X body { D with nx := cSs X rest D } σ H1) (k2 : t = false → ∀ H1, Wm m H H1 → cSs X orelse { D with nx := cSs X rest D } σ H1) : cSs X (.If c body orelse pos :: rest) D σ H :=
  of_ps (ps_if pt_c pss_c pss_c) (j H w _ fun H1 w1 => by
    cases t with
    | true => exact iteT (k1 rfl H1 w1)
    | false => exact iteF (k2 rfl H1 w1))
theorem s_nil (h : D.nx σ H) : cSs X [] D σ H := fun pins s I => pss_nil.run pins s σ H D I h
/-- an if without an else whose test fails; holds -/
theorem s_if0 (w : Wm m H H) (j : JT m X σ H c false) (k : ∀ H1, Wm m H H1 → cSs X rest D σ H1) : cSs X (.If c body [] pos :: rest) D σ H := s_if w j (fun q => by cases q) fun _ H1 w1 => s_nil (k H1 w1)
theorem s_if1 (w : Wm m H H) (j : JT m X σ H c true) (k : ∀ H1, Wm m H H1 → cSs X body { D with nx := cSs X rest D } σ H1) : cSs X (.If c body orelse pos :: rest) D σ H := s_if w j (fun _ => k) fun q => by cases q
theorem s_expr (w : Wm m H H) (j : J m X σ H e it) (k : ∀ H1, Wm m H H1 → cSs X rest D σ H1) (hs : swapsWith e none pos.line X.env = pure false := by rfl) : cSs X (.Expr e pos :: rest) D σ H :=
  of_ps (ps_expr pe_c hs) (j H w _ fun v H1 w1 _ => k H1 w1)
/-- a, b = x, y -/
theorem s_par (n k : Nat) {x y : Str} {px py pt : Pos} {kt k2 pt2} (w : Wm m H H) (E : En X.K m.M H σ sl) (hc : X.calm = true) (ja : JA m X σ H [a, b] [ia, ib]) (hN : X.N.Nodup) (kk : ∀ σ1 H1, Wm m H H1 → En X.K m.M H1 σ1 ((sl.set n (some ia)).set k (some ib)) → cSs X rest D σ1 H1)
    (hi : X.N[n]? = some x := by rfl) (hj : X.N[k]? = some y := by rfl) (hij : n ≠ k := by decide) (hx : X.env.scope.names.lookup x = some .local := by rfl) (hy : X.env.scope.names.lookup y = some .local := by rfl)
    (hw : swappedStores [.Tuple [.Name x px, .Name y py] kt pt] (.Tuple [a, b] k2 pt2) X.env = pure (some [x, y]) := by rfl)
    (hs : swapsWithSole [.Tuple [.Name x px, .Name y py] kt pt] (.Tuple [a, b] k2 pt2) pos.line X.env = pure false := by rfl) : cSs X (.Assign [.Tuple [.Name x px, .Name y py] kt pt] (.Tuple [a, b] k2 pt2) pos :: rest) D σ H :=
  of_ps (ps_par hc hN hi hj hij hx hy pa_c hw hs) (ja H w _ fun vs H1 w1 r => by
    obtain ⟨v, u, rfl, r1, r2⟩ := r.two
    exact ⟨v, u, rfl, kk _ H1 w1 (((E.mono w1).set r1).set r2)⟩)
/-- for, over what is walked: a word I of where the loop began, the turn, the slots, the heap -/
theorem s_for {n : Nat} {item : Nat → PyData} (w : Wm m H H) (hp : PassesOwn (model X.prog X.w) X.A X.env X.xe) (hc : X.calm = true) (S : Sr m X σ H tg iter n item) (I : Hp → Nat → L2.St → Hp → Prop) (h0 : ∀ H2, Wm m H H2 → I H2 0 σ H2) (hb : ∀ H2 i σ' H', i ≤ n → I H2 i σ' H' → Bs m.M H2 H')
    (step : ∀ H2 i σ' H' H'' v, Wm m H H2 → i < n → I H2 i σ' H' → Same H' H'' → Dr X.K m.M H'' v (item i) → cG X tg v σ' H'' fun σ3 H3 => cSs X body { D with nx := I H2 (i + 1), ct := I H2 (i + 1), bk := cSs X rest D } σ3 H3)
    (done : ∀ H2 σ' H', Wm m H H2 → I H2 n σ' H' → cSs X rest D σ' H') (hs : ∀ x, foldedSetIterable iter X.env x = pure x := by intro _; rfl) : cSs X (.For tg iter body [] pos :: rest) D σ H := by
  obtain ⟨wi, hpi, k⟩ := S.ex
  refine of_ps (ps_for hp hc hpi pg_c pss_c hs) (k H w _ fun Jt H2 w2 y => ?_)
  refine ⟨fun i mm σ' H' => mm = n - i ∧ i ≤ n ∧ I H2 i σ' H', ⟨n, rfl, Nat.zero_le _, h0 H2 w2⟩, ?_⟩
  rintro i mm σ' H' ⟨rfl, hi, q⟩
  obtain ⟨y1, y2, y3⟩ := y m.M H' (fun _ _ z => z) (hb H2 i σ' H' hi q)
  by_cases hlt : i < n
  · refine .inr ⟨y1 i hlt, I H2 (i + 1), fun σ3 H3 q3 => ⟨n - (i + 1), by omega, rfl, hlt, q3⟩, fun v H'' yy => ?_⟩
    obtain ⟨k1, k2⟩ := y3 i v H'' hlt yy
    exact step H2 i σ' H' H'' v w2 hlt q k1 k2
  · have e : i = n := by omega
    subst e
    exact .inl ⟨y2, done H2 σ' H' w2 q⟩
/-- while, by a word that falls -/
theorem s_while (hp : PassesOwn (model X.prog X.w) X.A X.env X.xe) (W : Nat → L2.St → Hp → Prop) (m0 : Nat) (h0 : W m0 σ H)
    (hs : ∀ n σ' H', W n σ' H' → ∃ t, Wm m H' H' ∧ JT m X σ' H' c t ∧ (t = true → ∀ H1, Wm m H' H1 → cSs X body { D with nx := fun σ2 H2 => ∃ n', n' < n ∧ W n' σ2 H2, ct := fun σ2 H2 => ∃ n', n' < n ∧ W n' σ2 H2, bk := cSs X rest D } σ' H1) ∧ (t = false → ∀ H1, Wm m H' H1 → cSs X rest D σ' H1)) :
    cSs X (.While c body [] pos :: rest) D σ H := by
  refine of_ps (ps_while hp pt_c pss_c) ⟨W, ⟨m0, h0⟩, fun n σ' H' hw => ?_⟩
  obtain ⟨t, w, j, h1, h2⟩ := hs n σ' H' hw
  refine j H' w _ fun H1 w1 => ?_
  cases t with
  | true => exact ⟨fun σ2 H2 => ∃ n', n' < n ∧ W n' σ2 H2, fun σ2 H2 q => q, h1 rfl H1 w1⟩
  | false => exact h2 rfl H1 w1
end
end Gc
namespace Gc
open PySem PySem.Spec PyProof.Rows L2
/-! ## defs by their promises -/
section
variable (P : Program) (w : World) (K : PySem.W.Frag) (mg : Str → Option Value) (base : Heap)
/-- the module's name x is a def that keeps sp at level k; dvs: the defaults that fill up -/
structure Fo (k : Nat) (x : Str) (dvs : List V) (sp : Sp) : Prop where
  ex : ∃ (f : Addr) (fd : FuncData) (ps : List Str) (ds : List Value), FnOk P w K mg base CX0 k f fd ps sp ∧ mg x = some (.ref f) ∧ PySem.W.keepIn K (.ref f) = true ∧ Binds K fd ps ds ∧ Vals dvs ds
/-- so for a method of the class at C -/
structure Me (C : Addr) (k : Nat) (x : Str) (dvs : List V) (sp : Sp) : Prop where
  ex : ∃ (f : Addr) (fd : FuncData) (ps : List Str) (ds : List Value), FnOk P w K mg base CX0 k f fd ps sp ∧ Meth K C x f ∧ Binds K fd ps ds ∧ Vals dvs ds
end
/-- where a def stands, with its text -/
structure Gf (K : PySem.W.Frag) (mg : Str → Option Value) (x : Str) (st : Stmt) (dvs : List V) : Prop where
  ex : ∃ (f : Addr) (fd : FuncData), FunD K x x (defArgs st) (defBody st) (defScope st) dvs [] f fd ∧ mg x = some (.ref f)
structure Gm (K : PySem.W.Frag) (C : Addr) (x q : Str) (st : Stmt) (dvs : List V) (f : Addr) : Prop where
  ex : ∃ (fd : FuncData), FunD K x q (defArgs st) (defBody st) (defScope st) dvs [] f fd
/-- data in, data out, nothing touched -/
def spD (K : PySem.W.Frag) (R : List PyData → PyData → Prop) : Sp := fun vs H Q _ => ∃ ds d, DrA K [] H vs ds ∧ R ds d ∧ ∀ v H', Same H H' → Dr K [] H' v d → Q v H'
def mdp (p : Addr) : Md := ⟨[p], [p], fun _ h => h⟩
/-- a pen ahead -/
def spP (K : PySem.W.Frag) (Pre : List PyData → Prop) (R : List PyData → PyData → Prop) : Sp := fun vs H Q _ => ∃ (p : Addr) (vs' : List V) (ds : List PyData), vs = .ref p :: vs' ∧ PenAt H p ∧ DrA K [p] H vs' ds ∧ Pre ds ∧ ∀ v d H', R ds d → Wm (mdp p) H H' → Dr K [p] H' v d → Q v H'
/-- the slots at the entry -/
def sl0 (n : Nat) (is : List Item) : List (Option Item) := is.map some ++ List.replicate (n - is.length) none
theorem en_start {K : PySem.W.Frag} {M : List Addr} {H : Hp} {N : List Str} : ∀ {is : List Item} {vs : List V}, IrA K M H vs is → En K M H (L2.start N vs) (sl0 N.length is) := fun {is vs} h => by
  have hl : vs.length = is.length := by
    induction h with
    | nil => rfl
    | cons _ _ ih => exact congrArg Nat.succ ih
  have at_ : ∀ {is : List Item} {vs : List V}, IrA K M H vs is → ∀ (i : Nat) it, is[i]? = some it → ∃ v, vs[i]? = some v ∧ Ir K M H v it := by
    intro is vs h
    induction h with
    | nil => intro i it e; simp at e
    | cons h r ih =>
      intro i it e
      cases i with
      | zero =>
        have e' := Option.some.inj e
        subst e'
        exact ⟨_, rfl, h⟩
      | succ i =>
        obtain ⟨v, h1, h2⟩ := ih i it (by simpa using e)
        exact ⟨v, by simpa using h1, h2⟩
  unfold L2.start sl0
  refine ⟨by simp [hl], fun i it e => ?_⟩
  by_cases hi : i < is.length
  · rw [List.getElem?_append_left (by simpa using hi), List.getElem?_map] at e
    cases e2 : is[i]? with
    | none => rw [e2] at e; cases e
    | some jt =>
      rw [e2] at e
      have e3 : jt = it := Option.some.inj (Option.some.inj e)
      subst e3
      obtain ⟨v, h1, h2⟩ := at_ h i _ e2
      exact ⟨v, by rw [List.getElem?_append_left (by simp; omega), List.getElem?_map, h1]; rfl, h2⟩
  · rw [List.getElem?_append_right (by simpa using hi), List.getElem?_replicate] at e
    split at e <;> cases e
theorem DrA.items {K : PySem.W.Frag} {M : List Addr} {H : Hp} : ∀ {ds : List PyData} {vs : List V}, DrA K M H vs ds → IrA K M H vs (ds.map Item.d)
  | [], _, h => by cases h; exact .nil
  | d :: ds, _, h => by
    cases h with
    | cons h r => exact .cons h r.items
theorem w_md0 (H : Hp) : Wm md0 H H := Same.w0 (Same.refl H)
section
variable {P : Program} {w : World} {K : PySem.W.Frag} {mg : Str → Option Value} {base : Heap}
/-- a def of data, by its body -/
theorem fo_of {x : Str} {st : Stmt} {N ps : List Str} {k : Nat} {R : List PyData → PyData → Prop} (G : Gf K mg x st []) (S : FnScope N ps (defScope st)) (len : ∀ ds d, R ds d → ds.length = ps.length)
    (hb : ∀ (kV doc pm : Value) (an : Option Addr) (cdv ct : Value) (us : List Value), us.length = ps.length → bindArgs (PySem.W.fnOf x x (defArgs st) (defBody st) (defScope st) .none kV doc pm an cdv ct) ⟨us, []⟩ = pure (ps.zip us))
    (body : ∀ (f : Addr) (cdv : Value) (A : Around) (outer : List Env) (s : Shared) (H : Hp) (vs : List V) (Q : VK) (E : XK) (ds : List PyData) (d : PyData), Room k (A.deeper (envOfC x (defScope st) s.heap.objs.size f cdv)) → En K [] H (L2.start N vs) (sl0 N.length (ds.map Item.d)) → R ds d →
      (∀ v H', Wm md0 H H' → Dr K [] H' v d → Q v H') → cSs (cxOf CX0 P w K mg base N x (defScope st) f cdv A outer s H E).nox (defBody st) { nx := fun _ H' => Q .non H', rt := Q } (L2.start N vs) H) : Fo P w K mg base (k + 1) x [] (spD K R) := by
  obtain ⟨f, fd, F, hm⟩ := G.ex
  refine ⟨f, fd, ps, [], F.ok S (fun vs H Q E h => ?_) (fun cdv A outer s H vs Q E hr h => ?_), hm, F.kp, F.bindsN hb, .nil⟩
  · obtain ⟨ds, d, h1, h2, _⟩ := h
    rw [h1.len]
    exact len ds d h2
  · obtain ⟨ds, d, h1, h2, h3⟩ := h
    exact ⟨_, PSs.nox pss_c, body f cdv A outer s H vs Q E ds d hr (en_start h1.items) h2 fun v H' k r => h3 v H' k.old r⟩
/-- a def that draws -/
theorem fo_ofP {x : Str} {st : Stmt} {N ps : List Str} {k : Nat} {Pre : List PyData → Prop} {R : List PyData → PyData → Prop} (G : Gf K mg x st []) (S : FnScope N ps (defScope st)) (len : ∀ ds, Pre ds → ds.length + 1 = ps.length)
    (hb : ∀ (kV doc pm : Value) (an : Option Addr) (cdv ct : Value) (us : List Value), us.length = ps.length → bindArgs (PySem.W.fnOf x x (defArgs st) (defBody st) (defScope st) .none kV doc pm an cdv ct) ⟨us, []⟩ = pure (ps.zip us))
    (body : ∀ (f : Addr) (cdv : Value) (A : Around) (outer : List Env) (s : Shared) (H : Hp) (vs : List V) (Q : VK) (E : XK) (p : Addr) (ds : List PyData), Room k (A.deeper (envOfC x (defScope st) s.heap.objs.size f cdv)) → Wm (mdp p) H H → En K [p] H (L2.start N vs) (sl0 N.length (.v (.ref p) :: ds.map Item.d)) → Pre ds →
      (∀ v d H', R ds d → Wm (mdp p) H H' → Dr K [p] H' v d → Q v H') → cSs (cxOf CX0 P w K mg base N x (defScope st) f cdv A outer s H E).nox (defBody st) { nx := fun _ H' => Q .non H', rt := Q } (L2.start N vs) H) : Fo P w K mg base (k + 1) x [] (spP K Pre R) := by
  obtain ⟨f, fd, F, hm⟩ := G.ex
  refine ⟨f, fd, ps, [], F.ok S (fun vs H Q E h => ?_) (fun cdv A outer s H vs Q E hr h => ?_), hm, F.kp, F.bindsN hb, .nil⟩
  · obtain ⟨p, vs', ds, rfl, _, h1, h2, _⟩ := h
    rw [List.length_cons, h1.len]
    exact len ds h2
  · obtain ⟨p, vs', ds, rfl, hp, h1, h2, h3⟩ := h
    have pw : Wm (mdp p) H H := ⟨fun _ _ h _ => h, fun a ha => by
      have e : a = p := List.mem_singleton.mp ha
      subst e
      exact hp, fun a ha => by
      have e : a = p := List.mem_singleton.mp ha
      subst e
      obtain ⟨o, q, _⟩ := hp
      rw [q]
      simp⟩
    exact ⟨_, PSs.nox pss_c, body f cdv A outer s H _ Q E p ds hr pw (en_start (.cons rfl h1.items)) h2 h3⟩
end
/-! ## calls -/
section
variable {m : Md} {X : Cx} {σ : L2.St} {H : Hp} {e o : Expr} {es : List Expr} {pos p apos : Pos} {k k' : Nat} {x : Str} {dvs : List V} {sp : Sp} {Q : VK} {its : List Item} {d : PyData} {ds : List PyData} {R : List PyData → PyData → Prop} {C : Addr}
theorem c_call (G : Fo X.prog X.w X.K X.mg X.base k x dvs sp) (hr : Room k' X.A) (hk : k ≤ k') (q : cA X (e :: es) σ H fun vs H1 => sp (vs ++ dvs) H1 Q E0) (hg : Gl X x := by rfl) (hdb : (x == ("__debug__" : Str)) = false := by decide)
    (he : starEach (e :: es) X.env = (false, eval e X.env) :: starEach es X.env := by rfl) (hpl : (backTo pos (starEach es X.env)).any (·.1) = false := by rfl) : cE X (.Call (.Name x p) (e :: es) [] pos) σ H Q := by
  obtain ⟨f, fd, ps, ds, F, hm, hkp, hb, hd⟩ := G.ex
  exact of_pe (pe_call F (hr.mono hk) hg hm hkp hb hd pass0 pa_c hdb he hpl) q
theorem DrA.to0 {K : PySem.W.Frag} {M : List Addr} {H : Hp} {ds : List PyData} {vs : List V} (h : DrA K M H vs ds) : DrA K [] H vs ds := DrA.sub (Same.refl _) (fun _ _ q => by cases q) _ _ h
/-- a call of a def of data -/
theorem j_call (G : Fo X.prog X.w X.K X.mg X.base k x [] (spD X.K R)) (hr : Room k' X.A) (ja : JAd m X σ H (e :: es) ds) (hR : R ds d) (hk : k ≤ k' := by decide) (hn : nolst d = true := by rfl) (hg : Gl X x := by rfl) (hdb : (x == ("__debug__" : Str)) = false := by decide)
    (he : starEach (e :: es) X.env = (false, eval e X.env) :: starEach es X.env := by rfl) (hpl : (backTo pos (starEach es X.env)).any (·.1) = false := by rfl) : JD m X σ H (.Call (.Name x p) (e :: es) [] pos) d := fun H1 w Q q =>
  c_call G hr hk (ja H1 w _ fun vs H2 w2 r => by
    rw [List.append_nil]
    exact ⟨ds, d, r.data.to0, hR, fun v H3 kk r3 => q v H3 (w2.trans (w2.rfl1.same kk)) (Dr.free d v hn r3)⟩) hg hdb he hpl
theorem Wm.of_pen {m : Md} {H H1 H2 : Hp} {a : Addr} (w : Wm m H H1) (hP : m.P = [a]) (k : Wm (mdp a) H1 H2) : Wm m H1 H2 := by
  refine ⟨fun b o h q => k.keep b o h (by rw [hP] at q; exact q), fun b hb => k.pens b (by rw [hP] at hb; exact hb), fun b hb q => ?_⟩
  by_cases e : b ∈ [a]
  · obtain ⟨o, h, _⟩ := k.pens b e
    rw [h] at q
    cases q
  · cases h : H1 b with
    | none => exact w.ok b hb h
    | some o =>
      rw [k.keep b o h (.inl e)] at q
      cases q
/-- a call of a def that draws -/
theorem j_callP {a : Addr} {Pre : List PyData → Prop} {Ra : List Item → Prop} {R' : Item → Prop} (G : Fo X.prog X.w X.K X.mg X.base k x [] (spP X.K Pre R)) (hr : Room k' X.A) (hP : m.P = [a]) (ja : JAR m X σ H (e :: es) Ra) (hR : ∀ its, Ra its → ∃ ds, its = .v (.ref a) :: ds.map Item.d ∧ Pre ds ∧ ∀ d, R ds d → nolst d = true ∧ R' (.d d)) (hk : k ≤ k' := by decide) (hg : Gl X x := by rfl) (hdb : (x == ("__debug__" : Str)) = false := by decide)
    (he : starEach (e :: es) X.env = (false, eval e X.env) :: starEach es X.env := by rfl) (hpl : (backTo pos (starEach es X.env)).any (·.1) = false := by rfl) : JR m X σ H (.Call (.Name x p) (e :: es) [] pos) R' := fun H1 w Q q =>
  c_call G hr hk (ja H1 w _ fun vs its H2 w2 hRa r => by
    rw [List.append_nil]
    obtain ⟨ds, rfl, hpre, h⟩ := hR its hRa
    cases r with
    | cons r1 r2 =>
      have e1 : _ = V.ref a := r1
      subst e1
      refine ⟨a, _, ds, rfl, w2.pens a (by rw [hP]; exact List.mem_singleton.mpr rfl), DrA.sub (Same.refl _) (fun b _ hb => m.sub b (by rw [hP]; exact hb)) _ _ r2.data, hpre, fun v d H3 hd kk r3 => ?_⟩
      obtain ⟨hn, hR'⟩ := h d hd
      exact q v (.d d) H3 (w2.trans (w2.of_pen hP kk)) hR' (Dr.free d v hn r3)) hg hdb he hpl
theorem jar_of (h : JA m X σ H es its) : JAR m X σ H es (fun z => z = its) := fun H1 w Q q => h H1 w Q fun v H2 w2 r => q v its H2 w2 rfl r
theorem jar_nil : JAR m X σ H [] (fun z => z = []) := jar_of ja_nil
theorem jar_cons {Ra : Item → Prop} {Rb : List Item → Prop} (j : JR m X σ H e Ra) (r : JAR m X σ H es Rb) (hs : starEach (e :: es) X.env = (false, eval e X.env) :: starEach es X.env := by rfl) : JAR m X σ H (e :: es) (fun z => ∃ i is, z = i :: is ∧ Ra i ∧ Rb is) := fun H1 w Q q =>
  of_pa (pa_cons pe_c pa_c hs) (j H1 w _ fun v i H2 w2 hR r2 => r H2 (w.trans w2) _ fun vs is H3 w3 hR3 r3 => q _ _ H3 (w2.trans w3) ⟨i, is, rfl, hR, hR3⟩ (.cons (r2.mono w3) r3))
end
/-! ## comprehensions -/
theorem wipe_in {σ : L2.St} {i : Nat} : ∀ {vs : List Nat}, i ∈ vs → (wipe σ vs)[i]? = σ[i]?.map fun _ => none
  | v :: vs, h => by
    show ((wipe σ vs).set v none)[i]? = _
    by_cases e : v = i
    · subst e
      by_cases hl : v < σ.length
      · rw [List.getElem?_set_self (by rw [wipe_length]; exact hl), List.getElem?_eq_getElem hl]
        rfl
      · rw [List.getElem?_eq_none (by rw [List.length_set, wipe_length]; omega), List.getElem?_eq_none (by omega)]
        rfl
    · rw [List.getElem?_set_ne e]
      rcases List.mem_cons.mp h with q | q
      · exact absurd q.symm e
      · exact wipe_in q
theorem wipe_off {σ : L2.St} {i : Nat} : ∀ {vs : List Nat}, i ∉ vs → (wipe σ vs)[i]? = σ[i]?
  | [], _ => rfl
  | v :: vs, h => by
    rw [List.mem_cons, not_or] at h
    show ((wipe σ vs).set v none)[i]? = _
    rw [List.getElem?_set_ne (fun q => h.1 q.symm)]
    exact wipe_off h.2
theorem wipe_same {σ σ' : L2.St} {vs : List Nat} (hl : σ'.length = σ.length) (h : ∀ j, j ∉ vs → σ'[j]? = σ[j]?) : wipe σ' vs = wipe σ vs := by
  refine List.ext_getElem? fun i => ?_
  by_cases hi : i ∈ vs
  · rw [wipe_in hi, wipe_in hi]
    by_cases hz : i < σ.length
    · rw [List.getElem?_eq_getElem hz, List.getElem?_eq_getElem (by omega)]
      rfl
    · rw [List.getElem?_eq_none (by omega), List.getElem?_eq_none (by omega)]
  · rw [wipe_off hi, wipe_off hi, h i hi]
theorem En.wipe {K : PySem.W.Frag} {M : List Addr} {H : Hp} {σ : L2.St} {sl slw : List (Option Item)} {vs : List Nat} (E : En K M H σ sl) (hl : slw.length = sl.length) (hw : ∀ (i : Nat) it, slw[i]? = some (some it) → sl[i]? = some (some it) ∧ i ∉ vs) : En K M H (wipe σ vs) slw :=
  ⟨by rw [wipe_length, hl]; exact E.len, fun i it e => by
    obtain ⟨e1, e2⟩ := hw i it e
    rw [wipe_off e2]
    exact E.at_ i it e1⟩
/-- the turns that give, and what -/
inductive Lc (kp : Nat → Bool) (R : Nat → PyData → Prop) : Nat → List PyData → Prop
  | zero : Lc kp R 0 []
  | skip {n : Nat} {ds : List PyData} (h : kp n = false) (r : Lc kp R n ds) : Lc kp R (n + 1) ds
  | take {n : Nat} {ds : List PyData} {d : PyData} (h : kp n = true) (r : Lc kp R n ds) (hd : R n d) : Lc kp R (n + 1) (ds ++ [d])
theorem Lc.len {kp : Nat → Bool} {R : Nat → PyData → Prop} {n : Nat} {ds : List PyData} (h : Lc kp R n ds) : ds.length ≤ n := by
  induction h with
  | zero => exact Nat.le_refl _
  | skip _ _ ih => omega
  | take _ _ _ ih => rw [List.length_append, List.length_singleton]; omega
theorem Lc.eq {kp : Nat → Bool} {f : Nat → PyData} {n : Nat} {ds : List PyData} (h : Lc kp (fun i d => d = f i) n ds) : ds = ((List.range n).filter kp).map f := by
  induction h with
  | zero => rfl
  | skip h _ ih =>
    rw [List.range_succ, List.filter_append, List.map_append, ← ih]
    simp [h]
  | take h _ hd ih =>
    rw [List.range_succ, List.filter_append, List.map_append, ← ih, hd]
    simp [h]
def cTs (X : Cx) (ifs : List Expr) : TT := fun σ H Q => ∀ pins s, Inv X pins σ H s → wpAny (model X.prog X.w) X.A (forIn ifs true fun c r => if r = true then do let ok ← isTrue c X.env (eval c X.env); pure (ForInStep.yield ok) else pure (ForInStep.yield r)) (TP X pins σ Q) X.xe s
def JTs (m : Md) (X : Cx) (σ : L2.St) (H : Hp) (ifs : List Expr) (b : Bool) : Prop := ∀ H1, Wm m H H1 → ∀ Q : Bool → Hp → Prop, (∀ H2, Wm m H1 H2 → Q b H2) → cTs X ifs σ H1 Q
section
variable {m : Md} {X : Cx} {σ : L2.St} {H : Hp} {elt tg iter c : Expr} {ifs : List Expr} {scope : Scope} {own : List (Str × Nat)} {pos : Pos} {n : Nat} {item : Nat → PyData} {sl slw : List (Option Item)}
theorem jts_nil : JTs m X σ H [] true := fun H1 w Q q pins s I => pts_nil.run pins s σ H1 Q I (q H1 w.rfl1)
theorem jts_one {t : Bool} (h : JT m X σ H c t) : JTs m X σ H [c] t := fun H1 w Q q pins s I => (pts_one pt_c).run pins s σ H1 Q I (h H1 w Q q)
/-- the readings of a comprehension's parts in any block -/
def lcG (X : Cx) (scope : Scope) (tg : Expr) : TG := fun v σ' H' Q => ∀ (s : Shared) (Hs : Hp) (C : Addr) (cl : List (Str × Addr)) (fp : List Addr), cG (X.blk s Hs scope (compEnvC scope cl C X.env) fp) tg v σ' H' Q
def lcT (X : Cx) (scope : Scope) (ifs : List Expr) : TT := fun σ' H' Q => ∀ (s : Shared) (Hs : Hp) (C : Addr) (cl : List (Str × Addr)) (fp : List Addr), cTs (X.blk s Hs scope (compEnvC scope cl C X.env) fp) ifs σ' H' Q
def lcE (X : Cx) (scope : Scope) (elt : Expr) : TE := fun σ' H' Q => ∀ (s : Shared) (Hs : Hp) (C : Addr) (cl : List (Str × Addr)) (fp : List Addr), cE (X.blk s Hs scope (compEnvC scope cl C X.env) fp) elt σ' H' Q
theorem lc_t (own : List (Str × Nat)) (E : En X.K m.M H σ sl) (S : Sr m X σ H tg iter n item) (hn : n ≤ 1000) (hw : slw.length = sl.length) (hw2 : ∀ (i : Nat) it, slw[i]? = some (some it) → sl[i]? = some (some it) ∧ i ∉ own.map (·.2))
    (is : List Nat) (sl1 : Nat → List (Option Item)) (his : ∀ j, j ∈ is → j ∈ own.map (·.2)) (hg : ∀ i, i < n → ∀ (s : Shared) (Hs : Hp) (C : Addr) (cl : List (Str × Addr)) (fp : List Addr), Gt (X.blk s Hs scope (compEnvC scope cl C X.env) fp) tg is (item i) slw (sl1 i))
    (kp : Nat → Bool) (ht : ∀ i, i < n → ∀ (m' : Md), m'.P = m.P → ∀ (s : Shared) (Hs : Hp) (C : Addr) (cl : List (Str × Addr)) (fp : List Addr) σ' H', Wm m' H' H' → En X.K m'.M H' σ' (sl1 i) → JTs m' (X.blk s Hs scope (compEnvC scope cl C X.env) fp) σ' H' ifs (kp i))
    (R : Nat → PyData → Prop) (he : ∀ i, i < n → kp i = true → ∀ (m' : Md), m'.P = m.P → ∀ (s : Shared) (Hs : Hp) (C : Addr) (cl : List (Str × Addr)) (fp : List Addr) σ' H', Wm m' H' H' → En X.K m'.M H' σ' (sl1 i) → JR m' (X.blk s Hs scope (compEnvC scope cl C X.env) fp) σ' H' elt (fun it => ∃ d, it = .d d ∧ R i d))
    : ∃ wi, PI X tg iter wi ∧ ∀ H1, Wm m H H1 → ∀ Q : VK, (∀ v it H2, Wm m H1 H2 → (∃ ds, it = .d (.list ds) ∧ Lc kp R n ds) → Ir X.K m.M H2 v it → Q v H2) → tLc wi (lcG X scope tg) (lcT X scope ifs) (lcE X scope elt) (own.map (·.2)) σ H1 Q := by
  obtain ⟨wi, hpi, k⟩ := S.ex
  refine ⟨wi, hpi, fun H1 w1 Q q => ?_⟩
  refine k H1 w1 _ fun Jt H2 w2 y L hL => ?_
  have w12 := w1.trans w2
  have hLM : L ∉ m.M := w2.fresh hL
  have sub2 : ∀ a, H2 a ≠ none → a ∈ (m.add L).M → a ∈ m.M := fun a ha hm => by
    rcases List.mem_cons.mp hm with e | e
    · exact absurd (e ▸ hL) ha
    · exact e
  have E2 : En X.K (m.add L).M H2 (wipe σ (own.map (·.2))) slw := ((E.mono w12).wipe hw hw2).sub (Same.refl _) sub2
  refine ⟨fun i mm H' => mm = n - i ∧ i ≤ n ∧ Wm m H2 H' ∧ Bs (m.add L).M H2 H' ∧ ∃ ds, Lo X.K (m.add L).M H' L ds ∧ Lc kp R i ds, ⟨n, rfl, Nat.zero_le _, w2.new hL, Bs.same (Same.new hL), [], ⟨[], upd_same, .nil⟩, .zero⟩, ?_⟩
  rintro i mm H' ⟨rfl, hi, w', b', ds, lo, lc⟩
  obtain ⟨y1, y2, y3⟩ := y (m.add L).M H' sub2 b'
  by_cases hlt : i < n
  · refine .inr ⟨y1 i hlt, fun H3 => Wm m H2 H3 ∧ Bs (m.add L).M H2 H3 ∧ ∃ ds, Lo X.K (m.add L).M H3 L ds ∧ Lc kp R (i + 1) ds, fun H3 ⟨q1, q2, q3⟩ => ⟨n - (i + 1), by omega, rfl, hlt, q1, q2, q3⟩, fun v H'' yy s Hs C cl fp => ?_⟩
    obtain ⟨k1, k2⟩ := y3 i v H'' hlt yy
    have hLP : L ∉ (m.add L).P := fun z => hLM (m.sub L z)
    have b'' := b'.trans (Bs.same k1)
    have w'' := w'.trans (w'.rfl1.same k1)
    refine (hg i hlt s Hs C cl fp).run _ H'' _ v _ (E2.bs b'') k2 fun σ' E' hl' hk' => ⟨(wipe_same hl' fun j hj => hk' j fun z => hj (his j z)).trans (wipe_same (wipe_length _ _) fun j hj => wipe_off hj), fun s Hs C cl fp => ?_⟩
    have lo'' : Lo X.K (m.add L).M H'' L ds := let ⟨vs, h1, h2⟩ := lo; ⟨vs, k1 _ _ h1, DrA.bs (Bs.same k1) _ _ h2⟩
    have wm'' : Wm (m.add L) H'' H'' := w''.rfl1.add lo''.ne
    refine ht i hlt (m.add L) rfl s Hs C cl fp σ' H'' wm'' E' H'' wm'' _ fun H3 w3 => ite2 (fun hkp => ?_) fun hkp => ?_
    · intro s Hs C cl fp
      refine he i hlt hkp (m.add L) rfl s Hs C cl fp σ' H3 w3.rfl1 (E'.mono w3) H3 w3.rfl1 _ fun v' it H4 w4 hR r4 => ?_
      obtain ⟨d, rfl, hd⟩ := hR
      obtain ⟨vs, h1, h2⟩ := (lo''.mono w3 hLP).mono w4 hLP
      have w5 : Wm m H2 H4 := (w''.trans w3.drop).trans w4.drop
      refine ⟨vs, h1, by rw [h2.len]; exact Nat.lt_of_le_of_lt lc.len (small1000 (by omega)), ⟨fun a o ha hq => ?_, fun a ha => ?_, fun a ha => ?_⟩, ((b''.trans w3.bs).trans w4.bs).trans (Bs.mut h1 (List.mem_cons_self ..)), ds ++ [d], ⟨vs ++ [v'], upd_same, (DrA.mut h1 (List.mem_cons_self ..) _ _ h2).append (.one (Dr.mut h1 (List.mem_cons_self ..) _ _ r4))⟩, .take hkp lc hd⟩
      · exact (upd_ne (ne_of_none ha hL)).trans (w5.keep a o ha hq)
      · obtain ⟨o, e1, e2⟩ := w5.pens a ha
        exact ⟨o, (upd_ne (fun z => hLM (by rw [← z]; exact m.sub a ha))).trans e1, e2⟩
      · rw [upd_ne (fun z => hLM (by rw [← z]; exact ha))]
        exact w5.ok a ha
    · have e : kp i = false := by simpa using hkp
      exact ⟨w''.trans w3.drop, b''.trans w3.bs, ds, lo''.mono w3 hLP, .skip e lc⟩
  · have e : i = n := by omega
    subst e
    refine .inl ⟨y2, q _ (.d (.list ds)) H' (w2.trans w') ⟨ds, rfl, lc⟩ ?_⟩
    obtain ⟨vs, h1, h2⟩ := lo
    exact .lst h1 hLM (DrA.sub (Same.refl _) (fun a _ ha => List.mem_cons_of_mem _ ha) _ _ h2)
theorem jr_lc (own : List (Str × Nat)) (E : En X.K m.M H σ sl) (hc : X.calm = true) (hN : X.N.Nodup) (ok : BlkOk X.N X.env.scope scope own) (S : Sr m X σ H tg iter n item) (hn : n ≤ 1000) (hw : slw.length = sl.length) (hw2 : ∀ (i : Nat) it, slw[i]? = some (some it) → sl[i]? = some (some it) ∧ i ∉ own.map (·.2))
    (is : List Nat) (sl1 : Nat → List (Option Item)) (his : ∀ j, j ∈ is → j ∈ own.map (·.2)) (hg : ∀ i, i < n → ∀ (s : Shared) (Hs : Hp) (C : Addr) (cl : List (Str × Addr)) (fp : List Addr), Gt (X.blk s Hs scope (compEnvC scope cl C X.env) fp) tg is (item i) slw (sl1 i))
    (kp : Nat → Bool) (ht : ∀ i, i < n → ∀ (m' : Md), m'.P = m.P → ∀ (s : Shared) (Hs : Hp) (C : Addr) (cl : List (Str × Addr)) (fp : List Addr) σ' H', Wm m' H' H' → En X.K m'.M H' σ' (sl1 i) → JTs m' (X.blk s Hs scope (compEnvC scope cl C X.env) fp) σ' H' ifs (kp i))
    (R : Nat → PyData → Prop) (he : ∀ i, i < n → kp i = true → ∀ (m' : Md), m'.P = m.P → ∀ (s : Shared) (Hs : Hp) (C : Addr) (cl : List (Str × Addr)) (fp : List Addr) σ' H', Wm m' H' H' → En X.K m'.M H' σ' (sl1 i) → JR m' (X.blk s Hs scope (compEnvC scope cl C X.env) fp) σ' H' elt (fun it => ∃ d, it = .d d ∧ R i d))
    (hs : ∀ x, foldedSetIterable iter X.env x = pure x := by intro _; rfl) : JR m X σ H (.ListComp elt [⟨tg, iter, ifs, 0⟩] scope pos) (fun it => ∃ ds, it = .d (.list ds) ∧ Lc kp R n ds) := by
  obtain ⟨wi, hpi, k⟩ := lc_t own E S hn hw hw2 is sl1 his hg kp ht R he
  intro H1 w1 Q q
  exact of_pe (pe_lc (g := lcG X scope tg) (tt := lcT X scope ifs) (te := lcE X scope elt) hc hN hpi ok (fun s Hs C cl fp => ⟨fun pins s' σ' H' v u Q' I r h => h s Hs C cl fp pins s' u I r⟩) (fun s Hs C cl fp => ⟨fun pins s' σ' H' Q' I h => h s Hs C cl fp pins s' I⟩) (fun s Hs C cl fp => ⟨fun pins s' σ' H' Q' I h => h s Hs C cl fp pins s' I⟩) hs) (k H1 w1 Q q)
/-- name = [..] on one line -/
theorem s_setLc {rest : List Stmt} {D : Ends} {y : Str} {py spos : Pos} (i : Nat) (w : Wm m H H) (own : List (Str × Nat)) (E : En X.K m.M H σ sl) (hc : X.calm = true) (hN : X.N.Nodup) (ok : BlkOk X.N X.env.scope scope own) (S : Sr m X σ H tg iter n item) (hn : n ≤ 1000) (hw : slw.length = sl.length) (hw2 : ∀ (i : Nat) it, slw[i]? = some (some it) → sl[i]? = some (some it) ∧ i ∉ own.map (·.2))
    (is : List Nat) (sl1 : Nat → List (Option Item)) (his : ∀ j, j ∈ is → j ∈ own.map (·.2)) (hg : ∀ i, i < n → ∀ (s : Shared) (Hs : Hp) (C : Addr) (cl : List (Str × Addr)) (fp : List Addr), Gt (X.blk s Hs scope (compEnvC scope cl C X.env) fp) tg is (item i) slw (sl1 i))
    (kp : Nat → Bool) (ht : ∀ i, i < n → ∀ (m' : Md), m'.P = m.P → ∀ (s : Shared) (Hs : Hp) (C : Addr) (cl : List (Str × Addr)) (fp : List Addr) σ' H', Wm m' H' H' → En X.K m'.M H' σ' (sl1 i) → JTs m' (X.blk s Hs scope (compEnvC scope cl C X.env) fp) σ' H' ifs (kp i))
    (R : Nat → PyData → Prop) (he : ∀ i, i < n → kp i = true → ∀ (m' : Md), m'.P = m.P → ∀ (s : Shared) (Hs : Hp) (C : Addr) (cl : List (Str × Addr)) (fp : List Addr) σ' H', Wm m' H' H' → En X.K m'.M H' σ' (sl1 i) → JR m' (X.blk s Hs scope (compEnvC scope cl C X.env) fp) σ' H' elt (fun it => ∃ d, it = .d d ∧ R i d))
    (kk : ∀ ds σ1 H1, Lc kp R n ds → Wm m H H1 → En X.K m.M H1 σ1 (sl.set i (some (.d (.list ds)))) → cSs X rest D σ1 H1)
    (hy : X.N[i]? = some y := by rfl) (hyl : X.env.scope.names.lookup y = some .local := by rfl) (hsw : swapsWith (.ListComp elt [⟨tg, iter, ifs, 0⟩] scope pos) (some (.Name y py)) spos.line X.env = pure true := by rfl)
    (hs : ∀ x, foldedSetIterable iter X.env x = pure x := by intro _; rfl) : cSs X (.Assign [.Name y py] (.ListComp elt [⟨tg, iter, ifs, 0⟩] scope pos) spos :: rest) D σ H := by
  obtain ⟨wi, hpi, k⟩ := lc_t own E S hn hw hw2 is sl1 his hg kp ht R he
  exact of_ps (ps_setLc (g := lcG X scope tg) (tt := lcT X scope ifs) (te := lcE X scope elt) hc hN hy hyl hsw hpi ok (fun s Hs C cl fp => ⟨fun pins s' σ' H' v u Q' I r h => h s Hs C cl fp pins s' u I r⟩) (fun s Hs C cl fp => ⟨fun pins s' σ' H' Q' I h => h s Hs C cl fp pins s' I⟩) (fun s Hs C cl fp => ⟨fun pins s' σ' H' Q' I h => h s Hs C cl fp pins s' I⟩) hs) (k H w _ fun v it H2 w2 hR r => by
    obtain ⟨ds, rfl, lc⟩ := hR
    exact kk ds _ H2 lc w2 ((E.mono w2).set r))
/-- the same, told exactly -/
theorem j_lc (own : List (Str × Nat)) (E : En X.K m.M H σ sl) (hc : X.calm = true) (hN : X.N.Nodup) (ok : BlkOk X.N X.env.scope scope own) (S : Sr m X σ H tg iter n item) (hn : n ≤ 1000) (hw : slw.length = sl.length) (hw2 : ∀ (i : Nat) it, slw[i]? = some (some it) → sl[i]? = some (some it) ∧ i ∉ own.map (·.2))
    (is : List Nat) (sl1 : Nat → List (Option Item)) (his : ∀ j, j ∈ is → j ∈ own.map (·.2)) (hg : ∀ i, i < n → ∀ (s : Shared) (Hs : Hp) (C : Addr) (cl : List (Str × Addr)) (fp : List Addr), Gt (X.blk s Hs scope (compEnvC scope cl C X.env) fp) tg is (item i) slw (sl1 i))
    (kp : Nat → Bool) (ht : ∀ i, i < n → ∀ (m' : Md), m'.P = m.P → ∀ (s : Shared) (Hs : Hp) (C : Addr) (cl : List (Str × Addr)) (fp : List Addr) σ' H', Wm m' H' H' → En X.K m'.M H' σ' (sl1 i) → JTs m' (X.blk s Hs scope (compEnvC scope cl C X.env) fp) σ' H' ifs (kp i))
    (f : Nat → PyData) (he : ∀ i, i < n → kp i = true → ∀ (m' : Md), m'.P = m.P → ∀ (s : Shared) (Hs : Hp) (C : Addr) (cl : List (Str × Addr)) (fp : List Addr) σ' H', Wm m' H' H' → En X.K m'.M H' σ' (sl1 i) → JD m' (X.blk s Hs scope (compEnvC scope cl C X.env) fp) σ' H' elt (f i))
    (hs : ∀ x, foldedSetIterable iter X.env x = pure x := by intro _; rfl) : JD m X σ H (.ListComp elt [⟨tg, iter, ifs, 0⟩] scope pos) (.list (((List.range n).filter kp).map f)) := fun H1 w1 Q q =>
  jr_lc own E hc hN ok S hn hw hw2 is sl1 his hg kp ht (fun i d => d = f i) (fun i hi hk m' hm s Hs C cl fp σ' H' w' E' => jr_imp (jr_of (he i hi hk m' hm s Hs C cl fp σ' H' w' E')) fun it e => ⟨f i, e, rfl⟩) hs H1 w1 Q fun v it H2 w2 hR r => by
    obtain ⟨ds, rfl, lc⟩ := hR
    rw [← lc.eq] at q
    exact q v H2 w2 r
end
theorem range_map (xs : List PyData) (g : PyData → PyData) : ((List.range xs.length).filter fun _ => true).map (fun i => g (xs.getD i .none)) = xs.map g := by
  rw [List.filter_eq_self.mpr (fun _ _ => rfl)]
  refine List.ext_getElem (by simp) fun i h1 h2 => ?_
  have hi : i < xs.length := by simpa using h2
  simp [List.getD, hi]
end Gc
namespace Gc
open PySem
/-! ## parts: z stands for z / 27720 -/
def pg (z : Int) : Int := ((Nat.gcd z.natAbs 27720 : Nat) : Int)
def ptop (z : Int) : Int := z / pg z
def pbot (z : Int) : Int := 27720 / pg z
def pt (z : Int) : PyData := .tuple [.int (ptop z), .int (pbot z)]
theorem pg_pos (z : Int) : 0 < pg z := by
  unfold pg
  have : 0 < Nat.gcd z.natAbs 27720 := Nat.gcd_pos_of_pos_right _ (by decide)
  omega
theorem pg_dvd (z : Int) : pg z ∣ z := by
  unfold pg
  exact Int.ofNat_dvd_left.mpr (Nat.gcd_dvd_left _ _)
theorem pg_dvd2 (z : Int) : pg z ∣ 27720 := by
  unfold pg
  have h : ((Nat.gcd z.natAbs 27720 : Nat) : Int) ∣ ((27720 : Nat) : Int) := Int.natCast_dvd_natCast.mpr (Nat.gcd_dvd_right _ _)
  exact h
theorem ptop_mul (z : Int) : ptop z * pg z = z := Int.ediv_mul_cancel (pg_dvd z)
theorem pbot_mul (z : Int) : pbot z * pg z = 27720 := Int.ediv_mul_cancel (pg_dvd2 z)
theorem pbot_pos (z : Int) : 0 < pbot z := by
  have h := pbot_mul z
  have hp := pg_pos z
  by_cases q : 0 < pbot z
  · exact q
  · have h2 : pbot z * pg z ≤ 0 * pg z := Int.mul_le_mul_of_nonneg_right (by omega) (by omega)
    omega
theorem pbot_le (z : Int) : pbot z ≤ 27720 := by
  have h := pbot_mul z
  have hp := pg_pos z
  have hb := pbot_pos z
  have h2 : pbot z * 1 ≤ pbot z * pg z := Int.mul_le_mul_of_nonneg_left (by omega) (by omega)
  omega
theorem pt_cross (z : Int) : ptop z * 27720 = z * pbot z := by
  have h1 := ptop_mul z
  have h2 := pbot_mul z
  calc ptop z * 27720 = ptop z * (pbot z * pg z) := by rw [h2]
    _ = (ptop z * pg z) * pbot z := by rw [Int.mul_comm (pbot z), Int.mul_assoc]
    _ = z * pbot z := by rw [h1]
theorem pt_abs (z : Int) : (ptop z).natAbs ≤ z.natAbs := by
  have h := congrArg Int.natAbs (ptop_mul z)
  rw [Int.natAbs_mul] at h
  have hp : 0 < (pg z).natAbs := Int.natAbs_pos.mpr (by have := pg_pos z; omega)
  calc (ptop z).natAbs = (ptop z).natAbs * 1 := (Nat.mul_one _).symm
    _ ≤ (ptop z).natAbs * (pg z).natAbs := Nat.mul_le_mul_left _ hp
    _ = z.natAbs := h
theorem pt_cop (z : Int) : Nat.gcd (ptop z).natAbs (pbot z).natAbs = 1 := by
  have h1 := congrArg Int.natAbs (ptop_mul z)
  have h2 := congrArg Int.natAbs (pbot_mul z)
  rw [Int.natAbs_mul] at h1 h2
  have h3 : (pg z).natAbs = Nat.gcd z.natAbs 27720 := by unfold pg; omega
  have hp : 0 < Nat.gcd z.natAbs 27720 := Nat.gcd_pos_of_pos_right _ (by decide)
  have h4 : Nat.gcd ((ptop z).natAbs * (pg z).natAbs) ((pbot z).natAbs * (pg z).natAbs) = Nat.gcd z.natAbs 27720 := by
    rw [h1, h2]
    rfl
  rw [Nat.gcd_mul_right, h3] at h4
  exact Nat.eq_of_mul_eq_mul_right hp (by rw [h4, Nat.one_mul])
/-- a quotient in lowest terms is the part -/
theorem low_eq {t b z : Int} (hb : 0 < b) (h : z * b = t * 27720) : t / ((Nat.gcd t.natAbs b.natAbs : Nat) : Int) = ptop z ∧ b / ((Nat.gcd t.natAbs b.natAbs : Nat) : Int) = pbot z := by
  have hgp : 0 < Nat.gcd t.natAbs b.natAbs := Nat.gcd_pos_of_pos_right _ (Int.natAbs_pos.mpr (by omega))
  generalize hg : Nat.gcd t.natAbs b.natAbs = g at hgp
  have d1 : ((g : Nat) : Int) ∣ t := Int.ofNat_dvd_left.mpr (by rw [← hg]; exact Nat.gcd_dvd_left _ _)
  have d2 : ((g : Nat) : Int) ∣ b := Int.ofNat_dvd_left.mpr (by rw [← hg]; exact Nat.gcd_dvd_right _ _)
  obtain ⟨t', rfl⟩ := d1
  obtain ⟨b', rfl⟩ := d2
  have hgz : ((g : Nat) : Int) ≠ 0 := by omega
  rw [Int.mul_ediv_cancel_left _ hgz, Int.mul_ediv_cancel_left _ hgz]
  have hb' : 0 < b' := by
    by_cases q : 0 < b'
    · exact q
    · have : ((g : Nat) : Int) * b' ≤ ((g : Nat) : Int) * 0 := Int.mul_le_mul_of_nonneg_left (by omega) (by omega)
      omega
  have cop : Nat.gcd t'.natAbs b'.natAbs = 1 := by
    rw [Int.natAbs_mul, Int.natAbs_mul] at hg
    have e : (((g : Nat) : Int)).natAbs = g := by omega
    rw [e, Nat.gcd_mul_left] at hg
    exact Nat.eq_of_mul_eq_mul_left hgp (by rw [hg, Nat.mul_one])
  have h1 : z * b' = t' * 27720 := by
    have h2 : ((g : Nat) : Int) * (z * b') = ((g : Nat) : Int) * (t' * 27720) := by
      calc ((g : Nat) : Int) * (z * b') = z * (((g : Nat) : Int) * b') := by rw [Int.mul_left_comm]
        _ = ((g : Nat) : Int) * t' * 27720 := h
        _ = ((g : Nat) : Int) * (t' * 27720) := by rw [Int.mul_assoc]
    exact Int.eq_of_mul_eq_mul_left hgz h2
  have hc := pt_cross z
  -- t' * pbot = ptop * b'
  have key : t' * pbot z = ptop z * b' := by
    have h3 : (27720 : Int) * (t' * pbot z) = 27720 * (ptop z * b') := by
      calc (27720 : Int) * (t' * pbot z) = (t' * 27720) * pbot z := by rw [Int.mul_comm t' 27720, Int.mul_assoc]
        _ = (z * b') * pbot z := by rw [h1]
        _ = (z * pbot z) * b' := by rw [Int.mul_assoc, Int.mul_comm b', Int.mul_assoc]
        _ = (ptop z * 27720) * b' := by rw [hc]
        _ = 27720 * (ptop z * b') := by rw [Int.mul_comm (ptop z) 27720, Int.mul_assoc]
    exact Int.eq_of_mul_eq_mul_left (by decide) h3
  have keyN := congrArg Int.natAbs key
  rw [Int.natAbs_mul, Int.natAbs_mul] at keyN
  have c2 := pt_cop z
  have e1 : b'.natAbs ∣ (pbot z).natAbs := by
    have : b'.natAbs ∣ t'.natAbs * (pbot z).natAbs := ⟨(ptop z).natAbs, by rw [keyN, Nat.mul_comm]⟩
    exact Nat.Coprime.dvd_of_dvd_mul_left (show Nat.Coprime b'.natAbs t'.natAbs from (Nat.gcd_comm _ _).trans cop) this
  have e2 : (pbot z).natAbs ∣ b'.natAbs := by
    have : (pbot z).natAbs ∣ (ptop z).natAbs * b'.natAbs := ⟨t'.natAbs, by rw [← keyN, Nat.mul_comm]⟩
    exact Nat.Coprime.dvd_of_dvd_mul_left (show Nat.Coprime (pbot z).natAbs (ptop z).natAbs from (Nat.gcd_comm _ _).trans c2) this
  have e3 : b'.natAbs = (pbot z).natAbs := Nat.dvd_antisymm e1 e2
  have hp := pbot_pos z
  have e4 : b' = pbot z := by omega
  refine ⟨?_, e4⟩
  rw [e4] at key
  exact Int.eq_of_mul_eq_mul_right (by omega) key
/-- equal parts are equal numbers -/
theorem pt_inj {x y : Int} (h : pt x = pt y) : x = y := by
  unfold pt at h
  injection h with h
  injection h with h1 h2
  injection h1 with h1
  injection h2 with h2 _
  injection h2 with h2
  have a := pt_cross x
  have b := pt_cross y
  rw [h1, h2] at a
  have hp := pbot_pos y
  exact Int.eq_of_mul_eq_mul_right (by omega) (a.symm.trans b)
/-- the order -/
theorem pt_lt (x y : Int) : (ptop x * pbot y < ptop y * pbot x) ↔ x < y := by
  have a := pt_cross x
  have b := pt_cross y
  have hx := pbot_pos x
  have hy := pbot_pos y
  have e1 : 27720 * (ptop x * pbot y) = x * (pbot x * pbot y) := by
    calc 27720 * (ptop x * pbot y) = (ptop x * 27720) * pbot y := by ac_rfl
      _ = x * (pbot x * pbot y) := by rw [a, Int.mul_assoc]
  have e2 : 27720 * (ptop y * pbot x) = y * (pbot x * pbot y) := by
    calc 27720 * (ptop y * pbot x) = (ptop y * 27720) * pbot x := by ac_rfl
      _ = y * (pbot x * pbot y) := by rw [b, Int.mul_assoc, Int.mul_comm (pbot y)]
  have hpp : 0 < pbot x * pbot y := Int.mul_pos hx hy
  constructor
  · intro h
    have h2 : x * (pbot x * pbot y) < y * (pbot x * pbot y) := by omega
    exact Int.lt_of_mul_lt_mul_right h2 (by omega)
  · intro h
    have h2 : x * (pbot x * pbot y) < y * (pbot x * pbot y) := Int.mul_lt_mul_of_pos_right h hpp
    omega
theorem add_cross (x y : Int) : (x + y) * (pbot x * pbot y) = (ptop x * pbot y + ptop y * pbot x) * 27720 := by
  have a := pt_cross x
  have b := pt_cross y
  calc (x + y) * (pbot x * pbot y) = (x * pbot x) * pbot y + (y * pbot y) * pbot x := by
        rw [Int.add_mul, Int.mul_assoc, Int.mul_assoc, Int.mul_comm (pbot y) (pbot x)]
    _ = (ptop x * 27720) * pbot y + (ptop y * 27720) * pbot x := by rw [a, b]
    _ = (ptop x * pbot y + ptop y * pbot x) * 27720 := by
        rw [Int.add_mul, Int.mul_assoc, Int.mul_assoc, Int.mul_comm 27720, Int.mul_comm 27720, Int.mul_assoc, Int.mul_assoc]
theorem sub_cross (x y : Int) : (x - y) * (pbot x * pbot y) = (ptop x * pbot y - ptop y * pbot x) * 27720 := by
  have a := pt_cross x
  have b := pt_cross y
  calc (x - y) * (pbot x * pbot y) = (x * pbot x) * pbot y - (y * pbot y) * pbot x := by
        rw [Int.sub_mul, Int.mul_assoc, Int.mul_assoc, Int.mul_comm (pbot y) (pbot x)]
    _ = (ptop x * 27720) * pbot y - (ptop y * 27720) * pbot x := by rw [a, b]
    _ = (ptop x * pbot y - ptop y * pbot x) * 27720 := by
        rw [Int.sub_mul, Int.mul_assoc, Int.mul_assoc, Int.mul_comm 27720, Int.mul_comm 27720, Int.mul_assoc, Int.mul_assoc]
theorem mul_cross {x y z : Int} (h : z * 27720 = x * y) : z * (pbot x * pbot y) = (ptop x * ptop y) * 27720 := by
  have a := pt_cross x
  have b := pt_cross y
  have h2 : (27720 : Int) * (z * (pbot x * pbot y)) = 27720 * ((ptop x * ptop y) * 27720) := by
    calc (27720 : Int) * (z * (pbot x * pbot y)) = (z * 27720) * (pbot x * pbot y) := by ac_rfl
      _ = (x * y) * (pbot x * pbot y) := by rw [h]
      _ = (x * pbot x) * (y * pbot y) := by
          rw [Int.mul_assoc, Int.mul_assoc, Int.mul_left_comm y]
      _ = (ptop x * 27720) * (ptop y * 27720) := by rw [a, b]
      _ = 27720 * ((ptop x * ptop y) * 27720) := by
          rw [Int.mul_comm (ptop x) 27720, Int.mul_assoc, ← Int.mul_assoc (ptop x)]
  exact Int.eq_of_mul_eq_mul_left (by decide) h2
theorem bots_small (x y : Int) : 0 < pbot x * pbot y ∧ pbot x * pbot y < 1073741824 := by
  have h1 := pbot_pos x
  have h2 := pbot_pos y
  have h3 := pbot_le x
  have h4 := pbot_le y
  refine ⟨Int.mul_pos h1 h2, ?_⟩
  calc pbot x * pbot y ≤ 27720 * 27720 := Int.mul_le_mul h3 h4 (by omega) (by decide)
    _ < 1073741824 := by decide
theorem low_factor {t b : Int} (hb : 0 < b) (h : b < 1073741824) : 0 < ((Nat.gcd t.natAbs b.natAbs : Nat) : Int) ∧ ((Nat.gcd t.natAbs b.natAbs : Nat) : Int) < 1073741824 := by
  have h1 : 0 < Nat.gcd t.natAbs b.natAbs := Nat.gcd_pos_of_pos_right _ (Int.natAbs_pos.mpr (by omega))
  have h2 : Nat.gcd t.natAbs b.natAbs ≤ b.natAbs := Nat.le_of_dvd (Int.natAbs_pos.mpr (by omega)) (Nat.gcd_dvd_right _ _)
  omega
/-- a bound, or none -/
def op : Option Int → PyData
  | none => .none
  | some z => pt z
theorem pt_neg (z : Int) : ptop (-z) = 0 - ptop z ∧ pbot (-z) = pbot z := by
  have e : pg (-z) = pg z := by unfold pg; rw [Int.natAbs_neg]
  unfold ptop pbot
  rw [e]
  refine ⟨?_, rfl⟩
  rw [Int.neg_ediv_of_dvd (pg_dvd z)]
  omega
theorem ptop_nonneg {z : Int} (h : 0 ≤ z) : 0 ≤ ptop z := by
  have := pg_pos z
  exact Int.ediv_nonneg h (by omega)
end Gc
namespace Gc
open PySem PySem.Spec PyProof.Rows L2
/-! ## equality of parts -/
theorem eqv_int (i j : Int) : PyData.eqv (.int i) (.int j) = decide (i = j) := by
  unfold PyData.eqv
  by_cases h : i = j
  · subst h
    simp
  · simp [h]
theorem eqvAll_cons (x y : PyData) (xs ys : List PyData) : PyData.eqvAll (x :: xs) (y :: ys) = (PyData.eqv x y && PyData.eqvAll xs ys) := by
  rw [PyData.eqvAll]
theorem eqvAll_nil : PyData.eqvAll [] [] = true := by rw [PyData.eqvAll]
theorem eqv_tup (xs ys : List PyData) : PyData.eqv (.tuple xs) (.tuple ys) = PyData.eqvAll xs ys := by rw [PyData.eqv]
theorem eqv_lst (xs ys : List PyData) : PyData.eqv (.list xs) (.list ys) = PyData.eqvAll xs ys := by rw [PyData.eqv]
theorem eqv_pt (x y : Int) : PyData.eqv (pt x) (pt y) = decide (x = y) := by
  unfold pt
  rw [eqv_tup, eqvAll_cons, eqvAll_cons, eqvAll_nil, eqv_int, eqv_int, Bool.and_true]
  by_cases h : x = y
  · subst h
    simp
  · rw [decide_eq_false h]
    by_cases h1 : ptop x = ptop y
    · by_cases h2 : pbot x = pbot y
      · exfalso
        apply h
        apply pt_inj
        unfold pt
        rw [h1, h2]
      · rw [decide_eq_false h2, Bool.and_false]
    · rw [decide_eq_false h1, Bool.false_and]
theorem shaped_pt (z : Int) : SeqAt.shaped (pt z) = true := by
  unfold pt
  rfl
/-! ## parts of a slice -/
section
variable {m : Md} {X : Cx} {σ : L2.St} {H : Hp} {a b e o : Expr} {es : List Expr} {pos p p2 apos : Pos} {it : Item} {d : PyData} {ds ds2 : List PyData} {i : Int} {k k' : Nat}
def JO (m : Md) (X : Cx) (σ : L2.St) (H : Hp) (eo : Option Expr) (oi : Option Int) : Prop := ∃ tl, PO X eo tl ∧ ∀ H1, Wm m H H1 → ∀ Q : Option Int → Hp → Prop, (∀ H2, Wm m H1 H2 → Q oi H2) → tl σ H1 Q
theorem jo_none : JO m X σ H none none := ⟨tNoPart, po_none, fun H1 w Q q => q H1 w.rfl1⟩
theorem jo_some (j : JD m X σ H e (.int i)) : JO m X σ H (some e) (some i) := ⟨_, po_some pe_c, fun H1 w Q q => j H1 w _ fun v H2 w2 r => by
  cases r
  exact ⟨i, rfl, q H2 w2⟩⟩
def cutD (xs : List PyData) (lo hi : Option Int) : List PyData := (xs.drop (HT.sIx xs.length 0 lo)).take (HT.sIx xs.length xs.length hi - HT.sIx xs.length 0 lo)
theorem DrA.cut {K : PySem.W.Frag} {M : List Addr} {vs : List V} (h : DrA K M H vs ds) (lo hi : Option Int) : DrA K M H (cutV vs lo hi) (cutD ds lo hi) := by
  unfold cutV cutD
  rw [h.len]
  exact (h.drop _).take _
theorem cutD_whole {lo hi : Option Int} (h : HT.sIx ds.length 0 lo = 0 ∧ HT.sIx ds.length ds.length hi = ds.length) : cutD ds lo hi = ds := by
  unfold cutD
  rw [h.1, h.2]
  simp
theorem cutD_take (n : Nat) : cutD ds none (some (n : Int)) = ds.take n := by
  unfold cutD
  rw [HT.sIx_nat, HT.sIx_none]
  simp
theorem cutD_drop (n : Nat) : cutD ds (some (n : Int)) none = ds.drop n := by
  unfold cutD
  rw [HT.sIx_nat, HT.sIx_none]
  by_cases h : n ≤ ds.length
  · rw [Nat.min_eq_left h, List.take_of_length_le (by rw [List.length_drop]; omega)]
  · rw [Nat.min_eq_right (by omega), List.drop_of_length_le (by omega : ds.length ≤ n)]
    simp
/-- t[lo:hi] -/
theorem j_slT {lo hi : Option Expr} {l h : Option Int} (ja : JD m X σ H a (.tuple ds)) (jl : JO m X σ H lo l) (jh : JO m X σ H hi h) : JD m X σ H (.Subscript a (.Slice lo hi none p2) pos) (.tuple (cutD ds l h)) := by
  obtain ⟨tl, p1, k1⟩ := jl
  obtain ⟨th, p2, k2⟩ := jh
  refine fun H1 w Q q => of_pe (pe_slice sl_tupA pe_c p1 p2) (ja H1 w _ fun v H2 w2 r => k1 H2 (w.trans w2) _ fun H3 w3 => k2 H3 ((w.trans w2).trans w3) _ fun H4 w4 => ?_)
  obtain ⟨f, vs, rfl, h1, h2⟩ := Dr.items (Dr.mono w4 _ _ (Dr.mono w3 _ _ r))
  have w24 := (w2.trans w3).trans w4
  have hl := h2.len
  refine ⟨f, vs, rfl, h1, fun hw => ?_, fun hw p hp => ?_⟩
  · rw [hl] at hw
    rw [cutD_whole hw] at q
    exact q _ H4 w24 (Dr.mono w4 _ _ (Dr.mono w3 _ _ r))
  · exact q _ _ (w24.trans (w24.rfl1.new hp)) (.tup upd_same (DrA.mono (w24.rfl1.new hp) _ _ (h2.cut _ _)))
/-- a list's: a new list -/
theorem j_slL {lo hi : Option Expr} {l h : Option Int} (ja : JD m X σ H a (.list ds)) (jl : JO m X σ H lo l) (jh : JO m X σ H hi h) : JD m X σ H (.Subscript a (.Slice lo hi none p2) pos) (.list (cutD ds l h)) := by
  obtain ⟨tl, p1, k1⟩ := jl
  obtain ⟨th, p2, k2⟩ := jh
  refine fun H1 w Q q => of_pe (pe_slice sl_list pe_c p1 p2) (ja H1 w _ fun v H2 w2 r => k1 H2 (w.trans w2) _ fun H3 w3 => k2 H3 ((w.trans w2).trans w3) _ fun H4 w4 => ?_)
  obtain ⟨f, vs, rfl, h1, _, h2⟩ := Dr.litems (Dr.mono w4 _ _ (Dr.mono w3 _ _ r))
  have w24 := (w2.trans w3).trans w4
  exact ⟨f, vs, rfl, SqL.of h1, fun p hp => q _ _ (w24.trans (w24.rfl1.new hp)) (.lst upd_same (w24.rfl1.fresh hp) (DrA.mono (w24.rfl1.new hp) _ _ (h2.cut _ _)))⟩
/-- xs[::-1] -/
theorem j_revL {n : Nat} {q1 q2 q3 : Pos} (ja : JD m X σ H a (.list ds)) : JD m X σ H (.Subscript a (.Slice none none (some (.UnaryOp .USub (.Constant (.int 1) n q1) q2)) q3) pos) (.list ds.reverse) := fun H1 w Q q =>
  of_pe (pe_revL pe_c) (ja H1 w _ fun v H2 w2 r => by
    obtain ⟨f, vs, rfl, h1, _, h2⟩ := Dr.litems r
    exact ⟨f, vs, rfl, SqL.of h1, fun p hp => q _ _ (w2.trans (w2.rfl1.new hp)) (.lst upd_same (w2.rfl1.fresh hp) (DrA.mono (w2.rfl1.new hp) _ _ h2.reverse))⟩)
/-- t + u -/
theorem rv_catT (hz : ds.length + ds2.length ≤ 1000) : RV m X H (rCatA X.K) (.d (.tuple ds)) (.d (.tuple ds2)) (.d (.tuple (ds ++ ds2))) := fun H1 w x y rx ry Q q => by
  obtain ⟨f, vs, rfl, h1, h2⟩ := Dr.items rx
  obtain ⟨g, ws, rfl, g1, g2⟩ := Dr.items ry
  refine ⟨f, g, vs, ws, rfl, rfl, h1, g1, Nat.le_of_lt (small1000 (by rw [h2.len, g2.len]; exact hz)), fun e => ?_, fun _ e => ?_, fun _ _ p hp => ?_⟩
  · subst e
    have e2 := h2.len
    have e3 : ds = [] := List.eq_nil_of_length_eq_zero (by simpa using e2.symm)
    subst e3
    exact q _ H1 w.rfl1 ry
  · subst e
    have e2 := g2.len
    have e3 : ds2 = [] := List.eq_nil_of_length_eq_zero (by simpa using e2.symm)
    subst e3
    rw [List.append_nil] at q
    exact q _ H1 w.rfl1 rx
  · exact q _ _ (w.rfl1.new hp) (.tup upd_same (DrA.mono (w.rfl1.new hp) _ _ (h2.append g2)))
theorem j_catT (ja : JD m X σ H a (.tuple ds)) (jb : JD m X σ H b (.tuple ds2)) (hz : ds.length + ds2.length ≤ 1000) : JD m X σ H (.BinOp a .Add b pos) (.tuple (ds ++ ds2)) := j_op2 op_catA ja jb (rv_catT hz)
theorem rv_catL (hz : ds.length + ds2.length ≤ 1000) : RV m X H rCat (.d (.list ds)) (.d (.list ds2)) (.d (.list (ds ++ ds2))) := fun H1 w x y rx ry Q q => by
  obtain ⟨f, vs, rfl, h1, _, h2⟩ := Dr.litems rx
  obtain ⟨g, ws, rfl, g1, _, g2⟩ := Dr.litems ry
  exact ⟨f, g, vs, ws, rfl, rfl, h1, g1, Nat.le_of_lt (small1000 (by rw [h2.len, g2.len]; exact hz)), fun p hp => q _ _ (w.rfl1.new hp) (.lst upd_same (w.fresh hp) (DrA.mono (w.rfl1.new hp) _ _ (h2.append g2)))⟩
theorem j_catL (ja : JD m X σ H a (.list ds)) (jb : JD m X σ H b (.list ds2)) (hz : ds.length + ds2.length ≤ 1000) : JD m X σ H (.BinOp a .Add b pos) (.list (ds ++ ds2)) := j_op2 op_cat ja jb (rv_catL hz)
/-- x in xs, x not in xs: data -/
theorem j_inD (hr : Room k X.A) (ja : JD m X σ H a d) (jb : JD m X σ H b (.list ds)) (s1 : SeqAt.shaped d = true) (s2 : SeqAt.shaped (.list ds) = true) (hm : behindInMarks .In b = false := by rfl) : JD m X σ H (.Compare a [.In] [b] pos) (.bool (ds.any fun z => PyData.eqv z d)) :=
  j_cmp2 (op_inD (by have := hr.un; omega)) ja jb (fun H1 w x y rx ry Q q => ⟨d, ds, rx.dp, ry.dp, s1, s2, q _ H1 w.rfl1 (.bl _)⟩) hm
theorem jt_inD {t : Bool} (hr : Room k X.A) (ja : JD m X σ H a d) (jb : JD m X σ H b (.list ds)) (s1 : SeqAt.shaped d = true) (s2 : SeqAt.shaped (.list ds) = true) (hq : (ds.any fun z => PyData.eqv z d) = t) (hm : behindInMarks .In b = false := by rfl) : JT m X σ H (.Compare a [.In] [b] pos) t := by
  subst hq
  exact jt_cmp2 (op_inD (by have := hr.un; omega)) ja jb (fun H1 w x y rx ry Q q => ⟨d, ds, rx.dp, ry.dp, s1, s2, q _ H1 w.rfl1 (.bl _)⟩) hm
theorem jt_notInD {t : Bool} (hr : Room k X.A) (ja : JD m X σ H a d) (jb : JD m X σ H b (.list ds)) (s1 : SeqAt.shaped d = true) (s2 : SeqAt.shaped (.list ds) = true) (hq : (!ds.any fun z => PyData.eqv z d) = t) (hm : behindInMarks .NotIn b = false := by rfl) : JT m X σ H (.Compare a [.NotIn] [b] pos) t := by
  subst hq
  exact jt_cmp2 (op_notInD (by have := hr.un; omega)) ja jb (fun H1 w x y rx ry Q q => ⟨d, ds, rx.dp, ry.dp, s1, s2, q _ H1 w.rfl1 (.bl _)⟩) hm
/-- max(i, j) -/
theorem j_max2 {x : Str} {j : Int} (hc : X.calm = true) (hm : X.mg x = none) (ja : JD m X σ H a (.int i)) (jb : JD m X σ H b (.int j)) (hv : bootBuiltins x = some (.builtin "max") := by decide +kernel) (hg : Gl X x := by rfl) (hn : x ≠ "__name__" := by decide) (hdb : (x == ("__debug__" : Str)) = false := by decide)
    (he : starEach [a, b] X.env = (false, eval a X.env) :: starEach [b] X.env := by rfl) (he2 : starEach [b] X.env = (false, eval b X.env) :: starEach [] X.env := by rfl) (hpl : (backTo pos (starEach [b] X.env)).any (·.1) = false := by rfl) : JD m X σ H (.Call (.Name x p) [a, b] [] pos) (.int (if j > i then j else i)) :=
  j_callB (call_max2 hc) hm hv (ja_cons ja (ja_cons jb ja_nil he2) he) (fun H1 w xs rx Q q => by
    obtain ⟨v, u, rfl, h1, h2⟩ := rx.two
    cases h1
    cases h2
    exact ⟨i, j, rfl, q _ H1 w.rfl1 (.int _)⟩) hg hn hdb he hpl
/-- int(flag) -/
theorem j_intB {x : Str} {t : Bool} (hm : X.mg x = none) (ja : JD m X σ H a (.bool t)) (hv : bootBuiltins x = some (.type "int") := by decide +kernel) (hg : Gl X x := by rfl) (hn : x ≠ "__name__" := by decide) (hdb : (x == ("__debug__" : Str)) = false := by decide)
    (he : starEach [a] X.env = (false, eval a X.env) :: starEach [] X.env := by rfl) (hpl : (backTo pos (starEach [] X.env)).any (·.1) = false := by rfl) : JD m X σ H (.Call (.Name x p) [a] [] pos) (.int (if t then 1 else 0)) :=
  j_callTy call_int1 hm hv (ja_cons ja ja_nil he) (fun H1 w xs rx Q q => by
    obtain ⟨v, rfl, h⟩ := rx.one
    cases h
    exact .inr ⟨t, rfl, q _ H1 w.rfl1 (.int _)⟩) hg hn hdb he hpl
/-! ## lists of one's own -/
def JL (m : Md) (X : Cx) (σ : L2.St) (H : Hp) (e : Expr) (ds : List PyData) : Prop := ∀ H1, Wm m H H1 → ∀ Q : VK, (∀ a vs H2, H1 a = none → Wm m H1 H2 → H2 a = some (.lst vs) → DrA X.K m.M H2 vs ds → Q (.ref a) H2) → cE X e σ H1 Q
theorem jl_lst (h : JAd m X σ H es ds) (hl : Nat.ble ds.length 1000 = true := by rfl) : JL m X σ H (.List es pos) ds := fun H1 w Q q =>
  of_pe (pe_lst pa_c) (h H1 w _ fun vs H2 w2 r => ⟨by rw [r.data.len]; exact Nat.le_of_lt (small1000 (Nat.le_of_ble_eq_true hl)), fun p hp => q _ _ _ (by
    cases e : H1 p with
    | none => rfl
    | some o =>
      by_cases hq : p ∈ m.P
      · obtain ⟨o', h1, _⟩ := w2.pens p hq
        rw [hp] at h1
        cases h1
      · rw [w2.keep p o e (.inl hq)] at hp
        cases hp) (w2.trans (w2.new hp)) upd_same (DrA.mono (w2.new hp) _ _ r.data)⟩)
theorem jd_jl (h : JL m X σ H e ds) : JD m X σ H e (.list ds) := fun H1 w Q q => h H1 w Q fun a vs H2 hn w2 h1 h2 => q _ H2 w2 (.lst h1 (w.fresh hn) h2)
theorem wm_back {H1 H2 : Hp} {p : Addr} (w2 : Wm m H1 H2) (hp : H2 p = none) : H1 p = none := by
  cases e : H1 p with
  | none => rfl
  | some o =>
    by_cases hq : p ∈ m.P
    · obtain ⟨o', h1, _⟩ := w2.pens p hq
      rw [hp] at h1
      cases h1
    · rw [w2.keep p o e (.inl hq)] at hp
      cases hp
/-- [..] * n -/
theorem dra_rep {K : PySem.W.Frag} {M : List Addr} {vs : List V} (h : DrA K M H vs ds) : ∀ n : Nat, DrA K M H (List.replicate n vs).flatten (List.replicate n ds).flatten
  | 0 => .nil
  | n + 1 => by
    rw [List.replicate_succ, List.replicate_succ, List.flatten_cons, List.flatten_cons]
    exact h.append (dra_rep h n)
theorem jl_rep {n : Nat} (ja : JD m X σ H a (.list ds)) (jb : JD m X σ H b (.int (n : Int))) (hz : ds.length * n ≤ 1000) (hn : n ≤ 1000) : JL m X σ H (.BinOp a .Mult b pos) (List.replicate n ds).flatten := fun H1 w Q q =>
  of_pe (pe_op op_rep pe_c pe_c) (ja H1 w _ fun x H2 w2 rx => jb H2 (w.trans w2) _ fun y H3 w3 ry => by
    cases ry
    obtain ⟨f, vs, rfl, h1, _, h2⟩ := Dr.litems (Dr.mono w3 _ _ rx)
    have e : ((n : Int)).toNat = n := by omega
    refine ⟨f, n, vs, rfl, rfl, h1, by omega, by omega, by rw [h2.len, e]; exact Nat.le_of_lt (small1000 hz), fun p hp => q _ _ _ (wm_back (w2.trans w3) hp) ((w2.trans w3).trans (w3.new hp)) upd_same ?_⟩
    rw [e]
    exact dra_rep (DrA.mono (w3.new hp) _ _ h2) n)
/-- list(xs) -/
theorem jl_list {x : Str} (hm : X.mg x = none) (ja : JD m X σ H e (.list ds)) (hv : bootBuiltins x = some (.type "list") := by decide +kernel) (hg : Gl X x := by rfl) (hn : x ≠ "__name__" := by decide) (hdb : (x == ("__debug__" : Str)) = false := by decide)
    (he : starEach [e] X.env = (false, eval e X.env) :: starEach [] X.env := by rfl) (hpl : (backTo pos (starEach [] X.env)).any (·.1) = false := by rfl) : JL m X σ H (.Call (.Name x p) [e] [] pos) ds := fun H1 w Q q =>
  of_pe (pe_callTy call_list_of hg hm hv pa_c hn hdb he hpl) (ja_cons ja ja_nil he H1 w _ fun vs H2 w2 r => by
    obtain ⟨v, rfl, h⟩ := r.one
    obtain ⟨f, us, rfl, h1, _, h2⟩ := Dr.litems h
    exact ⟨f, us, rfl, .inl (SqL.of h1), fun l hl => q _ _ _ (wm_back w2 hl) (w2.trans (w2.new hl)) upd_same (DrA.mono (w2.new hl) _ _ h2)⟩)
end
section
variable {m : Md} {X : Cx} {σ : L2.St} {H : Hp} {a b e o i : Expr} {rest : List Stmt} {pos pos' p p2 apos : Pos} {it : Item} {d : PyData} {ds : List PyData} {k k' : Nat} {sl : List (Option Item)} {D : Ends}
theorem en_add {K : PySem.W.Frag} {H1 : Hp} {l : Addr} (E : En K m.M H σ sl) (hl : H l = none) (w : Wm m H H1) : En K (m.add l).M H1 σ sl :=
  (E.sub (M' := (m.add l).M) (Same.refl H) fun c hc hm => by
    rcases List.mem_cons.mp hm with e | e
    · rw [e] at hc
      exact absurd hl hc
    · exact e).bs fun c o h q => w.bs c o h (q.imp (fun z q => z (List.mem_cons_of_mem _ q)) id)
/-- x = a new list, one's own from then on -/
theorem s_newL (n : Nat) {x : Str} (w : Wm m H H) (E : En X.K m.M H σ sl) (j : JL m X σ H e ds) (hd : nolstA ds = true) (hN : X.N.Nodup) (k : ∀ l σ1 H1, H l = none → l ∉ m.M → Wm m H H1 → Wm (m.add l) H1 H1 → En X.K (m.add l).M H1 σ1 (sl.set n (some (.v (.ref l)))) → Lo X.K (m.add l).M H1 l ds → cSs X rest D σ1 H1)
    (hi : X.N[n]? = some x := by rfl) (hx : Loc X.env.scope x := by first | exact Or.inl rfl | exact Or.inr rfl)
    (hs : swapsWith e (some (.Name x pos')) pos.line X.env = pure false := by rfl) (hf : X.fn x = true ∨ X.env.scope.names.lookup x = some .local := by first | exact .inl rfl | exact .inr rfl) : cSs X (.Assign [.Name x pos'] e pos :: rest) D σ H :=
  of_ps (ps_set hN hi hx pe_c hs hf) (j H w _ fun l vs H1 hl w1 h1 r => k l _ H1 hl (w.fresh hl) w1 (w1.rfl1.add (by rw [h1]; simp)) ((en_add E hl w1).set (it := .v (.ref l)) rfl) ⟨vs, h1, DrA.free _ _ hd r⟩)
theorem wm_mut {H2 : Hp} {l : Addr} {xs ys : List V} (w : Wm m H H2) (hl : H2 l = some (.lst xs)) (hP : l ∉ m.P) : Wm m (upd H2 l (.lst ys)) (upd H2 l (.lst ys)) := ⟨fun _ _ h _ => h, fun c hc => by
  obtain ⟨o, h1, h2⟩ := w.pens c hc
  exact ⟨o, (upd_ne (fun e => hP (by rw [← e]; exact hc))).trans h1, h2⟩, fun c hc => by
  by_cases e : c = l
  · rw [e, upd_same]
    simp
  · rw [upd_ne e]
    exact w.ok c hc⟩
/-- xs.append(e) -/
theorem s_appR {l : Addr} {R : Item → Prop} (w : Wm m H H) (E : En X.K m.M H σ sl) (hm : l ∈ m.M) (hP : l ∉ m.P) (L : Lo X.K m.M H l ds) (jo : J m X σ H o (.v (.ref l))) (je : JR m X σ H e R) (hR : ∀ it, R it → ∃ d, it = .d d) (hl : ds.length ≤ 1000)
    (k : ∀ d H1, R (.d d) → Wm m H1 H1 → Bs m.M H H1 → En X.K m.M H1 σ sl → Lo X.K m.M H1 l (ds ++ [d]) → (∀ l' ds', l' ≠ l → l' ∉ m.P → Lo X.K m.M H l' ds' → Lo X.K m.M H1 l' ds') → cSs X rest D σ H1)
    (hs : swapsWith (.Call (.Attribute o "append" apos) [e] [] p) none pos.line X.env = pure false := by rfl) (hbase : attributeBase o "append" X.env (eval o X.env) = eval o X.env := by rfl)
    (hfew : ((backTo p (starEach [e] X.env)).all (fun x => !x.1) && (backToKw p (keywordEach [] X.env)).all (fun x => x.1.isSome) && decide ([e].length + ([] : List Keyword).length + (if ([] : List Keyword).isEmpty then 0 else 1) < 30)) = true := by rfl)
    (hline : (apos.endLine == p.line) = true := by rfl) (hst : starEach [e] X.env = (false, eval e X.env) :: starEach [] X.env := by rfl) (hplain : (backTo p (starEach [] X.env)).any (·.1) = false := by rfl) : cSs X (.Expr (.Call (.Attribute o "append" apos) [e] [] p) pos :: rest) D σ H :=
  of_ps (ps_expr (pe_bm PySem.F.plainAttrs_list PySem.F.slot_list_append PySem.F.type_list_append mt_append pe_c (pa_cons pe_c pa_nil hst) hbase hfew hline hst hplain) hs) (jo H w _ fun v H1 w1 r1 => by
    have e1 : v = V.ref l := r1
    subst e1
    obtain ⟨vs1, h1, g1⟩ := L.mono w1 hP
    refine ⟨.inl ⟨rfl, _, SqL.of h1⟩, je H1 w1 _ fun u it H2 w2 hRi r2 => ?_⟩
    obtain ⟨d, rfl⟩ := hR it hRi
    obtain ⟨vs, h2, g2⟩ := (L.mono w1 hP).mono w2 hP
    have w12 := w1.trans w2
    exact ⟨l, vs, u, rfl, rfl, h2, by rw [g2.len]; exact small1000 hl, k d _ hRi (wm_mut w12 h2 hP) (w12.bs.trans (Bs.mut h2 hm)) ((E.mono w12).mut h2 hm) ⟨_, upd_same, (DrA.mut h2 hm _ _ g2).append (.one (Dr.mut h2 hm _ _ r2))⟩ fun l' ds' hn hP' L' => ((L'.mono w1 hP').mono w2 hP').other h2 hm hn⟩)
theorem s_app {l : Addr} (w : Wm m H H) (E : En X.K m.M H σ sl) (hm : l ∈ m.M) (hP : l ∉ m.P) (L : Lo X.K m.M H l ds) (jo : J m X σ H o (.v (.ref l))) (je : JD m X σ H e d) (hl : ds.length ≤ 1000)
    (k : ∀ H1, Wm m H1 H1 → Bs m.M H H1 → En X.K m.M H1 σ sl → Lo X.K m.M H1 l (ds ++ [d]) → (∀ l' ds', l' ≠ l → l' ∉ m.P → Lo X.K m.M H l' ds' → Lo X.K m.M H1 l' ds') → cSs X rest D σ H1)
    (hs : swapsWith (.Call (.Attribute o "append" apos) [e] [] p) none pos.line X.env = pure false := by rfl) (hbase : attributeBase o "append" X.env (eval o X.env) = eval o X.env := by rfl)
    (hfew : ((backTo p (starEach [e] X.env)).all (fun x => !x.1) && (backToKw p (keywordEach [] X.env)).all (fun x => x.1.isSome) && decide ([e].length + ([] : List Keyword).length + (if ([] : List Keyword).isEmpty then 0 else 1) < 30)) = true := by rfl)
    (hline : (apos.endLine == p.line) = true := by rfl) (hst : starEach [e] X.env = (false, eval e X.env) :: starEach [] X.env := by rfl) (hplain : (backTo p (starEach [] X.env)).any (·.1) = false := by rfl) : cSs X (.Expr (.Call (.Attribute o "append" apos) [e] [] p) pos :: rest) D σ H :=
  s_appR w E hm hP L jo (jr_of je) (fun it h => ⟨d, h⟩) hl (fun d' H1 hd a b c e f => by
    cases hd
    exact k H1 a b c e f) hs hbase hfew hline hst hplain
/-- xs[i] = e -/
theorem s_setL {l : Addr} {n : Nat} (w : Wm m H H) (E : En X.K m.M H σ sl) (hm : l ∈ m.M) (hP : l ∉ m.P) (L : Lo X.K m.M H l ds) (jo : J m X σ H o (.v (.ref l))) (ji : JD m X σ H i (.int (n : Int))) (je : JD m X σ H e d) (hl : n < ds.length)
    (k : ∀ H1, Wm m H1 H1 → Bs m.M H H1 → En X.K m.M H1 σ sl → Lo X.K m.M H1 l (ds.set n d) → (∀ l' ds', l' ≠ l → l' ∉ m.P → Lo X.K m.M H l' ds' → Lo X.K m.M H1 l' ds') → cSs X rest D σ H1)
    (ha : ∀ v, assign (.Subscript o i p) X.env v = (do
      let ov ← holding [v] (eval o X.env)
      let iv ← holding [v, ov] (eval i X.env)
      standAt p
      holding [v, ov, iv] (setItem ov iv v)
      release [v, ov, iv] []) := by intro _; rfl)
    (hs : swapsWithSole [.Subscript o i p] e pos.line X.env = pure false := by rfl) (hw : swappedStores [.Subscript o i p] e X.env = pure none := by rfl) (h1 : (assignEach [.Subscript o i p] X.env).map (·.2) = [assign (.Subscript o i p) X.env] := by rfl) : cSs X (.Assign [.Subscript o i p] e pos :: rest) D σ H :=
  of_ps (ps_asg pe_c (pg_sub pe_c pe_c set_list ha) hs hw h1) (je H w _ fun u H1 w1 r1 => jo H1 w1 _ fun v H2 w2 r2 => ji H2 (w1.trans w2) _ fun z H3 w3 r3 => by
    have e1 : v = V.ref l := r2
    subst e1
    cases r3
    have w13 := (w1.trans w2).trans w3
    obtain ⟨vs, h2, g2⟩ := L.mono w13 hP
    have hix : ixN vs.length (n : Int) = some n := by
      unfold ixN
      rw [if_pos (by omega), if_pos (by rw [g2.len]; omega)]
      simp
    exact ⟨l, vs, n, n, rfl, rfl, h2, hix, k _ (wm_mut w13 h2 hP) (w13.bs.trans (Bs.mut h2 hm)) ((E.mono w13).mut h2 hm) ⟨_, upd_same, (DrA.mut h2 hm _ _ g2).set (Dr.mut h2 hm _ _ (Dr.mono w3 _ _ (Dr.mono w2 _ _ r1)))⟩ fun l' ds' hn hP' L' => (L'.mono w13 hP').other h2 hm hn⟩)
/-- reading a list of one's own -/
theorem j_ixO {l : Addr} (n : Nat) (hP : l ∉ m.P) (L : Lo X.K m.M H l ds) (ja : J m X σ H a (.v (.ref l))) (jb : JD m X σ H b (.int (n : Int))) (hd : ds[n]? = some d) (hs : PlainIx b := by exact fun _ _ => rfl) : JD m X σ H (.Subscript a b pos) d := fun H1 w Q q =>
  of_pe (pe_ix ix_list pe_c pe_c hs) (ja H1 w _ fun x H2 w2 rx => jb H2 (w.trans w2) _ fun y H3 w3 ry => by
    have e1 : x = V.ref l := rx
    subst e1
    cases ry
    obtain ⟨vs, h1, h2⟩ := L.mono ((w.trans w2).trans w3) hP
    obtain ⟨v, h3, h4⟩ := h2.at hd
    exact ⟨l, vs, n, v, rfl, rfl, SqL.of h1, at_of rfl h3, q v H3 (w2.trans w3) h4⟩)
/-- tuple(xs) -/
theorem j_tupleO {x : Str} {l : Addr} (hm : X.mg x = none) (hP : l ∉ m.P) (L : Lo X.K m.M H l ds) (ja : J m X σ H e (.v (.ref l))) (hv : bootBuiltins x = some (.type "tuple") := by decide +kernel) (hg : Gl X x := by rfl) (hn : x ≠ "__name__" := by decide) (hdb : (x == ("__debug__" : Str)) = false := by decide)
    (he : starEach [e] X.env = (false, eval e X.env) :: starEach [] X.env := by rfl) (hpl : (backTo pos (starEach [] X.env)).any (·.1) = false := by rfl) : JD m X σ H (.Call (.Name x p) [e] [] pos) (.tuple ds) :=
  j_callTy call_tuple_of hm hv (ja_cons ja ja_nil he) (fun H1 w xs rx Q q => by
    obtain ⟨v, rfl, h⟩ := rx.one
    have e1 : v = V.ref l := h
    subst e1
    obtain ⟨vs, h1, h2⟩ := L.mono w hP
    exact ⟨l, vs, rfl, .inl ⟨SqL.of h1, fun t ht => q _ _ (w.rfl1.new ht) (.tup upd_same (DrA.mono (w.rfl1.new ht) _ _ h2))⟩⟩) hg hn hdb he hpl
/-- len(xs) -/
theorem j_lenO {x : Str} {l : Addr} (hm : X.mg x = none) (hP : l ∉ m.P) (L : Lo X.K m.M H l ds) (ja : J m X σ H e (.v (.ref l))) (hv : bootBuiltins x = some (.builtin "len") := by exact PySem.boot_len) (hg : Gl X x := by rfl) (hn : x ≠ "__name__" := by decide) (hdb : (x == ("__debug__" : Str)) = false := by decide)
    (he : starEach [e] X.env = (false, eval e X.env) :: starEach [] X.env := by rfl) (hpl : (backTo pos (starEach [] X.env)).any (·.1) = false := by rfl) : JD m X σ H (.Call (.Name x p) [e] [] pos) (.int (ds.length : Nat)) :=
  j_callB call_len_seq hm hv (ja_cons ja ja_nil he) (fun H1 w xs rx Q q => by
    obtain ⟨v, rfl, h⟩ := rx.one
    have e1 : v = V.ref l := h
    subst e1
    obtain ⟨vs, h1, h2⟩ := L.mono w hP
    refine ⟨l, vs, rfl, .inl (SqL.of h1), ?_⟩
    rw [h2.len]
    exact q _ H1 w.rfl1 (.int _)) hg hn hdb he hpl
/-- at the end: what stood at the entry stands -/
theorem fin_w {m0 : Md} {H0 H' : Hp} (e : m0.P = m.P) (e2 : m0.M = m0.P) (w : Wm m H' H') (b : Bs m.M H0 H') (hM : ∀ a, H0 a ≠ none → a ∈ m.M → a ∈ m0.P) : Wm m0 H0 H' :=
  ⟨fun a o h q => b a o h (q.imp (fun z q => z (hM a (by rw [h]; simp) q)) id), fun a ha => w.pens a (by rw [← e]; exact ha), fun a ha => by
    rw [e2] at ha
    obtain ⟨o, h1, _⟩ := w.pens a (by rw [← e]; exact ha)
    rw [h1]
    simp⟩
theorem En.forget {K : PySem.W.Frag} {M : List Addr} (n : Nat) (E : En K M H σ sl) : En K M H σ (sl.set n none) := E.weak (List.length_set ..) fun i it h => by
  by_cases e : n = i
  · subst e
    by_cases hl : n < sl.length
    · rw [List.getElem?_set_self hl] at h
      cases h
    · rw [List.getElem?_eq_none (by rw [List.length_set]; omega)] at h
      cases h
  · rw [List.getElem?_set_ne e] at h
    exact h
end
theorem getD_map {α : Type} (f : α → PyData) {xs : List α} {i : Nat} (h : i < xs.length) : (xs.map f).getD i .none = f xs[i] := by
  simp [List.getD, h]
end Gc
/-! ## enumerate(tuple) -/
namespace PySem
theorem gcEnumNew {v : Value} {ob : Obj} {Ph : Heap → Prop} (B : Begins v ob Ph) :
    Meets (Builtin.«enumerate.__new__» ⟨[.type "enumerate", v], []⟩) (fun _ Rr st => Ph st.heap ∧
      Rr (.ok (.ret (.ref (st.heap.push ob).objs.size))) { st with heap := (st.heap.push ob).push { cls := .type "enumerate", data := .fields #[.none, .bool false, .ref st.heap.objs.size, rawInt 0, .none, .none] } }) :=
  .of_wp fun prog w A Rr st hh => by
    obtain ⟨hp, gg, dd, tt, oo⟩ := st
    obtain ⟨hph, hfin⟩ := hh
    have subE := sub_enumerate
    have itr : ∀ {A' : Around} {Er : Value → Shared → Prop} {Qr : Value → Shared → Prop}, Qr (.ref hp.objs.size) ⟨hp.push ob, gg, dd, tt, oo⟩ → wpAny (model prog w) A' (pyIter v) Qr Er ⟨hp, gg, dd, tt, oo⟩ :=
      fun qq => B.iter prog w _ _ ⟨hp, gg, dd, tt, oo⟩ _ hph qq
    wp_walk using itr
    refine wpAny_stack_any (fun stk => wpAny_pure ?_)
    split
    · rename_i cc _ _ _ _ _
      cases (cc == Value.type "enumerate") <;> (wp_walk using itr; exact ⟨_, rfl, hfin⟩)
    · wp_walk using itr
      exact ⟨_, rfl, hfin⟩
section
variable {prog : Program} {w : World} {A : Around} {Er : Value → Shared → Prop} {st : Shared}
theorem gcEnumCall {t : Addr} {items : Array Value} {Qr : Value → Shared → Prop} (ht : st.heap.IsTuple t items)
    (hq : ∀ h', IsEnum h' (st.heap.objs.size + 1) st.heap.objs.size 0 .none → h'.IsTupleIter st.heap.objs.size t 0 → (∀ b o, st.heap.get? b = some o → h'.get? b = some o) → Qr (.ref (st.heap.objs.size + 1)) { st with heap := h' }) :
    wpAny (model prog w) A (call (.type "enumerate") [.ref t]) Qr Er st := by
  refine callType_new F.called_enumerate (by decide) (F.typeCall_enumerate_1 _) (F.newCall_enumerate_1 _) (fun obj => F.args_object_init_2 obj _) F.entry_enumerate_new (gcEnumNew (begins_tuple t items)) ⟨ht, ?_⟩
  have szp : (st.heap.push { cls := .type "tuple_iterator", data := .fields #[.ref t, .int 0 0] }).objs.size = st.heap.objs.size + 1 := by rw [Heap.size_push]
  show _ ∧ _
  rw [szp]
  have isE : IsEnum ((st.heap.push { cls := .type "tuple_iterator", data := .fields #[.ref t, .int 0 0] }).push { cls := .type "enumerate", data := .fields #[.none, .bool false, .ref st.heap.objs.size, rawInt 0, .none, .none] }) (st.heap.objs.size + 1) st.heap.objs.size 0 .none := by
    have at1 := Heap.get?_push_size (st.heap.push { cls := .type "tuple_iterator", data := .fields #[.ref t, .int 0 0] }) (o := { cls := .type "enumerate", data := .fields #[.none, .bool false, .ref st.heap.objs.size, rawInt 0, .none, .none] }) rfl
    rw [szp] at at1
    exact at1
  exact ⟨⟨_, isE, rfl⟩, hq _ isE ⟨_, Heap.get?_push_of_some _ (Heap.get?_push_size _ rfl), rfl, rfl⟩ fun b o x => Heap.get?_push_of_some _ (Heap.get?_push_of_some _ x)⟩
end
end PySem
namespace Gc
open PySem PySem.Spec PyProof.Rows L2
def IteT (K : PySem.W.Frag) (a : Addr) : It :=
  ⟨fun i H => ∃ (xs : List V) (x : V), SqT K H a xs ∧ xs[i]? = some x, fun i H v H' => ∃ T x, v = .ref T ∧ H T = none ∧ H' = upd H T (.tup [.int (i : Nat), x]) ∧ ∀ xs, SqT K H a xs → xs[i]? = some x, fun i H => ∃ xs : List V, SqT K H a xs ∧ xs.length = i⟩
theorem turnET {P : Program} {w : World} {K : PySem.W.Frag} {elts : List Expr} {kk : Nat} {tpos : Pos} (a e it : Addr) :
    Turn P w K (.Tuple elts kk tpos) (IteT K a) [e, it] e (fun i h => (∃ old, IsEnum h e it ((i : Nat) : Int) old) ∧ h.IsTupleIter it a i ∧ (e ≠ it ∧ a ≠ it ∧ a ≠ e)) where
  mem := by simp
  obj := fun i h hs b hb => by
    obtain ⟨⟨od, hen⟩, ⟨ob, ho, hc, hd⟩, _⟩ := hs
    rcases (show b = e ∨ b = it by simpa using hb) with rfl | rfl
    · exact ⟨_, hen, fun v q => nomatch q⟩
    · exact ⟨ob, ho, fun v q => by rw [hd] at q; cases q⟩
  keep := fun i h h' hs k => let ⟨⟨od, hen⟩, hi, hne⟩ := hs; ⟨⟨od, k e (by simp) _ hen⟩, hi.at fun o q => k it (by simp) o q, hne⟩
  item := by
    intro X hP hw hK hc i pins s σ H Er I hf hs hg
    subst hP hw hK
    obtain ⟨⟨od, hen⟩, hit, hne, hai, hae⟩ := hs
    obtain ⟨xs, x, hq, hx⟩ := hg
    obtain ⟨its, rv, tp, hz⟩ := I.tuple hq
    obtain ⟨u, hu, ru⟩ := rv.get hx
    have ltE : e < s.heap.objs.size := Heap.lt_size hen
    have ltI : it < s.heap.objs.size := by
      obtain ⟨_, q, _⟩ := hit
      exact Heap.lt_size q
    have hlen := rv.length
    have ilt : i < its.toArray.size := by
      have := (List.getElem?_eq_some_iff.mp hx).1
      simp
      omega
    refine wpAny_pyNext_enum_itemD (Draws.tuple (A := X.A.in1) (show X.A.in1.handled = none from I.ok.hd hc) it a hai its.toArray) hen ⟨hit, show s.heap.IsTuple a its.toArray from tp⟩ ilt hne (by simp [hne, Ne.symm hae]) fun z h' tk hzz hout hst' hT hsz hk => ?_
    have ez : z = u := by
      have h1 : its.toArray[i]? = some u := by simpa using hu
      rw [h1] at hzz
      exact (Option.some.inj hzz).symm
    subst ez
    refine ⟨_, rfl, wpAny_letOwnedTupleGo_enum (s := { s with heap := h', toks := tk + 1 }) hout fun h2 he2 sb => ?_⟩
    have hT2 : h2.get? s.heap.objs.size = some { cls := .type "tuple", data := .seq #[.int i tk, z] } := (sb.2 _ (Nat.ne_of_gt ltE)).trans hT
    have okN : ObjOk X.prog X.w (upd H s.heap.objs.size (.tup [.int (i : Nat), x])) h2 s.heap.objs.size (.tup [.int (i : Nat), x]) :=
      ⟨by show 2 ≤ sizeLine; decide, [.int i tk, z], .cons ⟨_, rfl⟩ (.cons ru .nil), ⟨_, hT2, rfl, _, rfl⟩⟩
    have I1 : Inv X pins σ (upd H s.heap.objs.size (.tup [.int (i : Nat), x])) { s with heap := h2, toks := tk + 1 } :=
      I.turnedNew (ch := [e, it]) (fun b ob hb q => (sb.2 b (fun y => hb (by simp [y]))).trans (hk b ob (fun y => hb (by simp [y])) (fun y => hb (by simp [y])) q)) hf (Nat.le_refl _) okN
    refine ⟨.ref s.heap.objs.size, _, I1, rfl, ⟨_, x, rfl, I.hok.fresh (Nat.le_refl _), rfl, fun ys hy => by rw [I.tuple_inj hy hq]; exact hx⟩, ⟨⟨z, ?_⟩, hst'.1.at fun o q => (sb.2 it (Ne.symm hne)).trans q, hne, hai, hae⟩, fun b hb => ?_⟩
    · have e1 : ((i + 1 : Nat) : Int) = (i : Int) + 1 := by omega
      rw [e1]
      exact he2
    · have hb' : b < s.heap.objs.size := by
        rcases (show b = e ∨ b = it by simpa using hb) with y | y
        · rw [y]; exact ltE
        · rw [y]; exact ltI
      rw [upd_ne (Nat.ne_of_lt hb')]
      exact (hf b hb).1
  done := by
    intro X hP hw hK hc i pins s σ H Er I hf hs hg
    subst hP hw hK
    obtain ⟨⟨od, hen⟩, hit, hne, hai, hae⟩ := hs
    obtain ⟨xs, hq, hx⟩ := hg
    obtain ⟨its, rv, tp, hz⟩ := I.tuple hq
    obtain ⟨f0, f1, f2, f3, f4, f5⟩ := hf it (by simp)
    have hlen := rv.length
    have ei : its.toArray.size = i := by
      simp
      omega
    have D := Draws.tuple (prog := X.prog) (w := X.w) (A := X.A.in1) (show X.A.in1.handled = none from I.ok.hd hc) it a hai its.toArray
    rw [ei] at D
    exact wpAny_pyNext_enum_endD D hen ⟨hit, show s.heap.IsTuple a its.toArray from tp⟩ fun h' eb => ⟨rfl, I.turned (t' := s.toks) (fun b o hb q => eb b o hb q) f0 f1 f3 f4 f5⟩
  self := fun A i s Q Er hs h => let ⟨⟨_, hen⟩, _⟩ := hs; wpAny_pyIter_enum hen h
def iEnumT (K : PySem.W.Frag) (ta : TA) : TI := fun σ H R => ta σ H fun vs H1 => ∃ a xs, vs = [.ref a] ∧ SqT K H1 a xs ∧ R (IteT K a) H1
theorem pi_enumT {X : Cx} {e : Expr} {ta : TA} {p pos tpos : Pos} {elts : List Expr} {kk : Nat} (hg : Gl X "enumerate") (hm : X.mg "enumerate" = none) (ha : PA X [e] ta) (hs : starEach [e] X.env = [(false, eval e X.env)] := by rfl) :
    PI X (.Tuple elts kk tpos) (.Call (.Name "enumerate" p) [e] [] pos) (iEnumT X.K ta) := by
  refine ⟨fun pins s σ H Rr I hw => Call_ (ld_blt I hg hm boot_enumerate (PyProof.Rows.callWith_type1 (thn (ha.run pos pins s σ H _ I hw) fun us s1 ⟨vs, H1, I1, r1, q1⟩ => ?_) hs rfl))⟩
  obtain ⟨a, xs, rfl, hq, q⟩ := q1
  obtain ⟨u, rfl, ru⟩ := r1.one
  cases ru
  obtain ⟨its, rv, tp, hz⟩ := I1.tuple hq
  have lta : a < s1.heap.objs.size := by
    obtain ⟨ob, ho, _⟩ := tp
    exact Heap.lt_size ho
  refine gcEnumCall (show s1.heap.IsTuple a its.toArray from tp) fun h' he hit hk => wpAny_pyIter_enum he ?_
  have I2 : Inv X pins σ H1 { s1 with heap := h' } := I1.kept (t' := s1.toks) hk
  refine ⟨s1.heap.objs.size + 1, [s1.heap.objs.size + 1, s1.heap.objs.size], _, _, H1, rfl, I2, turnET a (s1.heap.objs.size + 1) s1.heap.objs.size, ⟨⟨.none, he⟩, hit, Nat.succ_ne_self _, Nat.ne_of_lt lta, Nat.ne_of_lt (Nat.lt_succ_of_lt lta)⟩, fun b hb => ?_, q⟩
  have lo : s1.heap.objs.size ≤ b := by
    rcases (show b = s1.heap.objs.size + 1 ∨ b = s1.heap.objs.size by simpa using hb) with y | y
    · rw [y]; exact Nat.le_succ _
    · rw [y]; exact Nat.le_refl _
  exact I1.fpOk lo (I1.hok.fresh lo)
section
variable {m : Md} {X : Cx} {σ : L2.St} {H : Hp} {tg iter e : Expr} {pos p tpos : Pos} {ds : List PyData} {elts : List Expr} {kk : Nat}
theorem sr_enumT (hm : X.mg "enumerate" = none) (ja : JD m X σ H e (.tuple ds)) (hg : Gl X "enumerate" := by rfl) (hs : starEach [e] X.env = [(false, eval e X.env)] := by rfl) (he : starEach [e] X.env = (false, eval e X.env) :: starEach [] X.env := by rfl) :
    Sr m X σ H (.Tuple elts kk tpos) (.Call (.Name "enumerate" p) [e] [] pos) ds.length fun i => .tuple [.int i, ds.getD i .none] :=
  ⟨_, pi_enumT hg hm pa_c hs, fun H1 w R k => ja_cons ja ja_nil he H1 w _ fun vs H2 w2 r => by
    obtain ⟨v, rfl, r1⟩ := r.one
    obtain ⟨a, xs, rfl, h1, h2⟩ := Dr.items r1
    refine ⟨a, xs, rfl, h1, k _ _ w2 fun M' H' hM b => ?_⟩
    have q1 := Dr.bs b _ _ (Dr.sub (M' := M') (Same.refl _) hM _ _ r1)
    obtain ⟨a2, xs, e0, h1, h2⟩ := Dr.items q1
    cases e0
    have hl := h2.len
    refine ⟨fun i hi => ⟨xs, xs[i]'(by omega), h1, by simp⟩, ⟨xs, h1, hl⟩, fun i v H'' hi y => ?_⟩
    obtain ⟨T, x, rfl, hT, rfl, y1⟩ := y
    obtain ⟨u1, e1, e2⟩ := h2.at (get_some hi)
    have f1 := y1 xs h1
    rw [e1] at f1
    cases f1
    exact ⟨Same.new hT, .tup upd_same (.cons (.int _) (.cons (Dr.bs (Bs.same (Same.new hT)) _ _ e2) .nil))⟩⟩
end
end Gc
namespace Gc
open PySem PySem.Spec PyProof.Rows L2
/-- what the module's names stand for -/
structure Tx (K : PySem.W.Frag) (mg : Str → Option Value) : Prop where
  isi : mg "isinstance" = none
  int : mg "int" = none
  bool : mg "bool" = none
  abs : mg "abs" = none
  tuple : mg "tuple" = none
  len : mg "len" = none
  all : mg "all" = none
  zip : mg "zip" = none
  range : mg "range" = none
  enumerate : mg "enumerate" = none
  list : mg "list" = none
  sorted : mg "sorted" = none
  str : mg "str" = none
  max : mg "max" = none
  msets : ∃ t, mg "MOST_SETS" = some (.int 6 t)
  clocks : ∃ t, mg "CLOCKS" = some (.int 6 t)
  mtell : ∃ t, mg "MOST_TELLINGS" = some (.int 16 t)
  mstand : ∃ t, mg "MOST_STANDING" = some (.int 10 t)
  nought : ∃ f, mg "NOUGHT" = some (.ref f) ∧ SqT K (fun _ => none) f [.int 0, .int 1]
  mgain : ∃ f, mg "MOST_GAIN" = some (.ref f) ∧ SqT K (fun _ => none) f [.int 12, .int 1]
  lgain : ∃ f, mg "LEAST_GAIN" = some (.ref f) ∧ SqT K (fun _ => none) f [.int (-12), .int 1]
theorem pt_lit {z t b : Int} (h1 : ptop z = t) (h2 : pbot z = b) : pt z = .tuple [.int t, .int b] := by
  unfold pt
  rw [h1, h2]
theorem pt_0 : pt 0 = .tuple [.int 0, .int 1] := pt_lit (by decide +kernel) (by decide +kernel)
theorem pt_12 : pt 332640 = .tuple [.int 12, .int 1] := pt_lit (by decide +kernel) (by decide +kernel)
theorem pt_m12 : pt (-332640) = .tuple [.int (-12), .int 1] := pt_lit (by decide +kernel) (by decide +kernel)
section
variable {m : Md} {X : Cx} {σ : L2.St} {H : Hp} {pos : Pos} {i : Int}
theorem jg_int {x : Str} (h : ∃ t, X.mg x = some (.int i t)) (hg : Gl X x := by rfl) (hd : (x == ("__debug__" : Str)) = false := by decide) : JD m X σ H (.Name x pos) (.int i) := by
  obtain ⟨t, h⟩ := h
  exact j_gint h hg hd
theorem jg_nought {x : Str} (h : ∃ f, X.mg x = some (.ref f) ∧ SqT X.K (fun _ => none) f [.int 0, .int 1]) (hg : Gl X x := by rfl) (hd : (x == ("__debug__" : Str)) = false := by decide) : JD m X σ H (.Name x pos) (pt 0) := by
  obtain ⟨f, h1, h2⟩ := h
  rw [pt_0]
  exact j_gtup h1 h2 (fun _ => .cons (.int 0) (.cons (.int 1) .nil)) hg hd
theorem jg_12 {x : Str} (h : ∃ f, X.mg x = some (.ref f) ∧ SqT X.K (fun _ => none) f [.int 12, .int 1]) (hg : Gl X x := by rfl) (hd : (x == ("__debug__" : Str)) = false := by decide) : JD m X σ H (.Name x pos) (pt 332640) := by
  obtain ⟨f, h1, h2⟩ := h
  rw [pt_12]
  exact j_gtup h1 h2 (fun _ => .cons (.int 12) (.cons (.int 1) .nil)) hg hd
theorem jg_m12 {x : Str} (h : ∃ f, X.mg x = some (.ref f) ∧ SqT X.K (fun _ => none) f [.int (-12), .int 1]) (hg : Gl X x := by rfl) (hd : (x == ("__debug__" : Str)) = false := by decide) : JD m X σ H (.Name x pos) (pt (-332640)) := by
  obtain ⟨f, h1, h2⟩ := h
  rw [pt_m12]
  exact j_gtup h1 h2 (fun _ => .cons (.int (-12)) (.cons (.int 1) .nil)) hg hd
end
/-! ## parts -/
def R_is_whole (ds : List PyData) (d : PyData) : Prop := ∃ i, ds = [.int i] ∧ d = .bool true
def R_is_from_to (ds : List PyData) (d : PyData) : Prop := ∃ a l h, ds = [.int a, .int l, .int h] ∧ d = .bool (decide (l ≤ a) && decide (a ≤ h))
def R_shared (ds : List PyData) (d : PyData) : Prop := ∃ a b, ds = [.int a, .int b] ∧ 0 < b ∧ d = .int ((Nat.gcd a.natAbs b.natAbs : Nat) : Int)
def R_lowest (ds : List PyData) (d : PyData) : Prop := ∃ t b z, ds = [.int t, .int b] ∧ (0 < b ∧ b < 1073741824) ∧ z * b = t * 27720 ∧ d = pt z
def R_is_part (ds : List PyData) (d : PyData) : Prop := ∃ o, ds = [op o] ∧ d = .bool o.isSome
def R_need_part (ds : List PyData) (d : PyData) : Prop := ∃ z, ds = [pt z] ∧ d = .none
def R_plus (ds : List PyData) (d : PyData) : Prop := ∃ x y, ds = [pt x, pt y] ∧ d = pt (x + y)
def R_minus (ds : List PyData) (d : PyData) : Prop := ∃ x y, ds = [pt x, pt y] ∧ d = pt (x - y)
def R_product (ds : List PyData) (d : PyData) : Prop := ∃ x y z, ds = [pt x, pt y] ∧ x.natAbs < 2 ^ 60 ∧ z * 27720 = x * y ∧ d = pt z
def R_below (ds : List PyData) (d : PyData) : Prop := ∃ x y, ds = [pt x, pt y] ∧ d = .bool (decide (x < y))
def R_turned (ds : List PyData) (d : PyData) : Prop := ∃ x, ds = [pt x] ∧ d = pt (-x)
section
variable {P : Program} {w : World} {K : PySem.W.Frag} {mg : Str → Option Value} {base : Heap}
theorem fo_is_whole (T : Tx K mg) (G : Gf K mg "is_whole" s_is_whole []) : Fo P w K mg base 1 "is_whole" [] (spD K R_is_whole) := by
  refine fo_of G sc_is_whole (fun ds d h => by obtain ⟨i, rfl, _⟩ := h; rfl) (fun _ _ _ _ _ _ us hl => match us, hl with | [_], _ => rfl) ?_
  intro f cdv A outer s H vs Q E ds d hr E0 hR hQ
  obtain ⟨i, rfl, rfl⟩ := hR
  exact s_ret (w_md0 H) (j_and (j_isi_ii T.isi T.int (jd_var 0 E0)) fun _ => j_one (j_not (j_isi_ib T.isi T.bool (jd_var 0 E0)))) hQ
theorem fo_is_from_to (L : Fo P w K mg base 1 "is_whole" [] (spD K R_is_whole)) (G : Gf K mg "is_from_to" s_is_from_to []) : Fo P w K mg base 2 "is_from_to" [] (spD K R_is_from_to) := by
  refine fo_of G sc_is_from_to (fun ds d h => by obtain ⟨a, l, h, rfl, _⟩ := h; rfl) (fun _ _ _ _ _ _ us hl => match us, hl with | [_, _, _], _ => rfl) ?_
  intro f cdv A outer s H vs Q E ds d hr E0 hR hQ
  obtain ⟨a, l, h, rfl, rfl⟩ := hR
  exact s_ret (w_md0 H) (j_and (t := true) (j_call L hr (jad_cons (jd_var 0 E0) jad_nil) ⟨a, rfl, rfl⟩) fun _ => j_one (j_chainLe (jd_var 1 E0) (jd_var 0 E0) (jd_var 2 E0))) hQ
theorem emod_gcd {x y : Int} (hx : 0 < x) (hy : 0 < y) : Nat.gcd (y % x).natAbs x.natAbs = Nat.gcd x.natAbs y.natAbs := by
  have e : (y % x).natAbs = y.natAbs % x.natAbs := by
    have h1 : y = ((y.natAbs : Nat) : Int) := by omega
    have h2 : x = ((x.natAbs : Nat) : Int) := by omega
    rw [h1, h2]
    rfl
  rw [e, ← Nat.gcd_rec]
theorem fo_shared (T : Tx K mg) (G : Gf K mg "shared" s_shared []) : Fo P w K mg base 1 "shared" [] (spD K R_shared) := by
  refine fo_of G sc_shared (fun ds d h => by obtain ⟨a, b, rfl, _⟩ := h; rfl) (fun _ _ _ _ _ _ us hl => match us, hl with | [_, _], _ => rfl) ?_
  intro f cdv A outer s H vs Q E ds d hr E0 hR hQ
  obtain ⟨a, b, rfl, hb, rfl⟩ := hR
  refine s_asg 0 (w_md0 H) E0 (j_abs T.abs (by decide +kernel) (jd_var 0 E0)) sc_shared.nd fun σ1 H1 w1 E1 => ?_
  refine s_while (m := md0) PassesOwn.never (fun n σ' H' => ∃ x y : Int, n = x.toNat ∧ 0 ≤ x ∧ 0 < y ∧ Nat.gcd x.natAbs y.natAbs = Nat.gcd a.natAbs b.natAbs ∧ Wm md0 H H' ∧ En K [] H' σ' [some (.d (.int x)), some (.d (.int y))]) _ ⟨((a.natAbs : Nat) : Int), b, rfl, by omega, hb, by simp, w1, E1⟩ ?_
  rintro n σ' H' ⟨x, y, rfl, hx, hy, hg, w', E'⟩
  refine ⟨_, w'.rfl1, jt_gt (jd_var 0 E') j_int, fun hp H2 w2 => ?_, fun hp H2 w2 => ?_⟩
  · have h0 : 0 < x := of_decide_eq_true hp
    have E2 := E'.mono (m := md0) w2
    have hm1 : 0 ≤ y % x := Int.emod_nonneg _ (by omega)
    have hm2 : y % x < x := Int.emod_lt_of_pos _ h0
    exact s_par 0 1 w2.rfl1 E2 rfl (ja_cons (j_mod (jd_var 1 E2) (jd_var 0 E2) h0) (ja_cons (jd_var 0 E2) ja_nil)) sc_shared.nd fun σ3 H3 w3 E3 => s_nil ⟨_, by omega, y % x, x, rfl, hm1, h0, (emod_gcd h0 hy).trans hg, (w'.trans w2).trans w3, E3⟩
  · have h0 : x = 0 := by
      have := of_decide_eq_false hp
      omega
    subst h0
    have E2 := E'.mono (m := md0) w2
    have ey : y = ((Nat.gcd a.natAbs b.natAbs : Nat) : Int) := by
      rw [← hg]
      simp
      omega
    rw [← ey] at hQ
    exact s_ret w2.rfl1 (jd_var 1 E2) fun v H3 w3 r => hQ v H3 ((w'.trans w2).trans w3) r
theorem fo_lowest (L : Fo P w K mg base 1 "shared" [] (spD K R_shared)) (G : Gf K mg "lowest" s_lowest []) : Fo P w K mg base 2 "lowest" [] (spD K R_lowest) := by
  refine fo_of G sc_lowest (fun ds d h => by obtain ⟨t, b, z, rfl, _⟩ := h; rfl) (fun _ _ _ _ _ _ us hl => match us, hl with | [_, _], _ => rfl) ?_
  intro f cdv A outer s H vs Q E ds d hr E0 hR hQ
  obtain ⟨t, b, z, rfl, ⟨hb1, hb2⟩, hz, rfl⟩ := hR
  obtain ⟨e1, e2⟩ := low_eq hb1 hz
  obtain ⟨f1, f2⟩ := low_factor (t := t) hb1 hb2
  refine s_if0 (w_md0 H) (jt_lt (jd_var 1 E0) j_int (decide_eq_false (by omega))) fun H1 w1 => ?_
  have E1 := E0.mono (m := md0) w1
  refine s_asg 2 w1.rfl1 E1 (j_call L hr (jad_cons (jd_var 0 E1) (jad_cons (jd_var 1 E1) jad_nil)) ⟨t, b, rfl, hb1, rfl⟩) sc_lowest.nd fun σ2 H2 w2 E2 => ?_
  refine s_ret w2.rfl1 (jd_is (j_tup (jad_cons (j_fdiv (jd_var 0 E2) (jd_var 2 E2) ⟨f1, f2⟩) (jad_cons (j_fdiv (jd_var 1 E2) (jd_var 2 E2) ⟨f1, f2⟩) jad_nil))) (d' := pt z) ?_) fun v H3 w3 r => hQ v H3 ((w1.trans w2).trans w3) r
  rw [e1, e2] <;> rfl
theorem fo_is_part (T : Tx K mg) (L : Fo P w K mg base 1 "shared" [] (spD K R_shared)) (Lw : Fo P w K mg base 1 "is_whole" [] (spD K R_is_whole)) (G : Gf K mg "is_part" s_is_part []) : Fo P w K mg base 2 "is_part" [] (spD K R_is_part) := by
  refine fo_of G sc_is_part (fun ds d h => by obtain ⟨o, rfl, _⟩ := h; rfl) (fun _ _ _ _ _ _ us hl => match us, hl with | [_], _ => rfl) ?_
  intro f cdv A outer s H vs Q E ds d hr E0 hR hQ
  obtain ⟨o, rfl, rfl⟩ := hR
  cases o with
  | none =>
    exact s_if1 (w_md0 H) (jt_w (jw_or (jt_not (jt_val (j_isi_nt T.isi T.tuple (jd_var 0 E0)))) (u := true) fun q => by cases q)) fun H1 w1 => s_ret w1.rfl1 j_bl fun v H2 w2 r => hQ v H2 (w1.trans w2) r
  | some z =>
    have E1 : En K [] H _ [some (.d (pt z))] := E0
    refine s_if0 (w_md0 H) (jt_w (jw_or (jt_not (jt_val (j_isi_tt T.isi T.tuple (jd_var 0 E1)))) fun _ => jw_or (jt_ne (j_lenT T.len (jd_var 0 E1)) j_int) fun _ => jw_or (jt_not (jt_val (j_call Lw hr (jad_cons (j_ixT 0 (jd_var 0 E1) j_int) jad_nil) ⟨_, rfl, rfl⟩))) fun _ => jw_or1 (jt_not (jt_val (j_call Lw hr (jad_cons (j_ixT 1 (jd_var 0 E1) j_int) jad_nil) ⟨_, rfl, rfl⟩))))) fun H1 w1 => ?_
    have E2 := E1.mono (m := md0) w1
    refine s_ret w1.rfl1 (j_and (j_gt (j_ixT 1 (jd_var 0 E2) j_int) j_int) (fun _ => j_one (j_eq (j_call L hr (jad_cons (j_ixT 0 (jd_var 0 E2) j_int) (jad_cons (j_ixT 1 (jd_var 0 E2) j_int) jad_nil)) ⟨_, _, rfl, pbot_pos z, rfl⟩) j_int)) (r := true) ?_) fun v H3 w3 r => hQ v H3 (w1.trans w3) r
    rw [pt_cop z, decide_eq_true (pbot_pos z)] <;> rfl
theorem cm_bot (i z : Int) : CMul i (pbot z) := .inr (by
  have h1 := pbot_pos z
  have h2 := pbot_le z
  constructor <;> omega)
theorem cm_small {i j : Int} (h : i.natAbs < 2 ^ 60) : CMul i j := .inl (by constructor <;> omega)
theorem fo_need_part (L : Fo P w K mg base 2 "is_part" [] (spD K R_is_part)) (G : Gf K mg "need_part" s_need_part []) : Fo P w K mg base 3 "need_part" [] (spD K R_need_part) := by
  refine fo_of G sc_need_part (fun ds d h => by obtain ⟨z, rfl, _⟩ := h; rfl) (fun _ _ _ _ _ _ us hl => match us, hl with | [_], _ => rfl) ?_
  intro f cdv A outer s H vs Q E ds d hr E0 hR hQ
  obtain ⟨z, rfl, rfl⟩ := hR
  exact s_if0 (w_md0 H) (jt_not (jt_val (j_call L hr (jad_cons (jd_var 0 E0) jad_nil) ⟨some z, rfl, rfl⟩))) fun H1 w1 => s_nil (hQ _ H1 w1 .non)
theorem fo_plus (L : Fo P w K mg base 2 "lowest" [] (spD K R_lowest)) (G : Gf K mg "plus" s_plus []) : Fo P w K mg base 3 "plus" [] (spD K R_plus) := by
  refine fo_of G sc_plus (fun ds d h => by obtain ⟨x, y, rfl, _⟩ := h; rfl) (fun _ _ _ _ _ _ us hl => match us, hl with | [_, _], _ => rfl) ?_
  intro f cdv A outer s H vs Q E ds d hr E0 hR hQ
  obtain ⟨x, y, rfl, rfl⟩ := hR
  have E1 : En K [] H _ [some (.d (pt x)), some (.d (pt y))] := E0
  exact s_ret (w_md0 H) (j_call L hr (jad_cons (j_add (j_mul (j_ixT 0 (jd_var 0 E1) j_int) (j_ixT 1 (jd_var 1 E1) j_int) (cm_bot _ _)) (j_mul (j_ixT 0 (jd_var 1 E1) j_int) (j_ixT 1 (jd_var 0 E1) j_int) (cm_bot _ _))) (jad_cons (j_mul (j_ixT 1 (jd_var 0 E1) j_int) (j_ixT 1 (jd_var 1 E1) j_int) (cm_bot _ _)) jad_nil)) ⟨_, _, _, rfl, bots_small x y, add_cross x y, rfl⟩) hQ
theorem fo_minus (L : Fo P w K mg base 2 "lowest" [] (spD K R_lowest)) (G : Gf K mg "minus" s_minus []) : Fo P w K mg base 3 "minus" [] (spD K R_minus) := by
  refine fo_of G sc_minus (fun ds d h => by obtain ⟨x, y, rfl, _⟩ := h; rfl) (fun _ _ _ _ _ _ us hl => match us, hl with | [_, _], _ => rfl) ?_
  intro f cdv A outer s H vs Q E ds d hr E0 hR hQ
  obtain ⟨x, y, rfl, rfl⟩ := hR
  have E1 : En K [] H _ [some (.d (pt x)), some (.d (pt y))] := E0
  exact s_ret (w_md0 H) (j_call L hr (jad_cons (j_sub (j_mul (j_ixT 0 (jd_var 0 E1) j_int) (j_ixT 1 (jd_var 1 E1) j_int) (cm_bot _ _)) (j_mul (j_ixT 0 (jd_var 1 E1) j_int) (j_ixT 1 (jd_var 0 E1) j_int) (cm_bot _ _))) (jad_cons (j_mul (j_ixT 1 (jd_var 0 E1) j_int) (j_ixT 1 (jd_var 1 E1) j_int) (cm_bot _ _)) jad_nil)) ⟨_, _, _, rfl, bots_small x y, sub_cross x y, rfl⟩) hQ
theorem fo_product (L : Fo P w K mg base 2 "lowest" [] (spD K R_lowest)) (G : Gf K mg "product" s_product []) : Fo P w K mg base 3 "product" [] (spD K R_product) := by
  refine fo_of G sc_product (fun ds d h => by obtain ⟨x, y, z, rfl, _⟩ := h; rfl) (fun _ _ _ _ _ _ us hl => match us, hl with | [_, _], _ => rfl) ?_
  intro f cdv A outer s H vs Q E ds d hr E0 hR hQ
  obtain ⟨x, y, z, rfl, hx, hz, rfl⟩ := hR
  have E1 : En K [] H _ [some (.d (pt x)), some (.d (pt y))] := E0
  exact s_ret (w_md0 H) (j_call L hr (jad_cons (j_mul (j_ixT 0 (jd_var 0 E1) j_int) (j_ixT 0 (jd_var 1 E1) j_int) (cm_small (Nat.lt_of_le_of_lt (pt_abs x) hx))) (jad_cons (j_mul (j_ixT 1 (jd_var 0 E1) j_int) (j_ixT 1 (jd_var 1 E1) j_int) (cm_bot _ _)) jad_nil)) ⟨_, _, _, rfl, bots_small x y, mul_cross hz, rfl⟩) hQ
theorem fo_below (G : Gf K mg "below" s_below []) : Fo P w K mg base 1 "below" [] (spD K R_below) := by
  refine fo_of G sc_below (fun ds d h => by obtain ⟨x, y, rfl, _⟩ := h; rfl) (fun _ _ _ _ _ _ us hl => match us, hl with | [_, _], _ => rfl) ?_
  intro f cdv A outer s H vs Q E ds d hr E0 hR hQ
  obtain ⟨x, y, rfl, rfl⟩ := hR
  have E1 : En K [] H _ [some (.d (pt x)), some (.d (pt y))] := E0
  exact s_ret (w_md0 H) (j_lt (j_mul (j_ixT 0 (jd_var 0 E1) j_int) (j_ixT 1 (jd_var 1 E1) j_int) (cm_bot _ _)) (j_mul (j_ixT 0 (jd_var 1 E1) j_int) (j_ixT 1 (jd_var 0 E1) j_int) (cm_bot _ _)) (decide_eq_decide.mpr (pt_lt x y))) hQ
theorem fo_turned (G : Gf K mg "turned" s_turned []) : Fo P w K mg base 1 "turned" [] (spD K R_turned) := by
  refine fo_of G sc_turned (fun ds d h => by obtain ⟨x, rfl, _⟩ := h; rfl) (fun _ _ _ _ _ _ us hl => match us, hl with | [_], _ => rfl) ?_
  intro f cdv A outer s H vs Q E ds d hr E0 hR hQ
  obtain ⟨x, rfl, rfl⟩ := hR
  have E1 : En K [] H _ [some (.d (pt x))] := E0
  refine s_ret (w_md0 H) (jd_is (j_tup (jad_cons (j_sub j_int (j_ixT 0 (jd_var 0 E1) j_int)) (jad_cons (j_ixT 1 (jd_var 0 E1) j_int) jad_nil))) (d' := pt (-x)) ?_) hQ
  obtain ⟨e1, e2⟩ := pt_neg x
  exact (pt_lit e1 e2).symm
theorem fo_added (L : Fo P w K mg base 3 "need_part" [] (spD K R_need_part)) (Lp : Fo P w K mg base 3 "plus" [] (spD K R_plus)) (G : Gf K mg "added" s_added []) : Fo P w K mg base 4 "added" [] (spD K R_plus) := by
  refine fo_of G sc_added (fun ds d h => by obtain ⟨x, y, rfl, _⟩ := h; rfl) (fun _ _ _ _ _ _ us hl => match us, hl with | [_, _], _ => rfl) ?_
  intro f cdv A outer s H vs Q E ds d hr E0 hR hQ
  obtain ⟨x, y, rfl, rfl⟩ := hR
  refine s_expr (w_md0 H) (j_call L hr (jad_cons (jd_var 0 E0) jad_nil) ⟨_, rfl, rfl⟩) fun H1 w1 => ?_
  have E1 := E0.mono (m := md0) w1
  refine s_expr w1.rfl1 (j_call L hr (jad_cons (jd_var 1 E1) jad_nil) ⟨_, rfl, rfl⟩) fun H2 w2 => ?_
  have E2 := E1.mono (m := md0) w2
  exact s_ret w2.rfl1 (j_call Lp hr (jad_cons (jd_var 0 E2) (jad_cons (jd_var 1 E2) jad_nil)) ⟨x, y, rfl, rfl⟩) fun v H3 w3 r => hQ v H3 ((w1.trans w2).trans w3) r
theorem fo_is_less (L : Fo P w K mg base 3 "need_part" [] (spD K R_need_part)) (Lp : Fo P w K mg base 1 "below" [] (spD K R_below)) (G : Gf K mg "is_less" s_is_less []) : Fo P w K mg base 4 "is_less" [] (spD K R_below) := by
  refine fo_of G sc_is_less (fun ds d h => by obtain ⟨x, y, rfl, _⟩ := h; rfl) (fun _ _ _ _ _ _ us hl => match us, hl with | [_, _], _ => rfl) ?_
  intro f cdv A outer s H vs Q E ds d hr E0 hR hQ
  obtain ⟨x, y, rfl, rfl⟩ := hR
  refine s_expr (w_md0 H) (j_call L hr (jad_cons (jd_var 0 E0) jad_nil) ⟨_, rfl, rfl⟩) fun H1 w1 => ?_
  have E1 := E0.mono (m := md0) w1
  refine s_expr w1.rfl1 (j_call L hr (jad_cons (jd_var 1 E1) jad_nil) ⟨_, rfl, rfl⟩) fun H2 w2 => ?_
  have E2 := E1.mono (m := md0) w2
  exact s_ret w2.rfl1 (j_call Lp hr (jad_cons (jd_var 0 E2) (jad_cons (jd_var 1 E2) jad_nil)) ⟨x, y, rfl, rfl⟩) fun v H3 w3 r => hQ v H3 ((w1.trans w2).trans w3) r
end
end Gc
namespace Gc
open PySem PySem.Spec PyProof.Rows L2
/-! ## comprehensions with the block's names forgotten -/
def wipeS (sl : List (Option Item)) : List Nat → List (Option Item)
  | [] => sl
  | v :: vs => (wipeS sl vs).set v none
theorem wipeS_len (sl : List (Option Item)) : ∀ vs, (wipeS sl vs).length = sl.length
  | [] => rfl
  | v :: vs => by
    show ((wipeS sl vs).set v none).length = _
    rw [List.length_set, wipeS_len sl vs]
theorem wipeS_at {sl : List (Option Item)} {i : Nat} {it : Item} : ∀ {vs : List Nat}, (wipeS sl vs)[i]? = some (some it) → sl[i]? = some (some it) ∧ i ∉ vs
  | [], h => ⟨h, by simp⟩
  | v :: vs, h => by
    have h' : ((wipeS sl vs).set v none)[i]? = some (some it) := h
    by_cases e : v = i
    · subst e
      by_cases hl : v < (wipeS sl vs).length
      · rw [List.getElem?_set_self hl] at h'
        cases h'
      · rw [List.getElem?_eq_none (by rw [List.length_set]; omega)] at h'
        cases h'
    · rw [List.getElem?_set_ne e] at h'
      obtain ⟨h1, h2⟩ := wipeS_at h'
      exact ⟨h1, by rw [List.mem_cons, not_or]; exact ⟨fun q => e q.symm, h2⟩⟩
section
variable {m : Md} {X : Cx} {σ : L2.St} {H : Hp} {elt tg iter c e : Expr} {ifs : List Expr} {scope : Scope} {pos p : Pos} {n : Nat} {item : Nat → PyData} {sl : List (Option Item)}
theorem j_comp (own : List (Str × Nat)) (E : En X.K m.M H σ sl) (hc : X.calm = true) (hN : X.N.Nodup) (ok : BlkOk X.N X.env.scope scope own) (S : Sr m X σ H tg iter n item) (hn : n ≤ 1000)
    (is : List Nat) (sl1 : Nat → List (Option Item)) (his : ∀ j, j ∈ is → j ∈ own.map (·.2)) (hg : ∀ i, i < n → ∀ (s : Shared) (Hs : Hp) (C : Addr) (cl : List (Str × Addr)) (fp : List Addr), Gt (X.blk s Hs scope (compEnvC scope cl C X.env) fp) tg is (item i) (wipeS sl (own.map (·.2))) (sl1 i))
    (kp : Nat → Bool) (ht : ∀ i, i < n → ∀ (m' : Md), m'.P = m.P → ∀ (s : Shared) (Hs : Hp) (C : Addr) (cl : List (Str × Addr)) (fp : List Addr) σ' H', Wm m' H' H' → En X.K m'.M H' σ' (sl1 i) → JTs m' (X.blk s Hs scope (compEnvC scope cl C X.env) fp) σ' H' ifs (kp i))
    (f : Nat → PyData) (he : ∀ i, i < n → kp i = true → ∀ (m' : Md), m'.P = m.P → ∀ (s : Shared) (Hs : Hp) (C : Addr) (cl : List (Str × Addr)) (fp : List Addr) σ' H', Wm m' H' H' → En X.K m'.M H' σ' (sl1 i) → JD m' (X.blk s Hs scope (compEnvC scope cl C X.env) fp) σ' H' elt (f i))
    (hs : ∀ x, foldedSetIterable iter X.env x = pure x := by intro _; rfl) : JD m X σ H (.ListComp elt [⟨tg, iter, ifs, 0⟩] scope pos) (.list (((List.range n).filter kp).map f)) :=
  j_lc own E hc hN ok S hn (wipeS_len _ _) (fun i it h => wipeS_at h) is sl1 his hg kp ht f he hs
/-- name = [..] -/
theorem s_comp {rest : List Stmt} {D : Ends} {y : Str} {py spos : Pos} (o : Nat) (own : List (Str × Nat)) (w : Wm m H H) (E : En X.K m.M H σ sl) (hc : X.calm = true) (hN : X.N.Nodup) (ok : BlkOk X.N X.env.scope scope own) (S : Sr m X σ H tg iter n item) (hn : n ≤ 1000)
    (is : List Nat) (sl1 : Nat → List (Option Item)) (his : ∀ j, j ∈ is → j ∈ own.map (·.2)) (hg : ∀ i, i < n → ∀ (s : Shared) (Hs : Hp) (C : Addr) (cl : List (Str × Addr)) (fp : List Addr), Gt (X.blk s Hs scope (compEnvC scope cl C X.env) fp) tg is (item i) (wipeS sl (own.map (·.2))) (sl1 i))
    (kp : Nat → Bool) (ht : ∀ i, i < n → ∀ (m' : Md), m'.P = m.P → ∀ (s : Shared) (Hs : Hp) (C : Addr) (cl : List (Str × Addr)) (fp : List Addr) σ' H', Wm m' H' H' → En X.K m'.M H' σ' (sl1 i) → JTs m' (X.blk s Hs scope (compEnvC scope cl C X.env) fp) σ' H' ifs (kp i))
    (f : Nat → PyData) (he : ∀ i, i < n → kp i = true → ∀ (m' : Md), m'.P = m.P → ∀ (s : Shared) (Hs : Hp) (C : Addr) (cl : List (Str × Addr)) (fp : List Addr) σ' H', Wm m' H' H' → En X.K m'.M H' σ' (sl1 i) → JD m' (X.blk s Hs scope (compEnvC scope cl C X.env) fp) σ' H' elt (f i))
    (kk : ∀ σ1 H1, Wm m H H1 → En X.K m.M H1 σ1 (sl.set o (some (.d (.list (((List.range n).filter kp).map f))))) → cSs X rest D σ1 H1)
    (hy : X.N[o]? = some y := by rfl) (hyl : X.env.scope.names.lookup y = some .local := by rfl) (hsw : swapsWith (.ListComp elt [⟨tg, iter, ifs, 0⟩] scope pos) (some (.Name y py)) spos.line X.env = pure true := by rfl)
    (hs : ∀ x, foldedSetIterable iter X.env x = pure x := by intro _; rfl) : cSs X (.Assign [.Name y py] (.ListComp elt [⟨tg, iter, ifs, 0⟩] scope pos) spos :: rest) D σ H :=
  s_setLc o w own E hc hN ok S hn (wipeS_len _ _) (fun i it h => wipeS_at h) is sl1 his hg kp ht (fun i d => d = f i) (fun i hi hk m' hm s Hs C cl fp σ' H' w' E' => jr_imp (jr_of (he i hi hk m' hm s Hs C cl fp σ' H' w' E')) fun it e => ⟨f i, e, rfl⟩) (fun ds σ1 H1 lc w1 E1 => by
    rw [lc.eq] at E1
    exact kk σ1 H1 w1 E1) hy hyl hsw hs
theorem j_allF {x : Str} {kp g : Nat → Bool} (hc : X.calm = true) (hm : X.mg x = none) (ja : JD m X σ H e (.list (((List.range n).filter kp).map fun i => .bool (g i)))) (hgt : ∀ i, i < n → g i = true) (hv : bootBuiltins x = some (.builtin "all") := by decide +kernel) (hg : Gl X x := by rfl) (hn : x ≠ "__name__" := by decide) (hdb : (x == ("__debug__" : Str)) = false := by decide)
    (he : starEach [e] X.env = (false, eval e X.env) :: starEach [] X.env := by rfl) (hpl : (backTo pos (starEach [] X.env)).any (·.1) = false := by rfl) : JD m X σ H (.Call (.Name x p) [e] [] pos) (.bool true) := by
  have e1 : ((((List.range n).filter kp).map g).all id) = true := by
    rw [List.all_map, List.all_eq_true]
    intro i hi
    exact hgt i (List.mem_range.mp (List.mem_filter.mp hi).1)
  rw [← e1]
  exact j_all hc hm (jd_is ja (by rw [List.map_map] <;> rfl)) hv hg hn hdb he hpl
end
/-! ## clocks -/
def sp (s : Int × Int) : PyData := .tuple [pt s.1, pt s.2]
def clk (g : Int) (ss : List (Int × Int)) : PyData := .tuple [pt g, .tuple (ss.map sp)]
def GainOk (g : Int) : Prop := -332640 ≤ g ∧ g ≤ 332640
def SetsOk (ss : List (Int × Int)) : Prop := ss.length ≤ 6 ∧ (∀ s ∈ ss, 0 ≤ s.1 ∧ s.2 ≠ 0) ∧ ss.Pairwise (fun a b => a.1 < b.1)
def jt (ss : List (Int × Int)) (mo : Int) : Int := ss.foldl (fun z s => if s.1 ≤ mo then z + s.2 else z) 0
def dr (g : Int) (ss : List (Int × Int)) (mo : Int) : Int := mo * g / 27720 + jt ss mo
theorem jt_take {ss : List (Int × Int)} {mo : Int} {i : Nat} (h : i < ss.length) : jt (ss.take (i + 1)) mo = if ss[i].1 ≤ mo then jt (ss.take i) mo + ss[i].2 else jt (ss.take i) mo := by
  unfold jt
  rw [List.take_succ_eq_append_getElem h, List.foldl_append]
  rfl
def R_is_gain (ds : List PyData) (d : PyData) : Prop := ∃ g, ds = [pt g] ∧ GainOk g ∧ d = .bool true
def R_is_moment (ds : List PyData) (d : PyData) : Prop := ∃ z, ds = [pt z] ∧ 0 ≤ z ∧ d = .bool true
def R_need_moment (ds : List PyData) (d : PyData) : Prop := ∃ z, ds = [pt z] ∧ 0 ≤ z ∧ d = .none
def R_is_set (ds : List PyData) (d : PyData) : Prop := ∃ s, ds = [sp s] ∧ (0 ≤ s.1 ∧ s.2 ≠ 0) ∧ d = .bool true
def R_is_clock (ds : List PyData) (d : PyData) : Prop := ∃ g ss, ds = [clk g ss] ∧ GainOk g ∧ SetsOk ss ∧ d = .bool true
def R_need_clock (ds : List PyData) (d : PyData) : Prop := ∃ g ss, ds = [clk g ss] ∧ GainOk g ∧ SetsOk ss ∧ d = .none
def R_jumps (ds : List PyData) (d : PyData) : Prop := ∃ g ss mo, ds = [clk g ss, pt mo] ∧ d = pt (jt ss mo)
def R_drift_by (ds : List PyData) (d : PyData) : Prop := ∃ g ss mo, ds = [clk g ss, pt mo] ∧ mo.natAbs < 2 ^ 60 ∧ (27720 : Int) ∣ mo * g ∧ d = pt (dr g ss mo)
def R_drift (ds : List PyData) (d : PyData) : Prop := ∃ g ss mo, ds = [clk g ss, pt mo] ∧ GainOk g ∧ SetsOk ss ∧ 0 ≤ mo ∧ mo.natAbs < 2 ^ 60 ∧ (27720 : Int) ∣ mo * g ∧ d = pt (dr g ss mo)
section
variable {P : Program} {w : World} {K : PySem.W.Frag} {mg : Str → Option Value} {base : Heap}
theorem fo_is_gain (T : Tx K mg) (L : Fo P w K mg base 2 "is_part" [] (spD K R_is_part)) (Lb : Fo P w K mg base 1 "below" [] (spD K R_below)) (G : Gf K mg "is_gain" s_is_gain []) : Fo P w K mg base 3 "is_gain" [] (spD K R_is_gain) := by
  refine fo_of G sc_is_gain (fun ds d h => by obtain ⟨g, rfl, _⟩ := h; rfl) (fun _ _ _ _ _ _ us hl => match us, hl with | [_], _ => rfl) ?_
  intro f cdv A outer s H vs Q E ds d hr E0 hR hQ
  obtain ⟨g, rfl, ⟨h1, h2⟩, rfl⟩ := hR
  exact s_ret (w_md0 H) (j_and (j_call L hr (jad_cons (jd_var 0 E0) jad_nil) ⟨some g, rfl, rfl⟩) fun _ => j_and (j_not (j_call Lb hr (jad_cons (jd_var 0 E0) (jad_cons (jg_m12 T.lgain) jad_nil)) ⟨_, _, rfl, rfl⟩) (by rw [decide_eq_false (by omega)] <;> rfl)) fun _ => j_one (j_not (j_call Lb hr (jad_cons (jg_12 T.mgain) (jad_cons (jd_var 0 E0) jad_nil)) ⟨_, _, rfl, rfl⟩) (by rw [decide_eq_false (by omega)] <;> rfl))) hQ
theorem fo_is_moment (L : Fo P w K mg base 2 "is_part" [] (spD K R_is_part)) (G : Gf K mg "is_moment" s_is_moment []) : Fo P w K mg base 3 "is_moment" [] (spD K R_is_moment) := by
  refine fo_of G sc_is_moment (fun ds d h => by obtain ⟨z, rfl, _⟩ := h; rfl) (fun _ _ _ _ _ _ us hl => match us, hl with | [_], _ => rfl) ?_
  intro f cdv A outer s H vs Q E ds d hr E0 hR hQ
  obtain ⟨z, rfl, h1, rfl⟩ := hR
  have E1 : En K [] H _ [some (.d (pt z))] := E0
  exact s_ret (w_md0 H) (j_and (j_call L hr (jad_cons (jd_var 0 E1) jad_nil) ⟨some z, rfl, rfl⟩) fun _ => j_one (j_ge (j_ixT 0 (jd_var 0 E1) j_int) j_int (decide_eq_true (ptop_nonneg h1)))) hQ
theorem fo_is_set (T : Tx K mg) (L : Fo P w K mg base 2 "is_part" [] (spD K R_is_part)) (Lm : Fo P w K mg base 3 "is_moment" [] (spD K R_is_moment)) (G : Gf K mg "is_set" s_is_set []) : Fo P w K mg base 4 "is_set" [] (spD K R_is_set) := by
  refine fo_of G sc_is_set (fun ds d h => by obtain ⟨s, rfl, _⟩ := h; rfl) (fun _ _ _ _ _ _ us hl => match us, hl with | [_], _ => rfl) ?_
  intro f cdv A outer s H vs Q E ds d hr E0 hR hQ
  obtain ⟨⟨a, b⟩, rfl, ⟨h1, h2⟩, rfl⟩ := hR
  have E1 : En K [] H _ [some (.d (.tuple [pt a, pt b]))] := E0
  refine s_if0 (w_md0 H) (jt_w (jw_or (jt_not (jt_val (j_isi_tt T.isi T.tuple (jd_var 0 E1)))) fun _ => jw_or1 (jt_ne (j_lenT T.len (jd_var 0 E1)) j_int))) fun H1 w1 => ?_
  have E2 := E1.mono (m := md0) w1
  exact s_ret w1.rfl1 (j_and (j_call Lm hr (jad_cons (j_ixT 0 (jd_var 0 E2) j_int) jad_nil) ⟨a, rfl, h1, rfl⟩) fun _ => j_and (j_call L hr (jad_cons (j_ixT 1 (jd_var 0 E2) j_int) jad_nil) ⟨some b, rfl, rfl⟩) fun _ => j_one (j_neD hr (j_ixT 1 (jd_var 0 E2) j_int) (jg_nought T.nought) (shaped_pt b) (shaped_pt 0) (by rw [eqv_pt, decide_eq_false h2] <;> rfl))) fun v H2 w2 r => hQ v H2 (w1.trans w2) r
theorem fo_is_clock (T : Tx K mg) (Lg : Fo P w K mg base 3 "is_gain" [] (spD K R_is_gain)) (Ls : Fo P w K mg base 4 "is_set" [] (spD K R_is_set)) (Lb : Fo P w K mg base 1 "below" [] (spD K R_below)) (G : Gf K mg "is_clock" s_is_clock []) : Fo P w K mg base 5 "is_clock" [] (spD K R_is_clock) := by
  refine fo_of G sc_is_clock (fun ds d h => by obtain ⟨g, ss, rfl, _⟩ := h; rfl) (fun _ _ _ _ _ _ us hl => match us, hl with | [_], _ => rfl) ?_
  intro f cdv A outer s H vs Q E ds d hr E0 hR hQ
  obtain ⟨g, ss, rfl, hg, ⟨hl, hs, hp⟩, rfl⟩ := hR
  have E1 : En K [] H _ [some (.d (.tuple [pt g, .tuple (ss.map sp)])), none, none] := E0
  refine s_if0 (w_md0 H) (jt_w (jw_or (jt_not (jt_val (j_isi_tt T.isi T.tuple (jd_var 0 E1)))) fun _ => jw_or (jt_ne (j_lenT T.len (jd_var 0 E1)) j_int) fun _ => jw_or (jt_not (jt_val (j_call Lg hr (jad_cons (j_ixT 0 (jd_var 0 E1) j_int) jad_nil) ⟨g, rfl, hg, rfl⟩))) fun _ => jw_or1 (jt_not (jt_val (j_isi_tt T.isi T.tuple (j_ixT 1 (jd_var 0 E1) j_int)))))) fun H1 w1 => ?_
  have E2 := E1.mono (m := md0) w1
  refine s_if0 w1.rfl1 (jt_w (jw_or (t := false) (jt_gt (j_lenT T.len (j_ixT 1 (jd_var 0 E2) j_int)) (jg_int T.msets) (decide_eq_false (by rw [List.length_map]; omega))) fun _ => jw_or1 (jt_not (jt_val (j_allF (g := fun _ => true) rfl T.all (j_comp [("one", 1)] E2 rfl sc_is_clock.nd (blkOk_by (N := ["thing", "one", "later"]) (sc := defScope s_is_clock) (by decide +kernel)) (sr_tup (j_ixT 1 (jd_var 0 E2) j_int)) (by rw [List.length_map]; omega) [1] (fun i => [some (.d (.tuple [pt g, .tuple (ss.map sp)])), some (.d ((ss.map sp).getD i .none)), none]) (by simp) (fun i hi s Hs C cl fp => gt_name 1 sc_is_clock.nd) (fun _ => true) (fun i hi m' hm s Hs C cl fp σ' H' w' E' => jts_nil) (fun i => .bool true) (fun i hi _ m' hm s Hs C cl fp σ' H' w' E' => j_call Ls hr (jad_cons (jd_var 1 E') jad_nil) ?_)) fun i hi => rfl))))) fun H3 w3 => ?_
  · have hi' : i < ss.length := by simpa using hi
    exact ⟨ss[i], by rw [getD_map sp hi'], hs _ (List.getElem_mem hi'), rfl⟩
  · have E3 := E2.mono (m := md0) w3
    refine s_ret w3.rfl1 (j_allF (g := fun _ => true) rfl T.all (j_comp (n := ss.length - 1) [("one", 1), ("later", 2)] E3 rfl sc_is_clock.nd (blkOk_by (N := ["thing", "one", "later"]) (sc := defScope s_is_clock) (by decide +kernel)) (sr_zipT T.zip (j_ixT 1 (jd_var 0 E3) j_int) (j_slT (j_ixT 1 (jd_var 0 E3) j_int) (jo_some (i := ((1 : Nat) : Int)) j_int) jo_none) (by rw [cutD_drop]; simp)) (by omega) [1, 2] (fun i => [some (.d (.tuple [pt g, .tuple (ss.map sp)])), some (.d ((ss.map sp).getD i .none)), some (.d ((cutD (ss.map sp) (some ((1 : Nat) : Int)) none).getD i .none))]) (by simp) (fun i hi s Hs C cl fp => gt_tup rfl (gts_cons (gt_name 1 sc_is_clock.nd) (gts_cons (gt_name 2 sc_is_clock.nd) gts_nil))) (fun _ => true) (fun i hi m' hm s Hs C cl fp σ' H' w' E' => jts_nil) (fun i => .bool true) (fun i hi _ m' hm s Hs C cl fp σ' H' w' E' => ?_)) fun i hi => rfl) fun v H4 w4 r => hQ v H4 ((w1.trans w3).trans w4) r
    have h1 : i < ss.length := by omega
    have h2 : i + 1 < ss.length := by omega
    rw [cutD_drop, getD_map sp h1, show ((ss.map sp).drop 1).getD i .none = sp ss[i + 1] by simp [List.getD, h2, Nat.add_comm 1 i]] at E'
    have E4 : En K m'.M H' σ' [some (.d (.tuple [pt g, .tuple (ss.map sp)])), some (.d (.tuple [pt ss[i].1, pt ss[i].2])), some (.d (.tuple [pt ss[i + 1].1, pt ss[i + 1].2]))] := E'
    exact j_call Lb hr (jad_cons (j_ixT 0 (jd_var 1 E4) j_int) (jad_cons (j_ixT 0 (jd_var 2 E4) j_int) jad_nil)) ⟨_, _, rfl, by rw [decide_eq_true (List.pairwise_iff_getElem.mp hp i (i + 1) h1 h2 (by omega))]⟩
theorem fo_need_clock (L : Fo P w K mg base 5 "is_clock" [] (spD K R_is_clock)) (G : Gf K mg "need_clock" s_need_clock []) : Fo P w K mg base 6 "need_clock" [] (spD K R_need_clock) := by
  refine fo_of G sc_need_clock (fun ds d h => by obtain ⟨g, ss, rfl, _⟩ := h; rfl) (fun _ _ _ _ _ _ us hl => match us, hl with | [_], _ => rfl) ?_
  intro f cdv A outer s H vs Q E ds d hr E0 hR hQ
  obtain ⟨g, ss, rfl, h1, h2, rfl⟩ := hR
  exact s_if0 (w_md0 H) (jt_not (jt_val (j_call L hr (jad_cons (jd_var 0 E0) jad_nil) ⟨g, ss, rfl, h1, h2, rfl⟩))) fun H1 w1 => s_nil (hQ _ H1 w1 .non)
theorem fo_need_moment (L : Fo P w K mg base 3 "is_moment" [] (spD K R_is_moment)) (G : Gf K mg "need_moment" s_need_moment []) : Fo P w K mg base 4 "need_moment" [] (spD K R_need_moment) := by
  refine fo_of G sc_need_moment (fun ds d h => by obtain ⟨z, rfl, _⟩ := h; rfl) (fun _ _ _ _ _ _ us hl => match us, hl with | [_], _ => rfl) ?_
  intro f cdv A outer s H vs Q E ds d hr E0 hR hQ
  obtain ⟨z, rfl, h1, rfl⟩ := hR
  exact s_if0 (w_md0 H) (jt_not (jt_val (j_call L hr (jad_cons (jd_var 0 E0) jad_nil) ⟨z, rfl, h1, rfl⟩))) fun H1 w1 => s_nil (hQ _ H1 w1 .non)
theorem fo_jumps_till (T : Tx K mg) (Lb : Fo P w K mg base 1 "below" [] (spD K R_below)) (Lp : Fo P w K mg base 3 "plus" [] (spD K R_plus)) (G : Gf K mg "jumps_till" s_jumps_till []) : Fo P w K mg base 4 "jumps_till" [] (spD K R_jumps) := by
  refine fo_of G sc_jumps_till (fun ds d h => by obtain ⟨g, ss, mo, rfl, _⟩ := h; rfl) (fun _ _ _ _ _ _ us hl => match us, hl with | [_, _], _ => rfl) ?_
  intro f cdv A outer s H vs Q E ds d hr E0 hR hQ
  obtain ⟨g, ss, mo, rfl, rfl⟩ := hR
  have E1 : En K [] H _ [some (.d (.tuple [pt g, .tuple (ss.map sp)])), some (.d (pt mo)), none, none, none] := E0
  refine s_asg 2 (w_md0 H) E1 (jg_nought T.nought) sc_jumps_till.nd fun σ1 H1 w1 E2 => ?_
  refine s_for (n := (ss.map sp).length) w1.rfl1 PassesOwn.never rfl (sr_tup (j_ixT 1 (jd_var 0 E2) j_int)) (fun H2 i σ' H' => Wm md0 H2 H' ∧ En K [] H' σ' [some (.d (.tuple [pt g, .tuple (ss.map sp)])), some (.d (pt mo)), some (.d (pt (jt (ss.take i) mo))), none, none]) (fun H2 w2 => ⟨w2.rfl1, E2.mono (m := md0) w2⟩) (fun H2 i σ' H' _ h => h.1.bs) (fun H2 i σ' H' H'' v w2 hi h k r => ?_) (fun H2 σ' H' w2 h => ?_)
  · obtain ⟨w3, E3⟩ := h
    have hi' : i < ss.length := by simpa using hi
    rw [getD_map sp hi'] at r
    have w4 := w3.rfl1.same k
    refine (gt_tup rfl (gts_cons (gt_name 3 sc_jumps_till.nd) (gts_cons (gt_name 4 sc_jumps_till.nd) gts_nil))).run [] H'' σ' v _ (E3.mono (m := md0) w4) r fun σ3 E4 _ _ => ?_
    have fin : ∀ {σ5 H5 z}, Wm md0 H'' H5 → z = jt (ss.take (i + 1)) mo → En K [] H5 σ5 [some (.d (.tuple [pt g, .tuple (ss.map sp)])), some (.d (pt mo)), some (.d (pt z)), some (.d (pt ss[i].1)), some (.d (pt ss[i].2))] → Wm md0 H2 H5 ∧ En K [] H5 σ5 [some (.d (.tuple [pt g, .tuple (ss.map sp)])), some (.d (pt mo)), some (.d (pt (jt (ss.take (i + 1)) mo))), none, none] := fun w5 e E5 => by
      subst e
      exact ⟨(w3.trans w4).trans w5, (E5.forget 3).forget 4⟩
    refine s_if (w_md0 H'') (jt_not (jt_val (j_call Lb hr (jad_cons (jd_var 1 E4) (jad_cons (jd_var 3 E4) jad_nil)) ⟨_, _, rfl, rfl⟩))) (fun q H5 w5 => ?_) fun q H5 w5 => ?_
    · have q' : ss[i].1 ≤ mo := by
        have q1 : ¬ mo < ss[i].1 := by simpa using q
        omega
      exact s_asg 2 w5.rfl1 (E4.mono (m := md0) w5) (j_call Lp hr (jad_cons (jd_var 2 (E4.mono (m := md0) w5)) (jad_cons (jd_var 4 (E4.mono (m := md0) w5)) jad_nil)) ⟨_, _, rfl, rfl⟩) sc_jumps_till.nd fun σ6 H6 w6 E6 => s_nil (s_nil (fin (w5.trans w6) (by rw [jt_take hi', if_pos q']) E6))
    · have q' : ¬ ss[i].1 ≤ mo := by
        have q1 : mo < ss[i].1 := by simpa using q
        omega
      exact s_nil (s_nil (fin w5 (by rw [jt_take hi', if_neg q']) (E4.mono (m := md0) w5)))
  · obtain ⟨w3, E3⟩ := h
    have e : ss.take (ss.map sp).length = ss := List.take_of_length_le (by simp)
    rw [e] at E3
    exact s_ret w3.rfl1 (jd_var 2 E3) fun v H4 w4 r => hQ v H4 (((w1.trans w2).trans w3).trans w4) r
theorem fo_drift_by (Lx : Fo P w K mg base 3 "product" [] (spD K R_product)) (Lp : Fo P w K mg base 3 "plus" [] (spD K R_plus)) (Lj : Fo P w K mg base 4 "jumps_till" [] (spD K R_jumps)) (G : Gf K mg "drift_by" s_drift_by []) : Fo P w K mg base 5 "drift_by" [] (spD K R_drift_by) := by
  refine fo_of G sc_drift_by (fun ds d h => by obtain ⟨g, ss, mo, rfl, _⟩ := h; rfl) (fun _ _ _ _ _ _ us hl => match us, hl with | [_, _], _ => rfl) ?_
  intro f cdv A outer s H vs Q E ds d hr E0 hR hQ
  obtain ⟨g, ss, mo, rfl, h1, h2, rfl⟩ := hR
  have E1 : En K [] H _ [some (.d (.tuple [pt g, .tuple (ss.map sp)])), some (.d (pt mo))] := E0
  exact s_ret (w_md0 H) (j_call Lp hr (jad_cons (j_call Lx hr (jad_cons (jd_var 1 E1) (jad_cons (j_ixT 0 (jd_var 0 E1) j_int) jad_nil)) ⟨mo, g, mo * g / 27720, rfl, h1, Int.ediv_mul_cancel h2, rfl⟩) (jad_cons (j_call Lj hr (jad_cons (jd_var 0 E0) (jad_cons (jd_var 1 E0) jad_nil)) ⟨g, ss, mo, rfl, rfl⟩) jad_nil)) ⟨_, _, rfl, rfl⟩) hQ
theorem fo_drift (Lc : Fo P w K mg base 6 "need_clock" [] (spD K R_need_clock)) (Lm : Fo P w K mg base 4 "need_moment" [] (spD K R_need_moment)) (Ld : Fo P w K mg base 5 "drift_by" [] (spD K R_drift_by)) (G : Gf K mg "drift" s_drift []) : Fo P w K mg base 7 "drift" [] (spD K R_drift) := by
  refine fo_of G sc_drift (fun ds d h => by obtain ⟨g, ss, mo, rfl, _⟩ := h; rfl) (fun _ _ _ _ _ _ us hl => match us, hl with | [_, _], _ => rfl) ?_
  intro f cdv A outer s H vs Q E ds d hr E0 hR hQ
  obtain ⟨g, ss, mo, rfl, h1, h2, h3, h4, h5, rfl⟩ := hR
  refine s_expr (w_md0 H) (j_call Lc hr (jad_cons (jd_var 0 E0) jad_nil) ⟨g, ss, rfl, h1, h2, rfl⟩) fun H1 w1 => ?_
  have E1 := E0.mono (m := md0) w1
  refine s_expr w1.rfl1 (j_call Lm hr (jad_cons (jd_var 1 E1) jad_nil) ⟨mo, rfl, h3, rfl⟩) fun H2 w2 => ?_
  have E2 := E1.mono (m := md0) w2
  exact s_ret w2.rfl1 (j_call Ld hr (jad_cons (jd_var 0 E2) (jad_cons (jd_var 1 E2) jad_nil)) ⟨g, ss, mo, rfl, h4, h5, rfl⟩) fun v H3 w3 r => hQ v H3 ((w1.trans w2).trans w3) r
end
end Gc
namespace Gc
open PySem PySem.Spec PyProof.Rows L2
section
variable {m : Md} {X : Cx} {σ : L2.St} {H : Hp} {e : Expr} {es : List Expr} {pos p : Pos} {k k' : Nat} {x : Str} {d : PyData} {ds : List PyData} {R : List PyData → PyData → Prop}
/-- where nothing is barred a def may give lists -/
theorem j_call0 (G : Fo X.prog X.w X.K X.mg X.base k x [] (spD X.K R)) (hr : Room k' X.A) (hM : m.M = []) (ja : JAd m X σ H (e :: es) ds) (hR : R ds d) (hk : k ≤ k' := by decide) (hg : Gl X x := by rfl) (hdb : (x == ("__debug__" : Str)) = false := by decide)
    (he : starEach (e :: es) X.env = (false, eval e X.env) :: starEach es X.env := by rfl) (hpl : (backTo pos (starEach es X.env)).any (·.1) = false := by rfl) : JD m X σ H (.Call (.Name x p) (e :: es) [] pos) d := fun H1 w Q q =>
  c_call G hr hk (ja H1 w _ fun vs H2 w2 r => by
    rw [List.append_nil]
    refine ⟨ds, d, r.data.to0, hR, fun v H3 kk r3 => q v H3 (w2.trans (w2.rfl1.same kk)) ?_⟩
    rw [hM]
    exact r3) hg hdb he hpl
end
section
variable {m : Md} {X : Cx} {σ : L2.St} {H : Hp} {c : Expr} {body rest : List Stmt} {pos : Pos} {t : Bool} {D : Ends}
/-- an if without an else, both roads meeting in W -/
theorem s_ifM (W : L2.St → Hp → Prop) (w : Wm m H H) (j : JT m X σ H c t) (k1 : t = true → ∀ H1, Wm m H H1 → ∀ D' : Ends, (∀ σ' H', W σ' H' → D'.nx σ' H') → cSs X body D' σ H1) (k2 : t = false → ∀ H1, Wm m H H1 → W σ H1) (k : ∀ σ' H', W σ' H' → cSs X rest D σ' H') : cSs X (.If c body [] pos :: rest) D σ H :=
  s_if w j (fun q H1 w1 => k1 q H1 w1 _ k) fun q H1 w1 => s_nil (k _ _ (k2 q H1 w1))
end
/-! ## tellings -/
structure Tl where
  a : Nat
  b : Nat
  lo : Option Int
  hi : Option Int
  deriving DecidableEq
def tlD (t : Tl) : PyData := .tuple [.int t.a, .int t.b, op t.lo, op t.hi]
structure BdOk (lo hi : Option Int) : Prop where
  sm : lo.isSome = true ∨ hi.isSome = true
  le : ∀ l h, lo = some l → hi = some h → l ≤ h
structure TlOk (t : Tl) : Prop where
  a : t.a < 6
  b : t.b < 6
  ne : t.a ≠ t.b
  bd : BdOk t.lo t.hi
structure Sg where
  f : Nat
  t : Nat
  z : Int
  n : Nat
  s : Int
def sgD (s : Sg) : PyData := .tuple [.int s.f, .int s.t, pt s.z, .int s.n, .int s.s]
def stp1 (n : Nat) (t : Tl) : List Sg := match t.hi with
  | some h => [⟨t.a, t.b, h, n, 1⟩]
  | none => []
def stp2 (n : Nat) (t : Tl) : List Sg := match t.lo with
  | some l => [⟨t.b, t.a, -l, n, -1⟩]
  | none => []
def stepsN (ts : List Tl) (n : Nat) : List Sg := (List.range n).flatMap fun i => match ts[i]? with
  | some t => stp1 i t ++ stp2 i t
  | none => []
def stepsOf (ts : List Tl) : List Sg := stepsN ts ts.length
theorem stepsN_succ {ts : List Tl} {i : Nat} (h : i < ts.length) : stepsN ts (i + 1) = (stepsN ts i ++ stp1 i ts[i]) ++ stp2 i ts[i] := by
  unfold stepsN
  rw [List.range_succ, List.flatMap_append, List.append_assoc]
  congr 1
  simp [h]
theorem stp_len (n : Nat) (t : Tl) : (stp1 n t).length ≤ 1 ∧ (stp2 n t).length ≤ 1 := by
  unfold stp1 stp2
  constructor <;> split <;> simp
theorem stepsN_len (ts : List Tl) : ∀ n, n ≤ ts.length → (stepsN ts n).length ≤ 2 * n
  | 0, _ => by simp [stepsN]
  | n + 1, h => by
    rw [stepsN_succ (by omega)]
    have := stepsN_len ts n (by omega)
    have := stp_len n (ts[n]'(by omega))
    simp only [List.length_append]
    omega
def R_is_cn (ds : List PyData) (d : PyData) : Prop := ∃ a : Nat, ds = [.int a] ∧ a < 6 ∧ d = .bool true
def R_need_cn (ds : List PyData) (d : PyData) : Prop := ∃ a : Nat, ds = [.int a] ∧ a < 6 ∧ d = .none
def R_need_oc (ds : List PyData) (d : PyData) : Prop := ∃ a : Nat, ds = [.int a] ∧ 0 < a ∧ a < 6 ∧ d = .none
def R_are_bounds (ds : List PyData) (d : PyData) : Prop := ∃ lo hi, ds = [op lo, op hi] ∧ BdOk lo hi ∧ d = .bool true
def R_is_telling (ds : List PyData) (d : PyData) : Prop := ∃ t, ds = [tlD t] ∧ TlOk t ∧ d = .bool true
def R_are_tellings (ds : List PyData) (d : PyData) : Prop := ∃ ts : List Tl, ds = [.tuple (ts.map tlD)] ∧ ts.length ≤ 16 ∧ (∀ t ∈ ts, TlOk t) ∧ d = .bool true
def R_need_tellings (ds : List PyData) (d : PyData) : Prop := ∃ ts : List Tl, ds = [.tuple (ts.map tlD)] ∧ ts.length ≤ 16 ∧ (∀ t ∈ ts, TlOk t) ∧ d = .none
def R_steps_of (ds : List PyData) (d : PyData) : Prop := ∃ ts : List Tl, ds = [.tuple (ts.map tlD)] ∧ ts.length ≤ 16 ∧ d = .list ((stepsOf ts).map sgD)
section
variable {P : Program} {w : World} {K : PySem.W.Frag} {mg : Str → Option Value} {base : Heap}
theorem fo_is_cn (T : Tx K mg) (L : Fo P w K mg base 2 "is_from_to" [] (spD K R_is_from_to)) (G : Gf K mg "is_clock_number" s_is_clock_number []) : Fo P w K mg base 3 "is_clock_number" [] (spD K R_is_cn) := by
  refine fo_of G sc_is_clock_number (fun ds d h => by obtain ⟨a, rfl, _⟩ := h; rfl) (fun _ _ _ _ _ _ us hl => match us, hl with | [_], _ => rfl) ?_
  intro f cdv A outer s H vs Q E ds d hr E0 hR hQ
  obtain ⟨a, rfl, h1, rfl⟩ := hR
  exact s_ret (w_md0 H) (j_call L hr (jad_cons (jd_var 0 E0) (jad_cons j_int (jad_cons (j_sub (jg_int T.clocks) j_int) jad_nil))) ⟨_, _, _, rfl, by rw [decide_eq_true (by omega), decide_eq_true (by omega)] <;> rfl⟩) hQ
theorem fo_need_cn (L : Fo P w K mg base 3 "is_clock_number" [] (spD K R_is_cn)) (G : Gf K mg "need_clock_number" s_need_clock_number []) : Fo P w K mg base 4 "need_clock_number" [] (spD K R_need_cn) := by
  refine fo_of G sc_need_clock_number (fun ds d h => by obtain ⟨a, rfl, _⟩ := h; rfl) (fun _ _ _ _ _ _ us hl => match us, hl with | [_], _ => rfl) ?_
  intro f cdv A outer s H vs Q E ds d hr E0 hR hQ
  obtain ⟨a, rfl, h1, rfl⟩ := hR
  exact s_if0 (w_md0 H) (jt_not (jt_val (j_call L hr (jad_cons (jd_var 0 E0) jad_nil) ⟨a, rfl, h1, rfl⟩))) fun H1 w1 => s_nil (hQ _ H1 w1 .non)
theorem fo_need_oc (T : Tx K mg) (L : Fo P w K mg base 2 "is_from_to" [] (spD K R_is_from_to)) (G : Gf K mg "need_other_clock" s_need_other_clock []) : Fo P w K mg base 3 "need_other_clock" [] (spD K R_need_oc) := by
  refine fo_of G sc_need_other_clock (fun ds d h => by obtain ⟨a, rfl, _⟩ := h; rfl) (fun _ _ _ _ _ _ us hl => match us, hl with | [_], _ => rfl) ?_
  intro f cdv A outer s H vs Q E ds d hr E0 hR hQ
  obtain ⟨a, rfl, h0, h1, rfl⟩ := hR
  exact s_if0 (w_md0 H) (jt_not (jt_val (j_call L hr (jad_cons (jd_var 0 E0) (jad_cons j_int (jad_cons (j_sub (jg_int T.clocks) j_int) jad_nil))) ⟨_, _, _, rfl, by rw [decide_eq_true (by omega), decide_eq_true (by omega)] <;> rfl⟩))) fun H1 w1 => s_nil (hQ _ H1 w1 .non)
theorem fo_are_bounds (L : Fo P w K mg base 2 "is_part" [] (spD K R_is_part)) (Lb : Fo P w K mg base 1 "below" [] (spD K R_below)) (G : Gf K mg "are_bounds" s_are_bounds []) : Fo P w K mg base 3 "are_bounds" [] (spD K R_are_bounds) := by
  refine fo_of G sc_are_bounds (fun ds d h => by obtain ⟨a, b, rfl, _⟩ := h; rfl) (fun _ _ _ _ _ _ us hl => match us, hl with | [_, _], _ => rfl) ?_
  intro f cdv A outer s H vs Q E ds d hr E0 hR hQ
  obtain ⟨lo, hi, rfl, hb, rfl⟩ := hR
  have hor : (lo.isSome || hi.isSome) = true := by
    rcases hb.sm with h | h <;> rw [h] <;> simp
  cases lo with
  | none => exact s_if1 (w_md0 H) (jt_w (jw_or (jt_isN (jd_var 0 E0)) (u := true) fun q => by cases q)) fun H1 w1 => s_ret w1.rfl1 (j_or (j_call L hr (jad_cons (jd_var 0 (E0.mono (m := md0) w1)) jad_nil) ⟨none, rfl, rfl⟩) (fun _ => j_one (j_call L hr (jad_cons (jd_var 1 (E0.mono (m := md0) w1)) jad_nil) ⟨hi, rfl, rfl⟩)) hor) fun v H2 w2 r => hQ v H2 (w1.trans w2) r
  | some l =>
    cases hi with
    | none => exact s_if1 (w_md0 H) (jt_w (jw_or (t := false) (jt_isN (jd_var 0 E0)) fun q => jw_or1 (jt_isN (jd_var 1 E0)))) fun H1 w1 => s_ret w1.rfl1 (j_or (j_call L hr (jad_cons (jd_var 0 (E0.mono (m := md0) w1)) jad_nil) ⟨some l, rfl, rfl⟩) (fun _ => j_one (j_call L hr (jad_cons (jd_var 1 (E0.mono (m := md0) w1)) jad_nil) ⟨none, rfl, rfl⟩)) hor) fun v H2 w2 r => hQ v H2 (w1.trans w2) r
    | some h =>
      have E1 : En K [] H _ [some (.d (pt l)), some (.d (pt h))] := E0
      have hle := hb.le l h rfl rfl
      refine s_if0 (w_md0 H) (jt_w (jw_or (t := false) (jt_isN (jd_var 0 E1)) fun q => jw_or1 (jt_isN (jd_var 1 E1)))) fun H1 w1 => ?_
      have E2 := E1.mono (m := md0) w1
      exact s_ret w1.rfl1 (j_and (j_call L hr (jad_cons (jd_var 0 E2) jad_nil) ⟨some l, rfl, rfl⟩) fun _ => j_and (j_call L hr (jad_cons (jd_var 1 E2) jad_nil) ⟨some h, rfl, rfl⟩) fun _ => j_one (j_not (j_call Lb hr (jad_cons (jd_var 1 E2) (jad_cons (jd_var 0 E2) jad_nil)) ⟨_, _, rfl, rfl⟩) (by rw [decide_eq_false (by omega)] <;> rfl))) fun v H2 w2 r => hQ v H2 (w1.trans w2) r
theorem fo_is_telling (T : Tx K mg) (L : Fo P w K mg base 3 "is_clock_number" [] (spD K R_is_cn)) (Lb : Fo P w K mg base 3 "are_bounds" [] (spD K R_are_bounds)) (G : Gf K mg "is_telling" s_is_telling []) : Fo P w K mg base 4 "is_telling" [] (spD K R_is_telling) := by
  refine fo_of G sc_is_telling (fun ds d h => by obtain ⟨t, rfl, _⟩ := h; rfl) (fun _ _ _ _ _ _ us hl => match us, hl with | [_], _ => rfl) ?_
  intro f cdv A outer s H vs Q E ds d hr E0 hR hQ
  obtain ⟨⟨a, b, lo, hi⟩, rfl, ⟨h1, h2, h3, h4⟩, rfl⟩ := hR
  have E1 : En K [] H _ [some (.d (.tuple [.int a, .int b, op lo, op hi]))] := E0
  refine s_if0 (w_md0 H) (jt_w (jw_or (jt_not (jt_val (j_isi_tt T.isi T.tuple (jd_var 0 E1)))) fun _ => jw_or1 (jt_ne (j_lenT T.len (jd_var 0 E1)) j_int))) fun H1 w1 => ?_
  have E2 := E1.mono (m := md0) w1
  refine s_if0 w1.rfl1 (jt_w (jw_or (jt_not (jt_val (j_call L hr (jad_cons (j_ixT 0 (jd_var 0 E2) j_int) jad_nil) ⟨a, rfl, h1, rfl⟩))) fun _ => jw_or (jt_not (jt_val (j_call L hr (jad_cons (j_ixT 1 (jd_var 0 E2) j_int) jad_nil) ⟨b, rfl, h2, rfl⟩))) fun _ => jw_or1 (jt_eq (j_ixT 0 (jd_var 0 E2) j_int) (j_ixT 1 (jd_var 0 E2) j_int) (decide_eq_false (fun q => h3 (by show a = b; exact Int.ofNat.inj q)))))) fun H3 w3 => ?_
  have E3 := E2.mono (m := md0) w3
  exact s_ret w3.rfl1 (j_call Lb hr (jad_cons (j_ixT 2 (jd_var 0 E3) j_int) (jad_cons (j_ixT 3 (jd_var 0 E3) j_int) jad_nil)) ⟨lo, hi, rfl, h4, rfl⟩) fun v H2 w2 r => hQ v H2 ((w1.trans w3).trans w2) r
theorem fo_are_tellings (T : Tx K mg) (L : Fo P w K mg base 4 "is_telling" [] (spD K R_is_telling)) (G : Gf K mg "are_tellings" s_are_tellings []) : Fo P w K mg base 5 "are_tellings" [] (spD K R_are_tellings) := by
  refine fo_of G sc_are_tellings (fun ds d h => by obtain ⟨t, rfl, _⟩ := h; rfl) (fun _ _ _ _ _ _ us hl => match us, hl with | [_], _ => rfl) ?_
  intro f cdv A outer s H vs Q E ds d hr E0 hR hQ
  obtain ⟨ts, rfl, hl, ht, rfl⟩ := hR
  have E1 : En K [] H _ [some (.d (.tuple (ts.map tlD))), none] := E0
  refine s_ret (w_md0 H) (j_and (j_isi_tt T.isi T.tuple (jd_var 0 E1)) fun _ => j_and (t := true) (j_le (j_lenT T.len (jd_var 0 E1)) (jg_int T.mtell) (decide_eq_true (by rw [List.length_map]; omega))) fun _ => j_one (j_allF (g := fun _ => true) rfl T.all (j_comp [("one", 1)] E1 rfl sc_are_tellings.nd (blkOk_by (N := ["thing", "one"]) (sc := defScope s_are_tellings) (by decide +kernel)) (sr_tup (jd_var 0 E1)) (by rw [List.length_map]; omega) [1] (fun i => [some (.d (.tuple (ts.map tlD))), some (.d ((ts.map tlD).getD i .none))]) (by simp) (fun i hi s Hs C cl fp => gt_name 1 sc_are_tellings.nd) (fun _ => true) (fun i hi m' hm s Hs C cl fp σ' H' w' E' => jts_nil) (fun i => .bool true) (fun i hi _ m' hm s Hs C cl fp σ' H' w' E' => j_call L hr (jad_cons (jd_var 1 E') jad_nil) ?_)) fun i hi => rfl)) hQ
  have hi' : i < ts.length := by simpa using hi
  exact ⟨ts[i], by rw [getD_map tlD hi'], ht _ (List.getElem_mem hi'), rfl⟩
theorem fo_need_tellings (L : Fo P w K mg base 5 "are_tellings" [] (spD K R_are_tellings)) (G : Gf K mg "need_tellings" s_need_tellings []) : Fo P w K mg base 6 "need_tellings" [] (spD K R_need_tellings) := by
  refine fo_of G sc_need_tellings (fun ds d h => by obtain ⟨a, rfl, _⟩ := h; rfl) (fun _ _ _ _ _ _ us hl => match us, hl with | [_], _ => rfl) ?_
  intro f cdv A outer s H vs Q E ds d hr E0 hR hQ
  obtain ⟨ts, rfl, h1, h2, rfl⟩ := hR
  exact s_if0 (w_md0 H) (jt_not (jt_val (j_call L hr (jad_cons (jd_var 0 E0) jad_nil) ⟨ts, rfl, h1, h2, rfl⟩))) fun H1 w1 => s_nil (hQ _ H1 w1 .non)
theorem fo_steps_of (T : Tx K mg) (Lt : Fo P w K mg base 1 "turned" [] (spD K R_turned)) (G : Gf K mg "steps_of" s_steps_of []) : Fo P w K mg base 2 "steps_of" [] (spD K R_steps_of) := by
  refine fo_of G sc_steps_of (fun ds d h => by obtain ⟨a, rfl, _⟩ := h; rfl) (fun _ _ _ _ _ _ us hl => match us, hl with | [_], _ => rfl) ?_
  intro f cdv A outer s H vs Q E ds d hr E0 hR hQ
  obtain ⟨ts, rfl, hl, rfl⟩ := hR
  have E1 : En K [] H _ [some (.d (.tuple (ts.map tlD))), none, none, none, none, none, none] := E0
  refine s_newL 1 (w_md0 H) E1 (jl_lst jad_nil) rfl sc_steps_of.nd fun l σ1 H1 hn hM w1 w2 E2 L2' => ?_
  have lP : l ∉ (md0.add l).P := by intro q; cases q
  have lM : l ∈ (md0.add l).M := List.mem_cons_self ..
  refine s_for (m := md0.add l) (n := (ts.map tlD).length) w2 PassesOwn.never rfl (sr_enumT T.enumerate (jd_var 0 E2)) (fun H2 i σ' H' => Wm (md0.add l) H' H' ∧ Bs (md0.add l).M H2 H' ∧ En K (md0.add l).M H' σ' [some (.d (.tuple (ts.map tlD))), some (.v (.ref l)), none, none, none, none, none] ∧ Lo K (md0.add l).M H' l ((stepsN ts i).map sgD)) (fun H2 w3 => ⟨w3.rfl1, Bs.refl _ _, E2.mono w3, L2'.mono w3 lP⟩) (fun H2 i σ' H' _ h => h.2.1) (fun H2 i σ' H' H'' v w3 hi h k r => ?_) (fun H2 σ' H' w3 h => ?_)
  · obtain ⟨w4, b4, E4, L4⟩ := h
    have hi' : i < ts.length := by simpa using hi
    rw [getD_map tlD hi'] at r
    have w5 := w4.same k
    have r' : Dr K (md0.add l).M H'' v (.tuple [.int (i : Nat), .tuple [.int ts[i].a, .int ts[i].b, op ts[i].lo, op ts[i].hi]]) := r
    have hlen := stepsN_len ts i (by omega)
    refine (gt_tup rfl (gts_cons (gt_name 2 sc_steps_of.nd) (gts_cons (gt_tup rfl (gts_cons (gt_name 3 sc_steps_of.nd) (gts_cons (gt_name 4 sc_steps_of.nd) (gts_cons (gt_name 5 sc_steps_of.nd) (gts_cons (gt_name 6 sc_steps_of.nd) gts_nil))))) gts_nil))).run _ H'' σ' v _ (E4.mono w5) r' fun σ3 E5 _ _ => ?_
    have E6 : En K (md0.add l).M H'' σ3 [some (.d (.tuple (ts.map tlD))), some (.v (.ref l)), some (.d (.int i)), some (.d (.int ts[i].a)), some (.d (.int ts[i].b)), some (.d (op ts[i].lo)), some (.d (op ts[i].hi))] := E5
    have L6 := L4.mono w5 lP
    have b6 := b4.trans (Bs.same k)
    refine s_ifM (m := md0.add l) (t := ts[i].hi.isSome) (fun σ5 H5 => Wm (md0.add l) H5 H5 ∧ Bs (md0.add l).M H2 H5 ∧ En K (md0.add l).M H5 σ5 [some (.d (.tuple (ts.map tlD))), some (.v (.ref l)), some (.d (.int i)), some (.d (.int ts[i].a)), some (.d (.int ts[i].b)), some (.d (op ts[i].lo)), some (.d (op ts[i].hi))] ∧ Lo K (md0.add l).M H5 l ((stepsN ts i ++ stp1 i ts[i]).map sgD)) w5.rfl1 (jt_notN (jd_var 6 E6) (by cases ts[i].hi <;> rfl)) (fun q H7 w7 D' hD => ?_) (fun q H7 w7 => ?_) fun σ5 H5 ⟨w5, b5, E5, L5⟩ => ?_
    · obtain ⟨z, hz⟩ := Option.isSome_iff_exists.mp q
      have E7 := E6.mono w7
      refine s_app w7.rfl1 E7 lM lP (L6.mono w7 lP) (j_var 1 E7) (j_tup (jad_cons (jd_var 3 E7) (jad_cons (jd_var 4 E7) (jad_cons (jd_var 6 E7) (jad_cons (jd_var 2 E7) (jad_cons j_int jad_nil)))))) (by simp only [List.length_map]; omega) fun H8 w8 b8 E8 L8 _ => s_nil (hD _ _ ⟨w8, (b6.trans w7.bs).trans b8, E8, ?_⟩)
      have e8 : (stepsN ts i ++ stp1 i ts[i]).map sgD = (stepsN ts i).map sgD ++ [.tuple [.int ts[i].a, .int ts[i].b, op ts[i].hi, .int i, .int 1]] := by
        rw [List.map_append]
        unfold stp1
        rw [hz]
        rfl
      rw [e8]
      exact L8
    · have hz : ts[i].hi = none := by
        cases h : ts[i].hi with
        | none => rfl
        | some z => rw [h] at q; cases q
      have e8 : stepsN ts i ++ stp1 i ts[i] = stepsN ts i := by
        unfold stp1
        rw [hz]
        simp
      rw [e8]
      exact ⟨w7.rfl1, b6.trans w7.bs, E6.mono w7, L6.mono w7 lP⟩
    refine s_if (t := ts[i].lo.isSome) w5 (jt_notN (jd_var 5 E5) (by cases ts[i].lo <;> rfl)) (fun q H7 w7 => ?_) fun q H7 w7 => ?_
    · obtain ⟨z, hz⟩ := Option.isSome_iff_exists.mp q
      have E7 := E5.mono w7
      have e7 : (op ts[i].lo) = pt z := by rw [hz] <;> rfl
      rw [e7] at E7
      refine s_app w7.rfl1 E7 lM lP (L5.mono w7 lP) (j_var 1 E7) (j_tup (jad_cons (jd_var 4 E7) (jad_cons (jd_var 3 E7) (jad_cons (j_call Lt hr (jad_cons (jd_var 5 E7) jad_nil) ⟨z, rfl, rfl⟩) (jad_cons (jd_var 2 E7) (jad_cons (j_neg j_int) jad_nil)))))) (by have := stp_len i ts[i]; simp only [List.length_map, List.length_append]; omega) fun H8 w8 b8 E8 L8 _ => s_nil (s_nil ⟨w8, (b5.trans w7.bs).trans b8, ((((E8.forget 2).forget 3).forget 4).forget 5).forget 6, ?_⟩)
      have e8 : (stepsN ts (i + 1)).map sgD = (stepsN ts i ++ stp1 i ts[i]).map sgD ++ [.tuple [.int ts[i].b, .int ts[i].a, pt (-z), .int i, .int (-1)]] := by
        rw [stepsN_succ hi', List.map_append]
        unfold stp2
        rw [hz]
        rfl
      rw [e8]
      exact L8
    · have hz : ts[i].lo = none := by
        cases h : ts[i].lo with
        | none => rfl
        | some z => rw [h] at q; cases q
      have e8 : stepsN ts (i + 1) = stepsN ts i ++ stp1 i ts[i] := by
        rw [stepsN_succ hi']
        unfold stp2
        rw [hz]
        simp
      have L7 := L5.mono w7 lP
      rw [← e8] at L7
      exact s_nil (s_nil ⟨w7.rfl1, b5.trans w7.bs, (((((E5.mono w7).forget 2).forget 3).forget 4).forget 5).forget 6, L7⟩)
  · obtain ⟨w4, b4, E4, L4⟩ := h
    rw [List.length_map] at L4
    refine s_ret w4 (j_var 1 E4) fun v H5 w5 r => ?_
    have e1 : v = V.ref l := r
    subst e1
    obtain ⟨vs5, g1, g2⟩ := L4.mono w5 lP
    exact hQ _ H5 (fin_w (m0 := md0) (m := md0.add l) rfl rfl w5.rfl1 (((w1.bs.less (M := (md0.add l).M) (fun a ha q => by cases q)).trans w3.bs).trans (b4.trans w5.bs)) fun a ha q => by
      rcases List.mem_cons.mp q with e | e
      · rw [e] at ha
        exact absurd hn ha
      · exact e) (.lst g1 (by intro q; cases q) g2.to0)
end
end Gc
namespace Gc
open PySem PySem.Spec PyProof.Rows L2
/-! ## shortest ways -/
abbrev Fd := List (Option (Int × List PyData))
def stepW (s : Sg) : PyData := .tuple [.int s.n, .int s.s]
def fdE : Option (Int × List PyData) → PyData
  | none => .none
  | some (z, w) => .tuple [pt z, .tuple w]
def nrD : Option Nat → PyData
  | none => .none
  | some n => .int n
def better (f : Fd) (s : Sg) (z : Int) : Bool := match f.getD s.t none with
  | none => true
  | some (y, _) => decide (z + s.z < y)
def relax (p : Fd × Option Nat) (s : Sg) : Fd × Option Nat :=
  match p.1.getD s.f none with
  | none => p
  | some (z, w) => if better p.1 s z then (p.1.set s.t (some (z + s.z, w ++ [stepW s])), some s.t) else p
def round (ss : List Sg) (f : Fd) : Fd × Option Nat := ss.foldl relax (f, none)
def start (b : Nat) : Fd := (List.replicate 6 none).set b (some (0, []))
def rounds (ss : List Sg) (b : Nat) : Nat → Fd × Option Nat
  | 0 => (start b, none)
  | k + 1 => round ss (rounds ss b k).1
def shortF (ts : List Tl) (b : Nat) : Fd × Option Nat := rounds (stepsOf ts) b 6
structure FdOk (f : Fd) (k : Nat) : Prop where
  len : f.length = 6
  ways : ∀ z w, some (z, w) ∈ f → w.length ≤ k
def SgOk (s : Sg) : Prop := s.f < 6 ∧ s.t < 6
theorem FdOk.get {f : Fd} {k i : Nat} {z : Int} {w : List PyData} (h : FdOk f k) (e : f.getD i none = some (z, w)) : w.length ≤ k := by
  refine h.ways z w ?_
  unfold List.getD at e
  cases h2 : f[i]? with
  | none => rw [h2] at e; cases e
  | some x =>
    rw [h2] at e
    have e' : x = some (z, w) := e
    rw [e'] at h2
    exact List.mem_of_getElem? h2
theorem FdOk.up {f : Fd} {k j : Nat} (h : FdOk f k) (hj : k ≤ j) : FdOk f j := ⟨h.len, fun z w e => Nat.le_trans (h.ways z w e) hj⟩
theorem FdOk.set {f : Fd} {k i : Nat} {z : Int} {w : List PyData} (h : FdOk f k) (hw : w.length ≤ k) : FdOk (f.set i (some (z, w))) k := ⟨by rw [List.length_set]; exact h.len, fun z' w' e => by
  rcases List.mem_or_eq_of_mem_set e with e | e
  · exact h.ways z' w' e
  · cases e
    exact hw⟩
theorem FdOk.relax {p : Fd × Option Nat} {k : Nat} {s : Sg} (h : FdOk p.1 k) : FdOk (relax p s).1 (k + 1) := by
  unfold Gc.relax
  split
  · exact h.up (by omega)
  · rename_i z w e
    have hw := h.get e
    split
    · exact (h.up (Nat.le_succ k)).set (by rw [List.length_append, List.length_singleton]; omega)
    · exact h.up (by omega)
theorem FdOk.fold {ss : List Sg} : ∀ {p : Fd × Option Nat} {k : Nat}, FdOk p.1 k → FdOk (ss.foldl Gc.relax p).1 (k + ss.length) := by
  induction ss with
  | nil => exact fun h => h
  | cons s ss ih =>
    intro p k h
    have := ih (h.relax (s := s))
    rw [List.foldl_cons, List.length_cons]
    exact this.up (by omega)
theorem start_ok (b : Nat) : FdOk (start b) 0 := by
  refine ⟨by unfold start; simp, fun z w e => ?_⟩
  rcases List.mem_or_eq_of_mem_set e with e | e
  · have := List.eq_of_mem_replicate e
    cases this
  · cases e
    simp
theorem rounds_ok (ss : List Sg) (b : Nat) : ∀ k, FdOk (rounds ss b k).1 (k * ss.length)
  | 0 => by rw [Nat.zero_mul]; exact start_ok b
  | k + 1 => by
    have := (rounds_ok ss b k).fold (ss := ss) (p := ((rounds ss b k).1, none))
    rw [Nat.succ_mul]
    exact this
theorem fd_at {f : Fd} {k i : Nat} (h : FdOk f k) (hi : i < 6) : (f.map fdE)[i]? = some (fdE (f.getD i none)) := by
  have hl := h.len
  have h2 : i < f.length := by omega
  simp [List.getD, h2]
theorem fold_take {α β : Type} (g : β → α → β) (p : β) {xs : List α} {i : Nat} (h : i < xs.length) : (xs.take (i + 1)).foldl g p = g ((xs.take i).foldl g p) xs[i] := by
  rw [List.take_succ_eq_append_getElem h, List.foldl_append]
  rfl
theorem IrA.len {K : PySem.W.Frag} {M : List Addr} {H : Hp} : ∀ {its : List Item} {vs : List V}, IrA K M H vs its → vs.length = its.length
  | [], _, h => by cases h; rfl
  | _ :: _, _, h => by
    cases h with
    | cons h r => exact congrArg Nat.succ r.len
/-- return (e, ..): what stands in it as it is -/
theorem s_retT {m : Md} {X : Cx} {σ : L2.St} {H : Hp} {es : List Expr} {rest : List Stmt} {kk : Nat} {p pos : Pos} {its : List Item} {D : Ends} (w : Wm m H H) (ja : JA m X σ H es its) (hl : its.length ≤ 1000) (k : ∀ vs pp H1, Wm m H H1 → IrA X.K m.M H1 vs its → H1 pp = none → D.rt (.ref pp) (upd H1 pp (.tup vs))) : cSs X (.Return (some (.Tuple es kk p)) pos :: rest) D σ H :=
  of_ps (ps_ret (pe_tup pa_c)) (ja H w _ fun us H7 w7 r => ⟨by rw [r.len]; exact Nat.le_of_lt (small1000 hl), fun pp hp => k us pp H7 w7 r hp⟩)
def R_shortest (ds : List PyData) (d : PyData) : Prop := ∃ (ss : List Sg) (b : Nat), ds = [.list (ss.map sgD), .int b] ∧ (∀ s ∈ ss, SgOk s) ∧ b < 6 ∧ ss.length ≤ 100 ∧ d = .tuple [.list ((rounds ss b 6).1.map fdE), nrD (rounds ss b 6).2]
section
variable {P : Program} {w : World} {K : PySem.W.Frag} {mg : Str → Option Value} {base : Heap}
theorem fo_shortest (T : Tx K mg) (Lp : Fo P w K mg base 3 "plus" [] (spD K R_plus)) (Lb : Fo P w K mg base 1 "below" [] (spD K R_below)) (G : Gf K mg "shortest" s_shortest []) : Fo P w K mg base 4 "shortest" [] (spD K R_shortest) := by
  refine fo_of G sc_shortest (fun ds d h => by obtain ⟨ss, b, rfl, _⟩ := h; rfl) (fun _ _ _ _ _ _ us hl => match us, hl with | [_, _], _ => rfl) ?_
  intro f cdv A outer s H vs Q E ds d hr E0 hR hQ
  obtain ⟨ss, b, rfl, hss, hb, hz, rfl⟩ := hR
  have E1 : En K [] H _ [some (.d (.list (ss.map sgD))), some (.d (.int b)), none, none, none, none, none, none, none, none, none] := E0
  refine s_newL 2 (w_md0 H) E1 (jl_rep (n := 6) (j_lst (jad_cons j_non jad_nil)) (jg_int T.clocks) (by decide) (by decide)) (by decide) sc_shortest.nd fun l σ1 H1 hn hM w1 w2 E2 L2' => ?_
  have lP : l ∉ (md0.add l).P := by intro q; cases q
  have lM : l ∈ (md0.add l).M := List.mem_cons_self ..
  have E2' : En K (md0.add l).M H1 σ1 [some (.d (.list (ss.map sgD))), some (.d (.int b)), some (.v (.ref l)), none, none, none, none, none, none, none, none] := E2
  refine s_setL w2 E2' lM lP L2' (j_var 2 E2') (jd_var 1 E2') (j_tup (jad_cons (jg_nought T.nought) (jad_cons (j_tup jad_nil) jad_nil))) (by simpa using hb) fun H3 w3 b3 E3 L3 _ => ?_
  have L3' : Lo K (md0.add l).M H3 l ((start b).map fdE) := by
    have e : (start b).map fdE = (List.replicate 6 [PyData.none]).flatten.set b (.tuple [pt 0, .tuple []]) := by
      unfold start
      rw [List.map_set, List.map_replicate]
      rfl
    rw [e]
    exact L3
  refine s_asg 3 w3 E3 j_non sc_shortest.nd fun σ4 H4 w4 E4 => ?_
  have L4 := L3'.mono w4 lP
  refine s_for (m := md0.add l) (n := ((6 : Int)).toNat) w4.rfl1 PassesOwn.never rfl (sr_range T.range (jg_int T.clocks) (by decide)) (fun H2 i σ' H' => Wm (md0.add l) H' H' ∧ Bs (md0.add l).M H2 H' ∧ En K (md0.add l).M H' σ' [some (.d (.list (ss.map sgD))), some (.d (.int b)), some (.v (.ref l)), some (.d (nrD (rounds ss b i).2)), none, none, none, none, none, none, none] ∧ Lo K (md0.add l).M H' l ((rounds ss b i).1.map fdE)) (fun H2 w5 => ⟨w5.rfl1, Bs.refl _ _, E4.mono w5, L4.mono w5 lP⟩) (fun H2 i σ' H' _ h => h.2.1) (fun H2 i σ' H' H'' v w5 hi h k r => ?_) (fun H2 σ' H' w5 h => ?_)
  · obtain ⟨w6, b6, E6, L6⟩ := h
    have w7 := w6.same k
    refine (gt_name 4 sc_shortest.nd).run _ H'' σ' v _ (E6.mono w7) r fun σ3 E7 _ _ => ?_
    refine s_asg 3 w7.rfl1 E7 j_non sc_shortest.nd fun σ8 H8 w8 E8 => ?_
    have L8 := (L6.mono w7 lP).mono w8 lP
    have E8' : En K (md0.add l).M H8 σ8 [some (.d (.list (ss.map sgD))), some (.d (.int b)), some (.v (.ref l)), some (.d .none), some (.d (.int i)), none, none, none, none, none, none] := E8
    have rok := rounds_ok ss b i
    have b8 : Bs (md0.add l).M H2 H8 := (b6.trans (Bs.same k)).trans w8.bs
    refine s_for (m := md0.add l) (n := (ss.map sgD).length) w8.rfl1 PassesOwn.never rfl (sr_list (jd_var 0 E8')) (fun H2 j σ' H' => Wm (md0.add l) H' H' ∧ Bs (md0.add l).M H2 H' ∧ En K (md0.add l).M H' σ' [some (.d (.list (ss.map sgD))), some (.d (.int b)), some (.v (.ref l)), some (.d (nrD ((ss.take j).foldl relax ((rounds ss b i).1, none)).2)), some (.d (.int i)), none, none, none, none, none, none] ∧ Lo K (md0.add l).M H' l (((ss.take j).foldl relax ((rounds ss b i).1, none)).1.map fdE)) (fun H2 w9 => ⟨w9.rfl1, Bs.refl _ _, E8'.mono w9, L8.mono w9 lP⟩) (fun H2 i σ' H' _ h => h.2.1) (fun H9 j σ' H' H'' v w9 hj h k r => ?_) (fun H9 σ' H' w9 h => ?_)
    · obtain ⟨w10, b10, E10, L10⟩ := h
      have hj' : j < ss.length := by simpa using hj
      have rok2 : FdOk ((ss.take j).foldl relax ((rounds ss b i).1, none)).1 (i * ss.length + (ss.take j).length) := FdOk.fold (p := ((rounds ss b i).1, none)) rok
      have hi6 : i < 6 := by simpa using hi
      have small : i * ss.length + (ss.take j).length ≤ 600 := by
        have h1 : i * ss.length ≤ 5 * 100 := Nat.mul_le_mul (by omega) hz
        have h2 : (ss.take j).length ≤ 100 := by rw [List.length_take]; omega
        omega
      rw [getD_map sgD hj'] at r
      obtain ⟨hs1, hs2⟩ := hss _ (List.getElem_mem hj')
      rw [fold_take relax _ hj']
      generalize (ss.take j).foldl relax ((rounds ss b i).1, none) = p at E10 L10 rok2 ⊢
      generalize ss[j] = sg at r hs1 hs2 ⊢
      generalize i * ss.length + (ss.take j).length = kk at rok2 small
      have r' : Dr K (md0.add l).M H'' v (.tuple [.int sg.f, .int sg.t, pt sg.z, .int sg.n, .int sg.s]) := r
      have w11 := w10.same k
      refine (gt_tup rfl (gts_cons (gt_name 5 sc_shortest.nd) (gts_cons (gt_name 6 sc_shortest.nd) (gts_cons (gt_name 7 sc_shortest.nd) (gts_cons (gt_name 8 sc_shortest.nd) (gts_cons (gt_name 9 sc_shortest.nd) gts_nil)))))).run _ H'' σ' v _ (E10.mono w11) r' fun σ3 E11 _ _ => ?_
      have E12 : En K (md0.add l).M H'' σ3 [some (.d (.list (ss.map sgD))), some (.d (.int b)), some (.v (.ref l)), some (.d (nrD p.2)), some (.d (.int i)), some (.d (.int sg.f)), some (.d (.int sg.t)), some (.d (pt sg.z)), some (.d (.int sg.n)), some (.d (.int sg.s)), none] := E11
      have L12 := L10.mono w11 lP
      have b12 := b10.trans (Bs.same k)
      have out : ∀ {σ5 H5}, Wm (md0.add l) H5 H5 → Bs (md0.add l).M H'' H5 → ∀ q x5, En K (md0.add l).M H5 σ5 [some (.d (.list (ss.map sgD))), some (.d (.int b)), some (.v (.ref l)), some (.d (nrD q.2)), some (.d (.int i)), some (.d (.int sg.f)), some (.d (.int sg.t)), some (.d (pt sg.z)), some (.d (.int sg.n)), some (.d (.int sg.s)), x5] → Lo K (md0.add l).M H5 l (q.1.map fdE) → relax p sg = q → Wm (md0.add l) H5 H5 ∧ Bs (md0.add l).M H9 H5 ∧ En K (md0.add l).M H5 σ5 [some (.d (.list (ss.map sgD))), some (.d (.int b)), some (.v (.ref l)), some (.d (nrD (relax p sg).2)), some (.d (.int i)), none, none, none, none, none, none] ∧ Lo K (md0.add l).M H5 l ((relax p sg).1.map fdE) := fun w5 b5 q x5 E5 L5 e => by
        rw [e]
        exact ⟨w5, b12.trans b5, (((((E5.forget 5).forget 6).forget 7).forget 8).forget 9).forget 10, L5⟩
      cases ef : p.1.getD sg.f none with
      | none =>
        have hd := fd_at rok2 hs1
        rw [ef] at hd
        have er : relax p sg = p := by
          unfold relax
          rw [ef]
        refine s_if0 w11.rfl1 (jt_notN (j_ixO sg.f lP L12 (j_var 2 E12) (jd_var 5 E12) hd)) fun H13 w13 => s_nil (out w13.rfl1 w13.bs p _ (E12.mono w13) (L12.mono w13 lP) er)
      | some zw =>
        obtain ⟨z, wy⟩ := zw
        have hd : (p.1.map fdE)[sg.f]? = some (.tuple [pt z, .tuple wy]) := by
          rw [fd_at rok2 hs1, ef] <;> rfl
        have hwy := rok2.get ef
        refine s_if1 w11.rfl1 (jt_notN (j_ixO sg.f lP L12 (j_var 2 E12) (jd_var 5 E12) hd)) fun H13 w13 => ?_
        have E13 := E12.mono w13
        have L13 := L12.mono w13 lP
        refine s_asg 10 w13.rfl1 E13 (j_call Lp hr (jad_cons (j_ixT 0 (j_ixO sg.f lP L13 (j_var 2 E13) (jd_var 5 E13) hd) j_int) (jad_cons (jd_var 7 E13) jad_nil)) ⟨z, sg.z, rfl, rfl⟩) sc_shortest.nd fun σ14 H14 w14 E14 => ?_
        have L14 := L13.mono w14 lP
        have E14' : En K (md0.add l).M H14 σ14 [some (.d (.list (ss.map sgD))), some (.d (.int b)), some (.v (.ref l)), some (.d (nrD p.2)), some (.d (.int i)), some (.d (.int sg.f)), some (.d (.int sg.t)), some (.d (pt sg.z)), some (.d (.int sg.n)), some (.d (.int sg.s)), some (.d (pt (z + sg.z)))] := E14
        have b14 := w13.bs.trans w14.bs
        have hdt := fd_at rok2 hs2
        refine s_if (t := better p.1 sg z) w14.rfl1 ?_ (fun q H15 w15 => ?_) fun q H15 w15 => ?_
        · refine jt_w (jw_or (t := (p.1.getD sg.t none).isNone) (jt_isN (j_ixO sg.t lP L14 (j_var 2 E14') (jd_var 6 E14') hdt) (by cases p.1.getD sg.t none <;> rfl)) (u := better p.1 sg z) (fun q => jw_or1 (jt_is ?_ rfl)) (by unfold better; cases p.1.getD sg.t none <;> rfl))
          cases et : p.1.getD sg.t none with
          | none => rw [et] at q; cases q
          | some yw =>
            obtain ⟨y, w2⟩ := yw
            have hd2 : (p.1.map fdE)[sg.t]? = some (.tuple [pt y, .tuple w2]) := by
              rw [hdt, et] <;> rfl
            have eb : better p.1 sg z = decide (z + sg.z < y) := by
              unfold better
              rw [et]
            rw [eb]
            exact jt_val (j_call Lb hr (jad_cons (jd_var 10 E14') (jad_cons (j_ixT 0 (j_ixO sg.t lP L14 (j_var 2 E14') (jd_var 6 E14') hd2) j_int) jad_nil)) ⟨_, _, rfl, rfl⟩)
        · have E15 := E14'.mono w15
          have L15 := L14.mono w15 lP
          have er : relax p sg = (p.1.set sg.t (some (z + sg.z, wy ++ [stepW sg])), some sg.t) := by
            unfold relax
            rw [ef]
            show (if better p.1 sg z then _ else _) = _
            rw [if_pos q]
          refine s_setL w15.rfl1 E15 lM lP L15 (j_var 2 E15) (jd_var 6 E15) (j_tup (jad_cons (jd_var 10 E15) (jad_cons (j_catT (ds := wy) (ds2 := [stepW sg]) (j_ixT 1 (j_ixO sg.f lP L15 (j_var 2 E15) (jd_var 5 E15) hd) j_int) (j_tup (jad_cons (j_tup (jad_cons (jd_var 8 E15) (jad_cons (jd_var 9 E15) jad_nil))) jad_nil)) (by rw [List.length_singleton]; omega)) jad_nil))) (by rw [List.length_map, rok2.len]; exact hs2) fun H16 w16 b16 E16 L16 _ => ?_
          refine s_asg 3 w16 E16 (jd_var 6 E16) sc_shortest.nd fun σ17 H17 w17 E17 => s_nil (s_nil (s_nil (out w17.rfl1 ((b14.trans w15.bs).trans (b16.trans w17.bs)) _ _ E17 ?_ er)))
          have L17 := L16.mono w17 lP
          have e : ((p.1.set sg.t (some (z + sg.z, wy ++ [stepW sg])), some sg.t) : Fd × Option Nat).1.map fdE = (p.1.map fdE).set sg.t (.tuple [pt (z + sg.z), .tuple (wy ++ [stepW sg])]) := by
            rw [List.map_set]
            rfl
          rw [e]
          exact L17
        · have er : relax p sg = p := by
            unfold relax
            rw [ef]
            show (if better p.1 sg z then _ else _) = _
            rw [if_neg (by rw [q]; simp)]
          exact s_nil (s_nil (s_nil (out w15.rfl1 (b14.trans w15.bs) _ _ (E14'.mono w15) (L14.mono w15 lP) er)))
    · obtain ⟨w10, b10, E10, L10⟩ := h
      have e : (ss.take (ss.map sgD).length) = ss := List.take_of_length_le (by simp)
      rw [e] at E10 L10
      exact s_nil ⟨w10, (b8.trans w9.bs).trans b10, E10.forget 4, L10⟩
  · obtain ⟨w6, b6, E6, L6⟩ := h
    have bH : Bs (md0.add l).M H H' := ((((w1.bs.less (M := (md0.add l).M) (fun a ha q => by cases q)).trans b3).trans w4.bs).trans w5.bs).trans b6
    refine s_retT w6 (ja_cons (j_var 2 E6) (ja_cons (jd_var 3 E6) ja_nil)) (by simp) fun us pp H7 w7 r hp => ?_
    · obtain ⟨v, u, rfl, r1, r2⟩ := r.two
      have e1 : v = V.ref l := r1
      subst e1
      obtain ⟨vs5, g1, g2⟩ := L6.mono w7 lP
      have w8 : Wm (md0.add l) H7 (upd H7 pp (.tup [.ref l, u])) := w7.rfl1.new hp
      have g1' : (upd H7 pp (.tup [.ref l, u])) l = some (.lst vs5) := (Same.new hp) _ _ g1
      refine hQ _ _ (fin_w (m0 := md0) (m := md0.add l) rfl rfl (w7.rfl1.new hp).rfl1 ((bH.trans w7.bs).trans (Bs.same (Same.new hp))) fun a ha q => ?_) (.tup upd_same (.cons (.lst g1' (by intro q; cases q) (DrA.mono w8 _ _ g2).to0) (.cons ?_ .nil)))
      · rcases List.mem_cons.mp q with e | e
        · rw [e] at ha
          exact absurd hn ha
        · exact e
      · exact Dr.sub (Same.refl _) (fun _ _ q => by cases q) _ _ (Dr.mono w8 _ _ r2)
end
theorem stp_ok {t : Tl} (h : TlOk t) (n : Nat) : (∀ s ∈ stp1 n t, SgOk s) ∧ (∀ s ∈ stp2 n t, SgOk s) := by
  unfold stp1 stp2
  constructor
  · split
    · intro s hs
      have e := List.mem_singleton.mp hs
      subst e
      exact ⟨h.a, h.b⟩
    · intro s hs
      cases hs
  · split
    · intro s hs
      have e := List.mem_singleton.mp hs
      subst e
      exact ⟨h.b, h.a⟩
    · intro s hs
      cases hs
theorem stepsN_ok {ts : List Tl} (h : ∀ t ∈ ts, TlOk t) : ∀ n, n ≤ ts.length → ∀ s ∈ stepsN ts n, SgOk s
  | 0, _ => by simp [stepsN]
  | n + 1, hn => by
    rw [stepsN_succ (by omega)]
    intro s hs
    have ht := h _ (List.getElem_mem (show n < ts.length by omega))
    rcases List.mem_append.mp hs with hs | hs
    · rcases List.mem_append.mp hs with hs | hs
      · exact stepsN_ok h n (by omega) s hs
      · exact (stp_ok ht n).1 s hs
    · exact (stp_ok ht n).2 s hs
theorem stepsOf_ok {ts : List Tl} (h : ∀ t ∈ ts, TlOk t) (hl : ts.length ≤ 16) : (∀ s ∈ stepsOf ts, SgOk s) ∧ (stepsOf ts).length ≤ 100 := ⟨stepsN_ok h _ (Nat.le_refl _), by
  have := stepsN_len ts ts.length (Nat.le_refl _)
  unfold stepsOf
  omega⟩
/-- no ring -/
def NoRing (ts : List Tl) : Prop := ∀ b, b < 6 → (shortF ts b).2 = none
def farD (ts : List Tl) (c o : Nat) : Option Int := ((shortF ts o).1.getD c none).map (·.1)
def TsOk (ts : List Tl) : Prop := ts.length ≤ 16 ∧ ∀ t ∈ ts, TlOk t
def tsD (ts : List Tl) : PyData := .tuple (ts.map tlD)
def R_ring_in (ds : List PyData) (d : PyData) : Prop := ∃ ts, ds = [tsD ts] ∧ TsOk ts ∧ NoRing ts ∧ d = .none
def R_together (ds : List PyData) (d : PyData) : Prop := ∃ ts, ds = [tsD ts] ∧ TsOk ts ∧ NoRing ts ∧ d = .bool true
def R_far (ds : List PyData) (d : PyData) : Prop := ∃ ts, ∃ c o : Nat, ds = [tsD ts, .int c, .int o] ∧ TsOk ts ∧ c < 6 ∧ o < 6 ∧ d = op (farD ts c o)
def stD (lo hi : Option Int) : PyData := .tuple [op lo, op hi]
def R_stretch_by (ds : List PyData) (d : PyData) : Prop := ∃ ts, ∃ c o : Nat, ds = [tsD ts, .int c, .int o] ∧ TsOk ts ∧ c < 6 ∧ o < 6 ∧ d = stD ((farD ts o c).map (- ·)) (farD ts c o)
def R_stretch_of (ds : List PyData) (d : PyData) : Prop := ∃ ts, ∃ c o : Nat, ds = [tsD ts, .int c, .int o] ∧ TsOk ts ∧ NoRing ts ∧ c < 6 ∧ o < 6 ∧ d = stD ((farD ts o c).map (- ·)) (farD ts c o)
section
variable {P : Program} {w : World} {K : PySem.W.Frag} {mg : Str → Option Value} {base : Heap}
theorem fo_ring_in (T : Tx K mg) (Ls : Fo P w K mg base 2 "steps_of" [] (spD K R_steps_of)) (Lh : Fo P w K mg base 4 "shortest" [] (spD K R_shortest)) (G : Gf K mg "ring_in" s_ring_in []) : Fo P w K mg base 5 "ring_in" [] (spD K R_ring_in) := by
  refine fo_of G sc_ring_in (fun ds d h => by obtain ⟨ss, rfl, _⟩ := h; rfl) (fun _ _ _ _ _ _ us hl => match us, hl with | [_], _ => rfl) ?_
  intro f cdv A outer s H vs Q E ds d hr E0 hR hQ
  obtain ⟨ts, rfl, ⟨hl, hts⟩, hno, rfl⟩ := hR
  have E1 : En K [] H _ [some (.d (tsD ts)), none, none, none, none] := E0
  obtain ⟨hs1, hs2⟩ := stepsOf_ok hts hl
  refine s_asg 1 (w_md0 H) E1 (j_call0 Ls hr rfl (jad_cons (jd_var 0 E1) jad_nil) ⟨ts, rfl, hl, rfl⟩) sc_ring_in.nd fun σ1 H1 w1 E2 => ?_
  refine s_for (n := ((6 : Int)).toNat) w1.rfl1 PassesOwn.never rfl (sr_range T.range (jg_int T.clocks) (by decide)) (fun H2 i σ' H' => Wm md0 H2 H' ∧ En K [] H' σ' [some (.d (tsD ts)), some (.d (.list ((stepsOf ts).map sgD))), none, none, none]) (fun H2 w2 => ⟨w2.rfl1, E2.mono (m := md0) w2⟩) (fun H2 i σ' H' _ h => h.1.bs) (fun H2 i σ' H' H'' v w2 hi h k r => ?_) (fun H2 σ' H' w2 h => ?_)
  · obtain ⟨w3, E3⟩ := h
    have hi6 : i < 6 := by simpa using hi
    have w4 := w3.rfl1.same k
    refine (gt_name 2 sc_ring_in.nd).run [] H'' σ' v _ (E3.mono (m := md0) w4) r fun σ3 E4 _ _ => ?_
    refine s_unp (w_md0 H'') E4 (j_call0 Lh hr rfl (jad_cons (jd_var 1 E4) (jad_cons (jd_var 2 E4) jad_nil)) ⟨stepsOf ts, i, rfl, hs1, hi6, hs2, rfl⟩) (gt_tup rfl (gts_cons (gt_name 3 sc_ring_in.nd) (gts_cons (gt_name 4 sc_ring_in.nd) gts_nil))) fun σ5 H5 w5 E5 => ?_
    have e := hno i hi6
    have E5' : En K [] H5 σ5 [some (.d (tsD ts)), some (.d (.list ((stepsOf ts).map sgD))), some (.d (.int i)), some (.d (.list ((rounds (stepsOf ts) i 6).1.map fdE))), some (.d (nrD (shortF ts i).2))] := E5
    rw [e] at E5'
    exact s_if0 w5.rfl1 (jt_notN (jd_var 4 E5')) fun H6 w6 => s_nil ⟨((w3.trans w4).trans w5).trans w6, (((E5'.mono (m := md0) w6).forget 2).forget 3).forget 4⟩
  · obtain ⟨w3, E3⟩ := h
    exact s_ret w3.rfl1 j_non fun v H4 w4 r => hQ v H4 (((w1.trans w2).trans w3).trans w4) r
theorem fo_together (L : Fo P w K mg base 5 "ring_in" [] (spD K R_ring_in)) (G : Gf K mg "together" s_together []) : Fo P w K mg base 6 "together" [] (spD K R_together) := by
  refine fo_of G sc_together (fun ds d h => by obtain ⟨ss, rfl, _⟩ := h; rfl) (fun _ _ _ _ _ _ us hl => match us, hl with | [_], _ => rfl) ?_
  intro f cdv A outer s H vs Q E ds d hr E0 hR hQ
  obtain ⟨ts, rfl, h1, h2, rfl⟩ := hR
  exact s_ret (w_md0 H) (j_isN (j_call L hr (jad_cons (jd_var 0 E0) jad_nil) ⟨ts, rfl, h1, h2, rfl⟩)) hQ
theorem fo_agree (Ln : Fo P w K mg base 6 "need_tellings" [] (spD K R_need_tellings)) (L : Fo P w K mg base 6 "together" [] (spD K R_together)) (G : Gf K mg "agree" s_agree []) : Fo P w K mg base 7 "agree" [] (spD K R_together) := by
  refine fo_of G sc_agree (fun ds d h => by obtain ⟨ss, rfl, _⟩ := h; rfl) (fun _ _ _ _ _ _ us hl => match us, hl with | [_], _ => rfl) ?_
  intro f cdv A outer s H vs Q E ds d hr E0 hR hQ
  obtain ⟨ts, rfl, h1, h2, rfl⟩ := hR
  refine s_expr (w_md0 H) (j_call Ln hr (jad_cons (jd_var 0 E0) jad_nil) ⟨ts, rfl, h1.1, h1.2, rfl⟩) fun H1 w1 => ?_
  exact s_ret w1.rfl1 (j_call L hr (jad_cons (jd_var 0 (E0.mono (m := md0) w1)) jad_nil) ⟨ts, rfl, h1, h2, rfl⟩) fun v H2 w2 r => hQ v H2 (w1.trans w2) r
def R_need_together (ds : List PyData) (d : PyData) : Prop := ∃ ts, ds = [tsD ts] ∧ TsOk ts ∧ NoRing ts ∧ d = .none
theorem fo_need_together (L : Fo P w K mg base 6 "together" [] (spD K R_together)) (G : Gf K mg "need_together" s_need_together []) : Fo P w K mg base 7 "need_together" [] (spD K R_need_together) := by
  refine fo_of G sc_need_together (fun ds d h => by obtain ⟨ss, rfl, _⟩ := h; rfl) (fun _ _ _ _ _ _ us hl => match us, hl with | [_], _ => rfl) ?_
  intro f cdv A outer s H vs Q E ds d hr E0 hR hQ
  obtain ⟨ts, rfl, h1, h2, rfl⟩ := hR
  exact s_if0 (w_md0 H) (jt_not (jt_val (j_call L hr (jad_cons (jd_var 0 E0) jad_nil) ⟨ts, rfl, h1, h2, rfl⟩))) fun H1 w1 => s_nil (hQ _ H1 w1 .non)
theorem op_map {o : Option Int} (h : o.isSome = true) : ∃ z, o = some z := Option.isSome_iff_exists.mp h
theorem nolst_op (o : Option Int) : nolst (op o) = true := by cases o <;> rfl
theorem fo_far_from (Ls : Fo P w K mg base 2 "steps_of" [] (spD K R_steps_of)) (Lh : Fo P w K mg base 4 "shortest" [] (spD K R_shortest)) (G : Gf K mg "far_from" s_far_from []) : Fo P w K mg base 5 "far_from" [] (spD K R_far) := by
  refine fo_of G sc_far_from (fun ds d h => by obtain ⟨ss, _, _, rfl, _⟩ := h; rfl) (fun _ _ _ _ _ _ us hl => match us, hl with | [_, _, _], _ => rfl) ?_
  intro f cdv A outer s H vs Q E ds d hr E0 hR hQ
  obtain ⟨ts, c, o, rfl, ⟨hl, hts⟩, hc, ho, rfl⟩ := hR
  have E1 : En K [] H _ [some (.d (tsD ts)), some (.d (.int c)), some (.d (.int o)), none] := E0
  obtain ⟨hs1, hs2⟩ := stepsOf_ok hts hl
  refine s_asg 3 (w_md0 H) E1 (j_ixL c (d := fdE ((shortF ts o).1.getD c none)) (j_ixT 0 (j_call0 Lh hr rfl (jad_cons (j_call0 Ls hr rfl (jad_cons (jd_var 0 E1) jad_nil) ⟨ts, rfl, hl, rfl⟩) (jad_cons (jd_var 2 E1) jad_nil)) ⟨stepsOf ts, o, rfl, hs1, ho, hs2, rfl⟩) j_int) (jd_var 1 E1) rfl (fd_at (rounds_ok (stepsOf ts) o 6) hc)) sc_far_from.nd fun σ1 H1 w1 E2 => ?_
  have E2' : En K [] H1 σ1 [some (.d (tsD ts)), some (.d (.int c)), some (.d (.int o)), some (.d (fdE ((shortF ts o).1.getD c none)))] := E2
  refine s_ret w1.rfl1 (it := .d (op (farD ts c o))) ?_ fun v H2 w2 r => hQ v H2 (w1.trans w2) r
  unfold farD
  cases hf : (shortF ts o).1.getD c none with
  | none =>
    rw [hf] at E2'
    exact j_ifT (jt_isN (jd_var 3 E2')) j_non
  | some zw =>
    rw [hf] at E2'
    have E3 : En K [] H1 σ1 [some (.d (tsD ts)), some (.d (.int c)), some (.d (.int o)), some (.d (.tuple [pt zw.1, .tuple zw.2]))] := E2'
    exact j_ifF (jt_isN (jd_var 3 E3)) (j_ixT 0 (jd_var 3 E3) j_int)
theorem fo_stretch_by (L : Fo P w K mg base 5 "far_from" [] (spD K R_far)) (Lt : Fo P w K mg base 1 "turned" [] (spD K R_turned)) (G : Gf K mg "stretch_by" s_stretch_by []) : Fo P w K mg base 6 "stretch_by" [] (spD K R_stretch_by) := by
  refine fo_of G sc_stretch_by (fun ds d h => by obtain ⟨ss, _, _, rfl, _⟩ := h; rfl) (fun _ _ _ _ _ _ us hl => match us, hl with | [_, _, _], _ => rfl) ?_
  intro f cdv A outer s H vs Q E ds d hr E0 hR hQ
  obtain ⟨ts, c, o, rfl, h1, hc, ho, rfl⟩ := hR
  have E1 : En K [] H _ [some (.d (tsD ts)), some (.d (.int c)), some (.d (.int o)), none, none] := E0
  refine s_par 3 4 (w_md0 H) E1 rfl (ja_cons (j_call0 L hr rfl (jad_cons (jd_var 0 E1) (jad_cons (jd_var 1 E1) (jad_cons (jd_var 2 E1) jad_nil))) ⟨ts, c, o, rfl, h1, hc, ho, rfl⟩) (ja_cons (j_call0 L hr rfl (jad_cons (jd_var 0 E1) (jad_cons (jd_var 2 E1) (jad_cons (jd_var 1 E1) jad_nil))) ⟨ts, o, c, rfl, h1, ho, hc, rfl⟩) ja_nil)) sc_stretch_by.nd fun σ1 H1 w1 E2 => ?_
  have E2' : En K [] H1 σ1 [some (.d (tsD ts)), some (.d (.int c)), some (.d (.int o)), some (.d (op (farD ts c o))), some (.d (op (farD ts o c)))] := E2
  refine s_ret w1.rfl1 (j_tup (jad_cons (d := op ((farD ts o c).map (- ·))) ?_ (jad_cons (jd_var 3 E2') jad_nil))) fun v H2 w2 r => hQ v H2 (w1.trans w2) r
  cases hf : farD ts o c with
  | none =>
    rw [hf] at E2'
    exact j_ifT (jt_isN (jd_var 4 E2')) j_non
  | some z =>
    rw [hf] at E2'
    have E3 : En K [] H1 σ1 [some (.d (tsD ts)), some (.d (.int c)), some (.d (.int o)), some (.d (op (farD ts c o))), some (.d (pt z))] := E2'
    exact j_ifF (jt_isN (jd_var 4 E3)) (j_call0 Lt hr rfl (jad_cons (jd_var 4 E3) jad_nil) ⟨z, rfl, rfl⟩)
/-- a def whose last parameters have defaults -/
theorem fo_ofD {x : Str} {st : Stmt} {N ps : List Str} {k : Nat} {R : List PyData → PyData → Prop} {dvs : List V} (G : Gf K mg x st dvs) (S : FnScope N ps (defScope st)) (n : Nat) (hd : dvs ≠ []) (hn : n + dvs.length = ps.length) (len : ∀ ds d, R ds d → ds.length = ps.length)
    (hb : ∀ (T : Addr) (kV doc pm : Value) (an : Option Addr) (cdv ct : Value) (us its : List Value), us.length = n → its.length = dvs.length →
      ∃ kk, bindArgs (PySem.W.fnOf x x (defArgs st) (defBody st) (defScope st) (.ref T) kV doc pm an cdv ct) ⟨us, []⟩ = seqItems? (.ref T) >>= kk ∧ kk (some its.toArray) = pure (ps.zip (us ++ its.drop 0)))
    (body : ∀ (f : Addr) (cdv : Value) (A : Around) (outer : List Env) (s : Shared) (H : Hp) (vs : List V) (Q : VK) (E : XK) (ds : List PyData) (d : PyData), Room k (A.deeper (envOfC x (defScope st) s.heap.objs.size f cdv)) → En K [] H (L2.start N vs) (sl0 N.length (ds.map Item.d)) → R ds d →
      (∀ v H', Wm md0 H H' → Dr K [] H' v d → Q v H') → cSs (cxOf CX0 P w K mg base N x (defScope st) f cdv A outer s H E).nox (defBody st) { nx := fun _ H' => Q .non H', rt := Q } (L2.start N vs) H) : Fo P w K mg base (k + 1) x dvs (spD K R) := by
  obtain ⟨f, fd, F, hm⟩ := G.ex
  obtain ⟨bs, hv, hB⟩ := F.binds1 (ps := ps) n 0 hd (by simpa using hn) hb
  refine ⟨f, fd, ps, bs, F.ok S (fun vs H Q E h => ?_) (fun cdv A outer s H vs Q E hr h => ?_), hm, F.kp, hB, hv⟩
  · obtain ⟨ds, d, h1, h2, _⟩ := h
    rw [h1.len]
    exact len ds d h2
  · obtain ⟨ds, d, h1, h2, h3⟩ := h
    exact ⟨_, PSs.nox pss_c, body f cdv A outer s H vs Q E ds d hr (en_start h1.items) h2 fun v H' k r => h3 v H' k.old r⟩
theorem fo_stretch_of (Ln : Fo P w K mg base 6 "need_tellings" [] (spD K R_need_tellings)) (Lc : Fo P w K mg base 4 "need_clock_number" [] (spD K R_need_cn)) (Lt : Fo P w K mg base 7 "need_together" [] (spD K R_need_together)) (L : Fo P w K mg base 6 "stretch_by" [] (spD K R_stretch_by)) (G : Gf K mg "stretch_of" s_stretch_of [.int 0]) : Fo P w K mg base 8 "stretch_of" [.int 0] (spD K R_stretch_of) := by
  refine fo_ofD G sc_stretch_of 2 (by simp) rfl (fun ds d h => by obtain ⟨ss, _, _, rfl, _⟩ := h; rfl) (fun T kV doc pm an cdv ct us its h1 h2 => match us, its, h1, h2 with | [_, _], [_], _, _ => ⟨_, rfl, rfl⟩) ?_
  intro f cdv A outer s H vs Q E ds d hr E0 hR hQ
  obtain ⟨ts, c, o, rfl, h1, h2, hc, ho, rfl⟩ := hR
  have E1 : En K [] H _ [some (.d (tsD ts)), some (.d (.int c)), some (.d (.int o))] := E0
  refine s_expr (w_md0 H) (j_call Ln hr (jad_cons (jd_var 0 E1) jad_nil) ⟨ts, rfl, h1.1, h1.2, rfl⟩) fun H1 w1 => ?_
  have E2 := E1.mono (m := md0) w1
  refine s_expr w1.rfl1 (j_call Lc hr (jad_cons (jd_var 1 E2) jad_nil) ⟨c, rfl, hc, rfl⟩) fun H2 w2 => ?_
  have E3 := E2.mono (m := md0) w2
  refine s_expr w2.rfl1 (j_call Lc hr (jad_cons (jd_var 2 E3) jad_nil) ⟨o, rfl, ho, rfl⟩) fun H3 w3 => ?_
  have E4 := E3.mono (m := md0) w3
  refine s_expr w3.rfl1 (j_call Lt hr (jad_cons (jd_var 0 E4) jad_nil) ⟨ts, rfl, h1, h2, rfl⟩) fun H4 w4 => ?_
  have E5 := E4.mono (m := md0) w4
  exact s_ret w4.rfl1 (j_call0 L hr rfl (jad_cons (jd_var 0 E5) (jad_cons (jd_var 1 E5) (jad_cons (jd_var 2 E5) jad_nil))) ⟨ts, c, o, rfl, h1, hc, ho, rfl⟩) fun v H5 w5 r => hQ v H5 ((((w1.trans w2).trans w3).trans w4).trans w5) r
end
end Gc
namespace Gc
open PySem PySem.Spec PyProof.Rows L2
/-! ## posts -/
structure Told where
  n : Nat
  mo : Int
  t : Tl
  deriving DecidableEq
structure PS where
  cl : List (Int × List (Int × Int))
  td : List Told
  nx : Nat
def clsD (cl : List (Int × List (Int × Int))) : PyData := .tuple (cl.map fun c => clk c.1 c.2)
def toldD (t : Told) : PyData := .tuple [.int t.n, pt t.mo, .int t.t.a, .int t.t.b, op t.t.lo, op t.t.hi]
def tdD (td : List Told) : PyData := .tuple (td.map toldD)
def psD (s : PS) : PyData := .tuple [clsD s.cl, tdD s.td, .int s.nx]
theorem nolstA_map {α : Type} (f : α → PyData) (h : ∀ x, nolst (f x) = true) : ∀ xs : List α, nolstA (xs.map f) = true
  | [] => rfl
  | x :: xs => by
    show (nolst (f x) && nolstA (xs.map f)) = true
    rw [h, nolstA_map f h xs] <;> rfl
theorem nolst_clk (g : Int) (ss : List (Int × Int)) : nolst (clk g ss) = true := by
  show (true && (nolstA (ss.map sp) && true)) = true
  rw [nolstA_map sp (fun _ => rfl)] <;> rfl
theorem nolst_cls (cl : List (Int × List (Int × Int))) : nolst (clsD cl) = true := nolstA_map (fun c : Int × List (Int × Int) => clk c.1 c.2) (fun c => nolst_clk c.1 c.2) cl
theorem nolst_tl (t : Tl) : nolst (tlD t) = true := by
  show (true && (true && (nolst (op t.lo) && (nolst (op t.hi) && true)))) = true
  rw [nolst_op, nolst_op] <;> rfl
theorem nolst_ts (ts : List Tl) : nolst (tsD ts) = true := nolstA_map _ nolst_tl ts
theorem nolst_told (t : Told) : nolst (toldD t) = true := by
  show (true && (true && (true && (true && (nolst (op t.t.lo) && (nolst (op t.t.hi) && true)))))) = true
  rw [nolst_op, nolst_op] <;> rfl
theorem nolst_td (td : List Told) : nolst (tdD td) = true := nolstA_map _ nolst_told td
theorem nolst_st (lo hi : Option Int) : nolst (stD lo hi) = true := by
  show (nolst (op lo) && (nolst (op hi) && true)) = true
  rw [nolst_op, nolst_op] <;> rfl
theorem nolst_ps (s : PS) : nolst (psD s) = true := by
  show (nolst (clsD s.cl) && (nolst (tdD s.td) && true)) = true
  rw [nolst_cls, nolst_td] <;> rfl
def fs4 (v1 v2 v3 v4 : V) : List (Str × V) := [("clocks", v1), ("told", v2), ("next_number", v3), ("past", v4)]
/-- a post at a, its past at l -/
structure PostAt (K : PySem.W.Frag) (C : Addr) (H : Hp) (a l : Addr) (s : PS) (past : List PS) : Prop where
  ex : ∃ dx v1 v2, H a = some (.ins C dx (fs4 v1 v2 (.int s.nx) (.ref l))) ∧ Dr K [] H v1 (clsD s.cl) ∧ Dr K [] H v2 (tdD s.td)
  pst : Lo K [] H l (past.map psD)
structure Cx4 (K : PySem.W.Frag) (C : Addr) : Prop where
  cls : Cls K C
  n1 : NoAttr K C "clocks"
  n2 : NoAttr K C "told"
  n3 : NoAttr K C "next_number"
  n4 : NoAttr K C "past"
theorem Lo.keep {K : PySem.W.Frag} {H H1 : Hp} {l : Addr} {ds : List PyData} (k : Same H H1) (h : Lo K [] H l ds) : Lo K [] H1 l ds := let ⟨vs, h1, h2⟩ := h; ⟨vs, k _ _ h1, DrA.sub k (fun _ _ q => q) _ _ h2⟩
theorem PostAt.same {K : PySem.W.Frag} {C : Addr} {H H1 : Hp} {a l : Addr} {s : PS} {past : List PS} (k : Same H H1) (h : PostAt K C H a l s past) : PostAt K C H1 a l s past := by
  obtain ⟨dx, v1, v2, h1, h2, h3⟩ := h.ex
  exact ⟨⟨dx, v1, v2, k _ _ h1, Dr.sub k (fun _ _ q => q) _ _ h2, Dr.sub k (fun _ _ q => q) _ _ h3⟩, h.pst.keep k⟩
/-- what stays but M: data without lists stays -/
theorem Dr.bsn {K : PySem.W.Frag} {M : List Addr} {H H1 : Hp} {v : V} {d : PyData} (b : Bs M H H1) (hn : nolst d = true) (h : Dr K [] H v d) : Dr K [] H1 v d := Dr.free d v hn (Dr.bs b d v (Dr.free (M' := M) d v hn h))
theorem DrA.bsn {K : PySem.W.Frag} {M : List Addr} {H H1 : Hp} {vs : List V} {ds : List PyData} (b : Bs M H H1) (hn : nolstA ds = true) (h : DrA K [] H vs ds) : DrA K [] H1 vs ds := DrA.free ds vs hn (DrA.bs b ds vs (DrA.free (M' := M) ds vs hn h))
theorem PostAt.bs {K : PySem.W.Frag} {C : Addr} {M : List Addr} {H H1 : Hp} {a l : Addr} {s : PS} {past : List PS} (b : Bs M H H1) (ha : a ∉ M) (hl : l ∉ M) (h : PostAt K C H a l s past) : PostAt K C H1 a l s past := by
  obtain ⟨dx, v1, v2, h1, h2, h3⟩ := h.ex
  obtain ⟨vs, g1, g2⟩ := h.pst
  exact ⟨⟨dx, v1, v2, b _ _ h1 (.inl ha), h2.bsn b (nolst_cls _), h3.bsn b (nolst_td _)⟩, vs, b _ _ g1 (.inl hl), g2.bsn b (nolstA_map _ nolst_ps _)⟩
theorem PostAt.wm {K : PySem.W.Frag} {C : Addr} {m : Md} {H H1 : Hp} {a l : Addr} {s : PS} {past : List PS} (w : Wm m H H1) (ha : a ∉ m.P) (hl : l ∉ m.P) (h : PostAt K C H a l s past) : PostAt K C H1 a l s past :=
  h.bs (M := m.P) (fun x o e q => w.keep x o e q) ha hl
theorem PostAt.ne {K : PySem.W.Frag} {C : Addr} {H : Hp} {a l : Addr} {s : PS} {past : List PS} (h : PostAt K C H a l s past) : a ≠ l := by
  obtain ⟨dx, v1, v2, h1, _⟩ := h.ex
  obtain ⟨vs, g1, _⟩ := h.pst
  exact ne_of h1 g1 (by intro q; cases q)
section
variable {m : Md} {X : Cx} {σ : L2.St} {H : Hp} {e o : Expr} {es : List Expr} {pos p apos : Pos} {k k' : Nat} {x : Str} {d : PyData} {ds : List PyData} {C a l : Addr} {s : PS} {past : List PS}
theorem j_fldC (c : Cx4 X.K C) (ha : a ∉ m.P) (hl : l ∉ m.P) (hp : PostAt X.K C H a l s past) (jo : J m X σ H o (.v (.ref a))) (hb : attributeBase o "clocks" X.env (eval o X.env) = eval o X.env := by rfl) : JD m X σ H (.Attribute o "clocks" pos) (clsD s.cl) := fun H1 w Q q =>
  of_pe (pe_fld pe_c hb) (jo H1 w _ fun v H2 w2 r => by
    have e1 : v = V.ref a := r
    subst e1
    obtain ⟨dx, v1, v2, h1, h2, h3⟩ := (hp.wm (w.trans w2) ha hl).ex
    exact ⟨a, C, dx, _, v1, rfl, h1, c.cls, c.n1, rfl, q _ H2 w2 (Dr.free _ _ (nolst_cls _) h2)⟩)
theorem j_fldT (c : Cx4 X.K C) (ha : a ∉ m.P) (hl : l ∉ m.P) (hp : PostAt X.K C H a l s past) (jo : J m X σ H o (.v (.ref a))) (hb : attributeBase o "told" X.env (eval o X.env) = eval o X.env := by rfl) : JD m X σ H (.Attribute o "told" pos) (tdD s.td) := fun H1 w Q q =>
  of_pe (pe_fld pe_c hb) (jo H1 w _ fun v H2 w2 r => by
    have e1 : v = V.ref a := r
    subst e1
    obtain ⟨dx, v1, v2, h1, h2, h3⟩ := (hp.wm (w.trans w2) ha hl).ex
    exact ⟨a, C, dx, _, v2, rfl, h1, c.cls, c.n2, rfl, q _ H2 w2 (Dr.free _ _ (nolst_td _) h3)⟩)
theorem j_fldN (c : Cx4 X.K C) (ha : a ∉ m.P) (hl : l ∉ m.P) (hp : PostAt X.K C H a l s past) (jo : J m X σ H o (.v (.ref a))) (hb : attributeBase o "next_number" X.env (eval o X.env) = eval o X.env := by rfl) : JD m X σ H (.Attribute o "next_number" pos) (.int s.nx) := fun H1 w Q q =>
  of_pe (pe_fld pe_c hb) (jo H1 w _ fun v H2 w2 r => by
    have e1 : v = V.ref a := r
    subst e1
    obtain ⟨dx, v1, v2, h1, h2, h3⟩ := (hp.wm (w.trans w2) ha hl).ex
    exact ⟨a, C, dx, _, .int s.nx, rfl, h1, c.cls, c.n3, rfl, q _ H2 w2 (.int _)⟩)
theorem j_fldL (c : Cx4 X.K C) (ha : a ∉ m.P) (hl : l ∉ m.P) (hp : PostAt X.K C H a l s past) (jo : J m X σ H o (.v (.ref a))) (hb : attributeBase o "past" X.env (eval o X.env) = eval o X.env := by rfl) : J m X σ H (.Attribute o "past" pos) (.v (.ref l)) := fun H1 w Q q =>
  of_pe (pe_fld pe_c hb) (jo H1 w _ fun v H2 w2 r => by
    have e1 : v = V.ref a := r
    subst e1
    obtain ⟨dx, v1, v2, h1, h2, h3⟩ := (hp.wm (w.trans w2) ha hl).ex
    exact ⟨a, C, dx, _, .ref l, rfl, h1, c.cls, c.n4, rfl, q _ H2 w2 rfl⟩)
end
/-! ### methods that only look -/
def spG (K : PySem.W.Frag) (C : Addr) (R : PS → List PyData → PyData → Prop) : Sp := fun vs H Q _ => ∃ a l s past vs' ds d, vs = V.ref a :: vs' ∧ PostAt K C H a l s past ∧ DrA K [] H vs' ds ∧ R s ds d ∧ ∀ v H', Same H H' → Dr K [] H' v d → Q v H'
structure Gq (K : PySem.W.Frag) (C : Addr) (x q : Str) (st : Stmt) (dvs : List V) : Prop where
  ex : ∃ (f : Addr) (fd : FuncData), FunD K x q (defArgs st) (defBody st) (defScope st) dvs [] f fd ∧ Meth K C x f
section
variable {P : Program} {w : World} {K : PySem.W.Frag} {mg : Str → Option Value} {base : Heap}
/-- the body of a method that looks -/
def BodyG (P : Program) (w : World) (K : PySem.W.Frag) (mg : Str → Option Value) (base : Heap) (C : Addr) (k : Nat) (N : List Str) (q : Str) (st : Stmt) (R : PS → List PyData → PyData → Prop) : Prop :=
  ∀ (f : Addr) (cdv : Value) (A : Around) (outer : List Env) (s : Shared) (H : Hp) (vs : List V) (Q : VK) (E : XK) (a l : Addr) (z : PS) (past : List PS) (ds : List PyData) (d : PyData), Room k (A.deeper (envOfC q (defScope st) s.heap.objs.size f cdv)) → PostAt K C H a l z past → En K [] H (L2.start N vs) (sl0 N.length (.v (.ref a) :: ds.map Item.d)) → R z ds d →
      (∀ v H', Wm md0 H H' → Dr K [] H' v d → Q v H') → cSs (cxOf CX0 P w K mg base N q (defScope st) f cdv A outer s H E).nox (defBody st) { nx := fun _ H' => Q .non H', rt := Q } (L2.start N vs) H
theorem me_of {C : Addr} {x q : Str} {st : Stmt} {N ps : List Str} {k : Nat} {R : PS → List PyData → PyData → Prop} (G : Gq K C x q st []) (S : FnScope N ps (defScope st)) (len : ∀ s ds d, R s ds d → ds.length + 1 = ps.length)
    (hb : ∀ (kV doc pm : Value) (an : Option Addr) (cdv ct : Value) (us : List Value), us.length = ps.length → bindArgs (PySem.W.fnOf x q (defArgs st) (defBody st) (defScope st) .none kV doc pm an cdv ct) ⟨us, []⟩ = pure (ps.zip us))
    (body : BodyG P w K mg base C k N q st R) : Me P w K mg base C (k + 1) x [] (spG K C R) := by
  obtain ⟨f, fd, F, hm⟩ := G.ex
  refine ⟨f, fd, ps, [], F.ok S (fun vs H Q E h => ?_) (fun cdv A outer s H vs Q E hr h => ?_), hm, F.bindsN hb, .nil⟩
  · obtain ⟨a, l, z, past, vs', ds, d, rfl, _, h1, h2, _⟩ := h
    rw [List.length_cons, h1.len]
    exact len z ds d h2
  · obtain ⟨a, l, z, past, vs', ds, d, rfl, hp, h1, h2, h3⟩ := h
    exact ⟨_, PSs.nox pss_c, body f cdv A outer s H _ Q E a l z past ds d hr hp (en_start (.cons rfl h1.items)) h2 fun v H' k r => h3 v H' k.old r⟩
/-- with defaults; j of them are written -/
theorem me_ofD {C : Addr} {x q : Str} {st : Stmt} {N ps : List Str} {k : Nat} {R : PS → List PyData → PyData → Prop} {dvs : List V} (G : Gq K C x q st dvs) (S : FnScope N ps (defScope st)) (n j : Nat) (hd : dvs ≠ []) (hn : n + (dvs.length - j) = ps.length) (len : ∀ s ds d, R s ds d → ds.length + 1 = ps.length)
    (hb : ∀ (T : Addr) (kV doc pm : Value) (an : Option Addr) (cdv ct : Value) (us its : List Value), us.length = n → its.length = dvs.length →
      ∃ kk, bindArgs (PySem.W.fnOf x q (defArgs st) (defBody st) (defScope st) (.ref T) kV doc pm an cdv ct) ⟨us, []⟩ = seqItems? (.ref T) >>= kk ∧ kk (some its.toArray) = pure (ps.zip (us ++ its.drop j)))
    (body : BodyG P w K mg base C k N q st R) : Me P w K mg base C (k + 1) x (dvs.drop j) (spG K C R) := by
  obtain ⟨f, fd, F, hm⟩ := G.ex
  obtain ⟨bs, hv, hB⟩ := F.binds1 (ps := ps) n j hd hn hb
  refine ⟨f, fd, ps, bs, F.ok S (fun vs H Q E h => ?_) (fun cdv A outer s H vs Q E hr h => ?_), hm, hB, hv⟩
  · obtain ⟨a, l, z, past, vs', ds, d, rfl, _, h1, h2, _⟩ := h
    rw [List.length_cons, h1.len]
    exact len z ds d h2
  · obtain ⟨a, l, z, past, vs', ds, d, rfl, hp, h1, h2, h3⟩ := h
    exact ⟨_, PSs.nox pss_c, body f cdv A outer s H _ Q E a l z past ds d hr hp (en_start (.cons rfl h1.items)) h2 fun v H' k r => h3 v H' k.old r⟩
end
section
variable {m : Md} {X : Cx} {σ : L2.St} {H : Hp} {e o : Expr} {es : List Expr} {pos p apos : Pos} {k k' : Nat} {x : Str} {d : PyData} {ds dds : List PyData} {C a l : Addr} {s : PS} {past : List PS} {R : PS → List PyData → PyData → Prop} {dvs : List V}
/-- no method's name is a field's -/
theorem lk4 {v1 v2 v3 v4 : V} (h : (x == ("clocks" : Str)) = false) (h2 : (x == ("told" : Str)) = false) (h3 : (x == ("next_number" : Str)) = false) (h4 : (x == ("past" : Str)) = false) : (fs4 v1 v2 v3 v4).lookup x = none := by
  unfold fs4
  simp only [List.lookup, h, h2, h3, h4]
theorem j_methD {pl : Sem Bool} (c : Cx4 X.K C) (M : Me X.prog X.w X.K X.mg X.base C k x dvs (spG X.K C R)) (hr : Room k' X.A) (ha : a ∉ m.P) (hl : l ∉ m.P) (hp : PostAt X.K C H a l s past) (jo : J m X σ H o (.v (.ref a))) (ja : JAd m X σ H (e :: es) ds) (hdv : ∀ H, DrA X.K [] H dvs dds) (hR : R s (ds ++ dds) d) (hn : nolst d = true ∨ m.M = []) (hk : k ≤ k' := by decide)
    (hx : ((x == ("clocks" : Str)) || (x == ("told" : Str)) || (x == ("next_number" : Str)) || (x == ("past" : Str))) = false := by decide)
    (hst : starEach (e :: es) X.env = (false, eval e X.env) :: starEach es X.env := by rfl) (hpl : (backTo pos (starEach es X.env)).any (·.1) = false := by rfl)
    (ht : eval (.Call (.Attribute o x apos) (e :: es) [] pos) X.env = (do
      let ov ← eval o X.env
      standAt apos.atName
      let (f, first) ← holding [ov] (getMethod ov x pl)
      callWith pos f first (backTo pos (starEach (e :: es) X.env)) (backToKw pos (keywordEach [] X.env))) := by rfl) : JD m X σ H (.Call (.Attribute o x apos) (e :: es) [] pos) d := fun H1 w Q q => by
  obtain ⟨f, fd, ps, bs, F, hm, hb, hd⟩ := M.ex
  simp only [Bool.or_eq_false_iff] at hx
  refine of_pe (pe_meth (pl := pl) pe_c c.cls hm F (hr.mono hk) hb hd pass0 pa_c hst hpl ht) (jo H1 w _ fun v H2 w2 r => ?_)
  have e1 : v = V.ref a := r
  subst e1
  obtain ⟨dx, v1, v2, h1, h2, h3⟩ := (hp.wm (w.trans w2) ha hl).ex
  refine ⟨a, dx, _, rfl, h1, lk4 hx.1.1.1 hx.1.1.2 hx.1.2 hx.2, ja H2 (w.trans w2) _ fun vs H3 w3 r3 => ⟨a, l, s, past, _, ds ++ dds, d, rfl, hp.wm ((w.trans w2).trans w3) ha hl, r3.data.to0.append (hdv H3), hR, fun u H4 kk r4 => q u H4 ((w2.trans w3).trans (w3.rfl1.same kk)) ?_⟩⟩
  rcases hn with hn | hn
  · exact Dr.free d u hn r4
  · rw [hn]
    exact r4
theorem j_meth {pl : Sem Bool} (c : Cx4 X.K C) (M : Me X.prog X.w X.K X.mg X.base C k x [] (spG X.K C R)) (hr : Room k' X.A) (ha : a ∉ m.P) (hl : l ∉ m.P) (hp : PostAt X.K C H a l s past) (jo : J m X σ H o (.v (.ref a))) (ja : JAd m X σ H (e :: es) ds) (hR : R s ds d) (hn : nolst d = true ∨ m.M = []) (hk : k ≤ k' := by decide)
    (hx : ((x == ("clocks" : Str)) || (x == ("told" : Str)) || (x == ("next_number" : Str)) || (x == ("past" : Str))) = false := by decide)
    (hst : starEach (e :: es) X.env = (false, eval e X.env) :: starEach es X.env := by rfl) (hpl : (backTo pos (starEach es X.env)).any (·.1) = false := by rfl)
    (ht : eval (.Call (.Attribute o x apos) (e :: es) [] pos) X.env = (do
      let ov ← eval o X.env
      standAt apos.atName
      let (f, first) ← holding [ov] (getMethod ov x pl)
      callWith pos f first (backTo pos (starEach (e :: es) X.env)) (backToKw pos (keywordEach [] X.env))) := by rfl) : JD m X σ H (.Call (.Attribute o x apos) (e :: es) [] pos) d :=
  j_methD (pl := pl) c M hr ha hl hp jo ja (fun H => .nil) (by rw [List.append_nil]; exact hR) hn hk hx hst hpl ht
theorem j_meth0 {pl : Sem Bool} (c : Cx4 X.K C) (M : Me X.prog X.w X.K X.mg X.base C k x [] (spG X.K C R)) (hr : Room k' X.A) (ha : a ∉ m.P) (hl : l ∉ m.P) (hp : PostAt X.K C H a l s past) (jo : J m X σ H o (.v (.ref a))) (hR : R s [] d) (hn : nolst d = true ∨ m.M = []) (hk : k ≤ k' := by decide)
    (hx : ((x == ("clocks" : Str)) || (x == ("told" : Str)) || (x == ("next_number" : Str)) || (x == ("past" : Str))) = false := by decide)
    (ht : eval (.Call (.Attribute o x apos) [] [] pos) X.env = (do
      let ov ← eval o X.env
      standAt apos.atName
      let (f, first) ← holding [ov] (getMethod ov x pl)
      callWith pos f first (backTo pos (starEach [] X.env)) (backToKw pos (keywordEach [] X.env))) := by rfl) : JD m X σ H (.Call (.Attribute o x apos) [] [] pos) d := fun H1 w Q q => by
  obtain ⟨f, fd, ps, bs, F, hm, hb, hd⟩ := M.ex
  simp only [Bool.or_eq_false_iff] at hx
  refine of_pe (pe_meth0 (pl := pl) pe_c c.cls hm F (hr.mono hk) hb hd pass0 ht) (jo H1 w _ fun v H2 w2 r => ?_)
  have e1 : v = V.ref a := r
  subst e1
  obtain ⟨dx, v1, v2, h1, h2, h3⟩ := (hp.wm (w.trans w2) ha hl).ex
  refine ⟨a, dx, _, rfl, h1, lk4 hx.1.1.1 hx.1.1.2 hx.1.2 hx.2, a, l, s, past, _, [], d, rfl, hp.wm (w.trans w2) ha hl, .nil, hR, fun u H4 kk r4 => q u H4 (w2.trans (w2.rfl1.same kk)) ?_⟩
  rcases hn with hn | hn
  · exact Dr.free d u hn r4
  · rw [hn]
    exact r4
/-- len(post) -/
theorem call_lenP (M : Me X.prog X.w X.K X.mg X.base C k "__len__" [] (spG X.K C R)) (hr : Room (k + 1) X.A) : CallR X (.builtin "len") (fun xs H Q => ∃ (n : Nat), xs = [.ref a] ∧ PostAt X.K C H a l s past ∧ R s [] (.int n) ∧ n < 1000 ∧ ∀ H', Same H H' → Q (.int n) H') := by
  intro pins s0 σ H xs us Q I r h
  obtain ⟨n, rfl, hp, hR, hn, q⟩ := h
  obtain ⟨u, rfl, ru⟩ := vals1 r
  obtain rfl : u = Value.ref a := ru
  obtain ⟨f, fd, ps, bs, F, hm, hb, hd⟩ := M.ex
  have eb : bs = [] := by
    cases hd
    rfl
  subst eb
  obtain ⟨dx, v1, v2, h1, h2, h3⟩ := hp.ex
  obtain ⟨mA, O, _⟩ := ins_get I.hok h1
  obtain ⟨od, J, _⟩ := O.look
  refine Calls.call_function_entry kind_len plain_len entry_len (args_len1 _) ?_
  unfold Builtin.«len»
  refine wpAny_bind (m := oneArg "len" _) (wpAny_pure ?_)
  refine wpAny_bind (m := callSpecial? (.ref a) (PySem.Str.ofString "__len__")) (PySem.W.special_fn I.kIn J hm.at_ (beq_iff_eq.mp hm.fn) ?_)
  have sp : spG X.K C R ([.ref a] ++ []) H (fun v H' => v = .int n ∧ Same H H') E0 := ⟨a, l, s, past, [], [], .int n, rfl, hp, .nil, hR, fun v H' kk r => by
    cases r
    exact ⟨rfl, kk⟩⟩
  have r2 : Vals ([V.ref a] ++ []) ([Value.ref a] ++ []) := .cons rfl .nil
  have hl : ([Value.ref a] ++ []).length = ps.length := by rw [← r2.length]; exact F.len _ _ _ _ sp
  refine wpAny_call (codeAny_mono (F.run X.A.in1 X.stack s0 H ⟨[.ref a], []⟩ ([.ref a] ++ []) ([.ref a] ++ []) _ E0 hr.in1 I.env0.in1 (hb s0 [.ref a] I.kIn hl) r2 sp) fun r s' hq => ?_)
  cases r with
  | error e => exact pass0 pins σ H s0 e s' I hq
  | ok fl =>
    cases fl with
    | ret u =>
      obtain ⟨v, H', I1, rv, ev, kk⟩ := I.after hq
      subst ev
      obtain ⟨t, rfl⟩ := (show ∃ t, u = Value.int n t from rv)
      show wpAny _ _ _ _ _ s'
      refine wpAny_bind (wpAny_holding (wpAny_pure ?_))
      refine wpAny_bind (wpAny_letGo ?_)
      show wpAny _ _ (if ((n : Nat) : Int) < 0 then _ else _) _ _ _
      rw [if_neg (by omega)]
      show wpAny _ _ (if ((n : Nat) : Int) ≥ 2 ^ 63 then _ else _) _ _ _
      rw [if_neg (by omega)]
      exact wpAny_bind (wpAny_mkInt (wpAny_pure ⟨_, rfl, .int n, H', I1.tok _, ⟨_, rfl⟩, q H' kk⟩))
    | next => exact False.elim hq
    | brk => exact False.elim hq
    | cont => exact False.elim hq
end
end Gc
/-! ## list(zip(xs, t)) -/
namespace Gc
open PySem PySem.Spec PyProof.Rows L2
theorem zip_no_len : typeLookup (.type "zip") "__len__" = pure none := am_miss_of_fast (by decide +kernel)
theorem zip_no_hint : typeLookup (.type "zip") "__length_hint__" = pure none := am_miss_of_fast (by decide +kernel)
section
variable {prog : Program} {w : World} {A : Around} {E : Value → Shared → Prop} {st : Shared} {z TI TO i1 i2 : Addr} {f1 f2 : List Addr} {n1 n2 n : Nat} {P1 P2 : Nat → Value → Prop} {S1 S2 : Nat → Heap → Prop}
theorem zipHint (hT : st.TypeIs (.ref z) "zip") {Qb : Bool → Shared → Prop} (hq : Qb true st) : wpAny (model prog w) A (Builtin.List.listLengthHint (.ref z)) Qb E st := by
  unfold Builtin.List.listLengthHint
  refine wpAny_bind (wpAny_specialOf hT zip_no_len ?_)
  show wpAny _ _ (specialOf (.ref z) (Str.ofString "__length_hint__") >>= _) _ _ _
  refine wpAny_bind (wpAny_specialOf hT zip_no_hint ?_)
  exact wpAny_pure hq
theorem zHeldItem {T : Addr} {f : Bool} {oT : Obj} {i : Nat} {Qr : Value → Shared → Prop} (D : ZipSep2 z TI TO i1 i2 f1 f2) (D1 : Draws prog w A i1 f1 n1 P1 S1) (D2 : Draws prog w A i2 f2 n2 P2 S2)
    (hz : IsZipHeld st.heap z TI TO T f) (hT : st.heap.get? T = some oT) (hTI : IsTupOf2 st.heap TI (.ref i1) (.ref i2)) (s1 : S1 i st.heap) (s2 : S2 i st.heap) (l1 : i < n1) (l2 : i < n2)
    (hq : ∀ x1 x2 h' tk, P1 i x1 → P2 i x2 → IsZipHeld h' z TI TO T true → S1 (i + 1) h' → S2 (i + 1) h' → IsTupOf2 h' st.heap.objs.size x1 x2 → h'.objs.size = st.heap.objs.size + 1 → (∀ c o, c ≠ z → c ≠ i1 → c ≠ i2 → st.heap.get? c = some o → h'.get? c = some o) → Qr (.ref st.heap.objs.size) { st with heap := h', toks := tk }) :
    wpAny (model prog w) A (Builtin.«zip.__next__» ⟨[.ref z], []⟩) (fun fin s' => ∃ v, fin = .done (.ret v) ∧ Qr v s') E st := by
  obtain ⟨hp, gg, dd, tk0, os⟩ := st
  show wpAny _ _ (field (.ref z) 2 >>= _) _ _ _
  refine wpAny_bind (wpAny_field hz rfl (x := .bool false) rfl ?_)
  show wpAny _ _ (field (.ref z) 3 >>= _) _ _ _
  refine wpAny_bind (wpAny_field hz rfl (x := .ref TI) rfl ?_)
  refine wpAny_bind (wpAny_seqItems hTI rfl ?_)
  show wpAny _ _ (Builtin.SmallTypes.ownedTupleIsFree (.ref z) >>= _) _ _ _
  refine wpAny_bind (wpAny_tupleHeld_zip hz hT fun k1 hz1 hs1 => ?_)
  simp only [Bool.false_eq_true, if_false]
  refine wpAny_bind ?_
  rw [← Array.forIn_toList]
  simp only [List.forIn_cons, List.forIn_nil]
  refine wpAny_bind (wpAny_bind (wpAny_holding ?_))
  show wpAny _ _ (Builtin.SmallTypes.nextOf (.ref i1) >>= _) _ _ _
  refine wpAny_bind (D1.item i _ _ _ l1 (D1.over s1 hs1 D.zf1) fun x1 k2 tk1 p1 t1 hs2 => wpAny_pure ?_)
  refine wpAny_pure ?_
  refine wpAny_bind (wpAny_bind (wpAny_holding ?_))
  show wpAny _ _ (Builtin.SmallTypes.nextOf (.ref i2) >>= _) _ _ _
  refine wpAny_bind (D2.item i _ _ _ l2 (D2.over (D2.over s2 hs1 D.zf2) hs2 D.sep1_2) fun x2 k3 tk2 p2 t2 hs3 => wpAny_pure ?_)
  refine wpAny_pure (wpAny_pure ?_)
  show wpAny _ _ (newTuple [x1, x2] >>= _) _ _ _
  refine wpAny_bind (wpAny_newTuple ?_)
  replace hs1 : Heap.SameBut z hp k1 := hs1
  replace hs2 : Heap.SameBut i1 k1 k2 := hs2
  replace hs3 : Heap.SameBut i2 k2 k3 := hs3
  have hsz : k3.objs.size = hp.objs.size := by rw [hs3.1, hs2.1, hs1.1]
  have hz3 : IsZipHeld k3 z TI TO T true := hs3.extBut _ _ D.zi2 (hs2.extBut _ _ D.zi1 hz1)
  have hk : ∀ c o, c ≠ z → c ≠ i1 → c ≠ i2 → hp.get? c = some o → k3.get? c = some o := fun c o c1 c2 c3 e => hs3.extBut _ _ c3 (hs2.extBut _ _ c2 (hs1.extBut _ _ c1 e))
  refine wpAny_pure ⟨_, rfl, ?_⟩
  show Qr (.ref k3.objs.size) _
  have pr : IsTupOf2 (k3.push { cls := .type "tuple", data := .seq #[x1, x2] }) k3.objs.size x1 x2 := Heap.get?_push_size _ rfl
  have sz4 : (k3.push { cls := .type "tuple", data := .seq #[x1, x2] }).objs.size = k3.objs.size + 1 := Heap.size_push ..
  have up : ∀ c o, k3.get? c = some o → (k3.push { cls := .type "tuple", data := .seq #[x1, x2] }).get? c = some o := fun c o e => Heap.get?_push_of_some _ e
  have r1 : S1 (i + 1) k3 := D1.over t1 hs3 D.sep2_1
  rw [hsz] at pr sz4 ⊢
  exact hq x1 x2 _ tk2 p1 p2 (up _ _ hz3) (D1.frame _ _ _ r1 fun b _ o e => up b o e) (D2.frame _ _ _ t2 fun b _ o e => up b o e) pr sz4 fun c o c1 c2 c3 e => up c o (hk c o c1 c2 c3 e)
theorem zHeldEnd {T : Addr} {f : Bool} {oT : Obj} {Qr : Fin → Shared → Prop} (D : ZipSep2 z TI TO i1 i2 f1 f2) (D1 : Draws prog w A i1 f1 n P1 S1)
    (hz : IsZipHeld st.heap z TI TO T f) (hT : st.heap.get? T = some oT) (hTI : IsTupOf2 st.heap TI (.ref i1) (.ref i2)) (s1 : S1 n st.heap)
    (hE : ∀ h' e, (∀ c o, c ≠ z → c ≠ i1 → c ≠ i2 → st.heap.get? c = some o → h'.get? c = some o) → (∃ o, h'.get? e = some o ∧ o.cls = .type "StopIteration") → E (.ref e) { st with heap := h' }) :
    wpAny (model prog w) A (Builtin.«zip.__next__» ⟨[.ref z], []⟩) Qr E st := by
  show wpAny _ _ (field (.ref z) 2 >>= _) _ _ _
  refine wpAny_bind (wpAny_field hz rfl (x := .bool false) rfl ?_)
  show wpAny _ _ (field (.ref z) 3 >>= _) _ _ _
  refine wpAny_bind (wpAny_field hz rfl (x := .ref TI) rfl ?_)
  refine wpAny_bind (wpAny_seqItems hTI rfl ?_)
  show wpAny _ _ (Builtin.SmallTypes.ownedTupleIsFree (.ref z) >>= _) _ _ _
  refine wpAny_bind (wpAny_tupleHeld_zip hz hT fun k1 hz1 hs1 => ?_)
  simp only [Bool.false_eq_true, if_false]
  refine wpAny_bind ?_
  rw [← Array.forIn_toList]
  simp only [List.forIn_cons, List.forIn_nil]
  refine wpAny_bind (wpAny_bind (wpAny_holding ?_))
  show wpAny _ _ (Builtin.SmallTypes.nextOf (.ref i1) >>= _) _ _ _
  refine wpAny_bind (D1.done _ _ _ (D1.over s1 hs1 D.zf1) fun k2 e hs2 he => ?_)
  exact hE k2 e (fun c o c1 c2 _ x => hs2 _ _ c2 (hs1.extBut _ _ c1 x)) he
/-- how the zip stands when i pairs are out -/
def ZAt (z TI TO i1 i2 : Addr) (S1 S2 : Nat → Heap → Prop) (S : Addr) (i : Nat) (h : Heap) : Prop :=
  ((IsZip h z TI TO .none ∧ IsTupOf2 h TO .none .none) ∨ ∃ T f oT, IsZipHeld h z TI TO T f ∧ h.get? T = some oT ∧ T ≠ z ∧ T ≠ S ∧ T ≠ i1 ∧ T ≠ i2) ∧ IsTupOf2 h TI (.ref i1) (.ref i2) ∧ S1 i h ∧ S2 i h
theorem zNextItem {S : Addr} {i : Nat} {Qr : Option Value → Shared → Prop} (D : ZipSep2 z TI TO i1 i2 f1 f2) (D1 : Draws prog w A.in1 i1 f1 n1 P1 S1) (D2 : Draws prog w A.in1 i2 f2 n2 P2 S2) (hz : ZAt z TI TO i1 i2 S1 S2 S i st.heap) (l1 : i < n1) (l2 : i < n2) (hS : S < st.heap.objs.size) (lz : z < st.heap.objs.size) (g1 : i1 < st.heap.objs.size) (g2 : i2 < st.heap.objs.size)
    (hq : ∀ x1 x2 h' tk, P1 i x1 → P2 i x2 → ZAt z TI TO i1 i2 S1 S2 S (i + 1) h' → IsTupOf2 h' st.heap.objs.size x1 x2 → h'.objs.size = st.heap.objs.size + 1 → (∀ c o, c ≠ z → c ≠ TO → c ≠ i1 → c ≠ i2 → st.heap.get? c = some o → h'.get? c = some o) → Qr (some (.ref st.heap.objs.size)) { st with heap := h', toks := tk }) :
    wpAny (model prog w) A (pyNext (.ref z)) Qr E st := by
  obtain ⟨hz, hTI, s1, s2⟩ := hz
  have hTy : st.TypeIs (.ref z) "zip" := by
    rcases hz with ⟨h, _⟩ | ⟨T, f, oT, h, _⟩
    · exact ⟨_, h, rfl⟩
    · exact ⟨_, h, rfl⟩
  unfold pyNext
  refine wpAny_bind (wpAny_attempt (wpAny_callSpecial?_slot (name := Str.ofString "__next__") hTy F.slot_zip_next (wpAny_call_entry F.slot_zip_next hTy F.entry_zip_next ?_ (F.args_zip_next_1 _))))
  have ne : st.heap.objs.size ≠ z ∧ st.heap.objs.size ≠ S ∧ st.heap.objs.size ≠ i1 ∧ st.heap.objs.size ≠ i2 := ⟨Nat.ne_of_gt lz, Nat.ne_of_gt hS, Nat.ne_of_gt g1, Nat.ne_of_gt g2⟩
  rcases hz with ⟨h, hTO⟩ | ⟨T, f, oT, h, hT, e1, e2, e3, e4⟩
  · exact zipD2_next_item D D1 D2 h hTI hTO s1 s2 l1 l2 fun x1 x2 h' tk p1 p2 b1 b2 b3 b4 b5 b6 b7 => wpAny_pure (hq x1 x2 h' tk p1 p2 ⟨.inr ⟨st.heap.objs.size, false, _, b1, b5, ne⟩, b7 _ _ D.TIz D.TITO D.TIi1 D.TIi2 hTI, b3, b4⟩ b5 b6 b7)
  · exact zHeldItem D D1 D2 h hT hTI s1 s2 l1 l2 fun x1 x2 h' tk p1 p2 b1 b3 b4 b5 b6 b7 => wpAny_pure (hq x1 x2 h' tk p1 p2 ⟨.inr ⟨T, true, _, b1, b7 _ _ e1 e3 e4 hT, e1, e2, e3, e4⟩, b7 _ _ D.TIz D.TIi1 D.TIi2 hTI, b3, b4⟩ b5 b6 fun c o c1 _ c2 c3 => b7 c o c1 c2 c3)
theorem zNextEnd {S : Addr} {Qr : Option Value → Shared → Prop} (hh : A.handled = none) (D : ZipSep2 z TI TO i1 i2 f1 f2) (D1 : Draws prog w A.in1 i1 f1 n P1 S1) (D2 : Draws prog w A.in1 i2 f2 n P2 S2) (hz : ZAt z TI TO i1 i2 S1 S2 S n st.heap)
    (hq : ∀ h' tk, (∀ c o, c ≠ z → c ≠ TO → c ≠ i1 → c ≠ i2 → st.heap.get? c = some o → h'.get? c = some o) → Qr none { st with heap := h', toks := tk }) :
    wpAny (model prog w) A (pyNext (.ref z)) Qr E st := by
  obtain ⟨hz, hTI, s1, s2⟩ := hz
  have hTy : st.TypeIs (.ref z) "zip" := by
    rcases hz with ⟨h, _⟩ | ⟨T, f, oT, h, _⟩
    · exact ⟨_, h, rfl⟩
    · exact ⟨_, h, rfl⟩
  unfold pyNext
  refine wpAny_bind (wpAny_attempt (wpAny_callSpecial?_slot (name := Str.ofString "__next__") hTy F.slot_zip_next (wpAny_call_entry F.slot_zip_next hTy F.entry_zip_next ?_ (F.args_zip_next_1 _))))
  rcases hz with ⟨h, hTO⟩ | ⟨T, f, oT, h, hT, e1, e2, e3, e4⟩
  · refine zipD2_next_end D D1 D2 h hTI hTO s1 s2 (Nat.le_refl _) (Nat.le_refl _) (.inl rfl) fun h' tk e hk he => ?_
    obtain ⟨o, ho, hc⟩ := he
    refine wpAny_bind (wpAny_isInstance (T := "StopIteration") (b := true) ⟨o, ho, hc⟩ isSubtype_stop ?_)
    exact wpAny_pure (hq _ _ hk)
  · refine zHeldEnd D D1 h hT hTI s1 fun h' e hk he => ?_
    obtain ⟨o, ho, hc⟩ := he
    refine wpAny_bind (wpAny_isInstance (T := "StopIteration") (b := true) ⟨o, ho, hc⟩ isSubtype_stop ?_)
    exact wpAny_pure (hq _ _ fun c o c1 _ c2 c3 => hk c o c1 c2 c3)
/-- the pairs that are out: rising, above lo, each as it was drawn -/
structure ZOut (P1 P2 : Nat → Value → Prop) (lo : Addr) (h : Heap) (ts : List Addr) : Prop where
  up : ts.Pairwise (· < ·)
  lo : ∀ a ∈ ts, lo < a
  is : ∀ (j : Nat) (a : Addr), ts[j]? = some a → ∃ x y, P1 j x ∧ P2 j y ∧ IsTupOf2 h a x y
theorem ZOut.there {lo : Addr} {h : Heap} {ts : List Addr} (g : ZOut P1 P2 lo h ts) {a : Addr} (ha : a ∈ ts) : a < h.objs.size := by
  obtain ⟨j, hj⟩ := List.mem_iff_getElem?.mp ha
  obtain ⟨x, y, _, _, e⟩ := g.is j a hj
  exact Heap.lt_size e
variable {R : Result → Shared → Prop}
theorem ZAt.keep {S : Addr} {i : Nat} {h h' : Heap} (D : ZipSep2 z TI TO i1 i2 f1 f2) (D1 : Draws prog w A i1 f1 n1 P1 S1) (D2 : Draws prog w A i2 f2 n2 P2 S2) (hz : ZAt z TI TO i1 i2 S1 S2 S i h) (k : ∀ b o, b ≠ S → h.get? b = some o → h'.get? b = some o) (nS : z ≠ S ∧ TI ≠ S ∧ TO ≠ S ∧ S ∉ f1 ∧ S ∉ f2) : ZAt z TI TO i1 i2 S1 S2 S i h' := by
  obtain ⟨hz, hTI, s1, s2⟩ := hz
  obtain ⟨m1, m2, m3, m4, m5⟩ := nS
  refine ⟨?_, k _ _ m2 hTI, D1.frame _ _ _ s1 fun b hb o e => k b o (fun q => m4 (q ▸ hb)) e, D2.frame _ _ _ s2 fun b hb o e => k b o (fun q => m5 (q ▸ hb)) e⟩
  rcases hz with ⟨h, hTO⟩ | ⟨T, f, oT, h, hT, e1, e2, e3, e4⟩
  · exact .inl ⟨k _ _ m1 h, k _ _ m3 hTO⟩
  · exact .inr ⟨T, f, oT, k _ _ m1 h, k _ _ e2 hT, e1, e2, e3, e4⟩
theorem zLoop {S : Addr} (hh : A.handled = none) (D : ZipSep2 z TI TO i1 i2 f1 f2) (D1 : Draws prog w A.in1.in1 i1 f1 n P1 S1) (D2 : Draws prog w A.in1.in1 i2 f2 n P2 S2) (nS : z ≠ S ∧ TI ≠ S ∧ TO ≠ S ∧ S ∉ f1 ∧ S ∉ f2) (lt : z < S ∧ TO < S ∧ i1 < S ∧ i2 < S) (hn : n ≤ sizeLine) (res : Value) {h0 : Heap}
    (hR : ∀ h' tk acc c ts, (∀ b o, b ≠ S → b ≠ z → b ≠ TO → b ≠ i1 → b ≠ i2 → h0.get? b = some o → h'.get? b = some o) → h'.get? S = some { cls := .type "list", dict := none, data := .seq acc c, slots := #[] } → ts.length = n → ZOut P1 P2 S h' ts → acc.toList = ts.map Value.ref → R (.ok (.ret res)) { st with heap := h', toks := tk }) :
    ∀ (k i : Nat) (h : Heap) (tk c : Nat) (acc : Array Value) (ts : List Addr), n - i = k → i ≤ n → ZAt z TI TO i1 i2 S1 S2 S i h → (∀ b o, b ≠ S → b ≠ z → b ≠ TO → b ≠ i1 → b ≠ i2 → h0.get? b = some o → h.get? b = some o) →
      h.get? S = some { cls := .type "list", dict := none, data := .seq acc c, slots := #[] } → acc.toList = ts.map Value.ref → ts.length = i → ZOut P1 P2 S h ts →
      codeAny (model prog w) A (.builtin "list.extend.loop" ⟨[.ref S, .ref z, res], []⟩) R { st with heap := h, toks := tk } := by
  obtain ⟨lz, lT, g1, g2⟩ := lt
  have hS1 : S ≠ z := Nat.ne_of_gt lz
  have hS2 : S ≠ TO := Nat.ne_of_gt lT
  have hS3 : S ≠ i1 := Nat.ne_of_gt g1
  have hS4 : S ≠ i2 := Nat.ne_of_gt g2
  intro k
  induction k with
  | zero =>
    intro i h tk c acc ts hk hi hz kp hS hacc hal hG
    have e : i = n := by omega
    subst e
    refine codeAny_builtin PySem.F.entry_extend_loop ?_
    rw [Around.under_plainId PySem.F.plain_extend_loop _]
    show wpAny _ A.in1 (pyNext (.ref z) >>= _) _ _ _
    refine wpAny_bind (zNextEnd (st := { st with heap := h, toks := tk }) (A := A.in1) hh D D1 D2 hz fun h' tk' he => ?_)
    replace he : ∀ c o, c ≠ z → c ≠ TO → c ≠ i1 → c ≠ i2 → h.get? c = some o → h'.get? c = some o := he
    refine wpAny_pure (hR h' tk' acc c ts (fun b o q1 q2 q3 q4 q5 e => he b o q2 q3 q4 q5 (kp b o q1 q2 q3 q4 q5 e)) (he S _ hS1 hS2 hS3 hS4 hS) hal ⟨hG.up, hG.lo, fun j a hj => ?_⟩ hacc)
    obtain ⟨x, y, p1, p2, e3⟩ := hG.is j a hj
    have hb := hG.lo a (List.mem_of_getElem? hj)
    exact ⟨x, y, p1, p2, he a _ (Nat.ne_of_gt (Nat.lt_trans lz hb)) (Nat.ne_of_gt (Nat.lt_trans lT hb)) (Nat.ne_of_gt (Nat.lt_trans g1 hb)) (Nat.ne_of_gt (Nat.lt_trans g2 hb)) e3⟩
  | succ k ih =>
    intro i h tk c acc ts hk hi hz kp hS hacc hal hG
    have hlt : i < n := by omega
    have hsz : acc.size = i := by rw [← Array.length_toList, hacc, List.length_map, hal]
    have hSl : S < h.objs.size := Heap.lt_size hS
    refine codeAny_builtin PySem.F.entry_extend_loop ?_
    rw [Around.under_plainId PySem.F.plain_extend_loop _]
    show wpAny _ A.in1 (pyNext (.ref z) >>= _) _ _ _
    refine wpAny_bind (zNextItem (st := { st with heap := h, toks := tk }) (A := A.in1) (S := S) D D1 D2 hz hlt hlt hSl (Nat.lt_trans lz hSl) (Nat.lt_trans g1 hSl) (Nat.lt_trans g2 hSl) fun x1 x2 h' tk' p1 p2 hz' ht hsz' hkp => ?_)
    replace ht : IsTupOf2 h' h.objs.size x1 x2 := ht
    replace hsz' : h'.objs.size = h.objs.size + 1 := hsz'
    replace hkp : ∀ c o, c ≠ z → c ≠ TO → c ≠ i1 → c ≠ i2 → h.get? c = some o → h'.get? c = some o := hkp
    have hS' := hkp S _ hS1 hS2 hS3 hS4 hS
    have up : ∀ b o, b ≠ S → h'.get? b = some o → (h'.update S (Obj.mapSeq (·.push (Value.ref h.objs.size)))).get? b = some o := fun b o hb e => (Heap.get?_update_other _ _ (Ne.symm hb)).trans e
    have hnew : h.objs.size ≠ S := Nat.ne_of_gt hSl
    show wpAny _ A.in1 (updateSeq S (·.push (Value.ref h.objs.size)) >>= _) _ _ _
    refine wpAny_bind ?_
    refine wpAny_updateSeq hS' rfl (wpAny_pure ⟨plainId_quiet PySem.F.plain_extend_loop _, ih (i + 1) _ tk' _ (acc.push (Value.ref h.objs.size)) (ts ++ [h.objs.size]) (by omega) hlt (hz'.keep D D1 D2 up nS)
      (fun b o q1 q2 q3 q4 q5 e => up b o q1 (hkp b o q2 q3 q4 q5 (kp b o q1 q2 q3 q4 q5 e))) (Heap.get?_update_self _ hS' rfl) (by rw [Array.toList_push, hacc, List.map_append]; rfl) (by rw [List.length_append, hal]; rfl) ⟨?_, ?_, ?_⟩⟩) (by rw [hsz]; omega) (by show (acc.push (Value.ref h.objs.size)).size ≤ sizeLine + 1; rw [Array.size_push, hsz]; omega)
    · refine List.pairwise_append.mpr ⟨hG.up, List.pairwise_singleton _ _, fun a ha b hb => ?_⟩
      rw [List.mem_singleton.mp hb]
      exact hG.there ha
    · intro a ha
      rcases List.mem_append.mp ha with ha | ha
      · exact hG.lo a ha
      · rw [List.mem_singleton.mp ha]
        exact hSl
    · intro j b hj
      rcases Nat.lt_or_ge j ts.length with q | q
      · rw [List.getElem?_append_left q] at hj
        obtain ⟨x, y, r1, r2, e3⟩ := hG.is j b hj
        have hb := hG.lo b (List.mem_of_getElem? hj)
        exact ⟨x, y, r1, r2, up b _ (Nat.ne_of_gt hb) (hkp b _ (Nat.ne_of_gt (Nat.lt_trans lz hb)) (Nat.ne_of_gt (Nat.lt_trans lT hb)) (Nat.ne_of_gt (Nat.lt_trans g1 hb)) (Nat.ne_of_gt (Nat.lt_trans g2 hb)) e3)⟩
      · by_cases q2 : j = ts.length
        · subst q2
          have hb : h.objs.size = b := by simpa using hj
          subst hb
          rw [hal]
          exact ⟨x1, x2, p1, p2, up _ _ hnew ht⟩
        · rw [List.getElem?_eq_none (by rw [List.length_append, List.length_singleton]; omega)] at hj
          cases hj
theorem zExtend {S : Addr} (hh : A.handled = none) (D : ZipSep2 z TI TO i1 i2 f1 f2) (D1 : Draws prog w A.in1.in1 i1 f1 n P1 S1) (D2 : Draws prog w A.in1.in1 i2 f2 n P2 S2) (nS : z ≠ S ∧ TI ≠ S ∧ TO ≠ S ∧ S ∉ f1 ∧ S ∉ f2) (lt : z < S ∧ TO < S ∧ i1 < S ∧ i2 < S) (hn : n ≤ sizeLine) (res : Value) (c0 : Nat)
    (h1 : IsZip st.heap z TI TO .none) (h2 : IsTupOf2 st.heap TO .none .none) (h3 : IsTupOf2 st.heap TI (.ref i1) (.ref i2)) (s1 : S1 0 st.heap) (s2 : S2 0 st.heap) (hS : st.heap.get? S = some { cls := .type "list", data := .seq #[] c0 })
    (hR : ∀ h' tk acc c ts, (∀ b o, b ≠ S → b ≠ z → b ≠ TO → b ≠ i1 → b ≠ i2 → st.heap.get? b = some o → h'.get? b = some o) → h'.get? S = some { cls := .type "list", dict := none, data := .seq acc c, slots := #[] } → ts.length = n → ZOut P1 P2 S h' ts → acc.toList = ts.map Value.ref → R (.ok (.ret res)) { st with heap := h', toks := tk }) :
    wpAny (model prog w) A.in1 (Builtin.List.listExtendWith (.ref S) (.ref z) res)
      (fun fin s' => match fin with | .done f => R (.ok f) s' | .again c' => c'.quiet = true ∧ codeAny (model prog w) A c' R s') (fun e s' => R (.error e) s') st := by
  have hT : st.TypeIs (.ref z) "zip" := ⟨_, h1, rfl⟩
  have hz : ZAt z TI TO i1 i2 S1 S2 S 0 st.heap := ⟨.inl ⟨h1, h2⟩, h3, s1, s2⟩
  have key : ∀ (h : Heap) (c₁ tk : Nat), (∀ b o, b ≠ S → st.heap.get? b = some o → h.get? b = some o) → h.get? S = some { cls := .type "list", data := .seq #[] c₁ } → codeAny (model prog w) A (.builtin "list.extend.loop" ⟨[.ref S, .ref z, res], []⟩) R { st with heap := h, toks := tk } := fun h c₁ tk hk hS₁ =>
    zLoop (h0 := st.heap) hh D D1 D2 nS lt hn res hR n 0 h tk c₁ #[] [] (Nat.sub_zero _) (Nat.zero_le _) (hz.keep D D1 D2 hk nS) (fun b o q1 _ _ _ _ e => hk b o q1 e) hS₁ rfl rfl ⟨List.Pairwise.nil, (fun _ ha => nomatch ha), (fun j a hj => by simp at hj)⟩
  unfold Builtin.List.listExtendWith
  refine wpAny_bind (wpAny_typeOf (T := "zip") hT ?_)
  have q1 : Builtin.List.listSameRef (.ref S) (.ref z) = false := by simp [Builtin.List.listSameRef, nS.1.symm]
  have q2 : (Value.type "zip" == Value.type "list") = false := by decide
  have q3 : (Value.type "zip" == Value.type "tuple") = false := by decide
  simp only [q1, q2, q3, Bool.or_false, Bool.false_eq_true, if_false]
  refine wpAny_bind (wpAny_pyIter_zip h1 ?_)
  refine wpAny_bind (wpAny_holding (zipHint hT ?_))
  refine wpAny_ite_split (fun _ => ?_) (fun _ => wpAny_pure ⟨plainId_quiet PySem.F.plain_extend_loop _, key _ c0 _ (fun b o _ e => e) hS⟩)
  refine wpAny_bind (wpAny_rule ?_)
  refine wpAny_bind ?_
  show wpAny _ _ (updateSeq S (·.push .none) >>= fun _ => updateSeq S (·.pop)) _ _ _
  refine wpAny_bind (wpAny_updateSeq hS rfl ?_)
  have hS₂ := Heap.get?_update_self (Obj.mapSeq (·.push Value.none)) hS rfl
  refine wpAny_updateSeq (hz := by seq_fits) hS₂ rfl ?_
  have hS₃ := Heap.get?_update_self (Obj.mapSeq (·.pop)) hS₂ rfl
  refine wpAny_pure ⟨plainId_quiet PySem.F.plain_extend_loop _, key _ _ _ (fun b o hb e => ?_) hS₃⟩
  exact (Heap.get?_update_other _ _ (Ne.symm hb)).trans ((Heap.get?_update_other _ _ (Ne.symm hb)).trans e)
theorem zInit {S : Addr} (hh : A.handled = none) (D : ZipSep2 z TI TO i1 i2 f1 f2) (D1 : Draws prog w A.in1.in1 i1 f1 n P1 S1) (D2 : Draws prog w A.in1.in1 i2 f2 n P2 S2) (nS : z ≠ S ∧ TI ≠ S ∧ TO ≠ S ∧ S ∉ f1 ∧ S ∉ f2) (lt : z < S ∧ TO < S ∧ i1 < S ∧ i2 < S) (hn : n ≤ sizeLine)
    (h1 : IsZip st.heap z TI TO .none) (h2 : IsTupOf2 st.heap TO .none .none) (h3 : IsTupOf2 st.heap TI (.ref i1) (.ref i2)) (s1 : S1 0 st.heap) (s2 : S2 0 st.heap) (hS : st.heap.get? S = some { cls := .type "list", data := .seq #[] })
    (hR : ∀ h' tk acc c ts, (∀ b o, b ≠ S → b ≠ z → b ≠ TO → b ≠ i1 → b ≠ i2 → st.heap.get? b = some o → h'.get? b = some o) → h'.get? S = some { cls := .type "list", dict := none, data := .seq acc c, slots := #[] } → ts.length = n → ZOut P1 P2 S h' ts → acc.toList = ts.map Value.ref → R (.ok (.ret .none)) { st with heap := h', toks := tk }) :
    wpAny (model prog w) A.in1 (Builtin.«list.__init__» ⟨[.ref S, .ref z], []⟩)
      (fun fin s' => match fin with | .done f => R (.ok f) s' | .again c' => c'.quiet = true ∧ codeAny (model prog w) A c' R s') (fun e s' => R (.error e) s') st := by
  show wpAny _ _ (do let old ← Builtin.List.listItems (.ref S); Builtin.List.listUpdate (.ref S) (fun _ => #[]); letGo old.toList.reverse; Builtin.List.listExtendWith (.ref S) (.ref z) .none) _ _ st
  refine wpAny_bind ?_
  unfold Builtin.List.listItems
  refine wpAny_bind (wpAny_seqItems hS rfl (wpAny_pure ?_))
  show wpAny _ _ (updateSeq S (fun _ => #[]) >>= fun _ => letGo (#[] : Array Value).toList.reverse >>= fun _ => Builtin.List.listExtendWith (.ref S) (.ref z) .none) _ _ st
  refine wpAny_bind (wpAny_updateSeq hS rfl ?_)
  have hS₂ := Heap.get?_update_self (Obj.mapSeq (fun _ => (#[] : Array Value))) hS rfl
  have oth : ∀ b o, b ≠ S → st.heap.get? b = some o → (st.heap.update S (Obj.mapSeq (fun _ => (#[] : Array Value)))).get? b = some o :=
    fun b o hb e => (Heap.get?_update_other _ _ (Ne.symm hb)).trans e
  refine wpAny_bind (wpAny_letGo ?_)
  obtain ⟨m1, m2, m3, m4, m5⟩ := nS
  refine zExtend (st := { st with heap := st.heap.update S (Obj.mapSeq (fun _ => (#[] : Array Value))) }) hh D D1 D2 ⟨m1, m2, m3, m4, m5⟩ lt hn .none _ (oth _ _ m1 h1) (oth _ _ m3 h2) (oth _ _ m2 h3) (D1.frame _ _ _ s1 fun b hb o e => oth b o (fun q => m4 (q ▸ hb)) e) (D2.frame _ _ _ s2 fun b hb o e => oth b o (fun q => m5 (q ▸ hb)) e) hS₂ fun h' tk acc c ts hk hS' hl hG hacc => ?_
  exact hR h' tk acc c ts (fun b o q1 q2 q3 q4 q5 e => hk b o q1 q2 q3 q4 q5 (oth b o q1 e)) hS' hl hG hacc
theorem zCall {Qr : Value → Shared → Prop} (hh : A.handled = none) (D : ZipSep2 z TI TO i1 i2 f1 f2) (D1 : Draws prog w A.in1.in1.in1 i1 f1 n P1 S1) (D2 : Draws prog w A.in1.in1.in1 i2 f2 n P2 S2) (b1 : ∀ b ∈ f1, b < st.heap.objs.size) (b2 : ∀ b ∈ f2, b < st.heap.objs.size) (hn : n ≤ sizeLine)
    (h1 : IsZip st.heap z TI TO .none) (h2 : IsTupOf2 st.heap TO .none .none) (h3 : IsTupOf2 st.heap TI (.ref i1) (.ref i2)) (s1 : S1 0 st.heap) (s2 : S2 0 st.heap)
    (hQ : ∀ h' tk acc c ts, (∀ b o, b ≠ z → b ≠ TO → b ≠ i1 → b ≠ i2 → st.heap.get? b = some o → h'.get? b = some o) → h'.get? st.heap.objs.size = some { cls := .type "list", dict := none, data := .seq acc c, slots := #[] } → ts.length = n → ZOut P1 P2 st.heap.objs.size h' ts → acc.toList = ts.map Value.ref → Qr (.ref st.heap.objs.size) { st with heap := h', toks := tk }) :
    wpAny (model prog w) A (call (.type "list") [.ref z]) Qr E st := by
  refine callType_codes (Q₁ := fun obj s₁ => obj = .ref st.heap.objs.size ∧ s₁ = { st with heap := st.heap.push { cls := .type "list", data := .seq #[] } }) PySem.F.called_list (PySem.F.typeCall_list_1 _) PySem.F.entry_list_init
    (code_list_new _ ⟨rfl, rfl⟩) fun obj s₁ hq => ?_
  obtain ⟨rfl, rfl⟩ := hq
  have hS : (st.heap.push { cls := .type "list", data := .seq #[] }).get? st.heap.objs.size = some { cls := .type "list", data := .seq #[] } := Heap.get?_push_size _ rfl
  have oth : ∀ b o, st.heap.get? b = some o → (st.heap.push { cls := .type "list", data := .seq #[] }).get? b = some o := fun b o e => Heap.get?_push_of_some _ e
  have lz : z < st.heap.objs.size := Heap.lt_size h1
  have lO : TO < st.heap.objs.size := Heap.lt_size h2
  have lI : TI < st.heap.objs.size := Heap.lt_size h3
  refine ⟨⟨_, hS, rfl⟩, PySem.F.args_list_init_2 _ _, zInit (A := A.in1) hh D D1 D2 ⟨Nat.ne_of_lt lz, Nat.ne_of_lt lI, Nat.ne_of_lt lO, fun q => Nat.lt_irrefl _ (b1 _ q), fun q => Nat.lt_irrefl _ (b2 _ q)⟩ ⟨lz, lO, b1 _ D.mem1, b2 _ D.mem2⟩ hn (oth _ _ h1) (oth _ _ h2) (oth _ _ h3) (D1.frame _ _ _ s1 fun b _ o e => oth b o e) (D2.frame _ _ _ s2 fun b _ o e => oth b o e) hS fun h' tk acc c ts hk hS' hl hG hacc => ?_⟩
  exact ⟨rfl, hQ h' tk acc c ts (fun b o q2 q3 q4 q5 e => hk b o (Nat.ne_of_lt (Heap.lt_size e)) q2 q3 q4 q5 (oth b o e)) hS' hl hG hacc⟩
end
/-! ### tracked -/
def putP : Hp → List Addr → List (V × V) → Hp
  | H, a :: ts, p :: ps => putP (upd H a (.tup [p.1, p.2])) ts ps
  | H, _, _ => H
theorem putP_off {b : Addr} : ∀ (ts : List Addr) (ps : List (V × V)) (H : Hp), b ∉ ts → putP H ts ps b = H b
  | [], _, _, _ => rfl
  | _ :: _, [], _, _ => rfl
  | a :: ts, p :: ps, H, h => by
    rw [List.mem_cons, not_or] at h
    show putP (upd H a _) ts ps b = _
    rw [putP_off ts ps _ h.2, upd_ne h.1]
theorem putP_at : ∀ (ts : List Addr) (ps : List (V × V)) (H : Hp), ts.Nodup → ∀ (j : Nat) (a : Addr) (p : V × V), ts[j]? = some a → ps[j]? = some p → putP H ts ps a = some (.tup [p.1, p.2])
  | [], _, _, _, _, _, _, h, _ => by simp at h
  | _ :: _, [], _, _, _, _, _, _, h => by simp at h
  | t :: ts, q :: ps, H, hn, 0, a, p, h1, h2 => by
    have e1 := Option.some.inj h1
    have e2 := Option.some.inj h2
    subst e1
    subst e2
    show putP (upd H t _) ts ps t = _
    rw [putP_off ts ps _ (List.nodup_cons.mp hn).1, upd_same]
  | t :: ts, q :: ps, H, hn, j + 1, a, p, h1, h2 => putP_at ts ps _ (List.nodup_cons.mp hn).2 j a p (by simpa using h1) (by simpa using h2)
section
variable {X : Cx} {pins : List (Addr × Obj)} {σ : L2.St} {H : Hp} {s : Shared}
theorem zLaid {h' : Heap} {tk : Nat} {ps : List (V × V)} {acc : Array Value} {c : Nat} {ts : List Addr} {S : Addr} {P1 P2 : Nat → Value → Prop} (I : Inv X pins σ H s) (hz : ps.length ≤ sizeLine) (hSn : s.heap.objs.size ≤ S)
    (hk : ∀ b o, s.heap.get? b = some o → h'.get? b = some o) (hS : h'.get? S = some { cls := .type "list", dict := none, data := .seq acc c, slots := #[] }) (hl : ts.length = ps.length) (hG : ZOut P1 P2 S h' ts) (hacc : acc.toList = ts.map Value.ref)
    (r1 : ∀ j p x, ps[j]? = some p → P1 j x → RelV p.1 x) (r2 : ∀ j p x, ps[j]? = some p → P2 j x → RelV p.2 x) :
    ∃ H' : Hp, Same H H' ∧ H S = none ∧ H' S = some (.lst (ts.map V.ref)) ∧ (∀ (j : Nat) (a : Addr) (p : V × V), ts[j]? = some a → ps[j]? = some p → H' a = some (.tup [p.1, p.2])) ∧ Inv X pins σ H' { s with heap := h', toks := tk } := by
  have nd : ts.Nodup := List.Pairwise.imp (fun {a b} (h : a < b) => Nat.ne_of_lt h) hG.up
  have offS : S ∉ ts := fun q => Nat.lt_irrefl _ (hG.lo _ q)
  have lo : ∀ t ∈ ts, s.heap.objs.size ≤ t := fun t ht => Nat.le_trans hSn (Nat.le_of_lt (hG.lo t ht))
  have new : ∀ t ∈ ts, H t = none := fun t ht => I.hok.fresh (lo t ht)
  have newS : H S = none := I.hok.fresh hSn
  have off : ∀ b, b ∉ ts → b ≠ S → putP (upd H S (.lst (ts.map V.ref))) ts ps b = H b := fun b q1 q2 => by rw [putP_off ts ps _ q1, upd_ne q2]
  have kp : Same H (putP (upd H S (.lst (ts.map V.ref))) ts ps) := fun b u e => by
    rw [off b (fun q => by rw [new b q] at e; cases e) (fun q => by rw [q, newS] at e; cases e)]
    exact e
  have eS : putP (upd H S (.lst (ts.map V.ref))) ts ps S = some (.lst (ts.map V.ref)) := by rw [putP_off ts ps _ offS, upd_same]
  have at_ := putP_at ts ps (upd H S (.lst (ts.map V.ref))) nd
  refine ⟨_, kp, newS, eS, at_, ?_⟩
  refine I.call' (ch := []) rfl ⟨fun b o q _ _ _ => hk b o q, fun b o q _ _ _ => ⟨o.slots, hk b o q⟩, fun b o q n _ => ?_, fun b o q _ => ⟨o, hk b o q⟩, fun b xs q => kp b _ q, fun b o u q => kp b _ q, fun b qs q => ⟨#[], by rw [kp b _ q]; simp⟩⟩ (fun b u q => ?_) I.bare fun b q => by simp at q
  · have q1 : b < s.heap.objs.size := Heap.lt_size q
    rw [off b (fun q2 => Nat.lt_irrefl _ (Nat.lt_of_lt_of_le q1 (lo b q2))) (fun q2 => Nat.lt_irrefl _ (Nat.lt_of_lt_of_le q1 (q2 ▸ hSn)))]
    exact n
  · by_cases hb : b ∈ ts
    · obtain ⟨j, hj⟩ := List.mem_iff_getElem?.mp hb
      have hjl : j < ps.length := by rw [← hl]; exact (List.getElem?_eq_some_iff.mp hj).1
      have hp : ps[j]? = some ps[j] := List.getElem?_eq_getElem hjl
      rw [at_ j b _ hj hp] at q
      cases q
      obtain ⟨x, y, p1, p2, e3⟩ := hG.is j b hj
      exact ⟨by show 2 ≤ sizeLine; decide, [x, y], .cons (r1 j _ x hp p1) (.cons (r2 j _ y hp p2) .nil), ⟨_, e3, rfl, _, rfl⟩⟩
    · by_cases hb2 : b = S
      · rw [hb2, eS] at q
        cases q
        rw [hb2]
        refine ⟨by rw [List.length_map]; omega, acc.toList, c, by rw [hacc]; exact LiI.vals_refs ts, ?_⟩
        rw [Array.toArray_toList]
        exact hS
      · rw [off b hb hb2] at q
        exact (I.hok b u q).stay (fun d v _ y => hk d v y) (fun d y => kp d _ y) fun d xs y => kp d _ y
end
end Gc
namespace Gc
open PySem PySem.Spec PyProof.Rows L2
def pairD (ds es : List PyData) : List PyData := (List.range ds.length).map fun i => .tuple [ds.getD i .none, es.getD i .none]
section
variable {m : Md} {X : Cx} {σ : L2.St} {H : Hp} {e1 e2 : Expr} {pos p pos2 p2 : Pos} {ds es : List PyData}
theorem jl_listZip (hc : X.calm = true) (hm : X.mg "list" = none) (hz : X.mg "zip" = none) (ja : JD m X σ H e1 (.list ds)) (jb : JD m X σ H e2 (.tuple es)) (hl : ds.length = es.length) (hn : ds.length ≤ 1000) (hg : Gl X "list" := by rfl) (hg2 : Gl X "zip" := by rfl) (hv : bootBuiltins "list" = some (.type "list") := by decide +kernel)
    (hs : starEach [.Call (.Name "zip" p2) [e1, e2] [] pos2] X.env = (false, eval (.Call (.Name "zip" p2) [e1, e2] [] pos2) X.env) :: starEach [] X.env := by rfl)
    (hs1 : starEach [e1, e2] X.env = (false, eval e1 X.env) :: starEach [e2] X.env := by rfl) (hs2 : starEach [e2] X.env = (false, eval e2 X.env) :: starEach [] X.env := by rfl) (hpl : (backTo pos2 (starEach [e2] X.env)).any (·.1) = false := by rfl) : JL m X σ H (.Call (.Name "list" p) [.Call (.Name "zip" p2) [e1, e2] [] pos2] [] pos) (pairD ds es) := fun H1 w Q q pins s I => by
  refine wpAny_Call_Name_kw (ld_blt I hg hm hv ?_)
  refine PyProof.Rows.callWith_type1 ?_ hs rfl
  rw [hs]
  show wpAny _ _ (spliced ((false, eval (.Call (.Name "zip" p2) [e1, e2] [] pos2) X.env) :: backTo pos (starEach [] X.env))) _ _ s
  refine Calls.spliced_cons ?_
  have ha := ja_cons ja (ja_cons jb ja_nil hs2) hs1 H1 w (fun vs H2 => Wm m H1 H2 ∧ IrA X.K m.M H2 vs [.d (.list ds), .d (.tuple es)]) (fun vs H2 w2 r => ⟨w2, r⟩)
  refine Call_ (ld_blt I hg2 hz PyProof.Rows.boot_zip (PyProof.Rows.callWith_type1 (thn (ha pos2 pins s I) fun us s1 ⟨vs, H2, I1, r1, w2, r2⟩ => ?_) hs1 hpl))
  obtain ⟨v, u, rfl, q1, q2⟩ := r2.two
  obtain ⟨a, xs, rfl, g1, g2, g3⟩ := Dr.litems q1
  obtain ⟨b, ys, rfl, k1, k3⟩ := Dr.items q2
  obtain ⟨x1, x2, rfl, rx1, rx2⟩ := vals2 r1
  cases rx1
  cases rx2
  obtain ⟨z1, its, nn, rv, hlen, ho⟩ := I1.lstM g1
  obtain ⟨jts, rw', ht, hz'⟩ := I1.tuple k1
  have lx : its.length = ds.length := by rw [← hlen, g3.len]
  have ly : jts.length = es.length := by rw [← rw'.length, k3.len]
  have isl : s1.heap.IsList a its.toArray := ⟨_, ho, rfl, nn, rfl⟩
  have ist : s1.heap.IsTuple b jts.toArray := ht
  have la : a < s1.heap.objs.size := Heap.lt_size ho
  have lb : b < s1.heap.objs.size := by
    obtain ⟨o, h, _⟩ := ist
    exact Heap.lt_size h
  refine zip_begins2 (begins_list a its.toArray) (begins_tuple b jts.toArray) isl ist fun h' y1 y2 y3 y4 y5 y6 y7 => ?_
  refine Calls.spliced_nil ?_
  have hc0 := I1.ok.hd hc
  have D := zip_sep2 (N := s1.heap.objs.size) (fp1 := [a]) (fp2 := [b]) (fun c hc => by rw [List.mem_singleton.mp hc]; exact la) (fun c hc => by rw [List.mem_singleton.mp hc]; exact lb)
  have en : its.toArray.size = jts.toArray.size := by
    simp
    omega
  have D1 := Draws.list (prog := X.prog) (w := X.w) (A := X.A.in1.in1.in1) hc0 s1.heap.objs.size a (Nat.ne_of_lt la) its.toArray
  have D2 := Draws.tuple (prog := X.prog) (w := X.w) (A := X.A.in1.in1.in1) hc0 (s1.heap.objs.size + 1) b (Nat.ne_of_lt (Nat.lt_succ_of_lt lb)) jts.toArray
  rw [← en] at D2
  have sz' : its.toArray.size ≤ sizeLine := by
    have := hlen
    simp
    omega
  refine zCall (st := { s1 with heap := h' }) hc0 D D1 D2 (fun c hc => ?_) (fun c hc => ?_) sz' y1 y3 y2 ⟨⟨_, y4, rfl, rfl⟩, isl.at fun o e => y7 _ _ e⟩ ⟨⟨_, y5, rfl, rfl⟩, ist.at fun o e => y7 _ _ e⟩ fun h2 tk acc c ts hk hS hlt hG hacc => ?_
  · have e : c = s1.heap.objs.size ∨ c = a := by simpa using hc
    show c < h'.objs.size
    rw [y6]
    rcases e with rfl | rfl
    · exact Nat.lt_add_of_pos_right (by decide)
    · exact Nat.lt_of_lt_of_le la (Nat.le_add_right _ _)
  · have e : c = s1.heap.objs.size + 1 ∨ c = b := by simpa using hc
    show c < h'.objs.size
    rw [y6]
    rcases e with rfl | rfl
    · exact Nat.add_lt_add_left (by decide) _
    · exact Nat.lt_of_lt_of_le lb (Nat.le_add_right _ _)
  have kp : ∀ c o, s1.heap.get? c = some o → h2.get? c = some o := fun c o e => by
    have lt : c < s1.heap.objs.size := Heap.lt_size e
    exact hk c o (show c ≠ s1.heap.objs.size + 4 by exact Nat.ne_of_lt (by exact Nat.lt_of_lt_of_le lt (Nat.le_add_right _ _))) (Nat.ne_of_lt (Nat.lt_of_lt_of_le lt (Nat.le_add_right _ _))) (Nat.ne_of_lt lt) (Nat.ne_of_lt (Nat.lt_of_lt_of_le lt (Nat.le_add_right _ _))) (y7 _ _ e)
  have hlx : xs.length = ds.length := g3.len
  have hly : ys.length = es.length := k3.len
  have hps : (xs.zip ys).length = ds.length := by rw [List.length_zip]; omega
  have hts : ts.length = ds.length := by rw [hlt]; simp; omega
  have r1 : ∀ (j : Nat) (pq : V × V) (x : Value), (xs.zip ys)[j]? = some pq → its.toArray[j]? = some x → RelV pq.1 x := fun j pq x h1 h2 => by
    obtain ⟨u0, hu0, ru0⟩ := rv.get (show xs[j]? = some pq.1 by
      have := (List.getElem?_zip_eq_some.mp h1).1
      exact this)
    have e : its.toArray[j]? = some x := h2
    have e' : its[j]? = some x := by simpa using e
    rw [hu0] at e'
    cases e'
    exact ru0
  have r2 : ∀ (j : Nat) (pq : V × V) (x : Value), (xs.zip ys)[j]? = some pq → jts.toArray[j]? = some x → RelV pq.2 x := fun j pq x h1 h2 => by
    obtain ⟨u0, hu0, ru0⟩ := rw'.get (show ys[j]? = some pq.2 by
      have := (List.getElem?_zip_eq_some.mp h1).2
      exact this)
    have e : jts.toArray[j]? = some x := h2
    have e' : jts[j]? = some x := by simpa using e
    rw [hu0] at e'
    cases e'
    exact ru0
  obtain ⟨H', c1, c2, c3, c4, c5⟩ := zLaid (tk := tk) (ps := xs.zip ys) (S := h'.objs.size) I1 (by rw [hps]; exact Nat.le_of_lt (small1000 hn)) (by rw [y6]; omega) kp hS (by rw [hps, hts]) hG hacc r1 r2
  · have w3 : Wm m H2 H' := (w.trans w2).rfl1.same c1
    refine ⟨.ref h'.objs.size, H', c5, rfl, q _ _ H' (wm_back w2 c2) (w2.trans w3) c3 ?_⟩
    have g3' := DrA.mono w3 _ _ g3
    have k3' := DrA.mono w3 _ _ k3
    have main : ∀ (n : Nat), n ≤ ds.length → DrA X.K m.M H' ((ts.take n).map V.ref) ((List.range n).map fun i => .tuple [ds.getD i .none, es.getD i .none]) := by
      intro n
      induction n with
      | zero => exact fun _ => .nil
      | succ n ih =>
        intro hn'
        have hn1 : n < ts.length := by omega
        rw [List.take_succ_eq_append_getElem hn1, List.map_append, List.range_succ, List.map_append]
        refine (ih (by omega)).append (.one ?_)
        have hx : n < xs.length := by omega
        have hy : n < ys.length := by omega
        have hzp : (xs.zip ys)[n]? = some (xs[n], ys[n]) := by
          rw [List.getElem?_eq_getElem (by rw [hps]; omega), List.getElem_zip]
        have hat := c4 n ts[n] _ (List.getElem?_eq_getElem hn1) hzp
        obtain ⟨u1, d1, d2⟩ := g3'.at (get_some (show n < ds.length by omega))
        obtain ⟨u2, d3, d4⟩ := k3'.at (get_some (show n < es.length by omega))
        rw [List.getElem?_eq_getElem hx] at d1
        rw [List.getElem?_eq_getElem hy] at d3
        cases d1
        cases d3
        exact .tup hat (.cons d2 (.cons d4 .nil))
    have fin := main ds.length (Nat.le_refl _)
    rw [List.take_of_length_le (by omega)] at fin
    exact fin
end
end Gc
namespace Gc
open PySem PySem.Spec PyProof.Rows L2
abbrev Cl := List (Int × List (Int × Int))
def clAt (cl : Cl) (i : Nat) : Int × List (Int × Int) := cl.getD i (0, [])
def drC (cl : Cl) (i : Nat) (mo : Int) : Int := dr (clAt cl i).1 (clAt cl i).2 mo
def byT (cl : Cl) (t : Told) : Int := drC cl t.t.b t.mo - drC cl t.t.a t.mo
def taken (cl : Cl) (t : Told) : Tl := ⟨t.t.a, t.t.b, t.t.lo.map (· - byT cl t), t.t.hi.map (· - byT cl t)⟩
structure ToldOk (cl : Cl) (t : Told) : Prop where
  a : t.t.a < cl.length
  b : t.t.b < cl.length
  sm : t.mo.natAbs < 2 ^ 60
  da : (27720 : Int) ∣ t.mo * (clAt cl t.t.a).1
  db : (27720 : Int) ∣ t.mo * (clAt cl t.t.b).1
theorem cl_at {cl : Cl} {i : Nat} (h : i < cl.length) : (cl.map fun c => clk c.1 c.2)[i]? = some (clk (clAt cl i).1 (clAt cl i).2) := by
  unfold clAt
  simp [List.getD, h]
def R_are_gains (ds : List PyData) (d : PyData) : Prop := ∃ gs : List Int, ds = [.tuple (gs.map pt)] ∧ gs.length = 6 ∧ (∀ g ∈ gs, GainOk g) ∧ gs[0]? = some 0 ∧ d = .bool true
def R_moved (ds : List PyData) (d : PyData) : Prop := ∃ o y, ds = [op o, pt y] ∧ d = op (o.map (· - y))
def R_taken (s : PS) (ds : List PyData) (d : PyData) : Prop := ∃ cl td, ds = [clsD cl, tdD td] ∧ (∀ t ∈ td, ToldOk cl t) ∧ td.length ≤ 16 ∧ d = tsD (td.map (taken cl))
def strD (s : PS) (c : Nat) (mo : Int) : PyData := stD ((farD (s.td.map (taken s.cl)) 0 c).map fun z => -z + drC s.cl c mo) ((farD (s.td.map (taken s.cl)) c 0).map (· + drC s.cl c mo))
structure PsOk (s : PS) : Prop where
  cl : s.cl.length = 6
  td : ∀ t ∈ s.td, ToldOk s.cl t
  ts : TsOk (s.td.map (taken s.cl))
def StrOk (s : PS) (c : Nat) (mo : Int) : Prop := PsOk s ∧ c < 6 ∧ mo.natAbs < 2 ^ 60 ∧ (27720 : Int) ∣ mo * (clAt s.cl c).1
def R_str_then (s : PS) (ds : List PyData) (d : PyData) : Prop := ∃ (c : Nat) (mo : Int), ds = [.int c, pt mo] ∧ StrOk s c mo ∧ d = strD s c mo
def R_str_at (s : PS) (ds : List PyData) (d : PyData) : Prop := ∃ (c : Nat) (o : Option Int), ds = [.int c, op o] ∧ 0 ≤ o.getD 0 ∧ StrOk s c (o.getD 0) ∧ d = strD s c (o.getD 0)
def stdD (s : PS) : PyData := .list (s.td.map fun t => .tuple [.int t.n, tlD (taken s.cl t)])
def R_standing (s : PS) (ds : List PyData) (d : PyData) : Prop := ds = [] ∧ PsOk s ∧ d = stdD s
def R_clock_now (s : PS) (ds : List PyData) (d : PyData) : Prop := ∃ c : Nat, ds = [.int c] ∧ c < 6 ∧ s.cl.length = 6 ∧ d = clk (clAt s.cl c).1 (clAt s.cl c).2
def R_len (s : PS) (ds : List PyData) (d : PyData) : Prop := ds = [] ∧ d = .int s.td.length
section
variable {P : Program} {w : World} {K : PySem.W.Frag} {mg : Str → Option Value} {base : Heap}
theorem fo_are_gains (T : Tx K mg) (L : Fo P w K mg base 3 "is_gain" [] (spD K R_is_gain)) (G : Gf K mg "are_gains" s_are_gains []) : Fo P w K mg base 4 "are_gains" [] (spD K R_are_gains) := by
  refine fo_of G sc_are_gains (fun ds d h => by obtain ⟨t, rfl, _⟩ := h; rfl) (fun _ _ _ _ _ _ us hl => match us, hl with | [_], _ => rfl) ?_
  intro f cdv A outer s H vs Q E ds d hr E0 hR hQ
  obtain ⟨gs, rfl, hl, hg, h0, rfl⟩ := hR
  have E1 : En K [] H _ [some (.d (.tuple (gs.map pt))), none] := E0
  refine s_if0 (w_md0 H) (jt_w (jw_or (jt_not (jt_val (j_isi_tt T.isi T.tuple (jd_var 0 E1)))) fun _ => jw_or (t := false) (jt_ne (j_lenT T.len (jd_var 0 E1)) (jg_int T.clocks) (by rw [List.length_map, hl] <;> rfl)) fun _ => jw_or1 (jt_not (jt_val (j_allF (g := fun _ => true) rfl T.all (j_comp [("one", 1)] E1 rfl sc_are_gains.nd (blkOk_by (N := ["thing", "one"]) (sc := defScope s_are_gains) (by decide +kernel)) (sr_tup (jd_var 0 E1)) (by rw [List.length_map]; omega) [1] (fun i => [some (.d (.tuple (gs.map pt))), some (.d ((gs.map pt).getD i .none))]) (by simp) (fun i hi s Hs C cl fp => gt_name 1 sc_are_gains.nd) (fun _ => true) (fun i hi m' hm s Hs C cl fp σ' H' w' E' => jts_nil) (fun i => .bool true) (fun i hi _ m' hm s Hs C cl fp σ' H' w' E' => j_call L hr (jad_cons (jd_var 1 E') jad_nil) ?_)) fun i hi => rfl))))) fun H1 w1 => ?_
  · have hi' : i < gs.length := by simpa using hi
    exact ⟨gs[i], by rw [getD_map pt hi'], hg _ (List.getElem_mem hi'), rfl⟩
  · have E2 := E1.mono (m := md0) w1
    refine s_ret w1.rfl1 (j_eqD hr (j_ixT 0 (d := pt 0) (jd_var 0 E2) j_int rfl (by rw [List.getElem?_map, h0] <;> rfl)) (jg_nought T.nought) (shaped_pt 0) (shaped_pt 0) (by rw [eqv_pt] <;> rfl)) fun v H2 w2 r => hQ v H2 (w1.trans w2) r
theorem fo_moved (L : Fo P w K mg base 3 "minus" [] (spD K R_minus)) (G : Gf K mg "moved" s_moved []) : Fo P w K mg base 4 "moved" [] (spD K R_moved) := by
  refine fo_of G sc_moved (fun ds d h => by obtain ⟨o, y, rfl, _⟩ := h; rfl) (fun _ _ _ _ _ _ us hl => match us, hl with | [_, _], _ => rfl) ?_
  intro f cdv A outer s H vs Q E ds d hr E0 hR hQ
  obtain ⟨o, y, rfl, rfl⟩ := hR
  cases o with
  | none => exact s_ret (w_md0 H) (j_ifT (jt_isN (jd_var 0 E0)) j_non) hQ
  | some x =>
    have E1 : En K [] H _ [some (.d (pt x)), some (.d (pt y))] := E0
    exact s_ret (w_md0 H) (j_ifF (jt_isN (jd_var 0 E1)) (j_call L hr (jad_cons (jd_var 0 E1) (jad_cons (jd_var 1 E1) jad_nil)) ⟨x, y, rfl, rfl⟩)) hQ
variable {C : Addr}
theorem me_taken (T : Tx K mg) (Ld : Fo P w K mg base 5 "drift_by" [] (spD K R_drift_by)) (Lm : Fo P w K mg base 3 "minus" [] (spD K R_minus)) (Lv : Fo P w K mg base 4 "moved" [] (spD K R_moved)) (G : Gq K C "taken_back" "Post.taken_back" m_taken_back []) : Me P w K mg base C 6 "taken_back" [] (spG K C R_taken) := by
  refine me_of G sc_m_taken_back (fun s ds d h => by obtain ⟨t, _, rfl, _⟩ := h; rfl) (fun _ _ _ _ _ _ us hl => match us, hl with | [_, _, _], _ => rfl) ?_
  intro f cdv A outer s H vs Q E a l0 z past ds d hr hp E0 hR hQ
  obtain ⟨cl, td, rfl, htd, hlen, rfl⟩ := hR
  have E1 : En K [] H _ [some (.v (.ref a)), some (.d (clsD cl)), some (.d (tdD td)), none, none, none, none, none, none, none, none] := E0
  refine s_newL 3 (w_md0 H) E1 (jl_lst jad_nil) rfl sc_m_taken_back.nd fun l σ1 H1 hn hM w1 w2 E2 L2' => ?_
  have lP : l ∉ (md0.add l).P := by intro q; cases q
  have lM : l ∈ (md0.add l).M := List.mem_cons_self ..
  refine s_for (m := md0.add l) (n := (td.map toldD).length) w2 PassesOwn.never rfl (sr_tup (jd_var 2 E2)) (fun H2 i σ' H' => Wm (md0.add l) H' H' ∧ Bs (md0.add l).M H2 H' ∧ En K (md0.add l).M H' σ' [some (.v (.ref a)), some (.d (clsD cl)), some (.d (tdD td)), some (.v (.ref l)), none, none, none, none, none, none, none] ∧ Lo K (md0.add l).M H' l (((td.take i).map (taken cl)).map tlD)) (fun H2 w3 => ⟨w3.rfl1, Bs.refl _ _, E2.mono w3, L2'.mono w3 lP⟩) (fun H2 i σ' H' _ h => h.2.1) (fun H2 i σ' H' H'' v w3 hi h k r => ?_) (fun H2 σ' H' w3 h => ?_)
  · obtain ⟨w4, b4, E4, L4⟩ := h
    have hi' : i < td.length := by simpa using hi
    rw [getD_map toldD hi'] at r
    have w5 := w4.same k
    have ht := htd _ (List.getElem_mem hi')
    have e8 : (((td.take (i + 1)).map (taken cl)).map tlD) = ((td.take i).map (taken cl)).map tlD ++ [tlD (taken cl td[i])] := by
      rw [List.take_succ_eq_append_getElem hi', List.map_append, List.map_append]
      rfl
    rw [e8]
    generalize td[i] = t at r ht ⊢
    obtain ⟨n, mo, ta, tb, lo, hi'⟩ := t
    have r' : Dr K (md0.add l).M H'' v (.tuple [.int n, pt mo, .int ta, .int tb, op lo, op hi']) := r
    refine (gt_tup rfl (gts_cons (gt_name 4 sc_m_taken_back.nd) (gts_cons (gt_name 5 sc_m_taken_back.nd) (gts_cons (gt_name 6 sc_m_taken_back.nd) (gts_cons (gt_name 7 sc_m_taken_back.nd) (gts_cons (gt_name 8 sc_m_taken_back.nd) (gts_cons (gt_name 9 sc_m_taken_back.nd) gts_nil))))))).run _ H'' σ' v _ (E4.mono w5) r' fun σ3 E5 _ _ => ?_
    have E6 : En K (md0.add l).M H'' σ3 [some (.v (.ref a)), some (.d (clsD cl)), some (.d (tdD td)), some (.v (.ref l)), some (.d (.int n)), some (.d (pt mo)), some (.d (.int ta)), some (.d (.int tb)), some (.d (op lo)), some (.d (op hi')), none] := E5
    have h1 := ht.a
    have h2 := ht.b
    refine s_asg 10 w5.rfl1 E6 (j_call Lm hr (jad_cons (j_call Ld hr (jad_cons (j_ixT tb (jd_var 1 E6) (jd_var 7 E6) rfl (cl_at h2)) (jad_cons (jd_var 5 E6) jad_nil)) ⟨_, _, mo, rfl, ht.sm, ht.db, rfl⟩) (jad_cons (j_call Ld hr (jad_cons (j_ixT ta (jd_var 1 E6) (jd_var 6 E6) rfl (cl_at h1)) (jad_cons (jd_var 5 E6) jad_nil)) ⟨_, _, mo, rfl, ht.sm, ht.da, rfl⟩) jad_nil)) ⟨_, _, rfl, rfl⟩) sc_m_taken_back.nd fun σ7 H7 w7 E7 => ?_
    have E7' : En K (md0.add l).M H7 σ7 [some (.v (.ref a)), some (.d (clsD cl)), some (.d (tdD td)), some (.v (.ref l)), some (.d (.int n)), some (.d (pt mo)), some (.d (.int ta)), some (.d (.int tb)), some (.d (op lo)), some (.d (op hi')), some (.d (pt (byT cl ⟨n, mo, ta, tb, lo, hi'⟩)))] := E7
    refine s_app w7.rfl1 E7' lM lP ((L4.mono w5 lP).mono w7 lP) (j_var 3 E7') (j_tup (jad_cons (jd_var 6 E7') (jad_cons (jd_var 7 E7') (jad_cons (j_call Lv hr (jad_cons (jd_var 8 E7') (jad_cons (jd_var 10 E7') jad_nil)) ⟨lo, _, rfl, rfl⟩ (by decide) (nolst_op _)) (jad_cons (j_call Lv hr (jad_cons (jd_var 9 E7') (jad_cons (jd_var 10 E7') jad_nil)) ⟨hi', _, rfl, rfl⟩ (by decide) (nolst_op _)) jad_nil))))) (by simp only [List.length_map, List.length_take]; omega) fun H8 w8 b8 E8 L8 _ => s_nil ⟨w8, ((b4.trans (Bs.same k)).trans w7.bs).trans b8, ((((((E8.forget 4).forget 5).forget 6).forget 7).forget 8).forget 9).forget 10, L8⟩
  · obtain ⟨w4, b4, E4, L4⟩ := h
    rw [List.length_map, List.take_of_length_le (Nat.le_refl _)] at L4
    exact s_ret w4 (j_tupleO T.tuple lP L4 (j_var 3 E4)) fun v H5 w5 r => hQ v H5 (fin_w (m0 := md0) (m := md0.add l) rfl rfl w5.rfl1 (((w1.bs.less (M := (md0.add l).M) (fun a ha q => by cases q)).trans w3.bs).trans (b4.trans w5.bs)) fun a ha q => by
      rcases List.mem_cons.mp q with e | e
      · rw [e] at ha
        exact absurd hn ha
      · exact e) (Dr.free (tsD (td.map (taken cl))) v (nolst_ts _) r)
theorem me_str_then (X4 : Cx4 K C) (Lt : Me P w K mg base C 6 "taken_back" [] (spG K C R_taken)) (Ls : Fo P w K mg base 6 "stretch_by" [] (spD K R_stretch_by)) (Ld : Fo P w K mg base 5 "drift_by" [] (spD K R_drift_by)) (Lp : Fo P w K mg base 3 "plus" [] (spD K R_plus)) (G : Gq K C "stretch_then" "Post.stretch_then" m_stretch_then []) : Me P w K mg base C 7 "stretch_then" [] (spG K C R_str_then) := by
  refine me_of G sc_m_stretch_then (fun s ds d h => by obtain ⟨t, _, rfl, _⟩ := h; rfl) (fun _ _ _ _ _ _ us hl => match us, hl with | [_, _, _], _ => rfl) ?_
  intro f cdv A outer s H vs Q E a l0 z past ds d hr hp E0 hR hQ
  obtain ⟨c, mo, rfl, ⟨⟨o1, o2, o3⟩, hc, hsm, hdv⟩, rfl⟩ := hR
  have E1 : En K [] H _ [some (.v (.ref a)), some (.d (.int c)), some (.d (pt mo)), none, none, none] := E0
  have n0 : ∀ x : Addr, x ∉ md0.P := fun x q => by cases q
  refine s_unp (w_md0 H) E1 (j_call0 Ls hr rfl (jad_cons (j_meth X4 Lt hr (n0 _) (n0 _) hp (j_var 0 E1) (jad_cons (j_fldC X4 (n0 _) (n0 _) hp (j_var 0 E1)) (jad_cons (j_fldT X4 (n0 _) (n0 _) hp (j_var 0 E1)) jad_nil)) ⟨z.cl, z.td, rfl, o2, by have := o3.1; rw [List.length_map] at this; exact this, rfl⟩ (.inr rfl)) (jad_cons (jd_var 1 E1) (jad_cons j_int jad_nil))) ⟨_, c, 0, rfl, o3, hc, by decide, rfl⟩) (gt_tup rfl (gts_cons (gt_name 3 sc_m_stretch_then.nd) (gts_cons (gt_name 4 sc_m_stretch_then.nd) gts_nil))) fun σ1 H1 w1 E2 => ?_
  have E2' : En K [] H1 σ1 [some (.v (.ref a)), some (.d (.int c)), some (.d (pt mo)), some (.d (op ((farD (z.td.map (taken z.cl)) 0 c).map (- ·)))), some (.d (op (farD (z.td.map (taken z.cl)) c 0))), none] := E2
  have hp1 := hp.same w1.old
  refine s_asg 5 w1.rfl1 E2' (j_call0 Ld hr rfl (jad_cons (j_ixT c (j_fldC X4 (n0 _) (n0 _) hp1 (j_var 0 E2')) (jd_var 1 E2') rfl (cl_at (by rw [o1]; exact hc))) (jad_cons (jd_var 2 E2') jad_nil)) ⟨_, _, mo, rfl, hsm, hdv, rfl⟩) sc_m_stretch_then.nd fun σ3 H3 w3 E3 => ?_
  refine s_ret w3.rfl1 (j_tup (jad_cons (d := op ((farD (z.td.map (taken z.cl)) 0 c).map fun y => -y + drC z.cl c mo)) ?_ (jad_cons (d := op ((farD (z.td.map (taken z.cl)) c 0).map (· + drC z.cl c mo))) ?_ jad_nil))) fun v H4 w4 r => hQ v H4 ((w1.trans w3).trans w4) r
  · cases hf : farD (z.td.map (taken z.cl)) 0 c with
    | none =>
      have E4 : En K [] H3 σ3 [some (.v (.ref a)), some (.d (.int c)), some (.d (pt mo)), some (.d .none), some (.d (op (farD (z.td.map (taken z.cl)) c 0))), some (.d (pt (drC z.cl c mo)))] := by
        rw [hf] at E3
        exact E3
      exact j_ifT (jt_isN (jd_var 3 E4)) j_non
    | some y =>
      have E4 : En K [] H3 σ3 [some (.v (.ref a)), some (.d (.int c)), some (.d (pt mo)), some (.d (pt (-y))), some (.d (op (farD (z.td.map (taken z.cl)) c 0))), some (.d (pt (drC z.cl c mo)))] := by
        rw [hf] at E3
        exact E3
      exact j_ifF (jt_isN (jd_var 3 E4)) (j_call0 Lp hr rfl (jad_cons (jd_var 3 E4) (jad_cons (jd_var 5 E4) jad_nil)) ⟨_, _, rfl, rfl⟩)
  · cases hf : farD (z.td.map (taken z.cl)) c 0 with
    | none =>
      have E4 : En K [] H3 σ3 [some (.v (.ref a)), some (.d (.int c)), some (.d (pt mo)), some (.d (op ((farD (z.td.map (taken z.cl)) 0 c).map (- ·)))), some (.d .none), some (.d (pt (drC z.cl c mo)))] := by
        rw [hf] at E3
        exact E3
      exact j_ifT (jt_isN (jd_var 4 E4)) j_non
    | some y =>
      have E4 : En K [] H3 σ3 [some (.v (.ref a)), some (.d (.int c)), some (.d (pt mo)), some (.d (op ((farD (z.td.map (taken z.cl)) 0 c).map (- ·)))), some (.d (pt y)), some (.d (pt (drC z.cl c mo)))] := by
        rw [hf] at E3
        exact E3
      exact j_ifF (jt_isN (jd_var 4 E4)) (j_call0 Lp hr rfl (jad_cons (jd_var 4 E4) (jad_cons (jd_var 5 E4) jad_nil)) ⟨_, _, rfl, rfl⟩)
theorem body_str_at (T : Tx K mg) (X4 : Cx4 K C) (Lc : Fo P w K mg base 4 "need_clock_number" [] (spD K R_need_cn)) (Lm : Fo P w K mg base 4 "need_moment" [] (spD K R_need_moment)) (Ls : Me P w K mg base C 7 "stretch_then" [] (spG K C R_str_then)) : BodyG P w K mg base C 7 ["self", "clock", "moment"] "Post.stretch_at" m_stretch_at R_str_at := by
  intro f cdv A outer s H vs Q E a l0 z past ds d hr hp E0 hR hQ
  obtain ⟨c, o, rfl, h0, hok, rfl⟩ := hR
  have n0 : ∀ x : Addr, x ∉ md0.P := fun x q => by cases q
  refine s_expr (w_md0 H) (j_call Lc hr (jad_cons (jd_var 1 E0) jad_nil) ⟨c, rfl, hok.2.1, rfl⟩) fun H1 w1 => ?_
  have E1 := E0.mono (m := md0) w1
  have hp1 := hp.same w1.old
  cases o with
  | none =>
    refine s_if0 w1.rfl1 (jt_notN (jd_var 2 E1)) fun H2 w2 => ?_
    have E2 := E1.mono (m := md0) w2
    have hp2 := hp1.same w2.old
    exact s_ret w2.rfl1 (j_meth X4 Ls hr (n0 _) (n0 _) hp2 (j_var 0 E2) (jad_cons (jd_var 1 E2) (jad_cons (j_ifT (jt_isN (jd_var 2 E2)) (jg_nought T.nought)) jad_nil)) ⟨c, 0, rfl, hok, rfl⟩ (.inr rfl)) fun v H4 w4 r => hQ v H4 ((w1.trans w2).trans w4) r
  | some mo =>
    have E1' : En K [] H1 _ [some (.v (.ref a)), some (.d (.int c)), some (.d (pt mo))] := E1
    refine s_ifM (m := md0) (t := true) (fun σ5 H5 => σ5 = L2.start ["self", "clock", "moment"] vs ∧ Wm md0 H1 H5) w1.rfl1 (jt_notN (jd_var 2 E1')) (fun q H2 w2 D' hD => ?_) (fun q => by cases q) fun σ5 H5 ⟨e5, w5⟩ => ?_
    · exact s_expr w2.rfl1 (j_call Lm hr (jad_cons (jd_var 2 (E1'.mono (m := md0) w2)) jad_nil) ⟨mo, rfl, h0, rfl⟩) fun H3 w3 => s_nil (hD _ _ ⟨rfl, w2.trans w3⟩)
    · subst e5
      have E5 := E1'.mono (m := md0) w5
      exact s_ret w5.rfl1 (j_meth X4 Ls hr (n0 _) (n0 _) (hp1.same w5.old) (j_var 0 E5) (jad_cons (jd_var 1 E5) (jad_cons (j_ifF (jt_isN (jd_var 2 E5)) (jd_var 2 E5)) jad_nil)) ⟨c, mo, rfl, hok, rfl⟩ (.inr rfl)) fun v H4 w4 r => hQ v H4 ((w1.trans w5).trans w4) r
theorem me_str_at2 (T : Tx K mg) (X4 : Cx4 K C) (Lc : Fo P w K mg base 4 "need_clock_number" [] (spD K R_need_cn)) (Lm : Fo P w K mg base 4 "need_moment" [] (spD K R_need_moment)) (Ls : Me P w K mg base C 7 "stretch_then" [] (spG K C R_str_then)) (G : Gq K C "stretch_at" "Post.stretch_at" m_stretch_at [.non]) : Me P w K mg base C 8 "stretch_at" [] (spG K C R_str_at) :=
  me_ofD G sc_m_stretch_at 3 1 (by simp) rfl (fun s ds d h => by obtain ⟨t, _, rfl, _⟩ := h; rfl) (fun T kV doc pm an cdv ct us its h1 h2 => match us, its, h1, h2 with | [_, _, _], [_], _, _ => ⟨_, rfl, rfl⟩) (body_str_at T X4 Lc Lm Ls)
theorem me_str_at1 (T : Tx K mg) (X4 : Cx4 K C) (Lc : Fo P w K mg base 4 "need_clock_number" [] (spD K R_need_cn)) (Lm : Fo P w K mg base 4 "need_moment" [] (spD K R_need_moment)) (Ls : Me P w K mg base C 7 "stretch_then" [] (spG K C R_str_then)) (G : Gq K C "stretch_at" "Post.stretch_at" m_stretch_at [.non]) : Me P w K mg base C 8 "stretch_at" [.non] (spG K C R_str_at) :=
  me_ofD G sc_m_stretch_at 2 0 (by simp) rfl (fun s ds d h => by obtain ⟨t, _, rfl, _⟩ := h; rfl) (fun T kV doc pm an cdv ct us its h1 h2 => match us, its, h1, h2 with | [_, _], [_], _, _ => ⟨_, rfl, rfl⟩) (body_str_at T X4 Lc Lm Ls)
theorem me_standing (T : Tx K mg) (X4 : Cx4 K C) (Lt : Me P w K mg base C 6 "taken_back" [] (spG K C R_taken)) (G : Gq K C "standing" "Post.standing" m_standing []) : Me P w K mg base C 7 "standing" [] (spG K C R_standing) := by
  refine me_of G sc_m_standing (fun s ds d h => by obtain ⟨rfl, _⟩ := h; rfl) (fun _ _ _ _ _ _ us hl => match us, hl with | [_], _ => rfl) ?_
  intro f cdv A outer s H vs Q E a l0 z past ds d hr hp E0 hR hQ
  obtain ⟨rfl, ⟨o1, o2, o3⟩, rfl⟩ := hR
  have E1 : En K [] H _ [some (.v (.ref a)), none, none] := E0
  have n0 : ∀ x : Addr, x ∉ md0.P := fun x q => by cases q
  have hlen : z.td.length ≤ 16 := by have := o3.1; rw [List.length_map] at this; exact this
  refine s_comp 1 [("one", 2)] (w_md0 H) E1 rfl sc_m_standing.nd (blkOk_by (N := ["self", "numbers", "one"]) (sc := defScope m_standing) (by decide +kernel)) (sr_tup (j_fldT X4 (n0 _) (n0 _) hp (j_var 0 E1))) (by rw [List.length_map]; omega) [2] (fun i => [some (.v (.ref a)), none, some (.d ((z.td.map toldD).getD i .none))]) (by simp) (fun i hi s Hs C cl fp => gt_name 2 sc_m_standing.nd) (fun _ => true) (fun i hi m' hm s Hs C cl fp σ' H' w' E' => jts_nil) (fun i => .int (z.td.getD i ⟨0, 0, 0, 0, none, none⟩).n) (fun i hi _ m' hm s Hs C cl fp σ' H' w' E' => ?_) fun σ1 H1 w1 E2 => ?_
  · have hi' : i < z.td.length := by simpa using hi
    rw [getD_map toldD hi'] at E'
    have e : z.td.getD i ⟨0, 0, 0, 0, none, none⟩ = z.td[i] := by simp [List.getD, hi']
    rw [e]
    generalize z.td[i] = t at E' ⊢
    have E'' : En K m'.M H' σ' [some (.v (.ref a)), none, some (.d (.tuple [.int t.n, pt t.mo, .int t.t.a, .int t.t.b, op t.t.lo, op t.t.hi]))] := E'
    exact j_ixT 0 (jd_var 2 E'') j_int
  · have hp1 := hp.same w1.old
    have ec : (((List.range (z.td.map toldD).length).filter fun _ => true).map fun i => (.int (z.td.getD i ⟨0, 0, 0, 0, none, none⟩).n : PyData)) = z.td.map fun t => .int t.n := by
      rw [List.length_map, List.filter_eq_self.mpr (fun _ _ => rfl)]
      refine List.ext_getElem (by simp) fun i h1 h2 => ?_
      have hi : i < z.td.length := by simpa using h2
      simp [List.getD, hi]
    rw [ec] at E2
    have E2' : En K [] H1 σ1 [some (.v (.ref a)), some (.d (.list (z.td.map fun t => .int t.n))), none] := E2
    refine s_ret w1.rfl1 (jd_is (jd_jl (jl_listZip rfl T.list T.zip (jd_var 1 E2') (j_meth X4 Lt hr (n0 _) (n0 _) hp1 (j_var 0 E2') (jad_cons (j_fldC X4 (n0 _) (n0 _) hp1 (j_var 0 E2')) (jad_cons (j_fldT X4 (n0 _) (n0 _) hp1 (j_var 0 E2')) jad_nil)) ⟨z.cl, z.td, rfl, o2, hlen, rfl⟩ (.inr rfl)) (by simp) (by rw [List.length_map]; omega))) (d' := stdD z) ?_) fun v H4 w4 r => hQ v H4 (w1.trans w4) r
    unfold stdD pairD
    congr 1
    refine List.ext_getElem (by simp) fun i h1 h2 => ?_
    have hi : i < z.td.length := by simpa using h2
    simp [List.getD, hi]
theorem me_clock_now (X4 : Cx4 K C) (Lc : Fo P w K mg base 4 "need_clock_number" [] (spD K R_need_cn)) (G : Gq K C "clock_now" "Post.clock_now" m_clock_now []) : Me P w K mg base C 5 "clock_now" [] (spG K C R_clock_now) := by
  refine me_of G sc_m_clock_now (fun s ds d h => by obtain ⟨c, rfl, _⟩ := h; rfl) (fun _ _ _ _ _ _ us hl => match us, hl with | [_, _], _ => rfl) ?_
  intro f cdv A outer s H vs Q E a l0 z past ds d hr hp E0 hR hQ
  obtain ⟨c, rfl, hc, hl, rfl⟩ := hR
  have n0 : ∀ x : Addr, x ∉ md0.P := fun x q => by cases q
  refine s_expr (w_md0 H) (j_call Lc hr (jad_cons (jd_var 1 E0) jad_nil) ⟨c, rfl, hc, rfl⟩) fun H1 w1 => ?_
  have E1 := E0.mono (m := md0) w1
  exact s_ret w1.rfl1 (j_ixT c (j_fldC X4 (n0 _) (n0 _) (hp.same w1.old) (j_var 0 E1)) (jd_var 1 E1) rfl (cl_at (by rw [hl]; exact hc))) fun v H4 w4 r => hQ v H4 (w1.trans w4) r
theorem me_len (T : Tx K mg) (X4 : Cx4 K C) (G : Gq K C "__len__" "Post.__len__" m_len []) : Me P w K mg base C 1 "__len__" [] (spG K C R_len) := by
  refine me_of G sc_m_len (fun s ds d h => by obtain ⟨rfl, _⟩ := h; rfl) (fun _ _ _ _ _ _ us hl => match us, hl with | [_], _ => rfl) ?_
  intro f cdv A outer s H vs Q E a l0 z past ds d hr hp E0 hR hQ
  obtain ⟨rfl, rfl⟩ := hR
  have n0 : ∀ x : Addr, x ∉ md0.P := fun x q => by cases q
  exact s_ret (w_md0 H) (jd_is (j_lenT T.len (j_fldT X4 (n0 _) (n0 _) hp (j_var 0 E0))) (by rw [List.length_map])) hQ
end
end Gc
namespace Gc
open PySem PySem.Spec PyProof.Rows L2
/-! ## shapes -/
inductive Sh : Nat → PyData → Prop
  | non (n : Nat) : Sh n .none
  | bl (n : Nat) (b : Bool) : Sh n (.bool b)
  | int (n : Nat) (i : Int) : Sh n (.int i)
  | tup {n : Nat} {xs : List PyData} (h : ∀ x ∈ xs, Sh n x) : Sh (n + 1) (.tuple xs)
  | lst {n : Nat} {xs : List PyData} (h : ∀ x ∈ xs, Sh n x) : Sh (n + 1) (.list xs)
mutual
theorem Sh.ok : ∀ (d : PyData) (n : Nat), Sh n d → d.canLay0 = true ∧ d.depth ≤ n
  | .none, n, _ => ⟨rfl, Nat.zero_le _⟩
  | .bool _, n, _ => ⟨rfl, Nat.zero_le _⟩
  | .int _, n, _ => ⟨rfl, Nat.zero_le _⟩
  | .str _, n, h => by cases h
  | .dict _, n, h => by cases h
  | .list xs, n, h => by
    cases h with
    | lst h =>
      obtain ⟨h1, h2⟩ := Sh.oks xs _ h
      refine ⟨by simpa [PyData.canLay0] using h1, ?_⟩
      simp only [PyData.depth]
      omega
  | .tuple xs, n, h => by
    cases h with
    | tup h =>
      obtain ⟨h1, h2⟩ := Sh.oks xs _ h
      refine ⟨by simpa [PyData.canLay0] using h1, ?_⟩
      simp only [PyData.depth]
      omega
theorem Sh.oks : ∀ (xs : List PyData) (n : Nat), (∀ x ∈ xs, Sh n x) → PyData.canLayAll0 xs = true ∧ PyData.depthAll xs ≤ n
  | [], n, _ => ⟨rfl, Nat.zero_le _⟩
  | x :: xs, n, h => by
    obtain ⟨h1, h2⟩ := Sh.ok x n (h x (List.mem_cons_self ..))
    obtain ⟨h3, h4⟩ := Sh.oks xs n fun y hy => h y (List.mem_cons_of_mem _ hy)
    refine ⟨by simp [PyData.canLayAll0, h1, h3], ?_⟩
    simp only [PyData.depthAll]
    omega
end
theorem Sh.shaped {d : PyData} {n : Nat} (h : Sh n d) (hn : n ≤ 64) : SeqAt.shaped d = true := by
  obtain ⟨h1, h2⟩ := Sh.ok d n h
  unfold SeqAt.shaped
  rw [h1, decide_eq_true (by omega)] <;> rfl
theorem sh_up {n : Nat} : ∀ {d : PyData}, Sh n d → Sh (n + 1) d := by
  intro d h
  induction h with
  | non n => exact .non _
  | bl n b => exact .bl _ b
  | int n i => exact .int _ i
  | tup h ih => exact .tup ih
  | lst h ih => exact .lst ih
theorem sh_pt (z : Int) : Sh 1 (pt z) := .tup fun x hx => by
  simp only [List.mem_cons, List.not_mem_nil, or_false] at hx
  rcases hx with rfl | rfl <;> exact .int _ _
theorem sh_op (o : Option Int) : Sh 1 (op o) := by
  cases o with
  | none => exact .non _
  | some z => exact sh_pt z
theorem sh_st (lo hi : Option Int) : Sh 2 (stD lo hi) := .tup fun x hx => by
  simp only [List.mem_cons, List.not_mem_nil, or_false] at hx
  rcases hx with rfl | rfl <;> exact sh_op _
theorem sh_sp (s : Int × Int) : Sh 2 (sp s) := .tup fun x hx => by
  simp only [List.mem_cons, List.not_mem_nil, or_false] at hx
  rcases hx with rfl | rfl <;> exact sh_pt _
theorem sh_clk (g : Int) (ss : List (Int × Int)) : Sh 4 (clk g ss) := .tup fun x hx => by
  simp only [List.mem_cons, List.not_mem_nil, or_false] at hx
  rcases hx with rfl | rfl
  · exact sh_up (sh_up (sh_pt g))
  · refine .tup fun y hy => ?_
    obtain ⟨s, _, rfl⟩ := List.mem_map.mp hy
    exact sh_sp s
theorem sh_cls (cl : Cl) : Sh 5 (clsD cl) := .tup fun y hy => by
  obtain ⟨s, _, rfl⟩ := List.mem_map.mp hy
  exact sh_clk _ _
theorem sh_told (t : Told) : Sh 2 (toldD t) := .tup fun x hx => by
  simp only [List.mem_cons, List.not_mem_nil, or_false] at hx
  rcases hx with rfl | rfl | rfl | rfl | rfl | rfl <;> first | exact .int _ _ | exact sh_pt _ | exact sh_op _
theorem sh_td (td : List Told) : Sh 3 (tdD td) := .tup fun y hy => by
  obtain ⟨s, _, rfl⟩ := List.mem_map.mp hy
  exact sh_told _
theorem sh_ps (s : PS) : Sh 6 (psD s) := .tup fun x hx => by
  simp only [List.mem_cons, List.not_mem_nil, or_false] at hx
  rcases hx with rfl | rfl | rfl
  · exact sh_cls _
  · exact sh_up (sh_up (sh_td _))
  · exact .int _ _
/-! ## methods that change the post -/
def mdal (a l : Addr) : Md := ⟨[], [a, l], fun _ h => by cases h⟩
theorem Wm.old0 {a l : Addr} {H H1 : Hp} (w : Wm (mdal a l) H H1) : Same H H1 := fun b o h => w.keep b o h (.inl (by intro q; cases q))
theorem put1 {v1 v2 v3 v4 y : V} : putF "clocks" y (fs4 v1 v2 v3 v4) = fs4 y v2 v3 v4 := if_pos rfl
theorem put2 {v1 v2 v3 v4 y : V} : putF "told" y (fs4 v1 v2 v3 v4) = fs4 v1 y v3 v4 := by
  show (if ("clocks" : Str) = "told" then _ else _) = _
  rw [if_neg (by decide)]
  show (("clocks" : Str), v1) :: (if ("told" : Str) = "told" then _ else _) = _
  rw [if_pos rfl] <;> rfl
theorem put3 {v1 v2 v3 v4 y : V} : putF "next_number" y (fs4 v1 v2 v3 v4) = fs4 v1 v2 y v4 := by
  show (if ("clocks" : Str) = "next_number" then _ else _) = _
  rw [if_neg (by decide)]
  show (("clocks" : Str), v1) :: (if ("told" : Str) = "next_number" then _ else _) = _
  rw [if_neg (by decide)]
  show (("clocks" : Str), v1) :: (("told" : Str), v2) :: (if ("next_number" : Str) = "next_number" then _ else _) = _
  rw [if_pos rfl] <;> rfl
theorem Bs.mutI {M : List Addr} {H : Hp} {a C dx : Addr} {fs : List (Str × V)} {o : HO} (h : H a = some (.ins C dx fs)) (hm : a ∈ M) : Bs M H (upd H a o) := fun b u hb q => by
  refine (upd_ne fun e => ?_).trans hb
  subst e
  rcases q with q | ⟨ys, rfl⟩
  · exact q hm
  · rw [h] at hb
    cases hb
section
variable {K : PySem.W.Frag} {C : Addr} {H : Hp} {a l : Addr} {s : PS} {past : List PS}
theorem PostAt.wal (h : PostAt K C H a l s past) : Wm (mdal a l) H H := ⟨fun _ _ e _ => e, (fun _ q => by cases q), fun b hb => by
  obtain ⟨dx, v1, v2, h1, _⟩ := h.ex
  obtain ⟨vs, g1, _⟩ := h.pst
  have e : b = a ∨ b = l := by simpa [mdal] using hb
  rcases e with rfl | rfl
  · rw [h1]
    simp
  · rw [g1]
    simp⟩
theorem PostAt.putC {cl' : Cl} {y : V} (h : PostAt K C H a l s past) (hy : Dr K [] H y (clsD cl')) : ∃ dx fs, H a = some (.ins C dx fs) ∧ fs.length < 1000 ∧ PostAt K C (upd H a (.ins C dx (putF "clocks" y fs))) a l { s with cl := cl' } past := by
  have ne := h.ne
  obtain ⟨dx, v1, v2, h1, h2, h3⟩ := h.ex
  obtain ⟨vs, g1, g2⟩ := h.pst
  have b : Bs [a] H (upd H a (.ins C dx (putF "clocks" y (fs4 v1 v2 (.int s.nx) (.ref l))))) := Bs.mutI h1 (List.mem_cons_self ..)
  refine ⟨dx, _, h1, by unfold fs4; simp, ⟨dx, y, v2, by rw [upd_same, put1], hy.bsn b (nolst_cls _), h3.bsn b (nolst_td _)⟩, vs, (upd_ne (Ne.symm ne)).trans g1, g2.bsn b (nolstA_map _ nolst_ps _)⟩
theorem PostAt.putT {td' : List Told} {y : V} (h : PostAt K C H a l s past) (hy : Dr K [] H y (tdD td')) : ∃ dx fs, H a = some (.ins C dx fs) ∧ fs.length < 1000 ∧ PostAt K C (upd H a (.ins C dx (putF "told" y fs))) a l { s with td := td' } past := by
  have ne := h.ne
  obtain ⟨dx, v1, v2, h1, h2, h3⟩ := h.ex
  obtain ⟨vs, g1, g2⟩ := h.pst
  have b : Bs [a] H (upd H a (.ins C dx (putF "told" y (fs4 v1 v2 (.int s.nx) (.ref l))))) := Bs.mutI h1 (List.mem_cons_self ..)
  refine ⟨dx, _, h1, by unfold fs4; simp, ⟨dx, v1, y, by rw [upd_same, put2], h2.bsn b (nolst_cls _), hy.bsn b (nolst_td _)⟩, vs, (upd_ne (Ne.symm ne)).trans g1, g2.bsn b (nolstA_map _ nolst_ps _)⟩
theorem PostAt.putN {n : Nat} (h : PostAt K C H a l s past) : ∃ dx fs, H a = some (.ins C dx fs) ∧ fs.length < 1000 ∧ PostAt K C (upd H a (.ins C dx (putF "next_number" (.int n) fs))) a l { s with nx := n } past := by
  have ne := h.ne
  obtain ⟨dx, v1, v2, h1, h2, h3⟩ := h.ex
  obtain ⟨vs, g1, g2⟩ := h.pst
  have b : Bs [a] H (upd H a (.ins C dx (putF "next_number" (.int n) (fs4 v1 v2 (.int s.nx) (.ref l))))) := Bs.mutI h1 (List.mem_cons_self ..)
  refine ⟨dx, _, h1, by unfold fs4; simp, ⟨dx, v1, v2, by rw [upd_same, put3], h2.bsn b (nolst_cls _), h3.bsn b (nolst_td _)⟩, vs, (upd_ne (Ne.symm ne)).trans g1, g2.bsn b (nolstA_map _ nolst_ps _)⟩
/-- the past changes -/
theorem PostAt.putL {vs : List V} {past' : List PS} (h : PostAt K C H a l s past) (r : DrA K [] H vs (past'.map psD)) : PostAt K C (upd H l (.lst vs)) a l s past' := by
  have ne := h.ne
  obtain ⟨dx, v1, v2, h1, h2, h3⟩ := h.ex
  obtain ⟨ws, g1, g2⟩ := h.pst
  have b : Bs [l] H (upd H l (.lst vs)) := Bs.mut g1 (List.mem_cons_self ..)
  exact ⟨⟨dx, v1, v2, (upd_ne ne).trans h1, h2.bsn b (nolst_cls _), h3.bsn b (nolst_td _)⟩, vs, upd_same, r.bsn b (nolstA_map _ nolst_ps _)⟩
end
def spW (K : PySem.W.Frag) (C : Addr) (R : PS → List PS → List PyData → PS → List PS → PyData → Prop) : Sp := fun vs H Q _ => ∃ a l s past vs' ds s2 past2 d, vs = V.ref a :: vs' ∧ PostAt K C H a l s past ∧ DrA K [] H vs' ds ∧ nolstA ds = true ∧ R s past ds s2 past2 d ∧
  ∀ v H', Bs [a, l] H H' → PostAt K C H' a l s2 past2 → Dr K [] H' v d → Q v H'
section
variable {P : Program} {w : World} {K : PySem.W.Frag} {mg : Str → Option Value} {base : Heap}
theorem items_free {M M' : List Addr} {H : Hp} : ∀ {ds : List PyData} {vs : List V}, nolstA ds = true → DrA K M H vs ds → IrA K M' H vs (ds.map Item.d) := fun hn h => (DrA.free _ _ hn h).items
def BodyW (P : Program) (w : World) (K : PySem.W.Frag) (mg : Str → Option Value) (base : Heap) (C : Addr) (k : Nat) (N : List Str) (q : Str) (st : Stmt) (R : PS → List PS → List PyData → PS → List PS → PyData → Prop) : Prop :=
  ∀ (f : Addr) (cdv : Value) (A : Around) (outer : List Env) (s : Shared) (H : Hp) (vs : List V) (Q : VK) (E : XK) (a l : Addr) (z : PS) (past : List PS) (ds : List PyData) (z2 : PS) (past2 : List PS) (d : PyData), Room k (A.deeper (envOfC q (defScope st) s.heap.objs.size f cdv)) → PostAt K C H a l z past → (∀ M, En K M H (L2.start N vs) (sl0 N.length (.v (.ref a) :: ds.map Item.d))) → R z past ds z2 past2 d →
      (∀ v H', Bs [a, l] H H' → PostAt K C H' a l z2 past2 → Dr K [] H' v d → Q v H') → cSs (cxOf CX0 P w K mg base N q (defScope st) f cdv A outer s H E).nox (defBody st) { nx := fun _ H' => Q .non H', rt := Q } (L2.start N vs) H
theorem me_ofW {C : Addr} {x q : Str} {st : Stmt} {N ps : List Str} {k : Nat} {R : PS → List PS → List PyData → PS → List PS → PyData → Prop} (G : Gq K C x q st []) (S : FnScope N ps (defScope st)) (len : ∀ s p ds s2 p2 d, R s p ds s2 p2 d → ds.length + 1 = ps.length)
    (hb : ∀ (kV doc pm : Value) (an : Option Addr) (cdv ct : Value) (us : List Value), us.length = ps.length → bindArgs (PySem.W.fnOf x q (defArgs st) (defBody st) (defScope st) .none kV doc pm an cdv ct) ⟨us, []⟩ = pure (ps.zip us))
    (body : BodyW P w K mg base C k N q st R) : Me P w K mg base C (k + 1) x [] (spW K C R) := by
  obtain ⟨f, fd, F, hm⟩ := G.ex
  refine ⟨f, fd, ps, [], F.ok S (fun vs H Q E h => ?_) (fun cdv A outer s H vs Q E hr h => ?_), hm, F.bindsN hb, .nil⟩
  · obtain ⟨a, l, z, past, vs', ds, s2, p2, d, rfl, _, h1, _, h2, _⟩ := h
    rw [List.length_cons, h1.len]
    exact len z past ds s2 p2 d h2
  · obtain ⟨a, l, z, past, vs', ds, s2, p2, d, rfl, hp, h1, hn, h2, h3⟩ := h
    exact ⟨_, PSs.nox pss_c, body f cdv A outer s H _ Q E a l z past ds s2 p2 d hr hp (fun M => en_start (.cons rfl (items_free hn h1))) h2 h3⟩
theorem me_ofWD {C : Addr} {x q : Str} {st : Stmt} {N ps : List Str} {k : Nat} {R : PS → List PS → List PyData → PS → List PS → PyData → Prop} {dvs : List V} (G : Gq K C x q st dvs) (S : FnScope N ps (defScope st)) (n j : Nat) (hd : dvs ≠ []) (hn : n + (dvs.length - j) = ps.length) (len : ∀ s p ds s2 p2 d, R s p ds s2 p2 d → ds.length + 1 = ps.length)
    (hb : ∀ (T : Addr) (kV doc pm : Value) (an : Option Addr) (cdv ct : Value) (us its : List Value), us.length = n → its.length = dvs.length →
      ∃ kk, bindArgs (PySem.W.fnOf x q (defArgs st) (defBody st) (defScope st) (.ref T) kV doc pm an cdv ct) ⟨us, []⟩ = seqItems? (.ref T) >>= kk ∧ kk (some its.toArray) = pure (ps.zip (us ++ its.drop j)))
    (body : BodyW P w K mg base C k N q st R) : Me P w K mg base C (k + 1) x (dvs.drop j) (spW K C R) := by
  obtain ⟨f, fd, F, hm⟩ := G.ex
  obtain ⟨bs, hv, hB⟩ := F.binds1 (ps := ps) n j hd hn hb
  refine ⟨f, fd, ps, bs, F.ok S (fun vs H Q E h => ?_) (fun cdv A outer s H vs Q E hr h => ?_), hm, hB, hv⟩
  · obtain ⟨a, l, z, past, vs', ds, s2, p2, d, rfl, _, h1, _, h2, _⟩ := h
    rw [List.length_cons, h1.len]
    exact len z past ds s2 p2 d h2
  · obtain ⟨a, l, z, past, vs', ds, s2, p2, d, rfl, hp, h1, hn, h2, h3⟩ := h
    exact ⟨_, PSs.nox pss_c, body f cdv A outer s H _ Q E a l z past ds s2 p2 d hr hp (fun M => en_start (.cons rfl (items_free hn h1))) h2 h3⟩
end
section
variable {m : Md} {X : Cx} {σ : L2.St} {H : Hp} {e o : Expr} {es : List Expr} {rest : List Stmt} {pos pos' p apos : Pos} {k k' : Nat} {x : Str} {d : PyData} {ds dds : List PyData} {C a l : Addr} {s s2 : PS} {past past2 : List PS} {R : PS → List PS → List PyData → PS → List PS → PyData → Prop} {dvs : List V} {Q : VK} {D : Ends}
theorem c_methW {pl : Sem Bool} (c : Cx4 X.K C) (M : Me X.prog X.w X.K X.mg X.base C k x [] (spW X.K C R)) (hr : Room k' X.A) (w : Wm m H H) (ha : a ∉ m.P) (hl : l ∉ m.P) (hp : PostAt X.K C H a l s past) (jo : J m X σ H o (.v (.ref a))) (ja : JAd m X σ H (e :: es) ds) (hn : nolstA ds = true) (hR : R s past ds s2 past2 d)
    (q : ∀ v H1 H2, Wm m H H1 → Bs [a, l] H1 H2 → PostAt X.K C H2 a l s2 past2 → Dr X.K [] H2 v d → Q v H2) (hk : k ≤ k' := by decide)
    (hx : ((x == ("clocks" : Str)) || (x == ("told" : Str)) || (x == ("next_number" : Str)) || (x == ("past" : Str))) = false := by decide)
    (hst : starEach (e :: es) X.env = (false, eval e X.env) :: starEach es X.env := by rfl) (hpl : (backTo pos (starEach es X.env)).any (·.1) = false := by rfl)
    (ht : eval (.Call (.Attribute o x apos) (e :: es) [] pos) X.env = (do
      let ov ← eval o X.env
      standAt apos.atName
      let (f, first) ← holding [ov] (getMethod ov x pl)
      callWith pos f first (backTo pos (starEach (e :: es) X.env)) (backToKw pos (keywordEach [] X.env))) := by rfl) : cE X (.Call (.Attribute o x apos) (e :: es) [] pos) σ H Q := by
  obtain ⟨f, fd, ps, bs, F, hm, hb, hd⟩ := M.ex
  simp only [Bool.or_eq_false_iff] at hx
  refine of_pe (pe_meth (pl := pl) pe_c c.cls hm F (hr.mono hk) hb hd pass0 pa_c hst hpl ht) (jo H w _ fun v H2 w2 r => ?_)
  have e1 : v = V.ref a := r
  subst e1
  obtain ⟨dx, v1, v2, h1, h2, h3⟩ := (hp.wm w2 ha hl).ex
  refine ⟨a, dx, _, rfl, h1, lk4 hx.1.1.1 hx.1.1.2 hx.1.2 hx.2, ja H2 w2 _ fun vs H3 w3 r3 => ⟨a, l, s, past, _, ds, s2, past2, d, rfl, hp.wm (w2.trans w3) ha hl, ?_, hn, hR, fun u H4 kk r4 r5 => q u H3 H4 (w2.trans w3) kk r4 r5⟩⟩
  rw [List.append_nil]
  exact r3.data.to0
theorem c_methW0 {pl : Sem Bool} (c : Cx4 X.K C) (M : Me X.prog X.w X.K X.mg X.base C k x [] (spW X.K C R)) (hr : Room k' X.A) (w : Wm m H H) (ha : a ∉ m.P) (hl : l ∉ m.P) (hp : PostAt X.K C H a l s past) (jo : J m X σ H o (.v (.ref a))) (hR : R s past [] s2 past2 d)
    (q : ∀ v H1 H2, Wm m H H1 → Bs [a, l] H1 H2 → PostAt X.K C H2 a l s2 past2 → Dr X.K [] H2 v d → Q v H2) (hk : k ≤ k' := by decide)
    (hx : ((x == ("clocks" : Str)) || (x == ("told" : Str)) || (x == ("next_number" : Str)) || (x == ("past" : Str))) = false := by decide)
    (ht : eval (.Call (.Attribute o x apos) [] [] pos) X.env = (do
      let ov ← eval o X.env
      standAt apos.atName
      let (f, first) ← holding [ov] (getMethod ov x pl)
      callWith pos f first (backTo pos (starEach [] X.env)) (backToKw pos (keywordEach [] X.env))) := by rfl) : cE X (.Call (.Attribute o x apos) [] [] pos) σ H Q := by
  obtain ⟨f, fd, ps, bs, F, hm, hb, hd⟩ := M.ex
  simp only [Bool.or_eq_false_iff] at hx
  refine of_pe (pe_meth0 (pl := pl) pe_c c.cls hm F (hr.mono hk) hb hd pass0 ht) (jo H w _ fun v H2 w2 r => ?_)
  have e1 : v = V.ref a := r
  subst e1
  obtain ⟨dx, v1, v2, h1, h2, h3⟩ := (hp.wm w2 ha hl).ex
  exact ⟨a, dx, _, rfl, h1, lk4 hx.1.1.1 hx.1.1.2 hx.1.2 hx.2, a, l, s, past, _, [], s2, past2, d, rfl, hp.wm w2 ha hl, .nil, rfl, hR, fun u H4 kk r4 r5 => q u H2 H4 w2 kk r4 r5⟩
/-! fields written -/
theorem s_setC {cl' : Cl} (c : Cx4 X.K C) (hp : PostAt X.K C H a l s past) (jo : J (mdal a l) X σ H o (.v (.ref a))) (je : JD (mdal a l) X σ H e (clsD cl')) (kk : ∀ H1, Bs [a, l] H H1 → PostAt X.K C H1 a l { s with cl := cl' } past → cSs X rest D σ H1) (hs : swapsWith e (some (.Attribute o "clocks" pos')) pos.line X.env = pure false := by rfl) : cSs X (.Assign [.Attribute o "clocks" pos'] e pos :: rest) D σ H :=
  of_ps (ps_fld pe_c pe_c hs) (je H hp.wal _ fun y H1 w1 ry => jo H1 w1 _ fun v H2 w2 r => by
    have e1 : v = V.ref a := r
    subst e1
    have n0 : ∀ b : Addr, b ∉ (mdal a l).P := fun b q => by cases q
    have hp2 := hp.wm (w1.trans w2) (n0 _) (n0 _)
    obtain ⟨dx, fs, h1, h2, h3⟩ := hp2.putC (y := y) (Dr.free _ _ (nolst_cls _) (Dr.mono w2 _ _ ry))
    exact ⟨a, C, dx, fs, rfl, h1, c.cls, c.n1, h2, kk _ ((w1.trans w2).bs.trans (Bs.mutI h1 (List.mem_cons_self ..))) h3⟩)
theorem s_setT {td' : List Told} (c : Cx4 X.K C) (hp : PostAt X.K C H a l s past) (jo : J (mdal a l) X σ H o (.v (.ref a))) (je : JD (mdal a l) X σ H e (tdD td')) (kk : ∀ H1, Bs [a, l] H H1 → PostAt X.K C H1 a l { s with td := td' } past → cSs X rest D σ H1) (hs : swapsWith e (some (.Attribute o "told" pos')) pos.line X.env = pure false := by rfl) : cSs X (.Assign [.Attribute o "told" pos'] e pos :: rest) D σ H :=
  of_ps (ps_fld pe_c pe_c hs) (je H hp.wal _ fun y H1 w1 ry => jo H1 w1 _ fun v H2 w2 r => by
    have e1 : v = V.ref a := r
    subst e1
    have n0 : ∀ b : Addr, b ∉ (mdal a l).P := fun b q => by cases q
    have hp2 := hp.wm (w1.trans w2) (n0 _) (n0 _)
    obtain ⟨dx, fs, h1, h2, h3⟩ := hp2.putT (y := y) (Dr.free _ _ (nolst_td _) (Dr.mono w2 _ _ ry))
    exact ⟨a, C, dx, fs, rfl, h1, c.cls, c.n2, h2, kk _ ((w1.trans w2).bs.trans (Bs.mutI h1 (List.mem_cons_self ..))) h3⟩)
theorem s_setN {n : Nat} (c : Cx4 X.K C) (hp : PostAt X.K C H a l s past) (jo : J (mdal a l) X σ H o (.v (.ref a))) (je : JD (mdal a l) X σ H e (.int n)) (kk : ∀ H1, Bs [a, l] H H1 → PostAt X.K C H1 a l { s with nx := n } past → cSs X rest D σ H1) (hs : swapsWith e (some (.Attribute o "next_number" pos')) pos.line X.env = pure false := by rfl) : cSs X (.Assign [.Attribute o "next_number" pos'] e pos :: rest) D σ H :=
  of_ps (ps_fld pe_c pe_c hs) (je H hp.wal _ fun y H1 w1 ry => jo H1 w1 _ fun v H2 w2 r => by
    have e1 : v = V.ref a := r
    subst e1
    cases ry
    have n0 : ∀ b : Addr, b ∉ (mdal a l).P := fun b q => by cases q
    have hp2 := hp.wm (w1.trans w2) (n0 _) (n0 _)
    obtain ⟨dx, fs, h1, h2, h3⟩ := hp2.putN (n := n)
    exact ⟨a, C, dx, fs, rfl, h1, c.cls, c.n3, h2, kk _ ((w1.trans w2).bs.trans (Bs.mutI h1 (List.mem_cons_self ..))) h3⟩)
/-- self.past.append(..) -/
theorem s_push {z : PS} (c : Cx4 X.K C) (hp : PostAt X.K C H a l s past) (hl : past.length ≤ 1000) (jo : J (mdal a l) X σ H o (.v (.ref a))) (je : JD (mdal a l) X σ H e (psD z)) (kk : ∀ H1, Bs [a, l] H H1 → PostAt X.K C H1 a l s (past ++ [z]) → cSs X rest D σ H1)
    (hs : swapsWith (.Call (.Attribute (.Attribute o "past" pos') "append" apos) [e] [] p) none pos.line X.env = pure false := by rfl) (hb : attributeBase o "past" X.env (eval o X.env) = eval o X.env := by rfl) (hbase : attributeBase (.Attribute o "past" pos') "append" X.env (eval (.Attribute o "past" pos') X.env) = eval (.Attribute o "past" pos') X.env := by rfl)
    (hfew : ((backTo p (starEach [e] X.env)).all (fun x => !x.1) && (backToKw p (keywordEach [] X.env)).all (fun x => x.1.isSome) && decide ([e].length + ([] : List Keyword).length + (if ([] : List Keyword).isEmpty then 0 else 1) < 30)) = true := by rfl)
    (hline : (apos.endLine == p.line) = true := by rfl) (hst : starEach [e] X.env = (false, eval e X.env) :: starEach [] X.env := by rfl) (hplain : (backTo p (starEach [] X.env)).any (·.1) = false := by rfl) : cSs X (.Expr (.Call (.Attribute (.Attribute o "past" pos') "append" apos) [e] [] p) pos :: rest) D σ H := by
  have n0 : ∀ b : Addr, b ∉ (mdal a l).P := fun b q => by cases q
  refine of_ps (ps_expr (pe_bm PySem.F.plainAttrs_list PySem.F.slot_list_append PySem.F.type_list_append mt_append pe_c (pa_cons pe_c pa_nil hst) hbase hfew hline hst hplain) hs) (j_fldL (pos := pos') c (n0 _) (n0 _) hp jo hb H hp.wal _ fun v H1 w1 r1 => ?_)
  have e1 : v = V.ref l := r1
  subst e1
  have hp1 := hp.wm w1 (n0 _) (n0 _)
  obtain ⟨vs1, h1, g1⟩ := hp1.pst
  refine ⟨.inl ⟨rfl, _, SqL.of h1⟩, je H1 w1 _ fun u H2 w2 r2 => ?_⟩
  have hp2 := hp1.wm w2 (n0 _) (n0 _)
  obtain ⟨vs, h2, g2⟩ := hp2.pst
  refine ⟨l, vs, u, rfl, rfl, h2, by rw [g2.len, List.length_map]; exact small1000 hl, kk _ ((w1.trans w2).bs.trans (Bs.mut h2 (List.mem_cons_of_mem _ (List.mem_cons_self ..)))) (hp2.putL ?_)⟩
  rw [List.map_append]
  exact g2.append (.one (Dr.free _ _ (nolst_ps _) r2))
/-- self.clocks, self.told, self.next_number = self.past.pop() -/
theorem pg_fldC {f : Str} (c : Cls X.K C) (n : NoAttr X.K C f) : PG X (.Attribute o f pos) (fun v σ H Q => cE X o σ H fun x H2 => ∃ a dx fs, x = .ref a ∧ H2 a = some (.ins C dx fs) ∧ fs.length < 1000 ∧ Q σ (upd H2 a (.ins C dx (putF f v fs)))) := by
  refine ⟨fun pins s σ H v u Q I r h => ?_⟩
  refine PySem.W.kas_attr (thn (h pins s I) fun ov s2 ⟨x, H2, I2, rx, a, dx, fs, ex, ea, hl, q⟩ => ?_)
  subst ex
  obtain rfl : ov = Value.ref a := rx
  exact setattr_ok I2 ea c n hl r fun s3 I3 => ⟨σ, _, I3, q⟩
theorem s_pop {z : PS} {o2 o3 o4 : Expr} {kq : Nat} {p1 p2 p3 p4 : Pos} (c : Cx4 X.K C) (hc : X.calm = true) (hp : PostAt X.K C H a l s (past ++ [z])) (jo : ∀ H', PostAt X.K C H' a l s (past ++ [z]) → J (mdal a l) X σ H' o (.v (.ref a))) (j2 : ∀ H' s' , PostAt X.K C H' a l s' past → J (mdal a l) X σ H' o2 (.v (.ref a))) (j3 : ∀ H' s', PostAt X.K C H' a l s' past → J (mdal a l) X σ H' o3 (.v (.ref a))) (j4 : ∀ H' s', PostAt X.K C H' a l s' past → J (mdal a l) X σ H' o4 (.v (.ref a)))
    (kk : ∀ H1, Bs [a, l] H H1 → PostAt X.K C H1 a l z past → cSs X rest D σ H1)
    (hb : attributeBase o "past" X.env (eval o X.env) = eval o X.env := by rfl) (hbase : attributeBase (.Attribute o "past" pos') "pop" X.env (eval (.Attribute o "past" pos') X.env) = eval (.Attribute o "past" pos') X.env := by rfl) (hline : (apos.endLine == p.line) = true := by rfl)
    (hn : (assignEach [.Attribute o2 "clocks" p1, .Attribute o3 "told" p2, .Attribute o4 "next_number" p3] X.env).length = 3 := by rfl) (hst : (assignEach [.Attribute o2 "clocks" p1, .Attribute o3 "told" p2, .Attribute o4 "next_number" p3] X.env).findIdx? (·.1) = none := by rfl)
    (hs1 : (assignEach [.Attribute o2 "clocks" p1, .Attribute o3 "told" p2, .Attribute o4 "next_number" p3] X.env).map (·.2) = assign (.Attribute o2 "clocks" p1) X.env :: (assignEach [.Attribute o3 "told" p2, .Attribute o4 "next_number" p3] X.env).map (·.2) := by rfl)
    (hs2 : (assignEach [.Attribute o3 "told" p2, .Attribute o4 "next_number" p3] X.env).map (·.2) = assign (.Attribute o3 "told" p2) X.env :: (assignEach [.Attribute o4 "next_number" p3] X.env).map (·.2) := by rfl)
    (hs3 : (assignEach [.Attribute o4 "next_number" p3] X.env).map (·.2) = assign (.Attribute o4 "next_number" p3) X.env :: (assignEach [] X.env).map (·.2) := by rfl)
    (hs : swapsWithSole [.Tuple [.Attribute o2 "clocks" p1, .Attribute o3 "told" p2, .Attribute o4 "next_number" p3] kq p4] (.Call (.Attribute (.Attribute o "past" pos') "pop" apos) [] [] p) pos.line X.env = pure false := by rfl) (hw : swappedStores [.Tuple [.Attribute o2 "clocks" p1, .Attribute o3 "told" p2, .Attribute o4 "next_number" p3] kq p4] (.Call (.Attribute (.Attribute o "past" pos') "pop" apos) [] [] p) X.env = pure none := by rfl)
    (h1 : (assignEach [.Tuple [.Attribute o2 "clocks" p1, .Attribute o3 "told" p2, .Attribute o4 "next_number" p3] kq p4] X.env).map (·.2) = [assign (.Tuple [.Attribute o2 "clocks" p1, .Attribute o3 "told" p2, .Attribute o4 "next_number" p3] kq p4) X.env] := by rfl) :
    cSs X (.Assign [.Tuple [.Attribute o2 "clocks" p1, .Attribute o3 "told" p2, .Attribute o4 "next_number" p3] kq p4] (.Call (.Attribute (.Attribute o "past" pos') "pop" apos) [] [] p) pos :: rest) D σ H := by
  have n0 : ∀ b : Addr, b ∉ (mdal a l).P := fun b q => by cases q
  refine of_ps (ps_asg (pe_bm0 PySem.F.plainAttrs_list PySem.F.slot_list_pop PySem.F.type_list_pop mt_pop pe_c hbase hline) (pg_tup hc (pgs_cons (pg_fldC c.cls c.n1) (pgs_cons (pg_fldC c.cls c.n2) (pgs_cons (pg_fldC c.cls c.n3) pgs_nil hs3) hs2) hs1) hn hst) hs hw h1) (j_fldL (pos := pos') c (n0 _) (n0 _) hp (jo H hp) hb H hp.wal _ fun v H1 w1 r1 => ?_)
  have e1 : v = V.ref l := r1
  subst e1
  have hp1 := hp.wm w1 (n0 _) (n0 _)
  obtain ⟨vs, g1, g2⟩ := hp1.pst
  rw [List.map_append] at g2
  have hlen := g2.len
  have hd : (past.map psD ++ [psD z])[past.length]? = some (psD z) := by
    rw [List.getElem?_append_right (by simp)]
    simp
  obtain ⟨y, hy1, hy2⟩ := g2.at hd
  have el : vs.length - 1 = past.length := by
    rw [hlen]
    simp
  refine ⟨.inl ⟨rfl, _, SqL.of g1⟩, l, vs, y, rfl, rfl, g1, by rw [el]; exact hy1, ?_⟩
  have g3 : DrA X.K [] H1 vs.dropLast (past.map psD) := by
    have h := g2.take past.length
    have e : (past.map psD ++ [psD z]).take past.length = past.map psD := List.take_left' (List.length_map ..)
    have e' : vs.dropLast = vs.take past.length := by rw [List.dropLast_eq_take, el]
    rw [e', ← e]
    exact h
  have hp2 := hp1.putL (past' := past) g3
  have b2 : Bs [l] H1 (upd H1 l (.lst vs.dropLast)) := Bs.mut g1 (List.mem_cons_self ..)
  have b2' : Bs [a, l] H1 (upd H1 l (.lst vs.dropLast)) := Bs.mut g1 (List.mem_cons_of_mem _ (List.mem_cons_self ..))
  have hy3 := hy2.bsn b2 (nolst_ps z)
  obtain ⟨t, us, rfl, k1, k2⟩ := Dr.items hy3
  have k2' := k2
  cases k2 with
  | cons q1 k2 =>
    cases k2 with
    | cons q2 k2 =>
      cases k2 with
      | cons q3 k2 =>
        cases k2
        refine ⟨t, _, rfl, k1, rfl, ?_⟩
        cases q3
        refine ⟨_, _, rfl, j2 _ s hp2 _ hp2.wal _ fun v5 H5 w5 r5 => ?_⟩
        have e5 : v5 = V.ref a := r5
        subst e5
        have hp5 := hp2.wm w5 (n0 _) (n0 _)
        obtain ⟨dx5, fs5, a1, a2, a3⟩ := hp5.putC (Dr.mono (m := md0) (Same.w0 w5.old0) _ _ q1)
        refine ⟨a, dx5, fs5, rfl, a1, a2, ?_⟩
        refine ⟨_, _, rfl, j3 _ _ a3 _ a3.wal _ fun v6 H6 w6 r6 => ?_⟩
        have e6 : v6 = V.ref a := r6
        subst e6
        have hp6 := a3.wm w6 (n0 _) (n0 _)
        obtain ⟨dx6, fs6, c1, c2, c3⟩ := hp6.putT (Dr.mono (m := md0) (Same.w0 w6.old0) _ _ ((Dr.mono (m := md0) (Same.w0 w5.old0) _ _ q2).bsn (M := [a]) (Bs.mutI a1 (List.mem_cons_self ..)) (nolst_td _)))
        refine ⟨a, dx6, fs6, rfl, c1, c2, ?_⟩
        refine ⟨_, _, rfl, j4 _ _ c3 _ c3.wal _ fun v7 H7 w7 r7 => ?_⟩
        have e7 : v7 = V.ref a := r7
        subst e7
        have hp7 := c3.wm w7 (n0 _) (n0 _)
        obtain ⟨dx7, fs7, d1, d2, d3⟩ := hp7.putN (n := z.nx)
        refine ⟨a, dx7, fs7, rfl, d1, d2, rfl, ?_⟩
        refine kk _ ?_ d3
        exact (((((((w1.bs.trans b2').trans w5.bs).trans (Bs.mutI a1 (List.mem_cons_self ..))).trans w6.bs).trans (Bs.mutI c1 (List.mem_cons_self ..))).trans w7.bs).trans (Bs.mutI d1 (List.mem_cons_self ..)))
end
end Gc
namespace Gc
open PySem PySem.Spec PyProof.Rows L2
theorem range_filter_map {α β : Type} (d : α) (p : α → Bool) (f : α → β) (xs : List α) : ((List.range xs.length).filter fun i => p (xs.getD i d)).map (fun i => f (xs.getD i d)) = (xs.filter p).map f := by
  have e : xs = (List.range xs.length).map fun i => xs.getD i d := by
    refine List.ext_getElem (by simp) fun i h1 h2 => ?_
    simp [List.getD, h1]
  have h : (xs.filter p).map f = (((List.range xs.length).map fun i => xs.getD i d).filter p).map f := by rw [← e]
  rw [h, List.filter_map, List.map_map]
  rfl
def insS (mo j : Int) (ss : List (Int × Int)) : List (Int × Int) := ss.take (ss.filter fun s => decide (s.1 < mo)).length ++ [(mo, j)] ++ ss.drop (ss.filter fun s => decide (s.1 < mo)).length
def R_become (z : PS) (past : List PS) (ds : List PyData) (z2 : PS) (past2 : List PS) (d : PyData) : Prop := ∃ (cl : Cl) (td : List Told) (n : Nat), ds = [clsD cl, tdD td, .int n] ∧ past.length ≤ 1000 ∧ z2 = ⟨cl, td, n⟩ ∧ past2 = past ++ [z] ∧ d = .none
def R_tells (z : PS) (past : List PS) (ds : List PyData) (z2 : PS) (past2 : List PS) (d : PyData) : Prop := ∃ (mo : Int) (a b : Nat) (lo hi : Option Int), ds = [pt mo, .int a, .int b, op lo, op hi] ∧ 0 ≤ mo ∧ a < 6 ∧ b < 6 ∧ a ≠ b ∧ BdOk lo hi ∧ z.td.length < 10 ∧ past.length ≤ 1000 ∧
  z2 = ⟨z.cl, z.td ++ [⟨z.nx, mo, ⟨a, b, lo, hi⟩⟩], z.nx + 1⟩ ∧ PsOk z2 ∧ NoRing (z2.td.map (taken z2.cl)) ∧ past2 = past ++ [z] ∧ d = .int z.nx
def R_sets (z : PS) (past : List PS) (ds : List PyData) (z2 : PS) (past2 : List PS) (d : PyData) : Prop := ∃ (c : Nat) (mo j : Int), ds = [.int c, pt mo, pt j] ∧ 0 < c ∧ c < 6 ∧ 0 ≤ mo ∧ j ≠ 0 ∧ (∀ s ∈ (clAt z.cl c).2, s.1 ≠ mo) ∧ (clAt z.cl c).2.length < 6 ∧ z.cl.length = 6 ∧ past.length ≤ 1000 ∧
  z2 = ⟨z.cl.set c ((clAt z.cl c).1, insS mo j (clAt z.cl c).2), z.td, z.nx⟩ ∧ PsOk z2 ∧ NoRing (z2.td.map (taken z2.cl)) ∧ past2 = past ++ [z] ∧ d = .none
def R_calls_false (z : PS) (past : List PS) (ds : List PyData) (z2 : PS) (past2 : List PS) (d : PyData) : Prop := ∃ n : Nat, ds = [.int n] ∧ (∃ t ∈ z.td, t.n = n) ∧ z.td.length ≤ 16 ∧ past.length ≤ 1000 ∧ z2 = ⟨z.cl, z.td.filter (fun t => !decide (t.n = n)), z.nx⟩ ∧ past2 = past ++ [z] ∧ d = .none
def R_back (z : PS) (past : List PS) (ds : List PyData) (z2 : PS) (past2 : List PS) (d : PyData) : Prop := ds = [] ∧ past = past2 ++ [z2] ∧ d = .none
theorem nn_al {a l : Addr} (b : Addr) : b ∉ (mdal a l).P := fun q => by cases q
section
variable {P : Program} {w : World} {K : PySem.W.Frag} {mg : Str → Option Value} {base : Heap} {C : Addr}
theorem me_become (X4 : Cx4 K C) (G : Gq K C "become" "Post.become" m_become []) : Me P w K mg base C 1 "become" [] (spW K C R_become) := by
  refine me_ofW G sc_m_become (fun z p ds z2 p2 d h => by obtain ⟨_, _, _, rfl, _⟩ := h; rfl) (fun _ _ _ _ _ _ us hl => match us, hl with | [_, _, _, _], _ => rfl) ?_
  intro f cdv A outer s H vs Q E a l z past ds z2 past2 d hr hp E0 hR hQ
  obtain ⟨cl, td, n, rfl, hl, rfl, rfl, rfl⟩ := hR
  have E1 : En K [a, l] H _ [some (.v (.ref a)), some (.d (clsD cl)), some (.d (tdD td)), some (.d (.int n))] := E0 [a, l]
  refine s_push (z := z) X4 hp hl (j_var (m := mdal a l) 0 E1) (j_tup (jad_cons (j_fldC X4 (nn_al _) (nn_al _) hp (j_var (m := mdal a l) 0 E1)) (jad_cons (j_fldT X4 (nn_al _) (nn_al _) hp (j_var (m := mdal a l) 0 E1)) (jad_cons (j_fldN X4 (nn_al _) (nn_al _) hp (j_var (m := mdal a l) 0 E1)) jad_nil)))) fun H1 b1 hp1 => ?_
  have E2 := E1.bs b1
  refine s_setC (cl' := cl) X4 hp1 (j_var (m := mdal a l) 0 E2) (jd_var (m := mdal a l) 1 E2) fun H2 b2 hp2 => ?_
  have E3 := E2.bs b2
  refine s_setT (td' := td) X4 hp2 (j_var (m := mdal a l) 0 E3) (jd_var (m := mdal a l) 2 E3) fun H3 b3 hp3 => ?_
  have E4 := E3.bs b3
  exact s_setN (n := n) X4 hp3 (j_var (m := mdal a l) 0 E4) (jd_var (m := mdal a l) 3 E4) fun H4 b4 hp4 => s_nil (hQ _ _ (((b1.trans b2).trans b3).trans b4) hp4 .non)
theorem nolstA_bec (cl : Cl) (td : List Told) (i : Int) : nolstA [clsD cl, tdD td, .int i] = true := by
  show (nolst (clsD cl) && (nolst (tdD td) && true)) = true
  rw [nolst_cls, nolst_td] <;> rfl
theorem me_tells (T : Tx K mg) (X4 : Cx4 K C) (Lm : Fo P w K mg base 4 "need_moment" [] (spD K R_need_moment)) (Lc : Fo P w K mg base 4 "need_clock_number" [] (spD K R_need_cn)) (Lb : Fo P w K mg base 3 "are_bounds" [] (spD K R_are_bounds)) (Lt : Me P w K mg base C 6 "taken_back" [] (spG K C R_taken)) (Lg : Fo P w K mg base 6 "together" [] (spD K R_together)) (Le : Me P w K mg base C 1 "become" [] (spW K C R_become)) (G : Gq K C "tells" "Post.tells" m_tells [.non, .non]) : Me P w K mg base C 7 "tells" [] (spW K C R_tells) := by
  refine me_ofWD G sc_m_tells 6 2 (by simp) rfl (fun z p ds z2 p2 d h => by obtain ⟨_, _, _, _, _, rfl, _⟩ := h; rfl) (fun T kV doc pm an cdv ct us its h1 h2 => match us, its, h1, h2 with | [_, _, _, _, _, _], [_, _], _, _ => ⟨_, rfl, rfl⟩) ?_
  intro f cdv A outer s H vs Q E a l z past ds z2 past2 d hr hp E0 hR hQ
  obtain ⟨mo, ca, cb, lo, hi, rfl, h0, ha, hb, hab, hbd, hten, hpl, ez, hok, hno, rfl, rfl⟩ := hR
  have E1 : En K [a, l] H _ [some (.v (.ref a)), some (.d (pt mo)), some (.d (.int ca)), some (.d (.int cb)), some (.d (op lo)), some (.d (op hi)), none] := E0 [a, l]
  refine s_expr hp.wal (j_call Lm hr (jad_cons (jd_var (m := mdal a l) 1 E1) jad_nil) ⟨mo, rfl, h0, rfl⟩) fun H1 w1 => ?_
  have E2 := E1.mono w1
  refine s_expr w1.rfl1 (j_call Lc hr (jad_cons (jd_var (m := mdal a l) 2 E2) jad_nil) ⟨ca, rfl, ha, rfl⟩) fun H2 w2 => ?_
  have E3 := E2.mono w2
  refine s_expr w2.rfl1 (j_call Lc hr (jad_cons (jd_var (m := mdal a l) 3 E3) jad_nil) ⟨cb, rfl, hb, rfl⟩) fun H3 w3 => ?_
  have E4 := E3.mono w3
  refine s_if0 w3.rfl1 (jt_eq (jd_var (m := mdal a l) 2 E4) (jd_var (m := mdal a l) 3 E4) (decide_eq_false (fun q => hab (Int.ofNat.inj q)))) fun H4 w4 => ?_
  have E5 := E4.mono w4
  refine s_if0 w4.rfl1 (jt_not (jt_val (j_call Lb hr (jad_cons (jd_var (m := mdal a l) 4 E5) (jad_cons (jd_var (m := mdal a l) 5 E5) jad_nil)) ⟨lo, hi, rfl, hbd, rfl⟩))) fun H5 w5 => ?_
  have E6 := E5.mono w5
  have w15 := (((w1.trans w2).trans w3).trans w4).trans w5
  have hp5 := hp.wm w15 (nn_al _) (nn_al _)
  refine s_if0 w5.rfl1 (jt_eq (j_lenT T.len (j_fldT X4 (nn_al _) (nn_al _) hp5 (j_var (m := mdal a l) 0 E6))) (jg_int T.mstand) (decide_eq_false (by rw [List.length_map]; omega))) fun H6 w6 => ?_
  have E7 := E6.mono w6
  have hp6 := hp5.wm w6 (nn_al _) (nn_al _)
  refine s_asg 6 w6.rfl1 E7 (j_catT (ds := z.td.map toldD) (ds2 := [toldD ⟨z.nx, mo, ⟨ca, cb, lo, hi⟩⟩]) (j_fldT X4 (nn_al _) (nn_al _) hp6 (j_var (m := mdal a l) 0 E7)) (j_tup (jad_cons (j_tup (jad_cons (j_fldN X4 (nn_al _) (nn_al _) hp6 (j_var (m := mdal a l) 0 E7)) (jad_cons (jd_var (m := mdal a l) 1 E7) (jad_cons (jd_var (m := mdal a l) 2 E7) (jad_cons (jd_var (m := mdal a l) 3 E7) (jad_cons (jd_var (m := mdal a l) 4 E7) (jad_cons (jd_var (m := mdal a l) 5 E7) jad_nil))))))) jad_nil)) (by rw [List.length_map, List.length_singleton]; omega)) sc_m_tells.nd fun σ7 H7 w7 E8 => ?_
  have e2 : PyData.tuple (z.td.map toldD ++ [toldD ⟨z.nx, mo, ⟨ca, cb, lo, hi⟩⟩]) = tdD z2.td := by
    rw [ez]
    unfold tdD
    rw [List.map_append]
    rfl
  rw [e2] at E8
  have E8' : En K (mdal a l).M H7 σ7 [some (.v (.ref a)), some (.d (pt mo)), some (.d (.int ca)), some (.d (.int cb)), some (.d (op lo)), some (.d (op hi)), some (.d (tdD z2.td))] := E8
  have hp7 := hp6.wm w7 (nn_al _) (nn_al _)
  have ecl : z2.cl = z.cl := by rw [ez]
  refine s_if0 w7.rfl1 (jt_not (jt_val (j_call Lg hr (jad_cons (j_meth X4 Lt hr (nn_al _) (nn_al _) hp7 (j_var (m := mdal a l) 0 E8') (jad_cons (j_fldC X4 (nn_al _) (nn_al _) hp7 (j_var (m := mdal a l) 0 E8')) (jad_cons (jd_var (m := mdal a l) 6 E8') jad_nil)) ⟨z.cl, z2.td, rfl, by rw [← ecl]; exact hok.td, by have := hok.ts.1; rw [List.length_map] at this; exact this, rfl⟩ (.inl (nolst_ts _))) jad_nil) ⟨_, rfl, by rw [← ecl]; exact hok.ts, by rw [← ecl]; exact hno, rfl⟩))) fun H8 w8 => ?_
  have E9 := E8'.mono w8
  have hp8 := hp7.wm w8 (nn_al _) (nn_al _)
  refine of_ps (ps_expr pe_c rfl) (c_methW X4 Le hr w8.rfl1 (nn_al _) (nn_al _) hp8 (j_var (m := mdal a l) 0 E9) (jad_cons (j_fldC X4 (nn_al _) (nn_al _) hp8 (j_var (m := mdal a l) 0 E9)) (jad_cons (jd_var (m := mdal a l) 6 E9) (jad_cons (jd_is (j_add (j_fldN X4 (nn_al _) (nn_al _) hp8 (j_var (m := mdal a l) 0 E9)) j_int) (d' := .int (z.nx + 1 : Nat)) rfl) jad_nil))) (nolstA_bec _ _ _) ⟨z.cl, z2.td, z.nx + 1, rfl, hpl, rfl, rfl, rfl⟩ fun v H9 H10 w9 b10 hp10 r10 => ?_)
  have ez2 : (⟨z.cl, z2.td, z.nx + 1⟩ : PS) = z2 := by rw [ez]
  rw [ez2] at hp10
  have E10 := (E9.mono w9).bs b10
  have b110 : Bs [a, l] H H10 := (((((w15.trans w6).trans w7).trans w8).trans w9).bs).trans b10
  refine s_ret hp10.wal (jd_is (j_sub (j_fldN X4 (nn_al _) (nn_al _) hp10 (j_var (m := mdal a l) 0 E10)) j_int) (d' := .int z.nx) ?_) fun v H11 w11 r11 => hQ v H11 (b110.trans w11.bs) (hp10.wm w11 (nn_al _) (nn_al _)) (Dr.free _ _ rfl r11)
  rw [ez]
  congr 1
  show ((z.nx + 1 : Nat) : Int) - 1 = z.nx
  omega
theorem me_back (X4 : Cx4 K C) (G : Gq K C "back" "Post.back" m_back []) : Me P w K mg base C 1 "back" [] (spW K C R_back) := by
  refine me_ofW G sc_m_back (fun z p ds z2 p2 d h => by obtain ⟨rfl, _⟩ := h; rfl) (fun _ _ _ _ _ _ us hl => match us, hl with | [_], _ => rfl) ?_
  intro f cdv A outer s H vs Q E a l z past ds z2 past2 d hr hp E0 hR hQ
  obtain ⟨rfl, rfl, rfl⟩ := hR
  have n0 : ∀ x : Addr, x ∉ md0.P := fun x q => by cases q
  have E1 : En K [] H _ [some (.v (.ref a))] := E0 []
  refine s_if0 (w_md0 H) (jt_eqD hr (fun H1 w1 Q1 q => j_fldL X4 (n0 _) (n0 _) hp (j_var (m := md0) 0 E1) rfl H1 w1 Q1 fun v H2 w2 r => by
    have e : v = V.ref l := r
    subst e
    obtain ⟨vs2, g1, g2⟩ := (hp.same (w1.trans w2).old).pst
    exact q _ H2 w2 (show Ir K md0.M H2 (.ref l) (.d (.list ((past2 ++ [z2]).map psD))) from .lst g1 (by intro q; cases q) g2)) (j_lst jad_nil) (Sh.shaped (n := 7) (.lst fun x hx => by
      obtain ⟨y, _, rfl⟩ := List.mem_map.mp hx
      exact sh_ps y) (by decide)) (Sh.shaped (n := 1) (.lst fun x hx => by cases hx) (by decide)) (by
        rw [eqv_lst, List.map_append]
        cases past2 <;> rfl)) fun H1 w1 => ?_
  have hp1 := hp.same w1.old
  have E2 : ∀ H', En K [a, l] H' (L2.start ["self"] vs) [some (.v (.ref a))] := fun H' => ⟨(E0 [a, l]).len, fun i it e => by
    obtain ⟨v, h1, h2⟩ := (E0 [a, l]).at_ i it e
    refine ⟨v, h1, ?_⟩
    cases i with
    | zero =>
      have e' := Option.some.inj (Option.some.inj e)
      subst e'
      exact h2
    | succ i => simp [sl0] at e⟩
  exact s_pop X4 rfl hp1 (fun H' _ => j_var (m := mdal a l) 0 (E2 H')) (fun H' _ _ => j_var (m := mdal a l) 0 (E2 H')) (fun H' _ _ => j_var (m := mdal a l) 0 (E2 H')) (fun H' _ _ => j_var (m := mdal a l) 0 (E2 H')) fun H2 b2 hp2 => s_nil (hQ _ _ ((Bs.same w1.old).trans b2) hp2 .non)
theorem me_calls_false (T : Tx K mg) (X4 : Cx4 K C) (Lw : Fo P w K mg base 1 "is_whole" [] (spD K R_is_whole)) (Le : Me P w K mg base C 1 "become" [] (spW K C R_become)) (G : Gq K C "calls_false" "Post.calls_false" m_calls_false []) : Me P w K mg base C 3 "calls_false" [] (spW K C R_calls_false) := by
  refine me_ofW G sc_m_calls_false (fun z p ds z2 p2 d h => by obtain ⟨_, rfl, _⟩ := h; rfl) (fun _ _ _ _ _ _ us hl => match us, hl with | [_, _], _ => rfl) ?_
  intro f cdv A outer s H vs Q E a l z past ds z2 past2 d hr hp E0 hR hQ
  obtain ⟨n, rfl, hex, hlen, hpl, rfl, rfl, rfl⟩ := hR
  have E1 : En K (mdal a l).M H _ [some (.v (.ref a)), some (.d (.int n)), none, none] := E0 [a, l]
  refine s_if0 hp.wal (jt_w (jw_or (jt_not (jt_val (j_call Lw hr (jad_cons (jd_var 1 E1) jad_nil) ⟨_, rfl, rfl⟩))) fun _ => jw_or1 (jt_notInD hr (jd_var 1 E1) (jd_is (j_comp [("one", 3)] E1 rfl sc_m_calls_false.nd (blkOk_by (N := ["self", "number", "told", "one"]) (sc := defScope m_calls_false) (by decide +kernel)) (sr_tup (j_fldT X4 (nn_al _) (nn_al _) hp (j_var 0 E1))) (by rw [List.length_map]; omega) [3] (fun i => [some (.v (.ref a)), some (.d (.int n)), none, some (.d ((z.td.map toldD).getD i .none))]) (by simp) (fun i hi s Hs C cl fp => gt_name 3 sc_m_calls_false.nd) (fun _ => true) (fun i hi m' hm s Hs C cl fp σ' H' w' E' => jts_nil) (fun i => .int (z.td.getD i ⟨0, 0, 0, 0, none, none⟩).n) (fun i hi _ m' hm s Hs C cl fp σ' H' w' E' => ?_)) (d' := .list (z.td.map fun t => .int t.n)) ?_) (Sh.shaped (n := 0) (.int _ _) (by decide)) (Sh.shaped (n := 1) (.lst fun x hx => by
      obtain ⟨y, _, rfl⟩ := List.mem_map.mp hx
      exact .int _ _) (by decide)) ?_))) fun H1 w1 => ?_
  · have hi' : i < z.td.length := by simpa using hi
    rw [getD_map toldD hi'] at E'
    have e : z.td.getD i ⟨0, 0, 0, 0, none, none⟩ = z.td[i] := by simp [List.getD, hi']
    rw [e]
    generalize z.td[i] = t at E' ⊢
    have E'' : En K m'.M H' σ' [some (.v (.ref a)), some (.d (.int n)), none, some (.d (.tuple [.int t.n, pt t.mo, .int t.t.a, .int t.t.b, op t.t.lo, op t.t.hi]))] := E'
    exact j_ixT 0 (jd_var 3 E'') j_int
  · congr 1
    have h := range_filter_map (⟨0, 0, 0, 0, none, none⟩ : Told) (fun _ => true) (fun t => (.int t.n : PyData)) z.td
    rw [List.length_map, h, List.filter_eq_self.mpr (fun _ _ => rfl)]
  · obtain ⟨t, ht, e⟩ := hex
    have h : ((z.td.map fun t => (.int t.n : PyData)).any fun y => PyData.eqv y (.int n)) = true := List.any_eq_true.mpr ⟨.int t.n, List.mem_map.mpr ⟨t, ht, rfl⟩, by rw [eqv_int, e]; simp⟩
    rw [h] <;> rfl
  · have E2 := E1.mono w1
    have hp1 := hp.wm w1 (nn_al _) (nn_al _)
    refine s_asg 2 w1.rfl1 E2 (jd_is (j_tupleL T.tuple (j_comp [("one", 3)] E2 rfl sc_m_calls_false.nd (blkOk_by (N := ["self", "number", "told", "one"]) (sc := defScope m_calls_false) (by decide +kernel)) (sr_tup (j_fldT X4 (nn_al _) (nn_al _) hp1 (j_var 0 E2))) (by rw [List.length_map]; omega) [3] (fun i => [some (.v (.ref a)), some (.d (.int n)), none, some (.d ((z.td.map toldD).getD i .none))]) (by simp) (fun i hi s Hs C cl fp => gt_name 3 sc_m_calls_false.nd) (fun i => !decide ((z.td.getD i ⟨0, 0, 0, 0, none, none⟩).n = n)) (fun i hi m' hm s Hs C cl fp σ' H' w' E' => jts_one ?_) (fun i => toldD (z.td.getD i ⟨0, 0, 0, 0, none, none⟩)) (fun i hi _ m' hm s Hs C cl fp σ' H' w' E' => ?_))) (d' := tdD (z.td.filter fun t => !decide (t.n = n))) ?_) sc_m_calls_false.nd fun σ2 H2 w2 E3 => ?_
    · have hi' : i < z.td.length := by simpa using hi
      rw [getD_map toldD hi'] at E'
      have e : z.td.getD i ⟨0, 0, 0, 0, none, none⟩ = z.td[i] := by simp [List.getD, hi']
      rw [e]
      generalize z.td[i] = t at E' ⊢
      have E'' : En K m'.M H' σ' [some (.v (.ref a)), some (.d (.int n)), none, some (.d (.tuple [.int t.n, pt t.mo, .int t.t.a, .int t.t.b, op t.t.lo, op t.t.hi]))] := E'
      exact jt_ne (j_ixT 0 (jd_var 3 E'') j_int) (jd_var 1 E'') (by congr 1; exact decide_eq_decide.mpr (by omega))
    · have hi' : i < z.td.length := by simpa using hi
      rw [getD_map toldD hi'] at E'
      have e : z.td.getD i ⟨0, 0, 0, 0, none, none⟩ = z.td[i] := by simp [List.getD, hi']
      rw [e]
      exact jd_var 3 E'
    · have h := range_filter_map (⟨0, 0, 0, 0, none, none⟩ : Told) (fun t => !decide (t.n = n)) toldD z.td
      unfold tdD
      rw [List.length_map, h]
    · have E3' : En K (mdal a l).M H2 σ2 [some (.v (.ref a)), some (.d (.int n)), some (.d (tdD (z.td.filter fun t => !decide (t.n = n)))), none] := E3
      have hp2 := hp1.wm w2 (nn_al _) (nn_al _)
      exact of_ps (ps_expr pe_c rfl) (c_methW X4 Le hr w2.rfl1 (nn_al _) (nn_al _) hp2 (j_var 0 E3') (jad_cons (j_fldC X4 (nn_al _) (nn_al _) hp2 (j_var 0 E3')) (jad_cons (jd_var 2 E3') (jad_cons (j_fldN X4 (nn_al _) (nn_al _) hp2 (j_var 0 E3')) jad_nil))) (nolstA_bec _ _ _) ⟨z.cl, _, z.nx, rfl, hpl, rfl, rfl, rfl⟩ fun v H3 H4 w3 b4 hp4 r4 => s_nil (hQ _ _ ((((w1.trans w2).trans w3).bs).trans b4) hp4 .non))
theorem any_none {ss : List (Int × Int)} {mo : Int} (h : ∀ s ∈ ss, s.1 ≠ mo) : ((ss.map fun s => pt s.1).any fun y => PyData.eqv y (pt mo)) = false := by
  rw [List.any_map, List.any_eq_false]
  intro s hs
  show ¬ (PyData.eqv (pt s.1) (pt mo) = true)
  rw [eqv_pt, decide_eq_false (h s hs)]
  simp
theorem set_cut {α : Type} {xs : List α} {i : Nat} {x : α} (h : i < xs.length) : xs.take i ++ [x] ++ xs.drop (i + 1) = xs.set i x := by
  rw [List.set_eq_take_append_cons_drop, if_pos h, List.append_assoc]
  rfl
theorem me_sets (T : Tx K mg) (X4 : Cx4 K C) (Lo' : Fo P w K mg base 3 "need_other_clock" [] (spD K R_need_oc)) (Lm : Fo P w K mg base 4 "need_moment" [] (spD K R_need_moment)) (Lp : Fo P w K mg base 2 "is_part" [] (spD K R_is_part)) (Lb : Fo P w K mg base 1 "below" [] (spD K R_below)) (Lt : Me P w K mg base C 6 "taken_back" [] (spG K C R_taken)) (Lg : Fo P w K mg base 6 "together" [] (spD K R_together)) (Le : Me P w K mg base C 1 "become" [] (spW K C R_become)) (G : Gq K C "sets" "Post.sets" m_sets []) : Me P w K mg base C 7 "sets" [] (spW K C R_sets) := by
  refine me_ofW G sc_m_sets (fun z p ds z2 p2 d h => by obtain ⟨_, _, _, rfl, _⟩ := h; rfl) (fun _ _ _ _ _ _ us hl => match us, hl with | [_, _, _, _], _ => rfl) ?_
  intro f cdv A outer s H vs Q E a l z past ds z2 past2 d hr hp E0 hR hQ
  obtain ⟨c, mo, j, rfl, hc0, hc6, h0, hj, hnew, h5, hcl, hpl, ez, hok, hno, rfl, rfl⟩ := hR
  have E1 : En K (mdal a l).M H _ [some (.v (.ref a)), some (.d (.int c)), some (.d (pt mo)), some (.d (pt j)), none, none, none, none, none, none, none] := E0 [a, l]
  refine s_expr hp.wal (j_call Lo' hr (jad_cons (jd_var 1 E1) jad_nil) ⟨c, rfl, hc0, hc6, rfl⟩) fun H1 w1 => ?_
  have E2 := E1.mono w1
  refine s_expr w1.rfl1 (j_call Lm hr (jad_cons (jd_var 2 E2) jad_nil) ⟨mo, rfl, h0, rfl⟩) fun H2 w2 => ?_
  have E3 := E2.mono w2
  refine s_if0 w2.rfl1 (jt_w (jw_or (jt_not (jt_val (j_call Lp hr (jad_cons (jd_var 3 E3) jad_nil) ⟨some j, rfl, rfl⟩))) fun _ => jw_or1 (jt_eqD hr (jd_var 3 E3) (jg_nought T.nought) (shaped_pt j) (shaped_pt 0) (by rw [eqv_pt, decide_eq_false hj] <;> rfl)))) fun H3 w3 => ?_
  have E4 := E3.mono w3
  have hp3 := hp.wm ((w1.trans w2).trans w3) (nn_al _) (nn_al _)
  have w13 := (w1.trans w2).trans w3
  generalize eg : (clAt z.cl c).1 = g at ez
  generalize ess : (clAt z.cl c).2 = ss at ez hnew h5
  have hclk : (z.cl.map fun c => clk c.1 c.2)[c]? = some (.tuple [pt g, .tuple (ss.map sp)]) := by
    rw [cl_at (by rw [hcl]; exact hc6), eg, ess] <;> rfl
  refine s_unp w3.rfl1 E4 (j_ixT c (j_fldC X4 (nn_al _) (nn_al _) hp3 (j_var 0 E4)) (jd_var 1 E4) rfl hclk) (gt_tup rfl (gts_cons (gt_name 4 sc_m_sets.nd) (gts_cons (gt_name 5 sc_m_sets.nd) gts_nil))) fun σ4 H4 w4 E5 => ?_
  have E5' : En K (mdal a l).M H4 σ4 [some (.v (.ref a)), some (.d (.int c)), some (.d (pt mo)), some (.d (pt j)), some (.d (pt g)), some (.d (.tuple (ss.map sp))), none, none, none, none, none] := E5
  refine s_if0 w4.rfl1 (jt_inD hr (jd_var 2 E5') (jd_is (j_comp [("when", 9), ("by", 10)] E5' rfl sc_m_sets.nd (blkOk_by (N := ["self", "clock", "moment", "jump", "gain", "ahead", "at", "own", "clocks", "when", "by"]) (sc := defScope m_sets) (by decide +kernel)) (sr_tup (jd_var 5 E5')) (by rw [List.length_map]; omega) [9, 10] (fun i => [some (.v (.ref a)), some (.d (.int c)), some (.d (pt mo)), some (.d (pt j)), some (.d (pt g)), some (.d (.tuple (ss.map sp))), none, none, none, some (.d (pt (ss.getD i (0, 0)).1)), some (.d (pt (ss.getD i (0, 0)).2))]) (by simp) (fun i hi s Hs C cl fp => ?_) (fun _ => true) (fun i hi m' hm s Hs C cl fp σ' H' w' E' => jts_nil) (fun i => pt (ss.getD i (0, 0)).1) (fun i hi _ m' hm s Hs C cl fp σ' H' w' E' => jd_var 9 E')) (d' := .list (ss.map fun s => pt s.1)) ?_) (shaped_pt mo) (Sh.shaped (n := 2) (.lst fun x hx => by
      obtain ⟨y, _, rfl⟩ := List.mem_map.mp hx
      exact sh_pt _) (by decide)) (any_none hnew)) fun H5 w5 => ?_
  · have hi' : i < ss.length := by simpa using hi
    have e : (ss.map sp).getD i .none = .tuple [pt (ss.getD i (0, 0)).1, pt (ss.getD i (0, 0)).2] := by
      rw [getD_map sp hi', show ss.getD i (0, 0) = ss[i] by simp [List.getD, hi']] <;> rfl
    rw [e]
    exact gt_tup rfl (gts_cons (gt_name 9 sc_m_sets.nd) (gts_cons (gt_name 10 sc_m_sets.nd) gts_nil))
  · have h := range_filter_map ((0, 0) : Int × Int) (fun _ => true) (fun s => pt s.1) ss
    rw [List.length_map, h, List.filter_eq_self.mpr (fun _ _ => rfl)]
  have E6 := E5'.mono w5
  refine s_if0 w5.rfl1 (jt_eq (j_lenT T.len (jd_var 5 E6)) (jg_int T.msets) (decide_eq_false (by rw [List.length_map]; omega))) fun H6 w6 => ?_
  have E7 := E6.mono w6
  refine s_asg 6 w6.rfl1 E7 (jd_is (j_lenL T.len (j_comp [("when", 9), ("by", 10)] E7 rfl sc_m_sets.nd (blkOk_by (N := ["self", "clock", "moment", "jump", "gain", "ahead", "at", "own", "clocks", "when", "by"]) (sc := defScope m_sets) (by decide +kernel)) (sr_tup (jd_var 5 E7)) (by rw [List.length_map]; omega) [9, 10] (fun i => [some (.v (.ref a)), some (.d (.int c)), some (.d (pt mo)), some (.d (pt j)), some (.d (pt g)), some (.d (.tuple (ss.map sp))), none, none, none, some (.d (pt (ss.getD i (0, 0)).1)), some (.d (pt (ss.getD i (0, 0)).2))]) (by simp) (fun i hi s Hs C cl fp => ?_) (fun i => decide ((ss.getD i (0, 0)).1 < mo)) (fun i hi m' hm s Hs C cl fp σ' H' w' E' => jts_one (jt_val (j_call Lb hr (jad_cons (jd_var 9 E') (jad_cons (jd_var 2 E') jad_nil)) ⟨_, _, rfl, rfl⟩))) (fun i => .int 1) (fun i hi _ m' hm s Hs C cl fp σ' H' w' E' => j_int))) (d' := .int ((ss.filter fun s => decide (s.1 < mo)).length : Nat)) ?_) sc_m_sets.nd fun σ7 H7 w7 E8 => ?_
  · have hi' : i < ss.length := by simpa using hi
    have e : (ss.map sp).getD i .none = .tuple [pt (ss.getD i (0, 0)).1, pt (ss.getD i (0, 0)).2] := by
      rw [getD_map sp hi', show ss.getD i (0, 0) = ss[i] by simp [List.getD, hi']] <;> rfl
    rw [e]
    exact gt_tup rfl (gts_cons (gt_name 9 sc_m_sets.nd) (gts_cons (gt_name 10 sc_m_sets.nd) gts_nil))
  · have h := range_filter_map ((0, 0) : Int × Int) (fun s => decide (s.1 < mo)) (fun _ => (.int 1 : PyData)) ss
    rw [List.length_map (as := ss), h, List.length_map]
  generalize ek : (ss.filter fun s => decide (s.1 < mo)).length = kq at E8
  have E8' : En K (mdal a l).M H7 σ7 [some (.v (.ref a)), some (.d (.int c)), some (.d (pt mo)), some (.d (pt j)), some (.d (pt g)), some (.d (.tuple (ss.map sp))), some (.d (.int kq)), none, none, none, none] := E8
  refine s_asg 7 w7.rfl1 E8' (jd_is (j_tup (jad_cons (jd_var 4 E8') (jad_cons (j_catT (j_catT (j_slT (jd_var 5 E8') jo_none (jo_some (i := (kq : Int)) (jd_var 6 E8'))) (j_tup (jad_cons (j_tup (jad_cons (jd_var 2 E8') (jad_cons (jd_var 3 E8') jad_nil))) jad_nil)) ?_) (j_slT (jd_var 5 E8') (jo_some (i := (kq : Int)) (jd_var 6 E8')) jo_none) ?_) jad_nil))) (d' := clk g (insS mo j ss)) ?_) sc_m_sets.nd fun σ8 H8 w8 E9 => ?_
  · rw [cutD_take, List.length_take, List.length_map]
    simp only [List.length_singleton]
    omega
  · rw [cutD_take, cutD_drop, List.length_append, List.length_take, List.length_drop, List.length_map]
    simp only [List.length_singleton]
    omega
  · rw [cutD_take, cutD_drop]
    unfold clk insS
    rw [ek, List.map_append, List.map_append, List.map_take, List.map_drop]
    rfl
  have E9' : En K (mdal a l).M H8 σ8 [some (.v (.ref a)), some (.d (.int c)), some (.d (pt mo)), some (.d (pt j)), some (.d (pt g)), some (.d (.tuple (ss.map sp))), some (.d (.int kq)), some (.d (clk g (insS mo j ss))), none, none, none] := E9
  have hp8 := hp3.wm (((((w4.trans w5).trans w6).trans w7)).trans w8) (nn_al _) (nn_al _)
  refine s_asg 8 w8.rfl1 E9' (jd_is (j_catT (j_catT (j_slT (j_fldC X4 (nn_al _) (nn_al _) hp8 (j_var 0 E9')) jo_none (jo_some (i := (c : Int)) (jd_var 1 E9'))) (j_tup (jad_cons (jd_var 7 E9') jad_nil)) ?_) (j_slT (j_fldC X4 (nn_al _) (nn_al _) hp8 (j_var 0 E9')) (jo_some (i := ((c + 1 : Nat) : Int)) (jd_is (j_add (jd_var 1 E9') (j_int (i := 1))) rfl)) jo_none) ?_) (d' := clsD z2.cl) ?_) sc_m_sets.nd fun σ9 H9 w9 E10 => ?_
  · rw [cutD_take, List.length_take, List.length_map]
    simp only [List.length_singleton]
    omega
  · rw [cutD_take, cutD_drop, List.length_append, List.length_take, List.length_drop, List.length_map]
    simp only [List.length_singleton]
    omega
  · rw [cutD_take, cutD_drop, set_cut (by rw [List.length_map, hcl]; exact hc6), ez]
    unfold clsD
    rw [List.map_set]
  have E10' : En K (mdal a l).M H9 σ9 [some (.v (.ref a)), some (.d (.int c)), some (.d (pt mo)), some (.d (pt j)), some (.d (pt g)), some (.d (.tuple (ss.map sp))), some (.d (.int kq)), some (.d (clk g (insS mo j ss))), some (.d (clsD z2.cl)), none, none] := E10
  have hp9 := hp8.wm w9 (nn_al _) (nn_al _)
  have etd : z2.td = z.td := by rw [ez]
  refine s_if0 w9.rfl1 (jt_not (jt_val (j_call Lg hr (jad_cons (j_meth X4 Lt hr (nn_al _) (nn_al _) hp9 (j_var 0 E10') (jad_cons (jd_var 8 E10') (jad_cons (j_fldT X4 (nn_al _) (nn_al _) hp9 (j_var 0 E10')) jad_nil)) ⟨z2.cl, z.td, rfl, by rw [← etd]; exact hok.td, by have := hok.ts.1; rw [List.length_map, etd] at this; exact this, rfl⟩ (.inl (nolst_ts _))) jad_nil) ⟨_, rfl, by rw [← etd]; exact hok.ts, by rw [← etd]; exact hno, rfl⟩))) fun H10 w10 => ?_
  have E11 := E10'.mono w10
  have hp10 := hp9.wm w10 (nn_al _) (nn_al _)
  refine of_ps (ps_expr pe_c rfl) (c_methW X4 Le hr w10.rfl1 (nn_al _) (nn_al _) hp10 (j_var 0 E11) (jad_cons (jd_var 8 E11) (jad_cons (j_fldT X4 (nn_al _) (nn_al _) hp10 (j_var 0 E11)) (jad_cons (j_fldN X4 (nn_al _) (nn_al _) hp10 (j_var 0 E11)) jad_nil))) (nolstA_bec _ _ _) ⟨z2.cl, z.td, z.nx, rfl, hpl, rfl, rfl, rfl⟩ fun v H11 H12 w11 b12 hp12 r12 => s_nil (hQ _ _ ?_ ?_ .non))
  · exact (((((((((w13.trans w4).trans w5).trans w6).trans w7).trans w8).trans w9).trans w10).trans w11).bs).trans b12
  · have e : (⟨z2.cl, z.td, z.nx⟩ : PS) = z2 := by rw [ez]
    rw [e] at hp12
    exact hp12
end
end Gc
namespace Gc
open PySem PySem.Spec PyProof.Rows L2
def mda (a : Addr) : Md := ⟨[], [a], fun _ h => by cases h⟩
def ps0 (gs : List Int) : PS := ⟨gs.map fun g => (g, []), [], 0⟩
def GsOk (gs : List Int) : Prop := gs.length = 6 ∧ (∀ g ∈ gs, GainOk g) ∧ gs[0]? = some 0
def spI (K : PySem.W.Frag) (C : Addr) : Sp := fun vs H Q _ => ∃ x dx v gs, vs = [V.ref x, v] ∧ H x = some (.ins C dx []) ∧ Dr K [] H v (.tuple (gs.map pt)) ∧ GsOk gs ∧ ∀ l H', H l = none → (∀ y o, H y = some o → y ≠ x → H' y = some o) → PostAt K C H' x l (ps0 gs) [] → Q .non H'
section
variable {m : Md} {X : Cx} {σ : L2.St} {H : Hp} {e o : Expr} {rest : List Stmt} {pos pos' p : Pos} {it : Item} {C a dx : Addr} {f : Str} {fs : List (Str × V)} {D : Ends} {k k' : Nat} {Q : VK}
theorem s_fldU (c : Cls X.K C) (n : NoAttr X.K C f) (w : Wm m H H) (h : H a = some (.ins C dx fs)) (ha : a ∉ m.P) (hl : fs.length < 1000) (jo : J m X σ H o (.v (.ref a))) (je : J m X σ H e it) (kk : ∀ v H1, Wm m H H1 → Ir X.K m.M H1 v it → H1 a = some (.ins C dx fs) → cSs X rest D σ (upd H1 a (.ins C dx (putF f v fs)))) (hs : swapsWith e (some (.Attribute o f pos')) pos.line X.env = pure false := by rfl) : cSs X (.Assign [.Attribute o f pos'] e pos :: rest) D σ H :=
  of_ps (ps_fld pe_c pe_c hs) (je H w _ fun y H1 w1 ry => jo H1 w1 _ fun v H2 w2 r => by
    have e1 : v = V.ref a := r
    subst e1
    have h2 := (w1.trans w2).keep _ _ h (.inl ha)
    exact ⟨a, C, dx, fs, rfl, h2, c, n, hl, kk y H2 (w1.trans w2) (ry.mono w2) h2⟩)
theorem s_fldN {ds : List PyData} (c : Cls X.K C) (n : NoAttr X.K C f) (w : Wm m H H) (h : H a = some (.ins C dx fs)) (ha : a ∉ m.P) (hl : fs.length < 1000) (jo : J m X σ H o (.v (.ref a))) (je : JL m X σ H e ds) (kk : ∀ l H1, H l = none → Wm m H H1 → Lo X.K m.M H1 l ds → H1 a = some (.ins C dx fs) → cSs X rest D σ (upd H1 a (.ins C dx (putF f (.ref l) fs)))) (hs : swapsWith e (some (.Attribute o f pos')) pos.line X.env = pure false := by rfl) : cSs X (.Assign [.Attribute o f pos'] e pos :: rest) D σ H :=
  of_ps (ps_fld pe_c pe_c hs) (je H w _ fun l vs H1 hn w1 h1 r1 => jo H1 w1 _ fun v H2 w2 r => by
    have e1 : v = V.ref a := r
    subst e1
    have h2 := (w1.trans w2).keep _ _ h (.inl ha)
    have lP : l ∉ m.P := fun q => w.ok l (m.sub l q) hn
    exact ⟨a, C, dx, fs, rfl, h2, c, n, hl, kk l H2 hn (w1.trans w2) (Lo.mono w2 lP ⟨vs, h1, r1⟩) h2⟩)
theorem c_make {gs : List Int} (M : C8.Mak X.prog X.w X.K X.mg X.base k "Post" C (spI X.K C) []) (hr : Room k' X.A) (hk : k + 1 ≤ k') (w : Wm m H H) (je : JD m X σ H e (.tuple (gs.map pt))) (hg : GsOk gs)
    (q : ∀ x l H1 H2, Wm m H H1 → H1 x = none → H1 l = none → Same H1 H2 → PostAt X.K C H2 x l (ps0 gs) [] → Q (.ref x) H2) (hG : Gl X "Post" := by rfl)
    (he : starEach [e] X.env = (false, eval e X.env) :: starEach [] X.env := by rfl) (hpl : (backTo pos (starEach [] X.env)).any (·.1) = false := by rfl) : cE X (.Call (.Name "Post" p) [e] [] pos) σ H Q :=
  of_pe (C8.pe_mk M hr hk hG pa_c (by decide) he hpl) (ja_cons je ja_nil he H w _ fun vs H1 w1 r x dx hx hdx hne => by
    obtain ⟨v, rfl, r1⟩ := r.one
    have k1 : Same H1 (upd (upd H1 dx (.own x)) x (.ins C dx [])) := fun b o hb => by
      rw [upd_ne (ne_of_none hb hx), upd_ne (ne_of_none hb hdx)]
      exact hb
    have hgs : nolst (.tuple (gs.map pt)) = true := nolstA_map pt (fun _ => rfl) gs
    refine ⟨x, dx, v, gs, rfl, upd_same, Dr.sub k1 (fun _ _ q => by cases q) _ _ (Dr.free (M' := []) _ _ hgs r1), hg, fun l H' hl hk' hp => ⟨rfl, q x l H1 H' w1 hx ?_ (fun b o hb => hk' b o (k1 b o hb) (ne_of_none hb hx)) hp⟩⟩
    cases h : H1 l with
    | none => rfl
    | some o =>
      rw [k1 l o h] at hl
      cases hl)
end
structure Gi (K : PySem.W.Frag) (mg : Str → Option Value) (C : Addr) : Prop where
  ex : ∃ (f : Addr) (fd : FuncData), FunD K "__init__" "Post.__init__" (defArgs m_init) (defBody m_init) (defScope m_init) [] [] f fd ∧ Mk K C f ∧ mg "Post" = some (.ref C)
section
variable {P : Program} {w : World} {K : PySem.W.Frag} {mg : Str → Option Value} {base : Heap} {C : Addr}
theorem mk_post (T : Tx K mg) (X4 : Cx4 K C) (L : Fo P w K mg base 4 "are_gains" [] (spD K R_are_gains)) (G : Gi K mg C) : C8.Mak P w K mg base 5 "Post" C (spI K C) [] := by
  obtain ⟨f, fd, F, hmk, hm⟩ := G.ex
  refine ⟨f, fd, ["self", "gains"], [], hmk, F.ok sc_m_init (fun vs H Q E h => ?_) (fun cdv A outer s H vs Q E hr h => ⟨_, PSs.nox pss_c, ?_⟩), hm, F.bindsN (fun _ _ _ _ _ _ us hl => match us, hl with | [_, _], _ => rfl), .nil⟩
  · obtain ⟨x, dx, v, gs, rfl, _⟩ := h
    rfl
  · obtain ⟨a, dx, v, gs, rfl, ha, hv, hg, hQ⟩ := h
    have hgs : nolst (.tuple (gs.map pt)) = true := nolstA_map pt (fun _ => rfl) gs
    have E1 : En K (mda a).M H (L2.start ["self", "gains", "gain"] [V.ref a, v]) [some (.v (.ref a)), some (.d (.tuple (gs.map pt))), none] := en_start (N := ["self", "gains", "gain"]) (is := [.v (.ref a), .d (.tuple (gs.map pt))]) (.cons rfl (.cons (Dr.free (M' := [a]) _ _ hgs hv) .nil))
    have w0 : Wm (mda a) H H := ⟨fun _ _ h _ => h, (fun _ q => by cases q), fun b hb => by
      have e : b = a := List.mem_singleton.mp hb
      rw [e, ha]
      simp⟩
    have aP : a ∉ (mda a).P := fun q => by cases q
    refine s_if0 w0 (jt_not (jt_val (j_call L hr (jad_cons (jd_var 1 E1) jad_nil) ⟨gs, rfl, hg.1, hg.2.1, hg.2.2, rfl⟩))) fun H1 w1 => ?_
    have E2 := E1.mono w1
    have h1 := w1.keep _ _ ha (.inl aP)
    refine s_fldU X4.cls X4.n1 w1.rfl1 h1 aP (by simp) (j_var 0 E2) (j_is (it' := .d (clsD (ps0 gs).cl)) (j_tupleL T.tuple (j_comp [("gain", 2)] E2 rfl sc_m_init.nd (blkOk_by (N := ["self", "gains", "gain"]) (sc := defScope m_init) (by decide +kernel)) (sr_tup (jd_var 1 E2)) (by have := hg.1; rw [List.length_map]; omega) [2] (fun i => [some (.v (.ref a)), some (.d (.tuple (gs.map pt))), some (.d (pt (gs.getD i 0)))]) (by simp) (fun i hi s Hs C cl fp => ?_) (fun _ => true) (fun i hi m' hm s Hs C cl fp σ' H' w' E' => jts_nil) (fun i => clk (gs.getD i 0) []) (fun i hi _ m' hm s Hs C cl fp σ' H' w' E' => j_tup (jad_cons (jd_var 2 E') (jad_cons (j_tup jad_nil) jad_nil))))) ?_) fun v1 H2 w2 r2 h2 => ?_
    · have hi' : i < gs.length := by simpa using hi
      have e : (gs.map pt).getD i .none = pt (gs.getD i 0) := by
        rw [getD_map pt hi', show gs.getD i 0 = gs[i] by simp [List.getD, hi']]
      rw [e]
      exact gt_name 2 sc_m_init.nd
    · have h := range_filter_map (0 : Int) (fun _ => true) (fun g => clk g []) gs
      rw [List.length_map, h, List.filter_eq_self.mpr (fun _ _ => rfl)]
      unfold clsD ps0
      rw [List.map_map]
      rfl
    have aM : a ∈ [a] := List.mem_cons_self ..
    have b2 : Bs [a] H (upd H2 a (.ins C dx (putF "clocks" v1 []))) := (w1.trans w2).bs.trans (Bs.mutI h2 aM)
    have r2' : Dr K [] (upd H2 a (.ins C dx (putF "clocks" v1 []))) v1 (clsD (ps0 gs).cl) := (Dr.free _ _ (nolst_cls _) r2).bsn (M := [a]) (Bs.mutI h2 aM) (nolst_cls _)
    have E3 := E1.bs b2
    have wok : ∀ {H' : Hp} {fs}, H' a = some (.ins C dx fs) → Wm (mda a) H' H' := fun h => ⟨fun _ _ h _ => h, (fun _ q => by cases q), fun b hb => by
      have e : b = a := List.mem_singleton.mp hb
      rw [e, h]
      simp⟩
    have h3 : (upd H2 a (.ins C dx (putF "clocks" v1 []))) a = some (.ins C dx (putF "clocks" v1 [])) := upd_same
    refine s_fldU X4.cls X4.n2 (wok h3) h3 aP (by show 1 < 1000; decide) (j_var (m := mda a) 0 E3) (j_tup (m := mda a) jad_nil) fun v2 H4 w4 r4 h4 => ?_
    have b4 : Bs [a] _ (upd H4 a (.ins C dx (putF "told" v2 (putF "clocks" v1 [])))) := w4.bs.trans (Bs.mutI h4 aM)
    have r2'' := r2'.bsn b4 (nolst_cls _)
    have r4' : Dr K [] (upd H4 a (.ins C dx (putF "told" v2 (putF "clocks" v1 [])))) v2 (tdD []) := (Dr.free (tdD []) _ rfl r4).bsn (M := [a]) (Bs.mutI h4 aM) rfl
    have E5 := E3.bs b4
    have h5 : (upd H4 a (.ins C dx (putF "told" v2 (putF "clocks" v1 [])))) a = some (.ins C dx (putF "told" v2 (putF "clocks" v1 []))) := upd_same
    refine s_fldU X4.cls X4.n3 (wok h5) h5 aP (by show 2 < 1000; decide) (j_var (m := mda a) 0 E5) (j_int (m := mda a) (i := 0)) fun v3 H6 w6 r6 h6 => ?_
    cases r6
    have b6 : Bs [a] _ (upd H6 a (.ins C dx (putF "next_number" (.int 0) (putF "told" v2 (putF "clocks" v1 []))))) := w6.bs.trans (Bs.mutI h6 aM)
    have q2 := r2''.bsn b6 (nolst_cls _)
    have q4 := r4'.bsn b6 rfl
    have E7 := E5.bs b6
    have h7 : (upd H6 a (.ins C dx (putF "next_number" (.int 0) (putF "told" v2 (putF "clocks" v1 []))))) a = some (.ins C dx (putF "next_number" (.int 0) (putF "told" v2 (putF "clocks" v1 [])))) := upd_same
    refine s_fldN X4.cls X4.n4 (wok h7) h7 aP (by show 3 < 1000; decide) (j_var (m := mda a) 0 E7) (jl_lst (m := mda a) jad_nil) fun l H8 hl w8 lo8 h8 => s_nil ?_
    have b8 : Bs [a] _ (upd H8 a (.ins C dx (putF "past" (.ref l) (putF "next_number" (.int 0) (putF "told" v2 (putF "clocks" v1 [])))))) := w8.bs.trans (Bs.mutI h8 aM)
    have ball := ((b2.trans b4).trans b6).trans b8
    have hlH : H l = none := by
      cases h : H l with
      | none => rfl
      | some o =>
        by_cases e : l = a
        · rw [e] at hl
          rw [h7] at hl
          cases hl
        · have := ((b2.trans b4).trans b6) _ _ h (.inl (by simpa using e))
          rw [hl] at this
          cases this
    have nla : l ≠ a := fun e => by
      rw [e] at hlH
      rw [ha] at hlH
      cases hlH
    refine hQ l _ hlH (fun y o hy hne => ball _ _ hy (.inl (by simpa using hne))) ⟨⟨dx, v1, v2, ?_, q2.bsn b8 (nolst_cls _), q4.bsn b8 rfl⟩, ?_⟩
    · rw [upd_same]
      rfl
    · obtain ⟨vs8, g1, g2⟩ := lo8
      exact ⟨vs8, (upd_ne nla).trans g1, g2.to0.bsn (M := [a]) (Bs.mutI h8 aM) rfl⟩
end
end Gc
namespace Gc
open PySem PySem.Spec PyProof.Rows L2
/-! ## values known by what is true of them -/
def IsI (A : Int → Prop) (it : Item) : Prop := ∃ i, it = .d (.int i) ∧ A i
def IsD (A : PyData → Prop) (it : Item) : Prop := ∃ d, it = .d d ∧ A d
def JDR (m : Md) (X : Cx) (σ : L2.St) (H : Hp) (e : Expr) (A : PyData → Prop) : Prop := JR m X σ H e (IsD A)
def JIR (m : Md) (X : Cx) (σ : L2.St) (H : Hp) (e : Expr) (A : Int → Prop) : Prop := JDR m X σ H e fun d => ∃ i, d = .int i ∧ A i
def JADR (m : Md) (X : Cx) (σ : L2.St) (H : Hp) (es : List Expr) (A : List PyData → Prop) : Prop := ∀ H1, Wm m H H1 → ∀ Q : List V → Hp → Prop, (∀ vs ds H2, Wm m H1 H2 → A ds → DrA X.K m.M H2 vs ds → Q vs H2) → cA X es σ H1 Q
def JTA (m : Md) (X : Cx) (σ : L2.St) (H : Hp) (c : Expr) : Prop := ∀ H1, Wm m H H1 → ∀ Q : Bool → Hp → Prop, (∀ b H2, Wm m H1 H2 → Q b H2) → cT X c σ H1 Q
def JWA (m : Md) (X : Cx) (σ : L2.St) (H : Hp) (c : Expr) : Prop := ∀ H1, Wm m H H1 → ∀ Q : Bool → Hp → Prop, (∀ b H2, Wm m H1 H2 → Q b H2) → cW X c σ H1 Q
section
variable {m : Md} {X : Cx} {σ : L2.St} {H : Hp} {a b c e o : Expr} {es rest' : List Expr} {pos pos' p apos : Pos} {i j : Int} {d : PyData} {ds : List PyData} {A B : Int → Prop} {F G : PyData → Prop} {FA : List PyData → Prop} {k k' : Nat} {x : Str}
theorem jdr_of (h : JD m X σ H e d) : JDR m X σ H e (fun z => z = d) := jr_imp (jr_of h) fun it e => ⟨d, e, rfl⟩
theorem jir_of (h : JD m X σ H e (.int i)) : JIR m X σ H e (fun z => z = i) := jr_imp (jr_of h) fun it e => ⟨_, e, i, rfl, rfl⟩
theorem jdr_imp (h : JDR m X σ H e F) (k : ∀ d, F d → G d) : JDR m X σ H e G := jr_imp h fun it ⟨d, e, hd⟩ => ⟨d, e, k d hd⟩
theorem jir_imp (h : JIR m X σ H e A) (k : ∀ i, A i → B i) : JIR m X σ H e B := jdr_imp h fun d ⟨i, e, hi⟩ => ⟨i, e, k i hi⟩
theorem jdr_jir (h : JIR m X σ H e A) : JDR m X σ H e (fun d => ∃ i, d = .int i ∧ A i) := h
theorem jdr_pure (h : JDR m X σ H e (fun z => z = d)) : JD m X σ H e d := fun H1 w Q q => h H1 w Q fun v it H2 w2 ⟨d', e1, e2⟩ r => q v H2 w2 (by
  subst e1
  subst e2
  exact r)
theorem run_jdr (h : JDR m X σ H e F) {H1 : Hp} (w : Wm m H H1) {Q : VK} (q : ∀ v d H2, Wm m H1 H2 → F d → Dr X.K m.M H2 v d → Q v H2) : cE X e σ H1 Q := h H1 w Q fun v it H2 w2 ⟨d, e1, hd⟩ r => q v d H2 w2 hd (by
  subst e1
  exact r)
theorem run_jir (h : JIR m X σ H e A) {H1 : Hp} (w : Wm m H H1) {Q : VK} (q : ∀ i H2, Wm m H1 H2 → A i → Q (.int i) H2) : cE X e σ H1 Q := run_jdr h w fun v d H2 w2 ⟨i, e1, hi⟩ r => by
  subst e1
  cases r
  exact q i H2 w2 hi
theorem mk_jdr (h : ∀ H1, Wm m H H1 → ∀ Q : VK, (∀ v d H2, Wm m H1 H2 → F d → Dr X.K m.M H2 v d → Q v H2) → cE X e σ H1 Q) : JDR m X σ H e F := fun H1 w Q q => h H1 w Q fun v d H2 w2 hd r => q v (.d d) H2 w2 ⟨d, rfl, hd⟩ r
theorem mk_jir (h : ∀ H1, Wm m H H1 → ∀ Q : VK, (∀ i H2, Wm m H1 H2 → A i → Q (.int i) H2) → cE X e σ H1 Q) : JIR m X σ H e A := mk_jdr fun H1 w Q q => h H1 w Q fun i H2 w2 hi => q _ _ H2 w2 ⟨i, rfl, hi⟩ (.int i)
theorem jir_op {op : Operator} {C : Int → Int → Prop} {g : Int → Int → Int} {R : Int → Prop} (ho : OpR X (binaryOp op) (rI C fun i j => .int (g i j))) (ja : JIR m X σ H a A) (jb : JIR m X σ H b B) (hc : ∀ i j, A i → B j → C i j ∧ R (g i j)) : JIR m X σ H (.BinOp a op b pos) R := mk_jir fun H1 w Q q =>
  of_pe (pe_op ho pe_c pe_c) (run_jir ja w fun i H2 w2 hi => run_jir jb (w.trans w2) fun j H3 w3 hj => ⟨i, j, rfl, rfl, (hc i j hi hj).1, q _ H3 (w2.trans w3) (hc i j hi hj).2⟩)
theorem jir_op0 {op : Operator} {g : Int → Int → Int} {R : Int → Prop} (ho : OpR X (binaryOp op) (rI0 fun i j => .int (g i j))) (ja : JIR m X σ H a A) (jb : JIR m X σ H b B) (hc : ∀ i j, A i → B j → R (g i j)) : JIR m X σ H (.BinOp a op b pos) R := mk_jir fun H1 w Q q =>
  of_pe (pe_op ho pe_c pe_c) (run_jir ja w fun i H2 w2 hi => run_jir jb (w.trans w2) fun j H3 w3 hj => ⟨i, j, rfl, rfl, q _ H3 (w2.trans w3) (hc i j hi hj)⟩)
theorem jir_add {R : Int → Prop} (ja : JIR m X σ H a A) (jb : JIR m X σ H b B) (hc : ∀ i j, A i → B j → R (i + j)) : JIR m X σ H (.BinOp a .Add b pos) R := jir_op0 op_add ja jb hc
theorem jir_sub {R : Int → Prop} (ja : JIR m X σ H a A) (jb : JIR m X σ H b B) (hc : ∀ i j, A i → B j → R (i - j)) : JIR m X σ H (.BinOp a .Sub b pos) R := jir_op0 op_sub ja jb hc
theorem jir_mul {R : Int → Prop} (ja : JIR m X σ H a A) (jb : JIR m X σ H b B) (hc : ∀ i j, A i → B j → CMul i j ∧ R (i * j)) : JIR m X σ H (.BinOp a .Mult b pos) R := jir_op op_mul ja jb hc
theorem jir_fdiv {R : Int → Prop} (ja : JIR m X σ H a A) (jb : JIR m X σ H b B) (hc : ∀ i j, A i → B j → CDiv i j ∧ R (i / j)) : JIR m X σ H (.BinOp a .FloorDiv b pos) R := jir_op op_fdiv ja jb hc
theorem jir_mod {R : Int → Prop} (ja : JIR m X σ H a A) (jb : JIR m X σ H b B) (hc : ∀ i j, A i → B j → 0 < j ∧ R (i % j)) : JIR m X σ H (.BinOp a .Mod b pos) R := jir_op op_mod ja jb hc
/-! lists of values -/
theorem jadr_nil : JADR m X σ H [] (fun z => z = []) := fun H1 w Q q => of_pa pa_nil (q [] [] H1 w.rfl1 rfl .nil)
theorem jadr_cons {F : PyData → Prop} {FA : List PyData → Prop} (j : JDR m X σ H e F) (r : JADR m X σ H es FA) (hs : starEach (e :: es) X.env = (false, eval e X.env) :: starEach es X.env := by rfl) : JADR m X σ H (e :: es) (fun z => ∃ d ds, z = d :: ds ∧ F d ∧ FA ds) := fun H1 w Q q =>
  of_pa (pa_cons pe_c pa_c hs) (run_jdr j w fun v d H2 w2 hd r2 => r H2 (w.trans w2) _ fun vs ds H3 w3 hds r3 => q _ _ H3 (w2.trans w3) ⟨d, ds, rfl, hd, hds⟩ (.cons (Dr.mono w3 _ _ r2) r3))
theorem jadr_of (h : JAd m X σ H es ds) : JADR m X σ H es (fun z => z = ds) := fun H1 w Q q => h H1 w Q fun vs H2 w2 r => q vs ds H2 w2 rfl r.data
theorem j_tupR {kk : Nat} {R : PyData → Prop} (h : JADR m X σ H es FA) (hl : ∀ ds, FA ds → ds.length ≤ 1000 ∧ R (.tuple ds)) : JDR m X σ H (.Tuple es kk pos) R := mk_jdr fun H1 w Q q =>
  of_pe (pe_tup pa_c) (h H1 w _ fun vs ds H2 w2 hds r => ⟨by rw [r.len]; exact Nat.le_of_lt (small1000 (hl ds hds).1), fun p hp => q _ _ _ (w2.trans (w2.new hp)) (hl ds hds).2 (.tup upd_same (DrA.mono (w2.new hp) _ _ r))⟩)
theorem j_lstR {R : PyData → Prop} (h : JADR m X σ H es FA) (hl : ∀ ds, FA ds → ds.length ≤ 1000 ∧ R (.list ds)) : JDR m X σ H (.List es pos) R := mk_jdr fun H1 w Q q =>
  of_pe (pe_lst pa_c) (h H1 w _ fun vs ds H2 w2 hds r => ⟨by rw [r.len]; exact Nat.le_of_lt (small1000 (hl ds hds).1), fun p hp => q _ _ _ (w2.trans (w2.new hp)) (hl ds hds).2 (.lst upd_same (w2.fresh hp) (DrA.mono (w2.new hp) _ _ r))⟩)
/-- [..][i] -/
theorem j_ixLR {R : PyData → Prop} (ja : JDR m X σ H a F) (jb : JIR m X σ H b B) (h : ∀ f j, F f → B j → ∃ ds, f = .list ds ∧ ∃ n : Nat, j = n ∧ ∃ d, ds[n]? = some d ∧ R d) (hs : PlainIx b := by exact fun _ _ => rfl) : JDR m X σ H (.Subscript a b pos) R := mk_jdr fun H1 w Q q =>
  of_pe (pe_ix ix_list pe_c pe_c hs) (run_jdr ja w fun v f H2 w2 hf r => run_jir jb (w.trans w2) fun j H3 w3 hj => by
    obtain ⟨ds, rfl, n, rfl, d, hd, hR⟩ := h f j hf hj
    obtain ⟨l, vs, rfl, h1, _, h2⟩ := Dr.litems (Dr.mono w3 _ _ r)
    obtain ⟨u, h3, h4⟩ := h2.at hd
    exact ⟨l, vs, n, u, rfl, rfl, SqL.of h1, at_of rfl h3, q u d H3 (w2.trans w3) hR h4⟩)
theorem j_ixTR {R : PyData → Prop} (ja : JDR m X σ H a F) (jb : JIR m X σ H b B) (h : ∀ f j, F f → B j → ∃ ds, f = .tuple ds ∧ ∃ n : Nat, j = n ∧ ∃ d, ds[n]? = some d ∧ R d) (hs : PlainIx b := by exact fun _ _ => rfl) : JDR m X σ H (.Subscript a b pos) R := mk_jdr fun H1 w Q q =>
  of_pe (pe_ix ix_tup pe_c pe_c hs) (run_jdr ja w fun v f H2 w2 hf r => run_jir jb (w.trans w2) fun j H3 w3 hj => by
    obtain ⟨ds, rfl, n, rfl, d, hd, hR⟩ := h f j hf hj
    obtain ⟨l, vs, rfl, h1, h2⟩ := Dr.items (Dr.mono w3 _ _ r)
    obtain ⟨u, h3, h4⟩ := h2.at hd
    exact ⟨l, vs, n, u, rfl, rfl, h1, at_of rfl h3, q u d H3 (w2.trans w3) hR h4⟩)
/-- t + u -/
theorem j_catTR {R : PyData → Prop} (ja : JDR m X σ H a F) (jb : JDR m X σ H b G) (h : ∀ f g, F f → G g → ∃ ds es, f = .tuple ds ∧ g = .tuple es ∧ ds.length + es.length ≤ 1000 ∧ R (.tuple (ds ++ es))) : JDR m X σ H (.BinOp a .Add b pos) R := mk_jdr fun H1 w Q q =>
  of_pe (pe_op op_catA pe_c pe_c) (run_jdr ja w fun v f H2 w2 hf r => run_jdr jb (w.trans w2) fun u g H3 w3 hg r3 => by
    obtain ⟨ds, es, rfl, rfl, hz, hR⟩ := h f g hf hg
    exact rv_catT (m := m) (H := H3) hz H3 ((w.trans w2).trans w3).rfl1 v u (Dr.mono w3 _ _ r) r3 Q fun y H4 w4 r4 => q y _ H4 ((w2.trans w3).trans w4) hR r4)
/-- a def of data called -/
theorem j_callR {R : List PyData → PyData → Prop} {R' : PyData → Prop} (L : Fo X.prog X.w X.K X.mg X.base k x [] (spD X.K R)) (hr : Room k' X.A) (ja : JADR m X σ H (e :: es) FA) (hR : ∀ ds, FA ds → ∃ d, R ds d ∧ nolst d = true ∧ R' d) (hk : k ≤ k' := by decide) (hg : Gl X x := by rfl) (hdb : (x == ("__debug__" : Str)) = false := by decide)
    (he : starEach (e :: es) X.env = (false, eval e X.env) :: starEach es X.env := by rfl) (hpl : (backTo pos (starEach es X.env)).any (·.1) = false := by rfl) : JDR m X σ H (.Call (.Name x p) (e :: es) [] pos) R' := mk_jdr fun H1 w Q q =>
  c_call L hr hk (ja H1 w _ fun vs ds H2 w2 hds r => by
    obtain ⟨d, h1, h2, h3⟩ := hR ds hds
    rw [List.append_nil]
    exact ⟨ds, d, r.to0, h1, fun v H3 kk r3 => q v d H3 (w2.trans (w2.rfl1.same kk)) h3 (Dr.free d v h2 r3)⟩) hg hdb he hpl
/-- a def that draws: the pen, then data -/
theorem j_penR {pa : Addr} {Pre : List PyData → Prop} {R : List PyData → PyData → Prop} {R' : PyData → Prop} (L : Fo X.prog X.w X.K X.mg X.base k x [] (spP X.K Pre R)) (hr : Room k' X.A) (hP : m.P = [pa]) (je : J m X σ H e (.v (.ref pa))) (ja : JADR m X σ H es FA) (hR : ∀ ds, FA ds → Pre ds ∧ ∀ d, R ds d → nolst d = true ∧ R' d) (hk : k ≤ k' := by decide) (hg : Gl X x := by rfl) (hdb : (x == ("__debug__" : Str)) = false := by decide)
    (he : starEach (e :: es) X.env = (false, eval e X.env) :: starEach es X.env := by rfl) (hpl : (backTo pos (starEach es X.env)).any (·.1) = false := by rfl) : JDR m X σ H (.Call (.Name x p) (e :: es) [] pos) R' := mk_jdr fun H1 w Q q =>
  c_call L hr hk (of_pa (pa_cons pe_c pa_c he) (je H1 w _ fun v H2 w2 r1 => ja H2 (w.trans w2) _ fun vs ds H3 w3 hds r => by
    have e1 : v = V.ref pa := r1
    subst e1
    show spP X.K Pre R ((V.ref pa :: vs) ++ []) H3 Q E0
    rw [List.append_nil]
    obtain ⟨h1, h2⟩ := hR ds hds
    refine ⟨pa, vs, ds, rfl, (w2.trans w3).pens pa (by rw [hP]; exact List.mem_singleton.mpr rfl), DrA.sub (Same.refl _) (fun b _ hb => m.sub b (by rw [hP]; exact hb)) _ _ r, h1, fun u d H4 hd kk r4 => ?_⟩
    obtain ⟨h3, h4⟩ := h2 d hd
    exact q u d H4 ((w2.trans w3).trans (w3.of_pen hP kk)) h4 (Dr.free d u h3 r4))) hg hdb he hpl
/-- the pen's items -/
theorem j_penIx {pa : Addr} (hP : m.P = [pa]) (ja : J m X σ H a (.v (.ref pa))) (n : Nat) (hn : n < 3) (jb : JD m X σ H b (.int i)) (hi : i = n := by rfl) (hs : PlainIx b := by exact fun _ _ => rfl) : JIR m X σ H (.Subscript a b pos) (fun _ => True) := mk_jir fun H1 w Q q =>
  of_pe (pe_ix ix_list pe_c pe_c hs) (ja H1 w _ fun v H2 w2 r => jb H2 (w.trans w2) _ fun y H3 w3 ry => by
    have e1 : v = V.ref pa := r
    subst e1
    cases ry
    obtain ⟨ob, h1, x1, x2, x3, rfl⟩ := (w2.trans w3).pens pa (by rw [hP]; exact List.mem_singleton.mpr rfl)
    have h2 : ∃ z : Int, ([.int x1, .int x2, .int x3] : List V)[n]? = some (.int z) := by
      match n, hn with
      | 0, _ => exact ⟨x1, rfl⟩
      | 1, _ => exact ⟨x2, rfl⟩
      | 2, _ => exact ⟨x3, rfl⟩
    obtain ⟨z, hz⟩ := h2
    exact ⟨pa, _, i, _, rfl, rfl, SqL.of h1, at_of hi hz, q z H3 (w2.trans w3) trivial⟩)
/-! tests not known -/
theorem jta_cmp {op : CmpOp} {g : Int → Int → Bool} (ho : OpR X (compareOp op) (rI0 fun i j => .bl (g i j))) (ja : JIR m X σ H a A) (jb : JIR m X σ H b B) (hm : behindInMarks op b = false) : JTA m X σ H (.Compare a [op] [b] pos) := fun H1 w Q q =>
  of_pt (pt_cmpR ho pe_c pe_c hm) (run_jir ja w fun i H2 w2 hi => run_jir jb (w.trans w2) fun j H3 w3 hj => ⟨i, j, rfl, rfl, _, rfl, q _ H3 (w2.trans w3)⟩)
theorem jta_eq (ja : JIR m X σ H a A) (jb : JIR m X σ H b B) : JTA m X σ H (.Compare a [.Eq] [b] pos) := fun H1 w Q q =>
  of_pt (pt_cmpR op_eq pe_c pe_c (nomark _)) (run_jir ja w fun i H2 w2 hi => run_jir jb (w.trans w2) fun j H3 w3 hj => ⟨rfl, _, rfl, q _ H3 (w2.trans w3)⟩)
theorem jwa_one (h : JTA m X σ H a) : JWA m X σ H (.BoolOp .And [a] pos) := fun H1 w Q q => of_pw (pw_and1 pt_c) (h H1 w Q q)
theorem jwa_and (h : JTA m X σ H a) (k : JWA m X σ H (.BoolOp .And (b :: rest') pos)) : JWA m X σ H (.BoolOp .And (a :: b :: rest') pos) := fun H1 w Q q =>
  of_pw (pw_and pt_c pw_c) (h H1 w _ fun t H2 w2 => ite2 (fun _ => k H2 (w.trans w2) Q fun t' H3 w3 => q t' H3 (w2.trans w3)) fun _ => q false H2 w2)
theorem jta_w (h : JWA m X σ H e) : JTA m X σ H e := fun H1 w Q q => of_pt pw_c.pt (h H1 w Q q)
end
section
variable {m : Md} {X : Cx} {σ : L2.St} {H : Hp} {c e o i : Expr} {body orelse rest : List Stmt} {pos pos' p : Pos} {D : Ends} {F : PyData → Prop} {A : Int → Prop} {sl : List (Option Item)}
theorem s_ifA (w : Wm m H H) (j : JTA m X σ H c) (k1 : ∀ H1, Wm m H H1 → cSs X body { D with nx := cSs X rest D } σ H1) (k2 : ∀ H1, Wm m H H1 → cSs X orelse { D with nx := cSs X rest D } σ H1) : cSs X (.If c body orelse pos :: rest) D σ H :=
  of_ps (ps_if pt_c pss_c pss_c) (j H w _ fun t H1 w1 => ite2 (fun _ => k1 H1 w1) fun _ => k2 H1 w1)
theorem s_asgD (n : Nat) {x : Str} (w : Wm m H H) (E : En X.K m.M H σ sl) (j : JDR m X σ H e F) (hN : X.N.Nodup) (k : ∀ d σ1 H1, F d → Wm m H H1 → En X.K m.M H1 σ1 (sl.set n (some (.d d))) → cSs X rest D σ1 H1) (hi : X.N[n]? = some x := by rfl) (hx : Loc X.env.scope x := by first | exact Or.inl rfl | exact Or.inr rfl)
    (hs : swapsWith e (some (.Name x pos')) pos.line X.env = pure false := by rfl) (hf : X.fn x = true ∨ X.env.scope.names.lookup x = some .local := by first | exact .inl rfl | exact .inr rfl) : cSs X (.Assign [.Name x pos'] e pos :: rest) D σ H :=
  s_asgR n w E j hN (fun it σ1 H1 ⟨d, e1, hd⟩ w1 E1 => by
    subst e1
    exact k d σ1 H1 hd w1 E1) hi hx hs hf
theorem s_retD (w : Wm m H H) (j : JDR m X σ H e F) (k : ∀ v d H1, Wm m H H1 → F d → Dr X.K m.M H1 v d → D.rt v H1) : cSs X (.Return (some e) pos :: rest) D σ H := of_ps (ps_ret pe_c) (run_jdr j w fun v d H1 w1 hd r => k v d H1 w1 hd r)
/-- a store into the pen -/
theorem s_setPen {pa : Addr} {n : Nat} (hP : m.P = [pa]) (w : Wm m H H) (E : En X.K m.M H σ sl) (jo : J m X σ H o (.v (.ref pa))) (ji : JD m X σ H i (.int (n : Int))) (je : JIR m X σ H e A) (hn : n < 3)
    (k : ∀ H1, Wm m H H1 → En X.K m.M H1 σ sl → cSs X rest D σ H1)
    (ha : ∀ v, assign (.Subscript o i p) X.env v = (do
      let ov ← holding [v] (eval o X.env)
      let iv ← holding [v, ov] (eval i X.env)
      standAt p
      holding [v, ov, iv] (setItem ov iv v)
      release [v, ov, iv] []) := by intro _; rfl)
    (hs : swapsWithSole [.Subscript o i p] e pos.line X.env = pure false := by rfl) (hw : swappedStores [.Subscript o i p] e X.env = pure none := by rfl) (h1 : (assignEach [.Subscript o i p] X.env).map (·.2) = [assign (.Subscript o i p) X.env] := by rfl) : cSs X (.Assign [.Subscript o i p] e pos :: rest) D σ H :=
  of_ps (ps_asg pe_c (pg_sub pe_c pe_c set_list ha) hs hw h1) (run_jir je w fun z H1 w1 hz => jo H1 w1 _ fun v H2 w2 r2 => ji H2 (w1.trans w2) _ fun y H3 w3 r3 => by
    have e1 : v = V.ref pa := r2
    subst e1
    cases r3
    have w13 := (w1.trans w2).trans w3
    have pm : pa ∈ m.P := by rw [hP]; exact List.mem_singleton.mpr rfl
    obtain ⟨ob, h2, x1, x2, x3, rfl⟩ := w13.pens pa pm
    have hix : ixN ([.int x1, .int x2, .int x3] : List V).length (n : Int) = some n := by
      unfold ixN
      rw [if_pos (by omega), if_pos (by simp; omega)]
      simp
    have hpen : PenO (.lst (([.int x1, .int x2, .int x3] : List V).set n (.int z))) := by
      match n, hn with
      | 0, _ => exact ⟨z, x2, x3, rfl⟩
      | 1, _ => exact ⟨x1, z, x3, rfl⟩
      | 2, _ => exact ⟨x1, x2, z, rfl⟩
    have wN : Wm m H (upd H3 pa (.lst (([.int x1, .int x2, .int x3] : List V).set n (.int z)))) := by
      refine ⟨fun b ob hb q => ?_, fun b hb => ?_, fun b hb => ?_⟩
      · have hb3 := w13.keep b ob hb q
        refine (upd_ne fun e => ?_).trans hb3
        subst e
        rcases q with q | ⟨ys, rfl⟩
        · exact q pm
        · rw [h2] at hb3
          cases hb3
      · rw [hP] at hb
        have e : b = pa := List.mem_singleton.mp hb
        subst e
        exact ⟨_, upd_same, hpen⟩
      · by_cases e : b = pa
        · rw [e, upd_same]
          simp
        · rw [upd_ne e]
          exact w13.ok b hb
    exact ⟨pa, _, n, n, rfl, rfl, h2, hix, k _ wN (E.mono wN)⟩)
end
end Gc
namespace Gc
open PySem PySem.Spec PyProof.Rows L2
section
variable {m : Md} {X : Cx} {σ : L2.St} {H : Hp} {a b e o elt tg iter : Expr} {es : List Expr} {rest : List Stmt} {ifs : List Expr} {scope : Scope} {pos pos' p : Pos} {F G : PyData → Prop} {FA : List PyData → Prop} {D : Ends} {sl : List (Option Item)} {n : Nat} {item : Nat → PyData}
/-- tuple(xs) -/
theorem j_tupleR {x : Str} {R : PyData → Prop} (hm : X.mg x = none) (ja : JDR m X σ H e F) (h : ∀ f, F f → ∃ ds, f = .list ds ∧ R (.tuple ds)) (hv : bootBuiltins x = some (.type "tuple") := by decide +kernel) (hg : Gl X x := by rfl) (hn : x ≠ "__name__" := by decide) (hdb : (x == ("__debug__" : Str)) = false := by decide)
    (he : starEach [e] X.env = (false, eval e X.env) :: starEach [] X.env := by rfl) (hpl : (backTo pos (starEach [] X.env)).any (·.1) = false := by rfl) : JDR m X σ H (.Call (.Name x p) [e] [] pos) R := mk_jdr fun H1 w Q q =>
  of_pe (pe_callTy call_tuple_of hg hm hv pa_c hn hdb he hpl) (of_pa (pa_cons pe_c pa_c he) (run_jdr ja w fun v f H2 w2 hf r => of_pa pa_nil (by
    obtain ⟨ds, rfl, hR⟩ := h f hf
    obtain ⟨l, vs, rfl, h1, _, h2⟩ := Dr.litems r
    exact ⟨l, vs, rfl, .inl ⟨SqL.of h1, fun t ht => q _ _ _ (w2.trans (w2.rfl1.new ht)) hR (.tup upd_same (DrA.mono (w2.rfl1.new ht) _ _ h2))⟩⟩)))
theorem s_parD (n k : Nat) {x y : Str} {px py pt : Pos} {kt k2 pt2} {R : PyData → PyData → Prop} (w : Wm m H H) (E : En X.K m.M H σ sl) (hc : X.calm = true) (ja : JADR m X σ H [a, b] FA) (hF : ∀ ds, FA ds → ∃ d1 d2, ds = [d1, d2] ∧ R d1 d2) (hN : X.N.Nodup) (kk : ∀ d1 d2 σ1 H1, R d1 d2 → Wm m H H1 → En X.K m.M H1 σ1 ((sl.set n (some (.d d1))).set k (some (.d d2))) → cSs X rest D σ1 H1)
    (hi : X.N[n]? = some x := by rfl) (hj : X.N[k]? = some y := by rfl) (hij : n ≠ k := by decide) (hx : X.env.scope.names.lookup x = some .local := by rfl) (hy : X.env.scope.names.lookup y = some .local := by rfl)
    (hw : swappedStores [.Tuple [.Name x px, .Name y py] kt pt] (.Tuple [a, b] k2 pt2) X.env = pure (some [x, y]) := by rfl)
    (hs : swapsWithSole [.Tuple [.Name x px, .Name y py] kt pt] (.Tuple [a, b] k2 pt2) pos.line X.env = pure false := by rfl) : cSs X (.Assign [.Tuple [.Name x px, .Name y py] kt pt] (.Tuple [a, b] k2 pt2) pos :: rest) D σ H :=
  of_ps (ps_par hc hN hi hj hij hx hy pa_c hw hs) (ja H w _ fun vs ds H1 w1 hds r => by
    obtain ⟨d1, d2, rfl, hR⟩ := hF ds hds
    cases r with
    | cons r1 r =>
      cases r with
      | cons r2 r =>
        cases r
        exact ⟨_, _, rfl, kk d1 d2 _ H1 hR w1 (((E.mono w1).set (it := .d d1) r1).set (it := .d d2) r2)⟩)
theorem j_compR (own : List (Str × Nat)) (E : En X.K m.M H σ sl) (hc : X.calm = true) (hN : X.N.Nodup) (ok : BlkOk X.N X.env.scope scope own) (S : Sr m X σ H tg iter n item) (hn : n ≤ 1000)
    (is : List Nat) (sl1 : Nat → List (Option Item)) (his : ∀ j, j ∈ is → j ∈ own.map (·.2)) (hg : ∀ i, i < n → ∀ (s : Shared) (Hs : Hp) (C : Addr) (cl : List (Str × Addr)) (fp : List Addr), Gt (X.blk s Hs scope (compEnvC scope cl C X.env) fp) tg is (item i) (wipeS sl (own.map (·.2))) (sl1 i))
    (kp : Nat → Bool) (ht : ∀ i, i < n → ∀ (m' : Md), m'.P = m.P → ∀ (s : Shared) (Hs : Hp) (C : Addr) (cl : List (Str × Addr)) (fp : List Addr) σ' H', Wm m' H' H' → En X.K m'.M H' σ' (sl1 i) → JTs m' (X.blk s Hs scope (compEnvC scope cl C X.env) fp) σ' H' ifs (kp i))
    (R : Nat → PyData → Prop) (he : ∀ i, i < n → kp i = true → ∀ (m' : Md), m'.P = m.P → ∀ (s : Shared) (Hs : Hp) (C : Addr) (cl : List (Str × Addr)) (fp : List Addr) σ' H', Wm m' H' H' → En X.K m'.M H' σ' (sl1 i) → JDR m' (X.blk s Hs scope (compEnvC scope cl C X.env) fp) σ' H' elt (R i))
    (hs : ∀ x, foldedSetIterable iter X.env x = pure x := by intro _; rfl) : JDR m X σ H (.ListComp elt [⟨tg, iter, ifs, 0⟩] scope pos) (fun d => ∃ ds, d = .list ds ∧ Lc kp R n ds) :=
  jr_imp (jr_lc own E hc hN ok S hn (wipeS_len _ _) (fun i it h => wipeS_at h) is sl1 his hg kp ht R he hs) fun it ⟨ds, e, lc⟩ => ⟨.list ds, e, ds, rfl, lc⟩
end
theorem lc_pts {n : Nat} {ds : List PyData} {A : Int → Prop} (h : Lc (fun _ => true) (fun _ d => ∃ z, d = pt z ∧ A z) n ds) : ∃ zs : List Int, ds = zs.map pt ∧ zs.length = n ∧ ∀ z ∈ zs, A z := by
  induction h with
  | zero => exact ⟨[], rfl, rfl, by simp⟩
  | skip h _ _ => cases h
  | take _ _ hd ih =>
    obtain ⟨zs, rfl, h2, h3⟩ := ih
    obtain ⟨z, rfl, hz⟩ := hd
    exact ⟨zs ++ [z], by simp, by simp [h2], fun y hy => by
      rcases List.mem_append.mp hy with hy | hy
      · exact h3 y hy
      · rw [List.mem_singleton.mp hy]
        exact hz⟩
/-! ## the law's helpers -/
def nextF (s : Int) : Int := ((s + 7919) % 2147483647 * ((s + 7919) % 2147483647) + 48271 * ((s + 7919) % 2147483647) + 12345) % 2147483629
def R_next (ds : List PyData) (d : PyData) : Prop := ∃ s, ds = [.int s] ∧ d = .int (nextF s)
def PreN (ds : List PyData) : Prop := ∃ n : Int, ds = [.int n] ∧ 0 < n ∧ n < 1073741824
def R_draw (ds : List PyData) (d : PyData) : Prop := ∃ n r : Int, ds = [.int n] ∧ 0 ≤ r ∧ r < n ∧ d = .int r
def PreE (ds : List PyData) : Prop := ds = []
def R_some (ds : List PyData) (d : PyData) : Prop := ∃ z, d = pt z ∧ z.natAbs ≤ 1081080
def R_up (ds : List PyData) (d : PyData) : Prop := ∃ z, d = pt z ∧ 0 ≤ z ∧ z ≤ 803880
def rowD (row : List Int) : PyData := .tuple (row.map pt)
def RowOk (row : List Int) : Prop := row.length = 6 ∧ row[0]? = some 0 ∧ ∀ z ∈ row, z.natAbs ≤ 1081080
def R_row (ds : List PyData) (d : PyData) : Prop := ∃ row, d = rowD row ∧ RowOk row
def rw0 (row : List Int) (i : Nat) : Int := row.getD i 0
structure Kept (row : List Int) (t : Tl) : Prop where
  ok : TlOk t
  lo : ∀ l, t.lo = some l → l ≤ rw0 row t.b - rw0 row t.a
  hi : ∀ h, t.hi = some h → rw0 row t.b - rw0 row t.a ≤ h
  sl : ∀ l, t.lo = some l → l.natAbs < 2 ^ 39
  sh : ∀ h, t.hi = some h → h.natAbs < 2 ^ 39
def PreT (ds : List PyData) : Prop := ∃ row, ∃ n : Int, ds = [rowD row, .int n] ∧ RowOk row ∧ (n = 3 ∨ n = 6)
def R_true (ds : List PyData) (d : PyData) : Prop := ∃ row n t, ds = [rowD row, n] ∧ d = tlD t ∧ Kept row t
def G4 (g : Int) : Prop := GainOk g ∧ (462 : Int) ∣ g
def R_gains (ds : List PyData) (d : PyData) : Prop := ∃ gs : List Int, d = rowD gs ∧ gs.length = 6 ∧ gs[0]? = some 0 ∧ ∀ g ∈ gs, G4 g
def R_ldrift (ds : List PyData) (d : PyData) : Prop := ∃ g ss mo, ds = [clk g ss, pt mo] ∧ g.natAbs < 2 ^ 60 ∧ (27720 : Int) ∣ mo * g ∧ d = pt (dr g ss mo)
theorem bot_ok {b : Int} (h1 : 1 ≤ b) (h2 : b ≤ 12) : 27720 / b * b = 27720 := by
  have : b = 1 ∨ b = 2 ∨ b = 3 ∨ b = 4 ∨ b = 5 ∨ b = 6 ∨ b = 7 ∨ b = 8 ∨ b = 9 ∨ b = 10 ∨ b = 11 ∨ b = 12 := by omega
  rcases this with rfl | rfl | rfl | rfl | rfl | rfl | rfl | rfl | rfl | rfl | rfl | rfl <;> decide
theorem made_of {t b : Int} (h1 : 1 ≤ b) (h2 : b ≤ 12) : R_lowest [.int t, .int b] (pt (t * (27720 / b))) := ⟨t, b, _, rfl, ⟨by omega, by omega⟩, by rw [Int.mul_assoc, bot_ok h1 h2], rfl⟩
section
variable {P : Program} {w : World} {K : PySem.W.Frag} {mg : Str → Option Value} {base : Heap}
theorem fo_next (G : Gf K mg "_law_next" s_law_next []) : Fo P w K mg base 1 "_law_next" [] (spD K R_next) := by
  refine fo_of G sc_law_next (fun ds d h => by obtain ⟨a, rfl, _⟩ := h; rfl) (fun _ _ _ _ _ _ us hl => match us, hl with | [_], _ => rfl) ?_
  intro f cdv A outer s H vs Q E ds d hr E0 hR hQ
  obtain ⟨s0, rfl, rfl⟩ := hR
  refine s_asg 0 (w_md0 H) E0 (j_mod (j_add (jd_var 0 E0) j_int) j_int (by decide)) sc_law_next.nd fun σ1 H1 w1 E1 => ?_
  have h1 : 0 ≤ (s0 + 7919) % 2147483647 := Int.emod_nonneg _ (by decide)
  have h2 : (s0 + 7919) % 2147483647 < 2147483647 := Int.emod_lt_of_pos _ (by decide)
  have E2 : En K [] H1 σ1 [some (.d (.int ((s0 + 7919) % 2147483647)))] := E1
  exact s_ret w1.rfl1 (j_mod (j_add (j_add (j_mul (jd_var 0 E2) (jd_var 0 E2) (.inl ⟨by omega, by omega⟩)) (j_mul j_int (jd_var 0 E2) (.inl ⟨by decide, by decide⟩))) j_int) j_int (by decide)) fun v H2 w2 r => hQ v H2 (w1.trans w2) r
theorem fo_draw (Ln : Fo P w K mg base 1 "_law_next" [] (spD K R_next)) (G : Gf K mg "_law_draw" s_law_draw []) : Fo P w K mg base 2 "_law_draw" [] (spP K PreN R_draw) := by
  refine fo_ofP G sc_law_draw (fun ds h => by obtain ⟨a, rfl, _⟩ := h; rfl) (fun _ _ _ _ _ _ us hl => match us, hl with | [_, _], _ => rfl) ?_
  intro f cdv A outer s H vs Q E pa ds hr pw E0 hR hQ
  obtain ⟨n, rfl, hn1, hn2⟩ := hR
  have E1 : En K (mdp pa).M H _ [some (.v (.ref pa)), some (.d (.int n)), none] := E0
  have fin : ∀ (v : V) (r : Int) (H' : Hp), 0 ≤ r ∧ r < n → Wm (mdp pa) H H' → Dr K [pa] H' v (.int r) → Q v H' := fun v r H' h w r' => hQ v _ H' ⟨n, r, rfl, h.1, h.2, rfl⟩ w r'
  refine s_ifA pw (jta_w (jwa_and (jta_eq (j_penIx rfl (j_var 0 E1) 1 (by decide) j_int) (jir_of j_int)) (jwa_one (jta_cmp op_gt (j_penIx rfl (j_var 0 E1) 0 (by decide) j_int) (jir_of j_int) (nomark _))))) (fun H1 w1 => ?_) fun H1 w1 => s_nil ?_
  · have E2 := E1.mono w1
    refine s_asgD 2 w1.rfl1 E2 (jir_mod (R := fun r => 0 ≤ r ∧ r < n) (j_penIx rfl (j_var 0 E2) 0 (by decide) j_int) (jir_of (jd_var 1 E2)) fun i j _ hj => by
      subst hj
      exact ⟨hn1, Int.emod_nonneg _ (by omega), Int.emod_lt_of_pos _ hn1⟩) sc_law_draw.nd fun d σ2 H2 hd w2 E3 => ?_
    obtain ⟨r, rfl, hr'⟩ := hd
    have E3' : En K (mdp pa).M H2 σ2 [some (.v (.ref pa)), some (.d (.int n)), some (.d (.int r))] := E3
    refine s_setPen (n := 0) rfl w2.rfl1 E3' (j_var 0 E3') j_int (jir_fdiv (R := fun _ => True) (j_penIx rfl (j_var 0 E3') 0 (by decide) j_int) (jir_of (jd_var 1 E3')) fun i j _ hj => by
      subst hj
      exact ⟨⟨hn1, hn2⟩, trivial⟩) (by decide) fun H4 w4 E4 => ?_
    exact s_ret w4.rfl1 (jd_var 2 E4) fun v H5 w5 r5 => fin v r H5 hr' (((w1.trans w2).trans w4).trans w5) r5
  · have E2 := E1.mono w1
    refine s_setPen (n := 2) rfl w1.rfl1 E2 (j_var 0 E2) j_int (A := fun _ => True) (j_callR Ln hr (jadr_cons (jdr_jir (jir_add (R := fun _ => True) (j_callR (R' := fun d => ∃ i, d = .int i ∧ True) Ln hr (jadr_cons (jdr_jir (j_penIx rfl (j_var 0 E2) 2 (by decide) j_int)) jadr_nil) fun ds h => by
      obtain ⟨d, ds', rfl, ⟨i, rfl, _⟩, rfl⟩ := h
      exact ⟨_, ⟨i, rfl, rfl⟩, rfl, _, rfl, trivial⟩) (jir_of j_int) fun _ _ _ _ => trivial)) jadr_nil) fun ds h => by
      obtain ⟨d, ds', rfl, ⟨i, rfl, _⟩, rfl⟩ := h
      exact ⟨_, ⟨i, rfl, rfl⟩, rfl, _, rfl, trivial⟩) (by decide) fun H4 w4 E4 => ?_
    exact s_retD w4.rfl1 (jir_mod (R := fun r => 0 ≤ r ∧ r < n) (jir_fdiv (R := fun _ => True) (j_penIx rfl (j_var 0 E4) 2 (by decide) j_int) (jir_of j_int) fun i j _ hj => by
      subst hj
      exact ⟨⟨by decide, by decide⟩, trivial⟩) (jir_of (jd_var 1 E4)) fun i j _ hj => by
      subst hj
      exact ⟨hn1, Int.emod_nonneg _ (by omega), Int.emod_lt_of_pos _ hn1⟩) fun v d H5 w5 hd r5 => by
      obtain ⟨r, rfl, hr'⟩ := hd
      exact fin v r H5 hr' ((w1.trans w4).trans w5) r5
theorem fo_made (T : Tx K mg) (G : Gf K mg "_law_made" s_law_made []) : Fo P w K mg base 1 "_law_made" [] (spD K R_lowest) := by
  refine fo_of G sc_law_made (fun ds d h => by obtain ⟨t, b, z, rfl, _⟩ := h; rfl) (fun _ _ _ _ _ _ us hl => match us, hl with | [_, _], _ => rfl) ?_
  intro f cdv A outer s H vs Q E ds d hr E0 hR hQ
  obtain ⟨t, b, z, rfl, ⟨hb1, hb2⟩, hz, rfl⟩ := hR
  obtain ⟨e1, e2⟩ := low_eq hb1 hz
  obtain ⟨f1, f2⟩ := low_factor (t := t) hb1 hb2
  have E1 : En K [] H _ [some (.d (.int t)), some (.d (.int b)), none, none] := E0
  refine s_par 2 3 (w_md0 H) E1 rfl (ja_cons (j_abs T.abs (by decide +kernel) (jd_var 0 E1)) (ja_cons (jd_var 1 E1) ja_nil)) sc_law_made.nd fun σ1 H1 w1 E2 => ?_
  refine s_while (m := md0) PassesOwn.never (fun n σ' H' => ∃ x y : Int, n = y.toNat ∧ 0 ≤ x ∧ 0 ≤ y ∧ (0 < x ∨ 0 < y) ∧ Nat.gcd x.natAbs y.natAbs = Nat.gcd t.natAbs b.natAbs ∧ Wm md0 H H' ∧ En K [] H' σ' [some (.d (.int t)), some (.d (.int b)), some (.d (.int x)), some (.d (.int y))]) _ ⟨((t.natAbs : Nat) : Int), b, rfl, by omega, by omega, .inr hb1, by simp, w1, E2⟩ ?_
  rintro n σ' H' ⟨x, y, rfl, hx, hy, hxy, hg, w', E'⟩
  refine ⟨_, w'.rfl1, jt_gt (jd_var 3 E') j_int, fun hp H2 w2 => ?_, fun hp H2 w2 => ?_⟩
  · have h0 : 0 < y := of_decide_eq_true hp
    have E3 := E'.mono (m := md0) w2
    have hm1 : 0 ≤ x % y := Int.emod_nonneg _ (by omega)
    have hm2 : x % y < y := Int.emod_lt_of_pos _ h0
    refine s_par 2 3 w2.rfl1 E3 rfl (ja_cons (jd_var 3 E3) (ja_cons (j_mod (jd_var 2 E3) (jd_var 3 E3) h0) ja_nil)) sc_law_made.nd fun σ3 H3 w3 E4 => s_nil ⟨_, by omega, y, x % y, rfl, by omega, hm1, .inl h0, ?_, (w'.trans w2).trans w3, E4⟩
    have e : (x % y).natAbs = x.natAbs % y.natAbs := by
      have h1 : x = ((x.natAbs : Nat) : Int) := by omega
      have h2 : y = ((y.natAbs : Nat) : Int) := by omega
      rw [h1, h2]
      rfl
    rw [e, Nat.gcd_comm, ← Nat.gcd_rec, Nat.gcd_comm]
    exact hg
  · have h0 : y = 0 := by
      have := of_decide_eq_false hp
      omega
    subst h0
    have E3 := E'.mono (m := md0) w2
    have ey : x = ((Nat.gcd t.natAbs b.natAbs : Nat) : Int) := by
      rw [← hg]
      simp
      omega
    rw [ey] at E3
    have E3' : En K [] H2 σ' [some (.d (.int t)), some (.d (.int b)), some (.d (.int ((Nat.gcd t.natAbs b.natAbs : Nat) : Int))), some (.d (.int 0))] := E3
    refine s_ret w2.rfl1 (jd_is (j_tup (jad_cons (j_fdiv (jd_var 0 E3') (jd_var 2 E3') ⟨f1, f2⟩) (jad_cons (j_fdiv (jd_var 1 E3') (jd_var 2 E3') ⟨f1, f2⟩) jad_nil))) (d' := pt z) ?_) fun v H3 w3 r => hQ v H3 ((w'.trans w2).trans w3) r
    rw [e1, e2] <;> rfl
theorem fo_lsum (L : Fo P w K mg base 1 "_law_made" [] (spD K R_lowest)) (G : Gf K mg "_law_sum" s_law_sum []) : Fo P w K mg base 2 "_law_sum" [] (spD K R_plus) := by
  refine fo_of G sc_law_sum (fun ds d h => by obtain ⟨x, y, rfl, _⟩ := h; rfl) (fun _ _ _ _ _ _ us hl => match us, hl with | [_, _], _ => rfl) ?_
  intro f cdv A outer s H vs Q E ds d hr E0 hR hQ
  obtain ⟨x, y, rfl, rfl⟩ := hR
  have E1 : En K [] H _ [some (.d (pt x)), some (.d (pt y))] := E0
  exact s_ret (w_md0 H) (j_call L hr (jad_cons (j_add (j_mul (j_ixT 0 (jd_var 0 E1) j_int) (j_ixT 1 (jd_var 1 E1) j_int) (cm_bot _ _)) (j_mul (j_ixT 0 (jd_var 1 E1) j_int) (j_ixT 1 (jd_var 0 E1) j_int) (cm_bot _ _))) (jad_cons (j_mul (j_ixT 1 (jd_var 0 E1) j_int) (j_ixT 1 (jd_var 1 E1) j_int) (cm_bot _ _)) jad_nil)) ⟨_, _, _, rfl, bots_small x y, add_cross x y, rfl⟩) hQ
theorem fo_lrest (L : Fo P w K mg base 1 "_law_made" [] (spD K R_lowest)) (G : Gf K mg "_law_rest" s_law_rest []) : Fo P w K mg base 2 "_law_rest" [] (spD K R_minus) := by
  refine fo_of G sc_law_rest (fun ds d h => by obtain ⟨x, y, rfl, _⟩ := h; rfl) (fun _ _ _ _ _ _ us hl => match us, hl with | [_, _], _ => rfl) ?_
  intro f cdv A outer s H vs Q E ds d hr E0 hR hQ
  obtain ⟨x, y, rfl, rfl⟩ := hR
  have E1 : En K [] H _ [some (.d (pt x)), some (.d (pt y))] := E0
  exact s_ret (w_md0 H) (j_call L hr (jad_cons (j_sub (j_mul (j_ixT 0 (jd_var 0 E1) j_int) (j_ixT 1 (jd_var 1 E1) j_int) (cm_bot _ _)) (j_mul (j_ixT 0 (jd_var 1 E1) j_int) (j_ixT 1 (jd_var 0 E1) j_int) (cm_bot _ _))) (jad_cons (j_mul (j_ixT 1 (jd_var 0 E1) j_int) (j_ixT 1 (jd_var 1 E1) j_int) (cm_bot _ _)) jad_nil)) ⟨_, _, _, rfl, bots_small x y, sub_cross x y, rfl⟩) hQ
theorem fo_lprod (L : Fo P w K mg base 1 "_law_made" [] (spD K R_lowest)) (G : Gf K mg "_law_prod" s_law_prod []) : Fo P w K mg base 2 "_law_prod" [] (spD K R_product) := by
  refine fo_of G sc_law_prod (fun ds d h => by obtain ⟨x, y, z, rfl, _⟩ := h; rfl) (fun _ _ _ _ _ _ us hl => match us, hl with | [_, _], _ => rfl) ?_
  intro f cdv A outer s H vs Q E ds d hr E0 hR hQ
  obtain ⟨x, y, z, rfl, hx, hz, rfl⟩ := hR
  have E1 : En K [] H _ [some (.d (pt x)), some (.d (pt y))] := E0
  exact s_ret (w_md0 H) (j_call L hr (jad_cons (j_mul (j_ixT 0 (jd_var 0 E1) j_int) (j_ixT 0 (jd_var 1 E1) j_int) (cm_small (Nat.lt_of_le_of_lt (pt_abs x) hx))) (jad_cons (j_mul (j_ixT 1 (jd_var 0 E1) j_int) (j_ixT 1 (jd_var 1 E1) j_int) (cm_bot _ _)) jad_nil)) ⟨_, _, _, rfl, bots_small x y, mul_cross hz, rfl⟩) hQ
theorem fo_lunder (G : Gf K mg "_law_under" s_law_under []) : Fo P w K mg base 1 "_law_under" [] (spD K R_below) := by
  refine fo_of G sc_law_under (fun ds d h => by obtain ⟨x, y, rfl, _⟩ := h; rfl) (fun _ _ _ _ _ _ us hl => match us, hl with | [_, _], _ => rfl) ?_
  intro f cdv A outer s H vs Q E ds d hr E0 hR hQ
  obtain ⟨x, y, rfl, rfl⟩ := hR
  have E1 : En K [] H _ [some (.d (pt x)), some (.d (pt y))] := E0
  exact s_ret (w_md0 H) (j_lt (j_mul (j_ixT 0 (jd_var 0 E1) j_int) (j_ixT 1 (jd_var 1 E1) j_int) (cm_bot _ _)) (j_mul (j_ixT 0 (jd_var 1 E1) j_int) (j_ixT 1 (jd_var 0 E1) j_int) (cm_bot _ _)) (decide_eq_decide.mpr (pt_lt x y))) hQ
/-- a draw below a known number -/
theorem jir_draw {X : Cx} {m : Md} {σ : L2.St} {H : Hp} {e e2 : Expr} {pos p : Pos} {k' : Nat} {pa : Addr} {B : Int → Prop} {R : Int → Prop} (L : Fo X.prog X.w X.K X.mg X.base 2 "_law_draw" [] (spP X.K PreN R_draw)) (hr : Room k' X.A) (hP : m.P = [pa]) (je : J m X σ H e (.v (.ref pa))) (jb : JIR m X σ H e2 B) (hB : ∀ n, B n → 0 < n ∧ n < 1073741824 ∧ ∀ r, 0 ≤ r → r < n → R r) (hk : 2 ≤ k' := by decide) (hg : Gl X "_law_draw" := by rfl)
    (he : starEach (e :: [e2]) X.env = (false, eval e X.env) :: starEach [e2] X.env := by rfl) (he2 : starEach [e2] X.env = (false, eval e2 X.env) :: starEach [] X.env := by rfl) (hpl : (backTo pos (starEach [e2] X.env)).any (·.1) = false := by rfl) : JIR m X σ H (.Call (.Name "_law_draw" p) [e, e2] [] pos) R :=
  j_penR L hr hP je (jadr_cons jb jadr_nil he2) (fun ds h => by
    obtain ⟨d, ds', rfl, ⟨n, rfl, hn⟩, rfl⟩ := h
    obtain ⟨h1, h2, h3⟩ := hB n hn
    exact ⟨⟨n, rfl, h1, h2⟩, fun d hd => by
      obtain ⟨n', r, e, g1, g2, rfl⟩ := hd
      cases e
      exact ⟨rfl, r, rfl, h3 r g1 g2⟩⟩) hk hg (by decide) he hpl
theorem jir_drawN {X : Cx} {m : Md} {σ : L2.St} {H : Hp} {e : Expr} {pos p p2 : Pos} {k' n2 : Nat} {pa : Addr} {n : Int} (L : Fo X.prog X.w X.K X.mg X.base 2 "_law_draw" [] (spP X.K PreN R_draw)) (hr : Room k' X.A) (hP : m.P = [pa]) (je : J m X σ H e (.v (.ref pa))) (hn : 0 < n := by decide) (hn2 : n < 1073741824 := by decide) (hk : 2 ≤ k' := by decide) (hg : Gl X "_law_draw" := by rfl)
    (he : starEach (e :: [.Constant (.int n) n2 p2]) X.env = (false, eval e X.env) :: starEach [.Constant (.int n) n2 p2] X.env := by rfl) (he2 : starEach [.Constant (.int n) n2 p2] X.env = (false, eval (.Constant (.int n) n2 p2) X.env) :: starEach [] X.env := by rfl) (hpl : (backTo pos (starEach [.Constant (.int n) n2 p2] X.env)).any (·.1) = false := by rfl) : JIR m X σ H (.Call (.Name "_law_draw" p) [e, .Constant (.int n) n2 p2] [] pos) (fun r => 0 ≤ r ∧ r < n) :=
  jir_draw L hr hP je (jir_of j_int) (fun i h => by
    subst h
    exact ⟨hn, hn2, fun r h1 h2 => ⟨h1, h2⟩⟩) hk hg he he2 hpl
end
end Gc
namespace Gc
open PySem PySem.Spec PyProof.Rows L2
/-- one of three, one of two -/
theorem pick3 {x y z : PyData} {r : Int} (h1 : 0 ≤ r) (h2 : r < 3) : ∃ n : Nat, r = n ∧ ∃ d, ([x, y, z] : List PyData)[n]? = some d ∧ (d = x ∨ d = y ∨ d = z) := by
  have : r = 0 ∨ r = 1 ∨ r = 2 := by omega
  rcases this with rfl | rfl | rfl
  · exact ⟨0, rfl, x, rfl, .inl rfl⟩
  · exact ⟨1, rfl, y, rfl, .inr (.inl rfl)⟩
  · exact ⟨2, rfl, z, rfl, .inr (.inr rfl)⟩
theorem pick2 {x y : PyData} {r : Int} (h1 : 0 ≤ r) (h2 : r < 2) : ∃ n : Nat, r = n ∧ ∃ d, ([x, y] : List PyData)[n]? = some d ∧ (d = x ∨ d = y) := by
  have : r = 0 ∨ r = 1 := by omega
  rcases this with rfl | rfl
  · exact ⟨0, rfl, x, rfl, .inl rfl⟩
  · exact ⟨1, rfl, y, rfl, .inr rfl⟩
theorem pick4 {x y z u : PyData} {r : Int} (h1 : 0 ≤ r) (h2 : r < 4) : ∃ n : Nat, r = n ∧ ∃ d, ([x, y, z, u] : List PyData)[n]? = some d ∧ (d = x ∨ d = y ∨ d = z ∨ d = u) := by
  have : r = 0 ∨ r = 1 ∨ r = 2 ∨ r = 3 := by omega
  rcases this with rfl | rfl | rfl | rfl
  · exact ⟨0, rfl, x, rfl, .inl rfl⟩
  · exact ⟨1, rfl, y, rfl, .inr (.inl rfl)⟩
  · exact ⟨2, rfl, z, rfl, .inr (.inr (.inl rfl))⟩
  · exact ⟨3, rfl, u, rfl, .inr (.inr (.inr rfl))⟩
theorem some_sm {t b : Int} (h1 : 1 ≤ b) (h2 : b ≤ 12) (t1 : -39 ≤ t) (t2 : t ≤ 39) : (t * (27720 / b)).natAbs ≤ 1081080 := by
  have : b = 1 ∨ b = 2 ∨ b = 3 ∨ b = 4 ∨ b = 5 ∨ b = 6 ∨ b = 7 ∨ b = 8 ∨ b = 9 ∨ b = 10 ∨ b = 11 ∨ b = 12 := by omega
  rcases this with rfl | rfl | rfl | rfl | rfl | rfl | rfl | rfl | rfl | rfl | rfl | rfl <;> omega
theorem up_sm {t b : Int} (h1 : 1 ≤ b) (h2 : b ≤ 6) (t1 : 0 ≤ t) (t2 : t ≤ 29) : 0 ≤ t * (27720 / b) ∧ t * (27720 / b) ≤ 803880 := by
  have : b = 1 ∨ b = 2 ∨ b = 3 ∨ b = 4 ∨ b = 5 ∨ b = 6 := by omega
  rcases this with rfl | rfl | rfl | rfl | rfl | rfl <;> omega
theorem bots_nn {b : Int} (h1 : 1 ≤ b) (h2 : b ≤ 12) : 0 ≤ 27720 / b := Int.ediv_nonneg (by decide) (by omega)
section
variable {P : Program} {w : World} {K : PySem.W.Frag} {mg : Str → Option Value} {base : Heap}
theorem fo_some (Ld : Fo P w K mg base 2 "_law_draw" [] (spP K PreN R_draw)) (Lm : Fo P w K mg base 1 "_law_made" [] (spD K R_lowest)) (G : Gf K mg "_law_some" s_law_some []) : Fo P w K mg base 3 "_law_some" [] (spP K PreE R_some) := by
  refine fo_ofP G sc_law_some (fun ds h => by rw [h] <;> rfl) (fun _ _ _ _ _ _ us hl => match us, hl with | [_], _ => rfl) ?_
  intro f cdv A outer s H vs Q E pa ds hr pw E0 hR hQ
  cases hR
  have E1 : En K (mdp pa).M H _ [some (.v (.ref pa)), none, none] := E0
  refine s_parD 1 2 (R := fun d1 d2 => ∃ t b : Int, d1 = .int t ∧ d2 = .int b ∧ (0 ≤ t ∧ t < 40) ∧ 1 ≤ b ∧ b ≤ 12) pw E1 rfl (jadr_cons (jir_drawN Ld hr rfl (j_var 0 E1)) (jadr_cons (jir_add (R := fun b => 1 ≤ b ∧ b ≤ 12) (jir_of j_int) (jir_draw (R := fun r => 0 ≤ r ∧ r < 12) Ld hr rfl (j_var 0 E1) (B := fun n => 1 ≤ n ∧ n ≤ 12) (j_ixLR (jdr_of (j_lst (jad_cons j_int (jad_cons j_int (jad_cons j_int jad_nil))))) (jir_drawN Ld hr rfl (j_var 0 E1)) fun f j hf hj => ?_) fun n hn => ⟨by omega, by omega, fun r h1 h2 => ⟨h1, by omega⟩⟩) fun i j hi hj => by subst hi; omega) jadr_nil)) (fun ds h => ?_) sc_law_some.nd fun d1 d2 σ1 H1 hd w1 E2 => ?_
  · subst hf
    obtain ⟨n, rfl, d, hd, hx⟩ := pick3 (x := .int 1) (y := .int 4) (z := .int 12) hj.1 hj.2
    refine ⟨_, rfl, n, rfl, d, hd, ?_⟩
    rcases hx with rfl | rfl | rfl <;> exact ⟨_, rfl, by decide, by decide⟩
  · obtain ⟨d1, ds1, rfl, ⟨t, rfl, ht⟩, d2, ds2, rfl, ⟨b, rfl, hb⟩, rfl⟩ := h
    exact ⟨_, _, rfl, t, b, rfl, rfl, ht, hb⟩
  · obtain ⟨t, b, rfl, rfl, ⟨ht1, ht2⟩, hb1, hb2⟩ := hd
    have E3 : En K (mdp pa).M H1 σ1 [some (.v (.ref pa)), some (.d (.int t)), some (.d (.int b))] := E2
    refine s_retD w1.rfl1 (F := fun d => ∃ z, d = pt z ∧ z.natAbs ≤ 1081080) (j_callR Lm hr (jadr_cons (F := fun d => ∃ i : Int, d = .int i ∧ -39 ≤ i ∧ i ≤ 39) (j_ixLR (jdr_of (j_lst (jad_cons (jd_var 1 E3) (jad_cons (j_sub j_int (jd_var 1 E3)) jad_nil)))) (jir_drawN Ld hr rfl (j_var 0 E3)) fun f j hf hj => ?_) (jadr_cons (jir_of (jd_var 2 E3)) jadr_nil)) fun ds h => ?_) fun v d H2 w2 hd r => hQ v d H2 hd (w1.trans w2) r
    · subst hf
      obtain ⟨n, rfl, d, hd, hx⟩ := pick2 (x := .int t) (y := .int (0 - t)) hj.1 hj.2
      refine ⟨_, rfl, n, rfl, d, hd, ?_⟩
      rcases hx with rfl | rfl
      · exact ⟨_, rfl, by omega, by omega⟩
      · exact ⟨_, rfl, by omega, by omega⟩
    · obtain ⟨d1, ds1, rfl, ⟨t', rfl, ht3, ht4⟩, d2, ds2, rfl, ⟨b', rfl, rfl⟩, rfl⟩ := h
      exact ⟨_, made_of hb1 hb2, rfl, _, rfl, some_sm hb1 hb2 ht3 ht4⟩
theorem fo_up (Ld : Fo P w K mg base 2 "_law_draw" [] (spP K PreN R_draw)) (Lm : Fo P w K mg base 1 "_law_made" [] (spD K R_lowest)) (G : Gf K mg "_law_up" s_law_up []) : Fo P w K mg base 3 "_law_up" [] (spP K PreE R_up) := by
  refine fo_ofP G sc_law_up (fun ds h => by rw [h] <;> rfl) (fun _ _ _ _ _ _ us hl => match us, hl with | [_], _ => rfl) ?_
  intro f cdv A outer s H vs Q E pa ds hr pw E0 hR hQ
  cases hR
  have E1 : En K (mdp pa).M H _ [some (.v (.ref pa))] := E0
  refine s_retD pw (F := fun d => ∃ z : Int, d = pt z ∧ 0 ≤ z ∧ z ≤ 803880) (j_callR Lm hr (jadr_cons (F := fun d => ∃ i : Int, d = .int i ∧ 0 ≤ i ∧ i ≤ 29) (j_ixLR (F := fun d => ∃ i : Int, d = .list [.int 0, .int i, .int 1] ∧ 0 ≤ i ∧ i ≤ 29) (j_lstR (jadr_cons (jir_of j_int) (jadr_cons (jir_drawN Ld hr rfl (j_var 0 E1)) (jadr_cons (jir_of j_int) jadr_nil))) fun ds h => ?_) (jir_drawN Ld hr rfl (j_var 0 E1)) fun f j hf hj => ?_) (jadr_cons (jir_add (R := fun b => 1 ≤ b ∧ b ≤ 6) (jir_of j_int) (jir_drawN Ld hr rfl (j_var 0 E1)) fun i j hi hj => by subst hi; omega) jadr_nil)) fun ds h => ?_) fun v d H2 w2 hd r => hQ v d H2 hd w2 r
  · obtain ⟨d1, ds1, rfl, ⟨t, rfl, rfl⟩, d2, ds2, rfl, ⟨b, rfl, hb⟩, d3, ds3, rfl, ⟨c, rfl, rfl⟩, rfl⟩ := h
    exact ⟨by simp, b, rfl, hb.1, by omega⟩
  · obtain ⟨i, rfl, hi⟩ := hf
    obtain ⟨n, rfl, d, hd, hx⟩ := pick3 (x := .int 0) (y := .int i) (z := .int 1) hj.1 hj.2
    refine ⟨_, rfl, n, rfl, d, hd, ?_⟩
    rcases hx with rfl | rfl | rfl
    · exact ⟨_, rfl, by decide, by decide⟩
    · exact ⟨_, rfl, hi⟩
    · exact ⟨_, rfl, by decide, by decide⟩
  · obtain ⟨d1, ds1, rfl, ⟨t, rfl, ht1, ht2⟩, d2, ds2, rfl, ⟨b, rfl, hb1, hb2⟩, rfl⟩ := h
    exact ⟨_, made_of hb1 (by omega), rfl, _, rfl, up_sm hb1 hb2 ht1 ht2⟩
theorem lit01 : (.tuple [.int 0, .int 1] : PyData) = pt 0 := pt_0.symm
theorem fo_row (T : Tx K mg) (Ls : Fo P w K mg base 3 "_law_some" [] (spP K PreE R_some)) (G : Gf K mg "_law_row" s_law_row []) : Fo P w K mg base 4 "_law_row" [] (spP K PreE R_row) := by
  refine fo_ofP G sc_law_row (fun ds h => by rw [h] <;> rfl) (fun _ _ _ _ _ _ us hl => match us, hl with | [_], _ => rfl) ?_
  intro f cdv A outer s H vs Q E pa ds hr pw E0 hR hQ
  cases hR
  have E1 : En K (mdp pa).M H _ [some (.v (.ref pa)), none] := E0
  refine s_retD pw (F := fun d => ∃ row, d = rowD row ∧ RowOk row) (j_catTR (jdr_of (j_tup (jad_cons (j_tup (jad_cons j_int (jad_cons j_int jad_nil))) jad_nil))) (j_tupleR (R := fun d => ∃ zs : List Int, d = .tuple (zs.map pt) ∧ zs.length = 5 ∧ ∀ z ∈ zs, z.natAbs ≤ 1081080) T.tuple (j_compR [("_law_clock", 1)] E1 rfl sc_law_row.nd (blkOk_by (N := ["_law_pen", "_law_clock"]) (sc := defScope s_law_row) (by decide +kernel)) (sr_range T.range j_int (by decide)) (by decide) [1] (fun i => [some (.v (.ref pa)), some (.d (.int i))]) (by simp) (fun i hi s Hs C cl fp => gt_name 1 sc_law_row.nd) (fun _ => true) (fun i hi m' hm s Hs C cl fp σ' H' w' E' => jts_nil) (fun _ d => ∃ z : Int, d = pt z ∧ z.natAbs ≤ 1081080) (fun i hi _ m' hm s Hs C cl fp σ' H' w' E' => j_penR Ls hr hm (j_var 0 E') jadr_nil fun ds h => ⟨h, fun d ⟨z, e, hz⟩ => by subst e; exact ⟨rfl, z, rfl, hz⟩⟩)) fun f ⟨ds, e, lc⟩ => ?_) fun f g hf hg => ?_) fun v d H2 w2 hd r => hQ v d H2 hd w2 r
  · obtain ⟨zs, rfl, h2, h3⟩ := lc_pts lc
    exact ⟨_, e, zs, rfl, h2, h3⟩
  · subst hf
    obtain ⟨zs, rfl, hz, hz2⟩ := hg
    refine ⟨_, _, rfl, rfl, by simp [hz], 0 :: zs, ?_, by simp [hz], rfl, fun y hy => ?_⟩
    · rw [lit01]
      rfl
    · rcases List.mem_cons.mp hy with rfl | hy
      · decide
      · exact hz2 y hy
theorem row_at {row : List Int} {i : Nat} (h : RowOk row) (hi : i < 6) : (row.map pt)[i]? = some (pt (rw0 row i)) := by
  have := h.1
  unfold rw0
  have hi' : i < row.length := by omega
  simp [List.getD, hi']
theorem rw_sm {row : List Int} (h : RowOk row) (i : Nat) : (rw0 row i).natAbs ≤ 1081080 := by
  unfold rw0
  by_cases hi : i < row.length
  · have e : row.getD i 0 = row[i] := by simp [List.getD, hi]
    rw [e]
    exact h.2.2 _ (List.getElem_mem hi)
  · have e : row.getD i 0 = 0 := by simp [List.getD, hi]
    rw [e]
    decide
theorem fo_true (Ld : Fo P w K mg base 2 "_law_draw" [] (spP K PreN R_draw)) (Lr : Fo P w K mg base 2 "_law_rest" [] (spD K R_minus)) (Ls : Fo P w K mg base 2 "_law_sum" [] (spD K R_plus)) (Lu : Fo P w K mg base 3 "_law_up" [] (spP K PreE R_up)) (G : Gf K mg "_law_true" s_law_true []) : Fo P w K mg base 4 "_law_true" [] (spP K PreT R_true) := by
  refine fo_ofP G sc_law_true (fun ds h => by obtain ⟨_, _, rfl, _⟩ := h; rfl) (fun _ _ _ _ _ _ us hl => match us, hl with | [_, _, _], _ => rfl) ?_
  intro f cdv A outer s H vs Q E pa ds hr pw E0 hR hQ
  obtain ⟨row, n, rfl, hrow, hn⟩ := hR
  have E1 : En K (mdp pa).M H _ [some (.v (.ref pa)), some (.d (rowD row)), some (.d (.int n)), none, none, none, none, none, none] := E0
  refine s_asgD 3 pw E1 (jir_draw (R := fun r => 0 ≤ r ∧ r < n) Ld hr rfl (j_var 0 E1) (jir_of (jd_var 2 E1)) fun i hi => by subst hi; exact ⟨by omega, by omega, fun r h1 h2 => ⟨h1, h2⟩⟩) sc_law_true.nd fun d σ1 H1 hd w1 E2 => ?_
  obtain ⟨i, rfl, hi1, hi2⟩ := hd
  have E2' : En K (mdp pa).M H1 σ1 [some (.v (.ref pa)), some (.d (rowD row)), some (.d (.int n)), some (.d (.int i)), none, none, none, none, none] := E2
  refine s_asgD 4 w1.rfl1 E2' (jir_mod (R := fun r => 0 ≤ r ∧ r < n ∧ r ≠ i) (jir_add (R := fun x => ∃ r, 0 ≤ r ∧ r < n - 1 ∧ x = i + 1 + r) (jir_of (j_add (jd_var 3 E2') (j_int (i := 1)))) (jir_draw (R := fun r => 0 ≤ r ∧ r < n - 1) Ld hr rfl (j_var 0 E2') (jir_of (j_sub (jd_var 2 E2') (j_int (i := 1)))) fun q hq => by subst hq; exact ⟨by omega, by omega, fun r h1 h2 => ⟨h1, h2⟩⟩) fun p q hp hq => ⟨q, hq.1, hq.2, by rw [hp]⟩) (jir_of (jd_var 2 E2')) fun p q hp hq => by
    obtain ⟨r, h1, h2, rfl⟩ := hp
    subst hq
    refine ⟨by omega, Int.emod_nonneg _ (by omega), Int.emod_lt_of_pos _ (by omega), ?_⟩
    rcases hn with rfl | rfl <;> omega) sc_law_true.nd fun d σ2 H2 hd w2 E3 => ?_
  obtain ⟨j, rfl, hj1, hj2, hij⟩ := hd
  obtain ⟨ca, rfl⟩ : ∃ ca : Nat, i = ca := ⟨i.toNat, by omega⟩
  obtain ⟨cb, rfl⟩ : ∃ cb : Nat, j = cb := ⟨j.toNat, by omega⟩
  have ha : ca < 6 := by omega
  have hb : cb < 6 := by omega
  have hab : ca ≠ cb := by omega
  have E3' : En K (mdp pa).M H2 σ2 [some (.v (.ref pa)), some (.d (.tuple (row.map pt))), some (.d (.int n)), some (.d (.int ca)), some (.d (.int cb)), none, none, none, none] := E3
  refine s_asg 5 w2.rfl1 E3' (j_call Lr hr (jad_cons (j_ixT cb (jd_var 1 E3') (jd_var 4 E3') rfl (row_at hrow hb)) (jad_cons (j_ixT ca (jd_var 1 E3') (jd_var 3 E3') rfl (row_at hrow ha)) jad_nil)) ⟨_, _, rfl, rfl⟩) sc_law_true.nd fun σ3 H3 w3 E4 => ?_
  have zb : (rw0 row cb - rw0 row ca).natAbs ≤ 2162160 := by
    have h1 := rw_sm hrow cb
    have h2 := rw_sm hrow ca
    omega
  generalize ez : rw0 row cb - rw0 row ca = z at E4 zb
  have E4' : En K (mdp pa).M H3 σ3 [some (.v (.ref pa)), some (.d (.tuple (row.map pt))), some (.d (.int n)), some (.d (.int ca)), some (.d (.int cb)), some (.d (pt z)), none, none, none] := E4
  refine s_parD 6 7 (R := fun d1 d2 => ∃ l h : Int, d1 = pt l ∧ d2 = pt h ∧ (l ≤ z ∧ l.natAbs < 2 ^ 39) ∧ z ≤ h ∧ h.natAbs < 2 ^ 39) w3.rfl1 E4' rfl (jadr_cons (F := fun d => ∃ l : Int, d = pt l ∧ l ≤ z ∧ l.natAbs < 2 ^ 39) (j_callR Lr hr (jadr_cons (jdr_of (jd_var 5 E4')) (jadr_cons (F := fun d => ∃ y : Int, d = pt y ∧ 0 ≤ y ∧ y ≤ 803880) (j_penR Lu hr rfl (j_var 0 E4') jadr_nil fun ds h => ⟨h, fun d ⟨y, e, hy⟩ => by subst e; exact ⟨rfl, y, rfl, hy⟩⟩) jadr_nil)) fun ds h => ?_) (jadr_cons (F := fun d => ∃ l : Int, d = pt l ∧ z ≤ l ∧ l.natAbs < 2 ^ 39) (j_callR Ls hr (jadr_cons (jdr_of (jd_var 5 E4')) (jadr_cons (F := fun d => ∃ y : Int, d = pt y ∧ 0 ≤ y ∧ y ≤ 803880) (j_penR Lu hr rfl (j_var 0 E4') jadr_nil fun ds h => ⟨h, fun d ⟨y, e, hy⟩ => by subst e; exact ⟨rfl, y, rfl, hy⟩⟩) jadr_nil)) fun ds h => ?_) jadr_nil)) (fun ds h => ?_) sc_law_true.nd fun d1 d2 σ5 H5 hd w5 E5 => ?_
  · obtain ⟨d1, ds1, rfl, rfl, d2, ds2, rfl, ⟨y, rfl, hy⟩, rfl⟩ := h
    exact ⟨_, ⟨z, y, rfl, rfl⟩, rfl, _, rfl, by omega, by omega⟩
  · obtain ⟨d1, ds1, rfl, rfl, d2, ds2, rfl, ⟨y, rfl, hy⟩, rfl⟩ := h
    exact ⟨_, ⟨z, y, rfl, rfl⟩, rfl, _, rfl, by omega, by omega⟩
  · obtain ⟨d1, ds1, rfl, ⟨l, rfl, hl⟩, d2, ds2, rfl, ⟨h, rfl, hh⟩, rfl⟩ := h
    exact ⟨_, _, rfl, l, h, rfl, rfl, hl, hh⟩
  · obtain ⟨l, h, rfl, rfl, ⟨hl, hl2⟩, hh, hh2⟩ := hd
    have E5' : En K (mdp pa).M H5 σ5 [some (.v (.ref pa)), some (.d (.tuple (row.map pt))), some (.d (.int n)), some (.d (.int ca)), some (.d (.int cb)), some (.d (pt z)), some (.d (pt l)), some (.d (pt h)), none] := E5
    refine s_asgD 8 w5.rfl1 E5' (F := fun d => ∃ lo hi, d = .tuple [op lo, op hi] ∧ BdOk lo hi ∧ (∀ x, lo = some x → x ≤ z ∧ x.natAbs < 2 ^ 39) ∧ (∀ x, hi = some x → z ≤ x ∧ x.natAbs < 2 ^ 39)) (j_ixLR (jdr_of (j_lst (jad_cons (j_tup (jad_cons (jd_var 6 E5') (jad_cons (jd_var 7 E5') jad_nil))) (jad_cons (j_tup (jad_cons (jd_var 6 E5') (jad_cons (jd_var 7 E5') jad_nil))) (jad_cons (j_tup (jad_cons (jd_var 6 E5') (jad_cons j_non jad_nil))) (jad_cons (j_tup (jad_cons j_non (jad_cons (jd_var 7 E5') jad_nil))) jad_nil)))))) (jir_drawN Ld hr rfl (j_var 0 E5')) fun f j hf hj => ?_) sc_law_true.nd fun d σ6 H6 hd w6 E6 => ?_
    · subst hf
      obtain ⟨n, rfl, d, hd, hx⟩ := pick4 (x := .tuple [pt l, pt h]) (y := .tuple [pt l, pt h]) (z := .tuple [pt l, .none]) (u := .tuple [.none, pt h]) hj.1 hj.2
      refine ⟨_, rfl, n, rfl, d, hd, ?_⟩
      have both : ∃ lo hi, (.tuple [pt l, pt h] : PyData) = .tuple [op lo, op hi] ∧ BdOk lo hi ∧ (∀ x, lo = some x → x ≤ z ∧ x.natAbs < 2 ^ 39) ∧ (∀ x, hi = some x → z ≤ x ∧ x.natAbs < 2 ^ 39) :=
        ⟨some l, some h, rfl, ⟨.inl rfl, fun _ _ e1 e2 => by cases e1; cases e2; omega⟩, fun x e => by cases e; exact ⟨hl, hl2⟩, fun x e => by cases e; exact ⟨hh, hh2⟩⟩
      rcases hx with rfl | rfl | rfl | rfl
      · exact both
      · exact both
      · exact ⟨some l, none, rfl, ⟨.inl rfl, fun _ _ e1 e2 => by cases e2⟩, fun x e => by cases e; exact ⟨hl, hl2⟩, fun x e => by cases e⟩
      · exact ⟨none, some h, rfl, ⟨.inr rfl, fun _ _ e1 e2 => by cases e1⟩, (fun x e => by cases e), fun x e => by cases e; exact ⟨hh, hh2⟩⟩
    · obtain ⟨lo, hi, rfl, hbd, hlo, hhi⟩ := hd
      have E6' : En K (mdp pa).M H6 σ6 [some (.v (.ref pa)), some (.d (.tuple (row.map pt))), some (.d (.int n)), some (.d (.int ca)), some (.d (.int cb)), some (.d (pt z)), some (.d (pt l)), some (.d (pt h)), some (.d (.tuple [op lo, op hi]))] := E6
      exact s_ret w6.rfl1 (j_catT (j_tup (jad_cons (jd_var 3 E6') (jad_cons (jd_var 4 E6') jad_nil))) (jd_var 8 E6') (by simp)) fun v H7 w7 r => hQ v (tlD ⟨ca, cb, lo, hi⟩) H7 ⟨row, _, ⟨ca, cb, lo, hi⟩, rfl, rfl, ⟨ha, hb, hab, hbd⟩, fun x e => by rw [ez]; exact (hlo x e).1, fun x e => by rw [ez]; exact (hhi x e).1, fun x e => (hlo x e).2, fun x e => (hhi x e).2⟩ (((((w1.trans w2).trans w3).trans w5).trans w6).trans w7) r
theorem four_dvd {b k : Int} (h1 : 1 ≤ b) (h2 : b ≤ 6) : (462 : Int) ∣ k * (27720 / b) := by
  have : b = 1 ∨ b = 2 ∨ b = 3 ∨ b = 4 ∨ b = 5 ∨ b = 6 := by omega
  rcases this with rfl | rfl | rfl | rfl | rfl | rfl <;> exact Int.dvd_mul_of_dvd_right (by decide)
theorem gain_sm {b k : Int} (h1 : 1 ≤ b) (h2 : b ≤ 6) (k1 : -12 ≤ k) (k2 : k ≤ 12) : GainOk (k * (27720 / b)) := by
  have : b = 1 ∨ b = 2 ∨ b = 3 ∨ b = 4 ∨ b = 5 ∨ b = 6 := by omega
  rcases this with rfl | rfl | rfl | rfl | rfl | rfl <;> exact ⟨by omega, by omega⟩
theorem fo_gains (T : Tx K mg) (Ld : Fo P w K mg base 2 "_law_draw" [] (spP K PreN R_draw)) (Lm : Fo P w K mg base 1 "_law_made" [] (spD K R_lowest)) (G : Gf K mg "_law_gains" s_law_gains []) : Fo P w K mg base 3 "_law_gains" [] (spP K PreE R_gains) := by
  refine fo_ofP G sc_law_gains (fun ds h => by rw [h] <;> rfl) (fun _ _ _ _ _ _ us hl => match us, hl with | [_], _ => rfl) ?_
  intro f cdv A outer s H vs Q E pa ds hr pw E0 hR hQ
  cases hR
  have E1 : En K (mdp pa).M H _ [some (.v (.ref pa)), none, none, none] := E0
  refine s_newL 1 pw E1 (jl_lst jad_nil) rfl sc_law_gains.nd fun l σ1 H1 hn hM w1 w2 E2 L2' => ?_
  have lP : l ∉ ((mdp pa).add l).P := fun q => hM q
  have lM : l ∈ ((mdp pa).add l).M := List.mem_cons_self ..
  refine s_for (m := (mdp pa).add l) (n := ((5 : Int)).toNat) w2 PassesOwn.never rfl (sr_range T.range j_int (by decide)) (fun H2 i σ' H' => Wm ((mdp pa).add l) H' H' ∧ Bs ((mdp pa).add l).M H2 H' ∧ En K ((mdp pa).add l).M H' σ' [some (.v (.ref pa)), some (.v (.ref l)), none, none] ∧ ∃ gs : List Int, gs.length = i ∧ (∀ g ∈ gs, G4 g) ∧ Lo K ((mdp pa).add l).M H' l (gs.map pt)) (fun H2 w3 => ⟨w3.rfl1, Bs.refl _ _, E2.mono w3, [], rfl, by simp, L2'.mono w3 lP⟩) (fun H2 i σ' H' _ h => h.2.1) (fun H2 i σ' H' H'' v w3 hi h k r => ?_) (fun H2 σ' H' w3 h => ?_)
  · obtain ⟨w4, b4, E4, gs, hg1, hg2, L4⟩ := h
    have hi5 : i < 5 := by simpa using hi
    have w5 := w4.same k
    refine (gt_name 2 sc_law_gains.nd).run _ H'' σ' v _ (E4.mono w5) r fun σ3 E5 _ _ => ?_
    have E5' : En K ((mdp pa).add l).M H'' σ3 [some (.v (.ref pa)), some (.v (.ref l)), some (.d (.int i)), none] := E5
    refine s_asgD 3 w5.rfl1 E5' (F := fun d => ∃ g, d = pt g ∧ G4 g) (j_callR Lm hr (jadr_cons (jir_sub (R := fun k => -12 ≤ k ∧ k ≤ 12) (jir_drawN Ld hr rfl (j_var 0 E5')) (jir_of j_int) fun i j hi hj => by subst hj; omega) (jadr_cons (jir_add (R := fun b => 1 ≤ b ∧ b ≤ 6) (jir_of j_int) (jir_drawN Ld hr rfl (j_var 0 E5')) fun i j hi hj => by subst hi; omega) jadr_nil)) fun ds h => ?_) sc_law_gains.nd fun d σ6 H6 hd w6 E6 => ?_
    · obtain ⟨d1, ds1, rfl, ⟨t, rfl, ht1, ht2⟩, d2, ds2, rfl, ⟨b, rfl, hb1, hb2⟩, rfl⟩ := h
      exact ⟨_, made_of hb1 (by omega), rfl, _, rfl, gain_sm hb1 hb2 ht1 ht2, four_dvd hb1 hb2⟩
    · obtain ⟨g, rfl, hg⟩ := hd
      have E6' : En K ((mdp pa).add l).M H6 σ6 [some (.v (.ref pa)), some (.v (.ref l)), some (.d (.int i)), some (.d (pt g))] := E6
      have L6 := (L4.mono w5 lP).mono w6 lP
      refine s_appR (R := IsD fun d => ∃ g, d = pt g ∧ G4 g) w6.rfl1 E6' lM lP L6 (j_var 1 E6') (j_ixLR (jdr_of (j_lst (jad_cons (j_tup (jad_cons j_int (jad_cons j_int jad_nil))) (jad_cons (jd_var 3 E6') jad_nil)))) (jir_drawN Ld hr rfl (j_var 0 E6')) fun f j hf hj => ?_) (fun it ⟨d, e, _⟩ => ⟨d, e⟩) (by rw [List.length_map]; omega) fun d H8 hd w8 b8 E8 L8 _ => ?_
      · subst hf
        obtain ⟨n, rfl, d, hd, hx⟩ := pick2 (x := .tuple [.int 0, .int 1]) (y := pt g) hj.1 hj.2
        refine ⟨_, rfl, n, rfl, d, hd, ?_⟩
        rcases hx with rfl | rfl
        · exact ⟨0, lit01, ⟨by decide, by decide⟩, by decide⟩
        · exact ⟨g, rfl, hg⟩
      · obtain ⟨d', e, g', rfl, hg'⟩ := hd
        cases e
        refine s_nil ⟨w8, ((b4.trans (Bs.same k)).trans w6.bs).trans b8, (E8.forget 2).forget 3, gs ++ [g'], by simp [hg1], fun y hy => ?_, by rw [List.map_append]; exact L8⟩
        rcases List.mem_append.mp hy with hy | hy
        · exact hg2 y hy
        · rw [List.mem_singleton.mp hy]
          exact hg'
  · obtain ⟨w4, b4, E4, gs, hg1, hg2, L4⟩ := h
    refine s_ret w4 (j_catT (j_tup (jad_cons (j_tup (jad_cons j_int (jad_cons j_int jad_nil))) jad_nil)) (j_tupleO T.tuple lP L4 (j_var 1 E4)) (by have : gs.length = 5 := hg1; simp [this])) fun v H5 w5 r => hQ v (rowD (0 :: gs)) H5 ⟨0 :: gs, rfl, by have : gs.length = 5 := hg1; simp [this], rfl, fun g hg => ?_⟩ (fin_w (m0 := mdp pa) (m := (mdp pa).add l) rfl rfl w5.rfl1 (((w1.bs.less (M := ((mdp pa).add l).M) (fun a ha q => List.mem_cons_of_mem _ q)).trans w3.bs).trans (b4.trans w5.bs)) fun a ha q => ?_) ?_
    · rcases List.mem_cons.mp hg with rfl | hg
      · exact ⟨⟨by decide, by decide⟩, by decide⟩
      · exact hg2 g hg
    · rcases List.mem_cons.mp q with e | e
      · rw [e] at ha
        exact absurd hn ha
      · exact e
    · have e : (.tuple ([.tuple [.int 0, .int 1]] ++ gs.map pt) : PyData) = rowD (0 :: gs) := by
        rw [lit01]
        rfl
      rw [← e]
      refine Dr.free _ _ ?_ r
      rw [e]
      exact nolstA_map pt (fun _ => rfl) _
theorem fo_ldrift (Lx : Fo P w K mg base 2 "_law_prod" [] (spD K R_product)) (Lb : Fo P w K mg base 1 "_law_under" [] (spD K R_below)) (Lp : Fo P w K mg base 2 "_law_sum" [] (spD K R_plus)) (G : Gf K mg "_law_drift" s_law_drift []) : Fo P w K mg base 3 "_law_drift" [] (spD K R_ldrift) := by
  refine fo_of G sc_law_drift (fun ds d h => by obtain ⟨g, ss, mo, rfl, _⟩ := h; rfl) (fun _ _ _ _ _ _ us hl => match us, hl with | [_, _], _ => rfl) ?_
  intro f cdv A outer s H vs Q E ds d hr E0 hR hQ
  obtain ⟨g, ss, mo, rfl, hg, hdv, rfl⟩ := hR
  have E1 : En K [] H _ [some (.d (.tuple [pt g, .tuple (ss.map sp)])), some (.d (pt mo)), none, none, none] := E0
  refine s_asg 2 (w_md0 H) E1 (j_call Lx hr (jad_cons (j_ixT 0 (jd_var 0 E1) j_int) (jad_cons (jd_var 1 E1) jad_nil)) ⟨g, mo, mo * g / 27720, rfl, hg, by rw [Int.ediv_mul_cancel hdv, Int.mul_comm], rfl⟩) sc_law_drift.nd fun σ1 H1 w1 E2 => ?_
  refine s_for (n := (ss.map sp).length) w1.rfl1 PassesOwn.never rfl (sr_tup (j_ixT 1 (jd_var 0 E2) j_int)) (fun H2 i σ' H' => Wm md0 H2 H' ∧ En K [] H' σ' [some (.d (.tuple [pt g, .tuple (ss.map sp)])), some (.d (pt mo)), some (.d (pt (mo * g / 27720 + jt (ss.take i) mo))), none, none]) (fun H2 w2 => ⟨w2.rfl1, by
    have e : mo * g / 27720 + jt (ss.take 0) mo = mo * g / 27720 := Int.add_zero _
    rw [e]
    exact E2.mono (m := md0) w2⟩) (fun H2 i σ' H' _ h => h.1.bs) (fun H2 i σ' H' H'' v w2 hi h k r => ?_) (fun H2 σ' H' w2 h => ?_)
  · obtain ⟨w3, E3⟩ := h
    have hi' : i < ss.length := by simpa using hi
    rw [getD_map sp hi'] at r
    have w4 := w3.rfl1.same k
    refine (gt_tup rfl (gts_cons (gt_name 3 sc_law_drift.nd) (gts_cons (gt_name 4 sc_law_drift.nd) gts_nil))).run [] H'' σ' v _ (E3.mono (m := md0) w4) r fun σ3 E4 _ _ => ?_
    have fin : ∀ {σ5 H5 z}, Wm md0 H'' H5 → z = mo * g / 27720 + jt (ss.take (i + 1)) mo → En K [] H5 σ5 [some (.d (.tuple [pt g, .tuple (ss.map sp)])), some (.d (pt mo)), some (.d (pt z)), some (.d (pt ss[i].1)), some (.d (pt ss[i].2))] → Wm md0 H2 H5 ∧ En K [] H5 σ5 [some (.d (.tuple [pt g, .tuple (ss.map sp)])), some (.d (pt mo)), some (.d (pt (mo * g / 27720 + jt (ss.take (i + 1)) mo))), none, none] := fun w5 e E5 => by
      subst e
      exact ⟨(w3.trans w4).trans w5, (E5.forget 3).forget 4⟩
    refine s_if (w_md0 H'') (jt_not (jt_val (j_call Lb hr (jad_cons (jd_var 1 E4) (jad_cons (jd_var 3 E4) jad_nil)) ⟨_, _, rfl, rfl⟩))) (fun q H5 w5 => ?_) fun q H5 w5 => ?_
    · have q' : ss[i].1 ≤ mo := by
        have q1 : ¬ mo < ss[i].1 := by simpa using q
        omega
      exact s_asg 2 w5.rfl1 (E4.mono (m := md0) w5) (j_call Lp hr (jad_cons (jd_var 2 (E4.mono (m := md0) w5)) (jad_cons (jd_var 4 (E4.mono (m := md0) w5)) jad_nil)) ⟨_, _, rfl, rfl⟩) sc_law_drift.nd fun σ6 H6 w6 E6 => s_nil (s_nil (fin (w5.trans w6) (by rw [jt_take hi', if_pos q', Int.add_assoc]) E6))
    · have q' : ¬ ss[i].1 ≤ mo := by
        have q1 : mo < ss[i].1 := by simpa using q
        omega
      exact s_nil (s_nil (fin w5 (by rw [jt_take hi', if_neg q']) (E4.mono (m := md0) w5)))
  · obtain ⟨w3, E3⟩ := h
    have e : ss.take (ss.map sp).length = ss := List.take_of_length_le (by simp)
    rw [e] at E3
    exact s_ret w3.rfl1 (jd_var 2 E3) fun v H4 w4 r => hQ v H4 (((w1.trans w2).trans w3).trans w4) r
end
end Gc
namespace Gc
open PySem PySem.Spec PyProof.Rows L2
/-! ## sorted of what is sorted -/
theorem each_zip {vs : List V} {its : List Value} {ds : List PyData} (h : Vals vs its) (hl : vs.length = ds.length) : PySem.W.EachIs (fun (u : Value) (b : V × PyData) => RelV b.1 u) its (vs.zip ds) := by
  induction h generalizing ds with
  | nil => exact .nil
  | cons r t ih =>
    cases ds with
    | nil => simp at hl
    | cons d ds => exact .cons r (ih (by simpa using hl))
theorem each_of {α β : Type} {R : α → β → Prop} : ∀ {as : List α} {bs : List β}, as.length = bs.length → (∀ (i : Nat) a b, as[i]? = some a → bs[i]? = some b → R a b) → PySem.W.EachIs R as bs
  | [], [], _, _ => .nil
  | [], _ :: _, h, _ => by cases h
  | _ :: _, [], h, _ => by cases h
  | a :: as, b :: bs, h, k => .cons (k 0 a b rfl rfl) (each_of (Nat.succ.inj h) fun i x y hx hy => k (i + 1) x y (by simpa using hx) (by simpa using hy))
theorem each_at {α β : Type} {R : α → β → Prop} : ∀ {as : List α} {bs : List β}, PySem.W.EachIs R as bs → ∀ (i : Nat) a b, as[i]? = some a → bs[i]? = some b → R a b
  | _, _, .nil, i, a, b, h, _ => by simp at h
  | _, _, .cons r t, 0, a, b, h1, h2 => by
    have e1 := Option.some.inj h1
    have e2 := Option.some.inj h2
    subst e1
    subst e2
    exact r
  | _, _, .cons r t, i + 1, a, b, h1, h2 => each_at t i a b (by simpa using h1) (by simpa using h2)
theorem vals_of_each : ∀ {us : List Value} {vs : List V} {ds : List PyData}, vs.length = ds.length → PySem.W.EachIs (fun (u : Value) (b : V × PyData) => RelV b.1 u) us (vs.zip ds) → Vals vs us
  | us, [], ds, hl, h => by
    cases ds with
    | nil => cases h; exact .nil
    | cons d ds => cases hl
  | us, v :: vs, [], hl, h => by cases hl
  | us, v :: vs, d :: ds, hl, h => by
    cases h with
    | cons r t => exact .cons r (vals_of_each (Nat.succ.inj hl) t)
section
variable {X : Cx}
theorem call_sortedA (hu : X.A.units + 64 < cLine) : CallR X (.builtin "sorted") (fun xs H Q => ∃ a vs ds, xs = [.ref a] ∧ SqL X.K H a vs ∧ DpAll X.K H vs ds ∧ PySem.W.AllAlike ds ∧ PySem.W.Sortable ds ∧ ds.Pairwise (fun x y => PySem.W.dataLt y x = false) ∧ (∀ d ∈ ds, d.depth ≤ 60) ∧ ds.length ≤ 1000 ∧ ∀ p, H p = none → Q (.ref p) (upd H p (.lst vs))) := by
  intro pins s σ H xs us Q I r h
  obtain ⟨a, vs, ds, rfl, hs, hd, hal, hk, hp, hdp, hlen, q⟩ := h
  obtain ⟨u, rfl, ru⟩ := vals1 r
  obtain rfl : u = Value.ref a := ru
  obtain ⟨its, rv, hl, hz⟩ := I.list hs
  have hvl : vs.length = ds.length := by
    have : ∀ {vs : List V} {ds : List PyData}, DpAll X.K H vs ds → vs.length = ds.length := by
      intro vs ds h
      induction ds generalizing vs with
      | nil => cases h; rfl
      | cons d ds ih =>
        cases h with
        | cons h r => exact congrArg Nat.succ (ih r)
    exact this hd
  have hil : its.length = vs.length := rv.length.symm
  have e1 := each_zip rv hvl
  have em : (vs.zip ds).map Prod.snd = ds := List.map_snd_zip (by omega)
  have er : PySem.W.EachIs (fun v (b : V × PyData) => ∃ as, Reads s.heap v b.2 as) its (vs.zip ds) := each_of (by rw [List.length_zip]; omega) fun i x b hx hb => by
    obtain ⟨h1, h2⟩ := List.getElem?_zip_eq_some.mp hb
    have dat : ∀ {vs : List V} {ds : List PyData}, DpAll X.K H vs ds → ∀ (i : Nat) v d, vs[i]? = some v → ds[i]? = some d → Dp X.K H v d := by
      intro vs ds h
      induction ds generalizing vs with
      | nil => intro i v d _ h2; simp at h2
      | cons d ds ih =>
        cases h with
        | cons h r =>
          intro i v d' h1 h2
          cases i with
          | zero =>
            have e1 := Option.some.inj h1
            have e2 := Option.some.inj h2
            subst e1
            subst e2
            exact h
          | succ i => exact ih r i v d' (by simpa using h1) (by simpa using h2)
    exact Dp.reads I _ _ _ (dat hd i _ _ h1 h2) (each_at e1 i _ _ hx hb)
  refine PySem.W.sorted_data (enc := Prod.snd) hl.isList e1 er (by rw [em]; exact hal) (by rw [em]; exact hk) (by rw [List.length_zip]; have := small1000 hlen; omega) (fun b hb => ?_) fun out ho eo => ?_
  · have hb2 : b.2 ∈ ds := by
      rw [← em]
      exact List.mem_map.mpr ⟨b, hb, rfl⟩
    have := hdp _ hb2
    omega
  · have es : (vs.zip ds).mergeSort (PySem.W.dataLe false Prod.snd) = vs.zip ds := List.mergeSort_of_pairwise (by
      rw [PySem.W.dataLe_eq]
      refine List.Pairwise.of_map (S := fun x y => PySem.W.dataLt y x = false) (f := Prod.snd) (fun x y h => ?_) (by rw [em]; exact hp)
      show (!PySem.W.dataLt y.2 x.2) = true
      rw [h] <;> rfl)
    rw [es] at eo
    have ro := vals_of_each hvl eo
    obtain ⟨ep, he'⟩ := PyProof.Rows.sortedAll_at s.heap its out.toArray
    have hlen' : vs.length ≤ sizeLine := by rw [hvl]; exact Nat.le_of_lt (small1000 hlen)
    exact ⟨.ref _, upd H (s.heap.objs.size + 1) (.lst vs), I.laid (t' := s.toks) (fun _ _ => PyProof.Rows.sortedAll_old) (Nat.le_succ _) ⟨hlen', out, ep, ro, he'⟩, rfl, q _ (I.hok.fresh (Nat.le_succ _))⟩
end
section
variable {m : Md} {X : Cx} {σ : L2.St} {H : Hp} {e : Expr} {pos p : Pos} {ds : List PyData} {k' : Nat}
theorem j_sortedA {x : Str} (hr : Room k' X.A) (hm : X.mg x = none) (ja : JD m X σ H e (.list ds)) (hal : PySem.W.AllAlike ds) (hk : PySem.W.Sortable ds) (hp : ds.Pairwise (fun x y => PySem.W.dataLt y x = false)) (hdp : ∀ d ∈ ds, d.depth ≤ 60) (hl : ds.length ≤ 1000) (hv : bootBuiltins x = some (.builtin "sorted") := by decide +kernel) (hg : Gl X x := by rfl) (hn : x ≠ "__name__" := by decide) (hdb : (x == ("__debug__" : Str)) = false := by decide)
    (he : starEach [e] X.env = (false, eval e X.env) :: starEach [] X.env := by rfl) (hpl : (backTo pos (starEach [] X.env)).any (·.1) = false := by rfl) : JD m X σ H (.Call (.Name x p) [e] [] pos) (.list ds) :=
  j_callB (call_sortedA hr.units) hm hv (ja_cons ja ja_nil he) (fun H1 w xs rx Q q => by
    obtain ⟨v, rfl, h⟩ := rx.one
    obtain ⟨f, vs, rfl, h1, _, h2⟩ := Dr.litems h
    exact ⟨f, vs, ds, rfl, SqL.of h1, h2.dp, hal, hk, hp, hdp, hl, fun p hp => q _ _ (w.rfl1.new hp) (.lst upd_same (w.fresh hp) (DrA.mono (w.rfl1.new hp) _ _ h2))⟩) hg hn hdb he hpl
end
end Gc
namespace Gc
open PySem PySem.Spec PyProof.Rows L2
/-! ## for over a range whose end is only known to be such -/
section
variable {m : Md} {X : Cx} {σ : L2.St} {H : Hp} {e tg : Expr} {body rest : List Stmt} {pos p ppos : Pos} {D : Ends} {A : Int → Prop}
theorem s_forR (w : Wm m H H) (hp : PassesOwn (model X.prog X.w) X.A X.env X.xe) (hc : X.calm = true) (hm : X.mg "range" = none) (ja : JIR m X σ H e A) (hA : ∀ n, A n → -(2 ^ 62) ≤ n ∧ n < 2 ^ 62) (I : Hp → Nat → L2.St → Hp → Prop) (h0 : ∀ H2, Wm m H H2 → I H2 0 σ H2) (hb : ∀ H2 i σ' H', I H2 i σ' H' → Bs m.M H2 H')
    (step : ∀ n : Int, A n → ∀ H2 i σ' H' v, Wm m H H2 → i < n.toNat → I H2 i σ' H' → v = V.int (i : Nat) → cG X tg v σ' H' fun σ3 H3 => cSs X body { D with nx := I H2 (i + 1), ct := I H2 (i + 1), bk := cSs X rest D } σ3 H3)
    (done : ∀ n : Int, A n → ∀ H2 σ' H', Wm m H H2 → I H2 n.toNat σ' H' → cSs X rest D σ' H') (hg : Gl X "range" := by rfl) (hst : starEach [e] X.env = [(false, eval e X.env)] := by rfl) (he : starEach [e] X.env = (false, eval e X.env) :: starEach [] X.env := by rfl) (hs : ∀ x, foldedSetIterable (.Call (.Name "range" p) [e] [] ppos) X.env x = pure x := by intro _; rfl) : cSs X (.For tg (.Call (.Name "range" p) [e] [] ppos) body [] pos :: rest) D σ H := by
  refine of_ps (ps_for hp hc (pi_range1 hg hm (tg := tg) pa_c hst) pg_c pss_c hs) (of_pa (pa_cons pe_c pa_c he) (run_jir ja w fun n H2 w2 hn => of_pa pa_nil ?_))
  obtain ⟨n1, n2⟩ := hA n hn
  refine ⟨n, rfl, n1, n2, ?_⟩
  refine ⟨fun i mm σ' H' => mm = n.toNat - i ∧ i ≤ n.toNat ∧ I H2 i σ' H', ⟨n.toNat, rfl, Nat.zero_le _, h0 H2 w2⟩, ?_⟩
  rintro i mm σ' H' ⟨rfl, hi, q⟩
  by_cases hlt : i < n.toNat
  · refine .inr ⟨hlt, I H2 (i + 1), fun σ3 H3 q3 => ⟨n.toNat - (i + 1), by omega, rfl, hlt, q3⟩, fun v H'' yy => ?_⟩
    obtain ⟨eh, ev⟩ := yy
    subst eh
    have e0 : (0 : Int) + (i : Int) = (i : Int) := Int.zero_add _
    exact step n hn H2 i σ' _ v w2 hlt q (by rw [ev, e0])
  · have e : i = n.toNat := by omega
    subst e
    exact .inl ⟨Nat.le_refl _, done n hn H2 σ' H' w2 q⟩
end
/-! ## a def that draws and gives a new list -/
def spPL (K : PySem.W.Frag) (Pre : List PyData → Prop) (R : List PyData → List PyData → Prop) : Sp := fun vs H Q _ => ∃ (p : Addr) (vs' : List V) (ds : List PyData), vs = .ref p :: vs' ∧ PenAt H p ∧ DrA K [p] H vs' ds ∧ Pre ds ∧ ∀ l ws es H', R ds es → H l = none → Wm (mdp p) H H' → H' l = some (.lst ws) → DrA K [] H' ws es → Q (.ref l) H'
section
variable {P : Program} {w : World} {K : PySem.W.Frag} {mg : Str → Option Value} {base : Heap}
theorem fo_ofPL {x : Str} {st : Stmt} {N ps : List Str} {k : Nat} {Pre : List PyData → Prop} {R : List PyData → List PyData → Prop} (G : Gf K mg x st []) (S : FnScope N ps (defScope st)) (len : ∀ ds, Pre ds → ds.length + 1 = ps.length)
    (hb : ∀ (kV doc pm : Value) (an : Option Addr) (cdv ct : Value) (us : List Value), us.length = ps.length → bindArgs (PySem.W.fnOf x x (defArgs st) (defBody st) (defScope st) .none kV doc pm an cdv ct) ⟨us, []⟩ = pure (ps.zip us))
    (body : ∀ (f : Addr) (cdv : Value) (A : Around) (outer : List Env) (s : Shared) (H : Hp) (vs : List V) (Q : VK) (E : XK) (p : Addr) (ds : List PyData), Room k (A.deeper (envOfC x (defScope st) s.heap.objs.size f cdv)) → Wm (mdp p) H H → En K [p] H (L2.start N vs) (sl0 N.length (.v (.ref p) :: ds.map Item.d)) → Pre ds →
      (∀ l ws es H', R ds es → H l = none → Wm (mdp p) H H' → H' l = some (.lst ws) → DrA K [] H' ws es → Q (.ref l) H') → cSs (cxOf CX0 P w K mg base N x (defScope st) f cdv A outer s H E).nox (defBody st) { nx := fun _ H' => Q .non H', rt := Q } (L2.start N vs) H) : Fo P w K mg base (k + 1) x [] (spPL K Pre R) := by
  obtain ⟨f, fd, F, hm⟩ := G.ex
  refine ⟨f, fd, ps, [], F.ok S (fun vs H Q E h => ?_) (fun cdv A outer s H vs Q E hr h => ?_), hm, F.kp, F.bindsN hb, .nil⟩
  · obtain ⟨p, vs', ds, rfl, _, h1, h2, _⟩ := h
    rw [List.length_cons, h1.len]
    exact len ds h2
  · obtain ⟨p, vs', ds, rfl, hp, h1, h2, h3⟩ := h
    have pw : Wm (mdp p) H H := by
      refine ⟨fun _ _ h _ => h, fun a ha => ?_, fun a ha => ?_⟩
      · have e : a = p := List.mem_singleton.mp ha
        subst e
        exact hp
      · have e : a = p := List.mem_singleton.mp ha
        subst e
        obtain ⟨o, q, _⟩ := hp
        rw [q]
        simp
    exact ⟨_, PSs.nox pss_c, body f cdv A outer s H _ Q E p ds hr pw (en_start (.cons rfl h1.items)) h2 h3⟩
end
theorem j_penL {m : Md} {X : Cx} {σ : L2.St} {H : Hp} {e : Expr} {es : List Expr} {pos p : Pos} {k k' : Nat} {x : Str} {FA : List PyData → Prop} {pa : Addr} {Pre : List PyData → Prop} {R : List PyData → List PyData → Prop} {R' : List PyData → Prop} (L : Fo X.prog X.w X.K X.mg X.base k x [] (spPL X.K Pre R)) (hr : Room k' X.A) (hP : m.P = [pa]) (je : J m X σ H e (.v (.ref pa))) (ja : JADR m X σ H es FA) (hR : ∀ ds, FA ds → Pre ds ∧ ∀ fs, R ds fs → nolstA fs = true ∧ R' fs) (hk : k ≤ k' := by decide) (hg : Gl X x := by rfl) (hdb : (x == ("__debug__" : Str)) = false := by decide)
    (he : starEach (e :: es) X.env = (false, eval e X.env) :: starEach es X.env := by rfl) (hpl : (backTo pos (starEach es X.env)).any (·.1) = false := by rfl) : JDR m X σ H (.Call (.Name x p) (e :: es) [] pos) (fun d => ∃ fs, d = .list fs ∧ R' fs) := mk_jdr fun H1 w Q q =>
  c_call L hr hk (of_pa (pa_cons pe_c pa_c he) (je H1 w _ fun v H2 w2 r1 => ja H2 (w.trans w2) _ fun vs ds H3 w3 hds r => by
    have e1 : v = V.ref pa := r1
    subst e1
    show spPL X.K Pre R ((V.ref pa :: vs) ++ []) H3 Q E0
    rw [List.append_nil]
    obtain ⟨h1, h2⟩ := hR ds hds
    have w13 := (w.trans w2).trans w3
    refine ⟨pa, vs, ds, rfl, w13.pens pa (by rw [hP]; exact List.mem_singleton.mpr rfl), DrA.sub (Same.refl _) (fun b _ hb => m.sub b (by rw [hP]; exact hb)) _ _ r, h1, fun l ws fs H4 hd hl kk r4 r5 => ?_⟩
    obtain ⟨h3, h4⟩ := h2 fs hd
    exact q _ (.list fs) H4 ((w2.trans w3).trans (w13.rfl1.of_pen hP kk)) ⟨fs, rfl, h4⟩ (.lst r4 (w13.fresh hl) (DrA.free _ _ h3 r5)))) hg hdb he hpl
/-! ## sets -/
abbrev St3 := Nat × Int × Int
def setD (s : St3) : PyData := .tuple [.int s.1, pt s.2.1, pt s.2.2]
structure SetsL (i : Nat) (ss : List St3) : Prop where
  len : ss.length = i
  each : ∀ s ∈ ss, 0 < s.1 ∧ s.1 < 6 ∧ s.2.2 ≠ 0 ∧ ∃ j : Int, s.2.1 = j * 13860 ∧ 0 ≤ j ∧ j < 3 * i
  up : ss.Pairwise fun a b => a.2.1 < b.2.1
  jm : ∀ s ∈ ss, s.2.2.natAbs ≤ 831600
def R_sets_of (ds es : List PyData) : Prop := ∃ ss i, es = ss.map setD ∧ i ≤ 4 ∧ SetsL i ss
theorem made2 {t : Int} : R_lowest [.int t, .int 2] (pt (t * 13860)) := made_of (t := t) (b := 2) (by decide) (by decide)
section
variable {P : Program} {w : World} {K : PySem.W.Frag} {mg : Str → Option Value} {base : Heap}
theorem fo_sets_of (T : Tx K mg) (Ld : Fo P w K mg base 2 "_law_draw" [] (spP K PreN R_draw)) (Lm : Fo P w K mg base 1 "_law_made" [] (spD K R_lowest)) (G : Gf K mg "_law_sets_of" s_law_sets_of []) : Fo P w K mg base 3 "_law_sets_of" [] (spPL K PreE R_sets_of) := by
  refine fo_ofPL G sc_law_sets_of (fun ds h => by rw [h] <;> rfl) (fun _ _ _ _ _ _ us hl => match us, hl with | [_], _ => rfl) ?_
  intro f cdv A outer s H vs Q E pa ds hr pw E0 hR hQ
  cases hR
  have E1 : En K (mdp pa).M H _ [some (.v (.ref pa)), none, none, none] := E0
  refine s_newL 1 pw E1 (jl_lst jad_nil) rfl sc_law_sets_of.nd fun l σ1 H1 hln hM w1 w2 E2 L2' => ?_
  have lP : l ∉ ((mdp pa).add l).P := fun q => hM q
  have lM : l ∈ ((mdp pa).add l).M := List.mem_cons_self ..
  refine s_forR (m := (mdp pa).add l) w2 PassesOwn.never rfl T.range (jir_drawN Ld hr rfl (j_var 0 E2)) (fun n hn => ⟨by omega, by omega⟩) (fun H2 i σ' H' => Wm ((mdp pa).add l) H' H' ∧ Bs ((mdp pa).add l).M H2 H' ∧ En K ((mdp pa).add l).M H' σ' [some (.v (.ref pa)), some (.v (.ref l)), none, none] ∧ ∃ ss : List St3, SetsL i ss ∧ Lo K ((mdp pa).add l).M H' l (ss.map setD)) (fun H2 w3 => ⟨w3.rfl1, Bs.refl _ _, E2.mono w3, [], ⟨rfl, by simp, .nil, by simp⟩, L2'.mono w3 lP⟩) (fun H2 i σ' H' h => h.2.1) (fun n hn H2 i σ' H' v w3 hi h ev => ?_) (fun n hn H2 σ' H' w3 h => ?_)
  · obtain ⟨w4, b4, E4, ss, hss, L4⟩ := h
    subst ev
    have hi4 : i < 4 := by omega
    refine (gt_name 2 sc_law_sets_of.nd).run _ H' σ' _ _ E4 (.int (i : Int)) fun σ3 E5 _ _ => ?_
    have E5' : En K ((mdp pa).add l).M H' σ3 [some (.v (.ref pa)), some (.v (.ref l)), some (.d (.int i)), none] := E5
    refine s_asgD 3 w4 E5' (F := fun d => ∃ g : Int, d = pt g ∧ 0 < g ∧ g ≤ 831600) (j_callR Lm hr (jadr_cons (jir_add (R := fun k => 1 ≤ k ∧ k ≤ 30) (jir_of j_int) (jir_drawN Ld hr rfl (j_var 0 E5')) fun i j hi hj => by subst hi; omega) (jadr_cons (jir_add (R := fun b => 1 ≤ b ∧ b ≤ 3) (jir_of j_int) (jir_drawN Ld hr rfl (j_var 0 E5')) fun i j hi hj => by subst hi; omega) jadr_nil)) fun ds h => ?_) sc_law_sets_of.nd fun d σ6 H6 hd w6 E6 => ?_
    · obtain ⟨d1, ds1, rfl, ⟨t, rfl, ht1, ht2⟩, d2, ds2, rfl, ⟨b, rfl, hb1, hb2⟩, rfl⟩ := h
      refine ⟨_, made_of hb1 (by omega), rfl, _, rfl, ?_⟩
      have : b = 1 ∨ b = 2 ∨ b = 3 := by omega
      rcases this with rfl | rfl | rfl <;> constructor <;> omega
    · obtain ⟨g, rfl, hg, hg2⟩ := hd
      have E6' : En K ((mdp pa).add l).M H6 σ6 [some (.v (.ref pa)), some (.v (.ref l)), some (.d (.int i)), some (.d (.tuple [.int (ptop g), .int (pbot g)]))] := E6
      refine s_asgD 3 w6.rfl1 E6' (F := fun d => ∃ g : Int, d = pt g ∧ g ≠ 0 ∧ g.natAbs ≤ 831600) (j_ixLR (jdr_of (j_lst (jad_cons (jd_var 3 E6') (jad_cons (j_tup (jad_cons (j_sub j_int (j_ixT 0 (jd_var 3 E6') j_int)) (jad_cons (j_ixT 1 (jd_var 3 E6') j_int) jad_nil))) jad_nil)))) (jir_drawN Ld hr rfl (j_var 0 E6')) fun f j hf hj => ?_) sc_law_sets_of.nd fun d σ7 H7 hd w7 E7 => ?_
      · subst hf
        obtain ⟨n, rfl, d, hd, hx⟩ := pick2 (x := .tuple [.int (ptop g), .int (pbot g)]) (y := .tuple [.int (0 - ptop g), .int (pbot g)]) hj.1 hj.2
        refine ⟨_, rfl, n, rfl, d, hd, ?_⟩
        rcases hx with rfl | rfl
        · exact ⟨g, rfl, by omega, by omega⟩
        · obtain ⟨e1, e2⟩ := pt_neg g
          exact ⟨-g, (pt_lit e1 e2).symm, by omega, by omega⟩
      · obtain ⟨jm, rfl, hj, hjm⟩ := hd
        have E7' : En K ((mdp pa).add l).M H7 σ7 [some (.v (.ref pa)), some (.v (.ref l)), some (.d (.int i)), some (.d (pt jm))] := E7
        have L7 := (L4.mono w6 lP).mono w7 lP
        refine s_appR (R := IsD fun d => ∃ (c : Nat) (t : Int), d = setD (c, (3 * i + t) * 13860, jm) ∧ 0 < c ∧ c < 6 ∧ 0 ≤ t ∧ t < 3) w7.rfl1 E7' lM lP L7 (j_var 1 E7') (j_tupR (jadr_cons (jir_add (R := fun k => 1 ≤ k ∧ k ≤ 5) (jir_of j_int) (jir_drawN Ld hr rfl (j_var 0 E7')) fun i j hi hj => by subst hi; omega) (jadr_cons (F := fun d => ∃ t : Int, d = pt ((3 * i + t) * 13860) ∧ 0 ≤ t ∧ t < 3) (j_callR Lm hr (jadr_cons (jir_add (R := fun x => ∃ t : Int, x = 3 * i + t ∧ 0 ≤ t ∧ t < 3) (jir_of (j_mul j_int (jd_var 2 E7') (.inl ⟨by decide, by decide⟩))) (jir_drawN Ld hr rfl (j_var 0 E7')) fun p q hp hq => ⟨q, by rw [hp], hq⟩) (jadr_cons (jir_of j_int) jadr_nil)) fun ds h => ?_) (jadr_cons (jdr_of (jd_var 3 E7')) jadr_nil))) fun ds h => ?_) (fun it ⟨d, e, _⟩ => ⟨d, e⟩) (by rw [List.length_map, hss.len]; omega) fun d H8 hd w8 b8 E8 L8 _ => ?_
        · obtain ⟨d1, ds1, rfl, ⟨x, rfl, t, rfl, ht⟩, d2, ds2, rfl, ⟨b, rfl, rfl⟩, rfl⟩ := h
          exact ⟨_, made2, rfl, t, rfl, ht⟩
        · obtain ⟨d1, ds1, rfl, ⟨x, rfl, hx1, hx2⟩, d2, ds2, rfl, ⟨t, rfl, ht1, ht2⟩, d3, ds3, rfl, rfl, rfl⟩ := h
          obtain ⟨c, rfl⟩ : ∃ c : Nat, x = c := ⟨x.toNat, by omega⟩
          exact ⟨by simp, c, t, rfl, by omega, by omega, ht1, ht2⟩
        · obtain ⟨d', e, c, t, rfl, hc1, hc2, ht1, ht2⟩ := hd
          cases e
          refine s_nil ⟨w8, ((b4.trans w6.bs).trans w7.bs).trans b8, (E8.forget 2).forget 3, ss ++ [(c, (3 * i + t) * 13860, jm)], ⟨by simp [hss.len], fun y hy => ?_, ?_, fun y hy => ?_⟩, by rw [List.map_append]; exact L8⟩
          · rcases List.mem_append.mp hy with hy | hy
            · obtain ⟨a1, a2, a3, j, a4, a5, a6⟩ := hss.each y hy
              exact ⟨a1, a2, a3, j, a4, a5, by omega⟩
            · rw [List.mem_singleton.mp hy]
              exact ⟨hc1, hc2, hj, 3 * i + t, rfl, by omega, by omega⟩
          · refine List.pairwise_append.mpr ⟨hss.up, List.pairwise_singleton _ _, fun x hx y hy => ?_⟩
            rw [List.mem_singleton.mp hy]
            obtain ⟨_, _, _, j, a4, a5, a6⟩ := hss.each x hx
            rw [a4]
            show j * 13860 < (3 * i + t) * 13860
            omega
          · rcases List.mem_append.mp hy with hy | hy
            · exact hss.jm y hy
            · rw [List.mem_singleton.mp hy]
              exact hjm
  · obtain ⟨w4, b4, E4, ss, hss, L4⟩ := h
    refine s_ret w4 (j_var 1 E4) fun v H5 w5 r => ?_
    have e1 : v = V.ref l := r
    subst e1
    obtain ⟨ws, g1, g2⟩ := L4.mono w5 lP
    refine hQ l ws (ss.map setD) H5 ⟨ss, _, rfl, by omega, hss⟩ hln (fin_w (m0 := mdp pa) (m := (mdp pa).add l) rfl rfl w5.rfl1 (((w1.bs.less (M := ((mdp pa).add l).M) (fun a ha q => List.mem_cons_of_mem _ q)).trans w3.bs).trans (b4.trans w5.bs)) fun a ha q => ?_) g1 g2.to0
    rcases List.mem_cons.mp q with e | e
    · rw [e] at ha
      exact absurd hln ha
    · exact e
end
end Gc
namespace Gc
open PySem PySem.Spec PyProof.Rows L2
abbrev Dd := Int × Tl
def deedD (x : Dd) : PyData := .tuple [pt x.1, .int x.2.a, .int x.2.b, op x.2.lo, op x.2.hi]
structure DeedOk (row : List Int) (cl : Cl) (x : Dd) : Prop where
  nn : 0 ≤ x.1
  sm : x.1 ≤ 526680
  dv : (4620 : Int) ∣ x.1
  kept : Kept row (taken cl ⟨0, x.1, x.2⟩)
def ClG (cl : Cl) : Prop := cl.length = 6 ∧ ∀ c ∈ cl, (462 : Int) ∣ c.1 ∧ c.1.natAbs < 2 ^ 60
def PreTo (ds : List PyData) : Prop := ∃ row cl, ds = [rowD row, clsD cl] ∧ RowOk row ∧ ClG cl
def R_told_of (ds es : List PyData) : Prop := ∃ row cl, ∃ xs : List Dd, ds = [rowD row, clsD cl] ∧ es = xs.map deedD ∧ xs.length ≤ 8 ∧ ∀ x ∈ xs, DeedOk row cl x
theorem map_pt_inj : ∀ {xs ys : List Int}, xs.map pt = ys.map pt → xs = ys
  | [], [], _ => rfl
  | [], _ :: _, h => by simp at h
  | _ :: _, [], h => by simp at h
  | x :: xs, y :: ys, h => by
    rw [List.map_cons, List.map_cons] at h
    obtain ⟨h1, h2⟩ := List.cons.inj h
    rw [pt_inj h1, map_pt_inj h2]
theorem dv_mul {mo g : Int} (h1 : (4620 : Int) ∣ mo) (h2 : (462 : Int) ∣ g) : (27720 : Int) ∣ mo * g := by
  obtain ⟨p, rfl⟩ := h1
  obtain ⟨q, rfl⟩ := h2
  refine ⟨77 * (p * q), ?_⟩
  have e : (4620 : Int) * p * (462 * q) = (4620 * 462) * (p * q) := by
    rw [Int.mul_assoc, Int.mul_left_comm p 462 q, ← Int.mul_assoc, ← Int.mul_assoc, Int.mul_assoc (4620 * 462) p q]
  rw [e, show (4620 * 462 : Int) = 27720 * 77 by decide, Int.mul_assoc]
theorem clG_at {cl : Cl} (h : ClG cl) {i : Nat} (hi : i < 6) : (462 : Int) ∣ (clAt cl i).1 ∧ (clAt cl i).1.natAbs < 2 ^ 60 := by
  have hl := h.1
  have hi' : i < cl.length := by omega
  have e : clAt cl i = cl[i] := by
    unfold clAt
    simp [List.getD, hi']
  rw [e]
  exact h.2 _ (List.getElem_mem hi')
theorem mo_dvd {b k : Int} (h1 : 1 ≤ b) (h2 : b ≤ 3) : (4620 : Int) ∣ k * (27720 / b) := by
  have : b = 1 ∨ b = 2 ∨ b = 3 := by omega
  rcases this with rfl | rfl | rfl <;> exact Int.dvd_mul_of_dvd_right (by decide)
theorem mo_sm {b k : Int} (h1 : 1 ≤ b) (h2 : b ≤ 3) (k1 : 0 ≤ k) (k2 : k < 20) : 0 ≤ k * (27720 / b) ∧ k * (27720 / b) ≤ 526680 := by
  have : b = 1 ∨ b = 2 ∨ b = 3 := by omega
  rcases this with rfl | rfl | rfl <;> omega
theorem taken_back' {cl : Cl} {mo : Int} {a b : Nat} {lo hi : Option Int} {y : Int} (hy : y = drC cl b mo - drC cl a mo) : taken cl ⟨0, mo, ⟨a, b, lo.map (· + y), hi.map (· + y)⟩⟩ = ⟨a, b, lo, hi⟩ := by
  unfold taken byT
  subst hy
  have e : ∀ o : Option Int, (o.map (· + (drC cl b mo - drC cl a mo))).map (· - (drC cl b mo - drC cl a mo)) = o := fun o => by
    cases o with
    | none => rfl
    | some z =>
      show some (z + _ - _) = some z
      congr 1
      omega
  simp only [e]
def ownS (ss : List St3) (i : Nat) : List (Int × Int) := (ss.filter fun s => decide (s.1 = i)).map (·.2)
def clocksF (gs : List Int) (ss : List St3) : Cl := (List.range gs.length).map fun i => (gs.getD i 0, ownS ss i)
def R_clocks (ds : List PyData) (d : PyData) : Prop := ∃ gs ss n, ds = [rowD gs, .list (ss.map setD)] ∧ gs.length = 6 ∧ SetsL n ss ∧ n ≤ 4 ∧ d = clsD (clocksF gs ss)
def k60 (mo : Int) : Int := ptop mo * 60 / pbot mo
def ownD (s : St3) : PyData := .tuple [.int (k60 s.2.1), pt s.2.1, pt s.2.2]
theorem k60_eq (j : Int) : k60 (j * 13860) = 30 * j := by
  unfold k60
  have h := pt_cross (j * 13860)
  have hp := pbot_pos (j * 13860)
  have e : ptop (j * 13860) * 60 = (30 * j) * pbot (j * 13860) := by
    have e1 : (ptop (j * 13860) * 60) * 462 = ((30 * j) * pbot (j * 13860)) * 462 := by
      have a1 : (ptop (j * 13860) * 60) * 462 = ptop (j * 13860) * 27720 := by
        rw [Int.mul_assoc]
        rfl
      have a2 : ((30 * j) * pbot (j * 13860)) * 462 = (j * 13860) * pbot (j * 13860) := by
        rw [Int.mul_right_comm, Int.mul_comm 30 j, Int.mul_assoc j 30 462]
        rfl
      rw [a1, a2, h]
    exact Int.eq_of_mul_eq_mul_right (by decide) e1
  rw [e, Int.mul_ediv_cancel _ (by omega)]
theorem own_sorted {ss : List St3} {n i : Nat} (h : SetsL n ss) : ((ss.filter fun s => decide (s.1 = i)).map ownD).Pairwise (fun x y => PySem.W.dataLt y x = false) := by
  refine List.pairwise_map.mpr (List.Pairwise.imp_of_mem (fun {a b} ha hb hab => ?_) (h.up.filter _))
  obtain ⟨_, _, _, ja, ea, _⟩ := h.each a (List.mem_filter.mp ha).1
  obtain ⟨_, _, _, jb, eb, _⟩ := h.each b (List.mem_filter.mp hb).1
  rw [ea, eb] at hab
  unfold ownD
  rw [PySem.W.dataLt_tuple, PySem.W.dataLt_all_no (by simp [PySem.W.alike]) (by rw [eqv_int]; exact decide_eq_false (by rw [ea, eb, k60_eq, k60_eq]; omega)), PySem.W.dataLt_int]
  exact decide_eq_false (by rw [ea, eb, k60_eq, k60_eq]; omega)
theorem own_alike (xs : List St3) : PySem.W.AllAlike (xs.map ownD) := fun d hd d' hd' => by
  obtain ⟨a, _, rfl⟩ := List.mem_map.mp hd
  obtain ⟨b, _, rfl⟩ := List.mem_map.mp hd'
  simp [ownD, pt, PySem.W.alike, PySem.W.alikeAll]
theorem own_sortable (xs : List St3) : PySem.W.Sortable (xs.map ownD) := .inl fun d hd => by
  obtain ⟨a, _, rfl⟩ := List.mem_map.mp hd
  exact ⟨_, _, rfl⟩
theorem own_depth (xs : List St3) : ∀ d ∈ xs.map ownD, d.depth ≤ 60 := fun d hd => by
  obtain ⟨a, _, rfl⟩ := List.mem_map.mp hd
  simp [ownD, pt, PyData.depth, PyData.depthAll]
section
variable {m : Md} {X : Cx} {σ : L2.St} {H : Hp} {e : Expr} {tg : Expr} {rest : List Stmt} {pos : Pos} {F : PyData → Prop} {D : Ends} {sl : List (Option Item)}
theorem s_unpD {is : List Nat} (w : Wm m H H) (E : En X.K m.M H σ sl) (j : JDR m X σ H e F) (sl' : PyData → List (Option Item)) (g : ∀ d, F d → Gt X tg is d sl (sl' d)) (k : ∀ d σ1 H1, F d → Wm m H H1 → En X.K m.M H1 σ1 (sl' d) → cSs X rest D σ1 H1)
    (hs : swapsWithSole [tg] e pos.line X.env = pure false := by rfl) (hw : swappedStores [tg] e X.env = pure none := by rfl) (h1 : (assignEach [tg] X.env).map (·.2) = [assign tg X.env] := by rfl) : cSs X (.Assign [tg] e pos :: rest) D σ H :=
  of_ps (ps_asg pe_c pg_c hs hw h1) (run_jdr j w fun v d H1 w1 hd r => (g d hd).run _ H1 σ v _ (E.mono w1) r fun σ1 E1 _ _ => k d σ1 H1 hd w1 E1)
end
section
variable {P : Program} {w : World} {K : PySem.W.Frag} {mg : Str → Option Value} {base : Heap}
theorem fo_told_of (T : Tx K mg) (Ld : Fo P w K mg base 2 "_law_draw" [] (spP K PreN R_draw)) (Lm : Fo P w K mg base 1 "_law_made" [] (spD K R_lowest)) (Lt : Fo P w K mg base 4 "_law_true" [] (spP K PreT R_true)) (Lf : Fo P w K mg base 3 "_law_drift" [] (spD K R_ldrift)) (Lr : Fo P w K mg base 2 "_law_rest" [] (spD K R_minus)) (Ls : Fo P w K mg base 2 "_law_sum" [] (spD K R_plus)) (G : Gf K mg "_law_told_of" s_law_told_of []) : Fo P w K mg base 5 "_law_told_of" [] (spPL K PreTo R_told_of) := by
  refine fo_ofPL G sc_law_told_of (fun ds h => by obtain ⟨_, _, rfl, _⟩ := h; rfl) (fun _ _ _ _ _ _ us hl => match us, hl with | [_, _, _], _ => rfl) ?_
  intro f cdv A outer s H vs Q E pa ds hr pw E0 hR hQ
  obtain ⟨row, cl, rfl, hrow, hcl⟩ := hR
  have E1 : En K (mdp pa).M H _ [some (.v (.ref pa)), some (.d (rowD row)), some (.d (clsD cl)), none, none, none, none, none, none, none, none, none, none] := E0
  refine s_newL 3 pw E1 (jl_lst jad_nil) rfl sc_law_told_of.nd fun l σ1 H1 hln hM w1 w2 E2 L2' => ?_
  have lP : l ∉ ((mdp pa).add l).P := fun q => hM q
  have lM : l ∈ ((mdp pa).add l).M := List.mem_cons_self ..
  refine s_forR (m := (mdp pa).add l) w2 PassesOwn.never rfl T.range (jir_drawN Ld hr rfl (j_var 0 E2)) (fun n hn => ⟨by omega, by omega⟩) (fun H2 i σ' H' => Wm ((mdp pa).add l) H' H' ∧ Bs ((mdp pa).add l).M H2 H' ∧ En K ((mdp pa).add l).M H' σ' [some (.v (.ref pa)), some (.d (rowD row)), some (.d (clsD cl)), some (.v (.ref l)), none, none, none, none, none, none, none, none, none] ∧ ∃ xs : List Dd, xs.length = i ∧ (∀ x ∈ xs, DeedOk row cl x) ∧ Lo K ((mdp pa).add l).M H' l (xs.map deedD)) (fun H2 w3 => ⟨w3.rfl1, Bs.refl _ _, E2.mono w3, [], rfl, by simp, L2'.mono w3 lP⟩) (fun H2 i σ' H' h => h.2.1) (fun n hn H2 i σ' H' v w3 hi h ev => ?_) (fun n hn H2 σ' H' w3 h => ?_)
  · obtain ⟨w4, b4, E4, xs, hxl, hxs, L4⟩ := h
    subst ev
    have hi8 : i < 8 := by omega
    refine (gt_name 4 sc_law_told_of.nd).run _ H' σ' _ _ E4 (.int (i : Int)) fun σ3 E5 _ _ => ?_
    have E5' : En K ((mdp pa).add l).M H' σ3 [some (.v (.ref pa)), some (.d (rowD row)), some (.d (clsD cl)), some (.v (.ref l)), some (.d (.int i)), none, none, none, none, none, none, none, none] := E5
    refine s_asgD 5 w4 E5' (F := fun d => ∃ mo : Int, d = pt mo ∧ (0 ≤ mo ∧ mo ≤ 526680) ∧ (4620 : Int) ∣ mo) (j_callR Lm hr (jadr_cons (jir_drawN Ld hr rfl (j_var 0 E5')) (jadr_cons (jir_add (R := fun b => 1 ≤ b ∧ b ≤ 3) (jir_of j_int) (jir_drawN Ld hr rfl (j_var 0 E5')) fun i j hi hj => by subst hi; omega) jadr_nil)) fun ds h => ?_) sc_law_told_of.nd fun d σ6 H6 hd w6 E6 => ?_
    · obtain ⟨d1, ds1, rfl, ⟨t, rfl, ht1, ht2⟩, d2, ds2, rfl, ⟨b, rfl, hb1, hb2⟩, rfl⟩ := h
      exact ⟨_, made_of hb1 (by omega), rfl, _, rfl, mo_sm hb1 hb2 ht1 ht2, mo_dvd hb1 hb2⟩
    · obtain ⟨mo, rfl, hmo, hdv⟩ := hd
      have E6' : En K ((mdp pa).add l).M H6 σ6 [some (.v (.ref pa)), some (.d (rowD row)), some (.d (clsD cl)), some (.v (.ref l)), some (.d (.int i)), some (.d (pt mo)), none, none, none, none, none, none, none] := E6
      refine s_unpD (is := [6, 7, 8, 9]) (F := fun d => ∃ t, d = tlD t ∧ Kept row t) w6.rfl1 E6' (j_penR Lt hr rfl (j_var 0 E6') (jadr_cons (jdr_of (jd_var 1 E6')) (jadr_cons (F := fun d => ∃ n : Int, d = .int n ∧ (n = 3 ∨ n = 6)) (j_ixLR (jdr_of (j_lst (jad_cons j_int (jad_cons j_int jad_nil)))) (jir_drawN Ld hr rfl (j_var 0 E6')) fun f j hf hj => ?_) jadr_nil)) fun ds h => ?_) (fun d => match d with
        | .tuple [x1, x2, x3, x4] => [some (.v (.ref pa)), some (.d (rowD row)), some (.d (clsD cl)), some (.v (.ref l)), some (.d (.int i)), some (.d (pt mo)), some (.d x1), some (.d x2), some (.d x3), some (.d x4), none, none, none]
        | _ => []) (fun d hd => ?_) fun d σ7 H7 hd w7 E7 => ?_
      · subst hf
        obtain ⟨n, rfl, d, hd, hx⟩ := pick2 (x := .int 3) (y := .int 6) hj.1 hj.2
        refine ⟨_, rfl, n, rfl, d, hd, ?_⟩
        rcases hx with rfl | rfl
        · exact ⟨3, rfl, .inl rfl⟩
        · exact ⟨6, rfl, .inr rfl⟩
      · obtain ⟨d1, ds1, rfl, rfl, d2, ds2, rfl, ⟨n, rfl, hn⟩, rfl⟩ := h
        refine ⟨⟨row, n, rfl, hrow, hn⟩, fun d hd => ?_⟩
        obtain ⟨row', n', t, e, rfl, hk⟩ := hd
        have e1 : rowD row = rowD row' := by
          have := congrArg List.head? e
          simpa using this
        have e2 : row = row' := by
          unfold rowD at e1
          have e3 : row.map pt = row'.map pt := by simpa using e1
          exact map_pt_inj e3
        subst e2
        exact ⟨nolst_tl t, t, rfl, hk⟩
      · obtain ⟨t, rfl, _⟩ := hd
        exact gt_tup rfl (gts_cons (gt_name 6 sc_law_told_of.nd) (gts_cons (gt_name 7 sc_law_told_of.nd) (gts_cons (gt_name 8 sc_law_told_of.nd) (gts_cons (gt_name 9 sc_law_told_of.nd) gts_nil))))
      · obtain ⟨t, rfl, hk⟩ := hd
        obtain ⟨ca, cb, lo, hi'⟩ := t
        have E7' : En K ((mdp pa).add l).M H7 σ7 [some (.v (.ref pa)), some (.d (rowD row)), some (.d (clsD cl)), some (.v (.ref l)), some (.d (.int i)), some (.d (pt mo)), some (.d (.int ca)), some (.d (.int cb)), some (.d (op lo)), some (.d (op hi')), none, none, none] := E7
        have ha : ca < 6 := hk.ok.a
        have hb : cb < 6 := hk.ok.b
        have hlen := hcl.1
        obtain ⟨ga, sa⟩ := clG_at hcl ha
        obtain ⟨gb, sb⟩ := clG_at hcl hb
        refine s_asg 10 w7.rfl1 E7' (j_call Lr hr (jad_cons (j_call Lf hr (jad_cons (j_ixT cb (jd_var 2 E7') (jd_var 7 E7') rfl (cl_at (by rw [hlen]; exact hb))) (jad_cons (jd_var 5 E7') jad_nil)) ⟨_, _, mo, rfl, sb, dv_mul hdv gb, rfl⟩) (jad_cons (j_call Lf hr (jad_cons (j_ixT ca (jd_var 2 E7') (jd_var 6 E7') rfl (cl_at (by rw [hlen]; exact ha))) (jad_cons (jd_var 5 E7') jad_nil)) ⟨_, _, mo, rfl, sa, dv_mul hdv ga, rfl⟩) jad_nil)) ⟨_, _, rfl, rfl⟩) sc_law_told_of.nd fun σ8 H8 w8 E8 => ?_
        generalize ey : dr (clAt cl cb).1 (clAt cl cb).2 mo - dr (clAt cl ca).1 (clAt cl ca).2 mo = y at E8
        have E8' : En K ((mdp pa).add l).M H8 σ8 [some (.v (.ref pa)), some (.d (rowD row)), some (.d (clsD cl)), some (.v (.ref l)), some (.d (.int i)), some (.d (pt mo)), some (.d (.int ca)), some (.d (.int cb)), some (.d (op lo)), some (.d (op hi')), some (.d (pt y)), none, none] := E8
        refine s_asg 11 w8.rfl1 E8' (jd_is (j_tupleL T.tuple (j_comp [("_law_bound", 12)] E8' rfl sc_law_told_of.nd (blkOk_by (N := ["_law_pen", "_law_row_here", "_law_clocks_here", "_law_found", "_law_turn", "_law_moment", "_law_one", "_law_other", "_law_low", "_law_high", "_law_by", "_law_ends", "_law_bound"]) (sc := defScope s_law_told_of) (by decide +kernel)) (sr_tup (j_tup (jad_cons (jd_var 8 E8') (jad_cons (jd_var 9 E8') jad_nil)))) (by simp) [12] (fun k => [some (.v (.ref pa)), some (.d (rowD row)), some (.d (clsD cl)), some (.v (.ref l)), some (.d (.int i)), some (.d (pt mo)), some (.d (.int ca)), some (.d (.int cb)), some (.d (op lo)), some (.d (op hi')), some (.d (pt y)), none, some (.d (op (if k = 0 then lo else hi')))]) (by simp) (fun k hk s Hs C cL fp => ?_) (fun _ => true) (fun k hk m' hm s Hs C cL fp σ' H' w' E' => jts_nil) (fun k => op ((if k = 0 then lo else hi').map (· + y))) (fun k hk _ m' hm s Hs C cL fp σ' H' w' E' => ?_))) (d' := .tuple [op (lo.map (· + y)), op (hi'.map (· + y))]) rfl) sc_law_told_of.nd fun σ9 H9 w9 E9 => ?_
        · have hk2 : k = 0 ∨ k = 1 := by
            have : k < 2 := hk
            omega
          rcases hk2 with rfl | rfl <;> exact gt_name 12 sc_law_told_of.nd
        · generalize (if k = 0 then lo else hi') = o at E' ⊢
          cases o with
          | none => exact j_ifT (jt_isN (jd_var 12 E')) j_non
          | some z =>
            have E'' : En K m'.M H' σ' [some (.v (.ref pa)), some (.d (rowD row)), some (.d (clsD cl)), some (.v (.ref l)), some (.d (.int i)), some (.d (pt mo)), some (.d (.int ca)), some (.d (.int cb)), some (.d (op lo)), some (.d (op hi')), some (.d (pt y)), none, some (.d (pt z))] := E'
            exact j_ifF (jt_isN (jd_var 12 E'')) (j_call Ls hr (jad_cons (jd_var 12 E'') (jad_cons (jd_var 10 E'') jad_nil)) ⟨_, _, rfl, rfl⟩)
        · have E9' : En K ((mdp pa).add l).M H9 σ9 [some (.v (.ref pa)), some (.d (rowD row)), some (.d (clsD cl)), some (.v (.ref l)), some (.d (.int i)), some (.d (pt mo)), some (.d (.int ca)), some (.d (.int cb)), some (.d (op lo)), some (.d (op hi')), some (.d (pt y)), some (.d (.tuple [op (lo.map (· + y)), op (hi'.map (· + y))])), none] := E9
          have L9 := (((L4.mono w6 lP).mono w7 lP).mono w8 lP).mono w9 lP
          refine s_app w9.rfl1 E9' lM lP L9 (j_var 3 E9') (j_catT (j_tup (jad_cons (jd_var 5 E9') (jad_cons (jd_var 6 E9') (jad_cons (jd_var 7 E9') jad_nil)))) (jd_var 11 E9') (by simp)) (by rw [List.length_map]; omega) fun H10 w10 b10 E10 L10 _ => s_nil ⟨w10, ((((b4.trans w6.bs).trans w7.bs).trans w8.bs).trans w9.bs).trans b10, (((((((E10.forget 4).forget 5).forget 6).forget 7).forget 8).forget 9).forget 10).forget 11, xs ++ [(mo, ⟨ca, cb, lo.map (· + y), hi'.map (· + y)⟩)], by simp [hxl], fun x hx => ?_, by rw [List.map_append]; exact L10⟩
          rcases List.mem_append.mp hx with hx | hx
          · exact hxs x hx
          · rw [List.mem_singleton.mp hx]
            refine ⟨hmo.1, hmo.2, hdv, ?_⟩
            show Kept row (taken cl ⟨0, mo, ⟨ca, cb, lo.map (· + y), hi'.map (· + y)⟩⟩)
            rw [taken_back' (show y = drC cl cb mo - drC cl ca mo from ey.symm)]
            exact hk
  · obtain ⟨w4, b4, E4, xs, hxl, hxs, L4⟩ := h
    refine s_ret w4 (j_var 3 E4) fun v H5 w5 r => ?_
    have e1 : v = V.ref l := r
    subst e1
    obtain ⟨ws, g1, g2⟩ := L4.mono w5 lP
    refine hQ l ws (xs.map deedD) H5 ⟨row, cl, xs, rfl, rfl, by omega, hxs⟩ hln (fin_w (m0 := mdp pa) (m := (mdp pa).add l) rfl rfl w5.rfl1 (((w1.bs.less (M := ((mdp pa).add l).M) (fun a ha q => List.mem_cons_of_mem _ q)).trans w3.bs).trans (b4.trans w5.bs)) fun a ha q => ?_) g1 g2.to0
    rcases List.mem_cons.mp q with e | e
    · rw [e] at ha
      exact absurd hln ha
    · exact e
theorem fo_clocks (T : Tx K mg) (G : Gf K mg "_law_clocks" s_law_clocks []) : Fo P w K mg base 1 "_law_clocks" [] (spD K R_clocks) := by
  refine fo_of G sc_law_clocks (fun ds d h => by obtain ⟨_, _, _, rfl, _⟩ := h; rfl) (fun _ _ _ _ _ _ us hl => match us, hl with | [_, _], _ => rfl) ?_
  intro f cdv A outer s H vs Q E ds d hr E0 hR hQ
  obtain ⟨gs, ss, nn, rfl, hgl, hss, hn4, rfl⟩ := hR
  have hsl := hss.len
  have E1 : En K [] H _ [some (.d (rowD gs)), some (.d (.list (ss.map setD))), none, none, none, none, none, none, none, none] := E0
  refine s_newL 2 (w_md0 H) E1 (jl_lst jad_nil) rfl sc_law_clocks.nd fun l σ1 H1 hln hM w1 w2 E2 L2' => ?_
  have lP : l ∉ (md0.add l).P := by intro q; cases q
  have lM : l ∈ (md0.add l).M := List.mem_cons_self ..
  refine s_for (m := md0.add l) (n := (gs.map pt).length) w2 PassesOwn.never rfl (sr_enumT T.enumerate (jd_var 0 E2)) (fun H2 i σ' H' => Wm (md0.add l) H' H' ∧ Bs (md0.add l).M H2 H' ∧ En K (md0.add l).M H' σ' [some (.d (rowD gs)), some (.d (.list (ss.map setD))), some (.v (.ref l)), none, none, none, none, none, none, none] ∧ Lo K (md0.add l).M H' l (((List.range i).map fun i => (gs.getD i 0, ownS ss i)).map fun c => clk c.1 c.2)) (fun H2 w3 => ⟨w3.rfl1, Bs.refl _ _, E2.mono w3, L2'.mono w3 lP⟩) (fun H2 i σ' H' _ h => h.2.1) (fun H2 i σ' H' H'' v w3 hi h k r => ?_) (fun H2 σ' H' w3 h => ?_)
  · obtain ⟨w4, b4, E4, L4⟩ := h
    have hi' : i < gs.length := by simpa using hi
    have hi6 : i < 6 := by omega
    rw [getD_map pt hi'] at r
    have w5 := w4.same k
    refine (gt_tup rfl (gts_cons (gt_name 3 sc_law_clocks.nd) (gts_cons (gt_name 4 sc_law_clocks.nd) gts_nil))).run _ H'' σ' v _ (E4.mono w5) r fun σ3 E5 _ _ => ?_
    have E6 : En K (md0.add l).M H'' σ3 [some (.d (rowD gs)), some (.d (.list (ss.map setD))), some (.v (.ref l)), some (.d (.int i)), some (.d (pt gs[i])), none, none, none, none, none] := E5
    refine s_comp 5 [("_law_number", 6), ("_law_when", 7), ("_law_jump", 8)] w5.rfl1 E6 rfl sc_law_clocks.nd (blkOk_by (N := ["_law_gains_here", "_law_sets", "_law_found", "_law_clock", "_law_gain", "_law_own", "_law_number", "_law_when", "_law_jump", "_law_one"]) (sc := defScope s_law_clocks) (by decide +kernel)) (sr_list (jd_var 1 E6)) (by rw [List.length_map]; omega) [6, 7, 8] (fun k => [some (.d (rowD gs)), some (.d (.list (ss.map setD))), some (.v (.ref l)), some (.d (.int i)), some (.d (pt gs[i])), none, some (.d (.int (ss.getD k (0, 0, 0)).1)), some (.d (.tuple [.int (ptop (ss.getD k (0, 0, 0)).2.1), .int (pbot (ss.getD k (0, 0, 0)).2.1)])), some (.d (pt (ss.getD k (0, 0, 0)).2.2)), none]) (by simp) (fun k hk s Hs C cL fp => ?_) (fun k => decide ((ss.getD k (0, 0, 0)).1 = i)) (fun k hk m' hm s Hs C cL fp σ' H' w' E' => jts_one (jt_eq (jd_var 6 E') (jd_var 3 E') (decide_eq_decide.mpr (by omega)))) (fun k => ownD (ss.getD k (0, 0, 0))) (fun k hk _ m' hm s Hs C cL fp σ' H' w' E' => j_tup (jad_cons (j_fdiv (j_mul (j_ixT 0 (jd_var 7 E') j_int) j_int (.inr ⟨by decide, by decide⟩)) (j_ixT 1 (jd_var 7 E') j_int) ⟨pbot_pos _, by have := pbot_le (ss.getD k (0, 0, 0)).2.1; omega⟩) (jad_cons (jd_var 7 E') (jad_cons (jd_var 8 E') jad_nil)))) fun σ7 H7 w7 E7 => ?_
    · have hk' : k < ss.length := by simpa using hk
      have e : (ss.map setD).getD k .none = .tuple [.int (ss.getD k (0, 0, 0)).1, pt (ss.getD k (0, 0, 0)).2.1, pt (ss.getD k (0, 0, 0)).2.2] := by
        rw [getD_map setD hk', show ss.getD k (0, 0, 0) = ss[k] by simp [List.getD, hk']] <;> rfl
      rw [e]
      exact gt_tup rfl (gts_cons (gt_name 6 sc_law_clocks.nd) (gts_cons (gt_name 7 sc_law_clocks.nd) (gts_cons (gt_name 8 sc_law_clocks.nd) gts_nil)))
    · have ho : ((List.range (ss.map setD).length).filter fun k => decide ((ss.getD k (0, 0, 0)).1 = i)).map (fun k => ownD (ss.getD k (0, 0, 0))) = (ss.filter fun s => decide (s.1 = i)).map ownD := by
        rw [List.length_map]
        exact range_filter_map ((0, 0, 0) : St3) (fun s => decide (s.1 = i)) ownD ss
      rw [ho] at E7
      have hsorted := own_sorted (i := i) hss
      generalize efs : (ss.filter fun s => decide (s.1 = i)) = fs at E7 hsorted
      have hfl : fs.length ≤ 4 := by
        rw [← efs]
        have := List.length_filter_le (fun s : St3 => decide (s.1 = i)) ss
        omega
      have E7' : En K (md0.add l).M H7 σ7 [some (.d (rowD gs)), some (.d (.list (ss.map setD))), some (.v (.ref l)), some (.d (.int i)), some (.d (pt gs[i])), some (.d (.list (fs.map ownD))), none, none, none, none] := E7
      have L7 := (L4.mono w5 lP).mono w7 lP
      refine s_app (d := clk gs[i] (fs.map (·.2))) w7.rfl1 E7' lM lP L7 (j_var 2 E7') (jd_is (j_tup (jad_cons (jd_var 4 E7') (jad_cons (j_tupleL T.tuple (j_comp [("_law_one", 9)] E7' rfl sc_law_clocks.nd (blkOk_by (N := ["_law_gains_here", "_law_sets", "_law_found", "_law_clock", "_law_gain", "_law_own", "_law_number", "_law_when", "_law_jump", "_law_one"]) (sc := defScope s_law_clocks) (by decide +kernel)) (sr_list (j_sortedA hr T.sorted (jd_var 5 E7') (own_alike fs) (own_sortable fs) hsorted (own_depth fs) (by rw [List.length_map]; omega))) (by rw [List.length_map]; omega) [9] (fun k => [some (.d (rowD gs)), some (.d (.list (ss.map setD))), some (.v (.ref l)), some (.d (.int i)), some (.d (pt gs[i])), some (.d (.list (fs.map ownD))), none, none, none, some (.d (ownD (fs.getD k (0, 0, 0))))]) (by simp) (fun k hk s Hs C cL fp => ?_) (fun _ => true) (fun k hk m' hm s Hs C cL fp σ' H' w' E' => jts_nil) (fun k => sp (fs.getD k (0, 0, 0)).2) (fun k hk _ m' hm s Hs C cL fp σ' H' w' E' => jd_is (j_slT (jd_var 9 E') (jo_some (i := ((1 : Nat) : Int)) j_int) jo_none) (by rw [cutD_drop] <;> rfl)))) jad_nil))) ?_) (by simp only [List.length_map, List.length_range]; omega) fun H8 w8 b8 E8 L8 _ => s_nil ⟨w8, ((b4.trans (Bs.same k)).trans w7.bs).trans b8, ((E8.forget 3).forget 4).forget 5, ?_⟩
      · have hk' : k < fs.length := by simpa using hk
        have e : (fs.map ownD).getD k .none = ownD (fs.getD k (0, 0, 0)) := by
          rw [getD_map ownD hk', show fs.getD k (0, 0, 0) = fs[k] by simp [List.getD, hk']]
        rw [e]
        exact gt_name 9 sc_law_clocks.nd
      · have h := range_filter_map ((0, 0, 0) : St3) (fun _ => true) (fun s => sp s.2) fs
        rw [List.length_map, h, List.filter_eq_self.mpr (fun _ _ => rfl)]
        unfold clk
        rw [List.map_map]
        rfl
      · have e : (((List.range (i + 1)).map fun i => (gs.getD i 0, ownS ss i)).map fun c => clk c.1 c.2) = (((List.range i).map fun i => (gs.getD i 0, ownS ss i)).map fun c => clk c.1 c.2) ++ [clk gs[i] (fs.map (·.2))] := by
          rw [List.range_succ, List.map_append, List.map_append]
          congr 1
          show [clk (gs.getD i 0) (ownS ss i)] = _
          unfold ownS
          rw [efs, show gs.getD i 0 = gs[i] by simp [List.getD, hi']]
        rw [e]
        exact L8
  · obtain ⟨w4, b4, E4, L4⟩ := h
    rw [List.length_map] at L4
    exact s_ret w4 (j_tupleO T.tuple lP L4 (j_var 2 E4)) fun v H5 w5 r => hQ v H5 (fin_w (m0 := md0) (m := md0.add l) rfl rfl w5.rfl1 (((w1.bs.less (M := (md0.add l).M) (fun a ha q => by cases q)).trans w3.bs).trans (b4.trans w5.bs)) fun a ha q => by
      rcases List.mem_cons.mp q with e | e
      · rw [e] at ha
        exact absurd hln ha
      · exact e) (Dr.free (clsD (clocksF gs ss)) v (nolst_cls _) r)
end
end Gc
namespace Gc
open PySem PySem.Spec PyProof.Rows L2
/-! ## two lists of one's own -/
section
variable {m : Md} {X : Cx} {σ : L2.St} {H : Hp} {a b e o i : Expr} {rest : List Stmt} {pos pos' p p2 apos apos2 : Pos} {D : Ends} {ds ds1 ds2 : List PyData} {sl : List (Option Item)} {B : Int → Prop}
theorem s_newL2 (n k : Nat) {x y : Str} {px py pt : Pos} {kt k2 pt2} (w : Wm m H H) (E : En X.K m.M H σ sl) (hc : X.calm = true) (ja : JL m X σ H a ds1) (jb : JL m X σ H b ds2) (hd1 : nolstA ds1 = true) (hd2 : nolstA ds2 = true) (hN : X.N.Nodup)
    (kk : ∀ l1 l2 σ1 H1, H l1 = none → H l2 = none → l1 ≠ l2 → l1 ∉ m.M → l2 ∉ m.M → Wm m H H1 → Wm ((m.add l1).add l2) H1 H1 → En X.K ((m.add l1).add l2).M H1 σ1 ((sl.set n (some (.v (.ref l1)))).set k (some (.v (.ref l2)))) → Lo X.K ((m.add l1).add l2).M H1 l1 ds1 → Lo X.K ((m.add l1).add l2).M H1 l2 ds2 → cSs X rest D σ1 H1)
    (hi : X.N[n]? = some x := by rfl) (hj : X.N[k]? = some y := by rfl) (hij : n ≠ k := by decide) (hx : X.env.scope.names.lookup x = some .local := by rfl) (hy : X.env.scope.names.lookup y = some .local := by rfl)
    (hw : swappedStores [.Tuple [.Name x px, .Name y py] kt pt] (.Tuple [a, b] k2 pt2) X.env = pure (some [x, y]) := by rfl)
    (hs : swapsWithSole [.Tuple [.Name x px, .Name y py] kt pt] (.Tuple [a, b] k2 pt2) pos.line X.env = pure false := by rfl) (he1 : starEach [a, b] X.env = (false, eval a X.env) :: starEach [b] X.env := by rfl) (he2 : starEach [b] X.env = (false, eval b X.env) :: starEach [] X.env := by rfl) : cSs X (.Assign [.Tuple [.Name x px, .Name y py] kt pt] (.Tuple [a, b] k2 pt2) pos :: rest) D σ H :=
  of_ps (ps_par hc hN hi hj hij hx hy pa_c hw hs) (of_pa (pa_cons pe_c pa_c he1) (ja H w _ fun l1 vs1 H1 hl1 w1 h1 r1 => of_pa (pa_cons pe_c pa_c he2) (jb H1 w1 _ fun l2 vs2 H2 hl2 w2 h2 r2 => of_pa pa_nil (by
    have ne : l1 ≠ l2 := fun e => by
      rw [e] at h1
      rw [h1] at hl2
      cases hl2
    have w12 := w1.trans w2
    have hl2' : H l2 = none := wm_back w1 hl2
    have l1P : l1 ∉ m.P := fun q => w.fresh hl1 (m.sub _ q)
    have h1' : H2 l1 = some (.lst vs1) := w2.keep _ _ h1 (.inl l1P)
    have hP2 : l2 ∉ m.P := fun q => w.fresh hl2' (m.sub _ q)
    refine ⟨_, _, rfl, kk l1 l2 _ H2 hl1 hl2' ne (w.fresh hl1) (w.fresh hl2') w12 ((w12.rfl1.add (by rw [h1']; simp)).add (by rw [h2]; simp)) ?_ ⟨vs1, h1', DrA.free _ _ hd1 (DrA.mono w2 _ _ r1)⟩ ⟨vs2, h2, DrA.free _ _ hd2 r2⟩⟩
    have E2 : En X.K ((m.add l1).add l2).M H2 σ sl := (E.sub (M' := ((m.add l1).add l2).M) (Same.refl H) fun c hc hm => by
      rcases List.mem_cons.mp hm with e | hm
      · rw [e] at hc
        exact absurd hl2' hc
      · rcases List.mem_cons.mp hm with e | hm
        · rw [e] at hc
          exact absurd hl1 hc
        · exact hm).bs fun c o h q => w12.bs c o h (q.imp (fun z q => z (List.mem_cons_of_mem _ (List.mem_cons_of_mem _ q))) id)
    exact (E2.set (it := .v (.ref l1)) rfl).set (it := .v (.ref l2)) rfl))))
/-- found.append(left.pop(i)) -/
theorem s_popApp {l1 l2 : Addr} {left found : List PyData} (w : Wm m H H) (E : En X.K m.M H σ sl) (m1 : l1 ∈ m.M) (m2 : l2 ∈ m.M) (P1 : l1 ∉ m.P) (P2 : l2 ∉ m.P) (ne : l1 ≠ l2) (L1 : Lo X.K m.M H l1 left) (L2' : Lo X.K m.M H l2 found) (jo2 : J m X σ H o (.v (.ref l2))) (jo1 : J m X σ H a (.v (.ref l1))) (ji : JIR m X σ H i (fun r => 0 ≤ r ∧ r < left.length)) (hz : found.length ≤ 1000) (hz2 : left.length ≤ 1000)
    (k : ∀ (n : Nat) d H1, left[n]? = some d → Wm m H1 H1 → Bs m.M H H1 → En X.K m.M H1 σ sl → Lo X.K m.M H1 l1 (left.eraseIdx n) → Lo X.K m.M H1 l2 (found ++ [d]) → cSs X rest D σ H1)
    (hs : swapsWith (.Call (.Attribute o "append" apos) [.Call (.Attribute a "pop" apos2) [i] [] p2] [] p) none pos.line X.env = pure false := by rfl) (hbase : attributeBase o "append" X.env (eval o X.env) = eval o X.env := by rfl)
    (hfew : ((backTo p (starEach [.Call (.Attribute a "pop" apos2) [i] [] p2] X.env)).all (fun x => !x.1) && (backToKw p (keywordEach [] X.env)).all (fun x => x.1.isSome) && decide ([Expr.Call (.Attribute a "pop" apos2) [i] [] p2].length + ([] : List Keyword).length + (if ([] : List Keyword).isEmpty then 0 else 1) < 30)) = true := by rfl)
    (hline : (apos.endLine == p.line) = true := by rfl) (hst : starEach [.Call (.Attribute a "pop" apos2) [i] [] p2] X.env = (false, eval (.Call (.Attribute a "pop" apos2) [i] [] p2) X.env) :: starEach [] X.env := by rfl) (hplain : (backTo p (starEach [] X.env)).any (·.1) = false := by rfl)
    (hbase2 : attributeBase a "pop" X.env (eval a X.env) = eval a X.env := by rfl)
    (hfew2 : ((backTo p2 (starEach [i] X.env)).all (fun x => !x.1) && (backToKw p2 (keywordEach [] X.env)).all (fun x => x.1.isSome) && decide ([i].length + ([] : List Keyword).length + (if ([] : List Keyword).isEmpty then 0 else 1) < 30)) = true := by rfl)
    (hline2 : (apos2.endLine == p2.line) = true := by rfl) (hst2 : starEach [i] X.env = (false, eval i X.env) :: starEach [] X.env := by rfl) (hplain2 : (backTo p2 (starEach [] X.env)).any (·.1) = false := by rfl) : cSs X (.Expr (.Call (.Attribute o "append" apos) [.Call (.Attribute a "pop" apos2) [i] [] p2] [] p) pos :: rest) D σ H := by
  refine of_ps (ps_expr (pe_bm PySem.F.plainAttrs_list PySem.F.slot_list_append PySem.F.type_list_append mt_append pe_c (pa_cons pe_c pa_nil hst) hbase hfew hline hst hplain) hs) (jo2 H w _ fun v H1 w1 r1 => ?_)
  have e1 : v = V.ref l2 := r1
  subst e1
  obtain ⟨vs1, g1, g1'⟩ := L2'.mono w1 P2
  refine ⟨.inl ⟨rfl, _, SqL.of g1⟩, of_pe (pe_bm PySem.F.plainAttrs_list PySem.F.slot_list_pop PySem.F.type_list_pop mt_popAt pe_c (pa_cons pe_c pa_nil hst2) hbase2 hfew2 hline2 hst2 hplain2) (jo1 H1 w1 _ fun v2 H2 w2 r2 => ?_)⟩
  have e2 : v2 = V.ref l1 := r2
  subst e2
  have w12 := w1.trans w2
  obtain ⟨vs2, g2, g2'⟩ := L1.mono w12 P1
  refine ⟨.inl ⟨rfl, _, SqL.of g2⟩, run_jir ji w12 fun r H3 w3 hr => ?_⟩
  have w13 := w12.trans w3
  obtain ⟨vs3, g3, g3'⟩ := L1.mono w13 P1
  obtain ⟨vs4, g4, g4'⟩ := L2'.mono w13 P2
  have hl3 := g3'.len
  obtain ⟨n, rfl⟩ : ∃ n : Nat, r = n := ⟨r.toNat, by omega⟩
  have hn : n < left.length := by omega
  have hd : left[n]? = some left[n] := List.getElem?_eq_getElem hn
  obtain ⟨u, hu1, hu2⟩ := g3'.at hd
  have hix : seqIndex? (n : Int) vs3.length = some n := by
    unfold seqIndex?
    simp only [hl3]
    split <;> simp_all <;> omega
  have b1 : Bs m.M H3 (upd H3 l1 (.lst (vs3.eraseIdx n))) := Bs.mut g3 m1
  have g4n : (upd H3 l1 (.lst (vs3.eraseIdx n))) l2 = some (.lst vs4) := (upd_ne (Ne.symm ne)).trans g4
  refine ⟨l1, vs3, n, n, u, rfl, rfl, g3, by omega, by omega, hix, hu1, l2, vs4, u, rfl, rfl, g4n, by rw [g4'.len]; exact small1000 hz, ?_⟩
  have b2 : Bs m.M (upd H3 l1 (.lst (vs3.eraseIdx n))) (upd (upd H3 l1 (.lst (vs3.eraseIdx n))) l2 (.lst (vs4 ++ [u]))) := Bs.mut g4n m2
  have wN := wm_mut (m := m) (wm_mut (m := m) (ys := vs3.eraseIdx n) w13 g3 P1) (ys := vs4 ++ [u]) g4n P2
  refine k n _ _ hd wN ((w13.bs.trans b1).trans b2) ((E.mono w13).bs (b1.trans b2)) ⟨vs3.eraseIdx n, (upd_ne ne).trans upd_same, (DrA.bs (b1.trans b2) _ _ g3').eraseIdx⟩ ⟨vs4 ++ [u], upd_same, (DrA.bs (b1.trans b2) _ _ g4').append (.one (Dr.bs (b1.trans b2) _ _ hu2))⟩
end
def PreM (ds : List PyData) : Prop := ∃ xs, ds = [.list xs] ∧ nolstA xs = true ∧ xs.length ≤ 100
def R_mixed (ds es : List PyData) : Prop := ∃ xs, ds = [.list xs] ∧ es.Perm xs
theorem cons_erase {α : Type} : ∀ (xs : List α) (n : Nat) (hn : n < xs.length), (xs[n] :: xs.eraseIdx n).Perm xs
  | x :: xs, 0, _ => List.Perm.refl _
  | x :: xs, n + 1, hn => by
    have hn' : n < xs.length := by simpa using hn
    have ih := cons_erase xs n hn'
    exact (List.Perm.swap x xs[n] (xs.eraseIdx n)).trans (ih.cons x)
theorem perm_pop {α : Type} {xs found : List α} {n : Nat} {d : α} (h : xs[n]? = some d) : (xs.eraseIdx n ++ (found ++ [d])).Perm (xs ++ found) := by
  obtain ⟨hn, rfl⟩ := List.getElem?_eq_some_iff.mp h
  have h1 : (xs[n] :: xs.eraseIdx n).Perm xs := cons_erase xs n hn
  refine List.Perm.trans ?_ (h1.append_right found)
  rw [← List.append_assoc, List.cons_append]
  exact List.perm_append_singleton xs[n] (xs.eraseIdx n ++ found)
section
variable {P : Program} {w : World} {K : PySem.W.Frag} {mg : Str → Option Value} {base : Heap}
theorem nolstA_erase : ∀ {xs : List PyData}, nolstA xs = true → ∀ n, nolstA (xs.eraseIdx n) = true
  | [], _, n => by simp [nolstA]
  | x :: xs, h, n => by
    obtain ⟨h1, h2⟩ := Bool.and_eq_true_iff.mp (show (nolst x && nolstA xs) = true from h)
    cases n with
    | zero => exact h2
    | succ n =>
      show (nolst x && nolstA (xs.eraseIdx n)) = true
      rw [h1, nolstA_erase h2 n] <;> rfl
theorem fo_mixed (T : Tx K mg) (Ld : Fo P w K mg base 2 "_law_draw" [] (spP K PreN R_draw)) (G : Gf K mg "_law_mixed" s_law_mixed []) : Fo P w K mg base 3 "_law_mixed" [] (spPL K PreM R_mixed) := by
  refine fo_ofPL G sc_law_mixed (fun ds h => by obtain ⟨_, rfl, _⟩ := h; rfl) (fun _ _ _ _ _ _ us hl => match us, hl with | [_, _], _ => rfl) ?_
  intro f cdv A outer s H vs Q E pa ds hr pw E0 hR hQ
  obtain ⟨xs, rfl, hnl, hlen⟩ := hR
  have E1 : En K (mdp pa).M H _ [some (.v (.ref pa)), some (.d (.list xs)), none, none, none] := E0
  refine s_newL2 2 3 pw E1 rfl (jl_list T.list (jd_var 1 E1)) (jl_lst jad_nil) hnl rfl sc_law_mixed.nd fun l1 l2 σ1 H1 hl1 hl2 ne hM1 hM2 w1 w2 E2 L1 L2' => ?_
  have q1 : l1 ∉ (((mdp pa).add l1).add l2).P := fun q => hM1 q
  have q2 : l2 ∉ (((mdp pa).add l1).add l2).P := fun q => hM2 q
  have m1 : l1 ∈ (((mdp pa).add l1).add l2).M := List.mem_cons_of_mem _ (List.mem_cons_self ..)
  have m2 : l2 ∈ (((mdp pa).add l1).add l2).M := List.mem_cons_self ..
  refine s_for (m := ((mdp pa).add l1).add l2) (n := xs.length) w2 PassesOwn.never rfl (sr_list (jd_var 1 E2)) (fun H2 i σ' H' => Wm (((mdp pa).add l1).add l2) H' H' ∧ Bs (((mdp pa).add l1).add l2).M H2 H' ∧ En K (((mdp pa).add l1).add l2).M H' σ' [some (.v (.ref pa)), some (.d (.list xs)), some (.v (.ref l1)), some (.v (.ref l2)), none] ∧ ∃ left found : List PyData, Lo K (((mdp pa).add l1).add l2).M H' l1 left ∧ Lo K (((mdp pa).add l1).add l2).M H' l2 found ∧ found.length = i ∧ left.length + i = xs.length ∧ (left ++ found).Perm xs) (fun H2 w3 => ⟨w3.rfl1, Bs.refl _ _, E2.mono w3, xs, [], L1.mono w3 q1, L2'.mono w3 q2, rfl, rfl, by rw [List.append_nil]⟩) (fun H2 i σ' H' _ h => h.2.1) (fun H2 i σ' H' H'' v w3 hi h k r => ?_) (fun H2 σ' H' w3 h => ?_)
  · obtain ⟨w4, b4, E4, left, found, La, Lb, hf, hl, hp⟩ := h
    have w5 := w4.same k
    refine (gt_name 4 sc_law_mixed.nd).run _ H'' σ' v _ (E4.mono w5) r fun σ3 E5 _ _ => ?_
    have E6 : En K (((mdp pa).add l1).add l2).M H'' σ3 [some (.v (.ref pa)), some (.d (.list xs)), some (.v (.ref l1)), some (.v (.ref l2)), some (.d (xs.getD i .none))] := E5
    have La' := La.mono w5 q1
    have Lb' := Lb.mono w5 q2
    refine s_popApp w5.rfl1 E6 m1 m2 q1 q2 ne La' Lb' (j_var 3 E6) (j_var 2 E6) (jir_draw Ld hr rfl (j_var 0 E6) (jir_of (j_lenO T.len q1 La' (j_var 2 E6))) fun n hn => by subst hn; exact ⟨by omega, by omega, fun r h1 h2 => ⟨h1, h2⟩⟩) (by omega) (by omega) fun n d H8 hd w8 b8 E8 La8 Lb8 => s_nil ⟨w8, (b4.trans (Bs.same k)).trans b8, E8.forget 4, _, _, La8, Lb8, by simp [hf], ?_, ?_⟩
    · have := (List.getElem?_eq_some_iff.mp hd).1
      rw [List.length_eraseIdx, if_pos this]
      omega
    · exact (perm_pop hd).trans hp
  · obtain ⟨w4, b4, E4, left, found, La, Lb, hf, hl, hp⟩ := h
    refine s_ret w4 (j_var 3 E4) fun v H5 w5 r => ?_
    have e1 : v = V.ref l2 := r
    subst e1
    obtain ⟨ws, g1, g2⟩ := Lb.mono w5 q2
    have e0 : left = [] := List.eq_nil_of_length_eq_zero (by omega)
    subst e0
    refine hQ l2 ws found H5 ⟨xs, rfl, by simpa using hp⟩ hl2 (fin_w (m0 := mdp pa) (m := ((mdp pa).add l1).add l2) rfl rfl w5.rfl1 (((w1.bs.less (M := (((mdp pa).add l1).add l2).M) (fun a ha q => List.mem_cons_of_mem _ (List.mem_cons_of_mem _ q))).trans w3.bs).trans (b4.trans w5.bs)) fun a ha q => ?_) g1 g2.to0
    rcases List.mem_cons.mp q with e | e
    · rw [e] at ha
      exact absurd hl2 ha
    · rcases List.mem_cons.mp e with e | e
      · rw [e] at ha
        exact absurd hl1 ha
      · exact e
def R_in (ds : List PyData) (d : PyData) : Prop := ∃ x lo hi, ds = [pt x, stD lo hi] ∧ (∀ l, lo = some l → l ≤ x) ∧ (∀ h, hi = some h → x ≤ h) ∧ d = .bool true
theorem fo_in (Ll : Fo P w K mg base 4 "is_less" [] (spD K R_below)) (G : Gf K mg "_law_in" s_law_in []) : Fo P w K mg base 5 "_law_in" [] (spD K R_in) := by
  refine fo_of G sc_law_in (fun ds d h => by obtain ⟨_, _, _, rfl, _⟩ := h; rfl) (fun _ _ _ _ _ _ us hl => match us, hl with | [_, _], _ => rfl) ?_
  intro f cdv A outer s H vs Q E ds d hr E0 hR hQ
  obtain ⟨x, lo, hi, rfl, hlo, hhi, rfl⟩ := hR
  have E1 : En K [] H _ [some (.d (pt x)), some (.d (.tuple [op lo, op hi]))] := E0
  have fin : ∀ H1, Wm md0 H H1 → cSs (cxOf CX0 P w K mg base ["_law_part", "_law_stretch"] "_law_in" (defScope s_law_in) f cdv A outer s H E).nox ((defBody s_law_in).drop 1) { nx := fun _ H' => Q .non H', rt := Q } (L2.start ["_law_part", "_law_stretch"] vs) H1 := fun H1 w1 => by
    have E2 := E1.mono (m := md0) w1
    cases hi with
    | none => exact s_ret w1.rfl1 (j_or (t := true) (u := true) (j_isN (j_ixT 1 (jd_var 1 E2) j_int)) (fun q => by cases q)) fun v H3 w3 r => hQ v H3 (w1.trans w3) r
    | some h =>
      have hh := hhi h rfl
      have E3 : En K [] H1 _ [some (.d (pt x)), some (.d (.tuple [op lo, pt h]))] := E2
      exact s_ret w1.rfl1 (j_or (t := false) (u := true) (j_isN (j_ixT 1 (jd_var 1 E3) j_int)) (fun _ => j_one (j_not (j_call Ll hr (jad_cons (j_ixT 1 (jd_var 1 E3) j_int) (jad_cons (jd_var 0 E3) jad_nil)) ⟨_, _, rfl, rfl⟩) (by rw [decide_eq_false (by omega)] <;> rfl)))) fun v H3 w3 r => hQ v H3 (w1.trans w3) r
  cases lo with
  | none => exact s_if0 (w_md0 H) (jt_w (jw_and (t := false) (u := true) (jt_notN (j_ixT 0 (jd_var 1 E1) j_int)) (fun q => by cases q))) fun H1 w1 => fin H1 w1
  | some l =>
    have hl := hlo l rfl
    have E2 : En K [] H _ [some (.d (pt x)), some (.d (.tuple [pt l, op hi]))] := E1
    exact s_if0 (w_md0 H) (jt_w (jw_and (t := true) (u := false) (jt_notN (j_ixT 0 (jd_var 1 E2) j_int)) (fun _ => jw_and1 (jt_val (j_call Ll hr (jad_cons (jd_var 0 E2) (jad_cons (j_ixT 0 (jd_var 1 E2) j_int) jad_nil)) ⟨_, _, rfl, by rw [decide_eq_false (by omega)]⟩))))) fun H1 w1 => fin H1 w1
end
end Gc
namespace Gc
open PySem PySem.Spec PyProof.Rows L2
def spC (K : PySem.W.Frag) : Sp := fun vs H Q _ => ∃ (a : Addr) (ns : List Int) (k : Nat), vs = [V.ref a, .int k] ∧ SqL K H a (ns.map V.int) ∧ ∀ i H', Same H H' → Q (.int i) H'
def spN : Sp := fun vs H Q _ => ∃ c : Int, vs = [V.int c] ∧ ∀ l H', H l = none → Same H H' → PenAt H' l → Q (.ref l) H'
theorem SqL.keep {K : PySem.W.Frag} {H H1 : Hp} {a : Addr} {xs : List V} (k : Same H H1) (h : SqL K H a xs) : SqL K H1 a xs := by
  rcases h with (h | ⟨o, h⟩) | h
  · exact .inl (.inl (k _ _ h))
  · exact .inl (.inr ⟨o, k _ _ h⟩)
  · exact .inr h
theorem SqL.wm {K : PySem.W.Frag} {m : Md} {H H1 : Hp} {a : Addr} {xs : List V} (w : Wm m H H1) (ha : a ∉ m.P) (h : SqL K H a xs) : SqL K H1 a xs := by
  rcases h with (h | ⟨o, h⟩) | h
  · exact .inl (.inl (w.keep _ _ h (.inl ha)))
  · exact .inl (.inr ⟨o, w.keep _ _ h (.inl ha)⟩)
  · exact .inr h
section
variable {m : Md} {X : Cx} {σ : L2.St} {H : Hp} {a b e : Expr} {pos p : Pos} {l : Addr} {ns : List Int} {i : Int}
theorem j_lenS {x : Str} (hm : X.mg x = none) (hP : l ∉ m.P) (S : SqL X.K H l (ns.map V.int)) (ja : J m X σ H e (.v (.ref l))) (hv : bootBuiltins x = some (.builtin "len") := by exact PySem.boot_len) (hg : Gl X x := by rfl) (hn : x ≠ "__name__" := by decide) (hdb : (x == ("__debug__" : Str)) = false := by decide)
    (he : starEach [e] X.env = (false, eval e X.env) :: starEach [] X.env := by rfl) (hpl : (backTo pos (starEach [] X.env)).any (·.1) = false := by rfl) : JD m X σ H (.Call (.Name x p) [e] [] pos) (.int (ns.length : Nat)) :=
  j_callB call_len_seq hm hv (ja_cons ja ja_nil he) (fun H1 w xs rx Q q => by
    obtain ⟨v, rfl, h⟩ := rx.one
    have e1 : v = V.ref l := h
    subst e1
    refine ⟨l, ns.map V.int, rfl, .inl (SqL.wm w hP S), ?_⟩
    rw [List.length_map]
    exact q _ H1 w.rfl1 (.int _)) hg hn hdb he hpl
theorem j_ixS {n : Nat} (hP : l ∉ m.P) (S : SqL X.K H l (ns.map V.int)) (hd : ns[n]? = some i) (ja : J m X σ H a (.v (.ref l))) (jb : JD m X σ H b (.int n)) (hs : PlainIx b := by exact fun _ _ => rfl) : JD m X σ H (.Subscript a b pos) (.int i) := fun H1 w Q q =>
  of_pe (pe_ix ix_list pe_c pe_c hs) (ja H1 w _ fun v H2 w2 r => jb H2 (w.trans w2) _ fun y H3 w3 ry => by
    have e1 : v = V.ref l := r
    subst e1
    cases ry
    exact ⟨l, ns.map V.int, n, .int i, rfl, rfl, SqL.wm ((w.trans w2).trans w3) hP S, at_of rfl (by rw [List.getElem?_map, hd] <;> rfl), q _ H3 (w2.trans w3) (.int i)⟩)
/-- script[a:b]: a new list -/
theorem j_slS {lo hi : Option Expr} {p2 : Pos} {lq hq : Option Int} (hP : l ∉ m.P) (S : SqL X.K H l (ns.map V.int)) (ja : J m X σ H a (.v (.ref l))) (jl : JO m X σ H lo lq) (jh : JO m X σ H hi hq) : JD m X σ H (.Subscript a (.Slice lo hi none p2) pos) (.list (cutD (ns.map PyData.int) lq hq)) := by
  obtain ⟨tl, q1, k1⟩ := jl
  obtain ⟨th, q2, k2⟩ := jh
  refine fun H1 w Q q => of_pe (pe_slice sl_list pe_c q1 q2) (ja H1 w _ fun v H2 w2 r => k1 H2 (w.trans w2) _ fun H3 w3 => k2 H3 ((w.trans w2).trans w3) _ fun H4 w4 => ?_)
  have e1 : v = V.ref l := r
  subst e1
  have w24 := (w2.trans w3).trans w4
  refine ⟨l, ns.map V.int, rfl, SqL.wm (w.trans w24) hP S, fun p hp => q _ _ (w24.trans (w24.rfl1.new hp)) (.lst upd_same (w24.rfl1.fresh hp) ?_)⟩
  exact (DrA.map_int (M := m.M) ns).cut _ _
end
section
variable {P : Program} {w : World} {K : PySem.W.Frag} {mg : Str → Option Value} {base : Heap} {C : Addr}
theorem fo_cell_at (T : Tx K mg) (G : Gf K mg "_law_cell_at" s_law_cell_at []) : Fo P w K mg base 1 "_law_cell_at" [] (spC K) := by
  obtain ⟨f, fd, F, hm⟩ := G.ex
  refine ⟨f, fd, ["_law_script", "_law_k"], [], F.ok sc_law_cell_at (fun vs H Q E h => ?_) (fun cdv A outer s H vs Q E hr h => ⟨_, PSs.nox pss_c, ?_⟩), hm, F.kp, F.bindsN (fun _ _ _ _ _ _ us hl => match us, hl with | [_, _], _ => rfl), .nil⟩
  · obtain ⟨a, ns, k, rfl, _⟩ := h
    rfl
  · obtain ⟨a, ns, k, rfl, hS, hQ⟩ := h
    have E1 : En K [] H (L2.start ["_law_script", "_law_k"] [V.ref a, .int k]) [some (.v (.ref a)), some (.d (.int k))] := en_start (N := ["_law_script", "_law_k"]) (is := [.v (.ref a), .d (.int k)]) (.cons rfl (.cons (.int k) .nil))
    have n0 : ∀ x : Addr, x ∉ md0.P := fun x q => by cases q
    by_cases hk : k < ns.length
    · exact s_if1 (w_md0 H) (jt_lt (jd_var 1 E1) (j_lenS T.len (n0 a) hS (j_var 0 E1)) (decide_eq_true (by omega))) fun H1 w1 => s_ret w1.rfl1 (j_ixS (n0 a) (SqL.wm w1 (n0 a) hS) (List.getElem?_eq_getElem hk) (j_var 0 (E1.mono (m := md0) w1)) (jd_var 1 (E1.mono (m := md0) w1))) fun v H2 w2 r => by
        cases r
        exact hQ _ H2 (w1.trans w2).old
    · exact s_if0 (w_md0 H) (jt_lt (jd_var 1 E1) (j_lenS T.len (n0 a) hS (j_var 0 E1)) (decide_eq_false (by omega))) fun H1 w1 => s_ret w1.rfl1 (j_int (i := 0)) fun v H2 w2 r => by
        cases r
        exact hQ _ H2 (w1.trans w2).old
theorem fo_pen_of (T : Tx K mg) (G : Gf K mg "_law_pen_of" s_law_pen_of []) : Fo P w K mg base 1 "_law_pen_of" [] spN := by
  obtain ⟨f, fd, F, hm⟩ := G.ex
  refine ⟨f, fd, ["_law_cell"], [], F.ok sc_law_pen_of (fun vs H Q E h => ?_) (fun cdv A outer s H vs Q E hr h => ⟨_, PSs.nox pss_c, ?_⟩), hm, F.kp, F.bindsN (fun _ _ _ _ _ _ us hl => match us, hl with | [_], _ => rfl), .nil⟩
  · obtain ⟨c, rfl, _⟩ := h
    rfl
  · obtain ⟨c, rfl, hQ⟩ := h
    have E1 : En K [] H (L2.start ["_law_cell", "_law_left"] [V.int c]) [some (.d (.int c)), none] := en_start (N := ["_law_cell", "_law_left"]) (is := [.d (.int c)]) (.cons (.int c) .nil)
    refine s_asg 1 (w_md0 H) E1 (j_max2 rfl T.max (jd_var 0 E1) (j_sub j_int (jd_var 0 E1))) sc_law_pen_of.nd fun σ1 H1 w1 E2 => ?_
    generalize (if 0 - c > c then 0 - c else c) = z at E2
    have E2' : En K [] H1 σ1 [some (.d (.int c)), some (.d (.int z))] := E2
    refine of_ps (ps_ret pe_c) (jl_lst (jad_cons (jd_var 1 E2') (jad_cons (j_intB T.int (j_ge (jd_var 1 E2') (j_pow j_int j_int ⟨by decide, by decide, by decide⟩))) (jad_cons (j_mod (jd_var 1 E2') j_int (by decide)) jad_nil))) rfl H1 w1.rfl1 _ fun l vs2 H2 hn w2 h2 r2 => ?_)
    refine hQ l H2 ?_ (w1.trans w2).old ⟨_, h2, ?_⟩
    · cases h : H l with
      | none => rfl
      | some o =>
        rw [w1.old l o h] at hn
        cases hn
    · cases r2 with
      | cons a1 r2 =>
        cases r2 with
        | cons a2 r2 =>
          cases r2 with
          | cons a3 r2 =>
            cases r2
            cases a1
            cases a2
            cases a3
            exact ⟨_, _, _, rfl⟩
def R_tell (s : PS) (past : List PS) (deed : PyData) (s2 : PS) (past2 : List PS) : Prop :=
  (∃ x : St3, deed = setD x ∧ R_sets s past [.int x.1, pt x.2.1, pt x.2.2] s2 past2 .none) ∨ (∃ x : Dd, deed = deedD x ∧ R_tells s past [pt x.1, .int x.2.a, .int x.2.b, op x.2.lo, op x.2.hi] s2 past2 (.int s.nx))
def spWF (K : PySem.W.Frag) (C : Addr) : Sp := fun vs H Q _ => ∃ a l s past v d s2 past2, vs = [V.ref a, v] ∧ PostAt K C H a l s past ∧ Dr K [] H v d ∧ nolst d = true ∧ R_tell s past d s2 past2 ∧ ∀ v H', Bs [a, l] H H' → PostAt K C H' a l s2 past2 → Q v H'
theorem nolst_set (x : St3) : nolst (setD x) = true := rfl
theorem nolst_deed (x : Dd) : nolst (deedD x) = true := by
  show (true && (true && (true && (nolst (op x.2.lo) && (nolst (op x.2.hi) && true))))) = true
  rw [nolst_op, nolst_op] <;> rfl
theorem fo_tell (T : Tx K mg) (X4 : Cx4 K C) (Ls : Me P w K mg base C 7 "sets" [] (spW K C R_sets)) (Lt : Me P w K mg base C 7 "tells" [] (spW K C R_tells)) (G : Gf K mg "_law_tell" s_law_tell []) : Fo P w K mg base 8 "_law_tell" [] (spWF K C) := by
  obtain ⟨f, fd, F, hm⟩ := G.ex
  refine ⟨f, fd, ["_law_post", "_law_deed"], [], F.ok sc_law_tell (fun vs H Q E h => ?_) (fun cdv A outer s H vs Q E hr h => ⟨_, PSs.nox pss_c, ?_⟩), hm, F.kp, F.bindsN (fun _ _ _ _ _ _ us hl => match us, hl with | [_, _], _ => rfl), .nil⟩
  · obtain ⟨a, l, s, past, v, d, s2, past2, rfl, _⟩ := h
    rfl
  · obtain ⟨a, l, z, past, v, d, z2, past2, rfl, hp, hd, hn, hR, hQ⟩ := h
    have E1 : En K (mdal a l).M H (L2.start ["_law_post", "_law_deed"] [V.ref a, v]) [some (.v (.ref a)), some (.d d)] := en_start (N := ["_law_post", "_law_deed"]) (is := [.v (.ref a), .d d]) (.cons rfl (.cons (Dr.free _ _ hn hd) .nil))
    rcases hR with ⟨x, rfl, hR⟩ | ⟨x, rfl, hR⟩
    · have E2 : En K (mdal a l).M H (L2.start ["_law_post", "_law_deed"] [V.ref a, v]) [some (.v (.ref a)), some (.d (.tuple [.int x.1, pt x.2.1, pt x.2.2]))] := E1
      refine s_if1 hp.wal (jt_eq (j_lenT T.len (jd_var 1 E2)) j_int) fun H1 w1 => ?_
      have E3 := E2.mono w1
      exact of_ps (ps_ret pe_c) (c_methW X4 Ls hr w1.rfl1 (nn_al _) (nn_al _) (hp.wm w1 (nn_al _) (nn_al _)) (j_var 0 E3) (jad_cons (j_ixT 0 (jd_var 1 E3) j_int) (jad_cons (j_ixT 1 (jd_var 1 E3) j_int) (jad_cons (j_ixT 2 (jd_var 1 E3) j_int) jad_nil))) rfl hR fun v H2 H3 w2 b3 hp3 r3 => hQ v H3 ((w1.trans w2).bs.trans b3) hp3)
    · have E2 : En K (mdal a l).M H (L2.start ["_law_post", "_law_deed"] [V.ref a, v]) [some (.v (.ref a)), some (.d (.tuple [pt x.1, .int x.2.a, .int x.2.b, op x.2.lo, op x.2.hi]))] := E1
      refine s_if0 hp.wal (jt_eq (j_lenT T.len (jd_var 1 E2)) j_int) fun H1 w1 => ?_
      have E3 := E2.mono w1
      have hnl : nolstA [pt x.1, .int x.2.a, .int x.2.b, op x.2.lo, op x.2.hi] = true := by
        show (true && (true && (true && (nolst (op x.2.lo) && (nolst (op x.2.hi) && true))))) = true
        rw [nolst_op, nolst_op] <;> rfl
      exact of_ps (ps_ret pe_c) (c_methW X4 Lt hr w1.rfl1 (nn_al _) (nn_al _) (hp.wm w1 (nn_al _) (nn_al _)) (j_var 0 E3) (jad_cons (j_ixT 0 (jd_var 1 E3) j_int) (jad_cons (j_ixT 1 (jd_var 1 E3) j_int) (jad_cons (j_ixT 2 (jd_var 1 E3) j_int) (jad_cons (j_ixT 3 (jd_var 1 E3) j_int) (jad_cons (j_ixT 4 (jd_var 1 E3) j_int) jad_nil))))) hnl hR fun v H2 H3 w2 b3 hp3 r3 => hQ v H3 ((w1.trans w2).bs.trans b3) hp3)
/-- _law_tell(post, deed), called -/
theorem c_tell {m : Md} {X : Cx} {σ : L2.St} {H : Hp} {e1 e2 : Expr} {pos p : Pos} {k' : Nat} {a l : Addr} {s s2 : PS} {past past2 : List PS} {d : PyData} {Q : VK} (L : Fo X.prog X.w X.K X.mg X.base 8 "_law_tell" [] (spWF X.K C)) (hr : Room k' X.A) (w : Wm m H H) (ha : a ∉ m.P) (hl : l ∉ m.P) (hp : PostAt X.K C H a l s past) (j1 : J m X σ H e1 (.v (.ref a))) (j2 : JD m X σ H e2 d) (hn : nolst d = true) (hR : R_tell s past d s2 past2)
    (q : ∀ v H1 H2, Wm m H H1 → Bs [a, l] H1 H2 → PostAt X.K C H2 a l s2 past2 → Q v H2) (hk : 8 ≤ k' := by decide) (hg : Gl X "_law_tell" := by rfl)
    (he : starEach [e1, e2] X.env = (false, eval e1 X.env) :: starEach [e2] X.env := by rfl) (he2 : starEach [e2] X.env = (false, eval e2 X.env) :: starEach [] X.env := by rfl) (hpl : (backTo pos (starEach [e2] X.env)).any (·.1) = false := by rfl) : cE X (.Call (.Name "_law_tell" p) [e1, e2] [] pos) σ H Q :=
  c_call L hr hk (ja_cons j1 (ja_cons j2 ja_nil he2) he H w _ fun vs H1 w1 r => by
    obtain ⟨v, u, rfl, r1, r2⟩ := r.two
    have e1 : v = V.ref a := r1
    subst e1
    exact ⟨a, l, s, past, u, d, s2, past2, rfl, hp.wm w1 ha hl, Dr.free _ _ hn r2, hn, hR, fun v H2 b2 hp2 => q v H1 H2 w1 b2 hp2⟩) hg (by decide) he hpl
end
end Gc
namespace Gc
open PySem PySem.Spec PyProof.Rows L2
def tsOf (s : PS) : List Tl := s.td.map (taken s.cl)
structure RrOk (s : PS) (row : List Int) : Prop where
  rok : RowOk row
  ps : PsOk s
  no : NoRing (tsOf s)
  gain : ∀ c, c < 6 → GainOk (clAt s.cl c).1 ∧ SetsOk (clAt s.cl c).2 ∧ (462 : Int) ∣ (clAt s.cl c).1
  lo : ∀ c, c < 6 → ∀ y, farD (tsOf s) 0 c = some y → -y ≤ rw0 row c
  hi : ∀ c, c < 6 → ∀ y, farD (tsOf s) c 0 = some y → rw0 row c ≤ y
def R_rr (s : PS) (ds : List PyData) (d : PyData) : Prop := ∃ row, ds = [rowD row] ∧ RrOk s row ∧ d = .bool true
theorem eqv_op (o : Option Int) : PyData.eqv (op o) (op o) = true := by
  cases o with
  | none => rfl
  | some z => show PyData.eqv (pt z) (pt z) = true; rw [eqv_pt]; simp
theorem eqv_st (lo hi : Option Int) : PyData.eqv (stD lo hi) (stD lo hi) = true := by
  unfold stD
  rw [eqv_tup, eqvAll_cons, eqvAll_cons, eqvAll_nil, eqv_op, eqv_op] <;> rfl
theorem mom3 {i : Nat} (hi : i < 3) : ∃ mo : Int, ([.tuple [.int 0, .int 1], .tuple [.int 5, .int 3], .tuple [.int 30, .int 1]] : List PyData).getD i .none = pt mo ∧ 0 ≤ mo ∧ mo ≤ 831600 ∧ (4620 : Int) ∣ mo := by
  have : i = 0 ∨ i = 1 ∨ i = 2 := by omega
  rcases this with rfl | rfl | rfl
  · exact ⟨0, (pt_lit (by decide +kernel) (by decide +kernel)).symm, by decide, by decide, by decide⟩
  · exact ⟨46200, (pt_lit (by decide +kernel) (by decide +kernel)).symm, by decide, by decide, by decide⟩
  · exact ⟨831600, (pt_lit (by decide +kernel) (by decide +kernel)).symm, by decide, by decide, by decide⟩
theorem pdd {mo : Int} (h : (4620 : Int) ∣ mo) {g : Int} (h2 : (462 : Int) ∣ g) : (27720 : Int) ∣ mo * g := dv_mul h h2
section
variable {m : Md} {X : Cx} {σ : L2.St} {H : Hp} {e : Expr} {es : List Expr} {pos p : Pos} {k k' : Nat} {x : Str} {d : PyData} {ds dds : List PyData} {R : List PyData → PyData → Prop} {dvs : List V}
theorem j_callD (G : Fo X.prog X.w X.K X.mg X.base k x dvs (spD X.K R)) (hr : Room k' X.A) (ja : JAd m X σ H (e :: es) ds) (hdv : ∀ H, DrA X.K [] H dvs dds) (hR : R (ds ++ dds) d) (hn : nolst d = true) (hk : k ≤ k' := by decide) (hg : Gl X x := by rfl) (hdb : (x == ("__debug__" : Str)) = false := by decide)
    (he : starEach (e :: es) X.env = (false, eval e X.env) :: starEach es X.env := by rfl) (hpl : (backTo pos (starEach es X.env)).any (·.1) = false := by rfl) : JD m X σ H (.Call (.Name x p) (e :: es) [] pos) d := fun H1 w Q q =>
  c_call G hr hk (ja H1 w _ fun vs H2 w2 r => ⟨ds ++ dds, d, r.data.to0.append (hdv H2), hR, fun v H3 kk r3 => q v H3 (w2.trans (w2.rfl1.same kk)) (Dr.free d v hn r3)⟩) hg hdb he hpl
end
section
variable {P : Program} {w : World} {K : PySem.W.Frag} {mg : Str → Option Value} {base : Heap} {C : Addr}
theorem fo_row_right (T : Tx K mg) (X4 : Cx4 K C) (Lst : Me P w K mg base C 7 "standing" [] (spG K C R_standing)) (Lag : Fo P w K mg base 7 "agree" [] (spD K R_together)) (Ldr : Fo P w K mg base 7 "drift" [] (spD K R_drift)) (Lcn : Me P w K mg base C 5 "clock_now" [] (spG K C R_clock_now)) (Lin : Fo P w K mg base 5 "_law_in" [] (spD K R_in)) (Lad : Fo P w K mg base 4 "added" [] (spD K R_plus)) (Ls2 : Me P w K mg base C 8 "stretch_at" [] (spG K C R_str_at)) (Ls1 : Me P w K mg base C 8 "stretch_at" [.non] (spG K C R_str_at)) (Lso : Fo P w K mg base 8 "stretch_of" [.int 0] (spD K R_stretch_of)) (G : Gf K mg "_law_row_right" s_law_row_right []) : Fo P w K mg base 9 "_law_row_right" [] (spG K C R_rr) := by
  obtain ⟨f, fd, F, hm⟩ := G.ex
  refine ⟨f, fd, ["_law_post", "_law_row_here"], [], F.ok sc_law_row_right (fun vs H Q E h => ?_) (fun cdv A outer s H vs Q E hr h => ⟨_, PSs.nox pss_c, ?_⟩), hm, F.kp, F.bindsN (fun _ _ _ _ _ _ us hl => match us, hl with | [_, _], _ => rfl), .nil⟩
  · obtain ⟨a, l, z, past, vs', ds, d, rfl, _, h1, ⟨row, rfl, _⟩, _⟩ := h
    rw [List.length_cons, h1.len] <;> rfl
  · obtain ⟨a, l, z, past, vs', ds, d, rfl, hp, h1, ⟨row, rfl, hrr, rfl⟩, h3⟩ := h
    have hQ : ∀ v H', Wm md0 H H' → Dr K [] H' v (.bool true) → Q v H' := fun v H' k r => h3 v H' k.old r
    have n0 : ∀ x : Addr, x ∉ md0.P := fun x q => by cases q
    obtain ⟨hrow, hps, hno, hgain, hlo, hhi⟩ := hrr
    have hcl6 := hps.cl
    have hts : TsOk (tsOf z) := hps.ts
    have hlen : z.td.length ≤ 16 := by have := hts.1; unfold tsOf at this; rw [List.length_map] at this; exact this
    have E1 : En K [] H (L2.start ["_law_post", "_law_row_here", "_law_standing", "_law_clock", "_law_moment", "_law_by", "_law_due", "_law_number", "_law_telling", "_law_end"] (V.ref a :: vs')) [some (.v (.ref a)), some (.d (rowD row)), none, none, none, none, none, none, none, none] := en_start (N := ["_law_post", "_law_row_here", "_law_standing", "_law_clock", "_law_moment", "_law_by", "_law_due", "_law_number", "_law_telling", "_law_end"]) (is := [.v (.ref a), .d (rowD row)]) (.cons rfl h1.items)
    refine s_asg 2 (w_md0 H) E1 (jd_is (j_tupleL T.tuple (j_comp [("_law_number", 7), ("_law_telling", 8)] E1 rfl sc_law_row_right.nd (blkOk_by (N := ["_law_post", "_law_row_here", "_law_standing", "_law_clock", "_law_moment", "_law_by", "_law_due", "_law_number", "_law_telling", "_law_end"]) (sc := defScope s_law_row_right) (by decide +kernel)) (sr_list (j_meth0 X4 Lst hr (n0 _) (n0 _) hp (j_var 0 E1) ⟨rfl, hps, rfl⟩ (.inr rfl))) (by rw [List.length_map]; omega) [7, 8] (fun i => [some (.v (.ref a)), some (.d (rowD row)), none, none, none, none, none, some (.d (.int (z.td.getD i ⟨0, 0, 0, 0, none, none⟩).n)), some (.d (tlD (taken z.cl (z.td.getD i ⟨0, 0, 0, 0, none, none⟩)))), none]) (by simp) (fun i hi s Hs C cL fp => ?_) (fun _ => true) (fun i hi m' hm s Hs C cL fp σ' H' w' E' => jts_nil) (fun i => tlD (taken z.cl (z.td.getD i ⟨0, 0, 0, 0, none, none⟩))) (fun i hi _ m' hm s Hs C cL fp σ' H' w' E' => jd_var 8 E'))) (d' := tsD (tsOf z)) ?_) sc_law_row_right.nd fun σ1 H1 w1 E2 => ?_
    · have hi' : i < z.td.length := by simpa using hi
      have e : (z.td.map fun t => (.tuple [.int t.n, tlD (taken z.cl t)] : PyData)).getD i .none = .tuple [.int (z.td.getD i ⟨0, 0, 0, 0, none, none⟩).n, tlD (taken z.cl (z.td.getD i ⟨0, 0, 0, 0, none, none⟩))] := by
        rw [getD_map _ hi', show z.td.getD i ⟨0, 0, 0, 0, none, none⟩ = z.td[i] by simp [List.getD, hi']]
      rw [e]
      exact gt_tup rfl (gts_cons (gt_name 7 sc_law_row_right.nd) (gts_cons (gt_name 8 sc_law_row_right.nd) gts_nil))
    · have h := range_filter_map (⟨0, 0, 0, 0, none, none⟩ : Told) (fun _ => true) (fun t => tlD (taken z.cl t)) z.td
      rw [List.length_map, h, List.filter_eq_self.mpr (fun _ _ => rfl)]
      unfold tsD tsOf
      rw [List.map_map]
      rfl
    have E2' : En K [] H1 σ1 [some (.v (.ref a)), some (.d (rowD row)), some (.d (tsD (tsOf z))), none, none, none, none, none, none, none] := E2
    have hp1 := hp.same w1.old
    refine s_if0 w1.rfl1 (jt_not (jt_val (j_call Lag hr (jad_cons (jd_var 2 E2') jad_nil) ⟨tsOf z, rfl, hts, hno, rfl⟩))) fun H2 w2 => ?_
    have E3 := E2'.mono (m := md0) w2
    refine s_for (n := ((6 : Int)).toNat) w2.rfl1 PassesOwn.never rfl (sr_range T.range j_int (by decide)) (fun H3 i σ' H' => Wm md0 H3 H' ∧ En K [] H' σ' [some (.v (.ref a)), some (.d (rowD row)), some (.d (tsD (tsOf z))), none, none, none, none, none, none, none]) (fun H3 w3 => ⟨w3.rfl1, E3.mono (m := md0) w3⟩) (fun H3 i σ' H' _ h => h.1.bs) (fun H3 c σ' H' H'' v w3 hc h k r => ?_) (fun H3 σ' H' w3 h => ?_)
    · obtain ⟨w4, E4⟩ := h
      have hc6 : c < 6 := by simpa using hc
      have w5 := w4.rfl1.same k
      have hp5 := hp1.same ((((w2.trans w3).trans w4).trans w5).old)
      obtain ⟨hg1, hg2, hg3⟩ := hgain c hc6
      refine (gt_name 3 sc_law_row_right.nd).run [] H'' σ' v _ (E4.mono (m := md0) w5) r fun σ5 E5 _ _ => ?_
      have E5' : En K [] H'' σ5 [some (.v (.ref a)), some (.d (rowD row)), some (.d (tsD (tsOf z))), some (.d (.int c)), none, none, none, none, none, none] := E5
      refine s_for (n := 3) (w_md0 H'') PassesOwn.never rfl (sr_list (j_lst (jad_cons (j_tup (jad_cons j_int (jad_cons j_int jad_nil))) (jad_cons (j_tup (jad_cons j_int (jad_cons j_int jad_nil))) (jad_cons (j_tup (jad_cons j_int (jad_cons j_int jad_nil))) jad_nil))))) (fun H3 i σ' H' => Wm md0 H3 H' ∧ En K [] H' σ' [some (.v (.ref a)), some (.d (rowD row)), some (.d (tsD (tsOf z))), some (.d (.int c)), none, none, none, none, none, none]) (fun H3 w3 => ⟨w3.rfl1, E5'.mono (m := md0) w3⟩) (fun H3 i σ' H' _ h => h.1.bs) (fun H6 i σ' H7 H8 v w6 hi h k r => ?_) (fun H6 σ' H7 w6 h => ?_)
      · obtain ⟨w7, E7⟩ := h
        obtain ⟨mo, em, hm0, hm1, hmd⟩ := mom3 hi
        rw [em] at r
        have w8 := w7.rfl1.same k
        refine (gt_name 4 sc_law_row_right.nd).run [] H8 σ' v _ (E7.mono (m := md0) w8) r fun σ9 E9 _ _ => ?_
        have E9' : En K [] H8 σ9 [some (.v (.ref a)), some (.d (rowD row)), some (.d (tsD (tsOf z))), some (.d (.int c)), some (.d (pt mo)), none, none, none, none, none] := E9
        have hp8 := hp5.same (((w6.trans w7).trans w8).old)
        refine s_asg 5 (w_md0 H8) E9' (j_call Ldr hr (jad_cons (j_meth X4 Lcn hr (n0 _) (n0 _) hp8 (j_var 0 E9') (jad_cons (jd_var 3 E9') jad_nil) ⟨c, rfl, hc6, hcl6, rfl⟩ (.inr rfl)) (jad_cons (jd_var 4 E9') jad_nil)) ⟨_, _, mo, rfl, hg1, hg2, hm0, by omega, pdd hmd hg3, rfl⟩) sc_law_row_right.nd fun σ10 H10 w10 E10 => ?_
        have E10' : En K [] H10 σ10 [some (.v (.ref a)), some (.d (.tuple (row.map pt))), some (.d (tsD (tsOf z))), some (.d (.int c)), some (.d (pt mo)), some (.d (pt (drC z.cl c mo))), none, none, none, none] := E10
        have hp10 := hp8.same w10.old
        refine s_if0 w10.rfl1 (jt_not (jt_val (j_call Lin hr (jad_cons (j_call Lad hr (jad_cons (j_ixT c (jd_var 1 E10') (jd_var 3 E10') rfl (row_at hrow hc6)) (jad_cons (jd_var 5 E10') jad_nil)) ⟨_, _, rfl, rfl⟩) (jad_cons (j_meth X4 Ls2 hr (n0 _) (n0 _) hp10 (j_var 0 E10') (jad_cons (jd_var 3 E10') (jad_cons (jd_var 4 E10') jad_nil)) ⟨c, some mo, rfl, hm0, ⟨hps, hc6, by show mo.natAbs < _; omega, pdd hmd hg3⟩, rfl⟩ (.inr rfl)) jad_nil)) ⟨_, _, _, rfl, fun l el => ?_, fun h eh => ?_, rfl⟩))) fun H11 w11 => s_nil ⟨(((w7.trans w8).trans w10).trans w11), ((E10'.mono (m := md0) w11).forget 4).forget 5⟩
        · obtain ⟨y, ey, rfl⟩ := Option.map_eq_some_iff.mp el
          have := hlo c hc6 y ey
          show -y + drC z.cl c mo ≤ rw0 row c + drC z.cl c mo
          omega
        · obtain ⟨y, ey, rfl⟩ := Option.map_eq_some_iff.mp eh
          have := hhi c hc6 y ey
          show rw0 row c + drC z.cl c mo ≤ y + drC z.cl c mo
          omega
      · obtain ⟨w7, E7⟩ := h
        have hp7 := hp5.same ((w6.trans w7).old)
        have p0 : (.tuple [.int 0, .int 1] : PyData) = pt 0 := lit01
        refine s_asg 5 (w_md0 H7) E7 (j_call Ldr hr (jad_cons (j_meth X4 Lcn hr (n0 _) (n0 _) hp7 (j_var 0 E7) (jad_cons (jd_var 3 E7) jad_nil) ⟨c, rfl, hc6, hcl6, rfl⟩ (.inr rfl)) (jad_cons (jd_is (j_tup (jad_cons j_int (jad_cons j_int jad_nil))) p0) jad_nil)) ⟨_, _, 0, rfl, hg1, hg2, by decide, by decide, by rw [Int.zero_mul]; exact Int.dvd_zero _, rfl⟩) sc_law_row_right.nd fun σ10 H10 w10 E10 => ?_
        generalize ey : dr (clAt z.cl c).1 (clAt z.cl c).2 0 = y at E10
        have E10' : En K [] H10 σ10 [some (.v (.ref a)), some (.d (rowD row)), some (.d (tsD (tsOf z))), some (.d (.int c)), none, some (.d (pt y)), none, none, none, none] := E10
        generalize elo : (farD (tsOf z) 0 c).map (- ·) = lo
        generalize ehi : farD (tsOf z) c 0 = hi
        refine s_asg 6 w10.rfl1 E10' (jd_is (j_tupleL T.tuple (j_comp [("_law_end", 9)] E10' rfl sc_law_row_right.nd (blkOk_by (N := ["_law_post", "_law_row_here", "_law_standing", "_law_clock", "_law_moment", "_law_by", "_law_due", "_law_number", "_law_telling", "_law_end"]) (sc := defScope s_law_row_right) (by decide +kernel)) (sr_tup (j_callD (d := .tuple [op lo, op hi]) Lso hr (jad_cons (jd_var 2 E10') (jad_cons (jd_var 3 E10') jad_nil)) (fun _ => .cons (.int 0) .nil) ⟨tsOf z, c, 0, rfl, hts, hno, hc6, by decide, by rw [elo, ehi] <;> rfl⟩ (nolst_st lo hi))) (by simp) [9] (fun k => [some (.v (.ref a)), some (.d (rowD row)), some (.d (tsD (tsOf z))), some (.d (.int c)), none, some (.d (pt y)), none, none, none, some (.d (op (if k = 0 then lo else hi)))]) (by simp) (fun k hk s Hs C cL fp => ?_) (fun _ => true) (fun k hk m' hm s Hs C cL fp σ' H' w' E' => jts_nil) (fun k => op ((if k = 0 then lo else hi).map (· + y))) (fun k hk _ m' hm s Hs C cL fp σ' H' w' E' => ?_))) (d' := stD (lo.map (· + y)) (hi.map (· + y))) rfl) sc_law_row_right.nd fun σ11 H11 w11 E11 => ?_
        · have hk2 : k = 0 ∨ k = 1 := by
            have : k < 2 := hk
            omega
          rcases hk2 with rfl | rfl <;> exact gt_name 9 sc_law_row_right.nd
        · generalize (if k = 0 then lo else hi) = o at E' ⊢
          cases o with
          | none => exact j_ifT (jt_isN (jd_var 9 E')) j_non
          | some u =>
            have E'' : En K m'.M H' σ' [some (.v (.ref a)), some (.d (rowD row)), some (.d (tsD (tsOf z))), some (.d (.int c)), none, some (.d (pt y)), none, none, none, some (.d (pt u))] := E'
            exact j_ifF (jt_isN (jd_var 9 E'')) (j_call Lad hr (jad_cons (jd_var 9 E'') (jad_cons (jd_var 5 E'') jad_nil)) ⟨_, _, rfl, rfl⟩)
        · have E11' : En K [] H11 σ11 [some (.v (.ref a)), some (.d (rowD row)), some (.d (tsD (tsOf z))), some (.d (.int c)), none, some (.d (pt y)), some (.d (stD (lo.map (· + y)) (hi.map (· + y)))), none, none, none] := E11
          have hp11 := hp7.same ((w10.trans w11).old)
          have es : strD z c 0 = stD (lo.map (· + y)) (hi.map (· + y)) := by
            unfold strD
            rw [← elo, ← ehi, Option.map_map, ← ey]
            rfl
          refine s_if0 w11.rfl1 (jt_neD hr (j_methD X4 Ls1 hr (n0 _) (n0 _) hp11 (j_var 0 E11') (jad_cons (jd_var 3 E11') jad_nil) (fun _ => .cons .non .nil) ⟨c, none, rfl, by decide, ⟨hps, hc6, by decide, by show (27720 : Int) ∣ 0 * _; rw [Int.zero_mul]; exact Int.dvd_zero _⟩, es.symm⟩ (.inr rfl)) (jd_var 6 E11') ((sh_st _ _).shaped (by decide)) ((sh_st _ _).shaped (by decide)) (by rw [eqv_st] <;> rfl)) fun H12 w12 => s_nil ⟨(((((w4.trans w5).trans w6).trans w7).trans w10).trans w11).trans w12, (((E11'.mono (m := md0) w12).forget 3).forget 5).forget 6⟩
    · obtain ⟨w4, E4⟩ := h
      exact s_ret w4.rfl1 j_bl fun v H5 w5 r => hQ v H5 ((((w1.trans w2).trans w3).trans w4).trans w5) r
end
end Gc
namespace Gc
open PySem PySem.Spec PyProof.Rows L2
/-! ## texts: order, signs -/
theorem lt_eq : ∀ {a b : List Nat}, ltCps a b = false → ltCps b a = false → a = b
  | [], [], _, _ => rfl
  | [], _ :: _, h, _ => by simp [ltCps] at h
  | _ :: _, [], _, h => by simp [ltCps] at h
  | x :: r, y :: t, h1, h2 => by
    simp only [ltCps, Bool.or_eq_false_iff, decide_eq_false_iff_not, Bool.and_eq_false_iff, beq_eq_false_iff_ne] at h1 h2
    have e : x = y := by omega
    subst e
    have h3 : ltCps r t = false := h1.2.resolve_left (by simp)
    have h4 : ltCps t r = false := h2.2.resolve_left (by simp)
    rw [lt_eq h3 h4]
theorem le_trans' : ∀ {x y z : List Nat}, ltCps y x = false → ltCps z y = false → ltCps z x = false
  | [], _, [], _, _ => rfl
  | [], _, _ :: _, _, _ => by simp [ltCps]
  | _ :: _, [], _, h, _ => by simp [ltCps] at h
  | _ :: _, _ :: _, [], _, h => by simp [ltCps] at h
  | a :: x, b :: y, c :: z, h1, h2 => by
    simp only [ltCps, Bool.or_eq_false_iff, decide_eq_false_iff_not, Bool.and_eq_false_iff, beq_eq_false_iff_ne] at h1 h2 ⊢
    refine ⟨by omega, ?_⟩
    by_cases e : c = a
    · subst e
      have e2 : b = c := by omega
      subst e2
      exact .inr (le_trans' (h1.2.resolve_left (by simp)) (h2.2.resolve_left (by simp)))
    · exact .inl e
def leS (x y : Str) : Prop := ltCps y.cps.toList x.cps.toList = false
theorem rising_all : ∀ {l : List Str} {p : Str}, risingS p l = true → (∀ y ∈ l, leS p y) ∧ l.Pairwise leS
  | [], p, _ => ⟨by simp, .nil⟩
  | x :: r, p, h => by
    obtain ⟨h1, h2⟩ := Bool.and_eq_true_iff.mp (show (!ltCps x.cps.toList p.cps.toList && risingS x r) = true from h)
    have hp : leS p x := by simpa [leS] using h1
    obtain ⟨h3, h4⟩ := rising_all h2
    refine ⟨fun y hy => ?_, List.Pairwise.cons h3 h4⟩
    rcases List.mem_cons.mp hy with rfl | hy
    · exact hp
    · exact le_trans' hp (h3 y hy)
theorem sorted_pw {l : List Str} (h : sortedS l = true) : l.Pairwise leS := by
  cases l with
  | nil => exact .nil
  | cons x r => exact List.Pairwise.cons (rising_all h).1 (rising_all h).2
theorem sorted_uniq {l m : List Str} (hl : sortedS l = true) (hm : sortedS m = true) (p : l.Perm m) : l = m :=
  List.Perm.eq_of_pairwise (le := leS) (fun a b _ _ h1 h2 => by
    have e := lt_eq h2 h1
    obtain ⟨⟨a⟩⟩ := a
    obtain ⟨⟨b⟩⟩ := b
    have e' : a = b := e
    rw [e']) (sorted_pw hl) (sorted_pw hm) p
theorem ok_of (s : String) : PyData.strOk (Str.ofString s) = true := by
  rw [Str.ofString_eq_toList]
  unfold PyData.strOk
  rw [Array.all_eq_true']
  intro x hx
  have hx' : x ∈ s.toList.map Char.toNat := by simpa using hx
  obtain ⟨c, _, rfl⟩ := List.mem_map.mp hx'
  have := c.valid
  have h2 : c.toNat < 0x110000 := by
    rcases this with h | ⟨_, h⟩
    · exact Nat.lt_of_lt_of_le h (by decide)
    · exact h
  simpa using h2
theorem ok_app {a b : Str} (ha : PyData.strOk a = true) (hb : PyData.strOk b = true) : PyData.strOk (a ++ b) = true := by
  show (a.cps ++ b.cps).all _ = true
  unfold PyData.strOk at ha hb
  rw [Array.all_append, ha, hb] <;> rfl
theorem ok_join : ∀ {ts : List Str}, (∀ t ∈ ts, PyData.strOk t = true) → PyData.strOk (Str.join ", " ts) = true
  | [], _ => by
    simp only [Str.join]
    exact ok_of ""
  | [x], h => h x (by simp)
  | x :: y :: r, h => by
    show PyData.strOk (x ++ ((", " : String) : Str) ++ Str.join ", " (y :: r)) = true
    exact ok_app (ok_app (h x (by simp)) (ok_of _)) (ok_join fun t ht => h t (List.mem_cons_of_mem _ ht))
theorem ok_tup {ts : List Str} (h : ∀ t ∈ ts, PyData.strOk t = true) : PyData.strOk (tupleText ts) = true := by
  unfold tupleText
  exact ok_app (ok_app (ok_of _) (ok_join h)) (ok_of _)
theorem ok_int (i : Int) : PyData.strOk (PyData.shown (.int i)) = true := ok_of _
theorem ok_pt (z : Int) : PyData.strOk (PyData.shown (pt z)) = true := ok_tup (ts := [_, _]) fun t ht => by
  simp only [List.mem_cons, List.not_mem_nil, or_false] at ht
  rcases ht with rfl | rfl <;> exact ok_int _
theorem ok_op (o : Option Int) : PyData.strOk (PyData.shown (op o)) = true := by
  cases o with
  | none => exact ok_of _
  | some z => exact ok_pt z
theorem ok_tl (t : Tl) : PyData.strOk (PyData.shown (tlD t)) = true := ok_tup (ts := [_, _, _, _]) fun u hu => by
  simp only [List.mem_cons, List.not_mem_nil, or_false] at hu
  rcases hu with rfl | rfl | rfl | rfl <;> first | exact ok_int _ | exact ok_op _
theorem short_int {i : Int} (h : i.natAbs < 2 ^ 39) : (PyData.shown (.int i)).length ≤ 13 := by
  show (Str.ofString (toString i)).length ≤ 13
  by_cases h0 : 0 ≤ i
  · have := toString_length_le (v := i) h0 (k := 12) (by decide) (by omega)
    omega
  · obtain ⟨m, rfl⟩ : ∃ m, i = Int.negSucc m := by
      cases i with
      | ofNat n => exact absurd (Int.natCast_nonneg n) h0
      | negSucc m => exact ⟨m, rfl⟩
    have e : toString (Int.negSucc m) = "-" ++ toString ((m + 1 : Nat) : Int) := rfl
    have h1 := toString_length_le (v := ((m + 1 : Nat) : Int)) (by omega) (k := 12) (by decide) (by
      have : (Int.negSucc m).natAbs = m + 1 := rfl
      omega)
    rw [PySem.ofString_length] at h1 ⊢
    rw [e, String.length_append]
    have : ("-" : String).length = 1 := by decide
    omega
/-- how small a telling's numbers are -/
def TlSm (t : Tl) : Prop := t.a < 6 ∧ t.b < 6 ∧ (∀ l, t.lo = some l → l.natAbs < 2 ^ 39) ∧ ∀ h, t.hi = some h → h.natAbs < 2 ^ 39
theorem log_sm {n : Nat} (h : n < 2 ^ 39) : n.log2 < 39 := by
  by_cases h0 : n = 0
  · subst h0
    decide
  · exact (Nat.log2_lt h0).mpr h
def iSm (i : Int) : Prop := i.natAbs < 2 ^ 39
structure Fit (d : PyData) (k : Nat) : Prop where
  sho : d.showable = true
  sh : d.intsShort 13 = true
  w : d.weight ≤ k
theorem fit_int {i : Int} (h : iSm i) : Fit (.int i) 40 := by
  have h2 := log_sm h
  refine ⟨?_, ?_, ?_⟩
  · show decide (i.natAbs.log2 < 1920) = true
    exact decide_eq_true (by omega)
  · show decide ((PyData.shown (.int i)).length ≤ 13) = true
    exact decide_eq_true (short_int h)
  · show (if i == 0 then 0 else i.natAbs.log2 + 1) ≤ 40
    split <;> omega
theorem fit_pt {z : Int} (h : iSm z) : Fit (pt z) 90 := by
  have f1 := fit_int (i := ptop z) (Nat.lt_of_le_of_lt (pt_abs z) h)
  have f2 := fit_int (i := pbot z) (by
    have h1 := pbot_pos z
    have h2 := pbot_le z
    unfold iSm
    omega)
  refine ⟨?_, ?_, ?_⟩
  · show (PyData.showable (.int (ptop z)) && (PyData.showable (.int (pbot z)) && true)) = true
    rw [f1.sho, f2.sho] <;> rfl
  · show (PyData.intsShort 13 (.int (ptop z)) && (PyData.intsShort 13 (.int (pbot z)) && true)) = true
    rw [f1.sh, f2.sh] <;> rfl
  · show PyData.weight (.int (ptop z)) + 1 + (PyData.weight (.int (pbot z)) + 1 + 0) ≤ 90
    have := f1.w
    have := f2.w
    omega
theorem fit_op {o : Option Int} (h : ∀ z, o = some z → z.natAbs < 2 ^ 39) : Fit (op o) 90 := by
  cases o with
  | none => exact ⟨rfl, rfl, by decide⟩
  | some z => exact fit_pt (h z rfl)
theorem fit_tl {t : Tl} (h : TlSm t) : Fit (tlD t) 400 := by
  obtain ⟨h1, h2, h3, h4⟩ := h
  have f1 := fit_int (i := (t.a : Int)) (by unfold iSm; omega)
  have f2 := fit_int (i := (t.b : Int)) (by unfold iSm; omega)
  have f3 := fit_op h3
  have f4 := fit_op h4
  refine ⟨?_, ?_, ?_⟩
  · show (PyData.showable (.int t.a) && (PyData.showable (.int t.b) && (PyData.showable (op t.lo) && (PyData.showable (op t.hi) && true)))) = true
    rw [f1.sho, f2.sho, f3.sho, f4.sho] <;> rfl
  · show (PyData.intsShort 13 (.int t.a) && (PyData.intsShort 13 (.int t.b) && (PyData.intsShort 13 (op t.lo) && (PyData.intsShort 13 (op t.hi) && true)))) = true
    rw [f1.sh, f2.sh, f3.sh, f4.sh] <;> rfl
  · show PyData.weight (.int t.a) + 1 + (PyData.weight (.int t.b) + 1 + (PyData.weight (op t.lo) + 1 + (PyData.weight (op t.hi) + 1 + 0))) ≤ 400
    have := f1.w
    have := f2.w
    have := f3.w
    have := f4.w
    omega
theorem sh_tl (t : Tl) : Sh 2 (tlD t) := .tup fun x hx => by
  simp only [List.mem_cons, List.not_mem_nil, or_false] at hx
  rcases hx with rfl | rfl | rfl | rfl <;> first | exact .int _ _ | exact sh_op _
theorem len_tl {t : Tl} (h : TlSm t) : (PyData.shown (tlD t)).length ≤ sizeLine := by
  have f := fit_tl h
  have h1 := PyData.shown_le 13 (by decide) _ (PyData.leavesShort_of_canLay0 13 _ (Sh.ok _ _ (sh_tl t)).1 f.sh)
  have h2 := f.w
  have h3 := sizeLine_eq
  omega
/-! ## defs that know that no repr is under way -/
structure FnG (P : Program) (w : World) (K : PySem.W.Frag) (mg : Str → Option Value) (base : Heap) (k : Nat) (f : Addr) (fd : FuncData) (ps : List Str) (sp : Sp) : Prop where
  len : ∀ vs H Q E, sp vs H Q E → vs.length = ps.length
  run : ∀ (A : Around) (outer : List Env) (s : Shared) (H : Hp) (args : Args) (us : List Value) (vs : List V) (Q : VK) (E : XK), Room k A → A.guards = some [] → Env0 P w K mg base A outer s H → BindsTo s fd args (ps.zip us) → Vals vs us → sp vs H Q E →
    codeAny (model P w) A (.call (.ref f) args) (CR CX0 outer P w H s Q E) s
structure FoG (P : Program) (w : World) (K : PySem.W.Frag) (mg : Str → Option Value) (base : Heap) (k : Nat) (x : Str) (sp : Sp) : Prop where
  ex : ∃ (f : Addr) (fd : FuncData) (ps : List Str), FnG P w K mg base k f fd ps sp ∧ mg x = some (.ref f) ∧ PySem.W.keepIn K (.ref f) = true ∧ Binds K fd ps []
section
variable {P : Program} {w : World} {K : PySem.W.Frag} {mg : Str → Option Value} {base : Heap}
theorem fn_g {x qual : Str} {params : Arguments} {body : List Stmt} {scope : Scope} {dvs : List V} {kws : List (Str × V)} {f : Addr} {fd : FuncData} {N ps : List Str} {k : Nat} {sp : Sp} (F : FunD K x qual params body scope dvs kws f fd) (S : FnScope N ps scope) (len : ∀ vs H Q E, sp vs H Q E → vs.length = ps.length)
    (hb : ∀ (cdv : Value) (A : Around) (outer : List Env) (s : Shared) (H : Hp) (vs : List V) (Q : VK) (E : XK), Room k (A.deeper (envOfC qual scope s.heap.objs.size f cdv)) → A.guards = some [] → sp vs H Q E →
      cSs (cxOf CX0 P w K mg base N qual scope f cdv A outer s H E).nox body { nx := fun _ H' => Q .non H', rt := Q } (L2.start N vs) H) : FnG P w K mg base (k + 1) f fd ps sp := by
  obtain ⟨oc, od, dV, kV, doc, pm, an, cdv, ct, osl, rfl, lk, hcd, _, _⟩ := F.ex
  refine ⟨len, fun A outer st H args us vs Q E hr hgd ev hbd rv hsp => ?_⟩
  have hlen := len _ _ _ _ hsp
  have kin : K.In st.heap := ev.mod.kin.keeps fun b o e => (ev.bs b o e).1
  have nol : st.heap.NoLimit := ev.mod.nolimit.keeps fun b o e => (ev.bs b o e).1
  have kinds : ∀ y ∈ ps.zip us, scope.names.lookup y.1 = some .local ∨ (scope.names.lookup y.1 = some .cell ∧ ((cellsFrom (st.heap.objs.size + 1) scope.names []).lookup y.1).isSome = true) := by
    rintro ⟨n, v⟩ hy
    rcases S.par n (List.of_mem_zip hy).1 with q | q
    · exact .inl q
    · exact .inr ⟨q, PySem.W.cellsFrom_some _ _ _ (.inl q)⟩
  refine codeAny_call_function hr.depth (kin _ _ lk) rfl S.co S.gen rfl (PySem.W.codeRec_of kin hcd) (hbd _ _ _ _ ?_)
  refine wpAny_newFunctionEnv_cells S.kind kinds fun en hen st1 xx => ?_
  subst hen
  refine ⟨nol.keeps xx.toInCall.keep, codeAny_func ?_⟩
  have J : Inv (cxOf CX0 P w K mg base N qual scope f cdv A outer st H E) [] (L2.start N vs) H st1 := inv_start S hr.hd ev hlen rv xx
  have ht := (PSs.nox (pss_c (X := (cxOf CX0 P w K mg base N qual scope f cdv A outer st H E).nox) (sts := body)))
  refine wpAny_mono (ht.run [] st1 (L2.start N vs) H _ J (hb cdv A outer st H vs Q E (hr.deeper _) hgd hsp)) (fun fl s' hs => ?_) fun e s' hs => hs
  have fin : ∀ {σ' : L2.St} {H' : Hp} {v : V} {u : Value}, Inv (cxOf CX0 P w K mg base N qual scope f cdv A outer st H E) [] σ' H' s' → RelV v u → Q v H' → CE outer P w H st Q u s' := by
    intro σ' H' v u I1 r1 q1
    exact ⟨v, H', I1.os, I1.bare, I1.base, I1.hok, r1, q1⟩
  cases fl with
  | ret u => exact let ⟨v, σ', H', I1, r1, q1⟩ := hs; fin I1 r1 q1
  | next => exact let ⟨σ', H', I1, q1⟩ := hs; fin (v := V.non) (u := Value.none) I1 rfl q1
  | brk => exact let ⟨_, _, _, q1⟩ := hs; False.elim q1
  | cont => exact let ⟨_, _, _, q1⟩ := hs; False.elim q1
end
section
variable {m : Md} {X : Cx} {σ : L2.St} {H : Hp} {e : Expr} {es : List Expr} {pos p : Pos} {k k' : Nat} {x : Str} {sp : Sp} {Q : VK}
theorem c_callG (G : FoG X.prog X.w X.K X.mg X.base k x sp) (hgd : X.A.guards = some []) (hr : Room k' X.A) (hk : k ≤ k') (q : cA X (e :: es) σ H fun vs H1 => sp vs H1 Q E0) (hg : Gl X x := by rfl) (hdb : (x == ("__debug__" : Str)) = false := by decide)
    (he : starEach (e :: es) X.env = (false, eval e X.env) :: starEach es X.env := by rfl) (hpl : (backTo pos (starEach es X.env)).any (·.1) = false := by rfl) : cE X (.Call (.Name x p) (e :: es) [] pos) σ H Q := fun pins s I => by
  obtain ⟨f, fd, ps, F, hm, hkp, hb⟩ := G.ex
  refine wpAny_Call_Name_kw (ld_glob I hg hm ?_ hdb)
  refine PySem.W.callWith_K (h₀ := X.base) I.ok.mod.kin hkp (thn (q pos pins s I) fun us s1 ⟨vs, H1, I1, rv, hsp⟩ => ⟨I1.kIn, ?_⟩) he hpl
  have hl : us.length = ps.length := by rw [← rv.length]; exact F.len _ _ _ _ hsp
  have hb' := hb s1 us I1.kIn (by rw [List.append_nil]; exact hl)
  rw [List.append_nil] at hb'
  refine wpAny_call (codeAny_mono (F.run X.A X.stack s1 H1 ⟨us, []⟩ us vs Q E0 (hr.mono hk) hgd I1.env0 hb' rv hsp) fun r s' hq => ?_)
  cases r with
  | error e => exact pass0 pins σ H1 s1 e s' I1 hq
  | ok fl =>
    cases fl with
    | ret u => exact I1.after hq
    | next => exact False.elim hq
    | brk => exact False.elim hq
    | cont => exact False.elim hq
/-- str(t) of a tuple -/
theorem call_strT (hgd : X.A.guards = some []) (hu : X.A.units + 64 < cLine) : CallR X (.type "str") (fun xs H Q => ∃ v ds, xs = [v] ∧ Dp X.K H v (.tuple ds) ∧ (PyData.tuple ds).showable = true ∧ (PyData.tuple ds).hasDict = false ∧ (PyData.tuple ds).depth ≤ 40 ∧ (PyData.shown (.tuple ds)).length ≤ sizeLine ∧ Q (.str (PyData.shown (.tuple ds))) H) := by
  intro pins s σ H xs us Q I r h
  obtain ⟨v, ds, rfl, hd, h1, h2, h3, h4, q⟩ := h
  obtain ⟨u, rfl, ru⟩ := vals1 r
  obtain ⟨as, rd⟩ := Dp.reads I _ _ _ hd ru
  have hv : ∃ a, v = V.ref a := by
    cases hd
    exact ⟨_, rfl⟩
  obtain ⟨a, rfl⟩ := hv
  obtain rfl : u = Value.ref a := ru
  exact PySem.str_of_reads (h₀ := s.heap) rd h1 (fun q => by rw [h2] at q; cases q) hgd (by omega) (fun b o e => e) (fun h' u tk hk => ⟨.str _, H, I.kept hk, ⟨_, rfl⟩, q⟩) h4
theorem hasDict_tl (t : Tl) : (tlD t).hasDict = false := PyData.hasDict_of_canLay _ (Sh.ok _ _ (sh_tl t)).1
theorem j_strTl {t : Tl} (hgd : X.A.guards = some []) (hr : Room k' X.A) (hm : X.mg "str" = none) (ja : JD m X σ H e (tlD t)) (ht : TlSm t) (hv : bootBuiltins "str" = some (.type "str") := by decide +kernel) (hg : Gl X "str" := by rfl)
    (he : starEach [e] X.env = (false, eval e X.env) :: starEach [] X.env := by rfl) (hpl : (backTo pos (starEach [] X.env)).any (·.1) = false := by rfl) : JD m X σ H (.Call (.Name "str" p) [e] [] pos) (.str (PyData.shown (tlD t))) :=
  j_callTy (call_strT hgd hr.units) hm hv (ja_cons ja ja_nil he) (fun H1 w xs rx Q q => by
    obtain ⟨v, rfl, h⟩ := rx.one
    exact ⟨v, _, rfl, h.dp, (fit_tl ht).sho, hasDict_tl t, Nat.le_trans (Sh.ok _ _ (sh_tl t)).2 (by decide), len_tl ht, q _ H1 w.rfl1 (.str _)⟩) hg (by decide) (by decide) he hpl
theorem dra_strs {K : PySem.W.Frag} {M : List Addr} : ∀ {xs : List Str} {vs : List V}, DrA K M H vs (xs.map PyData.str) → vs = xs.map V.str
  | [], _, h => by cases h; rfl
  | x :: xs, _, h => by
    cases h with
    | cons h r =>
      cases h
      rw [dra_strs r] <;> rfl
theorem dra_ofstrs {K : PySem.W.Frag} {M : List Addr} {H : Hp} : ∀ xs : List Str, DrA K M H (xs.map V.str) (xs.map PyData.str)
  | [] => .nil
  | x :: xs => .cons (.str x) (dra_ofstrs xs)
theorem j_sortedS {xs : List Str} (hm : X.mg "sorted" = none) (ja : JD m X σ H e (.list (xs.map PyData.str))) (hl : xs.length < 64) (hv : bootBuiltins "sorted" = some (.builtin "sorted") := by decide +kernel) (hg : Gl X "sorted" := by rfl)
    (he : starEach [e] X.env = (false, eval e X.env) :: starEach [] X.env := by rfl) (hpl : (backTo pos (starEach [] X.env)).any (·.1) = false := by rfl) : JDR m X σ H (.Call (.Name "sorted" p) [e] [] pos) (fun d => ∃ ys : List Str, d = .list (ys.map PyData.str) ∧ ys.Perm xs ∧ sortedS ys = true) := mk_jdr fun H1 w Q q =>
  of_pe (pe_callB cr_sortedS hg hm hv pa_c (by decide) (by decide) he hpl) (ja_cons ja ja_nil he H1 w _ fun vs H2 w2 r => by
    obtain ⟨v, rfl, h⟩ := r.one
    obtain ⟨l, us, rfl, h1, hm', h2⟩ := Dr.litems h
    rw [dra_strs h2] at h1
    exact ⟨l, xs, rfl, SqL.of h1, hl, fun ys p hp hs hn => q _ (.list (ys.map PyData.str)) _ (w2.trans (w2.rfl1.new hn)) ⟨ys, rfl, hp, hs⟩ (.lst upd_same (w2.rfl1.fresh hn) (dra_ofstrs ys))⟩)
theorem j_lenP {C a l : Addr} {s : PS} {past : List PS} (L : Me X.prog X.w X.K X.mg X.base C 1 "__len__" [] (spG X.K C R_len)) (hr : Room 2 X.A) (hm : X.mg "len" = none) (ha : a ∉ m.P) (hl : l ∉ m.P) (hp : PostAt X.K C H a l s past) (jo : J m X σ H e (.v (.ref a))) (hn : s.td.length < 1000) (hg : Gl X "len" := by rfl)
    (he : starEach [e] X.env = (false, eval e X.env) :: starEach [] X.env := by rfl) (hpl : (backTo pos (starEach [] X.env)).any (·.1) = false := by rfl) : JD m X σ H (.Call (.Name "len" p) [e] [] pos) (.int (s.td.length : Nat)) :=
  j_callB (call_lenP (a := a) (l := l) (s := s) (past := past) L hr) hm PySem.boot_len (ja_cons jo ja_nil he) (fun H1 w xs rx Q q => by
    obtain ⟨v, rfl, h⟩ := rx.one
    have e1 : v = V.ref a := h
    subst e1
    exact ⟨s.td.length, rfl, hp.wm w ha hl, ⟨rfl, rfl⟩, hn, fun H' kk => q _ H' (w.rfl1.same kk) (.int _)⟩) hg (by decide) (by decide) he hpl
end
end Gc
namespace Gc
open PySem PySem.Spec PyProof.Rows L2
structure SameOk (s1 s2 : PS) : Prop where
  p1 : PsOk s1
  p2 : PsOk s2
  sm : ∀ t ∈ tsOf s1, TlSm t
  pm : (tsOf s1).Perm (tsOf s2)
  cl : s1.cl = s2.cl
  dv : ∀ c, c < 6 → (462 : Int) ∣ (clAt s1.cl c).1
  st : ∀ c, c < 6 → ∀ mo, strD s1 c mo = strD s2 c mo
def spSame (K : PySem.W.Frag) (C : Addr) : Sp := fun vs H Q _ => ∃ a1 l1 s1 p1 a2 l2 s2 p2, vs = [V.ref a1, .ref a2] ∧ PostAt K C H a1 l1 s1 p1 ∧ PostAt K C H a2 l2 s2 p2 ∧ SameOk s1 s2 ∧ ∀ H', Same H H' → Q (.bl true) H'
theorem eqv_sh {d : PyData} {n : Nat} (h : Sh n d) : PyData.eqv d d = true := SeqAt.eqv_refl d (Sh.ok d n h).1
theorem mom3b {i : Nat} (hi : i < 3) : ∃ mo : Int, ([.tuple [.int 0, .int 1], .tuple [.int 7, .int 2], .tuple [.int 40, .int 3]] : List PyData).getD i .none = pt mo ∧ 0 ≤ mo ∧ mo ≤ 369600 ∧ (4620 : Int) ∣ mo := by
  have : i = 0 ∨ i = 1 ∨ i = 2 := by omega
  rcases this with rfl | rfl | rfl
  · exact ⟨0, (pt_lit (by decide +kernel) (by decide +kernel)).symm, by decide, by decide, by decide⟩
  · exact ⟨97020, (pt_lit (by decide +kernel) (by decide +kernel)).symm, by decide, by decide, by decide⟩
  · exact ⟨369600, (pt_lit (by decide +kernel) (by decide +kernel)).symm, by decide, by decide, by decide⟩
def txts (s : PS) : List Str := (tsOf s).map fun t => PyData.shown (tlD t)
theorem canLay_strs : ∀ {xs : List Str}, (∀ x ∈ xs, PyData.strOk x = true) → PyData.canLayAll0 (xs.map PyData.str) = true
  | [], _ => rfl
  | x :: xs, h => by
    have h1 := h x (by simp)
    have h2 := canLay_strs fun y hy => h y (List.mem_cons_of_mem _ hy)
    simp only [List.map_cons, PyData.canLayAll0, PyData.canLay0, h1, h2, Bool.and_self]
theorem depth_strs : ∀ xs : List Str, PyData.depthAll (xs.map PyData.str) = 0
  | [] => rfl
  | x :: xs => by
    simp only [List.map_cons, PyData.depthAll, PyData.depth, depth_strs xs]
    omega
theorem shaped_strs {xs : List Str} (h : ∀ x ∈ xs, PyData.strOk x = true) : SeqAt.shaped (.list (xs.map PyData.str)) = true := by
  unfold SeqAt.shaped
  have h1 : PyData.canLay0 (.list (xs.map PyData.str)) = true := by simpa [PyData.canLay0] using canLay_strs h
  have h2 : PyData.depth (.list (xs.map PyData.str)) ≤ 64 := by
    simp only [PyData.depth, depth_strs]
    omega
  rw [h1, decide_eq_true h2] <;> rfl
section
variable {P : Program} {w : World} {K : PySem.W.Frag} {mg : Str → Option Value} {base : Heap} {C : Addr}
theorem fo_same (T : Tx K mg) (X4 : Cx4 K C) (Lst : Me P w K mg base C 7 "standing" [] (spG K C R_standing)) (Lle : Me P w K mg base C 1 "__len__" [] (spG K C R_len)) (Lcn : Me P w K mg base C 5 "clock_now" [] (spG K C R_clock_now)) (Ls2 : Me P w K mg base C 8 "stretch_at" [] (spG K C R_str_at)) (G : Gf K mg "_law_same" s_law_same []) : FoG P w K mg base 9 "_law_same" (spSame K C) := by
  obtain ⟨f, fd, F, hm⟩ := G.ex
  refine ⟨f, fd, ["_law_post", "_law_other"], fn_g F sc_law_same (fun vs H Q E h => ?_) (fun cdv A outer s H vs Q E hr hgd h => ?_), hm, F.kp, F.bindsN (fun _ _ _ _ _ _ us hl => match us, hl with | [_, _], _ => rfl)⟩
  · obtain ⟨a1, l1, s1, p1, a2, l2, s2, p2, rfl, _⟩ := h
    rfl
  · obtain ⟨a1, l1, s1, p1, a2, l2, s2, p2, rfl, hp1, hp2, hs, hQ⟩ := h
    have n0 : ∀ x : Addr, x ∉ md0.P := fun x q => by cases q
    have E1 : En K [] H (L2.start ["_law_post", "_law_other", "_law_mine", "_law_yours", "_law_clock", "_law_moment", "_law_one"] [V.ref a1, .ref a2]) [some (.v (.ref a1)), some (.v (.ref a2)), none, none, none, none, none] := en_start (N := ["_law_post", "_law_other", "_law_mine", "_law_yours", "_law_clock", "_law_moment", "_law_one"]) (is := [.v (.ref a1), .v (.ref a2)]) (.cons rfl (.cons rfl .nil))
    have hl1 : s1.td.length ≤ 16 := by have := hs.p1.ts.1; rw [List.length_map] at this; exact this
    have hl2 : s2.td.length ≤ 16 := by have := hs.p2.ts.1; rw [List.length_map] at this; exact this
    have hlen : s1.td.length = s2.td.length := by
      have := hs.pm.length_eq
      unfold tsOf at this
      rw [List.length_map, List.length_map] at this
      exact this
    have sm2 : ∀ t ∈ tsOf s2, TlSm t := fun t ht => hs.sm t (hs.pm.mem_iff.mpr ht)
    have go : ∀ (z : PS), z.td.length ≤ 16 → ((List.range (z.td.map fun t => (.tuple [.int t.n, tlD (taken z.cl t)] : PyData)).length).filter fun _ => true).map (fun i => (.str (PyData.shown (tlD (taken z.cl (z.td.getD i ⟨0, 0, 0, 0, none, none⟩)))) : PyData)) = (txts z).map PyData.str := fun z hz => by
      have h := range_filter_map (⟨0, 0, 0, 0, none, none⟩ : Told) (fun _ => true) (fun t => (.str (PyData.shown (tlD (taken z.cl t))) : PyData)) z.td
      rw [List.length_map, h, List.filter_eq_self.mpr (fun _ _ => rfl)]
      unfold txts tsOf
      rw [List.map_map, List.map_map]
      rfl
    have item : ∀ (z : PS) (i : Nat), i < z.td.length → (z.td.map fun t => (.tuple [.int t.n, tlD (taken z.cl t)] : PyData)).getD i .none = .tuple [.int (z.td.getD i ⟨0, 0, 0, 0, none, none⟩).n, tlD (taken z.cl (z.td.getD i ⟨0, 0, 0, 0, none, none⟩))] := fun z i hi' => by
      rw [getD_map _ hi', show z.td.getD i ⟨0, 0, 0, 0, none, none⟩ = z.td[i] by simp [List.getD, hi']]
    have smz : ∀ (z : PS), (∀ t ∈ tsOf z, TlSm t) → ∀ i, i < z.td.length → TlSm (taken z.cl (z.td.getD i ⟨0, 0, 0, 0, none, none⟩)) := fun z hz i hi => by
      rw [show z.td.getD i ⟨0, 0, 0, 0, none, none⟩ = z.td[i] by simp [List.getD, hi]]
      exact hz _ (List.mem_map.mpr ⟨_, List.getElem_mem hi, rfl⟩)
    refine s_parD 2 3 (R := fun d1 d2 => ∃ xs : List Str, d1 = .list (xs.map PyData.str) ∧ d2 = .list (xs.map PyData.str) ∧ ∀ x ∈ xs, PyData.strOk x = true) (w_md0 H) E1 rfl (jadr_cons (j_sortedS T.sorted (xs := txts s1) (jd_is (j_comp [("_law_one", 6)] E1 rfl sc_law_same.nd (blkOk_by (N := ["_law_post", "_law_other", "_law_mine", "_law_yours", "_law_clock", "_law_moment", "_law_one"]) (sc := defScope s_law_same) (by decide +kernel)) (sr_list (j_meth0 X4 Lst hr (n0 _) (n0 _) hp1 (j_var 0 E1) ⟨rfl, hs.p1, rfl⟩ (.inr rfl))) (by rw [List.length_map]; omega) [6] (fun i => [some (.v (.ref a1)), some (.v (.ref a2)), none, none, none, none, some (.d (.tuple [.int (s1.td.getD i ⟨0, 0, 0, 0, none, none⟩).n, tlD (taken s1.cl (s1.td.getD i ⟨0, 0, 0, 0, none, none⟩))]))]) (by simp) (fun i hi s Hs C cL fp => ?_) (fun _ => true) (fun i hi m' hm s Hs C cL fp σ' H' w' E' => jts_nil) (fun i => .str (PyData.shown (tlD (taken s1.cl (s1.td.getD i ⟨0, 0, 0, 0, none, none⟩))))) (fun i hi _ m' hm s Hs C cL fp σ' H' w' E' => j_strTl hgd hr T.str (j_ixT 1 (jd_var 6 E') j_int) (smz s1 hs.sm i (by simpa using hi)))) (by rw [go s1 hl1])) (by unfold txts tsOf; rw [List.length_map, List.length_map]; omega)) (jadr_cons (j_sortedS T.sorted (xs := txts s2) (jd_is (j_comp [("_law_one", 6)] E1 rfl sc_law_same.nd (blkOk_by (N := ["_law_post", "_law_other", "_law_mine", "_law_yours", "_law_clock", "_law_moment", "_law_one"]) (sc := defScope s_law_same) (by decide +kernel)) (sr_list (j_meth0 X4 Lst hr (n0 _) (n0 _) hp2 (j_var 1 E1) ⟨rfl, hs.p2, rfl⟩ (.inr rfl))) (by rw [List.length_map]; omega) [6] (fun i => [some (.v (.ref a1)), some (.v (.ref a2)), none, none, none, none, some (.d (.tuple [.int (s2.td.getD i ⟨0, 0, 0, 0, none, none⟩).n, tlD (taken s2.cl (s2.td.getD i ⟨0, 0, 0, 0, none, none⟩))]))]) (by simp) (fun i hi s Hs C cL fp => ?_) (fun _ => true) (fun i hi m' hm s Hs C cL fp σ' H' w' E' => jts_nil) (fun i => .str (PyData.shown (tlD (taken s2.cl (s2.td.getD i ⟨0, 0, 0, 0, none, none⟩))))) (fun i hi _ m' hm s Hs C cL fp σ' H' w' E' => j_strTl hgd hr T.str (j_ixT 1 (jd_var 6 E') j_int) (smz s2 sm2 i (by simpa using hi)))) (by rw [go s2 hl2])) (by unfold txts tsOf; rw [List.length_map, List.length_map]; omega)) jadr_nil)) (fun ds h => ?_) sc_law_same.nd fun d1 d2 σ1 H1 hd w1 E2 => ?_
    · rw [item s1 i (by simpa using hi)]
      exact gt_name 6 sc_law_same.nd
    · rw [item s2 i (by simpa using hi)]
      exact gt_name 6 sc_law_same.nd
    · obtain ⟨d1, ds1, rfl, ⟨ys, rfl, q1, q2⟩, d2, ds2, rfl, ⟨zs, rfl, q3, q4⟩, rfl⟩ := h
      have pm : (txts s1).Perm (txts s2) := hs.pm.map _
      have e : ys = zs := sorted_uniq q2 q4 ((q1.trans pm).trans q3.symm)
      subst e
      refine ⟨_, _, rfl, ys, rfl, rfl, fun x hx => ?_⟩
      obtain ⟨t, _, rfl⟩ := List.mem_map.mp (q1.mem_iff.mp hx)
      exact ok_tl t
    · obtain ⟨xs, rfl, rfl, hok⟩ := hd
      have E2' : En K [] H1 σ1 [some (.v (.ref a1)), some (.v (.ref a2)), some (.d (.list (xs.map PyData.str))), some (.d (.list (xs.map PyData.str))), none, none, none] := E2
      have hq1 := hp1.same w1.old
      have hq2 := hp2.same w1.old
      refine s_if0 w1.rfl1 (jt_w (jw_or (t := false) (u := false) (jt_neD hr (jd_var 2 E2') (jd_var 3 E2') (shaped_strs hok) (shaped_strs hok) (by rw [SeqAt.eqv_refl _ (by simpa [PyData.canLay0] using canLay_strs hok)] <;> rfl)) fun _ => jw_or1 (jt_ne (j_lenP Lle (hr.mono (by decide)) T.len (n0 _) (n0 _) hq1 (j_var 0 E2') (by omega)) (j_lenP Lle (hr.mono (by decide)) T.len (n0 _) (n0 _) hq2 (j_var 1 E2') (by omega)) (by rw [hlen]; simp)))) fun H2 w2 => ?_
      have E3 := E2'.mono (m := md0) w2
      refine s_for (n := ((6 : Int)).toNat) w2.rfl1 PassesOwn.never rfl (sr_range T.range j_int (by decide)) (fun H3 i σ' H' => Wm md0 H3 H' ∧ En K [] H' σ' [some (.v (.ref a1)), some (.v (.ref a2)), none, none, none, none, none]) (fun H3 w3 => ⟨w3.rfl1, ((E3.forget 2).forget 3).mono (m := md0) w3⟩) (fun H3 i σ' H' _ h => h.1.bs) (fun H3 c σ' H' H'' v w3 hc h k r => ?_) (fun H3 σ' H' w3 h => ?_)
      · obtain ⟨w4, E4⟩ := h
        have hc6 : c < 6 := by simpa using hc
        have w5 := w4.rfl1.same k
        have r1 := hq1.same ((((w2.trans w3).trans w4).trans w5).old)
        have r2 := hq2.same ((((w2.trans w3).trans w4).trans w5).old)
        have hdv := hs.dv c hc6
        refine (gt_name 4 sc_law_same.nd).run [] H'' σ' v _ (E4.mono (m := md0) w5) r fun σ5 E5 _ _ => ?_
        have E5' : En K [] H'' σ5 [some (.v (.ref a1)), some (.v (.ref a2)), none, none, some (.d (.int c)), none, none] := E5
        refine s_for (n := 3) (w_md0 H'') PassesOwn.never rfl (sr_list (j_lst (jad_cons (j_tup (jad_cons j_int (jad_cons j_int jad_nil))) (jad_cons (j_tup (jad_cons j_int (jad_cons j_int jad_nil))) (jad_cons (j_tup (jad_cons j_int (jad_cons j_int jad_nil))) jad_nil))))) (fun H3 i σ' H' => Wm md0 H3 H' ∧ En K [] H' σ' [some (.v (.ref a1)), some (.v (.ref a2)), none, none, some (.d (.int c)), none, none]) (fun H3 w3 => ⟨w3.rfl1, E5'.mono (m := md0) w3⟩) (fun H3 i σ' H' _ h => h.1.bs) (fun H6 i σ' H7 H8 v w6 hi h k r => ?_) (fun H6 σ' H7 w6 h => ?_)
        · obtain ⟨w7, E7⟩ := h
          obtain ⟨mo, em, hm0, hm1, hmd⟩ := mom3b hi
          rw [em] at r
          have w8 := w7.rfl1.same k
          refine (gt_name 5 sc_law_same.nd).run [] H8 σ' v _ (E7.mono (m := md0) w8) r fun σ9 E9 _ _ => ?_
          have E9' : En K [] H8 σ9 [some (.v (.ref a1)), some (.v (.ref a2)), none, none, some (.d (.int c)), some (.d (pt mo)), none] := E9
          have t1 := r1.same (((w6.trans w7).trans w8).old)
          have t2 := r2.same (((w6.trans w7).trans w8).old)
          have est := hs.st c hc6 mo
          refine s_if0 (w_md0 H8) (jt_neD hr (j_meth X4 Ls2 hr (n0 _) (n0 _) t1 (j_var 0 E9') (jad_cons (jd_var 4 E9') (jad_cons (jd_var 5 E9') jad_nil)) ⟨c, some mo, rfl, hm0, ⟨hs.p1, hc6, by show mo.natAbs < _; omega, pdd hmd hdv⟩, rfl⟩ (.inr rfl)) (j_meth X4 Ls2 hr (n0 _) (n0 _) t2 (j_var 1 E9') (jad_cons (jd_var 4 E9') (jad_cons (jd_var 5 E9') jad_nil)) ⟨c, some mo, rfl, hm0, ⟨hs.p2, hc6, by show mo.natAbs < _; omega, by rw [← hs.cl]; exact pdd hmd hdv⟩, est⟩ (.inr rfl)) ((sh_st _ _).shaped (by decide)) ((sh_st _ _).shaped (by decide)) (by show (!PyData.eqv (strD s1 c mo) (strD s1 c mo)) = false; rw [show PyData.eqv (strD s1 c mo) (strD s1 c mo) = true from eqv_st _ _] <;> rfl)) fun H10 w10 => s_nil ⟨(w7.trans w8).trans w10, (E9'.mono (m := md0) w10).forget 5⟩
        · obtain ⟨w7, E7⟩ := h
          have t1 := r1.same ((w6.trans w7).old)
          have t2 := r2.same ((w6.trans w7).old)
          refine s_if0 (w_md0 H7) (jt_neD hr (j_meth X4 Lcn hr (n0 _) (n0 _) t1 (j_var 0 E7) (jad_cons (jd_var 4 E7) jad_nil) ⟨c, rfl, hc6, hs.p1.cl, rfl⟩ (.inr rfl)) (j_meth X4 Lcn hr (n0 _) (n0 _) t2 (j_var 1 E7) (jad_cons (jd_var 4 E7) jad_nil) ⟨c, rfl, hc6, hs.p2.cl, rfl⟩ (.inr rfl)) ((sh_clk _ _).shaped (by decide)) ((sh_clk _ _).shaped (by decide)) (by rw [← hs.cl, eqv_sh (sh_clk _ _)] <;> rfl)) fun H10 w10 => s_nil ⟨(((w4.trans w5).trans w6).trans w7).trans w10, (E7.mono (m := md0) w10).forget 4⟩
      · obtain ⟨w4, E4⟩ := h
        exact s_ret w4.rfl1 (j_bl (t := true)) fun v H5 w5 r => by
          cases r
          exact hQ H5 ((((w1.trans w2).trans w3).trans w4).trans w5).old
end
end Gc
namespace Gc
open PySem
/-! ## ways -/
/-- an edge of tellings -/
def Ed (ts : List Tl) (u v : Nat) (z : Int) : Prop := ∃ t ∈ ts, (t.a = u ∧ t.b = v ∧ t.hi = some z) ∨ (t.b = u ∧ t.a = v ∧ t.lo = some (-z))
/-- a way from b: the clocks passed (the last first), the clock reached, how long -/
inductive Wy (ts : List Tl) (b : Nat) : List Nat → Nat → Int → Prop
  | nil : Wy ts b [] b 0
  | snoc {vs : List Nat} {u v : Nat} {z e : Int} (h : Wy ts b vs u z) (he : Ed ts u v e) : Wy ts b (u :: vs) v (z + e)
theorem step_ed {ts : List Tl} {s : Sg} (h : s ∈ stepsOf ts) : Ed ts s.f s.t s.z := by
  obtain ⟨i, hi, hs⟩ := List.mem_flatMap.mp h
  cases ht : ts[i]? with
  | none => rw [ht] at hs; cases hs
  | some t =>
    rw [ht] at hs
    have hm := List.mem_of_getElem? ht
    have hs' : s ∈ stp1 i t ++ stp2 i t := hs
    unfold stp1 stp2 at hs'
    rcases List.mem_append.mp hs' with q | q
    · cases hh : t.hi with
      | none => rw [hh] at q; cases q
      | some y =>
        rw [hh] at q
        have e := List.mem_singleton.mp q
        subst e
        exact ⟨t, hm, .inl ⟨rfl, rfl, hh⟩⟩
    · cases hl : t.lo with
      | none => rw [hl] at q; cases q
      | some y =>
        rw [hl] at q
        have e := List.mem_singleton.mp q
        subst e
        exact ⟨t, hm, .inr ⟨rfl, rfl, by show t.lo = some (- -y); rw [Int.neg_neg]; exact hl⟩⟩
theorem ed_step {ts : List Tl} {u v : Nat} {z : Int} (h : Ed ts u v z) : ∃ s ∈ stepsOf ts, s.f = u ∧ s.t = v ∧ s.z = z := by
  obtain ⟨t, ht, h⟩ := h
  obtain ⟨i, hi⟩ := List.mem_iff_getElem?.mp ht
  have hil : i < ts.length := (List.getElem?_eq_some_iff.mp hi).1
  have key : ∀ s, s ∈ stp1 i t ++ stp2 i t → s ∈ stepsOf ts := fun s hs => List.mem_flatMap.mpr ⟨i, List.mem_range.mpr hil, by rw [hi]; exact hs⟩
  rcases h with ⟨h1, h2, h3⟩ | ⟨h1, h2, h3⟩
  · exact ⟨⟨t.a, t.b, z, i, 1⟩, key _ (List.mem_append_left _ (by unfold stp1; rw [h3]; exact List.mem_singleton.mpr rfl)), h1, h2, rfl⟩
  · refine ⟨⟨t.b, t.a, z, i, -1⟩, key _ (List.mem_append_right _ ?_), h1, h2, rfl⟩
    unfold stp2
    rw [h3]
    show _ ∈ [_]
    rw [Int.neg_neg]
    exact List.mem_singleton.mpr rfl
section
variable {ts : List Tl} {row : List Int} {b : Nat}
def AllKept (row : List Int) (ts : List Tl) : Prop := ∀ t ∈ ts, Kept row t
theorem ed_pot (h : AllKept row ts) {u v : Nat} {z : Int} (e : Ed ts u v z) : rw0 row v - rw0 row u ≤ z := by
  obtain ⟨t, ht, q⟩ := e
  have k := h t ht
  rcases q with ⟨rfl, rfl, q⟩ | ⟨rfl, rfl, q⟩
  · exact k.hi _ q
  · have := k.lo _ q
    omega
theorem ed_lt (h : AllKept row ts) {u v : Nat} {z : Int} (e : Ed ts u v z) : u < 6 ∧ v < 6 := by
  obtain ⟨t, ht, q⟩ := e
  have k := (h t ht).ok
  rcases q with ⟨rfl, rfl, q⟩ | ⟨rfl, rfl, q⟩
  · exact ⟨k.a, k.b⟩
  · exact ⟨k.b, k.a⟩
theorem wy_pot (h : AllKept row ts) {vs : List Nat} {v : Nat} {z : Int} (w : Wy ts b vs v z) : rw0 row v - rw0 row b ≤ z := by
  induction w with
  | nil => omega
  | snoc _ he ih =>
    have := ed_pot h he
    omega
theorem wy_lt (h : AllKept row ts) (hb : b < 6) {vs : List Nat} {v : Nat} {z : Int} (w : Wy ts b vs v z) : ∀ x ∈ v :: vs, x < 6 := by
  induction w with
  | nil => intro x hx; rw [List.mem_singleton.mp hx]; exact hb
  | snoc _ he ih =>
    intro x hx
    rcases List.mem_cons.mp hx with rfl | hx
    · exact (ed_lt h he).2
    · exact ih x hx
/-- a way passes x: the part up to there -/
theorem wy_cut (h : AllKept row ts) {vs : List Nat} {v : Nat} {z : Int} (w : Wy ts b vs v z) : ∀ x ∈ vs, ∃ vs' z', Wy ts b vs' x z' ∧ (x :: vs') <:+ vs ∧ z' + (rw0 row v - rw0 row x) ≤ z := by
  induction w with
  | nil => intro x hx; cases hx
  | @snoc vs u v z e w he ih =>
    intro x hx
    have hp := ed_pot h he
    rcases List.mem_cons.mp hx with rfl | hx
    · exact ⟨vs, z, w, List.suffix_refl _, by omega⟩
    · obtain ⟨vs', z', w', hs, hz⟩ := ih x hx
      exact ⟨vs', z', w', hs.trans (List.suffix_cons u vs), by omega⟩
/-- .. no clock twice -/
theorem wy_nodup (h : AllKept row ts) {vs : List Nat} {v : Nat} {z : Int} (w : Wy ts b vs v z) : ∃ vs' z', Wy ts b vs' v z' ∧ (v :: vs').Nodup ∧ z' ≤ z := by
  induction w with
  | nil => exact ⟨[], 0, .nil, by simp, Int.le_refl _⟩
  | @snoc vs u v z e w he ih =>
    obtain ⟨vs', z', w', hn, hz⟩ := ih
    have w2 := w'.snoc he
    by_cases hm : v ∈ u :: vs'
    · obtain ⟨vs2, z2, w3, hs, hz2⟩ := wy_cut h w2 v hm
      exact ⟨vs2, z2, w3, hn.sublist hs.sublist, by omega⟩
    · exact ⟨u :: vs', z' + e, w2, List.nodup_cons.mpr ⟨hm, hn⟩, by omega⟩
end
theorem nodup_len : ∀ (n : Nat) (l : List Nat), l.Nodup → (∀ x ∈ l, x < n) → l.length ≤ n
  | 0, l, _, h => by
    cases l with
    | nil => simp
    | cons x l => exact absurd (h x (List.mem_cons_self ..)) (by omega)
  | n + 1, l, hn, h => by
    have h1 := nodup_len n (l.erase n) (hn.erase n) fun x hx => by
      have h2 := h x (List.mem_of_mem_erase hx)
      have h3 : x ≠ n := fun e => by
        subst e
        exact (hn.not_mem_erase) hx
      omega
    by_cases hm : n ∈ l
    · rw [List.length_erase_of_mem hm] at h1
      omega
    · rw [List.erase_of_not_mem hm] at h1
      omega
/-! ## the rounds -/
def vl (f : Fd) (v : Nat) : Option Int := (f.getD v none).map (·.1)
/-- f tells as short ways as g, or shorter -/
def Bt (f g : Fd) : Prop := ∀ v z, vl g v = some z → ∃ z', vl f v = some z' ∧ z' ≤ z
theorem Bt.refl (f : Fd) : Bt f f := fun v z h => ⟨z, h, Int.le_refl _⟩
theorem Bt.trans {f g h : Fd} (a : Bt f g) (b : Bt g h) : Bt f h := fun v z e => by
  obtain ⟨z1, e1, h1⟩ := b v z e
  obtain ⟨z2, e2, h2⟩ := a v z1 e1
  exact ⟨z2, e2, by omega⟩
theorem vl_set {f : Fd} {i v : Nat} {z : Int} {w : List PyData} (hi : i < f.length) : vl (f.set i (some (z, w))) v = if v = i then some z else vl f v := by
  unfold vl
  by_cases e : v = i
  · subst e
    simp [List.getD, hi]
  · rw [if_neg e]
    simp [List.getD, List.getElem?_set_ne (Ne.symm e)]
theorem relax_cases (p : Fd × Option Nat) (s : Sg) : (relax p s = p ∧ (∀ z, vl p.1 s.f = some z → ∃ y, vl p.1 s.t = some y ∧ y ≤ z + s.z)) ∨ ∃ z w, vl p.1 s.f = some z ∧ relax p s = (p.1.set s.t (some (z + s.z, w)), some s.t) ∧ (∀ y, vl p.1 s.t = some y → z + s.z < y) := by
  unfold relax
  cases hf : p.1.getD s.f none with
  | none => exact .inl ⟨rfl, fun z hz => by unfold vl at hz; rw [hf] at hz; cases hz⟩
  | some zw =>
    obtain ⟨z, w⟩ := zw
    have hv : vl p.1 s.f = some z := by unfold vl; rw [hf] <;> rfl
    cases hb : better p.1 s z with
    | true =>
      refine .inr ⟨z, w ++ [stepW s], hv, (by
        show (if better p.1 s z = true then _ else _) = _
        rw [if_pos hb]), fun y hy => ?_⟩
      unfold better at hb
      unfold vl at hy
      cases ht : p.1.getD s.t none with
      | none => rw [ht] at hy; cases hy
      | some yw =>
        rw [ht] at hb hy
        cases hy
        exact of_decide_eq_true hb
    | false =>
      refine .inl ⟨(by
        show (if better p.1 s z = true then _ else _) = _
        rw [if_neg (by rw [hb]; simp)]), fun z' hz' => ?_⟩
      rw [hv] at hz'
      cases hz'
      unfold better at hb
      cases ht : p.1.getD s.t none with
      | none => rw [ht] at hb; cases hb
      | some yw =>
        rw [ht] at hb
        refine ⟨yw.1, by unfold vl; rw [ht] <;> rfl, ?_⟩
        have := of_decide_eq_false hb
        omega
theorem relax_bt {p : Fd × Option Nat} {s : Sg} (hl : p.1.length = 6) (hs : s.t < 6) : Bt (relax p s).1 p.1 ∧ (relax p s).1.length = 6 := by
  rcases relax_cases p s with ⟨e, _⟩ | ⟨z, w, hz, e, hb⟩
  · rw [e]
    exact ⟨Bt.refl _, hl⟩
  · rw [e]
    refine ⟨fun v y hy => ?_, by rw [List.length_set]; exact hl⟩
    rw [vl_set (by omega)]
    by_cases ev : v = s.t
    · subst ev
      rw [if_pos rfl]
      exact ⟨_, rfl, by have := hb y hy; omega⟩
    · rw [if_neg ev]
      exact ⟨y, hy, Int.le_refl _⟩
theorem fold_bt : ∀ (ss : List Sg) (p : Fd × Option Nat), (∀ s ∈ ss, SgOk s) → p.1.length = 6 → Bt (ss.foldl relax p).1 p.1 ∧ (ss.foldl relax p).1.length = 6
  | [], p, _, hl => ⟨Bt.refl _, hl⟩
  | s :: ss, p, h, hl => by
    obtain ⟨h1, h2⟩ := relax_bt (p := p) (s := s) hl (h s (List.mem_cons_self ..)).2
    obtain ⟨h3, h4⟩ := fold_bt ss (relax p s) (fun x hx => h x (List.mem_cons_of_mem _ hx)) h2
    exact ⟨h3.trans h1, h4⟩
/-- behind a round each step is obeyed against what stood ahead -/
theorem fold_step : ∀ (ss : List Sg) (p : Fd × Option Nat) (g : Fd), (∀ s ∈ ss, SgOk s) → p.1.length = 6 → Bt p.1 g → ∀ s ∈ ss, ∀ z, vl g s.f = some z → ∃ y, vl (ss.foldl relax p).1 s.t = some y ∧ y ≤ z + s.z
  | [], _, _, _, _, _, s, hs => by cases hs
  | x :: ss, p, g, h, hl, hbt, s, hs => by
    intro z hz
    have hx := h x (List.mem_cons_self ..)
    obtain ⟨h1, h2⟩ := relax_bt (p := p) (s := x) hl hx.2
    have hss := fun y hy => h y (List.mem_cons_of_mem _ hy)
    rcases List.mem_cons.mp hs with rfl | hs
    · obtain ⟨z1, e1, le1⟩ := hbt _ z hz
      have hx2 : s.t < 6 := hx.2
      have h3 : ∃ y, vl (relax p s).1 s.t = some y ∧ y ≤ z1 + s.z := by
        rcases relax_cases p s with ⟨e, k⟩ | ⟨z', w, hz', e, hb⟩
        · rw [e]
          exact k z1 e1
        · rw [e, vl_set (by omega), if_pos rfl]
          rw [e1] at hz'
          cases hz'
          exact ⟨_, rfl, Int.le_refl _⟩
      obtain ⟨y, e2, le2⟩ := h3
      obtain ⟨y', e3, le3⟩ := (fold_bt ss (relax p s) hss h2).1 _ y e2
      exact ⟨y', e3, by omega⟩
    · exact fold_step ss (relax p x) g hss h2 (h1.trans hbt) s hs z hz
/-- each found length is a way's -/
def Snd (ts : List Tl) (b : Nat) (f : Fd) : Prop := ∀ v z, vl f v = some z → ∃ vs, Wy ts b vs v z
theorem relax_snd {ts : List Tl} {b : Nat} {p : Fd × Option Nat} {s : Sg} (hl : p.1.length = 6) (hs : s.t < 6) (he : Ed ts s.f s.t s.z) (h : Snd ts b p.1) : Snd ts b (relax p s).1 := by
  rcases relax_cases p s with ⟨e, _⟩ | ⟨z, w, hz, e, hb⟩
  · rw [e]
    exact h
  · rw [e]
    intro v y hy
    rw [vl_set (by omega)] at hy
    by_cases ev : v = s.t
    · rw [if_pos ev] at hy
      cases hy
      obtain ⟨vs, w⟩ := h _ _ hz
      subst ev
      exact ⟨_, w.snoc he⟩
    · rw [if_neg ev] at hy
      exact h v y hy
theorem fold_snd {ts : List Tl} {b : Nat} : ∀ (ss : List Sg) (p : Fd × Option Nat), (∀ s ∈ ss, SgOk s) → (∀ s ∈ ss, Ed ts s.f s.t s.z) → p.1.length = 6 → Snd ts b p.1 → Snd ts b (ss.foldl relax p).1
  | [], p, _, _, _, h => h
  | s :: ss, p, h1, h2, hl, h => fold_snd ss (relax p s) (fun x hx => h1 x (List.mem_cons_of_mem _ hx)) (fun x hx => h2 x (List.mem_cons_of_mem _ hx)) (relax_bt hl (h1 s (List.mem_cons_self ..)).2).2 (relax_snd hl (h1 s (List.mem_cons_self ..)).2 (h2 s (List.mem_cons_self ..)) h)
/-- where every step is obeyed already nothing changes -/
theorem fold_still : ∀ (ss : List Sg) (f : Fd) (o : Option Nat), (∀ s ∈ ss, ∀ z, vl f s.f = some z → ∃ y, vl f s.t = some y ∧ y ≤ z + s.z) → ss.foldl relax (f, o) = (f, o)
  | [], f, o, _ => rfl
  | s :: ss, f, o, h => by
    have e : relax (f, o) s = (f, o) := by
      rcases relax_cases (f, o) s with ⟨e, _⟩ | ⟨z, w, hz, e, hb⟩
      · exact e
      · obtain ⟨y, hy, hle⟩ := h s (List.mem_cons_self ..) z hz
        have := hb y hy
        omega
    rw [List.foldl_cons, e]
    exact fold_still ss f o fun x hx => h x (List.mem_cons_of_mem _ hx)
section
variable {ts : List Tl} {row : List Int} {b : Nat}
theorem sgs_ok (h : AllKept row ts) : ∀ s ∈ stepsOf ts, SgOk s := fun s hs => ed_lt h (step_ed hs)
theorem rounds_len (ss : List Sg) (b k : Nat) : (rounds ss b k).1.length = 6 := (rounds_ok ss b k).len
theorem vl_start {v : Nat} (hb : b < 6) : vl (start b) v = if v = b then some 0 else none := by
  unfold start
  rw [vl_set (by simpa using hb)]
  by_cases e : v = b
  · rw [if_pos e, if_pos e]
  · rw [if_neg e, if_neg e]
    unfold vl
    have e2 : (List.replicate 6 (none : Option (Int × List PyData))).getD v none = none := by
      unfold List.getD
      rw [List.getElem?_replicate]
      split <;> rfl
    rw [e2] <;> rfl
theorem rounds_snd (h : AllKept row ts) (hb : b < 6) : ∀ k, Snd ts b (rounds (stepsOf ts) b k).1
  | 0 => fun v z e => by
    have e' : vl (start b) v = some z := e
    rw [vl_start hb] at e'
    by_cases ev : v = b
    · rw [if_pos ev] at e'
      cases e'
      subst ev
      exact ⟨[], .nil⟩
    · rw [if_neg ev] at e'
      cases e'
  | k + 1 => fold_snd (stepsOf ts) ((rounds (stepsOf ts) b k).1, none) (sgs_ok h) (fun s hs => step_ed hs) (rounds_len _ b k) (rounds_snd h hb k)
/-- k rounds find ways of up to k steps -/
theorem rounds_full (h : AllKept row ts) (hb : b < 6) : ∀ k vs v z, Wy ts b vs v z → vs.length ≤ k → ∃ y, vl (rounds (stepsOf ts) b k).1 v = some y ∧ y ≤ z
  | 0, vs, v, z, w, hk => by
    cases w with
    | nil => exact ⟨0, by show vl (start b) b = some 0; rw [vl_start hb, if_pos rfl], Int.le_refl _⟩
    | snoc _ _ => simp at hk
  | k + 1, vs, v, z, w, hk => by
    have hbt := fold_bt (stepsOf ts) ((rounds (stepsOf ts) b k).1, none) (sgs_ok h) (rounds_len _ b k)
    cases w with
    | nil =>
      obtain ⟨y, e1, h1⟩ := rounds_full h hb k [] b 0 .nil (Nat.zero_le _)
      obtain ⟨y2, e2, h2⟩ := hbt.1 _ y e1
      exact ⟨y2, e2, by omega⟩
    | @snoc vs u v z e w he =>
      obtain ⟨y, e1, h1⟩ := rounds_full h hb k vs u z w (by simpa using hk)
      obtain ⟨s, hs, rfl, rfl, rfl⟩ := ed_step he
      obtain ⟨y2, e2, h2⟩ := fold_step (stepsOf ts) ((rounds (stepsOf ts) b k).1, none) _ (sgs_ok h) (rounds_len _ b k) (Bt.refl _) s hs y e1
      exact ⟨y2, e2, by omega⟩
theorem rounds_all (h : AllKept row ts) (hb : b < 6) {vs : List Nat} {v : Nat} {z : Int} (w : Wy ts b vs v z) (k : Nat) (hk : 5 ≤ k) : ∃ y, vl (rounds (stepsOf ts) b k).1 v = some y ∧ y ≤ z := by
  obtain ⟨vs', z', w', hn, hz⟩ := wy_nodup h w
  have hlen := nodup_len 6 _ hn (wy_lt h hb w')
  rw [List.length_cons] at hlen
  obtain ⟨y, e, hy⟩ := rounds_full h hb k vs' v z' w' (by omega)
  exact ⟨y, e, by omega⟩
theorem no_ring (h : AllKept row ts) : NoRing ts := fun b hb => by
  have e : shortF ts b = round (stepsOf ts) (rounds (stepsOf ts) b 5).1 := rfl
  rw [e]
  unfold round
  rw [fold_still]
  intro s hs z hz
  obtain ⟨vs, w⟩ := rounds_snd h hb 5 _ _ hz
  obtain ⟨y, e1, h1⟩ := rounds_all h hb (w.snoc (step_ed hs)) 5 (Nat.le_refl _)
  exact ⟨y, e1, h1⟩
theorem far_vl (c o : Nat) : farD ts c o = vl (rounds (stepsOf ts) o 6).1 c := rfl
theorem far_way (h : AllKept row ts) {c o : Nat} (ho : o < 6) {z : Int} (e : farD ts c o = some z) : (∃ vs, Wy ts o vs c z) ∧ ∀ vs y, Wy ts o vs c y → z ≤ y := by
  rw [far_vl] at e
  refine ⟨rounds_snd h ho 6 _ _ e, fun vs y w => ?_⟩
  obtain ⟨y', e1, h1⟩ := rounds_all h ho w 6 (by decide)
  rw [e] at e1
  cases e1
  exact h1
theorem far_none (h : AllKept row ts) {c o : Nat} (ho : o < 6) (e : farD ts c o = none) : ∀ vs y, ¬ Wy ts o vs c y := fun vs y w => by
  obtain ⟨y', e1, h1⟩ := rounds_all h ho w 6 (by decide)
  rw [far_vl] at e
  rw [e] at e1
  cases e1
/-- from a row: how far -/
theorem far_row (h : AllKept row ts) {c o : Nat} (ho : o < 6) {z : Int} (e : farD ts c o = some z) : rw0 row c - rw0 row o ≤ z := by
  obtain ⟨⟨vs, w⟩, _⟩ := far_way h ho e
  exact wy_pot h w
theorem wy_perm {ts' : List Tl} (hm : ∀ t, t ∈ ts → t ∈ ts') {vs : List Nat} {v : Nat} {z : Int} (w : Wy ts b vs v z) : Wy ts' b vs v z := by
  induction w with
  | nil => exact .nil
  | snoc _ he ih =>
    obtain ⟨t, ht, q⟩ := he
    exact ih.snoc ⟨t, hm t ht, q⟩
/-- the order of the tellings doesn't matter -/
theorem far_perm {ts' : List Tl} (hp : ts.Perm ts') (h : AllKept row ts) {c o : Nat} (ho : o < 6) : farD ts c o = farD ts' c o := by
  have h' : AllKept row ts' := fun t ht => h t (hp.mem_iff.mpr ht)
  cases e : farD ts c o with
  | none =>
    cases e' : farD ts' c o with
    | none => rfl
    | some z =>
      obtain ⟨⟨vs, w⟩, _⟩ := far_way h' ho e'
      exact absurd (wy_perm (fun t ht => hp.mem_iff.mpr ht) w) (far_none h ho e vs z)
  | some z =>
    obtain ⟨⟨vs, w⟩, hmin⟩ := far_way h ho e
    cases e' : farD ts' c o with
    | none => exact absurd (wy_perm (fun t ht => hp.mem_iff.mp ht) w) (far_none h' ho e' vs z)
    | some y =>
      obtain ⟨⟨vs2, w2⟩, hmin2⟩ := far_way h' ho e'
      have h1 := hmin _ _ (wy_perm (fun t ht => hp.mem_iff.mpr ht) w2)
      have h2 := hmin2 _ _ (wy_perm (fun t ht => hp.mem_iff.mp ht) w)
      congr 1
      omega
end
end Gc
namespace Gc
open PySem
/-! ## clocks: sets in any order -/
abbrev Up (ss : List (Int × Int)) : Prop := ss.Pairwise fun a b => a.1 < b.1
theorem ins_nil (mo j : Int) : insS mo j [] = [(mo, j)] := rfl
theorem ins_lt {mo j : Int} {a : Int × Int} {ss : List (Int × Int)} (h : a.1 < mo) : insS mo j (a :: ss) = a :: insS mo j ss := by
  unfold insS
  have e : ((a :: ss).filter fun s => decide (s.1 < mo)).length = (ss.filter fun s => decide (s.1 < mo)).length + 1 := by
    rw [List.filter_cons_of_pos (by simpa using h), List.length_cons]
  rw [e]
  rfl
theorem ins_gt {mo j : Int} {a : Int × Int} {ss : List (Int × Int)} (hu : Up (a :: ss)) (h : mo < a.1) : insS mo j (a :: ss) = (mo, j) :: a :: ss := by
  unfold insS
  have e : ((a :: ss).filter fun s => decide (s.1 < mo)) = [] := by
    rw [List.filter_eq_nil_iff]
    intro x hx
    rcases List.mem_cons.mp hx with rfl | hx
    · simp; omega
    · have := (List.pairwise_cons.mp hu).1 x hx
      simp; omega
  rw [e]
  rfl
theorem ins_perm (mo j : Int) (ss : List (Int × Int)) : (insS mo j ss).Perm ((mo, j) :: ss) := by
  unfold insS
  have h := List.take_append_drop (ss.filter fun s => decide (s.1 < mo)).length ss
  have p := List.perm_middle (a := (mo, j)) (l₁ := ss.take (ss.filter fun s => decide (s.1 < mo)).length) (l₂ := ss.drop (ss.filter fun s => decide (s.1 < mo)).length)
  rw [h] at p
  rw [List.append_assoc]
  exact p
theorem ins_up {mo j : Int} : ∀ {ss : List (Int × Int)}, Up ss → (∀ s ∈ ss, s.1 ≠ mo) → Up (insS mo j ss)
  | [], _, _ => by rw [ins_nil]; exact List.pairwise_singleton _ _
  | a :: ss, hu, hne => by
    have h1 := hne a (List.mem_cons_self ..)
    by_cases h : a.1 < mo
    · rw [ins_lt h]
      refine List.pairwise_cons.mpr ⟨fun x hx => ?_, ins_up (List.pairwise_cons.mp hu).2 fun s hs => hne s (List.mem_cons_of_mem _ hs)⟩
      rcases List.mem_cons.mp ((ins_perm mo j ss).mem_iff.mp hx) with rfl | hx
      · exact h
      · exact (List.pairwise_cons.mp hu).1 x hx
    · have h2 : mo < a.1 := by omega
      rw [ins_gt hu h2]
      refine List.pairwise_cons.mpr ⟨fun x hx => ?_, hu⟩
      rcases List.mem_cons.mp hx with rfl | hx
      · exact h2
      · have := (List.pairwise_cons.mp hu).1 x hx
        omega
/-- the jumps till a moment, as a sum -/
def js (ss : List (Int × Int)) (mo : Int) : Int := (ss.map fun s => if s.1 ≤ mo then s.2 else 0).sum
theorem jt_js (ss : List (Int × Int)) (mo : Int) : jt ss mo = js ss mo := by
  have h : ∀ (ss : List (Int × Int)) (z : Int), ss.foldl (fun z s => if s.1 ≤ mo then z + s.2 else z) z = z + js ss mo := by
    intro ss
    induction ss with
    | nil => intro z; simp [js]
    | cons a ss ih =>
      intro z
      rw [List.foldl_cons, ih]
      unfold js
      rw [List.map_cons, List.sum_cons]
      split <;> omega
  unfold jt
  rw [h]
  omega
theorem js_perm {ss tt : List (Int × Int)} (p : ss.Perm tt) (mo : Int) : js ss mo = js tt mo := by
  unfold js
  induction p with
  | nil => rfl
  | cons x _ ih => simp only [List.map_cons, List.sum_cons, ih]
  | swap x y l => simp only [List.map_cons, List.sum_cons]; omega
  | trans _ _ h1 h2 => exact h1.trans h2
theorem jt_ins (mo j m : Int) (ss : List (Int × Int)) : jt (insS mo j ss) m = (if mo ≤ m then j else 0) + jt ss m := by
  rw [jt_js, jt_js, js_perm (ins_perm mo j ss)]
  unfold js
  rw [List.map_cons, List.sum_cons]
theorem js_small {ss : List (Int × Int)} {B : Nat} (mo : Int) (h : ∀ s ∈ ss, s.2.natAbs ≤ B) : (js ss mo).natAbs ≤ ss.length * B := by
  unfold js
  induction ss with
  | nil => simp
  | cons a ss ih =>
    rw [List.map_cons, List.sum_cons, List.length_cons, Nat.succ_mul]
    have h1 := h a (List.mem_cons_self ..)
    have h2 := ih fun s hs => h s (List.mem_cons_of_mem _ hs)
    split <;> omega
/-! ### the clocks behind some sets -/
structure StC (gs : List Int) (q : List St3) (cl : Cl) : Prop where
  len : cl.length = 6
  gain : ∀ c, c < 6 → (clAt cl c).1 = gs.getD c 0
  up : ∀ c, c < 6 → Up (clAt cl c).2
  pm : ∀ c, c < 6 → (clAt cl c).2.Perm (ownS q c)
theorem clAt_set {cl : Cl} {c c' : Nat} {x : Int × List (Int × Int)} (hc : c < cl.length) : clAt (cl.set c x) c' = if c' = c then x else clAt cl c' := by
  unfold clAt
  by_cases e : c' = c
  · subst e
    simp [List.getD, hc]
  · rw [if_neg e]
    simp [List.getD, List.getElem?_set_ne (Ne.symm e)]
theorem ownS_add (q : List St3) (x : St3) (c : Nat) : ownS (q ++ [x]) c = ownS q c ++ (if x.1 = c then [x.2] else []) := by
  unfold ownS
  rw [List.filter_append, List.map_append]
  congr 1
  by_cases h : x.1 = c
  · simp [h]
  · simp [h]
theorem stc_start {gs : List Int} (h : gs.length = 6) : StC gs [] (ps0 gs).cl := by
  have hc : ∀ c, c < 6 → clAt (ps0 gs).cl c = (gs.getD c 0, []) := fun c hc => by
    unfold clAt ps0
    have : c < gs.length := by omega
    simp [List.getD, this]
  refine ⟨by simp [ps0, h], fun c h => by rw [hc c h], fun c h => by rw [hc c h]; exact .nil, fun c h => by rw [hc c h]; exact .nil⟩
theorem own_mem {q : List St3} {c : Nat} {s : Int × Int} (h : s ∈ ownS q c) : (c, s.1, s.2) ∈ q := by
  obtain ⟨x, hx, rfl⟩ := List.mem_map.mp h
  obtain ⟨h1, h2⟩ := List.mem_filter.mp hx
  have e : x.1 = c := by simpa using h2
  obtain ⟨a, b, d⟩ := x
  subst e
  exact h1
theorem own_len (q : List St3) (c : Nat) : (ownS q c).length ≤ q.length := by
  unfold ownS
  rw [List.length_map]
  exact List.length_filter_le _ _
theorem stc_step {gs : List Int} {q : List St3} {cl : Cl} (h : StC gs q cl) {x : St3} (hx : x.1 < 6) (hf : ∀ y ∈ q, y.1 = x.1 → y.2.1 ≠ x.2.1) : (∀ s ∈ (clAt cl x.1).2, s.1 ≠ x.2.1) ∧ StC gs (q ++ [x]) (cl.set x.1 ((clAt cl x.1).1, insS x.2.1 x.2.2 (clAt cl x.1).2)) := by
  have hne : ∀ s ∈ (clAt cl x.1).2, s.1 ≠ x.2.1 := fun s hs => hf _ (own_mem ((h.pm x.1 hx).mem_iff.mp hs)) rfl
  have hl : x.1 < cl.length := by rw [h.len]; exact hx
  refine ⟨hne, by rw [List.length_set]; exact h.len, fun c hc => ?_, fun c hc => ?_, fun c hc => ?_⟩
  · rw [clAt_set hl]
    by_cases e : c = x.1
    · rw [if_pos e, e]
      exact h.gain _ hx
    · rw [if_neg e]
      exact h.gain c hc
  · rw [clAt_set hl]
    by_cases e : c = x.1
    · rw [if_pos e]
      exact ins_up (h.up _ hx) hne
    · rw [if_neg e]
      exact h.up c hc
  · rw [clAt_set hl, ownS_add]
    by_cases e : c = x.1
    · rw [if_pos e, if_pos e.symm, e]
      exact (ins_perm _ _ _).trans (((h.pm _ hx).cons _).trans (List.perm_append_singleton _ _).symm)
    · rw [if_neg e, if_neg (Ne.symm e), List.append_nil]
      exact h.pm c hc
theorem up_uniq {ss tt : List (Int × Int)} (hs : Up ss) (ht : Up tt) (p : ss.Perm tt) : ss = tt :=
  List.Perm.eq_of_pairwise (le := fun a b => a.1 < b.1) (fun a b _ _ h1 h2 => by omega) hs ht p
theorem own_up {ss : List St3} {n : Nat} (h : SetsL n ss) (c : Nat) : Up (ownS ss c) := List.pairwise_map.mpr (h.up.filter _)
theorem clocks_at {gs : List Int} {ss : List St3} (hg : gs.length = 6) {c : Nat} (hc : c < 6) : clAt (clocksF gs ss) c = (gs.getD c 0, ownS ss c) := by
  unfold clAt clocksF
  have : c < gs.length := by omega
  simp [List.getD, this]
theorem stc_end {gs : List Int} {q ss : List St3} {cl : Cl} {n : Nat} (h : StC gs q cl) (hg : gs.length = 6) (hp : q.Perm ss) (hss : SetsL n ss) : cl = clocksF gs ss := by
  refine List.ext_getElem (by simp [clocksF, hg, h.len]) fun c h1 h2 => ?_
  have hc : c < 6 := by rw [h.len] at h1; exact h1
  have e1 : clAt cl c = cl[c] := by simp [clAt, List.getD, h1]
  have e2 : clAt (clocksF gs ss) c = (clocksF gs ss)[c] := by simp [clAt, List.getD, h2]
  have pm : (clAt cl c).2.Perm (ownS ss c) := (h.pm c hc).trans ((hp.filter _).map _)
  have e3 := up_uniq (h.up c hc) (own_up hss c) pm
  rw [← e1, ← e2, clocks_at hg hc]
  exact Prod.ext (h.gain c hc) e3
/-! ## posts -/
def tkn (cl : Cl) (x : Dd) : Tl := taken cl ⟨0, x.1, x.2⟩
structure IP (gs : List Int) (q : List St3) (ys : List Dd) (s : PS) : Prop where
  st : StC gs q s.cl
  td : s.td.map (fun t => (t.mo, t.t)) = ys
  nx : ∀ t ∈ s.td, t.n < s.nx
theorem ts_eq {s : PS} {ys : List Dd} (h : s.td.map (fun t => (t.mo, t.t)) = ys) : tsOf s = ys.map (tkn s.cl) := by
  subst h
  unfold tsOf
  rw [List.map_map]
  rfl
structure YsOk (row : List Int) (cl : Cl) (ys : List Dd) : Prop where
  len : ys.length ≤ 10
  each : ∀ x ∈ ys, x.1.natAbs < 2 ^ 60 ∧ (4620 : Int) ∣ x.1 ∧ Kept row (tkn cl x)
def Gd (cl : Cl) : Prop := ∀ c, c < 6 → (462 : Int) ∣ (clAt cl c).1
theorem ps_ok {row : List Int} {s : PS} {ys : List Dd} (hl : s.cl.length = 6) (hg : Gd s.cl) (h : s.td.map (fun t => (t.mo, t.t)) = ys) (hy : YsOk row s.cl ys) : PsOk s ∧ AllKept row (tsOf s) := by
  have hk : AllKept row (tsOf s) := by
    rw [ts_eq h]
    intro t ht
    obtain ⟨x, hx, rfl⟩ := List.mem_map.mp ht
    exact (hy.each x hx).2.2
  refine ⟨⟨hl, fun t ht => ?_, ?_, fun t ht => (hk t ht).ok⟩, hk⟩
  · have hx : (t.mo, t.t) ∈ ys := by
      rw [← h]
      exact List.mem_map.mpr ⟨t, ht, rfl⟩
    obtain ⟨h1, h2, h3⟩ := hy.each _ hx
    have ha : t.t.a < 6 := h3.ok.a
    have hb : t.t.b < 6 := h3.ok.b
    exact ⟨by rw [hl]; exact ha, by rw [hl]; exact hb, h1, dv_mul h2 (hg _ ha), dv_mul h2 (hg _ hb)⟩
  · have e : (s.td.map (taken s.cl)).length = ys.length := by
      rw [List.length_map, ← h, List.length_map]
    rw [e]
    have := hy.len
    omega
def setCl (cl : Cl) (x : St3) : Cl := cl.set x.1 ((clAt cl x.1).1, insS x.2.1 x.2.2 (clAt cl x.1).2)
theorem l_set {gs row : List Int} {q : List St3} {ys : List Dd} {s : PS} {past : List PS} {x : St3} (h : IP gs q ys s) (hx0 : 0 < x.1) (hx : x.1 < 6) (hj : x.2.2 ≠ 0) (h0 : 0 ≤ x.2.1) (hf : ∀ y ∈ q, y.1 = x.1 → y.2.1 ≠ x.2.1) (hq : q.length < 6) (hp : past.length ≤ 1000) (hg : Gd (setCl s.cl x)) (hy : YsOk row (setCl s.cl x) ys) :
    R_sets s past [.int x.1, pt x.2.1, pt x.2.2] ⟨setCl s.cl x, s.td, s.nx⟩ (past ++ [s]) .none ∧ IP gs (q ++ [x]) ys ⟨setCl s.cl x, s.td, s.nx⟩ := by
  obtain ⟨hne, st⟩ := stc_step h.st hx hf
  have hip : IP gs (q ++ [x]) ys ⟨setCl s.cl x, s.td, s.nx⟩ := ⟨st, h.td, h.nx⟩
  obtain ⟨k1, k2⟩ := ps_ok (s := ⟨setCl s.cl x, s.td, s.nx⟩) st.len hg h.td hy
  refine ⟨⟨x.1, x.2.1, x.2.2, rfl, hx0, hx, h0, hj, hne, ?_, h.st.len, hp, rfl, k1, no_ring k2, rfl, rfl⟩, hip⟩
  have := (h.st.pm _ hx).length_eq
  have := own_len q x.1
  omega
theorem bd_map {lo hi : Option Int} {y : Int} (h : BdOk (lo.map (· - y)) (hi.map (· - y))) : BdOk lo hi := by
  refine ⟨?_, fun l u el eh => ?_⟩
  · rcases h.sm with q | q
    · exact .inl (by simpa using q)
    · exact .inr (by simpa using q)
  · have := h.le (l - y) (u - y) (by rw [el] <;> rfl) (by rw [eh] <;> rfl)
    omega
theorem l_tell {gs row : List Int} {q : List St3} {ys : List Dd} {s : PS} {past : List PS} {x : Dd} (h : IP gs q ys s) (h0 : 0 ≤ x.1) (hp : past.length ≤ 1000) (hg : Gd s.cl) (hy : YsOk row s.cl (ys ++ [x])) :
    R_tells s past [pt x.1, .int x.2.a, .int x.2.b, op x.2.lo, op x.2.hi] ⟨s.cl, s.td ++ [⟨s.nx, x.1, x.2⟩], s.nx + 1⟩ (past ++ [s]) (.int s.nx) ∧ IP gs q (ys ++ [x]) ⟨s.cl, s.td ++ [⟨s.nx, x.1, x.2⟩], s.nx + 1⟩ := by
  have htd : (s.td ++ [(⟨s.nx, x.1, x.2⟩ : Told)]).map (fun t : Told => (t.mo, t.t)) = ys ++ [x] := by
    rw [List.map_append, h.td]
    rfl
  obtain ⟨k1, k2⟩ := ps_ok (s := ⟨s.cl, s.td ++ [⟨s.nx, x.1, x.2⟩], s.nx + 1⟩) h.st.len hg htd hy
  have hk := (hy.each x (by simp)).2.2
  have hl := hy.len
  have el : ys.length = s.td.length := by rw [← h.td, List.length_map]
  rw [List.length_append, List.length_singleton] at hl
  refine ⟨⟨x.1, x.2.a, x.2.b, x.2.lo, x.2.hi, rfl, h0, hk.ok.a, hk.ok.b, hk.ok.ne, bd_map hk.ok.bd, by omega, hp, rfl, k1, no_ring k2, rfl, rfl⟩, h.st, htd, fun t ht => ?_⟩
  show t.n < s.nx + 1
  rcases List.mem_append.mp ht with ht | ht
  · have := h.nx t ht
    omega
  · rw [List.mem_singleton.mp ht]
    exact Nat.lt_succ_self _
theorem l_false {gs : List Int} {q : List St3} {ys : List Dd} {s : PS} {past : List PS} {x : Dd} (h : IP gs q ys s) (hl : ys.length ≤ 10) (hp : past.length ≤ 1000) :
    R_calls_false ⟨s.cl, s.td ++ [⟨s.nx, x.1, x.2⟩], s.nx + 1⟩ past [.int s.nx] ⟨s.cl, s.td, s.nx + 1⟩ (past ++ [⟨s.cl, s.td ++ [⟨s.nx, x.1, x.2⟩], s.nx + 1⟩]) .none ∧ IP gs q ys ⟨s.cl, s.td, s.nx + 1⟩ := by
  have el : ys.length = s.td.length := by rw [← h.td, List.length_map]
  refine ⟨⟨s.nx, rfl, ⟨⟨s.nx, x.1, x.2⟩, List.mem_append_right _ (List.mem_singleton.mpr rfl), rfl⟩, by rw [List.length_append, List.length_singleton]; omega, hp, ?_, rfl, rfl⟩, h.st, h.td, fun t ht => Nat.lt_succ_of_lt (h.nx t ht)⟩
  have e1 : (s.td.filter fun t => !decide (t.n = s.nx)) = s.td := List.filter_eq_self.mpr fun t ht => by
    have := h.nx t ht
    rw [decide_eq_false (by omega)] <;> rfl
  rw [List.filter_append, e1]
  simp
theorem drC_set {cl : Cl} {x : St3} (hx : x.1 < cl.length) (c : Nat) (m : Int) : drC (setCl cl x) c m = drC cl c m + (if c = x.1 then (if x.2.1 ≤ m then x.2.2 else 0) else 0) := by
  unfold drC setCl
  rw [clAt_set hx]
  by_cases e : c = x.1
  · rw [if_pos e, if_pos e, e]
    show m * (clAt cl x.1).1 / 27720 + jt (insS x.2.1 x.2.2 (clAt cl x.1).2) m = m * (clAt cl x.1).1 / 27720 + jt (clAt cl x.1).2 m + _
    rw [jt_ins]
    omega
  · rw [if_neg e, if_neg e]
    omega
theorem tkn_set {cl : Cl} {x : St3} (hx : x.1 < cl.length) {y : Dd} (h : y.1 < x.2.1) : tkn (setCl cl x) y = tkn cl y := by
  have e : ∀ c, drC (setCl cl x) c y.1 = drC cl c y.1 := fun c => by
    rw [drC_set hx]
    split
    · rw [if_neg (by omega)]
      omega
    · omega
  have eb : byT (setCl cl x) ⟨0, y.1, y.2⟩ = byT cl ⟨0, y.1, y.2⟩ := by
    unfold byT
    rw [e, e]
  unfold tkn taken
  rw [eb]
theorem gd_set {cl : Cl} {x : St3} (hx : x.1 < cl.length) (h : Gd cl) : Gd (setCl cl x) := fun c hc => by
  unfold setCl
  rw [clAt_set hx]
  split
  · rename_i e
    rw [← e]
    exact h c hc
  · exact h c hc
theorem gd_of {gs : List Int} {q : List St3} {cl : Cl} (h : StC gs q cl) (hg : ∀ g ∈ gs, G4 g) (hl : gs.length = 6) : Gd cl := fun c hc => by
  rw [h.gain c hc]
  have : gs.getD c 0 = gs[c] := by
    have : c < gs.length := by omega
    simp [List.getD, this]
  rw [this]
  exact (hg _ (List.getElem_mem _)).2
/-- a set behind all tellings' moments -/
theorem ys_set {row : List Int} {cl : Cl} {ys : List Dd} {x : St3} (hx : x.1 < cl.length) (h : YsOk row cl ys) (hm : ∀ y ∈ ys, y.1 < x.2.1) : YsOk row (setCl cl x) ys := ⟨h.len, fun y hy => by
  obtain ⟨h1, h2, h3⟩ := h.each y hy
  exact ⟨h1, h2, by rw [tkn_set hx (hm y hy)]; exact h3⟩⟩
/-- the telling that is told and called false -/
def x0 : Dd := (9240, ⟨0, 5, some (-27720000000), none⟩)
theorem x0_kept {gs row : List Int} {q : List St3} {cl : Cl} (hrow : RowOk row) (h : StC gs q cl) (hg : ∀ g ∈ gs, G4 g) (hl : gs.length = 6) (hq : ∀ y ∈ q, y.2.2.natAbs ≤ 831600) (hql : q.length ≤ 4) : Kept row (tkn cl x0) := by
  have hd : ∀ c, c < 6 → (drC cl c 9240).natAbs ≤ 4000000 := fun c hc => by
    unfold drC dr
    have hgc : GainOk (clAt cl c).1 := by
      rw [h.gain c hc]
      have : gs.getD c 0 = gs[c] := by
        have : c < gs.length := by omega
        simp [List.getD, this]
      rw [this]
      exact (hg _ (List.getElem_mem _)).1
    have hj : (jt (clAt cl c).2 9240).natAbs ≤ 4 * 831600 := by
      rw [jt_js, js_perm (h.pm c hc)]
      refine Nat.le_trans (js_small 9240 (B := 831600) fun s hs => hq _ (own_mem hs)) (Nat.mul_le_mul_right _ ?_)
      exact Nat.le_trans (own_len q c) hql
    obtain ⟨g1, g2⟩ := hgc
    omega
  have hb : (byT cl ⟨0, x0.1, x0.2⟩).natAbs ≤ 8000000 := by
    unfold byT
    have h1 := hd 5 (by decide)
    have h2 := hd 0 (by decide)
    show (drC cl 5 9240 - drC cl 0 9240).natAbs ≤ 8000000
    omega
  generalize ey : byT cl ⟨0, x0.1, x0.2⟩ = y at hb
  have et : tkn cl x0 = ⟨0, 5, some (-27720000000 - y), none⟩ := by
    unfold tkn taken
    rw [ey]
    rfl
  rw [et]
  have r5 := rw_sm hrow 5
  have r0 := rw_sm hrow 0
  refine ⟨⟨by show 0 < 6; decide, by show 5 < 6; decide, by show 0 ≠ 5; decide, ⟨.inl rfl, fun _ _ _ e => by cases e⟩⟩, fun l e => ?_, (fun u e => by cases e), fun l e => ?_, fun u e => by cases e⟩
  · cases e
    show -27720000000 - y ≤ rw0 row 5 - rw0 row 0
    omega
  · cases e
    show (-27720000000 - y).natAbs < 2 ^ 39
    omega
theorem str_eq {row : List Int} {s1 s2 : PS} (hk : AllKept row (tsOf s1)) (hp : (tsOf s1).Perm (tsOf s2)) (hc : s1.cl = s2.cl) {c : Nat} (hc6 : c < 6) (mo : Int) : strD s1 c mo = strD s2 c mo := by
  unfold strD
  have e1 : farD (s1.td.map (taken s1.cl)) 0 c = farD (s2.td.map (taken s2.cl)) 0 c := far_perm hp hk hc6
  have e2 : farD (s1.td.map (taken s1.cl)) c 0 = farD (s2.td.map (taken s2.cl)) c 0 := far_perm hp hk (by decide)
  rw [e1, e2, hc]
theorem l_same {row : List Int} {s1 s2 : PS} {ys zs : List Dd} (hl : s1.cl.length = 6) (hg : Gd s1.cl) (hc : s1.cl = s2.cl) (h1 : s1.td.map (fun t => (t.mo, t.t)) = ys) (h2 : s2.td.map (fun t => (t.mo, t.t)) = zs) (hp : ys.Perm zs) (hy : YsOk row s1.cl ys) : SameOk s1 s2 := by
  obtain ⟨k1, k2⟩ := ps_ok hl hg h1 hy
  have hz : YsOk row s2.cl zs := ⟨by rw [← hp.length_eq]; exact hy.len, fun x hx => by rw [← hc]; exact hy.each x (hp.mem_iff.mpr hx)⟩
  obtain ⟨k3, k4⟩ := ps_ok (by rw [← hc]; exact hl) (by rw [← hc]; exact hg) h2 hz
  have pm : (tsOf s1).Perm (tsOf s2) := by
    rw [ts_eq h1, ts_eq h2, hc]
    exact hp.map _
  refine ⟨k1, k3, fun t ht => ?_, pm, hc, hg, fun c hc6 mo => str_eq k2 pm hc hc6 mo⟩
  have k := k2 t ht
  exact ⟨k.ok.a, k.ok.b, k.sl, k.sh⟩
theorem l_row {gs row : List Int} {q : List St3} {ys : List Dd} {s : PS} (hrow : RowOk row) (h : IP gs q ys s) (hg : ∀ g ∈ gs, G4 g) (hl : gs.length = 6) (hy : YsOk row s.cl ys) (hq : ∀ y ∈ q, 0 ≤ y.2.1 ∧ y.2.2 ≠ 0) (hql : q.length ≤ 6) : RrOk s row := by
  have gd := gd_of h.st hg hl
  obtain ⟨k1, k2⟩ := ps_ok h.st.len gd h.td hy
  have r0 : rw0 row 0 = 0 := by
    unfold rw0 List.getD
    rw [hrow.2.1] <;> rfl
  refine ⟨hrow, k1, no_ring k2, fun c hc => ⟨?_, ⟨?_, fun s hs => ?_, h.st.up c hc⟩, gd c hc⟩, fun c hc y e => ?_, fun c hc y e => ?_⟩
  · rw [h.st.gain c hc]
    have : gs.getD c 0 = gs[c] := by
      have : c < gs.length := by omega
      simp [List.getD, this]
    rw [this]
    exact (hg _ (List.getElem_mem _)).1
  · have := (h.st.pm c hc).length_eq
    have := own_len q c
    omega
  · exact hq _ (own_mem ((h.st.pm c hc).mem_iff.mp hs))
  · have := far_row k2 hc e
    omega
  · have := far_row k2 (by decide) e
    omega
end Gc
namespace Gc
open PySem PySem.Spec PyProof.Rows L2
/-! ## rules for the law's own body -/
section
variable {m : Md} {X : Cx} {σ : L2.St} {H : Hp} {e tg iter a b c o : Expr} {body rest : List Stmt} {pos pos' p : Pos} {D : Ends} {FA : List PyData → Prop} {F G : PyData → Prop} {sl : List (Option Item)} {d : PyData} {k k' : Nat}
/-- for over a list that is only known to be such -/
theorem s_forL (w : Wm m H H) (hp : PassesOwn (model X.prog X.w) X.A X.env X.xe) (hc : X.calm = true) (ja : JDR m X σ H iter (fun d => ∃ ds, d = .list ds ∧ FA ds)) (I : List PyData → Hp → Nat → L2.St → Hp → Prop) (h0 : ∀ ds, FA ds → ∀ H2, Wm m H H2 → I ds H2 0 σ H2) (hb : ∀ ds H2 i σ' H', I ds H2 i σ' H' → Bs m.M H2 H')
    (step : ∀ ds, FA ds → ∀ H2 i σ' H' v, Wm m H H2 → i < ds.length → I ds H2 i σ' H' → Dr X.K m.M H' v (ds.getD i .none) → cG X tg v σ' H' fun σ3 H3 => cSs X body { D with nx := I ds H2 (i + 1), ct := I ds H2 (i + 1), bk := cSs X rest D } σ3 H3)
    (done : ∀ ds, FA ds → ∀ H2 σ' H', Wm m H H2 → I ds H2 ds.length σ' H' → cSs X rest D σ' H') (hs : ∀ x, foldedSetIterable iter X.env x = pure x := by intro _; rfl) : cSs X (.For tg iter body [] pos :: rest) D σ H := by
  refine of_ps (ps_for hp hc (pi_list (tg := tg) pe_c) pg_c pss_c hs) (run_jdr ja w fun v d H2 w2 hd r => ?_)
  obtain ⟨ds, rfl, hF⟩ := hd
  obtain ⟨l, vs, rfl, h1, hm, h2⟩ := Dr.litems r
  refine ⟨l, rfl, ⟨vs, SqL.of h1⟩, fun i mm σ' H' => mm = ds.length - i ∧ i ≤ ds.length ∧ I ds H2 i σ' H', ⟨ds.length, rfl, Nat.zero_le _, h0 ds hF H2 w2⟩, ?_⟩
  rintro i mm σ' H' ⟨rfl, hi, q⟩
  have bb := hb ds H2 i σ' H' q
  have h1' : H' l = some (.lst vs) := bb _ _ h1 (.inl hm)
  have hl := h2.len
  by_cases hlt : i < ds.length
  · refine .inr ⟨⟨vs, vs[i]'(by omega), SqL.of h1', by simp⟩, I ds H2 (i + 1), fun σ3 H3 q3 => ⟨ds.length - (i + 1), by omega, rfl, hlt, q3⟩, fun v H'' yy => ?_⟩
    obtain ⟨rfl, yy⟩ := yy
    obtain ⟨u, e1, e2⟩ := h2.at (get_some hlt)
    have e3 := yy vs (SqL.of h1')
    rw [e1] at e3
    cases e3
    exact step ds hF H2 i σ' _ _ w2 hlt q (Dr.bs bb _ _ e2)
  · have e : i = ds.length := by omega
    subst e
    exact .inl ⟨⟨vs, SqL.of h1', by omega⟩, done ds hF H2 σ' H' w2 q⟩
/-- xs + ys of lists -/
theorem j_catLR {R : PyData → Prop} (ja : JDR m X σ H a F) (jb : JDR m X σ H b G) (h : ∀ f g, F f → G g → ∃ ds es, f = .list ds ∧ g = .list es ∧ ds.length + es.length ≤ 1000 ∧ R (.list (ds ++ es))) : JDR m X σ H (.BinOp a .Add b pos) R := mk_jdr fun H1 w Q q =>
  of_pe (pe_op op_cat pe_c pe_c) (run_jdr ja w fun v f H2 w2 hf r => run_jdr jb (w.trans w2) fun u g H3 w3 hg r3 => by
    obtain ⟨ds, es, rfl, rfl, hz, hR⟩ := h f g hf hg
    exact rv_catL (m := m) (H := H3) hz H3 ((w.trans w2).trans w3).rfl1 v u (Dr.mono w3 _ _ r) r3 Q fun y H4 w4 r4 => q y _ H4 ((w2.trans w3).trans w4) hR r4)
/-- x, y, z = .. -/
theorem s_parD3 (n1 n2 n3 : Nat) {x y z : Str} {px py pz pt : Pos} {kt k2 pt2} {R : PyData → PyData → PyData → Prop} (w : Wm m H H) (E : En X.K m.M H σ sl) (hc : X.calm = true) (ja : JADR m X σ H [a, b, c] FA) (hF : ∀ ds, FA ds → ∃ d1 d2 d3, ds = [d1, d2, d3] ∧ R d1 d2 d3) (hN : X.N.Nodup) (kk : ∀ d1 d2 d3 σ1 H1, R d1 d2 d3 → Wm m H H1 → En X.K m.M H1 σ1 (((sl.set n1 (some (.d d1))).set n2 (some (.d d2))).set n3 (some (.d d3))) → cSs X rest D σ1 H1)
    (h1 : X.N[n1]? = some x := by rfl) (h2 : X.N[n2]? = some y := by rfl) (h3 : X.N[n3]? = some z := by rfl) (q1 : n1 ≠ n2 := by decide) (q2 : n1 ≠ n3 := by decide) (q3 : n2 ≠ n3 := by decide) (hx : X.env.scope.names.lookup x = some .local := by rfl) (hy : X.env.scope.names.lookup y = some .local := by rfl) (hz : X.env.scope.names.lookup z = some .local := by rfl)
    (hw : swappedStores [.Tuple [.Name x px, .Name y py, .Name z pz] kt pt] (.Tuple [a, b, c] k2 pt2) X.env = pure (some [x, y, z]) := by rfl)
    (hs : swapsWithSole [.Tuple [.Name x px, .Name y py, .Name z pz] kt pt] (.Tuple [a, b, c] k2 pt2) pos.line X.env = pure false := by rfl) : cSs X (.Assign [.Tuple [.Name x px, .Name y py, .Name z pz] kt pt] (.Tuple [a, b, c] k2 pt2) pos :: rest) D σ H :=
  of_ps (ps_par3 hc hN h1 h2 h3 q1 q2 q3 hx hy hz pa_c hw hs) (ja H w _ fun vs ds H1 w1 hds r => by
    obtain ⟨d1, d2, d3, rfl, hR⟩ := hF ds hds
    cases r with
    | cons r1 r =>
      cases r with
      | cons r2 r =>
        cases r with
        | cons r3 r =>
          cases r
          exact ⟨_, _, _, rfl, kk d1 d2 d3 _ H1 hR w1 ((((E.mono w1).set (it := .d d1) r1).set (it := .d d2) r2).set (it := .d d3) r3)⟩)
/-- pen = _law_pen_of(cell) -/
theorem s_pen (n : Nat) {x : Str} {i : Int} {p2 pp : Pos} (L : Fo X.prog X.w X.K X.mg X.base 1 "_law_pen_of" [] spN) (hr : Room k' X.A) (w : Wm m H H) (hm : m.M = []) (E : En X.K [] H σ sl) (je : JD m X σ H e (.int i)) (hN : X.N.Nodup) (kk : ∀ pa σ1 H1, H pa = none → Same H H1 → PenAt H1 pa → Wm (mdp pa) H1 H1 → En X.K [pa] H1 σ1 (sl.set n (some (.v (.ref pa)))) → cSs X rest D σ1 H1)
    (hi : X.N[n]? = some x := by rfl) (hx : Loc X.env.scope x := by first | exact Or.inl rfl | exact Or.inr rfl) (hk : 1 ≤ k' := by decide) (hg : Gl X "_law_pen_of" := by rfl)
    (he : starEach [e] X.env = (false, eval e X.env) :: starEach [] X.env := by rfl) (hpl : (backTo p2 (starEach [] X.env)).any (·.1) = false := by rfl)
    (hs : swapsWith (.Call (.Name "_law_pen_of" pp) [e] [] p2) (some (.Name x pos')) pos.line X.env = pure false := by rfl) (hf : X.fn x = true ∨ X.env.scope.names.lookup x = some .local := by first | exact .inl rfl | exact .inr rfl) : cSs X (.Assign [.Name x pos'] (.Call (.Name "_law_pen_of" pp) [e] [] p2) pos :: rest) D σ H :=
  of_ps (ps_set hN hi hx pe_c hs hf) (c_call L hr hk (ja_cons je ja_nil he H w _ fun vs H1 w1 r => by
    obtain ⟨v, rfl, r1⟩ := r.one
    cases r1
    refine ⟨i, rfl, fun l H' hl ks hpen => ?_⟩
    have s01 : Same H H1 := fun b o hb => w1.keep b o hb (.inl fun q => by have := m.sub b q; rw [hm] at this; cases this)
    have hlH : H l = none := by
      cases h : H l with
      | none => rfl
      | some o =>
        rw [s01 l o h] at hl
        cases hl
    have s02 : Same H H' := fun b o hb => ks b o (s01 b o hb)
    have hpw : Wm (mdp l) H' H' := by
      refine ⟨fun _ _ h _ => h, fun a ha => ?_, fun a ha => ?_⟩
      · have e : a = l := List.mem_singleton.mp ha
        subst e
        exact hpen
      · have e : a = l := List.mem_singleton.mp ha
        subst e
        obtain ⟨o, q, _⟩ := hpen
        rw [q]
        simp
    have E2 : En X.K [l] H' σ sl := E.sub s02 fun b hb q => by
      have e : b = l := List.mem_singleton.mp q
      rw [e] at hb
      exact absurd hlH hb
    exact kk l _ H' hlH s02 hpen hpw (E2.set (it := .v (.ref l)) rfl)) hg (by decide) he hpl)
end
/-! ### the three posts -/
theorem Bs.wide {M M' : List Addr} {H H1 : Hp} (h : ∀ a, a ∈ M → a ∈ M') (b : Bs M H H1) : Bs M' H H1 := fun a o e q => b a o e (q.imp (fun z q => z (h a q)) id)
theorem wm_bs {m : Md} {H H1 : Hp} {a l : Addr} (w : Wm m H H) (b : Bs [a, l] H H1) (ha : a ∉ m.P) (hl : l ∉ m.P) (h1 : H1 a ≠ none) (h2 : H1 l ≠ none) : Wm m H1 H1 := ⟨fun _ _ h _ => h, fun x hx => by
  obtain ⟨o, e, k⟩ := w.pens x hx
  refine ⟨o, b x o e (.inl fun q => ?_), k⟩
  have e2 : x = a ∨ x = l := by simpa using q
  rcases e2 with rfl | rfl
  · exact ha hx
  · exact hl hx, fun x hx => by
  by_cases e : x = a
  · rw [e]
    exact h1
  · by_cases e2 : x = l
    · rw [e2]
      exact h2
    · cases h : H x with
      | none => exact absurd h (w.ok x hx)
      | some o =>
        rw [b x o h (.inl (by simp [e, e2]))]
        simp⟩
theorem PostAt.some2 {K : PySem.W.Frag} {C : Addr} {H : Hp} {a l : Addr} {s : PS} {past : List PS} (h : PostAt K C H a l s past) : H a ≠ none ∧ H l ≠ none := by
  obtain ⟨dx, v1, v2, h1, _⟩ := h.ex
  obtain ⟨vs, g1, _⟩ := h.pst
  rw [h1, g1]
  simp
section
variable {m : Md} {X : Cx} {σ : L2.St} {H : Hp} {e1 e2 o b : Expr} {pos p : Pos} {k' : Nat} {L : Addr} {ps : List Addr} {C a1 l1 a2 l2 : Addr} {s1 s2 : PS} {p1 p2 : List PS}
/-- posts[n] -/
theorem j_post (n : Nat) {a : Addr} (hL : H L = some (.lst (ps.map V.ref))) (hLP : L ∉ m.P) (hn : ps[n]? = some a) (jo : J m X σ H o (.v (.ref L))) (jb : JD m X σ H b (.int n)) (hs : PlainIx b := by exact fun _ _ => rfl) : J m X σ H (.Subscript o b pos) (.v (.ref a)) := fun H1 w Q q =>
  of_pe (pe_ix ix_list pe_c pe_c hs) (jo H1 w _ fun v H2 w2 r => jb H2 (w.trans w2) _ fun y H3 w3 ry => by
    have e1 : v = V.ref L := r
    subst e1
    cases ry
    have h3 := ((w.trans w2).trans w3).keep _ _ hL (.inl hLP)
    exact ⟨L, _, n, .ref a, rfl, rfl, SqL.of h3, at_of rfl (by rw [List.getElem?_map, hn] <;> rfl), q _ H3 (w2.trans w3) rfl⟩)
theorem j_same (G : FoG X.prog X.w X.K X.mg X.base 9 "_law_same" (spSame X.K C)) (hgd : X.A.guards = some []) (hr : Room k' X.A) (ha1 : a1 ∉ m.P) (hl1 : l1 ∉ m.P) (ha2 : a2 ∉ m.P) (hl2 : l2 ∉ m.P) (hp1 : PostAt X.K C H a1 l1 s1 p1) (hp2 : PostAt X.K C H a2 l2 s2 p2) (hs : SameOk s1 s2) (j1 : J m X σ H e1 (.v (.ref a1))) (j2 : J m X σ H e2 (.v (.ref a2))) (hk : 9 ≤ k' := by decide) (hg : Gl X "_law_same" := by rfl)
    (he : starEach [e1, e2] X.env = (false, eval e1 X.env) :: starEach [e2] X.env := by rfl) (he2 : starEach [e2] X.env = (false, eval e2 X.env) :: starEach [] X.env := by rfl) (hpl : (backTo pos (starEach [e2] X.env)).any (·.1) = false := by rfl) : JD m X σ H (.Call (.Name "_law_same" p) [e1, e2] [] pos) (.bool true) := fun H1 w Q q =>
  c_callG G hgd hr hk (ja_cons j1 (ja_cons j2 ja_nil he2) he H1 w _ fun vs H2 w2 r => by
    obtain ⟨v, u, rfl, r1, r2⟩ := r.two
    have q1 : v = V.ref a1 := r1
    have q2 : u = V.ref a2 := r2
    subst q1
    subst q2
    exact ⟨a1, l1, s1, p1, a2, l2, s2, p2, rfl, hp1.wm (w.trans w2) ha1 hl1, hp2.wm (w.trans w2) ha2 hl2, hs, fun H' kk => q _ H' (w2.trans (w2.rfl1.same kk)) (.bl true)⟩) hg (by decide) he hpl
theorem j_rr {row : List Int} (G : Fo X.prog X.w X.K X.mg X.base 9 "_law_row_right" [] (spG X.K C R_rr)) (hr : Room k' X.A) (ha1 : a1 ∉ m.P) (hl1 : l1 ∉ m.P) (hp1 : PostAt X.K C H a1 l1 s1 p1) (hs : RrOk s1 row) (j1 : J m X σ H e1 (.v (.ref a1))) (j2 : JD m X σ H e2 (rowD row)) (hk : 9 ≤ k' := by decide) (hg : Gl X "_law_row_right" := by rfl)
    (he : starEach [e1, e2] X.env = (false, eval e1 X.env) :: starEach [e2] X.env := by rfl) (he2 : starEach [e2] X.env = (false, eval e2 X.env) :: starEach [] X.env := by rfl) (hpl : (backTo pos (starEach [e2] X.env)).any (·.1) = false := by rfl) : JD m X σ H (.Call (.Name "_law_row_right" p) [e1, e2] [] pos) (.bool true) := fun H1 w Q q =>
  c_call G hr hk (ja_cons j1 (ja_cons j2 ja_nil he2) he H1 w _ fun vs H2 w2 r => by
    obtain ⟨v, u, rfl, r1, r2⟩ := r.two
    have q1 : v = V.ref a1 := r1
    subst q1
    have r2' : Dr X.K [] H2 u (rowD row) := Dr.free _ _ (nolstA_map pt (fun _ => rfl) row) r2
    exact ⟨a1, l1, s1, p1, [u], [rowD row], .bool true, rfl, hp1.wm (w.trans w2) ha1 hl1, .one r2', ⟨row, rfl, hs, rfl⟩, fun v' H' kk r' => q _ H' (w2.trans (w2.rfl1.same kk)) (Dr.free _ _ rfl r')⟩) hg (by decide) he hpl
end
end Gc
namespace Gc
open PySem
/-! ## what one cell gives -/
structure Wd (gs row : List Int) (ss : List St3) (n : Nat) (xs : List Dd) : Prop where
  gl : gs.length = 6
  g0 : gs[0]? = some 0
  g4 : ∀ g ∈ gs, G4 g
  rok : RowOk row
  sok : SetsL n ss
  n4 : n ≤ 4
  xl : xs.length ≤ 8
  dok : ∀ x ∈ xs, DeedOk row (clocksF gs ss) x
theorem perm_pre {α β : Type} (f : α → β) {l1 l2 : List β} (p : l1.Perm l2) : ∀ xs : List α, l2 = xs.map f → ∃ zs : List α, zs.Perm xs ∧ l1 = zs.map f := by
  induction p with
  | nil =>
    intro xs h
    cases xs with
    | nil => exact ⟨[], .nil, rfl⟩
    | cons _ _ => cases h
  | cons b _ ih =>
    intro xs h
    cases xs with
    | nil => cases h
    | cons x xs =>
      rw [List.map_cons] at h
      obtain ⟨h1, h2⟩ := List.cons.inj h
      obtain ⟨zs, hp, rfl⟩ := ih xs h2
      exact ⟨x :: zs, hp.cons x, by rw [List.map_cons, h1]⟩
  | swap a b l =>
    intro xs h
    match xs, h with
    | x :: y :: xs, h =>
      rw [List.map_cons, List.map_cons] at h
      obtain ⟨h1, h2⟩ := List.cons.inj h
      obtain ⟨h3, h4⟩ := List.cons.inj h2
      exact ⟨y :: x :: xs, .swap x y xs, by rw [List.map_cons, List.map_cons, h1, h3, h4]⟩
  | trans _ _ ih1 ih2 =>
    intro xs h
    obtain ⟨ys, hp, e⟩ := ih2 xs h
    obtain ⟨zs, hp2, e2⟩ := ih1 ys e
    exact ⟨zs, hp2.trans hp, e2⟩
def dsD (qs : List St3) (zs : List Dd) : List PyData := qs.map setD ++ zs.map deedD
theorem nolst_ds (qs : List St3) (zs : List Dd) : nolstA (dsD qs zs) = true := by
  unfold dsD
  induction qs with
  | nil => exact nolstA_map _ nolst_deed zs
  | cons q qs ih =>
    show (nolst (setD q) && nolstA (qs.map setD ++ zs.map deedD)) = true
    rw [ih] <;> rfl
section
variable {gs row : List Int} {ss qs : List St3} {n : Nat} {xs zs : List Dd} {i : Nat} {s : PS} {past : List PS}
theorem ds_set (hi : i < qs.length) : (dsD qs zs).getD i .none = setD qs[i] := by
  unfold dsD
  simp [List.getD, List.getElem?_append, hi]
theorem ds_deed (hi : ¬ i < qs.length) (hz : i - qs.length < zs.length) : (dsD qs zs).getD i .none = deedD zs[i - qs.length] := by
  unfold dsD
  simp [List.getD, List.getElem?_append, hi, hz]
theorem Wd.sl (W : Wd gs row ss n xs) (hq : qs.Perm ss) : qs.length ≤ 4 := by
  have := hq.length_eq
  have := W.sok.len
  have := W.n4
  omega
theorem Wd.each (W : Wd gs row ss n xs) (hq : qs.Perm ss) : ∀ y ∈ qs, 0 < y.1 ∧ y.1 < 6 ∧ y.2.2 ≠ 0 ∧ (0 ≤ y.2.1 ∧ y.2.1 < 166320) ∧ y.2.2.natAbs ≤ 831600 := fun y hy => by
  have hm := hq.mem_iff.mp hy
  obtain ⟨h1, h2, h3, j, h4, h5, h6⟩ := W.sok.each y hm
  have hn := W.n4
  refine ⟨h1, h2, h3, ?_, W.sok.jm y hm⟩
  rw [h4]
  omega
theorem Wd.ne (W : Wd gs row ss n xs) (hq : qs.Perm ss) : qs.Pairwise fun a b => a.2.1 ≠ b.2.1 :=
  (hq.pairwise_iff (fun {a b} h => Ne.symm h)).mpr (W.sok.up.imp fun h => by omega)
theorem Wd.ys (W : Wd gs row ss n xs) (hq : qs.Perm ss) (hz : zs.Perm xs) (h : IP gs (qs.take i) (zs.take (i - qs.length)) s) : YsOk row s.cl (zs.take (i - qs.length)) := by
  have hzl := hz.length_eq
  have hxl := W.xl
  refine ⟨by rw [List.length_take]; omega, fun x hx => ?_⟩
  by_cases hi : i ≤ qs.length
  · rw [Nat.sub_eq_zero_of_le hi] at hx
    cases hx
  · have e : qs.take i = qs := List.take_of_length_le (by omega)
    have st := h.st
    rw [e] at st
    have ec := stc_end st W.gl hq W.sok
    rw [ec]
    have hd := W.dok x (hz.mem_iff.mp (List.mem_of_mem_take hx))
    have h1 := hd.nn
    have h2 := hd.sm
    exact ⟨by omega, hd.dv, hd.kept⟩
theorem Wd.gd (W : Wd gs row ss n xs) {q : List St3} {ys : List Dd} (h : IP gs q ys s) : Gd s.cl := gd_of h.st W.g4 W.gl
theorem Wd.fresh (W : Wd gs row ss n xs) (hq : qs.Perm ss) (i : Nat) {x : St3} (hx : 166320 ≤ x.2.1) : ∀ y ∈ qs.take i, y.1 = x.1 → y.2.1 ≠ x.2.1 := fun y hy _ => by
  have := (W.each hq y (List.mem_of_mem_take hy)).2.2.2.1
  omega
/-- a deed of the list -/
theorem run_step (W : Wd gs row ss n xs) (hq : qs.Perm ss) (hz : zs.Perm xs) (hi : i < (dsD qs zs).length) (h : IP gs (qs.take i) (zs.take (i - qs.length)) s) (hp : past.length ≤ 900) : ∃ s2, R_tell s past ((dsD qs zs).getD i .none) s2 (past ++ [s]) ∧ nolst ((dsD qs zs).getD i .none) = true ∧ IP gs (qs.take (i + 1)) (zs.take (i + 1 - qs.length)) s2 := by
  have hql := W.sl hq
  by_cases hiq : i < qs.length
  · have e0 : i - qs.length = 0 := by omega
    have e1 : i + 1 - qs.length = 0 := by omega
    rw [e0, List.take_zero] at h
    rw [ds_set hiq, e1, List.take_zero, List.take_succ_eq_append_getElem hiq]
    obtain ⟨a1, a2, a3, ⟨a4, _⟩, a5⟩ := W.each hq _ (List.getElem_mem hiq)
    have hne := W.ne hq
    have hf : ∀ y ∈ qs.take i, y.1 = qs[i].1 → y.2.1 ≠ qs[i].2.1 := fun y hy _ => by
      obtain ⟨j, hj, rfl⟩ := List.getElem_of_mem hy
      rw [List.length_take] at hj
      rw [List.getElem_take]
      exact List.pairwise_iff_getElem.mp hne j i (by omega) hiq (by omega)
    obtain ⟨r1, r2⟩ := l_set (row := row) (past := past) h a1 a2 a3 a4 hf (by rw [List.length_take]; omega) (by omega) (gd_set (by rw [h.st.len]; exact a2) (W.gd h)) ⟨by simp, by simp⟩
    exact ⟨_, .inl ⟨qs[i], rfl, r1⟩, rfl, r2⟩
  · have hil : i - qs.length < zs.length := by
      unfold dsD at hi
      rw [List.length_append, List.length_map, List.length_map] at hi
      omega
    have e1 : i + 1 - qs.length = (i - qs.length) + 1 := by omega
    have eq1 : qs.take i = qs := List.take_of_length_le (by omega)
    have eq2 : qs.take (i + 1) = qs := List.take_of_length_le (by omega)
    have hy := W.ys hq hz h
    rw [eq1] at h
    rw [ds_deed hiq hil, e1, eq2, List.take_succ_eq_append_getElem hil]
    have ec := stc_end h.st W.gl hq W.sok
    have hd := W.dok zs[i - qs.length] (hz.mem_iff.mp (List.getElem_mem hil))
    have h1 := hd.nn
    have h2 := hd.sm
    have hzl := hz.length_eq
    have hxl := W.xl
    have hy2 : YsOk row s.cl (zs.take (i - qs.length) ++ [zs[i - qs.length]]) := ⟨by rw [List.length_append, List.length_take, List.length_singleton]; omega, fun x hx => by
      rcases List.mem_append.mp hx with hx | hx
      · exact hy.each x hx
      · rw [List.mem_singleton.mp hx, ec]
        exact ⟨by omega, hd.dv, hd.kept⟩⟩
    obtain ⟨r1, r2⟩ := l_tell (past := past) h hd.nn (by omega) (W.gd h) hy2
    exact ⟨_, .inr ⟨zs[i - qs.length], rfl, r1⟩, nolst_deed _, r2⟩
/-- the telling that is told and called false -/
theorem run_extra (W : Wd gs row ss n xs) (hq : qs.Perm ss) (hz : zs.Perm xs) (h : IP gs (qs.take i) (zs.take (i - qs.length)) s) (hp : past.length ≤ 900) : ∃ sA sB, R_tells s past [pt 9240, .int (0 : Nat), .int (5 : Nat), op (some (-27720000000)), op none] sA (past ++ [s]) (.int s.nx) ∧ R_calls_false sA (past ++ [s]) [.int s.nx] sB (past ++ [s] ++ [sA]) .none ∧ IP gs (qs.take i) (zs.take (i - qs.length)) sB := by
  have hy := W.ys hq hz h
  have hql := W.sl hq
  have hzl := hz.length_eq
  have hxl := W.xl
  have k0 := x0_kept W.rok h.st W.g4 W.gl (fun y hy => (W.each hq y (List.mem_of_mem_take hy)).2.2.2.2) (by rw [List.length_take]; omega)
  have hy2 : YsOk row s.cl (zs.take (i - qs.length) ++ [x0]) := ⟨by rw [List.length_append, List.length_take, List.length_singleton]; omega, fun x hx => by
    rcases List.mem_append.mp hx with hx | hx
    · exact hy.each x hx
    · rw [List.mem_singleton.mp hx]
      exact ⟨by decide, by decide, k0⟩⟩
  obtain ⟨r1, r2⟩ := l_tell (past := past) (x := x0) h (by decide) (by omega) (W.gd h) hy2
  obtain ⟨r3, r4⟩ := l_false (past := past ++ [s]) (x := x0) h hy.len (by rw [List.length_append, List.length_singleton]; omega)
  exact ⟨_, _, r1, r3, r4⟩
/-- a set behind all -/
theorem run_far (W : Wd gs row ss n xs) (hq : qs.Perm ss) (hz : zs.Perm xs) {x : St3} (hx0 : 0 < x.1) (hx : x.1 < 6) (hj : x.2.2 ≠ 0) (hm : 526680 < x.2.1) (h : IP gs (qs.take i) (zs.take (i - qs.length)) s) (hp : past.length ≤ 900) :
    R_sets s past [.int x.1, pt x.2.1, pt x.2.2] ⟨setCl s.cl x, s.td, s.nx⟩ (past ++ [s]) .none ∧ YsOk row (setCl s.cl x) (zs.take (i - qs.length)) ∧ IP gs (qs.take i ++ [x]) (zs.take (i - qs.length)) ⟨setCl s.cl x, s.td, s.nx⟩ := by
  have hl : x.1 < s.cl.length := by rw [h.st.len]; exact hx
  have hql := W.sl hq
  have hy := ys_set hl (W.ys hq hz h) (x := x) fun y hy => by
    have hd := W.dok y (hz.mem_iff.mp (List.mem_of_mem_take hy))
    have := hd.sm
    omega
  obtain ⟨r1, r2⟩ := l_set (past := past) h hx0 hx hj (by omega) (W.fresh hq i (by omega)) (by rw [List.length_take]; omega) (by omega) (gd_set hl (W.gd h)) hy
  exact ⟨r1, hy, r2⟩
end
/-! ### behind the loops -/
theorem eqvAll_len : ∀ {xs ys : List PyData}, PyData.eqvAll xs ys = true → xs.length = ys.length
  | [], [], _ => rfl
  | [], _ :: _, h => by simp [PyData.eqvAll] at h
  | _ :: _, [], h => by simp [PyData.eqvAll] at h
  | x :: xs, y :: ys, h => by
    rw [eqvAll_cons] at h
    rw [List.length_cons, List.length_cons, eqvAll_len (Bool.and_eq_true_iff.mp h).2]
theorem clk_ne {g g' : Int} {ss tt : List (Int × Int)} (h : ss.length ≠ tt.length) : PyData.eqv (clk g ss) (clk g' tt) = false := by
  unfold clk
  rw [eqv_tup, eqvAll_cons, eqvAll_cons, eqvAll_nil, eqv_tup]
  have e : PyData.eqvAll (ss.map sp) (tt.map sp) = false := by
    cases q : PyData.eqvAll (ss.map sp) (tt.map sp) with
    | false => rfl
    | true =>
      have := eqvAll_len q
      rw [List.length_map, List.length_map] at this
      exact absurd this h
  rw [e, Bool.false_and, Bool.and_false]
theorem strD_is (s : PS) (c : Nat) (mo : Int) : strD s c mo = stD ((farD (tsOf s) 0 c).map fun z => -z + drC s.cl c mo) ((farD (tsOf s) c 0).map (· + drC s.cl c mo)) := rfl
/-- a set moves its clock's stretch behind it by its jump -/
theorem str_moved {s : PS} {ys : List Dd} {x : St3} {mo : Int} (hl : x.1 < s.cl.length) (h : s.td.map (fun t => (t.mo, t.t)) = ys) (hm : ∀ y ∈ ys, y.1 < x.2.1) (hmo : x.2.1 ≤ mo) : ∃ lo hi, strD s x.1 mo = stD lo hi ∧ strD ⟨setCl s.cl x, s.td, s.nx⟩ x.1 mo = stD (lo.map (· + x.2.2)) (hi.map (· + x.2.2)) := by
  refine ⟨_, _, strD_is s x.1 mo, ?_⟩
  have et : tsOf ⟨setCl s.cl x, s.td, s.nx⟩ = tsOf s := by
    rw [ts_eq (s := ⟨setCl s.cl x, s.td, s.nx⟩) h, ts_eq h]
    exact List.map_congr_left fun y hy => tkn_set hl (hm y hy)
  have ed : drC (setCl s.cl x) x.1 mo = drC s.cl x.1 mo + x.2.2 := by
    rw [drC_set hl, if_pos rfl, if_pos hmo]
  rw [strD_is, et]
  show stD ((farD (tsOf s) 0 x.1).map fun z => -z + drC (setCl s.cl x) x.1 mo) ((farD (tsOf s) x.1 0).map (· + drC (setCl s.cl x) x.1 mo)) = _
  rw [ed, Option.map_map, Option.map_map]
  congr 1
  · congr 1
    funext z
    show -z + (drC s.cl x.1 mo + x.2.2) = -z + drC s.cl x.1 mo + x.2.2
    omega
  · congr 1
    funext z
    show z + (drC s.cl x.1 mo + x.2.2) = z + drC s.cl x.1 mo + x.2.2
    omega
end Gc
namespace Gc
open PySem PySem.Spec PyProof.Rows L2
theorem nn_ne {H : Hp} {x y : Addr} (h1 : H x ≠ none) (h2 : H y = none) : x ≠ y := fun e => h1 (by rw [e]; exact h2)
/-- the law's mode: a pen, three posts -/
def mdL (pa a0 l0 a1 l1 a2 l2 : Addr) : Md := ⟨[pa], [pa, a0, l0, a1, l1, a2, l2], fun a h => by rw [List.mem_singleton.mp h]; exact List.mem_cons_self ..⟩
structure Pc (pa a0 l0 a1 l1 a2 l2 L : Addr) (H : Hp) : Prop where
  wm : Wm (mdL pa a0 l0 a1 l1 a2 l2) H H
  hL : H L = some (.lst ([a0, a1, a2].map V.ref))
/-- a post among the three -/
structure Ad (pa a0 l0 a1 l1 a2 l2 L : Addr) (n : Nat) (a l : Addr) : Prop where
  np : a ≠ pa ∧ l ≠ pa
  nL : L ≠ a ∧ L ≠ l ∧ L ≠ pa
  at_ : ([a0, a1, a2] : List Addr)[n]? = some a
  mem : a ∈ [pa, a0, l0, a1, l1, a2, l2] ∧ l ∈ [pa, a0, l0, a1, l1, a2, l2]
theorem nP {pa a0 l0 a1 l1 a2 l2 x : Addr} (h : x ≠ pa) : x ∉ (mdL pa a0 l0 a1 l1 a2 l2).P := fun q => h (List.mem_singleton.mp q)
section
variable {pa a0 l0 a1 l1 a2 l2 L a l : Addr} {H H1 : Hp}
theorem Pc.w (h : Pc pa a0 l0 a1 l1 a2 l2 L H) (n : L ≠ pa) (k : Wm (mdL pa a0 l0 a1 l1 a2 l2) H H1) : Pc pa a0 l0 a1 l1 a2 l2 L H1 := ⟨k.rfl1, k.keep _ _ h.hL (.inl (nP n))⟩
theorem Pc.b {n : Nat} (h : Pc pa a0 l0 a1 l1 a2 l2 L H) (A : Ad pa a0 l0 a1 l1 a2 l2 L n a l) (b : Bs [a, l] H H1) (ha : H1 a ≠ none) (hl : H1 l ≠ none) : Pc pa a0 l0 a1 l1 a2 l2 L H1 :=
  ⟨wm_bs h.wm b (nP A.np.1) (nP A.np.2) ha hl, b _ _ h.hL (.inl (by simp [A.nL.1, A.nL.2.1]))⟩
theorem Ad.bs {n : Nat} (A : Ad pa a0 l0 a1 l1 a2 l2 L n a l) {H2 : Hp} (w : Wm (mdL pa a0 l0 a1 l1 a2 l2) H H1) (b : Bs [a, l] H1 H2) : Bs [pa, a, l] H H2 :=
  Bs.trans (fun x o h q => w.keep x o h (q.imp (fun z q => z (by rw [List.mem_singleton.mp q]; exact List.mem_cons_self ..)) id)) (Bs.wide (fun x hx => List.mem_cons_of_mem _ hx) b)
theorem Ad.wide {n : Nat} (A : Ad pa a0 l0 a1 l1 a2 l2 L n a l) (b : Bs [pa, a, l] H H1) : Bs (mdL pa a0 l0 a1 l1 a2 l2).M H H1 := Bs.wide (fun x hx => by
  rcases List.mem_cons.mp hx with rfl | hx
  · exact List.mem_cons_self ..
  · rcases List.mem_cons.mp hx with rfl | hx
    · exact A.mem.1
    · rw [List.mem_singleton.mp hx]
      exact A.mem.2) b
end
section
variable {X : Cx} {σ : L2.St} {H : Hp} {e iter : Expr} {rest : List Stmt} {pos pos' p p1 p2 p3 p4 p5 p6 p7 : Pos} {nn : Nat} {D : Ends} {sl : List (Option Item)} {d : PyData} {k' : Nat} {pa a0 l0 a1 l1 a2 l2 L a l C : Addr} {s s2 : PS} {past past2 : List PS}
/-- _law_tell(_law_posts[n], ..) -/
theorem s_tellL (n : Nat) (Lt : Fo X.prog X.w X.K X.mg X.base 8 "_law_tell" [] (spWF X.K C)) (hr : Room k' X.A) (A : Ad pa a0 l0 a1 l1 a2 l2 L n a l) (hc : Pc pa a0 l0 a1 l1 a2 l2 L H) (hp : PostAt X.K C H a l s past) (E : En X.K (mdL pa a0 l0 a1 l1 a2 l2).M H σ sl) (je : JD (mdL pa a0 l0 a1 l1 a2 l2) X σ H e d) (hd : nolst d = true) (hR : R_tell s past d s2 past2)
    (k : ∀ H1, Bs [pa, a, l] H H1 → Pc pa a0 l0 a1 l1 a2 l2 L H1 → PostAt X.K C H1 a l s2 past2 → En X.K (mdL pa a0 l0 a1 l1 a2 l2).M H1 σ sl → cSs X rest D σ H1)
    (h7 : sl[7]? = some (some (.v (.ref L))) := by rfl) (hN : X.N[7]? = some ("_law_posts" : Str) := by rfl) (hv : Vis X.env.scope "_law_posts" := by first | exact Or.inl rfl | exact Or.inr (Or.inl rfl) | exact Or.inr (Or.inr rfl)) (hk : 8 ≤ k' := by decide) (hg : Gl X "_law_tell" := by rfl)
    (he : ∀ e1, e1 = (.Subscript (.Name "_law_posts" p2) (.Constant (.int n) nn p3) p4 : Expr) → starEach [e1, e] X.env = (false, eval e1 X.env) :: starEach [e] X.env := by intro _ h; subst h; rfl) (he2 : starEach [e] X.env = (false, eval e X.env) :: starEach [] X.env := by rfl) (hpl : (backTo pos (starEach [e] X.env)).any (·.1) = false := by rfl)
    (hs : swapsWith (.Call (.Name "_law_tell" p) [.Subscript (.Name "_law_posts" p2) (.Constant (.int n) nn p3) p4, e] [] pos) none pos'.line X.env = pure false := by rfl) : cSs X (.Expr (.Call (.Name "_law_tell" p) [.Subscript (.Name "_law_posts" p2) (.Constant (.int n) nn p3) p4, e] [] pos) pos' :: rest) D σ H :=
  of_ps (ps_expr pe_c hs) (c_tell Lt hr hc.wm (nP A.np.1) (nP A.np.2) hp (j_post n hc.hL (nP A.nL.2.2) A.at_ (j_var 7 E h7 hN hv) j_int) je hd hR (fun v H1 H2 w1 b hp2 => k H2 (A.bs w1 b) ((hc.w A.nL.2.2 w1).b A b hp2.some2.1 hp2.some2.2) hp2 ((E.mono w1).bs (A.wide (A.bs w1.rfl1 b)))) hk hg (he _ rfl) he2 hpl)
variable {x0 x1 x2 x3 x4 x5 x6 x9 : Option Item} {row gs : List Int} {ss qs : List St3} {n0 : Nat} {xs : List Dd}
/-- the loop that tells all -/
theorem s_loopA (n : Nat) (Lt : Fo X.prog X.w X.K X.mg X.base 8 "_law_tell" [] (spWF X.K C)) (hr : Room k' X.A) (W : Wd gs row ss n0 xs) (hq : qs.Perm ss) (A : Ad pa a0 l0 a1 l1 a2 l2 L n a l) (hc : Pc pa a0 l0 a1 l1 a2 l2 L H) (hp : PostAt X.K C H a l (ps0 gs) []) (E : En X.K (mdL pa a0 l0 a1 l1 a2 l2).M H σ [x0, x1, x2, x3, x4, x5, x6, some (.v (.ref L)), none, none, none, none, none])
    (hpass : PassesOwn (model X.prog X.w) X.A X.env X.xe) (hcalm : X.calm = true) (ja : JDR (mdL pa a0 l0 a1 l1 a2 l2) X σ H iter (fun d => ∃ ds, d = .list ds ∧ ∃ zs : List Dd, ds = dsD qs zs ∧ zs.Perm xs)) (hnd : X.N.Nodup)
    (k : ∀ zs σ1 H1 s past, zs.Perm xs → Bs [pa, a, l] H H1 → Pc pa a0 l0 a1 l1 a2 l2 L H1 → PostAt X.K C H1 a l s past → IP gs qs zs s → past.length ≤ 900 → En X.K (mdL pa a0 l0 a1 l1 a2 l2).M H1 σ1 [x0, x1, x2, x3, x4, x5, x6, some (.v (.ref L)), none, none, none, none, none] → cSs X rest D σ1 H1)
    (hN : X.N[7]? = some ("_law_posts" : Str) := by rfl) (hv : Vis X.env.scope "_law_posts" := by first | exact Or.inl rfl | exact Or.inr (Or.inl rfl) | exact Or.inr (Or.inr rfl)) (hN8 : X.N[8]? = some ("_law_deed" : Str) := by rfl) (hv8 : Vis X.env.scope "_law_deed" := by first | exact Or.inl rfl | exact Or.inr (Or.inl rfl) | exact Or.inr (Or.inr rfl)) (hx8 : Loc X.env.scope "_law_deed" := by first | exact Or.inl rfl | exact Or.inr rfl) (hf8 : X.fn "_law_deed" = true ∨ X.env.scope.names.lookup ("_law_deed" : Str) = some .local := by first | exact .inl rfl | exact .inr rfl) (hk : 8 ≤ k' := by decide) (hg : Gl X "_law_tell" := by rfl)
    (hs : ∀ x, foldedSetIterable iter X.env x = pure x := by intro _; rfl) (hsw : swapsWith (.Call (.Name "_law_tell" p) [.Subscript (.Name "_law_posts" p2) (.Constant (.int n) nn p3) p4, .Name "_law_deed" p5] [] p6) none p7.line X.env = pure false := by rfl) : cSs X (.For (.Name "_law_deed" p1) iter [.Expr (.Call (.Name "_law_tell" p) [.Subscript (.Name "_law_posts" p2) (.Constant (.int n) nn p3) p4, .Name "_law_deed" p5] [] p6) p7] [] pos :: rest) D σ H := by
  refine s_forL hc.wm hpass hcalm ja (fun ds H2 i σ' H' => ∃ zs s past, ds = dsD qs zs ∧ zs.Perm xs ∧ Bs [pa, a, l] H2 H' ∧ Pc pa a0 l0 a1 l1 a2 l2 L H' ∧ PostAt X.K C H' a l s past ∧ past.length ≤ i ∧ IP gs (qs.take i) (zs.take (i - qs.length)) s ∧ En X.K (mdL pa a0 l0 a1 l1 a2 l2).M H' σ' [x0, x1, x2, x3, x4, x5, x6, some (.v (.ref L)), none, none, none, none, none]) (fun ds hd H2 w2 => ?_) (fun ds H2 i σ' H' ⟨_, _, _, _, _, b, _⟩ => A.wide b) (fun ds hd H2 i σ' H' v w2 hi h r => ?_) (fun ds hd H2 σ' H' w2 h => ?_) hs
  · obtain ⟨zs, rfl, hz⟩ := hd
    refine ⟨zs, ps0 gs, [], rfl, hz, Bs.refl _ _, hc.w A.nL.2.2 w2, hp.wm w2 (nP A.np.1) (nP A.np.2), Nat.le_refl _, ⟨?_, ?_, fun t ht => by cases ht⟩, E.mono w2⟩
    · rw [List.take_zero]
      exact stc_start W.gl
    · rw [Nat.zero_sub, List.take_zero] <;> rfl
  · obtain ⟨zs, s, past, rfl, hz, b, hc', hp', hl, hip, E'⟩ := h
    have hlen : (dsD qs zs).length = qs.length + zs.length := by unfold dsD; rw [List.length_append, List.length_map, List.length_map]
    have h4 := W.sl hq
    have h8 := W.xl
    have hze := hz.length_eq
    obtain ⟨s2, hR, hnl, hip2⟩ := run_step W hq hz hi hip (past := past) (by omega)
    refine (gt_name 8 hnd hN8 hx8 hf8).run _ H' σ' v _ E' r fun σ3 E4 _ _ => ?_
    have E5 : En X.K (mdL pa a0 l0 a1 l1 a2 l2).M H' σ3 [x0, x1, x2, x3, x4, x5, x6, some (.v (.ref L)), some (.d ((dsD qs zs).getD i .none)), none, none, none, none] := E4
    refine s_tellL n Lt hr A hc' hp' E5 (jd_var 8 E5 rfl hN8 hv8) hnl hR (fun H1 b1 hc1 hp1 E6 => s_nil ⟨zs, s2, past ++ [s], rfl, hz, b.trans b1, hc1, hp1, by rw [List.length_append, List.length_singleton]; omega, hip2, E6.forget 8⟩) rfl hN hv hk hg (by intro _ h; subst h; rfl) (by rfl) (by rfl) hsw
  · obtain ⟨zs, s, past, rfl, hz, b, hc', hp', hl, hip, E'⟩ := h
    have hlen : (dsD qs zs).length = qs.length + zs.length := by unfold dsD; rw [List.length_append, List.length_map, List.length_map]
    have h4 := W.sl hq
    have h8 := W.xl
    have hze := hz.length_eq
    rw [hlen] at hip hl
    rw [List.take_of_length_le (by omega), List.take_of_length_le (by omega)] at hip
    exact k zs σ' H' s past hz (Bs.trans (fun x o h q => w2.keep x o h (q.imp (fun z q => z (by rw [List.mem_singleton.mp q]; exact List.mem_cons_self ..)) id)) b) hc' hp' hip (by omega) E'
end
end Gc
namespace Gc
open PySem PySem.Spec PyProof.Rows L2
def spL (K : PySem.W.Frag) : Sp := fun vs H Q _ => ∃ (a : Addr) (ns : List Int), vs = [V.ref a] ∧ SqL K H a (ns.map V.int) ∧ ns.length ≤ 100 ∧ ∀ H', Q (.bl true) H'
/-- the law's defs -/
structure Lf (P : Program) (w : World) (K : PySem.W.Frag) (mg : Str → Option Value) (base : Heap) (C : Addr) : Prop where
  T : Tx K mg
  X4 : Cx4 K C
  cell : Fo P w K mg base 1 "_law_cell_at" [] (spC K)
  pen : Fo P w K mg base 1 "_law_pen_of" [] spN
  gains : Fo P w K mg base 3 "_law_gains" [] (spP K PreE R_gains)
  row : Fo P w K mg base 4 "_law_row" [] (spP K PreE R_row)
  sets : Fo P w K mg base 3 "_law_sets_of" [] (spPL K PreE R_sets_of)
  told : Fo P w K mg base 5 "_law_told_of" [] (spPL K PreTo R_told_of)
  clocks : Fo P w K mg base 1 "_law_clocks" [] (spD K R_clocks)
  mixed : Fo P w K mg base 3 "_law_mixed" [] (spPL K PreM R_mixed)
  tell : Fo P w K mg base 8 "_law_tell" [] (spWF K C)
  same : FoG P w K mg base 9 "_law_same" (spSame K C)
  rr : Fo P w K mg base 9 "_law_row_right" [] (spG K C R_rr)
  make : C8.Mak P w K mg base 5 "Post" C (spI K C) []
  added : Fo P w K mg base 4 "added" [] (spD K R_plus)
  m_tells : Me P w K mg base C 7 "tells" [] (spW K C R_tells)
  m_false : Me P w K mg base C 3 "calls_false" [] (spW K C R_calls_false)
  m_back : Me P w K mg base C 1 "back" [] (spW K C R_back)
  m_sets : Me P w K mg base C 7 "sets" [] (spW K C R_sets)
  m_str : Me P w K mg base C 8 "stretch_at" [] (spG K C R_str_at)
  m_now : Me P w K mg base C 5 "clock_now" [] (spG K C R_clock_now)
theorem map_inj' {α β : Type} {f : α → β} (hf : ∀ x y, f x = f y → x = y) : ∀ {xs ys : List α}, xs.map f = ys.map f → xs = ys
  | [], [], _ => rfl
  | [], _ :: _, h => by simp at h
  | _ :: _, [], h => by simp at h
  | x :: xs, y :: ys, h => by
    rw [List.map_cons, List.map_cons] at h
    obtain ⟨h1, h2⟩ := List.cons.inj h
    rw [hf _ _ h1, map_inj' hf h2]
theorem sp_inj (x y : Int × Int) (h : sp x = sp y) : x = y := by
  unfold sp at h
  have h1 : pt x.1 = pt y.1 ∧ pt x.2 = pt y.2 := by simpa using h
  exact Prod.ext (pt_inj h1.1) (pt_inj h1.2)
theorem clk_inj (x y : Int × List (Int × Int)) (h : clk x.1 x.2 = clk y.1 y.2) : x = y := by
  unfold clk at h
  have h1 : pt x.1 = pt y.1 ∧ x.2.map sp = y.2.map sp := by simpa using h
  exact Prod.ext (pt_inj h1.1) (map_inj' sp_inj h1.2)
theorem cls_inj {x y : Cl} (h : clsD x = clsD y) : x = y := by
  unfold clsD at h
  have h1 : (x.map fun c => clk c.1 c.2) = (y.map fun c => clk c.1 c.2) := by simpa using h
  exact map_inj' clk_inj h1
theorem clG_of {gs : List Int} {ss : List St3} (hl : gs.length = 6) (hg : ∀ g ∈ gs, G4 g) : ClG (clocksF gs ss) := by
  refine ⟨by simp [clocksF, hl], fun c hc => ?_⟩
  unfold clocksF at hc
  obtain ⟨i, hi, rfl⟩ := List.mem_map.mp hc
  have hi' : i < gs.length := List.mem_range.mp hi
  show (462 : Int) ∣ gs.getD i 0 ∧ (gs.getD i 0).natAbs < 2 ^ 60
  have e : gs.getD i 0 = gs[i] := by simp [List.getD, hi']
  rw [e]
  obtain ⟨⟨h1, h2⟩, h3⟩ := hg _ (List.getElem_mem hi')
  exact ⟨h3, by omega⟩
theorem row_inj {r1 r2 : List Int} (h : rowD r1 = rowD r2) : r1 = r2 := by
  unfold rowD at h
  have e : r1.map pt = r2.map pt := by simpa using h
  exact map_pt_inj e
section
variable {P : Program} {w : World} {K : PySem.W.Frag} {mg : Str → Option Value} {base : Heap} {C : Addr}
theorem fn_law (Z : Lf P w K mg base C) {f : Addr} {fd : FuncData} (F : FunD K "law" "law" (defArgs s_law) (defBody s_law) (defScope s_law) [] [] f fd) : FnG P w K mg base 10 f fd ["_law_script"] (spL K) := by
  refine fn_g F sc_law (fun vs H Q E h => ?_) (fun cdv A outer s H vs Q E hr hgd h => ?_)
  · obtain ⟨a, ns, rfl, _⟩ := h
    rfl
  obtain ⟨sa, ns, rfl, hS, hns, hQ⟩ := h
  have n0 : ∀ x : Addr, x ∉ md0.P := fun x q => by cases q
  have E1 : En K [] H (L2.start ["_law_script", "_law_cell", "_law_pen", "_law_gains_here", "_law_row_here", "_law_sets", "_law_told", "_law_posts", "_law_deed", "_law_number", "_law_ahead", "_law_later", "_law_end"] [V.ref sa]) [some (.v (.ref sa)), none, none, none, none, none, none, none, none, none, none, none, none] := en_start (N := ["_law_script", "_law_cell", "_law_pen", "_law_gains_here", "_law_row_here", "_law_sets", "_law_told", "_law_posts", "_law_deed", "_law_number", "_law_ahead", "_law_later", "_law_end"]) (is := [.v (.ref sa)]) (.cons rfl .nil)
  refine s_forL (m := md0) (FA := fun ds => ∃ cs : List Int, ds = cs.map PyData.int) (w_md0 H) PassesOwn.never rfl (j_catLR (F := fun d => ∃ i : Int, d = .list [.int i]) (j_lstR (jadr_cons (F := fun d => ∃ i, d = .int i ∧ True) (mk_jir fun H1 w1 Q1 q => c_call Z.cell hr (by decide) (ja_cons (j_var 0 (E1.mono (m := md0) w1)) (ja_cons (j_int (m := md0) (i := ((0 : Nat) : Int))) ja_nil) rfl H1 w1.rfl1 _ fun vs H2 w2 r => ?_)) jadr_nil) fun ds h => ?_) (jdr_of (j_slS (n0 _) hS (j_var 0 E1) (jo_some (i := ((1 : Nat) : Int)) j_int) (jo_some (i := ((2 : Nat) : Int)) j_int))) fun f g hf hg => ?_) (fun ds H2 i σ' H' => Wm md0 H2 H' ∧ En K [] H' σ' [some (.v (.ref sa)), none, none, none, none, none, none, none, none, none, none, none, none]) (fun ds _ H2 w2 => ⟨w2.rfl1, E1.mono (m := md0) w2⟩) (fun ds H2 i σ' H' h => h.1.bs) (fun ds hds H2 i σ' H' v w2 hi h r => ?_) (fun ds hds H2 σ' H' w2 h => ?_)
  · obtain ⟨v, u, rfl, r1, r2⟩ := r.two
    have e1 : v = V.ref sa := r1
    subst e1
    cases r2
    exact ⟨sa, ns, 0, rfl, SqL.wm (w1.trans w2) (n0 _) hS, fun i H' kk => q i H' (w2.trans (w2.rfl1.same kk)) trivial⟩
  · obtain ⟨d, ds', rfl, ⟨i, rfl, _⟩, rfl⟩ := h
    exact ⟨by simp, i, rfl⟩
  · obtain ⟨i, rfl⟩ := hf
    subst hg
    refine ⟨_, _, rfl, rfl, ?_, _, rfl, i :: ((ns.drop (HT.sIx ns.length 0 (some ((1 : Nat) : Int)))).take (HT.sIx ns.length ns.length (some ((2 : Nat) : Int)) - HT.sIx ns.length 0 (some ((1 : Nat) : Int)))), ?_⟩
    · unfold cutD
      simp only [List.length_take, List.length_drop, List.length_map, List.length_singleton]
      omega
    · unfold cutD
      rw [List.length_map, List.map_cons, List.map_take, List.map_drop]
      rfl
  · obtain ⟨cs, rfl⟩ := hds
    obtain ⟨w3, E3⟩ := h
    have hi' : i < cs.length := by simpa using hi
    rw [getD_map PyData.int hi'] at r
    refine (gt_name 1 sc_law.nd).run [] H' σ' v _ E3 r fun σ3 E4 _ _ => ?_
    have E4' : En K [] H' σ3 [some (.v (.ref sa)), some (.d (.int cs[i])), none, none, none, none, none, none, none, none, none, none, none] := E4
    have fin : ∀ {σ9 H9}, Same H' H9 → En K [] H9 σ9 [some (.v (.ref sa)), none, none, none, none, none, none, none, none, none, none, none, none] → Wm md0 H2 H9 ∧ En K [] H9 σ9 [some (.v (.ref sa)), none, none, none, none, none, none, none, none, none, none, none, none] := fun k e => ⟨w3.trans (Same.w0 k), e⟩
    refine s_pen 2 Z.pen hr (w_md0 H') rfl E4' (jd_var 1 E4') sc_law.nd fun pa σ4 H4 hpa k4 hpen wp E5 => ?_
    have E5' : En K (mdp pa).M H4 σ4 [some (.v (.ref sa)), some (.d (.int cs[i])), some (.v (.ref pa)), none, none, none, none, none, none, none, none, none, none] := E5
    refine s_parD3 3 4 5 (R := fun d1 d2 d3 => ∃ gs row ss n, d1 = rowD gs ∧ d2 = rowD row ∧ d3 = .list (ss.map setD) ∧ (gs.length = 6 ∧ gs[0]? = some 0 ∧ ∀ g ∈ gs, G4 g) ∧ RowOk row ∧ n ≤ 4 ∧ SetsL n ss) wp E5' rfl (jadr_cons (F := fun d => ∃ gs : List Int, d = rowD gs ∧ gs.length = 6 ∧ gs[0]? = some 0 ∧ ∀ g ∈ gs, G4 g) (j_penR Z.gains hr rfl (j_var 2 E5') jadr_nil fun ds h => ⟨h, fun d hd => ⟨by obtain ⟨gs, rfl, _⟩ := hd; exact nolstA_map pt (fun _ => rfl) gs, hd⟩⟩) (jadr_cons (F := fun d => ∃ row, d = rowD row ∧ RowOk row) (j_penR Z.row hr rfl (j_var 2 E5') jadr_nil fun ds h => ⟨h, fun d hd => ⟨by obtain ⟨gs, rfl, _⟩ := hd; exact nolstA_map pt (fun _ => rfl) gs, hd⟩⟩) (jadr_cons (j_penL (R' := fun es => ∃ (ss : List St3) (i : Nat), es = ss.map setD ∧ i ≤ 4 ∧ SetsL i ss) Z.sets hr rfl (j_var 2 E5') jadr_nil fun ds h => ⟨h, fun es hd => ⟨by obtain ⟨ss, i, rfl, _⟩ := hd; exact nolstA_map setD nolst_set ss, hd⟩⟩) jadr_nil))) (fun ds h => ?_) sc_law.nd fun d1 d2 d3 σ5 H5 hd w5 E6 => ?_
    · obtain ⟨d1, ds1, rfl, ⟨gs, rfl, hgs⟩, d2, ds2, rfl, ⟨row, rfl, hrow⟩, d3, ds3, rfl, ⟨fs, rfl, ss, n, rfl, hn, hss⟩, rfl⟩ := h
      exact ⟨_, _, _, rfl, gs, row, ss, n, rfl, rfl, rfl, hgs, hrow, hn, hss⟩
    obtain ⟨gs, row, ss, n, rfl, rfl, rfl, ⟨hgl, hg0, hg4⟩, hrow, hn4, hss⟩ := hd
    have E6' : En K (mdp pa).M H5 σ5 [some (.v (.ref sa)), some (.d (.int cs[i])), some (.v (.ref pa)), some (.d (.tuple (gs.map pt))), some (.d (rowD row)), some (.d (.list (ss.map setD))), none, none, none, none, none, none, none] := E6
    refine s_asgD 6 w5.rfl1 E6' (F := fun d => ∃ fs, d = .list fs ∧ ∃ xs : List Dd, fs = xs.map deedD ∧ xs.length ≤ 8 ∧ ∀ x ∈ xs, DeedOk row (clocksF gs ss) x) (j_penL Z.told hr rfl (j_var 2 E6') (jadr_of (jad_cons (jd_var 4 E6') (jad_cons (j_call Z.clocks hr (jad_cons (jd_var 3 E6') (jad_cons (jd_var 5 E6') jad_nil)) ⟨gs, ss, n, rfl, hgl, hss, hn4, rfl⟩ (by decide) (nolst_cls _)) jad_nil))) fun ds h => ?_) sc_law.nd fun d σ6 H6 hd w6 E7 => ?_
    · subst h
      refine ⟨⟨row, clocksF gs ss, rfl, hrow, clG_of hgl hg4⟩, fun es hd => ?_⟩
      obtain ⟨row', cl', xs, e, rfl, hl, hx⟩ := hd
      have e1 : rowD row = rowD row' ∧ clsD (clocksF gs ss) = clsD cl' := by simpa using e
      have e2 := row_inj e1.1
      have e3 := cls_inj e1.2
      subst e2
      subst e3
      exact ⟨nolstA_map deedD nolst_deed xs, xs, rfl, hl, hx⟩
    obtain ⟨fs, rfl, xs, rfl, hxl, hxs⟩ := hd
    have W : Wd gs row ss n xs := ⟨hgl, hg0, hg4, hrow, hss, hn4, hxl, hxs⟩
    have E7' : En K (mdp pa).M H6 σ6 [some (.v (.ref sa)), some (.d (.int cs[i])), some (.v (.ref pa)), some (.d (.tuple (gs.map pt))), some (.d (rowD row)), some (.d (.list (ss.map setD))), some (.d (.list (xs.map deedD))), none, none, none, none, none, none] := E7
    have w6' := w6.rfl1
    have hGs : GsOk gs := ⟨hgl, fun g hg => (hg4 g hg).1, hg0⟩
    have bH6 : Bs [pa] H' H6 := ((Bs.same k4).trans w5.bs).trans w6.bs
    refine of_ps (ps_set (i := 7) sc_law.nd rfl (Or.inl rfl) (pe_lst pa_c) rfl (.inr rfl)) (of_pa (pa_cons pe_c pa_c rfl) (c_make Z.make hr (by decide) w6' (jd_var 3 E7') hGs fun a0 l0 G1 G2 wa ha0 hl0 ka hp0 => of_pa (pa_cons pe_c pa_c rfl) (c_make Z.make hr (by decide) (wa.same ka).rfl1 (jd_var 3 (E7'.mono (m := mdp pa) (wa.trans (wa.same ka)))) hGs fun a1 l1 G3 G4 wb ha1 hl1 kb hp1 => of_pa (pa_cons pe_c pa_nil rfl) (c_make Z.make hr (by decide) (wb.same kb).rfl1 (jd_var 3 ((E7'.mono (m := mdp pa) (wa.trans (wa.same ka))).mono (m := mdp pa) (wb.trans (wb.same kb)))) hGs fun a2 l2 G5 G6 wc ha2 hl2 kc hp2 => ⟨by show 3 ≤ sizeLine; decide, fun L hL => ?_⟩))))
    have n0p : ∀ x : Addr, x ≠ pa → x ∉ (mdp pa).P := fun x h q => h (List.mem_singleton.mp q)
    have mpa : pa ∈ (mdp pa).M := List.mem_singleton.mpr rfl
    have sb : ∀ {Ha Hb : Hp} {x : Addr}, Same Ha Hb → Hb x = none → Ha x = none := fun {Ha Hb x} k h => by
      cases e : Ha x with
      | none => rfl
      | some o => rw [k x o e] at h; cases h
    have p0 : a0 ≠ pa ∧ l0 ≠ pa := ⟨(nn_ne (wa.ok pa mpa) ha0).symm, (nn_ne (wa.ok pa mpa) hl0).symm⟩
    have p1 : a1 ≠ pa ∧ l1 ≠ pa := ⟨(nn_ne (wb.ok pa mpa) ha1).symm, (nn_ne (wb.ok pa mpa) hl1).symm⟩
    have p2 : a2 ≠ pa ∧ l2 ≠ pa := ⟨(nn_ne (wc.ok pa mpa) ha2).symm, (nn_ne (wc.ok pa mpa) hl2).symm⟩
    have hp0a := hp0.wm wb (n0p _ p0.1) (n0p _ p0.2)
    have hp0b := (hp0a.same kb).wm wc (n0p _ p0.1) (n0p _ p0.2)
    have hp0c := hp0b.same kc
    have hp1b := hp1.wm wc (n0p _ p1.1) (n0p _ p1.2)
    have hp1c := hp1b.same kc
    have q01 : a0 ≠ a1 ∧ a0 ≠ l1 ∧ l0 ≠ a1 ∧ l0 ≠ l1 := ⟨nn_ne hp0a.some2.1 ha1, nn_ne hp0a.some2.1 hl1, nn_ne hp0a.some2.2 ha1, nn_ne hp0a.some2.2 hl1⟩
    have q02 : a0 ≠ a2 ∧ a0 ≠ l2 ∧ l0 ≠ a2 ∧ l0 ≠ l2 := ⟨nn_ne hp0b.some2.1 ha2, nn_ne hp0b.some2.1 hl2, nn_ne hp0b.some2.2 ha2, nn_ne hp0b.some2.2 hl2⟩
    have q12 : a1 ≠ a2 ∧ a1 ≠ l2 ∧ l1 ≠ a2 ∧ l1 ≠ l2 := ⟨nn_ne hp1b.some2.1 ha2, nn_ne hp1b.some2.1 hl2, nn_ne hp1b.some2.2 ha2, nn_ne hp1b.some2.2 hl2⟩
    have w16 : Wm (mdp pa) H6 G6 := (((wa.same ka |> wa.trans).trans (wb.trans (wb.same kb))).trans (wc.trans (wc.same kc)))
    have Lpa : L ≠ pa := (nn_ne (w16.ok pa mpa) hL).symm
    have A0 : Ad pa a0 l0 a1 l1 a2 l2 L 0 a0 l0 := ⟨p0, ⟨(nn_ne hp0c.some2.1 hL).symm, (nn_ne hp0c.some2.2 hL).symm, Lpa⟩, rfl, by simp, by simp⟩
    have A1 : Ad pa a0 l0 a1 l1 a2 l2 L 1 a1 l1 := ⟨p1, ⟨(nn_ne hp1c.some2.1 hL).symm, (nn_ne hp1c.some2.2 hL).symm, Lpa⟩, rfl, by simp, by simp⟩
    have A2 : Ad pa a0 l0 a1 l1 a2 l2 L 2 a2 l2 := ⟨p2, ⟨(nn_ne hp2.some2.1 hL).symm, (nn_ne hp2.some2.2 hL).symm, Lpa⟩, rfl, by simp, by simp⟩
    have f2 : ∀ x, G5 x = none → H6 x = none := fun x h => wm_back wa (sb ka (wm_back wb (sb kb (wm_back wc h))))
    have f1 : ∀ x, G3 x = none → H6 x = none := fun x h => wm_back wa (sb ka (wm_back wb h))
    have f0 : ∀ x, G1 x = none → H6 x = none := fun x h => wm_back wa h
    have fr6 : ∀ x, x ∈ (mdL pa a0 l0 a1 l1 a2 l2).M → x ≠ pa → H6 x = none := fun x hx hn => by
      have hx' : x = pa ∨ x = a0 ∨ x = l0 ∨ x = a1 ∨ x = l1 ∨ x = a2 ∨ x = l2 := by simpa [mdL] using hx
      rcases hx' with rfl | rfl | rfl | rfl | rfl | rfl | rfl
      · exact absurd rfl hn
      · exact f0 _ ha0
      · exact f0 _ hl0
      · exact f1 _ ha1
      · exact f1 _ hl1
      · exact f2 _ ha2
      · exact f2 _ hl2
    have fr' : ∀ x, x ∈ (mdL pa a0 l0 a1 l1 a2 l2).M → H' x = none := fun x hx => by
      by_cases hn : x = pa
      · rw [hn]; exact hpa
      · cases e : H' x with
        | none => rfl
        | some o =>
          have e2 := bH6 x o e (.inl fun q => hn (List.mem_singleton.mp q))
          rw [fr6 x hx hn] at e2
          cases e2
    have k67 : Same G6 (upd G6 L (.lst [.ref a0, .ref a1, .ref a2])) := Same.new hL
    generalize eH7 : upd G6 L (.lst [.ref a0, .ref a1, .ref a2]) = H7 at k67 ⊢
    have hL7 : H7 L = some (.lst ([a0, a1, a2].map V.ref)) := by rw [← eH7]; exact upd_same
    have sub1 : ∀ x, x ∈ [pa] → x ∈ (mdL pa a0 l0 a1 l1 a2 l2).M := fun x hx => by rw [List.mem_singleton.mp hx]; exact List.mem_cons_self ..
    have b67 : Bs (mdL pa a0 l0 a1 l1 a2 l2).M H6 H7 := (Bs.wide sub1 w16.bs).trans (Bs.same k67)
    have E8' : En K (mdL pa a0 l0 a1 l1 a2 l2).M H6 σ6 [some (.v (.ref sa)), some (.d (.int cs[i])), some (.v (.ref pa)), some (.d (.tuple (gs.map pt))), some (.d (rowD row)), some (.d (.list (ss.map setD))), some (.d (.list (xs.map deedD))), none, none, none, none, none, none] := E7'.sub (Same.refl _) fun x hx hm => by
      by_cases hn : x = pa
      · rw [hn]; exact List.mem_singleton.mpr rfl
      · exact absurd (fr6 x hm hn) hx
    have E8 : En K (mdL pa a0 l0 a1 l1 a2 l2).M H7 (σ6.set 7 (some (.ref L))) [some (.v (.ref sa)), some (.d (.int cs[i])), some (.v (.ref pa)), some (.d (.tuple (gs.map pt))), some (.d (rowD row)), some (.d (.list (ss.map setD))), some (.d (.list (xs.map deedD))), some (.v (.ref L)), none, none, none, none, none] := (E8'.bs b67).set (i := 7) (it := .v (.ref L)) rfl
    have hpa7 := hp0c.same k67
    have hpb7 := hp1c.same k67
    have hpc7 := hp2.same k67
    have hc7 : Pc pa a0 l0 a1 l1 a2 l2 L H7 := by
      refine ⟨⟨fun _ _ h _ => h, fun x hx => ?_, fun x hx => ?_⟩, hL7⟩
      · exact (w16.pens x hx).keep k67
      · have hx' : x = pa ∨ x = a0 ∨ x = l0 ∨ x = a1 ∨ x = l1 ∨ x = a2 ∨ x = l2 := by simpa [mdL] using hx
        rcases hx' with rfl | rfl | rfl | rfl | rfl | rfl | rfl
        · exact (w16.same k67).ok x mpa
        · exact hpa7.some2.1
        · exact hpa7.some2.2
        · exact hpb7.some2.1
        · exact hpb7.some2.2
        · exact hpc7.some2.1
        · exact hpc7.some2.2
    have b07 : Bs (mdL pa a0 l0 a1 l1 a2 l2).M H' H7 := (Bs.wide sub1 bH6).trans b67
    have hsl := W.sl (List.Perm.refl ss)
    refine s_loopA 0 Z.tell hr W (List.Perm.refl ss) A0 hc7 hpa7 E8 PassesOwn.never rfl (jdr_imp (jdr_of (j_catL (jd_var 5 E8) (jd_var 6 E8) (by rw [List.length_map, List.length_map]; omega))) fun d h => ⟨_, h, xs, rfl, List.Perm.refl _⟩) sc_law.nd fun zs0 σ8 H8 sA pA hz0 bA hcA hpA hipA hlA EA => ?_
    refine s_loopA 1 Z.tell hr W (qs := ss.reverse) (List.reverse_perm ss) A1 hcA (hpb7.bs bA (by simp [p1.1, q01.1.symm, q01.2.2.1.symm]) (by simp [p1.2, q01.2.1.symm, q01.2.2.2.symm])) EA PassesOwn.never rfl (j_catLR (F := fun d => d = .list (ss.map setD).reverse) (jdr_of (j_revL (jd_var 5 EA))) (j_penL (R' := fun fs => ∃ zs : List Dd, fs = zs.map deedD ∧ zs.Perm xs) Z.mixed hr rfl (j_var 2 EA) (jadr_of (jad_cons (jd_var 6 EA) jad_nil)) fun ds h => ?_) fun f g hf hg => ?_) sc_law.nd fun zs1 σ9 H9 sB pB hz1 bB hcB hpB hipB hlB EB => ?_
    · subst h
      refine ⟨⟨_, rfl, nolstA_map deedD nolst_deed xs, by rw [List.length_map]; omega⟩, fun fs hR => ?_⟩
      obtain ⟨ys, e, hp⟩ := hR
      have e1 : xs.map deedD = ys := by simpa using e
      subst e1
      obtain ⟨zs, hz, rfl⟩ := perm_pre deedD hp xs rfl
      exact ⟨nolstA_map deedD nolst_deed zs, zs, rfl, hz⟩
    · obtain ⟨fs, rfl, zs, rfl, hz⟩ := hg
      subst hf
      have := hz.length_eq
      refine ⟨_, _, rfl, rfl, by rw [List.length_reverse, List.length_map, List.length_map]; omega, _, rfl, zs, ?_, hz⟩
      unfold dsD
      rw [List.map_reverse]
    have hpc9 := (hpc7.bs bA (by simp [p2.1, q02.1.symm, q02.2.2.1.symm]) (by simp [p2.2, q02.2.1.symm, q02.2.2.2.symm])).bs bB (by simp [p2.1, q12.1.symm, q12.2.2.1.symm]) (by simp [p2.2, q12.2.1.symm, q12.2.2.2.symm])
    have hpa9 := hpA.bs bB (by simp [p0.1, q01.1, q01.2.1]) (by simp [p0.2, q01.2.2.1, q01.2.2.2])
    have e9240 : (.tuple [.int 1, .int 3] : PyData) = pt 9240 := (pt_lit (by decide +kernel) (by decide +kernel)).symm
    have efar : (.tuple [.int (-(10 ^ 6)), .int 1] : PyData) = op (some (-27720000000)) := (pt_lit (by decide +kernel) (by decide +kernel)).symm
    have efarS : (.tuple [.int 5, .tuple [.int 901, .int 7], .tuple [.int 1, .int 9]] : PyData) = setD (5, 3567960, 3080) := by
      show _ = PyData.tuple [.int 5, pt 3567960, pt 3080]
      rw [show pt 3567960 = .tuple [.int 901, .int 7] from pt_lit (by decide +kernel) (by decide +kernel), show pt 3080 = .tuple [.int 1, .int 9] from pt_lit (by decide +kernel) (by decide +kernel)]
    have hxr : xs.reverse.Perm xs := List.reverse_perm xs
    have hlen : (dsD ss xs.reverse).length = ss.length + xs.length := by unfold dsD; rw [List.length_append, List.length_map, List.length_map, List.length_reverse]
    refine s_for hcB.wm PassesOwn.never rfl (sr_list (jd_is (j_catL (jd_var 5 EB) (j_revL (jd_var 6 EB)) (by rw [List.length_reverse, List.length_map, List.length_map]; omega)) (show _ = PyData.list (dsD ss xs.reverse) by unfold dsD; rw [List.map_reverse]))) (fun H2 j σ' H' => ∃ s past, Bs [pa, a2, l2] H2 H' ∧ Pc pa a0 l0 a1 l1 a2 l2 L H' ∧ PostAt K C H' a2 l2 s past ∧ past.length ≤ 3 * j ∧ IP gs (ss.take j) (xs.reverse.take (j - ss.length)) s ∧ En K (mdL pa a0 l0 a1 l1 a2 l2).M H' σ' [some (.v (.ref sa)), some (.d (.int cs[i])), some (.v (.ref pa)), some (.d (.tuple (gs.map pt))), some (.d (rowD row)), some (.d (.list (ss.map setD))), some (.d (.list (xs.map deedD))), some (.v (.ref L)), none, none, none, none, none]) (fun H2 w2 => ?_) (fun H2 i σ' H' hi ⟨_, _, b, _⟩ => A2.wide b) (fun H2 j σ' H' H'' v w2 hj h k r => ?_) (fun H2 σ' H' w2 h => ?_)
    · refine ⟨ps0 gs, [], Bs.refl _ _, hcB.w Lpa w2, hpc9.wm w2 (nP p2.1) (nP p2.2), Nat.le_refl _, ⟨?_, ?_, fun t ht => by cases ht⟩, EB.mono w2⟩
      · rw [List.take_zero]
        exact stc_start W.gl
      · rw [Nat.zero_sub, List.take_zero] <;> rfl
    · obtain ⟨s, past, b, hc', hp', hl, hip, E'⟩ := h
      have wk := hc'.wm.same k
      have hcj := hc'.w Lpa wk
      have hpj := hp'.same k
      have hj' : j < ss.length + xs.length := by rw [← hlen]; exact hj
      obtain ⟨s1, s2, hR1, hR2, hip1⟩ := run_extra W (List.Perm.refl ss) hxr hip (past := past) (by omega)
      obtain ⟨s3, hR3, hnl, hip3⟩ := run_step W (List.Perm.refl ss) hxr hj hip1 (past := past ++ [s] ++ [s1]) (by simp only [List.length_append, List.length_singleton]; omega)
      obtain ⟨hR4, _, hip4⟩ := run_far W (List.Perm.refl ss) hxr (x := (5, 3567960, 3080)) (by decide) (by decide) (by decide) (by decide) hip3 (past := past ++ [s] ++ [s1] ++ [s2]) (by simp only [List.length_append, List.length_singleton]; omega)
      refine (gt_name 8 sc_law.nd).run _ H'' σ' v _ (E'.mono (m := mdL pa a0 l0 a1 l1 a2 l2) wk) r fun σ3 E4 _ _ => ?_
      have E5 : En K (mdL pa a0 l0 a1 l1 a2 l2).M H'' σ3 [some (.v (.ref sa)), some (.d (.int cs[i])), some (.v (.ref pa)), some (.d (.tuple (gs.map pt))), some (.d (rowD row)), some (.d (.list (ss.map setD))), some (.d (.list (xs.map deedD))), some (.v (.ref L)), some (.d ((dsD ss xs.reverse).getD j .none)), none, none, none, none] := E4
      refine of_ps (ps_set (i := 9) sc_law.nd rfl (Or.inl rfl) pe_c rfl (.inr rfl)) (c_methW Z.X4 Z.m_tells hr hcj.wm (nP p2.1) (nP p2.2) hpj (j_post 2 hcj.hL (nP Lpa) rfl (j_var 7 E5) j_int) (jad_cons (jd_is (j_tup (jad_cons j_int (jad_cons j_int jad_nil))) e9240) (jad_cons j_int (jad_cons j_int (jad_cons (jd_is (j_tup (jad_cons (j_neg (j_pow j_int j_int ⟨by decide, by decide, by decide⟩)) (jad_cons j_int jad_nil))) efar) (jad_cons j_non jad_nil))))) (by rfl) hR1 fun v1 H10 H11 w10 b10 hp10 r10 => ?_)
      have bb1 := A2.bs w10 b10
      have hc1 := (hcj.w Lpa w10).b A2 b10 hp10.some2.1 hp10.some2.2
      have E6 : En K (mdL pa a0 l0 a1 l1 a2 l2).M H11 (σ3.set 9 (some v1)) [some (.v (.ref sa)), some (.d (.int cs[i])), some (.v (.ref pa)), some (.d (.tuple (gs.map pt))), some (.d (rowD row)), some (.d (.list (ss.map setD))), some (.d (.list (xs.map deedD))), some (.v (.ref L)), some (.d ((dsD ss xs.reverse).getD j .none)), some (.d (.int s.nx)), none, none, none] := (E5.bs (A2.wide bb1)).set (i := 9) (it := .d (.int s.nx)) (Dr.free _ _ rfl r10)
      refine of_ps (ps_expr pe_c rfl) (c_methW Z.X4 Z.m_false hr hc1.wm (nP p2.1) (nP p2.2) hp10 (j_post 2 hc1.hL (nP Lpa) rfl (j_var 7 E6) j_int) (jad_cons (jd_var 9 E6) jad_nil) rfl hR2 fun v2 H12 H13 w12 b12 hp12 r12 => ?_)
      have bb2 := A2.bs w12 b12
      have hc2 := (hc1.w Lpa w12).b A2 b12 hp12.some2.1 hp12.some2.2
      have E7a := E6.bs (A2.wide bb2)
      refine s_tellL 2 Z.tell hr A2 hc2 hp12 E7a (jd_var 8 E7a) hnl hR3 fun H14 bb3 hc3 hp14 E8a => ?_
      refine s_tellL 2 Z.tell hr A2 hc3 hp14 E8a (jd_is (j_tup (jad_cons j_int (jad_cons (j_tup (jad_cons j_int (jad_cons j_int jad_nil))) (jad_cons (j_tup (jad_cons j_int (jad_cons j_int jad_nil))) jad_nil)))) efarS) (nolst_set _) (.inl ⟨(5, 3567960, 3080), rfl, hR4⟩) fun H15 bb4 hc4 hp15 E9a => ?_
      refine of_ps (ps_expr pe_c rfl) (c_methW0 Z.X4 Z.m_back hr hc4.wm (nP p2.1) (nP p2.2) hp15 (j_post 2 hc4.hL (nP Lpa) rfl (j_var 7 E9a) j_int) ⟨rfl, rfl, rfl⟩ fun v5 H16 H17 w16' b16 hp17 r17 => ?_)
      have bb5 := A2.bs w16' b16
      refine s_nil ⟨s3, _, (((((b.trans (Bs.same k)).trans bb1).trans bb2).trans bb3).trans bb4).trans bb5, (hc4.w Lpa w16').b A2 b16 hp17.some2.1 hp17.some2.2, hp17, by simp only [List.length_append, List.length_singleton]; omega, hip3, ((E9a.bs (A2.wide bb5)).forget 8).forget 9⟩
    obtain ⟨sC, pC, bC', hcC, hpC, hlC, hipC, EC⟩ := h
    rw [hlen] at hipC hlC
    rw [List.take_of_length_le (by omega), List.take_of_length_le (by rw [List.length_reverse]; omega)] at hipC
    have bw2 : Bs [pa] H9 H2 := fun x o h q => w2.keep x o h q
    have bC : Bs [pa, a2, l2] H9 H' := (Bs.wide (fun x hx => by rw [List.mem_singleton.mp hx]; exact List.mem_cons_self ..) bw2).trans bC'
    have hpa' := hpa9.bs bC (by simp [p0.1, q02.1, q02.2.1]) (by simp [p0.2, q02.2.2.1, q02.2.2.2])
    have hpb' := hpB.bs bC (by simp [p1.1, q12.1, q12.2.1]) (by simp [p1.2, q12.2.2.1, q12.2.2.2])
    have ysf : ∀ {qs : List St3} {zs : List Dd} {s : PS}, qs.Perm ss → zs.Perm xs → IP gs qs zs s → YsOk row s.cl zs := fun {qs zs s} hq hz h => by
      have t1 : qs.take (qs.length + zs.length) = qs := List.take_of_length_le (by omega)
      have t2 : zs.take (qs.length + zs.length - qs.length) = zs := List.take_of_length_le (by omega)
      have := W.ys (i := qs.length + zs.length) hq hz (by rw [t1, t2]; exact h)
      rw [t2] at this
      exact this
    have yA := ysf (List.Perm.refl ss) hz0 hipA
    have yB := ysf (List.reverse_perm ss) hz1 hipB
    have cA := stc_end hipA.st W.gl (List.Perm.refl ss) W.sok
    have cB := stc_end hipB.st W.gl (List.reverse_perm ss) W.sok
    have cC := stc_end hipC.st W.gl (List.Perm.refl ss) W.sok
    have okAB : SameOk sA sB := l_same hipA.st.len (W.gd hipA) (cA.trans cB.symm) hipA.td hipB.td (hz0.trans hz1.symm) yA
    have okAC : SameOk sA sC := l_same hipA.st.len (W.gd hipA) (cA.trans cC.symm) hipA.td hipC.td (hz0.trans hxr.symm) yA
    have eachR := W.each (List.reverse_perm ss)
    have okB : RrOk sB row := l_row W.rok hipB W.g4 W.gl yB (fun y hy => ⟨(eachR y hy).2.2.2.1.1, (eachR y hy).2.2.1⟩) (by rw [List.length_reverse]; omega)
    refine s_if0 hcC.wm (jt_w (jw_or (jt_not (jt_val (j_same Z.same hgd hr (nP p0.1) (nP p0.2) (nP p1.1) (nP p1.2) hpa' hpb' okAB (j_post 0 hcC.hL (nP Lpa) rfl (j_var 7 EC) j_int) (j_post 1 hcC.hL (nP Lpa) rfl (j_var 7 EC) j_int)))) fun _ => jw_or (t := false) (jt_not (jt_val (j_same Z.same hgd hr (nP p0.1) (nP p0.2) (nP p2.1) (nP p2.2) hpa' hpC okAC (j_post 0 hcC.hL (nP Lpa) rfl (j_var 7 EC) j_int) (j_post 2 hcC.hL (nP Lpa) rfl (j_var 7 EC) j_int)))) fun _ => jw_or1 (jt_not (jt_val (j_rr Z.rr hr (nP p1.1) (nP p1.2) hpb' okB (j_post 1 hcC.hL (nP Lpa) rfl (j_var 7 EC) j_int) (jd_var 4 EC)))))) fun H20 w20 => ?_
    have hc20 := hcC.w Lpa w20
    have E20 := EC.mono w20
    have hpa20 := hpa'.wm w20 (nP p0.1) (nP p0.2)
    have hpb20 := hpb'.wm w20 (nP p1.1) (nP p1.2)
    have gA := W.gd hipA
    have e50 : (.tuple [.int 50, .int 1] : PyData) = op (some 1386000) := (pt_lit (by decide +kernel) (by decide +kernel)).symm
    have e41 : (.tuple [.int 41, .int 1] : PyData) = pt 1136520 := (pt_lit (by decide +kernel) (by decide +kernel)).symm
    have t1 : ss.take (ss.length + zs0.length) = ss := List.take_of_length_le (by omega)
    have t2 : zs0.take (ss.length + zs0.length - ss.length) = zs0 := List.take_of_length_le (by omega)
    obtain ⟨hR5, yD, hipD⟩ := run_far W (List.Perm.refl ss) hz0 (i := ss.length + zs0.length) (x := (4, 1136520, 9240)) (by decide) (by decide) (by decide) (by decide) (s := sA) (by rw [t1, t2]; exact hipA) hlA
    rw [t2] at yD hipD
    rw [t1] at hipD
    have lA : 4 < sA.cl.length := by rw [hipA.st.len]; decide
    obtain ⟨lo, hi2, es1, es2⟩ := str_moved (s := sA) (x := (4, 1136520, 9240)) (mo := 1386000) lA hipA.td (fun y hy => by
      have hd := W.dok y (hz0.mem_iff.mp hy)
      have := hd.sm
      show y.1 < 1136520
      omega) (by decide)
    have okA := (ps_ok hipA.st.len gA hipA.td yA).1
    have gD : Gd (setCl sA.cl (4, 1136520, 9240)) := gd_set lA gA
    have okD : PsOk ⟨setCl sA.cl (4, 1136520, 9240), sA.td, sA.nx⟩ := (ps_ok hipD.st.len gD hipD.td yD).1
    refine s_asg 10 hc20.wm E20 (it := .d (stD lo hi2)) (j_meth Z.X4 Z.m_str hr (nP p0.1) (nP p0.2) hpa20 (j_post 0 hc20.hL (nP Lpa) rfl (j_var 7 E20) j_int) (jad_cons j_int (jad_cons (jd_is (j_tup (jad_cons j_int (jad_cons j_int jad_nil))) e50) jad_nil)) ⟨4, some 1386000, rfl, by decide, ⟨okA, by decide, by decide, dv_mul (by decide) (gA 4 (by decide))⟩, es1.symm⟩ (.inl (nolst_st _ _))) sc_law.nd fun σ21 H21 w21 E21 => ?_
    have hc21 := hc20.w Lpa w21
    have hpa21 := hpa20.wm w21 (nP p0.1) (nP p0.2)
    have hpb21 := hpb20.wm w21 (nP p1.1) (nP p1.2)
    have E21' : En K (mdL pa a0 l0 a1 l1 a2 l2).M H21 σ21 [some (.v (.ref sa)), some (.d (.int cs[i])), some (.v (.ref pa)), some (.d (.tuple (gs.map pt))), some (.d (rowD row)), some (.d (.list (ss.map setD))), some (.d (.list (xs.map deedD))), some (.v (.ref L)), none, none, some (.d (.tuple [op lo, op hi2])), none, none] := E21
    refine of_ps (ps_expr pe_c rfl) (c_methW Z.X4 Z.m_sets hr hc21.wm (nP p0.1) (nP p0.2) hpa21 (j_post 0 hc21.hL (nP Lpa) rfl (j_var 7 E21') j_int) (jad_cons j_int (jad_cons (jd_is (j_tup (jad_cons j_int (jad_cons j_int jad_nil))) e41) (jad_cons (jd_is (j_tup (jad_cons j_int (jad_cons j_int jad_nil))) e9240) jad_nil))) (by rfl) hR5 fun v22 H22 H23 w22 b22 hpa23 r22 => ?_)
    have bb22 := A0.bs w22 b22
    have hc23 := (hc21.w Lpa w22).b A0 b22 hpa23.some2.1 hpa23.some2.2
    have E23 := E21'.bs (A0.wide bb22)
    have hpb23 := hpb21.bs bb22 (by simp [p1.1, q01.1.symm, q01.2.2.1.symm]) (by simp [p1.2, q01.2.1.symm, q01.2.2.2.symm])
    refine s_asg 11 hc23.wm E23 (jd_is (j_tupleL Z.T.tuple (j_comp [("_law_end", 12)] E23 rfl sc_law.nd (blkOk_by (N := ["_law_script", "_law_cell", "_law_pen", "_law_gains_here", "_law_row_here", "_law_sets", "_law_told", "_law_posts", "_law_deed", "_law_number", "_law_ahead", "_law_later", "_law_end"]) (sc := defScope s_law) (by decide +kernel)) (sr_tup (jd_var 10 E23)) (by simp) [12] (fun k => [some (.v (.ref sa)), some (.d (.int cs[i])), some (.v (.ref pa)), some (.d (.tuple (gs.map pt))), some (.d (rowD row)), some (.d (.list (ss.map setD))), some (.d (.list (xs.map deedD))), some (.v (.ref L)), none, none, some (.d (.tuple [op lo, op hi2])), none, some (.d (op (if k = 0 then lo else hi2)))]) (by simp) (fun k hk s Hs C cl fp => ?_) (fun _ => true) (fun k hk m' hm s Hs C cl fp σ' H' w' E' => jts_nil) (fun k => op ((if k = 0 then lo else hi2).map (· + 9240))) (fun k hk _ m' hm s Hs C cl fp σ' H' w' E' => ?_))) (d' := stD (lo.map (· + 9240)) (hi2.map (· + 9240))) rfl) sc_law.nd fun σ24 H24 w24 E24 => ?_
    · have hk2 : k = 0 ∨ k = 1 := by
        have : k < 2 := hk
        omega
      rcases hk2 with rfl | rfl <;> exact gt_name 12 sc_law.nd
    · generalize (if k = 0 then lo else hi2) = o at E' ⊢
      cases o with
      | none => exact j_ifT (jt_isN (jd_var 12 E')) j_non
      | some u =>
        have E'' : En K m'.M H' σ' [some (.v (.ref sa)), some (.d (.int cs[i])), some (.v (.ref pa)), some (.d (.tuple (gs.map pt))), some (.d (rowD row)), some (.d (.list (ss.map setD))), some (.d (.list (xs.map deedD))), some (.v (.ref L)), none, none, some (.d (.tuple [op lo, op hi2])), none, some (.d (pt u))] := E'
        exact j_ifF (jt_isN (jd_var 12 E'')) (j_call Z.added hr (jad_cons (jd_var 12 E'') (jad_cons (jd_is (j_tup (jad_cons j_int (jad_cons j_int jad_nil))) e9240) jad_nil)) ⟨_, _, rfl, rfl⟩)
    have hc24 := hc23.w Lpa w24
    have hpa24 := hpa23.wm w24 (nP p0.1) (nP p0.2)
    have hpb24 := hpb23.wm w24 (nP p1.1) (nP p1.2)
    have E24' : En K (mdL pa a0 l0 a1 l1 a2 l2).M H24 σ24 [some (.v (.ref sa)), some (.d (.int cs[i])), some (.v (.ref pa)), some (.d (.tuple (gs.map pt))), some (.d (rowD row)), some (.d (.list (ss.map setD))), some (.d (.list (xs.map deedD))), some (.v (.ref L)), none, none, some (.d (.tuple [op lo, op hi2])), some (.d (stD (lo.map (· + 9240)) (hi2.map (· + 9240)))), none] := E24
    have ecl : ((clAt (setCl sA.cl (4, 1136520, 9240)) 4).2).length ≠ ((clAt sB.cl 4).2).length := by
      rw [cB, ← cA]
      have e1 : clAt (setCl sA.cl (4, 1136520, 9240)) 4 = ((clAt sA.cl 4).1, insS 1136520 9240 (clAt sA.cl 4).2) := by
        unfold setCl
        rw [clAt_set lA, if_pos rfl]
      rw [e1]
      have := (ins_perm 1136520 9240 (clAt sA.cl 4).2).length_eq
      rw [List.length_cons] at this
      show (insS 1136520 9240 (clAt sA.cl 4).2).length ≠ _
      omega
    refine s_if0 hc24.wm (jt_w (jw_or (t := false) (jt_neD hr (j_meth Z.X4 Z.m_str hr (nP p0.1) (nP p0.2) hpa24 (j_post 0 hc24.hL (nP Lpa) rfl (j_var 7 E24') j_int) (jad_cons j_int (jad_cons (jd_is (j_tup (jad_cons j_int (jad_cons j_int jad_nil))) e50) jad_nil)) ⟨4, some 1386000, rfl, by decide, ⟨okD, by decide, by decide, dv_mul (by decide) (gD 4 (by decide))⟩, es2.symm⟩ (.inl (nolst_st _ _))) (jd_var 11 E24') ((sh_st _ _).shaped (by decide)) ((sh_st _ _).shaped (by decide)) (by show (!PyData.eqv (stD (lo.map (· + 9240)) (hi2.map (· + 9240))) (stD (lo.map (· + 9240)) (hi2.map (· + 9240)))) = false; rw [eqv_st] <;> rfl)) fun _ => jw_or1 (jt_eqD hr (j_meth Z.X4 Z.m_now hr (nP p0.1) (nP p0.2) hpa24 (j_post 0 hc24.hL (nP Lpa) rfl (j_var 7 E24') j_int) (jad_cons j_int jad_nil) ⟨4, rfl, by decide, okD.cl, rfl⟩ (.inl (nolst_clk _ _))) (j_meth Z.X4 Z.m_now hr (nP p1.1) (nP p1.2) hpb24 (j_post 1 hc24.hL (nP Lpa) rfl (j_var 7 E24') j_int) (jad_cons j_int jad_nil) ⟨4, rfl, by decide, hipB.st.len, rfl⟩ (.inl (nolst_clk _ _))) ((sh_clk _ _).shaped (by decide)) ((sh_clk _ _).shaped (by decide)) (clk_ne ecl)))) fun H25 w25 => ?_
    have hc25 := hc24.w Lpa w25
    have hpa25 := hpa24.wm w25 (nP p0.1) (nP p0.2)
    have hpb25 := hpb24.wm w25 (nP p1.1) (nP p1.2)
    have E25 := E24'.mono w25
    refine of_ps (ps_expr pe_c rfl) (c_methW0 Z.X4 Z.m_back hr hc25.wm (nP p0.1) (nP p0.2) hpa25 (j_post 0 hc25.hL (nP Lpa) rfl (j_var 7 E25) j_int) ⟨rfl, rfl, rfl⟩ fun v26 H26 H27 w26 b26 hpa27 r26 => ?_)
    have bb26 := A0.bs w26 b26
    have hc27 := (hc25.w Lpa w26).b A0 b26 hpa27.some2.1 hpa27.some2.2
    have E27 := E25.bs (A0.wide bb26)
    have hpb27 := hpb25.bs bb26 (by simp [p1.1, q01.1.symm, q01.2.2.1.symm]) (by simp [p1.2, q01.2.1.symm, q01.2.2.2.symm])
    refine s_if0 hc27.wm (jt_not (jt_val (j_same Z.same hgd hr (nP p0.1) (nP p0.2) (nP p1.1) (nP p1.2) hpa27 hpb27 okAB (j_post 0 hc27.hL (nP Lpa) rfl (j_var 7 E27) j_int) (j_post 1 hc27.hL (nP Lpa) rfl (j_var 7 E27) j_int)))) fun H28 w28 => ?_
    have E28 := E27.mono w28
    refine s_nil (fin ?_ ?_)
    · have bend := (((((((((b07.trans (A0.wide bA)).trans (A1.wide bB)).trans (A2.wide bC)).trans w20.bs).trans w21.bs).trans (A0.wide bb22)).trans w24.bs).trans w25.bs).trans (A0.wide bb26)).trans w28.bs
      exact Bs.old (Bs.less bend fun x hx hm => absurd (fr' x hm) hx)
    · exact En.sub (Same.refl _) (fun x _ q => by cases q) (((((((((E28.forget 1).forget 2).forget 3).forget 4).forget 5).forget 6).forget 7).forget 10).forget 11)
  · obtain ⟨w3, E3⟩ := h
    exact s_ret w3.rfl1 (j_bl (t := true)) fun v H5 w5 r => by
      cases r
      exact hQ H5
end
end Gc
namespace Gc
open PySem PySem.Spec PyProof.Rows L2
section
variable {P : Program} {w : World} {K : PySem.W.Frag} {hp : Heap} {mg : Str → Option Value}
theorem gf_of (X : K.In hp) (N : hp.Ns mainGlobals mg) (c : SaysG K) (i j : Nat) {x : Str} {st : Stmt} {dv : List He.Dv} (h1 : fn[i]? = some ⟨(x, none), x, x, defArgs st, defBody st, defScope st, dv, []⟩) (h2 : fa[j]? = some (.glo x)) : Gf K mg x st (dv.map (He.Dv.v K)) := by
  obtain ⟨fd, F⟩ := c.1.def_ i h1
  exact ⟨_, fd, F, He.glo_ok X N (c.1.fact j h2)⟩
theorem gq_of (c : SaysG K) (i j : Nat) {x q : Str} {st : Stmt} {dv : List He.Dv} (h1 : fn[i]? = some ⟨("Post", some x), x, q, defArgs st, defBody st, defScope st, dv, []⟩) (h2 : fa[j]? = some (.meth "Post" x)) : Gq K (He.ga K "Post") x q st (dv.map (He.Dv.v K)) := by
  obtain ⟨fd, F⟩ := c.1.def_ i h1
  exact ⟨_, fd, F, He.meth_ok (c.1.fact j h2)⟩
theorem tx_of (X : K.In hp) (N : hp.Ns mainGlobals mg) (c : SaysG K) : Tx K mg := by
  obtain ⟨b12, b3⟩ := Bool.and_eq_true_iff.mp c.2
  obtain ⟨b1, b2⟩ := Bool.and_eq_true_iff.mp b12
  exact ⟨He.free_ok X N (c.1.fact 65 (f := .free "isinstance") rfl), He.free_ok X N (c.1.fact 66 (f := .free "int") rfl), He.free_ok X N (c.1.fact 67 (f := .free "bool") rfl), He.free_ok X N (c.1.fact 68 (f := .free "abs") rfl), He.free_ok X N (c.1.fact 69 (f := .free "tuple") rfl), He.free_ok X N (c.1.fact 70 (f := .free "len") rfl), He.free_ok X N (c.1.fact 71 (f := .free "all") rfl), He.free_ok X N (c.1.fact 72 (f := .free "zip") rfl), He.free_ok X N (c.1.fact 73 (f := .free "range") rfl), He.free_ok X N (c.1.fact 74 (f := .free "enumerate") rfl), He.free_ok X N (c.1.fact 75 (f := .free "list") rfl), He.free_ok X N (c.1.fact 76 (f := .free "sorted") rfl), He.free_ok X N (c.1.fact 77 (f := .free "str") rfl), He.free_ok X N (c.1.fact 78 (f := .free "max") rfl), He.int_ok X N (c.1.fact 79 (f := .int "MOST_SETS" 6) rfl), He.int_ok X N (c.1.fact 80 (f := .int "CLOCKS" 6) rfl), He.int_ok X N (c.1.fact 81 (f := .int "MOST_TELLINGS" 16) rfl), He.int_ok X N (c.1.fact 82 (f := .int "MOST_STANDING" 10) rfl), ⟨_, He.glo_ok X N (c.1.fact 83 (f := .glo "NOUGHT") rfl), He.tupB_ok b1 _⟩, ⟨_, He.glo_ok X N (c.1.fact 84 (f := .glo "MOST_GAIN") rfl), He.tupB_ok b2 _⟩, ⟨_, He.glo_ok X N (c.1.fact 85 (f := .glo "LEAST_GAIN") rfl), He.tupB_ok b3 _⟩⟩
theorem cx_of (c : SaysG K) : Cx4 K (He.ga K "Post") := ⟨He.cls_ok (c.1.fact 86 (f := .cls "Post") rfl), He.noat_ok (c.1.fact 88 (f := .noat "Post" "clocks") rfl), He.noat_ok (c.1.fact 89 (f := .noat "Post" "told") rfl), He.noat_ok (c.1.fact 90 (f := .noat "Post" "next_number") rfl), He.noat_ok (c.1.fact 91 (f := .noat "Post" "past") rfl)⟩
theorem gi_of (X : K.In hp) (N : hp.Ns mainGlobals mg) (c : SaysG K) : Gi K mg (He.ga K "Post") := by
  obtain ⟨fd, F⟩ := c.1.def_ 64 (d := dm_init) rfl
  exact ⟨_, fd, F, He.mkr_ok (c.1.fact 87 (f := .mkr "Post") rfl), He.glo_ok X N (c.1.fact 64 (f := .glo "Post") rfl)⟩
theorem lf_of (X : K.In hp) (N : hp.Ns mainGlobals mg) (c : SaysG K) (base : Heap) : Lf P w K mg base (He.ga K "Post") := by
  have T := tx_of X N c
  have X4 := cx_of c
  have z_fo_is_whole : Fo P w K mg base 1 "is_whole" [] (spD K R_is_whole) := fo_is_whole T (gf_of X N c 0 0 (dv := []) rfl rfl)
  have z_fo_is_from_to : Fo P w K mg base 2 "is_from_to" [] (spD K R_is_from_to) := fo_is_from_to z_fo_is_whole (gf_of X N c 1 1 (dv := []) rfl rfl)
  have z_fo_shared : Fo P w K mg base 1 "shared" [] (spD K R_shared) := fo_shared T (gf_of X N c 2 2 (dv := []) rfl rfl)
  have z_fo_lowest : Fo P w K mg base 2 "lowest" [] (spD K R_lowest) := fo_lowest z_fo_shared (gf_of X N c 3 3 (dv := []) rfl rfl)
  have z_fo_is_part : Fo P w K mg base 2 "is_part" [] (spD K R_is_part) := fo_is_part T z_fo_shared z_fo_is_whole (gf_of X N c 4 4 (dv := []) rfl rfl)
  have z_fo_need_part : Fo P w K mg base 3 "need_part" [] (spD K R_need_part) := fo_need_part z_fo_is_part (gf_of X N c 5 5 (dv := []) rfl rfl)
  have z_fo_plus : Fo P w K mg base 3 "plus" [] (spD K R_plus) := fo_plus z_fo_lowest (gf_of X N c 6 6 (dv := []) rfl rfl)
  have z_fo_minus : Fo P w K mg base 3 "minus" [] (spD K R_minus) := fo_minus z_fo_lowest (gf_of X N c 7 7 (dv := []) rfl rfl)
  have z_fo_product : Fo P w K mg base 3 "product" [] (spD K R_product) := fo_product z_fo_lowest (gf_of X N c 8 8 (dv := []) rfl rfl)
  have z_fo_below : Fo P w K mg base 1 "below" [] (spD K R_below) := fo_below (gf_of X N c 9 9 (dv := []) rfl rfl)
  have z_fo_turned : Fo P w K mg base 1 "turned" [] (spD K R_turned) := fo_turned (gf_of X N c 10 10 (dv := []) rfl rfl)
  have z_fo_added : Fo P w K mg base 4 "added" [] (spD K R_plus) := fo_added z_fo_need_part z_fo_plus (gf_of X N c 11 11 (dv := []) rfl rfl)
  have z_fo_is_less : Fo P w K mg base 4 "is_less" [] (spD K R_below) := fo_is_less z_fo_need_part z_fo_below (gf_of X N c 12 12 (dv := []) rfl rfl)
  have z_fo_is_gain : Fo P w K mg base 3 "is_gain" [] (spD K R_is_gain) := fo_is_gain T z_fo_is_part z_fo_below (gf_of X N c 13 13 (dv := []) rfl rfl)
  have z_fo_is_moment : Fo P w K mg base 3 "is_moment" [] (spD K R_is_moment) := fo_is_moment z_fo_is_part (gf_of X N c 14 14 (dv := []) rfl rfl)
  have z_fo_is_set : Fo P w K mg base 4 "is_set" [] (spD K R_is_set) := fo_is_set T z_fo_is_part z_fo_is_moment (gf_of X N c 15 15 (dv := []) rfl rfl)
  have z_fo_is_clock : Fo P w K mg base 5 "is_clock" [] (spD K R_is_clock) := fo_is_clock T z_fo_is_gain z_fo_is_set z_fo_below (gf_of X N c 16 16 (dv := []) rfl rfl)
  have z_fo_need_clock : Fo P w K mg base 6 "need_clock" [] (spD K R_need_clock) := fo_need_clock z_fo_is_clock (gf_of X N c 17 17 (dv := []) rfl rfl)
  have z_fo_need_moment : Fo P w K mg base 4 "need_moment" [] (spD K R_need_moment) := fo_need_moment z_fo_is_moment (gf_of X N c 18 18 (dv := []) rfl rfl)
  have z_fo_jumps_till : Fo P w K mg base 4 "jumps_till" [] (spD K R_jumps) := fo_jumps_till T z_fo_below z_fo_plus (gf_of X N c 19 19 (dv := []) rfl rfl)
  have z_fo_drift_by : Fo P w K mg base 5 "drift_by" [] (spD K R_drift_by) := fo_drift_by z_fo_product z_fo_plus z_fo_jumps_till (gf_of X N c 20 20 (dv := []) rfl rfl)
  have z_fo_drift : Fo P w K mg base 7 "drift" [] (spD K R_drift) := fo_drift z_fo_need_clock z_fo_need_moment z_fo_drift_by (gf_of X N c 21 21 (dv := []) rfl rfl)
  have z_fo_is_cn : Fo P w K mg base 3 "is_clock_number" [] (spD K R_is_cn) := fo_is_cn T z_fo_is_from_to (gf_of X N c 22 22 (dv := []) rfl rfl)
  have z_fo_need_cn : Fo P w K mg base 4 "need_clock_number" [] (spD K R_need_cn) := fo_need_cn z_fo_is_cn (gf_of X N c 23 23 (dv := []) rfl rfl)
  have z_fo_need_oc : Fo P w K mg base 3 "need_other_clock" [] (spD K R_need_oc) := fo_need_oc T z_fo_is_from_to (gf_of X N c 37 37 (dv := []) rfl rfl)
  have z_fo_are_bounds : Fo P w K mg base 3 "are_bounds" [] (spD K R_are_bounds) := fo_are_bounds z_fo_is_part z_fo_below (gf_of X N c 24 24 (dv := []) rfl rfl)
  have z_fo_is_telling : Fo P w K mg base 4 "is_telling" [] (spD K R_is_telling) := fo_is_telling T z_fo_is_cn z_fo_are_bounds (gf_of X N c 25 25 (dv := []) rfl rfl)
  have z_fo_are_tellings : Fo P w K mg base 5 "are_tellings" [] (spD K R_are_tellings) := fo_are_tellings T z_fo_is_telling (gf_of X N c 26 26 (dv := []) rfl rfl)
  have z_fo_need_tellings : Fo P w K mg base 6 "need_tellings" [] (spD K R_need_tellings) := fo_need_tellings z_fo_are_tellings (gf_of X N c 27 27 (dv := []) rfl rfl)
  have z_fo_steps_of : Fo P w K mg base 2 "steps_of" [] (spD K R_steps_of) := fo_steps_of T z_fo_turned (gf_of X N c 28 28 (dv := []) rfl rfl)
  have z_fo_shortest : Fo P w K mg base 4 "shortest" [] (spD K R_shortest) := fo_shortest T z_fo_plus z_fo_below (gf_of X N c 29 29 (dv := []) rfl rfl)
  have z_fo_ring_in : Fo P w K mg base 5 "ring_in" [] (spD K R_ring_in) := fo_ring_in T z_fo_steps_of z_fo_shortest (gf_of X N c 30 30 (dv := []) rfl rfl)
  have z_fo_together : Fo P w K mg base 6 "together" [] (spD K R_together) := fo_together z_fo_ring_in (gf_of X N c 31 31 (dv := []) rfl rfl)
  have z_fo_agree : Fo P w K mg base 7 "agree" [] (spD K R_together) := fo_agree z_fo_need_tellings z_fo_together (gf_of X N c 32 32 (dv := []) rfl rfl)
  have z_fo_need_together : Fo P w K mg base 7 "need_together" [] (spD K R_need_together) := fo_need_together z_fo_together (gf_of X N c 33 33 (dv := []) rfl rfl)
  have z_fo_far_from : Fo P w K mg base 5 "far_from" [] (spD K R_far) := fo_far_from z_fo_steps_of z_fo_shortest (gf_of X N c 34 34 (dv := []) rfl rfl)
  have z_fo_stretch_by : Fo P w K mg base 6 "stretch_by" [] (spD K R_stretch_by) := fo_stretch_by z_fo_far_from z_fo_turned (gf_of X N c 35 35 (dv := []) rfl rfl)
  have z_fo_stretch_of : Fo P w K mg base 8 "stretch_of" [.int 0] (spD K R_stretch_of) := fo_stretch_of z_fo_need_tellings z_fo_need_cn z_fo_need_together z_fo_stretch_by (gf_of X N c 36 36 (dv := [.int 0]) rfl rfl)
  have z_fo_are_gains : Fo P w K mg base 4 "are_gains" [] (spD K R_are_gains) := fo_are_gains T z_fo_is_gain (gf_of X N c 38 38 (dv := []) rfl rfl)
  have z_fo_moved : Fo P w K mg base 4 "moved" [] (spD K R_moved) := fo_moved z_fo_minus (gf_of X N c 39 39 (dv := []) rfl rfl)
  have z_me_taken : Me P w K mg base (He.ga K "Post") 6 "taken_back" [] (spG K (He.ga K "Post") R_taken) := me_taken T z_fo_drift_by z_fo_minus z_fo_moved (gq_of c 65 92 (dv := []) rfl rfl)
  have z_me_str_then : Me P w K mg base (He.ga K "Post") 7 "stretch_then" [] (spG K (He.ga K "Post") R_str_then) := me_str_then X4 z_me_taken z_fo_stretch_by z_fo_drift_by z_fo_plus (gq_of c 72 99 (dv := []) rfl rfl)
  have z_me_str_at2 : Me P w K mg base (He.ga K "Post") 8 "stretch_at" [] (spG K (He.ga K "Post") R_str_at) := me_str_at2 T X4 z_fo_need_cn z_fo_need_moment z_me_str_then (gq_of c 71 98 (dv := [.non]) rfl rfl)
  have z_me_str_at1 : Me P w K mg base (He.ga K "Post") 8 "stretch_at" [.non] (spG K (He.ga K "Post") R_str_at) := me_str_at1 T X4 z_fo_need_cn z_fo_need_moment z_me_str_then (gq_of c 71 98 (dv := [.non]) rfl rfl)
  have z_me_standing : Me P w K mg base (He.ga K "Post") 7 "standing" [] (spG K (He.ga K "Post") R_standing) := me_standing T X4 z_me_taken (gq_of c 73 100 (dv := []) rfl rfl)
  have z_me_clock_now : Me P w K mg base (He.ga K "Post") 5 "clock_now" [] (spG K (He.ga K "Post") R_clock_now) := me_clock_now X4 z_fo_need_cn (gq_of c 74 101 (dv := []) rfl rfl)
  have z_me_len : Me P w K mg base (He.ga K "Post") 1 "__len__" [] (spG K (He.ga K "Post") R_len) := me_len T X4 (gq_of c 75 102 (dv := []) rfl rfl)
  have z_me_become : Me P w K mg base (He.ga K "Post") 1 "become" [] (spW K (He.ga K "Post") R_become) := me_become X4 (gq_of c 66 93 (dv := []) rfl rfl)
  have z_me_tells : Me P w K mg base (He.ga K "Post") 7 "tells" [] (spW K (He.ga K "Post") R_tells) := me_tells T X4 z_fo_need_moment z_fo_need_cn z_fo_are_bounds z_me_taken z_fo_together z_me_become (gq_of c 67 94 (dv := [.non, .non]) rfl rfl)
  have z_me_back : Me P w K mg base (He.ga K "Post") 1 "back" [] (spW K (He.ga K "Post") R_back) := me_back X4 (gq_of c 70 97 (dv := []) rfl rfl)
  have z_me_calls_false : Me P w K mg base (He.ga K "Post") 3 "calls_false" [] (spW K (He.ga K "Post") R_calls_false) := me_calls_false T X4 z_fo_is_whole z_me_become (gq_of c 69 96 (dv := []) rfl rfl)
  have z_me_sets : Me P w K mg base (He.ga K "Post") 7 "sets" [] (spW K (He.ga K "Post") R_sets) := me_sets T X4 z_fo_need_oc z_fo_need_moment z_fo_is_part z_fo_below z_me_taken z_fo_together z_me_become (gq_of c 68 95 (dv := []) rfl rfl)
  have z_mk_post : C8.Mak P w K mg base 5 "Post" (He.ga K "Post") (spI K (He.ga K "Post")) [] := mk_post T X4 z_fo_are_gains (gi_of X N c)
  have z_fo_next : Fo P w K mg base 1 "_law_next" [] (spD K R_next) := fo_next (gf_of X N c 41 41 (dv := []) rfl rfl)
  have z_fo_draw : Fo P w K mg base 2 "_law_draw" [] (spP K PreN R_draw) := fo_draw z_fo_next (gf_of X N c 43 43 (dv := []) rfl rfl)
  have z_fo_made : Fo P w K mg base 1 "_law_made" [] (spD K R_lowest) := fo_made T (gf_of X N c 44 44 (dv := []) rfl rfl)
  have z_fo_lsum : Fo P w K mg base 2 "_law_sum" [] (spD K R_plus) := fo_lsum z_fo_made (gf_of X N c 45 45 (dv := []) rfl rfl)
  have z_fo_lrest : Fo P w K mg base 2 "_law_rest" [] (spD K R_minus) := fo_lrest z_fo_made (gf_of X N c 46 46 (dv := []) rfl rfl)
  have z_fo_lprod : Fo P w K mg base 2 "_law_prod" [] (spD K R_product) := fo_lprod z_fo_made (gf_of X N c 47 47 (dv := []) rfl rfl)
  have z_fo_lunder : Fo P w K mg base 1 "_law_under" [] (spD K R_below) := fo_lunder (gf_of X N c 48 48 (dv := []) rfl rfl)
  have z_fo_some : Fo P w K mg base 3 "_law_some" [] (spP K PreE R_some) := fo_some z_fo_draw z_fo_made (gf_of X N c 49 49 (dv := []) rfl rfl)
  have z_fo_up : Fo P w K mg base 3 "_law_up" [] (spP K PreE R_up) := fo_up z_fo_draw z_fo_made (gf_of X N c 50 50 (dv := []) rfl rfl)
  have z_fo_row : Fo P w K mg base 4 "_law_row" [] (spP K PreE R_row) := fo_row T z_fo_some (gf_of X N c 51 51 (dv := []) rfl rfl)
  have z_fo_true : Fo P w K mg base 4 "_law_true" [] (spP K PreT R_true) := fo_true z_fo_draw z_fo_lrest z_fo_lsum z_fo_up (gf_of X N c 52 52 (dv := []) rfl rfl)
  have z_fo_gains : Fo P w K mg base 3 "_law_gains" [] (spP K PreE R_gains) := fo_gains T z_fo_draw z_fo_made (gf_of X N c 53 53 (dv := []) rfl rfl)
  have z_fo_ldrift : Fo P w K mg base 3 "_law_drift" [] (spD K R_ldrift) := fo_ldrift z_fo_lprod z_fo_lunder z_fo_lsum (gf_of X N c 54 54 (dv := []) rfl rfl)
  have z_fo_sets_of : Fo P w K mg base 3 "_law_sets_of" [] (spPL K PreE R_sets_of) := fo_sets_of T z_fo_draw z_fo_made (gf_of X N c 55 55 (dv := []) rfl rfl)
  have z_fo_told_of : Fo P w K mg base 5 "_law_told_of" [] (spPL K PreTo R_told_of) := fo_told_of T z_fo_draw z_fo_made z_fo_true z_fo_ldrift z_fo_lrest z_fo_lsum (gf_of X N c 56 56 (dv := []) rfl rfl)
  have z_fo_clocks : Fo P w K mg base 1 "_law_clocks" [] (spD K R_clocks) := fo_clocks T (gf_of X N c 57 57 (dv := []) rfl rfl)
  have z_fo_mixed : Fo P w K mg base 3 "_law_mixed" [] (spPL K PreM R_mixed) := fo_mixed T z_fo_draw (gf_of X N c 58 58 (dv := []) rfl rfl)
  have z_fo_in : Fo P w K mg base 5 "_law_in" [] (spD K R_in) := fo_in z_fo_is_less (gf_of X N c 61 61 (dv := []) rfl rfl)
  have z_fo_cell_at : Fo P w K mg base 1 "_law_cell_at" [] (spC K) := fo_cell_at T (gf_of X N c 40 40 (dv := []) rfl rfl)
  have z_fo_pen_of : Fo P w K mg base 1 "_law_pen_of" [] spN := fo_pen_of T (gf_of X N c 42 42 (dv := []) rfl rfl)
  have z_fo_tell : Fo P w K mg base 8 "_law_tell" [] (spWF K (He.ga K "Post")) := fo_tell T X4 z_me_sets z_me_tells (gf_of X N c 59 59 (dv := []) rfl rfl)
  have z_fo_row_right : Fo P w K mg base 9 "_law_row_right" [] (spG K (He.ga K "Post") R_rr) := fo_row_right T X4 z_me_standing z_fo_agree z_fo_drift z_me_clock_now z_fo_in z_fo_added z_me_str_at2 z_me_str_at1 z_fo_stretch_of (gf_of X N c 62 62 (dv := []) rfl rfl)
  have z_fo_same : FoG P w K mg base 9 "_law_same" (spSame K (He.ga K "Post")) := fo_same T X4 z_me_standing z_me_len z_me_clock_now z_me_str_at2 (gf_of X N c 60 60 (dv := []) rfl rfl)
  exact ⟨T, X4, z_fo_cell_at, z_fo_pen_of, z_fo_gains, z_fo_row, z_fo_sets_of, z_fo_told_of, z_fo_clocks, z_fo_mixed, z_fo_tell, z_fo_same, z_fo_row_right, z_mk_post, z_fo_added, z_me_tells, z_me_calls_false, z_me_back, z_me_sets, z_me_str_at2, z_me_clock_now⟩
end
section
variable {P : Program} {w : World} {K : PySem.W.Frag} {mg mb : Str → Option Value} {k : Nat} {fa a : Addr} {fd : FuncData} {x : Str} {sp : Sp} {st : Shared} {vs : List Value} {ns : List Int}
abbrev OutQ (st : Shared) : Result → Shared → Prop := fun r t => r = .ok (.ret (.bool true)) ∧ OldK st.heap t.heap ∧ t.os = st.os ∧ AllBare t.gens
/-- the law called by the outside -/
theorem call_outer (KX : K.In st.heap) (hns : st.heap.Ns mainGlobals mg) (hb : st.heap.Ns builtinsNs mb) (hbb : ∀ y : Str, y ≠ "__name__" → mb y = bootBuiltins y) (hlim : st.heap.NoLimit) (hg : st.gens = #[])
    (ha : st.heap.get? a = some { cls := .type "list", data := .seq vs.toArray }) (hi : IntsAre vs ns) (hl : ns.length ≤ sizeLine) (hr : Room k callerA)
    (F : ∀ bh : Heap, K.In bh → bh.Ns mainGlobals mg → FnG P w K mg bh k fa fd [x] sp) (hbind : ∀ (z : Shared) (u : Value), BindsTo z fd ⟨[u], []⟩ [(x, u)])
    (hsp : ∀ G : Hp, SqL K G a (ns.map V.int) → sp [.ref a] G (fun v _ => v = .bl true) fun _ _ _ => False) : codeAny (model P w) callerA (.call (.ref fa) ⟨[.ref a], []⟩) (OutQ st) st := by
  have rv := vals_ints hi
  have hlv : vs.length = ns.length := hi.length
  have go : ∀ G : Hp, (∀ c, G c = none ∨ ∃ o xs, G c = some (.frz o (.lst xs))) → SqL K G a (ns.map V.int) → HOk P w G st.heap → (∀ c, G c ≠ none → c = a) → (G a ≠ none → K.lookup a = none) → codeAny (model P w) callerA (.call (.ref fa) ⟨[.ref a], []⟩) (OutQ st) st := by
    intro G only sq ok onlyA notK
    have kept : ∀ {c : Addr} {o : Obj}, st.heap.get? c = some o → G c = none → (hidT st.heap G).get? c = some o := fun u v => hidT_get u v
    have dfree : ∀ {c : Addr} {o : Obj} {es : Array DictEntry} {n : Nat}, st.heap.get? c = some o → o.data = .dict es n → G c = none := by
      intro c o es n u v
      cases q : G c with
      | none => rfl
      | some z =>
        have hc : c = a := onlyA c (by rw [q]; simp)
        subst hc
        rw [ha] at u
        cases u
        exact nomatch (show Data.seq vs.toArray _ = Data.dict es n from v)
    have nsk : ∀ {c : Addr} {m : Str → Option Value}, st.heap.Ns c m → (hidT st.heap G).Ns c m := fun ⟨o, es, n, u, v, z⟩ => ⟨o, es, n, kept u (dfree u v), v, z⟩
    have kin : K.In (hidT st.heap G) := by
      intro c o u
      refine kept (KX c o u) ?_
      cases q : G c with
      | none => rfl
      | some z =>
        have hc : c = a := onlyA c (by rw [q]; simp)
        subst hc
        rw [notK (by rw [q]; simp)] at u
        cases u
    have md : Mod K mg (hidT st.heap G) := ⟨kin, nsk hns, ⟨mb, nsk hb, hbb⟩, by
      obtain ⟨mc, u, v⟩ := hlim
      exact ⟨mc, nsk u, v⟩⟩
    have ev : Env0 P w K mg (hidT st.heap G) callerA [] st G := ⟨rfl, md, fun c o u => of_hidT u, Nat.le_of_eq (hidT_size _ _), trivial, fun c hc => (List.not_mem_nil hc).elim, ok, .of_eq hg⟩
    have run := (F _ kin (nsk hns)).run callerA [] st G ⟨[.ref a], []⟩ [.ref a] [.ref a] _ _ hr rfl ev (hbind st (.ref a)) (.cons rfl .nil) (hsp G sq)
    refine codeAny_mono run fun r t h => ?_
    match r, h with
    | .error e, h => exact (show False from h).elim
    | .ok .next, h => exact False.elim h
    | .ok .brk, h => exact False.elim h
    | .ok .cont, h => exact False.elim h
    | .ok (.ret u), h =>
      obtain ⟨v, G', os, bare, un, ok', rr, q⟩ := h
      have ev2 : v = .bl true := q
      subst ev2
      have eu : u = Value.bool true := rr
      subst eu
      refine ⟨rfl, OldK.of_keep fun c o e => ?_, os, bare⟩
      rcases only c with z | ⟨ob, xs, z⟩
      · exact un.keep c o e z (fun y => (List.not_mem_nil y).elim) (by simp)
      · obtain ⟨e1, _⟩ := ok c _ z
        obtain ⟨e2, _⟩ := ok' c _ (un.frzs c ob _ z)
        rw [e] at e1
        cases e1
        exact e2
  cases hk : K.lookup a with
  | some o =>
    have u := KX a o hk
    rw [ha] at u
    cases u
    exact go (fun _ => none) (fun _ => .inl rfl) (.inr ⟨_, vs.toArray, _, hk, rfl, rfl, rfl, by rw [List.size_toArray, hlv]; exact hl, by simpa using rv⟩) (fun c u z => by cases (show (none : Option HO) = some u from z)) (fun c z => absurd rfl z) (fun z => absurd rfl z)
  | none =>
    refine go (fun c => if c = a then some (.frz { cls := .type "list", data := .seq vs.toArray } (.lst (ns.map V.int))) else none) ?_ (.inl (.inr ⟨{ cls := .type "list", data := .seq vs.toArray }, if_pos rfl⟩)) ?_ ?_ fun _ => hk
    · intro c
      by_cases h : c = a
      · exact .inr ⟨_, _, if_pos h⟩
      · exact .inl (if_neg h)
    · intro c u z
      by_cases h : c = a
      · have z' := (if_pos h).symm.trans z
        cases z'
        subst h
        exact ⟨ha, by rw [List.length_map]; exact hl, vs, _, rv, ha⟩
      · cases (if_neg h).symm.trans z
    · intro c z
      by_cases h : c = a
      · exact h
      · exact (z (if_neg h)).elim
/-- a law's end, from the family of promises -/
theorem walk_outer {l : PySem.W.OpenLaw} {n k : Nat} {q : Program} {loose : List Str} {XP : (Str → Option Value) → Heap → Prop} {YP : World → Heap → Prop} {d : DefRec} {x : Str} (hn : l.most = some n) (hn2 : n ≤ sizeLine) (hdf : d.params.defaults = []) (hr : Room k callerA)
    (F : ∀ (w : World) (mg : Str → Option Value) (fa : Addr) (h : Heap), YP w h → h.Ns mainGlobals mg → mg d.name = some (.ref fa) → ∃ (K : PySem.W.Frag) (fd : FuncData) (sp : Sp), K.In h ∧ (∀ (z : Shared) (u : Value), BindsTo z fd ⟨[u], []⟩ [(x, u)]) ∧
        (∀ (G : Hp) (a : Addr) (ns : List Int), ns.length ≤ n → SqL K G a (ns.map V.int) → sp [.ref a] G (fun v _ => v = .bl true) fun _ _ _ => False) ∧ ∀ bh : Heap, K.In bh → bh.Ns mainGlobals mg → FnG l.prog w K mg bh k fa fd [x] sp) : PySem.W.WalkO q loose XP YP l.row.toRowW d [] (fun f vs => PySem.call f vs) :=
  Att.attach_call hn hdf fun w s0 s1 mg mb fa o pm cd doc a vs ns g Y ho hd hcd hmg hobj hints hlen hg => by
    obtain ⟨K, fd, sp, KX, hb, hsp, hF⟩ := F w mg fa _ Y g.T.g hmg
    exact call_outer KX g.T.g g.T.b g.T.builtins g.T.nolimit hg hobj hints (Nat.le_trans hlen hn2) hr hF hb fun G hS => hsp G a ns hlen hS
end
section
variable {w : World} {K : PySem.W.Frag} {hp : Heap} {mg : Str → Option Value} {f : Addr}
theorem law_facts {P : Program} (X : K.In hp) (N : hp.Ns mainGlobals mg) (hf : mg ("law" : Str) = some (.ref f)) (c : SaysG K) :
    ∃ fd : FuncData, (∀ (z : Shared) (u : Value), BindsTo z fd ⟨[u], []⟩ [("_law_script", u)]) ∧ ∀ bh : Heap, K.In bh → bh.Ns mainGlobals mg → FnG P w K mg bh 10 f fd ["_law_script"] (spL K) := by
  obtain ⟨fd, F⟩ := c.1.def_ 63 (d := ds_law) rfl
  have e := hf.symm.trans (He.glo_ok X N (c.1.fact 63 (f := .glo "law") rfl))
  cases e
  have b := FunD.bindsA (ps := ["_law_script"]) F fun _ _ _ _ _ _ us hl => match us, hl with | [_], _ => rfl
  exact ⟨fd, fun z u => b z [u] rfl, fun bh _ _ => fn_law (lf_of X N c bh) F⟩
end
end Gc
open PySem PySem.W PySem.Calls PyProof.Rows
theorem PySem.Challenge.cw_gunclocks_k63_whole_late_as_in_time_holds : PySem.Challenge.rw_gunclocks_k63_whole_late_as_in_time.Holds := by
  w_on; o_law
  refine HandSHeadRun.head_any (r := OpenLaw.row PySem.Challenge.rw_gunclocks_k63_whole_late_as_in_time) (q := Gc.qv) (H := Gc.hk 4) (ob := Gc.ob) (M := 8000) (loose := Gc.loose) (d := HandSHeadRun.topDef (OpenLaw.row PySem.Challenge.rw_gunclocks_k63_whole_late_as_in_time).prog 92) (kwd := []) Gc.ob_eq
    (by kernel_rfl) (fun s => by kernel_rfl) Gc.run (by kernel_rfl) (by kernel_rfl) (by kernel_rfl) (by rfl) (by first | assumption | decide +kernel) (by decide +kernel) ⟨rfl, rfl, rfl, rfl, rfl, by decide +kernel⟩ ?hw ?hc
  case hw => w_witness2
  case hc =>
    refine Gc.walk_outer (l := PySem.Challenge.rw_gunclocks_k63_whole_late_as_in_time) (n := 63) (k := 10) (x := "_law_script") rfl (by decide) (by kernel_rfl) ⟨rfl, by decide, by decide⟩ ?F
    intro w mg fa h Y N hm0
    obtain ⟨K, KX, c⟩ := Y
    have hm : mg ("law" : PySem.Str) = some (.ref fa) := by
      have e : (HandSHeadRun.topDef (OpenLaw.row PySem.Challenge.rw_gunclocks_k63_whole_late_as_in_time).prog 92).name = ("law" : PySem.Str) := by kernel_rfl
      rw [← e]
      exact hm0
    obtain ⟨fd, hb, hF⟩ := Gc.law_facts (P := (PySem.Challenge.rw_gunclocks_k63_whole_late_as_in_time).prog) (w := w) KX N hm c
    exact ⟨K, fd, Gc.spL K, KX, hb, fun G a ns hl hS => ⟨a, ns, rfl, hS, Nat.le_trans hl (by decide), fun _ => rfl⟩, hF⟩
